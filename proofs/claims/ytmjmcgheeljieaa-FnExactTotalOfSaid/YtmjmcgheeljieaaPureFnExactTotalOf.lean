/- for every slice of int64, TotalOf answers as the reference does and leaves its argument as it was. -/
import Derived.Test.YtmjmcgheeljieaaPFnExactTotalOfx2
namespace Go.Proofs.Ytmjmcgheeljieaa.Pure
open Go.RowKit Go.Proofs.Ytmjmcgheeljieaa.PFnExactTotalOf Go.Proofs.YtmjmcgheeljieaaW.PrintWords Go.Proofs.YtmjmcgheeljieaaW.PrintLast
set_option linter.unusedVariables false
set_option linter.unusedSimpArgs false

theorem wrap_id {x : Int} (h1 : -9223372036854775808 ≤ x) (h2 : x ≤ 9223372036854775807) : wrap64 x = x := by
  unfold wrap64; omega
theorem wf64 {x : Int} (h : (Lit.int .i64 x).wf = true) : -9223372036854775808 ≤ x ∧ x ≤ 9223372036854775807 := by
  simpa [Lit.wf, IntKind.min, IntKind.max, IntKind.signed, IntKind.bits] using h
theorem wf8 {x : Int} (h : (Lit.int .u8 x).wf = true) : 0 ≤ x ∧ x ≤ 255 := by
  simpa [Lit.wf, IntKind.min, IntKind.max, IntKind.signed, IntKind.bits] using h
theorem ev_some {α : Type} {g : Nat → Option α} {r : α} (h : ∀ k, g k = some r) : Ev g r := ⟨0, fun k _ => h k⟩
theorem ev_succ {α : Type} {g : Nat → Option α} {r : α} (h : ∀ k, g (k + 1) = some r) : Ev g r := Ev.step h (Ev.now r)
/-- A call whose answer is known, and what follows. -/
theorem ev_bind {α β : Type} {g : Nat → Option α} {f : α → Nat → Option β} {a : α} {r : β} (h : Ev g a) (k : Ev (f a) r) : Ev (fun n => (g n).bind fun t => f t n) r :=
  Ev.bind (f := fun n t => f t n) h k
theorem ev_if {α : Type} {p : Prop} [Decidable p] {g f : Nat → Option α} {r : α} (hp : p) (k : Ev g r) : Ev (fun n => if p then g n else f n) r :=
  Ev.congr (fun n => if_pos hp) k
theorem ev_ifn {α : Type} {p : Prop} [Decidable p] {g f : Nat → Option α} {r : α} (hp : ¬ p) (k : Ev f r) : Ev (fun n => if p then g n else f n) r :=
  Ev.congr (fun n => if_neg hp) k
theorem ev_bind0 {α β : Type} {g : Option α} {f : α → Nat → Option β} {a : α} {r : β} (h : g = some a) (k : Ev (f a) r) : Ev (fun n => g.bind fun t => f t n) r := by
  subst h; exact k
theorem rd_mid (pre : List Int) (b : Int) (suf : List Int) : rd (pre ++ b :: suf) (pre.length : Int) = b := by
  unfold rd
  simp
theorem rd_at {l : List Int} {i : Int} (h0 : 0 ≤ i) (h1 : i < l.length) : rd l i = l[i.toNat]'(by omega) := by
  unfold rd
  rw [List.getD_eq_getElem?_getD, List.getElem?_eq_getElem (by omega)]; rfl
theorem split_at_len {α : Type} (l : List α) (n : Nat) (h : n ≤ l.length) : ∃ pre suf, l = pre ++ suf ∧ pre.length = n :=
  ⟨l.take n, l.drop n, (List.take_append_drop n l).symm, by simp; omega⟩

theorem spec_l1In_eq (a b c : Int) : spec_l1In.f a b c = some (decide (b ≤ a ∧ a ≤ c)) := by
  unfold spec_l1In.f
  by_cases h : a ≥ b
  · rw [if_pos h]; congr 1; rw [Bool.eq_iff_iff]; simp; omega
  · rw [if_neg h]; congr 1; symm; simp; omega
theorem impl_in_eq (a b c : Int) : impl_in.f a b c = some (decide (b ≤ a ∧ a ≤ c)) := by
  unfold impl_in.f
  by_cases h : a ≥ b
  · rw [if_pos h]; congr 1; rw [Bool.eq_iff_iff]; simp; omega
  · rw [if_neg h]; congr 1; symm; simp; omega

/-- All numbers of a list lie between two. -/
def AllIn (l : List Int) (lo hi : Int) : Prop := ∀ x ∈ l, lo ≤ x ∧ x ≤ hi
instance (l : List Int) (lo hi : Int) : Decidable (AllIn l lo hi) := by unfold AllIn; infer_instance
theorem AllIn_cons {b : Int} {l : List Int} {lo hi : Int} : AllIn (b :: l) lo hi ↔ (lo ≤ b ∧ b ≤ hi) ∧ AllIn l lo hi := by simp [AllIn]
theorem spec_l1All_l0 (lo hi : Int) (suf : List Int) : ∀ (pre : List Int), (pre.length : Int) + suf.length ≤ 9223372036854775806 →
    Ev (fun k => spec_l1All.l0 k (pre ++ suf) lo hi pre.length) (decide (AllIn suf lo hi)) := by
  induction suf with
  | nil => intro pre _; exact ev_succ (fun k => by rw [spec_l1All.l0, if_neg (by simp)]; simp [AllIn])
  | cons b suf ih =>
    intro pre hl
    simp only [List.length_cons, Int.natCast_add, Int.natCast_one] at hl
    have h := ih (pre ++ [b]) (by simp; omega)
    by_cases hb : lo ≤ b ∧ b ≤ hi
    · have e : decide (AllIn (b :: suf) lo hi) = decide (AllIn suf lo hi) := by simp [AllIn_cons, hb]
      rw [e]
      refine Ev.step (fun k => ?_) h
      rw [spec_l1All.l0, if_pos (by simp; omega), if_pos (by omega), rd_mid, spec_l1In_eq, wrap_id (by omega) (by omega)]
      simp [hb]
    · have e : decide (AllIn (b :: suf) lo hi) = false := by simp [AllIn_cons, hb]
      rw [e]
      refine ev_succ (fun k => ?_)
      rw [spec_l1All.l0, if_pos (by simp; omega), if_pos (by omega), rd_mid, spec_l1In_eq]
      simp [hb]
theorem spec_l1All_ev {l : List Int} (lo hi : Int) (hl : (l.length : Int) ≤ 9223372036854775806) : Ev (fun k => spec_l1All.f k l lo hi) (decide (AllIn l lo hi)) := by
  unfold spec_l1All.f
  exact spec_l1All_l0 lo hi l [] (by simpa using hl)

theorem spec_l1Amount_eq (a : Int) : spec_l1Amount.f a = some (decide (0 ≤ a ∧ a ≤ 1000000)) := by
  unfold spec_l1Amount.f; rw [spec_l1In_eq]; rfl
theorem impl_isAmount_eq (a : Int) : impl_isAmount.f a = some (decide (0 ≤ a ∧ a ≤ 1000000)) := by
  unfold impl_isAmount.f; rw [impl_in_eq]; rfl

def finT (s : Int) : Int × Int := if 0 ≤ s ∧ s ≤ 1000000 then (0, s) else (7, 0)
def totalV (l : List Int) : Int × Int := if l.length > 200 then (2, 0) else if AllIn l 0 1000000 then finT l.sum else (3, 0)
theorem spec_TotalOf_l0 (suf : List Int) : ∀ (pre : List Int) (s : Int), 0 ≤ s → s ≤ 1000000 * pre.length → pre.length + suf.length ≤ 200 → AllIn suf 0 1000000 →
    Ev (fun k => spec_TotalOf.l0 k (pre ++ suf) s pre.length) (finT (s + suf.sum)) := by
  induction suf with
  | nil =>
    intro pre s h0 h1 hl _
    refine ev_succ (fun k => ?_)
    rw [spec_TotalOf.l0, if_neg (by simp), spec_l1Amount_eq]
    simp only [Option.bind_some, decide_eq_true_eq, List.sum_nil, Int.add_zero]
    unfold finT; split <;> rfl
  | cons b suf ih =>
    intro pre s h0 h1 hl ha
    rw [AllIn_cons] at ha
    simp only [List.length_cons] at hl
    have h := ih (pre ++ [b]) (s + b) (by omega) (by simp; omega) (by simp; omega) ha.2
    refine Ev.step (f := fun k => spec_TotalOf.l0 k (pre ++ [b] ++ suf) (s + b) ((pre ++ [b]).length : Int)) (fun k => ?_) ?_
    · rw [spec_TotalOf.l0, if_pos (by simp; omega), if_pos (by omega), rd_mid, wrap_id (x := s + b) (by omega) (by omega), wrap_id (by omega) (by omega)]
      simp
    · rw [List.sum_cons, ← Int.add_assoc]; exact h
theorem impl_TotalOf_l0 (suf : List Int) : ∀ (pre : List Int) (s : Int), 0 ≤ s → s ≤ 1000000 * pre.length → pre.length + suf.length ≤ 200 →
    Ev (fun k => impl_TotalOf.l0 k s (pre ++ suf) ((pre ++ suf).length : Int) pre.length) (if AllIn suf 0 1000000 then finT (s + suf.sum) else (3, 0)) := by
  induction suf with
  | nil =>
    intro pre s h0 h1 hl
    refine ev_succ (fun k => ?_)
    rw [impl_TotalOf.l0, if_neg (by simp), impl_isAmount_eq, if_pos (by simp [AllIn])]
    simp only [Option.bind_some, decide_eq_true_eq, List.sum_nil, Int.add_zero]
    unfold finT; split <;> rfl
  | cons b suf ih =>
    intro pre s h0 h1 hl
    simp only [List.length_cons] at hl
    by_cases hb : 0 ≤ b ∧ b ≤ 1000000
    · have h := ih (pre ++ [b]) (s + b) (by omega) (by simp; omega) (by simp; omega)
      have e : (if AllIn (b :: suf) 0 1000000 then finT (s + (b :: suf).sum) else (3, 0)) = (if AllIn suf 0 1000000 then finT (s + b + suf.sum) else (3, 0)) := by
        rw [List.sum_cons, ← Int.add_assoc]; by_cases hs : AllIn suf 0 1000000 <;> simp [AllIn_cons, hb, hs]
      rw [e]
      refine Ev.step (fun k => ?_) h
      rw [impl_TotalOf.l0, if_pos (by simp; omega), if_pos (by omega), if_pos (by simp; omega), rd_mid, impl_isAmount_eq, wrap_id (x := s + b) (by omega) (by omega), wrap_id (by omega) (by omega)]
      simp [hb]
    · rw [if_neg (by rw [AllIn_cons]; exact fun h => hb h.1)]
      refine ev_succ (fun k => ?_)
      rw [impl_TotalOf.l0, if_pos (by simp; omega), if_pos (by omega), if_pos (by simp; omega), rd_mid, impl_isAmount_eq]
      simp [hb]
theorem spec_TotalOf_ev {l : List Int} (hl : l.length ≤ 140737488351232) : Ev (fun k => spec_TotalOf.f k l) (totalV l) := by
  unfold spec_TotalOf.f totalV
  by_cases h : l.length > 200
  · rw [if_pos h]; exact ev_if (by omega) (Ev.now _)
  · rw [if_neg h]
    refine ev_ifn (by omega) (ev_bind (spec_l1All_ev 0 1000000 (by omega)) ?_)
    by_cases ha : AllIn l 0 1000000
    · rw [if_pos ha]
      have := spec_TotalOf_l0 l [] 0 (by omega) (by simp) (by simp; omega) ha
      exact ev_if (by simpa using ha) (by simpa using this)
    · rw [if_neg ha]
      exact ev_ifn (by simpa using ha) (Ev.now _)
theorem impl_TotalOf_ev {l : List Int} (hl : l.length ≤ 140737488351232) : Ev (fun k => impl_TotalOf.f k l) (totalV l) := by
  unfold impl_TotalOf.f totalV
  by_cases h : l.length > 200
  · rw [if_pos h]; exact ev_if (by omega) (Ev.now _)
  · rw [if_neg h]
    have := impl_TotalOf_l0 l [] 0 (by omega) (by simp) (by simp; omega)
    exact ev_ifn (by omega) (by simpa using this)

theorem laws_toInt64S_l0 (suf : List Int) : ∀ (pre : List Int) (z : List Int), z.length = suf.length → (pre.length : Int) + suf.length ≤ 9223372036854775806 →
    Ev (fun k => laws_toInt64S.l0 k (pre ++ suf) (pre ++ z) pre.length) (pre ++ suf) := by
  induction suf with
  | nil => intro pre z hz _; obtain rfl : z = [] := List.eq_nil_of_length_eq_zero (by simpa using hz); exact ev_succ (fun k => by simp [laws_toInt64S.l0])
  | cons b suf ih =>
    intro pre z hz hl
    obtain ⟨c, z, rfl⟩ : ∃ c z', z = c :: z' := by cases z with | nil => simp at hz | cons c z => exact ⟨c, z, rfl⟩
    simp only [List.length_cons, Int.natCast_add, Int.natCast_one] at hl hz
    have h := ih (pre ++ [b]) z (by omega) (by simp; omega)
    refine Ev.step (fun k => ?_) (by simpa using h)
    rw [laws_toInt64S.l0]
    rw [if_pos (by simp; omega), if_pos (by omega), if_pos (by simp; omega), rd_mid, wrap_id (by omega) (by omega)]
    simp
theorem laws_toInt64S_ev {l : List Int} (hl : l.length ≤ 17592186043904) : Ev (fun k => laws_toInt64S.f k l) l := by
  have h := laws_toInt64S_l0 l [] (List.replicate l.length 0) (by simp) (by simp; omega)
  unfold laws_toInt64S.f
  refine ev_if (by omega) (ev_if (by simp; omega) ?_)
  simpa using h

theorem laws_eqInt64S_l0 (suf : List Int) : ∀ (pre : List Int), (pre.length : Int) + suf.length ≤ 9223372036854775806 →
    Ev (fun k => laws_eqInt64S.l0 k (pre ++ suf) (pre ++ suf) pre.length) true := by
  induction suf with
  | nil => intro pre _; exact ev_succ (fun k => by simp [laws_eqInt64S.l0])
  | cons b suf ih =>
    intro pre hl
    simp only [List.length_cons, Int.natCast_add, Int.natCast_one] at hl
    have h := ih (pre ++ [b]) (by simp; omega)
    refine Ev.step (fun k => ?_) (by simpa using h)
    rw [laws_eqInt64S.l0]
    rw [if_pos (by simp; omega), if_pos (by omega), if_pos (by simp; omega), if_pos rfl, wrap_id (by omega) (by omega)]
theorem laws_eqInt64S_refl {l : List Int} (hl : l.length ≤ 140737488351232) : Ev (fun k => laws_eqInt64S.f k l l) true := by
  unfold laws_eqInt64S.f
  exact ev_if rfl (laws_eqInt64S_l0 l [] (by simp; omega))

theorem laws_eqIntResult_eq (a b c d : Int) : laws_eqIntResult.f a b c d = some (decide (a = c ∧ b = d)) := by
  unfold laws_eqIntResult.f
  by_cases h : a = c <;> by_cases h2 : b = d <;> simp [h, h2]
theorem laws_eqIntResult_refl (a b : Int) : laws_eqIntResult.f a b a b = some true := by
  rw [laws_eqIntResult_eq]; simp

theorem FnExactTotalOf : laws_FnExactTotalOf.Pure := by
  intro l hm hl hw
  have hl' : l.length ≤ 140737488351232 := by omega
  have hl8 : l.length ≤ 17592186043904 := by omega
  refine Ev.rounds (g := fun k => laws_FnExactTotalOf.f k l) ?_
  unfold laws_FnExactTotalOf.f
  by_cases hc : (l.length : Int) > 1048576
  · exact ev_if hc (Ev.now _)
  refine ev_ifn hc ?_
  refine ev_bind (laws_toInt64S_ev hl8) ?_
  refine ev_bind (spec_TotalOf_ev hl') ?_
  refine ev_bind (laws_toInt64S_ev hl8) ?_
  refine ev_bind (impl_TotalOf_ev hl') ?_
  refine ev_bind0 (laws_eqIntResult_refl _ _) ?_
  refine ev_if rfl ?_
  refine ev_bind (laws_toInt64S_ev hl8) ?_
  refine ev_bind (laws_eqInt64S_refl hl') ?_
  exact ev_if rfl (Ev.now _)

end Go.Proofs.Ytmjmcgheeljieaa.Pure
