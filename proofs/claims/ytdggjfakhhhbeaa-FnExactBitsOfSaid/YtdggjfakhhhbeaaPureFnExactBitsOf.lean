/- for every int64 target, BitsOf answers as the reference does. -/
import Derived.Test.YtdggjfakhhhbeaaQFnExactBitsOfx1
namespace Go.Proofs.Ytdggjfakhhhbeaa.Pure
open Go.RowKit Go.Proofs.Ytdggjfakhhhbeaa.QFnExactBitsOf Go.Proofs.YtdggjfakhhhbeaaW.PrintWords Go.Proofs.YtdggjfakhhhbeaaW.PrintLast
set_option linter.unusedVariables false
set_option linter.unusedSimpArgs false

theorem wrap_id {x : Int} (h1 : -9223372036854775808 ≤ x) (h2 : x ≤ 9223372036854775807) : wrap64 x = x := by
  unfold wrap64; omega
theorem wf64 {x : Int} (h : (Lit.int .i64 x).wf = true) : -9223372036854775808 ≤ x ∧ x ≤ 9223372036854775807 := by
  simpa [Lit.wf, IntKind.min, IntKind.max, IntKind.signed, IntKind.bits] using h
theorem wf8 {x : Int} (h : (Lit.int .u8 x).wf = true) : 0 ≤ x ∧ x ≤ 255 := by
  simpa [Lit.wf, IntKind.min, IntKind.max, IntKind.signed, IntKind.bits] using h
theorem ev_some {α : Type} {g : Nat → Option α} {r : α} (h : ∀ k, g k = some r) : Ev g r := ⟨0, fun k _ => h k⟩
theorem ev_succ {α : Type} {g : Nat → Option α} {r : α} (h : ∀ k, g (k + 1) = some r) : Ev g r := Ev.step h (Ev.now r)
/-- A call whose answer is known, and what follows. -/
theorem ev_bind {α β : Type} {g : Nat → Option α} {f : α → Nat → Option β} {a : α} {r : β} (h : Ev g a) (k : Ev (f a) r) : Ev (fun n => (g n).bind fun t => f t n) r :=
  Ev.bind (f := fun n t => f t n) h k
theorem ev_if {α : Type} {p : Prop} [Decidable p] {g f : Nat → Option α} {r : α} (hp : p) (k : Ev g r) : Ev (fun n => if p then g n else f n) r :=
  Ev.congr (fun n => if_pos hp) k
theorem ev_ifn {α : Type} {p : Prop} [Decidable p] {g f : Nat → Option α} {r : α} (hp : ¬ p) (k : Ev f r) : Ev (fun n => if p then g n else f n) r :=
  Ev.congr (fun n => if_neg hp) k
theorem ev_bind0 {α β : Type} {g : Option α} {f : α → Nat → Option β} {a : α} {r : β} (h : g = some a) (k : Ev (f a) r) : Ev (fun n => g.bind fun t => f t n) r := by
  subst h; exact k
theorem rd_mid (pre : List Int) (b : Int) (suf : List Int) : rd (pre ++ b :: suf) (pre.length : Int) = b := by
  unfold rd
  simp
theorem rd_at {l : List Int} {i : Int} (h0 : 0 ≤ i) (h1 : i < l.length) : rd l i = l[i.toNat]'(by omega) := by
  unfold rd
  rw [List.getD_eq_getElem?_getD, List.getElem?_eq_getElem (by omega)]; rfl
theorem split_at_len {α : Type} (l : List α) (n : Nat) (h : n ≤ l.length) : ∃ pre suf, l = pre ++ suf ∧ pre.length = n :=
  ⟨l.take n, l.drop n, (List.take_append_drop n l).symm, by simp; omega⟩

theorem spec_l1In_eq (a b c : Int) : spec_l1In.f a b c = some (decide (b ≤ a ∧ a ≤ c)) := by
  unfold spec_l1In.f
  by_cases h : a ≥ b
  · rw [if_pos h]; congr 1; rw [Bool.eq_iff_iff]; simp; omega
  · rw [if_neg h]; congr 1; symm; simp; omega
theorem impl_in_eq (a b c : Int) : impl_in.f a b c = some (decide (b ≤ a ∧ a ≤ c)) := by
  unfold impl_in.f
  by_cases h : a ≥ b
  · rw [if_pos h]; congr 1; rw [Bool.eq_iff_iff]; simp; omega
  · rw [if_neg h]; congr 1; symm; simp; omega

theorem spec_l1Bits_eq (a : Int) : spec_l1Bits.f a = some (decide (1 ≤ a ∧ a ≤ 1023 ∧ Int.tmod a 256 > 0)) := by
  unfold spec_l1Bits.f; rw [spec_l1In_eq]
  by_cases h : 1 ≤ a ∧ a ≤ 1023
  · simp [h]
  · simp only [Option.bind_some, h, decide_false, Bool.false_eq_true, if_false]; congr 1; symm; simp; omega

/-- The target of right bits. -/
def tgt (b : Int) : Int := (b % 256 + 1) * 2 ^ (7 * (b / 256)).toNat - 1
theorem spec_l1Target_all : ∀ n : Nat, n < 1024 → spec_l1Target.f (n : Int) = some (tgt n) := by decide +kernel
theorem impl_targetOf_all : ∀ n : Nat, n < 1024 → impl_targetOf.f (n : Int) = some (tgt n) := by decide +kernel
theorem spec_l1Target_eq {a : Int} (h0 : 0 ≤ a) (h1 : a ≤ 1023) : spec_l1Target.f a = some (tgt a) := by
  have e := spec_l1Target_all a.toNat (by omega)
  rwa [Int.toNat_of_nonneg h0] at e
theorem impl_targetOf_eq {a : Int} (h0 : 0 ≤ a) (h1 : a ≤ 1023) : impl_targetOf.f a = some (tgt a) := by
  have e := impl_targetOf_all a.toNat (by omega)
  rwa [Int.toNat_of_nonneg h0] at e

/-- What the reference's search holds behind one more number of bits. -/
def pickV (tg best bits : Int) : Int := if Int.tmod bits 256 > 0 ∧ tgt bits ≤ tg ∧ (best = 0 ∨ tgt bits > tgt best) then bits else best
def bestV (tg : Int) : Nat → Int
  | 0 => 0
  | n + 1 => pickV tg (bestV tg n) ((n : Int) + 1)
def finV (x : Int) : Int × Int := if x = 0 then (4, 0) else (0, x)
theorem bestV_bd (tg : Int) : ∀ n : Nat, 0 ≤ bestV tg n ∧ bestV tg n ≤ n
  | 0 => by simp [bestV]
  | n + 1 => by
    have := bestV_bd tg n
    unfold bestV pickV
    split <;> omega
theorem spec_BitsOf_l0 (tg : Int) : ∀ (d n : Nat), n + d = 1023 → Ev (fun k => spec_BitsOf.l0 k tg (bestV tg n) ((n : Int) + 1)) (finV (bestV tg 1023)) := by
  intro d
  induction d with
  | zero =>
    intro n hn
    obtain rfl : n = 1023 := by omega
    refine ev_succ (fun k => ?_)
    simp only [spec_BitsOf.l0]
    rw [if_neg (by omega)]
    unfold finV
    split <;> rfl
  | succ d ih =>
    intro n hn
    have h := ih (n + 1) (by omega)
    have hb := bestV_bd tg n
    refine Ev.step (fun k => ?_) h
    simp only [spec_BitsOf.l0]
    rw [if_pos (by omega), spec_l1Bits_eq, spec_l1Target_eq (a := (n : Int) + 1) (by omega) (by omega), spec_l1Target_eq (a := bestV tg n) (by omega) (by omega), wrap_id (by omega) (by omega)]
    simp only [Option.bind_some, decide_eq_true_eq, Int.natCast_add, Int.natCast_one]
    by_cases h1 : Int.tmod ((n : Int) + 1) 256 > 0
    · rw [if_pos ⟨by omega, by omega, h1⟩]
      by_cases h2 : tgt ((n : Int) + 1) ≤ tg
      · rw [if_pos h2]
        by_cases h3 : bestV tg n = 0
        · rw [if_pos h3]; simp only [bestV, pickV]; rw [if_pos ⟨h1, h2, .inl h3⟩]
        · rw [if_neg h3]
          by_cases h4 : tgt ((n : Int) + 1) > tgt (bestV tg n)
          · rw [if_pos h4]; simp only [bestV, pickV]; rw [if_pos ⟨h1, h2, .inr h4⟩]
          · rw [if_neg h4]; simp only [bestV, pickV]; rw [if_neg (fun h => by rcases h.2.2 with h | h <;> first | exact h3 h | exact h4 h)]
      · rw [if_neg h2]; simp only [bestV, pickV]; rw [if_neg (fun h => h2 h.2.1)]
    · rw [if_neg (fun h => h1 h.2.2)]; simp only [bestV, pickV]; rw [if_neg (fun h => h1 h.1)]
/-- The best of a block of bits: what it was before, or the greatest that fits. -/
def combV (b e Q : Int) (n : Nat) : Int := if Q < 1 ∨ n = 0 then b else if b = 0 ∨ tgt (256 * e + mn n Q) > tgt b then 256 * e + mn n Q else b
theorem block_best (tg Q : Int) (e : Nat) (hQ : ∀ m : Int, 1 ≤ m → m ≤ 255 → (tgt (256 * e + m) ≤ tg ↔ m ≤ Q)) (hm : ∀ m : Int, 1 ≤ m → m < 255 → tgt (256 * e + m) < tgt (256 * e + (m + 1))) :
    ∀ n : Nat, n ≤ 255 → bestV tg (256 * e + n) = combV (bestV tg (256 * e)) e Q n := by
  intro n
  induction n with
  | zero => intro _; simp [combV]
  | succ n ih =>
    intro hn
    have ih := ih (by omega)
    have hq := hQ ((n : Int) + 1) (by omega) (by omega)
    have hc : (((256 * e + n : Nat) : Int) + 1) = 256 * (e : Int) + ((n : Int) + 1) := by omega
    have hmod : Int.tmod (256 * (e : Int) + ((n : Int) + 1)) 256 > 0 := by rw [Int.tmod_eq_emod_of_nonneg (by omega)]; omega
    show pickV tg (bestV tg (256 * e + n)) (((256 * e + n : Nat) : Int) + 1) = _
    rw [hc, ih]
    generalize bestV tg (256 * e) = b
    unfold pickV combV mn
    by_cases h1 : (n : Int) + 1 ≤ Q
    · have hq' := hq.2 h1
      rw [if_neg (c := Q < 1 ∨ n + 1 = 0) (by omega), if_neg (c := Q < ((n + 1 : Nat) : Int)) (by omega)]
      simp only [Int.natCast_add, Int.natCast_one]
      by_cases h0 : n = 0
      · subst h0
        rw [if_pos (c := Q < 1 ∨ 0 = 0) (.inr rfl)]
        by_cases hb : b = 0 ∨ tgt (256 * (e : Int) + (((0 : Nat) : Int) + 1)) > tgt b
        · rw [if_pos ⟨hmod, hq', hb⟩, if_pos hb]
        · rw [if_neg (fun h => hb h.2.2), if_neg hb]
      · have hlt := hm n (by omega) (by omega)
        rw [if_neg (c := Q < 1 ∨ n = 0) (by omega), if_neg (c := Q < (n : Int)) (by omega)]
        by_cases hb : b = 0 ∨ tgt (256 * (e : Int) + n) > tgt b
        · rw [if_pos hb, if_pos ⟨hmod, hq', .inr hlt⟩, if_pos (by rcases hb with hb | hb <;> first | exact .inl hb | exact .inr (by omega))]
        · rw [if_neg hb]
          by_cases hb2 : b = 0 ∨ tgt (256 * (e : Int) + ((n : Int) + 1)) > tgt b
          · rw [if_pos ⟨hmod, hq', hb2⟩, if_pos hb2]
          · rw [if_neg (fun h => hb2 h.2.2), if_neg hb2]
    · have hq' : ¬ tgt (256 * (e : Int) + ((n : Int) + 1)) ≤ tg := fun h => h1 (hq.1 h)
      rw [if_neg (fun h => hq' h.2.1)]
      by_cases hQ1 : Q < 1
      · rw [if_pos (.inl hQ1), if_pos (.inl hQ1)]
      · rw [if_neg (c := Q < 1 ∨ n = 0) (by omega), if_neg (c := Q < 1 ∨ n + 1 = 0) (by omega)]
        have e1 : (if Q < (n : Int) then Q else (n : Int)) = Q := by split <;> omega
        have e2 : (if Q < ((n + 1 : Nat) : Int) then Q else ((n + 1 : Nat) : Int)) = Q := by split <;> omega
        rw [e1, e2]
theorem block_end (tg : Int) (e : Nat) : bestV tg (256 * (e + 1)) = bestV tg (256 * e + 255) := by
  have : 256 * (e + 1) = (256 * e + 255) + 1 := by omega
  rw [this]
  show pickV tg _ _ = _
  unfold pickV
  rw [if_neg]
  rintro ⟨h, _⟩
  rw [Int.tmod_eq_emod_of_nonneg (by omega)] at h
  omega
theorem tgt_at (e : Nat) (m : Int) (h0 : 0 ≤ m) (h1 : m ≤ 255) : tgt (256 * e + m) = (m + 1) * 2 ^ (7 * e) - 1 := by
  unfold tgt
  have a : (256 * (e : Int) + m) % 256 = m := by omega
  have b : (7 * ((256 * (e : Int) + m) / 256)).toNat = 7 * e := by omega
  rw [a, b]
def gOf (b : Int) : Int := if b = 0 then 0 else tgt b
theorem impl_BitsOf_l0 (tg : Int) (h0 : 1 ≤ tg) (h1 : tg ≤ 2147483646) : ∀ (d e : Nat), e + d = 4 → Ev (fun k => impl_BitsOf.l0 k tg (bestV tg (256 * e)) (gOf (bestV tg (256 * e))) e) (finV (bestV tg 1023)) := by
  intro d
  induction d with
  | zero =>
    intro e he
    obtain rfl : e = 4 := by omega
    have hb : bestV tg (256 * 4) = bestV tg 1023 := block_end tg 3
    rw [hb]
    refine ev_succ (fun k => ?_)
    simp only [impl_BitsOf.l0]
    rw [if_neg (by omega)]
    unfold finV
    split <;> rfl
  | succ d ih =>
    intro e he
    have h := ih (e + 1) (by omega)
    have hP : (0 : Int) < 2 ^ (7 * e) := Int.pow_pos (by omega)
    have hQ : ∀ m : Int, 1 ≤ m → m ≤ 255 → (tgt (256 * e + m) ≤ tg ↔ m ≤ (tg + 1) / 2 ^ (7 * e) - 1) := by
      intro m hm1 hm2
      rw [tgt_at e m (by omega) hm2]
      have := @Int.le_ediv_iff_mul_le (m + 1) (tg + 1) (2 ^ (7 * e)) hP
      omega
    have hm : ∀ m : Int, 1 ≤ m → m < 255 → tgt (256 * e + m) < tgt (256 * e + (m + 1)) := by
      intro m hm1 hm2
      rw [tgt_at e m (by omega) (by omega), tgt_at e (m + 1) (by omega) (by omega), Int.add_mul (m + 1) 1]
      omega
    have hblk := block_best tg ((tg + 1) / 2 ^ (7 * e) - 1) e hQ hm 255 (Nat.le_refl _)
    have hend := block_end tg e
    have hbb := bestV_bd tg (256 * e)
    have hsh : shr .i64 (wrap64 (tg + 1)) (wrap64 (7 * (e : Int))) = (tg + 1) / 2 ^ (7 * e) := by
      rw [wrap_id (by omega) (by omega), wrap_id (by omega) (by omega)]
      unfold shr
      have : min (7 * (e : Int)).toNat IntKind.i64.bits = 7 * e := by simp [IntKind.bits]; omega
      rw [this]
    have hq0 : 0 ≤ (tg + 1) / 2 ^ (7 * e) := Int.ediv_nonneg (by omega) (by omega)
    have hq1 : (tg + 1) / 2 ^ (7 * e) ≤ tg + 1 := Int.ediv_le_self _ (by omega)
    have hpos : ∀ m : Int, 1 ≤ m → m ≤ 255 → 0 < tgt (256 * e + m) := by
      intro m hm1 hm2
      rw [tgt_at e m (by omega) hm2]
      have : (2 : Int) * 1 ≤ (m + 1) * 2 ^ (7 * e) := Int.mul_le_mul (by omega) (by omega) (by omega) (by omega)
      omega
    rw [hend, hblk] at h
    generalize hQQ : (tg + 1) / 2 ^ (7 * e) - 1 = Q at *
    generalize bestV tg (256 * e) = b at *
    have hw : wrap64 (shr .i64 (wrap64 (tg + 1)) (wrap64 (7 * (e : Int))) - 1) = Q := by rw [hsh, ← hQQ]; exact wrap_id (by omega) (by omega)
    refine Ev.step (fun k => ?_) h
    simp only [impl_BitsOf.l0]
    rw [hw, if_pos (by omega), if_pos (by rw [wrap_id (by omega) (by omega)]; omega), wrap_id (x := (e : Int) + 1) (by omega) (by omega)]
    have hM : mn Q 255 = mn 255 Q := by unfold mn; split <;> split <;> omega
    by_cases hq : Q < 1
    · rw [if_pos (by unfold mn; split <;> omega)]
      unfold combV
      rw [if_pos (.inl hq)]
      simp
    · have hm1 : 1 ≤ mn 255 Q ∧ mn 255 Q ≤ 255 := by unfold mn; split <;> omega
      rw [hM, if_neg (by omega), wrap_id (x := 256 * (e : Int)) (by omega) (by omega), wrap_id (by omega) (by omega), impl_targetOf_eq (by omega) (by omega)]
      simp only [Option.bind_some]
      have hp := hpos _ hm1.1 hm1.2
      unfold combV
      have h255 : ((255 : Nat) : Int) = 255 := rfl
      rw [if_neg (c := Q < 1 ∨ (255 : Nat) = 0) (by omega), h255]
      by_cases hb : b = 0 ∨ tgt (256 * (e : Int) + mn 255 Q) > tgt b
      · rw [if_pos (by unfold gOf; rcases hb with hb | hb <;> split <;> omega), if_pos hb]
        unfold gOf
        rw [if_neg (by omega)]
        simp
      · rw [if_neg (by unfold gOf; split <;> omega), if_neg hb]
        simp

theorem laws_eqIntResult_eq (a b c d : Int) : laws_eqIntResult.f a b c d = some (decide (a = c ∧ b = d)) := by
  unfold laws_eqIntResult.f
  by_cases h : a = c <;> by_cases h2 : b = d <;> simp [h, h2]
theorem laws_eqIntResult_refl (a b : Int) : laws_eqIntResult.f a b a b = some true := by
  rw [laws_eqIntResult_eq]; simp

theorem FnExactBitsOf : laws_FnExactBitsOf.Pure := by
  intro a ha
  refine Ev.rounds (g := fun k => laws_FnExactBitsOf.f k a) ?_
  unfold laws_FnExactBitsOf.f
  by_cases h : 1 ≤ a ∧ a ≤ 2147483646
  · have e1 : Ev (fun k => spec_BitsOf.f k a) (finV (bestV a 1023)) := by
      unfold spec_BitsOf.f
      refine ev_bind0 (spec_l1In_eq _ _ _) (ev_if (by simpa using h) ?_)
      exact spec_BitsOf_l0 a 1023 0 (by omega)
    have e2 : Ev (fun k => impl_BitsOf.f k a) (finV (bestV a 1023)) := by
      unfold impl_BitsOf.f
      refine ev_bind0 (impl_in_eq _ _ _) (ev_if (by simpa using h) ?_)
      exact impl_BitsOf_l0 a h.1 h.2 4 0 (by omega)
    refine ev_bind e1 (ev_bind e2 ?_)
    exact ev_bind0 (laws_eqIntResult_refl _ _) (ev_if rfl (Ev.now _))
  · have e1 : Ev (fun k => spec_BitsOf.f k a) (3, 0) := by
      unfold spec_BitsOf.f
      exact ev_bind0 (spec_l1In_eq _ _ _) (ev_ifn (by simpa using h) (Ev.now _))
    have e2 : Ev (fun k => impl_BitsOf.f k a) (3, 0) := by
      unfold impl_BitsOf.f
      exact ev_bind0 (impl_in_eq _ _ _) (ev_ifn (by simpa using h) (Ev.now _))
    refine ev_bind e1 (ev_bind e2 ?_)
    exact ev_bind0 (laws_eqIntResult_refl _ _) (ev_if rfl (Ev.now _))

end Go.Proofs.Ytdggjfakhhhbeaa.Pure
