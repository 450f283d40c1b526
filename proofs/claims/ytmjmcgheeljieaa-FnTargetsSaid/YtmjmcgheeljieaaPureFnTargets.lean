/- for every code, the bits told for a target encode the greatest target that is not greater, as the law FnTargets says: it answers true. -/
import Derived.Test.YtmjmcgheeljieaaQFnTargetsx1
import Derived.Test.YtmjmcgheeljieaaQFnTargetsx2
import Derived.Test.YtmjmcgheeljieaaQFnTargetsx3
import Derived.Test.YtmjmcgheeljieaaQFnTargetsx4
import Derived.Test.YtmjmcgheeljieaaQFnTargetsx1
import Derived.Test.YtmjmcgheeljieaaQFnTargetsx2
import Derived.Test.YtmjmcgheeljieaaQFnTargetsx3
import Derived.Test.YtmjmcgheeljieaaQFnTargetsx4
import Derived.Test.YtmjmcgheeljieaaQFnTargetsx1
import Derived.Test.YtmjmcgheeljieaaQFnTargetsx2
import Derived.Test.YtmjmcgheeljieaaQFnTargetsx3
import Derived.Test.YtmjmcgheeljieaaQFnTargetsx4
import Derived.Test.YtmjmcgheeljieaaQFnTargetsx1
import Derived.Test.YtmjmcgheeljieaaQFnTargetsx2
import Derived.Test.YtmjmcgheeljieaaQFnTargetsx3
import Derived.Test.YtmjmcgheeljieaaQFnTargetsx4
namespace Go.Proofs.Ytmjmcgheeljieaa.Pure
open Go.RowKit Go.Proofs.Ytmjmcgheeljieaa.QFnTargets Go.Proofs.YtmjmcgheeljieaaW.PrintWords Go.Proofs.YtmjmcgheeljieaaW.PrintLast
set_option linter.unusedVariables false
set_option linter.unusedSimpArgs false

theorem wrap_id {x : Int} (h1 : -9223372036854775808 ≤ x) (h2 : x ≤ 9223372036854775807) : wrap64 x = x := by
  unfold wrap64; omega
theorem wf64 {x : Int} (h : (Lit.int .i64 x).wf = true) : -9223372036854775808 ≤ x ∧ x ≤ 9223372036854775807 := by
  simpa [Lit.wf, IntKind.min, IntKind.max, IntKind.signed, IntKind.bits] using h
theorem wf8 {x : Int} (h : (Lit.int .u8 x).wf = true) : 0 ≤ x ∧ x ≤ 255 := by
  simpa [Lit.wf, IntKind.min, IntKind.max, IntKind.signed, IntKind.bits] using h
theorem ev_some {α : Type} {g : Nat → Option α} {r : α} (h : ∀ k, g k = some r) : Ev g r := ⟨0, fun k _ => h k⟩
theorem ev_succ {α : Type} {g : Nat → Option α} {r : α} (h : ∀ k, g (k + 1) = some r) : Ev g r := Ev.step h (Ev.now r)
/-- A call whose answer is known, and what follows. -/
theorem ev_bind {α β : Type} {g : Nat → Option α} {f : α → Nat → Option β} {a : α} {r : β} (h : Ev g a) (k : Ev (f a) r) : Ev (fun n => (g n).bind fun t => f t n) r :=
  Ev.bind (f := fun n t => f t n) h k
theorem ev_if {α : Type} {p : Prop} [Decidable p] {g f : Nat → Option α} {r : α} (hp : p) (k : Ev g r) : Ev (fun n => if p then g n else f n) r :=
  Ev.congr (fun n => if_pos hp) k
theorem ev_ifn {α : Type} {p : Prop} [Decidable p] {g f : Nat → Option α} {r : α} (hp : ¬ p) (k : Ev f r) : Ev (fun n => if p then g n else f n) r :=
  Ev.congr (fun n => if_neg hp) k
theorem ev_bind0 {α β : Type} {g : Option α} {f : α → Nat → Option β} {a : α} {r : β} (h : g = some a) (k : Ev (f a) r) : Ev (fun n => g.bind fun t => f t n) r := by
  subst h; exact k
theorem rd_mid (pre : List Int) (b : Int) (suf : List Int) : rd (pre ++ b :: suf) (pre.length : Int) = b := by
  unfold rd
  simp
theorem rd_at {l : List Int} {i : Int} (h0 : 0 ≤ i) (h1 : i < l.length) : rd l i = l[i.toNat]'(by omega) := by
  unfold rd
  rw [List.getD_eq_getElem?_getD, List.getElem?_eq_getElem (by omega)]; rfl
theorem split_at_len {α : Type} (l : List α) (n : Nat) (h : n ≤ l.length) : ∃ pre suf, l = pre ++ suf ∧ pre.length = n :=
  ⟨l.take n, l.drop n, (List.take_append_drop n l).symm, by simp; omega⟩

theorem spec_l1In_eq (a b c : Int) : spec_l1In.f a b c = some (decide (b ≤ a ∧ a ≤ c)) := by
  unfold spec_l1In.f
  by_cases h : a ≥ b
  · rw [if_pos h]; congr 1; rw [Bool.eq_iff_iff]; simp; omega
  · rw [if_neg h]; congr 1; symm; simp; omega
theorem impl_in_eq (a b c : Int) : impl_in.f a b c = some (decide (b ≤ a ∧ a ≤ c)) := by
  unfold impl_in.f
  by_cases h : a ≥ b
  · rw [if_pos h]; congr 1; rw [Bool.eq_iff_iff]; simp; omega
  · rw [if_neg h]; congr 1; symm; simp; omega

theorem spec_l1Bits_eq (a : Int) : spec_l1Bits.f a = some (decide (1 ≤ a ∧ a ≤ 1023 ∧ Int.tmod a 256 > 0)) := by
  unfold spec_l1Bits.f; rw [spec_l1In_eq]
  by_cases h : 1 ≤ a ∧ a ≤ 1023
  · simp [h]
  · simp only [Option.bind_some, h, decide_false, Bool.false_eq_true, if_false]; congr 1; symm; simp; omega

/-- The target of right bits. -/
def tgt (b : Int) : Int := (b % 256 + 1) * 2 ^ (7 * (b / 256)).toNat - 1
theorem spec_l1Target_all : ∀ n : Nat, n < 1024 → spec_l1Target.f (n : Int) = some (tgt n) := by decide +kernel
theorem impl_targetOf_all : ∀ n : Nat, n < 1024 → impl_targetOf.f (n : Int) = some (tgt n) := by decide +kernel
theorem spec_l1Target_eq {a : Int} (h0 : 0 ≤ a) (h1 : a ≤ 1023) : spec_l1Target.f a = some (tgt a) := by
  have e := spec_l1Target_all a.toNat (by omega)
  rwa [Int.toNat_of_nonneg h0] at e
theorem impl_targetOf_eq {a : Int} (h0 : 0 ≤ a) (h1 : a ≤ 1023) : impl_targetOf.f a = some (tgt a) := by
  have e := impl_targetOf_all a.toNat (by omega)
  rwa [Int.toNat_of_nonneg h0] at e

/-- What the reference's search holds behind one more number of bits. -/
def pickV (tg best bits : Int) : Int := if Int.tmod bits 256 > 0 ∧ tgt bits ≤ tg ∧ (best = 0 ∨ tgt bits > tgt best) then bits else best
def bestV (tg : Int) : Nat → Int
  | 0 => 0
  | n + 1 => pickV tg (bestV tg n) ((n : Int) + 1)
def finV (x : Int) : Int × Int := if x = 0 then (4, 0) else (0, x)
theorem bestV_bd (tg : Int) : ∀ n : Nat, 0 ≤ bestV tg n ∧ bestV tg n ≤ n
  | 0 => by simp [bestV]
  | n + 1 => by
    have := bestV_bd tg n
    unfold bestV pickV
    split <;> omega
theorem spec_BitsOf_l0 (tg : Int) : ∀ (d n : Nat), n + d = 1023 → Ev (fun k => spec_BitsOf.l0 k tg (bestV tg n) ((n : Int) + 1)) (finV (bestV tg 1023)) := by
  intro d
  induction d with
  | zero =>
    intro n hn
    obtain rfl : n = 1023 := by omega
    refine ev_succ (fun k => ?_)
    simp only [spec_BitsOf.l0]
    rw [if_neg (by omega)]
    unfold finV
    split <;> rfl
  | succ d ih =>
    intro n hn
    have h := ih (n + 1) (by omega)
    have hb := bestV_bd tg n
    refine Ev.step (fun k => ?_) h
    simp only [spec_BitsOf.l0]
    rw [if_pos (by omega), spec_l1Bits_eq, spec_l1Target_eq (a := (n : Int) + 1) (by omega) (by omega), spec_l1Target_eq (a := bestV tg n) (by omega) (by omega), wrap_id (by omega) (by omega)]
    simp only [Option.bind_some, decide_eq_true_eq, Int.natCast_add, Int.natCast_one]
    by_cases h1 : Int.tmod ((n : Int) + 1) 256 > 0
    · rw [if_pos ⟨by omega, by omega, h1⟩]
      by_cases h2 : tgt ((n : Int) + 1) ≤ tg
      · rw [if_pos h2]
        by_cases h3 : bestV tg n = 0
        · rw [if_pos h3]; simp only [bestV, pickV]; rw [if_pos ⟨h1, h2, .inl h3⟩]
        · rw [if_neg h3]
          by_cases h4 : tgt ((n : Int) + 1) > tgt (bestV tg n)
          · rw [if_pos h4]; simp only [bestV, pickV]; rw [if_pos ⟨h1, h2, .inr h4⟩]
          · rw [if_neg h4]; simp only [bestV, pickV]; rw [if_neg (fun h => by rcases h.2.2 with h | h <;> first | exact h3 h | exact h4 h)]
      · rw [if_neg h2]; simp only [bestV, pickV]; rw [if_neg (fun h => h2 h.2.1)]
    · rw [if_neg (fun h => h1 h.2.2)]; simp only [bestV, pickV]; rw [if_neg (fun h => h1 h.1)]
/-- The best of a block of bits: what it was before, or the greatest that fits. -/
def combV (b e Q : Int) (n : Nat) : Int := if Q < 1 ∨ n = 0 then b else if b = 0 ∨ tgt (256 * e + mn n Q) > tgt b then 256 * e + mn n Q else b
theorem block_best (tg Q : Int) (e : Nat) (hQ : ∀ m : Int, 1 ≤ m → m ≤ 255 → (tgt (256 * e + m) ≤ tg ↔ m ≤ Q)) (hm : ∀ m : Int, 1 ≤ m → m < 255 → tgt (256 * e + m) < tgt (256 * e + (m + 1))) :
    ∀ n : Nat, n ≤ 255 → bestV tg (256 * e + n) = combV (bestV tg (256 * e)) e Q n := by
  intro n
  induction n with
  | zero => intro _; simp [combV]
  | succ n ih =>
    intro hn
    have ih := ih (by omega)
    have hq := hQ ((n : Int) + 1) (by omega) (by omega)
    have hc : (((256 * e + n : Nat) : Int) + 1) = 256 * (e : Int) + ((n : Int) + 1) := by omega
    have hmod : Int.tmod (256 * (e : Int) + ((n : Int) + 1)) 256 > 0 := by rw [Int.tmod_eq_emod_of_nonneg (by omega)]; omega
    show pickV tg (bestV tg (256 * e + n)) (((256 * e + n : Nat) : Int) + 1) = _
    rw [hc, ih]
    generalize bestV tg (256 * e) = b
    unfold pickV combV mn
    by_cases h1 : (n : Int) + 1 ≤ Q
    · have hq' := hq.2 h1
      rw [if_neg (c := Q < 1 ∨ n + 1 = 0) (by omega), if_neg (c := Q < ((n + 1 : Nat) : Int)) (by omega)]
      simp only [Int.natCast_add, Int.natCast_one]
      by_cases h0 : n = 0
      · subst h0
        rw [if_pos (c := Q < 1 ∨ 0 = 0) (.inr rfl)]
        by_cases hb : b = 0 ∨ tgt (256 * (e : Int) + (((0 : Nat) : Int) + 1)) > tgt b
        · rw [if_pos ⟨hmod, hq', hb⟩, if_pos hb]
        · rw [if_neg (fun h => hb h.2.2), if_neg hb]
      · have hlt := hm n (by omega) (by omega)
        rw [if_neg (c := Q < 1 ∨ n = 0) (by omega), if_neg (c := Q < (n : Int)) (by omega)]
        by_cases hb : b = 0 ∨ tgt (256 * (e : Int) + n) > tgt b
        · rw [if_pos hb, if_pos ⟨hmod, hq', .inr hlt⟩, if_pos (by rcases hb with hb | hb <;> first | exact .inl hb | exact .inr (by omega))]
        · rw [if_neg hb]
          by_cases hb2 : b = 0 ∨ tgt (256 * (e : Int) + ((n : Int) + 1)) > tgt b
          · rw [if_pos ⟨hmod, hq', hb2⟩, if_pos hb2]
          · rw [if_neg (fun h => hb2 h.2.2), if_neg hb2]
    · have hq' : ¬ tgt (256 * (e : Int) + ((n : Int) + 1)) ≤ tg := fun h => h1 (hq.1 h)
      rw [if_neg (fun h => hq' h.2.1)]
      by_cases hQ1 : Q < 1
      · rw [if_pos (.inl hQ1), if_pos (.inl hQ1)]
      · rw [if_neg (c := Q < 1 ∨ n = 0) (by omega), if_neg (c := Q < 1 ∨ n + 1 = 0) (by omega)]
        have e1 : (if Q < (n : Int) then Q else (n : Int)) = Q := by split <;> omega
        have e2 : (if Q < ((n + 1 : Nat) : Int) then Q else ((n + 1 : Nat) : Int)) = Q := by split <;> omega
        rw [e1, e2]
theorem block_end (tg : Int) (e : Nat) : bestV tg (256 * (e + 1)) = bestV tg (256 * e + 255) := by
  have : 256 * (e + 1) = (256 * e + 255) + 1 := by omega
  rw [this]
  show pickV tg _ _ = _
  unfold pickV
  rw [if_neg]
  rintro ⟨h, _⟩
  rw [Int.tmod_eq_emod_of_nonneg (by omega)] at h
  omega
theorem tgt_at (e : Nat) (m : Int) (h0 : 0 ≤ m) (h1 : m ≤ 255) : tgt (256 * e + m) = (m + 1) * 2 ^ (7 * e) - 1 := by
  unfold tgt
  have a : (256 * (e : Int) + m) % 256 = m := by omega
  have b : (7 * ((256 * (e : Int) + m) / 256)).toNat = 7 * e := by omega
  rw [a, b]
def gOf (b : Int) : Int := if b = 0 then 0 else tgt b
theorem impl_BitsOf_l0 (tg : Int) (h0 : 1 ≤ tg) (h1 : tg ≤ 2147483646) : ∀ (d e : Nat), e + d = 4 → Ev (fun k => impl_BitsOf.l0 k tg (bestV tg (256 * e)) (gOf (bestV tg (256 * e))) e) (finV (bestV tg 1023)) := by
  intro d
  induction d with
  | zero =>
    intro e he
    obtain rfl : e = 4 := by omega
    have hb : bestV tg (256 * 4) = bestV tg 1023 := block_end tg 3
    rw [hb]
    refine ev_succ (fun k => ?_)
    simp only [impl_BitsOf.l0]
    rw [if_neg (by omega)]
    unfold finV
    split <;> rfl
  | succ d ih =>
    intro e he
    have h := ih (e + 1) (by omega)
    have hP : (0 : Int) < 2 ^ (7 * e) := Int.pow_pos (by omega)
    have hQ : ∀ m : Int, 1 ≤ m → m ≤ 255 → (tgt (256 * e + m) ≤ tg ↔ m ≤ (tg + 1) / 2 ^ (7 * e) - 1) := by
      intro m hm1 hm2
      rw [tgt_at e m (by omega) hm2]
      have := @Int.le_ediv_iff_mul_le (m + 1) (tg + 1) (2 ^ (7 * e)) hP
      omega
    have hm : ∀ m : Int, 1 ≤ m → m < 255 → tgt (256 * e + m) < tgt (256 * e + (m + 1)) := by
      intro m hm1 hm2
      rw [tgt_at e m (by omega) (by omega), tgt_at e (m + 1) (by omega) (by omega), Int.add_mul (m + 1) 1]
      omega
    have hblk := block_best tg ((tg + 1) / 2 ^ (7 * e) - 1) e hQ hm 255 (Nat.le_refl _)
    have hend := block_end tg e
    have hbb := bestV_bd tg (256 * e)
    have hsh : shr .i64 (wrap64 (tg + 1)) (wrap64 (7 * (e : Int))) = (tg + 1) / 2 ^ (7 * e) := by
      rw [wrap_id (by omega) (by omega), wrap_id (by omega) (by omega)]
      unfold shr
      have : min (7 * (e : Int)).toNat IntKind.i64.bits = 7 * e := by simp [IntKind.bits]; omega
      rw [this]
    have hq0 : 0 ≤ (tg + 1) / 2 ^ (7 * e) := Int.ediv_nonneg (by omega) (by omega)
    have hq1 : (tg + 1) / 2 ^ (7 * e) ≤ tg + 1 := Int.ediv_le_self _ (by omega)
    have hpos : ∀ m : Int, 1 ≤ m → m ≤ 255 → 0 < tgt (256 * e + m) := by
      intro m hm1 hm2
      rw [tgt_at e m (by omega) hm2]
      have : (2 : Int) * 1 ≤ (m + 1) * 2 ^ (7 * e) := Int.mul_le_mul (by omega) (by omega) (by omega) (by omega)
      omega
    rw [hend, hblk] at h
    generalize hQQ : (tg + 1) / 2 ^ (7 * e) - 1 = Q at *
    generalize bestV tg (256 * e) = b at *
    have hw : wrap64 (shr .i64 (wrap64 (tg + 1)) (wrap64 (7 * (e : Int))) - 1) = Q := by rw [hsh, ← hQQ]; exact wrap_id (by omega) (by omega)
    refine Ev.step (fun k => ?_) h
    simp only [impl_BitsOf.l0]
    rw [hw, if_pos (by omega), if_pos (by rw [wrap_id (by omega) (by omega)]; omega), wrap_id (x := (e : Int) + 1) (by omega) (by omega)]
    have hM : mn Q 255 = mn 255 Q := by unfold mn; split <;> split <;> omega
    by_cases hq : Q < 1
    · rw [if_pos (by unfold mn; split <;> omega)]
      unfold combV
      rw [if_pos (.inl hq)]
      simp
    · have hm1 : 1 ≤ mn 255 Q ∧ mn 255 Q ≤ 255 := by unfold mn; split <;> omega
      rw [hM, if_neg (by omega), wrap_id (x := 256 * (e : Int)) (by omega) (by omega), wrap_id (by omega) (by omega), impl_targetOf_eq (by omega) (by omega)]
      simp only [Option.bind_some]
      have hp := hpos _ hm1.1 hm1.2
      unfold combV
      have h255 : ((255 : Nat) : Int) = 255 := rfl
      rw [if_neg (c := Q < 1 ∨ (255 : Nat) = 0) (by omega), h255]
      by_cases hb : b = 0 ∨ tgt (256 * (e : Int) + mn 255 Q) > tgt b
      · rw [if_pos (by unfold gOf; rcases hb with hb | hb <;> split <;> omega), if_pos hb]
        unfold gOf
        rw [if_neg (by omega)]
        simp
      · rw [if_neg (by unfold gOf; split <;> omega), if_neg hb]
        simp

theorem impl_bitsOk_eq (a : Int) : impl_bitsOk.f a = some (decide (1 ≤ a ∧ a ≤ 1023 ∧ Int.tmod a 256 > 0)) := by
  unfold impl_bitsOk.f; rw [impl_in_eq]
  by_cases h : 1 ≤ a ∧ a ≤ 1023
  · simp [h]
  · simp only [Option.bind_some, h, decide_false, Bool.false_eq_true, if_false]; congr 1; symm; simp; omega

def okB (b : Int) : Prop := 1 ≤ b ∧ b ≤ 1023 ∧ Int.tmod b 256 > 0
instance (b : Int) : Decidable (okB b) := by unfold okB; infer_instance
theorem tgt_all : ∀ n : Nat, n < 1024 → okB (n : Int) → 1 ≤ tgt (n : Int) ∧ tgt (n : Int) ≤ 536870911 := by decide +kernel
theorem tgt_bd {b : Int} (h : okB b) : 1 ≤ tgt b ∧ tgt b ≤ 536870911 := by
  have h' := h
  unfold okB at h'
  have := tgt_all b.toNat (by omega)
  rw [Int.toNat_of_nonneg (by omega)] at this
  exact this h
theorem best_ok (tg : Int) : ∀ n : Nat, n ≤ 1023 → bestV tg n = 0 ∨ (okB (bestV tg n) ∧ tgt (bestV tg n) ≤ tg)
  | 0, _ => .inl rfl
  | n + 1, hn => by
    have ih := best_ok tg n (by omega)
    unfold bestV pickV
    by_cases h : Int.tmod ((n : Int) + 1) 256 > 0 ∧ tgt ((n : Int) + 1) ≤ tg ∧ (bestV tg n = 0 ∨ tgt ((n : Int) + 1) > tgt (bestV tg n))
    · rw [if_pos h]; exact .inr ⟨⟨by omega, by omega, h.1⟩, h.2.1⟩
    · rw [if_neg h]; exact ih
theorem best_most (tg : Int) : ∀ (n : Nat) (m : Int), n ≤ 1023 → okB m → m ≤ n → tgt m ≤ tg → bestV tg n ≠ 0 ∧ tgt m ≤ tgt (bestV tg n)
  | 0, m, _, h, hm, _ => by unfold okB at h; omega
  | n + 1, m, hn, h, hm, ht => by
    unfold bestV pickV
    by_cases e : m = (n : Int) + 1
    · subst e
      by_cases h1 : bestV tg n = 0 ∨ tgt ((n : Int) + 1) > tgt (bestV tg n)
      · rw [if_pos ⟨h.2.2, ht, h1⟩]
        exact ⟨by omega, Int.le_refl _⟩
      · rw [if_neg (fun hh => h1 hh.2.2)]
        exact ⟨fun hh => h1 (.inl hh), by omega⟩
    · have ih := best_most tg n m (by omega) h (by omega) ht
      by_cases h1 : Int.tmod ((n : Int) + 1) 256 > 0 ∧ tgt ((n : Int) + 1) ≤ tg ∧ (bestV tg n = 0 ∨ tgt ((n : Int) + 1) > tgt (bestV tg n))
      · rw [if_pos h1]
        have := h1.2.2
        exact ⟨by omega, by omega⟩
      · rw [if_neg h1]; exact ih
def targetR (b : Int) : Int × Int := if okB b then (0, tgt b) else (3, 0)
def workR (b : Int) : Int × Int := if okB b then (0, mx (2147483647 / (tgt b + 1)) 1) else (3, 0)
def bitsR (tg : Int) : Int × Int := if 1 ≤ tg ∧ tg ≤ 2147483646 then finV (bestV tg 1023) else (3, 0)
theorem impl_TargetOf_eq (b : Int) : impl_TargetOf.f b = some (targetR b) := by
  unfold impl_TargetOf.f targetR
  rw [impl_bitsOk_eq]
  by_cases h : okB b
  · have h' := h
    unfold okB at h'
    rw [impl_targetOf_eq (by omega) (by omega)]
    simp [h, h']
  · have h' := h
    unfold okB at h'
    rw [if_neg h]
    simp only [Option.bind_some]
    rw [if_neg (by simpa using h')]
theorem spec_TargetOf_eq (b : Int) : spec_TargetOf.f b = some (targetR b) := by
  unfold spec_TargetOf.f targetR
  rw [spec_l1Bits_eq]
  by_cases h : okB b
  · have h' := h
    unfold okB at h'
    rw [spec_l1Target_eq (by omega) (by omega)]
    simp [h, h']
  · have h' := h
    unfold okB at h'
    rw [if_neg h]
    simp only [Option.bind_some]
    rw [if_neg (by simpa using h')]
theorem impl_WorkOf_eq (b : Int) : impl_WorkOf.f b = some (workR b) := by
  unfold impl_WorkOf.f workR
  rw [impl_bitsOk_eq]
  by_cases h : okB b
  · have h' := h
    unfold okB at h'
    have ht := tgt_bd h
    have hq : 0 ≤ 2147483647 / (tgt b + 1) := Int.ediv_nonneg (by omega) (by omega)
    have hq2 : 2147483647 / (tgt b + 1) ≤ 2147483647 := Int.ediv_le_self _ (by omega)
    rw [impl_targetOf_eq (by omega) (by omega), if_pos h]
    simp only [Option.bind_some]
    rw [if_pos (by simpa using h'), wrap_id (x := tgt b + 1) (by omega) (by omega), if_neg (by omega), wrap_id (by omega) (by omega)]
  · have h' := h
    unfold okB at h'
    rw [if_neg h]
    simp only [Option.bind_some]
    rw [if_neg (by simpa using h')]
theorem spec_BitsOf_ev (a : Int) : Ev (fun k => spec_BitsOf.f k a) (bitsR a) := by
  unfold spec_BitsOf.f bitsR
  by_cases h : 1 ≤ a ∧ a ≤ 2147483646
  · rw [if_pos h]
    refine ev_bind0 (spec_l1In_eq _ _ _) (ev_if (by simpa using h) ?_)
    exact spec_BitsOf_l0 a 1023 0 (by omega)
  · rw [if_neg h]
    exact ev_bind0 (spec_l1In_eq _ _ _) (ev_ifn (by simpa using h) (Ev.now _))
theorem impl_BitsOf_ev (a : Int) : Ev (fun k => impl_BitsOf.f k a) (bitsR a) := by
  unfold impl_BitsOf.f bitsR
  by_cases h : 1 ≤ a ∧ a ≤ 2147483646
  · rw [if_pos h]
    refine ev_bind0 (impl_in_eq _ _ _) (ev_if (by simpa using h) ?_)
    exact impl_BitsOf_l0 a h.1 h.2 4 0 (by omega)
  · rw [if_neg h]
    exact ev_bind0 (impl_in_eq _ _ _) (ev_ifn (by simpa using h) (Ev.now _))
/-- Bits that are told encode no more than the target. -/
theorem bitsR_le (tg : Int) (h : (bitsR tg).1 = 0) : (targetR (bitsR tg).2).2 ≤ tg := by
  unfold bitsR at h ⊢
  by_cases h1 : 1 ≤ tg ∧ tg ≤ 2147483646
  · rw [if_pos h1] at h ⊢
    unfold finV at h ⊢
    by_cases h2 : bestV tg 1023 = 0
    · rw [if_pos h2] at h; simp at h
    · rw [if_neg h2]
      rcases best_ok tg 1023 (by omega) with h3 | h3
      · exact absurd h3 h2
      · unfold targetR; rw [if_pos h3.1]; exact h3.2
  · rw [if_neg h1] at h; simp at h
theorem bits_back {b : Int} (h : okB b) : (bitsR (tgt b)).1 = 0 ∧ (targetR (bitsR (tgt b)).2).2 = tgt b := by
  have hb := tgt_bd h
  have h' := h
  unfold okB at h'
  have hm := best_most (tgt b) 1023 b (by omega) h (by omega) (Int.le_refl _)
  unfold bitsR
  rw [if_pos ⟨hb.1, by omega⟩]
  unfold finV
  rw [if_neg hm.1]
  rcases best_ok (tgt b) 1023 (by omega) with h3 | h3
  · exact absurd h3 hm.1
  · refine ⟨rfl, ?_⟩
    unfold targetR
    rw [if_pos h3.1]
    exact Int.le_antisymm h3.2 hm.2
theorem work_mono {a b : Int} (ha : okB a) (hb : okB b) (h : tgt a ≤ tgt b) : (workR b).2 ≤ (workR a).2 := by
  have h1 := tgt_bd ha
  have h2 := tgt_bd hb
  unfold workR
  rw [if_pos ha, if_pos hb]
  have : 2147483647 / (tgt b + 1) ≤ 2147483647 / (tgt a + 1) := by
    rw [Int.le_ediv_iff_mul_le (by omega)]
    have q := Int.ediv_mul_le 2147483647 (b := tgt b + 1) (by omega)
    have q0 : 0 ≤ 2147483647 / (tgt b + 1) := Int.ediv_nonneg (by omega) (by omega)
    exact Int.le_trans (Int.mul_le_mul_of_nonneg_left (by omega) q0) q
  simp only []
  unfold mx
  split <;> split <;> omega
theorem work_1 {a : Int} (ha : okB a) : 1 ≤ (workR a).2 := by
  unfold workR
  rw [if_pos ha]
  simp only []
  unfold mx
  split <;> omega

/-- One byte more in a sum. -/
def stepS (a b : Int) : Int := (33 * a + b + 1) % 2147483647
/-- The sum of bytes. -/
def sumB (l : List Int) : Int := l.foldl stepS 5381
def Bytes (l : List Int) : Prop := ∀ x ∈ l, 0 ≤ x ∧ x ≤ 255
theorem stepS_bd (a b : Int) : 0 ≤ stepS a b ∧ stepS a b < 2147483647 := by unfold stepS; omega
theorem sumB_bd_go (l : List Int) : ∀ a : Int, 0 ≤ a → a < 2147483647 → 0 ≤ l.foldl stepS a ∧ l.foldl stepS a < 2147483647 := by
  induction l with
  | nil => intro a h0 h1; exact ⟨h0, h1⟩
  | cons b l ih => intro a _ _; exact ih _ (stepS_bd a b).1 (stepS_bd a b).2
theorem sumB_bd (l : List Int) : 0 ≤ sumB l ∧ sumB l ≤ 2147483646 := by
  have := sumB_bd_go l 5381 (by omega) (by omega)
  unfold sumB; omega
theorem step_wrap {a b : Int} (h0 : 0 ≤ a) (h1 : a < 2147483647) (hb : 0 ≤ b ∧ b ≤ 255) :
    Int.tmod (wrap64 ((wrap64 ((wrap64 (a * 33)) + (wrap64 b))) + 1)) 2147483647 = stepS a b := by
  rw [wrap_id (x := a * 33) (by omega) (by omega), wrap_id (x := b) (by omega) (by omega), wrap_id (x := a * 33 + b) (by omega) (by omega), wrap_id (x := a * 33 + b + 1) (by omega) (by omega), Int.tmod_eq_emod_of_nonneg (by omega)]
  unfold stepS; rw [Int.mul_comm a 33]

theorem rd_byte {c : List Int} (hb : Bytes c) (i : Int) : 0 ≤ rd c i ∧ rd c i ≤ 255 := by
  unfold rd
  rw [List.getD_eq_getElem?_getD]
  cases h : c[i.toNat]? with
  | none => simp
  | some x => exact hb x (List.mem_of_getElem? h)
/-- A draw: a number below m, and the next place. -/
theorem spec_l1Next_some {c : List Int} (hb : Bytes c) (hc : c.length ≤ 140737488351232) (n m : Int) (h0 : 0 ≤ n) (h1 : n ≤ 1000000) (hm : m ≤ 1000000) :
    ∃ v, spec_l1Next.f c n m = some (v, n + 1) ∧ 0 ≤ v ∧ (1 ≤ m → v < m) ∧ (m < 1 → v = 0) := by
  unfold spec_l1Next.f
  rw [wrap_id (x := n + 1) (by omega) (by omega), wrap_id (x := n + 1 - 1) (by omega) (by omega), show n + 1 - 1 = n by omega]
  by_cases hm1 : m < 1
  · rw [if_pos hm1]; exact ⟨0, rfl, by omega, by omega, fun _ => rfl⟩
  rw [if_neg hm1]
  by_cases hk : (c.length : Int) = 0
  · rw [if_pos hk, if_neg (by omega), wrap_id (x := n * 7) (by omega) (by omega), Int.tmod_eq_emod_of_nonneg (by omega)]
    exact ⟨_, rfl, Int.emod_nonneg _ (by omega), fun _ => Int.emod_lt_of_pos _ (by omega), fun h => absurd h hm1⟩
  rw [if_neg hk]
  have hkp : (0 : Int) < c.length := by omega
  have e1 : Int.tmod n (c.length : Int) = n % (c.length : Int) := Int.tmod_eq_emod_of_nonneg h0
  have e2 : Int.tdiv n (c.length : Int) = n / (c.length : Int) := Int.tdiv_eq_ediv_of_nonneg h0
  have b1 := Int.emod_nonneg n (b := (c.length : Int)) (by omega)
  have b2 := Int.emod_lt_of_pos n hkp
  have b3 : 0 ≤ n / (c.length : Int) := Int.ediv_nonneg h0 (by omega)
  have b4 : n / (c.length : Int) ≤ n := Int.ediv_le_self _ h0
  have r1 := rd_byte hb (n % (c.length : Int))
  rw [e1, e2, if_pos b1, if_pos b2]
  rw [wrap_id (x := rd c (n % (c.length : Int))) (by omega) (by omega), wrap_id (x := n / (c.length : Int)) (by omega) (by omega), wrap_id (x := n / (c.length : Int) * 37) (by omega) (by omega), wrap_id (x := rd c (n % (c.length : Int)) + n / (c.length : Int) * 37) (by omega) (by omega)]
  by_cases h200 : m > 200
  · rw [if_pos h200]
    rw [wrap_id (x := n + 1) (by omega) (by omega)]
    have e3 : Int.tmod (n + 1) (c.length : Int) = (n + 1) % (c.length : Int) := Int.tmod_eq_emod_of_nonneg (by omega)
    have b5 := Int.emod_nonneg (n + 1) (b := (c.length : Int)) (by omega)
    have b6 := Int.emod_lt_of_pos (n + 1) hkp
    have r2 := rd_byte hb ((n + 1) % (c.length : Int))
    rw [e3, if_pos b5, if_pos b6, if_neg (by omega)]
    generalize rd c (n % (c.length : Int)) = x at *
    generalize rd c ((n + 1) % (c.length : Int)) = y at *
    generalize n / (c.length : Int) = z at *
    rw [wrap_id (x := (x + z * 37) * 251) (by omega) (by omega), wrap_id (x := y) (by omega) (by omega), wrap_id (x := y * 13) (by omega) (by omega), wrap_id (x := (x + z * 37) * 251 + y * 13) (by omega) (by omega), wrap_id (x := (x + z * 37) * 251 + y * 13 + n) (by omega) (by omega), Int.tmod_eq_emod_of_nonneg (by omega)]
    exact ⟨_, rfl, Int.emod_nonneg _ (by omega), fun _ => Int.emod_lt_of_pos _ (by omega), fun h => absurd h hm1⟩
  · rw [if_neg h200, if_neg (by omega), Int.tmod_eq_emod_of_nonneg (by omega)]
    exact ⟨_, rfl, Int.emod_nonneg _ (by omega), fun _ => Int.emod_lt_of_pos _ (by omega), fun h => absurd h hm1⟩

theorem rd_mem {l : List Int} {i : Int} (h0 : 0 ≤ i) (h1 : i < l.length) : rd l i ∈ l := by
  rw [rd_at h0 h1]; exact List.getElem_mem _
theorem spec_l1Pick_some {c : List Int} (hb : Bytes c) (hc : c.length ≤ 140737488351232) (n : Int) (h0 : 0 ≤ n) (h1 : n ≤ 1000000) (l : List Int) (hl : 1 ≤ l.length) (hl2 : l.length ≤ 1000) :
    ∃ v, v ∈ l ∧ spec_l1Pick.f c n l = some (v, n + 1) := by
  unfold spec_l1Pick.f
  obtain ⟨j, hj, j0, j1, _⟩ := spec_l1Next_some hb hc n (l.length : Int) h0 h1 (by omega)
  rw [hj]
  simp only [Option.bind_some]
  rw [if_pos j0, if_pos (j1 (by omega))]
  exact ⟨_, rd_mem j0 (j1 (by omega)), rfl⟩

theorem spec_DrawTargetOf_some {c : List Int} (hb : Bytes c) (hc : c.length ≤ 140737488351232) : ∃ v, spec_DrawTargetOf.f c = some v := by
  unfold spec_DrawTargetOf.f spec_l1Source.f
  simp only [Option.bind_some]
  obtain ⟨x, hx, x0, x1, _⟩ := spec_l1Next_some hb hc 0 1026 (by omega) (by omega) (by omega)
  rw [hx]; simp only [Option.bind_some]
  obtain ⟨y, hy, y0, y1, _⟩ := spec_l1Next_some hb hc (0 + 1) 1026 (by omega) (by omega) (by omega)
  rw [hy]; simp only [Option.bind_some]
  obtain ⟨v, _, hv⟩ := spec_l1Pick_some hb hc (0 + 1 + 1) (by omega) (by omega) [wrap64 (x - 1), wrap64 (y - 1), 256, 255, 257, 1023, 1024] (by simp) (by simp)
  rw [hv]
  exact ⟨v, rfl⟩
theorem spec_DrawBitsOf_some {c : List Int} (hb : Bytes c) (hc : c.length ≤ 140737488351232) : ∃ v, spec_DrawBitsOf.f c = some v := by
  unfold spec_DrawBitsOf.f spec_l1Source.f
  simp only [Option.bind_some]
  obtain ⟨x, hx, x0, x1, _⟩ := spec_l1Next_some hb hc 0 70000 (by omega) (by omega) (by omega)
  rw [hx]; simp only [Option.bind_some]
  obtain ⟨y, hy, y0, y1, _⟩ := spec_l1Next_some hb hc (0 + 1) 70000 (by omega) (by omega) (by omega)
  rw [hy]; simp only [Option.bind_some]
  obtain ⟨v, _, hv⟩ := spec_l1Pick_some hb hc (0 + 1 + 1) (by omega) (by omega) [x, wrap64 (y * 1000), 0, 1, 2147483646, 2147483647] (by simp) (by simp)
  rw [hv]
  exact ⟨v, rfl⟩

theorem targets_pre {c : List Int} (hbig : ¬ (c.length : Int) > 1048576) {bits tg : Int} (h1 : spec_DrawTargetOf.f c = some bits) (h2 : spec_DrawBitsOf.f c = some tg)
    (hj : Ev (fun k => laws_FnTargets.j0 k c bits false (targetR bits).1 (targetR bits).2 (workR bits).1 (workR bits).2) true) : Ev (fun k => laws_FnTargets.f k c) true := by
  unfold laws_FnTargets.f
  refine ev_bind0 rfl (ev_ifn (by simpa using hbig) ?_)
  refine ev_bind0 h1 (ev_bind0 (impl_TargetOf_eq _) (ev_bind0 (impl_WorkOf_eq _) (ev_bind0 h2 ?_)))
  refine ev_bind (impl_BitsOf_ev _) (ev_bind (spec_BitsOf_ev _) (ev_if rfl (ev_bind (spec_BitsOf_ev _) (ev_if rfl ?_))))
  by_cases h : (bitsR tg).1 = 0
  · refine ev_if h (ev_bind0 (impl_TargetOf_eq _) ?_)
    have hle := bitsR_le tg h
    have : decide ((targetR (bitsR tg).2).2 > tg) = false := by simpa using hle
    rw [this]; exact hj
  · exact ev_ifn h hj
theorem targets_pre_b {c : List Int} (hbig : ¬ (c.length : Int) > 1048576) {bits tg : Int} (h1 : spec_DrawTargetOf.f c = some bits) (h2 : spec_DrawBitsOf.f c = some tg)
    (hj : Ev (fun k => laws_FnTargets_b.j0 k c bits false (targetR bits).1 (targetR bits).2 (workR bits).1 (workR bits).2) true) : Ev (fun k => laws_FnTargets_b.f k c) true := by
  unfold laws_FnTargets_b.f
  refine ev_bind0 rfl (ev_ifn (by simpa using hbig) ?_)
  refine ev_bind0 h1 (ev_bind0 (impl_TargetOf_eq _) (ev_bind0 (impl_WorkOf_eq _) (ev_bind0 h2 ?_)))
  refine ev_bind (impl_BitsOf_ev _) (ev_bind (spec_BitsOf_ev _) (ev_if rfl (ev_bind (spec_BitsOf_ev _) (ev_if rfl ?_))))
  by_cases h : (bitsR tg).1 = 0
  · refine ev_if h (ev_bind0 (impl_TargetOf_eq _) ?_)
    have hle := bitsR_le tg h
    have : decide ((targetR (bitsR tg).2).2 > tg) = false := by simpa using hle
    rw [this]; exact hj
  · exact ev_ifn h hj
theorem FnTargets_either (c : List Int) (hl : c.length * 1 ≤ 140737488351232) (hw : ∀ x ∈ c, (Lit.int .u8 x).wf = true) :
    (∃ k, laws_FnTargets.f k c = some true) ∨ (∃ k, laws_FnTargets_b.f k c = some true) := by
  have hb : Bytes c := fun x hx => wf8 (hw x hx)
  have hc : c.length ≤ 140737488351232 := by omega
  by_cases hbig : (c.length : Int) > 1048576
  · left
    refine Ev.rounds (g := fun k => laws_FnTargets.f k c) ?_
    unfold laws_FnTargets.f
    exact ev_bind0 rfl (ev_if (by simpa using hbig) (Ev.now _))
  obtain ⟨bits, h1⟩ := spec_DrawTargetOf_some hb hc
  obtain ⟨tg, h2⟩ := spec_DrawBitsOf_some hb hc
  by_cases hok : okB bits
  · have ht : targetR bits = (0, tgt bits) := by unfold targetR; rw [if_pos hok]
    have hw0 : (workR bits).1 = 0 := by unfold workR; rw [if_pos hok]
    have hw1 := work_1 hok
    have hbd := tgt_bd hok
    have hbk := bits_back hok
    have hb7 : Bytes ([7] ++ c) := by
      intro x hx
      rcases List.mem_append.1 hx with h | h
      · simp only [List.mem_cons, List.not_mem_nil, or_false] at h; omega
      · exact hb x h
    obtain ⟨other, h3⟩ := spec_DrawTargetOf_some hb7 (by simp; omega)
    have h3' : spec_DrawWorkOf.f ([7] ++ c) = some other := by unfold spec_DrawWorkOf.f; rw [h3]; rfl
    by_cases hok2 : okB other
    · right
      have ht2 : targetR other = (0, tgt other) := by unfold targetR; rw [if_pos hok2]
      refine Ev.rounds (g := fun k => laws_FnTargets_b.f k c) (targets_pre_b hbig h1 h2 ?_)
      rw [ht]
      refine Ev.step (fun k => by rw [laws_FnTargets_b.j0, if_neg (by decide), if_pos rfl]) ?_
      refine ev_bind (impl_BitsOf_ev _) (ev_bind0 rfl (ev_if (by simp; omega) (ev_bind0 h3' (ev_bind0 (impl_TargetOf_eq _) ?_))))
      refine ev_if (by simp only []; omega) (ev_if hbk.1 (ev_bind0 (impl_TargetOf_eq _) (ev_if hbk.2 (ev_if hw1 (ev_if hw0 ?_)))))
      rw [ht2]
      refine ev_if rfl ?_
      by_cases hlt : tgt other < tgt bits
      · refine ev_if hlt (ev_bind0 (spec_TargetOf_eq _) ?_)
        rw [ht]
        simp only [BEq.rfl]
        exact Ev.now _
      · refine ev_ifn hlt (ev_bind0 (impl_WorkOf_eq _) (ev_if (work_mono hok hok2 (by omega)) (ev_bind0 (spec_TargetOf_eq _) ?_)))
        rw [ht]
        simp only [BEq.rfl]
        exact Ev.now _
    · left
      have ht2 : targetR other = (3, 0) := by unfold targetR; rw [if_neg hok2]
      refine Ev.rounds (g := fun k => laws_FnTargets.f k c) (targets_pre hbig h1 h2 ?_)
      rw [ht]
      refine Ev.step (fun k => by rw [laws_FnTargets.j0, if_neg (by decide), if_pos rfl]) ?_
      refine ev_bind (impl_BitsOf_ev _) (ev_bind0 rfl (ev_if (by simp; omega) (ev_bind0 h3' (ev_bind0 (impl_TargetOf_eq _) ?_))))
      refine ev_if (by simp only []; omega) (ev_if hbk.1 (ev_bind0 (impl_TargetOf_eq _) (ev_if hbk.2 (ev_if hw1 (ev_if hw0 ?_)))))
      rw [ht2]
      refine ev_ifn (by decide) (ev_bind0 (spec_TargetOf_eq _) ?_)
      rw [ht]
      simp only [BEq.rfl]
      exact Ev.now _
  · left
    have ht : targetR bits = (3, 0) := by unfold targetR; rw [if_neg hok]
    have hw0 : workR bits = (3, 0) := by unfold workR; rw [if_neg hok]
    refine Ev.rounds (g := fun k => laws_FnTargets.f k c) (targets_pre hbig h1 h2 ?_)
    rw [ht, hw0]
    refine Ev.step (fun k => by rw [laws_FnTargets.j0, if_neg (by decide), if_neg (by decide)]) ?_
    refine ev_bind0 (spec_TargetOf_eq _) ?_
    rw [ht]
    exact ev_if rfl (Ev.now _)
theorem FnTargets_walk (a0 : Option Addr) (len0 cap0 : Nat) (z0 : List Int) (w : World) (w0 : (a0 = none ∧ len0 = 0 ∧ cap0 = 0 ∧ z0 = []) ∨ ∃ x, a0 = some x ∧ len0 ≤ cap0 ∧ cap0 ≤ maxLen ∧ z0.length = cap0 ∧ (∀ i, i < z0.length → w.cell? (x.add i) = some (.int .u8 (z0.getD i 0))) ∧ ∀ n ∈ z0, (Lit.int .u8 n).wf = true) (y0 : len0 * 1 ≤ 140737488351232) :
    Calls Try.prog 6 #[.slice a0 len0 cap0] w fun e w' => e = .returned (.bool true) ∧ Below w.heap.size w w' := by
  obtain ⟨l0, rfl, hr0, hm0, hw0, hc0⟩ := ReadsInt.ofRowC w0
  rcases FnTargets_either l0 y0 hw0 with ⟨k, h⟩ | ⟨k, h⟩
  · refine (laws_FnTargets.calls k _ _ l0 true w (Kd.C_of_reads (d := (0 : Int)) (h1 := fun _ => rfl) hr0) hc0 h).mono ?_
    rintro e w' ⟨rfl, hd⟩
    exact ⟨rfl, hd⟩
  · refine (laws_FnTargets_b.calls k _ _ l0 true w (Kd.C_of_reads (d := (0 : Int)) (h1 := fun _ => rfl) hr0) hc0 h).mono ?_
    rintro e w' ⟨rfl, hd⟩
    exact ⟨rfl, hd⟩

end Go.Proofs.Ytmjmcgheeljieaa.Pure
