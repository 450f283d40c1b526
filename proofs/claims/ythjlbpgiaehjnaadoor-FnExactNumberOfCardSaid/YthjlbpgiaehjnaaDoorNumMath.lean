import Derived.Lib.ItoaMem
import Derived.Lib.ItoaNum
import Derived.Lib.AtoiTie
import Derived.Lib.ParseIntBTie
namespace Go.Proofs.YthjlbpgiaehjnaaDoor.NumMath
open Go.Lib
def dig (c : UInt8) : Prop := 48 ≤ c.toNat ∧ c.toNat ≤ 57
instance (c : UInt8) : Decidable (dig c) := inferInstanceAs (Decidable (_ ∧ _))
def valF (a : Nat) (l : List UInt8) : Nat := l.foldl (fun a c => a * 10 + (c.toNat - 48)) a
def Good (l : List UInt8) : Prop := l ≠ [] ∧ (∀ c ∈ l, dig c) ∧ (1 < l.length → l.head?.map (·.toNat) ≠ some 48)
theorem head_app {l m : List UInt8} (h : l ≠ []) : (l ++ m).head? = l.head? := by
  cases l with
  | nil => exact absurd rfl h
  | cons x l => rfl
theorem valF_append (a : Nat) (l : List UInt8) (c : UInt8) : valF a (l ++ [c]) = valF a l * 10 + (c.toNat - 48) := by simp [valF, List.foldl_append]
theorem dd_lt {u : Nat} (h : u < 10) : decDigits u = [UInt8.ofNat (48 + u)] := decDigits_one h
theorem dd_ge {u : Nat} (h : ¬ u < 10) : decDigits u = decDigits (u / 10) ++ [UInt8.ofNat (48 + u % 10)] := by rw [decDigits, dif_neg h]
theorem u8 {n : Nat} (h : n < 256) : (UInt8.ofNat n).toNat = n := by simp [UInt8.toNat_ofNat']; omega
theorem chr {c : UInt8} (h : dig c) : UInt8.ofNat (48 + (c.toNat - 48)) = c := by
  have : 48 + (c.toNat - 48) = c.toNat := by unfold dig at h; omega
  rw [this]; simp
/-- What decDigits writes is good, and spells the number. -/
theorem dd_good (u : Nat) : Good (decDigits u) ∧ valF 0 (decDigits u) = u ∧ (1 ≤ u → (decDigits u).head?.map (·.toNat) ≠ some 48) := by
  induction u using Nat.strongRecOn with
  | _ u ih =>
    by_cases h : u < 10
    · rw [dd_lt h]
      have e := u8 (n := 48 + u) (by omega)
      refine ⟨⟨by simp, fun c hc => ?_, fun hl => by simp at hl⟩, by simp only [valF, List.foldl_cons, List.foldl_nil, e]; omega, fun h1 => by simp only [List.head?_cons, Option.map_some, e]; simp; omega⟩
      simp only [List.mem_singleton] at hc; subst hc; unfold dig; rw [e]; omega
    · rw [dd_ge h]
      obtain ⟨⟨g1, g2, g3⟩, hv, hh⟩ := ih (u / 10) (by omega)
      have e := u8 (n := 48 + u % 10) (by omega)
      have hd : (decDigits (u / 10) ++ [UInt8.ofNat (48 + u % 10)]).head?.map (·.toNat) ≠ some 48 := by
        rw [head_app g1]; exact hh (by omega)
      refine ⟨⟨by simp, fun c hc => ?_, fun _ => hd⟩, by rw [valF_append, hv, e]; omega, fun _ => hd⟩
      rcases List.mem_append.1 hc with hc | hc
      · exact g2 c hc
      · simp only [List.mem_singleton] at hc; subst hc; unfold dig; rw [e]; omega
theorem valF_pos {l : List UInt8} (hd : ∀ c ∈ l, dig c) (hne : l ≠ []) (hh : l.head?.map (·.toNat) ≠ some 48) : ∀ a, 1 ≤ valF a l ∨ False := by
  intro a
  left
  cases l with
  | nil => exact absurd rfl hne
  | cons c r =>
    have h1 := hd c (by simp)
    simp at hh
    have h2 : 1 ≤ a * 10 + (c.toNat - 48) := by unfold dig at h1; omega
    have : ∀ (r : List UInt8) (b : Nat), 1 ≤ b → 1 ≤ valF b r := by
      intro r; induction r with
      | nil => intro b hb; exact hb
      | cons x r ih => intro b hb; exact ih (b * 10 + (x.toNat - 48)) (by omega)
    exact this r _ h2
/-- A good numeral is what decDigits writes of its number. -/
theorem good_dd : ∀ (n : Nat) (l : List UInt8), l.length = n → Good l → decDigits (valF 0 l) = l := by
  intro n
  induction n with
  | zero => intro l h g; exact absurd (List.length_eq_zero_iff.1 h) g.1
  | succ n ih =>
    intro l h g
    obtain ⟨g1, g2, g3⟩ := g
    obtain ⟨m, c, rfl⟩ : ∃ m c, l = m ++ [c] := ⟨l.dropLast, l.getLast g1, (List.dropLast_concat_getLast g1).symm⟩
    have hc := g2 c (by simp)
    have hcd : c.toNat - 48 < 10 := by unfold dig at hc; omega
    by_cases hm : m = []
    · subst hm
      simp only [List.nil_append, valF, List.foldl_cons, List.foldl_nil, Nat.zero_mul, Nat.zero_add]
      rw [dd_lt hcd, chr hc]
    · have hl : m.length = n := by simpa using h
      have hh : m.head?.map (·.toNat) ≠ some 48 := by
        have := g3 (by simp; exact List.length_pos_iff.2 hm)
        rwa [head_app hm] at this
      have gm : Good m := ⟨hm, fun x hx => g2 x (by simp [hx]), fun _ => hh⟩
      have hv := ih m hl gm
      have hp := (valF_pos gm.2.1 hm hh 0).resolve_right id
      rw [valF_append, dd_ge (by omega), show (valF 0 m * 10 + (c.toNat - 48)) / 10 = valF 0 m by omega, show (valF 0 m * 10 + (c.toNat - 48)) % 10 = c.toNat - 48 by omega, hv, chr hc]
theorem decFrom_val : ∀ (l : List UInt8) (a : Nat), (∀ c ∈ l, dig c) → decFrom a l = some (valF a l)
  | [], a, _ => rfl
  | c :: r, a, h => by
    have hc := h c (by simp)
    have hv : digitVal c = some (c.toNat - 48) := by
      unfold digitVal
      rw [if_pos (by unfold dig at hc; exact hc)]
    unfold decFrom
    rw [hv]
    exact decFrom_val r _ (fun x hx => h x (by simp [hx]))
theorem valF_lt : ∀ (l : List UInt8) (a : Nat), (∀ c ∈ l, dig c) → valF a l < (a + 1) * 10 ^ l.length
  | [], a, _ => by simp [valF]
  | c :: r, a, h => by
    have hc := h c (by simp)
    have := valF_lt r (a * 10 + (c.toNat - 48)) (fun x hx => h x (by simp [hx]))
    have e : valF a (c :: r) = valF (a * 10 + (c.toNat - 48)) r := rfl
    have h2 : a * 10 + (c.toNat - 48) + 1 ≤ (a + 1) * 10 := by unfold dig at hc; omega
    have h3 := Nat.mul_le_mul_right (10 ^ r.length) h2
    rw [e, List.length_cons, Nat.pow_succ, Nat.mul_comm (10 ^ r.length) 10, ← Nat.mul_assoc]
    omega
/-- A good numeral of at most five digits is read as its value. -/
theorem good_parse {l : List UInt8} (g : Good l) (h5 : l.length ≤ 5) : parseIntB 64 l = .ok (valF 0 l : Int) := by
  obtain ⟨g1, g2, g3⟩ := g
  have hv := valF_lt l 0 g2
  have hp : 10 ^ l.length ≤ 10 ^ 5 := Nat.pow_le_pow_right (by decide) h5
  rw [parseIntB_64]
  cases l with
  | nil => exact absurd rfl g1
  | cons c r =>
    have hc := g2 c (by simp)
    have n1 : ¬ (c.toNat = 43 ∨ c.toNat = 45) := by unfold dig at hc; omega
    have n2 : ¬ c.toNat = 45 := by unfold dig at hc; omega
    have hm : parseMag (c :: r) = .ok (valF 0 (c :: r)) := by
      unfold parseMag
      rw [if_neg g1, parseUint10_short (c :: r) 0 0 (by decide) (by omega), decFrom_val _ _ g2]
      rfl
    unfold atoiAll
    simp only [if_neg n1, hm]
    rw [if_neg (by omega), if_neg (by omega), if_neg n2]
instance (l : List UInt8) : Decidable (Good l) := inferInstanceAs (Decidable (_ ∧ _ ∧ _))
/-- What NumberOf answers: the code and the number. -/
def numV (l : List UInt8) : Int × Int := if l.length ≤ 5 ∧ Good l then (0, (valF 0 l : Int)) else (5, 0)
theorem numV_bad {l : List UInt8} (h : ¬ (l.length ≤ 5 ∧ Good l)) : numV l = (5, 0) := if_neg h
theorem itoa_val {l : List UInt8} (g : Good l) : itoa (valF 0 l : Int) = l := by rw [itoa_nonneg, good_dd _ l rfl g]
theorem numV_ok {l : List UInt8} {n : Int} (h5 : l.length ≤ 5) (_hp : parseIntB 64 l = .ok n) (h0 : 0 ≤ n) (hi : itoa n = l) : numV l = (0, n) := by
  have e : itoa n = decDigits n.toNat := by unfold itoa; rw [if_neg (by omega)]
  obtain ⟨g, hv, _⟩ := dd_good n.toNat
  rw [← e, hi] at g hv
  unfold numV
  rw [if_pos ⟨h5, g⟩, hv, Int.toNat_of_nonneg h0]
theorem numV_no {l : List UInt8} (h : ∀ n : Int, parseIntB 64 l = .ok n → 0 ≤ n → itoa n ≠ l) : numV l = (5, 0) := by
  refine numV_bad (fun hg => ?_)
  exact h _ (good_parse hg.2 hg.1) (by omega) (itoa_val hg.2)
end Go.Proofs.YthjlbpgiaehjnaaDoor.NumMath
