/- for every code, bytes that come in pieces are the lines that they are at once, and the entry of a map is right, as the law FnCuts says: it answers true. -/
import Derived.Lib.SplitLaws
import Derived.Lib.Strings
import Derived.Lib.Bytes
import Derived.Lib.Replace
import Derived.Test.YthjlbpgiaehjnaaDoorQFnCutsx1
import Derived.Test.YthjlbpgiaehjnaaDoorQFnCutsx2
import Derived.Test.YthjlbpgiaehjnaaDoorQFnCutsx3
import Derived.Test.YthjlbpgiaehjnaaDoorQFnCutsx4
import Derived.Test.YthjlbpgiaehjnaaDoorQFnCutsx5
import Derived.Test.YthjlbpgiaehjnaaDoorQFnCutsx6
import Derived.Test.YthjlbpgiaehjnaaDoorQFnCutsx7
import Derived.Test.YthjlbpgiaehjnaaDoorQFnCutsx8
import Derived.Test.YthjlbpgiaehjnaaDoorQFnCutsx9
import Derived.Test.YthjlbpgiaehjnaaDoorQFnCutsx10
import Derived.Test.YthjlbpgiaehjnaaDoorQFnCutsx11
import Derived.Test.YthjlbpgiaehjnaaDoorQFnCutsx12
import Derived.Test.YthjlbpgiaehjnaaDoorQFnCutsx13
import Derived.Test.YthjlbpgiaehjnaaDoorQFnCutsx14
namespace Go.Proofs.YthjlbpgiaehjnaaDoor.Pure
open Go.RowKit Go.Proofs.YthjlbpgiaehjnaaDoor.QFnCuts Go.Proofs.YthjlbpgiaehjnaaDoorW.PrintWords Go.Proofs.YthjlbpgiaehjnaaDoorW.PrintLast
set_option linter.unusedVariables false
set_option linter.unusedSimpArgs false
theorem wrap_id {x : Int} (h1 : -9223372036854775808 ≤ x) (h2 : x ≤ 9223372036854775807) : wrap64 x = x := by
 unfold wrap64; omega
theorem wf64 {x : Int} (h : (Lit.int .i64 x).wf = true) : -9223372036854775808 ≤ x ∧ x ≤ 9223372036854775807 := by
 simpa [Lit.wf, IntKind.min, IntKind.max, IntKind.signed, IntKind.bits] using h
theorem wf8 {x : Int} (h : (Lit.int .u8 x).wf = true) : 0 ≤ x ∧ x ≤ 255 := by
 simpa [Lit.wf, IntKind.min, IntKind.max, IntKind.signed, IntKind.bits] using h
theorem ev_some {α : Type} {g : Nat → Option α} {r : α} (h : ∀ k, g k = some r) : Ev g r := ⟨0, fun k _ => h k⟩
theorem ev_succ {α : Type} {g : Nat → Option α} {r : α} (h : ∀ k, g (k + 1) = some r) : Ev g r := Ev.step h (Ev.now r)
theorem ev_bind {α β : Type} {g : Nat → Option α} {f : α → Nat → Option β} {a : α} {r : β} (h : Ev g a) (k : Ev (f a) r) : Ev (fun n => (g n).bind fun t => f t n) r :=
 Ev.bind (f := fun n t => f t n) h k
theorem ev_if {α : Type} {p : Prop} [Decidable p] {g f : Nat → Option α} {r : α} (hp : p) (k : Ev g r) : Ev (fun n => if p then g n else f n) r :=
 Ev.congr (fun n => if_pos hp) k
theorem ev_ifn {α : Type} {p : Prop} [Decidable p] {g f : Nat → Option α} {r : α} (hp : ¬ p) (k : Ev f r) : Ev (fun n => if p then g n else f n) r :=
 Ev.congr (fun n => if_neg hp) k
theorem ev_bind0 {α β : Type} {g : Option α} {f : α → Nat → Option β} {a : α} {r : β} (h : g = some a) (k : Ev (f a) r) : Ev (fun n => g.bind fun t => f t n) r := by
 subst h; exact k
theorem rd_mid (pre : List Int) (b : Int) (suf : List Int) : rd (pre ++ b :: suf) (pre.length : Int) = b := by
 unfold rd
 simp
theorem rd_at {l : List Int} {i : Int} (h0 : 0 ≤ i) (h1 : i < l.length) : rd l i = l[i.toNat]'(by omega) := by
 unfold rd
 rw [List.getD_eq_getElem?_getD, List.getElem?_eq_getElem (by omega)]; rfl
theorem split_at_len {α : Type} (l : List α) (n : Nat) (h : n ≤ l.length) : ∃ pre suf, l = pre ++ suf ∧ pre.length = n :=
 ⟨l.take n, l.drop n, (List.take_append_drop n l).symm, by simp; omega⟩
def stepS (a b : Int) : Int := (33 * a + b + 1) % 2147483647
def sumB (l : List Int) : Int := l.foldl stepS 5381
def Bytes (l : List Int) : Prop := ∀ x ∈ l, 0 ≤ x ∧ x ≤ 255
theorem stepS_bd (a b : Int) : 0 ≤ stepS a b ∧ stepS a b < 2147483647 := by unfold stepS; omega
theorem sumB_bd_go (l : List Int) : ∀ a : Int, 0 ≤ a → a < 2147483647 → 0 ≤ l.foldl stepS a ∧ l.foldl stepS a < 2147483647 := by
 induction l with
 | nil => intro a h0 h1; exact ⟨h0, h1⟩
 | cons b l ih => intro a _ _; exact ih _ (stepS_bd a b).1 (stepS_bd a b).2
theorem sumB_bd (l : List Int) : 0 ≤ sumB l ∧ sumB l ≤ 2147483646 := by
 have := sumB_bd_go l 5381 (by omega) (by omega)
 unfold sumB; omega
theorem step_wrap {a b : Int} (h0 : 0 ≤ a) (h1 : a < 2147483647) (hb : 0 ≤ b ∧ b ≤ 255) :
 Int.tmod (wrap64 ((wrap64 ((wrap64 (a * 33)) + (wrap64 b))) + 1)) 2147483647 = stepS a b := by
 rw [wrap_id (x := a * 33) (by omega) (by omega), wrap_id (x := b) (by omega) (by omega), wrap_id (x := a * 33 + b) (by omega) (by omega), wrap_id (x := a * 33 + b + 1) (by omega) (by omega), Int.tmod_eq_emod_of_nonneg (by omega)]
 unfold stepS; rw [Int.mul_comm a 33]
theorem rd_byte {c : List Int} (hb : Bytes c) (i : Int) : 0 ≤ rd c i ∧ rd c i ≤ 255 := by
 unfold rd
 rw [List.getD_eq_getElem?_getD]
 cases h : c[i.toNat]? with
 | none => simp
 | some x => exact hb x (List.mem_of_getElem? h)
theorem spec_l1Next_some {c : List Int} (hb : Bytes c) (hc : c.length ≤ 140737488351232) (n m : Int) (h0 : 0 ≤ n) (h1 : n ≤ 1000000) (hm : m ≤ 1000000) :
 ∃ v, spec_l1Next.f c n m = some (v, n + 1) ∧ 0 ≤ v ∧ (1 ≤ m → v < m) ∧ (m < 1 → v = 0) := by
 unfold spec_l1Next.f
 rw [wrap_id (x := n + 1) (by omega) (by omega), wrap_id (x := n + 1 - 1) (by omega) (by omega), show n + 1 - 1 = n by omega]
 by_cases hm1 : m < 1
 · rw [if_pos hm1]; exact ⟨0, rfl, by omega, by omega, fun _ => rfl⟩
 rw [if_neg hm1]
 by_cases hk : (c.length : Int) = 0
 · rw [if_pos hk, if_neg (by omega), wrap_id (x := n * 7) (by omega) (by omega), Int.tmod_eq_emod_of_nonneg (by omega)]
   exact ⟨_, rfl, Int.emod_nonneg _ (by omega), fun _ => Int.emod_lt_of_pos _ (by omega), fun h => absurd h hm1⟩
 rw [if_neg hk]
 have hkp : (0 : Int) < c.length := by omega
 have e1 : Int.tmod n (c.length : Int) = n % (c.length : Int) := Int.tmod_eq_emod_of_nonneg h0
 have e2 : Int.tdiv n (c.length : Int) = n / (c.length : Int) := Int.tdiv_eq_ediv_of_nonneg h0
 have b1 := Int.emod_nonneg n (b := (c.length : Int)) (by omega)
 have b2 := Int.emod_lt_of_pos n hkp
 have b3 : 0 ≤ n / (c.length : Int) := Int.ediv_nonneg h0 (by omega)
 have b4 : n / (c.length : Int) ≤ n := Int.ediv_le_self _ h0
 have r1 := rd_byte hb (n % (c.length : Int))
 rw [e1, e2, if_pos b1, if_pos b2]
 rw [wrap_id (x := rd c (n % (c.length : Int))) (by omega) (by omega), wrap_id (x := n / (c.length : Int)) (by omega) (by omega), wrap_id (x := n / (c.length : Int) * 37) (by omega) (by omega), wrap_id (x := rd c (n % (c.length : Int)) + n / (c.length : Int) * 37) (by omega) (by omega)]
 by_cases h200 : m > 200
 · rw [if_pos h200]
   rw [wrap_id (x := n + 1) (by omega) (by omega)]
   have e3 : Int.tmod (n + 1) (c.length : Int) = (n + 1) % (c.length : Int) := Int.tmod_eq_emod_of_nonneg (by omega)
   have b5 := Int.emod_nonneg (n + 1) (b := (c.length : Int)) (by omega)
   have b6 := Int.emod_lt_of_pos (n + 1) hkp
   have r2 := rd_byte hb ((n + 1) % (c.length : Int))
   rw [e3, if_pos b5, if_pos b6, if_neg (by omega)]
   generalize rd c (n % (c.length : Int)) = x at *
   generalize rd c ((n + 1) % (c.length : Int)) = y at *
   generalize n / (c.length : Int) = z at *
   rw [wrap_id (x := (x + z * 37) * 251) (by omega) (by omega), wrap_id (x := y) (by omega) (by omega), wrap_id (x := y * 13) (by omega) (by omega), wrap_id (x := (x + z * 37) * 251 + y * 13) (by omega) (by omega), wrap_id (x := (x + z * 37) * 251 + y * 13 + n) (by omega) (by omega), Int.tmod_eq_emod_of_nonneg (by omega)]
   exact ⟨_, rfl, Int.emod_nonneg _ (by omega), fun _ => Int.emod_lt_of_pos _ (by omega), fun h => absurd h hm1⟩
 · rw [if_neg h200, if_neg (by omega), Int.tmod_eq_emod_of_nonneg (by omega)]
   exact ⟨_, rfl, Int.emod_nonneg _ (by omega), fun _ => Int.emod_lt_of_pos _ (by omega), fun h => absurd h hm1⟩
theorem rd_mem {l : List Int} {i : Int} (h0 : 0 ≤ i) (h1 : i < l.length) : rd l i ∈ l := by
 rw [rd_at h0 h1]; exact List.getElem_mem _
theorem spec_l1Pick_some {c : List Int} (hb : Bytes c) (hc : c.length ≤ 140737488351232) (n : Int) (h0 : 0 ≤ n) (h1 : n ≤ 1000000) (l : List Int) (hl : 1 ≤ l.length) (hl2 : l.length ≤ 1000) :
 ∃ v, v ∈ l ∧ spec_l1Pick.f c n l = some (v, n + 1) := by
 unfold spec_l1Pick.f
 obtain ⟨j, hj, j0, j1, _⟩ := spec_l1Next_some hb hc n (l.length : Int) h0 h1 (by omega)
 rw [hj]
 simp only [Option.bind_some]
 rw [if_pos j0, if_pos (j1 (by omega))]
 exact ⟨_, rd_mem j0 (j1 (by omega)), rfl⟩
theorem ba_toList_loop (b : ByteArray) : ∀ (n i : Nat) (r : List UInt8), b.data.toList.length - i = n → ByteArray.toList.loop b i r = r.reverse ++ b.data.toList.drop i := by
 obtain ⟨b⟩ := b
 intro n
 induction n with
 | zero =>
  intro i r h
  rw [ByteArray.toList.loop, if_neg (by show ¬ i < b.size; simp at h; omega), List.drop_eq_nil_of_le (by omega), List.append_nil]
 | succ n ih =>
  intro i r h
  have hi : i < b.toList.length := by have h' : b.toList.length - i = n + 1 := h; omega
  rw [ByteArray.toList.loop, if_pos (by show i < b.size; simpa using hi), ih (i + 1) _ (by omega), List.drop_eq_getElem_cons hi]
  have e : ByteArray.get! ⟨b⟩ i = b.toList[i] := by
   show b[i]! = _
   rw [getElem!_pos b i (by simpa using hi)]; simp
  rw [e]; simp
theorem ba_toList (b : ByteArray) : b.toList = b.data.toList := by
 unfold ByteArray.toList
 rw [ba_toList_loop b _ 0 [] rfl]; simp
def vAt (l : List S81) (i : Nat) : S81 := rd_T81 l (i : Int)
def tx (l : List S81) (i : Nat) : List UInt8 := (vAt l i).f2.data.toList
def endL (l : List S81) (E : Nat → Option Nat) (m : Bool) : Nat → Nat → Option Nat
 | 0, a => some a
 | c + 1, a => if m = true then (if a < l.length ∧ (vAt l a).f0 = 4 then (E (a + 1)).bind fun e => endL l E m c e else none) else (E a).bind fun e => endL l E m c e
def nest (x : S81) : Prop := x.f0 = 5 ∨ x.f0 = 6
instance (x : S81) : Decidable (nest x) := inferInstanceAs (Decidable (_ ∨ _))
def endF (l : List S81) : Nat → Nat → Option Nat
 | 0, _ => none
 | k + 1, a => if a < l.length then (if nest (vAt l a) then endL l (endF l k) (decide ((vAt l a).f0 = 6)) (vAt l a).f1.toNat (a + 1) else some (a + 1)) else none
theorem endL_congr (l : List S81) {E E' : Nat → Option Nat} (m : Bool) : ∀ (c a : Nat), (∀ b, a ≤ b → E b = E' b) → (∀ b e, E b = some e → b < e) → endL l E m c a = endL l E' m c a
 | 0, _, _, _ => rfl
 | c + 1, a, h, hu => by
  unfold endL
  cases m with
  | true =>
   rw [if_pos rfl, if_pos rfl]
   by_cases hc : a < l.length ∧ (vAt l a).f0 = 4
   · rw [if_pos hc, if_pos hc, ← h (a + 1) (by omega)]
     cases he : E (a + 1) with
     | none => rfl
     | some e => exact endL_congr l true c e (fun b hb => h b (by have := hu _ _ he; omega)) hu
   · rw [if_neg hc, if_neg hc]
  | false =>
   rw [if_neg (by decide), if_neg (by decide), ← h a (by omega)]
   cases he : E a with
   | none => rfl
   | some e => exact endL_congr l false c e (fun b hb => h b (by have := hu _ _ he; omega)) hu
theorem endL_up (l : List S81) {E : Nat → Option Nat} (m : Bool) (hu : ∀ b e, E b = some e → b < e ∧ e ≤ l.length) : ∀ (c a e : Nat), a ≤ l.length → endL l E m c a = some e → a ≤ e ∧ e ≤ l.length
 | 0, a, e, ha, h => by cases h; exact ⟨Nat.le_refl _, ha⟩
 | c + 1, a, e, ha, h => by
  unfold endL at h
  cases m with
  | true =>
   rw [if_pos rfl] at h
   by_cases hc : a < l.length ∧ (vAt l a).f0 = 4
   · rw [if_pos hc] at h
     obtain ⟨b, hb, h⟩ := Option.bind_eq_some_iff.mp h
     have := hu _ _ hb
     have := endL_up l true hu c b e (by omega) h
     omega
   · rw [if_neg hc] at h; cases h
  | false =>
   rw [if_neg (by decide)] at h
   obtain ⟨b, hb, h⟩ := Option.bind_eq_some_iff.mp h
   have := hu _ _ hb
   have := endL_up l false hu c b e (by omega) h
   omega
theorem endF_up (l : List S81) : ∀ (k a e : Nat), endF l k a = some e → a < e ∧ e ≤ l.length
 | 0, _, _, h => by simp [endF] at h
 | k + 1, a, e, h => by
  unfold endF at h
  by_cases ha : a < l.length
  · rw [if_pos ha] at h
    by_cases hn : nest (vAt l a)
    · rw [if_pos hn] at h
      have := endL_up l _ (endF_up l k) _ _ _ (by omega) h
      omega
    · rw [if_neg hn] at h; cases h; omega
  · rw [if_neg ha] at h; cases h
theorem endF_same (l : List S81) : ∀ (k k' a : Nat), l.length < k + a → l.length < k' + a → endF l k a = endF l k' a
 | 0, 0, _, _, _ => rfl
 | 0, k' + 1, a, h, _ => by unfold endF; rw [if_neg (by omega)]
 | k + 1, 0, a, _, h => by unfold endF; rw [if_neg (by omega)]
 | k + 1, k' + 1, a, h, h' => by
  unfold endF
  by_cases ha : a < l.length
  · rw [if_pos ha, if_pos ha]
    by_cases hn : nest (vAt l a)
    · rw [if_pos hn, if_pos hn]
      exact endL_congr l _ _ _ (fun b hb => endF_same l k k' b (by omega) (by omega)) (fun b e he => (endF_up l k b e he).1)
    · rw [if_neg hn, if_neg hn]
  · rw [if_neg ha, if_neg ha]
def endV (l : List S81) (a : Nat) : Option Nat := endF l (l.length + 1) a
theorem endV_up {l : List S81} {a e : Nat} (h : endV l a = some e) : a < e ∧ e ≤ l.length := endF_up l _ a e h
theorem endV_out {l : List S81} {a : Nat} (h : ¬ a < l.length) : endV l a = none := by unfold endV endF; rw [if_neg h]
theorem endV_one {l : List S81} {a : Nat} (h : a < l.length) (hn : ¬ nest (vAt l a)) : endV l a = some (a + 1) := by unfold endV endF; rw [if_pos h, if_neg hn]
theorem endV_nest {l : List S81} {a : Nat} (h : a < l.length) (hn : nest (vAt l a)) : endV l a = endL l (endV l) (decide ((vAt l a).f0 = 6)) (vAt l a).f1.toNat (a + 1) := by
 have e : endV l a = endL l (endF l l.length) (decide ((vAt l a).f0 = 6)) (vAt l a).f1.toNat (a + 1) := by
  show endF l (l.length + 1) a = _
  unfold endF; rw [if_pos h, if_pos hn]
 rw [e]
 exact endL_congr l _ _ _ (fun b hb => endF_same l _ _ b (by omega) (by omega)) (fun b e he => (endF_up l _ b e he).1)
theorem endL_map {l : List S81} {E : Nat → Option Nat} {c a : Nat} (h : a < l.length ∧ (vAt l a).f0 = 4) : endL l E true (c + 1) a = (E (a + 1)).bind fun e => endL l E true c e := by
 show (if true = true then (if a < l.length ∧ (vAt l a).f0 = 4 then (E (a + 1)).bind fun e => endL l E true c e else none) else (E a).bind fun e => endL l E true c e) = _
 rw [if_pos rfl, if_pos h]
theorem endL_map_no {l : List S81} {E : Nat → Option Nat} {c a : Nat} (h : ¬ (a < l.length ∧ (vAt l a).f0 = 4)) : endL l E true (c + 1) a = none := by
 show (if true = true then (if a < l.length ∧ (vAt l a).f0 = 4 then (E (a + 1)).bind fun e => endL l E true c e else none) else (E a).bind fun e => endL l E true c e) = _
 rw [if_pos rfl, if_neg h]
theorem endL_list {l : List S81} {E : Nat → Option Nat} {c a : Nat} : endL l E false (c + 1) a = (E a).bind fun e => endL l E false c e := rfl
def twL (l : List S81) : Nat → Nat → (List UInt8 → Bool) → Bool
 | 0, _, _ => false
 | c + 1, a, seen => seen (tx l a) || twL l c ((endV l (a + 1)).getD 0) (fun s => tx l a == s || seen s)
def twice (l : List S81) (a : Nat) : Bool := decide ((vAt l a).f0 = 6) && twL l (vAt l a).f1.toNat (a + 1) fun _ => false
def anyR (l : List S81) (a b : Nat) : Bool := (List.range' a (b - a)).any (twice l)
theorem anyR_self (l : List S81) (a : Nat) : anyR l a a = false := by simp [anyR]
theorem anyR_cons (l : List S81) {a b : Nat} (h : a < b) : anyR l a b = (twice l a || anyR l (a + 1) b) := by
 unfold anyR
 obtain ⟨n, rfl⟩ : ∃ n, b = a + (n + 1) := ⟨b - a - 1, by omega⟩
 rw [show a + (n + 1) - a = n + 1 by omega, show a + (n + 1) - (a + 1) = n by omega]
 simp [List.range'_succ]
theorem anyR_trans (l : List S81) {a b c : Nat} (h1 : a ≤ b) (h2 : b ≤ c) : anyR l a c = (anyR l a b || anyR l b c) := by
 unfold anyR
 rw [show c - a = (b - a) + (c - b) by omega, ← List.range'_append_1, List.any_append, show a + (b - a) = b by omega]
theorem endL_sub (l : List S81) (m : Bool) : ∀ (c a e : Nat), a ≤ l.length → (∀ b e', a ≤ b → endV l b = some e' → ∀ i, b ≤ i → i < e' → (vAt l i).f0 = 6 → (endV l i).isSome) → endL l (endV l) m c a = some e → ∀ i, a ≤ i → i < e → (vAt l i).f0 = 6 → (endV l i).isSome
 | 0, a, e, _, _, h, i, h1, h2, _ => by cases h; omega
 | c + 1, a, e, ha, ih, h, i, h1, h2, h6 => by
  cases m with
  | true =>
   by_cases hc : a < l.length ∧ (vAt l a).f0 = 4
   · rw [endL_map hc] at h
     obtain ⟨b, hb, h⟩ := Option.bind_eq_some_iff.mp h
     have hu := endV_up hb
     by_cases e1 : i = a
     · subst e1; rw [hc.2] at h6; exact absurd h6 (by decide)
     · by_cases e2 : i < b
       · exact ih (a + 1) b (by omega) hb i (by omega) e2 h6
       · exact endL_sub l true c b e hu.2 (fun b' e' hb' => ih b' e' (by omega)) h i (by omega) h2 h6
   · rw [endL_map_no hc] at h; cases h
  | false =>
   rw [endL_list] at h
   obtain ⟨b, hb, h⟩ := Option.bind_eq_some_iff.mp h
   have hu := endV_up hb
   by_cases e2 : i < b
   · exact ih a b (by omega) hb i (by omega) e2 h6
   · exact endL_sub l false c b e hu.2 (fun b' e' hb' => ih b' e' (by omega)) h i (by omega) h2 h6
theorem endV_sub (l : List S81) : ∀ (n a e : Nat), l.length - a ≤ n → endV l a = some e → ∀ i, a ≤ i → i < e → (vAt l i).f0 = 6 → (endV l i).isSome
 | 0, a, e, hn, h, _, _, _, _ => by have := endV_up h; omega
 | n + 1, a, e, hn, h, i, h1, h2, h6 => by
  have hu := endV_up h
  by_cases e1 : i = a
  · subst e1; rw [h]; rfl
  · by_cases hne : nest (vAt l a)
    · have h' := h
      rw [endV_nest (by omega) hne] at h'
      exact endL_sub l _ _ (a + 1) e (by omega) (fun b e' hb he' => endV_sub l n b e' (by omega) he') h' i (by omega) h2 h6
    · rw [endV_one (by omega) hne] at h; cases h; omega
def depL (l : List S81) (D : Nat → Nat) (m : Bool) : Nat → Nat → Nat
 | 0, _ => 0
 | c + 1, a => max (1 + D (if m = true then a + 1 else a)) (depL l D m c ((endV l (if m = true then a + 1 else a)).getD l.length))
def depF (l : List S81) : Nat → Nat → Nat
 | 0, _ => 0
 | k + 1, a => if a < l.length then (if nest (vAt l a) then depL l (depF l k) (decide ((vAt l a).f0 = 6)) (vAt l a).f1.toNat (a + 1) else 0) else 0
theorem depL_congr (l : List S81) {D D' : Nat → Nat} (m : Bool) : ∀ (c a : Nat), a ≤ l.length → (∀ b, a ≤ b → D b = D' b) → depL l D m c a = depL l D' m c a
 | 0, _, _, _ => rfl
 | c + 1, a, ha, h => by
  unfold depL
  have hb : a ≤ (if m = true then a + 1 else a) := by split <;> omega
  rw [h _ hb]
  congr 1
  generalize (if m = true then a + 1 else a) = b at hb ⊢
  cases he : endV l b with
  | none => exact depL_congr l m c _ (Nat.le_refl _) (fun b hb => h b (by show a ≤ b; have : l.length ≤ b := hb; omega))
  | some e => have hu := endV_up he; exact depL_congr l m c e hu.2 (fun b hb => h b (by omega))
theorem depF_same (l : List S81) : ∀ (k k' a : Nat), l.length < k + a → l.length < k' + a → depF l k a = depF l k' a
 | 0, 0, _, _, _ => rfl
 | 0, k' + 1, a, h, _ => by unfold depF; rw [if_neg (by omega)]
 | k + 1, 0, a, _, h => by unfold depF; rw [if_neg (by omega)]
 | k + 1, k' + 1, a, h, h' => by
  unfold depF
  by_cases ha : a < l.length
  · rw [if_pos ha, if_pos ha]
    by_cases hn : nest (vAt l a)
    · rw [if_pos hn, if_pos hn]
      exact depL_congr l _ _ _ (by omega) (fun b hb => depF_same l k k' b (by omega) (by omega))
    · rw [if_neg hn, if_neg hn]
  · rw [if_neg ha, if_neg ha]
def depV (l : List S81) (a : Nat) : Nat := depF l (l.length + 1) a
theorem depV_one {l : List S81} {a : Nat} (hn : ¬ nest (vAt l a)) : depV l a = 0 := by
 unfold depV depF; by_cases h : a < l.length
 · rw [if_pos h, if_neg hn]
 · rw [if_neg h]
theorem depV_nest {l : List S81} {a : Nat} (h : a < l.length) (hn : nest (vAt l a)) : depV l a = depL l (depV l) (decide ((vAt l a).f0 = 6)) (vAt l a).f1.toNat (a + 1) := by
 have e : depV l a = depL l (depF l l.length) (decide ((vAt l a).f0 = 6)) (vAt l a).f1.toNat (a + 1) := by
  show depF l (l.length + 1) a = _
  unfold depF; rw [if_pos h, if_pos hn]
 rw [e]
 exact depL_congr l _ _ _ (by omega) (fun b hb => depF_same l _ _ b (by omega) (by omega))
theorem depL_map {l : List S81} {D : Nat → Nat} {c a b : Nat} (h : endV l (a + 1) = some b) : depL l D true (c + 1) a = max (1 + D (a + 1)) (depL l D true c b) := by
 show max (1 + D (a + 1)) (depL l D true c ((endV l (a + 1)).getD l.length)) = _
 rw [h]; rfl
theorem depL_list {l : List S81} {D : Nat → Nat} {c a b : Nat} (h : endV l a = some b) : depL l D false (c + 1) a = max (1 + D a) (depL l D false c b) := by
 show max (1 + D a) (depL l D false c ((endV l a).getD l.length)) = _
 rw [h]; rfl
theorem rdS_small {L : List ByteArray} {m : Nat} (h : ∀ x ∈ L, x.size ≤ m) (i : Int) : (rdOf ByteArray.empty L i).size ≤ m := by
 unfold rdOf
 rw [List.getD_eq_getElem?_getD]
 cases h1 : L[i.toNat]? with
 | none => exact Nat.zero_le _
 | some x => exact h x (List.mem_of_getElem? h1)
def mU : Nat → Nat
 | 0 => 3
 | d + 1 => 3 + 3 * mU d
def mW : Nat → Nat
 | 0 => 1
 | d + 1 => 4 + 3 * mW d
def Small (r : List S81) : Prop := ∀ x ∈ r, x.f2.size ≤ 100
theorem Small.app {r q : List S81} (h : Small r) (h' : Small q) : Small (r ++ q) := fun x hx => (List.mem_append.1 hx).elim (h x) (h' x)
theorem Small.one {a b : Int} {s : ByteArray} (h : s.size ≤ 100) : Small [⟨a, b, s⟩] := fun x hx => by rw [List.mem_singleton.1 hx]; exact h
theorem l8Make_j0 {c : List Int} (hb : Bytes c) (hc : c.length ≤ 140737488351232) (x1 x5 n : Int) (h0 : 0 ≤ n) (h1 : n ≤ 1000000) (h5 : x5 = 1 ∨ x5 = 2 ∨ x5 = 3 ∨ x5 = 4) :
 ∃ r n', Ev (fun k => spec_l8Make.j0 k x1 x5 c n) (r, n') ∧ r.length = 1 ∧ Small r ∧ 0 ≤ n' ∧ n' ≤ n + 1 := by
 by_cases e2 : x5 = 2
 · obtain ⟨v, hv, _⟩ := spec_l1Next_some hb hc n 2 h0 h1 (by omega)
   refine ⟨[⟨x5, v, ⟨#[]⟩⟩], n + 1, ev_succ fun k => ?_, rfl, Small.one (by decide), by omega, by omega⟩
   rw [spec_l8Make.j0, if_pos e2, hv]; rfl
 · by_cases e3 : x5 = 3
   · obtain ⟨v, _, hv⟩ := spec_l1Pick_some hb hc n h0 h1 [0, 7, 300, 2147483646] (by simp) (by simp)
     refine ⟨[⟨x5, v, ⟨#[]⟩⟩], n + 1, ev_succ fun k => ?_, rfl, Small.one (by decide), by omega, by omega⟩
     rw [spec_l8Make.j0, if_neg e2, if_pos e3, hv]; rfl
   · by_cases e4 : x5 = 4
     · obtain ⟨v, hv, v0, v1, _⟩ := spec_l1Next_some hb hc n 4 h0 h1 (by omega)
       have v2 := v1 (by omega)
       refine ⟨[⟨x5, 0, rdOf ByteArray.empty [(⟨#[]⟩ : ByteArray), (⟨#[97, 98]⟩ : ByteArray), (⟨#[97, 32, 98]⟩ : ByteArray), (⟨#[123]⟩ : ByteArray)] v⟩], n + 1, ev_succ fun k => ?_, rfl, Small.one (rdS_small (by simp; decide) _), by omega, by omega⟩
       rw [spec_l8Make.j0, if_neg e2, if_neg e3, if_pos e4, Option.bind_some, hv, Option.bind_some, if_pos v0, if_pos (by show v < 4; exact v2)]
     · have e1 : x5 = 1 := by omega
       refine ⟨[⟨x5, 0, ⟨#[]⟩⟩], n, ev_succ fun k => ?_, rfl, Small.one (by decide), by omega, by omega⟩
       rw [spec_l8Make.j0, if_neg e2, if_neg e3, if_neg e4, if_pos e1]
theorem l8Make_l0 {c : List Int} (d : Nat) (x5 x6 : Int) (h6 : x6 ≤ 2)
 (ih : ∀ n : Int, 0 ≤ n → n + mU d ≤ 1000000 → ∃ r n', Ev (fun k => spec_l8Make.f k c n (d : Int)) (r, n') ∧ 1 ≤ r.length ∧ r.length ≤ mW d ∧ Small r ∧ 0 ≤ n' ∧ n' ≤ n + mU d) :
 ∀ (m : Nat) (x7 : List S81) (x8 n : Int), x8 + m = x6 → 0 ≤ x8 → 0 ≤ n → n + ((m * mU d : Nat) : Int) ≤ 1000000 → x7.length + m * (1 + mW d) ≤ 1000000 → Small x7 →
 ∃ r n', Ev (fun k => spec_l8Make.l0 k ((d + 1 : Nat) : Int) x5 x6 x7 x8 c n) (r, n') ∧ x7.length ≤ r.length ∧ r.length ≤ x7.length + m * (1 + mW d) ∧ Small r ∧ 0 ≤ n' ∧ n' ≤ n + ((m * mU d : Nat) : Int)
 | 0, x7, x8, n, hm, h8, h0, h1, h2, hs => ⟨x7, n, ev_succ fun k => by rw [spec_l8Make.l0, if_neg (by omega)], by omega, by omega, hs, h0, by omega⟩
 | m + 1, x7, x8, n, hm, h8, h0, h1, h2, hs => by
  rw [Nat.succ_mul] at h1 h2
  obtain ⟨q, n1, hq, hq1, hq2, hq3, hq4, hq5⟩ := ih n h0 (by omega)
  have hw1 : wrap64 (((d + 1 : Nat) : Int) - 1) = (d : Int) ∨ 9000000000000000000 < (d : Int) := by
   by_cases hd : (d : Int) ≤ 9000000000000000000
   · left; rw [wrap_id (by omega) (by omega)]; omega
   · right; omega
  have hmu : d ≤ mU d := by
   clear hq hq1 hq2 hq3 hq4 hq5 ih h1 h2 hw1
   induction d with
   | zero => exact Nat.zero_le _
   | succ d ihd => show d + 1 ≤ 3 + 3 * mU d; omega
  have hw : wrap64 (((d + 1 : Nat) : Int) - 1) = (d : Int) := hw1.resolve_right (by omega)
  by_cases e6 : x5 = 6
  · obtain ⟨r, n', hr, r1, r2, r3, r4, r5⟩ := l8Make_l0 d x5 x6 h6 ih m ((x7 ++ [⟨4, 0, rdOf ByteArray.empty [(⟨#[105, 100]⟩ : ByteArray), (⟨#[109, 101, 116, 104, 111, 100]⟩ : ByteArray), (⟨#[120]⟩ : ByteArray)] x8⟩]) ++ q) (x8 + 1) n1 (by omega) (by omega) hq4 (by omega) (by simp; omega) ((hs.app (Small.one (rdS_small (by simp; decide) _))).app hq3)
    simp only [List.length_append, List.length_cons, List.length_nil] at r1 r2
    refine ⟨r, n', Ev.step (f := fun k => (spec_l8Make.f k c n (d : Int)).bind fun bt217 => if (x7 ++ [(⟨4, 0, rdOf ByteArray.empty [(⟨#[105, 100]⟩ : ByteArray), (⟨#[109, 101, 116, 104, 111, 100]⟩ : ByteArray), (⟨#[120]⟩ : ByteArray)] x8⟩ : S81)]).length + bt217.1.length < 4398046511104 then spec_l8Make.l0 k ((d + 1 : Nat) : Int) x5 x6 ((x7 ++ [⟨4, 0, rdOf ByteArray.empty [(⟨#[105, 100]⟩ : ByteArray), (⟨#[109, 101, 116, 104, 111, 100]⟩ : ByteArray), (⟨#[120]⟩ : ByteArray)] x8⟩]) ++ bt217.1) (x8 + 1) c bt217.2 else none) (fun k => ?_) (ev_bind hq (ev_if (by simp; omega) hr)), by omega, by rw [Nat.succ_mul]; omega, r3, r4, by rw [Nat.succ_mul]; omega⟩
    rw [spec_l8Make.l0, if_pos (by omega), if_pos e6, Option.bind_some, if_pos (by omega), if_pos (by show x8 < 3; omega), if_pos (by omega), Option.bind_some, hw, wrap_id (x := x8 + 1) (by omega) (by omega)]
  · obtain ⟨r, n', hr, r1, r2, r3, r4, r5⟩ := l8Make_l0 d x5 x6 h6 ih m (x7 ++ q) (x8 + 1) n1 (by omega) (by omega) hq4 (by omega) (by simp; omega) (hs.app hq3)
    simp only [List.length_append] at r1 r2
    refine ⟨r, n', Ev.step (f := fun k => (spec_l8Make.f k c n (d : Int)).bind fun bt224 => if x7.length + bt224.1.length < 4398046511104 then spec_l8Make.l0 k ((d + 1 : Nat) : Int) x5 x6 (x7 ++ bt224.1) (x8 + 1) c bt224.2 else none) (fun k => ?_) (ev_bind hq (ev_if (show x7.length + q.length < 4398046511104 by omega) hr)), by omega, by rw [Nat.succ_mul]; omega, r3, r4, by rw [Nat.succ_mul]; omega⟩
    rw [spec_l8Make.l0, if_pos (by omega), if_neg e6, hw, wrap_id (x := x8 + 1) (by omega) (by omega)]
theorem l8Make_ev {c : List Int} (hb : Bytes c) (hc : c.length ≤ 140737488351232) : ∀ (d : Nat) (n : Int), 0 ≤ n → n + mU d ≤ 1000000 → mW d ≤ 1000 → ∃ r n', Ev (fun k => spec_l8Make.f k c n (d : Int)) (r, n') ∧ 1 ≤ r.length ∧ r.length ≤ mW d ∧ Small r ∧ 0 ≤ n' ∧ n' ≤ n + mU d
 | 0, n, h0, h1, _ => by
  have h1' : n + 3 ≤ 1000000 := h1
  obtain ⟨v, hvm, hv⟩ := spec_l1Pick_some hb hc n h0 (by omega) [1, 2, 3, 4, 4] (by simp) (by simp)
  obtain ⟨r, n', hr, r1, r2, r3, r4⟩ := l8Make_j0 hb hc 0 v (n + 1) (by omega) (by omega) (by simp at hvm; omega)
  refine ⟨r, n', Ev.step (f := fun k => (spec_l1Pick.f c n [1, 2, 3, 4, 4]).bind fun bt173 => if ((0 : Nat) : Int) > 0 then (spec_l1Pick.f c bt173.2 [5, 6, 5, 3]).bind fun bt178 => spec_l8Make.j0 k ((0 : Nat) : Int) bt178.1 c bt178.2 else spec_l8Make.j0 k ((0 : Nat) : Int) bt173.1 c bt173.2) (fun k => by rw [spec_l8Make.f]) (ev_bind0 hv (ev_ifn (by decide) hr)), by omega, by show r.length ≤ 1; omega, r2, r3, by show n' ≤ n + 3; omega⟩
 | d + 1, n, h0, h1, hW => by
  have e1 : mU (d + 1) = 3 + 3 * mU d := rfl
  have e2 : mW (d + 1) = 4 + 3 * mW d := rfl
  obtain ⟨v, hvm, hv⟩ := spec_l1Pick_some hb hc n h0 (by omega) [1, 2, 3, 4, 4] (by simp) (by simp)
  obtain ⟨u, hum, hu⟩ := spec_l1Pick_some hb hc (n + 1) (by omega) (by omega) [5, 6, 5, 3] (by simp) (by simp)
  have key : ∃ r n', Ev (fun k => spec_l8Make.j0 k ((d + 1 : Nat) : Int) u c (n + 1 + 1)) (r, n') ∧ 1 ≤ r.length ∧ r.length ≤ mW (d + 1) ∧ Small r ∧ 0 ≤ n' ∧ n' ≤ n + mU (d + 1) := by
   by_cases e3 : u = 3
   · obtain ⟨r, n', hr, r1, r2, r3, r4⟩ := l8Make_j0 hb hc ((d + 1 : Nat) : Int) u (n + 1 + 1) (by omega) (by omega) (by omega)
     exact ⟨r, n', hr, by omega, by omega, r2, r3, by omega⟩
   · have hu5 : u = 5 ∨ u = 6 := by simp at hum; omega
     obtain ⟨w, hw, w0, w1, _⟩ := spec_l1Next_some hb hc (n + 1 + 1) 3 (by omega) (by omega) (by omega)
     have w2 := w1 (by omega)
     have hm3 : w.toNat * mU d ≤ 2 * mU d := Nat.mul_le_mul_right _ (by omega)
     have hm4 : w.toNat * (1 + mW d) ≤ 2 * (1 + mW d) := Nat.mul_le_mul_right _ (by omega)
     have hlen1 : ([(⟨u, w, ⟨#[]⟩⟩ : S81)] : List S81).length = 1 := rfl
     obtain ⟨r, n', hr, r1, r2, r3, r4, r5⟩ := l8Make_l0 (c := c) d u w (by omega) (fun n' h0' h1' => l8Make_ev hb hc d n' h0' h1' (by omega)) w.toNat [⟨u, w, ⟨#[]⟩⟩] 0 (n + 1 + 1 + 1) (by omega) (by omega) (by omega) (by omega) (by omega) (Small.one (by decide))
     refine ⟨r, n', Ev.step (f := fun k => (spec_l1Next.f c (n + 1 + 1) 3).bind fun bt205 => spec_l8Make.l0 k ((d + 1 : Nat) : Int) u bt205.1 [⟨u, bt205.1, ⟨#[]⟩⟩] 0 c bt205.2) (fun k => ?_) (ev_bind0 hw hr), by omega, by omega, r3, r4, by omega⟩
     rw [spec_l8Make.j0, if_neg (by omega), if_neg e3, if_neg (by omega), if_neg (by omega)]
  obtain ⟨r, n', hr, r1, r2, r3, r4, r5⟩ := key
  exact ⟨r, n', Ev.step (f := fun k => (spec_l1Pick.f c n [1, 2, 3, 4, 4]).bind fun bt173 => if ((d + 1 : Nat) : Int) > 0 then (spec_l1Pick.f c bt173.2 [5, 6, 5, 3]).bind fun bt178 => spec_l8Make.j0 k ((d + 1 : Nat) : Int) bt178.1 c bt178.2 else spec_l8Make.j0 k ((d + 1 : Nat) : Int) bt173.1 c bt173.2) (fun k => by rw [spec_l8Make.f]) (ev_bind0 hv (ev_if (by omega) (ev_bind0 hu hr))), r1, r2, r3, r4, r5⟩
theorem Small.set {r : List S81} (h : Small r) (i : Nat) {a b : Int} {s : ByteArray} (hs : s.size ≤ 100) : Small (r.set i ⟨a, b, s⟩) := fun x hx => by
 rcases List.mem_or_eq_of_mem_set hx with hx | rfl
 · exact h x hx
 · exact hs
theorem Small.rd {r : List S81} (h : Small r) {i : Int} (h0 : 0 ≤ i) (h1 : i < r.length) : (rd_T81 r i).f2.size ≤ 100 := by
 unfold rd_T81
 rw [List.getD_eq_getElem?_getD, List.getElem?_eq_getElem (by omega)]
 exact h _ (List.getElem_mem _)
theorem l8Bent_ev {c : List Int} (hb : Bytes c) (hc : c.length ≤ 140737488351232) (n : Int) (h0 : 0 ≤ n) (h1 : n ≤ 900000) : ∃ r n', Ev (fun k => spec_l8Bent.f k c n) (r, n') ∧ r.length ≤ 1000 ∧ Small r ∧ 0 ≤ n' ∧ n' ≤ n + 1000 := by
 obtain ⟨v, hv, v0, v1, _⟩ := spec_l1Next_some hb hc n 4 h0 (by omega) (by omega)
 have v2 := v1 (by omega)
 have hmk : ∃ r n', Ev (fun k => spec_l8Make.f k c (n + 1) v) (r, n') ∧ 1 ≤ r.length ∧ r.length ≤ 79 ∧ Small r ∧ 0 ≤ n' ∧ n' ≤ n + 1 + 120 := by
  obtain ⟨d, rfl⟩ : ∃ d : Nat, v = (d : Int) := ⟨v.toNat, by omega⟩
  have hd : d = 0 ∨ d = 1 ∨ d = 2 ∨ d = 3 := by omega
  have hU : mU d ≤ 120 ∧ mW d ≤ 79 := by rcases hd with rfl | rfl | rfl | rfl <;> decide
  obtain ⟨r, n', a1, a2, a3, a4, a5, a6⟩ := l8Make_ev hb hc d (n + 1) (by omega) (by omega) (by omega)
  exact ⟨r, n', a1, a2, by omega, a4, a5, by omega⟩
 obtain ⟨r, n1, hr, r1, r2, rs, n10, n11⟩ := hmk
 obtain ⟨i, hi, i0, i1, _⟩ := spec_l1Next_some hb hc n1 (r.length : Int) n10 (by omega) (by omega)
 have i2 := i1 (by omega)
 obtain ⟨w, hw, _⟩ := spec_l1Next_some hb hc (n1 + 1) 12 (by omega) (by omega) (by omega)
 have hbase : ∀ (q : List S81) (n' : Int), Ev (fun k => if w = 0 then ((spec_l1Pick.f c (n1 + 1 + 1) [(-1), 0, 1, 3, 21]).bind fun bt244 => (if 0 ≤ i then (if i < (r.length : Int) then (some ((r.set (i : Int).toNat (⟨(rd_T81 r i).f0, bt244.1, (rd_T81 r i).f2⟩ : S81)), bt244.2)) else (none)) else (none))) else (if w = 1 then ((spec_l1Pick.f c (n1 + 1 + 1) [0, 1, 3, 5, 7]).bind fun bt250 => (if 0 ≤ i then (if i < (r.length : Int) then (some ((r.set (i : Int).toNat (⟨bt250.1, (rd_T81 r i).f1, (rd_T81 r i).f2⟩ : S81)), bt250.2)) else (none)) else (none))) else (if w = 2 then ((some (([(⟨#[34]⟩ : ByteArray), (⟨#[120]⟩ : ByteArray), (⟨#[7]⟩ : ByteArray)] : List ByteArray) : List ByteArray)).bind fun y253 => ((spec_l1Next.f c (n1 + 1 + 1) 3).bind fun bt256 => (if 0 ≤ bt256.1 then (if bt256.1 < (y253.length : Int) then (if 0 ≤ i then (if i < (r.length : Int) then (some ((r.set (i : Int).toNat (⟨(rd_T81 r i).f0, (rd_T81 r i).f1, rdOf ByteArray.empty y253 bt256.1⟩ : S81)), bt256.2)) else (none)) else (none)) else (none)) else (none)))) else (if w = 3 then (if r.length < 4398046511104 then (some ((r ++ [(⟨1, 0, (⟨#[]⟩ : ByteArray)⟩ : S81)]), n1 + 1 + 1)) else (none)) else (if w = 4 then (if 21 ≤ 8796093022208 then (some ((List.replicate 21 z81), n1 + 1 + 1)) else (none)) else (some (r, n1 + 1 + 1))))))) (q, n') → Ev (fun k => spec_l8Bent.f k c n) (q, n') := by
  intro q n' h
  unfold spec_l8Bent.f
  exact ev_bind0 hv (ev_bind hr (ev_bind0 hi (ev_bind0 hw h)))
 have hsr := rs.rd i0 i2
 by_cases w0 : w = 0
 · obtain ⟨z, _, hz⟩ := spec_l1Pick_some hb hc (n1 + 1 + 1) (by omega) (by omega) [(-1), 0, 1, 3, 21] (by simp) (by simp)
   exact ⟨_, _, hbase _ _ (ev_if w0 (ev_bind0 hz (ev_if i0 (ev_if i2 (Ev.now _))))), by rw [List.length_set]; omega, rs.set _ hsr, by omega, by omega⟩
 by_cases w1 : w = 1
 · obtain ⟨z, _, hz⟩ := spec_l1Pick_some hb hc (n1 + 1 + 1) (by omega) (by omega) [0, 1, 3, 5, 7] (by simp) (by simp)
   exact ⟨_, _, hbase _ _ (ev_ifn w0 (ev_if w1 (ev_bind0 hz (ev_if i0 (ev_if i2 (Ev.now _)))))), by rw [List.length_set]; omega, rs.set _ hsr, by omega, by omega⟩
 by_cases w2 : w = 2
 · obtain ⟨z, hz, z0, z1, _⟩ := spec_l1Next_some hb hc (n1 + 1 + 1) 3 (by omega) (by omega) (by omega)
   have z2 := z1 (by omega)
   exact ⟨_, _, hbase _ _ (ev_ifn w0 (ev_ifn w1 (ev_if w2 (ev_bind0 rfl (ev_bind0 hz (ev_if z0 (ev_if (show z < 3 from z2) (ev_if i0 (ev_if i2 (Ev.now _)))))))))), by rw [List.length_set]; omega, rs.set _ (rdS_small (by simp; decide) _), by omega, by omega⟩
 by_cases w3 : w = 3
 · exact ⟨_, _, hbase _ _ (ev_ifn w0 (ev_ifn w1 (ev_ifn w2 (ev_if w3 (ev_if (by omega) (Ev.now _)))))), by simp; omega, rs.app (Small.one (by decide)), by omega, by omega⟩
 by_cases w4 : w = 4
 · exact ⟨_, _, hbase _ _ (ev_ifn w0 (ev_ifn w1 (ev_ifn w2 (ev_ifn w3 (ev_if w4 (ev_if (by decide) (Ev.now _))))))), by simp, fun x hx => by rw [List.eq_of_mem_replicate hx]; decide, by omega, by omega⟩
 · exact ⟨_, _, hbase _ _ (ev_ifn w0 (ev_ifn w1 (ev_ifn w2 (ev_ifn w3 (ev_ifn w4 (Ev.now _)))))), by omega, rs, by omega, by omega⟩
theorem drawMapEntry_ev {c : List Int} (hb : Bytes c) (hc : c.length ≤ 140737488351232) : ∃ r s, Ev (fun k => spec_DrawMapEntry.f k c) (r, s) ∧ r.length ≤ 1000 ∧ Small r := by
 obtain ⟨r, n, hr, r1, r2, n0, n1⟩ := l8Bent_ev hb hc 0 (by omega) (by omega)
 obtain ⟨z, hz, z0, z1, _⟩ := spec_l1Next_some hb hc n 3 n0 (by omega) (by omega)
 have z2 := z1 (by omega)
 refine ⟨r, rdOf ByteArray.empty [(⟨#[105, 100]⟩ : ByteArray), (⟨#[109, 101, 116, 104, 111, 100]⟩ : ByteArray), (⟨#[121]⟩ : ByteArray)] z, ?_, r1, r2⟩
 unfold spec_DrawMapEntry.f spec_l1Source.f
 exact ev_bind0 rfl (ev_bind hr (ev_bind0 rfl (ev_bind0 hz (ev_if z0 (ev_if (show z < 3 from z2) (Ev.now _))))))
theorem bt_list (s : ByteArray) (i : Nat) (h : i < s.data.toList.length) : bt s (i : Int) = ((s.data.toList[i]).toNat : Int) := by
 have h' : i < s.size := by rw [Array.length_toList] at h; exact h
 have := bt_at s (i : Int) (by simpa using h')
 rw [← this]
 simp only [Int.toNat_natCast]
 rfl
theorem size_list (s : ByteArray) : (s.size : Int) = (s.data.toList.length : Int) := by rw [Array.length_toList]; rfl
theorem rdS_mid (pre : List ByteArray) (b : ByteArray) (suf : List ByteArray) : rdOf ByteArray.empty (pre ++ b :: suf) (pre.length : Int) = b := by
 unfold rdOf
 simp
def spl : List UInt8 → List (List UInt8)
 | [] => [[]]
 | c :: r => if c = 10 then [] :: spl r else match spl r with
  | [] => [[c]]
  | p :: q => (c :: p) :: q
theorem spl_ne (l : List UInt8) : spl l ≠ [] := by
 cases l with
 | nil => simp [spl]
 | cons c r =>
  unfold spl
  by_cases h : c = 10
  · rw [if_pos h]; simp
  · rw [if_neg h]; cases spl r <;> simp
theorem splitK_spl : ∀ (l : List UInt8), Lib.splitK [10] 0 (Lib.count l [10]) l = spl l
 | [] => by rw [Lib.count_miss (by simp [Lib.index])]; rfl
 | c :: r => by
  have ih := splitK_spl r
  by_cases h : c = 10
  · subst h
    have hix : Lib.index ((10 : UInt8) :: r) [10] = 0 := by rw [Lib.index]; simp [List.isPrefixOf]
    rw [Lib.count_cons_eq, Nat.add_comm 1, Lib.splitK, hix, if_neg (by decide), spl, if_pos rfl]
    simpa using ih
  · have hp : ([10] : List UInt8).isPrefixOf (c :: r) = false := by simp [List.isPrefixOf, Ne.symm h]
    have hix : Lib.index (c :: r) [10] = if Lib.index r [10] == -1 then -1 else Lib.index r [10] + 1 := by rw [Lib.index, hp]; simp
    rw [Lib.count_cons_ne c 10 r h, spl, if_neg h, ← ih]
    cases hn : Lib.count r [10] with
    | zero => rfl
    | succ k =>
     obtain ⟨j, hj⟩ := Lib.index_of_count (s := r) (old := [10]) (by omega)
     rw [hj, if_neg (by intro e; have := beq_iff_eq.1 e; omega)] at hix
     rw [Lib.splitK, hix, if_neg (by intro e; have := beq_iff_eq.1 e; omega), Lib.splitK, hj, if_neg (by intro e; have := beq_iff_eq.1 e; omega)]
     have e1 : ((j : Int) + 1).toNat = j + 1 := by omega
     rw [e1, Int.toNat_natCast]
     simp
def splA (acc r : List UInt8) : List (List UInt8) := match spl r with
 | [] => [acc]
 | p :: q => (acc ++ p) :: q
theorem splA_nil (r : List UInt8) : splA [] r = spl r := by
 unfold splA
 cases h : spl r with
 | nil => exact absurd h (spl_ne r)
 | cons p q => rfl
theorem splA_ten (acc r : List UInt8) : splA acc (10 :: r) = acc :: splA [] r := by
 rw [splA_nil]
 unfold splA
 rw [spl, if_pos rfl]
 simp
theorem splA_other (acc r : List UInt8) (c : UInt8) (h : c ≠ 10) : splA acc (c :: r) = splA (acc ++ [c]) r := by
 unfold splA
 rw [spl, if_neg h]
 cases hs : spl r with
 | nil => exact absurd hs (spl_ne r)
 | cons p q => simp
theorem splA_end (acc : List UInt8) : splA acc [] = [acc] := by simp [splA, spl]
theorem extract_list (s : ByteArray) (a b : Nat) : (s.extract a b).data.toList = (s.data.toList.drop a).take (b - a) := by
 rw [← ByteArray.toList_eq]; exact Lib.extract_toList s a b
theorem bytes_inj {a b : ByteArray} (h : a.data.toList = b.data.toList) : a = b := by
 cases a; cases b; simp only [ByteArray.mk.injEq]; exact Array.toList_inj.1 h
theorem list_inj : ∀ {a b : List ByteArray}, a.map (·.data.toList) = b.map (·.data.toList) → a = b
 | [], [], _ => rfl
 | [], _ :: _, h => by simp at h
 | _ :: _, [], h => by simp at h
 | x :: a, y :: b, h => by
  simp only [List.map_cons, List.cons.injEq] at h
  rw [bytes_inj h.1, list_inj h.2]
def pieces (s : ByteArray) : List ByteArray := Lib.splitB ⟨#[10]⟩ 0 (Lib.countB s ⟨#[10]⟩) s
theorem pieces_data (s : ByteArray) : (pieces s).map (·.data.toList) = spl s.data.toList := by
 unfold pieces
 rw [Lib.splitB_data]
 exact splitK_spl s.data.toList
theorem pieces_len (s : ByteArray) : (pieces s).length ≤ s.size + 1 ∧ 1 ≤ (pieces s).length := by
 have h1 := Lib.splitB_all ⟨#[10]⟩ (by decide) 0 _ s rfl
 have h2 := Lib.countB_le ⟨#[10]⟩ (by decide) s.size s (Nat.le_refl _)
 unfold pieces
 omega
theorem spec_l8Cut_l0 (s : ByteArray) (hs : s.size ≤ 1048576) : ∀ (m i a : Nat) (out : List ByteArray), s.data.toList.length - i = m → a ≤ i → i ≤ s.data.toList.length → out.length ≤ i →
 ∃ r, Ev (fun k => spec_l8Cut.l0 k s 10 out (a : Int) (i : Int)) r ∧ r.map (·.data.toList) = out.map (·.data.toList) ++ splA ((s.data.toList.drop a).take (i - a)) (s.data.toList.drop i) := by
 have el := size_list s
 intro m
 induction m with
 | zero =>
  intro i a out hm ha hi ho
  have e : s.data.toList.length = i := by omega
  have hd : s.data.toList.drop i = [] := List.drop_eq_nil_of_le (by omega)
  refine ⟨out ++ [s.extract a i], Ev.step (f := fun k => spec_l8Cut.l0 k s 10 (out ++ [s.extract a i]) (wrap64 ((i : Int) + 1)) (wrap64 ((i : Int) + 1))) (fun k => ?_) (ev_succ (fun k => ?_)), ?_⟩
  · rw [spec_l8Cut.l0, if_pos (by rw [el]; omega), if_pos (by rw [el]; omega), if_pos (by omega), if_pos (by omega), if_pos (by omega)]
    simp only [Int.toNat_natCast]
  · rw [spec_l8Cut.l0, wrap_id (by omega) (by omega), if_neg (by rw [el]; omega)]
  · rw [hd, splA_end]; simp [extract_list]
 | succ m ih =>
  intro i a out hm ha hi ho
  have hlt : i < s.data.toList.length := by omega
  have hd : s.data.toList.drop i = s.data.toList[i] :: s.data.toList.drop (i + 1) := List.drop_eq_getElem_cons hlt
  have hb := bt_list s i hlt
  have hw : wrap64 ((i : Int) + 1) = ((i + 1 : Nat) : Int) := wrap_id (by omega) (by omega)
  by_cases hc : s.data.toList[i] = 10
  · obtain ⟨r, hr, hm'⟩ := ih (i + 1) (i + 1) (out ++ [s.extract a i]) (by omega) (Nat.le_refl _) (by omega) (by simp; omega)
    refine ⟨r, Ev.step (fun k => ?_) hr, ?_⟩
    · rw [spec_l8Cut.l0, if_pos (by rw [el]; omega), if_neg (by rw [el]; omega), if_pos (by omega), if_pos (by rw [el]; omega), hb, hc, if_pos (by decide), if_pos (by omega), if_pos (by omega), if_pos (by omega), hw]
      simp only [Int.toNat_natCast]
    · rw [hm', hd, hc, splA_ten]; simp [extract_list]
  · obtain ⟨r, hr, hm'⟩ := ih (i + 1) a out (by omega) (by omega) (by omega) (by omega)
    refine ⟨r, Ev.step (fun k => ?_) hr, ?_⟩
    · have hne : ¬ ((s.data.toList[i]).toNat : Int) = 10 := fun e => hc (by
       have e' : (s.data.toList[i]).toNat = (10 : UInt8).toNat := by simpa using (by exact_mod_cast e)
       exact UInt8.toNat_inj.1 e')
      rw [spec_l8Cut.l0, if_pos (by rw [el]; omega), if_neg (by rw [el]; omega), if_pos (by omega), if_pos (by rw [el]; omega), hb, if_neg hne, hw]
    · rw [hm', hd, splA_other _ _ _ hc]
      have e : (s.data.toList.drop a).take (i + 1 - a) = (s.data.toList.drop a).take (i - a) ++ [s.data.toList[i]] := by
       rw [show i + 1 - a = (i - a) + 1 by omega, List.take_add_one, List.getElem?_drop, show a + (i - a) = i by omega, List.getElem?_eq_getElem hlt]
       rfl
      rw [e]
theorem spec_l8Cut_ev {s : ByteArray} (hs : s.size ≤ 1048576) : Ev (fun k => spec_l8Cut.f k s 10) (pieces s) := by
 obtain ⟨r, hr, hm⟩ := spec_l8Cut_l0 s hs s.data.toList.length 0 0 [] (by omega) (by omega) (by omega) (by simp)
 have e : r = pieces s := by
  apply list_inj
  rw [hm, pieces_data]
  simp [splA_nil]
 rw [← e]
 exact hr
def fitLine (p : ByteArray) : ByteArray := if (p.size : Int) > 160 then ⟨#[]⟩ else p
def lastOf (P : List ByteArray) : ByteArray := rdOf ByteArray.empty P ((P.length : Int) - 1)
def restOf (z : ByteArray) : ByteArray := z.extract 0 (mn (z.size : Int) 161).toNat
theorem nums_size (l : List Int) : (strOfNums l).size = l.length := by
 have h := Lib.strOfNums_toList l
 have e : (strOfNums l).size = (strOfNums l).toList.length := by rw [ByteArray.toList_eq, Array.length_toList]; rfl
 rw [e, h, Lib.bytesOf, List.length_map]
theorem mn_le (a b : Int) : mn a b ≤ a := by unfold mn; by_cases h : b < a <;> simp [h] <;> omega
theorem mn_ge {a b : Int} (h0 : 0 ≤ a) (h1 : 0 ≤ b) : 0 ≤ mn a b := by unfold mn; by_cases h : b < a <;> simp [h] <;> omega
theorem spec_l1Min_eq (a : Int) : spec_l1Min.f a 161 = some (mn a 161) := by
 unfold spec_l1Min.f mn
 by_cases h : a < 161
 · rw [if_pos h, if_neg (by omega)]
 · rw [if_neg h]
   by_cases h' : (161 : Int) < a
   · rw [if_pos h']
   · rw [if_neg h', show a = 161 by omega]
theorem spec_CutLines_l0 (z : ByteArray) (suf : List ByteArray) : ∀ (pre out : List ByteArray) (rest : ByteArray), out.length = pre.length → (pre.length : Int) + suf.length ≤ 2000000 →
 Ev (fun k => spec_CutLines.l0 k (pre ++ suf ++ [z]) ((pre.length : Int) + suf.length) pre.length 0 out rest) (0, out ++ suf.map fitLine, rest) := by
 induction suf with
 | nil => intro pre out rest ho hl; exact ev_succ (fun k => by rw [spec_CutLines.l0, if_neg (by simp)]; simp)
 | cons b suf ih =>
  intro pre out rest ho hl
  simp only [List.length_cons, Int.natCast_add, Int.natCast_one] at hl ⊢
  have h := ih (pre ++ [b]) (out ++ [fitLine b]) rest (by simp; omega) (by simp; omega)
  have h' : Ev (fun k => spec_CutLines.l0 k (pre ++ b :: suf ++ [z]) ((pre.length : Int) + ((suf.length : Int) + 1)) ((pre.length : Int) + 1) 0 (out ++ [fitLine b]) rest) (0, out ++ (b :: suf).map fitLine, rest) := by
   have e : ((pre ++ [b]).length : Int) = (pre.length : Int) + 1 := by simp
   rw [e, show (pre.length : Int) + 1 + (suf.length : Int) = (pre.length : Int) + ((suf.length : Int) + 1) by omega] at h
   simpa using h
  have hrd : rdOf ByteArray.empty (pre ++ b :: suf ++ [z]) (pre.length : Int) = b := by rw [List.append_assoc]; exact rdS_mid pre b (suf ++ [z])
  refine Ev.step (fun k => ?_) h'
  rw [spec_CutLines.l0, if_pos (by omega), if_pos (by omega), if_pos (by simp; omega), hrd, wrap_id (by omega) (by omega)]
  unfold fitLine
  by_cases hb : (b.size : Int) > 160
  · rw [if_pos hb, if_pos (by omega), if_pos hb]
  · rw [if_neg hb, if_pos (by omega), if_neg hb]
theorem impl_cutLines_l0 (P : List ByteArray) (r : List ByteArray → ByteArray) (suf : List ByteArray)
 (hend : ∀ k out x16 x17 x18, ¬ x18 < x17 → impl_cutLines.l0 (k + 1) P out x16 x17 x18 = some (out, restOf (lastOf P))) : ∀ (pre out : List ByteArray), out.length = pre.length → (pre.length : Int) + suf.length ≤ 2000000 →
 Ev (fun k => impl_cutLines.l0 k P out (pre ++ suf) ((pre.length : Int) + suf.length) pre.length) (out ++ suf.map fitLine, restOf (lastOf P)) := by
 induction suf with
 | nil => intro pre out ho hl; exact ev_succ (fun k => by rw [hend k _ _ _ _ (by simp)]; simp)
 | cons b suf ih =>
  intro pre out ho hl
  simp only [List.length_cons, Int.natCast_add, Int.natCast_one] at hl ⊢
  have h := ih (pre ++ [b]) (out ++ [fitLine b]) (by simp; omega) (by simp; omega)
  have h' : Ev (fun k => impl_cutLines.l0 k P (out ++ [fitLine b]) (pre ++ b :: suf) ((pre.length : Int) + ((suf.length : Int) + 1)) ((pre.length : Int) + 1)) (out ++ (b :: suf).map fitLine, restOf (lastOf P)) := by
   have e : ((pre ++ [b]).length : Int) = (pre.length : Int) + 1 := by simp
   rw [e, show (pre.length : Int) + 1 + (suf.length : Int) = (pre.length : Int) + ((suf.length : Int) + 1) by omega] at h
   simpa using h
  refine Ev.step (fun k => ?_) h'
  rw [impl_cutLines.l0, if_pos (by omega), if_pos (by omega), if_pos (by simp; omega), rdS_mid, wrap_id (x := (pre.length : Int) + 1) (by omega) (by omega)]
  unfold fitLine
  by_cases hb : (b.size : Int) > 160
  · rw [if_pos hb, if_pos (by omega), if_pos hb]
  · rw [if_neg hb, if_pos (by omega), if_neg hb]
theorem snoc_of {P : List ByteArray} (h : 1 ≤ P.length) : ∃ Q z, P = Q ++ [z] ∧ lastOf P = z := by
 have hne : P ≠ [] := by intro e; rw [e] at h; simp at h
 refine ⟨P.dropLast, P.getLast hne, (List.dropLast_concat_getLast hne).symm, ?_⟩
 unfold lastOf
 have hl : ((P.length : Int) - 1) = (P.dropLast.length : Int) := by rw [List.length_dropLast]; omega
 rw [hl]
 have t := rdS_mid P.dropLast (P.getLast hne) []
 rw [List.dropLast_concat_getLast hne] at t
 exact t
def cutF (s : ByteArray) (l : List Int) : Int × List ByteArray × ByteArray :=
 if (s.size : Int) > 161 ∨ (l.length : Int) > 1000 then (2, [], ⟨#[]⟩) else (0, (pieces (s ++ strOfNums l)).dropLast.map fitLine, restOf (lastOf (pieces (s ++ strOfNums l))))
theorem spec_CutLines_ev (s : ByteArray) (l : List Int) (hl : l.length ≤ 1048576) : Ev (fun k => spec_CutLines.f k s l) (cutF s l) := by
 have hT : Ev (fun k => spec_CutLines.j0 k s l true) (2, [], ⟨#[]⟩) := ev_succ (fun k => by rw [spec_CutLines.j0, if_pos rfl])
 unfold spec_CutLines.f cutF
 by_cases h1 : (s.size : Int) > 161
 · rw [if_pos (Or.inl h1)]; exact ev_if h1 hT
 · refine ev_ifn h1 ?_
   by_cases h2 : (l.length : Int) > 1000
   · rw [if_pos (Or.inr h2), decide_eq_true h2]; exact hT
   · rw [if_neg (fun h => h.elim h1 h2), decide_eq_false h2]
     have hn := nums_size l
     have hsz : (s ++ strOfNums l).size ≤ 1048576 := by rw [ByteArray.size_append, hn]; omega
     obtain ⟨p1, p2⟩ := pieces_len (s ++ strOfNums l)
     have hc := spec_l8Cut_ev hsz
     generalize pieces (s ++ strOfNums l) = P at hc p1 p2 ⊢
     obtain ⟨Q, z, rfl, hz⟩ := snoc_of p2
     have hw : wrap64 (((Q ++ [z]).length : Int) - 1) = (Q.length : Int) := by simp only [List.length_append, List.length_cons, List.length_nil] at p1 ⊢; unfold wrap64; omega
     have hlst : rdOf ByteArray.empty (Q ++ [z]) (Q.length : Int) = z := rdS_mid Q z []
     have hL := spec_CutLines_l0 z Q [] [] (restOf z) rfl (by simp only [List.length_append, List.length_cons, List.length_nil] at p1 ⊢; omega)
     rw [hz]
     refine Ev.step (f := fun k => (spec_l8Cut.f k (s ++ strOfNums l) 10).bind fun t => if 0 ≤ (wrap64 ((t.length : Int) - 1)) then (if (wrap64 ((t.length : Int) - 1)) < (t.length : Int) then ((spec_l1Min.f ((rdOf ByteArray.empty t (wrap64 ((t.length : Int) - 1))).size : Int) 161).bind fun t116 => (if 0 ≤ t116 then (if t116 ≤ ((rdOf ByteArray.empty t (wrap64 ((t.length : Int) - 1))).size : Int) then (spec_CutLines.l0 k t (wrap64 ((t.length : Int) - 1)) 0 0 ([] : List ByteArray) ((rdOf ByteArray.empty t (wrap64 ((t.length : Int) - 1))).extract 0 (t116 : Int).toNat)) else (none)) else (none))) else (none)) else (none)) (fun k => ?_) (ev_bind hc ?_)
     · rw [spec_CutLines.j0, if_neg (by decide), if_pos (by rw [hn]; omega)]
     · rw [hw, hlst]
       refine ev_if (by omega) (ev_if (by simp; omega) (ev_bind0 (spec_l1Min_eq _) (ev_if (mn_ge (by omega) (by omega)) (ev_if (mn_le _ _) ?_))))
       simpa [restOf] using hL
theorem impl_CutLines_ev (s : ByteArray) (l : List Int) (hl : l.length ≤ 1048576) : Ev (fun k => impl_CutLines.f k s l) (cutF s l) := by
 unfold impl_CutLines.f cutF
 by_cases h1 : (s.size : Int) > 161
 · rw [if_pos (Or.inl h1)]; exact ev_if h1 (Ev.now _)
 · refine ev_ifn h1 ?_
   by_cases h2 : (l.length : Int) > 1000
   · rw [if_pos (Or.inr h2)]; exact ev_if h2 (Ev.now _)
   · rw [if_neg (fun h => h.elim h1 h2)]
     have hn := nums_size l
     have hsz : (s ++ strOfNums l).size ≤ 1048576 := by rw [ByteArray.size_append, hn]; omega
     refine ev_ifn h2 (ev_if (by rw [hn]; omega) ?_)
     obtain ⟨p1, p2⟩ := pieces_len (s ++ strOfNums l)
     have hc : strings_Split.f (s ++ strOfNums l) (⟨#[10]⟩ : ByteArray) = some (pieces (s ++ strOfNums l)) := by
      unfold strings_Split.f
      rw [if_pos ⟨by decide, by omega⟩]; rfl
     refine ev_bind (a := ((pieces (s ++ strOfNums l)).dropLast.map fitLine, restOf (lastOf (pieces (s ++ strOfNums l))))) ?_ (Ev.now _)
     unfold impl_cutLines.f
     refine ev_bind0 hc ?_
     generalize pieces (s ++ strOfNums l) = P at p1 p2 ⊢
     obtain ⟨Q, z, rfl, hz⟩ := snoc_of p2
     have hw : wrap64 (((Q ++ [z]).length : Int) - 1) = (Q.length : Int) := by simp only [List.length_append, List.length_cons, List.length_nil] at p1 ⊢; unfold wrap64; omega
     have hlst : rdOf ByteArray.empty (Q ++ [z]) (Q.length : Int) = z := rdS_mid Q z []
     have hend : ∀ k out x16 x17 x18, ¬ x18 < x17 → impl_cutLines.l0 (k + 1) (Q ++ [z]) out x16 x17 x18 = some (out, restOf (lastOf (Q ++ [z]))) := by
      intro k out x16 x17 x18 hx
      rw [impl_cutLines.l0, if_neg hx, hw, hlst, hz, if_pos (by omega), if_pos (by simp; omega), if_pos (mn_ge (by omega) (by omega)), if_pos (mn_le _ _)]
      rfl
     have hL := impl_cutLines_l0 (Q ++ [z]) (fun _ => z) Q hend [] [] rfl (by simp only [List.length_append, List.length_cons, List.length_nil] at p1 ⊢; omega)
     rw [hw]
     refine ev_if (by omega) (ev_if (by simp; omega) (ev_bind0 (a := Q) (by simp) ?_))
     simpa using hL
theorem l8DrawCut_l0 {c : List Int} (hb : Bytes c) (hc : c.length ≤ 140737488351232) (s : ByteArray) (hs : s.size ≤ 1000) : ∀ (m : Nat) (q : List Int) (n : Int), 0 ≤ n → n + m ≤ 1000 → q.length + m ≤ 1000 →
 ∃ r p, Ev (fun k => spec_DrawCutLines.l0 k s q (m : Int) c n) (r, p) ∧ r.size ≤ 1000 ∧ p.length ≤ 2000
 | 0, q, n, h0, h1, h2 => by
  obtain ⟨x, hx, _⟩ := spec_l1Next_some hb hc n 12 h0 (by omega) (by omega)
  by_cases e0 : x = 0
  · obtain ⟨v, hvm, hv⟩ := spec_l1Pick_some hb hc (n + 1) (by omega) (by omega) [161, 162] (by simp) (by simp)
    have hv2 : v = 161 ∨ v = 162 := by simpa using hvm
    refine ⟨strOfNums (List.replicate v.toNat 0), q, ev_succ fun k => ?_, by rw [nums_size, List.length_replicate]; omega, by omega⟩
    rw [spec_DrawCutLines.l0, if_neg (by decide), hx, Option.bind_some, if_pos e0, hv, Option.bind_some, if_pos (by omega), if_pos (by omega)]
  · by_cases e1 : x = 1
    · refine ⟨s, List.replicate 161 0 ++ q, ev_succ fun k => ?_, hs, by simp; omega⟩
      rw [spec_DrawCutLines.l0, if_neg (by decide), hx, Option.bind_some, if_neg e0, if_pos e1, if_pos (by decide), Option.bind_some, if_pos (by simp; omega)]
    · refine ⟨s, q, ev_succ fun k => ?_, hs, by omega⟩
      rw [spec_DrawCutLines.l0, if_neg (by decide), hx, Option.bind_some, if_neg e0, if_neg e1]
 | m + 1, q, n, h0, h1, h2 => by
  obtain ⟨v, _, hv⟩ := spec_l1Pick_some hb hc n h0 (by omega) [97, 10, 98, 10, 93] (by simp) (by simp)
  obtain ⟨r, p, hr, a1, a2⟩ := l8DrawCut_l0 hb hc s hs m (q ++ [v % 256]) (n + 1) (by omega) (by omega) (by simp; omega)
  refine ⟨r, p, Ev.step (fun k => ?_) hr, a1, a2⟩
  rw [spec_DrawCutLines.l0, if_pos (by omega), hv, Option.bind_some, if_pos (by omega), wrap_id (by omega) (by omega), show ((m + 1 : Nat) : Int) - 1 = (m : Int) by omega]
theorem drawCutLines_ev {c : List Int} (hb : Bytes c) (hc : c.length ≤ 140737488351232) : ∃ r p, Ev (fun k => spec_DrawCutLines.f k c) (r, p) ∧ r.size ≤ 1000 ∧ p.length ≤ 2000 := by
 obtain ⟨z, hz, z0, z1, _⟩ := spec_l1Next_some hb hc 0 3 (by omega) (by omega) (by omega)
 have z2 := z1 (by omega)
 obtain ⟨w, hw, w0, w1, _⟩ := spec_l1Next_some hb hc (0 + 1) 8 (by omega) (by omega) (by omega)
 have w2 := w1 (by omega)
 obtain ⟨m, rfl⟩ : ∃ m : Nat, w = (m : Int) := ⟨w.toNat, by omega⟩
 obtain ⟨r, p, hr, a1, a2⟩ := l8DrawCut_l0 hb hc (rdOf ByteArray.empty [(⟨#[]⟩ : ByteArray), (⟨#[97, 98]⟩ : ByteArray), (⟨#[91, 49]⟩ : ByteArray)] z) (Nat.le_trans (rdS_small (m := 100) (by simp; decide) _) (by decide)) m [] (0 + 1 + 1) (by omega) (by omega) (by simp; omega)
 refine ⟨r, p, ?_, a1, a2⟩
 unfold spec_DrawCutLines.f spec_l1Source.f
 exact ev_bind0 rfl (ev_bind0 rfl (ev_bind0 hz (ev_if z0 (ev_if (show z < 3 from z2) (ev_bind0 hw hr)))))
theorem spl_cons (l : List UInt8) : ∃ p q, spl l = p :: q := by
 cases h : spl l with
 | nil => exact absurd h (spl_ne l)
 | cons p q => exact ⟨p, q, rfl⟩
theorem splA_of {acc r p : List UInt8} {q : List (List UInt8)} (h : spl r = p :: q) : splA acc r = (acc ++ p) :: q := by unfold splA; rw [h]
theorem spl_clean : ∀ (z v : List UInt8), (∀ c ∈ z, c ≠ 10) → spl (z ++ v) = splA z v
 | [], v, _ => (splA_nil v).symm
 | c :: z, v, h => by
  have ih := spl_clean z v (fun x hx => h x (by simp [hx]))
  obtain ⟨p, q, e⟩ := spl_cons v
  rw [splA_of e] at ih ⊢
  show spl (c :: (z ++ v)) = _
  rw [spl, if_neg (h c (by simp)), ih]
  rfl
theorem spl_mem : ∀ (l p : List UInt8), p ∈ spl l → ∀ c ∈ p, c ≠ 10
 | [], p, h, c, hc => by simp [spl] at h; subst h; simp at hc
 | d :: l, p, h, c, hc => by
  unfold spl at h
  by_cases hd : d = 10
  · rw [if_pos hd] at h
    rcases List.mem_cons.1 h with rfl | h
    · simp at hc
    · exact spl_mem l p h c hc
  · rw [if_neg hd] at h
    obtain ⟨p', q, e⟩ := spl_cons l
    rw [e] at h
    rcases List.mem_cons.1 h with rfl | h
    · rcases List.mem_cons.1 hc with rfl | hc
      · exact hd
      · exact spl_mem l p' (by rw [e]; simp) c hc
    · exact spl_mem l p (by rw [e]; simp [h]) c hc
theorem spl_snoc (l : List UInt8) : ∃ D z, spl l = D ++ [z] ∧ (∀ c ∈ z, c ≠ 10) := by
 refine ⟨(spl l).dropLast, (spl l).getLast (spl_ne l), (List.dropLast_concat_getLast _).symm, spl_mem l _ (List.getLast_mem _)⟩
theorem spl_append : ∀ (u v : List UInt8) (D : List (List UInt8)) (z : List UInt8), spl u = D ++ [z] → spl (u ++ v) = D ++ splA z v
 | [], v, D, z, h => by
  have e : D = [] ∧ z = [] := by
   cases D with
   | nil => simp [spl] at h; exact ⟨rfl, h⟩
   | cons x D => simp [spl] at h
  obtain ⟨rfl, rfl⟩ := e
  rw [splA_nil]; rfl
 | c :: u, v, D, z, h => by
  obtain ⟨D', z', e, _⟩ := spl_snoc u
  have ih := spl_append u v D' z' e
  obtain ⟨y, Y, ev⟩ := spl_cons v
  rw [splA_of ev] at ih ⊢
  show spl (c :: (u ++ v)) = _
  unfold spl at h ⊢
  by_cases hc : c = 10
  · rw [if_pos hc, e] at h
    rw [if_pos hc, ih]
    have h' : ([] :: D') ++ [z'] = D ++ [z] := h
    obtain ⟨rfl, hz⟩ := List.append_inj' h' rfl
    cases hz
    rfl
  · rw [if_neg hc, e] at h
    rw [if_neg hc, ih]
    cases D' with
    | nil =>
     have h' : [] ++ [c :: z'] = D ++ [z] := h
     obtain ⟨rfl, hz⟩ := List.append_inj' h' rfl
     cases hz
     rfl
    | cons p D' =>
     have h' : ((c :: p) :: D') ++ [z'] = D ++ [z] := h
     obtain ⟨rfl, hz⟩ := List.append_inj' h' rfl
     cases hz
     rfl
def fitL (p : List UInt8) : List UInt8 := if p.length > 160 then [] else p
theorem fitL_long {p : List UInt8} (h : p.length > 160) : fitL p = [] := if_pos h
def IsCut (u : List UInt8) (L : List (List UInt8)) (r : List UInt8) : Prop := ∃ D z, spl u = D ++ [z] ∧ L = D.map fitL ∧ r = z.take 161
theorem IsCut.same {u r r' : List UInt8} {L L' : List (List UInt8)} (h : IsCut u L r) (h' : IsCut u L' r') : L = L' ∧ r = r' := by
 obtain ⟨D, z, e, rfl, rfl⟩ := h
 obtain ⟨D', z', e', rfl, rfl⟩ := h'
 rw [e] at e'
 obtain ⟨rfl, hz⟩ := List.append_inj' e' rfl
 cases hz
 exact ⟨rfl, rfl⟩
theorem IsCut.two {u v r r2 : List UInt8} {L L2 : List (List UInt8)} (h : IsCut u L r) (h2 : IsCut (r ++ v) L2 r2) : IsCut (u ++ v) (L ++ L2) r2 := by
 obtain ⟨D, z, e, rfl, rfl⟩ := h
 obtain ⟨D2, z2, e2, rfl, rfl⟩ := h2
 have hz : ∀ c ∈ z, c ≠ 10 := spl_mem u z (by rw [e]; simp)
 obtain ⟨y, Y, ev⟩ := spl_cons v
 have h1 := spl_append u v D z e
 rw [splA_of ev] at h1
 rw [spl_clean (z.take 161) v (fun c hc => hz c (List.mem_of_mem_take hc)), splA_of ev] at e2
 have hfit : fitL (z.take 161 ++ y) = fitL (z ++ y) := by
  by_cases hl : z.length ≤ 161
  · rw [List.take_of_length_le hl]
  · rw [fitL_long (by simp; omega), fitL_long (by simp; omega)]
 have htake : (z.take 161 ++ y).take 161 = (z ++ y).take 161 := by
  by_cases hl : z.length ≤ 161
  · rw [List.take_of_length_le hl]
  · rw [List.take_append_of_le_length (by simp; omega), List.take_append_of_le_length (by omega), List.take_take]; simp
 cases D2 with
 | nil =>
  have e2' : (z.take 161 ++ y) :: Y = [z2] := e2
  cases e2'
  exact ⟨D, z ++ y, h1, by simp, htake⟩
 | cons p D2 =>
  have e2' : (z.take 161 ++ y) :: Y = p :: (D2 ++ [z2]) := e2
  cases e2'
  refine ⟨D ++ (z ++ y) :: D2, z2, by rw [h1]; simp, ?_, rfl⟩
  simp [hfit]
theorem nums_data (l : List Int) : (strOfNums l).data.toList = l.map fun n => UInt8.ofNat n.toNat := by
 unfold strOfNums; simp
theorem fitLine_data (p : ByteArray) : (fitLine p).data.toList = fitL p.data.toList := by
 have el := size_list p
 unfold fitLine fitL
 by_cases h : (p.size : Int) > 160
 · rw [if_pos h, if_pos (by omega)]
 · rw [if_neg h, if_neg (by omega)]
theorem restOf_data (z : ByteArray) : (restOf z).data.toList = z.data.toList.take 161 := by
 have el := size_list z
 unfold restOf mn
 rw [extract_list, List.drop_zero]
 by_cases h : (161 : Int) < (z.size : Int)
 · rw [if_pos h]; rfl
 · rw [if_neg h, Int.toNat_natCast, List.take_of_length_le (by omega), List.take_of_length_le (by omega)]
theorem cutF_cut (u : ByteArray) : IsCut u.data.toList (((pieces u).dropLast.map fitLine).map (·.data.toList)) (restOf (lastOf (pieces u))).data.toList := by
 obtain ⟨p1, p2⟩ := pieces_len u
 have hd := pieces_data u
 generalize pieces u = P at p1 p2 hd
 obtain ⟨Q, z, rfl, hz⟩ := snoc_of p2
 refine ⟨Q.map (·.data.toList), z.data.toList, by rw [← hd]; simp, ?_, by rw [hz, restOf_data]⟩
 rw [List.dropLast_concat, List.map_map, List.map_map]
 exact List.map_congr_left fun x _ => fitLine_data x
theorem cutF_0 {s : ByteArray} {l : List Int} (h1 : s.size ≤ 161) (h2 : l.length ≤ 1000) : cutF s l = (0, (pieces (s ++ strOfNums l)).dropLast.map fitLine, restOf (lastOf (pieces (s ++ strOfNums l)))) := if_neg (by omega)
theorem cutF_code {s : ByteArray} {l : List Int} (h : (cutF s l).1 = 0) : s.size ≤ 161 ∧ l.length ≤ 1000 := by
 unfold cutF at h
 by_cases c : (s.size : Int) > 161 ∨ (l.length : Int) > 1000
 · rw [if_pos c] at h; cases h
 · omega
theorem rest_size (z : ByteArray) : (restOf z).size ≤ 161 := by
 have e := size_list (restOf z)
 rw [restOf_data, List.length_take] at e
 omega
theorem cutF_two {s : ByteArray} {l : List Int} (h1 : s.size ≤ 161) (h2 : l.length ≤ 1000) (t : Nat) : (cutF (cutF s (l.take t)).2.2 (l.drop t)).1 = 0 ∧ (cutF s (l.take t)).1 = 0 ∧ (cutF (cutF s (l.take t)).2.2 (l.drop t)).2.2 = (cutF s l).2.2 ∧ (cutF s (l.take t)).2.1 ++ (cutF (cutF s (l.take t)).2.2 (l.drop t)).2.1 = (cutF s l).2.1 := by
 have ha := cutF_0 h1 (show (l.take t).length ≤ 1000 by rw [List.length_take]; omega)
 have hl := cutF_0 h1 h2
 rw [ha, hl]
 dsimp only
 have hb := cutF_0 (rest_size (lastOf (pieces (s ++ strOfNums (l.take t))))) (show (l.drop t).length ≤ 1000 by rw [List.length_drop]; omega)
 rw [hb]
 dsimp only
 have c1 := cutF_cut (s ++ strOfNums (l.take t))
 have c2 := cutF_cut (restOf (lastOf (pieces (s ++ strOfNums (l.take t)))) ++ strOfNums (l.drop t))
 have c3 := cutF_cut (s ++ strOfNums l)
 rw [ByteArray.data_append, Array.toList_append] at c2
 have c4 := IsCut.two c1 c2
 have e : (s ++ strOfNums (l.take t)).data.toList ++ (strOfNums (l.drop t)).data.toList = (s ++ strOfNums l).data.toList := by
  rw [ByteArray.data_append, Array.toList_append, ByteArray.data_append, Array.toList_append, nums_data, nums_data, nums_data, List.append_assoc, ← List.map_append, List.take_append_drop]
 rw [e] at c4
 obtain ⟨e1, e2⟩ := c4.same c3
 refine ⟨rfl, rfl, bytes_inj e2, list_inj ?_⟩
 rw [List.map_append]; exact e1
theorem laws_lwAt_some {c : List Int} (hb : Bytes c) (n : Int) (h1 : 1 ≤ n) (h2 : n ≤ 1000000) : ∃ t, laws_lwAt.f c 3 n = some t ∧ 0 ≤ t ∧ t < n := by
 unfold laws_lwAt.f
 by_cases hn : n ≤ 1
 · rw [if_pos hn]; exact ⟨0, rfl, by omega, by omega⟩
 rw [if_neg hn]
 by_cases hk : (c.length : Int) = 0
 · rw [if_pos hk, if_neg (by omega), wrap_id (by omega) (by omega), Int.tmod_eq_emod_of_nonneg (by omega)]
   exact ⟨_, rfl, Int.emod_nonneg _ (by omega), Int.emod_lt_of_pos _ (by omega)⟩
 rw [if_neg hk]
 have hkp : (0 : Int) < c.length := by omega
 have e1 : Int.tmod 3 (c.length : Int) = 3 % (c.length : Int) := Int.tmod_eq_emod_of_nonneg (by omega)
 have e2 : Int.tdiv 3 (c.length : Int) = 3 / (c.length : Int) := Int.tdiv_eq_ediv_of_nonneg (by omega)
 have b1 := Int.emod_nonneg 3 (b := (c.length : Int)) (by omega)
 have b2 := Int.emod_lt_of_pos 3 hkp
 have b3 : 0 ≤ 3 / (c.length : Int) := Int.ediv_nonneg (by omega) (by omega)
 have b4 : 3 / (c.length : Int) ≤ 3 := Int.ediv_le_self _ (by omega)
 have r1 := rd_byte hb (3 % (c.length : Int))
 rw [e1, e2, if_pos b1, if_pos b2]
 have w4 : wrap64 (3 + 1) = 4 := by unfold wrap64; omega
 rw [w4]
 have e3 : Int.tmod 4 (c.length : Int) = 4 % (c.length : Int) := Int.tmod_eq_emod_of_nonneg (by omega)
 have b5 := Int.emod_nonneg 4 (b := (c.length : Int)) (by omega)
 have b6 := Int.emod_lt_of_pos 4 hkp
 have r2 := rd_byte hb (4 % (c.length : Int))
 rw [e3]
 generalize rd c (3 % (c.length : Int)) = x at *
 generalize rd c (4 % (c.length : Int)) = y at *
 generalize 3 / (c.length : Int) = z at *
 by_cases h200 : n > 200
 · rw [if_pos h200, if_pos b5, if_pos b6, if_neg (by omega), wrap_id (x := x) (by omega) (by omega), wrap_id (x := z) (by omega) (by omega), wrap_id (x := z * 3) (by omega) (by omega), wrap_id (x := x + z * 3) (by omega) (by omega), wrap_id (x := (x + z * 3) * 251) (by omega) (by omega), wrap_id (x := y) (by omega) (by omega), wrap_id (x := (x + z * 3) * 251 + y) (by omega) (by omega), Int.tmod_eq_emod_of_nonneg (by omega)]
   exact ⟨_, rfl, Int.emod_nonneg _ (by omega), Int.emod_lt_of_pos _ (by omega)⟩
 · rw [if_neg h200, if_neg (by omega), wrap_id (x := x) (by omega) (by omega), wrap_id (x := z) (by omega) (by omega), wrap_id (x := z * 3) (by omega) (by omega), wrap_id (x := x + z * 3) (by omega) (by omega), Int.tmod_eq_emod_of_nonneg (by omega)]
   exact ⟨_, rfl, Int.emod_nonneg _ (by omega), Int.emod_lt_of_pos _ (by omega)⟩
theorem laws_lwTexts_l0 (suf : List ByteArray) : ∀ (pre : List ByteArray), (pre.length : Int) + suf.length ≤ 9223372036854775806 →
 Ev (fun k => laws_lwTexts.l0 k (pre ++ suf) (pre ++ suf) pre.length) true := by
 induction suf with
 | nil => intro pre _; exact ev_succ (fun k => by simp [laws_lwTexts.l0])
 | cons b suf ih =>
  intro pre hl
  simp only [List.length_cons, Int.natCast_add, Int.natCast_one] at hl
  have h := ih (pre ++ [b]) (by simp; omega)
  refine Ev.step (fun k => ?_) (by simpa using h)
  rw [laws_lwTexts.l0]
  rw [if_pos (by simp; omega), if_pos (by omega), if_pos (by simp; omega), if_pos rfl, wrap_id (by omega) (by omega)]
theorem laws_lwTexts_refl {l : List ByteArray} (hl : l.length ≤ 10485760) : Ev (fun k => laws_lwTexts.f k l l) true := by
 unfold laws_lwTexts.f
 exact ev_if rfl (laws_lwTexts_l0 l [] (by simp; omega))
theorem impl_Val_62_l0 (s : List S81) : ∀ (p : List S81), (p.length : Int) + s.length ≤ 1048576 →
 Ev (fun k => impl_Val_62.l0 k (p ++ s) (p ++ s) ((p ++ s).length : Int) p.length) true := by
 induction s with
 | nil => intro p hl; exact ev_succ (fun k => by rw [impl_Val_62.l0, if_neg (by simp)])
 | cons a s ih =>
  intro p hl
  simp only [List.length_cons, Int.natCast_add, Int.natCast_one] at hl
  have ih := ih (p ++ [a]) (by simp; omega)
  refine Ev.step (fun k => ?_) ih
  rw [impl_Val_62.l0, if_pos (by simp; omega), if_pos (by omega), if_pos (by simp; omega), if_pos (by simp; omega), if_neg (by simp), wrap_id (by omega) (by omega)]
  simp
theorem impl_SameVals_refl {l : List S81} (hl : l.length ≤ 1048576) : Ev (fun k => impl_SameVals.f k l l) true := by
 unfold impl_SameVals.f impl_Val_62.f
 exact ev_bind (ev_if rfl (impl_Val_62_l0 l [] (by simp; omega))) (Ev.now _)
theorem spec_l1In_eq (a b c : Int) : spec_l1In.f a b c = some (decide (b ≤ a ∧ a ≤ c)) := by
 unfold spec_l1In.f
 by_cases h : a ≥ b
 · rw [if_pos h]; congr 1; rw [Bool.eq_iff_iff]; simp; omega
 · rw [if_neg h]; congr 1; symm; simp; omega
theorem impl_in_eq (a b c : Int) : impl_in.f a b c = some (decide (b ≤ a ∧ a ≤ c)) := by
 unfold impl_in.f
 by_cases h : a ≥ b
 · rw [if_pos h]; congr 1; rw [Bool.eq_iff_iff]; simp; omega
 · rw [if_neg h]; congr 1; symm; simp; omega
def okc (c : UInt8) : Bool := decide (32 ≤ c.toNat ∧ c.toNat ≤ 126 ∧ c.toNat ≠ 34 ∧ c.toNat ≠ 92)
def textV (s : ByteArray) : Bool := decide (s.data.toList.length ≤ 40) && s.data.toList.all okc
theorem spec_l8Text_l0 (s : ByteArray) (hs : s.data.toList.length ≤ 1048576) : ∀ (n i : Nat), s.data.toList.length - i = n → i ≤ s.data.toList.length →
 Ev (fun k => spec_l8Text.l0 k s (i : Int)) (decide (s.data.toList.length ≤ 40) && (s.data.toList.drop i).all okc)
 | 0, i, hn, hi => by
  have el := size_list s
  rw [List.drop_eq_nil_of_le (by omega)]
  refine ev_succ fun k => ?_
  rw [spec_l8Text.l0, if_neg (by rw [el]; omega), el]
  congr 1
  simp
  omega
 | n + 1, i, hn, hi => by
  have el := size_list s
  have hlt : i < s.data.toList.length := by omega
  rw [List.drop_eq_getElem_cons hlt, List.all_cons]
  have hb := bt_list s i hlt
  generalize s.data.toList[i] = c at hb ⊢
  by_cases hc : okc c = true
  · have h := spec_l8Text_l0 s hs n (i + 1) (by omega) (by omega)
    rw [hc, Bool.true_and]
    refine Ev.step (fun k => ?_) h
    have hc' := of_decide_eq_true hc
    rw [spec_l8Text.l0, if_pos (by rw [el]; omega), if_pos (by omega), hb, if_neg (by omega), if_neg (by omega), if_neg (by omega), if_neg (by omega), wrap_id (by omega) (by omega)]; rfl
  · have hc1 := of_decide_eq_false (Bool.eq_false_iff.2 hc)
    rw [Bool.eq_false_iff.2 hc, Bool.false_and, Bool.and_false]
    refine ev_succ fun k => ?_
    rw [spec_l8Text.l0, if_pos (by rw [el]; omega), if_pos (by omega), hb]
    by_cases h1 : (c.toNat : Int) < 32
    · rw [if_pos h1]
    · rw [if_neg h1]
      by_cases h2 : (c.toNat : Int) > 126
      · rw [if_pos h2]
      · rw [if_neg h2]
        by_cases h3 : (c.toNat : Int) = 34
        · rw [if_pos h3]
        · rw [if_neg h3, if_pos (by omega)]
theorem spec_l8Text_ev {s : ByteArray} (hs : s.size ≤ 1048576) : Ev (fun k => spec_l8Text.f k s) (textV s) := by
 have el := size_list s
 exact spec_l8Text_l0 s (by omega) _ 0 rfl (by omega)
theorem impl_textOk_l0 (s : ByteArray) (hs : s.data.toList.length ≤ 40) : ∀ (n i : Nat), s.data.toList.length - i = n → i ≤ s.data.toList.length →
 Ev (fun k => impl_textOk.l0 k s (s.size : Int) (i : Int)) ((s.data.toList.drop i).all okc)
 | 0, i, hn, hi => by
  have el := size_list s
  rw [List.drop_eq_nil_of_le (by omega)]
  refine ev_succ fun k => ?_
  rw [impl_textOk.l0, if_neg (by rw [el]; omega)]; rfl
 | n + 1, i, hn, hi => by
  have el := size_list s
  have hlt : i < s.data.toList.length := by omega
  rw [List.drop_eq_getElem_cons hlt, List.all_cons]
  have hb := bt_list s i hlt
  generalize s.data.toList[i] = c at hb ⊢
  have h255 := c.toNat_lt
  by_cases hc : okc c = true
  · have h := impl_textOk_l0 s hs n (i + 1) (by omega) (by omega)
    rw [hc, Bool.true_and]
    refine Ev.step (fun k => ?_) h
    have hc' := of_decide_eq_true hc
    rw [impl_textOk.l0, if_pos (by rw [el]; omega), if_pos (by omega), if_pos (by rw [el]; omega), hb, wrap_id (x := (c.toNat : Int)) (by omega) (by omega), impl_in_eq, Option.bind_some, if_pos (decide_eq_true (by omega)), if_neg (by omega), if_neg (by omega), wrap_id (by omega) (by omega)]; rfl
  · have hc1 := of_decide_eq_false (Bool.eq_false_iff.2 hc)
    rw [Bool.eq_false_iff.2 hc, Bool.false_and]
    refine ev_succ fun k => ?_
    rw [impl_textOk.l0, if_pos (by rw [el]; omega), if_pos (by omega), if_pos (by rw [el]; omega), hb, wrap_id (x := (c.toNat : Int)) (by omega) (by omega), impl_in_eq, Option.bind_some]
    by_cases h1 : (32 : Int) ≤ (c.toNat : Int) ∧ (c.toNat : Int) ≤ 126
    · rw [if_pos (decide_eq_true h1)]
      by_cases h3 : (c.toNat : Int) = 34
      · rw [if_pos h3]
      · rw [if_neg h3, if_pos (by omega)]
    · rw [if_neg (by rw [decide_eq_false h1]; decide)]
theorem impl_textOk_ev (s : ByteArray) : Ev (fun k => impl_textOk.f k s) (textV s) := by
 have el := size_list s
 unfold impl_textOk.f textV
 by_cases h : (s.size : Int) > 40
 · rw [decide_eq_false (by omega)]
   exact ev_if h (Ev.now _)
 · rw [decide_eq_true (by omega), Bool.true_and]
   exact ev_ifn h (impl_textOk_l0 s (by omega) _ 0 rfl (by omega))
def numV (a b : Int) : Bool := if a = 1 ∨ a = 4 then decide (b = 0) else if a = 2 then decide (0 ≤ b ∧ b ≤ 1) else if a = 3 then decide (0 ≤ b ∧ b ≤ 2147483646) else decide (0 ≤ b ∧ b ≤ 20)
def badV (a b : Int) (s : ByteArray) : Bool := if 1 ≤ a ∧ a ≤ 6 then (if a = 4 then decide (b ≠ 0) else if s.toList = [] then (if a = 1 then decide (b ≠ 0) else false) else true) else true
def oneV (x : S81) : Int := if badV x.f0 x.f1 x.f2 = true then 1 else if numV x.f0 x.f1 = true then (if textV x.f2 = true then 0 else 5) else 3
theorem spec_l8Num_ev (x : S81) : Ev (fun k => spec_l8Num.f k x.f0 x.f1 x.f2) (numV x.f0 x.f1) := by
 have hz : rd_T81 [x] 0 = x := rfl
 have h1 : (0 : Int) < (([x] : List S81).length : Int) := by simp
 unfold spec_l8Num.f spec_l8Num_in.f
 show Ev (fun k => if (0 : Int) < (([x] : List S81).length : Int) then (if (rd_T81 [x] 0).f0 = 1 then spec_l8Num_in.j0 k [x] (rd_T81 [x] 0).f0 ((rd_T81 [x] 0).f0 == 1) else spec_l8Num_in.j0 k [x] (rd_T81 [x] 0).f0 ((rd_T81 [x] 0).f0 == 4)) else none) _
 refine ev_if h1 ?_
 rw [hz]
 unfold numV
 by_cases c1 : x.f0 = 1
 · rw [if_pos (.inl c1)]
   refine ev_if c1 (ev_succ fun k => ?_)
   rw [spec_l8Num_in.j0, if_pos (beq_iff_eq.2 c1), if_pos h1, hz]; rfl
 · refine ev_ifn c1 (ev_succ fun k => ?_)
   rw [spec_l8Num_in.j0]
   by_cases c4 : x.f0 = 4
   · rw [if_pos (beq_iff_eq.2 c4), if_pos h1, hz, if_pos (.inr c4)]; rfl
   · rw [if_neg (show ¬ (x.f0 == 4) = true from fun h => c4 (beq_iff_eq.1 h)), if_neg (show ¬ (x.f0 = 1 ∨ x.f0 = 4) by omega)]
     by_cases c2 : x.f0 = 2
     · rw [if_pos c2, if_pos c2, if_pos h1, hz, spec_l1In_eq]; rfl
     · rw [if_neg c2, if_neg c2]
       by_cases c3 : x.f0 = 3
       · rw [if_pos c3, if_pos c3, if_pos h1, hz, spec_l1In_eq]; rfl
       · rw [if_neg c3, if_neg c3, if_pos h1, hz, spec_l1In_eq]; rfl
theorem spec_l8One_ev (x : S81) (hs : x.f2.size ≤ 1048576) : Ev (fun k => spec_l8One.f k x.f0 x.f1 x.f2) (oneV x) := by
 have hz : rd_T81 [x] 0 = x := rfl
 have h1 : (0 : Int) < (([x] : List S81).length : Int) := by simp
 have hj : Ev (fun k => spec_l8One_in.j0 k [x] (badV x.f0 x.f1 x.f2)) (oneV x) := by
  unfold oneV
  cases hb : badV x.f0 x.f1 x.f2 with
  | true => exact ev_succ fun k => by rw [spec_l8One_in.j0, if_pos rfl, if_pos rfl]
  | false =>
   rw [if_neg (by decide)]
   refine Ev.step (f := fun k => (spec_l8Num.f k x.f0 x.f1 x.f2).bind fun t => if t = true then (spec_l8Text.f k x.f2).bind fun t => if t = true then some 0 else some 5 else some 3) (fun k => ?_) (ev_bind (spec_l8Num_ev x) ?_)
   · rw [spec_l8One_in.j0, if_neg (by decide), if_pos h1, hz]
   · by_cases hn : numV x.f0 x.f1 = true
     · rw [if_pos hn]
       refine ev_if hn (ev_bind (spec_l8Text_ev hs) ?_)
       by_cases ht : textV x.f2 = true
       · rw [if_pos ht, if_pos ht]; exact Ev.now _
       · rw [if_neg ht, if_neg ht]; exact Ev.now _
     · rw [if_neg hn]; exact ev_ifn hn (Ev.now _)
 refine Ev.congr (fun k => ?_) hj
 unfold spec_l8One.f spec_l8One_in.f
 show (if (0 : Int) < (([x] : List S81).length : Int) then _ else none) = _
 rw [if_pos h1]
 show ((spec_l1In.f (rd_T81 [x] 0).f0 1 6).bind _) = _
 rw [hz, spec_l1In_eq, Option.bind_some]
 unfold badV
 by_cases c : 1 ≤ x.f0 ∧ x.f0 ≤ 6
 · rw [if_pos (decide_eq_true c), if_pos c]
   by_cases c4 : x.f0 = 4
   · rw [if_pos c4, if_pos c4, if_neg (by omega)]
     congr 1; apply Bool.eq_iff_iff.2; simp
   · rw [if_neg c4, if_neg c4]
     by_cases ct : x.f2.toList = []
     · rw [if_pos ct, if_pos ct]
       by_cases c1 : x.f0 = 1
       · rw [if_pos c1, if_pos c1]; congr 1; apply Bool.eq_iff_iff.2; simp
       · rw [if_neg c1, if_neg c1]
     · rw [if_neg ct, if_neg ct]
 · rw [if_neg (by rw [decide_eq_false c]; decide), if_neg c]
theorem impl_valFault_ev (x : S81) : Ev (fun k => impl_valFault.f k x.f0 x.f1 x.f2) (oneV x) := by
 have hj1 : ∀ most : Int, (badV x.f0 x.f1 x.f2 = false → numV x.f0 x.f1 = decide (0 ≤ x.f1 ∧ x.f1 ≤ most)) → Ev (fun k => impl_valFault.j0 k most x.f0 x.f1 x.f2) (oneV x) := by
  intro most hm
  have hj : Ev (fun k => impl_valFault.j1 k most (badV x.f0 x.f1 x.f2) x.f0 x.f1 x.f2) (oneV x) := by
   unfold oneV
   cases hb : badV x.f0 x.f1 x.f2 with
   | true => exact ev_succ fun k => by rw [impl_valFault.j1, if_pos rfl, if_pos rfl]
   | false =>
    rw [if_neg (by decide), hm hb]
    refine Ev.step (f := fun k => if decide (0 ≤ x.f1 ∧ x.f1 ≤ most) = true then (impl_textOk.f k x.f2).bind fun t => if t = true then some 0 else some 5 else some 3) (fun k => ?_) ?_
    · rw [impl_valFault.j1, if_neg (by decide), impl_in_eq, Option.bind_some]
    · by_cases hn : decide (0 ≤ x.f1 ∧ x.f1 ≤ most) = true
      · rw [if_pos hn]
        refine ev_if hn (ev_bind (impl_textOk_ev x.f2) ?_)
        by_cases ht : textV x.f2 = true
        · rw [if_pos ht, if_pos ht]; exact Ev.now _
        · rw [if_neg ht, if_neg ht]; exact Ev.now _
      · rw [if_neg hn]; exact ev_ifn hn (Ev.now _)
  refine Ev.step (fun k => ?_) hj
  rw [impl_valFault.j0, impl_in_eq, Option.bind_some]
  unfold badV
  by_cases c : 1 ≤ x.f0 ∧ x.f0 ≤ 6
  · rw [if_pos (decide_eq_true c), if_pos c]
    by_cases c4 : x.f0 = 4
    · rw [if_pos c4, if_pos c4, if_neg (by omega)]
      congr 1; apply Bool.eq_iff_iff.2; simp
    · rw [if_neg c4, if_neg c4]
      by_cases ct : x.f2.toList = []
      · rw [if_pos ct, if_pos ct]
        by_cases c1 : x.f0 = 1
        · rw [if_pos c1, if_pos c1]; congr 1; apply Bool.eq_iff_iff.2; simp
        · rw [if_neg c1, if_neg c1]
      · rw [if_neg ct, if_neg ct]
  · rw [if_neg (by rw [decide_eq_false c]; decide), if_neg c]
 unfold impl_valFault.f
 by_cases c2 : x.f0 = 2
 · refine ev_if c2 (hj1 1 fun _ => ?_)
   unfold numV; rw [if_neg (by omega), if_pos c2]
 · refine ev_ifn c2 ?_
   by_cases c3 : x.f0 = 3
   · refine ev_if c3 (hj1 _ fun _ => ?_)
     unfold numV; rw [if_neg (by omega), if_neg c2, if_pos c3]
   · refine ev_ifn c3 ?_
     by_cases c5 : x.f0 = 5
     · refine ev_if c5 (hj1 _ fun _ => ?_)
       unfold numV; rw [if_neg (by omega), if_neg c2, if_neg c3]
     · refine ev_ifn c5 ?_
       by_cases c6 : x.f0 = 6
       · refine ev_if c6 (hj1 _ fun _ => ?_)
         unfold numV; rw [if_neg (by omega), if_neg c2, if_neg c3]
       · refine ev_ifn c6 (hj1 _ fun hb => ?_)
         unfold badV at hb
         by_cases c : 1 ≤ x.f0 ∧ x.f0 ≤ 6
         · unfold numV; rw [if_pos (by omega)]; apply Bool.eq_iff_iff.2; rw [decide_eq_true_iff, decide_eq_true_iff]; omega
         · rw [if_neg c] at hb; cases hb
theorem oneV_fine {x : S81} (h : oneV x = 0) (hn : x.f0 = 5 ∨ x.f0 = 6) : 0 ≤ x.f1 ∧ x.f1 ≤ 20 := by
 unfold oneV at h
 by_cases hb : badV x.f0 x.f1 x.f2 = true
 · rw [if_pos hb] at h; cases h
 · rw [if_neg hb] at h
   by_cases h1 : numV x.f0 x.f1 = true
   · unfold numV at h1
     rw [if_neg (by omega), if_neg (by omega), if_neg (by omega)] at h1
     exact of_decide_eq_true h1
   · rw [if_neg h1] at h; cases h
def ei : Option Nat → Int
 | none => -1
 | some e => (e : Int)
def fine (l : List S81) : Prop := l.length ≤ 20 ∧ ∀ i, i < l.length → nest (vAt l i) → 0 ≤ (vAt l i).f1 ∧ (vAt l i).f1 ≤ 20
theorem spec_l8End_l0 (l : List S81) (x : S81) (hl : l.length ≤ 20) (hx : nest x) (h20 : x.f1 ≤ 20) : ∀ (c a i : Nat), (i : Int) + c = x.f1 → a ≤ l.length → (∀ b, a ≤ b → b ≤ l.length → Ev (fun k => spec_l8End.f k l (b : Int)) (ei (endV l b))) →
 Ev (fun k => spec_l8End.l0 k l (a : Int) (i : Int) x.f0 x.f1 x.f2) (ei (endL l (endV l) (decide (x.f0 = 6)) c a))
 | 0, a, i, hc, ha, ih => by
  refine Ev.step (f := fun k => spec_l8End.j2 k l (a : Int) (i : Int) false x.f0 x.f1 x.f2) (fun k => ?_) (ev_succ fun k => ?_)
  · rw [spec_l8End.l0, if_neg (by omega)]
  · rw [spec_l8End.j2, if_neg (by decide)]; rfl
 | c + 1, a, i, hc, ha, ih => by
  have h0 : Ev (fun k => spec_l8End.j2 k l (a : Int) (i : Int) true x.f0 x.f1 x.f2) (ei (endL l (endV l) (decide (x.f0 = 6)) (c + 1) a)) := by
   by_cases h6 : x.f0 = 6
   · rw [decide_eq_true h6]
     by_cases hin : a < l.length ∧ (vAt l a).f0 = 4
     · rw [endL_map hin]
       have hE := ih (a + 1) (by omega) (by omega)
       refine Ev.step (f := fun k => spec_l8End.j3 k l (a : Int) (i : Int) false x.f0 x.f1 x.f2) (fun k => ?_) ?_
       · rw [spec_l8End.j2, if_pos rfl, if_pos h6, if_neg (by omega), if_neg (by omega), if_pos (by omega), if_pos (by omega)]
         have e : ((rd_T81 l (a : Int)).f0 != 4) = false := bne_eq_false_iff_eq.2 hin.2
         rw [e]
       · cases hv : endV l (a + 1) with
         | none =>
          rw [hv] at hE
          change Ev _ (-1 : Int) at hE
          refine Ev.step (f := fun k => (spec_l8End.f k l ((a + 1 : Nat) : Int)).bind fun t => if t < 0 then some (-1) else spec_l8End.l0 k l t (wrap64 ((i : Int) + 1)) x.f0 x.f1 x.f2) (fun k => ?_) (ev_bind hE (ev_if (by decide) (Ev.now _)))
          rw [spec_l8End.j3, if_neg (by decide), wrap_id (x := (a : Int) + 1) (by omega) (by omega)]; rfl
         | some e =>
          rw [hv] at hE
          change Ev _ (e : Int) at hE
          have hu := endV_up hv
          have hr := spec_l8End_l0 l x hl hx h20 c e (i + 1) (by omega) hu.2 (fun b hb => ih b (by omega))
          rw [decide_eq_true h6] at hr
          refine Ev.step (f := fun k => (spec_l8End.f k l ((a + 1 : Nat) : Int)).bind fun t => if t < 0 then some (-1) else spec_l8End.l0 k l t ((i + 1 : Nat) : Int) x.f0 x.f1 x.f2) (fun k => ?_) (ev_bind hE (ev_ifn (by omega) hr))
          rw [spec_l8End.j3, if_neg (by decide), wrap_id (x := (a : Int) + 1) (by omega) (by omega), wrap_id (x := (i : Int) + 1) (by omega) (by omega)]; rfl
     · rw [endL_map_no hin]
       refine Ev.step (f := fun k => spec_l8End.j3 k l (a : Int) (i : Int) true x.f0 x.f1 x.f2) (fun k => ?_) (ev_succ fun k => by rw [spec_l8End.j3, if_pos rfl]; rfl)
       rw [spec_l8End.j2, if_pos rfl, if_pos h6, if_neg (by omega)]
       by_cases hge : (a : Int) ≥ (l.length : Int)
       · rw [if_pos hge]
       · rw [if_neg hge, if_pos (by omega), if_pos (by omega)]
         have e : ((rd_T81 l (a : Int)).f0 != 4) = true := bne_iff_ne.2 (fun h4 => hin ⟨by omega, h4⟩)
         rw [e]
   · rw [decide_eq_false h6, endL_list]
     have hE := ih a (by omega) (by omega)
     cases hv : endV l a with
     | none =>
      rw [hv] at hE
      change Ev _ (-1 : Int) at hE
      refine Ev.step (f := fun k => (spec_l8End.f k l (a : Int)).bind fun t => if t < 0 then some (-1) else spec_l8End.l0 k l t (wrap64 ((i : Int) + 1)) x.f0 x.f1 x.f2) (fun k => ?_) (ev_bind hE (ev_if (by decide) (Ev.now _)))
      rw [spec_l8End.j2, if_pos rfl, if_neg h6]
     | some e =>
      rw [hv] at hE
      change Ev _ (e : Int) at hE
      have hu := endV_up hv
      have hr := spec_l8End_l0 l x hl hx h20 c e (i + 1) (by omega) hu.2 (fun b hb => ih b (by omega))
      rw [decide_eq_false h6] at hr
      refine Ev.step (f := fun k => (spec_l8End.f k l (a : Int)).bind fun t => if t < 0 then some (-1) else spec_l8End.l0 k l t ((i + 1 : Nat) : Int) x.f0 x.f1 x.f2) (fun k => ?_) (ev_bind hE (ev_ifn (by omega) hr))
      rw [spec_l8End.j2, if_pos rfl, if_neg h6, wrap_id (x := (i : Int) + 1) (by omega) (by omega)]; rfl
  refine Ev.step (fun k => ?_) h0
  rw [spec_l8End.l0, if_pos (by omega)]
  by_cases h5 : x.f0 = 5
  · rw [if_pos h5]
  · rw [if_neg h5, show (x.f0 == 6) = true from beq_iff_eq.2 (hx.resolve_left h5)]
theorem spec_l8End_ev {l : List S81} (hl : fine l) : ∀ (n a : Nat), l.length - a < n → a ≤ l.length → Ev (fun k => spec_l8End.f k l (a : Int)) (ei (endV l a))
 | 0, a, hn, _ => absurd hn (by omega)
 | n + 1, a, hn, ha => by
  by_cases hin : a < l.length
  · have h0 : Ev (fun k => spec_l8End.l0 k l ((a + 1 : Nat) : Int) 0 (vAt l a).f0 (vAt l a).f1 (vAt l a).f2) (ei (endV l a)) := by
     by_cases hne : nest (vAt l a)
     · have h2 := hl.2 a hin hne
       rw [endV_nest hin hne]
       exact spec_l8End_l0 l (vAt l a) hl.1 hne h2.2 _ (a + 1) 0 (by omega) (by omega) (fun b hb hb2 => spec_l8End_ev hl n b (by omega) hb2)
     · rw [endV_one hin hne]
       refine Ev.step (f := fun k => spec_l8End.j2 k l ((a + 1 : Nat) : Int) 0 false (vAt l a).f0 (vAt l a).f1 (vAt l a).f2) (fun k => ?_) (ev_succ fun k => ?_)
       · rw [spec_l8End.l0]
         by_cases h1 : 0 < (vAt l a).f1
         · rw [if_pos h1, if_neg (fun h => hne (.inl h)), show ((vAt l a).f0 == 6) = false from beq_eq_false_iff_ne.2 (fun h => hne (.inr h))]
         · rw [if_neg h1]
       · rw [spec_l8End.j2, if_neg (by decide)]; rfl
    refine Ev.step (f := fun k => spec_l8End.j0 k l (a : Int) false) (fun k => ?_) (Ev.step (fun k => ?_) h0)
    · rw [spec_l8End.f, if_neg (by omega), decide_eq_false (by omega)]
    · rw [spec_l8End.j0, if_neg (by decide), if_pos (by omega), if_pos (by omega), wrap_id (by have := hl.1; omega) (by have := hl.1; omega)]; rfl
  · rw [endV_out hin]
    refine Ev.step (f := fun k => spec_l8End.j0 k l (a : Int) true) (fun k => ?_) (ev_succ fun k => by rw [spec_l8End.j0, if_pos rfl]; rfl)
    rw [spec_l8End.f, if_neg (by omega), decide_eq_true (by omega)]
theorem spec_l8End_at {l : List S81} (hl : fine l) {a : Nat} (ha : a ≤ l.length) : Ev (fun k => spec_l8End.f k l (a : Int)) (ei (endV l a)) := spec_l8End_ev hl _ a (Nat.lt_succ_self _) ha
theorem spec_l8Twice_l1 (l : List S81) (m p j : Nat) (i : Int) (hp : p < l.length) (hl : l.length ≤ 20) (names : List ByteArray) (hn : names.length ≤ 1000) (r : Bool)
 (hin : (names.any fun y => y.data.toList == tx l p) = true → r = true)
 (hno : (names.any fun y => y.data.toList == tx l p) = false → Ev (fun k => (spec_l8End.f k l ((p + 1 : Nat) : Int)).bind fun t => spec_l8Twice.l0 k l (m : Int) (names ++ [(vAt l p).f2]) t (wrap64 (i + 1))) r) :
 ∀ (n j : Nat), names.length - j = n → j ≤ names.length → ((names.take j).any fun y => y.data.toList == tx l p) = false → Ev (fun k => spec_l8Twice.l1 k l (m : Int) names (p : Int) i (j : Int)) r
 | 0, j, hj, hj2, ht => by
  rw [List.take_of_length_le (by omega)] at ht
  refine Ev.step (fun k => ?_) (hno ht)
  rw [spec_l8Twice.l1, if_neg (by omega), if_pos (by omega), if_pos (by omega), if_pos (by omega), wrap_id (x := (p : Int) + 1) (by omega) (by omega)]; rfl
 | n + 1, j, hj, hj2, ht => by
  have hlt : j < names.length := by omega
  have hrd : rdOf ByteArray.empty names (j : Int) = names[j] := by
   unfold rdOf; simp [hlt]
  by_cases he : names[j].data.toList = tx l p
  · have hr : r = true := hin (List.any_eq_true.2 ⟨names[j], List.getElem_mem _, beq_iff_eq.2 he⟩)
    subst hr
    refine ev_succ fun k => ?_
    rw [spec_l8Twice.l1, if_pos (by omega), if_pos (by omega), if_pos (by omega), if_pos (by omega), hrd, ba_toList, ba_toList]
    exact if_pos he
  · have hr := spec_l8Twice_l1 l m p j i hp hl names hn r hin hno n (j + 1) (by omega) (by omega) (by
     rw [List.take_add_one, List.getElem?_eq_getElem hlt]
     simp only [Option.toList_some, List.any_append, ht, Bool.false_or, List.any_cons, List.any_nil, Bool.or_false]
     exact beq_eq_false_iff_ne.2 he)
    refine Ev.step (fun k => ?_) hr
    rw [spec_l8Twice.l1, if_pos (by omega), if_pos (by omega), if_pos (by omega), if_pos (by omega), hrd, ba_toList, ba_toList]
    refine (if_neg he).trans ?_
    rw [wrap_id (by omega) (by omega)]; rfl
theorem spec_l8Twice_l0 {l : List S81} (hl : fine l) (m : Nat) (hm : m < l.length) : ∀ (c a i : Nat) (names : List ByteArray) (seen : List UInt8 → Bool), (i : Int) + c = (vAt l m).f1 → a ≤ l.length → (vAt l m).f1 ≤ 20 → names.length = i → (∀ s, (names.any fun y => y.data.toList == s) = seen s) → (endL l (endV l) true c a).isSome →
 Ev (fun k => spec_l8Twice.l0 k l (m : Int) names (a : Int) (i : Int)) (twL l c a seen)
 | 0, a, i, names, seen, hc, ha, h20, hn, hs, _ => by
  refine ev_succ fun k => ?_
  rw [spec_l8Twice.l0, if_pos (by omega), if_pos (by omega)]
  exact if_neg (by show ¬ (i : Int) < (vAt l m).f1; omega)
 | c + 1, a, i, names, seen, hc, ha, h20, hn, hs, hsome => by
  have hin : a < l.length ∧ (vAt l a).f0 = 4 := by
   by_cases hin : a < l.length ∧ (vAt l a).f0 = 4
   · exact hin
   · rw [endL_map_no hin] at hsome; cases hsome
  rw [endL_map hin] at hsome
  cases hv : endV l (a + 1) with
  | none => rw [hv] at hsome; cases hsome
  | some e =>
   rw [hv] at hsome
   have hu := endV_up hv
   have hE := spec_l8End_at hl (a := a + 1) (by omega)
   rw [hv] at hE
   change Ev _ (e : Int) at hE
   have hh := hl.1
   have hr := spec_l8Twice_l0 hl m hm c e (i + 1) (names ++ [(vAt l a).f2]) (fun s => tx l a == s || seen s) (by omega) hu.2 h20 (by simp [hn]) (fun s => by
    rw [List.any_append, hs s]; simp only [List.any_cons, List.any_nil, Bool.or_false]; exact Bool.or_comm _ _) hsome
   have h1 := spec_l8Twice_l1 l m a 0 (i : Int) hin.1 hl.1 names (by omega) (twL l (c + 1) a seen) (fun h => by
    rw [hs] at h; unfold twL; rw [h]; rfl) (fun h => by
    have e1 : twL l (c + 1) a seen = twL l c e (fun s => tx l a == s || seen s) := by
     rw [hs] at h
     show (seen (tx l a) || twL l c ((endV l (a + 1)).getD 0) fun s => tx l a == s || seen s) = _
     rw [h, hv]; rfl
    rw [e1, wrap_id (x := (i : Int) + 1) (by omega) (by omega)]
    exact ev_bind hE hr) names.length 0 (by omega) (by omega) (by simp)
   refine Ev.step (fun k => ?_) h1
   rw [spec_l8Twice.l0, if_pos (by omega), if_pos (by omega)]
   exact if_pos (by show (i : Int) < (vAt l m).f1; omega)
theorem spec_l8Twice_ev {l : List S81} (hl : fine l) {m : Nat} (hm : m < l.length) (h6 : (vAt l m).f0 = 6) (hs : (endV l m).isSome) : Ev (fun k => spec_l8Twice.f k l (m : Int)) (twice l m) := by
 have h2 := hl.2 m hm (.inr h6)
 have hh := hl.1
 rw [endV_nest hm (.inr h6), decide_eq_true h6] at hs
 unfold spec_l8Twice.f twice
 rw [wrap_id (by omega) (by omega), decide_eq_true h6, Bool.true_and]
 exact spec_l8Twice_l0 hl m hm _ (m + 1) 0 [] _ (by omega) (by omega) h2.2 rfl (fun s => rfl) hs
theorem spec_l1Max_eq (a b : Nat) : spec_l1Max.f (a : Int) (b : Int) = some ((max a b : Nat) : Int) := by
 unfold spec_l1Max.f
 by_cases h : (a : Int) > (b : Int)
 · rw [if_pos h]; congr 1; omega
 · rw [if_neg h]; congr 1; omega
def Told (l : List S81) (a e : Nat) : Prop := ∃ dd : Nat, dd = depV l a ∧ dd ≤ l.length - a ∧ Ev (fun k => spec_l8Deep.f k l (a : Int)) (dd : Int) ∧
 ∀ (t m : Bool) (d F : Nat), 30 * (l.length - a) + 30 ≤ F → d + (l.length - a) ≤ 1000 → valueV F l false t m (a : Int) (d : Int) = some ((e : Int), false, t || anyR l a e, m || decide (4 < d + dd))
theorem told_loop {l : List S81} (hl : fine l) (x : S81) (hx : nest x) (h20 : x.f1 ≤ 20) : ∀ (c a i e : Nat) (names : List ByteArray) (seen : List UInt8 → Bool), (i : Int) + c = x.f1 → a ≤ l.length → (∀ b e', a ≤ b → endV l b = some e' → Told l b e') →
 endL l (endV l) (decide (x.f0 = 6)) c a = some e → names.length ≤ i → (∀ s, (names.any fun y => y.data.toList == s) = seen s) →
 ∃ dd : Nat, dd = depL l (depV l) (decide (x.f0 = 6)) c a ∧ dd ≤ l.length - a + 1 ∧ (∀ acc : Nat, acc ≤ 1000 → Ev (fun k => spec_l8Deep.l0 k l (acc : Int) (a : Int) (i : Int) x.f0 x.f1 x.f2) ((max acc dd : Nat) : Int)) ∧
 ∀ (t m : Bool) (d F : Nat), 30 * (l.length - a) + 32 + c ≤ F → d + 1 + (l.length - a) ≤ 1000 → valueL F l x false t m (a : Int) (d : Int) names (i : Int) = some ((e : Int), false, (t || (decide (x.f0 = 6) && twL l c a seen)) || anyR l a e, m || (decide (0 < dd) && decide (4 < d + dd)))
 | 0, a, i, e, names, seen, hc, ha, ih, he, hn, hs => by
  cases he
  refine ⟨0, rfl, by omega, fun acc _ => ?_, fun t m d F hF hd => ?_⟩
  · refine Ev.step (f := fun k => spec_l8Deep.j1 k l (acc : Int) (a : Int) (i : Int) false x.f0 x.f1 x.f2) (fun k => ?_) (ev_succ fun k => ?_)
    · rw [spec_l8Deep.l0, if_neg (by omega)]
    · rw [spec_l8Deep.j1, if_neg (by decide)]; simp
  · obtain ⟨F, rfl⟩ : ∃ G, F = G + 1 := ⟨F - 1, by omega⟩
    have h1 := hl.1
    rw [valueL, if_pos ⟨by omega, by omega, by omega⟩, if_neg (by omega), anyR_self]
    simp [twL]
 | c + 1, a, i, e, names, seen, hc, ha, ih, he, hn, hs => by
  have h1 := hl.1
  by_cases h6 : x.f0 = 6
  · rw [decide_eq_true h6] at he ⊢
    have hin : a < l.length ∧ (vAt l a).f0 = 4 := by
     by_cases hin : a < l.length ∧ (vAt l a).f0 = 4
     · exact hin
     · rw [endL_map_no hin] at he; cases he
    rw [endL_map hin] at he
    obtain ⟨b, hb, he⟩ := Option.bind_eq_some_iff.mp he
    have hu := endV_up hb
    obtain ⟨d1, hq1, hd1, hD1, hV1⟩ := ih (a + 1) b (by omega) hb
    have he2 : endL l (endV l) (decide (x.f0 = 6)) c b = some e := by rw [decide_eq_true h6]; exact he
    obtain ⟨d2, hq2, hd2, hD2, hV2⟩ := told_loop hl x hx h20 c b (i + 1) e ((vAt l a).f2 :: names) (fun s => tx l a == s || seen s) (by omega) hu.2 (fun b' e' hb' => ih b' e' (by omega)) he2 (by simp; omega) (fun s => by
     rw [List.any_cons, hs s]; rfl)
    have hup := endL_up l true (E := endV l) (fun b e h => endV_up h) c b e hu.2 he
    refine ⟨max (1 + d1) d2, (by rw [decide_eq_true h6] at hq2; rw [depL_map hb, hq1, hq2]), by omega, fun acc hacc => ?_, fun t m d F hF hd => ?_⟩
    · have hE := spec_l8End_at hl (a := a + 1) (by omega)
      rw [hb] at hE
      change Ev _ (b : Int) at hE
      have hr := hD2 (max acc (1 + d1)) (by omega)
      rw [show max (max acc (1 + d1)) d2 = max acc (max (1 + d1) d2) by omega] at hr
      refine Ev.step (f := fun k => spec_l8Deep.j1 k l (acc : Int) (a : Int) (i : Int) true x.f0 x.f1 x.f2) (fun k => ?_) (Ev.step (f := fun k => (spec_l8Deep.f k l ((a + 1 : Nat) : Int)).bind fun t136 => (spec_l1Max.f (acc : Int) (wrap64 (1 + t136))).bind fun t137 => (spec_l8End.f k l ((a + 1 : Nat) : Int)).bind fun t138 => spec_l8Deep.l0 k l t137 t138 ((i + 1 : Nat) : Int) x.f0 x.f1 x.f2) (fun k => ?_) (ev_bind hD1 ?_))
      · rw [spec_l8Deep.l0, if_pos (by omega), if_neg (by omega), show (x.f0 == 6) = true from beq_iff_eq.2 h6]
      · rw [spec_l8Deep.j1, if_pos rfl, if_pos h6, wrap_id (x := (a : Int) + 1) (by omega) (by omega), wrap_id (x := (i : Int) + 1) (by omega) (by omega)]; rfl
      · rw [wrap_id (by omega) (by omega)]
        refine ev_bind0 (a := ((max acc (1 + d1) : Nat) : Int)) ?_ (ev_bind hE hr)
        have := spec_l1Max_eq acc (1 + d1)
        rw [show (1 : Int) + (d1 : Int) = ((1 + d1 : Nat) : Int) by omega]; exact this
    · obtain ⟨F, rfl⟩ : ∃ G, F = G + 1 := ⟨F - 1, by omega⟩
      have v1 := hV1 (t || seen (tx l a)) (m || decide (4 < d + 1)) (d + 1) F (by omega) (by omega)
      have v2 := hV2 ((t || seen (tx l a)) || anyR l (a + 1) b) ((m || decide (4 < d + 1)) || decide (4 < d + 1 + d1)) d F (by omega) (by omega)
      rw [decide_eq_true h6] at v2
      have e4 : decide (4 < (d : Int) + 1) = decide (4 < d + 1) := by apply Bool.eq_iff_iff.2; rw [decide_eq_true_iff, decide_eq_true_iff]; omega
      rw [valueL, if_pos ⟨by omega, by omega, by omega⟩, if_pos (by omega), if_pos h6, if_pos ⟨by omega, by omega⟩, if_neg (by simp; omega), if_pos (show (rd_T81 l (a : Int)).f0 = 4 from hin.2)]
      rw [show (names.any fun y => y.data.toList == (rd_T81 l (a : Int)).f2.data.toList) = seen (tx l a) from hs _, e4]
      rw [show (a : Int) + 1 = ((a + 1 : Nat) : Int) by omega, show (d : Int) + 1 = ((d + 1 : Nat) : Int) by omega, v1]
      refine Eq.trans (show _ = valueL F l x false ((t || seen (tx l a)) || anyR l (a + 1) b) ((m || decide (4 < d + 1)) || decide (4 < d + 1 + d1)) (b : Int) (d : Int) ((vAt l a).f2 :: names) ((i : Int) + 1) from rfl) ?_
      rw [show (i : Int) + 1 = ((i + 1 : Nat) : Int) by omega, v2]
      have et : ((t || seen (tx l a) || anyR l (a + 1) b || (true && twL l c b fun s => tx l a == s || seen s)) || anyR l b e) = ((t || (true && twL l (c + 1) a seen)) || anyR l a e) := by
       have e5 : twL l (c + 1) a seen = (seen (tx l a) || twL l c b fun s => tx l a == s || seen s) := by
        show (seen (tx l a) || twL l c ((endV l (a + 1)).getD 0) fun s => tx l a == s || seen s) = _
        rw [hb]; rfl
       have e6 : twice l a = false := by unfold twice; rw [hin.2]; rfl
       rw [e5, anyR_cons l (show a < e by omega), e6, anyR_trans l (show a + 1 ≤ b by omega) hup.1]
       generalize twL l c b (fun s => tx l a == s || seen s) = q1
       generalize anyR l (a + 1) b = q2
       generalize anyR l b e = q3
       generalize seen (tx l a) = q4
       clear v1 v2
       revert t q1 q2 q3 q4; decide
      have en : ((m || decide (4 < d + 1)) || decide (4 < d + 1 + d1) || (decide (0 < d2) && decide (4 < d + d2))) = (m || (decide (0 < max (1 + d1) d2) && decide (4 < d + max (1 + d1) d2))) := by
       cases m with
       | true => simp
       | false =>
        apply Bool.eq_iff_iff.2
        simp only [Bool.false_or, Bool.or_eq_true, Bool.and_eq_true, decide_eq_true_iff]
        omega
      rw [et, en]
  · have hx5 : x.f0 = 5 := hx.resolve_right h6
    rw [decide_eq_false h6] at he ⊢
    rw [endL_list] at he
    obtain ⟨b, hb, he⟩ := Option.bind_eq_some_iff.mp he
    have hu := endV_up hb
    obtain ⟨d1, hq1, hd1, hD1, hV1⟩ := ih a b (by omega) hb
    have he2 : endL l (endV l) (decide (x.f0 = 6)) c b = some e := by rw [decide_eq_false h6]; exact he
    obtain ⟨d2, hq2, hd2, hD2, hV2⟩ := told_loop hl x hx h20 c b (i + 1) e names seen (by omega) hu.2 (fun b' e' hb' => ih b' e' (by omega)) he2 (by omega) hs
    have hup := endL_up l false (E := endV l) (fun b e h => endV_up h) c b e hu.2 he
    refine ⟨max (1 + d1) d2, (by rw [decide_eq_false h6] at hq2; rw [depL_list hb, hq1, hq2]), by omega, fun acc hacc => ?_, fun t m d F hF hd => ?_⟩
    · have hE := spec_l8End_at hl (a := a) (by omega)
      rw [hb] at hE
      change Ev _ (b : Int) at hE
      have hr := hD2 (max acc (1 + d1)) (by omega)
      rw [show max (max acc (1 + d1)) d2 = max acc (max (1 + d1) d2) by omega] at hr
      refine Ev.step (f := fun k => spec_l8Deep.j1 k l (acc : Int) (a : Int) (i : Int) true x.f0 x.f1 x.f2) (fun k => ?_) (Ev.step (f := fun k => (spec_l8Deep.f k l (a : Int)).bind fun t136 => (spec_l1Max.f (acc : Int) (wrap64 (1 + t136))).bind fun t137 => (spec_l8End.f k l (a : Int)).bind fun t138 => spec_l8Deep.l0 k l t137 t138 ((i + 1 : Nat) : Int) x.f0 x.f1 x.f2) (fun k => ?_) (ev_bind hD1 ?_))
      · rw [spec_l8Deep.l0, if_pos (by omega), if_pos hx5]
      · rw [spec_l8Deep.j1, if_pos rfl, if_neg h6, wrap_id (x := (i : Int) + 1) (by omega) (by omega)]; rfl
      · rw [wrap_id (by omega) (by omega)]
        refine ev_bind0 (a := ((max acc (1 + d1) : Nat) : Int)) ?_ (ev_bind hE hr)
        have := spec_l1Max_eq acc (1 + d1)
        rw [show (1 : Int) + (d1 : Int) = ((1 + d1 : Nat) : Int) by omega]; exact this
    · obtain ⟨F, rfl⟩ : ∃ G, F = G + 1 := ⟨F - 1, by omega⟩
      have v1 := hV1 t m (d + 1) F (by omega) (by omega)
      have v2 := hV2 (t || anyR l a b) (m || decide (4 < d + 1 + d1)) d F (by omega) (by omega)
      rw [decide_eq_false h6] at v2
      rw [valueL, if_pos ⟨by omega, by omega, by omega⟩, if_pos (by omega), if_neg h6]
      rw [show (d : Int) + 1 = ((d + 1 : Nat) : Int) by omega, v1]
      refine Eq.trans (show _ = valueL F l x false (t || anyR l a b) (m || decide (4 < d + 1 + d1)) (b : Int) (d : Int) names ((i : Int) + 1) from rfl) ?_
      rw [show (i : Int) + 1 = ((i + 1 : Nat) : Int) by omega, v2]
      have et : ((t || anyR l a b || (false && twL l c b seen)) || anyR l b e) = ((t || (false && twL l (c + 1) a seen)) || anyR l a e) := by
       rw [anyR_trans l (show a ≤ b by omega) hup.1]
       simp only [Bool.false_and, Bool.or_false]
       exact Bool.or_assoc _ _ _
      have en : (m || decide (4 < d + 1 + d1) || (decide (0 < d2) && decide (4 < d + d2))) = (m || (decide (0 < max (1 + d1) d2) && decide (4 < d + max (1 + d1) d2))) := by
       cases m with
       | true => simp
       | false =>
        apply Bool.eq_iff_iff.2
        simp only [Bool.false_or, Bool.or_eq_true, Bool.and_eq_true, decide_eq_true_iff]
        omega
      rw [et, en]
theorem told {l : List S81} (hl : fine l) : ∀ (n a e : Nat), l.length - a < n → endV l a = some e → Told l a e
 | 0, a, e, hn, _ => absurd hn (by omega)
 | n + 1, a, e, hn, he => by
  have hu := endV_up he
  have h1 := hl.1
  have hin : a < l.length := by omega
  by_cases hne : nest (vAt l a)
  · have h2 := hl.2 a hin hne
    have he' := he
    rw [endV_nest hin hne] at he'
    obtain ⟨dd, hq, hdd, hD, hV⟩ := told_loop hl (vAt l a) hne h2.2 _ (a + 1) 0 e [] (fun _ => false) (by omega) (by omega) (fun b e' hb he' => told hl n b e' (by omega) he') he' (by simp) (fun s => rfl)
    refine ⟨dd, (by rw [depV_nest hin hne, hq]), by omega, ?_, fun t m d F hF hd => ?_⟩
    · have hD0 := hD 0 (by omega)
      rw [Nat.zero_max] at hD0
      refine Ev.step (fun k => ?_) hD0
      rw [spec_l8Deep.f, if_pos (by omega), if_pos (by omega), wrap_id (by omega) (by omega)]; rfl
    · obtain ⟨F, rfl⟩ : ∃ G, F = G + 1 := ⟨F - 1, by omega⟩
      have v := hV t (m || decide (4 < (d : Int))) d F (by omega) (by omega)
      rw [valueV, if_pos ⟨by omega, by omega, by omega, by omega, by omega⟩, if_neg (by simp; omega), if_pos (show (rd_T81 l (a : Int)).f0 = 5 ∨ (rd_T81 l (a : Int)).f0 = 6 from hne)]
      refine Eq.trans (show _ = valueL F l (vAt l a) false t (m || decide (4 < (d : Int))) ((a + 1 : Nat) : Int) (d : Int) [] ((0 : Nat) : Int) from rfl) ?_
      rw [v]
      have et : ((t || (decide ((vAt l a).f0 = 6) && twL l (vAt l a).f1.toNat (a + 1) fun _ => false)) || anyR l (a + 1) e) = (t || anyR l a e) := by
       rw [anyR_cons l hu.1]; exact Bool.or_assoc _ _ _
      have en : (m || decide (4 < (d : Int)) || (decide (0 < dd) && decide (4 < d + dd))) = (m || decide (4 < d + dd)) := by
       cases m with
       | true => simp
       | false =>
        apply Bool.eq_iff_iff.2
        simp only [Bool.false_or, Bool.or_eq_true, Bool.and_eq_true, decide_eq_true_iff]
        omega
      rw [et, en]
  · rw [endV_one hin hne] at he
    cases he
    refine ⟨0, (depV_one hne).symm, by omega, ?_, fun t m d F hF hd => ?_⟩
    · refine Ev.step (f := fun k => spec_l8Deep.l0 k l 0 ((a + 1 : Nat) : Int) 0 (vAt l a).f0 (vAt l a).f1 (vAt l a).f2) (fun k => ?_) (Ev.step (f := fun k => spec_l8Deep.j1 k l 0 ((a + 1 : Nat) : Int) 0 false (vAt l a).f0 (vAt l a).f1 (vAt l a).f2) (fun k => ?_) (ev_succ fun k => ?_))
      · rw [spec_l8Deep.f, if_pos (by omega), if_pos (by omega), wrap_id (by omega) (by omega)]; rfl
      · rw [spec_l8Deep.l0]
        by_cases h1 : 0 < (vAt l a).f1
        · rw [if_pos h1, if_neg (fun h => hne (.inl h)), show ((vAt l a).f0 == 6) = false from beq_eq_false_iff_ne.2 (fun h => hne (.inr h))]
        · rw [if_neg h1]
      · rw [spec_l8Deep.j1, if_neg (by decide)]; rfl
    · obtain ⟨F, rfl⟩ : ∃ G, F = G + 1 := ⟨F - 1, by omega⟩
      rw [valueV, if_pos ⟨by omega, by omega, by omega, by omega, by omega⟩, if_neg (by simp; omega), if_neg (show ¬ ((rd_T81 l (a : Int)).f0 = 5 ∨ (rd_T81 l (a : Int)).f0 = 6) from hne)]
      have e6 : twice l a = false := by unfold twice; rw [decide_eq_false (fun h => hne (.inr h))]; rfl
      rw [anyR_cons l (show a < a + 1 by omega), anyR_self, e6]
      have e4 : decide (4 < (d : Int)) = decide (4 < d + 0) := by apply Bool.eq_iff_iff.2; rw [decide_eq_true_iff, decide_eq_true_iff]; omega
      rw [e4]
      simp
theorem valueV_true {l : List S81} {a d : Int} {t m : Bool} (F : Nat) (h : 0 ≤ a ∧ a ≤ l.length ∧ 0 ≤ d ∧ d ≤ 1000000 ∧ l.length ≤ 1000000) : valueV (F + 1) l true t m a d = some (a, true, t, m) := by
 rw [valueV, if_pos h, if_pos (.inl rfl)]
theorem valueL_true {l : List S81} (x : S81) {a d : Int} {t m : Bool} (names : List ByteArray) (h : 0 ≤ a ∧ a ≤ l.length ∧ 0 ≤ d ∧ d + 1 ≤ 1000000 ∧ l.length ≤ 1000000) (hn : names.length ≤ 1000000) : ∀ (c i F : Nat), x.f1 ≤ i + c → i + c ≤ 1000000 → c + 2 ≤ F → valueL F l x true t m a d names (i : Int) = some (a, true, t, m)
 | c, i, 0, _, _, hF => absurd hF (by omega)
 | c, i, F + 1, hc, hic, hF => by
  rw [valueL, if_pos ⟨by omega, by omega, hn⟩]
  by_cases hi : (i : Int) < x.f1
  · rw [if_pos hi]
    by_cases h6 : x.f0 = 6
    · rw [if_pos h6, if_pos ⟨h.1, h.2.1⟩, if_pos (.inl rfl)]
    · rw [if_neg h6]
      obtain ⟨F, rfl⟩ : ∃ G, F = G + 1 := ⟨F - 1, by omega⟩
      rw [valueV_true F ⟨h.1, h.2.1, by omega, h.2.2.2.1, h.2.2.2.2⟩]
      cases c with
      | zero => omega
      | succ c =>
       rw [Option.bind_some, show (i : Int) + 1 = ((i + 1 : Nat) : Int) by omega]
       exact valueL_true x names h hn c (i + 1) (F + 1) (by omega) (by omega) (by omega)
  · rw [if_neg hi]
def Wrong (l : List S81) (a : Nat) : Prop :=
 ∀ (t m : Bool) (d F : Nat), 30 * (l.length - a) + 30 ≤ F → d + (l.length - a) ≤ 1000 → ∃ (q : Nat) (t' m' : Bool), q ≤ l.length ∧ valueV F l false t m (a : Int) (d : Int) = some ((q : Int), true, t', m')
theorem wrong_loop {l : List S81} (hl : fine l) (x : S81) (hx : nest x) (h20 : x.f1 ≤ 20) : ∀ (c a i : Nat) (names : List ByteArray), (i : Int) + c = x.f1 → a ≤ l.length → (∀ b, a ≤ b → b ≤ l.length → endV l b = none → Wrong l b) →
 endL l (endV l) (decide (x.f0 = 6)) c a = none → names.length ≤ i →
 ∀ (t m : Bool) (d F : Nat), 30 * (l.length - a) + 62 + c ≤ F + 30 → d + 1 + (l.length - a) ≤ 1000 → ∃ (q : Nat) (t' m' : Bool), q ≤ l.length ∧ valueL F l x false t m (a : Int) (d : Int) names (i : Int) = some ((q : Int), true, t', m')
 | 0, a, i, names, hc, ha, ih, he, hn, t, m, d, F, hF, hd => by cases he
 | c + 1, a, i, names, hc, ha, ih, he, hn, t, m, d, F, hF, hd => by
  have h1 := hl.1
  obtain ⟨F, rfl⟩ : ∃ G, F = G + 1 := ⟨F - 1, by omega⟩
  rw [valueL, if_pos ⟨by omega, by omega, by omega⟩, if_pos (by omega)]
  by_cases h6 : x.f0 = 6
  · rw [if_pos h6, if_pos ⟨by omega, by omega⟩]
    rw [decide_eq_true h6] at he
    by_cases ho : (l.length : Int) ≤ (a : Int)
    · rw [if_pos (.inr ho)]
      exact ⟨a, t, m, ha, rfl⟩
    · rw [if_neg (by simp; omega)]
      by_cases h4 : (vAt l a).f0 = 4
      · rw [if_pos (show (rd_T81 l (a : Int)).f0 = 4 from h4)]
        rw [endL_map ⟨by omega, h4⟩] at he
        generalize (t || names.any fun y => y.data.toList == (rd_T81 l (a : Int)).f2.data.toList) = t1
        generalize (m || decide (4 < (d : Int) + 1)) = m1
        rw [show (a : Int) + 1 = ((a + 1 : Nat) : Int) by omega, show (d : Int) + 1 = ((d + 1 : Nat) : Int) by omega, show (i : Int) + 1 = ((i + 1 : Nat) : Int) by omega]
        cases hb : endV l (a + 1) with
        | none =>
         obtain ⟨q, t2, m2, hq, e⟩ := ih (a + 1) (by omega) (by omega) hb t1 m1 (d + 1) F (by omega) (by omega)
         rw [e]
         exact ⟨q, t2, m2, hq, valueL_true x _ ⟨by omega, by omega, by omega, by omega, by omega⟩ (by simp; omega) c (i + 1) F (by omega) (by omega) (by omega)⟩
        | some b =>
         rw [hb] at he
         have hu := endV_up hb
         obtain ⟨d1, _, hd1, hD1, hV1⟩ := told hl _ (a + 1) b (Nat.lt_succ_self _) hb
         rw [hV1 t1 m1 (d + 1) F (by omega) (by omega)]
         exact wrong_loop hl x hx h20 c b (i + 1) _ (by omega) hu.2 (fun b' hb' => ih b' (by omega)) (by rw [decide_eq_true h6]; exact he) (by simp; omega) _ _ d F (by omega) (by omega)
      · rw [if_neg (show ¬ (rd_T81 l (a : Int)).f0 = 4 from h4)]
        exact ⟨a, t, m, ha, rfl⟩
  · rw [if_neg h6]
    rw [decide_eq_false h6, endL_list] at he
    rw [show (d : Int) + 1 = ((d + 1 : Nat) : Int) by omega, show (i : Int) + 1 = ((i + 1 : Nat) : Int) by omega]
    cases hb : endV l a with
    | none =>
     obtain ⟨q, t2, m2, hq, e⟩ := ih a (by omega) (by omega) hb t m (d + 1) F (by omega) (by omega)
     rw [e]
     exact ⟨q, t2, m2, hq, valueL_true x _ ⟨by omega, by omega, by omega, by omega, by omega⟩ (by omega) c (i + 1) F (by omega) (by omega) (by omega)⟩
    | some b =>
     rw [hb] at he
     have hu := endV_up hb
     obtain ⟨d1, _, hd1, hD1, hV1⟩ := told hl _ a b (Nat.lt_succ_self _) hb
     rw [hV1 t m (d + 1) F (by omega) (by omega)]
     exact wrong_loop hl x hx h20 c b (i + 1) _ (by omega) hu.2 (fun b' hb' => ih b' (by omega)) (by rw [decide_eq_false h6]; exact he) (by omega) _ _ d F (by omega) (by omega)
theorem wrong {l : List S81} (hl : fine l) : ∀ (n a : Nat), l.length - a < n → a ≤ l.length → endV l a = none → Wrong l a
 | 0, a, hn, _, _ => absurd hn (by omega)
 | n + 1, a, hn, ha, he => by
  intro t m d F hF hd
  have h1 := hl.1
  obtain ⟨F, rfl⟩ : ∃ G, F = G + 1 := ⟨F - 1, by omega⟩
  rw [valueV, if_pos ⟨by omega, by omega, by omega, by omega, by omega⟩]
  by_cases hin : a < l.length
  · rw [if_neg (by simp; omega)]
    by_cases hne : nest (vAt l a)
    · have h2 := hl.2 a hin hne
      rw [if_pos (show (rd_T81 l (a : Int)).f0 = 5 ∨ (rd_T81 l (a : Int)).f0 = 6 from hne)]
      rw [endV_nest hin hne] at he
      exact wrong_loop hl (vAt l a) hne h2.2 _ (a + 1) 0 [] (by omega) (by omega) (fun b hb hb2 he' => wrong hl n b (by omega) hb2 he') he (by simp) t _ d F (by omega) (by omega)
    · rw [endV_one hin hne] at he; cases he
  · rw [if_pos (.inr (by omega))]
    exact ⟨a, t, m, ha, rfl⟩
def codeL : List S81 → Int
 | [] => 0
 | x :: r => if oneV x = 0 then codeL r else oneV x
theorem codeL_fine {l : List S81} (h : codeL l = 0) : ∀ x ∈ l, oneV x = 0 := by
 induction l with
 | nil => simp
 | cons y r ih =>
  unfold codeL at h
  by_cases h1 : oneV y = 0
  · rw [if_pos h1] at h
    intro x hx
    rcases List.mem_cons.1 hx with rfl | hx
    · exact h1
    · exact ih h x hx
  · rw [if_neg h1] at h; exact absurd h h1
theorem fine_of {l : List S81} (hl : l.length ≤ 20) (h : codeL l = 0) : fine l := by
 refine ⟨hl, fun i hi hn => oneV_fine (codeL_fine h _ ?_) hn⟩
 unfold vAt rd_T81
 rw [List.getD_eq_getElem?_getD, List.getElem?_eq_getElem (by omega)]
 exact List.getElem_mem _
theorem spec_l8Fault_l0 (suf : List S81) : ∀ (pre : List S81) (r : Int), (pre.length : Int) + suf.length ≤ 1048576 → (∀ x ∈ suf, x.f2.size ≤ 1048576) → (codeL suf ≠ 0 → r = codeL suf) →
 (codeL suf = 0 → Ev (fun k => (spec_l8End.f k (pre ++ suf) 0).bind fun t => if t = ((pre ++ suf).length : Int) then spec_l8Fault.l1 k (pre ++ suf) 0 else some 1) r) → Ev (fun k => spec_l8Fault.l0 k (pre ++ suf) pre.length) r := by
 induction suf with
 | nil =>
  intro pre r hl hs h1 h2
  refine Ev.step (fun k => ?_) (h2 rfl)
  rw [spec_l8Fault.l0, if_neg (by simp)]
 | cons b suf ih =>
  intro pre r hl hs h1 h2
  simp only [List.length_cons, Int.natCast_add, Int.natCast_one] at hl
  have hrd : rd_T81 (pre ++ b :: suf) (pre.length : Int) = b := by unfold rd_T81; simp
  have hstep : ∀ k, spec_l8Fault.l0 (k + 1) (pre ++ b :: suf) pre.length = (spec_l8One.f k b.f0 b.f1 b.f2).bind fun t => if t = 0 then spec_l8Fault.l0 k (pre ++ b :: suf) ((pre.length : Int) + 1) else some t := by
   intro k
   rw [spec_l8Fault.l0, if_pos (by simp; omega), if_pos (by omega), hrd, wrap_id (by omega) (by omega)]
  refine Ev.step hstep (ev_bind (spec_l8One_ev b (hs b (by simp))) ?_)
  by_cases h0 : oneV b = 0
  · have ec : codeL (b :: suf) = codeL suf := if_pos h0
    rw [ec] at h1 h2
    have h := ih (pre ++ [b]) r (by simp; omega) (fun x hx => hs x (by simp [hx])) h1 (by simpa using h2)
    refine ev_if h0 ?_
    simpa using h
  · have ec : codeL (b :: suf) = oneV b := if_neg h0
    rw [ec] at h1
    rw [h1 h0]
    exact ev_ifn h0 (Ev.now _)
theorem impl_ValsFault_l0 (suf : List S81) : ∀ (pre : List S81) (r : Int), (pre.length : Int) + suf.length ≤ 1048576 → (codeL suf ≠ 0 → r = codeL suf) →
 (codeL suf = 0 → ((impl_structure_value.f (pre ++ suf) false false false 0 0).bind fun q => if q.2.1 = true then some 1 else if q.1 = ((pre ++ suf).length : Int) then (if q.2.2.1 = true then some 6 else if q.2.2.2 = true then some 2 else some 0) else some 1) = some r) → Ev (fun k => impl_ValsFault.l0 k (pre ++ suf) pre.length) r := by
 induction suf with
 | nil =>
  intro pre r hl h1 h2
  refine ev_succ fun k => ?_
  rw [impl_ValsFault.l0, if_neg (by simp)]
  exact h2 rfl
 | cons b suf ih =>
  intro pre r hl h1 h2
  simp only [List.length_cons, Int.natCast_add, Int.natCast_one] at hl
  have hrd : rd_T81 (pre ++ b :: suf) (pre.length : Int) = b := by unfold rd_T81; simp
  have hstep : ∀ k, impl_ValsFault.l0 (k + 1) (pre ++ b :: suf) pre.length = (impl_valFault.f k b.f0 b.f1 b.f2).bind fun t => if t = 0 then impl_ValsFault.l0 k (pre ++ b :: suf) ((pre.length : Int) + 1) else some t := by
   intro k
   rw [impl_ValsFault.l0, if_pos (by simp; omega), if_pos (by omega), hrd, wrap_id (by omega) (by omega)]
  refine Ev.step hstep (ev_bind (impl_valFault_ev b) ?_)
  by_cases h0 : oneV b = 0
  · have ec : codeL (b :: suf) = codeL suf := if_pos h0
    rw [ec] at h1 h2
    have h := ih (pre ++ [b]) r (by simp; omega) h1 (by simpa using h2)
    refine ev_if h0 ?_
    simpa using h
  · have ec : codeL (b :: suf) = oneV b := if_neg h0
    rw [ec] at h1
    rw [h1 h0]
    exact ev_ifn h0 (Ev.now _)
theorem spec_l8Fault_l1 {l : List S81} (hl : fine l) (he : endV l 0 = some l.length) (dd : Nat) (hd : Ev (fun k => spec_l8Deep.f k l 0) (dd : Int)) : ∀ (n i : Nat), l.length - i = n → i ≤ l.length →
 Ev (fun k => spec_l8Fault.l1 k l (i : Int)) (if anyR l i l.length = true then 6 else if 4 < dd then 2 else 0)
 | 0, i, hn, hi => by
  obtain rfl : i = l.length := by omega
  rw [anyR_self, if_neg (by decide)]
  refine Ev.step (f := fun k => (spec_l8Deep.f k l 0).bind fun t => if t > 4 then some 2 else some 0) (fun k => ?_) (ev_bind hd ?_)
  · rw [spec_l8Fault.l1, if_neg (by omega)]
  · by_cases h : 4 < dd
    · rw [if_pos h]; exact ev_if (by omega) (Ev.now _)
    · rw [if_neg h]; exact ev_ifn (by omega) (Ev.now _)
 | n + 1, i, hn, hi => by
  have h1 := hl.1
  have ih := spec_l8Fault_l1 hl he dd hd n (i + 1) (by omega) (by omega)
  rw [anyR_cons l (show i < l.length by omega)]
  by_cases h6 : (vAt l i).f0 = 6
  · have hT := spec_l8Twice_ev hl (m := i) (by omega) h6 (endV_sub l _ 0 _ (Nat.le_refl _) he i (by omega) (by omega) h6)
    refine Ev.step (f := fun k => (spec_l8Twice.f k l (i : Int)).bind fun t => if t = true then some 6 else spec_l8Fault.l1 k l ((i + 1 : Nat) : Int)) (fun k => ?_) (ev_bind hT ?_)
    · rw [spec_l8Fault.l1, if_pos (by omega), if_pos (by omega), if_pos (show (rd_T81 l (i : Int)).f0 = 6 from h6), wrap_id (by omega) (by omega)]; rfl
    · cases ht : twice l i with
      | true => exact ev_if rfl (Ev.now _)
      | false => exact ev_ifn (by decide) ih
  · have e6 : twice l i = false := by unfold twice; rw [decide_eq_false h6]; rfl
    rw [e6, Bool.false_or]
    refine Ev.step (fun k => ?_) ih
    rw [spec_l8Fault.l1, if_pos (by omega), if_pos (by omega), if_neg (show ¬ (rd_T81 l (i : Int)).f0 = 6 from h6), wrap_id (by omega) (by omega)]; rfl
def valsV (l : List S81) : Int := if 1 ≤ (l.length : Int) ∧ (l.length : Int) ≤ 20 then (if codeL l = 0 then (if endV l 0 = some l.length then (if anyR l 0 l.length = true then 6 else if 4 < depV l 0 then 2 else 0) else 1) else codeL l) else 2
theorem valsV_0 {l : List S81} (h : valsV l = 0) : fine l ∧ 0 < l.length ∧ codeL l = 0 ∧ endV l 0 = some l.length ∧ anyR l 0 l.length = false ∧ depV l 0 ≤ 4 := by
 unfold valsV at h
 by_cases h1 : 1 ≤ (l.length : Int) ∧ (l.length : Int) ≤ 20
 · rw [if_pos h1] at h
   by_cases h2 : codeL l = 0
   · rw [if_pos h2] at h
     by_cases h3 : endV l 0 = some l.length
     · rw [if_pos h3] at h
       by_cases h4 : anyR l 0 l.length = true
       · rw [if_pos h4] at h; cases h
       · rw [if_neg h4] at h
         by_cases h5 : 4 < depV l 0
         · rw [if_pos h5] at h; cases h
         · exact ⟨fine_of (by omega) h2, by omega, h2, h3, Bool.eq_false_iff.2 h4, by omega⟩
     · rw [if_neg h3] at h; cases h
   · rw [if_neg h2] at h; exact absurd h h2
 · rw [if_neg h1] at h; cases h
theorem valsV_of {l : List S81} (h0 : 0 < l.length) (h20 : l.length ≤ 20) (h2 : codeL l = 0) (h3 : endV l 0 = some l.length) (h4 : anyR l 0 l.length = false) (h5 : depV l 0 ≤ 4) : valsV l = 0 := by
 unfold valsV
 rw [if_pos (by omega), if_pos h2, if_pos h3, if_neg (by rw [h4]; decide), if_neg (by omega)]
theorem valsFault_evs {l : List S81} (hlen : l.length ≤ 1048576) (hs : ∀ x ∈ l, x.f2.size ≤ 1048576) : Ev (fun k => spec_l8Fault.f k l) (valsV l) ∧ Ev (fun k => impl_ValsFault.f k l) (valsV l) := by
 have hin := impl_in_eq (l.length : Int) 1 20
 unfold valsV
 by_cases hl : 1 ≤ (l.length : Int) ∧ (l.length : Int) ≤ 20
 · rw [decide_eq_true hl] at hin
   rw [if_pos hl]
   suffices h : ∀ r, r = (if codeL l = 0 then (if endV l 0 = some l.length then (if anyR l 0 l.length = true then (6 : Int) else if 4 < depV l 0 then 2 else 0) else 1) else codeL l) → Ev (fun k => spec_l8Fault.l0 k l 0) r ∧ Ev (fun k => impl_ValsFault.l0 k l 0) r by
    obtain ⟨h1, h2⟩ := h _ rfl
    refine ⟨?_, ?_⟩
    · unfold spec_l8Fault.f
      refine ev_ifn (by omega) ?_
      rw [decide_eq_false (show ¬ (l.length : Int) > 20 by omega)]
      exact Ev.step (fun k => by rw [spec_l8Fault.j0, if_neg (by decide)]) h1
    · unfold impl_ValsFault.f
      exact ev_bind0 hin (ev_if rfl h2)
   intro r hr
   by_cases hc : codeL l = 0
   · rw [if_pos hc] at hr
     have hf := fine_of (by omega) hc
     have hsz : ∀ x ∈ l, x.f2.size ≤ maxLen := fun x hx => by have := hs x hx; unfold maxLen; omega
     have hE := spec_l8End_at hf (a := 0) (by omega)
     cases he : endV l 0 with
     | none =>
      rw [he] at hE
      change Ev _ (-1 : Int) at hE
      rw [he, if_neg (by simp)] at hr
      subst hr
      refine ⟨spec_l8Fault_l0 l [] 1 (by simp; omega) hs (fun h => absurd hc h) (fun _ => ev_bind hE (ev_ifn (by simp) (Ev.now _))), impl_ValsFault_l0 l [] 1 (by simp; omega) (fun h => absurd hc h) (fun _ => ?_)⟩
      obtain ⟨q, t', m', _, e⟩ := wrong hf _ 0 (Nat.lt_succ_self _) (by omega) he false false 0 100000 (by omega) (by omega)
      have e2 : impl_structure_value.f ([] ++ l) false false false 0 0 = some ((q : Int), true, t', m') := by
       unfold impl_structure_value.f; rw [List.nil_append, if_pos hsz]; exact e
      rw [e2]; rfl
     | some e =>
      rw [he] at hE
      change Ev _ (e : Int) at hE
      obtain ⟨dd, hq, hdd, hD, hV⟩ := told hf _ 0 e (Nat.lt_succ_self _) he
      have e1 := hV false false 0 100000 (by omega) (by omega)
      have e2 : impl_structure_value.f ([] ++ l) false false false 0 0 = some ((e : Int), false, anyR l 0 e, decide (4 < dd)) := by
       unfold impl_structure_value.f; rw [List.nil_append, if_pos hsz]
       refine e1.trans ?_
       rw [Bool.false_or, Bool.false_or, Nat.zero_add]
      by_cases hle : e = l.length
      · subst hle
        rw [he, if_pos rfl, ← hq] at hr
        subst hr
        refine ⟨spec_l8Fault_l0 l [] _ (by simp; omega) hs (fun h => absurd hc h) (fun _ => ev_bind hE (ev_if (by simp) (spec_l8Fault_l1 hf he dd hD _ 0 rfl (by omega)))), impl_ValsFault_l0 l [] _ (by simp; omega) (fun h => absurd hc h) (fun _ => ?_)⟩
        rw [e2, Option.bind_some, if_neg (by simp), if_pos (by simp)]
        by_cases h1 : anyR l 0 l.length = true
        · rw [if_pos h1, if_pos h1]
        · rw [if_neg h1, if_neg h1]
          by_cases h2 : 4 < dd
          · rw [if_pos (decide_eq_true h2), if_pos h2]
          · rw [if_neg (by rw [decide_eq_false h2]; simp), if_neg h2]
      · rw [he, if_neg (by simp [hle])] at hr
        subst hr
        refine ⟨spec_l8Fault_l0 l [] 1 (by simp; omega) hs (fun h => absurd hc h) (fun _ => ev_bind hE (ev_ifn (by simp; omega) (Ev.now _))), impl_ValsFault_l0 l [] 1 (by simp; omega) (fun h => absurd hc h) (fun _ => ?_)⟩
        rw [e2, Option.bind_some, if_neg (by simp), if_neg (by simp; omega)]
   · rw [if_neg hc] at hr
     subst hr
     exact ⟨spec_l8Fault_l0 l [] _ (by simp; omega) hs (fun _ => rfl) (fun h => absurd h hc), impl_ValsFault_l0 l [] _ (by simp; omega) (fun _ => rfl) (fun h => absurd h hc)⟩
 · rw [decide_eq_false hl] at hin
   rw [if_neg hl]
   refine ⟨?_, ?_⟩
   · unfold spec_l8Fault.f
     by_cases h1 : (l.length : Int) < 1
     · exact ev_if h1 (ev_succ fun k => by rw [spec_l8Fault.j0, if_pos rfl])
     · refine ev_ifn h1 ?_
       rw [decide_eq_true (show (l.length : Int) > 20 by omega)]
       exact ev_succ fun k => by rw [spec_l8Fault.j0, if_pos rfl]
   · unfold impl_ValsFault.f
     exact ev_bind0 hin (ev_ifn (by decide) (Ev.now _))
theorem valsFault_more {l : List S81} (hlen : l.length ≤ 1048576) (hs : ∀ x ∈ l, x.f2.size ≤ 1048576) : ∃ r, Ev (fun k => spec_l8Fault.f k l) r ∧ Ev (fun k => impl_ValsFault.f k l) r ∧ (r = 0 → fine l ∧ 0 < l.length ∧ endV l 0 = some l.length) := by
 obtain ⟨h1, h2⟩ := valsFault_evs hlen hs
 exact ⟨_, h1, h2, fun h => by obtain ⟨a, b, _, c, _⟩ := valsV_0 h; exact ⟨a, b, c⟩⟩
theorem endL_bound {l : List S81} (m : Bool) {c a e : Nat} (ha : a ≤ l.length) (h : endL l (endV l) m c a = some e) : a ≤ e ∧ e ≤ l.length := endL_up l m (fun _ _ h => endV_up h) c a e ha h
theorem vAt_cut (l : List S81) (p b : Nat) {j : Nat} (hj : j + p < b) (hb : b ≤ l.length) : vAt ((l.take b).drop p) j = vAt l (j + p) := by
 unfold vAt rd_T81
 rw [List.getD_eq_getElem?_getD, List.getD_eq_getElem?_getD]
 congr 1
 simp only [Int.toNat_natCast]
 rw [List.getElem?_drop, List.getElem?_take, if_pos (by omega), show p + j = j + p by omega]
theorem cut_len (l : List S81) (p : Nat) {b : Nat} (hb : b ≤ l.length) : ((l.take b).drop p).length = b - p := by rw [List.length_drop, List.length_take]; omega
theorem endL_shift (l : List S81) (p b : Nat) (hb : b ≤ l.length) (m : Bool) : ∀ (c j e : Nat), j + p ≤ l.length → (∀ i e', j ≤ i → endV l (i + p) = some (e' + p) → e' + p ≤ b → endV ((l.take b).drop p) i = some e') → endL l (endV l) m c (j + p) = some (e + p) → e + p ≤ b → endL ((l.take b).drop p) (endV ((l.take b).drop p)) m c j = some e
 | 0, j, e, hj, ih, h, he => by
  have h' : some (j + p) = some (e + p) := h
  have h2 := Option.some.inj h'
  show some j = some e
  congr 1; omega
 | c + 1, j, e, hj, ih, h, he => by
  cases m with
  | true =>
   by_cases hin : j + p < l.length ∧ (vAt l (j + p)).f0 = 4
   · rw [endL_map hin] at h
     obtain ⟨q, hq, h⟩ := Option.bind_eq_some_iff.mp h
     have hu := endV_up hq
     have hup := endL_bound true hu.2 h
     obtain ⟨q', rfl⟩ : ∃ q', q = q' + p := ⟨q - p, by omega⟩
     have e1 := ih (j + 1) q' (by omega) (by rw [show j + 1 + p = j + p + 1 by omega]; exact hq) (by omega)
     have hin2 : j < ((l.take b).drop p).length ∧ (vAt ((l.take b).drop p) j).f0 = 4 := ⟨by rw [cut_len l p hb]; omega, by rw [vAt_cut l p b (by omega) hb]; exact hin.2⟩
     rw [endL_map hin2, e1]
     exact endL_shift l p b hb true c q' e (by omega) (fun i e' hi => ih i e' (by omega)) h he
   · rw [endL_map_no hin] at h; cases h
  | false =>
   rw [endL_list] at h
   obtain ⟨q, hq, h⟩ := Option.bind_eq_some_iff.mp h
   have hu := endV_up hq
   have hup := endL_bound false hu.2 h
   obtain ⟨q', rfl⟩ : ∃ q', q = q' + p := ⟨q - p, by omega⟩
   have e1 := ih j q' (by omega) hq (by omega)
   rw [endL_list, e1]
   exact endL_shift l p b hb false c q' e (by omega) (fun i e' hi => ih i e' (by omega)) h he
theorem endV_shift (l : List S81) (p b : Nat) (hb : b ≤ l.length) : ∀ (n j e : Nat), l.length - (j + p) < n → endV l (j + p) = some (e + p) → e + p ≤ b → endV ((l.take b).drop p) j = some e
 | 0, j, e, hn, _, _ => absurd hn (by omega)
 | n + 1, j, e, hn, h, he => by
  have hu := endV_up h
  have hj : j < ((l.take b).drop p).length := by rw [cut_len l p hb]; omega
  have hv := vAt_cut l p b (j := j) (by omega) hb
  by_cases hne : nest (vAt l (j + p))
  · rw [endV_nest (by omega) hne] at h
    rw [endV_nest hj (by rw [hv]; exact hne), hv]
    exact endL_shift l p b hb _ _ (j + 1) e (by omega) (fun i e' hi h' he' => endV_shift l p b hb n i e' (by omega) h' he') (by rw [show j + 1 + p = j + p + 1 by omega]; exact h) he
  · rw [endV_one (by omega) hne] at h
    rw [endV_one hj (by rw [hv]; exact hne)]
    have := Option.some.inj h
    congr 1; omega
theorem depL_shift (l : List S81) (p b : Nat) (hb : b ≤ l.length) (m : Bool) : ∀ (c j e : Nat), j + p ≤ l.length → (∀ i e', j ≤ i → endV l (i + p) = some (e' + p) → e' + p ≤ b → depV ((l.take b).drop p) i = depV l (i + p)) → endL l (endV l) m c (j + p) = some (e + p) → e + p ≤ b → depL ((l.take b).drop p) (depV ((l.take b).drop p)) m c j = depL l (depV l) m c (j + p)
 | 0, j, e, hj, ih, h, he => rfl
 | c + 1, j, e, hj, ih, h, he => by
  cases m with
  | true =>
   by_cases hin : j + p < l.length ∧ (vAt l (j + p)).f0 = 4
   · rw [endL_map hin] at h
     obtain ⟨q, hq, h⟩ := Option.bind_eq_some_iff.mp h
     have hu := endV_up hq
     have hup := endL_bound true hu.2 h
     obtain ⟨q', rfl⟩ : ∃ q', q = q' + p := ⟨q - p, by omega⟩
     have hq' : endV l (j + 1 + p) = some (q' + p) := by rw [show j + 1 + p = j + p + 1 by omega]; exact hq
     have e1 := endV_shift l p b hb _ (j + 1) q' (Nat.lt_succ_self _) hq' (by omega)
     have e2 := ih (j + 1) q' (by omega) hq' (by omega)
     rw [depL_map e1, depL_map hq, e2, show j + 1 + p = j + p + 1 by omega, depL_shift l p b hb true c q' e (by omega) (fun i e' hi => ih i e' (by omega)) h he]
   · rw [endL_map_no hin] at h; cases h
  | false =>
   rw [endL_list] at h
   obtain ⟨q, hq, h⟩ := Option.bind_eq_some_iff.mp h
   have hu := endV_up hq
   have hup := endL_bound false hu.2 h
   obtain ⟨q', rfl⟩ : ∃ q', q = q' + p := ⟨q - p, by omega⟩
   have e1 := endV_shift l p b hb _ j q' (Nat.lt_succ_self _) hq (by omega)
   rw [depL_list e1, depL_list hq, ih j q' (by omega) hq (by omega), depL_shift l p b hb false c q' e (by omega) (fun i e' hi => ih i e' (by omega)) h he]
theorem depV_shift (l : List S81) (p b : Nat) (hb : b ≤ l.length) : ∀ (n j e : Nat), l.length - (j + p) < n → endV l (j + p) = some (e + p) → e + p ≤ b → depV ((l.take b).drop p) j = depV l (j + p)
 | 0, j, e, hn, _, _ => absurd hn (by omega)
 | n + 1, j, e, hn, h, he => by
  have hu := endV_up h
  have hj : j < ((l.take b).drop p).length := by rw [cut_len l p hb]; omega
  have hv := vAt_cut l p b (j := j) (by omega) hb
  by_cases hne : nest (vAt l (j + p))
  · rw [endV_nest (by omega) hne] at h
    rw [depV_nest hj (by rw [hv]; exact hne), depV_nest (by omega) hne, hv, depL_shift l p b hb _ _ (j + 1) e (by omega) (fun i e' hi h' he' => depV_shift l p b hb n i e' (by omega) h' he') (by rw [show j + 1 + p = j + p + 1 by omega]; exact h) he, show j + 1 + p = j + p + 1 by omega]
  · rw [depV_one hne, depV_one (by rw [hv]; exact hne)]
theorem twL_shift (l : List S81) (p b : Nat) (hb : b ≤ l.length) : ∀ (c j e : Nat) (seen : List UInt8 → Bool), j + p ≤ l.length → endL l (endV l) true c (j + p) = some (e + p) → e + p ≤ b → twL ((l.take b).drop p) c j seen = twL l c (j + p) seen
 | 0, j, e, seen, hj, h, he => rfl
 | c + 1, j, e, seen, hj, h, he => by
  by_cases hin : j + p < l.length ∧ (vAt l (j + p)).f0 = 4
  · rw [endL_map hin] at h
    obtain ⟨q, hq, h⟩ := Option.bind_eq_some_iff.mp h
    have hu := endV_up hq
    have hup := endL_bound true hu.2 h
    obtain ⟨q', rfl⟩ : ∃ q', q = q' + p := ⟨q - p, by omega⟩
    have hq' : endV l (j + 1 + p) = some (q' + p) := by rw [show j + 1 + p = j + p + 1 by omega]; exact hq
    have e1 := endV_shift l p b hb _ (j + 1) q' (Nat.lt_succ_self _) hq' (by omega)
    have et : tx ((l.take b).drop p) j = tx l (j + p) := by unfold tx; rw [vAt_cut l p b (by omega) hb]
    show (seen (tx ((l.take b).drop p) j) || twL ((l.take b).drop p) c ((endV ((l.take b).drop p) (j + 1)).getD 0) fun s => tx ((l.take b).drop p) j == s || seen s) = (seen (tx l (j + p)) || twL l c ((endV l (j + p + 1)).getD 0) fun s => tx l (j + p) == s || seen s)
    rw [et, e1, hq]
    show (seen (tx l (j + p)) || twL ((l.take b).drop p) c q' fun s => tx l (j + p) == s || seen s) = (seen (tx l (j + p)) || twL l c (q' + p) fun s => tx l (j + p) == s || seen s)
    rw [twL_shift l p b hb c q' e _ (by omega) h he]
  · rw [endL_map_no hin] at h; cases h
theorem endL_in (l : List S81) (m : Bool) : ∀ (c a e : Nat), a ≤ l.length → (∀ b e', a ≤ b → endV l b = some e' → ∀ i, b ≤ i → i < e' → (vAt l i).f0 = 6 → ∃ q, endV l i = some q ∧ q ≤ e') → endL l (endV l) m c a = some e → ∀ i, a ≤ i → i < e → (vAt l i).f0 = 6 → ∃ q, endV l i = some q ∧ q ≤ e
 | 0, a, e, _, _, h, i, h1, h2, _ => by cases h; omega
 | c + 1, a, e, ha, ih, h, i, h1, h2, h6 => by
  cases m with
  | true =>
   by_cases hc : a < l.length ∧ (vAt l a).f0 = 4
   · rw [endL_map hc] at h
     obtain ⟨b, hb, h⟩ := Option.bind_eq_some_iff.mp h
     have hu := endV_up hb
     have hup := endL_bound true hu.2 h
     by_cases e1 : i = a
     · subst e1; rw [hc.2] at h6; exact absurd h6 (by decide)
     · by_cases e2 : i < b
       · obtain ⟨q, hq, hq2⟩ := ih (a + 1) b (by omega) hb i (by omega) e2 h6
         exact ⟨q, hq, by omega⟩
       · exact endL_in l true c b e hu.2 (fun b' e' hb' => ih b' e' (by omega)) h i (by omega) h2 h6
   · rw [endL_map_no hc] at h; cases h
  | false =>
   rw [endL_list] at h
   obtain ⟨b, hb, h⟩ := Option.bind_eq_some_iff.mp h
   have hu := endV_up hb
   have hup := endL_bound false hu.2 h
   by_cases e2 : i < b
   · obtain ⟨q, hq, hq2⟩ := ih a b (by omega) hb i (by omega) e2 h6
     exact ⟨q, hq, by omega⟩
   · exact endL_in l false c b e hu.2 (fun b' e' hb' => ih b' e' (by omega)) h i (by omega) h2 h6
theorem endV_in (l : List S81) : ∀ (n a e : Nat), l.length - a ≤ n → endV l a = some e → ∀ i, a ≤ i → i < e → (vAt l i).f0 = 6 → ∃ q, endV l i = some q ∧ q ≤ e
 | 0, a, e, hn, h, _, _, _, _ => by have := endV_up h; omega
 | n + 1, a, e, hn, h, i, h1, h2, h6 => by
  have hu := endV_up h
  by_cases e1 : i = a
  · subst e1; exact ⟨e, h, Nat.le_refl _⟩
  · by_cases hne : nest (vAt l a)
    · have h' := h
      rw [endV_nest (by omega) hne] at h'
      exact endL_in l _ _ (a + 1) e (by omega) (fun b e' hb he' => endV_in l n b e' (by omega) he') h' i (by omega) h2 h6
    · rw [endV_one (by omega) hne] at h; cases h; omega
theorem anyR_no {l : List S81} {a b : Nat} : anyR l a b = false ↔ ∀ i, a ≤ i → i < b → twice l i = false := by
 unfold anyR
 rw [List.any_eq_false]
 constructor
 · intro h i h1 h2
   exact Bool.eq_false_iff.2 (h i (by rw [List.mem_range'_1]; omega))
 · intro h i hi
   rw [List.mem_range'_1] at hi
   rw [h i hi.1 (by omega)]; decide
theorem twice_shift (l : List S81) (p b : Nat) (hb : b ≤ l.length) {j e : Nat} (h : endV l (j + p) = some (e + p)) (he : e + p ≤ b) (h6 : (vAt l (j + p)).f0 = 6) : twice ((l.take b).drop p) j = twice l (j + p) := by
 have hu := endV_up h
 have hv := vAt_cut l p b (j := j) (by omega) hb
 rw [endV_nest (by omega) (.inr h6), decide_eq_true h6] at h
 unfold twice
 rw [hv, decide_eq_true h6, Bool.true_and, Bool.true_and, twL_shift l p b hb _ (j + 1) e _ (by omega) (by rw [show j + 1 + p = j + p + 1 by omega]; exact h) he, show j + 1 + p = j + p + 1 by omega]
theorem codeL_of {l : List S81} (h : ∀ x ∈ l, oneV x = 0) : codeL l = 0 := by
 induction l with
 | nil => rfl
 | cons x r ih => unfold codeL; rw [if_pos (h x (by simp))]; exact ih (fun y hy => h y (by simp [hy]))
theorem valsV_cut {l : List S81} (h : valsV l = 0) {p b : Nat} (hp : endV l p = some b) (hd : depV l p ≤ 4) : valsV ((l.take b).drop p) = 0 := by
 obtain ⟨hf, h0, hc, he, hr, _⟩ := valsV_0 h
 have hu := endV_up hp
 have hlen := cut_len l p hu.2
 have h1 := hf.1
 have hz : endV l (0 + p) = some ((b - p) + p) := by rw [show 0 + p = p by omega, show b - p + p = b by omega]; exact hp
 refine valsV_of (by omega) (by omega) (codeL_of fun x hx => codeL_fine hc x (List.mem_of_mem_take (List.mem_of_mem_drop hx))) ?_ ?_ ?_
 · rw [hlen]; exact endV_shift l p b hu.2 _ 0 (b - p) (Nat.lt_succ_self _) hz (by omega)
 · rw [hlen, anyR_no]
   intro j _ hj
   by_cases h6 : (vAt l (j + p)).f0 = 6
   · obtain ⟨q, hq, hq2⟩ := endV_in l _ p b (Nat.le_refl _) hp (j + p) (by omega) (by omega) h6
     have hqu := endV_up hq
     obtain ⟨q', rfl⟩ : ∃ q', q = q' + p := ⟨q - p, by omega⟩
     rw [twice_shift l p b hu.2 hq hq2 h6]
     exact anyR_no.1 hr (j + p) (by omega) (by omega)
   · unfold twice
     rw [vAt_cut l p b (by omega) hu.2, decide_eq_false h6]; rfl
 · rw [depV_shift l p b hu.2 _ 0 (b - p) (Nat.lt_succ_self _) hz (by omega), show 0 + p = p by omega]; exact hd
theorem entry_both {l : List S81} (hl : fine l) (hp : 0 < l.length) (hs : ∀ x ∈ l, x.f2.size ≤ maxLen) (nm : ByteArray) (h20 : (vAt l 0).f1 ≤ 20) : ∀ (c a n : Nat), (n : Int) + c = (vAt l 0).f1 → a ≤ l.length → (endL l (endV l) true c a).isSome →
 ∃ (y : List S81) (q : Bool), Ev (fun k => spec_l8Entry.l0 k l nm (a : Int) (n : Int)) (y, q) ∧ (∀ t m, Ev (fun k => impl_entry.l0 k l nm (vAt l 0).f1 false t m (a : Int) (n : Int)) y) ∧ (q = true → y.length ≠ 0) ∧ (q = false → y = []) ∧ y.length ≤ 20 ∧ (q = true → ∃ p b, y = (l.take b).drop p ∧ endV l p = some b ∧ 1 + depV l p ≤ depL l (depV l) true c a)
 | 0, a, n, hc, ha, _ => by
  refine ⟨[], false, ev_succ fun k => ?_, fun t m => ev_succ fun k => ?_, by simp, by simp, by simp, by simp⟩
  · rw [spec_l8Entry.l0, if_pos (by omega)]
    exact if_neg (show ¬ (n : Int) < (vAt l 0).f1 by omega)
  · rw [impl_entry.l0, if_neg (by omega)]
 | c + 1, a, n, hc, ha, hsome => by
  have hin : a < l.length ∧ (vAt l a).f0 = 4 := by
   by_cases hin : a < l.length ∧ (vAt l a).f0 = 4
   · exact hin
   · rw [endL_map_no hin] at hsome; cases hsome
  rw [endL_map hin] at hsome
  cases hv : endV l (a + 1) with
  | none => rw [hv] at hsome; cases hsome
  | some b =>
   rw [hv] at hsome
   have hu := endV_up hv
   have hE := spec_l8End_at hl (a := a + 1) (by omega)
   rw [hv] at hE
   change Ev _ (b : Int) at hE
   have hh := hl.1
   have hsz : ∀ t m, ∃ t' m', impl_structure_value.f l false t m ((a : Int) + 1) 0 = some ((b : Int), false, t', m') := by
    intro t m
    obtain ⟨dd, _, hdd, hD, hV⟩ := told hl _ (a + 1) b (Nat.lt_succ_self _) hv
    have e1 := hV t m 0 100000 (by omega) (by omega)
    refine ⟨t || anyR l (a + 1) b, m || decide (4 < 0 + dd), ?_⟩
    unfold impl_structure_value.f
    rw [if_pos hs]
    exact e1
   have hs1 : ∀ k, spec_l8Entry.l0 (k + 1) l nm (a : Int) (n : Int) = (spec_l8End.f k l ((a + 1 : Nat) : Int)).bind fun t165 => if ((vAt l a).f2).toList = nm.toList then ((some (([] : List (S81)) : List (S81))).bind fun y167 => (if 0 ≤ ((a + 1 : Nat) : Int) then (if ((a + 1 : Nat) : Int) ≤ t165 then (if t165 ≤ (l.length : Int) then ((some ((l.take (t165 : Int).toNat).drop (((a + 1 : Nat) : Int) : Int).toNat : List (S81))).bind fun y170 => (if y167.length + y170.length < 4398046511104 then (some ((y167 ++ y170), true)) else (none))) else (none)) else (none)) else (none))) else spec_l8Entry.l0 k l nm t165 ((n + 1 : Nat) : Int) := by
    intro k
    rw [spec_l8Entry.l0, if_pos (by omega)]
    refine (if_pos (show (n : Int) < (vAt l 0).f1 by omega)).trans ?_
    rw [wrap_id (x := (a : Int) + 1) (by omega) (by omega), wrap_id (x := (n : Int) + 1) (by omega) (by omega)]
    refine congrArg (Option.bind (spec_l8End.f k l ((a : Int) + 1))) (funext fun t => ?_)
    rw [if_pos (show 0 ≤ (a : Int) by omega), if_pos (show (a : Int) < (l.length : Int) by omega)]
    rfl
   have hi1 : ∀ k t m, impl_entry.l0 (k + 1) l nm (vAt l 0).f1 false t m (a : Int) (n : Int) = (impl_structure_value.f l false t m ((a : Int) + 1) 0).bind fun r => if ((vAt l a).f2).toList = nm.toList then (if (a : Int) + 1 < r.1 ∧ r.1 ≤ l.length then some ((l.take r.1.toNat).drop ((a : Int) + 1).toNat) else none) else impl_entry.l0 k l nm (vAt l 0).f1 r.2.1 r.2.2.1 r.2.2.2 r.1 ((n : Int) + 1) := by
    intro k t m
    rw [impl_entry.l0, if_pos (by omega), if_pos ⟨by omega, by omega, by omega, by omega, by omega⟩]
    rfl
   by_cases hnm : ((vAt l a).f2).toList = nm.toList
   · have hlen : ((l.take b).drop (a + 1)).length = b - (a + 1) := by rw [List.length_drop, List.length_take]; omega
     refine ⟨(l.take b).drop (a + 1), true, Ev.step hs1 (ev_bind hE (ev_if hnm ?_)), fun t m => ?_, fun _ => by omega, by simp, by omega, fun _ => ⟨a + 1, b, rfl, hv, by rw [depL_map hv]; omega⟩⟩
     · refine ev_some fun k => ?_
       rw [Option.bind_some, if_pos (by omega), if_pos (by omega), if_pos (by omega), Option.bind_some, if_pos (by simp; omega)]
       simp
     · obtain ⟨t', m', e⟩ := hsz t m
       refine ev_succ fun k => ?_
       rw [hi1, e, Option.bind_some, if_pos hnm, if_pos ⟨by omega, by omega⟩]
       rfl
   · obtain ⟨y, q, h1, h2, h3, h4, h5, h6⟩ := entry_both hl hp hs nm h20 c b (n + 1) (by omega) hu.2 hsome
     refine ⟨y, q, Ev.step hs1 (ev_bind hE (ev_ifn hnm h1)), fun t m => ?_, h3, h4, h5, fun hq => by obtain ⟨p', b', e1, e2, e3⟩ := h6 hq; exact ⟨p', b', e1, e2, by rw [depL_map hv]; omega⟩⟩
     obtain ⟨t', m', e⟩ := hsz t m
     refine Ev.step (fun k => ?_) (h2 t' m')
     rw [hi1, e, Option.bind_some, if_neg hnm]
     rfl
theorem mapEntry_more {l : List S81} (nm : ByteArray) (hlen : l.length ≤ 1048576) (hs : ∀ x ∈ l, x.f2.size ≤ 1048576) : ∃ (c : Int) (y : List S81), Ev (fun k => spec_MapEntry.f k l nm) (c, y) ∧ Ev (fun k => impl_MapEntry.f k l nm) (c, y) ∧ y.length ≤ 20 ∧ (∀ x ∈ y, x ∈ l) ∧ (c = 0 → valsV y = 0) := by
 obtain ⟨h1, h2⟩ := valsFault_evs hlen hs
 unfold spec_MapEntry.f impl_MapEntry.f
 by_cases h0 : valsV l = 0
 · obtain ⟨hf, hp, _, he, _, hd⟩ := valsV_0 h0
   have hsz : ∀ x ∈ l, x.f2.size ≤ maxLen := fun x hx => by have := hs x hx; unfold maxLen; omega
   by_cases h6 : (vAt l 0).f0 = 6
   · have hn := hf.2 0 hp (.inr h6)
     have hsome : (endL l (endV l) true (vAt l 0).f1.toNat 1).isSome := by
      have h := endV_nest hp (.inr h6)
      rw [he, decide_eq_true h6] at h
      rw [show (1 : Nat) = 0 + 1 from rfl, ← h]; rfl
     have hdep := depV_nest hp (.inr h6)
     rw [decide_eq_true h6] at hdep
     obtain ⟨y, q, e1, e2, e3, e4, e5, e6⟩ := entry_both hf hp hsz nm hn.2 _ 1 0 (by omega) (by omega) hsome
     have e1' : Ev (fun k => spec_l8Entry.f k l nm) (y, q) := e1
     have e2' : Ev (fun k => impl_entry.f k l nm) y := by
      unfold impl_entry.f
      exact ev_if (by omega) (e2 false false)
     cases q with
     | true =>
      obtain ⟨p, b, rfl, hb, hdp⟩ := e6 rfl
      refine ⟨0, _, ev_bind h1 (ev_if h0 (ev_if (by omega) (ev_if h6 (ev_bind e1' (ev_if rfl (Ev.now _)))))), ev_bind h2 (ev_if h0 (ev_if (by omega) (ev_if h6 (ev_bind e2' (ev_ifn (e3 rfl) (Ev.now _)))))), e5, fun x hx => List.mem_of_mem_take (List.mem_of_mem_drop hx), fun _ => valsV_cut h0 hb ?_⟩
      have hdp' : 1 + depV l p ≤ depV l 0 := by rw [hdep]; exact hdp
      omega
     | false =>
      have ey := e4 rfl
      subst ey
      refine ⟨4, [], ev_bind h1 (ev_if h0 (ev_if (by omega) (ev_if h6 (ev_bind e1' (ev_ifn (by simp) (Ev.now _)))))), ev_bind h2 (ev_if h0 (ev_if (by omega) (ev_if h6 (ev_bind e2' (ev_if rfl (Ev.now _)))))), by simp, by simp, fun h => absurd h (by decide)⟩
   · exact ⟨1, [], ev_bind h1 (ev_if h0 (ev_if (by omega) (ev_ifn h6 (Ev.now _)))), ev_bind h2 (ev_if h0 (ev_if (by omega) (ev_ifn h6 (Ev.now _)))), by simp, by simp, fun h => absurd h (by decide)⟩
 · exact ⟨valsV l, [], ev_bind h1 (ev_ifn h0 (Ev.now _)), ev_bind h2 (ev_ifn h0 (Ev.now _)), by simp, by simp, fun h => absurd h h0⟩
theorem mapEntry_both {l : List S81} (nm : ByteArray) (hlen : l.length ≤ 1048576) (hs : ∀ x ∈ l, x.f2.size ≤ 1048576) : ∃ (c : Int) (y : List S81), Ev (fun k => spec_MapEntry.f k l nm) (c, y) ∧ Ev (fun k => impl_MapEntry.f k l nm) (c, y) ∧ y.length ≤ 20 := by
 obtain ⟨c, y, h1, h2, h3, _⟩ := mapEntry_more nm hlen hs
 exact ⟨c, y, h1, h2, h3⟩
theorem cutF_lines (s : ByteArray) (l : List Int) (hl : l.length ≤ 2000) : (cutF s l).2.1.length ≤ 10000 := by
 unfold cutF
 by_cases h : (s.size : Int) > 161 ∨ (l.length : Int) > 1000
 · rw [if_pos h]; simp
 · rw [if_neg h]
   obtain ⟨p1, p2⟩ := pieces_len (s ++ strOfNums l)
   rw [ByteArray.size_append, nums_size] at p1
   simp only [List.length_map, List.length_dropLast]
   omega
theorem FnCuts : laws_FnCuts.Pure := by
 intro c hm hc hw
 refine Ev.rounds (g := fun k => laws_FnCuts.f k c) ?_
 have hb : Bytes c := fun x hx => wf8 (hw x hx)
 have hc' : c.length ≤ 140737488351232 := by omega
 unfold laws_FnCuts.f laws_lwBig.f
 by_cases hbig : decide ((c.length : Int) > 1048576) = true
 · exact ev_bind0 rfl (ev_if hbig (Ev.now _))
 refine ev_bind0 rfl (ev_ifn hbig ?_)
 obtain ⟨s, l, hD, hs, hl⟩ := drawCutLines_ev hb hc'
 have hI := impl_CutLines_ev s l (by omega)
 have hS := spec_CutLines_ev s l (by omega)
 obtain ⟨v, nm, hM, hv1, hv2⟩ := drawMapEntry_ev hb hc'
 obtain ⟨cc, y, hE1, hE2, hy20, hyin, hy0⟩ := mapEntry_more nm (l := v) (by omega) (fun x hx => by have := hv2 x hx; omega)
 have hJ : Ev (fun k => laws_FnCuts.j0 k c s l false (cutF s l).1 (cutF s l).2.1 (cutF s l).2.2) true := by
  refine Ev.step (f := fun k => if (cutF s l).1 = 0 then ((laws_lwAt.f c 3 (wrap64 ((l.length : Int) + 1))).bind fun t414 => (if 0 ≤ t414 then (if t414 ≤ (l.length : Int) then ((impl_CutLines.f k s (l.take (t414 : Int).toNat)).bind fun bt419 => ((impl_CutLines.f k bt419.2.2 (l.drop (t414 : Int).toNat)).bind fun bt429 => (if bt419.1 = 0 then (if bt429.1 = 0 then (if bt429.2.2.toList = (cutF s l).2.2.toList then ((some (([] : List ByteArray) : List ByteArray)).bind fun y435 => (if y435.length + bt419.2.1.length < 8796093022208 then ((some (y435 ++ bt419.2.1 : List ByteArray)).bind fun y438 => (if y438.length + bt429.2.1.length < 8796093022208 then ((laws_lwTexts.f k (y438 ++ bt429.2.1) (cutF s l).2.1).bind fun t444 => (if t444 = true then ((spec_CutLines.f k s l).bind fun bt445 => ((laws_lwTexts.f k (cutF s l).2.1 bt445.2.1).bind fun t450 => (some t450))) else (none))) else (none))) else (none))) else (none)) else (none)) else (none)))) else (none)) else (none))) else ((spec_CutLines.f k s l).bind fun bt409 => (some (bt409.1 == (cutF s l).1)))) (fun k => by rw [laws_FnCuts.j0, if_neg (by decide)]) ?_
  by_cases h0 : (cutF s l).1 = 0
  · refine ev_if h0 ?_
    obtain ⟨g1, g2⟩ := cutF_code h0
    rw [wrap_id (by omega) (by omega)]
    obtain ⟨t, ht, t0, t1⟩ := laws_lwAt_some hb ((l.length : Int) + 1) (by omega) (by omega)
    obtain ⟨q1, q2, q3, q4⟩ := cutF_two g1 g2 t.toNat
    have n1 := cutF_lines s (l.take t.toNat) (by rw [List.length_take]; omega)
    have n2 := cutF_lines (cutF s (l.take t.toNat)).2.2 (l.drop t.toNat) (by rw [List.length_drop]; omega)
    have n3 := cutF_lines s l (by omega)
    refine ev_bind0 ht (ev_if t0 (ev_if (by omega) (ev_bind (impl_CutLines_ev s (l.take t.toNat) (by rw [List.length_take]; omega)) (ev_bind (impl_CutLines_ev _ (l.drop t.toNat) (by rw [List.length_drop]; omega)) (ev_if q2 (ev_if q1 (ev_if (by rw [q3]) (ev_bind0 rfl (ev_if (by simp; omega) (ev_bind0 rfl (ev_if (by simp; omega) ?_)))))))))))
    rw [List.nil_append, q4]
    exact ev_bind (laws_lwTexts_refl (by omega)) (ev_if rfl (ev_bind hS (ev_bind (laws_lwTexts_refl (by omega)) (Ev.now _))))
  · refine ev_ifn h0 (ev_bind hS ?_)
    simp only [BEq.rfl]
    exact Ev.now _
 refine ev_bind hD (ev_bind hI (ev_bind hM (ev_bind hE2 (ev_bind hE1 (ev_if rfl (ev_bind hE1 (ev_bind (impl_SameVals_refl (l := y) (by omega)) (ev_if rfl ?_))))))))
 by_cases hcc : cc = 0
 · have hy := (valsFault_evs (l := y) (by omega) (fun x hx => by have := hv2 x (hyin x hx); omega)).2
   rw [hy0 hcc] at hy
   refine ev_if hcc (ev_bind hy ?_)
   exact hJ
 · exact ev_ifn hcc hJ
end Go.Proofs.YthjlbpgiaehjnaaDoor.Pure
