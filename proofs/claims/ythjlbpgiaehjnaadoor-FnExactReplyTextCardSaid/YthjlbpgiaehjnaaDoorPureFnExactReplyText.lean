/- for every id, flag and code, ReplyText answers as the reference does. -/
import Derived.Test.YthjlbpgiaehjnaaDoorQFnExactReplyTextx1
import Derived.Test.YthjlbpgiaehjnaaDoorQFnExactReplyTextx2
import Derived.Test.YthjlbpgiaehjnaaDoorQFnExactReplyTextx3
import Derived.Test.YthjlbpgiaehjnaaDoorQFnExactReplyTextx4
import Derived.Test.YthjlbpgiaehjnaaDoorQFnExactReplyTextx5
import Derived.Test.YthjlbpgiaehjnaaDoorQFnExactReplyTextx6
import Derived.Test.YthjlbpgiaehjnaaDoorQFnExactReplyTextx7
import Derived.Test.YthjlbpgiaehjnaaDoorQFnExactReplyTextx8
namespace Go.Proofs.YthjlbpgiaehjnaaDoor.Pure
open Go.RowKit Go.Proofs.YthjlbpgiaehjnaaDoor.QFnExactReplyText Go.Proofs.YthjlbpgiaehjnaaDoorW.PrintWords Go.Proofs.YthjlbpgiaehjnaaDoorW.PrintLast
set_option linter.unusedVariables false
set_option linter.unusedSimpArgs false

theorem wrap_id {x : Int} (h1 : -9223372036854775808 ≤ x) (h2 : x ≤ 9223372036854775807) : wrap64 x = x := by
  unfold wrap64; omega
theorem wf64 {x : Int} (h : (Lit.int .i64 x).wf = true) : -9223372036854775808 ≤ x ∧ x ≤ 9223372036854775807 := by
  simpa [Lit.wf, IntKind.min, IntKind.max, IntKind.signed, IntKind.bits] using h
theorem wf8 {x : Int} (h : (Lit.int .u8 x).wf = true) : 0 ≤ x ∧ x ≤ 255 := by
  simpa [Lit.wf, IntKind.min, IntKind.max, IntKind.signed, IntKind.bits] using h
theorem ev_some {α : Type} {g : Nat → Option α} {r : α} (h : ∀ k, g k = some r) : Ev g r := ⟨0, fun k _ => h k⟩
theorem ev_succ {α : Type} {g : Nat → Option α} {r : α} (h : ∀ k, g (k + 1) = some r) : Ev g r := Ev.step h (Ev.now r)
/-- A call whose answer is known, and what follows. -/
theorem ev_bind {α β : Type} {g : Nat → Option α} {f : α → Nat → Option β} {a : α} {r : β} (h : Ev g a) (k : Ev (f a) r) : Ev (fun n => (g n).bind fun t => f t n) r :=
  Ev.bind (f := fun n t => f t n) h k
theorem ev_if {α : Type} {p : Prop} [Decidable p] {g f : Nat → Option α} {r : α} (hp : p) (k : Ev g r) : Ev (fun n => if p then g n else f n) r :=
  Ev.congr (fun n => if_pos hp) k
theorem ev_ifn {α : Type} {p : Prop} [Decidable p] {g f : Nat → Option α} {r : α} (hp : ¬ p) (k : Ev f r) : Ev (fun n => if p then g n else f n) r :=
  Ev.congr (fun n => if_neg hp) k
theorem ev_bind0 {α β : Type} {g : Option α} {f : α → Nat → Option β} {a : α} {r : β} (h : g = some a) (k : Ev (f a) r) : Ev (fun n => g.bind fun t => f t n) r := by
  subst h; exact k
theorem rd_mid (pre : List Int) (b : Int) (suf : List Int) : rd (pre ++ b :: suf) (pre.length : Int) = b := by
  unfold rd
  simp
theorem rd_at {l : List Int} {i : Int} (h0 : 0 ≤ i) (h1 : i < l.length) : rd l i = l[i.toNat]'(by omega) := by
  unfold rd
  rw [List.getD_eq_getElem?_getD, List.getElem?_eq_getElem (by omega)]; rfl
theorem split_at_len {α : Type} (l : List α) (n : Nat) (h : n ≤ l.length) : ∃ pre suf, l = pre ++ suf ∧ pre.length = n :=
  ⟨l.take n, l.drop n, (List.take_append_drop n l).symm, by simp; omega⟩

theorem ba_toList_loop (b : ByteArray) : ∀ (n i : Nat) (r : List UInt8), b.data.toList.length - i = n → ByteArray.toList.loop b i r = r.reverse ++ b.data.toList.drop i := by
  obtain ⟨b⟩ := b
  intro n
  induction n with
  | zero =>
    intro i r h
    rw [ByteArray.toList.loop, if_neg (by show ¬ i < b.size; simp at h; omega), List.drop_eq_nil_of_le (by omega), List.append_nil]
  | succ n ih =>
    intro i r h
    have hi : i < b.toList.length := by have h' : b.toList.length - i = n + 1 := h; omega
    rw [ByteArray.toList.loop, if_pos (by show i < b.size; simpa using hi), ih (i + 1) _ (by omega), List.drop_eq_getElem_cons hi]
    have e : ByteArray.get! ⟨b⟩ i = b.toList[i] := by
      show b[i]! = _
      rw [getElem!_pos b i (by simpa using hi)]; simp
    rw [e]; simp
theorem ba_toList (b : ByteArray) : b.toList = b.data.toList := by
  unfold ByteArray.toList
  rw [ba_toList_loop b _ 0 [] rfl]; simp

/-- The value at a place, where there is one. -/
def vAt (l : List S81) (i : Nat) : S81 := rd_T81 l (i : Int)
def tx (l : List S81) (i : Nat) : List UInt8 := (vAt l i).f2.data.toList
/-- So many things one behind the other: the place behind them. -/
def endL (l : List S81) (E : Nat → Option Nat) (m : Bool) : Nat → Nat → Option Nat
  | 0, a => some a
  | c + 1, a => if m = true then (if a < l.length ∧ (vAt l a).f0 = 4 then (E (a + 1)).bind fun e => endL l E m c e else none) else (E a).bind fun e => endL l E m c e
def nest (x : S81) : Prop := x.f0 = 5 ∨ x.f0 = 6
instance (x : S81) : Decidable (nest x) := inferInstanceAs (Decidable (_ ∨ _))
def endF (l : List S81) : Nat → Nat → Option Nat
  | 0, _ => none
  | k + 1, a => if a < l.length then (if nest (vAt l a) then endL l (endF l k) (decide ((vAt l a).f0 = 6)) (vAt l a).f1.toNat (a + 1) else some (a + 1)) else none
theorem endL_congr (l : List S81) {E E' : Nat → Option Nat} (m : Bool) : ∀ (c a : Nat), (∀ b, a ≤ b → E b = E' b) → (∀ b e, E b = some e → b < e) → endL l E m c a = endL l E' m c a
  | 0, _, _, _ => rfl
  | c + 1, a, h, hu => by
    unfold endL
    cases m with
    | true =>
      rw [if_pos rfl, if_pos rfl]
      by_cases hc : a < l.length ∧ (vAt l a).f0 = 4
      · rw [if_pos hc, if_pos hc, ← h (a + 1) (by omega)]
        cases he : E (a + 1) with
        | none => rfl
        | some e => exact endL_congr l true c e (fun b hb => h b (by have := hu _ _ he; omega)) hu
      · rw [if_neg hc, if_neg hc]
    | false =>
      rw [if_neg (by decide), if_neg (by decide), ← h a (by omega)]
      cases he : E a with
      | none => rfl
      | some e => exact endL_congr l false c e (fun b hb => h b (by have := hu _ _ he; omega)) hu
theorem endL_up (l : List S81) {E : Nat → Option Nat} (m : Bool) (hu : ∀ b e, E b = some e → b < e ∧ e ≤ l.length) : ∀ (c a e : Nat), a ≤ l.length → endL l E m c a = some e → a ≤ e ∧ e ≤ l.length
  | 0, a, e, ha, h => by cases h; exact ⟨Nat.le_refl _, ha⟩
  | c + 1, a, e, ha, h => by
    unfold endL at h
    cases m with
    | true =>
      rw [if_pos rfl] at h
      by_cases hc : a < l.length ∧ (vAt l a).f0 = 4
      · rw [if_pos hc] at h
        obtain ⟨b, hb, h⟩ := Option.bind_eq_some_iff.mp h
        have := hu _ _ hb
        have := endL_up l true hu c b e (by omega) h
        omega
      · rw [if_neg hc] at h; cases h
    | false =>
      rw [if_neg (by decide)] at h
      obtain ⟨b, hb, h⟩ := Option.bind_eq_some_iff.mp h
      have := hu _ _ hb
      have := endL_up l false hu c b e (by omega) h
      omega
theorem endF_up (l : List S81) : ∀ (k a e : Nat), endF l k a = some e → a < e ∧ e ≤ l.length
  | 0, _, _, h => by simp [endF] at h
  | k + 1, a, e, h => by
    unfold endF at h
    by_cases ha : a < l.length
    · rw [if_pos ha] at h
      by_cases hn : nest (vAt l a)
      · rw [if_pos hn] at h
        have := endL_up l _ (endF_up l k) _ _ _ (by omega) h
        omega
      · rw [if_neg hn] at h; cases h; omega
    · rw [if_neg ha] at h; cases h
theorem endF_same (l : List S81) : ∀ (k k' a : Nat), l.length < k + a → l.length < k' + a → endF l k a = endF l k' a
  | 0, 0, _, _, _ => rfl
  | 0, k' + 1, a, h, _ => by unfold endF; rw [if_neg (by omega)]
  | k + 1, 0, a, _, h => by unfold endF; rw [if_neg (by omega)]
  | k + 1, k' + 1, a, h, h' => by
    unfold endF
    by_cases ha : a < l.length
    · rw [if_pos ha, if_pos ha]
      by_cases hn : nest (vAt l a)
      · rw [if_pos hn, if_pos hn]
        exact endL_congr l _ _ _ (fun b hb => endF_same l k k' b (by omega) (by omega)) (fun b e he => (endF_up l k b e he).1)
      · rw [if_neg hn, if_neg hn]
    · rw [if_neg ha, if_neg ha]
/-- The place behind the value at a place. -/
def endV (l : List S81) (a : Nat) : Option Nat := endF l (l.length + 1) a
theorem endV_up {l : List S81} {a e : Nat} (h : endV l a = some e) : a < e ∧ e ≤ l.length := endF_up l _ a e h
theorem endV_out {l : List S81} {a : Nat} (h : ¬ a < l.length) : endV l a = none := by unfold endV endF; rw [if_neg h]
theorem endV_one {l : List S81} {a : Nat} (h : a < l.length) (hn : ¬ nest (vAt l a)) : endV l a = some (a + 1) := by unfold endV endF; rw [if_pos h, if_neg hn]
theorem endV_nest {l : List S81} {a : Nat} (h : a < l.length) (hn : nest (vAt l a)) : endV l a = endL l (endV l) (decide ((vAt l a).f0 = 6)) (vAt l a).f1.toNat (a + 1) := by
  have e : endV l a = endL l (endF l l.length) (decide ((vAt l a).f0 = 6)) (vAt l a).f1.toNat (a + 1) := by
    show endF l (l.length + 1) a = _
    unfold endF; rw [if_pos h, if_pos hn]
  rw [e]
  exact endL_congr l _ _ _ (fun b hb => endF_same l _ _ b (by omega) (by omega)) (fun b e he => (endF_up l _ b e he).1)
theorem endL_map {l : List S81} {E : Nat → Option Nat} {c a : Nat} (h : a < l.length ∧ (vAt l a).f0 = 4) : endL l E true (c + 1) a = (E (a + 1)).bind fun e => endL l E true c e := by
  show (if true = true then (if a < l.length ∧ (vAt l a).f0 = 4 then (E (a + 1)).bind fun e => endL l E true c e else none) else (E a).bind fun e => endL l E true c e) = _
  rw [if_pos rfl, if_pos h]
theorem endL_map_no {l : List S81} {E : Nat → Option Nat} {c a : Nat} (h : ¬ (a < l.length ∧ (vAt l a).f0 = 4)) : endL l E true (c + 1) a = none := by
  show (if true = true then (if a < l.length ∧ (vAt l a).f0 = 4 then (E (a + 1)).bind fun e => endL l E true c e else none) else (E a).bind fun e => endL l E true c e) = _
  rw [if_pos rfl, if_neg h]
theorem endL_list {l : List S81} {E : Nat → Option Nat} {c a : Nat} : endL l E false (c + 1) a = (E a).bind fun e => endL l E false c e := rfl
/-- Has one of so many pairs a name that came before? -/
def twL (l : List S81) : Nat → Nat → (List UInt8 → Bool) → Bool
  | 0, _, _ => false
  | c + 1, a, seen => seen (tx l a) || twL l c ((endV l (a + 1)).getD 0) (fun s => tx l a == s || seen s)
/-- Has the map at a place two pairs of one name? -/
def twice (l : List S81) (a : Nat) : Bool := decide ((vAt l a).f0 = 6) && twL l (vAt l a).f1.toNat (a + 1) fun _ => false
def anyR (l : List S81) (a b : Nat) : Bool := (List.range' a (b - a)).any (twice l)
theorem anyR_self (l : List S81) (a : Nat) : anyR l a a = false := by simp [anyR]
theorem anyR_cons (l : List S81) {a b : Nat} (h : a < b) : anyR l a b = (twice l a || anyR l (a + 1) b) := by
  unfold anyR
  obtain ⟨n, rfl⟩ : ∃ n, b = a + (n + 1) := ⟨b - a - 1, by omega⟩
  rw [show a + (n + 1) - a = n + 1 by omega, show a + (n + 1) - (a + 1) = n by omega]
  simp [List.range'_succ]
theorem anyR_trans (l : List S81) {a b c : Nat} (h1 : a ≤ b) (h2 : b ≤ c) : anyR l a c = (anyR l a b || anyR l b c) := by
  unfold anyR
  rw [show c - a = (b - a) + (c - b) by omega, ← List.range'_append_1, List.any_append, show a + (b - a) = b by omega]
/-- Every map in a value is a value itself. -/
theorem endL_sub (l : List S81) (m : Bool) : ∀ (c a e : Nat), a ≤ l.length → (∀ b e', a ≤ b → endV l b = some e' → ∀ i, b ≤ i → i < e' → (vAt l i).f0 = 6 → (endV l i).isSome) → endL l (endV l) m c a = some e → ∀ i, a ≤ i → i < e → (vAt l i).f0 = 6 → (endV l i).isSome
  | 0, a, e, _, _, h, i, h1, h2, _ => by cases h; omega
  | c + 1, a, e, ha, ih, h, i, h1, h2, h6 => by
    cases m with
    | true =>
      by_cases hc : a < l.length ∧ (vAt l a).f0 = 4
      · rw [endL_map hc] at h
        obtain ⟨b, hb, h⟩ := Option.bind_eq_some_iff.mp h
        have hu := endV_up hb
        by_cases e1 : i = a
        · subst e1; rw [hc.2] at h6; exact absurd h6 (by decide)
        · by_cases e2 : i < b
          · exact ih (a + 1) b (by omega) hb i (by omega) e2 h6
          · exact endL_sub l true c b e hu.2 (fun b' e' hb' => ih b' e' (by omega)) h i (by omega) h2 h6
      · rw [endL_map_no hc] at h; cases h
    | false =>
      rw [endL_list] at h
      obtain ⟨b, hb, h⟩ := Option.bind_eq_some_iff.mp h
      have hu := endV_up hb
      by_cases e2 : i < b
      · exact ih a b (by omega) hb i (by omega) e2 h6
      · exact endL_sub l false c b e hu.2 (fun b' e' hb' => ih b' e' (by omega)) h i (by omega) h2 h6
theorem endV_sub (l : List S81) : ∀ (n a e : Nat), l.length - a ≤ n → endV l a = some e → ∀ i, a ≤ i → i < e → (vAt l i).f0 = 6 → (endV l i).isSome
  | 0, a, e, hn, h, _, _, _, _ => by have := endV_up h; omega
  | n + 1, a, e, hn, h, i, h1, h2, h6 => by
    have hu := endV_up h
    by_cases e1 : i = a
    · subst e1; rw [h]; rfl
    · by_cases hne : nest (vAt l a)
      · have h' := h
        rw [endV_nest (by omega) hne] at h'
        exact endL_sub l _ _ (a + 1) e (by omega) (fun b e' hb he' => endV_sub l n b e' (by omega) he') h' i (by omega) h2 h6
      · rw [endV_one (by omega) hne] at h; cases h; omega

/-- In how many lists and maps the deepest of so many things stands. -/
def depL (l : List S81) (D : Nat → Nat) (m : Bool) : Nat → Nat → Nat
  | 0, _ => 0
  | c + 1, a => max (1 + D (if m = true then a + 1 else a)) (depL l D m c ((endV l (if m = true then a + 1 else a)).getD l.length))
def depF (l : List S81) : Nat → Nat → Nat
  | 0, _ => 0
  | k + 1, a => if a < l.length then (if nest (vAt l a) then depL l (depF l k) (decide ((vAt l a).f0 = 6)) (vAt l a).f1.toNat (a + 1) else 0) else 0
theorem depL_congr (l : List S81) {D D' : Nat → Nat} (m : Bool) : ∀ (c a : Nat), a ≤ l.length → (∀ b, a ≤ b → D b = D' b) → depL l D m c a = depL l D' m c a
  | 0, _, _, _ => rfl
  | c + 1, a, ha, h => by
    unfold depL
    have hb : a ≤ (if m = true then a + 1 else a) := by split <;> omega
    rw [h _ hb]
    congr 1
    generalize (if m = true then a + 1 else a) = b at hb ⊢
    cases he : endV l b with
    | none => exact depL_congr l m c _ (Nat.le_refl _) (fun b hb => h b (by show a ≤ b; have : l.length ≤ b := hb; omega))
    | some e => have hu := endV_up he; exact depL_congr l m c e hu.2 (fun b hb => h b (by omega))
theorem depF_same (l : List S81) : ∀ (k k' a : Nat), l.length < k + a → l.length < k' + a → depF l k a = depF l k' a
  | 0, 0, _, _, _ => rfl
  | 0, k' + 1, a, h, _ => by unfold depF; rw [if_neg (by omega)]
  | k + 1, 0, a, _, h => by unfold depF; rw [if_neg (by omega)]
  | k + 1, k' + 1, a, h, h' => by
    unfold depF
    by_cases ha : a < l.length
    · rw [if_pos ha, if_pos ha]
      by_cases hn : nest (vAt l a)
      · rw [if_pos hn, if_pos hn]
        exact depL_congr l _ _ _ (by omega) (fun b hb => depF_same l k k' b (by omega) (by omega))
      · rw [if_neg hn, if_neg hn]
    · rw [if_neg ha, if_neg ha]
def depV (l : List S81) (a : Nat) : Nat := depF l (l.length + 1) a
theorem depV_one {l : List S81} {a : Nat} (hn : ¬ nest (vAt l a)) : depV l a = 0 := by
  unfold depV depF; by_cases h : a < l.length
  · rw [if_pos h, if_neg hn]
  · rw [if_neg h]
theorem depV_nest {l : List S81} {a : Nat} (h : a < l.length) (hn : nest (vAt l a)) : depV l a = depL l (depV l) (decide ((vAt l a).f0 = 6)) (vAt l a).f1.toNat (a + 1) := by
  have e : depV l a = depL l (depF l l.length) (decide ((vAt l a).f0 = 6)) (vAt l a).f1.toNat (a + 1) := by
    show depF l (l.length + 1) a = _
    unfold depF; rw [if_pos h, if_pos hn]
  rw [e]
  exact depL_congr l _ _ _ (by omega) (fun b hb => depF_same l _ _ b (by omega) (by omega))
theorem depL_map {l : List S81} {D : Nat → Nat} {c a b : Nat} (h : endV l (a + 1) = some b) : depL l D true (c + 1) a = max (1 + D (a + 1)) (depL l D true c b) := by
  show max (1 + D (a + 1)) (depL l D true c ((endV l (a + 1)).getD l.length)) = _
  rw [h]; rfl
theorem depL_list {l : List S81} {D : Nat → Nat} {c a b : Nat} (h : endV l a = some b) : depL l D false (c + 1) a = max (1 + D a) (depL l D false c b) := by
  show max (1 + D a) (depL l D false c ((endV l a).getD l.length)) = _
  rw [h]; rfl

def ei : Option Nat → Int
  | none => -1
  | some e => (e : Int)
def fine (l : List S81) : Prop := l.length ≤ 20 ∧ ∀ i, i < l.length → nest (vAt l i) → 0 ≤ (vAt l i).f1 ∧ (vAt l i).f1 ≤ 20
theorem spec_l8End_l0 (l : List S81) (x : S81) (hl : l.length ≤ 20) (hx : nest x) (h20 : x.f1 ≤ 20) : ∀ (c a i : Nat), (i : Int) + c = x.f1 → a ≤ l.length → (∀ b, a ≤ b → b ≤ l.length → Ev (fun k => spec_l8End.f k l (b : Int)) (ei (endV l b))) →
    Ev (fun k => spec_l8End.l0 k l (a : Int) (i : Int) x.f0 x.f1 x.f2) (ei (endL l (endV l) (decide (x.f0 = 6)) c a))
  | 0, a, i, hc, ha, ih => by
    refine Ev.step (f := fun k => spec_l8End.j2 k l (a : Int) (i : Int) false x.f0 x.f1 x.f2) (fun k => ?_) (ev_succ fun k => ?_)
    · rw [spec_l8End.l0, if_neg (by omega)]
    · rw [spec_l8End.j2, if_neg (by decide)]; rfl
  | c + 1, a, i, hc, ha, ih => by
    have h0 : Ev (fun k => spec_l8End.j2 k l (a : Int) (i : Int) true x.f0 x.f1 x.f2) (ei (endL l (endV l) (decide (x.f0 = 6)) (c + 1) a)) := by
      by_cases h6 : x.f0 = 6
      · rw [decide_eq_true h6]
        by_cases hin : a < l.length ∧ (vAt l a).f0 = 4
        · rw [endL_map hin]
          have hE := ih (a + 1) (by omega) (by omega)
          refine Ev.step (f := fun k => spec_l8End.j3 k l (a : Int) (i : Int) false x.f0 x.f1 x.f2) (fun k => ?_) ?_
          · rw [spec_l8End.j2, if_pos rfl, if_pos h6, if_neg (by omega), if_neg (by omega), if_pos (by omega), if_pos (by omega)]
            have e : ((rd_T81 l (a : Int)).f0 != 4) = false := bne_eq_false_iff_eq.2 hin.2
            rw [e]
          · cases hv : endV l (a + 1) with
            | none =>
              rw [hv] at hE
              change Ev _ (-1 : Int) at hE
              refine Ev.step (f := fun k => (spec_l8End.f k l ((a + 1 : Nat) : Int)).bind fun t => if t < 0 then some (-1) else spec_l8End.l0 k l t (wrap64 ((i : Int) + 1)) x.f0 x.f1 x.f2) (fun k => ?_) (ev_bind hE (ev_if (by decide) (Ev.now _)))
              rw [spec_l8End.j3, if_neg (by decide), wrap_id (x := (a : Int) + 1) (by omega) (by omega)]; rfl
            | some e =>
              rw [hv] at hE
              change Ev _ (e : Int) at hE
              have hu := endV_up hv
              have hr := spec_l8End_l0 l x hl hx h20 c e (i + 1) (by omega) hu.2 (fun b hb => ih b (by omega))
              rw [decide_eq_true h6] at hr
              refine Ev.step (f := fun k => (spec_l8End.f k l ((a + 1 : Nat) : Int)).bind fun t => if t < 0 then some (-1) else spec_l8End.l0 k l t ((i + 1 : Nat) : Int) x.f0 x.f1 x.f2) (fun k => ?_) (ev_bind hE (ev_ifn (by omega) hr))
              rw [spec_l8End.j3, if_neg (by decide), wrap_id (x := (a : Int) + 1) (by omega) (by omega), wrap_id (x := (i : Int) + 1) (by omega) (by omega)]; rfl
        · rw [endL_map_no hin]
          refine Ev.step (f := fun k => spec_l8End.j3 k l (a : Int) (i : Int) true x.f0 x.f1 x.f2) (fun k => ?_) (ev_succ fun k => by rw [spec_l8End.j3, if_pos rfl]; rfl)
          rw [spec_l8End.j2, if_pos rfl, if_pos h6, if_neg (by omega)]
          by_cases hge : (a : Int) ≥ (l.length : Int)
          · rw [if_pos hge]
          · rw [if_neg hge, if_pos (by omega), if_pos (by omega)]
            have e : ((rd_T81 l (a : Int)).f0 != 4) = true := bne_iff_ne.2 (fun h4 => hin ⟨by omega, h4⟩)
            rw [e]
      · rw [decide_eq_false h6, endL_list]
        have hE := ih a (by omega) (by omega)
        cases hv : endV l a with
        | none =>
          rw [hv] at hE
          change Ev _ (-1 : Int) at hE
          refine Ev.step (f := fun k => (spec_l8End.f k l (a : Int)).bind fun t => if t < 0 then some (-1) else spec_l8End.l0 k l t (wrap64 ((i : Int) + 1)) x.f0 x.f1 x.f2) (fun k => ?_) (ev_bind hE (ev_if (by decide) (Ev.now _)))
          rw [spec_l8End.j2, if_pos rfl, if_neg h6]
        | some e =>
          rw [hv] at hE
          change Ev _ (e : Int) at hE
          have hu := endV_up hv
          have hr := spec_l8End_l0 l x hl hx h20 c e (i + 1) (by omega) hu.2 (fun b hb => ih b (by omega))
          rw [decide_eq_false h6] at hr
          refine Ev.step (f := fun k => (spec_l8End.f k l (a : Int)).bind fun t => if t < 0 then some (-1) else spec_l8End.l0 k l t ((i + 1 : Nat) : Int) x.f0 x.f1 x.f2) (fun k => ?_) (ev_bind hE (ev_ifn (by omega) hr))
          rw [spec_l8End.j2, if_pos rfl, if_neg h6, wrap_id (x := (i : Int) + 1) (by omega) (by omega)]; rfl
    refine Ev.step (fun k => ?_) h0
    rw [spec_l8End.l0, if_pos (by omega)]
    by_cases h5 : x.f0 = 5
    · rw [if_pos h5]
    · rw [if_neg h5, show (x.f0 == 6) = true from beq_iff_eq.2 (hx.resolve_left h5)]
theorem spec_l8End_ev {l : List S81} (hl : fine l) : ∀ (n a : Nat), l.length - a < n → a ≤ l.length → Ev (fun k => spec_l8End.f k l (a : Int)) (ei (endV l a))
  | 0, a, hn, _ => absurd hn (by omega)
  | n + 1, a, hn, ha => by
    by_cases hin : a < l.length
    · have h0 : Ev (fun k => spec_l8End.l0 k l ((a + 1 : Nat) : Int) 0 (vAt l a).f0 (vAt l a).f1 (vAt l a).f2) (ei (endV l a)) := by
        by_cases hne : nest (vAt l a)
        · have h2 := hl.2 a hin hne
          rw [endV_nest hin hne]
          exact spec_l8End_l0 l (vAt l a) hl.1 hne h2.2 _ (a + 1) 0 (by omega) (by omega) (fun b hb hb2 => spec_l8End_ev hl n b (by omega) hb2)
        · rw [endV_one hin hne]
          refine Ev.step (f := fun k => spec_l8End.j2 k l ((a + 1 : Nat) : Int) 0 false (vAt l a).f0 (vAt l a).f1 (vAt l a).f2) (fun k => ?_) (ev_succ fun k => ?_)
          · rw [spec_l8End.l0]
            by_cases h1 : 0 < (vAt l a).f1
            · rw [if_pos h1, if_neg (fun h => hne (.inl h)), show ((vAt l a).f0 == 6) = false from beq_eq_false_iff_ne.2 (fun h => hne (.inr h))]
            · rw [if_neg h1]
          · rw [spec_l8End.j2, if_neg (by decide)]; rfl
      refine Ev.step (f := fun k => spec_l8End.j0 k l (a : Int) false) (fun k => ?_) (Ev.step (fun k => ?_) h0)
      · rw [spec_l8End.f, if_neg (by omega), decide_eq_false (by omega)]
      · rw [spec_l8End.j0, if_neg (by decide), if_pos (by omega), if_pos (by omega), wrap_id (by have := hl.1; omega) (by have := hl.1; omega)]; rfl
    · rw [endV_out hin]
      refine Ev.step (f := fun k => spec_l8End.j0 k l (a : Int) true) (fun k => ?_) (ev_succ fun k => by rw [spec_l8End.j0, if_pos rfl]; rfl)
      rw [spec_l8End.f, if_neg (by omega), decide_eq_true (by omega)]
theorem spec_l8End_at {l : List S81} (hl : fine l) {a : Nat} (ha : a ≤ l.length) : Ev (fun k => spec_l8End.f k l (a : Int)) (ei (endV l a)) := spec_l8End_ev hl _ a (Nat.lt_succ_self _) ha

def okc (c : UInt8) : Bool := decide (32 ≤ c.toNat ∧ c.toNat ≤ 126 ∧ c.toNat ≠ 34 ∧ c.toNat ≠ 92)
def textV (s : ByteArray) : Bool := decide (s.data.toList.length ≤ 40) && s.data.toList.all okc
def numV (a b : Int) : Bool := if a = 1 ∨ a = 4 then decide (b = 0) else if a = 2 then decide (0 ≤ b ∧ b ≤ 1) else if a = 3 then decide (0 ≤ b ∧ b ≤ 2147483646) else decide (0 ≤ b ∧ b ≤ 20)
def badV (a b : Int) (s : ByteArray) : Bool := if 1 ≤ a ∧ a ≤ 6 then (if a = 4 then decide (b ≠ 0) else if s.toList = [] then (if a = 1 then decide (b ≠ 0) else false) else true) else true
/-- The code of a value by itself. -/
def oneV (x : S81) : Int := if badV x.f0 x.f1 x.f2 = true then 1 else if numV x.f0 x.f1 = true then (if textV x.f2 = true then 0 else 5) else 3
theorem oneV_fine {x : S81} (h : oneV x = 0) (hn : x.f0 = 5 ∨ x.f0 = 6) : 0 ≤ x.f1 ∧ x.f1 ≤ 20 := by
  unfold oneV at h
  by_cases hb : badV x.f0 x.f1 x.f2 = true
  · rw [if_pos hb] at h; cases h
  · rw [if_neg hb] at h
    by_cases h1 : numV x.f0 x.f1 = true
    · unfold numV at h1
      rw [if_neg (by omega), if_neg (by omega), if_neg (by omega)] at h1
      exact of_decide_eq_true h1
    · rw [if_neg h1] at h; cases h
def codeL : List S81 → Int
  | [] => 0
  | x :: r => if oneV x = 0 then codeL r else oneV x
theorem codeL_fine {l : List S81} (h : codeL l = 0) : ∀ x ∈ l, oneV x = 0 := by
  induction l with
  | nil => simp
  | cons y r ih =>
    unfold codeL at h
    by_cases h1 : oneV y = 0
    · rw [if_pos h1] at h
      intro x hx
      rcases List.mem_cons.1 hx with rfl | hx
      · exact h1
      · exact ih h x hx
    · rw [if_neg h1] at h; exact absurd h h1
theorem fine_of {l : List S81} (hl : l.length ≤ 20) (h : codeL l = 0) : fine l := by
  refine ⟨hl, fun i hi hn => oneV_fine (codeL_fine h _ ?_) hn⟩
  unfold vAt rd_T81
  rw [List.getD_eq_getElem?_getD, List.getElem?_eq_getElem (by omega)]
  exact List.getElem_mem _

theorem dd_lt {u : Nat} (h : u < 10) : Go.Lib.decDigits u = [UInt8.ofNat (48 + u)] := by rw [Go.Lib.decDigits, dif_pos h]
theorem dd_ge {u : Nat} (h : ¬ u < 10) : Go.Lib.decDigits u = Go.Lib.decDigits (u / 10) ++ [UInt8.ofNat (48 + u % 10)] := by rw [Go.Lib.decDigits, dif_neg h]
theorem itoa_nat (u : Nat) : Go.Lib.itoa (u : Int) = Go.Lib.decDigits u := by unfold Go.Lib.itoa; rw [if_neg (by omega)]; simp
theorem dd_len : ∀ (m u : Nat), u < 10 ^ (m + 1) → (Go.Lib.decDigits u).length ≤ m + 1
  | 0, u, h => by rw [dd_lt (by omega)]; simp
  | m + 1, u, h => by
    by_cases h1 : u < 10
    · rw [dd_lt h1]; simp
    · rw [dd_ge h1, List.length_append]
      have := dd_len m (u / 10) (by rw [Nat.pow_succ] at h; omega)
      simp only [List.length_singleton]; omega
/-- A text out of bytes. -/
def lb (l : List UInt8) : ByteArray := ⟨l.toArray⟩
theorem lb_size (l : List UInt8) : (lb l).size = l.length := by show l.toArray.size = _; simp
theorem lb_app (a b : List UInt8) : lb a ++ lb b = lb (a ++ b) := ByteArray.ext (by rw [ByteArray.data_append]; simp [lb])
theorem lb_of (s : ByteArray) : s = lb s.data.toList := ByteArray.ext (by simp [lb])
theorem lb_data (l : List UInt8) : (lb l).data.toList = l := by simp [lb]
theorem digit_str {d : Nat} (h : d < 10) : strOfNums [wrap64 (48 + (d : Int)) % 256] = lb [UInt8.ofNat (48 + d)] := by
  rw [wrap_id (by omega) (by omega)]
  unfold strOfNums lb
  rw [List.map_cons, List.map_nil, show ((48 + (d : Int)) % 256).toNat = 48 + d by omega]
theorem spec_l1Digits_ev : ∀ (m n : Nat), n < 10 ^ (m + 1) → n ≤ 2147483647 → Ev (fun k => spec_l1Digits.f k (n : Int)) (lb (Go.Lib.decDigits n))
  | 0, n, h, _ => by
    have h1 : n < 10 := by omega
    refine ev_succ fun k => ?_
    rw [spec_l1Digits.f, if_neg (by omega), if_pos (by omega), dd_lt h1, digit_str h1]
  | m + 1, n, h, hn => by
    by_cases h1 : n < 10
    · refine ev_succ fun k => ?_
      rw [spec_l1Digits.f, if_neg (by omega), if_pos (by omega), dd_lt h1, digit_str h1]
    · have ih := spec_l1Digits_ev m (n / 10) (by rw [Nat.pow_succ] at h; omega) (by omega)
      have hl := dd_len 9 (n / 10) (by omega)
      refine Ev.step (f := fun k => (spec_l1Digits.f k ((n / 10 : Nat) : Int)).bind fun t => (some [wrap64 (48 + ((n % 10 : Nat) : Int)) % 256]).bind fun y => if t.size + (strOfNums y).size ≤ 9223372036854775807 then some (t ++ strOfNums y) else none) (fun k => ?_) (ev_bind ih ?_)
      · rw [spec_l1Digits.f, if_neg (by omega), if_neg (by omega), wrap_id (x := Int.tdiv (n : Int) 10) (by rw [Int.tdiv_eq_ediv_of_nonneg (by omega)]; omega) (by rw [Int.tdiv_eq_ediv_of_nonneg (by omega)]; omega)]
        rfl
      · rw [Option.bind_some, digit_str (by omega), lb_size, lb_size, if_pos (by rw [List.length_singleton]; omega), lb_app, dd_ge h1]
        exact Ev.now _
/-- What is right in a value by itself. -/
theorem oneV_0 {x : S81} (h : oneV x = 0) : 1 ≤ x.f0 ∧ x.f0 ≤ 6 ∧ numV x.f0 x.f1 = true ∧ x.f2.data.toList.length ≤ 40 := by
  unfold oneV at h
  by_cases hb : badV x.f0 x.f1 x.f2 = true
  · rw [if_pos hb] at h; cases h
  · rw [if_neg hb] at h
    by_cases h1 : numV x.f0 x.f1 = true
    · rw [if_pos h1] at h
      by_cases h2 : textV x.f2 = true
      · refine ⟨?_, ?_, h1, ?_⟩
        · unfold badV at hb
          by_cases c : 1 ≤ x.f0 ∧ x.f0 ≤ 6
          · exact c.1
          · rw [if_neg c] at hb; exact absurd rfl hb
        · unfold badV at hb
          by_cases c : 1 ≤ x.f0 ∧ x.f0 ≤ 6
          · exact c.2
          · rw [if_neg c] at hb; exact absurd rfl hb
        · unfold textV at h2
          rw [Bool.and_eq_true] at h2
          exact of_decide_eq_true h2.1
      · rw [if_neg h2] at h; cases h
    · rw [if_neg h1] at h; cases h
theorem vAt_get {l : List S81} {a : Nat} (h : a < l.length) : vAt l a = l[a] := by
  unfold vAt rd_T81
  rw [List.getD_eq_getElem?_getD, List.getElem?_eq_getElem (by omega)]; rfl
theorem right_at {l : List S81} (hc : codeL l = 0) {a : Nat} (h : a < l.length) : oneV (vAt l a) = 0 := by
  rw [vAt_get h]
  exact codeL_fine hc _ (List.getElem_mem _)
theorem drop_at {l : List S81} {a : Nat} (h : a < l.length) : l.drop a = vAt l a :: l.drop (a + 1) := by
  rw [List.drop_eq_getElem_cons h, vAt_get h]
theorem valP_text {l : List S81} {a : Nat} (h : a < l.length) (h4 : (vAt l a).f0 = 4) (K : Nat) : HPrint.valP (K + 1) (l.drop a) = some ([34] ++ tx l a ++ [34], l.drop (a + 1)) := by
  rw [drop_at h, HPrint.valP, if_neg (by omega), if_neg (by omega), if_neg (by omega), if_pos h4]; rfl
/-- What is said of the text of a value. -/
def Pt (l : List S81) (a e : Nat) (s : List UInt8) : Prop := s.length + 1 ≤ 100 * (e - a) ∧ (∀ K, l.length - a < K → HPrint.valP K (l.drop a) = some (s, l.drop e)) ∧ Ev (fun k => spec_l8Print.f k l (a : Int)) (lb s)
def sgn (x : S81) (a b : UInt8) : UInt8 := if x.f0 = 6 then b else a
def stepP (x : S81) (K : Nat) : List S81 → Option (List UInt8 × List S81) := if x.f0 = 6 then HPrint.pairP (HPrint.valP K) else HPrint.valP K
theorem print_loop {l : List S81} (hl : fine l) (hc0 : codeL l = 0) (x : S81) (hx : nest x) (h20 : x.f1 ≤ 20) : ∀ (c a i e : Nat), (i : Int) + c = x.f1 → a ≤ l.length → (∀ b e', a ≤ b → endV l b = some e' → ∃ s, Pt l b e' s) → endL l (endV l) (decide (x.f0 = 6)) c a = some e →
    ∃ s : List UInt8, s.length ≤ 100 * (e - a) ∧ a ≤ e ∧ (∀ K k, l.length - a < K → c < k → HPrint.loopP (stepP x K) k x.f1 (i : Int) (l.drop a) = some (s, l.drop e)) ∧
      (∀ acc : List UInt8, acc.length + 100 * (l.length - a) ≤ 100000 → Ev (fun k => spec_l8Print.l0 k l (lb acc) (a : Int) (i : Int) x.f0 x.f1 x.f2) (lb ([sgn x 91 123] ++ (acc ++ s) ++ [sgn x 93 125])))
  | 0, a, i, e, hc, ha, ih, he => by
    cases he
    refine ⟨[], by simp, Nat.le_refl _, fun K k hK hk => ?_, fun acc hacc => ?_⟩
    · obtain ⟨k, rfl⟩ : ∃ j, k = j + 1 := ⟨k - 1, by omega⟩
      rw [HPrint.loopP, if_neg (by omega)]
    · refine ev_succ fun k => ?_
      rw [spec_l8Print.l0, if_neg (by omega), lb_size, List.append_nil]
      unfold sgn
      by_cases h6 : x.f0 = 6
      · rw [if_pos h6, if_pos h6, if_pos h6, if_pos (by omega), show (⟨#[123]⟩ : ByteArray) = lb [123] from rfl, lb_app, lb_size, if_pos (by simp; omega), show (⟨#[125]⟩ : ByteArray) = lb [125] from rfl, lb_app]
      · rw [if_neg h6, if_neg h6, if_neg h6, if_pos (by omega), show (⟨#[91]⟩ : ByteArray) = lb [91] from rfl, lb_app, lb_size, if_pos (by simp; omega), show (⟨#[93]⟩ : ByteArray) = lb [93] from rfl, lb_app]
  | c + 1, a, i, e, hc, ha, ih, he => by
    have h1 := hl.1
    obtain ⟨cm, hcm⟩ : ∃ cm : List UInt8, cm = if (i : Int) > 0 then [44] else [] := ⟨_, rfl⟩
    have hcl : cm.length ≤ 1 := by rw [hcm]; split <;> simp
    by_cases h6 : x.f0 = 6
    · rw [decide_eq_true h6] at he
      have hin : a < l.length ∧ (vAt l a).f0 = 4 := by
        by_cases hin : a < l.length ∧ (vAt l a).f0 = 4
        · exact hin
        · rw [endL_map_no hin] at he; cases he
      rw [endL_map hin] at he
      obtain ⟨b, hb, he⟩ := Option.bind_eq_some_iff.mp he
      have hu := endV_up hb
      obtain ⟨s1, hs1, hv1, hE1⟩ := ih (a + 1) b (by omega) hb
      have ht := (oneV_0 (right_at hc0 hin.1)).2.2.2
      change (tx l a).length ≤ 40 at ht
      obtain ⟨s2, hs2, hbe, hv2, hE2⟩ := print_loop hl hc0 x hx h20 c b (i + 1) e (by omega) hu.2 (fun b' e' hb' => ih b' e' (by omega)) (by rw [decide_eq_true h6]; exact he)
      refine ⟨cm ++ (([34] ++ tx l a ++ [34]) ++ (58 :: s1) ++ s2), ?_, by omega, fun K k hK hk => ?_, fun acc hacc => ?_⟩
      · simp only [List.length_append, List.length_cons, List.length_nil]; omega
      · obtain ⟨k, rfl⟩ : ∃ j, k = j + 1 := ⟨k - 1, by omega⟩
        obtain ⟨K', rfl⟩ : ∃ j, K = j + 1 := ⟨K - 1, by omega⟩
        have e1 : stepP x (K' + 1) (l.drop a) = some (([34] ++ tx l a ++ [34]) ++ (58 :: s1), l.drop b) := by
          unfold stepP
          rw [if_pos h6]
          unfold HPrint.pairP
          rw [valP_text hin.1 hin.2, Option.bind_some, hv1 (K' + 1) (by omega)]; rfl
        rw [HPrint.loopP, if_pos (by omega), if_pos (by omega), e1, Option.bind_some]
        have e2 := hv2 (K' + 1) k (by omega) (by omega)
        rw [show (i : Int) + 1 = ((i + 1 : Nat) : Int) by omega, e2, Option.bind_some, ← hcm]
      · have hE := spec_l8End_at hl (a := a + 1) (by omega)
        rw [hb] at hE
        change Ev _ (b : Int) at hE
        have hr := hE2 (acc ++ cm ++ ([34] ++ tx l a ++ [34]) ++ (58 :: s1)) (by simp only [List.length_append, List.length_cons, List.length_nil]; omega)
        have e0 : acc ++ cm ++ ([34] ++ tx l a ++ [34]) ++ (58 :: s1) ++ s2 = acc ++ (cm ++ (([34] ++ tx l a ++ [34]) ++ (58 :: s1) ++ s2)) := by simp
        rw [e0] at hr
        refine Ev.step (f := fun k => spec_l8Print.j1 k l (lb (acc ++ cm)) (a : Int) (i : Int) x.f0 x.f1 x.f2) (fun k => ?_) (Ev.step (f := fun k => (spec_l8Print.f k l ((a + 1 : Nat) : Int)).bind fun t => if (lb (acc ++ cm ++ [34] ++ tx l a ++ [34, 58])).size + t.size ≤ 9223372036854775807 then ((spec_l8End.f k l ((a + 1 : Nat) : Int)).bind fun u => spec_l8Print.l0 k l (lb (acc ++ cm ++ [34] ++ tx l a ++ [34, 58]) ++ t) u ((i + 1 : Nat) : Int) x.f0 x.f1 x.f2) else none) (fun k => ?_) (ev_bind hE1 ?_))
        · rw [spec_l8Print.l0, if_pos (by omega)]
          by_cases h0 : (i : Int) > 0
          · rw [if_pos h0] at hcm
            rw [if_pos h0, lb_size, if_pos (by omega), show (⟨#[44]⟩ : ByteArray) = lb [44] from rfl, lb_app, hcm]
          · rw [if_neg h0] at hcm
            rw [if_neg h0, hcm, List.append_nil]
        · rw [spec_l8Print.j1, if_pos h6, lb_size, if_pos (by rw [List.length_append]; omega), if_pos (by omega), if_pos (by omega), show (⟨#[34]⟩ : ByteArray) = lb [34] from rfl, lb_app, show (rd_T81 l (a : Int)).f2 = lb (tx l a) from lb_of _, lb_size, lb_size, if_pos (by simp only [List.length_append, List.length_cons, List.length_nil]; omega), lb_app, lb_size, if_pos (by simp only [List.length_append, List.length_cons, List.length_nil]; omega), show (⟨#[34, 58]⟩ : ByteArray) = lb [34, 58] from rfl, lb_app, wrap_id (x := (a : Int) + 1) (by omega) (by omega), wrap_id (x := (i : Int) + 1) (by omega) (by omega)]
          rfl
        · rw [lb_size, lb_size]
          refine ev_if (by simp only [List.length_append, List.length_cons, List.length_nil]; omega) (ev_bind hE ?_)
          rw [lb_app, show acc ++ cm ++ [34] ++ tx l a ++ [34, 58] ++ s1 = acc ++ cm ++ ([34] ++ tx l a ++ [34]) ++ (58 :: s1) by simp]
          exact hr
    · have hx5 : x.f0 = 5 := hx.resolve_right h6
      rw [decide_eq_false h6] at he
      rw [endL_list] at he
      obtain ⟨b, hb, he⟩ := Option.bind_eq_some_iff.mp he
      have hu := endV_up hb
      obtain ⟨s1, hs1, hv1, hE1⟩ := ih a b (by omega) hb
      obtain ⟨s2, hs2, hbe, hv2, hE2⟩ := print_loop hl hc0 x hx h20 c b (i + 1) e (by omega) hu.2 (fun b' e' hb' => ih b' e' (by omega)) (by rw [decide_eq_false h6]; exact he)
      refine ⟨cm ++ (s1 ++ s2), ?_, by omega, fun K k hK hk => ?_, fun acc hacc => ?_⟩
      · simp only [List.length_append]; omega
      · obtain ⟨k, rfl⟩ : ∃ j, k = j + 1 := ⟨k - 1, by omega⟩
        have e1 : stepP x K (l.drop a) = some (s1, l.drop b) := by
          unfold stepP
          rw [if_neg h6]
          exact hv1 K (by omega)
        rw [HPrint.loopP, if_pos (by omega), if_pos (by omega), e1, Option.bind_some]
        have e2 := hv2 K k (by omega) (by omega)
        rw [show (i : Int) + 1 = ((i + 1 : Nat) : Int) by omega, e2, Option.bind_some, ← hcm]
      · have hE := spec_l8End_at hl (a := a) (by omega)
        rw [hb] at hE
        change Ev _ (b : Int) at hE
        have hr := hE2 (acc ++ cm ++ s1) (by simp only [List.length_append]; omega)
        have e0 : acc ++ cm ++ s1 ++ s2 = acc ++ (cm ++ (s1 ++ s2)) := by simp
        rw [e0] at hr
        refine Ev.step (f := fun k => spec_l8Print.j1 k l (lb (acc ++ cm)) (a : Int) (i : Int) x.f0 x.f1 x.f2) (fun k => ?_) (Ev.step (f := fun k => (spec_l8Print.f k l (a : Int)).bind fun t => if (lb (acc ++ cm)).size + t.size ≤ 9223372036854775807 then ((spec_l8End.f k l (a : Int)).bind fun u => spec_l8Print.l0 k l (lb (acc ++ cm) ++ t) u ((i + 1 : Nat) : Int) x.f0 x.f1 x.f2) else none) (fun k => ?_) (ev_bind hE1 ?_))
        · rw [spec_l8Print.l0, if_pos (by omega)]
          by_cases h0 : (i : Int) > 0
          · rw [if_pos h0] at hcm
            rw [if_pos h0, lb_size, if_pos (by omega), show (⟨#[44]⟩ : ByteArray) = lb [44] from rfl, lb_app, hcm]
          · rw [if_neg h0] at hcm
            rw [if_neg h0, hcm, List.append_nil]
        · rw [spec_l8Print.j1, if_neg h6, wrap_id (x := (i : Int) + 1) (by omega) (by omega)]; rfl
        · rw [lb_size, lb_size]
          refine ev_if (by simp only [List.length_append]; omega) (ev_bind hE ?_)
          rw [lb_app]
          exact hr
theorem print_at {l : List S81} (hl : fine l) (hc0 : codeL l = 0) : ∀ (n a e : Nat), l.length - a < n → endV l a = some e → ∃ s, Pt l a e s
  | 0, a, e, hn, _ => absurd hn (by omega)
  | n + 1, a, e, hn, he => by
    have hu := endV_up he
    have h1 := hl.1
    have hin : a < l.length := by omega
    obtain ⟨k1, k6, hnum, ht⟩ := oneV_0 (right_at hc0 hin)
    change (tx l a).length ≤ 40 at ht
    by_cases hne : nest (vAt l a)
    · have h2 := hl.2 a hin hne
      have he' := he
      rw [endV_nest hin hne] at he'
      obtain ⟨s, hs, _, hv, hE⟩ := print_loop hl hc0 (vAt l a) hne h2.2 _ (a + 1) 0 e (by omega) (by omega) (fun b e' hb he' => print_at hl hc0 n b e' (by omega) he') he'
      refine ⟨[sgn (vAt l a) 91 123] ++ s ++ [sgn (vAt l a) 93 125], ?_, fun K hK => ?_, ?_⟩
      · simp only [List.length_append, List.length_cons, List.length_nil]; omega
      · obtain ⟨K, rfl⟩ : ∃ j, K = j + 1 := ⟨K - 1, by omega⟩
        have hv' := hv K 1000 (by omega) (by omega)
        rw [drop_at hin]
        unfold sgn
        unfold stepP at hv'
        rcases hne with h5 | h6
        · rw [if_neg (by omega)] at hv'
          rw [HPrint.valP, if_neg (by omega), if_neg (by omega), if_neg (by omega), if_neg (by omega), if_pos h5, if_neg (by omega), if_neg (by omega)]
          refine Eq.trans (congrArg (fun q => Option.bind q fun q => some ([91] ++ q.1 ++ [93], q.2)) hv') rfl
        · rw [if_pos h6] at hv'
          rw [HPrint.valP, if_neg (by omega), if_neg (by omega), if_neg (by omega), if_neg (by omega), if_neg (by omega), if_pos h6, if_pos h6, if_pos h6]
          refine Eq.trans (congrArg (fun q => Option.bind q fun q => some ([123] ++ q.1 ++ [125], q.2)) hv') rfl
      · have hE' := hE [] (by simp; omega)
        rw [List.nil_append] at hE'
        refine Ev.step (fun k => ?_) hE'
        have hne' : (vAt l a).f0 = 5 ∨ (vAt l a).f0 = 6 := hne
        have hne2 : (rd_T81 l (a : Int)).f0 = 5 ∨ (rd_T81 l (a : Int)).f0 = 6 := hne
        rw [spec_l8Print.f, if_pos (by omega), if_pos (by omega), if_neg (by omega), if_neg (by omega), if_neg (by omega), if_neg (by omega), wrap_id (by omega) (by omega)]; rfl
    · rw [endV_one hin hne] at he
      cases he
      have n5 : (vAt l a).f0 ≠ 5 := fun h => hne (.inl h)
      have n6 : (vAt l a).f0 ≠ 6 := fun h => hne (.inr h)
      unfold numV at hnum
      have er : rd_T81 l (a : Int) = vAt l a := rfl
      by_cases q1 : (vAt l a).f0 = 1
      · refine ⟨[110, 117, 108, 108], by simp only [List.length_cons, List.length_nil]; omega, fun K hK => ?_, ev_succ fun k => ?_⟩
        · obtain ⟨K, rfl⟩ : ∃ j, K = j + 1 := ⟨K - 1, by omega⟩
          rw [drop_at hin, HPrint.valP, if_pos q1]
        · rw [spec_l8Print.f, if_pos (by omega), if_pos (by omega), er, if_pos q1]; rfl
      by_cases q2 : (vAt l a).f0 = 2
      · rw [if_neg (by omega), if_pos q2] at hnum
        have hb := of_decide_eq_true hnum
        refine ⟨if (vAt l a).f1 = 1 then [116, 114, 117, 101] else [102, 97, 108, 115, 101], by split <;> simp <;> omega, fun K hK => ?_, ev_succ fun k => ?_⟩
        · obtain ⟨K, rfl⟩ : ∃ j, K = j + 1 := ⟨K - 1, by omega⟩
          rw [drop_at hin, HPrint.valP, if_neg q1, if_pos q2]
        · rw [spec_l8Print.f, if_pos (by omega), if_pos (by omega), er, if_neg q1, if_pos q2, Option.bind_some, if_pos (by omega), if_pos (by simp; omega)]
          by_cases q : (vAt l a).f1 = 1
          · rw [if_pos q, q]; rfl
          · have q0 : (vAt l a).f1 = 0 := by omega
            rw [if_neg q, q0]; rfl
      by_cases q3 : (vAt l a).f0 = 3
      · rw [if_neg (by omega), if_neg q2, if_pos q3] at hnum
        have hb := of_decide_eq_true hnum
        obtain ⟨m, hm⟩ : ∃ m : Nat, (vAt l a).f1 = (m : Int) := ⟨(vAt l a).f1.toNat, by omega⟩
        have hdl := dd_len 9 m (by omega)
        refine ⟨Go.Lib.itoa (vAt l a).f1, by rw [hm, itoa_nat]; omega, fun K hK => ?_, ?_⟩
        · obtain ⟨K, rfl⟩ : ∃ j, K = j + 1 := ⟨K - 1, by omega⟩
          rw [drop_at hin, HPrint.valP, if_neg q1, if_neg q2, if_pos q3, if_pos (by omega)]
        · rw [hm, itoa_nat]
          refine Ev.step (f := fun k => (spec_l1Digits.f k (m : Int)).bind fun t => some t) (fun k => ?_) (ev_bind (spec_l1Digits_ev 9 m (by omega) (by omega)) (Ev.now _))
          rw [spec_l8Print.f, if_pos (by omega), if_pos (by omega), er, if_neg q1, if_neg q2, if_pos q3, hm]
      · have q4 : (vAt l a).f0 = 4 := by omega
        refine ⟨[34] ++ tx l a ++ [34], by simp only [List.length_append, List.length_cons, List.length_nil]; omega, fun K hK => ?_, ev_succ fun k => ?_⟩
        · obtain ⟨K, rfl⟩ : ∃ j, K = j + 1 := ⟨K - 1, by omega⟩
          exact valP_text hin q4 K
        · rw [spec_l8Print.f, if_pos (by omega), if_pos (by omega), er, if_neg q1, if_neg q2, if_neg q3, if_pos q4, show (vAt l a).f2 = lb (tx l a) from lb_of _, lb_size, if_pos (by omega), show (⟨#[34]⟩ : ByteArray) = lb [34] from rfl, lb_app, lb_size, if_pos (by simp only [List.length_append, List.length_cons, List.length_nil]; omega), lb_app]
/-- Both print a right value alike. -/
theorem print_both {l : List S81} (hl : fine l) (hc0 : codeL l = 0) (he : endV l 0 = some l.length) : ∃ s : List UInt8, s.length + 1 ≤ 100 * l.length ∧ s ≠ [] ∧ impl_printed.f l = some (lb s) ∧ Ev (fun k => spec_l8Print.f k l 0) (lb s) := by
  obtain ⟨s, hs, hv, hE⟩ := print_at hl hc0 _ 0 _ (Nat.lt_succ_self _) he
  have h1 := hl.1
  have hv' := hv 100 (by omega)
  have hne : s ≠ [] := by
    rintro rfl
    have hu := endV_up he
    have hin : 0 < l.length := by omega
    have h0 := drop_at hin
    rw [h0] at hv'
    obtain ⟨k1, k6, _, _⟩ := oneV_0 (right_at hc0 hin)
    rw [HPrint.valP] at hv'
    split at hv'
    · cases hv'
    split at hv'
    · split at hv' <;> cases hv'
    split at hv'
    · split at hv'
      · obtain ⟨m, hm⟩ : ∃ m : Nat, (vAt l 0).f1 = (m : Int) := ⟨(vAt l 0).f1.toNat, by omega⟩
        rw [hm, itoa_nat] at hv'
        have := congrArg List.length (congrArg Prod.fst (Option.some.inj hv'))
        by_cases hm10 : m < 10
        · rw [dd_lt hm10] at this; cases this
        · rw [dd_ge hm10] at this; simp at this
      · cases hv'
    split at hv'
    · have := congrArg List.length (congrArg Prod.fst (Option.some.inj hv')); simp at this
    split at hv'
    · obtain ⟨q, _, hq⟩ := Option.bind_eq_some_iff.mp hv'
      have := congrArg List.length (congrArg Prod.fst (Option.some.inj hq)); simp at this
    split at hv'
    · obtain ⟨q, _, hq⟩ := Option.bind_eq_some_iff.mp hv'
      have := congrArg List.length (congrArg Prod.fst (Option.some.inj hq)); simp at this
    · omega
  refine ⟨s, by simpa using hs, hne, ?_, hE⟩
  unfold impl_printed.f HPrint.printedF
  rw [show l.drop 0 = l from rfl] at hv'
  rw [hv', Option.bind_some, if_pos ⟨hne, by show s.length ≤ _; omega⟩]
  rfl

theorem spec_l1In_eq (a b c : Int) : spec_l1In.f a b c = some (decide (b ≤ a ∧ a ≤ c)) := by
  unfold spec_l1In.f
  by_cases h : a ≥ b
  · rw [if_pos h]; congr 1; rw [Bool.eq_iff_iff]; simp; omega
  · rw [if_neg h]; congr 1; symm; simp; omega
theorem impl_in_eq (a b c : Int) : impl_in.f a b c = some (decide (b ≤ a ∧ a ≤ c)) := by
  unfold impl_in.f
  by_cases h : a ≥ b
  · rw [if_pos h]; congr 1; rw [Bool.eq_iff_iff]; simp; omega
  · rw [if_neg h]; congr 1; symm; simp; omega

theorem one_plain {a b : Int} (h1 : 1 ≤ a ∧ a ≤ 6) (h4 : a ≠ 4) (hb : a = 1 → b = 0) (hn : numV a b = true) : oneV (⟨a, b, ⟨#[]⟩⟩ : S81) = 0 := by
  have hbad : badV a b ⟨#[]⟩ = false := by
    unfold badV
    rw [if_pos h1, if_neg h4, if_pos (by rw [ba_toList])]
    by_cases h : a = 1
    · rw [if_pos h, decide_eq_false (fun h' => h' (hb h))]
    · rw [if_neg h]
  unfold oneV
  show (if badV a b ⟨#[]⟩ = true then (1 : Int) else if numV a b = true then (if textV ⟨#[]⟩ = true then 0 else 5) else 3) = 0
  rw [hbad, if_neg (by decide), if_pos hn, if_pos (by decide)]
theorem one_text {s : ByteArray} (h : textV s = true) : oneV (⟨4, 0, s⟩ : S81) = 0 := by
  have hbad : badV 4 0 s = false := by
    unfold badV
    rw [if_pos (by decide), if_pos rfl]; rfl
  unfold oneV
  show (if badV 4 0 s = true then (1 : Int) else if numV 4 0 = true then (if textV s = true then 0 else 5) else 3) = 0
  rw [hbad, if_neg (by decide), if_pos (by decide), if_pos h]
theorem no_nest {x : S81} (h5 : x.f0 ≠ 5) (h6 : x.f0 ≠ 6) : ¬ nest x := fun h => h.elim h5 h6
theorem reply_right (id code : Int) (ok : Bool) (h0 : 0 ≤ id) (h1 : id ≤ 9999) (h2 : 0 ≤ code) (h3 : code ≤ 99) (x : S81) (hx : x = if code = 0 then ⟨1, 0, ⟨#[]⟩⟩ else ⟨3, code, ⟨#[]⟩⟩) (f : Int) (hf : f = if ok = true then 1 else 0) :
    ∃ s : List UInt8, impl_printed.f [⟨6, 3, ⟨#[]⟩⟩, ⟨4, 0, ⟨#[105, 100]⟩⟩, ⟨3, id, ⟨#[]⟩⟩, ⟨4, 0, ⟨#[114, 101, 115, 117, 108, 116]⟩⟩, ⟨2, f, ⟨#[]⟩⟩, ⟨4, 0, ⟨#[101, 114, 114, 111, 114]⟩⟩, x] = some (lb s) ∧
      Ev (fun k => spec_l8Print.f k [⟨6, 3, ⟨#[]⟩⟩, ⟨4, 0, ⟨#[105, 100]⟩⟩, ⟨3, id, ⟨#[]⟩⟩, ⟨4, 0, ⟨#[114, 101, 115, 117, 108, 116]⟩⟩, ⟨2, f, ⟨#[]⟩⟩, ⟨4, 0, ⟨#[101, 114, 114, 111, 114]⟩⟩, x] 0) (lb s) := by
  have hr : oneV x = 0 ∧ ¬ nest x := by
    subst hx
    by_cases hc : code = 0
    · rw [if_pos hc]; exact ⟨one_plain (by decide) (by decide) (fun _ => rfl) (by decide), no_nest (show (1 : Int) ≠ 5 by decide) (show (1 : Int) ≠ 6 by decide)⟩
    · rw [if_neg hc]
      exact ⟨one_plain (by decide) (by decide) (fun h => absurd h (by decide)) (by unfold numV; rw [if_neg (by decide), if_neg (by decide), if_pos rfl]; exact decide_eq_true (by omega)), no_nest (show (3 : Int) ≠ 5 by decide) (show (3 : Int) ≠ 6 by decide)⟩
  have hid : oneV (⟨3, id, ⟨#[]⟩⟩ : S81) = 0 := by
    exact one_plain (by decide) (by decide) (fun h => absurd h (by decide)) (by unfold numV; rw [if_neg (by decide), if_neg (by decide), if_pos rfl]; exact decide_eq_true (by omega))
  have hfl : oneV (⟨2, f, ⟨#[]⟩⟩ : S81) = 0 := by
    subst hf
    cases ok <;> exact one_plain (by decide) (by decide) (fun h => absurd h (by decide)) (by decide)
  generalize hl : ([⟨6, 3, ⟨#[]⟩⟩, ⟨4, 0, ⟨#[105, 100]⟩⟩, ⟨3, id, ⟨#[]⟩⟩, ⟨4, 0, ⟨#[114, 101, 115, 117, 108, 116]⟩⟩, ⟨2, f, ⟨#[]⟩⟩, ⟨4, 0, ⟨#[101, 114, 114, 111, 114]⟩⟩, x] : List S81) = l
  have hc : codeL l = 0 := by
    subst hl
    simp only [codeL]
    rw [if_pos (one_plain (by decide) (by decide) (fun h => absurd h (by decide)) (by decide)), if_pos (one_text (by decide)), if_pos hid, if_pos (one_text (by decide)), if_pos hfl, if_pos (one_text (by decide)), if_pos hr.1]
  have hlen : l.length = 7 := by subst hl; rfl
  have hfine : fine l := fine_of (by omega) hc
  have e0 : vAt l 0 = ⟨6, 3, ⟨#[]⟩⟩ := by subst hl; rfl
  have e1 : (vAt l 1).f0 = 4 := by subst hl; rfl
  have e2 : vAt l 2 = ⟨3, id, ⟨#[]⟩⟩ := by subst hl; rfl
  have e3 : (vAt l 3).f0 = 4 := by subst hl; rfl
  have e4 : vAt l 4 = ⟨2, f, ⟨#[]⟩⟩ := by subst hl; rfl
  have e5 : (vAt l 5).f0 = 4 := by subst hl; rfl
  have e6 : vAt l 6 = x := by subst hl; rfl
  have n2 : ¬ nest (vAt l 2) := by rw [e2]; exact no_nest (show (3 : Int) ≠ 5 by decide) (show (3 : Int) ≠ 6 by decide)
  have n4 : ¬ nest (vAt l 4) := by rw [e4]; exact no_nest (show (2 : Int) ≠ 5 by decide) (show (2 : Int) ≠ 6 by decide)
  have he : endV l 0 = some l.length := by
    rw [endV_nest (by omega) (by rw [e0]; exact .inr rfl), e0, show (decide ((6 : Int) = 6)) = true from rfl, show ((3 : Int).toNat) = 3 from rfl]
    rw [endL_map ⟨by omega, e1⟩, endV_one (by omega) n2, Option.bind_some, endL_map ⟨by omega, e3⟩, endV_one (by omega) n4, Option.bind_some, endL_map ⟨by omega, e5⟩, endV_one (by omega) (by rw [e6]; exact hr.2), Option.bind_some, hlen]
    rfl
  obtain ⟨s, _, _, hi, hE⟩ := print_both hfine hc he
  exact ⟨s, hi, hE⟩
theorem message_ev (a b c d e x : S81) : Ev (fun k => impl_message.f k [[a, b], [c, d], [e, x]]) [⟨6, 3, ⟨#[]⟩⟩, a, b, c, d, e, x] := by
  have r0 : rd_L4 [[a, b], [c, d], [e, x]] 0 = [a, b] := rfl
  have r1 : rd_L4 [[a, b], [c, d], [e, x]] 1 = [c, d] := rfl
  have r2 : rd_L4 [[a, b], [c, d], [e, x]] 2 = [e, x] := rfl
  unfold impl_message.f
  refine Ev.step (f := fun k => impl_message.l0 k [⟨6, 3, ⟨#[]⟩⟩, a, b] [[a, b], [c, d], [e, x]] 3 1) (fun k => ?_) (Ev.step (f := fun k => impl_message.l0 k [⟨6, 3, ⟨#[]⟩⟩, a, b, c, d] [[a, b], [c, d], [e, x]] 3 2) (fun k => ?_) (Ev.step (f := fun k => impl_message.l0 k [⟨6, 3, ⟨#[]⟩⟩, a, b, c, d, e, x] [[a, b], [c, d], [e, x]] 3 3) (fun k => ?_) (ev_succ fun k => ?_)))
  · show impl_message.l0 (k + 1) [⟨6, 3, ⟨#[]⟩⟩] [[a, b], [c, d], [e, x]] 3 0 = _
    rw [impl_message.l0, if_pos (by decide), if_pos (by decide), if_pos (by simp), r0, if_pos (by simp), wrap_id (x := 0 + 1) (by decide) (by decide)]; rfl
  · rw [impl_message.l0, if_pos (by decide), if_pos (by decide), if_pos (by simp), r1, if_pos (by simp), wrap_id (x := 1 + 1) (by decide) (by decide)]; rfl
  · rw [impl_message.l0, if_pos (by decide), if_pos (by decide), if_pos (by simp), r2, if_pos (by simp), wrap_id (x := 2 + 1) (by decide) (by decide)]; rfl
  · rw [impl_message.l0, if_neg (by decide)]
theorem FnExactReplyText (a0 : Int) (a1 : Bool) (a2 : Int) (w0 : (Lit.int .i64 a0).wf = true) (w2 : (Lit.int .i64 a2).wf = true) : ∃ k, laws_FnExactReplyText.f k a0 a1 a2 = some true := by
  refine Ev.rounds (g := fun k => laws_FnExactReplyText.f k a0 a1 a2) ?_
  unfold laws_FnExactReplyText.f
  suffices h : ∃ c s, Ev (fun k => spec_ReplyText.f k a0 a1 a2) (c, s) ∧ Ev (fun k => impl_ReplyText.f k a0 a1 a2) (c, s) by
    obtain ⟨c, s, h1, h2⟩ := h
    have heq : laws_eqTextResult.f c s c s = some true := by unfold laws_eqTextResult.f; rw [if_pos rfl, if_pos rfl]
    exact ev_bind h1 (ev_bind h2 (ev_bind0 heq (ev_if rfl (Ev.now _))))
  have hin1 : impl_isId.f a0 = some (decide (0 ≤ a0 ∧ a0 ≤ 9999)) := by unfold impl_isId.f; rw [impl_in_eq]; rfl
  by_cases h1 : 0 ≤ a0 ∧ a0 ≤ 9999
  · rw [decide_eq_true h1] at hin1
    have hin2 := impl_in_eq a2 0 99
    have hs2 := spec_l1In_eq a2 0 99
    by_cases h2 : 0 ≤ a2 ∧ a2 ≤ 99
    · rw [decide_eq_true h2] at hin2 hs2
      obtain ⟨x, hx⟩ : ∃ x : S81, x = if a2 = 0 then ⟨1, 0, ⟨#[]⟩⟩ else ⟨3, a2, ⟨#[]⟩⟩ := ⟨_, rfl⟩
      obtain ⟨f, hf⟩ : ∃ f : Int, f = if a1 = true then 1 else 0 := ⟨_, rfl⟩
      obtain ⟨s, hi, hE⟩ := reply_right a0 a2 a1 h1.1 h1.2 h2.1 h2.2 x hx f hf
      have hfl : impl_flag.f a1 = some f := by unfold impl_flag.f; rw [hf]; split <;> rfl
      have hfs : spec_l2Bool.f a1 = some f := by unfold spec_l2Bool.f; rw [hf]; split <;> rfl
      have hI : Ev (fun k => impl_replyText.j0 k a0 a1 x.f0 x.f1 x.f2) (lb s) := by
        refine Ev.step (f := fun k => (impl_message.f k [[⟨4, 0, ⟨#[105, 100]⟩⟩, ⟨3, a0, ⟨#[]⟩⟩], [⟨4, 0, ⟨#[114, 101, 115, 117, 108, 116]⟩⟩, ⟨2, f, ⟨#[]⟩⟩], [⟨4, 0, ⟨#[101, 114, 114, 111, 114]⟩⟩, x]]).bind fun t => (impl_printed.f t).bind fun q => some q) (fun k => ?_) (ev_bind (message_ev _ _ _ _ _ _) (ev_bind0 hi (Ev.now _)))
        rw [impl_replyText.j0]
        unfold impl_textVal.f impl_numVal.f
        simp only [Option.bind_some, hfl]
      have hS : Ev (fun k => spec_l9Reply.j0 k a0 a1 x.f0 x.f1 x.f2) (lb s) := by
        refine Ev.step (f := fun k => (spec_l8Print.f k [⟨6, 3, ⟨#[]⟩⟩, ⟨4, 0, ⟨#[105, 100]⟩⟩, ⟨3, a0, ⟨#[]⟩⟩, ⟨4, 0, ⟨#[114, 101, 115, 117, 108, 116]⟩⟩, ⟨2, f, ⟨#[]⟩⟩, ⟨4, 0, ⟨#[101, 114, 114, 111, 114]⟩⟩, x] 0).bind fun t => some t) (fun k => ?_) (ev_bind hE (Ev.now _))
        rw [spec_l9Reply.j0]
        unfold spec_l9Text.f spec_l9Num.f
        simp only [Option.bind_some, hfs]
      refine ⟨0, lb s, ?_, ?_⟩
      · unfold spec_ReplyText.f
        refine ev_bind0 ((spec_l1In_eq a0 0 9999).trans (congrArg some (decide_eq_true h1))) (ev_if rfl (ev_bind0 hs2 (ev_if rfl (ev_bind (a := lb s) ?_ (Ev.now _)))))
        unfold spec_l9Reply.f
        by_cases hz : a2 = 0
        · rw [if_pos hz] at hx; subst hx; exact ev_if hz hS
        · rw [if_neg hz] at hx; subst hx; exact ev_ifn hz (ev_bind0 (a := (3, a2, ⟨#[]⟩)) rfl hS)
      · unfold impl_ReplyText.f
        refine ev_bind0 hin1 (ev_if rfl (ev_bind0 hin2 (ev_if rfl (ev_bind (a := lb s) ?_ (Ev.now _)))))
        unfold impl_replyText.f
        refine ev_bind0 (a := (3, a2, ⟨#[]⟩)) rfl ?_
        by_cases hz : a2 = 0
        · rw [if_pos hz] at hx; subst hx; exact ev_if hz hI
        · rw [if_neg hz] at hx; subst hx; exact ev_ifn hz hI
    · rw [decide_eq_false h2] at hin2 hs2
      refine ⟨3, ⟨#[]⟩, ?_, ?_⟩
      · unfold spec_ReplyText.f
        exact ev_bind0 ((spec_l1In_eq a0 0 9999).trans (congrArg some (decide_eq_true h1))) (ev_if rfl (ev_bind0 hs2 (ev_ifn (by decide) (Ev.now _))))
      · unfold impl_ReplyText.f
        exact ev_bind0 hin1 (ev_if rfl (ev_bind0 hin2 (ev_ifn (by decide) (Ev.now _))))
  · rw [decide_eq_false h1] at hin1
    refine ⟨3, ⟨#[]⟩, ?_, ?_⟩
    · unfold spec_ReplyText.f
      exact ev_bind0 ((spec_l1In_eq a0 0 9999).trans (congrArg some (decide_eq_false h1))) (ev_ifn (by decide) (Ev.now _))
    · unfold impl_ReplyText.f
      exact ev_bind0 hin1 (ev_ifn (by decide) (Ev.now _))

end Go.Proofs.YthjlbpgiaehjnaaDoor.Pure
