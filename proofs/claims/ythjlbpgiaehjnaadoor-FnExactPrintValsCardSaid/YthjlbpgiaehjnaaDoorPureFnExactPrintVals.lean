/- for every list of values that is not too long, PrintVals answers as the reference does and leaves its argument as it was. -/
import Derived.Test.YthjlbpgiaehjnaaDoorQFnExactPrintValsx1
import Derived.Test.YthjlbpgiaehjnaaDoorQFnExactPrintValsx2
import Derived.Test.YthjlbpgiaehjnaaDoorQFnExactPrintValsx3
import Derived.Test.YthjlbpgiaehjnaaDoorQFnExactPrintValsx4
import Derived.Test.YthjlbpgiaehjnaaDoorQFnExactPrintValsx5
import Derived.Test.YthjlbpgiaehjnaaDoorQFnExactPrintValsx6
import Derived.Test.YthjlbpgiaehjnaaDoorQFnExactPrintValsx7
import Derived.Test.YthjlbpgiaehjnaaDoorQFnExactPrintValsx8
import Derived.Test.YthjlbpgiaehjnaaDoorQFnExactPrintValsx9
import Derived.Test.YthjlbpgiaehjnaaDoorQFnExactPrintValsx10
import Derived.Test.YthjlbpgiaehjnaaDoorRFnExactPrintVals
namespace Go.Proofs.YthjlbpgiaehjnaaDoor.Pure
open Go.RowKit Go.Proofs.YthjlbpgiaehjnaaDoor.QFnExactPrintVals Go.Proofs.YthjlbpgiaehjnaaDoorW.PrintWords Go.Proofs.YthjlbpgiaehjnaaDoorW.PrintLast
set_option linter.unusedVariables false
set_option linter.unusedSimpArgs false

theorem wrap_id {x : Int} (h1 : -9223372036854775808 ≤ x) (h2 : x ≤ 9223372036854775807) : wrap64 x = x := by
  unfold wrap64; omega
theorem wf64 {x : Int} (h : (Lit.int .i64 x).wf = true) : -9223372036854775808 ≤ x ∧ x ≤ 9223372036854775807 := by
  simpa [Lit.wf, IntKind.min, IntKind.max, IntKind.signed, IntKind.bits] using h
theorem wf8 {x : Int} (h : (Lit.int .u8 x).wf = true) : 0 ≤ x ∧ x ≤ 255 := by
  simpa [Lit.wf, IntKind.min, IntKind.max, IntKind.signed, IntKind.bits] using h
theorem ev_some {α : Type} {g : Nat → Option α} {r : α} (h : ∀ k, g k = some r) : Ev g r := ⟨0, fun k _ => h k⟩
theorem ev_succ {α : Type} {g : Nat → Option α} {r : α} (h : ∀ k, g (k + 1) = some r) : Ev g r := Ev.step h (Ev.now r)
/-- A call whose answer is known, and what follows. -/
theorem ev_bind {α β : Type} {g : Nat → Option α} {f : α → Nat → Option β} {a : α} {r : β} (h : Ev g a) (k : Ev (f a) r) : Ev (fun n => (g n).bind fun t => f t n) r :=
  Ev.bind (f := fun n t => f t n) h k
theorem ev_if {α : Type} {p : Prop} [Decidable p] {g f : Nat → Option α} {r : α} (hp : p) (k : Ev g r) : Ev (fun n => if p then g n else f n) r :=
  Ev.congr (fun n => if_pos hp) k
theorem ev_ifn {α : Type} {p : Prop} [Decidable p] {g f : Nat → Option α} {r : α} (hp : ¬ p) (k : Ev f r) : Ev (fun n => if p then g n else f n) r :=
  Ev.congr (fun n => if_neg hp) k
theorem ev_bind0 {α β : Type} {g : Option α} {f : α → Nat → Option β} {a : α} {r : β} (h : g = some a) (k : Ev (f a) r) : Ev (fun n => g.bind fun t => f t n) r := by
  subst h; exact k
theorem rd_mid (pre : List Int) (b : Int) (suf : List Int) : rd (pre ++ b :: suf) (pre.length : Int) = b := by
  unfold rd
  simp
theorem rd_at {l : List Int} {i : Int} (h0 : 0 ≤ i) (h1 : i < l.length) : rd l i = l[i.toNat]'(by omega) := by
  unfold rd
  rw [List.getD_eq_getElem?_getD, List.getElem?_eq_getElem (by omega)]; rfl
theorem split_at_len {α : Type} (l : List α) (n : Nat) (h : n ≤ l.length) : ∃ pre suf, l = pre ++ suf ∧ pre.length = n :=
  ⟨l.take n, l.drop n, (List.take_append_drop n l).symm, by simp; omega⟩

theorem laws_szVal_some (a b : Int) (s : ByteArray) (q : Int) (h0 : 0 ≤ q) (h1 : q ≤ 1048576) (hs : s.size ≤ maxLen) : ∃ r, laws_szVal.f a b s q = some r ∧ r ≤ q ∧ (0 ≤ r → (s.size : Int) ≤ q) := by
  unfold laws_szVal.f
  unfold maxLen at hs
  rw [wrap_id (by omega) (by omega)]
  by_cases h : q - (s.size : Int) < 0
  · rw [if_pos h]; exact ⟨-1, rfl, by omega, by omega⟩
  · rw [if_neg h]; exact ⟨_, rfl, by omega, by omega⟩
theorem laws_szValS_l0 (suf : List S79) : ∀ (pre : List S79) (q : Int), 0 ≤ q → q ≤ 1048576 → (∀ x ∈ suf, x.f2.size ≤ maxLen) → (pre.length : Int) + suf.length ≤ 1048576 →
    ∃ r, Ev (fun k => laws_szValS.l0 k (pre ++ suf) q pre.length) r ∧ r ≤ q ∧ (0 ≤ r → ∀ x ∈ suf, (x.f2.size : Int) ≤ 1048576) := by
  induction suf with
  | nil => intro pre q h0 h1 _ _; exact ⟨q, ev_succ (fun k => by rw [laws_szValS.l0, if_neg (by simp)]), by omega, by simp⟩
  | cons b suf ih =>
    intro pre q h0 h1 hs hl
    simp only [List.length_cons, Int.natCast_add, Int.natCast_one] at hl
    have hrd : rd_T79 (pre ++ b :: suf) (pre.length : Int) = b := by unfold rd_T79; simp
    obtain ⟨r, hr, hr1, hr2⟩ := laws_szVal_some b.f0 b.f1 b.f2 q h0 h1 (hs b (by simp))
    by_cases hneg : r < 0
    · refine ⟨-1, ev_succ (fun k => ?_), by omega, by omega⟩
      rw [laws_szValS.l0, if_pos (by simp; omega), if_pos (by omega), hrd, hr]
      simp only [Option.bind_some]
      rw [if_pos hneg]
    · obtain ⟨r', h', h1', h2'⟩ := ih (pre ++ [b]) r (by omega) (by omega) (fun x hx => hs x (by simp [hx])) (by simp; omega)
      refine ⟨r', Ev.step (fun k => ?_) h', by omega, fun h x hx => ?_⟩
      · rw [laws_szValS.l0, if_pos (by simp; omega), if_pos (by omega), hrd, hr]
        simp only [Option.bind_some]
        rw [if_neg hneg, wrap_id (by omega) (by omega)]
        simp
      · rcases List.mem_cons.1 hx with rfl | hx
        · have := hr2 (by omega); omega
        · exact h2' h x hx
theorem laws_szValS_ev {l : List S79} (hl : l.length ≤ maxLen) (hs : ∀ x ∈ l, x.f2.size ≤ maxLen) (q : Int) (h0 : 0 ≤ q) (h1 : q ≤ 1048576) :
    ∃ r, Ev (fun k => laws_szValS.f k l q) r ∧ r ≤ q ∧ (0 ≤ r → l.length ≤ 1048576 ∧ ∀ x ∈ l, (x.f2.size : Int) ≤ 1048576) := by
  unfold maxLen at hl
  unfold laws_szValS.f
  rw [wrap_id (by omega) (by omega)]
  by_cases h : q - (l.length : Int) < 0
  · exact ⟨-1, ev_if h (Ev.now _), by omega, by omega⟩
  · obtain ⟨r, hr, h2, h3⟩ := laws_szValS_l0 l [] (q - (l.length : Int)) (by omega) (by omega) hs (by simp; omega)
    exact ⟨r, ev_ifn h (by simpa using hr), by omega, fun hh => ⟨by omega, h3 hh⟩⟩

def toV (x : S79) : S81 := ⟨x.f0, x.f1, x.f2⟩
theorem laws_toValS_l0 (suf : List S79) : ∀ (pre : List S79) (z : List S81), z.length = suf.length → (pre.length : Int) + suf.length ≤ 1048576 →
    Ev (fun k => laws_toValS.l0 k (pre ++ suf) (pre.map toV ++ z) pre.length) ((pre ++ suf).map toV) := by
  induction suf with
  | nil => intro pre z hz _; obtain rfl : z = [] := List.eq_nil_of_length_eq_zero (by simpa using hz); exact ev_succ (fun k => by rw [laws_toValS.l0, if_neg (by simp)]; simp)
  | cons b suf ih =>
    intro pre z hz hl
    obtain ⟨c, z, rfl⟩ : ∃ c z', z = c :: z' := by cases z with | nil => simp at hz | cons c z => exact ⟨c, z, rfl⟩
    simp only [List.length_cons, Int.natCast_add, Int.natCast_one] at hl hz
    have hrd : rd_T79 (pre ++ b :: suf) (pre.length : Int) = b := by unfold rd_T79; simp
    have h := ih (pre ++ [b]) z (by omega) (by simp; omega)
    refine Ev.step (fun k => ?_) (by simpa using h)
    rw [laws_toValS.l0, if_pos (by simp; omega), if_pos (by omega), hrd]
    unfold laws_toVal.f
    simp only [Option.bind_some]
    rw [if_pos (by simp; omega), wrap_id (by omega) (by omega)]
    simp [toV]
theorem laws_toValS_ev {l : List S79} (hl : l.length ≤ 1048576) : Ev (fun k => laws_toValS.f k l) (l.map toV) := by
  have h := laws_toValS_l0 l [] (List.replicate l.length z81) (by simp) (by simp; omega)
  unfold laws_toValS.f
  refine ev_if (by omega) (ev_if (by simp; omega) ?_)
  simpa using h

theorem laws_eqVal_refl (a b : Int) (s : ByteArray) : laws_eqVal.f a b s a b s = some true := by
  unfold laws_eqVal.f; simp
theorem laws_eqValS_l0 (suf : List S81) : ∀ (pre : List S81), (pre.length : Int) + suf.length ≤ 1048576 →
    Ev (fun k => laws_eqValS.l0 k (pre ++ suf) (pre ++ suf) pre.length) true := by
  induction suf with
  | nil => intro pre _; exact ev_succ (fun k => by rw [laws_eqValS.l0, if_neg (by simp)])
  | cons b suf ih =>
    intro pre hl
    simp only [List.length_cons, Int.natCast_add, Int.natCast_one] at hl
    have h := ih (pre ++ [b]) (by simp; omega)
    refine Ev.step (fun k => ?_) (by simpa using h)
    rw [laws_eqValS.l0, if_pos (by simp; omega), if_pos (by omega), if_pos (by simp; omega), laws_eqVal_refl]
    simp only [Option.bind_some, if_true]
    rw [wrap_id (by omega) (by omega)]
theorem laws_eqValS_refl {l : List S81} (hl : l.length ≤ 1048576) : Ev (fun k => laws_eqValS.f k l l) true := by
  unfold laws_eqValS.f
  exact ev_if rfl (laws_eqValS_l0 l [] (by simp; omega))

theorem bt_list (s : ByteArray) (i : Nat) (h : i < s.data.toList.length) : bt s (i : Int) = ((s.data.toList[i]).toNat : Int) := by
  have h' : i < s.size := by rw [Array.length_toList] at h; exact h
  have := bt_at s (i : Int) (by simpa using h')
  rw [← this]
  simp only [Int.toNat_natCast]
  rfl
theorem size_list (s : ByteArray) : (s.size : Int) = (s.data.toList.length : Int) := by rw [Array.length_toList]; rfl

theorem spec_l1In_eq (a b c : Int) : spec_l1In.f a b c = some (decide (b ≤ a ∧ a ≤ c)) := by
  unfold spec_l1In.f
  by_cases h : a ≥ b
  · rw [if_pos h]; congr 1; rw [Bool.eq_iff_iff]; simp; omega
  · rw [if_neg h]; congr 1; symm; simp; omega
theorem impl_in_eq (a b c : Int) : impl_in.f a b c = some (decide (b ≤ a ∧ a ≤ c)) := by
  unfold impl_in.f
  by_cases h : a ≥ b
  · rw [if_pos h]; congr 1; rw [Bool.eq_iff_iff]; simp; omega
  · rw [if_neg h]; congr 1; symm; simp; omega

theorem ba_toList_loop (b : ByteArray) : ∀ (n i : Nat) (r : List UInt8), b.data.toList.length - i = n → ByteArray.toList.loop b i r = r.reverse ++ b.data.toList.drop i := by
  obtain ⟨b⟩ := b
  intro n
  induction n with
  | zero =>
    intro i r h
    rw [ByteArray.toList.loop, if_neg (by show ¬ i < b.size; simp at h; omega), List.drop_eq_nil_of_le (by omega), List.append_nil]
  | succ n ih =>
    intro i r h
    have hi : i < b.toList.length := by have h' : b.toList.length - i = n + 1 := h; omega
    rw [ByteArray.toList.loop, if_pos (by show i < b.size; simpa using hi), ih (i + 1) _ (by omega), List.drop_eq_getElem_cons hi]
    have e : ByteArray.get! ⟨b⟩ i = b.toList[i] := by
      show b[i]! = _
      rw [getElem!_pos b i (by simpa using hi)]; simp
    rw [e]; simp
theorem ba_toList (b : ByteArray) : b.toList = b.data.toList := by
  unfold ByteArray.toList
  rw [ba_toList_loop b _ 0 [] rfl]; simp

def okc (c : UInt8) : Bool := decide (32 ≤ c.toNat ∧ c.toNat ≤ 126 ∧ c.toNat ≠ 34 ∧ c.toNat ≠ 92)
def textV (s : ByteArray) : Bool := decide (s.data.toList.length ≤ 40) && s.data.toList.all okc
theorem spec_l8Text_l0 (s : ByteArray) (hs : s.data.toList.length ≤ 1048576) : ∀ (n i : Nat), s.data.toList.length - i = n → i ≤ s.data.toList.length →
    Ev (fun k => spec_l8Text.l0 k s (i : Int)) (decide (s.data.toList.length ≤ 40) && (s.data.toList.drop i).all okc)
  | 0, i, hn, hi => by
    have el := size_list s
    rw [List.drop_eq_nil_of_le (by omega)]
    refine ev_succ fun k => ?_
    rw [spec_l8Text.l0, if_neg (by rw [el]; omega), el]
    congr 1
    simp
    omega
  | n + 1, i, hn, hi => by
    have el := size_list s
    have hlt : i < s.data.toList.length := by omega
    rw [List.drop_eq_getElem_cons hlt, List.all_cons]
    have hb := bt_list s i hlt
    generalize s.data.toList[i] = c at hb ⊢
    by_cases hc : okc c = true
    · have h := spec_l8Text_l0 s hs n (i + 1) (by omega) (by omega)
      rw [hc, Bool.true_and]
      refine Ev.step (fun k => ?_) h
      have hc' := of_decide_eq_true hc
      rw [spec_l8Text.l0, if_pos (by rw [el]; omega), if_pos (by omega), hb, if_neg (by omega), if_neg (by omega), if_neg (by omega), if_neg (by omega), wrap_id (by omega) (by omega)]; rfl
    · have hc1 := of_decide_eq_false (Bool.eq_false_iff.2 hc)
      rw [Bool.eq_false_iff.2 hc, Bool.false_and, Bool.and_false]
      refine ev_succ fun k => ?_
      rw [spec_l8Text.l0, if_pos (by rw [el]; omega), if_pos (by omega), hb]
      by_cases h1 : (c.toNat : Int) < 32
      · rw [if_pos h1]
      · rw [if_neg h1]
        by_cases h2 : (c.toNat : Int) > 126
        · rw [if_pos h2]
        · rw [if_neg h2]
          by_cases h3 : (c.toNat : Int) = 34
          · rw [if_pos h3]
          · rw [if_neg h3, if_pos (by omega)]
theorem spec_l8Text_ev {s : ByteArray} (hs : s.size ≤ 1048576) : Ev (fun k => spec_l8Text.f k s) (textV s) := by
  have el := size_list s
  exact spec_l8Text_l0 s (by omega) _ 0 rfl (by omega)
theorem impl_textOk_l0 (s : ByteArray) (hs : s.data.toList.length ≤ 40) : ∀ (n i : Nat), s.data.toList.length - i = n → i ≤ s.data.toList.length →
    Ev (fun k => impl_textOk.l0 k s (s.size : Int) (i : Int)) ((s.data.toList.drop i).all okc)
  | 0, i, hn, hi => by
    have el := size_list s
    rw [List.drop_eq_nil_of_le (by omega)]
    refine ev_succ fun k => ?_
    rw [impl_textOk.l0, if_neg (by rw [el]; omega)]; rfl
  | n + 1, i, hn, hi => by
    have el := size_list s
    have hlt : i < s.data.toList.length := by omega
    rw [List.drop_eq_getElem_cons hlt, List.all_cons]
    have hb := bt_list s i hlt
    generalize s.data.toList[i] = c at hb ⊢
    have h255 := c.toNat_lt
    by_cases hc : okc c = true
    · have h := impl_textOk_l0 s hs n (i + 1) (by omega) (by omega)
      rw [hc, Bool.true_and]
      refine Ev.step (fun k => ?_) h
      have hc' := of_decide_eq_true hc
      rw [impl_textOk.l0, if_pos (by rw [el]; omega), if_pos (by omega), if_pos (by rw [el]; omega), hb, wrap_id (x := (c.toNat : Int)) (by omega) (by omega), impl_in_eq, Option.bind_some, if_pos (decide_eq_true (by omega)), if_neg (by omega), if_neg (by omega), wrap_id (by omega) (by omega)]; rfl
    · have hc1 := of_decide_eq_false (Bool.eq_false_iff.2 hc)
      rw [Bool.eq_false_iff.2 hc, Bool.false_and]
      refine ev_succ fun k => ?_
      rw [impl_textOk.l0, if_pos (by rw [el]; omega), if_pos (by omega), if_pos (by rw [el]; omega), hb, wrap_id (x := (c.toNat : Int)) (by omega) (by omega), impl_in_eq, Option.bind_some]
      by_cases h1 : (32 : Int) ≤ (c.toNat : Int) ∧ (c.toNat : Int) ≤ 126
      · rw [if_pos (decide_eq_true h1)]
        by_cases h3 : (c.toNat : Int) = 34
        · rw [if_pos h3]
        · rw [if_neg h3, if_pos (by omega)]
      · rw [if_neg (by rw [decide_eq_false h1]; decide)]
theorem impl_textOk_ev (s : ByteArray) : Ev (fun k => impl_textOk.f k s) (textV s) := by
  have el := size_list s
  unfold impl_textOk.f textV
  by_cases h : (s.size : Int) > 40
  · rw [decide_eq_false (by omega)]
    exact ev_if h (Ev.now _)
  · rw [decide_eq_true (by omega), Bool.true_and]
    exact ev_ifn h (impl_textOk_l0 s (by omega) _ 0 rfl (by omega))
def numV (a b : Int) : Bool := if a = 1 ∨ a = 4 then decide (b = 0) else if a = 2 then decide (0 ≤ b ∧ b ≤ 1) else if a = 3 then decide (0 ≤ b ∧ b ≤ 2147483646) else decide (0 ≤ b ∧ b ≤ 20)
def badV (a b : Int) (s : ByteArray) : Bool := if 1 ≤ a ∧ a ≤ 6 then (if a = 4 then decide (b ≠ 0) else if s.toList = [] then (if a = 1 then decide (b ≠ 0) else false) else true) else true
/-- The code of a value by itself. -/
def oneV (x : S81) : Int := if badV x.f0 x.f1 x.f2 = true then 1 else if numV x.f0 x.f1 = true then (if textV x.f2 = true then 0 else 5) else 3
theorem spec_l8Num_ev (x : S81) : Ev (fun k => spec_l8Num.f k x.f0 x.f1 x.f2) (numV x.f0 x.f1) := by
  have hz : rd_T81 [x] 0 = x := rfl
  have h1 : (0 : Int) < (([x] : List S81).length : Int) := by simp
  unfold spec_l8Num.f spec_l8Num_in.f
  show Ev (fun k => if (0 : Int) < (([x] : List S81).length : Int) then (if (rd_T81 [x] 0).f0 = 1 then spec_l8Num_in.j0 k [x] (rd_T81 [x] 0).f0 ((rd_T81 [x] 0).f0 == 1) else spec_l8Num_in.j0 k [x] (rd_T81 [x] 0).f0 ((rd_T81 [x] 0).f0 == 4)) else none) _
  refine ev_if h1 ?_
  rw [hz]
  unfold numV
  by_cases c1 : x.f0 = 1
  · rw [if_pos (.inl c1)]
    refine ev_if c1 (ev_succ fun k => ?_)
    rw [spec_l8Num_in.j0, if_pos (beq_iff_eq.2 c1), if_pos h1, hz]; rfl
  · refine ev_ifn c1 (ev_succ fun k => ?_)
    rw [spec_l8Num_in.j0]
    by_cases c4 : x.f0 = 4
    · rw [if_pos (beq_iff_eq.2 c4), if_pos h1, hz, if_pos (.inr c4)]; rfl
    · rw [if_neg (show ¬ (x.f0 == 4) = true from fun h => c4 (beq_iff_eq.1 h)), if_neg (show ¬ (x.f0 = 1 ∨ x.f0 = 4) by omega)]
      by_cases c2 : x.f0 = 2
      · rw [if_pos c2, if_pos c2, if_pos h1, hz, spec_l1In_eq]; rfl
      · rw [if_neg c2, if_neg c2]
        by_cases c3 : x.f0 = 3
        · rw [if_pos c3, if_pos c3, if_pos h1, hz, spec_l1In_eq]; rfl
        · rw [if_neg c3, if_neg c3, if_pos h1, hz, spec_l1In_eq]; rfl
theorem spec_l8One_ev (x : S81) (hs : x.f2.size ≤ 1048576) : Ev (fun k => spec_l8One.f k x.f0 x.f1 x.f2) (oneV x) := by
  have hz : rd_T81 [x] 0 = x := rfl
  have h1 : (0 : Int) < (([x] : List S81).length : Int) := by simp
  have hj : Ev (fun k => spec_l8One_in.j0 k [x] (badV x.f0 x.f1 x.f2)) (oneV x) := by
    unfold oneV
    cases hb : badV x.f0 x.f1 x.f2 with
    | true => exact ev_succ fun k => by rw [spec_l8One_in.j0, if_pos rfl, if_pos rfl]
    | false =>
      rw [if_neg (by decide)]
      refine Ev.step (f := fun k => (spec_l8Num.f k x.f0 x.f1 x.f2).bind fun t => if t = true then (spec_l8Text.f k x.f2).bind fun t => if t = true then some 0 else some 5 else some 3) (fun k => ?_) (ev_bind (spec_l8Num_ev x) ?_)
      · rw [spec_l8One_in.j0, if_neg (by decide), if_pos h1, hz]
      · by_cases hn : numV x.f0 x.f1 = true
        · rw [if_pos hn]
          refine ev_if hn (ev_bind (spec_l8Text_ev hs) ?_)
          by_cases ht : textV x.f2 = true
          · rw [if_pos ht, if_pos ht]; exact Ev.now _
          · rw [if_neg ht, if_neg ht]; exact Ev.now _
        · rw [if_neg hn]; exact ev_ifn hn (Ev.now _)
  refine Ev.congr (fun k => ?_) hj
  unfold spec_l8One.f spec_l8One_in.f
  show (if (0 : Int) < (([x] : List S81).length : Int) then _ else none) = _
  rw [if_pos h1]
  show ((spec_l1In.f (rd_T81 [x] 0).f0 1 6).bind _) = _
  rw [hz, spec_l1In_eq, Option.bind_some]
  unfold badV
  by_cases c : 1 ≤ x.f0 ∧ x.f0 ≤ 6
  · rw [if_pos (decide_eq_true c), if_pos c]
    by_cases c4 : x.f0 = 4
    · rw [if_pos c4, if_pos c4, if_neg (by omega)]
      congr 1; apply Bool.eq_iff_iff.2; simp
    · rw [if_neg c4, if_neg c4]
      by_cases ct : x.f2.toList = []
      · rw [if_pos ct, if_pos ct]
        by_cases c1 : x.f0 = 1
        · rw [if_pos c1, if_pos c1]; congr 1; apply Bool.eq_iff_iff.2; simp
        · rw [if_neg c1, if_neg c1]
      · rw [if_neg ct, if_neg ct]
  · rw [if_neg (by rw [decide_eq_false c]; decide), if_neg c]
theorem impl_valFault_ev (x : S81) : Ev (fun k => impl_valFault.f k x.f0 x.f1 x.f2) (oneV x) := by
  have hj1 : ∀ most : Int, (badV x.f0 x.f1 x.f2 = false → numV x.f0 x.f1 = decide (0 ≤ x.f1 ∧ x.f1 ≤ most)) → Ev (fun k => impl_valFault.j0 k most x.f0 x.f1 x.f2) (oneV x) := by
    intro most hm
    have hj : Ev (fun k => impl_valFault.j1 k most (badV x.f0 x.f1 x.f2) x.f0 x.f1 x.f2) (oneV x) := by
      unfold oneV
      cases hb : badV x.f0 x.f1 x.f2 with
      | true => exact ev_succ fun k => by rw [impl_valFault.j1, if_pos rfl, if_pos rfl]
      | false =>
        rw [if_neg (by decide), hm hb]
        refine Ev.step (f := fun k => if decide (0 ≤ x.f1 ∧ x.f1 ≤ most) = true then (impl_textOk.f k x.f2).bind fun t => if t = true then some 0 else some 5 else some 3) (fun k => ?_) ?_
        · rw [impl_valFault.j1, if_neg (by decide), impl_in_eq, Option.bind_some]
        · by_cases hn : decide (0 ≤ x.f1 ∧ x.f1 ≤ most) = true
          · rw [if_pos hn]
            refine ev_if hn (ev_bind (impl_textOk_ev x.f2) ?_)
            by_cases ht : textV x.f2 = true
            · rw [if_pos ht, if_pos ht]; exact Ev.now _
            · rw [if_neg ht, if_neg ht]; exact Ev.now _
          · rw [if_neg hn]; exact ev_ifn hn (Ev.now _)
    refine Ev.step (fun k => ?_) hj
    rw [impl_valFault.j0, impl_in_eq, Option.bind_some]
    unfold badV
    by_cases c : 1 ≤ x.f0 ∧ x.f0 ≤ 6
    · rw [if_pos (decide_eq_true c), if_pos c]
      by_cases c4 : x.f0 = 4
      · rw [if_pos c4, if_pos c4, if_neg (by omega)]
        congr 1; apply Bool.eq_iff_iff.2; simp
      · rw [if_neg c4, if_neg c4]
        by_cases ct : x.f2.toList = []
        · rw [if_pos ct, if_pos ct]
          by_cases c1 : x.f0 = 1
          · rw [if_pos c1, if_pos c1]; congr 1; apply Bool.eq_iff_iff.2; simp
          · rw [if_neg c1, if_neg c1]
        · rw [if_neg ct, if_neg ct]
    · rw [if_neg (by rw [decide_eq_false c]; decide), if_neg c]
  unfold impl_valFault.f
  by_cases c2 : x.f0 = 2
  · refine ev_if c2 (hj1 1 fun _ => ?_)
    unfold numV; rw [if_neg (by omega), if_pos c2]
  · refine ev_ifn c2 ?_
    by_cases c3 : x.f0 = 3
    · refine ev_if c3 (hj1 _ fun _ => ?_)
      unfold numV; rw [if_neg (by omega), if_neg c2, if_pos c3]
    · refine ev_ifn c3 ?_
      by_cases c5 : x.f0 = 5
      · refine ev_if c5 (hj1 _ fun _ => ?_)
        unfold numV; rw [if_neg (by omega), if_neg c2, if_neg c3]
      · refine ev_ifn c5 ?_
        by_cases c6 : x.f0 = 6
        · refine ev_if c6 (hj1 _ fun _ => ?_)
          unfold numV; rw [if_neg (by omega), if_neg c2, if_neg c3]
        · refine ev_ifn c6 (hj1 _ fun hb => ?_)
          unfold badV at hb
          by_cases c : 1 ≤ x.f0 ∧ x.f0 ≤ 6
          · unfold numV; rw [if_pos (by omega)]; apply Bool.eq_iff_iff.2; rw [decide_eq_true_iff, decide_eq_true_iff]; omega
          · rw [if_neg c] at hb; cases hb
theorem oneV_fine {x : S81} (h : oneV x = 0) (hn : x.f0 = 5 ∨ x.f0 = 6) : 0 ≤ x.f1 ∧ x.f1 ≤ 20 := by
  unfold oneV at h
  by_cases hb : badV x.f0 x.f1 x.f2 = true
  · rw [if_pos hb] at h; cases h
  · rw [if_neg hb] at h
    by_cases h1 : numV x.f0 x.f1 = true
    · unfold numV at h1
      rw [if_neg (by omega), if_neg (by omega), if_neg (by omega)] at h1
      exact of_decide_eq_true h1
    · rw [if_neg h1] at h; cases h

/-- The value at a place, where there is one. -/
def vAt (l : List S81) (i : Nat) : S81 := rd_T81 l (i : Int)
def tx (l : List S81) (i : Nat) : List UInt8 := (vAt l i).f2.data.toList
/-- So many things one behind the other: the place behind them. -/
def endL (l : List S81) (E : Nat → Option Nat) (m : Bool) : Nat → Nat → Option Nat
  | 0, a => some a
  | c + 1, a => if m = true then (if a < l.length ∧ (vAt l a).f0 = 4 then (E (a + 1)).bind fun e => endL l E m c e else none) else (E a).bind fun e => endL l E m c e
def nest (x : S81) : Prop := x.f0 = 5 ∨ x.f0 = 6
instance (x : S81) : Decidable (nest x) := inferInstanceAs (Decidable (_ ∨ _))
def endF (l : List S81) : Nat → Nat → Option Nat
  | 0, _ => none
  | k + 1, a => if a < l.length then (if nest (vAt l a) then endL l (endF l k) (decide ((vAt l a).f0 = 6)) (vAt l a).f1.toNat (a + 1) else some (a + 1)) else none
theorem endL_congr (l : List S81) {E E' : Nat → Option Nat} (m : Bool) : ∀ (c a : Nat), (∀ b, a ≤ b → E b = E' b) → (∀ b e, E b = some e → b < e) → endL l E m c a = endL l E' m c a
  | 0, _, _, _ => rfl
  | c + 1, a, h, hu => by
    unfold endL
    cases m with
    | true =>
      rw [if_pos rfl, if_pos rfl]
      by_cases hc : a < l.length ∧ (vAt l a).f0 = 4
      · rw [if_pos hc, if_pos hc, ← h (a + 1) (by omega)]
        cases he : E (a + 1) with
        | none => rfl
        | some e => exact endL_congr l true c e (fun b hb => h b (by have := hu _ _ he; omega)) hu
      · rw [if_neg hc, if_neg hc]
    | false =>
      rw [if_neg (by decide), if_neg (by decide), ← h a (by omega)]
      cases he : E a with
      | none => rfl
      | some e => exact endL_congr l false c e (fun b hb => h b (by have := hu _ _ he; omega)) hu
theorem endL_up (l : List S81) {E : Nat → Option Nat} (m : Bool) (hu : ∀ b e, E b = some e → b < e ∧ e ≤ l.length) : ∀ (c a e : Nat), a ≤ l.length → endL l E m c a = some e → a ≤ e ∧ e ≤ l.length
  | 0, a, e, ha, h => by cases h; exact ⟨Nat.le_refl _, ha⟩
  | c + 1, a, e, ha, h => by
    unfold endL at h
    cases m with
    | true =>
      rw [if_pos rfl] at h
      by_cases hc : a < l.length ∧ (vAt l a).f0 = 4
      · rw [if_pos hc] at h
        obtain ⟨b, hb, h⟩ := Option.bind_eq_some_iff.mp h
        have := hu _ _ hb
        have := endL_up l true hu c b e (by omega) h
        omega
      · rw [if_neg hc] at h; cases h
    | false =>
      rw [if_neg (by decide)] at h
      obtain ⟨b, hb, h⟩ := Option.bind_eq_some_iff.mp h
      have := hu _ _ hb
      have := endL_up l false hu c b e (by omega) h
      omega
theorem endF_up (l : List S81) : ∀ (k a e : Nat), endF l k a = some e → a < e ∧ e ≤ l.length
  | 0, _, _, h => by simp [endF] at h
  | k + 1, a, e, h => by
    unfold endF at h
    by_cases ha : a < l.length
    · rw [if_pos ha] at h
      by_cases hn : nest (vAt l a)
      · rw [if_pos hn] at h
        have := endL_up l _ (endF_up l k) _ _ _ (by omega) h
        omega
      · rw [if_neg hn] at h; cases h; omega
    · rw [if_neg ha] at h; cases h
theorem endF_same (l : List S81) : ∀ (k k' a : Nat), l.length < k + a → l.length < k' + a → endF l k a = endF l k' a
  | 0, 0, _, _, _ => rfl
  | 0, k' + 1, a, h, _ => by unfold endF; rw [if_neg (by omega)]
  | k + 1, 0, a, _, h => by unfold endF; rw [if_neg (by omega)]
  | k + 1, k' + 1, a, h, h' => by
    unfold endF
    by_cases ha : a < l.length
    · rw [if_pos ha, if_pos ha]
      by_cases hn : nest (vAt l a)
      · rw [if_pos hn, if_pos hn]
        exact endL_congr l _ _ _ (fun b hb => endF_same l k k' b (by omega) (by omega)) (fun b e he => (endF_up l k b e he).1)
      · rw [if_neg hn, if_neg hn]
    · rw [if_neg ha, if_neg ha]
/-- The place behind the value at a place. -/
def endV (l : List S81) (a : Nat) : Option Nat := endF l (l.length + 1) a
theorem endV_up {l : List S81} {a e : Nat} (h : endV l a = some e) : a < e ∧ e ≤ l.length := endF_up l _ a e h
theorem endV_out {l : List S81} {a : Nat} (h : ¬ a < l.length) : endV l a = none := by unfold endV endF; rw [if_neg h]
theorem endV_one {l : List S81} {a : Nat} (h : a < l.length) (hn : ¬ nest (vAt l a)) : endV l a = some (a + 1) := by unfold endV endF; rw [if_pos h, if_neg hn]
theorem endV_nest {l : List S81} {a : Nat} (h : a < l.length) (hn : nest (vAt l a)) : endV l a = endL l (endV l) (decide ((vAt l a).f0 = 6)) (vAt l a).f1.toNat (a + 1) := by
  have e : endV l a = endL l (endF l l.length) (decide ((vAt l a).f0 = 6)) (vAt l a).f1.toNat (a + 1) := by
    show endF l (l.length + 1) a = _
    unfold endF; rw [if_pos h, if_pos hn]
  rw [e]
  exact endL_congr l _ _ _ (fun b hb => endF_same l _ _ b (by omega) (by omega)) (fun b e he => (endF_up l _ b e he).1)
theorem endL_map {l : List S81} {E : Nat → Option Nat} {c a : Nat} (h : a < l.length ∧ (vAt l a).f0 = 4) : endL l E true (c + 1) a = (E (a + 1)).bind fun e => endL l E true c e := by
  show (if true = true then (if a < l.length ∧ (vAt l a).f0 = 4 then (E (a + 1)).bind fun e => endL l E true c e else none) else (E a).bind fun e => endL l E true c e) = _
  rw [if_pos rfl, if_pos h]
theorem endL_map_no {l : List S81} {E : Nat → Option Nat} {c a : Nat} (h : ¬ (a < l.length ∧ (vAt l a).f0 = 4)) : endL l E true (c + 1) a = none := by
  show (if true = true then (if a < l.length ∧ (vAt l a).f0 = 4 then (E (a + 1)).bind fun e => endL l E true c e else none) else (E a).bind fun e => endL l E true c e) = _
  rw [if_pos rfl, if_neg h]
theorem endL_list {l : List S81} {E : Nat → Option Nat} {c a : Nat} : endL l E false (c + 1) a = (E a).bind fun e => endL l E false c e := rfl
/-- Has one of so many pairs a name that came before? -/
def twL (l : List S81) : Nat → Nat → (List UInt8 → Bool) → Bool
  | 0, _, _ => false
  | c + 1, a, seen => seen (tx l a) || twL l c ((endV l (a + 1)).getD 0) (fun s => tx l a == s || seen s)
/-- Has the map at a place two pairs of one name? -/
def twice (l : List S81) (a : Nat) : Bool := decide ((vAt l a).f0 = 6) && twL l (vAt l a).f1.toNat (a + 1) fun _ => false
def anyR (l : List S81) (a b : Nat) : Bool := (List.range' a (b - a)).any (twice l)
theorem anyR_self (l : List S81) (a : Nat) : anyR l a a = false := by simp [anyR]
theorem anyR_cons (l : List S81) {a b : Nat} (h : a < b) : anyR l a b = (twice l a || anyR l (a + 1) b) := by
  unfold anyR
  obtain ⟨n, rfl⟩ : ∃ n, b = a + (n + 1) := ⟨b - a - 1, by omega⟩
  rw [show a + (n + 1) - a = n + 1 by omega, show a + (n + 1) - (a + 1) = n by omega]
  simp [List.range'_succ]
theorem anyR_trans (l : List S81) {a b c : Nat} (h1 : a ≤ b) (h2 : b ≤ c) : anyR l a c = (anyR l a b || anyR l b c) := by
  unfold anyR
  rw [show c - a = (b - a) + (c - b) by omega, ← List.range'_append_1, List.any_append, show a + (b - a) = b by omega]
/-- Every map in a value is a value itself. -/
theorem endL_sub (l : List S81) (m : Bool) : ∀ (c a e : Nat), a ≤ l.length → (∀ b e', a ≤ b → endV l b = some e' → ∀ i, b ≤ i → i < e' → (vAt l i).f0 = 6 → (endV l i).isSome) → endL l (endV l) m c a = some e → ∀ i, a ≤ i → i < e → (vAt l i).f0 = 6 → (endV l i).isSome
  | 0, a, e, _, _, h, i, h1, h2, _ => by cases h; omega
  | c + 1, a, e, ha, ih, h, i, h1, h2, h6 => by
    cases m with
    | true =>
      by_cases hc : a < l.length ∧ (vAt l a).f0 = 4
      · rw [endL_map hc] at h
        obtain ⟨b, hb, h⟩ := Option.bind_eq_some_iff.mp h
        have hu := endV_up hb
        by_cases e1 : i = a
        · subst e1; rw [hc.2] at h6; exact absurd h6 (by decide)
        · by_cases e2 : i < b
          · exact ih (a + 1) b (by omega) hb i (by omega) e2 h6
          · exact endL_sub l true c b e hu.2 (fun b' e' hb' => ih b' e' (by omega)) h i (by omega) h2 h6
      · rw [endL_map_no hc] at h; cases h
    | false =>
      rw [endL_list] at h
      obtain ⟨b, hb, h⟩ := Option.bind_eq_some_iff.mp h
      have hu := endV_up hb
      by_cases e2 : i < b
      · exact ih a b (by omega) hb i (by omega) e2 h6
      · exact endL_sub l false c b e hu.2 (fun b' e' hb' => ih b' e' (by omega)) h i (by omega) h2 h6
theorem endV_sub (l : List S81) : ∀ (n a e : Nat), l.length - a ≤ n → endV l a = some e → ∀ i, a ≤ i → i < e → (vAt l i).f0 = 6 → (endV l i).isSome
  | 0, a, e, hn, h, _, _, _, _ => by have := endV_up h; omega
  | n + 1, a, e, hn, h, i, h1, h2, h6 => by
    have hu := endV_up h
    by_cases e1 : i = a
    · subst e1; rw [h]; rfl
    · by_cases hne : nest (vAt l a)
      · have h' := h
        rw [endV_nest (by omega) hne] at h'
        exact endL_sub l _ _ (a + 1) e (by omega) (fun b e' hb he' => endV_sub l n b e' (by omega) he') h' i (by omega) h2 h6
      · rw [endV_one (by omega) hne] at h; cases h; omega

/-- In how many lists and maps the deepest of so many things stands. -/
def depL (l : List S81) (D : Nat → Nat) (m : Bool) : Nat → Nat → Nat
  | 0, _ => 0
  | c + 1, a => max (1 + D (if m = true then a + 1 else a)) (depL l D m c ((endV l (if m = true then a + 1 else a)).getD l.length))
def depF (l : List S81) : Nat → Nat → Nat
  | 0, _ => 0
  | k + 1, a => if a < l.length then (if nest (vAt l a) then depL l (depF l k) (decide ((vAt l a).f0 = 6)) (vAt l a).f1.toNat (a + 1) else 0) else 0
theorem depL_congr (l : List S81) {D D' : Nat → Nat} (m : Bool) : ∀ (c a : Nat), a ≤ l.length → (∀ b, a ≤ b → D b = D' b) → depL l D m c a = depL l D' m c a
  | 0, _, _, _ => rfl
  | c + 1, a, ha, h => by
    unfold depL
    have hb : a ≤ (if m = true then a + 1 else a) := by split <;> omega
    rw [h _ hb]
    congr 1
    generalize (if m = true then a + 1 else a) = b at hb ⊢
    cases he : endV l b with
    | none => exact depL_congr l m c _ (Nat.le_refl _) (fun b hb => h b (by show a ≤ b; have : l.length ≤ b := hb; omega))
    | some e => have hu := endV_up he; exact depL_congr l m c e hu.2 (fun b hb => h b (by omega))
theorem depF_same (l : List S81) : ∀ (k k' a : Nat), l.length < k + a → l.length < k' + a → depF l k a = depF l k' a
  | 0, 0, _, _, _ => rfl
  | 0, k' + 1, a, h, _ => by unfold depF; rw [if_neg (by omega)]
  | k + 1, 0, a, _, h => by unfold depF; rw [if_neg (by omega)]
  | k + 1, k' + 1, a, h, h' => by
    unfold depF
    by_cases ha : a < l.length
    · rw [if_pos ha, if_pos ha]
      by_cases hn : nest (vAt l a)
      · rw [if_pos hn, if_pos hn]
        exact depL_congr l _ _ _ (by omega) (fun b hb => depF_same l k k' b (by omega) (by omega))
      · rw [if_neg hn, if_neg hn]
    · rw [if_neg ha, if_neg ha]
def depV (l : List S81) (a : Nat) : Nat := depF l (l.length + 1) a
theorem depV_one {l : List S81} {a : Nat} (hn : ¬ nest (vAt l a)) : depV l a = 0 := by
  unfold depV depF; by_cases h : a < l.length
  · rw [if_pos h, if_neg hn]
  · rw [if_neg h]
theorem depV_nest {l : List S81} {a : Nat} (h : a < l.length) (hn : nest (vAt l a)) : depV l a = depL l (depV l) (decide ((vAt l a).f0 = 6)) (vAt l a).f1.toNat (a + 1) := by
  have e : depV l a = depL l (depF l l.length) (decide ((vAt l a).f0 = 6)) (vAt l a).f1.toNat (a + 1) := by
    show depF l (l.length + 1) a = _
    unfold depF; rw [if_pos h, if_pos hn]
  rw [e]
  exact depL_congr l _ _ _ (by omega) (fun b hb => depF_same l _ _ b (by omega) (by omega))
theorem depL_map {l : List S81} {D : Nat → Nat} {c a b : Nat} (h : endV l (a + 1) = some b) : depL l D true (c + 1) a = max (1 + D (a + 1)) (depL l D true c b) := by
  show max (1 + D (a + 1)) (depL l D true c ((endV l (a + 1)).getD l.length)) = _
  rw [h]; rfl
theorem depL_list {l : List S81} {D : Nat → Nat} {c a b : Nat} (h : endV l a = some b) : depL l D false (c + 1) a = max (1 + D a) (depL l D false c b) := by
  show max (1 + D a) (depL l D false c ((endV l a).getD l.length)) = _
  rw [h]; rfl

def ei : Option Nat → Int
  | none => -1
  | some e => (e : Int)
def fine (l : List S81) : Prop := l.length ≤ 20 ∧ ∀ i, i < l.length → nest (vAt l i) → 0 ≤ (vAt l i).f1 ∧ (vAt l i).f1 ≤ 20
theorem spec_l8End_l0 (l : List S81) (x : S81) (hl : l.length ≤ 20) (hx : nest x) (h20 : x.f1 ≤ 20) : ∀ (c a i : Nat), (i : Int) + c = x.f1 → a ≤ l.length → (∀ b, a ≤ b → b ≤ l.length → Ev (fun k => spec_l8End.f k l (b : Int)) (ei (endV l b))) →
    Ev (fun k => spec_l8End.l0 k l (a : Int) (i : Int) x.f0 x.f1 x.f2) (ei (endL l (endV l) (decide (x.f0 = 6)) c a))
  | 0, a, i, hc, ha, ih => by
    refine Ev.step (f := fun k => spec_l8End.j2 k l (a : Int) (i : Int) false x.f0 x.f1 x.f2) (fun k => ?_) (ev_succ fun k => ?_)
    · rw [spec_l8End.l0, if_neg (by omega)]
    · rw [spec_l8End.j2, if_neg (by decide)]; rfl
  | c + 1, a, i, hc, ha, ih => by
    have h0 : Ev (fun k => spec_l8End.j2 k l (a : Int) (i : Int) true x.f0 x.f1 x.f2) (ei (endL l (endV l) (decide (x.f0 = 6)) (c + 1) a)) := by
      by_cases h6 : x.f0 = 6
      · rw [decide_eq_true h6]
        by_cases hin : a < l.length ∧ (vAt l a).f0 = 4
        · rw [endL_map hin]
          have hE := ih (a + 1) (by omega) (by omega)
          refine Ev.step (f := fun k => spec_l8End.j3 k l (a : Int) (i : Int) false x.f0 x.f1 x.f2) (fun k => ?_) ?_
          · rw [spec_l8End.j2, if_pos rfl, if_pos h6, if_neg (by omega), if_neg (by omega), if_pos (by omega), if_pos (by omega)]
            have e : ((rd_T81 l (a : Int)).f0 != 4) = false := bne_eq_false_iff_eq.2 hin.2
            rw [e]
          · cases hv : endV l (a + 1) with
            | none =>
              rw [hv] at hE
              change Ev _ (-1 : Int) at hE
              refine Ev.step (f := fun k => (spec_l8End.f k l ((a + 1 : Nat) : Int)).bind fun t => if t < 0 then some (-1) else spec_l8End.l0 k l t (wrap64 ((i : Int) + 1)) x.f0 x.f1 x.f2) (fun k => ?_) (ev_bind hE (ev_if (by decide) (Ev.now _)))
              rw [spec_l8End.j3, if_neg (by decide), wrap_id (x := (a : Int) + 1) (by omega) (by omega)]; rfl
            | some e =>
              rw [hv] at hE
              change Ev _ (e : Int) at hE
              have hu := endV_up hv
              have hr := spec_l8End_l0 l x hl hx h20 c e (i + 1) (by omega) hu.2 (fun b hb => ih b (by omega))
              rw [decide_eq_true h6] at hr
              refine Ev.step (f := fun k => (spec_l8End.f k l ((a + 1 : Nat) : Int)).bind fun t => if t < 0 then some (-1) else spec_l8End.l0 k l t ((i + 1 : Nat) : Int) x.f0 x.f1 x.f2) (fun k => ?_) (ev_bind hE (ev_ifn (by omega) hr))
              rw [spec_l8End.j3, if_neg (by decide), wrap_id (x := (a : Int) + 1) (by omega) (by omega), wrap_id (x := (i : Int) + 1) (by omega) (by omega)]; rfl
        · rw [endL_map_no hin]
          refine Ev.step (f := fun k => spec_l8End.j3 k l (a : Int) (i : Int) true x.f0 x.f1 x.f2) (fun k => ?_) (ev_succ fun k => by rw [spec_l8End.j3, if_pos rfl]; rfl)
          rw [spec_l8End.j2, if_pos rfl, if_pos h6, if_neg (by omega)]
          by_cases hge : (a : Int) ≥ (l.length : Int)
          · rw [if_pos hge]
          · rw [if_neg hge, if_pos (by omega), if_pos (by omega)]
            have e : ((rd_T81 l (a : Int)).f0 != 4) = true := bne_iff_ne.2 (fun h4 => hin ⟨by omega, h4⟩)
            rw [e]
      · rw [decide_eq_false h6, endL_list]
        have hE := ih a (by omega) (by omega)
        cases hv : endV l a with
        | none =>
          rw [hv] at hE
          change Ev _ (-1 : Int) at hE
          refine Ev.step (f := fun k => (spec_l8End.f k l (a : Int)).bind fun t => if t < 0 then some (-1) else spec_l8End.l0 k l t (wrap64 ((i : Int) + 1)) x.f0 x.f1 x.f2) (fun k => ?_) (ev_bind hE (ev_if (by decide) (Ev.now _)))
          rw [spec_l8End.j2, if_pos rfl, if_neg h6]
        | some e =>
          rw [hv] at hE
          change Ev _ (e : Int) at hE
          have hu := endV_up hv
          have hr := spec_l8End_l0 l x hl hx h20 c e (i + 1) (by omega) hu.2 (fun b hb => ih b (by omega))
          rw [decide_eq_false h6] at hr
          refine Ev.step (f := fun k => (spec_l8End.f k l (a : Int)).bind fun t => if t < 0 then some (-1) else spec_l8End.l0 k l t ((i + 1 : Nat) : Int) x.f0 x.f1 x.f2) (fun k => ?_) (ev_bind hE (ev_ifn (by omega) hr))
          rw [spec_l8End.j2, if_pos rfl, if_neg h6, wrap_id (x := (i : Int) + 1) (by omega) (by omega)]; rfl
    refine Ev.step (fun k => ?_) h0
    rw [spec_l8End.l0, if_pos (by omega)]
    by_cases h5 : x.f0 = 5
    · rw [if_pos h5]
    · rw [if_neg h5, show (x.f0 == 6) = true from beq_iff_eq.2 (hx.resolve_left h5)]
theorem spec_l8End_ev {l : List S81} (hl : fine l) : ∀ (n a : Nat), l.length - a < n → a ≤ l.length → Ev (fun k => spec_l8End.f k l (a : Int)) (ei (endV l a))
  | 0, a, hn, _ => absurd hn (by omega)
  | n + 1, a, hn, ha => by
    by_cases hin : a < l.length
    · have h0 : Ev (fun k => spec_l8End.l0 k l ((a + 1 : Nat) : Int) 0 (vAt l a).f0 (vAt l a).f1 (vAt l a).f2) (ei (endV l a)) := by
        by_cases hne : nest (vAt l a)
        · have h2 := hl.2 a hin hne
          rw [endV_nest hin hne]
          exact spec_l8End_l0 l (vAt l a) hl.1 hne h2.2 _ (a + 1) 0 (by omega) (by omega) (fun b hb hb2 => spec_l8End_ev hl n b (by omega) hb2)
        · rw [endV_one hin hne]
          refine Ev.step (f := fun k => spec_l8End.j2 k l ((a + 1 : Nat) : Int) 0 false (vAt l a).f0 (vAt l a).f1 (vAt l a).f2) (fun k => ?_) (ev_succ fun k => ?_)
          · rw [spec_l8End.l0]
            by_cases h1 : 0 < (vAt l a).f1
            · rw [if_pos h1, if_neg (fun h => hne (.inl h)), show ((vAt l a).f0 == 6) = false from beq_eq_false_iff_ne.2 (fun h => hne (.inr h))]
            · rw [if_neg h1]
          · rw [spec_l8End.j2, if_neg (by decide)]; rfl
      refine Ev.step (f := fun k => spec_l8End.j0 k l (a : Int) false) (fun k => ?_) (Ev.step (fun k => ?_) h0)
      · rw [spec_l8End.f, if_neg (by omega), decide_eq_false (by omega)]
      · rw [spec_l8End.j0, if_neg (by decide), if_pos (by omega), if_pos (by omega), wrap_id (by have := hl.1; omega) (by have := hl.1; omega)]; rfl
    · rw [endV_out hin]
      refine Ev.step (f := fun k => spec_l8End.j0 k l (a : Int) true) (fun k => ?_) (ev_succ fun k => by rw [spec_l8End.j0, if_pos rfl]; rfl)
      rw [spec_l8End.f, if_neg (by omega), decide_eq_true (by omega)]
theorem spec_l8End_at {l : List S81} (hl : fine l) {a : Nat} (ha : a ≤ l.length) : Ev (fun k => spec_l8End.f k l (a : Int)) (ei (endV l a)) := spec_l8End_ev hl _ a (Nat.lt_succ_self _) ha
/-- The inner loop of l8Twice. -/
theorem spec_l8Twice_l1 (l : List S81) (m p j : Nat) (i : Int) (hp : p < l.length) (hl : l.length ≤ 20) (names : List ByteArray) (hn : names.length ≤ 1000) (r : Bool)
    (hin : (names.any fun y => y.data.toList == tx l p) = true → r = true)
    (hno : (names.any fun y => y.data.toList == tx l p) = false → Ev (fun k => (spec_l8End.f k l ((p + 1 : Nat) : Int)).bind fun t => spec_l8Twice.l0 k l (m : Int) (names ++ [(vAt l p).f2]) t (wrap64 (i + 1))) r) :
    ∀ (n j : Nat), names.length - j = n → j ≤ names.length → ((names.take j).any fun y => y.data.toList == tx l p) = false → Ev (fun k => spec_l8Twice.l1 k l (m : Int) names (p : Int) i (j : Int)) r
  | 0, j, hj, hj2, ht => by
    rw [List.take_of_length_le (by omega)] at ht
    refine Ev.step (fun k => ?_) (hno ht)
    rw [spec_l8Twice.l1, if_neg (by omega), if_pos (by omega), if_pos (by omega), if_pos (by omega), wrap_id (x := (p : Int) + 1) (by omega) (by omega)]; rfl
  | n + 1, j, hj, hj2, ht => by
    have hlt : j < names.length := by omega
    have hrd : rdOf ByteArray.empty names (j : Int) = names[j] := by
      unfold rdOf; simp [hlt]
    by_cases he : names[j].data.toList = tx l p
    · have hr : r = true := hin (List.any_eq_true.2 ⟨names[j], List.getElem_mem _, beq_iff_eq.2 he⟩)
      subst hr
      refine ev_succ fun k => ?_
      rw [spec_l8Twice.l1, if_pos (by omega), if_pos (by omega), if_pos (by omega), if_pos (by omega), hrd, ba_toList, ba_toList]
      exact if_pos he
    · have hr := spec_l8Twice_l1 l m p j i hp hl names hn r hin hno n (j + 1) (by omega) (by omega) (by
        rw [List.take_add_one, List.getElem?_eq_getElem hlt]
        simp only [Option.toList_some, List.any_append, ht, Bool.false_or, List.any_cons, List.any_nil, Bool.or_false]
        exact beq_eq_false_iff_ne.2 he)
      refine Ev.step (fun k => ?_) hr
      rw [spec_l8Twice.l1, if_pos (by omega), if_pos (by omega), if_pos (by omega), if_pos (by omega), hrd, ba_toList, ba_toList]
      refine (if_neg he).trans ?_
      rw [wrap_id (by omega) (by omega)]; rfl
theorem spec_l8Twice_l0 {l : List S81} (hl : fine l) (m : Nat) (hm : m < l.length) : ∀ (c a i : Nat) (names : List ByteArray) (seen : List UInt8 → Bool), (i : Int) + c = (vAt l m).f1 → a ≤ l.length → (vAt l m).f1 ≤ 20 → names.length = i → (∀ s, (names.any fun y => y.data.toList == s) = seen s) → (endL l (endV l) true c a).isSome →
    Ev (fun k => spec_l8Twice.l0 k l (m : Int) names (a : Int) (i : Int)) (twL l c a seen)
  | 0, a, i, names, seen, hc, ha, h20, hn, hs, _ => by
    refine ev_succ fun k => ?_
    rw [spec_l8Twice.l0, if_pos (by omega), if_pos (by omega)]
    exact if_neg (by show ¬ (i : Int) < (vAt l m).f1; omega)
  | c + 1, a, i, names, seen, hc, ha, h20, hn, hs, hsome => by
    have hin : a < l.length ∧ (vAt l a).f0 = 4 := by
      by_cases hin : a < l.length ∧ (vAt l a).f0 = 4
      · exact hin
      · rw [endL_map_no hin] at hsome; cases hsome
    rw [endL_map hin] at hsome
    cases hv : endV l (a + 1) with
    | none => rw [hv] at hsome; cases hsome
    | some e =>
      rw [hv] at hsome
      have hu := endV_up hv
      have hE := spec_l8End_at hl (a := a + 1) (by omega)
      rw [hv] at hE
      change Ev _ (e : Int) at hE
      have hh := hl.1
      have hr := spec_l8Twice_l0 hl m hm c e (i + 1) (names ++ [(vAt l a).f2]) (fun s => tx l a == s || seen s) (by omega) hu.2 h20 (by simp [hn]) (fun s => by
        rw [List.any_append, hs s]; simp only [List.any_cons, List.any_nil, Bool.or_false]; exact Bool.or_comm _ _) hsome
      have h1 := spec_l8Twice_l1 l m a 0 (i : Int) hin.1 hl.1 names (by omega) (twL l (c + 1) a seen) (fun h => by
          rw [hs] at h; unfold twL; rw [h]; rfl) (fun h => by
          have e1 : twL l (c + 1) a seen = twL l c e (fun s => tx l a == s || seen s) := by
            rw [hs] at h
            show (seen (tx l a) || twL l c ((endV l (a + 1)).getD 0) fun s => tx l a == s || seen s) = _
            rw [h, hv]; rfl
          rw [e1, wrap_id (x := (i : Int) + 1) (by omega) (by omega)]
          exact ev_bind hE hr) names.length 0 (by omega) (by omega) (by simp)
      refine Ev.step (fun k => ?_) h1
      rw [spec_l8Twice.l0, if_pos (by omega), if_pos (by omega)]
      exact if_pos (by show (i : Int) < (vAt l m).f1; omega)
theorem spec_l8Twice_ev {l : List S81} (hl : fine l) {m : Nat} (hm : m < l.length) (h6 : (vAt l m).f0 = 6) (hs : (endV l m).isSome) : Ev (fun k => spec_l8Twice.f k l (m : Int)) (twice l m) := by
  have h2 := hl.2 m hm (.inr h6)
  have hh := hl.1
  rw [endV_nest hm (.inr h6), decide_eq_true h6] at hs
  unfold spec_l8Twice.f twice
  rw [wrap_id (by omega) (by omega), decide_eq_true h6, Bool.true_and]
  exact spec_l8Twice_l0 hl m hm _ (m + 1) 0 [] _ (by omega) (by omega) h2.2 rfl (fun s => rfl) hs

theorem spec_l1Max_eq (a b : Nat) : spec_l1Max.f (a : Int) (b : Int) = some ((max a b : Nat) : Int) := by
  unfold spec_l1Max.f
  by_cases h : (a : Int) > (b : Int)
  · rw [if_pos h]; congr 1; omega
  · rw [if_neg h]; congr 1; omega
/-- What is said of a value that ends at e. -/
def Told (l : List S81) (a e : Nat) : Prop := ∃ dd : Nat, dd = depV l a ∧ dd ≤ l.length - a ∧ Ev (fun k => spec_l8Deep.f k l (a : Int)) (dd : Int) ∧
  ∀ (t m : Bool) (d F : Nat), 30 * (l.length - a) + 30 ≤ F → d + (l.length - a) ≤ 1000 → valueV F l false t m (a : Int) (d : Int) = some ((e : Int), false, t || anyR l a e, m || decide (4 < d + dd))
theorem told_loop {l : List S81} (hl : fine l) (x : S81) (hx : nest x) (h20 : x.f1 ≤ 20) : ∀ (c a i e : Nat) (names : List ByteArray) (seen : List UInt8 → Bool), (i : Int) + c = x.f1 → a ≤ l.length → (∀ b e', a ≤ b → endV l b = some e' → Told l b e') →
    endL l (endV l) (decide (x.f0 = 6)) c a = some e → names.length ≤ i → (∀ s, (names.any fun y => y.data.toList == s) = seen s) →
    ∃ dd : Nat, dd = depL l (depV l) (decide (x.f0 = 6)) c a ∧ dd ≤ l.length - a + 1 ∧ (∀ acc : Nat, acc ≤ 1000 → Ev (fun k => spec_l8Deep.l0 k l (acc : Int) (a : Int) (i : Int) x.f0 x.f1 x.f2) ((max acc dd : Nat) : Int)) ∧
    ∀ (t m : Bool) (d F : Nat), 30 * (l.length - a) + 32 + c ≤ F → d + 1 + (l.length - a) ≤ 1000 → valueL F l x false t m (a : Int) (d : Int) names (i : Int) = some ((e : Int), false, (t || (decide (x.f0 = 6) && twL l c a seen)) || anyR l a e, m || (decide (0 < dd) && decide (4 < d + dd)))
  | 0, a, i, e, names, seen, hc, ha, ih, he, hn, hs => by
    cases he
    refine ⟨0, rfl, by omega, fun acc _ => ?_, fun t m d F hF hd => ?_⟩
    · refine Ev.step (f := fun k => spec_l8Deep.j1 k l (acc : Int) (a : Int) (i : Int) false x.f0 x.f1 x.f2) (fun k => ?_) (ev_succ fun k => ?_)
      · rw [spec_l8Deep.l0, if_neg (by omega)]
      · rw [spec_l8Deep.j1, if_neg (by decide)]; simp
    · obtain ⟨F, rfl⟩ : ∃ G, F = G + 1 := ⟨F - 1, by omega⟩
      have h1 := hl.1
      rw [valueL, if_pos ⟨by omega, by omega, by omega⟩, if_neg (by omega), anyR_self]
      simp [twL]
  | c + 1, a, i, e, names, seen, hc, ha, ih, he, hn, hs => by
    have h1 := hl.1
    by_cases h6 : x.f0 = 6
    · rw [decide_eq_true h6] at he ⊢
      have hin : a < l.length ∧ (vAt l a).f0 = 4 := by
        by_cases hin : a < l.length ∧ (vAt l a).f0 = 4
        · exact hin
        · rw [endL_map_no hin] at he; cases he
      rw [endL_map hin] at he
      obtain ⟨b, hb, he⟩ := Option.bind_eq_some_iff.mp he
      have hu := endV_up hb
      obtain ⟨d1, hq1, hd1, hD1, hV1⟩ := ih (a + 1) b (by omega) hb
      have he2 : endL l (endV l) (decide (x.f0 = 6)) c b = some e := by rw [decide_eq_true h6]; exact he
      obtain ⟨d2, hq2, hd2, hD2, hV2⟩ := told_loop hl x hx h20 c b (i + 1) e ((vAt l a).f2 :: names) (fun s => tx l a == s || seen s) (by omega) hu.2 (fun b' e' hb' => ih b' e' (by omega)) he2 (by simp; omega) (fun s => by
        rw [List.any_cons, hs s]; rfl)
      have hup := endL_up l true (E := endV l) (fun b e h => endV_up h) c b e hu.2 he
      refine ⟨max (1 + d1) d2, (by rw [decide_eq_true h6] at hq2; rw [depL_map hb, hq1, hq2]), by omega, fun acc hacc => ?_, fun t m d F hF hd => ?_⟩
      · have hE := spec_l8End_at hl (a := a + 1) (by omega)
        rw [hb] at hE
        change Ev _ (b : Int) at hE
        have hr := hD2 (max acc (1 + d1)) (by omega)
        rw [show max (max acc (1 + d1)) d2 = max acc (max (1 + d1) d2) by omega] at hr
        refine Ev.step (f := fun k => spec_l8Deep.j1 k l (acc : Int) (a : Int) (i : Int) true x.f0 x.f1 x.f2) (fun k => ?_) (Ev.step (f := fun k => (spec_l8Deep.f k l ((a + 1 : Nat) : Int)).bind fun t136 => (spec_l1Max.f (acc : Int) (wrap64 (1 + t136))).bind fun t137 => (spec_l8End.f k l ((a + 1 : Nat) : Int)).bind fun t138 => spec_l8Deep.l0 k l t137 t138 ((i + 1 : Nat) : Int) x.f0 x.f1 x.f2) (fun k => ?_) (ev_bind hD1 ?_))
        · rw [spec_l8Deep.l0, if_pos (by omega), if_neg (by omega), show (x.f0 == 6) = true from beq_iff_eq.2 h6]
        · rw [spec_l8Deep.j1, if_pos rfl, if_pos h6, wrap_id (x := (a : Int) + 1) (by omega) (by omega), wrap_id (x := (i : Int) + 1) (by omega) (by omega)]; rfl
        · rw [wrap_id (by omega) (by omega)]
          refine ev_bind0 (a := ((max acc (1 + d1) : Nat) : Int)) ?_ (ev_bind hE hr)
          have := spec_l1Max_eq acc (1 + d1)
          rw [show (1 : Int) + (d1 : Int) = ((1 + d1 : Nat) : Int) by omega]; exact this
      · obtain ⟨F, rfl⟩ : ∃ G, F = G + 1 := ⟨F - 1, by omega⟩
        have v1 := hV1 (t || seen (tx l a)) (m || decide (4 < d + 1)) (d + 1) F (by omega) (by omega)
        have v2 := hV2 ((t || seen (tx l a)) || anyR l (a + 1) b) ((m || decide (4 < d + 1)) || decide (4 < d + 1 + d1)) d F (by omega) (by omega)
        rw [decide_eq_true h6] at v2
        have e4 : decide (4 < (d : Int) + 1) = decide (4 < d + 1) := by apply Bool.eq_iff_iff.2; rw [decide_eq_true_iff, decide_eq_true_iff]; omega
        rw [valueL, if_pos ⟨by omega, by omega, by omega⟩, if_pos (by omega), if_pos h6, if_pos ⟨by omega, by omega⟩, if_neg (by simp; omega), if_pos (show (rd_T81 l (a : Int)).f0 = 4 from hin.2)]
        rw [show (names.any fun y => y.data.toList == (rd_T81 l (a : Int)).f2.data.toList) = seen (tx l a) from hs _, e4]
        rw [show (a : Int) + 1 = ((a + 1 : Nat) : Int) by omega, show (d : Int) + 1 = ((d + 1 : Nat) : Int) by omega, v1]
        refine Eq.trans (show _ = valueL F l x false ((t || seen (tx l a)) || anyR l (a + 1) b) ((m || decide (4 < d + 1)) || decide (4 < d + 1 + d1)) (b : Int) (d : Int) ((vAt l a).f2 :: names) ((i : Int) + 1) from rfl) ?_
        rw [show (i : Int) + 1 = ((i + 1 : Nat) : Int) by omega, v2]
        have et : ((t || seen (tx l a) || anyR l (a + 1) b || (true && twL l c b fun s => tx l a == s || seen s)) || anyR l b e) = ((t || (true && twL l (c + 1) a seen)) || anyR l a e) := by
          have e5 : twL l (c + 1) a seen = (seen (tx l a) || twL l c b fun s => tx l a == s || seen s) := by
            show (seen (tx l a) || twL l c ((endV l (a + 1)).getD 0) fun s => tx l a == s || seen s) = _
            rw [hb]; rfl
          have e6 : twice l a = false := by unfold twice; rw [hin.2]; rfl
          rw [e5, anyR_cons l (show a < e by omega), e6, anyR_trans l (show a + 1 ≤ b by omega) hup.1]
          generalize twL l c b (fun s => tx l a == s || seen s) = q1
          generalize anyR l (a + 1) b = q2
          generalize anyR l b e = q3
          generalize seen (tx l a) = q4
          clear v1 v2
          revert t q1 q2 q3 q4; decide
        have en : ((m || decide (4 < d + 1)) || decide (4 < d + 1 + d1) || (decide (0 < d2) && decide (4 < d + d2))) = (m || (decide (0 < max (1 + d1) d2) && decide (4 < d + max (1 + d1) d2))) := by
          cases m with
          | true => simp
          | false =>
            apply Bool.eq_iff_iff.2
            simp only [Bool.false_or, Bool.or_eq_true, Bool.and_eq_true, decide_eq_true_iff]
            omega
        rw [et, en]
    · have hx5 : x.f0 = 5 := hx.resolve_right h6
      rw [decide_eq_false h6] at he ⊢
      rw [endL_list] at he
      obtain ⟨b, hb, he⟩ := Option.bind_eq_some_iff.mp he
      have hu := endV_up hb
      obtain ⟨d1, hq1, hd1, hD1, hV1⟩ := ih a b (by omega) hb
      have he2 : endL l (endV l) (decide (x.f0 = 6)) c b = some e := by rw [decide_eq_false h6]; exact he
      obtain ⟨d2, hq2, hd2, hD2, hV2⟩ := told_loop hl x hx h20 c b (i + 1) e names seen (by omega) hu.2 (fun b' e' hb' => ih b' e' (by omega)) he2 (by omega) hs
      have hup := endL_up l false (E := endV l) (fun b e h => endV_up h) c b e hu.2 he
      refine ⟨max (1 + d1) d2, (by rw [decide_eq_false h6] at hq2; rw [depL_list hb, hq1, hq2]), by omega, fun acc hacc => ?_, fun t m d F hF hd => ?_⟩
      · have hE := spec_l8End_at hl (a := a) (by omega)
        rw [hb] at hE
        change Ev _ (b : Int) at hE
        have hr := hD2 (max acc (1 + d1)) (by omega)
        rw [show max (max acc (1 + d1)) d2 = max acc (max (1 + d1) d2) by omega] at hr
        refine Ev.step (f := fun k => spec_l8Deep.j1 k l (acc : Int) (a : Int) (i : Int) true x.f0 x.f1 x.f2) (fun k => ?_) (Ev.step (f := fun k => (spec_l8Deep.f k l (a : Int)).bind fun t136 => (spec_l1Max.f (acc : Int) (wrap64 (1 + t136))).bind fun t137 => (spec_l8End.f k l (a : Int)).bind fun t138 => spec_l8Deep.l0 k l t137 t138 ((i + 1 : Nat) : Int) x.f0 x.f1 x.f2) (fun k => ?_) (ev_bind hD1 ?_))
        · rw [spec_l8Deep.l0, if_pos (by omega), if_pos hx5]
        · rw [spec_l8Deep.j1, if_pos rfl, if_neg h6, wrap_id (x := (i : Int) + 1) (by omega) (by omega)]; rfl
        · rw [wrap_id (by omega) (by omega)]
          refine ev_bind0 (a := ((max acc (1 + d1) : Nat) : Int)) ?_ (ev_bind hE hr)
          have := spec_l1Max_eq acc (1 + d1)
          rw [show (1 : Int) + (d1 : Int) = ((1 + d1 : Nat) : Int) by omega]; exact this
      · obtain ⟨F, rfl⟩ : ∃ G, F = G + 1 := ⟨F - 1, by omega⟩
        have v1 := hV1 t m (d + 1) F (by omega) (by omega)
        have v2 := hV2 (t || anyR l a b) (m || decide (4 < d + 1 + d1)) d F (by omega) (by omega)
        rw [decide_eq_false h6] at v2
        rw [valueL, if_pos ⟨by omega, by omega, by omega⟩, if_pos (by omega), if_neg h6]
        rw [show (d : Int) + 1 = ((d + 1 : Nat) : Int) by omega, v1]
        refine Eq.trans (show _ = valueL F l x false (t || anyR l a b) (m || decide (4 < d + 1 + d1)) (b : Int) (d : Int) names ((i : Int) + 1) from rfl) ?_
        rw [show (i : Int) + 1 = ((i + 1 : Nat) : Int) by omega, v2]
        have et : ((t || anyR l a b || (false && twL l c b seen)) || anyR l b e) = ((t || (false && twL l (c + 1) a seen)) || anyR l a e) := by
          rw [anyR_trans l (show a ≤ b by omega) hup.1]
          simp only [Bool.false_and, Bool.or_false]
          exact Bool.or_assoc _ _ _
        have en : (m || decide (4 < d + 1 + d1) || (decide (0 < d2) && decide (4 < d + d2))) = (m || (decide (0 < max (1 + d1) d2) && decide (4 < d + max (1 + d1) d2))) := by
          cases m with
          | true => simp
          | false =>
            apply Bool.eq_iff_iff.2
            simp only [Bool.false_or, Bool.or_eq_true, Bool.and_eq_true, decide_eq_true_iff]
            omega
        rw [et, en]
theorem told {l : List S81} (hl : fine l) : ∀ (n a e : Nat), l.length - a < n → endV l a = some e → Told l a e
  | 0, a, e, hn, _ => absurd hn (by omega)
  | n + 1, a, e, hn, he => by
    have hu := endV_up he
    have h1 := hl.1
    have hin : a < l.length := by omega
    by_cases hne : nest (vAt l a)
    · have h2 := hl.2 a hin hne
      have he' := he
      rw [endV_nest hin hne] at he'
      obtain ⟨dd, hq, hdd, hD, hV⟩ := told_loop hl (vAt l a) hne h2.2 _ (a + 1) 0 e [] (fun _ => false) (by omega) (by omega) (fun b e' hb he' => told hl n b e' (by omega) he') he' (by simp) (fun s => rfl)
      refine ⟨dd, (by rw [depV_nest hin hne, hq]), by omega, ?_, fun t m d F hF hd => ?_⟩
      · have hD0 := hD 0 (by omega)
        rw [Nat.zero_max] at hD0
        refine Ev.step (fun k => ?_) hD0
        rw [spec_l8Deep.f, if_pos (by omega), if_pos (by omega), wrap_id (by omega) (by omega)]; rfl
      · obtain ⟨F, rfl⟩ : ∃ G, F = G + 1 := ⟨F - 1, by omega⟩
        have v := hV t (m || decide (4 < (d : Int))) d F (by omega) (by omega)
        rw [valueV, if_pos ⟨by omega, by omega, by omega, by omega, by omega⟩, if_neg (by simp; omega), if_pos (show (rd_T81 l (a : Int)).f0 = 5 ∨ (rd_T81 l (a : Int)).f0 = 6 from hne)]
        refine Eq.trans (show _ = valueL F l (vAt l a) false t (m || decide (4 < (d : Int))) ((a + 1 : Nat) : Int) (d : Int) [] ((0 : Nat) : Int) from rfl) ?_
        rw [v]
        have et : ((t || (decide ((vAt l a).f0 = 6) && twL l (vAt l a).f1.toNat (a + 1) fun _ => false)) || anyR l (a + 1) e) = (t || anyR l a e) := by
          rw [anyR_cons l hu.1]; exact Bool.or_assoc _ _ _
        have en : (m || decide (4 < (d : Int)) || (decide (0 < dd) && decide (4 < d + dd))) = (m || decide (4 < d + dd)) := by
          cases m with
          | true => simp
          | false =>
            apply Bool.eq_iff_iff.2
            simp only [Bool.false_or, Bool.or_eq_true, Bool.and_eq_true, decide_eq_true_iff]
            omega
        rw [et, en]
    · rw [endV_one hin hne] at he
      cases he
      refine ⟨0, (depV_one hne).symm, by omega, ?_, fun t m d F hF hd => ?_⟩
      · refine Ev.step (f := fun k => spec_l8Deep.l0 k l 0 ((a + 1 : Nat) : Int) 0 (vAt l a).f0 (vAt l a).f1 (vAt l a).f2) (fun k => ?_) (Ev.step (f := fun k => spec_l8Deep.j1 k l 0 ((a + 1 : Nat) : Int) 0 false (vAt l a).f0 (vAt l a).f1 (vAt l a).f2) (fun k => ?_) (ev_succ fun k => ?_))
        · rw [spec_l8Deep.f, if_pos (by omega), if_pos (by omega), wrap_id (by omega) (by omega)]; rfl
        · rw [spec_l8Deep.l0]
          by_cases h1 : 0 < (vAt l a).f1
          · rw [if_pos h1, if_neg (fun h => hne (.inl h)), show ((vAt l a).f0 == 6) = false from beq_eq_false_iff_ne.2 (fun h => hne (.inr h))]
          · rw [if_neg h1]
        · rw [spec_l8Deep.j1, if_neg (by decide)]; rfl
      · obtain ⟨F, rfl⟩ : ∃ G, F = G + 1 := ⟨F - 1, by omega⟩
        rw [valueV, if_pos ⟨by omega, by omega, by omega, by omega, by omega⟩, if_neg (by simp; omega), if_neg (show ¬ ((rd_T81 l (a : Int)).f0 = 5 ∨ (rd_T81 l (a : Int)).f0 = 6) from hne)]
        have e6 : twice l a = false := by unfold twice; rw [decide_eq_false (fun h => hne (.inr h))]; rfl
        rw [anyR_cons l (show a < a + 1 by omega), anyR_self, e6]
        have e4 : decide (4 < (d : Int)) = decide (4 < d + 0) := by apply Bool.eq_iff_iff.2; rw [decide_eq_true_iff, decide_eq_true_iff]; omega
        rw [e4]
        simp
/-- Where the form is wrong. -/
theorem valueV_true {l : List S81} {a d : Int} {t m : Bool} (F : Nat) (h : 0 ≤ a ∧ a ≤ l.length ∧ 0 ≤ d ∧ d ≤ 1000000 ∧ l.length ≤ 1000000) : valueV (F + 1) l true t m a d = some (a, true, t, m) := by
  rw [valueV, if_pos h, if_pos (.inl rfl)]
theorem valueL_true {l : List S81} (x : S81) {a d : Int} {t m : Bool} (names : List ByteArray) (h : 0 ≤ a ∧ a ≤ l.length ∧ 0 ≤ d ∧ d + 1 ≤ 1000000 ∧ l.length ≤ 1000000) (hn : names.length ≤ 1000000) : ∀ (c i F : Nat), x.f1 ≤ i + c → i + c ≤ 1000000 → c + 2 ≤ F → valueL F l x true t m a d names (i : Int) = some (a, true, t, m)
  | c, i, 0, _, _, hF => absurd hF (by omega)
  | c, i, F + 1, hc, hic, hF => by
    rw [valueL, if_pos ⟨by omega, by omega, hn⟩]
    by_cases hi : (i : Int) < x.f1
    · rw [if_pos hi]
      by_cases h6 : x.f0 = 6
      · rw [if_pos h6, if_pos ⟨h.1, h.2.1⟩, if_pos (.inl rfl)]
      · rw [if_neg h6]
        obtain ⟨F, rfl⟩ : ∃ G, F = G + 1 := ⟨F - 1, by omega⟩
        rw [valueV_true F ⟨h.1, h.2.1, by omega, h.2.2.2.1, h.2.2.2.2⟩]
        cases c with
        | zero => omega
        | succ c =>
          rw [Option.bind_some, show (i : Int) + 1 = ((i + 1 : Nat) : Int) by omega]
          exact valueL_true x names h hn c (i + 1) (F + 1) (by omega) (by omega) (by omega)
    · rw [if_neg hi]
/-- What is said of a place where no value begins. -/
def Wrong (l : List S81) (a : Nat) : Prop :=
  ∀ (t m : Bool) (d F : Nat), 30 * (l.length - a) + 30 ≤ F → d + (l.length - a) ≤ 1000 → ∃ (q : Nat) (t' m' : Bool), q ≤ l.length ∧ valueV F l false t m (a : Int) (d : Int) = some ((q : Int), true, t', m')
theorem wrong_loop {l : List S81} (hl : fine l) (x : S81) (hx : nest x) (h20 : x.f1 ≤ 20) : ∀ (c a i : Nat) (names : List ByteArray), (i : Int) + c = x.f1 → a ≤ l.length → (∀ b, a ≤ b → b ≤ l.length → endV l b = none → Wrong l b) →
    endL l (endV l) (decide (x.f0 = 6)) c a = none → names.length ≤ i →
    ∀ (t m : Bool) (d F : Nat), 30 * (l.length - a) + 62 + c ≤ F + 30 → d + 1 + (l.length - a) ≤ 1000 → ∃ (q : Nat) (t' m' : Bool), q ≤ l.length ∧ valueL F l x false t m (a : Int) (d : Int) names (i : Int) = some ((q : Int), true, t', m')
  | 0, a, i, names, hc, ha, ih, he, hn, t, m, d, F, hF, hd => by cases he
  | c + 1, a, i, names, hc, ha, ih, he, hn, t, m, d, F, hF, hd => by
    have h1 := hl.1
    obtain ⟨F, rfl⟩ : ∃ G, F = G + 1 := ⟨F - 1, by omega⟩
    rw [valueL, if_pos ⟨by omega, by omega, by omega⟩, if_pos (by omega)]
    by_cases h6 : x.f0 = 6
    · rw [if_pos h6, if_pos ⟨by omega, by omega⟩]
      rw [decide_eq_true h6] at he
      by_cases ho : (l.length : Int) ≤ (a : Int)
      · rw [if_pos (.inr ho)]
        exact ⟨a, t, m, ha, rfl⟩
      · rw [if_neg (by simp; omega)]
        by_cases h4 : (vAt l a).f0 = 4
        · rw [if_pos (show (rd_T81 l (a : Int)).f0 = 4 from h4)]
          rw [endL_map ⟨by omega, h4⟩] at he
          generalize (t || names.any fun y => y.data.toList == (rd_T81 l (a : Int)).f2.data.toList) = t1
          generalize (m || decide (4 < (d : Int) + 1)) = m1
          rw [show (a : Int) + 1 = ((a + 1 : Nat) : Int) by omega, show (d : Int) + 1 = ((d + 1 : Nat) : Int) by omega, show (i : Int) + 1 = ((i + 1 : Nat) : Int) by omega]
          cases hb : endV l (a + 1) with
          | none =>
            obtain ⟨q, t2, m2, hq, e⟩ := ih (a + 1) (by omega) (by omega) hb t1 m1 (d + 1) F (by omega) (by omega)
            rw [e]
            exact ⟨q, t2, m2, hq, valueL_true x _ ⟨by omega, by omega, by omega, by omega, by omega⟩ (by simp; omega) c (i + 1) F (by omega) (by omega) (by omega)⟩
          | some b =>
            rw [hb] at he
            have hu := endV_up hb
            obtain ⟨d1, _, hd1, hD1, hV1⟩ := told hl _ (a + 1) b (Nat.lt_succ_self _) hb
            rw [hV1 t1 m1 (d + 1) F (by omega) (by omega)]
            exact wrong_loop hl x hx h20 c b (i + 1) _ (by omega) hu.2 (fun b' hb' => ih b' (by omega)) (by rw [decide_eq_true h6]; exact he) (by simp; omega) _ _ d F (by omega) (by omega)
        · rw [if_neg (show ¬ (rd_T81 l (a : Int)).f0 = 4 from h4)]
          exact ⟨a, t, m, ha, rfl⟩
    · rw [if_neg h6]
      rw [decide_eq_false h6, endL_list] at he
      rw [show (d : Int) + 1 = ((d + 1 : Nat) : Int) by omega, show (i : Int) + 1 = ((i + 1 : Nat) : Int) by omega]
      cases hb : endV l a with
      | none =>
        obtain ⟨q, t2, m2, hq, e⟩ := ih a (by omega) (by omega) hb t m (d + 1) F (by omega) (by omega)
        rw [e]
        exact ⟨q, t2, m2, hq, valueL_true x _ ⟨by omega, by omega, by omega, by omega, by omega⟩ (by omega) c (i + 1) F (by omega) (by omega) (by omega)⟩
      | some b =>
        rw [hb] at he
        have hu := endV_up hb
        obtain ⟨d1, _, hd1, hD1, hV1⟩ := told hl _ a b (Nat.lt_succ_self _) hb
        rw [hV1 t m (d + 1) F (by omega) (by omega)]
        exact wrong_loop hl x hx h20 c b (i + 1) _ (by omega) hu.2 (fun b' hb' => ih b' (by omega)) (by rw [decide_eq_false h6]; exact he) (by omega) _ _ d F (by omega) (by omega)
theorem wrong {l : List S81} (hl : fine l) : ∀ (n a : Nat), l.length - a < n → a ≤ l.length → endV l a = none → Wrong l a
  | 0, a, hn, _, _ => absurd hn (by omega)
  | n + 1, a, hn, ha, he => by
    intro t m d F hF hd
    have h1 := hl.1
    obtain ⟨F, rfl⟩ : ∃ G, F = G + 1 := ⟨F - 1, by omega⟩
    rw [valueV, if_pos ⟨by omega, by omega, by omega, by omega, by omega⟩]
    by_cases hin : a < l.length
    · rw [if_neg (by simp; omega)]
      by_cases hne : nest (vAt l a)
      · have h2 := hl.2 a hin hne
        rw [if_pos (show (rd_T81 l (a : Int)).f0 = 5 ∨ (rd_T81 l (a : Int)).f0 = 6 from hne)]
        rw [endV_nest hin hne] at he
        exact wrong_loop hl (vAt l a) hne h2.2 _ (a + 1) 0 [] (by omega) (by omega) (fun b hb hb2 he' => wrong hl n b (by omega) hb2 he') he (by simp) t _ d F (by omega) (by omega)
      · rw [endV_one hin hne] at he; cases he
    · rw [if_pos (.inr (by omega))]
      exact ⟨a, t, m, ha, rfl⟩

def codeL : List S81 → Int
  | [] => 0
  | x :: r => if oneV x = 0 then codeL r else oneV x
theorem codeL_fine {l : List S81} (h : codeL l = 0) : ∀ x ∈ l, oneV x = 0 := by
  induction l with
  | nil => simp
  | cons y r ih =>
    unfold codeL at h
    by_cases h1 : oneV y = 0
    · rw [if_pos h1] at h
      intro x hx
      rcases List.mem_cons.1 hx with rfl | hx
      · exact h1
      · exact ih h x hx
    · rw [if_neg h1] at h; exact absurd h h1
theorem fine_of {l : List S81} (hl : l.length ≤ 20) (h : codeL l = 0) : fine l := by
  refine ⟨hl, fun i hi hn => oneV_fine (codeL_fine h _ ?_) hn⟩
  unfold vAt rd_T81
  rw [List.getD_eq_getElem?_getD, List.getElem?_eq_getElem (by omega)]
  exact List.getElem_mem _
theorem spec_l8Fault_l0 (suf : List S81) : ∀ (pre : List S81) (r : Int), (pre.length : Int) + suf.length ≤ 1048576 → (∀ x ∈ suf, x.f2.size ≤ 1048576) → (codeL suf ≠ 0 → r = codeL suf) →
    (codeL suf = 0 → Ev (fun k => (spec_l8End.f k (pre ++ suf) 0).bind fun t => if t = ((pre ++ suf).length : Int) then spec_l8Fault.l1 k (pre ++ suf) 0 else some 1) r) → Ev (fun k => spec_l8Fault.l0 k (pre ++ suf) pre.length) r := by
  induction suf with
  | nil =>
    intro pre r hl hs h1 h2
    refine Ev.step (fun k => ?_) (h2 rfl)
    rw [spec_l8Fault.l0, if_neg (by simp)]
  | cons b suf ih =>
    intro pre r hl hs h1 h2
    simp only [List.length_cons, Int.natCast_add, Int.natCast_one] at hl
    have hrd : rd_T81 (pre ++ b :: suf) (pre.length : Int) = b := by unfold rd_T81; simp
    have hstep : ∀ k, spec_l8Fault.l0 (k + 1) (pre ++ b :: suf) pre.length = (spec_l8One.f k b.f0 b.f1 b.f2).bind fun t => if t = 0 then spec_l8Fault.l0 k (pre ++ b :: suf) ((pre.length : Int) + 1) else some t := by
      intro k
      rw [spec_l8Fault.l0, if_pos (by simp; omega), if_pos (by omega), hrd, wrap_id (by omega) (by omega)]
    refine Ev.step hstep (ev_bind (spec_l8One_ev b (hs b (by simp))) ?_)
    by_cases h0 : oneV b = 0
    · have ec : codeL (b :: suf) = codeL suf := if_pos h0
      rw [ec] at h1 h2
      have h := ih (pre ++ [b]) r (by simp; omega) (fun x hx => hs x (by simp [hx])) h1 (by simpa using h2)
      refine ev_if h0 ?_
      simpa using h
    · have ec : codeL (b :: suf) = oneV b := if_neg h0
      rw [ec] at h1
      rw [h1 h0]
      exact ev_ifn h0 (Ev.now _)
theorem impl_ValsFault_l0 (suf : List S81) : ∀ (pre : List S81) (r : Int), (pre.length : Int) + suf.length ≤ 1048576 → (codeL suf ≠ 0 → r = codeL suf) →
    (codeL suf = 0 → ((impl_structure_value.f (pre ++ suf) false false false 0 0).bind fun q => if q.2.1 = true then some 1 else if q.1 = ((pre ++ suf).length : Int) then (if q.2.2.1 = true then some 6 else if q.2.2.2 = true then some 2 else some 0) else some 1) = some r) → Ev (fun k => impl_ValsFault.l0 k (pre ++ suf) pre.length) r := by
  induction suf with
  | nil =>
    intro pre r hl h1 h2
    refine ev_succ fun k => ?_
    rw [impl_ValsFault.l0, if_neg (by simp)]
    exact h2 rfl
  | cons b suf ih =>
    intro pre r hl h1 h2
    simp only [List.length_cons, Int.natCast_add, Int.natCast_one] at hl
    have hrd : rd_T81 (pre ++ b :: suf) (pre.length : Int) = b := by unfold rd_T81; simp
    have hstep : ∀ k, impl_ValsFault.l0 (k + 1) (pre ++ b :: suf) pre.length = (impl_valFault.f k b.f0 b.f1 b.f2).bind fun t => if t = 0 then impl_ValsFault.l0 k (pre ++ b :: suf) ((pre.length : Int) + 1) else some t := by
      intro k
      rw [impl_ValsFault.l0, if_pos (by simp; omega), if_pos (by omega), hrd, wrap_id (by omega) (by omega)]
    refine Ev.step hstep (ev_bind (impl_valFault_ev b) ?_)
    by_cases h0 : oneV b = 0
    · have ec : codeL (b :: suf) = codeL suf := if_pos h0
      rw [ec] at h1 h2
      have h := ih (pre ++ [b]) r (by simp; omega) h1 (by simpa using h2)
      refine ev_if h0 ?_
      simpa using h
    · have ec : codeL (b :: suf) = oneV b := if_neg h0
      rw [ec] at h1
      rw [h1 h0]
      exact ev_ifn h0 (Ev.now _)
theorem spec_l8Fault_l1 {l : List S81} (hl : fine l) (he : endV l 0 = some l.length) (dd : Nat) (hd : Ev (fun k => spec_l8Deep.f k l 0) (dd : Int)) : ∀ (n i : Nat), l.length - i = n → i ≤ l.length →
    Ev (fun k => spec_l8Fault.l1 k l (i : Int)) (if anyR l i l.length = true then 6 else if 4 < dd then 2 else 0)
  | 0, i, hn, hi => by
    obtain rfl : i = l.length := by omega
    rw [anyR_self, if_neg (by decide)]
    refine Ev.step (f := fun k => (spec_l8Deep.f k l 0).bind fun t => if t > 4 then some 2 else some 0) (fun k => ?_) (ev_bind hd ?_)
    · rw [spec_l8Fault.l1, if_neg (by omega)]
    · by_cases h : 4 < dd
      · rw [if_pos h]; exact ev_if (by omega) (Ev.now _)
      · rw [if_neg h]; exact ev_ifn (by omega) (Ev.now _)
  | n + 1, i, hn, hi => by
    have h1 := hl.1
    have ih := spec_l8Fault_l1 hl he dd hd n (i + 1) (by omega) (by omega)
    rw [anyR_cons l (show i < l.length by omega)]
    by_cases h6 : (vAt l i).f0 = 6
    · have hT := spec_l8Twice_ev hl (m := i) (by omega) h6 (endV_sub l _ 0 _ (Nat.le_refl _) he i (by omega) (by omega) h6)
      refine Ev.step (f := fun k => (spec_l8Twice.f k l (i : Int)).bind fun t => if t = true then some 6 else spec_l8Fault.l1 k l ((i + 1 : Nat) : Int)) (fun k => ?_) (ev_bind hT ?_)
      · rw [spec_l8Fault.l1, if_pos (by omega), if_pos (by omega), if_pos (show (rd_T81 l (i : Int)).f0 = 6 from h6), wrap_id (by omega) (by omega)]; rfl
      · cases ht : twice l i with
        | true => exact ev_if rfl (Ev.now _)
        | false => exact ev_ifn (by decide) ih
    · have e6 : twice l i = false := by unfold twice; rw [decide_eq_false h6]; rfl
      rw [e6, Bool.false_or]
      refine Ev.step (fun k => ?_) ih
      rw [spec_l8Fault.l1, if_pos (by omega), if_pos (by omega), if_neg (show ¬ (rd_T81 l (i : Int)).f0 = 6 from h6), wrap_id (by omega) (by omega)]; rfl
/-- What ValsFault answers. -/
def valsV (l : List S81) : Int := if 1 ≤ (l.length : Int) ∧ (l.length : Int) ≤ 20 then (if codeL l = 0 then (if endV l 0 = some l.length then (if anyR l 0 l.length = true then 6 else if 4 < depV l 0 then 2 else 0) else 1) else codeL l) else 2
theorem valsV_0 {l : List S81} (h : valsV l = 0) : fine l ∧ 0 < l.length ∧ codeL l = 0 ∧ endV l 0 = some l.length ∧ anyR l 0 l.length = false ∧ depV l 0 ≤ 4 := by
  unfold valsV at h
  by_cases h1 : 1 ≤ (l.length : Int) ∧ (l.length : Int) ≤ 20
  · rw [if_pos h1] at h
    by_cases h2 : codeL l = 0
    · rw [if_pos h2] at h
      by_cases h3 : endV l 0 = some l.length
      · rw [if_pos h3] at h
        by_cases h4 : anyR l 0 l.length = true
        · rw [if_pos h4] at h; cases h
        · rw [if_neg h4] at h
          by_cases h5 : 4 < depV l 0
          · rw [if_pos h5] at h; cases h
          · exact ⟨fine_of (by omega) h2, by omega, h2, h3, Bool.eq_false_iff.2 h4, by omega⟩
      · rw [if_neg h3] at h; cases h
    · rw [if_neg h2] at h; exact absurd h h2
  · rw [if_neg h1] at h; cases h
theorem valsV_of {l : List S81} (h0 : 0 < l.length) (h20 : l.length ≤ 20) (h2 : codeL l = 0) (h3 : endV l 0 = some l.length) (h4 : anyR l 0 l.length = false) (h5 : depV l 0 ≤ 4) : valsV l = 0 := by
  unfold valsV
  rw [if_pos (by omega), if_pos h2, if_pos h3, if_neg (by rw [h4]; decide), if_neg (by omega)]
theorem valsFault_evs {l : List S81} (hlen : l.length ≤ 1048576) (hs : ∀ x ∈ l, x.f2.size ≤ 1048576) : Ev (fun k => spec_l8Fault.f k l) (valsV l) ∧ Ev (fun k => impl_ValsFault.f k l) (valsV l) := by
  have hin := impl_in_eq (l.length : Int) 1 20
  unfold valsV
  by_cases hl : 1 ≤ (l.length : Int) ∧ (l.length : Int) ≤ 20
  · rw [decide_eq_true hl] at hin
    rw [if_pos hl]
    suffices h : ∀ r, r = (if codeL l = 0 then (if endV l 0 = some l.length then (if anyR l 0 l.length = true then (6 : Int) else if 4 < depV l 0 then 2 else 0) else 1) else codeL l) → Ev (fun k => spec_l8Fault.l0 k l 0) r ∧ Ev (fun k => impl_ValsFault.l0 k l 0) r by
      obtain ⟨h1, h2⟩ := h _ rfl
      refine ⟨?_, ?_⟩
      · unfold spec_l8Fault.f
        refine ev_ifn (by omega) ?_
        rw [decide_eq_false (show ¬ (l.length : Int) > 20 by omega)]
        exact Ev.step (fun k => by rw [spec_l8Fault.j0, if_neg (by decide)]) h1
      · unfold impl_ValsFault.f
        exact ev_bind0 hin (ev_if rfl h2)
    intro r hr
    by_cases hc : codeL l = 0
    · rw [if_pos hc] at hr
      have hf := fine_of (by omega) hc
      have hsz : ∀ x ∈ l, x.f2.size ≤ maxLen := fun x hx => by have := hs x hx; unfold maxLen; omega
      have hE := spec_l8End_at hf (a := 0) (by omega)
      cases he : endV l 0 with
      | none =>
        rw [he] at hE
        change Ev _ (-1 : Int) at hE
        rw [he, if_neg (by simp)] at hr
        subst hr
        refine ⟨spec_l8Fault_l0 l [] 1 (by simp; omega) hs (fun h => absurd hc h) (fun _ => ev_bind hE (ev_ifn (by simp) (Ev.now _))), impl_ValsFault_l0 l [] 1 (by simp; omega) (fun h => absurd hc h) (fun _ => ?_)⟩
        obtain ⟨q, t', m', _, e⟩ := wrong hf _ 0 (Nat.lt_succ_self _) (by omega) he false false 0 100000 (by omega) (by omega)
        have e2 : impl_structure_value.f ([] ++ l) false false false 0 0 = some ((q : Int), true, t', m') := by
          unfold impl_structure_value.f; rw [List.nil_append, if_pos hsz]; exact e
        rw [e2]; rfl
      | some e =>
        rw [he] at hE
        change Ev _ (e : Int) at hE
        obtain ⟨dd, hq, hdd, hD, hV⟩ := told hf _ 0 e (Nat.lt_succ_self _) he
        have e1 := hV false false 0 100000 (by omega) (by omega)
        have e2 : impl_structure_value.f ([] ++ l) false false false 0 0 = some ((e : Int), false, anyR l 0 e, decide (4 < dd)) := by
          unfold impl_structure_value.f; rw [List.nil_append, if_pos hsz]
          refine e1.trans ?_
          rw [Bool.false_or, Bool.false_or, Nat.zero_add]
        by_cases hle : e = l.length
        · subst hle
          rw [he, if_pos rfl, ← hq] at hr
          subst hr
          refine ⟨spec_l8Fault_l0 l [] _ (by simp; omega) hs (fun h => absurd hc h) (fun _ => ev_bind hE (ev_if (by simp) (spec_l8Fault_l1 hf he dd hD _ 0 rfl (by omega)))), impl_ValsFault_l0 l [] _ (by simp; omega) (fun h => absurd hc h) (fun _ => ?_)⟩
          rw [e2, Option.bind_some, if_neg (by simp), if_pos (by simp)]
          by_cases h1 : anyR l 0 l.length = true
          · rw [if_pos h1, if_pos h1]
          · rw [if_neg h1, if_neg h1]
            by_cases h2 : 4 < dd
            · rw [if_pos (decide_eq_true h2), if_pos h2]
            · rw [if_neg (by rw [decide_eq_false h2]; simp), if_neg h2]
        · rw [he, if_neg (by simp [hle])] at hr
          subst hr
          refine ⟨spec_l8Fault_l0 l [] 1 (by simp; omega) hs (fun h => absurd hc h) (fun _ => ev_bind hE (ev_ifn (by simp; omega) (Ev.now _))), impl_ValsFault_l0 l [] 1 (by simp; omega) (fun h => absurd hc h) (fun _ => ?_)⟩
          rw [e2, Option.bind_some, if_neg (by simp), if_neg (by simp; omega)]
    · rw [if_neg hc] at hr
      subst hr
      exact ⟨spec_l8Fault_l0 l [] _ (by simp; omega) hs (fun _ => rfl) (fun h => absurd h hc), impl_ValsFault_l0 l [] _ (by simp; omega) (fun _ => rfl) (fun h => absurd h hc)⟩
  · rw [decide_eq_false hl] at hin
    rw [if_neg hl]
    refine ⟨?_, ?_⟩
    · unfold spec_l8Fault.f
      by_cases h1 : (l.length : Int) < 1
      · exact ev_if h1 (ev_succ fun k => by rw [spec_l8Fault.j0, if_pos rfl])
      · refine ev_ifn h1 ?_
        rw [decide_eq_true (show (l.length : Int) > 20 by omega)]
        exact ev_succ fun k => by rw [spec_l8Fault.j0, if_pos rfl]
    · unfold impl_ValsFault.f
      exact ev_bind0 hin (ev_ifn (by decide) (Ev.now _))
theorem valsFault_more {l : List S81} (hlen : l.length ≤ 1048576) (hs : ∀ x ∈ l, x.f2.size ≤ 1048576) : ∃ r, Ev (fun k => spec_l8Fault.f k l) r ∧ Ev (fun k => impl_ValsFault.f k l) r ∧ (r = 0 → fine l ∧ 0 < l.length ∧ endV l 0 = some l.length) := by
  obtain ⟨h1, h2⟩ := valsFault_evs hlen hs
  exact ⟨_, h1, h2, fun h => by obtain ⟨a, b, _, c, _⟩ := valsV_0 h; exact ⟨a, b, c⟩⟩

theorem dd_lt {u : Nat} (h : u < 10) : Go.Lib.decDigits u = [UInt8.ofNat (48 + u)] := by rw [Go.Lib.decDigits, dif_pos h]
theorem dd_ge {u : Nat} (h : ¬ u < 10) : Go.Lib.decDigits u = Go.Lib.decDigits (u / 10) ++ [UInt8.ofNat (48 + u % 10)] := by rw [Go.Lib.decDigits, dif_neg h]
theorem itoa_nat (u : Nat) : Go.Lib.itoa (u : Int) = Go.Lib.decDigits u := by unfold Go.Lib.itoa; rw [if_neg (by omega)]; simp
theorem dd_len : ∀ (m u : Nat), u < 10 ^ (m + 1) → (Go.Lib.decDigits u).length ≤ m + 1
  | 0, u, h => by rw [dd_lt (by omega)]; simp
  | m + 1, u, h => by
    by_cases h1 : u < 10
    · rw [dd_lt h1]; simp
    · rw [dd_ge h1, List.length_append]
      have := dd_len m (u / 10) (by rw [Nat.pow_succ] at h; omega)
      simp only [List.length_singleton]; omega
/-- A text out of bytes. -/
def lb (l : List UInt8) : ByteArray := ⟨l.toArray⟩
theorem lb_size (l : List UInt8) : (lb l).size = l.length := by show l.toArray.size = _; simp
theorem lb_app (a b : List UInt8) : lb a ++ lb b = lb (a ++ b) := ByteArray.ext (by rw [ByteArray.data_append]; simp [lb])
theorem lb_of (s : ByteArray) : s = lb s.data.toList := ByteArray.ext (by simp [lb])
theorem lb_data (l : List UInt8) : (lb l).data.toList = l := by simp [lb]
theorem digit_str {d : Nat} (h : d < 10) : strOfNums [wrap64 (48 + (d : Int)) % 256] = lb [UInt8.ofNat (48 + d)] := by
  rw [wrap_id (by omega) (by omega)]
  unfold strOfNums lb
  rw [List.map_cons, List.map_nil, show ((48 + (d : Int)) % 256).toNat = 48 + d by omega]
theorem spec_l1Digits_ev : ∀ (m n : Nat), n < 10 ^ (m + 1) → n ≤ 2147483647 → Ev (fun k => spec_l1Digits.f k (n : Int)) (lb (Go.Lib.decDigits n))
  | 0, n, h, _ => by
    have h1 : n < 10 := by omega
    refine ev_succ fun k => ?_
    rw [spec_l1Digits.f, if_neg (by omega), if_pos (by omega), dd_lt h1, digit_str h1]
  | m + 1, n, h, hn => by
    by_cases h1 : n < 10
    · refine ev_succ fun k => ?_
      rw [spec_l1Digits.f, if_neg (by omega), if_pos (by omega), dd_lt h1, digit_str h1]
    · have ih := spec_l1Digits_ev m (n / 10) (by rw [Nat.pow_succ] at h; omega) (by omega)
      have hl := dd_len 9 (n / 10) (by omega)
      refine Ev.step (f := fun k => (spec_l1Digits.f k ((n / 10 : Nat) : Int)).bind fun t => (some [wrap64 (48 + ((n % 10 : Nat) : Int)) % 256]).bind fun y => if t.size + (strOfNums y).size ≤ 9223372036854775807 then some (t ++ strOfNums y) else none) (fun k => ?_) (ev_bind ih ?_)
      · rw [spec_l1Digits.f, if_neg (by omega), if_neg (by omega), wrap_id (x := Int.tdiv (n : Int) 10) (by rw [Int.tdiv_eq_ediv_of_nonneg (by omega)]; omega) (by rw [Int.tdiv_eq_ediv_of_nonneg (by omega)]; omega)]
        rfl
      · rw [Option.bind_some, digit_str (by omega), lb_size, lb_size, if_pos (by rw [List.length_singleton]; omega), lb_app, dd_ge h1]
        exact Ev.now _
/-- What is right in a value by itself. -/
theorem oneV_0 {x : S81} (h : oneV x = 0) : 1 ≤ x.f0 ∧ x.f0 ≤ 6 ∧ numV x.f0 x.f1 = true ∧ x.f2.data.toList.length ≤ 40 := by
  unfold oneV at h
  by_cases hb : badV x.f0 x.f1 x.f2 = true
  · rw [if_pos hb] at h; cases h
  · rw [if_neg hb] at h
    by_cases h1 : numV x.f0 x.f1 = true
    · rw [if_pos h1] at h
      by_cases h2 : textV x.f2 = true
      · refine ⟨?_, ?_, h1, ?_⟩
        · unfold badV at hb
          by_cases c : 1 ≤ x.f0 ∧ x.f0 ≤ 6
          · exact c.1
          · rw [if_neg c] at hb; exact absurd rfl hb
        · unfold badV at hb
          by_cases c : 1 ≤ x.f0 ∧ x.f0 ≤ 6
          · exact c.2
          · rw [if_neg c] at hb; exact absurd rfl hb
        · unfold textV at h2
          rw [Bool.and_eq_true] at h2
          exact of_decide_eq_true h2.1
      · rw [if_neg h2] at h; cases h
    · rw [if_neg h1] at h; cases h
theorem vAt_get {l : List S81} {a : Nat} (h : a < l.length) : vAt l a = l[a] := by
  unfold vAt rd_T81
  rw [List.getD_eq_getElem?_getD, List.getElem?_eq_getElem (by omega)]; rfl
theorem right_at {l : List S81} (hc : codeL l = 0) {a : Nat} (h : a < l.length) : oneV (vAt l a) = 0 := by
  rw [vAt_get h]
  exact codeL_fine hc _ (List.getElem_mem _)
theorem drop_at {l : List S81} {a : Nat} (h : a < l.length) : l.drop a = vAt l a :: l.drop (a + 1) := by
  rw [List.drop_eq_getElem_cons h, vAt_get h]
theorem valP_text {l : List S81} {a : Nat} (h : a < l.length) (h4 : (vAt l a).f0 = 4) (K : Nat) : HPrint.valP (K + 1) (l.drop a) = some ([34] ++ tx l a ++ [34], l.drop (a + 1)) := by
  rw [drop_at h, HPrint.valP, if_neg (by omega), if_neg (by omega), if_neg (by omega), if_pos h4]; rfl
/-- What is said of the text of a value. -/
def Pt (l : List S81) (a e : Nat) (s : List UInt8) : Prop := s.length + 1 ≤ 100 * (e - a) ∧ (∀ K, l.length - a < K → HPrint.valP K (l.drop a) = some (s, l.drop e)) ∧ Ev (fun k => spec_l8Print.f k l (a : Int)) (lb s)
def sgn (x : S81) (a b : UInt8) : UInt8 := if x.f0 = 6 then b else a
def stepP (x : S81) (K : Nat) : List S81 → Option (List UInt8 × List S81) := if x.f0 = 6 then HPrint.pairP (HPrint.valP K) else HPrint.valP K
theorem print_loop {l : List S81} (hl : fine l) (hc0 : codeL l = 0) (x : S81) (hx : nest x) (h20 : x.f1 ≤ 20) : ∀ (c a i e : Nat), (i : Int) + c = x.f1 → a ≤ l.length → (∀ b e', a ≤ b → endV l b = some e' → ∃ s, Pt l b e' s) → endL l (endV l) (decide (x.f0 = 6)) c a = some e →
    ∃ s : List UInt8, s.length ≤ 100 * (e - a) ∧ a ≤ e ∧ (∀ K k, l.length - a < K → c < k → HPrint.loopP (stepP x K) k x.f1 (i : Int) (l.drop a) = some (s, l.drop e)) ∧
      (∀ acc : List UInt8, acc.length + 100 * (l.length - a) ≤ 100000 → Ev (fun k => spec_l8Print.l0 k l (lb acc) (a : Int) (i : Int) x.f0 x.f1 x.f2) (lb ([sgn x 91 123] ++ (acc ++ s) ++ [sgn x 93 125])))
  | 0, a, i, e, hc, ha, ih, he => by
    cases he
    refine ⟨[], by simp, Nat.le_refl _, fun K k hK hk => ?_, fun acc hacc => ?_⟩
    · obtain ⟨k, rfl⟩ : ∃ j, k = j + 1 := ⟨k - 1, by omega⟩
      rw [HPrint.loopP, if_neg (by omega)]
    · refine ev_succ fun k => ?_
      rw [spec_l8Print.l0, if_neg (by omega), lb_size, List.append_nil]
      unfold sgn
      by_cases h6 : x.f0 = 6
      · rw [if_pos h6, if_pos h6, if_pos h6, if_pos (by omega), show (⟨#[123]⟩ : ByteArray) = lb [123] from rfl, lb_app, lb_size, if_pos (by simp; omega), show (⟨#[125]⟩ : ByteArray) = lb [125] from rfl, lb_app]
      · rw [if_neg h6, if_neg h6, if_neg h6, if_pos (by omega), show (⟨#[91]⟩ : ByteArray) = lb [91] from rfl, lb_app, lb_size, if_pos (by simp; omega), show (⟨#[93]⟩ : ByteArray) = lb [93] from rfl, lb_app]
  | c + 1, a, i, e, hc, ha, ih, he => by
    have h1 := hl.1
    obtain ⟨cm, hcm⟩ : ∃ cm : List UInt8, cm = if (i : Int) > 0 then [44] else [] := ⟨_, rfl⟩
    have hcl : cm.length ≤ 1 := by rw [hcm]; split <;> simp
    by_cases h6 : x.f0 = 6
    · rw [decide_eq_true h6] at he
      have hin : a < l.length ∧ (vAt l a).f0 = 4 := by
        by_cases hin : a < l.length ∧ (vAt l a).f0 = 4
        · exact hin
        · rw [endL_map_no hin] at he; cases he
      rw [endL_map hin] at he
      obtain ⟨b, hb, he⟩ := Option.bind_eq_some_iff.mp he
      have hu := endV_up hb
      obtain ⟨s1, hs1, hv1, hE1⟩ := ih (a + 1) b (by omega) hb
      have ht := (oneV_0 (right_at hc0 hin.1)).2.2.2
      change (tx l a).length ≤ 40 at ht
      obtain ⟨s2, hs2, hbe, hv2, hE2⟩ := print_loop hl hc0 x hx h20 c b (i + 1) e (by omega) hu.2 (fun b' e' hb' => ih b' e' (by omega)) (by rw [decide_eq_true h6]; exact he)
      refine ⟨cm ++ (([34] ++ tx l a ++ [34]) ++ (58 :: s1) ++ s2), ?_, by omega, fun K k hK hk => ?_, fun acc hacc => ?_⟩
      · simp only [List.length_append, List.length_cons, List.length_nil]; omega
      · obtain ⟨k, rfl⟩ : ∃ j, k = j + 1 := ⟨k - 1, by omega⟩
        obtain ⟨K', rfl⟩ : ∃ j, K = j + 1 := ⟨K - 1, by omega⟩
        have e1 : stepP x (K' + 1) (l.drop a) = some (([34] ++ tx l a ++ [34]) ++ (58 :: s1), l.drop b) := by
          unfold stepP
          rw [if_pos h6]
          unfold HPrint.pairP
          rw [valP_text hin.1 hin.2, Option.bind_some, hv1 (K' + 1) (by omega)]; rfl
        rw [HPrint.loopP, if_pos (by omega), if_pos (by omega), e1, Option.bind_some]
        have e2 := hv2 (K' + 1) k (by omega) (by omega)
        rw [show (i : Int) + 1 = ((i + 1 : Nat) : Int) by omega, e2, Option.bind_some, ← hcm]
      · have hE := spec_l8End_at hl (a := a + 1) (by omega)
        rw [hb] at hE
        change Ev _ (b : Int) at hE
        have hr := hE2 (acc ++ cm ++ ([34] ++ tx l a ++ [34]) ++ (58 :: s1)) (by simp only [List.length_append, List.length_cons, List.length_nil]; omega)
        have e0 : acc ++ cm ++ ([34] ++ tx l a ++ [34]) ++ (58 :: s1) ++ s2 = acc ++ (cm ++ (([34] ++ tx l a ++ [34]) ++ (58 :: s1) ++ s2)) := by simp
        rw [e0] at hr
        refine Ev.step (f := fun k => spec_l8Print.j1 k l (lb (acc ++ cm)) (a : Int) (i : Int) x.f0 x.f1 x.f2) (fun k => ?_) (Ev.step (f := fun k => (spec_l8Print.f k l ((a + 1 : Nat) : Int)).bind fun t => if (lb (acc ++ cm ++ [34] ++ tx l a ++ [34, 58])).size + t.size ≤ 9223372036854775807 then ((spec_l8End.f k l ((a + 1 : Nat) : Int)).bind fun u => spec_l8Print.l0 k l (lb (acc ++ cm ++ [34] ++ tx l a ++ [34, 58]) ++ t) u ((i + 1 : Nat) : Int) x.f0 x.f1 x.f2) else none) (fun k => ?_) (ev_bind hE1 ?_))
        · rw [spec_l8Print.l0, if_pos (by omega)]
          by_cases h0 : (i : Int) > 0
          · rw [if_pos h0] at hcm
            rw [if_pos h0, lb_size, if_pos (by omega), show (⟨#[44]⟩ : ByteArray) = lb [44] from rfl, lb_app, hcm]
          · rw [if_neg h0] at hcm
            rw [if_neg h0, hcm, List.append_nil]
        · rw [spec_l8Print.j1, if_pos h6, lb_size, if_pos (by rw [List.length_append]; omega), if_pos (by omega), if_pos (by omega), show (⟨#[34]⟩ : ByteArray) = lb [34] from rfl, lb_app, show (rd_T81 l (a : Int)).f2 = lb (tx l a) from lb_of _, lb_size, lb_size, if_pos (by simp only [List.length_append, List.length_cons, List.length_nil]; omega), lb_app, lb_size, if_pos (by simp only [List.length_append, List.length_cons, List.length_nil]; omega), show (⟨#[34, 58]⟩ : ByteArray) = lb [34, 58] from rfl, lb_app, wrap_id (x := (a : Int) + 1) (by omega) (by omega), wrap_id (x := (i : Int) + 1) (by omega) (by omega)]
          rfl
        · rw [lb_size, lb_size]
          refine ev_if (by simp only [List.length_append, List.length_cons, List.length_nil]; omega) (ev_bind hE ?_)
          rw [lb_app, show acc ++ cm ++ [34] ++ tx l a ++ [34, 58] ++ s1 = acc ++ cm ++ ([34] ++ tx l a ++ [34]) ++ (58 :: s1) by simp]
          exact hr
    · have hx5 : x.f0 = 5 := hx.resolve_right h6
      rw [decide_eq_false h6] at he
      rw [endL_list] at he
      obtain ⟨b, hb, he⟩ := Option.bind_eq_some_iff.mp he
      have hu := endV_up hb
      obtain ⟨s1, hs1, hv1, hE1⟩ := ih a b (by omega) hb
      obtain ⟨s2, hs2, hbe, hv2, hE2⟩ := print_loop hl hc0 x hx h20 c b (i + 1) e (by omega) hu.2 (fun b' e' hb' => ih b' e' (by omega)) (by rw [decide_eq_false h6]; exact he)
      refine ⟨cm ++ (s1 ++ s2), ?_, by omega, fun K k hK hk => ?_, fun acc hacc => ?_⟩
      · simp only [List.length_append]; omega
      · obtain ⟨k, rfl⟩ : ∃ j, k = j + 1 := ⟨k - 1, by omega⟩
        have e1 : stepP x K (l.drop a) = some (s1, l.drop b) := by
          unfold stepP
          rw [if_neg h6]
          exact hv1 K (by omega)
        rw [HPrint.loopP, if_pos (by omega), if_pos (by omega), e1, Option.bind_some]
        have e2 := hv2 K k (by omega) (by omega)
        rw [show (i : Int) + 1 = ((i + 1 : Nat) : Int) by omega, e2, Option.bind_some, ← hcm]
      · have hE := spec_l8End_at hl (a := a) (by omega)
        rw [hb] at hE
        change Ev _ (b : Int) at hE
        have hr := hE2 (acc ++ cm ++ s1) (by simp only [List.length_append]; omega)
        have e0 : acc ++ cm ++ s1 ++ s2 = acc ++ (cm ++ (s1 ++ s2)) := by simp
        rw [e0] at hr
        refine Ev.step (f := fun k => spec_l8Print.j1 k l (lb (acc ++ cm)) (a : Int) (i : Int) x.f0 x.f1 x.f2) (fun k => ?_) (Ev.step (f := fun k => (spec_l8Print.f k l (a : Int)).bind fun t => if (lb (acc ++ cm)).size + t.size ≤ 9223372036854775807 then ((spec_l8End.f k l (a : Int)).bind fun u => spec_l8Print.l0 k l (lb (acc ++ cm) ++ t) u ((i + 1 : Nat) : Int) x.f0 x.f1 x.f2) else none) (fun k => ?_) (ev_bind hE1 ?_))
        · rw [spec_l8Print.l0, if_pos (by omega)]
          by_cases h0 : (i : Int) > 0
          · rw [if_pos h0] at hcm
            rw [if_pos h0, lb_size, if_pos (by omega), show (⟨#[44]⟩ : ByteArray) = lb [44] from rfl, lb_app, hcm]
          · rw [if_neg h0] at hcm
            rw [if_neg h0, hcm, List.append_nil]
        · rw [spec_l8Print.j1, if_neg h6, wrap_id (x := (i : Int) + 1) (by omega) (by omega)]; rfl
        · rw [lb_size, lb_size]
          refine ev_if (by simp only [List.length_append]; omega) (ev_bind hE ?_)
          rw [lb_app]
          exact hr
theorem print_at {l : List S81} (hl : fine l) (hc0 : codeL l = 0) : ∀ (n a e : Nat), l.length - a < n → endV l a = some e → ∃ s, Pt l a e s
  | 0, a, e, hn, _ => absurd hn (by omega)
  | n + 1, a, e, hn, he => by
    have hu := endV_up he
    have h1 := hl.1
    have hin : a < l.length := by omega
    obtain ⟨k1, k6, hnum, ht⟩ := oneV_0 (right_at hc0 hin)
    change (tx l a).length ≤ 40 at ht
    by_cases hne : nest (vAt l a)
    · have h2 := hl.2 a hin hne
      have he' := he
      rw [endV_nest hin hne] at he'
      obtain ⟨s, hs, _, hv, hE⟩ := print_loop hl hc0 (vAt l a) hne h2.2 _ (a + 1) 0 e (by omega) (by omega) (fun b e' hb he' => print_at hl hc0 n b e' (by omega) he') he'
      refine ⟨[sgn (vAt l a) 91 123] ++ s ++ [sgn (vAt l a) 93 125], ?_, fun K hK => ?_, ?_⟩
      · simp only [List.length_append, List.length_cons, List.length_nil]; omega
      · obtain ⟨K, rfl⟩ : ∃ j, K = j + 1 := ⟨K - 1, by omega⟩
        have hv' := hv K 1000 (by omega) (by omega)
        rw [drop_at hin]
        unfold sgn
        unfold stepP at hv'
        rcases hne with h5 | h6
        · rw [if_neg (by omega)] at hv'
          rw [HPrint.valP, if_neg (by omega), if_neg (by omega), if_neg (by omega), if_neg (by omega), if_pos h5, if_neg (by omega), if_neg (by omega)]
          refine Eq.trans (congrArg (fun q => Option.bind q fun q => some ([91] ++ q.1 ++ [93], q.2)) hv') rfl
        · rw [if_pos h6] at hv'
          rw [HPrint.valP, if_neg (by omega), if_neg (by omega), if_neg (by omega), if_neg (by omega), if_neg (by omega), if_pos h6, if_pos h6, if_pos h6]
          refine Eq.trans (congrArg (fun q => Option.bind q fun q => some ([123] ++ q.1 ++ [125], q.2)) hv') rfl
      · have hE' := hE [] (by simp; omega)
        rw [List.nil_append] at hE'
        refine Ev.step (fun k => ?_) hE'
        have hne' : (vAt l a).f0 = 5 ∨ (vAt l a).f0 = 6 := hne
        have hne2 : (rd_T81 l (a : Int)).f0 = 5 ∨ (rd_T81 l (a : Int)).f0 = 6 := hne
        rw [spec_l8Print.f, if_pos (by omega), if_pos (by omega), if_neg (by omega), if_neg (by omega), if_neg (by omega), if_neg (by omega), wrap_id (by omega) (by omega)]; rfl
    · rw [endV_one hin hne] at he
      cases he
      have n5 : (vAt l a).f0 ≠ 5 := fun h => hne (.inl h)
      have n6 : (vAt l a).f0 ≠ 6 := fun h => hne (.inr h)
      unfold numV at hnum
      have er : rd_T81 l (a : Int) = vAt l a := rfl
      by_cases q1 : (vAt l a).f0 = 1
      · refine ⟨[110, 117, 108, 108], by simp only [List.length_cons, List.length_nil]; omega, fun K hK => ?_, ev_succ fun k => ?_⟩
        · obtain ⟨K, rfl⟩ : ∃ j, K = j + 1 := ⟨K - 1, by omega⟩
          rw [drop_at hin, HPrint.valP, if_pos q1]
        · rw [spec_l8Print.f, if_pos (by omega), if_pos (by omega), er, if_pos q1]; rfl
      by_cases q2 : (vAt l a).f0 = 2
      · rw [if_neg (by omega), if_pos q2] at hnum
        have hb := of_decide_eq_true hnum
        refine ⟨if (vAt l a).f1 = 1 then [116, 114, 117, 101] else [102, 97, 108, 115, 101], by split <;> simp <;> omega, fun K hK => ?_, ev_succ fun k => ?_⟩
        · obtain ⟨K, rfl⟩ : ∃ j, K = j + 1 := ⟨K - 1, by omega⟩
          rw [drop_at hin, HPrint.valP, if_neg q1, if_pos q2]
        · rw [spec_l8Print.f, if_pos (by omega), if_pos (by omega), er, if_neg q1, if_pos q2, Option.bind_some, if_pos (by omega), if_pos (by simp; omega)]
          by_cases q : (vAt l a).f1 = 1
          · rw [if_pos q, q]; rfl
          · have q0 : (vAt l a).f1 = 0 := by omega
            rw [if_neg q, q0]; rfl
      by_cases q3 : (vAt l a).f0 = 3
      · rw [if_neg (by omega), if_neg q2, if_pos q3] at hnum
        have hb := of_decide_eq_true hnum
        obtain ⟨m, hm⟩ : ∃ m : Nat, (vAt l a).f1 = (m : Int) := ⟨(vAt l a).f1.toNat, by omega⟩
        have hdl := dd_len 9 m (by omega)
        refine ⟨Go.Lib.itoa (vAt l a).f1, by rw [hm, itoa_nat]; omega, fun K hK => ?_, ?_⟩
        · obtain ⟨K, rfl⟩ : ∃ j, K = j + 1 := ⟨K - 1, by omega⟩
          rw [drop_at hin, HPrint.valP, if_neg q1, if_neg q2, if_pos q3, if_pos (by omega)]
        · rw [hm, itoa_nat]
          refine Ev.step (f := fun k => (spec_l1Digits.f k (m : Int)).bind fun t => some t) (fun k => ?_) (ev_bind (spec_l1Digits_ev 9 m (by omega) (by omega)) (Ev.now _))
          rw [spec_l8Print.f, if_pos (by omega), if_pos (by omega), er, if_neg q1, if_neg q2, if_pos q3, hm]
      · have q4 : (vAt l a).f0 = 4 := by omega
        refine ⟨[34] ++ tx l a ++ [34], by simp only [List.length_append, List.length_cons, List.length_nil]; omega, fun K hK => ?_, ev_succ fun k => ?_⟩
        · obtain ⟨K, rfl⟩ : ∃ j, K = j + 1 := ⟨K - 1, by omega⟩
          exact valP_text hin q4 K
        · rw [spec_l8Print.f, if_pos (by omega), if_pos (by omega), er, if_neg q1, if_neg q2, if_neg q3, if_pos q4, show (vAt l a).f2 = lb (tx l a) from lb_of _, lb_size, if_pos (by omega), show (⟨#[34]⟩ : ByteArray) = lb [34] from rfl, lb_app, lb_size, if_pos (by simp only [List.length_append, List.length_cons, List.length_nil]; omega), lb_app]
/-- Both print a right value alike. -/
theorem print_both {l : List S81} (hl : fine l) (hc0 : codeL l = 0) (he : endV l 0 = some l.length) : ∃ s : List UInt8, s.length + 1 ≤ 100 * l.length ∧ s ≠ [] ∧ impl_printed.f l = some (lb s) ∧ Ev (fun k => spec_l8Print.f k l 0) (lb s) := by
  obtain ⟨s, hs, hv, hE⟩ := print_at hl hc0 _ 0 _ (Nat.lt_succ_self _) he
  have h1 := hl.1
  have hv' := hv 100 (by omega)
  have hne : s ≠ [] := by
    rintro rfl
    have hu := endV_up he
    have hin : 0 < l.length := by omega
    have h0 := drop_at hin
    rw [h0] at hv'
    obtain ⟨k1, k6, _, _⟩ := oneV_0 (right_at hc0 hin)
    rw [HPrint.valP] at hv'
    split at hv'
    · cases hv'
    split at hv'
    · split at hv' <;> cases hv'
    split at hv'
    · split at hv'
      · obtain ⟨m, hm⟩ : ∃ m : Nat, (vAt l 0).f1 = (m : Int) := ⟨(vAt l 0).f1.toNat, by omega⟩
        rw [hm, itoa_nat] at hv'
        have := congrArg List.length (congrArg Prod.fst (Option.some.inj hv'))
        by_cases hm10 : m < 10
        · rw [dd_lt hm10] at this; cases this
        · rw [dd_ge hm10] at this; simp at this
      · cases hv'
    split at hv'
    · have := congrArg List.length (congrArg Prod.fst (Option.some.inj hv')); simp at this
    split at hv'
    · obtain ⟨q, _, hq⟩ := Option.bind_eq_some_iff.mp hv'
      have := congrArg List.length (congrArg Prod.fst (Option.some.inj hq)); simp at this
    split at hv'
    · obtain ⟨q, _, hq⟩ := Option.bind_eq_some_iff.mp hv'
      have := congrArg List.length (congrArg Prod.fst (Option.some.inj hq)); simp at this
    · omega
  refine ⟨s, by simpa using hs, hne, ?_, hE⟩
  unfold impl_printed.f HPrint.printedF
  rw [show l.drop 0 = l from rfl] at hv'
  rw [hv', Option.bind_some, if_pos ⟨hne, by show s.length ≤ _; omega⟩]
  rfl

theorem printVals_both {l : List S81} (hlen : l.length ≤ 1048576) (hs : ∀ x ∈ l, x.f2.size ≤ 1048576) : ∃ c s, Ev (fun k => spec_PrintVals.f k l) (c, s) ∧ Ev (fun k => impl_PrintVals.f k l) (c, s) := by
  obtain ⟨h1, h2⟩ := valsFault_evs hlen hs
  by_cases h0 : valsV l = 0
  · obtain ⟨hf, _, hc, he, _, _⟩ := valsV_0 h0
    obtain ⟨s, hs1, _, hi, hE⟩ := print_both hf hc he
    rw [h0] at h1 h2
    by_cases hl : ((lb s).size : Int) > 160
    · exact ⟨2, ⟨#[]⟩, ev_bind h1 (ev_if rfl (ev_bind hE (ev_if hl (Ev.now _)))), ev_bind h2 (ev_if rfl (ev_bind0 hi (ev_if hl (Ev.now _))))⟩
    · exact ⟨0, lb s, ev_bind h1 (ev_if rfl (ev_bind hE (ev_ifn hl (Ev.now _)))), ev_bind h2 (ev_if rfl (ev_bind0 hi (ev_ifn hl (Ev.now _))))⟩
  · exact ⟨valsV l, ⟨#[]⟩, ev_bind h1 (ev_ifn h0 (Ev.now _)), ev_bind h2 (ev_ifn h0 (Ev.now _))⟩
theorem FnExactPrintVals (l0 : List S79) (o0 : okList ok79 l0) : ∃ k, laws_FnExactPrintVals.f k l0 = some true := by
  refine Ev.rounds (g := fun k => laws_FnExactPrintVals.f k l0) ?_
  unfold laws_FnExactPrintVals.f
  obtain ⟨r, hr, hr1, hr2⟩ := laws_szValS_ev o0.1 (fun x hx => (o0.2 x hx).2.2) 1048576 (by omega) (by omega)
  refine ev_bind hr ?_
  by_cases h : r < 0
  · exact ev_if h (Ev.now _)
  refine ev_ifn h ?_
  obtain ⟨b0, b1⟩ := hr2 (by omega)
  have m1 : ∀ x ∈ l0.map toV, x.f2.size ≤ 1048576 := by
    intro x hx
    obtain ⟨y, hy, rfl⟩ := List.mem_map.1 hx
    have := b1 y hy
    show y.f2.size ≤ 1048576
    omega
  obtain ⟨c, s, hs, hi⟩ := printVals_both (l := l0.map toV) (by simpa using b0) m1
  have heq : laws_eqTextResult.f c s c s = some true := by unfold laws_eqTextResult.f; rw [if_pos rfl, if_pos rfl]
  refine ev_bind (laws_toValS_ev b0) (ev_bind hs (ev_bind (laws_toValS_ev b0) (ev_bind hi (ev_bind0 heq (ev_if rfl ?_)))))
  exact ev_bind (laws_toValS_ev b0) (ev_bind (laws_eqValS_refl (by simpa using b0)) (ev_if rfl (Ev.now _)))

end Go.Proofs.YthjlbpgiaehjnaaDoor.Pure
