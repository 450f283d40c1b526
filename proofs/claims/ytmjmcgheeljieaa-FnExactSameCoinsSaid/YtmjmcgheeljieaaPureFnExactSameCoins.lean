/- for all lists of coins that are not too long, SameCoins answers as the reference does and leaves its arguments as they were. -/
import Derived.Test.YtmjmcgheeljieaaQFnExactSameCoinsx1
import Derived.Test.YtmjmcgheeljieaaQFnExactSameCoinsx2
import Derived.Test.YtmjmcgheeljieaaQFnExactSameCoinsx3
import Derived.Test.YtmjmcgheeljieaaQFnExactSameCoinsx4
import Derived.Test.YtmjmcgheeljieaaQFnExactSameCoinsx5
import Derived.Test.YtmjmcgheeljieaaRFnExactSameCoins
namespace Go.Proofs.Ytmjmcgheeljieaa.Pure
open Go.RowKit Go.Proofs.Ytmjmcgheeljieaa.QFnExactSameCoins Go.Proofs.YtmjmcgheeljieaaW.PrintWords Go.Proofs.YtmjmcgheeljieaaW.PrintLast
set_option linter.unusedVariables false
set_option linter.unusedSimpArgs false
theorem wrap_id {x : Int} (h1 : -9223372036854775808 ≤ x) (h2 : x ≤ 9223372036854775807) : wrap64 x = x := by
 unfold wrap64; omega
theorem wf64 {x : Int} (h : (Lit.int .i64 x).wf = true) : -9223372036854775808 ≤ x ∧ x ≤ 9223372036854775807 := by
 simpa [Lit.wf, IntKind.min, IntKind.max, IntKind.signed, IntKind.bits] using h
theorem wf8 {x : Int} (h : (Lit.int .u8 x).wf = true) : 0 ≤ x ∧ x ≤ 255 := by
 simpa [Lit.wf, IntKind.min, IntKind.max, IntKind.signed, IntKind.bits] using h
theorem ev_some {α : Type} {g : Nat → Option α} {r : α} (h : ∀ k, g k = some r) : Ev g r := ⟨0, fun k _ => h k⟩
theorem ev_succ {α : Type} {g : Nat → Option α} {r : α} (h : ∀ k, g (k + 1) = some r) : Ev g r := Ev.step h (Ev.now r)
theorem ev_bind {α β : Type} {g : Nat → Option α} {f : α → Nat → Option β} {a : α} {r : β} (h : Ev g a) (k : Ev (f a) r) : Ev (fun n => (g n).bind fun t => f t n) r :=
 Ev.bind (f := fun n t => f t n) h k
theorem ev_if {α : Type} {p : Prop} [Decidable p] {g f : Nat → Option α} {r : α} (hp : p) (k : Ev g r) : Ev (fun n => if p then g n else f n) r :=
 Ev.congr (fun n => if_pos hp) k
theorem ev_ifn {α : Type} {p : Prop} [Decidable p] {g f : Nat → Option α} {r : α} (hp : ¬ p) (k : Ev f r) : Ev (fun n => if p then g n else f n) r :=
 Ev.congr (fun n => if_neg hp) k
theorem ev_bind0 {α β : Type} {g : Option α} {f : α → Nat → Option β} {a : α} {r : β} (h : g = some a) (k : Ev (f a) r) : Ev (fun n => g.bind fun t => f t n) r := by
 subst h; exact k
theorem rd_mid (pre : List Int) (b : Int) (suf : List Int) : rd (pre ++ b :: suf) (pre.length : Int) = b := by
 unfold rd
 simp
theorem rd_at {l : List Int} {i : Int} (h0 : 0 ≤ i) (h1 : i < l.length) : rd l i = l[i.toNat]'(by omega) := by
 unfold rd
 rw [List.getD_eq_getElem?_getD, List.getElem?_eq_getElem (by omega)]; rfl
theorem split_at_len {α : Type} (l : List α) (n : Nat) (h : n ≤ l.length) : ∃ pre suf, l = pre ++ suf ∧ pre.length = n :=
 ⟨l.take n, l.drop n, (List.take_append_drop n l).symm, by simp; omega⟩
theorem laws_szInt64S_some (l : List Int) (q : Int) (h0 : 0 ≤ q) (h1 : q ≤ 1048576) (hl : l.length ≤ maxLen) : ∃ r, laws_szInt64S.f l q = some r ∧ r ≤ q ∧ (0 ≤ r → (l.length : Int) ≤ q) := by
 unfold laws_szInt64S.f
 unfold maxLen at hl
 rw [wrap_id (by omega) (by omega)]
 by_cases h : q - (l.length : Int) < 0
 · rw [if_pos h]; exact ⟨-1, rfl, by omega, by omega⟩
 · rw [if_neg h]; exact ⟨_, rfl, by omega, by omega⟩
theorem laws_szCoin_some (x : S86) (q : Int) (h0 : 0 ≤ q) (h1 : q ≤ 1048576) (hl : x.f3.length ≤ maxLen) : ∃ r, laws_szCoin.f x.f0 x.f1 x.f2 x.f3 x.f4 x.f5 q = some r ∧ r ≤ q ∧ (0 ≤ r → (x.f3.length : Int) ≤ q) := by
 unfold laws_szCoin.f
 obtain ⟨r, hr, h2, h3⟩ := laws_szInt64S_some x.f3 q h0 h1 hl
 rw [hr]
 simp only [Option.bind_some]
 by_cases h : r < 0
 · rw [if_pos h]; exact ⟨-1, rfl, by omega, by omega⟩
 · rw [if_neg h]; exact ⟨r, rfl, h2, h3⟩
theorem laws_szCoinS_l0 (suf : List S86) : ∀ (pre : List S86) (q : Int), 0 ≤ q → q ≤ 1048576 → (∀ x ∈ suf, x.f3.length ≤ maxLen) → (pre.length : Int) + suf.length ≤ 1048576 →
 ∃ r, Ev (fun k => laws_szCoinS.l0 k (pre ++ suf) q pre.length) r ∧ r ≤ q ∧ (0 ≤ r → ∀ x ∈ suf, (x.f3.length : Int) ≤ 1048576) := by
 induction suf with
 | nil => intro pre q h0 h1 _ _; exact ⟨q, ev_succ (fun k => by rw [laws_szCoinS.l0, if_neg (by simp)]), by omega, by simp⟩
 | cons b suf ih =>
  intro pre q h0 h1 hs hl
  simp only [List.length_cons, Int.natCast_add, Int.natCast_one] at hl
  have hrd : rd_T86 (pre ++ b :: suf) (pre.length : Int) = b := by unfold rd_T86; simp
  obtain ⟨r, hr, hr1, hr2⟩ := laws_szCoin_some b q h0 h1 (hs b (by simp))
  by_cases hneg : r < 0
  · refine ⟨-1, ev_succ (fun k => ?_), by omega, by omega⟩
    rw [laws_szCoinS.l0, if_pos (by simp; omega), if_pos (by omega), hrd, hr]
    simp only [Option.bind_some]
    rw [if_pos hneg]
  · obtain ⟨r', h', h1', h2'⟩ := ih (pre ++ [b]) r (by omega) (by omega) (fun x hx => hs x (by simp [hx])) (by simp; omega)
    refine ⟨r', Ev.step (fun k => ?_) h', by omega, fun h x hx => ?_⟩
    · rw [laws_szCoinS.l0, if_pos (by simp; omega), if_pos (by omega), hrd, hr]
      simp only [Option.bind_some]
      rw [if_neg hneg, wrap_id (by omega) (by omega)]
      simp
    · rcases List.mem_cons.1 hx with rfl | hx
      · have := hr2 (by omega); omega
      · exact h2' h x hx
theorem laws_szCoinS_ev {l : List S86} (hl : l.length ≤ maxLen) (hs : ∀ x ∈ l, x.f3.length ≤ maxLen) (q : Int) (h0 : 0 ≤ q) (h1 : q ≤ 1048576) :
 ∃ r, Ev (fun k => laws_szCoinS.f k l q) r ∧ r ≤ q ∧ (0 ≤ r → l.length ≤ 1048576 ∧ ∀ x ∈ l, (x.f3.length : Int) ≤ 1048576) := by
 unfold maxLen at hl
 unfold laws_szCoinS.f
 rw [wrap_id (by omega) (by omega)]
 by_cases h : q - (l.length : Int) < 0
 · exact ⟨-1, ev_if h (Ev.now _), by omega, by omega⟩
 · obtain ⟨r, hr, h2, h3⟩ := laws_szCoinS_l0 l [] (q - (l.length : Int)) (by omega) (by omega) hs (by simp; omega)
   exact ⟨r, ev_ifn h (by simpa using hr), by omega, fun hh => ⟨by omega, h3 hh⟩⟩
theorem laws_toInt64S_l0 (suf : List Int) : ∀ (pre : List Int) (z : List Int), z.length = suf.length → (pre.length : Int) + suf.length ≤ 9223372036854775806 →
 Ev (fun k => laws_toInt64S.l0 k (pre ++ suf) (pre ++ z) pre.length) (pre ++ suf) := by
 induction suf with
 | nil => intro pre z hz _; obtain rfl : z = [] := List.eq_nil_of_length_eq_zero (by simpa using hz); exact ev_succ (fun k => by simp [laws_toInt64S.l0])
 | cons b suf ih =>
  intro pre z hz hl
  obtain ⟨c, z, rfl⟩ : ∃ c z', z = c :: z' := by cases z with | nil => simp at hz | cons c z => exact ⟨c, z, rfl⟩
  simp only [List.length_cons, Int.natCast_add, Int.natCast_one] at hl hz
  have h := ih (pre ++ [b]) z (by omega) (by simp; omega)
  refine Ev.step (fun k => ?_) (by simpa using h)
  rw [laws_toInt64S.l0]
  rw [if_pos (by simp; omega), if_pos (by omega), if_pos (by simp; omega), rd_mid, wrap_id (by omega) (by omega)]
  simp
theorem laws_toInt64S_ev {l : List Int} (hl : l.length ≤ 17592186043904) : Ev (fun k => laws_toInt64S.f k l) l := by
 have h := laws_toInt64S_l0 l [] (List.replicate l.length 0) (by simp) (by simp; omega)
 unfold laws_toInt64S.f
 refine ev_if (by omega) (ev_if (by simp; omega) ?_)
 simpa using h
def toC (x : S86) : S89 := ⟨x.f0, x.f1, x.f2, x.f3, x.f4, x.f5⟩
theorem laws_toCoin_ev (x : S86) (hl : (x.f3.length : Int) ≤ 1048576) : Ev (fun k => laws_toCoin.f k x.f0 x.f1 x.f2 x.f3 x.f4 x.f5) (x.f0, x.f1, x.f2, x.f3, x.f4, x.f5) := by
 unfold laws_toCoin.f
 exact ev_bind (laws_toInt64S_ev (by omega)) (Ev.now _)
theorem laws_toCoinS_l0 (suf : List S86) : ∀ (pre : List S86) (z : List S89), z.length = suf.length → (∀ x ∈ suf, (x.f3.length : Int) ≤ 1048576) → (pre.length : Int) + suf.length ≤ 1048576 →
 Ev (fun k => laws_toCoinS.l0 k (pre ++ suf) (pre.map toC ++ z) pre.length) ((pre ++ suf).map toC) := by
 induction suf with
 | nil => intro pre z hz _ _; obtain rfl : z = [] := List.eq_nil_of_length_eq_zero (by simpa using hz); exact ev_succ (fun k => by rw [laws_toCoinS.l0, if_neg (by simp)]; simp)
 | cons b suf ih =>
  intro pre z hz hs hl
  obtain ⟨c, z, rfl⟩ : ∃ c z', z = c :: z' := by cases z with | nil => simp at hz | cons c z => exact ⟨c, z, rfl⟩
  simp only [List.length_cons, Int.natCast_add, Int.natCast_one] at hl hz
  have hrd : rd_T86 (pre ++ b :: suf) (pre.length : Int) = b := by unfold rd_T86; simp
  have h := ih (pre ++ [b]) z (by omega) (fun x hx => hs x (by simp [hx])) (by simp; omega)
  refine Ev.step (f := fun k => (laws_toCoin.f k b.f0 b.f1 b.f2 b.f3 b.f4 b.f5).bind fun bt => laws_toCoinS.l0 k (pre ++ b :: suf) ((pre.map toC ++ c :: z).set pre.length (⟨bt.1, bt.2.1, bt.2.2.1, bt.2.2.2.1, bt.2.2.2.2.1, bt.2.2.2.2.2⟩ : S89)) ((pre.length : Int) + 1)) (fun k => ?_) (ev_bind (laws_toCoin_ev b (hs b (by simp))) ?_)
  · rw [laws_toCoinS.l0, if_pos (by simp; omega), if_pos (by omega), hrd]
    refine congrArg _ (funext fun bt => ?_)
    rw [if_pos (by simp; omega), wrap_id (by omega) (by omega)]
    simp
  · have e : (pre.map toC ++ c :: z).set pre.length (⟨b.f0, b.f1, b.f2, b.f3, b.f4, b.f5⟩ : S89) = (pre ++ [b]).map toC ++ z := by
     rw [List.set_append_right _ _ (by simp)]; simp [toC]
    simp only [e]
    simpa using h
theorem laws_toCoinS_ev {l : List S86} (hl : l.length ≤ 1048576) (hs : ∀ x ∈ l, (x.f3.length : Int) ≤ 1048576) : Ev (fun k => laws_toCoinS.f k l) (l.map toC) := by
 have h := laws_toCoinS_l0 l [] (List.replicate l.length z89) (by simp) hs (by simp; omega)
 unfold laws_toCoinS.f
 refine ev_if (by omega) (ev_if (by simp; omega) ?_)
 simpa using h
theorem laws_eqInt64S_l0 (suf : List Int) : ∀ (pre : List Int), (pre.length : Int) + suf.length ≤ 9223372036854775806 →
 Ev (fun k => laws_eqInt64S.l0 k (pre ++ suf) (pre ++ suf) pre.length) true := by
 induction suf with
 | nil => intro pre _; exact ev_succ (fun k => by simp [laws_eqInt64S.l0])
 | cons b suf ih =>
  intro pre hl
  simp only [List.length_cons, Int.natCast_add, Int.natCast_one] at hl
  have h := ih (pre ++ [b]) (by simp; omega)
  refine Ev.step (fun k => ?_) (by simpa using h)
  rw [laws_eqInt64S.l0]
  rw [if_pos (by simp; omega), if_pos (by omega), if_pos (by simp; omega), if_pos rfl, wrap_id (by omega) (by omega)]
theorem laws_eqInt64S_refl {l : List Int} (hl : l.length ≤ 140737488351232) : Ev (fun k => laws_eqInt64S.f k l l) true := by
 unfold laws_eqInt64S.f
 exact ev_if rfl (laws_eqInt64S_l0 l [] (by simp; omega))
theorem laws_eqCoin_refl (x : S89) (hl : (x.f3.length : Int) ≤ 1048576) : Ev (fun k => laws_eqCoin.f k x.f0 x.f1 x.f2 x.f3 x.f4 x.f5 x.f0 x.f1 x.f2 x.f3 x.f4 x.f5) true := by
 unfold laws_eqCoin.f
 exact ev_if rfl (ev_if rfl (ev_if rfl (ev_bind (laws_eqInt64S_refl (by omega)) (ev_if rfl (ev_if rfl (ev_ifn (by simp) (Ev.now _)))))))
theorem laws_eqCoinS_l0 (suf : List S89) : ∀ (pre : List S89), (∀ x ∈ suf, (x.f3.length : Int) ≤ 1048576) → (pre.length : Int) + suf.length ≤ 1048576 →
 Ev (fun k => laws_eqCoinS.l0 k (pre ++ suf) (pre ++ suf) pre.length) true := by
 induction suf with
 | nil => intro pre _ _; exact ev_succ (fun k => by rw [laws_eqCoinS.l0, if_neg (by simp)])
 | cons b suf ih =>
  intro pre hs hl
  simp only [List.length_cons, Int.natCast_add, Int.natCast_one] at hl
  have hrd : rd_T89 (pre ++ b :: suf) (pre.length : Int) = b := by unfold rd_T89; simp
  have h := ih (pre ++ [b]) (fun x hx => hs x (by simp [hx])) (by simp; omega)
  refine Ev.step (f := fun k => (laws_eqCoin.f k b.f0 b.f1 b.f2 b.f3 b.f4 b.f5 b.f0 b.f1 b.f2 b.f3 b.f4 b.f5).bind fun t => if t = true then laws_eqCoinS.l0 k (pre ++ b :: suf) (pre ++ b :: suf) ((pre.length : Int) + 1) else some false) (fun k => ?_) (ev_bind (laws_eqCoin_refl b (hs b (by simp))) (ev_if rfl ?_))
  · rw [laws_eqCoinS.l0, if_pos (by simp; omega), if_pos (by omega), if_pos (by simp; omega), hrd, wrap_id (by omega) (by omega)]
  · simpa using h
theorem laws_eqCoinS_refl {l : List S89} (hl : l.length ≤ 1048576) (hs : ∀ x ∈ l, (x.f3.length : Int) ≤ 1048576) : Ev (fun k => laws_eqCoinS.f k l l) true := by
 unfold laws_eqCoinS.f
 exact ev_if rfl (laws_eqCoinS_l0 l [] hs (by simp; omega))
def sameCoin (x y : S89) : Bool := decide (x.f0 = y.f0) && (decide (x.f1 = y.f1) && (decide (x.f2 = y.f2) && (decide (x.f3 = y.f3) && (decide (x.f4 = y.f4) && (x.f5 == y.f5)))))
theorem ev_and {p : Prop} [Decidable p] {g : Nat → Option Bool} {b : Bool} (h : p → Ev g b) : Ev (fun k => if p then g k else some false) (decide p && b) := by
 by_cases hp : p
 · rw [decide_eq_true hp, Bool.true_and]; exact ev_if hp (h hp)
 · rw [decide_eq_false hp, Bool.false_and]; exact ev_ifn hp (Ev.now _)
theorem ev_andb {f g : Nat → Option Bool} {a b : Bool} (hf : Ev f a) (h : a = true → Ev g b) : Ev (fun k => (f k).bind fun t => if t = true then g k else some false) (a && b) := by
 refine ev_bind (f := fun t k => if t = true then g k else some false) hf ?_
 cases a with
 | true => rw [Bool.true_and]; exact ev_if rfl (h rfl)
 | false => rw [Bool.false_and]; exact ev_ifn (by decide) (Ev.now _)
theorem len_cons2 {α : Type} {b : α} {s : List α} {l : List α} (h : (b :: s).length = l.length) : ∃ c s', l = c :: s' ∧ s.length = s'.length := by
 cases l with
 | nil => simp at h
 | cons c s' => exact ⟨c, s', rfl, by simpa using h⟩
theorem rd_mid2 (pre pre2 : List Int) (b : Int) (suf : List Int) (h : pre.length = pre2.length) : rd (pre2 ++ b :: suf) (pre.length : Int) = b := by rw [h]; exact rd_mid _ _ _
theorem spec_l1Same_l0 (s1 : List Int) : ∀ (s2 pre1 pre2 : List Int), pre1.length = pre2.length → s1.length = s2.length → (pre1.length : Int) + s1.length ≤ 9223372036854775806 →
 Ev (fun k => spec_l1Same.l0 k (pre1 ++ s1) (pre2 ++ s2) pre1.length) (decide (s1 = s2)) := by
 induction s1 with
 | nil => intro s2 pre1 pre2 hp hs _; obtain rfl : s2 = [] := List.eq_nil_of_length_eq_zero (by simpa using hs.symm); exact ev_succ (fun k => by rw [spec_l1Same.l0, if_neg (by simp)]; simp)
 | cons b s1 ih =>
  intro s2 pre1 pre2 hp hs hl
  obtain ⟨c, s2, rfl, hs'⟩ := len_cons2 hs
  simp only [List.length_cons, Int.natCast_add, Int.natCast_one] at hl
  by_cases hb : b = c
  · subst hb
    have h := ih s2 (pre1 ++ [b]) (pre2 ++ [b]) (by simp [hp]) hs' (by simp; omega)
    have e : decide (b :: s1 = b :: s2) = decide (s1 = s2) := by simp
    rw [e]
    refine Ev.step (fun k => ?_) (by simpa using h)
    rw [spec_l1Same.l0, if_pos (by simp; omega), if_pos (by omega), if_pos (by simp; omega), rd_mid, rd_mid2 _ _ _ _ hp, if_pos rfl, wrap_id (by omega) (by omega)]
  · refine ev_succ (fun k => ?_)
    rw [spec_l1Same.l0, if_pos (by simp; omega), if_pos (by omega), if_pos (by simp; omega), rd_mid, rd_mid2 _ _ _ _ hp, if_neg hb]
    simp [hb]
theorem spec_l1Same_ev {l m : List Int} (hl : (l.length : Int) ≤ 9223372036854775806) : Ev (fun k => spec_l1Same.f k l m) (decide (l = m)) := by
 unfold spec_l1Same.f
 by_cases h : (l.length : Int) = (m.length : Int)
 · exact ev_if h (spec_l1Same_l0 l m [] [] rfl (by omega) (by simpa using hl))
 · rw [decide_eq_false (fun e => h (by rw [e]))]; exact ev_ifn h (Ev.now _)
theorem slices_Equal_l0 (s1 : List Int) : ∀ (s2 pre1 pre2 : List Int) (n : Int), n = (pre1.length : Int) + s1.length → pre1.length = pre2.length → s1.length = s2.length → n ≤ 9223372036854775806 →
 Ev (fun k => slices_Equal_int64_int64.l0 k (pre1 ++ s1) (pre2 ++ s2) n pre1.length) (decide (s1 = s2)) := by
 induction s1 with
 | nil => intro s2 pre1 pre2 n hn hp hs _; obtain rfl : s2 = [] := List.eq_nil_of_length_eq_zero (by simpa using hs.symm); subst hn; exact ev_succ (fun k => by rw [slices_Equal_int64_int64.l0, if_neg (by simp)]; simp)
 | cons b s1 ih =>
  intro s2 pre1 pre2 n hn hp hs hl
  obtain ⟨c, s2, rfl, hs'⟩ := len_cons2 hs
  simp only [List.length_cons, Int.natCast_add, Int.natCast_one] at hn
  by_cases hb : b = c
  · subst hb
    have h := ih s2 (pre1 ++ [b]) (pre2 ++ [b]) n (by simp; omega) (by simp [hp]) hs' hl
    have e : decide (b :: s1 = b :: s2) = decide (s1 = s2) := by simp
    rw [e]
    refine Ev.step (fun k => ?_) (by simpa using h)
    rw [slices_Equal_int64_int64.l0, if_pos (by omega), if_pos (by omega), if_pos (by simp; omega), if_pos (by simp; omega), rd_mid, rd_mid2 _ _ _ _ hp, if_pos rfl, wrap_id (by omega) (by omega)]
  · refine ev_succ (fun k => ?_)
    rw [slices_Equal_int64_int64.l0, if_pos (by omega), if_pos (by omega), if_pos (by simp; omega), if_pos (by simp; omega), rd_mid, rd_mid2 _ _ _ _ hp, if_neg hb]
    simp [hb]
theorem slices_Equal_ev {l m : List Int} (hl : (l.length : Int) ≤ 9223372036854775806) : Ev (fun k => slices_Equal_int64_int64.f k l m) (decide (l = m)) := by
 unfold slices_Equal_int64_int64.f
 by_cases h : (l.length : Int) = (m.length : Int)
 · exact ev_if h (slices_Equal_l0 l m [] [] l.length (by simp) rfl (by omega) hl)
 · rw [decide_eq_false (fun e => h (by rw [e]))]; exact ev_ifn h (Ev.now _)
def listsEq {α : Type} (p : α → α → Bool) : List α → List α → Bool
 | [], [] => true
 | x :: xs, y :: ys => p x y && listsEq p xs ys
 | _, _ => false
theorem listsEq_len {α : Type} {p : α → α → Bool} : ∀ {l m : List α}, l.length ≠ m.length → listsEq p l m = false
 | [], [], h => absurd rfl h
 | [], _ :: _, _ => rfl
 | _ :: _, [], _ => rfl
 | x :: xs, y :: ys, h => by simp only [listsEq]; rw [listsEq_len (l := xs) (m := ys) (by simpa using h)]; simp
theorem impl_EqualFunc_at_impl_SameCoins_1_l0 (s1 : List S89) (hin : ∀ x y : S89, (x.f3.length : Int) ≤ 1048576 → Ev (fun k => impl_SameCoins_1.f k x.f0 x.f1 x.f2 x.f3 x.f4 x.f5 y.f0 y.f1 y.f2 y.f3 y.f4 y.f5) (sameCoin x y)) : ∀ (s2 pre1 pre2 : List S89) (n : Int), n = (pre1.length : Int) + s1.length → pre1.length = pre2.length → s1.length = s2.length → n ≤ 1048576 → (∀ x ∈ s1, (x.f3.length : Int) ≤ 1048576) →
 Ev (fun k => impl_EqualFunc_at_impl_SameCoins_1.l0 k (pre2 ++ s2) (pre1 ++ s1) n pre1.length) (listsEq sameCoin s1 s2) := by
 induction s1 with
 | nil => intro s2 pre1 pre2 n hn hp hs _ _; obtain rfl : s2 = [] := List.eq_nil_of_length_eq_zero (by simpa using hs.symm); subst hn; exact ev_succ (fun k => by rw [impl_EqualFunc_at_impl_SameCoins_1.l0, if_neg (by simp)]; simp [listsEq])
 | cons x s1 ih =>
  intro s2 pre1 pre2 n hn hp hs hl ho
  obtain ⟨y, s2, rfl, hs'⟩ := len_cons2 hs
  simp only [List.length_cons, Int.natCast_add, Int.natCast_one] at hn
  have e1 : rd_T89 (pre1 ++ x :: s1) (pre1.length : Int) = x := by unfold rd_T89; simp
  have e2 : rd_T89 (pre2 ++ y :: s2) (pre1.length : Int) = y := by rw [hp]; unfold rd_T89; simp
  have h := ih s2 (pre1 ++ [x]) (pre2 ++ [y]) n (by simp; omega) (by simp [hp]) hs' hl (fun z hz => ho z (by simp [hz]))
  have h' : Ev (fun k => impl_EqualFunc_at_impl_SameCoins_1.l0 k (pre2 ++ y :: s2) (pre1 ++ x :: s1) n ((pre1.length : Int) + 1)) (listsEq sameCoin s1 s2) := by simpa using h
  refine Ev.step (f := fun k => (impl_SameCoins_1.f k x.f0 x.f1 x.f2 x.f3 x.f4 x.f5 y.f0 y.f1 y.f2 y.f3 y.f4 y.f5).bind fun t => if t = true then impl_EqualFunc_at_impl_SameCoins_1.l0 k (pre2 ++ y :: s2) (pre1 ++ x :: s1) n ((pre1.length : Int) + 1) else some false) (fun k => ?_) (ev_andb (hin x y (ho x (by simp))) (fun _ => h'))
  rw [impl_EqualFunc_at_impl_SameCoins_1.l0, if_pos (by omega), if_pos (by omega), if_pos (by simp; omega), if_pos (by simp; omega), e1, e2, wrap_id (by omega) (by omega)]
theorem impl_EqualFunc_at_impl_SameCoins_1_ev (hin : ∀ x y : S89, (x.f3.length : Int) ≤ 1048576 → Ev (fun k => impl_SameCoins_1.f k x.f0 x.f1 x.f2 x.f3 x.f4 x.f5 y.f0 y.f1 y.f2 y.f3 y.f4 y.f5) (sameCoin x y)) {l m : List S89} (hl : l.length ≤ 1048576 ∧ ∀ x ∈ l, (x.f3.length : Int) ≤ 1048576) : Ev (fun k => impl_EqualFunc_at_impl_SameCoins_1.f k l m) (listsEq sameCoin l m) := by
 unfold impl_EqualFunc_at_impl_SameCoins_1.f
 by_cases h : (l.length : Int) = (m.length : Int)
 · exact ev_if h (impl_EqualFunc_at_impl_SameCoins_1_l0 l hin m [] [] l.length (by simp) rfl (by omega) (by omega) hl.2)
 · rw [listsEq_len (by omega)]; exact ev_ifn h (Ev.now _)
theorem sameCoin_ev {g : Nat → Option Bool} (x y : S89) (hg : Ev g (decide (x.f3 = y.f3))) :
 Ev (fun k => if x.f0 = y.f0 then (if x.f1 = y.f1 then (if x.f2 = y.f2 then ((g k).bind fun t => (if t = true then (if x.f4 = y.f4 then (some (x.f5 == y.f5)) else (some false)) else (some false))) else (some false)) else (some false)) else (some false)) (sameCoin x y) := by
 exact ev_and (fun _ => ev_and (fun _ => ev_and (fun _ => ev_andb hg (fun _ => ev_and (fun _ => Ev.now _)))))
theorem impl_SameCoins_1_ev (x y : S89) (hx : (x.f3.length : Int) ≤ 1048576) : Ev (fun k => impl_SameCoins_1.f k x.f0 x.f1 x.f2 x.f3 x.f4 x.f5 y.f0 y.f1 y.f2 y.f3 y.f4 y.f5) (sameCoin x y) := by
 unfold impl_SameCoins_1.f
 exact sameCoin_ev x y (slices_Equal_ev (by omega))
theorem spec_l5SameCoin_ev (x y : S89) (hx : (x.f3.length : Int) ≤ 1048576) : Ev (fun k => spec_l5SameCoin.f k x.f0 x.f1 x.f2 x.f3 x.f4 x.f5 y.f0 y.f1 y.f2 y.f3 y.f4 y.f5) (sameCoin x y) := by
 have rx : rd_T89 [(⟨x.f0, x.f1, x.f2, x.f3, x.f4, x.f5⟩ : S89)] 0 = x := rfl
 have ry : rd_T89 [(⟨y.f0, y.f1, y.f2, y.f3, y.f4, y.f5⟩ : S89)] 0 = y := rfl
 unfold spec_l5SameCoin.f spec_l5SameCoin_in.f
 refine ev_if (by simp) (ev_if (by simp) ?_)
 rw [rx, ry]
 exact sameCoin_ev x y (spec_l1Same_ev (by omega))
theorem spec_SameCoins_l0 (s1 : List S89) : ∀ (s2 pre1 pre2 : List S89), pre1.length = pre2.length → s1.length = s2.length → (pre1.length : Int) + s1.length ≤ 1048576 → (∀ x ∈ s1, (x.f3.length : Int) ≤ 1048576) →
 Ev (fun k => spec_SameCoins.l0 k (pre1 ++ s1) (pre2 ++ s2) pre1.length) (listsEq sameCoin s1 s2) := by
 induction s1 with
 | nil => intro s2 pre1 pre2 hp hs _ _; obtain rfl : s2 = [] := List.eq_nil_of_length_eq_zero (by simpa using hs.symm); exact ev_succ (fun k => by rw [spec_SameCoins.l0, if_neg (by simp)]; simp [listsEq])
 | cons x s1 ih =>
  intro s2 pre1 pre2 hp hs hl ho
  obtain ⟨y, s2, rfl, hs'⟩ := len_cons2 hs
  simp only [List.length_cons, Int.natCast_add, Int.natCast_one] at hl
  have e1 : rd_T89 (pre1 ++ x :: s1) (pre1.length : Int) = x := by unfold rd_T89; simp
  have e2 : rd_T89 (pre2 ++ y :: s2) (pre1.length : Int) = y := by rw [hp]; unfold rd_T89; simp
  have h := ih s2 (pre1 ++ [x]) (pre2 ++ [y]) (by simp [hp]) hs' (by simp; omega) (fun z hz => ho z (by simp [hz]))
  have h' : Ev (fun k => spec_SameCoins.l0 k (pre1 ++ x :: s1) (pre2 ++ y :: s2) ((pre1.length : Int) + 1)) (listsEq sameCoin s1 s2) := by simpa using h
  refine Ev.step (f := fun k => (spec_l5SameCoin.f k x.f0 x.f1 x.f2 x.f3 x.f4 x.f5 y.f0 y.f1 y.f2 y.f3 y.f4 y.f5).bind fun t => if t = true then spec_SameCoins.l0 k (pre1 ++ x :: s1) (pre2 ++ y :: s2) ((pre1.length : Int) + 1) else some false) (fun k => ?_) (ev_andb (spec_l5SameCoin_ev x y (ho x (by simp))) (fun _ => h'))
  rw [spec_SameCoins.l0, if_pos (by simp; omega), if_pos (by omega), if_pos (by simp; omega), e1, e2, wrap_id (by omega) (by omega)]
theorem spec_SameCoins_ev {l m : List S89} (hl : l.length ≤ 1048576 ∧ ∀ x ∈ l, (x.f3.length : Int) ≤ 1048576) : Ev (fun k => spec_SameCoins.f k l m) (listsEq sameCoin l m) := by
 unfold spec_SameCoins.f
 by_cases h : (l.length : Int) = (m.length : Int)
 · exact ev_if h (spec_SameCoins_l0 l m [] [] rfl (by omega) (by simp; omega) hl.2)
 · rw [listsEq_len (by omega)]; exact ev_ifn h (Ev.now _)
theorem impl_SameCoins_ev {l m : List S89} (hl : l.length ≤ 1048576 ∧ ∀ x ∈ l, (x.f3.length : Int) ≤ 1048576) : Ev (fun k => impl_SameCoins.f k l m) (listsEq sameCoin l m) := by
 unfold impl_SameCoins.f
 exact ev_bind (impl_EqualFunc_at_impl_SameCoins_1_ev impl_SameCoins_1_ev hl) (Ev.now _)
theorem mapCoin_ok {l : List S86} (h : l.length ≤ 1048576 ∧ ∀ x ∈ l, (x.f3.length : Int) ≤ 1048576) : (l.map toC).length ≤ 1048576 ∧ ∀ x ∈ l.map toC, (x.f3.length : Int) ≤ 1048576 := by
 refine ⟨by simpa using h.1, fun x hx => ?_⟩
 obtain ⟨y, hy, rfl⟩ := List.mem_map.1 hx
 exact h.2 y hy
theorem FnExactSameCoins (l0 : List S86) (l1 : List S86) (o0 : okList ok86 l0) (o1 : okList ok86 l1) : ∃ k, laws_FnExactSameCoins.f k l0 l1 = some true := by
 refine Ev.rounds (g := fun k => laws_FnExactSameCoins.f k l0 l1) ?_
 unfold laws_FnExactSameCoins.f
 obtain ⟨r, hr, hr1, hr2⟩ := laws_szCoinS_ev o0.1 (fun x hx => (o0.2 x hx).2.2.2.1.1) 1048576 (by omega) (by omega)
 refine ev_bind hr ?_
 by_cases h : r < 0
 · exact ev_if h (Ev.now _)
 refine ev_ifn h ?_
 obtain ⟨q, hq, hq1, hq2⟩ := laws_szCoinS_ev o1.1 (fun x hx => (o1.2 x hx).2.2.2.1.1) r (by omega) (by omega)
 refine ev_bind hq ?_
 by_cases h' : q < 0
 · exact ev_if h' (Ev.now _)
 refine ev_ifn h' ?_
 have b := hr2 (by omega)
 have d := hq2 (by omega)
 have mb := mapCoin_ok b
 have md := mapCoin_ok d
 refine ev_bind (laws_toCoinS_ev b.1 b.2) (ev_bind (laws_toCoinS_ev d.1 d.2) (ev_bind (spec_SameCoins_ev mb) ?_))
 refine ev_bind (laws_toCoinS_ev b.1 b.2) (ev_bind (laws_toCoinS_ev d.1 d.2) (ev_bind (impl_SameCoins_ev mb) ?_))
 refine ev_ifn (by simp) ?_
 refine ev_bind (laws_toCoinS_ev b.1 b.2) (ev_bind (laws_eqCoinS_refl mb.1 mb.2) (ev_if rfl ?_))
 refine ev_bind (laws_toCoinS_ev d.1 d.2) (ev_bind (laws_eqCoinS_refl md.1 md.2) (ev_if rfl (Ev.now _)))
end Go.Proofs.Ytmjmcgheeljieaa.Pure
