/- for all transactions that are not too long, SameTxs answers as the reference does and leaves its arguments as they were. -/
import Derived.Test.YtjgnjhbleiempaaQFnExactSameTxsx1
import Derived.Test.YtjgnjhbleiempaaQFnExactSameTxsx2
import Derived.Test.YtjgnjhbleiempaaQFnExactSameTxsx3
import Derived.Test.YtjgnjhbleiempaaQFnExactSameTxsx4
import Derived.Test.YtjgnjhbleiempaaQFnExactSameTxsx5
import Derived.Test.YtjgnjhbleiempaaQFnExactSameTxsx6
import Derived.Test.YtjgnjhbleiempaaRFnExactSameTxs
namespace Go.Proofs.Ytjgnjhbleiempaa.Pure
open Go.RowKit Go.Proofs.Ytjgnjhbleiempaa.QFnExactSameTxs Go.Proofs.YtjgnjhbleiempaaW.PrintWords Go.Proofs.YtjgnjhbleiempaaW.PrintLast
set_option linter.unusedVariables false
set_option linter.unusedSimpArgs false
theorem wrap_id {x : Int} (h1 : -9223372036854775808 ≤ x) (h2 : x ≤ 9223372036854775807) : wrap64 x = x := by
 unfold wrap64; omega
theorem wf64 {x : Int} (h : (Lit.int .i64 x).wf = true) : -9223372036854775808 ≤ x ∧ x ≤ 9223372036854775807 := by
 simpa [Lit.wf, IntKind.min, IntKind.max, IntKind.signed, IntKind.bits] using h
theorem wf8 {x : Int} (h : (Lit.int .u8 x).wf = true) : 0 ≤ x ∧ x ≤ 255 := by
 simpa [Lit.wf, IntKind.min, IntKind.max, IntKind.signed, IntKind.bits] using h
theorem ev_some {α : Type} {g : Nat → Option α} {r : α} (h : ∀ k, g k = some r) : Ev g r := ⟨0, fun k _ => h k⟩
theorem ev_succ {α : Type} {g : Nat → Option α} {r : α} (h : ∀ k, g (k + 1) = some r) : Ev g r := Ev.step h (Ev.now r)
theorem ev_bind {α β : Type} {g : Nat → Option α} {f : α → Nat → Option β} {a : α} {r : β} (h : Ev g a) (k : Ev (f a) r) : Ev (fun n => (g n).bind fun t => f t n) r :=
 Ev.bind (f := fun n t => f t n) h k
theorem ev_if {α : Type} {p : Prop} [Decidable p] {g f : Nat → Option α} {r : α} (hp : p) (k : Ev g r) : Ev (fun n => if p then g n else f n) r :=
 Ev.congr (fun n => if_pos hp) k
theorem ev_ifn {α : Type} {p : Prop} [Decidable p] {g f : Nat → Option α} {r : α} (hp : ¬ p) (k : Ev f r) : Ev (fun n => if p then g n else f n) r :=
 Ev.congr (fun n => if_neg hp) k
theorem ev_bind0 {α β : Type} {g : Option α} {f : α → Nat → Option β} {a : α} {r : β} (h : g = some a) (k : Ev (f a) r) : Ev (fun n => g.bind fun t => f t n) r := by
 subst h; exact k
theorem rd_mid (pre : List Int) (b : Int) (suf : List Int) : rd (pre ++ b :: suf) (pre.length : Int) = b := by
 unfold rd
 simp
theorem rd_at {l : List Int} {i : Int} (h0 : 0 ≤ i) (h1 : i < l.length) : rd l i = l[i.toNat]'(by omega) := by
 unfold rd
 rw [List.getD_eq_getElem?_getD, List.getElem?_eq_getElem (by omega)]; rfl
theorem split_at_len {α : Type} (l : List α) (n : Nat) (h : n ≤ l.length) : ∃ pre suf, l = pre ++ suf ∧ pre.length = n :=
 ⟨l.take n, l.drop n, (List.take_append_drop n l).symm, by simp; omega⟩
theorem laws_szInt64S_some (l : List Int) (q : Int) (h0 : 0 ≤ q) (h1 : q ≤ 1048576) (hl : l.length ≤ maxLen) : ∃ r, laws_szInt64S.f l q = some r ∧ r ≤ q ∧ (0 ≤ r → (l.length : Int) ≤ q) := by
 unfold laws_szInt64S.f
 unfold maxLen at hl
 rw [wrap_id (by omega) (by omega)]
 by_cases h : q - (l.length : Int) < 0
 · rw [if_pos h]; exact ⟨-1, rfl, by omega, by omega⟩
 · rw [if_neg h]; exact ⟨_, rfl, by omega, by omega⟩
theorem laws_szIn_some (b : S155) (q : Int) (h0 : 0 ≤ q) (h1 : q ≤ 1048576) (hl : b.f2.length ≤ maxLen) : ∃ r, laws_szIn.f b.f0 b.f1 b.f2 q = some r ∧ r ≤ q ∧ (0 ≤ r → (b.f2.length : Int) ≤ q) := by
 unfold laws_szIn.f
 obtain ⟨r, hr, h2, h3⟩ := laws_szInt64S_some b.f2 q h0 h1 hl
 rw [hr]
 simp only [Option.bind_some]
 by_cases h : r < 0
 · rw [if_pos h]; exact ⟨-1, rfl, by omega, by omega⟩
 · rw [if_neg h]; exact ⟨r, rfl, h2, h3⟩
theorem laws_szInS_l0 (suf : List S155) : ∀ (pre : List S155) (q : Int), 0 ≤ q → q ≤ 1048576 → (∀ x ∈ suf, x.f2.length ≤ maxLen) → (pre.length : Int) + suf.length ≤ 1048576 →
 ∃ r, Ev (fun k => laws_szInS.l0 k (pre ++ suf) q pre.length) r ∧ r ≤ q ∧ (0 ≤ r → ∀ x ∈ suf, (x.f2.length : Int) ≤ 1048576) := by
 induction suf with
 | nil => intro pre q h0 h1 _ _; exact ⟨q, ev_succ (fun k => by rw [laws_szInS.l0, if_neg (by simp)]), by omega, by simp⟩
 | cons b suf ih =>
  intro pre q h0 h1 hs hl
  simp only [List.length_cons, Int.natCast_add, Int.natCast_one] at hl
  have hrd : rd_T155 (pre ++ b :: suf) (pre.length : Int) = b := by unfold rd_T155; simp
  obtain ⟨r, hr, hr1, hr2⟩ := laws_szIn_some b q h0 h1 (hs b (by simp))
  by_cases hneg : r < 0
  · refine ⟨-1, ev_succ (fun k => ?_), by omega, by omega⟩
    rw [laws_szInS.l0, if_pos (by simp; omega), if_pos (by omega), hrd, hr]
    simp only [Option.bind_some]
    rw [if_pos hneg]
  · obtain ⟨r', h', h1', h2'⟩ := ih (pre ++ [b]) r (by omega) (by omega) (fun x hx => hs x (by simp [hx])) (by simp; omega)
    refine ⟨r', Ev.step (fun k => ?_) h', by omega, fun h x hx => ?_⟩
    · rw [laws_szInS.l0, if_pos (by simp; omega), if_pos (by omega), hrd, hr]
      simp only [Option.bind_some]
      rw [if_neg hneg, wrap_id (by omega) (by omega)]
      simp
    · rcases List.mem_cons.1 hx with rfl | hx
      · have := hr2 (by omega); omega
      · exact h2' h x hx
theorem laws_szInS_ev {l : List S155} (hl : l.length ≤ maxLen) (hs : ∀ x ∈ l, x.f2.length ≤ maxLen) (q : Int) (h0 : 0 ≤ q) (h1 : q ≤ 1048576) :
 ∃ r, Ev (fun k => laws_szInS.f k l q) r ∧ r ≤ q ∧ (0 ≤ r → l.length ≤ 1048576 ∧ ∀ x ∈ l, (x.f2.length : Int) ≤ 1048576) := by
 unfold maxLen at hl
 unfold laws_szInS.f
 rw [wrap_id (by omega) (by omega)]
 by_cases h : q - (l.length : Int) < 0
 · exact ⟨-1, ev_if h (Ev.now _), by omega, by omega⟩
 · obtain ⟨r, hr, h2, h3⟩ := laws_szInS_l0 l [] (q - (l.length : Int)) (by omega) (by omega) hs (by simp; omega)
   exact ⟨r, ev_ifn h (by simpa using hr), by omega, fun hh => ⟨by omega, h3 hh⟩⟩
theorem laws_szOut_some (b : S157) (q : Int) (h0 : 0 ≤ q) (h1 : q ≤ 1048576) (hl : b.f1.length ≤ maxLen) : ∃ r, laws_szOut.f b.f0 b.f1 q = some r ∧ r ≤ q ∧ (0 ≤ r → (b.f1.length : Int) ≤ q) := by
 unfold laws_szOut.f
 obtain ⟨r, hr, h2, h3⟩ := laws_szInt64S_some b.f1 q h0 h1 hl
 rw [hr]
 simp only [Option.bind_some]
 by_cases h : r < 0
 · rw [if_pos h]; exact ⟨-1, rfl, by omega, by omega⟩
 · rw [if_neg h]; exact ⟨r, rfl, h2, h3⟩
theorem laws_szOutS_l0 (suf : List S157) : ∀ (pre : List S157) (q : Int), 0 ≤ q → q ≤ 1048576 → (∀ x ∈ suf, x.f1.length ≤ maxLen) → (pre.length : Int) + suf.length ≤ 1048576 →
 ∃ r, Ev (fun k => laws_szOutS.l0 k (pre ++ suf) q pre.length) r ∧ r ≤ q ∧ (0 ≤ r → ∀ x ∈ suf, (x.f1.length : Int) ≤ 1048576) := by
 induction suf with
 | nil => intro pre q h0 h1 _ _; exact ⟨q, ev_succ (fun k => by rw [laws_szOutS.l0, if_neg (by simp)]), by omega, by simp⟩
 | cons b suf ih =>
  intro pre q h0 h1 hs hl
  simp only [List.length_cons, Int.natCast_add, Int.natCast_one] at hl
  have hrd : rd_T157 (pre ++ b :: suf) (pre.length : Int) = b := by unfold rd_T157; simp
  obtain ⟨r, hr, hr1, hr2⟩ := laws_szOut_some b q h0 h1 (hs b (by simp))
  by_cases hneg : r < 0
  · refine ⟨-1, ev_succ (fun k => ?_), by omega, by omega⟩
    rw [laws_szOutS.l0, if_pos (by simp; omega), if_pos (by omega), hrd, hr]
    simp only [Option.bind_some]
    rw [if_pos hneg]
  · obtain ⟨r', h', h1', h2'⟩ := ih (pre ++ [b]) r (by omega) (by omega) (fun x hx => hs x (by simp [hx])) (by simp; omega)
    refine ⟨r', Ev.step (fun k => ?_) h', by omega, fun h x hx => ?_⟩
    · rw [laws_szOutS.l0, if_pos (by simp; omega), if_pos (by omega), hrd, hr]
      simp only [Option.bind_some]
      rw [if_neg hneg, wrap_id (by omega) (by omega)]
      simp
    · rcases List.mem_cons.1 hx with rfl | hx
      · have := hr2 (by omega); omega
      · exact h2' h x hx
theorem laws_szOutS_ev {l : List S157} (hl : l.length ≤ maxLen) (hs : ∀ x ∈ l, x.f1.length ≤ maxLen) (q : Int) (h0 : 0 ≤ q) (h1 : q ≤ 1048576) :
 ∃ r, Ev (fun k => laws_szOutS.f k l q) r ∧ r ≤ q ∧ (0 ≤ r → l.length ≤ 1048576 ∧ ∀ x ∈ l, (x.f1.length : Int) ≤ 1048576) := by
 unfold maxLen at hl
 unfold laws_szOutS.f
 rw [wrap_id (by omega) (by omega)]
 by_cases h : q - (l.length : Int) < 0
 · exact ⟨-1, ev_if h (Ev.now _), by omega, by omega⟩
 · obtain ⟨r, hr, h2, h3⟩ := laws_szOutS_l0 l [] (q - (l.length : Int)) (by omega) (by omega) hs (by simp; omega)
   exact ⟨r, ev_ifn h (by simpa using hr), by omega, fun hh => ⟨by omega, h3 hh⟩⟩
theorem laws_toInt64S_l0 (suf : List Int) : ∀ (pre : List Int) (z : List Int), z.length = suf.length → (pre.length : Int) + suf.length ≤ 9223372036854775806 →
 Ev (fun k => laws_toInt64S.l0 k (pre ++ suf) (pre ++ z) pre.length) (pre ++ suf) := by
 induction suf with
 | nil => intro pre z hz _; obtain rfl : z = [] := List.eq_nil_of_length_eq_zero (by simpa using hz); exact ev_succ (fun k => by simp [laws_toInt64S.l0])
 | cons b suf ih =>
  intro pre z hz hl
  obtain ⟨c, z, rfl⟩ : ∃ c z', z = c :: z' := by cases z with | nil => simp at hz | cons c z => exact ⟨c, z, rfl⟩
  simp only [List.length_cons, Int.natCast_add, Int.natCast_one] at hl hz
  have h := ih (pre ++ [b]) z (by omega) (by simp; omega)
  refine Ev.step (fun k => ?_) (by simpa using h)
  rw [laws_toInt64S.l0]
  rw [if_pos (by simp; omega), if_pos (by omega), if_pos (by simp; omega), rd_mid, wrap_id (by omega) (by omega)]
  simp
theorem laws_toInt64S_ev {l : List Int} (hl : l.length ≤ 17592186043904) : Ev (fun k => laws_toInt64S.f k l) l := by
 have h := laws_toInt64S_l0 l [] (List.replicate l.length 0) (by simp) (by simp; omega)
 unfold laws_toInt64S.f
 refine ev_if (by omega) (ev_if (by simp; omega) ?_)
 simpa using h
def cIn (x : S155) : S111 := ⟨x.f0, x.f1, x.f2⟩
theorem laws_toIn_ev (b : S155) (hl : (b.f2.length : Int) ≤ 1048576) : Ev (fun k => laws_toIn.f k b.f0 b.f1 b.f2) (b.f0, b.f1, b.f2) := by
 unfold laws_toIn.f
 exact ev_bind (laws_toInt64S_ev (by omega)) (Ev.now _)
theorem laws_toInS_l0 (suf : List S155) : ∀ (pre : List S155) (z : List S111), z.length = suf.length → (∀ x ∈ suf, (x.f2.length : Int) ≤ 1048576) → (pre.length : Int) + suf.length ≤ 1048576 →
 Ev (fun k => laws_toInS.l0 k (pre ++ suf) (pre.map cIn ++ z) pre.length) ((pre ++ suf).map cIn) := by
 induction suf with
 | nil => intro pre z hz _ _; obtain rfl : z = [] := List.eq_nil_of_length_eq_zero (by simpa using hz); exact ev_succ (fun k => by rw [laws_toInS.l0, if_neg (by simp)]; simp)
 | cons b suf ih =>
  intro pre z hz hs hl
  obtain ⟨c, z, rfl⟩ : ∃ c z', z = c :: z' := by cases z with | nil => simp at hz | cons c z => exact ⟨c, z, rfl⟩
  simp only [List.length_cons, Int.natCast_add, Int.natCast_one] at hl hz
  have hrd : rd_T155 (pre ++ b :: suf) (pre.length : Int) = b := by unfold rd_T155; simp
  have h := ih (pre ++ [b]) z (by omega) (fun x hx => hs x (by simp [hx])) (by simp; omega)
  refine Ev.step (f := fun k => (laws_toIn.f k b.f0 b.f1 b.f2).bind fun bt => laws_toInS.l0 k (pre ++ b :: suf) ((pre.map cIn ++ c :: z).set pre.length (⟨bt.1, bt.2.1, bt.2.2⟩ : S111)) ((pre.length : Int) + 1)) (fun k => ?_) (ev_bind (laws_toIn_ev b (hs b (by simp))) ?_)
  · rw [laws_toInS.l0, if_pos (by simp; omega), if_pos (by omega), hrd]
    refine congrArg _ (funext fun bt => ?_)
    rw [if_pos (by simp; omega), wrap_id (by omega) (by omega)]
    simp
  · have e : (pre.map cIn ++ c :: z).set pre.length (⟨b.f0, b.f1, b.f2⟩ : S111) = (pre ++ [b]).map cIn ++ z := by
     rw [List.set_append_right _ _ (by simp)]; simp [cIn]
    simp only [e]
    simpa using h
theorem laws_toInS_ev {l : List S155} (hl : l.length ≤ 1048576) (hs : ∀ x ∈ l, (x.f2.length : Int) ≤ 1048576) : Ev (fun k => laws_toInS.f k l) (l.map cIn) := by
 have h := laws_toInS_l0 l [] (List.replicate l.length z111) (by simp) hs (by simp; omega)
 unfold laws_toInS.f
 refine ev_if (by omega) (ev_if (by simp; omega) ?_)
 simpa using h
def cOut (x : S157) : S116 := ⟨x.f0, x.f1⟩
theorem laws_toOut_ev (b : S157) (hl : (b.f1.length : Int) ≤ 1048576) : Ev (fun k => laws_toOut.f k b.f0 b.f1) (b.f0, b.f1) := by
 unfold laws_toOut.f
 exact ev_bind (laws_toInt64S_ev (by omega)) (Ev.now _)
theorem laws_toOutS_l0 (suf : List S157) : ∀ (pre : List S157) (z : List S116), z.length = suf.length → (∀ x ∈ suf, (x.f1.length : Int) ≤ 1048576) → (pre.length : Int) + suf.length ≤ 1048576 →
 Ev (fun k => laws_toOutS.l0 k (pre ++ suf) (pre.map cOut ++ z) pre.length) ((pre ++ suf).map cOut) := by
 induction suf with
 | nil => intro pre z hz _ _; obtain rfl : z = [] := List.eq_nil_of_length_eq_zero (by simpa using hz); exact ev_succ (fun k => by rw [laws_toOutS.l0, if_neg (by simp)]; simp)
 | cons b suf ih =>
  intro pre z hz hs hl
  obtain ⟨c, z, rfl⟩ : ∃ c z', z = c :: z' := by cases z with | nil => simp at hz | cons c z => exact ⟨c, z, rfl⟩
  simp only [List.length_cons, Int.natCast_add, Int.natCast_one] at hl hz
  have hrd : rd_T157 (pre ++ b :: suf) (pre.length : Int) = b := by unfold rd_T157; simp
  have h := ih (pre ++ [b]) z (by omega) (fun x hx => hs x (by simp [hx])) (by simp; omega)
  refine Ev.step (f := fun k => (laws_toOut.f k b.f0 b.f1).bind fun bt => laws_toOutS.l0 k (pre ++ b :: suf) ((pre.map cOut ++ c :: z).set pre.length (⟨bt.1, bt.2⟩ : S116)) ((pre.length : Int) + 1)) (fun k => ?_) (ev_bind (laws_toOut_ev b (hs b (by simp))) ?_)
  · rw [laws_toOutS.l0, if_pos (by simp; omega), if_pos (by omega), hrd]
    refine congrArg _ (funext fun bt => ?_)
    rw [if_pos (by simp; omega), wrap_id (by omega) (by omega)]
    simp
  · have e : (pre.map cOut ++ c :: z).set pre.length (⟨b.f0, b.f1⟩ : S116) = (pre ++ [b]).map cOut ++ z := by
     rw [List.set_append_right _ _ (by simp)]; simp [cOut]
    simp only [e]
    simpa using h
theorem laws_toOutS_ev {l : List S157} (hl : l.length ≤ 1048576) (hs : ∀ x ∈ l, (x.f1.length : Int) ≤ 1048576) : Ev (fun k => laws_toOutS.f k l) (l.map cOut) := by
 have h := laws_toOutS_l0 l [] (List.replicate l.length z116) (by simp) hs (by simp; omega)
 unfold laws_toOutS.f
 refine ev_if (by omega) (ev_if (by simp; omega) ?_)
 simpa using h
theorem laws_eqInt64S_l0 (suf : List Int) : ∀ (pre : List Int), (pre.length : Int) + suf.length ≤ 9223372036854775806 →
 Ev (fun k => laws_eqInt64S.l0 k (pre ++ suf) (pre ++ suf) pre.length) true := by
 induction suf with
 | nil => intro pre _; exact ev_succ (fun k => by simp [laws_eqInt64S.l0])
 | cons b suf ih =>
  intro pre hl
  simp only [List.length_cons, Int.natCast_add, Int.natCast_one] at hl
  have h := ih (pre ++ [b]) (by simp; omega)
  refine Ev.step (fun k => ?_) (by simpa using h)
  rw [laws_eqInt64S.l0]
  rw [if_pos (by simp; omega), if_pos (by omega), if_pos (by simp; omega), if_pos rfl, wrap_id (by omega) (by omega)]
theorem laws_eqInt64S_refl {l : List Int} (hl : l.length ≤ 140737488351232) : Ev (fun k => laws_eqInt64S.f k l l) true := by
 unfold laws_eqInt64S.f
 exact ev_if rfl (laws_eqInt64S_l0 l [] (by simp; omega))
theorem laws_eqIn_refl (b : S111) (hl : (b.f2.length : Int) ≤ 1048576) : Ev (fun k => laws_eqIn.f k b.f0 b.f1 b.f2 b.f0 b.f1 b.f2) true := by
 unfold laws_eqIn.f
 exact ev_if rfl (ev_if rfl (ev_bind (laws_eqInt64S_refl (by omega)) (ev_if rfl (Ev.now _))))
theorem laws_eqInS_l0 (suf : List S111) : ∀ (pre : List S111), (∀ x ∈ suf, (x.f2.length : Int) ≤ 1048576) → (pre.length : Int) + suf.length ≤ 1048576 →
 Ev (fun k => laws_eqInS.l0 k (pre ++ suf) (pre ++ suf) pre.length) true := by
 induction suf with
 | nil => intro pre _ _; exact ev_succ (fun k => by rw [laws_eqInS.l0, if_neg (by simp)])
 | cons b suf ih =>
  intro pre hs hl
  simp only [List.length_cons, Int.natCast_add, Int.natCast_one] at hl
  have hrd : rd_T111 (pre ++ b :: suf) (pre.length : Int) = b := by unfold rd_T111; simp
  have h := ih (pre ++ [b]) (fun x hx => hs x (by simp [hx])) (by simp; omega)
  refine Ev.step (f := fun k => (laws_eqIn.f k b.f0 b.f1 b.f2 b.f0 b.f1 b.f2).bind fun t => if t = true then laws_eqInS.l0 k (pre ++ b :: suf) (pre ++ b :: suf) ((pre.length : Int) + 1) else some false) (fun k => ?_) (ev_bind (laws_eqIn_refl b (hs b (by simp))) (ev_if rfl ?_))
  · rw [laws_eqInS.l0, if_pos (by simp; omega), if_pos (by omega), if_pos (by simp; omega), hrd, wrap_id (by omega) (by omega)]
  · simpa using h
theorem laws_eqInS_refl {l : List S111} (hl : l.length ≤ 1048576) (hs : ∀ x ∈ l, (x.f2.length : Int) ≤ 1048576) : Ev (fun k => laws_eqInS.f k l l) true := by
 unfold laws_eqInS.f
 exact ev_if rfl (laws_eqInS_l0 l [] hs (by simp; omega))
theorem laws_eqOut_refl (b : S116) (hl : (b.f1.length : Int) ≤ 1048576) : Ev (fun k => laws_eqOut.f k b.f0 b.f1 b.f0 b.f1) true := by
 unfold laws_eqOut.f
 exact ev_if rfl (ev_bind (laws_eqInt64S_refl (by omega)) (ev_if rfl (Ev.now _)))
theorem laws_eqOutS_l0 (suf : List S116) : ∀ (pre : List S116), (∀ x ∈ suf, (x.f1.length : Int) ≤ 1048576) → (pre.length : Int) + suf.length ≤ 1048576 →
 Ev (fun k => laws_eqOutS.l0 k (pre ++ suf) (pre ++ suf) pre.length) true := by
 induction suf with
 | nil => intro pre _ _; exact ev_succ (fun k => by rw [laws_eqOutS.l0, if_neg (by simp)])
 | cons b suf ih =>
  intro pre hs hl
  simp only [List.length_cons, Int.natCast_add, Int.natCast_one] at hl
  have hrd : rd_T116 (pre ++ b :: suf) (pre.length : Int) = b := by unfold rd_T116; simp
  have h := ih (pre ++ [b]) (fun x hx => hs x (by simp [hx])) (by simp; omega)
  refine Ev.step (f := fun k => (laws_eqOut.f k b.f0 b.f1 b.f0 b.f1).bind fun t => if t = true then laws_eqOutS.l0 k (pre ++ b :: suf) (pre ++ b :: suf) ((pre.length : Int) + 1) else some false) (fun k => ?_) (ev_bind (laws_eqOut_refl b (hs b (by simp))) (ev_if rfl ?_))
  · rw [laws_eqOutS.l0, if_pos (by simp; omega), if_pos (by omega), if_pos (by simp; omega), hrd, wrap_id (by omega) (by omega)]
  · simpa using h
theorem laws_eqOutS_refl {l : List S116} (hl : l.length ≤ 1048576) (hs : ∀ x ∈ l, (x.f1.length : Int) ≤ 1048576) : Ev (fun k => laws_eqOutS.f k l l) true := by
 unfold laws_eqOutS.f
 exact ev_if rfl (laws_eqOutS_l0 l [] hs (by simp; omega))
theorem laws_szTx_ev {a : Int} {l1 : List S155} {l2 : List S157} (h1 : l1.length ≤ maxLen) (s1 : ∀ x ∈ l1, x.f2.length ≤ maxLen) (h2 : l2.length ≤ maxLen) (s2 : ∀ x ∈ l2, x.f1.length ≤ maxLen) (q : Int) (q0 : 0 ≤ q) (q1 : q ≤ 1048576) :
 ∃ r, Ev (fun k => laws_szTx.f k a l1 l2 q) r ∧ r ≤ q ∧ (0 ≤ r → (l1.length ≤ 1048576 ∧ ∀ x ∈ l1, (x.f2.length : Int) ≤ 1048576) ∧ (l2.length ≤ 1048576 ∧ ∀ x ∈ l2, (x.f1.length : Int) ≤ 1048576)) := by
 unfold laws_szTx.f
 obtain ⟨r, hr, hr1, hr2⟩ := laws_szInS_ev h1 s1 q q0 q1
 by_cases h : r < 0
 · exact ⟨-1, ev_bind hr (ev_if h (Ev.now _)), by omega, by omega⟩
 · obtain ⟨r', hr', hr1', hr2'⟩ := laws_szOutS_ev h2 s2 r (by omega) (by omega)
   by_cases h' : r' < 0
   · exact ⟨-1, ev_bind hr (ev_ifn h (ev_bind hr' (ev_if h' (Ev.now _)))), by omega, by omega⟩
   · exact ⟨r', ev_bind hr (ev_ifn h (ev_bind hr' (ev_ifn h' (Ev.now _)))), by omega, fun _ => ⟨hr2 (by omega), hr2' (by omega)⟩⟩
theorem laws_toTx_ev {a : Int} {l1 : List S155} {l2 : List S157} (h1 : l1.length ≤ 1048576 ∧ ∀ x ∈ l1, (x.f2.length : Int) ≤ 1048576) (h2 : l2.length ≤ 1048576 ∧ ∀ x ∈ l2, (x.f1.length : Int) ≤ 1048576) :
 Ev (fun k => laws_toTx.f k a l1 l2) (a, l1.map cIn, l2.map cOut) := by
 unfold laws_toTx.f
 exact ev_bind (laws_toInS_ev h1.1 h1.2) (ev_bind (laws_toOutS_ev h2.1 h2.2) (Ev.now _))
theorem laws_eqTx_refl {a : Int} {l1 : List S111} {l2 : List S116} (h1 : l1.length ≤ 1048576 ∧ ∀ x ∈ l1, (x.f2.length : Int) ≤ 1048576) (h2 : l2.length ≤ 1048576 ∧ ∀ x ∈ l2, (x.f1.length : Int) ≤ 1048576) :
 Ev (fun k => laws_eqTx.f k a l1 l2 a l1 l2) true := by
 unfold laws_eqTx.f
 exact ev_if rfl (ev_bind (laws_eqInS_refl h1.1 h1.2) (ev_if rfl (ev_bind (laws_eqOutS_refl h2.1 h2.2) (ev_if rfl (Ev.now _)))))
theorem cIn_ok {l : List S155} (h : l.length ≤ 1048576 ∧ ∀ x ∈ l, (x.f2.length : Int) ≤ 1048576) : (l.map cIn).length ≤ 1048576 ∧ ∀ x ∈ l.map cIn, (x.f2.length : Int) ≤ 1048576 := by
 refine ⟨by simpa using h.1, fun x hx => ?_⟩
 obtain ⟨y, hy, rfl⟩ := List.mem_map.1 hx
 exact h.2 y hy
theorem cOut_ok {l : List S157} (h : l.length ≤ 1048576 ∧ ∀ x ∈ l, (x.f1.length : Int) ≤ 1048576) : (l.map cOut).length ≤ 1048576 ∧ ∀ x ∈ l.map cOut, (x.f1.length : Int) ≤ 1048576 := by
 refine ⟨by simpa using h.1, fun x hx => ?_⟩
 obtain ⟨y, hy, rfl⟩ := List.mem_map.1 hx
 exact h.2 y hy
def sameIn2 (x y : S111) : Bool := decide (x.f0 = y.f0) && (decide (x.f1 = y.f1) && decide (x.f2 = y.f2))
def sameOut (x y : S116) : Bool := decide (x.f0 = y.f0) && decide (x.f1 = y.f1)
theorem ev_and {p : Prop} [Decidable p] {g : Nat → Option Bool} {b : Bool} (h : p → Ev g b) : Ev (fun k => if p then g k else some false) (decide p && b) := by
 by_cases hp : p
 · rw [decide_eq_true hp, Bool.true_and]; exact ev_if hp (h hp)
 · rw [decide_eq_false hp, Bool.false_and]; exact ev_ifn hp (Ev.now _)
theorem ev_andb {f g : Nat → Option Bool} {a b : Bool} (hf : Ev f a) (h : a = true → Ev g b) : Ev (fun k => (f k).bind fun t => if t = true then g k else some false) (a && b) := by
 refine ev_bind (f := fun t k => if t = true then g k else some false) hf ?_
 cases a with
 | true => rw [Bool.true_and]; exact ev_if rfl (h rfl)
 | false => rw [Bool.false_and]; exact ev_ifn (by decide) (Ev.now _)
theorem len_cons2 {α : Type} {b : α} {s : List α} {l : List α} (h : (b :: s).length = l.length) : ∃ c s', l = c :: s' ∧ s.length = s'.length := by
 cases l with
 | nil => simp at h
 | cons c s' => exact ⟨c, s', rfl, by simpa using h⟩
theorem rd_mid2 (pre pre2 : List Int) (b : Int) (suf : List Int) (h : pre.length = pre2.length) : rd (pre2 ++ b :: suf) (pre.length : Int) = b := by rw [h]; exact rd_mid _ _ _
theorem spec_l1Same_l0 (s1 : List Int) : ∀ (s2 pre1 pre2 : List Int), pre1.length = pre2.length → s1.length = s2.length → (pre1.length : Int) + s1.length ≤ 9223372036854775806 →
 Ev (fun k => spec_l1Same.l0 k (pre1 ++ s1) (pre2 ++ s2) pre1.length) (decide (s1 = s2)) := by
 induction s1 with
 | nil => intro s2 pre1 pre2 hp hs _; obtain rfl : s2 = [] := List.eq_nil_of_length_eq_zero (by simpa using hs.symm); exact ev_succ (fun k => by rw [spec_l1Same.l0, if_neg (by simp)]; simp)
 | cons b s1 ih =>
  intro s2 pre1 pre2 hp hs hl
  obtain ⟨c, s2, rfl, hs'⟩ := len_cons2 hs
  simp only [List.length_cons, Int.natCast_add, Int.natCast_one] at hl
  by_cases hb : b = c
  · subst hb
    have h := ih s2 (pre1 ++ [b]) (pre2 ++ [b]) (by simp [hp]) hs' (by simp; omega)
    have e : decide (b :: s1 = b :: s2) = decide (s1 = s2) := by simp
    rw [e]
    refine Ev.step (fun k => ?_) (by simpa using h)
    rw [spec_l1Same.l0, if_pos (by simp; omega), if_pos (by omega), if_pos (by simp; omega), rd_mid, rd_mid2 _ _ _ _ hp, if_pos rfl, wrap_id (by omega) (by omega)]
  · refine ev_succ (fun k => ?_)
    rw [spec_l1Same.l0, if_pos (by simp; omega), if_pos (by omega), if_pos (by simp; omega), rd_mid, rd_mid2 _ _ _ _ hp, if_neg hb]
    simp [hb]
theorem spec_l1Same_ev {l m : List Int} (hl : (l.length : Int) ≤ 9223372036854775806) : Ev (fun k => spec_l1Same.f k l m) (decide (l = m)) := by
 unfold spec_l1Same.f
 by_cases h : (l.length : Int) = (m.length : Int)
 · exact ev_if h (spec_l1Same_l0 l m [] [] rfl (by omega) (by simpa using hl))
 · rw [decide_eq_false (fun e => h (by rw [e]))]; exact ev_ifn h (Ev.now _)
theorem slices_Equal_l0 (s1 : List Int) : ∀ (s2 pre1 pre2 : List Int) (n : Int), n = (pre1.length : Int) + s1.length → pre1.length = pre2.length → s1.length = s2.length → n ≤ 9223372036854775806 →
 Ev (fun k => slices_Equal_int64_int64.l0 k (pre1 ++ s1) (pre2 ++ s2) n pre1.length) (decide (s1 = s2)) := by
 induction s1 with
 | nil => intro s2 pre1 pre2 n hn hp hs _; obtain rfl : s2 = [] := List.eq_nil_of_length_eq_zero (by simpa using hs.symm); subst hn; exact ev_succ (fun k => by rw [slices_Equal_int64_int64.l0, if_neg (by simp)]; simp)
 | cons b s1 ih =>
  intro s2 pre1 pre2 n hn hp hs hl
  obtain ⟨c, s2, rfl, hs'⟩ := len_cons2 hs
  simp only [List.length_cons, Int.natCast_add, Int.natCast_one] at hn
  by_cases hb : b = c
  · subst hb
    have h := ih s2 (pre1 ++ [b]) (pre2 ++ [b]) n (by simp; omega) (by simp [hp]) hs' hl
    have e : decide (b :: s1 = b :: s2) = decide (s1 = s2) := by simp
    rw [e]
    refine Ev.step (fun k => ?_) (by simpa using h)
    rw [slices_Equal_int64_int64.l0, if_pos (by omega), if_pos (by omega), if_pos (by simp; omega), if_pos (by simp; omega), rd_mid, rd_mid2 _ _ _ _ hp, if_pos rfl, wrap_id (by omega) (by omega)]
  · refine ev_succ (fun k => ?_)
    rw [slices_Equal_int64_int64.l0, if_pos (by omega), if_pos (by omega), if_pos (by simp; omega), if_pos (by simp; omega), rd_mid, rd_mid2 _ _ _ _ hp, if_neg hb]
    simp [hb]
theorem slices_Equal_ev {l m : List Int} (hl : (l.length : Int) ≤ 9223372036854775806) : Ev (fun k => slices_Equal_int64_int64.f k l m) (decide (l = m)) := by
 unfold slices_Equal_int64_int64.f
 by_cases h : (l.length : Int) = (m.length : Int)
 · exact ev_if h (slices_Equal_l0 l m [] [] l.length (by simp) rfl (by omega) hl)
 · rw [decide_eq_false (fun e => h (by rw [e]))]; exact ev_ifn h (Ev.now _)
def listsEq {α : Type} (p : α → α → Bool) : List α → List α → Bool
 | [], [] => true
 | x :: xs, y :: ys => p x y && listsEq p xs ys
 | _, _ => false
theorem listsEq_len {α : Type} {p : α → α → Bool} : ∀ {l m : List α}, l.length ≠ m.length → listsEq p l m = false
 | [], [], h => absurd rfl h
 | [], _ :: _, _ => rfl
 | _ :: _, [], _ => rfl
 | x :: xs, y :: ys, h => by simp only [listsEq]; rw [listsEq_len (l := xs) (m := ys) (by simpa using h)]; simp
theorem impl_EqualFunc_at_impl_SameTxs_1_l0 (s1 : List S111) (hin : ∀ x y : S111, (x.f2.length : Int) ≤ 1048576 → Ev (fun k => impl_SameTxs_1.f k x.f0 x.f1 x.f2 y.f0 y.f1 y.f2) (sameIn2 x y)) : ∀ (s2 pre1 pre2 : List S111) (n : Int), n = (pre1.length : Int) + s1.length → pre1.length = pre2.length → s1.length = s2.length → n ≤ 1048576 → (∀ x ∈ s1, (x.f2.length : Int) ≤ 1048576) →
 Ev (fun k => impl_EqualFunc_at_impl_SameTxs_1.l0 k (pre2 ++ s2) (pre1 ++ s1) n pre1.length) (listsEq sameIn2 s1 s2) := by
 induction s1 with
 | nil => intro s2 pre1 pre2 n hn hp hs _ _; obtain rfl : s2 = [] := List.eq_nil_of_length_eq_zero (by simpa using hs.symm); subst hn; exact ev_succ (fun k => by rw [impl_EqualFunc_at_impl_SameTxs_1.l0, if_neg (by simp)]; simp [listsEq])
 | cons x s1 ih =>
  intro s2 pre1 pre2 n hn hp hs hl ho
  obtain ⟨y, s2, rfl, hs'⟩ := len_cons2 hs
  simp only [List.length_cons, Int.natCast_add, Int.natCast_one] at hn
  have e1 : rd_T111 (pre1 ++ x :: s1) (pre1.length : Int) = x := by unfold rd_T111; simp
  have e2 : rd_T111 (pre2 ++ y :: s2) (pre1.length : Int) = y := by rw [hp]; unfold rd_T111; simp
  have h := ih s2 (pre1 ++ [x]) (pre2 ++ [y]) n (by simp; omega) (by simp [hp]) hs' hl (fun z hz => ho z (by simp [hz]))
  have h' : Ev (fun k => impl_EqualFunc_at_impl_SameTxs_1.l0 k (pre2 ++ y :: s2) (pre1 ++ x :: s1) n ((pre1.length : Int) + 1)) (listsEq sameIn2 s1 s2) := by simpa using h
  refine Ev.step (f := fun k => (impl_SameTxs_1.f k x.f0 x.f1 x.f2 y.f0 y.f1 y.f2).bind fun t => if t = true then impl_EqualFunc_at_impl_SameTxs_1.l0 k (pre2 ++ y :: s2) (pre1 ++ x :: s1) n ((pre1.length : Int) + 1) else some false) (fun k => ?_) (ev_andb (hin x y (ho x (by simp))) (fun _ => h'))
  rw [impl_EqualFunc_at_impl_SameTxs_1.l0, if_pos (by omega), if_pos (by omega), if_pos (by simp; omega), if_pos (by simp; omega), e1, e2, wrap_id (by omega) (by omega)]
theorem impl_EqualFunc_at_impl_SameTxs_1_ev (hin : ∀ x y : S111, (x.f2.length : Int) ≤ 1048576 → Ev (fun k => impl_SameTxs_1.f k x.f0 x.f1 x.f2 y.f0 y.f1 y.f2) (sameIn2 x y)) {l m : List S111} (hl : l.length ≤ 1048576 ∧ ∀ x ∈ l, (x.f2.length : Int) ≤ 1048576) : Ev (fun k => impl_EqualFunc_at_impl_SameTxs_1.f k l m) (listsEq sameIn2 l m) := by
 unfold impl_EqualFunc_at_impl_SameTxs_1.f
 by_cases h : (l.length : Int) = (m.length : Int)
 · exact ev_if h (impl_EqualFunc_at_impl_SameTxs_1_l0 l hin m [] [] l.length (by simp) rfl (by omega) (by omega) hl.2)
 · rw [listsEq_len (by omega)]; exact ev_ifn h (Ev.now _)
theorem impl_EqualFunc_at_impl_SameTxs_2_l0 (s1 : List S116) (hin : ∀ x y : S116, (x.f1.length : Int) ≤ 1048576 → Ev (fun k => impl_SameTxs_2.f k x.f0 x.f1 y.f0 y.f1) (sameOut x y)) : ∀ (s2 pre1 pre2 : List S116) (n : Int), n = (pre1.length : Int) + s1.length → pre1.length = pre2.length → s1.length = s2.length → n ≤ 1048576 → (∀ x ∈ s1, (x.f1.length : Int) ≤ 1048576) →
 Ev (fun k => impl_EqualFunc_at_impl_SameTxs_2.l0 k (pre2 ++ s2) (pre1 ++ s1) n pre1.length) (listsEq sameOut s1 s2) := by
 induction s1 with
 | nil => intro s2 pre1 pre2 n hn hp hs _ _; obtain rfl : s2 = [] := List.eq_nil_of_length_eq_zero (by simpa using hs.symm); subst hn; exact ev_succ (fun k => by rw [impl_EqualFunc_at_impl_SameTxs_2.l0, if_neg (by simp)]; simp [listsEq])
 | cons x s1 ih =>
  intro s2 pre1 pre2 n hn hp hs hl ho
  obtain ⟨y, s2, rfl, hs'⟩ := len_cons2 hs
  simp only [List.length_cons, Int.natCast_add, Int.natCast_one] at hn
  have e1 : rd_T116 (pre1 ++ x :: s1) (pre1.length : Int) = x := by unfold rd_T116; simp
  have e2 : rd_T116 (pre2 ++ y :: s2) (pre1.length : Int) = y := by rw [hp]; unfold rd_T116; simp
  have h := ih s2 (pre1 ++ [x]) (pre2 ++ [y]) n (by simp; omega) (by simp [hp]) hs' hl (fun z hz => ho z (by simp [hz]))
  have h' : Ev (fun k => impl_EqualFunc_at_impl_SameTxs_2.l0 k (pre2 ++ y :: s2) (pre1 ++ x :: s1) n ((pre1.length : Int) + 1)) (listsEq sameOut s1 s2) := by simpa using h
  refine Ev.step (f := fun k => (impl_SameTxs_2.f k x.f0 x.f1 y.f0 y.f1).bind fun t => if t = true then impl_EqualFunc_at_impl_SameTxs_2.l0 k (pre2 ++ y :: s2) (pre1 ++ x :: s1) n ((pre1.length : Int) + 1) else some false) (fun k => ?_) (ev_andb (hin x y (ho x (by simp))) (fun _ => h'))
  rw [impl_EqualFunc_at_impl_SameTxs_2.l0, if_pos (by omega), if_pos (by omega), if_pos (by simp; omega), if_pos (by simp; omega), e1, e2, wrap_id (by omega) (by omega)]
theorem impl_EqualFunc_at_impl_SameTxs_2_ev (hin : ∀ x y : S116, (x.f1.length : Int) ≤ 1048576 → Ev (fun k => impl_SameTxs_2.f k x.f0 x.f1 y.f0 y.f1) (sameOut x y)) {l m : List S116} (hl : l.length ≤ 1048576 ∧ ∀ x ∈ l, (x.f1.length : Int) ≤ 1048576) : Ev (fun k => impl_EqualFunc_at_impl_SameTxs_2.f k l m) (listsEq sameOut l m) := by
 unfold impl_EqualFunc_at_impl_SameTxs_2.f
 by_cases h : (l.length : Int) = (m.length : Int)
 · exact ev_if h (impl_EqualFunc_at_impl_SameTxs_2_l0 l hin m [] [] l.length (by simp) rfl (by omega) (by omega) hl.2)
 · rw [listsEq_len (by omega)]; exact ev_ifn h (Ev.now _)
def txSame (t u : S44) : Bool := decide (t.f0 = u.f0) && (listsEq sameIn2 t.f1 u.f1 && listsEq sameOut t.f2 u.f2)
theorem impl_SameTxs_1_ev (x y : S111) (hx : (x.f2.length : Int) ≤ 1048576) : Ev (fun k => impl_SameTxs_1.f k x.f0 x.f1 x.f2 y.f0 y.f1 y.f2) (sameIn2 x y) := by
 unfold impl_SameTxs_1.f sameIn2
 exact ev_and (fun _ => ev_and (fun _ => ev_bind (slices_Equal_ev (by omega)) (Ev.now _)))
theorem impl_SameTxs_2_ev (x y : S116) (hx : (x.f1.length : Int) ≤ 1048576) : Ev (fun k => impl_SameTxs_2.f k x.f0 x.f1 y.f0 y.f1) (sameOut x y) := by
 unfold impl_SameTxs_2.f sameOut
 exact ev_and (fun _ => ev_bind (slices_Equal_ev (by omega)) (Ev.now _))
theorem ev_boolif (a b : Bool) : Ev (fun _ => if a = true then some b else some false) (a && b) := by
 cases a with
 | true => exact ev_if rfl (Ev.now _)
 | false => exact ev_ifn (by decide) (Ev.now _)
theorem impl_SameTxs_ev {t u : S44} (h1 : t.f1.length ≤ 1048576 ∧ ∀ x ∈ t.f1, (x.f2.length : Int) ≤ 1048576) (h2 : t.f2.length ≤ 1048576 ∧ ∀ x ∈ t.f2, (x.f1.length : Int) ≤ 1048576) : Ev (fun k => impl_SameTxs.f k t.f0 t.f1 t.f2 u.f0 u.f1 u.f2) (txSame t u) := by
 unfold impl_SameTxs.f txSame
 refine ev_bind (impl_EqualFunc_at_impl_SameTxs_1_ev impl_SameTxs_1_ev h1) (ev_bind (impl_EqualFunc_at_impl_SameTxs_2_ev impl_SameTxs_2_ev h2) ?_)
 exact ev_and (fun _ => ev_boolif _ _)
theorem l3Same_l1 (t u : S44) (s1 : List S116) : ∀ (s2 pre1 pre2 : List S116), t.f2 = pre1 ++ s1 → u.f2 = pre2 ++ s2 → pre1.length = pre2.length → s1.length = s2.length → (pre1.length : Int) + s1.length ≤ 1048576 → (∀ x ∈ s1, (x.f1.length : Int) ≤ 1048576) →
 Ev (fun k => spec_l3Same_in.l1 k [t] [u] pre1.length) (listsEq sameOut s1 s2) := by
 have rt : rd_T44 [t] 0 = t := rfl
 have ru : rd_T44 [u] 0 = u := rfl
 induction s1 with
 | nil => intro s2 pre1 pre2 ht hu hp hs _ _; obtain rfl : s2 = [] := List.eq_nil_of_length_eq_zero (by simpa using hs.symm); exact ev_succ (fun k => by rw [spec_l3Same_in.l1, if_pos (by simp), rt, if_neg (by rw [ht]; simp)]; simp [listsEq])
 | cons x s1 ih =>
  intro s2 pre1 pre2 ht hu hp hs hl ho
  obtain ⟨y, s2, rfl, hs'⟩ := len_cons2 hs
  simp only [List.length_cons, Int.natCast_add, Int.natCast_one] at hl
  have e1 : rd_T116 t.f2 (pre1.length : Int) = x := by rw [ht]; unfold rd_T116; simp
  have e2 : rd_T116 u.f2 (pre1.length : Int) = y := by rw [hu, hp]; unfold rd_T116; simp
  have l1_ : (t.f2.length : Int) = (pre1.length : Int) + (s1.length + 1) := by rw [ht]; simp
  have l2_ : (u.f2.length : Int) = (pre1.length : Int) + (s1.length + 1) := by rw [hu]; simp; omega
  have h := ih s2 (pre1 ++ [x]) (pre2 ++ [y]) (by rw [ht]; simp) (by rw [hu]; simp) (by simp [hp]) hs' (by simp; omega) (fun z hz => ho z (by simp [hz]))
  rw [show ((pre1 ++ [x]).length : Int) = (pre1.length : Int) + 1 from by simp] at h
  have hstep : ∀ k, spec_l3Same_in.l1 (k + 1) [t] [u] pre1.length = (if x.f0 = y.f0 then ((spec_l1Same.f k x.f1 y.f1).bind fun q => if q = true then spec_l3Same_in.l1 k [t] [u] ((pre1.length : Int) + 1) else some false) else some false) := by
   intro k
   rw [spec_l3Same_in.l1, if_pos (by simp), rt, if_pos (by omega), if_pos (by omega), if_pos (by simp), ru, if_pos (by omega), e1, e2, wrap_id (by omega) (by omega)]
  rw [show listsEq sameOut (x :: s1) (y :: s2) = (decide (x.f0 = y.f0) && (decide (x.f1 = y.f1) && listsEq sameOut s1 s2)) from by simp [listsEq, sameOut, Bool.and_assoc]]
  exact Ev.step hstep (ev_and (fun _ => ev_andb (spec_l1Same_ev (by have := ho x (by simp); omega)) (fun _ => h)))
theorem l3Same_l0 (t u : S44) (e : Bool) (he : Ev (fun k => spec_l3Same_in.l1 k [t] [u] 0) e) (s1 : List S111) : ∀ (s2 pre1 pre2 : List S111), t.f1 = pre1 ++ s1 → u.f1 = pre2 ++ s2 → pre1.length = pre2.length → s1.length = s2.length → (pre1.length : Int) + s1.length ≤ 1048576 → (∀ x ∈ s1, (x.f2.length : Int) ≤ 1048576) →
 Ev (fun k => spec_l3Same_in.l0 k [t] [u] pre1.length) (listsEq sameIn2 s1 s2 && e) := by
 have rt : rd_T44 [t] 0 = t := rfl
 have ru : rd_T44 [u] 0 = u := rfl
 induction s1 with
 | nil => intro s2 pre1 pre2 ht hu hp hs _ _; obtain rfl : s2 = [] := List.eq_nil_of_length_eq_zero (by simpa using hs.symm); exact Ev.step (fun k => by rw [spec_l3Same_in.l0, if_pos (by simp), rt, if_neg (by rw [ht]; simp)]) (by simpa [listsEq] using he)
 | cons x s1 ih =>
  intro s2 pre1 pre2 ht hu hp hs hl ho
  obtain ⟨y, s2, rfl, hs'⟩ := len_cons2 hs
  simp only [List.length_cons, Int.natCast_add, Int.natCast_one] at hl
  have e1 : rd_T111 t.f1 (pre1.length : Int) = x := by rw [ht]; unfold rd_T111; simp
  have e2 : rd_T111 u.f1 (pre1.length : Int) = y := by rw [hu, hp]; unfold rd_T111; simp
  have l1_ : (t.f1.length : Int) = (pre1.length : Int) + (s1.length + 1) := by rw [ht]; simp
  have l2_ : (u.f1.length : Int) = (pre1.length : Int) + (s1.length + 1) := by rw [hu]; simp; omega
  have h := ih s2 (pre1 ++ [x]) (pre2 ++ [y]) (by rw [ht]; simp) (by rw [hu]; simp) (by simp [hp]) hs' (by simp; omega) (fun z hz => ho z (by simp [hz]))
  rw [show ((pre1 ++ [x]).length : Int) = (pre1.length : Int) + 1 from by simp] at h
  have hstep : ∀ k, spec_l3Same_in.l0 (k + 1) [t] [u] pre1.length = (if x.f0 = y.f0 then (if x.f1 = y.f1 then ((spec_l1Same.f k x.f2 y.f2).bind fun q => if q = true then spec_l3Same_in.l0 k [t] [u] ((pre1.length : Int) + 1) else some false) else some false) else some false) := by
   intro k
   rw [spec_l3Same_in.l0, if_pos (by simp), rt, if_pos (by omega), if_pos (by omega), if_pos (by simp), ru, if_pos (by omega), e1, e2, wrap_id (by omega) (by omega)]
  rw [show (listsEq sameIn2 (x :: s1) (y :: s2) && e) = (decide (x.f0 = y.f0) && (decide (x.f1 = y.f1) && (decide (x.f2 = y.f2) && (listsEq sameIn2 s1 s2 && e)))) from by simp [listsEq, sameIn2, Bool.and_assoc]]
  exact Ev.step hstep (ev_and (fun _ => ev_and (fun _ => ev_andb (spec_l1Same_ev (by have := ho x (by simp); omega)) (fun _ => h))))
theorem spec_l3Same_ev {t u : S44} (h1 : t.f1.length ≤ 1048576 ∧ ∀ x ∈ t.f1, (x.f2.length : Int) ≤ 1048576) (h2 : t.f2.length ≤ 1048576 ∧ ∀ x ∈ t.f2, (x.f1.length : Int) ≤ 1048576) : Ev (fun k => spec_l3Same.f k t.f0 t.f1 t.f2 u.f0 u.f1 u.f2) (txSame t u) := by
 have rt : rd_T44 [t] 0 = t := rfl
 have ru : rd_T44 [u] 0 = u := rfl
 have tt : (⟨t.f0, t.f1, t.f2⟩ : S44) = t := rfl
 have uu : (⟨u.f0, u.f1, u.f2⟩ : S44) = u := rfl
 have bad : Ev (fun k => spec_l3Same_in.j0 k [t] [u] true) false := ev_succ (fun k => by rw [spec_l3Same_in.j0]; simp)
 unfold spec_l3Same.f spec_l3Same_in.f txSame
 rw [tt, uu]
 refine ev_if (by simp) (ev_if (by simp) ?_)
 rw [rt, ru]
 by_cases c0 : t.f0 = u.f0
 · rw [decide_eq_true c0, Bool.true_and]
   refine ev_if c0 ?_
   by_cases c1 : (t.f1.length : Int) = (u.f1.length : Int)
   · refine ev_if c1 ?_
     by_cases c2 : (t.f2.length : Int) = (u.f2.length : Int)
     · rw [show ((t.f2.length : Int) != (u.f2.length : Int)) = false from by simp [c2]]
       refine Ev.step (f := fun k => spec_l3Same_in.l0 k [t] [u] 0) (fun k => by rw [spec_l3Same_in.j0, if_neg (by decide)]) ?_
       have a := l3Same_l1 t u t.f2 u.f2 [] [] (by simp) (by simp) rfl (by omega) (by simp; omega) h2.2
       have b := l3Same_l0 t u _ (by simpa using a) t.f1 u.f1 [] [] (by simp) (by simp) rfl (by omega) (by simp; omega) h1.2
       simpa using b
     · rw [show ((t.f2.length : Int) != (u.f2.length : Int)) = true from by simp; omega, listsEq_len (l := t.f2) (by omega), Bool.and_false]; exact bad
   · rw [listsEq_len (l := t.f1) (by omega), Bool.false_and]; exact ev_ifn c1 bad
 · rw [decide_eq_false c0, Bool.false_and]; exact ev_ifn c0 bad
theorem FnExactSameTxs (x0 : S38) (x1 : S38) (o0 : ok38 x0) (o1 : ok38 x1) : ∃ k, laws_FnExactSameTxs.f k x0.f0 x0.f1 x0.f2 x1.f0 x1.f1 x1.f2 = some true := by
 refine Ev.rounds (g := fun k => laws_FnExactSameTxs.f k x0.f0 x0.f1 x0.f2 x1.f0 x1.f1 x1.f2) ?_
 unfold laws_FnExactSameTxs.f
 obtain ⟨r, hr, hr1, hr2⟩ := laws_szTx_ev (a := x0.f0) o0.2.1.1 (fun x hx => (o0.2.1.2 x hx).2.2.1) o0.2.2.1 (fun x hx => (o0.2.2.2 x hx).2.1) 1048576 (by omega) (by omega)
 refine ev_bind hr ?_
 by_cases h : r < 0
 · exact ev_if h (Ev.now _)
 refine ev_ifn h ?_
 obtain ⟨q, hq, hq1, hq2⟩ := laws_szTx_ev (a := x1.f0) o1.2.1.1 (fun x hx => (o1.2.1.2 x hx).2.2.1) o1.2.2.1 (fun x hx => (o1.2.2.2 x hx).2.1) r (by omega) (by omega)
 refine ev_bind hq ?_
 by_cases h' : q < 0
 · exact ev_if h' (Ev.now _)
 refine ev_ifn h' ?_
 obtain ⟨b1, b2⟩ := hr2 (by omega)
 obtain ⟨d1, d2⟩ := hq2 (by omega)
 have hs : Ev (fun k => spec_SameTxs.f k x0.f0 (x0.f1.map cIn) (x0.f2.map cOut) x1.f0 (x1.f1.map cIn) (x1.f2.map cOut)) (txSame ⟨x0.f0, x0.f1.map cIn, x0.f2.map cOut⟩ ⟨x1.f0, x1.f1.map cIn, x1.f2.map cOut⟩) := by
  unfold spec_SameTxs.f
  exact ev_bind (spec_l3Same_ev (t := ⟨x0.f0, x0.f1.map cIn, x0.f2.map cOut⟩) (u := ⟨x1.f0, x1.f1.map cIn, x1.f2.map cOut⟩) (cIn_ok b1) (cOut_ok b2)) (Ev.now _)
 have hi := impl_SameTxs_ev (t := ⟨x0.f0, x0.f1.map cIn, x0.f2.map cOut⟩) (u := ⟨x1.f0, x1.f1.map cIn, x1.f2.map cOut⟩) (cIn_ok b1) (cOut_ok b2)
 refine ev_bind (laws_toTx_ev b1 b2) (ev_bind (laws_toTx_ev d1 d2) (ev_bind hs ?_))
 refine ev_bind (laws_toTx_ev b1 b2) (ev_bind (laws_toTx_ev d1 d2) (ev_bind hi ?_))
 refine ev_ifn (by simp) ?_
 refine ev_bind (laws_toTx_ev b1 b2) (ev_bind (laws_eqTx_refl (cIn_ok b1) (cOut_ok b2)) (ev_if rfl ?_))
 refine ev_bind (laws_toTx_ev d1 d2) (ev_bind (laws_eqTx_refl (cIn_ok d1) (cOut_ok d2)) (ev_if rfl (Ev.now _)))
end Go.Proofs.Ytjgnjhbleiempaa.Pure
