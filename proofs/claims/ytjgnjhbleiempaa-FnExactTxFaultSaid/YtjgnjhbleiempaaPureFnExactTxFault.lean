/- for every transaction that is not too long, TxFault answers as the reference does and leaves its argument as it was. -/
import Derived.Test.YtjgnjhbleiempaaQFnExactTxFaultx1
import Derived.Test.YtjgnjhbleiempaaQFnExactTxFaultx2
import Derived.Test.YtjgnjhbleiempaaQFnExactTxFaultx3
import Derived.Test.YtjgnjhbleiempaaQFnExactTxFaultx4
import Derived.Test.YtjgnjhbleiempaaQFnExactTxFaultx5
import Derived.Test.YtjgnjhbleiempaaQFnExactTxFaultx6
import Derived.Test.YtjgnjhbleiempaaQFnExactTxFaultx7
import Derived.Test.YtjgnjhbleiempaaQFnExactTxFaultx8
import Derived.Test.YtjgnjhbleiempaaQFnExactTxFaultx9
import Derived.Test.YtjgnjhbleiempaaRFnExactTxFault
namespace Go.Proofs.Ytjgnjhbleiempaa.Pure
open Go.RowKit Go.Proofs.Ytjgnjhbleiempaa.QFnExactTxFault Go.Proofs.YtjgnjhbleiempaaW.PrintWords Go.Proofs.YtjgnjhbleiempaaW.PrintLast
set_option linter.unusedVariables false
set_option linter.unusedSimpArgs false

theorem wrap_id {x : Int} (h1 : -9223372036854775808 ≤ x) (h2 : x ≤ 9223372036854775807) : wrap64 x = x := by
  unfold wrap64; omega
theorem wf64 {x : Int} (h : (Lit.int .i64 x).wf = true) : -9223372036854775808 ≤ x ∧ x ≤ 9223372036854775807 := by
  simpa [Lit.wf, IntKind.min, IntKind.max, IntKind.signed, IntKind.bits] using h
theorem wf8 {x : Int} (h : (Lit.int .u8 x).wf = true) : 0 ≤ x ∧ x ≤ 255 := by
  simpa [Lit.wf, IntKind.min, IntKind.max, IntKind.signed, IntKind.bits] using h
theorem ev_some {α : Type} {g : Nat → Option α} {r : α} (h : ∀ k, g k = some r) : Ev g r := ⟨0, fun k _ => h k⟩
theorem ev_succ {α : Type} {g : Nat → Option α} {r : α} (h : ∀ k, g (k + 1) = some r) : Ev g r := Ev.step h (Ev.now r)
/-- A call whose answer is known, and what follows. -/
theorem ev_bind {α β : Type} {g : Nat → Option α} {f : α → Nat → Option β} {a : α} {r : β} (h : Ev g a) (k : Ev (f a) r) : Ev (fun n => (g n).bind fun t => f t n) r :=
  Ev.bind (f := fun n t => f t n) h k
theorem ev_if {α : Type} {p : Prop} [Decidable p] {g f : Nat → Option α} {r : α} (hp : p) (k : Ev g r) : Ev (fun n => if p then g n else f n) r :=
  Ev.congr (fun n => if_pos hp) k
theorem ev_ifn {α : Type} {p : Prop} [Decidable p] {g f : Nat → Option α} {r : α} (hp : ¬ p) (k : Ev f r) : Ev (fun n => if p then g n else f n) r :=
  Ev.congr (fun n => if_neg hp) k
theorem ev_bind0 {α β : Type} {g : Option α} {f : α → Nat → Option β} {a : α} {r : β} (h : g = some a) (k : Ev (f a) r) : Ev (fun n => g.bind fun t => f t n) r := by
  subst h; exact k
theorem rd_mid (pre : List Int) (b : Int) (suf : List Int) : rd (pre ++ b :: suf) (pre.length : Int) = b := by
  unfold rd
  simp
theorem rd_at {l : List Int} {i : Int} (h0 : 0 ≤ i) (h1 : i < l.length) : rd l i = l[i.toNat]'(by omega) := by
  unfold rd
  rw [List.getD_eq_getElem?_getD, List.getElem?_eq_getElem (by omega)]; rfl
theorem split_at_len {α : Type} (l : List α) (n : Nat) (h : n ≤ l.length) : ∃ pre suf, l = pre ++ suf ∧ pre.length = n :=
  ⟨l.take n, l.drop n, (List.take_append_drop n l).symm, by simp; omega⟩

theorem laws_szInt64S_some (l : List Int) (q : Int) (h0 : 0 ≤ q) (h1 : q ≤ 1048576) (hl : l.length ≤ maxLen) : ∃ r, laws_szInt64S.f l q = some r ∧ r ≤ q ∧ (0 ≤ r → (l.length : Int) ≤ q) := by
  unfold laws_szInt64S.f
  unfold maxLen at hl
  rw [wrap_id (by omega) (by omega)]
  by_cases h : q - (l.length : Int) < 0
  · rw [if_pos h]; exact ⟨-1, rfl, by omega, by omega⟩
  · rw [if_neg h]; exact ⟨_, rfl, by omega, by omega⟩

theorem laws_szIn_some (b : S155) (q : Int) (h0 : 0 ≤ q) (h1 : q ≤ 1048576) (hl : b.f2.length ≤ maxLen) : ∃ r, laws_szIn.f b.f0 b.f1 b.f2 q = some r ∧ r ≤ q ∧ (0 ≤ r → (b.f2.length : Int) ≤ q) := by
  unfold laws_szIn.f
  obtain ⟨r, hr, h2, h3⟩ := laws_szInt64S_some b.f2 q h0 h1 hl
  rw [hr]
  simp only [Option.bind_some]
  by_cases h : r < 0
  · rw [if_pos h]; exact ⟨-1, rfl, by omega, by omega⟩
  · rw [if_neg h]; exact ⟨r, rfl, h2, h3⟩
theorem laws_szInS_l0 (suf : List S155) : ∀ (pre : List S155) (q : Int), 0 ≤ q → q ≤ 1048576 → (∀ x ∈ suf, x.f2.length ≤ maxLen) → (pre.length : Int) + suf.length ≤ 1048576 →
    ∃ r, Ev (fun k => laws_szInS.l0 k (pre ++ suf) q pre.length) r ∧ r ≤ q ∧ (0 ≤ r → ∀ x ∈ suf, (x.f2.length : Int) ≤ 1048576) := by
  induction suf with
  | nil => intro pre q h0 h1 _ _; exact ⟨q, ev_succ (fun k => by rw [laws_szInS.l0, if_neg (by simp)]), by omega, by simp⟩
  | cons b suf ih =>
    intro pre q h0 h1 hs hl
    simp only [List.length_cons, Int.natCast_add, Int.natCast_one] at hl
    have hrd : rd_T155 (pre ++ b :: suf) (pre.length : Int) = b := by unfold rd_T155; simp
    obtain ⟨r, hr, hr1, hr2⟩ := laws_szIn_some b q h0 h1 (hs b (by simp))
    by_cases hneg : r < 0
    · refine ⟨-1, ev_succ (fun k => ?_), by omega, by omega⟩
      rw [laws_szInS.l0, if_pos (by simp; omega), if_pos (by omega), hrd, hr]
      simp only [Option.bind_some]
      rw [if_pos hneg]
    · obtain ⟨r', h', h1', h2'⟩ := ih (pre ++ [b]) r (by omega) (by omega) (fun x hx => hs x (by simp [hx])) (by simp; omega)
      refine ⟨r', Ev.step (fun k => ?_) h', by omega, fun h x hx => ?_⟩
      · rw [laws_szInS.l0, if_pos (by simp; omega), if_pos (by omega), hrd, hr]
        simp only [Option.bind_some]
        rw [if_neg hneg, wrap_id (by omega) (by omega)]
        simp
      · rcases List.mem_cons.1 hx with rfl | hx
        · have := hr2 (by omega); omega
        · exact h2' h x hx
theorem laws_szInS_ev {l : List S155} (hl : l.length ≤ maxLen) (hs : ∀ x ∈ l, x.f2.length ≤ maxLen) (q : Int) (h0 : 0 ≤ q) (h1 : q ≤ 1048576) :
    ∃ r, Ev (fun k => laws_szInS.f k l q) r ∧ r ≤ q ∧ (0 ≤ r → l.length ≤ 1048576 ∧ ∀ x ∈ l, (x.f2.length : Int) ≤ 1048576) := by
  unfold maxLen at hl
  unfold laws_szInS.f
  rw [wrap_id (by omega) (by omega)]
  by_cases h : q - (l.length : Int) < 0
  · exact ⟨-1, ev_if h (Ev.now _), by omega, by omega⟩
  · obtain ⟨r, hr, h2, h3⟩ := laws_szInS_l0 l [] (q - (l.length : Int)) (by omega) (by omega) hs (by simp; omega)
    exact ⟨r, ev_ifn h (by simpa using hr), by omega, fun hh => ⟨by omega, h3 hh⟩⟩

theorem laws_szOut_some (b : S157) (q : Int) (h0 : 0 ≤ q) (h1 : q ≤ 1048576) (hl : b.f1.length ≤ maxLen) : ∃ r, laws_szOut.f b.f0 b.f1 q = some r ∧ r ≤ q ∧ (0 ≤ r → (b.f1.length : Int) ≤ q) := by
  unfold laws_szOut.f
  obtain ⟨r, hr, h2, h3⟩ := laws_szInt64S_some b.f1 q h0 h1 hl
  rw [hr]
  simp only [Option.bind_some]
  by_cases h : r < 0
  · rw [if_pos h]; exact ⟨-1, rfl, by omega, by omega⟩
  · rw [if_neg h]; exact ⟨r, rfl, h2, h3⟩
theorem laws_szOutS_l0 (suf : List S157) : ∀ (pre : List S157) (q : Int), 0 ≤ q → q ≤ 1048576 → (∀ x ∈ suf, x.f1.length ≤ maxLen) → (pre.length : Int) + suf.length ≤ 1048576 →
    ∃ r, Ev (fun k => laws_szOutS.l0 k (pre ++ suf) q pre.length) r ∧ r ≤ q ∧ (0 ≤ r → ∀ x ∈ suf, (x.f1.length : Int) ≤ 1048576) := by
  induction suf with
  | nil => intro pre q h0 h1 _ _; exact ⟨q, ev_succ (fun k => by rw [laws_szOutS.l0, if_neg (by simp)]), by omega, by simp⟩
  | cons b suf ih =>
    intro pre q h0 h1 hs hl
    simp only [List.length_cons, Int.natCast_add, Int.natCast_one] at hl
    have hrd : rd_T157 (pre ++ b :: suf) (pre.length : Int) = b := by unfold rd_T157; simp
    obtain ⟨r, hr, hr1, hr2⟩ := laws_szOut_some b q h0 h1 (hs b (by simp))
    by_cases hneg : r < 0
    · refine ⟨-1, ev_succ (fun k => ?_), by omega, by omega⟩
      rw [laws_szOutS.l0, if_pos (by simp; omega), if_pos (by omega), hrd, hr]
      simp only [Option.bind_some]
      rw [if_pos hneg]
    · obtain ⟨r', h', h1', h2'⟩ := ih (pre ++ [b]) r (by omega) (by omega) (fun x hx => hs x (by simp [hx])) (by simp; omega)
      refine ⟨r', Ev.step (fun k => ?_) h', by omega, fun h x hx => ?_⟩
      · rw [laws_szOutS.l0, if_pos (by simp; omega), if_pos (by omega), hrd, hr]
        simp only [Option.bind_some]
        rw [if_neg hneg, wrap_id (by omega) (by omega)]
        simp
      · rcases List.mem_cons.1 hx with rfl | hx
        · have := hr2 (by omega); omega
        · exact h2' h x hx
theorem laws_szOutS_ev {l : List S157} (hl : l.length ≤ maxLen) (hs : ∀ x ∈ l, x.f1.length ≤ maxLen) (q : Int) (h0 : 0 ≤ q) (h1 : q ≤ 1048576) :
    ∃ r, Ev (fun k => laws_szOutS.f k l q) r ∧ r ≤ q ∧ (0 ≤ r → l.length ≤ 1048576 ∧ ∀ x ∈ l, (x.f1.length : Int) ≤ 1048576) := by
  unfold maxLen at hl
  unfold laws_szOutS.f
  rw [wrap_id (by omega) (by omega)]
  by_cases h : q - (l.length : Int) < 0
  · exact ⟨-1, ev_if h (Ev.now _), by omega, by omega⟩
  · obtain ⟨r, hr, h2, h3⟩ := laws_szOutS_l0 l [] (q - (l.length : Int)) (by omega) (by omega) hs (by simp; omega)
    exact ⟨r, ev_ifn h (by simpa using hr), by omega, fun hh => ⟨by omega, h3 hh⟩⟩

theorem laws_toInt64S_l0 (suf : List Int) : ∀ (pre : List Int) (z : List Int), z.length = suf.length → (pre.length : Int) + suf.length ≤ 9223372036854775806 →
    Ev (fun k => laws_toInt64S.l0 k (pre ++ suf) (pre ++ z) pre.length) (pre ++ suf) := by
  induction suf with
  | nil => intro pre z hz _; obtain rfl : z = [] := List.eq_nil_of_length_eq_zero (by simpa using hz); exact ev_succ (fun k => by simp [laws_toInt64S.l0])
  | cons b suf ih =>
    intro pre z hz hl
    obtain ⟨c, z, rfl⟩ : ∃ c z', z = c :: z' := by cases z with | nil => simp at hz | cons c z => exact ⟨c, z, rfl⟩
    simp only [List.length_cons, Int.natCast_add, Int.natCast_one] at hl hz
    have h := ih (pre ++ [b]) z (by omega) (by simp; omega)
    refine Ev.step (fun k => ?_) (by simpa using h)
    rw [laws_toInt64S.l0]
    rw [if_pos (by simp; omega), if_pos (by omega), if_pos (by simp; omega), rd_mid, wrap_id (by omega) (by omega)]
    simp
theorem laws_toInt64S_ev {l : List Int} (hl : l.length ≤ 17592186043904) : Ev (fun k => laws_toInt64S.f k l) l := by
  have h := laws_toInt64S_l0 l [] (List.replicate l.length 0) (by simp) (by simp; omega)
  unfold laws_toInt64S.f
  refine ev_if (by omega) (ev_if (by simp; omega) ?_)
  simpa using h

def cIn (x : S155) : S111 := ⟨x.f0, x.f1, x.f2⟩
theorem laws_toIn_ev (b : S155) (hl : (b.f2.length : Int) ≤ 1048576) : Ev (fun k => laws_toIn.f k b.f0 b.f1 b.f2) (b.f0, b.f1, b.f2) := by
  unfold laws_toIn.f
  exact ev_bind (laws_toInt64S_ev (by omega)) (Ev.now _)
theorem laws_toInS_l0 (suf : List S155) : ∀ (pre : List S155) (z : List S111), z.length = suf.length → (∀ x ∈ suf, (x.f2.length : Int) ≤ 1048576) → (pre.length : Int) + suf.length ≤ 1048576 →
    Ev (fun k => laws_toInS.l0 k (pre ++ suf) (pre.map cIn ++ z) pre.length) ((pre ++ suf).map cIn) := by
  induction suf with
  | nil => intro pre z hz _ _; obtain rfl : z = [] := List.eq_nil_of_length_eq_zero (by simpa using hz); exact ev_succ (fun k => by rw [laws_toInS.l0, if_neg (by simp)]; simp)
  | cons b suf ih =>
    intro pre z hz hs hl
    obtain ⟨c, z, rfl⟩ : ∃ c z', z = c :: z' := by cases z with | nil => simp at hz | cons c z => exact ⟨c, z, rfl⟩
    simp only [List.length_cons, Int.natCast_add, Int.natCast_one] at hl hz
    have hrd : rd_T155 (pre ++ b :: suf) (pre.length : Int) = b := by unfold rd_T155; simp
    have h := ih (pre ++ [b]) z (by omega) (fun x hx => hs x (by simp [hx])) (by simp; omega)
    refine Ev.step (f := fun k => (laws_toIn.f k b.f0 b.f1 b.f2).bind fun bt => laws_toInS.l0 k (pre ++ b :: suf) ((pre.map cIn ++ c :: z).set pre.length (⟨bt.1, bt.2.1, bt.2.2⟩ : S111)) ((pre.length : Int) + 1)) (fun k => ?_) (ev_bind (laws_toIn_ev b (hs b (by simp))) ?_)
    · rw [laws_toInS.l0, if_pos (by simp; omega), if_pos (by omega), hrd]
      refine congrArg _ (funext fun bt => ?_)
      rw [if_pos (by simp; omega), wrap_id (by omega) (by omega)]
      simp
    · have e : (pre.map cIn ++ c :: z).set pre.length (⟨b.f0, b.f1, b.f2⟩ : S111) = (pre ++ [b]).map cIn ++ z := by
        rw [List.set_append_right _ _ (by simp)]; simp [cIn]
      simp only [e]
      simpa using h
theorem laws_toInS_ev {l : List S155} (hl : l.length ≤ 1048576) (hs : ∀ x ∈ l, (x.f2.length : Int) ≤ 1048576) : Ev (fun k => laws_toInS.f k l) (l.map cIn) := by
  have h := laws_toInS_l0 l [] (List.replicate l.length z111) (by simp) hs (by simp; omega)
  unfold laws_toInS.f
  refine ev_if (by omega) (ev_if (by simp; omega) ?_)
  simpa using h

def cOut (x : S157) : S116 := ⟨x.f0, x.f1⟩
theorem laws_toOut_ev (b : S157) (hl : (b.f1.length : Int) ≤ 1048576) : Ev (fun k => laws_toOut.f k b.f0 b.f1) (b.f0, b.f1) := by
  unfold laws_toOut.f
  exact ev_bind (laws_toInt64S_ev (by omega)) (Ev.now _)
theorem laws_toOutS_l0 (suf : List S157) : ∀ (pre : List S157) (z : List S116), z.length = suf.length → (∀ x ∈ suf, (x.f1.length : Int) ≤ 1048576) → (pre.length : Int) + suf.length ≤ 1048576 →
    Ev (fun k => laws_toOutS.l0 k (pre ++ suf) (pre.map cOut ++ z) pre.length) ((pre ++ suf).map cOut) := by
  induction suf with
  | nil => intro pre z hz _ _; obtain rfl : z = [] := List.eq_nil_of_length_eq_zero (by simpa using hz); exact ev_succ (fun k => by rw [laws_toOutS.l0, if_neg (by simp)]; simp)
  | cons b suf ih =>
    intro pre z hz hs hl
    obtain ⟨c, z, rfl⟩ : ∃ c z', z = c :: z' := by cases z with | nil => simp at hz | cons c z => exact ⟨c, z, rfl⟩
    simp only [List.length_cons, Int.natCast_add, Int.natCast_one] at hl hz
    have hrd : rd_T157 (pre ++ b :: suf) (pre.length : Int) = b := by unfold rd_T157; simp
    have h := ih (pre ++ [b]) z (by omega) (fun x hx => hs x (by simp [hx])) (by simp; omega)
    refine Ev.step (f := fun k => (laws_toOut.f k b.f0 b.f1).bind fun bt => laws_toOutS.l0 k (pre ++ b :: suf) ((pre.map cOut ++ c :: z).set pre.length (⟨bt.1, bt.2⟩ : S116)) ((pre.length : Int) + 1)) (fun k => ?_) (ev_bind (laws_toOut_ev b (hs b (by simp))) ?_)
    · rw [laws_toOutS.l0, if_pos (by simp; omega), if_pos (by omega), hrd]
      refine congrArg _ (funext fun bt => ?_)
      rw [if_pos (by simp; omega), wrap_id (by omega) (by omega)]
      simp
    · have e : (pre.map cOut ++ c :: z).set pre.length (⟨b.f0, b.f1⟩ : S116) = (pre ++ [b]).map cOut ++ z := by
        rw [List.set_append_right _ _ (by simp)]; simp [cOut]
      simp only [e]
      simpa using h
theorem laws_toOutS_ev {l : List S157} (hl : l.length ≤ 1048576) (hs : ∀ x ∈ l, (x.f1.length : Int) ≤ 1048576) : Ev (fun k => laws_toOutS.f k l) (l.map cOut) := by
  have h := laws_toOutS_l0 l [] (List.replicate l.length z116) (by simp) hs (by simp; omega)
  unfold laws_toOutS.f
  refine ev_if (by omega) (ev_if (by simp; omega) ?_)
  simpa using h

theorem laws_eqInt64S_l0 (suf : List Int) : ∀ (pre : List Int), (pre.length : Int) + suf.length ≤ 9223372036854775806 →
    Ev (fun k => laws_eqInt64S.l0 k (pre ++ suf) (pre ++ suf) pre.length) true := by
  induction suf with
  | nil => intro pre _; exact ev_succ (fun k => by simp [laws_eqInt64S.l0])
  | cons b suf ih =>
    intro pre hl
    simp only [List.length_cons, Int.natCast_add, Int.natCast_one] at hl
    have h := ih (pre ++ [b]) (by simp; omega)
    refine Ev.step (fun k => ?_) (by simpa using h)
    rw [laws_eqInt64S.l0]
    rw [if_pos (by simp; omega), if_pos (by omega), if_pos (by simp; omega), if_pos rfl, wrap_id (by omega) (by omega)]
theorem laws_eqInt64S_refl {l : List Int} (hl : l.length ≤ 140737488351232) : Ev (fun k => laws_eqInt64S.f k l l) true := by
  unfold laws_eqInt64S.f
  exact ev_if rfl (laws_eqInt64S_l0 l [] (by simp; omega))

theorem laws_eqIn_refl (b : S111) (hl : (b.f2.length : Int) ≤ 1048576) : Ev (fun k => laws_eqIn.f k b.f0 b.f1 b.f2 b.f0 b.f1 b.f2) true := by
  unfold laws_eqIn.f
  exact ev_if rfl (ev_if rfl (ev_bind (laws_eqInt64S_refl (by omega)) (ev_if rfl (Ev.now _))))
theorem laws_eqInS_l0 (suf : List S111) : ∀ (pre : List S111), (∀ x ∈ suf, (x.f2.length : Int) ≤ 1048576) → (pre.length : Int) + suf.length ≤ 1048576 →
    Ev (fun k => laws_eqInS.l0 k (pre ++ suf) (pre ++ suf) pre.length) true := by
  induction suf with
  | nil => intro pre _ _; exact ev_succ (fun k => by rw [laws_eqInS.l0, if_neg (by simp)])
  | cons b suf ih =>
    intro pre hs hl
    simp only [List.length_cons, Int.natCast_add, Int.natCast_one] at hl
    have hrd : rd_T111 (pre ++ b :: suf) (pre.length : Int) = b := by unfold rd_T111; simp
    have h := ih (pre ++ [b]) (fun x hx => hs x (by simp [hx])) (by simp; omega)
    refine Ev.step (f := fun k => (laws_eqIn.f k b.f0 b.f1 b.f2 b.f0 b.f1 b.f2).bind fun t => if t = true then laws_eqInS.l0 k (pre ++ b :: suf) (pre ++ b :: suf) ((pre.length : Int) + 1) else some false) (fun k => ?_) (ev_bind (laws_eqIn_refl b (hs b (by simp))) (ev_if rfl ?_))
    · rw [laws_eqInS.l0, if_pos (by simp; omega), if_pos (by omega), if_pos (by simp; omega), hrd, wrap_id (by omega) (by omega)]
    · simpa using h
theorem laws_eqInS_refl {l : List S111} (hl : l.length ≤ 1048576) (hs : ∀ x ∈ l, (x.f2.length : Int) ≤ 1048576) : Ev (fun k => laws_eqInS.f k l l) true := by
  unfold laws_eqInS.f
  exact ev_if rfl (laws_eqInS_l0 l [] hs (by simp; omega))

theorem laws_eqOut_refl (b : S116) (hl : (b.f1.length : Int) ≤ 1048576) : Ev (fun k => laws_eqOut.f k b.f0 b.f1 b.f0 b.f1) true := by
  unfold laws_eqOut.f
  exact ev_if rfl (ev_bind (laws_eqInt64S_refl (by omega)) (ev_if rfl (Ev.now _)))
theorem laws_eqOutS_l0 (suf : List S116) : ∀ (pre : List S116), (∀ x ∈ suf, (x.f1.length : Int) ≤ 1048576) → (pre.length : Int) + suf.length ≤ 1048576 →
    Ev (fun k => laws_eqOutS.l0 k (pre ++ suf) (pre ++ suf) pre.length) true := by
  induction suf with
  | nil => intro pre _ _; exact ev_succ (fun k => by rw [laws_eqOutS.l0, if_neg (by simp)])
  | cons b suf ih =>
    intro pre hs hl
    simp only [List.length_cons, Int.natCast_add, Int.natCast_one] at hl
    have hrd : rd_T116 (pre ++ b :: suf) (pre.length : Int) = b := by unfold rd_T116; simp
    have h := ih (pre ++ [b]) (fun x hx => hs x (by simp [hx])) (by simp; omega)
    refine Ev.step (f := fun k => (laws_eqOut.f k b.f0 b.f1 b.f0 b.f1).bind fun t => if t = true then laws_eqOutS.l0 k (pre ++ b :: suf) (pre ++ b :: suf) ((pre.length : Int) + 1) else some false) (fun k => ?_) (ev_bind (laws_eqOut_refl b (hs b (by simp))) (ev_if rfl ?_))
    · rw [laws_eqOutS.l0, if_pos (by simp; omega), if_pos (by omega), if_pos (by simp; omega), hrd, wrap_id (by omega) (by omega)]
    · simpa using h
theorem laws_eqOutS_refl {l : List S116} (hl : l.length ≤ 1048576) (hs : ∀ x ∈ l, (x.f1.length : Int) ≤ 1048576) : Ev (fun k => laws_eqOutS.f k l l) true := by
  unfold laws_eqOutS.f
  exact ev_if rfl (laws_eqOutS_l0 l [] hs (by simp; omega))

theorem laws_szTx_ev {a : Int} {l1 : List S155} {l2 : List S157} (h1 : l1.length ≤ maxLen) (s1 : ∀ x ∈ l1, x.f2.length ≤ maxLen) (h2 : l2.length ≤ maxLen) (s2 : ∀ x ∈ l2, x.f1.length ≤ maxLen) (q : Int) (q0 : 0 ≤ q) (q1 : q ≤ 1048576) :
    ∃ r, Ev (fun k => laws_szTx.f k a l1 l2 q) r ∧ r ≤ q ∧ (0 ≤ r → (l1.length ≤ 1048576 ∧ ∀ x ∈ l1, (x.f2.length : Int) ≤ 1048576) ∧ (l2.length ≤ 1048576 ∧ ∀ x ∈ l2, (x.f1.length : Int) ≤ 1048576)) := by
  unfold laws_szTx.f
  obtain ⟨r, hr, hr1, hr2⟩ := laws_szInS_ev h1 s1 q q0 q1
  by_cases h : r < 0
  · exact ⟨-1, ev_bind hr (ev_if h (Ev.now _)), by omega, by omega⟩
  · obtain ⟨r', hr', hr1', hr2'⟩ := laws_szOutS_ev h2 s2 r (by omega) (by omega)
    by_cases h' : r' < 0
    · exact ⟨-1, ev_bind hr (ev_ifn h (ev_bind hr' (ev_if h' (Ev.now _)))), by omega, by omega⟩
    · exact ⟨r', ev_bind hr (ev_ifn h (ev_bind hr' (ev_ifn h' (Ev.now _)))), by omega, fun _ => ⟨hr2 (by omega), hr2' (by omega)⟩⟩
theorem laws_toTx_ev {a : Int} {l1 : List S155} {l2 : List S157} (h1 : l1.length ≤ 1048576 ∧ ∀ x ∈ l1, (x.f2.length : Int) ≤ 1048576) (h2 : l2.length ≤ 1048576 ∧ ∀ x ∈ l2, (x.f1.length : Int) ≤ 1048576) :
    Ev (fun k => laws_toTx.f k a l1 l2) (a, l1.map cIn, l2.map cOut) := by
  unfold laws_toTx.f
  exact ev_bind (laws_toInS_ev h1.1 h1.2) (ev_bind (laws_toOutS_ev h2.1 h2.2) (Ev.now _))
theorem laws_eqTx_refl {a : Int} {l1 : List S111} {l2 : List S116} (h1 : l1.length ≤ 1048576 ∧ ∀ x ∈ l1, (x.f2.length : Int) ≤ 1048576) (h2 : l2.length ≤ 1048576 ∧ ∀ x ∈ l2, (x.f1.length : Int) ≤ 1048576) :
    Ev (fun k => laws_eqTx.f k a l1 l2 a l1 l2) true := by
  unfold laws_eqTx.f
  exact ev_if rfl (ev_bind (laws_eqInS_refl h1.1 h1.2) (ev_if rfl (ev_bind (laws_eqOutS_refl h2.1 h2.2) (ev_if rfl (Ev.now _)))))
theorem cIn_ok {l : List S155} (h : l.length ≤ 1048576 ∧ ∀ x ∈ l, (x.f2.length : Int) ≤ 1048576) : (l.map cIn).length ≤ 1048576 ∧ ∀ x ∈ l.map cIn, (x.f2.length : Int) ≤ 1048576 := by
  refine ⟨by simpa using h.1, fun x hx => ?_⟩
  obtain ⟨y, hy, rfl⟩ := List.mem_map.1 hx
  exact h.2 y hy
theorem cOut_ok {l : List S157} (h : l.length ≤ 1048576 ∧ ∀ x ∈ l, (x.f1.length : Int) ≤ 1048576) : (l.map cOut).length ≤ 1048576 ∧ ∀ x ∈ l.map cOut, (x.f1.length : Int) ≤ 1048576 := by
  refine ⟨by simpa using h.1, fun x hx => ?_⟩
  obtain ⟨y, hy, rfl⟩ := List.mem_map.1 hx
  exact h.2 y hy

/-- All numbers of a list lie between two. -/
def AllIn (l : List Int) (lo hi : Int) : Prop := ∀ x ∈ l, lo ≤ x ∧ x ≤ hi
instance (l : List Int) (lo hi : Int) : Decidable (AllIn l lo hi) := by unfold AllIn; infer_instance
theorem AllIn_cons {b : Int} {l : List Int} {lo hi : Int} : AllIn (b :: l) lo hi ↔ (lo ≤ b ∧ b ≤ hi) ∧ AllIn l lo hi := by simp [AllIn]

theorem spec_l1In_eq (a b c : Int) : spec_l1In.f a b c = some (decide (b ≤ a ∧ a ≤ c)) := by
  unfold spec_l1In.f
  by_cases h : a ≥ b
  · rw [if_pos h]; congr 1; rw [Bool.eq_iff_iff]; simp; omega
  · rw [if_neg h]; congr 1; symm; simp; omega
theorem impl_in_eq (a b c : Int) : impl_in.f a b c = some (decide (b ≤ a ∧ a ≤ c)) := by
  unfold impl_in.f
  by_cases h : a ≥ b
  · rw [if_pos h]; congr 1; rw [Bool.eq_iff_iff]; simp; omega
  · rw [if_neg h]; congr 1; symm; simp; omega

theorem spec_l1All_l0 (lo hi : Int) (suf : List Int) : ∀ (pre : List Int), (pre.length : Int) + suf.length ≤ 9223372036854775806 →
    Ev (fun k => spec_l1All.l0 k (pre ++ suf) lo hi pre.length) (decide (AllIn suf lo hi)) := by
  induction suf with
  | nil => intro pre _; exact ev_succ (fun k => by rw [spec_l1All.l0, if_neg (by simp)]; simp [AllIn])
  | cons b suf ih =>
    intro pre hl
    simp only [List.length_cons, Int.natCast_add, Int.natCast_one] at hl
    have h := ih (pre ++ [b]) (by simp; omega)
    by_cases hb : lo ≤ b ∧ b ≤ hi
    · have e : decide (AllIn (b :: suf) lo hi) = decide (AllIn suf lo hi) := by simp [AllIn_cons, hb]
      rw [e]
      refine Ev.step (fun k => ?_) h
      rw [spec_l1All.l0, if_pos (by simp; omega), if_pos (by omega), rd_mid, spec_l1In_eq, wrap_id (by omega) (by omega)]
      simp [hb]
    · have e : decide (AllIn (b :: suf) lo hi) = false := by simp [AllIn_cons, hb]
      rw [e]
      refine ev_succ (fun k => ?_)
      rw [spec_l1All.l0, if_pos (by simp; omega), if_pos (by omega), rd_mid, spec_l1In_eq]
      simp [hb]
theorem spec_l1All_ev {l : List Int} (lo hi : Int) (hl : (l.length : Int) ≤ 9223372036854775806) : Ev (fun k => spec_l1All.f k l lo hi) (decide (AllIn l lo hi)) := by
  unfold spec_l1All.f
  exact spec_l1All_l0 lo hi l [] (by simpa using hl)

theorem spec_l1Amount_eq (a : Int) : spec_l1Amount.f a = some (decide (0 ≤ a ∧ a ≤ 1000000)) := by
  unfold spec_l1Amount.f; rw [spec_l1In_eq]; rfl
theorem impl_isAmount_eq (a : Int) : impl_isAmount.f a = some (decide (0 ≤ a ∧ a ≤ 1000000)) := by
  unfold impl_isAmount.f; rw [impl_in_eq]; rfl

theorem slices_IndexFunc_at_impl_ProgramFault_1_l0 (p : Int → Bool) (hp : ∀ x, impl_ProgramFault_1.f x = some (p x)) (suf : List Int) : ∀ (pre : List Int), (pre.length : Int) + suf.length ≤ 9223372036854775806 →
    ∃ r : Int, Ev (fun k => slices_IndexFunc_at_impl_ProgramFault_1.l0 k (pre ++ suf) ((pre ++ suf).length : Int) pre.length) r ∧ decide (r ≥ 0) = suf.any p := by
  induction suf with
  | nil => intro pre _; exact ⟨-1, ev_succ (fun k => by rw [slices_IndexFunc_at_impl_ProgramFault_1.l0, if_neg (by simp)]), by simp⟩
  | cons b suf ih =>
    intro pre hl
    simp only [List.length_cons, Int.natCast_add, Int.natCast_one] at hl
    cases hb : p b with
    | true =>
      refine ⟨pre.length, ev_succ (fun k => ?_), by simp [hb]⟩
      rw [slices_IndexFunc_at_impl_ProgramFault_1.l0, if_pos (by simp; omega), if_pos (by omega), if_pos (by simp; omega), rd_mid, hp, hb]
      rfl
    | false =>
      obtain ⟨r, h, hr⟩ := ih (pre ++ [b]) (by simp; omega)
      refine ⟨r, Ev.step (fun k => ?_) h, by simp [hb, hr]⟩
      rw [slices_IndexFunc_at_impl_ProgramFault_1.l0, if_pos (by simp; omega), if_pos (by omega), if_pos (by simp; omega), rd_mid, hp, hb, wrap_id (by omega) (by omega)]
      simp
theorem slices_ContainsFunc_at_impl_ProgramFault_1_ev (p : Int → Bool) (hp : ∀ x, impl_ProgramFault_1.f x = some (p x)) {l : List Int} (hl : (l.length : Int) ≤ 9223372036854775806) :
    Ev (fun k => slices_ContainsFunc_at_impl_ProgramFault_1.f k l) (l.any p) := by
  obtain ⟨r, h, hr⟩ := slices_IndexFunc_at_impl_ProgramFault_1_l0 p hp l [] (by simpa using hl)
  rw [← hr]
  unfold slices_ContainsFunc_at_impl_ProgramFault_1.f slices_IndexFunc_at_impl_ProgramFault_1.f
  exact ev_bind (by simpa using h) (Ev.now _)

/-- Is a number no operation? -/
def opBad (x : Int) : Bool := !(decide (1 ≤ x ∧ x ≤ 9) || decide (100 ≤ x ∧ x ≤ 1099))
def faultP (l : List Int) : Int := if l.length > 12 then 2 else if l.any opBad then 1 else 0
theorem spec_l2Op_eq (x : Int) : spec_l2Op.f x = some (!opBad x) := by
  unfold spec_l2Op.f opBad
  simp only [spec_l1In_eq, Option.bind_some]
  by_cases h : 1 ≤ x ∧ x ≤ 9 <;> simp [h]
theorem impl_ProgramFault_1_eq (x : Int) : impl_ProgramFault_1.f x = some (opBad x) := by
  unfold impl_ProgramFault_1.f opBad
  simp only [impl_in_eq, Option.bind_some]
  by_cases h : 1 ≤ x ∧ x ≤ 9 <;> simp [h]
theorem spec_l2Fault_l0 (suf : List Int) : ∀ (pre : List Int), (pre.length : Int) + suf.length ≤ 9223372036854775806 →
    Ev (fun k => spec_l2Fault.l0 k (pre ++ suf) pre.length) (if suf.any opBad then 1 else 0) := by
  induction suf with
  | nil => intro pre _; exact ev_succ (fun k => by rw [spec_l2Fault.l0, if_neg (by simp)]; simp)
  | cons b suf ih =>
    intro pre hl
    simp only [List.length_cons, Int.natCast_add, Int.natCast_one] at hl
    cases hb : opBad b with
    | true =>
      refine ev_succ (fun k => ?_)
      rw [spec_l2Fault.l0, if_pos (by simp; omega), if_pos (by omega), rd_mid, spec_l2Op_eq, hb]
      simp [hb]
    | false =>
      have h := ih (pre ++ [b]) (by simp; omega)
      have e : (b :: suf).any opBad = suf.any opBad := by simp [hb]
      rw [e]
      refine Ev.step (fun k => ?_) h
      rw [spec_l2Fault.l0, if_pos (by simp; omega), if_pos (by omega), rd_mid, spec_l2Op_eq, hb, wrap_id (by omega) (by omega)]
      simp
theorem spec_l2Fault_ev {l : List Int} (hl : (l.length : Int) ≤ 9223372036854775806) : Ev (fun k => spec_l2Fault.f k l) (faultP l) := by
  unfold spec_l2Fault.f faultP
  by_cases h : l.length > 12
  · rw [if_pos h]; exact ev_if (by omega) (Ev.now _)
  · rw [if_neg h]; exact ev_ifn (by omega) (spec_l2Fault_l0 l [] (by simpa using hl))
theorem impl_ProgramFault_ev {l : List Int} (hl : (l.length : Int) ≤ 9223372036854775806) : Ev (fun k => impl_ProgramFault.f k l) (faultP l) := by
  unfold impl_ProgramFault.f faultP
  by_cases h : l.length > 12
  · rw [if_pos h]; exact ev_if (by omega) (Ev.now _)
  · rw [if_neg h]
    refine ev_ifn (by omega) (ev_bind (slices_ContainsFunc_at_impl_ProgramFault_1_ev opBad impl_ProgramFault_1_eq hl) ?_)
    cases l.any opBad with
    | true => exact ev_if rfl (Ev.now _)
    | false => exact ev_ifn (by decide) (Ev.now _)

theorem slices_IndexFunc_at_impl_badCell_l0 (p : Int → Bool) (hp : ∀ x, impl_badCell.f x = some (p x)) (suf : List Int) : ∀ (pre : List Int), (pre.length : Int) + suf.length ≤ 9223372036854775806 →
    ∃ r : Int, Ev (fun k => slices_IndexFunc_at_impl_badCell.l0 k (pre ++ suf) ((pre ++ suf).length : Int) pre.length) r ∧ decide (r ≥ 0) = suf.any p := by
  induction suf with
  | nil => intro pre _; exact ⟨-1, ev_succ (fun k => by rw [slices_IndexFunc_at_impl_badCell.l0, if_neg (by simp)]), by simp⟩
  | cons b suf ih =>
    intro pre hl
    simp only [List.length_cons, Int.natCast_add, Int.natCast_one] at hl
    cases hb : p b with
    | true =>
      refine ⟨pre.length, ev_succ (fun k => ?_), by simp [hb]⟩
      rw [slices_IndexFunc_at_impl_badCell.l0, if_pos (by simp; omega), if_pos (by omega), if_pos (by simp; omega), rd_mid, hp, hb]
      rfl
    | false =>
      obtain ⟨r, h, hr⟩ := ih (pre ++ [b]) (by simp; omega)
      refine ⟨r, Ev.step (fun k => ?_) h, by simp [hb, hr]⟩
      rw [slices_IndexFunc_at_impl_badCell.l0, if_pos (by simp; omega), if_pos (by omega), if_pos (by simp; omega), rd_mid, hp, hb, wrap_id (by omega) (by omega)]
      simp
theorem slices_ContainsFunc_at_impl_badCell_ev (p : Int → Bool) (hp : ∀ x, impl_badCell.f x = some (p x)) {l : List Int} (hl : (l.length : Int) ≤ 9223372036854775806) :
    Ev (fun k => slices_ContainsFunc_at_impl_badCell.f k l) (l.any p) := by
  obtain ⟨r, h, hr⟩ := slices_IndexFunc_at_impl_badCell_l0 p hp l [] (by simpa using hl)
  rw [← hr]
  unfold slices_ContainsFunc_at_impl_badCell.f slices_IndexFunc_at_impl_badCell.f
  exact ev_bind (by simpa using h) (Ev.now _)

theorem impl_isSum_eq (a : Int) : impl_isSum.f a = some (decide (0 ≤ a ∧ a ≤ 2147483646)) := by
  unfold impl_isSum.f; rw [impl_in_eq]; rfl

def inBad (x : S111) : Bool := !(decide (0 ≤ x.f0 ∧ x.f0 ≤ 2147483646) && decide (0 ≤ x.f1 ∧ x.f1 ≤ 3))
def sameIn (x y : S111) : Bool := decide (x.f0 = y.f0) && (x.f1 == y.f1)
/-- The code of an input behind others. -/
def inF (ahead : List S111) (x : S111) : Int := if inBad x = true then 3 else if (x.f2.length : Int) > 8 then 2 else if decide (AllIn x.f2 0 9999) = true then (if ahead.any (sameIn x) = true then 6 else 0) else 3
def insF : List S111 → List S111 → Int → Int
  | _, [], e => e
  | p, x :: xs, e => if inF p x = 0 then insF (p ++ [x]) xs e else inF p x
def outSumF : Int → List S116 → Int
  | a, [] => a
  | a, x :: xs => outSumF (wrap64 (a + x.f0)) xs
def endV (a : Int) : Int := if 0 ≤ a ∧ a ≤ 1000000 then 0 else 7
def outsF : List S116 → Int → Int
  | [], e => e
  | y :: ys, e => if 0 ≤ y.f0 ∧ y.f0 ≤ 1000000 then (if faultP y.f1 = 0 then outsF ys e else faultP y.f1) else 3
def txF (t : S44) : Int := if 0 ≤ t.f0 ∧ t.f0 ≤ 65535 then (if (t.f1.length : Int) > 4 ∨ (t.f2.length : Int) < 1 ∨ (t.f2.length : Int) > 4 then 2 else insF [] t.f1 (outsF t.f2 (endV (outSumF 0 t.f2)))) else 3
theorem rdI (pre : List S111) (b : S111) (suf : List S111) : rd_T111 (pre ++ b :: suf) (pre.length : Int) = b := by unfold rd_T111; simp
theorem rdO (pre : List S116) (b : S116) (suf : List S116) : rd_T116 (pre ++ b :: suf) (pre.length : Int) = b := by unfold rd_T116; simp
theorem spec_l3In_l0 (x : S111) (suf : List S111) (p2 : List S111) : ∀ (p1 : List S111), (p1.length : Int) + p2.length + suf.length ≤ 1048576 →
    Ev (fun k => spec_l3In.l0 k (p1 ++ (p2 ++ x :: suf)) ((p1.length : Int) + p2.length) p1.length) (if p2.any (sameIn x) = true then 6 else 0) := by
  induction p2 with
  | nil => intro p1 _; exact ev_succ (fun k => by rw [spec_l3In.l0, if_neg (by simp)]; simp)
  | cons b p2 ih =>
    intro p1 hl
    simp only [List.length_cons, Int.natCast_add, Int.natCast_one] at hl ⊢
    have h := ih (p1 ++ [b]) (by simp; omega)
    have e1 : rd_T111 (p1 ++ (b :: p2 ++ x :: suf)) (p1.length : Int) = b := rdI p1 b _
    have e2 : rd_T111 (p1 ++ (b :: p2 ++ x :: suf)) ((p1.length : Int) + (p2.length + 1)) = x := by
      have := rdI (p1 ++ b :: p2) x suf
      simpa using this
    have hstep : ∀ k, spec_l3In.l0 (k + 1) (p1 ++ (b :: p2 ++ x :: suf)) ((p1.length : Int) + (p2.length + 1)) p1.length = (if b.f0 = x.f0 then (if b.f1 = x.f1 then some 6 else spec_l3In.l0 k (p1 ++ (b :: p2 ++ x :: suf)) ((p1.length : Int) + (p2.length + 1)) ((p1.length : Int) + 1)) else spec_l3In.l0 k (p1 ++ (b :: p2 ++ x :: suf)) ((p1.length : Int) + (p2.length + 1)) ((p1.length : Int) + 1)) := by
      intro k
      rw [spec_l3In.l0, if_pos (by omega), if_pos (by omega), if_pos (by simp; omega), if_pos (by omega), if_pos (by simp; omega), e1, e2, wrap_id (by omega) (by omega)]
    have h' : Ev (fun k => spec_l3In.l0 k (p1 ++ (b :: p2 ++ x :: suf)) ((p1.length : Int) + (p2.length + 1)) ((p1.length : Int) + 1)) (if p2.any (sameIn x) = true then 6 else 0) := by
      have q : ((p1 ++ [b]).length : Int) = (p1.length : Int) + 1 := by simp
      rw [q] at h
      have q2 : (p1.length : Int) + 1 + (p2.length : Int) = (p1.length : Int) + ((p2.length : Int) + 1) := by omega
      rw [q2] at h
      simpa using h
    by_cases h0 : b.f0 = x.f0
    · by_cases h1 : b.f1 = x.f1
      · refine ev_succ (fun k => ?_)
        rw [hstep, if_pos h0, if_pos h1]
        simp [sameIn, h0, h1]
      · refine Ev.step (fun k => by rw [hstep, if_pos h0, if_neg h1]) ?_
        have e : (b :: p2).any (sameIn x) = p2.any (sameIn x) := by simp [sameIn, h0, Ne.symm h1]
        rw [e]; exact h'
    · refine Ev.step (fun k => by rw [hstep, if_neg h0]) ?_
      have e : (b :: p2).any (sameIn x) = p2.any (sameIn x) := by simp [sameIn, Ne.symm h0]
      rw [e]; exact h'
theorem spec_l3In_ev (pre : List S111) (x : S111) (suf : List S111) (hx : (x.f2.length : Int) ≤ 1048576) (hl : (pre.length : Int) + suf.length + 1 ≤ 1048576) :
    Ev (fun k => spec_l3In.f k (pre ++ x :: suf) pre.length) (inF pre x) := by
  unfold spec_l3In.f
  refine ev_if (by omega) (ev_if (by simp; omega) ?_)
  refine Ev.congr (f := fun k => spec_l3In.j0 k (pre ++ x :: suf) pre.length (inBad x)) (fun k => ?_) ?_
  · rw [rdI, spec_l1In_eq, spec_l1In_eq]
    simp only [Option.bind_some, inBad]
    cases decide (0 ≤ x.f0 ∧ x.f0 ≤ 2147483646) <;> cases decide (0 ≤ x.f1 ∧ x.f1 ≤ 3) <;> simp
  · unfold inF
    cases hb : inBad x with
    | true => exact ev_succ (fun k => by rw [spec_l3In.j0]; simp)
    | false =>
      rw [if_neg (by decide)]
      refine Ev.step (f := fun k => if (x.f2.length : Int) > 8 then some 2 else (spec_l1All.f k x.f2 0 9999).bind fun t => if t = true then spec_l3In.l0 k (pre ++ x :: suf) pre.length 0 else some 3) (fun k => ?_) ?_
      · rw [spec_l3In.j0, if_neg (by decide), if_pos (by omega), if_pos (by simp; omega), rdI]
      · by_cases h8 : (x.f2.length : Int) > 8
        · rw [if_pos h8]; exact ev_if h8 (Ev.now _)
        · rw [if_neg h8]
          refine ev_ifn h8 (ev_bind (spec_l1All_ev 0 9999 (by omega)) ?_)
          by_cases ha : decide (AllIn x.f2 0 9999) = true
          · rw [if_pos ha]
            refine ev_if ha ?_
            have := spec_l3In_l0 x suf pre [] (by simp; omega)
            simpa using this
          · rw [if_neg ha]; exact ev_ifn ha (Ev.now _)
theorem spec_l3Outs_l0 (suf : List S116) : ∀ (pre : List S116) (a : Int), (∀ x ∈ suf, (x.f1.length : Int) ≤ 1048576) → (pre.length : Int) + suf.length ≤ 1048576 →
    Ev (fun k => spec_l3Outs.l0 k (pre ++ suf) a pre.length) (outsF suf (endV (outSumF a suf))) := by
  induction suf with
  | nil =>
    intro pre a _ _
    simp only [outsF, outSumF, endV]
    refine ev_succ (fun k => ?_)
    rw [spec_l3Outs.l0, if_neg (by simp), spec_l1Amount_eq]
    simp only [Option.bind_some, decide_eq_true_eq]
    by_cases hh : 0 ≤ a ∧ a ≤ 1000000 <;> simp [hh]
  | cons b suf ih =>
    intro pre a hs hl
    simp only [List.length_cons, Int.natCast_add, Int.natCast_one] at hl
    have h := ih (pre ++ [b]) (wrap64 (a + b.f0)) (fun x hx => hs x (by simp [hx])) (by simp; omega)
    rw [show ((pre ++ [b]).length : Int) = (pre.length : Int) + 1 from by simp, show pre ++ [b] ++ suf = pre ++ b :: suf from by simp] at h
    simp only [outsF, outSumF]
    by_cases hb : 0 ≤ b.f0 ∧ b.f0 ≤ 1000000
    · rw [if_pos hb]
      refine Ev.step (f := fun k => (spec_l2Fault.f k b.f1).bind fun t => if t = 0 then spec_l3Outs.l0 k (pre ++ b :: suf) (wrap64 (a + b.f0)) ((pre.length : Int) + 1) else some t) (fun k => ?_) (ev_bind (spec_l2Fault_ev (by have := hs b (by simp); omega)) ?_)
      · rw [spec_l3Outs.l0, if_pos (by simp; omega), if_pos (by omega), rdO, spec_l1Amount_eq, wrap_id (x := (pre.length : Int) + 1) (by omega) (by omega)]
        simp [hb]
      · by_cases hf : faultP b.f1 = 0
        · rw [if_pos hf]; exact ev_if hf h
        · rw [if_neg hf]; exact ev_ifn hf (Ev.now _)
    · rw [if_neg hb]
      refine ev_succ (fun k => ?_)
      rw [spec_l3Outs.l0, if_pos (by simp; omega), if_pos (by omega), rdO, spec_l1Amount_eq]
      simp [hb]
theorem spec_l3Fault_l0 (t : S44) (e : Int) (he : Ev (fun k => spec_l3Outs.f k t.f2) e) (suf : List S111) : ∀ (pre : List S111), t.f1 = pre ++ suf → (∀ x ∈ suf, (x.f2.length : Int) ≤ 1048576) → (pre.length : Int) + suf.length ≤ 1048576 →
    Ev (fun k => spec_l3Fault_in.l0 k [t] pre.length) (insF pre suf e) := by
  have hrd : rd_T44 [t] 0 = t := rfl
  induction suf with
  | nil =>
    intro pre ht _ _
    refine Ev.step (f := fun k => (spec_l3Outs.f k t.f2).bind fun t9 => some t9) (fun k => ?_) (ev_bind he (Ev.now _))
    rw [spec_l3Fault_in.l0, if_pos (by simp), hrd, if_neg (by rw [ht]; simp)]
  | cons b suf ih =>
    intro pre ht hs hl
    simp only [List.length_cons, Int.natCast_add, Int.natCast_one] at hl
    have h := ih (pre ++ [b]) (by rw [ht]; simp) (fun x hx => hs x (by simp [hx])) (by simp; omega)
    rw [show ((pre ++ [b]).length : Int) = (pre.length : Int) + 1 from by simp] at h
    refine Ev.step (f := fun k => (spec_l3In.f k (pre ++ b :: suf) pre.length).bind fun t7 => if t7 = 0 then spec_l3Fault_in.l0 k [t] ((pre.length : Int) + 1) else some t7) (fun k => ?_) (ev_bind (spec_l3In_ev pre b suf (hs b (by simp)) (by omega)) ?_)
    · rw [spec_l3Fault_in.l0, if_pos (by simp), hrd, if_pos (by rw [ht]; simp; omega), ht, wrap_id (x := (pre.length : Int) + 1) (by omega) (by omega)]
    · unfold insF
      by_cases hf : inF pre b = 0
      · rw [if_pos hf]; exact ev_if hf h
      · rw [if_neg hf]; exact ev_ifn hf (Ev.now _)
theorem spec_l3Fault_ev {t : S44} (h1 : t.f1.length ≤ 1048576 ∧ ∀ x ∈ t.f1, (x.f2.length : Int) ≤ 1048576) (h2 : t.f2.length ≤ 1048576 ∧ ∀ x ∈ t.f2, (x.f1.length : Int) ≤ 1048576) : Ev (fun k => spec_l3Fault.f k t.f0 t.f1 t.f2) (txF t) := by
  unfold spec_l3Fault.f spec_l3Fault_in.f txF
  have hrd : rd_T44 [t] 0 = t := rfl
  have ht : (⟨t.f0, t.f1, t.f2⟩ : S44) = t := rfl
  rw [ht]
  refine ev_if (by simp) ?_
  rw [hrd]
  refine ev_bind0 (spec_l1In_eq _ _ _) ?_
  by_cases hn : 0 ≤ t.f0 ∧ t.f0 ≤ 65535
  · rw [if_pos hn]
    refine ev_if (by simpa using hn) ?_
    have go : Ev (fun k => spec_l3Fault_in.l0 k [t] 0) (insF [] t.f1 (outsF t.f2 (endV (outSumF 0 t.f2)))) := by
      have := spec_l3Fault_l0 t _ (by unfold spec_l3Outs.f; exact spec_l3Outs_l0 t.f2 [] 0 h2.2 (by simp; omega)) t.f1 [] (by simp) h1.2 (by simp; omega)
      simpa using this
    have bad : Ev (fun k => spec_l3Fault_in.j0 k [t] true) 2 := ev_succ (fun k => by rw [spec_l3Fault_in.j0]; simp)
    by_cases c1 : (t.f1.length : Int) > 4
    · rw [if_pos (.inl c1)]; exact ev_if c1 bad
    · refine ev_ifn c1 ?_
      by_cases c2 : (t.f2.length : Int) < 1
      · rw [if_pos (.inr (.inl c2))]; exact ev_if c2 bad
      · refine ev_ifn c2 ?_
        by_cases c3 : (t.f2.length : Int) > 4
        · rw [if_pos (.inr (.inr c3)), decide_eq_true c3]; exact bad
        · rw [if_neg (by omega), decide_eq_false c3]
          exact Ev.step (fun k => by rw [spec_l3Fault_in.j0, if_neg (by decide)]) go
  · rw [if_neg hn]; exact ev_ifn (by simpa using hn) (Ev.now _)

theorem impl_badCell_eq (x : Int) : impl_badCell.f x = some (!decide (0 ≤ x ∧ x ≤ 9999)) := by
  unfold impl_badCell.f; rw [impl_in_eq]; rfl
theorem inFault_1_eq (x y : S111) : impl_inFault_1_in.f y.f0 y.f1 y.f2 [x] = some (sameIn x y) := by
  have hrd : rd_T111 [x] 0 = x := rfl
  unfold impl_inFault_1_in.f sameIn
  rw [if_pos (by simp), hrd]
  by_cases h : x.f0 = y.f0 <;> simp [h]
theorem inFault_index (x : S111) (suf : List S111) : ∀ (pre : List S111) (n : Int), n = (pre.length : Int) + suf.length → n ≤ 1048576 →
    ∃ r : Int, Ev (fun k => impl_IndexFunc_at_impl_inFault_1_in.l0 k (pre ++ suf) [x] n pre.length) r ∧ decide (r ≥ 0) = suf.any (sameIn x) := by
  induction suf with
  | nil => intro pre n hn _; subst hn; exact ⟨-1, ev_succ (fun k => by rw [impl_IndexFunc_at_impl_inFault_1_in.l0, if_neg (by simp)]), by simp⟩
  | cons b suf ih =>
    intro pre n hn hl
    simp only [List.length_cons, Int.natCast_add, Int.natCast_one] at hn
    cases hb : sameIn x b with
    | true =>
      refine ⟨pre.length, ev_succ (fun k => ?_), by simp [hb]⟩
      rw [impl_IndexFunc_at_impl_inFault_1_in.l0, if_pos (by omega), if_pos (by omega), if_pos (by simp; omega), rdI, inFault_1_eq, hb]
      rfl
    | false =>
      obtain ⟨r, h, hr⟩ := ih (pre ++ [b]) n (by simp; omega) hl
      refine ⟨r, Ev.step (fun k => ?_) h, by simp [hb, hr]⟩
      rw [impl_IndexFunc_at_impl_inFault_1_in.l0, if_pos (by omega), if_pos (by omega), if_pos (by simp; omega), rdI, inFault_1_eq, hb, wrap_id (by omega) (by omega)]
      simp
theorem inFault_any (x : S111) {l : List S111} (hl : (l.length : Int) ≤ 1048576) : Ev (fun k => impl_ContainsFunc_at_impl_inFault_1.f k l x.f0 x.f1 x.f2) (l.any (sameIn x)) := by
  obtain ⟨r, h, hr⟩ := inFault_index x l [] l.length (by simp) hl
  rw [← hr]
  unfold impl_ContainsFunc_at_impl_inFault_1.f impl_ContainsFunc_at_impl_inFault_1_in.f impl_IndexFunc_at_impl_inFault_1_in.f
  exact ev_bind (by simpa using h) (Ev.now _)
theorem any_not_all (l : List Int) : l.any (fun x => !decide (0 ≤ x ∧ x ≤ 9999)) = !decide (AllIn l 0 9999) := by
  induction l with
  | nil => simp [AllIn]
  | cons b l ih =>
    rw [List.any_cons, ih]
    by_cases hb : 0 ≤ b ∧ b ≤ 9999 <;> simp [AllIn_cons, hb]
theorem impl_inFault_ev (pre : List S111) (x : S111) (hx : (x.f2.length : Int) ≤ 1048576) (hl : (pre.length : Int) ≤ 1048576) : Ev (fun k => impl_inFault.f k x.f0 x.f1 x.f2 pre) (inF pre x) := by
  unfold impl_inFault.f
  refine Ev.congr (f := fun k => impl_inFault.j0 k pre (inBad x) x.f0 x.f1 x.f2) (fun k => ?_) ?_
  · rw [impl_isSum_eq, impl_in_eq]
    simp only [Option.bind_some, inBad]
    cases decide (0 ≤ x.f0 ∧ x.f0 ≤ 2147483646) <;> cases decide (0 ≤ x.f1 ∧ x.f1 ≤ 3) <;> simp
  · unfold inF
    cases hb : inBad x with
    | true => exact ev_succ (fun k => by rw [impl_inFault.j0]; simp)
    | false =>
      rw [if_neg (by decide)]
      refine Ev.step (fun k => by rw [impl_inFault.j0, if_neg (by decide)]) ?_
      by_cases h8 : (x.f2.length : Int) > 8
      · rw [if_pos h8]; exact ev_if h8 (Ev.now _)
      · rw [if_neg h8]
        refine ev_ifn h8 (ev_bind (slices_ContainsFunc_at_impl_badCell_ev _ impl_badCell_eq (by omega)) ?_)
        rw [any_not_all]
        by_cases ha : decide (AllIn x.f2 0 9999) = true
        · rw [if_pos ha, ha]
          refine ev_ifn (by decide) (ev_bind (inFault_any x hl) ?_)
          by_cases hh : pre.any (sameIn x) = true
          · rw [if_pos hh, if_pos hh]; exact Ev.now _
          · rw [if_neg hh, if_neg hh]; exact Ev.now _
        · rw [if_neg ha]; exact ev_if (by simpa using ha) (Ev.now _)
theorem impl_outSum_l0 (suf : List S116) : ∀ (pre : List S116) (a : Int) (n : Int), n = (pre.length : Int) + suf.length → n ≤ 1048576 →
    Ev (fun k => impl_outSum.l0 k a (pre ++ suf) n pre.length) (outSumF a suf) := by
  induction suf with
  | nil => intro pre a n hn _; subst hn; exact ev_succ (fun k => by rw [impl_outSum.l0, if_neg (by simp)]; rfl)
  | cons b suf ih =>
    intro pre a n hn hl
    simp only [List.length_cons, Int.natCast_add, Int.natCast_one] at hn
    have h := ih (pre ++ [b]) (wrap64 (a + b.f0)) n (by simp; omega) hl
    refine Ev.step (fun k => ?_) (by simpa [outSumF] using h)
    rw [impl_outSum.l0, if_pos (by omega), if_pos (by omega), if_pos (by simp; omega), rdO, wrap_id (x := (pre.length : Int) + 1) (by omega) (by omega)]
theorem impl_outSum_ev {l : List S116} (hl : l.length ≤ 1048576) : Ev (fun k => impl_outSum.f k l) (outSumF 0 l) := by
  unfold impl_outSum.f
  exact impl_outSum_l0 l [] 0 l.length (by simp) (by omega)
theorem impl_TxFault_l1 (t : S44) (h2 : t.f2.length ≤ 1048576) (suf : List S116) : ∀ (pre : List S116) (n : Int), n = (pre.length : Int) + suf.length → (∀ x ∈ suf, (x.f1.length : Int) ≤ 1048576) → n ≤ 1048576 →
    Ev (fun k => impl_TxFault.l1 k (pre ++ suf) n pre.length t.f0 t.f1 t.f2) (outsF suf (endV (outSumF 0 t.f2))) := by
  induction suf with
  | nil =>
    intro pre n hn _ _
    simp only [List.length_nil, Int.natCast_zero, Int.add_zero] at hn
    simp only [outsF, endV]
    refine Ev.step (f := fun k => (impl_outSum.f k t.f2).bind fun s => (impl_isAmount.f s).bind fun c => if c = true then some 0 else some 7) (fun k => ?_) (ev_bind (impl_outSum_ev h2) (ev_bind0 (impl_isAmount_eq _) ?_))
    · rw [impl_TxFault.l1, if_neg (by omega)]
    · by_cases h : 0 ≤ outSumF 0 t.f2 ∧ outSumF 0 t.f2 ≤ 1000000
      · rw [if_pos h]; exact ev_if (by simpa using h) (Ev.now _)
      · rw [if_neg h]; exact ev_ifn (by simpa using h) (Ev.now _)
  | cons b suf ih =>
    intro pre n hn hs hl
    simp only [List.length_cons, Int.natCast_add, Int.natCast_one] at hn
    have h := ih (pre ++ [b]) n (by simp; omega) (fun x hx => hs x (by simp [hx])) hl
    rw [show ((pre ++ [b]).length : Int) = (pre.length : Int) + 1 from by simp, show pre ++ [b] ++ suf = pre ++ b :: suf from by simp] at h
    simp only [outsF]
    by_cases hb : 0 ≤ b.f0 ∧ b.f0 ≤ 1000000
    · rw [if_pos hb]
      refine Ev.step (f := fun k => (impl_ProgramFault.f k b.f1).bind fun t1 => if t1 = 0 then impl_TxFault.l1 k (pre ++ b :: suf) n ((pre.length : Int) + 1) t.f0 t.f1 t.f2 else some t1) (fun k => ?_) (ev_bind (impl_ProgramFault_ev (by have := hs b (by simp); omega)) ?_)
      · rw [impl_TxFault.l1, if_pos (by omega), if_pos (by omega), if_pos (by simp; omega), rdO, impl_isAmount_eq, wrap_id (x := (pre.length : Int) + 1) (by omega) (by omega)]
        simp [hb]
      · by_cases hf : faultP b.f1 = 0
        · rw [if_pos hf]; exact ev_if hf h
        · rw [if_neg hf]; exact ev_ifn hf (Ev.now _)
    · rw [if_neg hb]
      refine ev_succ (fun k => ?_)
      rw [impl_TxFault.l1, if_pos (by omega), if_pos (by omega), if_pos (by simp; omega), rdO, impl_isAmount_eq]
      simp [hb]
theorem impl_TxFault_l0 (t : S44) (e : Int) (he : Ev (fun k => impl_TxFault.l1 k t.f2 (t.f2.length : Int) 0 t.f0 t.f1 t.f2) e) (suf : List S111) : ∀ (pre : List S111), t.f1 = pre ++ suf → (∀ x ∈ suf, (x.f2.length : Int) ≤ 1048576) → (pre.length : Int) + suf.length ≤ 1048576 →
    Ev (fun k => impl_TxFault.l0 k t.f1 (t.f1.length : Int) pre.length t.f0 t.f1 t.f2) (insF pre suf e) := by
  induction suf with
  | nil =>
    intro pre ht _ _
    refine Ev.step (fun k => ?_) he
    rw [impl_TxFault.l0, if_neg (by rw [ht]; simp)]
  | cons b suf ih =>
    intro pre ht hs hl
    simp only [List.length_cons, Int.natCast_add, Int.natCast_one] at hl
    have h := ih (pre ++ [b]) (by rw [ht]; simp) (fun x hx => hs x (by simp [hx])) (by simp; omega)
    rw [show ((pre ++ [b]).length : Int) = (pre.length : Int) + 1 from by simp] at h
    have hlen : (t.f1.length : Int) = (pre.length : Int) + (suf.length + 1) := by rw [ht]; simp
    have e1 : rd_T111 t.f1 (pre.length : Int) = b := by rw [ht]; exact rdI pre b suf
    have e2 : t.f1.take ((pre.length : Int)).toNat = pre := by rw [ht]; simp
    refine Ev.step (f := fun k => (impl_inFault.f k b.f0 b.f1 b.f2 pre).bind fun t7 => if t7 = 0 then impl_TxFault.l0 k t.f1 (t.f1.length : Int) ((pre.length : Int) + 1) t.f0 t.f1 t.f2 else some t7) (fun k => ?_) (ev_bind (impl_inFault_ev pre b (hs b (by simp)) (by omega)) ?_)
    · rw [impl_TxFault.l0, if_pos (by omega), if_pos (by omega), if_pos (by omega), if_pos (by omega), e1, e2, wrap_id (x := (pre.length : Int) + 1) (by omega) (by omega)]
    · unfold insF
      by_cases hf : inF pre b = 0
      · rw [if_pos hf]; exact ev_if hf h
      · rw [if_neg hf]; exact ev_ifn hf (Ev.now _)
theorem impl_TxFault_ev {t : S44} (h1 : t.f1.length ≤ 1048576 ∧ ∀ x ∈ t.f1, (x.f2.length : Int) ≤ 1048576) (h2 : t.f2.length ≤ 1048576 ∧ ∀ x ∈ t.f2, (x.f1.length : Int) ≤ 1048576) : Ev (fun k => impl_TxFault.f k t.f0 t.f1 t.f2) (txF t) := by
  unfold impl_TxFault.f txF
  refine ev_bind0 (impl_in_eq _ _ _) ?_
  by_cases hn : 0 ≤ t.f0 ∧ t.f0 ≤ 65535
  · rw [if_pos hn]
    refine ev_if (by simpa using hn) ?_
    by_cases c1 : (t.f1.length : Int) > 4
    · rw [if_pos (.inl c1)]; exact ev_if c1 (Ev.now _)
    · refine ev_ifn c1 (ev_bind0 (impl_in_eq _ _ _) ?_)
      by_cases c2 : 1 ≤ (t.f2.length : Int) ∧ (t.f2.length : Int) ≤ 4
      · rw [if_neg (by omega)]
        refine ev_if (by simpa using c2) ?_
        have l1 := impl_TxFault_l1 t h2.1 t.f2 [] t.f2.length (by simp) h2.2 (by omega)
        have := impl_TxFault_l0 t _ (by simpa using l1) t.f1 [] (by simp) h1.2 (by simp; omega)
        simpa using this
      · rw [if_pos (by omega)]; exact ev_ifn (by simpa using c2) (Ev.now _)
  · rw [if_neg hn]; exact ev_ifn (by simpa using hn) (Ev.now _)

theorem FnExactTxFault (x0 : S38) (o0 : ok38 x0) : ∃ k, laws_FnExactTxFault.f k x0.f0 x0.f1 x0.f2 = some true := by
  refine Ev.rounds (g := fun k => laws_FnExactTxFault.f k x0.f0 x0.f1 x0.f2) ?_
  unfold laws_FnExactTxFault.f
  obtain ⟨r, hr, hr1, hr2⟩ := laws_szTx_ev (a := x0.f0) o0.2.1.1 (fun x hx => (o0.2.1.2 x hx).2.2.1) o0.2.2.1 (fun x hx => (o0.2.2.2 x hx).2.1) 1048576 (by omega) (by omega)
  refine ev_bind hr ?_
  by_cases h : r < 0
  · exact ev_if h (Ev.now _)
  refine ev_ifn h ?_
  obtain ⟨b1, b2⟩ := hr2 (by omega)
  have hs : Ev (fun k => spec_TxFault.f k x0.f0 (x0.f1.map cIn) (x0.f2.map cOut)) (txF ⟨x0.f0, x0.f1.map cIn, x0.f2.map cOut⟩) := by
    unfold spec_TxFault.f
    exact ev_bind (spec_l3Fault_ev (t := ⟨x0.f0, x0.f1.map cIn, x0.f2.map cOut⟩) (cIn_ok b1) (cOut_ok b2)) (Ev.now _)
  have hi := impl_TxFault_ev (t := ⟨x0.f0, x0.f1.map cIn, x0.f2.map cOut⟩) (cIn_ok b1) (cOut_ok b2)
  refine ev_bind (laws_toTx_ev b1 b2) (ev_bind hs ?_)
  refine ev_bind (laws_toTx_ev b1 b2) (ev_bind hi ?_)
  refine ev_if rfl ?_
  refine ev_bind (laws_toTx_ev b1 b2) (ev_bind (laws_eqTx_refl (cIn_ok b1) (cOut_ok b2)) (ev_if rfl (Ev.now _)))

end Go.Proofs.Ytjgnjhbleiempaa.Pure
