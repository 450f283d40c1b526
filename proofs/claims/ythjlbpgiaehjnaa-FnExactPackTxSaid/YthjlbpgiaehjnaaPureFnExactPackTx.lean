/- for every transaction that is not too long, PackTx answers as the reference does, in new memory, and leaves its argument as it was. -/
import Derived.Test.YthjlbpgiaehjnaaQFnExactPackTxx1
import Derived.Test.YthjlbpgiaehjnaaQFnExactPackTxx2
import Derived.Test.YthjlbpgiaehjnaaQFnExactPackTxx3
import Derived.Test.YthjlbpgiaehjnaaQFnExactPackTxx4
import Derived.Test.YthjlbpgiaehjnaaQFnExactPackTxx5
import Derived.Test.YthjlbpgiaehjnaaQFnExactPackTxx6
import Derived.Test.YthjlbpgiaehjnaaQFnExactPackTxx7
import Derived.Test.YthjlbpgiaehjnaaQFnExactPackTxx8
import Derived.Test.YthjlbpgiaehjnaaQFnExactPackTxx9
import Derived.Test.YthjlbpgiaehjnaaQFnExactPackTxx10
import Derived.Test.YthjlbpgiaehjnaaQFnExactPackTxx11
import Derived.Test.YthjlbpgiaehjnaaQFnExactPackTxx12
import Derived.Test.YthjlbpgiaehjnaaQFnExactPackTxx13
import Derived.Test.YthjlbpgiaehjnaaQFnExactPackTxx14
import Derived.Test.YthjlbpgiaehjnaaRFnExactPackTx
namespace Go.Proofs.Ythjlbpgiaehjnaa.Pure
open Go.RowKit Go.Proofs.Ythjlbpgiaehjnaa.QFnExactPackTx Go.Proofs.YthjlbpgiaehjnaaW.PrintWords Go.Proofs.YthjlbpgiaehjnaaW.PrintLast
set_option linter.unusedVariables false
set_option linter.unusedSimpArgs false
theorem wrap_id {x : Int} (h1 : -9223372036854775808 ≤ x) (h2 : x ≤ 9223372036854775807) : wrap64 x = x := by
 unfold wrap64; omega
theorem wf64 {x : Int} (h : (Lit.int .i64 x).wf = true) : -9223372036854775808 ≤ x ∧ x ≤ 9223372036854775807 := by
 simpa [Lit.wf, IntKind.min, IntKind.max, IntKind.signed, IntKind.bits] using h
theorem wf8 {x : Int} (h : (Lit.int .u8 x).wf = true) : 0 ≤ x ∧ x ≤ 255 := by
 simpa [Lit.wf, IntKind.min, IntKind.max, IntKind.signed, IntKind.bits] using h
theorem ev_some {α : Type} {g : Nat → Option α} {r : α} (h : ∀ k, g k = some r) : Ev g r := ⟨0, fun k _ => h k⟩
theorem ev_succ {α : Type} {g : Nat → Option α} {r : α} (h : ∀ k, g (k + 1) = some r) : Ev g r := Ev.step h (Ev.now r)
theorem ev_bind {α β : Type} {g : Nat → Option α} {f : α → Nat → Option β} {a : α} {r : β} (h : Ev g a) (k : Ev (f a) r) : Ev (fun n => (g n).bind fun t => f t n) r :=
 Ev.bind (f := fun n t => f t n) h k
theorem ev_if {α : Type} {p : Prop} [Decidable p] {g f : Nat → Option α} {r : α} (hp : p) (k : Ev g r) : Ev (fun n => if p then g n else f n) r :=
 Ev.congr (fun n => if_pos hp) k
theorem ev_ifn {α : Type} {p : Prop} [Decidable p] {g f : Nat → Option α} {r : α} (hp : ¬ p) (k : Ev f r) : Ev (fun n => if p then g n else f n) r :=
 Ev.congr (fun n => if_neg hp) k
theorem ev_bind0 {α β : Type} {g : Option α} {f : α → Nat → Option β} {a : α} {r : β} (h : g = some a) (k : Ev (f a) r) : Ev (fun n => g.bind fun t => f t n) r := by
 subst h; exact k
theorem rd_mid (pre : List Int) (b : Int) (suf : List Int) : rd (pre ++ b :: suf) (pre.length : Int) = b := by
 unfold rd
 simp
theorem rd_at {l : List Int} {i : Int} (h0 : 0 ≤ i) (h1 : i < l.length) : rd l i = l[i.toNat]'(by omega) := by
 unfold rd
 rw [List.getD_eq_getElem?_getD, List.getElem?_eq_getElem (by omega)]; rfl
theorem split_at_len {α : Type} (l : List α) (n : Nat) (h : n ≤ l.length) : ∃ pre suf, l = pre ++ suf ∧ pre.length = n :=
 ⟨l.take n, l.drop n, (List.take_append_drop n l).symm, by simp; omega⟩
theorem laws_szInt64S_some (l : List Int) (q : Int) (h0 : 0 ≤ q) (h1 : q ≤ 1048576) (hl : l.length ≤ maxLen) : ∃ r, laws_szInt64S.f l q = some r ∧ r ≤ q ∧ (0 ≤ r → (l.length : Int) ≤ q) := by
 unfold laws_szInt64S.f
 unfold maxLen at hl
 rw [wrap_id (by omega) (by omega)]
 by_cases h : q - (l.length : Int) < 0
 · rw [if_pos h]; exact ⟨-1, rfl, by omega, by omega⟩
 · rw [if_neg h]; exact ⟨_, rfl, by omega, by omega⟩
theorem laws_szIn_some (b : S137) (q : Int) (h0 : 0 ≤ q) (h1 : q ≤ 1048576) (hl : b.f2.length ≤ maxLen) : ∃ r, laws_szIn.f b.f0 b.f1 b.f2 q = some r ∧ r ≤ q ∧ (0 ≤ r → (b.f2.length : Int) ≤ q) := by
 unfold laws_szIn.f
 obtain ⟨r, hr, h2, h3⟩ := laws_szInt64S_some b.f2 q h0 h1 hl
 rw [hr]
 simp only [Option.bind_some]
 by_cases h : r < 0
 · rw [if_pos h]; exact ⟨-1, rfl, by omega, by omega⟩
 · rw [if_neg h]; exact ⟨r, rfl, h2, h3⟩
theorem laws_szInS_l0 (suf : List S137) : ∀ (pre : List S137) (q : Int), 0 ≤ q → q ≤ 1048576 → (∀ x ∈ suf, x.f2.length ≤ maxLen) → (pre.length : Int) + suf.length ≤ 1048576 →
 ∃ r, Ev (fun k => laws_szInS.l0 k (pre ++ suf) q pre.length) r ∧ r ≤ q ∧ (0 ≤ r → ∀ x ∈ suf, (x.f2.length : Int) ≤ 1048576) := by
 induction suf with
 | nil => intro pre q h0 h1 _ _; exact ⟨q, ev_succ (fun k => by rw [laws_szInS.l0, if_neg (by simp)]), by omega, by simp⟩
 | cons b suf ih =>
  intro pre q h0 h1 hs hl
  simp only [List.length_cons, Int.natCast_add, Int.natCast_one] at hl
  have hrd : rd_T137 (pre ++ b :: suf) (pre.length : Int) = b := by unfold rd_T137; simp
  obtain ⟨r, hr, hr1, hr2⟩ := laws_szIn_some b q h0 h1 (hs b (by simp))
  by_cases hneg : r < 0
  · refine ⟨-1, ev_succ (fun k => ?_), by omega, by omega⟩
    rw [laws_szInS.l0, if_pos (by simp; omega), if_pos (by omega), hrd, hr]
    simp only [Option.bind_some]
    rw [if_pos hneg]
  · obtain ⟨r', h', h1', h2'⟩ := ih (pre ++ [b]) r (by omega) (by omega) (fun x hx => hs x (by simp [hx])) (by simp; omega)
    refine ⟨r', Ev.step (fun k => ?_) h', by omega, fun h x hx => ?_⟩
    · rw [laws_szInS.l0, if_pos (by simp; omega), if_pos (by omega), hrd, hr]
      simp only [Option.bind_some]
      rw [if_neg hneg, wrap_id (by omega) (by omega)]
      simp
    · rcases List.mem_cons.1 hx with rfl | hx
      · have := hr2 (by omega); omega
      · exact h2' h x hx
theorem laws_szInS_ev {l : List S137} (hl : l.length ≤ maxLen) (hs : ∀ x ∈ l, x.f2.length ≤ maxLen) (q : Int) (h0 : 0 ≤ q) (h1 : q ≤ 1048576) :
 ∃ r, Ev (fun k => laws_szInS.f k l q) r ∧ r ≤ q ∧ (0 ≤ r → l.length ≤ 1048576 ∧ ∀ x ∈ l, (x.f2.length : Int) ≤ 1048576) := by
 unfold maxLen at hl
 unfold laws_szInS.f
 rw [wrap_id (by omega) (by omega)]
 by_cases h : q - (l.length : Int) < 0
 · exact ⟨-1, ev_if h (Ev.now _), by omega, by omega⟩
 · obtain ⟨r, hr, h2, h3⟩ := laws_szInS_l0 l [] (q - (l.length : Int)) (by omega) (by omega) hs (by simp; omega)
   exact ⟨r, ev_ifn h (by simpa using hr), by omega, fun hh => ⟨by omega, h3 hh⟩⟩
theorem laws_szOut_some (b : S139) (q : Int) (h0 : 0 ≤ q) (h1 : q ≤ 1048576) (hl : b.f1.length ≤ maxLen) : ∃ r, laws_szOut.f b.f0 b.f1 q = some r ∧ r ≤ q ∧ (0 ≤ r → (b.f1.length : Int) ≤ q) := by
 unfold laws_szOut.f
 obtain ⟨r, hr, h2, h3⟩ := laws_szInt64S_some b.f1 q h0 h1 hl
 rw [hr]
 simp only [Option.bind_some]
 by_cases h : r < 0
 · rw [if_pos h]; exact ⟨-1, rfl, by omega, by omega⟩
 · rw [if_neg h]; exact ⟨r, rfl, h2, h3⟩
theorem laws_szOutS_l0 (suf : List S139) : ∀ (pre : List S139) (q : Int), 0 ≤ q → q ≤ 1048576 → (∀ x ∈ suf, x.f1.length ≤ maxLen) → (pre.length : Int) + suf.length ≤ 1048576 →
 ∃ r, Ev (fun k => laws_szOutS.l0 k (pre ++ suf) q pre.length) r ∧ r ≤ q ∧ (0 ≤ r → ∀ x ∈ suf, (x.f1.length : Int) ≤ 1048576) := by
 induction suf with
 | nil => intro pre q h0 h1 _ _; exact ⟨q, ev_succ (fun k => by rw [laws_szOutS.l0, if_neg (by simp)]), by omega, by simp⟩
 | cons b suf ih =>
  intro pre q h0 h1 hs hl
  simp only [List.length_cons, Int.natCast_add, Int.natCast_one] at hl
  have hrd : rd_T139 (pre ++ b :: suf) (pre.length : Int) = b := by unfold rd_T139; simp
  obtain ⟨r, hr, hr1, hr2⟩ := laws_szOut_some b q h0 h1 (hs b (by simp))
  by_cases hneg : r < 0
  · refine ⟨-1, ev_succ (fun k => ?_), by omega, by omega⟩
    rw [laws_szOutS.l0, if_pos (by simp; omega), if_pos (by omega), hrd, hr]
    simp only [Option.bind_some]
    rw [if_pos hneg]
  · obtain ⟨r', h', h1', h2'⟩ := ih (pre ++ [b]) r (by omega) (by omega) (fun x hx => hs x (by simp [hx])) (by simp; omega)
    refine ⟨r', Ev.step (fun k => ?_) h', by omega, fun h x hx => ?_⟩
    · rw [laws_szOutS.l0, if_pos (by simp; omega), if_pos (by omega), hrd, hr]
      simp only [Option.bind_some]
      rw [if_neg hneg, wrap_id (by omega) (by omega)]
      simp
    · rcases List.mem_cons.1 hx with rfl | hx
      · have := hr2 (by omega); omega
      · exact h2' h x hx
theorem laws_szOutS_ev {l : List S139} (hl : l.length ≤ maxLen) (hs : ∀ x ∈ l, x.f1.length ≤ maxLen) (q : Int) (h0 : 0 ≤ q) (h1 : q ≤ 1048576) :
 ∃ r, Ev (fun k => laws_szOutS.f k l q) r ∧ r ≤ q ∧ (0 ≤ r → l.length ≤ 1048576 ∧ ∀ x ∈ l, (x.f1.length : Int) ≤ 1048576) := by
 unfold maxLen at hl
 unfold laws_szOutS.f
 rw [wrap_id (by omega) (by omega)]
 by_cases h : q - (l.length : Int) < 0
 · exact ⟨-1, ev_if h (Ev.now _), by omega, by omega⟩
 · obtain ⟨r, hr, h2, h3⟩ := laws_szOutS_l0 l [] (q - (l.length : Int)) (by omega) (by omega) hs (by simp; omega)
   exact ⟨r, ev_ifn h (by simpa using hr), by omega, fun hh => ⟨by omega, h3 hh⟩⟩
theorem laws_toInt64S_l0 (suf : List Int) : ∀ (pre : List Int) (z : List Int), z.length = suf.length → (pre.length : Int) + suf.length ≤ 9223372036854775806 →
 Ev (fun k => laws_toInt64S.l0 k (pre ++ suf) (pre ++ z) pre.length) (pre ++ suf) := by
 induction suf with
 | nil => intro pre z hz _; obtain rfl : z = [] := List.eq_nil_of_length_eq_zero (by simpa using hz); exact ev_succ (fun k => by simp [laws_toInt64S.l0])
 | cons b suf ih =>
  intro pre z hz hl
  obtain ⟨c, z, rfl⟩ : ∃ c z', z = c :: z' := by cases z with | nil => simp at hz | cons c z => exact ⟨c, z, rfl⟩
  simp only [List.length_cons, Int.natCast_add, Int.natCast_one] at hl hz
  have h := ih (pre ++ [b]) z (by omega) (by simp; omega)
  refine Ev.step (fun k => ?_) (by simpa using h)
  rw [laws_toInt64S.l0]
  rw [if_pos (by simp; omega), if_pos (by omega), if_pos (by simp; omega), rd_mid, wrap_id (by omega) (by omega)]
  simp
theorem laws_toInt64S_ev {l : List Int} (hl : l.length ≤ 17592186043904) : Ev (fun k => laws_toInt64S.f k l) l := by
 have h := laws_toInt64S_l0 l [] (List.replicate l.length 0) (by simp) (by simp; omega)
 unfold laws_toInt64S.f
 refine ev_if (by omega) (ev_if (by simp; omega) ?_)
 simpa using h
def cIn (x : S137) : S34 := ⟨x.f0, x.f1, x.f2⟩
theorem laws_toIn_ev (b : S137) (hl : (b.f2.length : Int) ≤ 1048576) : Ev (fun k => laws_toIn.f k b.f0 b.f1 b.f2) (b.f0, b.f1, b.f2) := by
 unfold laws_toIn.f
 exact ev_bind (laws_toInt64S_ev (by omega)) (Ev.now _)
theorem laws_toInS_l0 (suf : List S137) : ∀ (pre : List S137) (z : List S34), z.length = suf.length → (∀ x ∈ suf, (x.f2.length : Int) ≤ 1048576) → (pre.length : Int) + suf.length ≤ 1048576 →
 Ev (fun k => laws_toInS.l0 k (pre ++ suf) (pre.map cIn ++ z) pre.length) ((pre ++ suf).map cIn) := by
 induction suf with
 | nil => intro pre z hz _ _; obtain rfl : z = [] := List.eq_nil_of_length_eq_zero (by simpa using hz); exact ev_succ (fun k => by rw [laws_toInS.l0, if_neg (by simp)]; simp)
 | cons b suf ih =>
  intro pre z hz hs hl
  obtain ⟨c, z, rfl⟩ : ∃ c z', z = c :: z' := by cases z with | nil => simp at hz | cons c z => exact ⟨c, z, rfl⟩
  simp only [List.length_cons, Int.natCast_add, Int.natCast_one] at hl hz
  have hrd : rd_T137 (pre ++ b :: suf) (pre.length : Int) = b := by unfold rd_T137; simp
  have h := ih (pre ++ [b]) z (by omega) (fun x hx => hs x (by simp [hx])) (by simp; omega)
  refine Ev.step (f := fun k => (laws_toIn.f k b.f0 b.f1 b.f2).bind fun bt => laws_toInS.l0 k (pre ++ b :: suf) ((pre.map cIn ++ c :: z).set pre.length (⟨bt.1, bt.2.1, bt.2.2⟩ : S34)) ((pre.length : Int) + 1)) (fun k => ?_) (ev_bind (laws_toIn_ev b (hs b (by simp))) ?_)
  · rw [laws_toInS.l0, if_pos (by simp; omega), if_pos (by omega), hrd]
    refine congrArg _ (funext fun bt => ?_)
    rw [if_pos (by simp; omega), wrap_id (by omega) (by omega)]
    simp
  · have e : (pre.map cIn ++ c :: z).set pre.length (⟨b.f0, b.f1, b.f2⟩ : S34) = (pre ++ [b]).map cIn ++ z := by
     rw [List.set_append_right _ _ (by simp)]; simp [cIn]
    simp only [e]
    simpa using h
theorem laws_toInS_ev {l : List S137} (hl : l.length ≤ 1048576) (hs : ∀ x ∈ l, (x.f2.length : Int) ≤ 1048576) : Ev (fun k => laws_toInS.f k l) (l.map cIn) := by
 have h := laws_toInS_l0 l [] (List.replicate l.length z34) (by simp) hs (by simp; omega)
 unfold laws_toInS.f
 refine ev_if (by omega) (ev_if (by simp; omega) ?_)
 simpa using h
def cOut (x : S139) : S86 := ⟨x.f0, x.f1⟩
theorem laws_toOut_ev (b : S139) (hl : (b.f1.length : Int) ≤ 1048576) : Ev (fun k => laws_toOut.f k b.f0 b.f1) (b.f0, b.f1) := by
 unfold laws_toOut.f
 exact ev_bind (laws_toInt64S_ev (by omega)) (Ev.now _)
theorem laws_toOutS_l0 (suf : List S139) : ∀ (pre : List S139) (z : List S86), z.length = suf.length → (∀ x ∈ suf, (x.f1.length : Int) ≤ 1048576) → (pre.length : Int) + suf.length ≤ 1048576 →
 Ev (fun k => laws_toOutS.l0 k (pre ++ suf) (pre.map cOut ++ z) pre.length) ((pre ++ suf).map cOut) := by
 induction suf with
 | nil => intro pre z hz _ _; obtain rfl : z = [] := List.eq_nil_of_length_eq_zero (by simpa using hz); exact ev_succ (fun k => by rw [laws_toOutS.l0, if_neg (by simp)]; simp)
 | cons b suf ih =>
  intro pre z hz hs hl
  obtain ⟨c, z, rfl⟩ : ∃ c z', z = c :: z' := by cases z with | nil => simp at hz | cons c z => exact ⟨c, z, rfl⟩
  simp only [List.length_cons, Int.natCast_add, Int.natCast_one] at hl hz
  have hrd : rd_T139 (pre ++ b :: suf) (pre.length : Int) = b := by unfold rd_T139; simp
  have h := ih (pre ++ [b]) z (by omega) (fun x hx => hs x (by simp [hx])) (by simp; omega)
  refine Ev.step (f := fun k => (laws_toOut.f k b.f0 b.f1).bind fun bt => laws_toOutS.l0 k (pre ++ b :: suf) ((pre.map cOut ++ c :: z).set pre.length (⟨bt.1, bt.2⟩ : S86)) ((pre.length : Int) + 1)) (fun k => ?_) (ev_bind (laws_toOut_ev b (hs b (by simp))) ?_)
  · rw [laws_toOutS.l0, if_pos (by simp; omega), if_pos (by omega), hrd]
    refine congrArg _ (funext fun bt => ?_)
    rw [if_pos (by simp; omega), wrap_id (by omega) (by omega)]
    simp
  · have e : (pre.map cOut ++ c :: z).set pre.length (⟨b.f0, b.f1⟩ : S86) = (pre ++ [b]).map cOut ++ z := by
     rw [List.set_append_right _ _ (by simp)]; simp [cOut]
    simp only [e]
    simpa using h
theorem laws_toOutS_ev {l : List S139} (hl : l.length ≤ 1048576) (hs : ∀ x ∈ l, (x.f1.length : Int) ≤ 1048576) : Ev (fun k => laws_toOutS.f k l) (l.map cOut) := by
 have h := laws_toOutS_l0 l [] (List.replicate l.length z86) (by simp) hs (by simp; omega)
 unfold laws_toOutS.f
 refine ev_if (by omega) (ev_if (by simp; omega) ?_)
 simpa using h
theorem laws_eqInt64S_l0 (suf : List Int) : ∀ (pre : List Int), (pre.length : Int) + suf.length ≤ 9223372036854775806 →
 Ev (fun k => laws_eqInt64S.l0 k (pre ++ suf) (pre ++ suf) pre.length) true := by
 induction suf with
 | nil => intro pre _; exact ev_succ (fun k => by simp [laws_eqInt64S.l0])
 | cons b suf ih =>
  intro pre hl
  simp only [List.length_cons, Int.natCast_add, Int.natCast_one] at hl
  have h := ih (pre ++ [b]) (by simp; omega)
  refine Ev.step (fun k => ?_) (by simpa using h)
  rw [laws_eqInt64S.l0]
  rw [if_pos (by simp; omega), if_pos (by omega), if_pos (by simp; omega), if_pos rfl, wrap_id (by omega) (by omega)]
theorem laws_eqInt64S_refl {l : List Int} (hl : l.length ≤ 140737488351232) : Ev (fun k => laws_eqInt64S.f k l l) true := by
 unfold laws_eqInt64S.f
 exact ev_if rfl (laws_eqInt64S_l0 l [] (by simp; omega))
theorem laws_eqIn_refl (b : S34) (hl : (b.f2.length : Int) ≤ 1048576) : Ev (fun k => laws_eqIn.f k b.f0 b.f1 b.f2 b.f0 b.f1 b.f2) true := by
 unfold laws_eqIn.f
 exact ev_if rfl (ev_if rfl (ev_bind (laws_eqInt64S_refl (by omega)) (ev_if rfl (Ev.now _))))
theorem laws_eqInS_l0 (suf : List S34) : ∀ (pre : List S34), (∀ x ∈ suf, (x.f2.length : Int) ≤ 1048576) → (pre.length : Int) + suf.length ≤ 1048576 →
 Ev (fun k => laws_eqInS.l0 k (pre ++ suf) (pre ++ suf) pre.length) true := by
 induction suf with
 | nil => intro pre _ _; exact ev_succ (fun k => by rw [laws_eqInS.l0, if_neg (by simp)])
 | cons b suf ih =>
  intro pre hs hl
  simp only [List.length_cons, Int.natCast_add, Int.natCast_one] at hl
  have hrd : rd_T34 (pre ++ b :: suf) (pre.length : Int) = b := by unfold rd_T34; simp
  have h := ih (pre ++ [b]) (fun x hx => hs x (by simp [hx])) (by simp; omega)
  refine Ev.step (f := fun k => (laws_eqIn.f k b.f0 b.f1 b.f2 b.f0 b.f1 b.f2).bind fun t => if t = true then laws_eqInS.l0 k (pre ++ b :: suf) (pre ++ b :: suf) ((pre.length : Int) + 1) else some false) (fun k => ?_) (ev_bind (laws_eqIn_refl b (hs b (by simp))) (ev_if rfl ?_))
  · rw [laws_eqInS.l0, if_pos (by simp; omega), if_pos (by omega), if_pos (by simp; omega), hrd, wrap_id (by omega) (by omega)]
  · simpa using h
theorem laws_eqInS_refl {l : List S34} (hl : l.length ≤ 1048576) (hs : ∀ x ∈ l, (x.f2.length : Int) ≤ 1048576) : Ev (fun k => laws_eqInS.f k l l) true := by
 unfold laws_eqInS.f
 exact ev_if rfl (laws_eqInS_l0 l [] hs (by simp; omega))
theorem laws_eqOut_refl (b : S86) (hl : (b.f1.length : Int) ≤ 1048576) : Ev (fun k => laws_eqOut.f k b.f0 b.f1 b.f0 b.f1) true := by
 unfold laws_eqOut.f
 exact ev_if rfl (ev_bind (laws_eqInt64S_refl (by omega)) (ev_if rfl (Ev.now _)))
theorem laws_eqOutS_l0 (suf : List S86) : ∀ (pre : List S86), (∀ x ∈ suf, (x.f1.length : Int) ≤ 1048576) → (pre.length : Int) + suf.length ≤ 1048576 →
 Ev (fun k => laws_eqOutS.l0 k (pre ++ suf) (pre ++ suf) pre.length) true := by
 induction suf with
 | nil => intro pre _ _; exact ev_succ (fun k => by rw [laws_eqOutS.l0, if_neg (by simp)])
 | cons b suf ih =>
  intro pre hs hl
  simp only [List.length_cons, Int.natCast_add, Int.natCast_one] at hl
  have hrd : rd_T86 (pre ++ b :: suf) (pre.length : Int) = b := by unfold rd_T86; simp
  have h := ih (pre ++ [b]) (fun x hx => hs x (by simp [hx])) (by simp; omega)
  refine Ev.step (f := fun k => (laws_eqOut.f k b.f0 b.f1 b.f0 b.f1).bind fun t => if t = true then laws_eqOutS.l0 k (pre ++ b :: suf) (pre ++ b :: suf) ((pre.length : Int) + 1) else some false) (fun k => ?_) (ev_bind (laws_eqOut_refl b (hs b (by simp))) (ev_if rfl ?_))
  · rw [laws_eqOutS.l0, if_pos (by simp; omega), if_pos (by omega), if_pos (by simp; omega), hrd, wrap_id (by omega) (by omega)]
  · simpa using h
theorem laws_eqOutS_refl {l : List S86} (hl : l.length ≤ 1048576) (hs : ∀ x ∈ l, (x.f1.length : Int) ≤ 1048576) : Ev (fun k => laws_eqOutS.f k l l) true := by
 unfold laws_eqOutS.f
 exact ev_if rfl (laws_eqOutS_l0 l [] hs (by simp; omega))
theorem laws_szTx_ev {a : Int} {l1 : List S137} {l2 : List S139} (h1 : l1.length ≤ maxLen) (s1 : ∀ x ∈ l1, x.f2.length ≤ maxLen) (h2 : l2.length ≤ maxLen) (s2 : ∀ x ∈ l2, x.f1.length ≤ maxLen) (q : Int) (q0 : 0 ≤ q) (q1 : q ≤ 1048576) :
 ∃ r, Ev (fun k => laws_szTx.f k a l1 l2 q) r ∧ r ≤ q ∧ (0 ≤ r → (l1.length ≤ 1048576 ∧ ∀ x ∈ l1, (x.f2.length : Int) ≤ 1048576) ∧ (l2.length ≤ 1048576 ∧ ∀ x ∈ l2, (x.f1.length : Int) ≤ 1048576)) := by
 unfold laws_szTx.f
 obtain ⟨r, hr, hr1, hr2⟩ := laws_szInS_ev h1 s1 q q0 q1
 by_cases h : r < 0
 · exact ⟨-1, ev_bind hr (ev_if h (Ev.now _)), by omega, by omega⟩
 · obtain ⟨r', hr', hr1', hr2'⟩ := laws_szOutS_ev h2 s2 r (by omega) (by omega)
   by_cases h' : r' < 0
   · exact ⟨-1, ev_bind hr (ev_ifn h (ev_bind hr' (ev_if h' (Ev.now _)))), by omega, by omega⟩
   · exact ⟨r', ev_bind hr (ev_ifn h (ev_bind hr' (ev_ifn h' (Ev.now _)))), by omega, fun _ => ⟨hr2 (by omega), hr2' (by omega)⟩⟩
theorem laws_toTx_ev {a : Int} {l1 : List S137} {l2 : List S139} (h1 : l1.length ≤ 1048576 ∧ ∀ x ∈ l1, (x.f2.length : Int) ≤ 1048576) (h2 : l2.length ≤ 1048576 ∧ ∀ x ∈ l2, (x.f1.length : Int) ≤ 1048576) :
 Ev (fun k => laws_toTx.f k a l1 l2) (a, l1.map cIn, l2.map cOut) := by
 unfold laws_toTx.f
 exact ev_bind (laws_toInS_ev h1.1 h1.2) (ev_bind (laws_toOutS_ev h2.1 h2.2) (Ev.now _))
theorem laws_eqTx_refl {a : Int} {l1 : List S34} {l2 : List S86} (h1 : l1.length ≤ 1048576 ∧ ∀ x ∈ l1, (x.f2.length : Int) ≤ 1048576) (h2 : l2.length ≤ 1048576 ∧ ∀ x ∈ l2, (x.f1.length : Int) ≤ 1048576) :
 Ev (fun k => laws_eqTx.f k a l1 l2 a l1 l2) true := by
 unfold laws_eqTx.f
 exact ev_if rfl (ev_bind (laws_eqInS_refl h1.1 h1.2) (ev_if rfl (ev_bind (laws_eqOutS_refl h2.1 h2.2) (ev_if rfl (Ev.now _)))))
theorem cIn_ok {l : List S137} (h : l.length ≤ 1048576 ∧ ∀ x ∈ l, (x.f2.length : Int) ≤ 1048576) : (l.map cIn).length ≤ 1048576 ∧ ∀ x ∈ l.map cIn, (x.f2.length : Int) ≤ 1048576 := by
 refine ⟨by simpa using h.1, fun x hx => ?_⟩
 obtain ⟨y, hy, rfl⟩ := List.mem_map.1 hx
 exact h.2 y hy
theorem cOut_ok {l : List S139} (h : l.length ≤ 1048576 ∧ ∀ x ∈ l, (x.f1.length : Int) ≤ 1048576) : (l.map cOut).length ≤ 1048576 ∧ ∀ x ∈ l.map cOut, (x.f1.length : Int) ≤ 1048576 := by
 refine ⟨by simpa using h.1, fun x hx => ?_⟩
 obtain ⟨y, hy, rfl⟩ := List.mem_map.1 hx
 exact h.2 y hy
def AllIn (l : List Int) (lo hi : Int) : Prop := ∀ x ∈ l, lo ≤ x ∧ x ≤ hi
instance (l : List Int) (lo hi : Int) : Decidable (AllIn l lo hi) := by unfold AllIn; infer_instance
theorem AllIn_cons {b : Int} {l : List Int} {lo hi : Int} : AllIn (b :: l) lo hi ↔ (lo ≤ b ∧ b ≤ hi) ∧ AllIn l lo hi := by simp [AllIn]
theorem spec_l1In_eq (a b c : Int) : spec_l1In.f a b c = some (decide (b ≤ a ∧ a ≤ c)) := by
 unfold spec_l1In.f
 by_cases h : a ≥ b
 · rw [if_pos h]; congr 1; rw [Bool.eq_iff_iff]; simp; omega
 · rw [if_neg h]; congr 1; symm; simp; omega
theorem impl_in_eq (a b c : Int) : impl_in.f a b c = some (decide (b ≤ a ∧ a ≤ c)) := by
 unfold impl_in.f
 by_cases h : a ≥ b
 · rw [if_pos h]; congr 1; rw [Bool.eq_iff_iff]; simp; omega
 · rw [if_neg h]; congr 1; symm; simp; omega
theorem spec_l1All_l0 (lo hi : Int) (suf : List Int) : ∀ (pre : List Int), (pre.length : Int) + suf.length ≤ 9223372036854775806 →
 Ev (fun k => spec_l1All.l0 k (pre ++ suf) lo hi pre.length) (decide (AllIn suf lo hi)) := by
 induction suf with
 | nil => intro pre _; exact ev_succ (fun k => by rw [spec_l1All.l0, if_neg (by simp)]; simp [AllIn])
 | cons b suf ih =>
  intro pre hl
  simp only [List.length_cons, Int.natCast_add, Int.natCast_one] at hl
  have h := ih (pre ++ [b]) (by simp; omega)
  by_cases hb : lo ≤ b ∧ b ≤ hi
  · have e : decide (AllIn (b :: suf) lo hi) = decide (AllIn suf lo hi) := by simp [AllIn_cons, hb]
    rw [e]
    refine Ev.step (fun k => ?_) h
    rw [spec_l1All.l0, if_pos (by simp; omega), if_pos (by omega), rd_mid, spec_l1In_eq, wrap_id (by omega) (by omega)]
    simp [hb]
  · have e : decide (AllIn (b :: suf) lo hi) = false := by simp [AllIn_cons, hb]
    rw [e]
    refine ev_succ (fun k => ?_)
    rw [spec_l1All.l0, if_pos (by simp; omega), if_pos (by omega), rd_mid, spec_l1In_eq]
    simp [hb]
theorem spec_l1All_ev {l : List Int} (lo hi : Int) (hl : (l.length : Int) ≤ 9223372036854775806) : Ev (fun k => spec_l1All.f k l lo hi) (decide (AllIn l lo hi)) := by
 unfold spec_l1All.f
 exact spec_l1All_l0 lo hi l [] (by simpa using hl)
theorem spec_l1Amount_eq (a : Int) : spec_l1Amount.f a = some (decide (0 ≤ a ∧ a ≤ 1000000)) := by
 unfold spec_l1Amount.f; rw [spec_l1In_eq]; rfl
theorem impl_isAmount_eq (a : Int) : impl_isAmount.f a = some (decide (0 ≤ a ∧ a ≤ 1000000)) := by
 unfold impl_isAmount.f; rw [impl_in_eq]; rfl
theorem slices_IndexFunc_at_impl_ProgramFault_1_l0 (p : Int → Bool) (hp : ∀ x, impl_ProgramFault_1.f x = some (p x)) (suf : List Int) : ∀ (pre : List Int), (pre.length : Int) + suf.length ≤ 9223372036854775806 →
 ∃ r : Int, Ev (fun k => slices_IndexFunc_at_impl_ProgramFault_1.l0 k (pre ++ suf) ((pre ++ suf).length : Int) pre.length) r ∧ decide (r ≥ 0) = suf.any p := by
 induction suf with
 | nil => intro pre _; exact ⟨-1, ev_succ (fun k => by rw [slices_IndexFunc_at_impl_ProgramFault_1.l0, if_neg (by simp)]), by simp⟩
 | cons b suf ih =>
  intro pre hl
  simp only [List.length_cons, Int.natCast_add, Int.natCast_one] at hl
  cases hb : p b with
  | true =>
   refine ⟨pre.length, ev_succ (fun k => ?_), by simp [hb]⟩
   rw [slices_IndexFunc_at_impl_ProgramFault_1.l0, if_pos (by simp; omega), if_pos (by omega), if_pos (by simp; omega), rd_mid, hp, hb]
   rfl
  | false =>
   obtain ⟨r, h, hr⟩ := ih (pre ++ [b]) (by simp; omega)
   refine ⟨r, Ev.step (fun k => ?_) h, by simp [hb, hr]⟩
   rw [slices_IndexFunc_at_impl_ProgramFault_1.l0, if_pos (by simp; omega), if_pos (by omega), if_pos (by simp; omega), rd_mid, hp, hb, wrap_id (by omega) (by omega)]
   simp
theorem slices_ContainsFunc_at_impl_ProgramFault_1_ev (p : Int → Bool) (hp : ∀ x, impl_ProgramFault_1.f x = some (p x)) {l : List Int} (hl : (l.length : Int) ≤ 9223372036854775806) :
 Ev (fun k => slices_ContainsFunc_at_impl_ProgramFault_1.f k l) (l.any p) := by
 obtain ⟨r, h, hr⟩ := slices_IndexFunc_at_impl_ProgramFault_1_l0 p hp l [] (by simpa using hl)
 rw [← hr]
 unfold slices_ContainsFunc_at_impl_ProgramFault_1.f slices_IndexFunc_at_impl_ProgramFault_1.f
 exact ev_bind (by simpa using h) (Ev.now _)
def opBad (x : Int) : Bool := !(decide (1 ≤ x ∧ x ≤ 9) || decide (100 ≤ x ∧ x ≤ 1099))
def faultP (l : List Int) : Int := if l.length > 12 then 2 else if l.any opBad then 1 else 0
theorem spec_l2Op_eq (x : Int) : spec_l2Op.f x = some (!opBad x) := by
 unfold spec_l2Op.f opBad
 simp only [spec_l1In_eq, Option.bind_some]
 by_cases h : 1 ≤ x ∧ x ≤ 9 <;> simp [h]
theorem impl_ProgramFault_1_eq (x : Int) : impl_ProgramFault_1.f x = some (opBad x) := by
 unfold impl_ProgramFault_1.f opBad
 simp only [impl_in_eq, Option.bind_some]
 by_cases h : 1 ≤ x ∧ x ≤ 9 <;> simp [h]
theorem spec_l2Fault_l0 (suf : List Int) : ∀ (pre : List Int), (pre.length : Int) + suf.length ≤ 9223372036854775806 →
 Ev (fun k => spec_l2Fault.l0 k (pre ++ suf) pre.length) (if suf.any opBad then 1 else 0) := by
 induction suf with
 | nil => intro pre _; exact ev_succ (fun k => by rw [spec_l2Fault.l0, if_neg (by simp)]; simp)
 | cons b suf ih =>
  intro pre hl
  simp only [List.length_cons, Int.natCast_add, Int.natCast_one] at hl
  cases hb : opBad b with
  | true =>
   refine ev_succ (fun k => ?_)
   rw [spec_l2Fault.l0, if_pos (by simp; omega), if_pos (by omega), rd_mid, spec_l2Op_eq, hb]
   simp [hb]
  | false =>
   have h := ih (pre ++ [b]) (by simp; omega)
   have e : (b :: suf).any opBad = suf.any opBad := by simp [hb]
   rw [e]
   refine Ev.step (fun k => ?_) h
   rw [spec_l2Fault.l0, if_pos (by simp; omega), if_pos (by omega), rd_mid, spec_l2Op_eq, hb, wrap_id (by omega) (by omega)]
   simp
theorem spec_l2Fault_ev {l : List Int} (hl : (l.length : Int) ≤ 9223372036854775806) : Ev (fun k => spec_l2Fault.f k l) (faultP l) := by
 unfold spec_l2Fault.f faultP
 by_cases h : l.length > 12
 · rw [if_pos h]; exact ev_if (by omega) (Ev.now _)
 · rw [if_neg h]; exact ev_ifn (by omega) (spec_l2Fault_l0 l [] (by simpa using hl))
theorem impl_ProgramFault_ev {l : List Int} (hl : (l.length : Int) ≤ 9223372036854775806) : Ev (fun k => impl_ProgramFault.f k l) (faultP l) := by
 unfold impl_ProgramFault.f faultP
 by_cases h : l.length > 12
 · rw [if_pos h]; exact ev_if (by omega) (Ev.now _)
 · rw [if_neg h]
   refine ev_ifn (by omega) (ev_bind (slices_ContainsFunc_at_impl_ProgramFault_1_ev opBad impl_ProgramFault_1_eq hl) ?_)
   cases l.any opBad with
   | true => exact ev_if rfl (Ev.now _)
   | false => exact ev_ifn (by decide) (Ev.now _)
theorem slices_IndexFunc_at_impl_badCell_l0 (p : Int → Bool) (hp : ∀ x, impl_badCell.f x = some (p x)) (suf : List Int) : ∀ (pre : List Int), (pre.length : Int) + suf.length ≤ 9223372036854775806 →
 ∃ r : Int, Ev (fun k => slices_IndexFunc_at_impl_badCell.l0 k (pre ++ suf) ((pre ++ suf).length : Int) pre.length) r ∧ decide (r ≥ 0) = suf.any p := by
 induction suf with
 | nil => intro pre _; exact ⟨-1, ev_succ (fun k => by rw [slices_IndexFunc_at_impl_badCell.l0, if_neg (by simp)]), by simp⟩
 | cons b suf ih =>
  intro pre hl
  simp only [List.length_cons, Int.natCast_add, Int.natCast_one] at hl
  cases hb : p b with
  | true =>
   refine ⟨pre.length, ev_succ (fun k => ?_), by simp [hb]⟩
   rw [slices_IndexFunc_at_impl_badCell.l0, if_pos (by simp; omega), if_pos (by omega), if_pos (by simp; omega), rd_mid, hp, hb]
   rfl
  | false =>
   obtain ⟨r, h, hr⟩ := ih (pre ++ [b]) (by simp; omega)
   refine ⟨r, Ev.step (fun k => ?_) h, by simp [hb, hr]⟩
   rw [slices_IndexFunc_at_impl_badCell.l0, if_pos (by simp; omega), if_pos (by omega), if_pos (by simp; omega), rd_mid, hp, hb, wrap_id (by omega) (by omega)]
   simp
theorem slices_ContainsFunc_at_impl_badCell_ev (p : Int → Bool) (hp : ∀ x, impl_badCell.f x = some (p x)) {l : List Int} (hl : (l.length : Int) ≤ 9223372036854775806) :
 Ev (fun k => slices_ContainsFunc_at_impl_badCell.f k l) (l.any p) := by
 obtain ⟨r, h, hr⟩ := slices_IndexFunc_at_impl_badCell_l0 p hp l [] (by simpa using hl)
 rw [← hr]
 unfold slices_ContainsFunc_at_impl_badCell.f slices_IndexFunc_at_impl_badCell.f
 exact ev_bind (by simpa using h) (Ev.now _)
theorem impl_isSum_eq (a : Int) : impl_isSum.f a = some (decide (0 ≤ a ∧ a ≤ 2147483646)) := by
 unfold impl_isSum.f; rw [impl_in_eq]; rfl
def inBad (x : S34) : Bool := !(decide (0 ≤ x.f0 ∧ x.f0 ≤ 2147483646) && decide (0 ≤ x.f1 ∧ x.f1 ≤ 3))
def sameIn (x y : S34) : Bool := decide (x.f0 = y.f0) && (x.f1 == y.f1)
def inF (ahead : List S34) (x : S34) : Int := if inBad x = true then 3 else if (x.f2.length : Int) > 8 then 2 else if decide (AllIn x.f2 0 9999) = true then (if ahead.any (sameIn x) = true then 6 else 0) else 3
def insF : List S34 → List S34 → Int → Int
 | _, [], e => e
 | p, x :: xs, e => if inF p x = 0 then insF (p ++ [x]) xs e else inF p x
def outSumF : Int → List S86 → Int
 | a, [] => a
 | a, x :: xs => outSumF (wrap64 (a + x.f0)) xs
def endV (a : Int) : Int := if 0 ≤ a ∧ a ≤ 1000000 then 0 else 7
def outsF : List S86 → Int → Int
 | [], e => e
 | y :: ys, e => if 0 ≤ y.f0 ∧ y.f0 ≤ 1000000 then (if faultP y.f1 = 0 then outsF ys e else faultP y.f1) else 3
def txF (t : S27) : Int := if 0 ≤ t.f0 ∧ t.f0 ≤ 65535 then (if (t.f1.length : Int) > 4 ∨ (t.f2.length : Int) < 1 ∨ (t.f2.length : Int) > 4 then 2 else insF [] t.f1 (outsF t.f2 (endV (outSumF 0 t.f2)))) else 3
theorem rdI (pre : List S34) (b : S34) (suf : List S34) : rd_T34 (pre ++ b :: suf) (pre.length : Int) = b := by unfold rd_T34; simp
theorem rdO (pre : List S86) (b : S86) (suf : List S86) : rd_T86 (pre ++ b :: suf) (pre.length : Int) = b := by unfold rd_T86; simp
theorem spec_l3In_l0 (x : S34) (suf : List S34) (p2 : List S34) : ∀ (p1 : List S34), (p1.length : Int) + p2.length + suf.length ≤ 1048576 →
 Ev (fun k => spec_l3In.l0 k (p1 ++ (p2 ++ x :: suf)) ((p1.length : Int) + p2.length) p1.length) (if p2.any (sameIn x) = true then 6 else 0) := by
 induction p2 with
 | nil => intro p1 _; exact ev_succ (fun k => by rw [spec_l3In.l0, if_neg (by simp)]; simp)
 | cons b p2 ih =>
  intro p1 hl
  simp only [List.length_cons, Int.natCast_add, Int.natCast_one] at hl ⊢
  have h := ih (p1 ++ [b]) (by simp; omega)
  have e1 : rd_T34 (p1 ++ (b :: p2 ++ x :: suf)) (p1.length : Int) = b := rdI p1 b _
  have e2 : rd_T34 (p1 ++ (b :: p2 ++ x :: suf)) ((p1.length : Int) + (p2.length + 1)) = x := by
   have := rdI (p1 ++ b :: p2) x suf
   simpa using this
  have hstep : ∀ k, spec_l3In.l0 (k + 1) (p1 ++ (b :: p2 ++ x :: suf)) ((p1.length : Int) + (p2.length + 1)) p1.length = (if b.f0 = x.f0 then (if b.f1 = x.f1 then some 6 else spec_l3In.l0 k (p1 ++ (b :: p2 ++ x :: suf)) ((p1.length : Int) + (p2.length + 1)) ((p1.length : Int) + 1)) else spec_l3In.l0 k (p1 ++ (b :: p2 ++ x :: suf)) ((p1.length : Int) + (p2.length + 1)) ((p1.length : Int) + 1)) := by
   intro k
   rw [spec_l3In.l0, if_pos (by omega), if_pos (by omega), if_pos (by simp; omega), if_pos (by omega), if_pos (by simp; omega), e1, e2, wrap_id (by omega) (by omega)]
  have h' : Ev (fun k => spec_l3In.l0 k (p1 ++ (b :: p2 ++ x :: suf)) ((p1.length : Int) + (p2.length + 1)) ((p1.length : Int) + 1)) (if p2.any (sameIn x) = true then 6 else 0) := by
   have q : ((p1 ++ [b]).length : Int) = (p1.length : Int) + 1 := by simp
   rw [q] at h
   have q2 : (p1.length : Int) + 1 + (p2.length : Int) = (p1.length : Int) + ((p2.length : Int) + 1) := by omega
   rw [q2] at h
   simpa using h
  by_cases h0 : b.f0 = x.f0
  · by_cases h1 : b.f1 = x.f1
    · refine ev_succ (fun k => ?_)
      rw [hstep, if_pos h0, if_pos h1]
      simp [sameIn, h0, h1]
    · refine Ev.step (fun k => by rw [hstep, if_pos h0, if_neg h1]) ?_
      have e : (b :: p2).any (sameIn x) = p2.any (sameIn x) := by simp [sameIn, h0, Ne.symm h1]
      rw [e]; exact h'
  · refine Ev.step (fun k => by rw [hstep, if_neg h0]) ?_
    have e : (b :: p2).any (sameIn x) = p2.any (sameIn x) := by simp [sameIn, Ne.symm h0]
    rw [e]; exact h'
theorem spec_l3In_ev (pre : List S34) (x : S34) (suf : List S34) (hx : (x.f2.length : Int) ≤ 1048576) (hl : (pre.length : Int) + suf.length + 1 ≤ 1048576) :
 Ev (fun k => spec_l3In.f k (pre ++ x :: suf) pre.length) (inF pre x) := by
 unfold spec_l3In.f
 refine ev_if (by omega) (ev_if (by simp; omega) ?_)
 refine Ev.congr (f := fun k => spec_l3In.j0 k (pre ++ x :: suf) pre.length (inBad x)) (fun k => ?_) ?_
 · rw [rdI, spec_l1In_eq, spec_l1In_eq]
   simp only [Option.bind_some, inBad]
   cases decide (0 ≤ x.f0 ∧ x.f0 ≤ 2147483646) <;> cases decide (0 ≤ x.f1 ∧ x.f1 ≤ 3) <;> simp
 · unfold inF
   cases hb : inBad x with
   | true => exact ev_succ (fun k => by rw [spec_l3In.j0]; simp)
   | false =>
    rw [if_neg (by decide)]
    refine Ev.step (f := fun k => if (x.f2.length : Int) > 8 then some 2 else (spec_l1All.f k x.f2 0 9999).bind fun t => if t = true then spec_l3In.l0 k (pre ++ x :: suf) pre.length 0 else some 3) (fun k => ?_) ?_
    · rw [spec_l3In.j0, if_neg (by decide), if_pos (by omega), if_pos (by simp; omega), rdI]
    · by_cases h8 : (x.f2.length : Int) > 8
      · rw [if_pos h8]; exact ev_if h8 (Ev.now _)
      · rw [if_neg h8]
        refine ev_ifn h8 (ev_bind (spec_l1All_ev 0 9999 (by omega)) ?_)
        by_cases ha : decide (AllIn x.f2 0 9999) = true
        · rw [if_pos ha]
          refine ev_if ha ?_
          have := spec_l3In_l0 x suf pre [] (by simp; omega)
          simpa using this
        · rw [if_neg ha]; exact ev_ifn ha (Ev.now _)
theorem spec_l3Outs_l0 (suf : List S86) : ∀ (pre : List S86) (a : Int), (∀ x ∈ suf, (x.f1.length : Int) ≤ 1048576) → (pre.length : Int) + suf.length ≤ 1048576 →
 Ev (fun k => spec_l3Outs.l0 k (pre ++ suf) a pre.length) (outsF suf (endV (outSumF a suf))) := by
 induction suf with
 | nil =>
  intro pre a _ _
  simp only [outsF, outSumF, endV]
  refine ev_succ (fun k => ?_)
  rw [spec_l3Outs.l0, if_neg (by simp), spec_l1Amount_eq]
  simp only [Option.bind_some, decide_eq_true_eq]
  by_cases hh : 0 ≤ a ∧ a ≤ 1000000 <;> simp [hh]
 | cons b suf ih =>
  intro pre a hs hl
  simp only [List.length_cons, Int.natCast_add, Int.natCast_one] at hl
  have h := ih (pre ++ [b]) (wrap64 (a + b.f0)) (fun x hx => hs x (by simp [hx])) (by simp; omega)
  rw [show ((pre ++ [b]).length : Int) = (pre.length : Int) + 1 from by simp, show pre ++ [b] ++ suf = pre ++ b :: suf from by simp] at h
  simp only [outsF, outSumF]
  by_cases hb : 0 ≤ b.f0 ∧ b.f0 ≤ 1000000
  · rw [if_pos hb]
    refine Ev.step (f := fun k => (spec_l2Fault.f k b.f1).bind fun t => if t = 0 then spec_l3Outs.l0 k (pre ++ b :: suf) (wrap64 (a + b.f0)) ((pre.length : Int) + 1) else some t) (fun k => ?_) (ev_bind (spec_l2Fault_ev (by have := hs b (by simp); omega)) ?_)
    · rw [spec_l3Outs.l0, if_pos (by simp; omega), if_pos (by omega), rdO, spec_l1Amount_eq, wrap_id (x := (pre.length : Int) + 1) (by omega) (by omega)]
      simp [hb]
    · by_cases hf : faultP b.f1 = 0
      · rw [if_pos hf]; exact ev_if hf h
      · rw [if_neg hf]; exact ev_ifn hf (Ev.now _)
  · rw [if_neg hb]
    refine ev_succ (fun k => ?_)
    rw [spec_l3Outs.l0, if_pos (by simp; omega), if_pos (by omega), rdO, spec_l1Amount_eq]
    simp [hb]
theorem spec_l3Fault_l0 (t : S27) (e : Int) (he : Ev (fun k => spec_l3Outs.f k t.f2) e) (suf : List S34) : ∀ (pre : List S34), t.f1 = pre ++ suf → (∀ x ∈ suf, (x.f2.length : Int) ≤ 1048576) → (pre.length : Int) + suf.length ≤ 1048576 →
 Ev (fun k => spec_l3Fault_in.l0 k [t] pre.length) (insF pre suf e) := by
 have hrd : rd_T27 [t] 0 = t := rfl
 induction suf with
 | nil =>
  intro pre ht _ _
  refine Ev.step (f := fun k => (spec_l3Outs.f k t.f2).bind fun t9 => some t9) (fun k => ?_) (ev_bind he (Ev.now _))
  rw [spec_l3Fault_in.l0, if_pos (by simp), hrd, if_neg (by rw [ht]; simp)]
 | cons b suf ih =>
  intro pre ht hs hl
  simp only [List.length_cons, Int.natCast_add, Int.natCast_one] at hl
  have h := ih (pre ++ [b]) (by rw [ht]; simp) (fun x hx => hs x (by simp [hx])) (by simp; omega)
  rw [show ((pre ++ [b]).length : Int) = (pre.length : Int) + 1 from by simp] at h
  refine Ev.step (f := fun k => (spec_l3In.f k (pre ++ b :: suf) pre.length).bind fun t7 => if t7 = 0 then spec_l3Fault_in.l0 k [t] ((pre.length : Int) + 1) else some t7) (fun k => ?_) (ev_bind (spec_l3In_ev pre b suf (hs b (by simp)) (by omega)) ?_)
  · rw [spec_l3Fault_in.l0, if_pos (by simp), hrd, if_pos (by rw [ht]; simp; omega), ht, wrap_id (x := (pre.length : Int) + 1) (by omega) (by omega)]
  · unfold insF
    by_cases hf : inF pre b = 0
    · rw [if_pos hf]; exact ev_if hf h
    · rw [if_neg hf]; exact ev_ifn hf (Ev.now _)
theorem spec_l3Fault_ev {t : S27} (h1 : t.f1.length ≤ 1048576 ∧ ∀ x ∈ t.f1, (x.f2.length : Int) ≤ 1048576) (h2 : t.f2.length ≤ 1048576 ∧ ∀ x ∈ t.f2, (x.f1.length : Int) ≤ 1048576) : Ev (fun k => spec_l3Fault.f k t.f0 t.f1 t.f2) (txF t) := by
 unfold spec_l3Fault.f spec_l3Fault_in.f txF
 have hrd : rd_T27 [t] 0 = t := rfl
 have ht : (⟨t.f0, t.f1, t.f2⟩ : S27) = t := rfl
 rw [ht]
 refine ev_if (by simp) ?_
 rw [hrd]
 refine ev_bind0 (spec_l1In_eq _ _ _) ?_
 by_cases hn : 0 ≤ t.f0 ∧ t.f0 ≤ 65535
 · rw [if_pos hn]
   refine ev_if (by simpa using hn) ?_
   have go : Ev (fun k => spec_l3Fault_in.l0 k [t] 0) (insF [] t.f1 (outsF t.f2 (endV (outSumF 0 t.f2)))) := by
    have := spec_l3Fault_l0 t _ (by unfold spec_l3Outs.f; exact spec_l3Outs_l0 t.f2 [] 0 h2.2 (by simp; omega)) t.f1 [] (by simp) h1.2 (by simp; omega)
    simpa using this
   have bad : Ev (fun k => spec_l3Fault_in.j0 k [t] true) 2 := ev_succ (fun k => by rw [spec_l3Fault_in.j0]; simp)
   by_cases c1 : (t.f1.length : Int) > 4
   · rw [if_pos (.inl c1)]; exact ev_if c1 bad
   · refine ev_ifn c1 ?_
     by_cases c2 : (t.f2.length : Int) < 1
     · rw [if_pos (.inr (.inl c2))]; exact ev_if c2 bad
     · refine ev_ifn c2 ?_
       by_cases c3 : (t.f2.length : Int) > 4
       · rw [if_pos (.inr (.inr c3)), decide_eq_true c3]; exact bad
       · rw [if_neg (by omega), decide_eq_false c3]
         exact Ev.step (fun k => by rw [spec_l3Fault_in.j0, if_neg (by decide)]) go
 · rw [if_neg hn]; exact ev_ifn (by simpa using hn) (Ev.now _)
theorem impl_badCell_eq (x : Int) : impl_badCell.f x = some (!decide (0 ≤ x ∧ x ≤ 9999)) := by
 unfold impl_badCell.f; rw [impl_in_eq]; rfl
theorem inFault_1_eq (x y : S34) : impl_inFault_1_in.f y.f0 y.f1 y.f2 [x] = some (sameIn x y) := by
 have hrd : rd_T34 [x] 0 = x := rfl
 unfold impl_inFault_1_in.f sameIn
 rw [if_pos (by simp), hrd]
 by_cases h : x.f0 = y.f0 <;> simp [h]
theorem inFault_index (x : S34) (suf : List S34) : ∀ (pre : List S34) (n : Int), n = (pre.length : Int) + suf.length → n ≤ 1048576 →
 ∃ r : Int, Ev (fun k => impl_IndexFunc_at_impl_inFault_1_in.l0 k (pre ++ suf) [x] n pre.length) r ∧ decide (r ≥ 0) = suf.any (sameIn x) := by
 induction suf with
 | nil => intro pre n hn _; subst hn; exact ⟨-1, ev_succ (fun k => by rw [impl_IndexFunc_at_impl_inFault_1_in.l0, if_neg (by simp)]), by simp⟩
 | cons b suf ih =>
  intro pre n hn hl
  simp only [List.length_cons, Int.natCast_add, Int.natCast_one] at hn
  cases hb : sameIn x b with
  | true =>
   refine ⟨pre.length, ev_succ (fun k => ?_), by simp [hb]⟩
   rw [impl_IndexFunc_at_impl_inFault_1_in.l0, if_pos (by omega), if_pos (by omega), if_pos (by simp; omega), rdI, inFault_1_eq, hb]
   rfl
  | false =>
   obtain ⟨r, h, hr⟩ := ih (pre ++ [b]) n (by simp; omega) hl
   refine ⟨r, Ev.step (fun k => ?_) h, by simp [hb, hr]⟩
   rw [impl_IndexFunc_at_impl_inFault_1_in.l0, if_pos (by omega), if_pos (by omega), if_pos (by simp; omega), rdI, inFault_1_eq, hb, wrap_id (by omega) (by omega)]
   simp
theorem inFault_any (x : S34) {l : List S34} (hl : (l.length : Int) ≤ 1048576) : Ev (fun k => impl_ContainsFunc_at_impl_inFault_1.f k l x.f0 x.f1 x.f2) (l.any (sameIn x)) := by
 obtain ⟨r, h, hr⟩ := inFault_index x l [] l.length (by simp) hl
 rw [← hr]
 unfold impl_ContainsFunc_at_impl_inFault_1.f impl_ContainsFunc_at_impl_inFault_1_in.f impl_IndexFunc_at_impl_inFault_1_in.f
 exact ev_bind (by simpa using h) (Ev.now _)
theorem any_not_all (l : List Int) : l.any (fun x => !decide (0 ≤ x ∧ x ≤ 9999)) = !decide (AllIn l 0 9999) := by
 induction l with
 | nil => simp [AllIn]
 | cons b l ih =>
  rw [List.any_cons, ih]
  by_cases hb : 0 ≤ b ∧ b ≤ 9999 <;> simp [AllIn_cons, hb]
theorem impl_inFault_ev (pre : List S34) (x : S34) (hx : (x.f2.length : Int) ≤ 1048576) (hl : (pre.length : Int) ≤ 1048576) : Ev (fun k => impl_inFault.f k x.f0 x.f1 x.f2 pre) (inF pre x) := by
 unfold impl_inFault.f
 refine Ev.congr (f := fun k => impl_inFault.j0 k pre (inBad x) x.f0 x.f1 x.f2) (fun k => ?_) ?_
 · rw [impl_isSum_eq, impl_in_eq]
   simp only [Option.bind_some, inBad]
   cases decide (0 ≤ x.f0 ∧ x.f0 ≤ 2147483646) <;> cases decide (0 ≤ x.f1 ∧ x.f1 ≤ 3) <;> simp
 · unfold inF
   cases hb : inBad x with
   | true => exact ev_succ (fun k => by rw [impl_inFault.j0]; simp)
   | false =>
    rw [if_neg (by decide)]
    refine Ev.step (fun k => by rw [impl_inFault.j0, if_neg (by decide)]) ?_
    by_cases h8 : (x.f2.length : Int) > 8
    · rw [if_pos h8]; exact ev_if h8 (Ev.now _)
    · rw [if_neg h8]
      refine ev_ifn h8 (ev_bind (slices_ContainsFunc_at_impl_badCell_ev _ impl_badCell_eq (by omega)) ?_)
      rw [any_not_all]
      by_cases ha : decide (AllIn x.f2 0 9999) = true
      · rw [if_pos ha, ha]
        refine ev_ifn (by decide) (ev_bind (inFault_any x hl) ?_)
        by_cases hh : pre.any (sameIn x) = true
        · rw [if_pos hh, if_pos hh]; exact Ev.now _
        · rw [if_neg hh, if_neg hh]; exact Ev.now _
      · rw [if_neg ha]; exact ev_if (by simpa using ha) (Ev.now _)
theorem impl_outSum_l0 (suf : List S86) : ∀ (pre : List S86) (a : Int) (n : Int), n = (pre.length : Int) + suf.length → n ≤ 1048576 →
 Ev (fun k => impl_outSum.l0 k a (pre ++ suf) n pre.length) (outSumF a suf) := by
 induction suf with
 | nil => intro pre a n hn _; subst hn; exact ev_succ (fun k => by rw [impl_outSum.l0, if_neg (by simp)]; rfl)
 | cons b suf ih =>
  intro pre a n hn hl
  simp only [List.length_cons, Int.natCast_add, Int.natCast_one] at hn
  have h := ih (pre ++ [b]) (wrap64 (a + b.f0)) n (by simp; omega) hl
  refine Ev.step (fun k => ?_) (by simpa [outSumF] using h)
  rw [impl_outSum.l0, if_pos (by omega), if_pos (by omega), if_pos (by simp; omega), rdO, wrap_id (x := (pre.length : Int) + 1) (by omega) (by omega)]
theorem impl_outSum_ev {l : List S86} (hl : l.length ≤ 1048576) : Ev (fun k => impl_outSum.f k l) (outSumF 0 l) := by
 unfold impl_outSum.f
 exact impl_outSum_l0 l [] 0 l.length (by simp) (by omega)
theorem impl_TxFault_l1 (t : S27) (h2 : t.f2.length ≤ 1048576) (suf : List S86) : ∀ (pre : List S86) (n : Int), n = (pre.length : Int) + suf.length → (∀ x ∈ suf, (x.f1.length : Int) ≤ 1048576) → n ≤ 1048576 →
 Ev (fun k => impl_TxFault.l1 k (pre ++ suf) n pre.length t.f0 t.f1 t.f2) (outsF suf (endV (outSumF 0 t.f2))) := by
 induction suf with
 | nil =>
  intro pre n hn _ _
  simp only [List.length_nil, Int.natCast_zero, Int.add_zero] at hn
  simp only [outsF, endV]
  refine Ev.step (f := fun k => (impl_outSum.f k t.f2).bind fun s => (impl_isAmount.f s).bind fun c => if c = true then some 0 else some 7) (fun k => ?_) (ev_bind (impl_outSum_ev h2) (ev_bind0 (impl_isAmount_eq _) ?_))
  · rw [impl_TxFault.l1, if_neg (by omega)]
  · by_cases h : 0 ≤ outSumF 0 t.f2 ∧ outSumF 0 t.f2 ≤ 1000000
    · rw [if_pos h]; exact ev_if (by simpa using h) (Ev.now _)
    · rw [if_neg h]; exact ev_ifn (by simpa using h) (Ev.now _)
 | cons b suf ih =>
  intro pre n hn hs hl
  simp only [List.length_cons, Int.natCast_add, Int.natCast_one] at hn
  have h := ih (pre ++ [b]) n (by simp; omega) (fun x hx => hs x (by simp [hx])) hl
  rw [show ((pre ++ [b]).length : Int) = (pre.length : Int) + 1 from by simp, show pre ++ [b] ++ suf = pre ++ b :: suf from by simp] at h
  simp only [outsF]
  by_cases hb : 0 ≤ b.f0 ∧ b.f0 ≤ 1000000
  · rw [if_pos hb]
    refine Ev.step (f := fun k => (impl_ProgramFault.f k b.f1).bind fun t1 => if t1 = 0 then impl_TxFault.l1 k (pre ++ b :: suf) n ((pre.length : Int) + 1) t.f0 t.f1 t.f2 else some t1) (fun k => ?_) (ev_bind (impl_ProgramFault_ev (by have := hs b (by simp); omega)) ?_)
    · rw [impl_TxFault.l1, if_pos (by omega), if_pos (by omega), if_pos (by simp; omega), rdO, impl_isAmount_eq, wrap_id (x := (pre.length : Int) + 1) (by omega) (by omega)]
      simp [hb]
    · by_cases hf : faultP b.f1 = 0
      · rw [if_pos hf]; exact ev_if hf h
      · rw [if_neg hf]; exact ev_ifn hf (Ev.now _)
  · rw [if_neg hb]
    refine ev_succ (fun k => ?_)
    rw [impl_TxFault.l1, if_pos (by omega), if_pos (by omega), if_pos (by simp; omega), rdO, impl_isAmount_eq]
    simp [hb]
theorem impl_TxFault_l0 (t : S27) (e : Int) (he : Ev (fun k => impl_TxFault.l1 k t.f2 (t.f2.length : Int) 0 t.f0 t.f1 t.f2) e) (suf : List S34) : ∀ (pre : List S34), t.f1 = pre ++ suf → (∀ x ∈ suf, (x.f2.length : Int) ≤ 1048576) → (pre.length : Int) + suf.length ≤ 1048576 →
 Ev (fun k => impl_TxFault.l0 k t.f1 (t.f1.length : Int) pre.length t.f0 t.f1 t.f2) (insF pre suf e) := by
 induction suf with
 | nil =>
  intro pre ht _ _
  refine Ev.step (fun k => ?_) he
  rw [impl_TxFault.l0, if_neg (by rw [ht]; simp)]
 | cons b suf ih =>
  intro pre ht hs hl
  simp only [List.length_cons, Int.natCast_add, Int.natCast_one] at hl
  have h := ih (pre ++ [b]) (by rw [ht]; simp) (fun x hx => hs x (by simp [hx])) (by simp; omega)
  rw [show ((pre ++ [b]).length : Int) = (pre.length : Int) + 1 from by simp] at h
  have hlen : (t.f1.length : Int) = (pre.length : Int) + (suf.length + 1) := by rw [ht]; simp
  have e1 : rd_T34 t.f1 (pre.length : Int) = b := by rw [ht]; exact rdI pre b suf
  have e2 : t.f1.take ((pre.length : Int)).toNat = pre := by rw [ht]; simp
  refine Ev.step (f := fun k => (impl_inFault.f k b.f0 b.f1 b.f2 pre).bind fun t7 => if t7 = 0 then impl_TxFault.l0 k t.f1 (t.f1.length : Int) ((pre.length : Int) + 1) t.f0 t.f1 t.f2 else some t7) (fun k => ?_) (ev_bind (impl_inFault_ev pre b (hs b (by simp)) (by omega)) ?_)
  · rw [impl_TxFault.l0, if_pos (by omega), if_pos (by omega), if_pos (by omega), if_pos (by omega), e1, e2, wrap_id (x := (pre.length : Int) + 1) (by omega) (by omega)]
  · unfold insF
    by_cases hf : inF pre b = 0
    · rw [if_pos hf]; exact ev_if hf h
    · rw [if_neg hf]; exact ev_ifn hf (Ev.now _)
theorem impl_TxFault_ev {t : S27} (h1 : t.f1.length ≤ 1048576 ∧ ∀ x ∈ t.f1, (x.f2.length : Int) ≤ 1048576) (h2 : t.f2.length ≤ 1048576 ∧ ∀ x ∈ t.f2, (x.f1.length : Int) ≤ 1048576) : Ev (fun k => impl_TxFault.f k t.f0 t.f1 t.f2) (txF t) := by
 unfold impl_TxFault.f txF
 refine ev_bind0 (impl_in_eq _ _ _) ?_
 by_cases hn : 0 ≤ t.f0 ∧ t.f0 ≤ 65535
 · rw [if_pos hn]
   refine ev_if (by simpa using hn) ?_
   by_cases c1 : (t.f1.length : Int) > 4
   · rw [if_pos (.inl c1)]; exact ev_if c1 (Ev.now _)
   · refine ev_ifn c1 (ev_bind0 (impl_in_eq _ _ _) ?_)
     by_cases c2 : 1 ≤ (t.f2.length : Int) ∧ (t.f2.length : Int) ≤ 4
     · rw [if_neg (by omega)]
       refine ev_if (by simpa using c2) ?_
       have l1 := impl_TxFault_l1 t h2.1 t.f2 [] t.f2.length (by simp) h2.2 (by omega)
       have := impl_TxFault_l0 t _ (by simpa using l1) t.f1 [] (by simp) h1.2 (by simp; omega)
       simpa using this
     · rw [if_pos (by omega)]; exact ev_ifn (by simpa using c2) (Ev.now _)
 · rw [if_neg hn]; exact ev_ifn (by simpa using hn) (Ev.now _)
def varB (n : Int) : List Int := if n < 253 then [n % 256] else [253, n % 256, n / 256 % 256]
theorem varB_len (n : Int) : (varB n).length ≤ 3 := by unfold varB; split <;> simp
def stepS (a b : Int) : Int := (33 * a + b + 1) % 2147483647
def sumB (l : List Int) : Int := l.foldl stepS 5381
def Bytes (l : List Int) : Prop := ∀ x ∈ l, 0 ≤ x ∧ x ≤ 255
theorem stepS_bd (a b : Int) : 0 ≤ stepS a b ∧ stepS a b < 2147483647 := by unfold stepS; omega
theorem sumB_bd_go (l : List Int) : ∀ a : Int, 0 ≤ a → a < 2147483647 → 0 ≤ l.foldl stepS a ∧ l.foldl stepS a < 2147483647 := by
 induction l with
 | nil => intro a h0 h1; exact ⟨h0, h1⟩
 | cons b l ih => intro a _ _; exact ih _ (stepS_bd a b).1 (stepS_bd a b).2
theorem sumB_bd (l : List Int) : 0 ≤ sumB l ∧ sumB l ≤ 2147483646 := by
 have := sumB_bd_go l 5381 (by omega) (by omega)
 unfold sumB; omega
theorem step_wrap {a b : Int} (h0 : 0 ≤ a) (h1 : a < 2147483647) (hb : 0 ≤ b ∧ b ≤ 255) :
 Int.tmod (wrap64 ((wrap64 ((wrap64 (a * 33)) + (wrap64 b))) + 1)) 2147483647 = stepS a b := by
 rw [wrap_id (x := a * 33) (by omega) (by omega), wrap_id (x := b) (by omega) (by omega), wrap_id (x := a * 33 + b) (by omega) (by omega), wrap_id (x := a * 33 + b + 1) (by omega) (by omega), Int.tmod_eq_emod_of_nonneg (by omega)]
 unfold stepS; rw [Int.mul_comm a 33]
def bigB (n : Int) : List Int := varB (n % 65536) ++ varB (n / 65536)
def listB (l : List Int) : List Int := varB l.length ++ (l.map varB).flatten
def inB (p : Bool) (x : S34) : List Int := bigB x.f0 ++ (varB x.f1 ++ (if p = true then listB x.f2 else [0]))
def outB (y : S86) : List Int := bigB y.f0 ++ listB y.f1
def packB (p : Bool) (t : S27) : List Int := varB t.f0 ++ (varB t.f1.length ++ ((t.f1.map (inB p)).flatten ++ (varB t.f2.length ++ (t.f2.map outB).flatten)))
def InOk (x : S34) : Prop := (0 ≤ x.f0 ∧ x.f0 ≤ 2147483646) ∧ (0 ≤ x.f1 ∧ x.f1 ≤ 3) ∧ x.f2.length ≤ 8 ∧ AllIn x.f2 0 9999
def OutOk (y : S86) : Prop := (0 ≤ y.f0 ∧ y.f0 ≤ 1000000) ∧ y.f1.length ≤ 12 ∧ AllIn y.f1 0 9999
def TxOk (t : S27) : Prop := (0 ≤ t.f0 ∧ t.f0 ≤ 65535) ∧ t.f1.length ≤ 4 ∧ (1 ≤ t.f2.length ∧ t.f2.length ≤ 4) ∧ (∀ x ∈ t.f1, InOk x) ∧ ∀ y ∈ t.f2, OutOk y
theorem inF_ok {p : List S34} {x : S34} (h : inF p x = 0) : InOk x := by
 unfold inF at h
 split at h
 · omega
 · rename_i h0
   split at h
   · omega
   · split at h
     · rename_i h8 ha
       refine ⟨?_, ?_, by omega, of_decide_eq_true ha⟩ <;> (unfold inBad at h0; simp at h0; omega)
     · omega
theorem insF_ok (s : List S34) : ∀ (p : List S34) (e : Int), insF p s e = 0 → (∀ x ∈ s, InOk x) ∧ e = 0 := by
 induction s with
 | nil => intro p e h; exact ⟨by simp, h⟩
 | cons x s ih =>
  intro p e h
  unfold insF at h
  by_cases hx : inF p x = 0
  · rw [if_pos hx] at h
    obtain ⟨h1, h2⟩ := ih _ _ h
    refine ⟨fun y hy => ?_, h2⟩
    rcases List.mem_cons.1 hy with rfl | hy
    · exact inF_ok hx
    · exact h1 y hy
  · rw [if_neg hx] at h; exact absurd h hx
theorem faultP_ok {l : List Int} (h : faultP l = 0) : l.length ≤ 12 ∧ AllIn l 0 9999 := by
 unfold faultP at h
 split at h
 · omega
 · rename_i h12
   split at h
   · omega
   · rename_i hb
     refine ⟨by omega, fun x hx => ?_⟩
     have : opBad x = false := by
      cases ho : opBad x with
      | false => rfl
      | true => exact absurd (List.any_eq_true.2 ⟨x, hx, ho⟩) hb
     unfold opBad at this
     simp at this
     omega
theorem outsF_ok (s : List S86) : ∀ (e : Int), outsF s e = 0 → ∀ y ∈ s, OutOk y := by
 induction s with
 | nil => intro e _; simp
 | cons x s ih =>
  intro e h y hy
  unfold outsF at h
  split at h
  · rename_i hx
    by_cases hf : faultP x.f1 = 0
    · rw [if_pos hf] at h
      rcases List.mem_cons.1 hy with rfl | hy
      · exact ⟨hx, faultP_ok hf⟩
      · exact ih e h y hy
    · rw [if_neg hf] at h; exact absurd h hf
  · omega
theorem txF_ok {t : S27} (h : txF t = 0) : TxOk t := by
 unfold txF at h
 split at h
 · rename_i hn
   split at h
   · omega
   · rename_i hc
     obtain ⟨h1, h2⟩ := insF_ok _ _ _ h
     exact ⟨hn, by omega, by omega, h1, outsF_ok _ _ h2⟩
 · omega
theorem varB_bytes (n : Int) : Bytes (varB n) := by
 unfold varB; split <;> (intro x hx; simp at hx; rcases hx with rfl | rfl | rfl) <;> omega
theorem Bytes_append {a b : List Int} (ha : Bytes a) (hb : Bytes b) : Bytes (a ++ b) := by
 intro x hx; rcases List.mem_append.1 hx with h | h
 · exact ha x h
 · exact hb x h
theorem Bytes_flat {α : Type} {f : α → List Int} {l : List α} (h : ∀ x ∈ l, Bytes (f x)) : Bytes (l.map f).flatten := by
 intro x hx
 obtain ⟨y, hy, hx⟩ := List.mem_flatten.1 hx
 obtain ⟨z, hz, rfl⟩ := List.mem_map.1 hy
 exact h z hz x hx
theorem flat_len {α : Type} {f : α → List Int} {n : Nat} : ∀ {l : List α}, (∀ x ∈ l, (f x).length ≤ n) → (l.map f).flatten.length ≤ n * l.length
 | [], _ => by simp
 | x :: l, h => by
  have h1 := h x (by simp)
  have h2 := flat_len (f := f) (n := n) (l := l) (fun y hy => h y (by simp [hy]))
  simp only [List.map_cons, List.flatten_cons, List.length_append, List.length_cons, Nat.mul_add, Nat.mul_one]
  omega
theorem listB_len {l : List Int} {n : Nat} (h : l.length ≤ n) : (listB l).length ≤ 3 + 3 * n := by
 unfold listB
 have h1 := varB_len l.length
 have h2 := flat_len (f := varB) (n := 3) (l := l) (fun x _ => varB_len x)
 simp only [List.length_append]
 omega
theorem bigB_len (n : Int) : (bigB n).length ≤ 6 := by
 unfold bigB; have h1 := varB_len (n % 65536); have h2 := varB_len (n / 65536); simp only [List.length_append]; omega
theorem inB_len {p : Bool} {x : S34} (h : InOk x) : (inB p x).length ≤ 36 := by
 unfold inB
 have h1 := bigB_len x.f0; have h2 := varB_len x.f1; have h3 := listB_len h.2.2.1
 cases p <;> simp <;> omega
theorem outB_len {y : S86} (h : OutOk y) : (outB y).length ≤ 45 := by
 unfold outB
 have h1 := bigB_len y.f0; have h3 := listB_len h.2.1
 simp only [List.length_append]; omega
theorem bigB_bytes (n : Int) : Bytes (bigB n) := Bytes_append (varB_bytes _) (varB_bytes _)
theorem listB_bytes (l : List Int) : Bytes (listB l) := Bytes_append (varB_bytes _) (Bytes_flat (fun x _ => varB_bytes x))
theorem packB_bytes (p : Bool) (t : S27) : Bytes (packB p t) := by
 unfold packB
 refine Bytes_append (varB_bytes _) (Bytes_append (varB_bytes _) (Bytes_append (Bytes_flat (fun x _ => ?_)) (Bytes_append (varB_bytes _) (Bytes_flat (fun y _ => ?_)))))
 · unfold inB
   refine Bytes_append (bigB_bytes _) (Bytes_append (varB_bytes _) ?_)
   cases p
   · intro x hx; simp at hx; omega
   · exact listB_bytes _
 · exact Bytes_append (bigB_bytes _) (listB_bytes _)
theorem spec_l3Put_eq {n : Int} (h1 : n ≤ 9223372036854775807) : spec_l3Put.f n = some (varB n) := by
 unfold spec_l3Put.f varB
 by_cases h : n < 253
 · rw [if_pos h, if_pos h]
 · rw [if_neg h, if_neg h, Int.tmod_eq_emod_of_nonneg (by omega), Int.tdiv_eq_ediv_of_nonneg (by omega), wrap_id (by omega) (by omega)]
   have : n % 256 % 256 = n % 256 := by omega
   rw [this]
theorem spec_l3Big_eq {n : Int} (h0 : 0 ≤ n) (h1 : n ≤ 9223372036854775807) : spec_l3Big.f n = some (bigB n) := by
 unfold spec_l3Big.f bigB
 rw [Int.tmod_eq_emod_of_nonneg h0, Int.tdiv_eq_ediv_of_nonneg h0, wrap_id (by omega) (by omega), spec_l3Put_eq (by omega), spec_l3Put_eq (by omega)]
 simp only [Option.bind_some]
 have a := varB_len (n % 65536)
 have b := varB_len (n / 65536)
 rw [if_pos (by omega)]
theorem spec_l3List_l0 (suf : List Int) : ∀ (pre acc : List Int), (∀ x ∈ suf, x ≤ 9223372036854775807) → pre.length + suf.length ≤ 1000 → acc.length + 3 * suf.length ≤ 100000 →
 Ev (fun k => spec_l3List.l0 k (pre ++ suf) acc pre.length) (acc ++ (suf.map varB).flatten) := by
 induction suf with
 | nil => intro pre acc _ _ _; exact ev_succ (fun k => by rw [spec_l3List.l0, if_neg (by simp)]; simp)
 | cons b suf ih =>
  intro pre acc hs hp hl
  simp only [List.length_cons] at hp hl
  have hv := varB_len b
  have h := ih (pre ++ [b]) (acc ++ varB b) (fun x hx => hs x (by simp [hx])) (by simp; omega) (by simp only [List.length_append]; omega)
  rw [show ((pre ++ [b]).length : Int) = (pre.length : Int) + 1 from by simp, show pre ++ [b] ++ suf = pre ++ b :: suf from by simp] at h
  refine Ev.step (fun k => ?_) (by simpa using h)
  rw [spec_l3List.l0, if_pos (by simp; omega), if_pos (by omega), rd_mid, spec_l3Put_eq (hs b (by simp))]
  simp only [Option.bind_some]
  rw [if_pos (by omega), wrap_id (by omega) (by omega)]
theorem spec_l3List_ev {l : List Int} (hs : ∀ x ∈ l, x ≤ 9223372036854775807) (hl : l.length ≤ 1000) : Ev (fun k => spec_l3List.f k l) (listB l) := by
 unfold spec_l3List.f listB
 have hv := varB_len (l.length : Int)
 refine ev_bind0 (spec_l3Put_eq (by omega)) ?_
 have := spec_l3List_l0 l [] (varB l.length) hs (by simp; omega) (by omega)
 simpa using this
theorem le_of_allIn {l : List Int} {lo hi : Int} (h : AllIn l lo hi) (hh : hi ≤ 9223372036854775807) : ∀ x ∈ l, x ≤ 9223372036854775807 := fun x hx => by have := (h x hx).2; omega
theorem spec_l3Pack_l1 (t : S27) (suf : List S86) : ∀ (pre : List S86) (acc : List Int), t.f2 = pre ++ suf → (∀ y ∈ suf, OutOk y) → pre.length + suf.length ≤ 4 → acc.length + 45 * suf.length ≤ 100000 →
 Ev (fun k => spec_l3Pack_in.l1 k [t] acc pre.length) (acc ++ (suf.map outB).flatten) := by
 have hrd : rd_T27 [t] 0 = t := rfl
 induction suf with
 | nil => intro pre acc ht _ _ _; exact ev_succ (fun k => by rw [spec_l3Pack_in.l1, if_pos (by simp), hrd, if_neg (by rw [ht]; simp)]; simp)
 | cons b suf ih =>
  intro pre acc ht hs hp hl
  simp only [List.length_cons] at hp hl
  have hb := hs b (by simp)
  have l1 := bigB_len b.f0
  have l2 := listB_len hb.2.1
  have h := ih (pre ++ [b]) (acc ++ bigB b.f0 ++ listB b.f1) (by rw [ht]; simp) (fun y hy => hs y (by simp [hy])) (by simp; omega) (by simp only [List.length_append]; omega)
  rw [show ((pre ++ [b]).length : Int) = (pre.length : Int) + 1 from by simp] at h
  refine Ev.step (f := fun k => (spec_l3List.f k b.f1).bind fun t351 => if (acc ++ bigB b.f0).length + t351.length < 140737488355328 then spec_l3Pack_in.l1 k [t] (acc ++ bigB b.f0 ++ t351) ((pre.length : Int) + 1) else none) (fun k => ?_) (ev_bind (spec_l3List_ev (le_of_allIn hb.2.2 (by omega)) (by have := hb.2.1; omega)) (ev_if (by simp only [List.length_append]; omega) (by simpa [outB] using h)))
  rw [spec_l3Pack_in.l1, if_pos (by simp), hrd, if_pos (by rw [ht]; simp; omega), if_pos (by omega), ht, rdO, spec_l3Big_eq (by have := hb.1; omega) (by have := hb.1; omega)]
  simp only [Option.bind_some]
  rw [if_pos (by omega), wrap_id (by omega) (by omega)]
theorem spec_l3Pack_l0 (p : Bool) (t : S27) (ho : ∀ y ∈ t.f2, OutOk y) (h2 : t.f2.length ≤ 4) (suf : List S34) : ∀ (pre : List S34) (acc : List Int), t.f1 = pre ++ suf → (∀ x ∈ suf, InOk x) → pre.length + suf.length ≤ 4 → acc.length + 36 * suf.length ≤ 10000 →
 Ev (fun k => spec_l3Pack_in.l0 k [t] p acc pre.length) (acc ++ ((suf.map (inB p)).flatten ++ (varB t.f2.length ++ (t.f2.map outB).flatten))) := by
 have hrd : rd_T27 [t] 0 = t := rfl
 induction suf with
 | nil =>
  intro pre acc ht _ _ hl
  have hv := varB_len (t.f2.length : Int)
  have h := spec_l3Pack_l1 t t.f2 [] (acc ++ varB t.f2.length) (by simp) ho (by simpa using h2) (by simp only [List.length_append]; omega)
  refine Ev.step (f := fun k => spec_l3Pack_in.l1 k [t] (acc ++ varB t.f2.length) 0) (fun k => ?_) (by simpa using h)
  rw [spec_l3Pack_in.l0, if_pos (by simp), hrd, if_neg (by rw [ht]; simp), spec_l3Put_eq (by omega)]
  simp only [Option.bind_some]
  rw [if_pos (by omega)]
 | cons b suf ih =>
  intro pre acc ht hs hp hl
  simp only [List.length_cons] at hp hl
  have hb := hs b (by simp)
  have l1 := bigB_len b.f0
  have l2 := listB_len hb.2.2.1
  have l3 := varB_len b.f1
  have h := ih (pre ++ [b]) (acc ++ bigB b.f0 ++ varB b.f1 ++ (if p = true then listB b.f2 else [0])) (by rw [ht]; simp) (fun y hy => hs y (by simp [hy])) (by simp; omega) (by cases p <;> simp <;> omega)
  rw [show ((pre ++ [b]).length : Int) = (pre.length : Int) + 1 from by simp] at h
  have hstep : ∀ k, spec_l3Pack_in.l0 (k + 1) [t] p acc pre.length = (if p = true then ((spec_l3List.f k b.f2).bind fun t325 => (if (acc ++ bigB b.f0 ++ varB b.f1).length + t325.length < 140737488355328 then (spec_l3Pack_in.l0 k [t] p ((acc ++ bigB b.f0 ++ varB b.f1) ++ t325) ((pre.length : Int) + 1)) else (none))) else (if (acc ++ bigB b.f0 ++ varB b.f1).length < 140737488355328 then (spec_l3Pack_in.l0 k [t] p ((acc ++ bigB b.f0 ++ varB b.f1) ++ [0]) ((pre.length : Int) + 1)) else (none))) := by
   intro k
   rw [spec_l3Pack_in.l0, if_pos (by simp), hrd, if_pos (by rw [ht]; simp; omega), if_pos (by omega), ht, rdI, spec_l3Big_eq (by have := hb.1; omega) (by have := hb.1; omega)]
   simp only [Option.bind_some]
   rw [if_pos (by omega), spec_l3Put_eq (by have := hb.2.1; omega)]
   simp only [Option.bind_some]
   rw [if_pos (by simp only [List.length_append]; omega), wrap_id (by omega) (by omega)]
  cases p with
  | true =>
   refine Ev.step (f := fun k => (spec_l3List.f k b.f2).bind fun t325 => (if (acc ++ bigB b.f0 ++ varB b.f1).length + t325.length < 140737488355328 then (spec_l3Pack_in.l0 k [t] true ((acc ++ bigB b.f0 ++ varB b.f1) ++ t325) ((pre.length : Int) + 1)) else (none))) (fun k => by rw [hstep, if_pos rfl]) ?_
   refine ev_bind (spec_l3List_ev (le_of_allIn hb.2.2.2 (by omega)) (by have := hb.2.2.1; omega)) (ev_if (by simp only [List.length_append]; omega) ?_)
   simpa [inB] using h
  | false =>
   refine Ev.step (f := fun k => if (acc ++ bigB b.f0 ++ varB b.f1).length < 140737488355328 then (spec_l3Pack_in.l0 k [t] false ((acc ++ bigB b.f0 ++ varB b.f1) ++ [0]) ((pre.length : Int) + 1)) else (none)) (fun k => by rw [hstep, if_neg (by decide)]) ?_
   refine ev_if (by simp only [List.length_append]; omega) ?_
   simpa [inB] using h
theorem spec_l3Pack_ev (p : Bool) {t : S27} (h : TxOk t) : Ev (fun k => spec_l3Pack.f k t.f0 t.f1 t.f2 p) (packB p t) := by
 unfold spec_l3Pack.f spec_l3Pack_in.f packB
 have hrd : rd_T27 [t] 0 = t := rfl
 have ht : (⟨t.f0, t.f1, t.f2⟩ : S27) = t := rfl
 obtain ⟨h0, h1, h2, hi, ho⟩ := h
 have v1 := varB_len t.f0
 have v2 := varB_len (t.f1.length : Int)
 rw [ht]
 refine ev_if (by simp) ?_
 rw [hrd]
 refine ev_bind0 (spec_l3Put_eq (by omega)) (ev_bind0 (spec_l3Put_eq (by omega)) (ev_if (by omega) ?_))
 have := spec_l3Pack_l0 p t ho h2.2 t.f1 [] (varB t.f0 ++ varB t.f1.length) (by simp) hi (by simpa using h1) (by simp only [List.length_append]; omega)
 simpa using this
theorem packB_len (p : Bool) {t : S27} (h : TxOk t) : (packB p t).length ≤ 1000 := by
 unfold packB
 obtain ⟨h0, h1, h2, hi, ho⟩ := h
 have v1 := varB_len t.f0
 have v2 := varB_len (t.f1.length : Int)
 have v3 := varB_len (t.f2.length : Int)
 have f1 := flat_len (f := inB p) (n := 36) (l := t.f1) (fun x hx => inB_len (hi x hx))
 have f2 := flat_len (f := outB) (n := 45) (l := t.f2) (fun x hx => outB_len (ho x hx))
 simp only [List.length_append]
 omega
theorem impl_putVar_eq (n : Int) : impl_putVar.f n = some (varB n) := by
 unfold impl_putVar.f varB; split <;> rfl
theorem slices_Concat_byte_byte_rd (pre : List (List Int)) (b : List Int) (suf : List (List Int)) : rd_L5 (pre ++ b :: suf) (pre.length : Int) = b := by
 unfold rd_L5
 simp
theorem slices_Concat_byte_byte_l1 (suf : List (List Int)) : ∀ (pre : List (List Int)) (acc : List Int), pre.length + suf.length ≤ 100000 → acc.length + suf.flatten.length ≤ 1000000000 →
 Ev (fun k => slices_Concat_byte_byte.l1 k acc (pre ++ suf) ((pre ++ suf).length : Int) pre.length) (acc ++ suf.flatten) := by
 induction suf with
 | nil => intro pre acc _ _; exact ev_succ (fun k => by rw [slices_Concat_byte_byte.l1, if_neg (by simp)]; simp)
 | cons b suf ih =>
  intro pre acc h1 h2
  simp only [List.length_cons, List.flatten_cons, List.length_append] at h1 h2
  have h := ih (pre ++ [b]) (acc ++ b) (by simp; omega) (by simp only [List.length_append]; omega)
  refine Ev.step (fun k => ?_) (by simpa using h)
  rw [slices_Concat_byte_byte.l1, if_pos (by simp; omega), if_pos (by omega), if_pos (by simp; omega), slices_Concat_byte_byte_rd, if_pos (by omega), wrap_id (by omega) (by omega)]
  simp
theorem slices_Concat_byte_byte_l0 (suf : List (List Int)) : ∀ (pre : List (List Int)) (n : Int), 0 ≤ n → n + suf.flatten.length ≤ 1000000000 → pre.length + suf.length ≤ 100000 → (pre ++ suf).flatten.length ≤ 1000000000 →
 Ev (fun k => slices_Concat_byte_byte.l0 k (pre ++ suf) n (pre ++ suf) ((pre ++ suf).length : Int) pre.length) (pre ++ suf).flatten := by
 induction suf with
 | nil =>
  intro pre n h0 h1 h2 h3
  refine Ev.step (f := fun k => (slices_Grow_at_nil.f n).bind fun t => slices_Concat_byte_byte.l1 k t (pre ++ []) ((pre ++ []).length : Int) 0) (fun k => by rw [slices_Concat_byte_byte.l0, if_neg (by simp)]) ?_
  refine ev_bind0 (a := []) (by unfold slices_Grow_at_nil.f; rw [if_pos h0, if_pos (by simp at h1; omega)]) ?_
  have := slices_Concat_byte_byte_l1 (pre ++ []) [] [] (by simpa using h2) (by simpa using h3)
  simpa using this
 | cons b suf ih =>
  intro pre n h0 h1 h2 h3
  simp only [List.length_cons, List.flatten_cons, List.length_append] at h1 h2
  have h := ih (pre ++ [b]) (n + b.length) (by omega) (by omega) (by simp; omega) (by simpa using h3)
  refine Ev.step (fun k => ?_) (by simpa using h)
  rw [slices_Concat_byte_byte.l0, if_pos (by simp; omega), if_pos (by omega), if_pos (by simp; omega), slices_Concat_byte_byte_rd, wrap_id (x := n + (b.length : Int)) (by omega) (by omega), if_neg (by omega), wrap_id (by omega) (by omega)]
  simp
theorem slices_Concat_byte_byte_ev {x : List (List Int)} (h1 : x.length ≤ 100000) (h2 : x.flatten.length ≤ 1000000000) : Ev (fun k => slices_Concat_byte_byte.f k x) x.flatten := by
 have := slices_Concat_byte_byte_l0 x [] 0 (by omega) (by omega) (by simpa using h1) (by simpa using h2)
 unfold slices_Concat_byte_byte.f
 simpa using this
theorem impl_halves_eq {n : Int} (h0 : 0 ≤ n) (h1 : n ≤ 9223372036854775807) : impl_halves.f n = some (bigB n) := by
 unfold impl_halves.f bigB
 rw [Int.tmod_eq_emod_of_nonneg h0, Int.tdiv_eq_ediv_of_nonneg h0, wrap_id (by omega) (by omega), impl_putVar_eq, impl_putVar_eq]
 simp only [Option.bind_some]
 have a := varB_len (n % 65536)
 have b := varB_len (n / 65536)
 rw [if_pos (by omega)]
theorem impl_numbers_l0 (suf : List Int) : ∀ (pre acc : List Int) (n : Int), n = (pre.length : Int) + suf.length → n ≤ 1000 → acc.length + 3 * suf.length ≤ 100000 →
 Ev (fun k => impl_numbers.l0 k acc (pre ++ suf) n pre.length) (acc ++ (suf.map varB).flatten) := by
 induction suf with
 | nil => intro pre acc n hn _ _; subst hn; exact ev_succ (fun k => by rw [impl_numbers.l0, if_neg (by simp)]; simp)
 | cons b suf ih =>
  intro pre acc n hn hp hl
  simp only [List.length_cons, Int.natCast_add, Int.natCast_one] at hn hl
  have hv := varB_len b
  have h := ih (pre ++ [b]) (acc ++ varB b) n (by simp; omega) hp (by simp only [List.length_append]; omega)
  rw [show ((pre ++ [b]).length : Int) = (pre.length : Int) + 1 from by simp, show pre ++ [b] ++ suf = pre ++ b :: suf from by simp] at h
  refine Ev.step (fun k => ?_) (by simpa using h)
  rw [impl_numbers.l0, if_pos (by omega), if_pos (by omega), if_pos (by simp; omega), rd_mid, impl_putVar_eq]
  simp only [Option.bind_some]
  rw [if_pos (by omega), wrap_id (by omega) (by omega)]
theorem impl_numbers_ev {l : List Int} (hl : l.length ≤ 1000) : Ev (fun k => impl_numbers.f k l) (listB l) := by
 unfold impl_numbers.f listB
 have hv := varB_len (l.length : Int)
 refine ev_bind0 (impl_putVar_eq _) ?_
 have := impl_numbers_l0 l [] (varB l.length) l.length (by simp) (by omega) (by omega)
 simpa using this
theorem impl_packTx_l1 (suf : List S86) : ∀ (pre : List S86) (acc : List Int) (n : Int), n = (pre.length : Int) + suf.length → n ≤ 4 → (∀ y ∈ suf, OutOk y) → acc.length + 45 * suf.length ≤ 100000 →
 Ev (fun k => impl_packTx.l1 k acc (pre ++ suf) n pre.length) (acc ++ (suf.map outB).flatten) := by
 induction suf with
 | nil => intro pre acc n hn _ _ _; subst hn; exact ev_succ (fun k => by rw [impl_packTx.l1, if_neg (by simp)]; simp)
 | cons b suf ih =>
  intro pre acc n hn hp hs hl
  simp only [List.length_cons, Int.natCast_add, Int.natCast_one] at hn hl
  have hb := hs b (by simp)
  have l1 := bigB_len b.f0
  have l2 := listB_len hb.2.1
  have h := ih (pre ++ [b]) (acc ++ (bigB b.f0 ++ listB b.f1)) n (by simp; omega) hp (fun y hy => hs y (by simp [hy])) (by simp only [List.length_append]; omega)
  rw [show ((pre ++ [b]).length : Int) = (pre.length : Int) + 1 from by simp, show pre ++ [b] ++ suf = pre ++ b :: suf from by simp] at h
  refine Ev.step (f := fun k => (impl_numbers.f k b.f1).bind fun t215 => (slices_Concat_byte_byte.f k (([acc, bigB b.f0, t215] : List (List Int)))).bind fun t221 => impl_packTx.l1 k t221 (pre ++ b :: suf) n ((pre.length : Int) + 1)) (fun k => ?_) (ev_bind (impl_numbers_ev (by have := hb.2.1; omega)) (ev_bind (slices_Concat_byte_byte_ev (by simp) (by simp; omega)) (by simpa [outB] using h)))
  rw [impl_packTx.l1, if_pos (by omega), if_pos (by omega), if_pos (by simp; omega), rdO, impl_halves_eq (by have := hb.1; omega) (by have := hb.1; omega), wrap_id (by omega) (by omega)]
  simp only [Option.bind_some]
theorem impl_packTx_l0 (a0 : Int) (i1 : List S34) (o : List S86) (ho : ∀ y ∈ o, OutOk y) (h2 : o.length ≤ 4) (suf : List S34) : ∀ (pre : List S34) (acc : List Int) (n : Int), n = (pre.length : Int) + suf.length → n ≤ 4 → (∀ x ∈ suf, InOk x) → acc.length + 36 * suf.length ≤ 10000 →
 Ev (fun k => impl_packTx.l0 k acc (pre ++ suf) n pre.length a0 i1 o) (acc ++ ((suf.map (inB true)).flatten ++ (varB o.length ++ (o.map outB).flatten))) := by
 induction suf with
 | nil =>
  intro pre acc n hn _ _ hl
  subst hn
  have hv := varB_len (o.length : Int)
  have h := impl_packTx_l1 o [] (acc ++ varB o.length) o.length (by simp) (by omega) ho (by simp only [List.length_append]; omega)
  refine Ev.step (f := fun k => impl_packTx.l1 k (acc ++ varB o.length) o o.length 0) (fun k => ?_) (by simpa using h)
  rw [impl_packTx.l0, if_neg (by simp), impl_putVar_eq]
  simp only [Option.bind_some]
  rw [if_pos (by omega)]
 | cons b suf ih =>
  intro pre acc n hn hp hs hl
  simp only [List.length_cons, Int.natCast_add, Int.natCast_one] at hn hl
  have hb := hs b (by simp)
  have l1 := bigB_len b.f0
  have l2 := listB_len hb.2.2.1
  have l3 := varB_len b.f1
  have h := ih (pre ++ [b]) (acc ++ (bigB b.f0 ++ (varB b.f1 ++ listB b.f2))) n (by simp; omega) hp (fun y hy => hs y (by simp [hy])) (by simp only [List.length_append]; omega)
  rw [show ((pre ++ [b]).length : Int) = (pre.length : Int) + 1 from by simp, show pre ++ [b] ++ suf = pre ++ b :: suf from by simp] at h
  refine Ev.step (f := fun k => (impl_numbers.f k b.f2).bind fun t195 => (slices_Concat_byte_byte.f k (([acc, bigB b.f0, varB b.f1, t195] : List (List Int)))).bind fun t201 => impl_packTx.l0 k t201 (pre ++ b :: suf) n ((pre.length : Int) + 1) a0 i1 o) (fun k => ?_) (ev_bind (impl_numbers_ev (by have := hb.2.2.1; omega)) (ev_bind (slices_Concat_byte_byte_ev (by simp) (by simp; omega)) (by simpa [inB] using h)))
  rw [impl_packTx.l0, if_pos (by omega), if_pos (by omega), if_pos (by simp; omega), rdI, impl_halves_eq (by have := hb.1; omega) (by have := hb.1; omega), wrap_id (by omega) (by omega), impl_putVar_eq]
  simp only [Option.bind_some]
theorem impl_packTx_ev {t : S27} (h : TxOk t) : Ev (fun k => impl_packTx.f k t.f0 t.f1 t.f2) (packB true t) := by
 unfold impl_packTx.f packB
 obtain ⟨h0, h1, h2, hi, ho⟩ := h
 have v1 := varB_len t.f0
 have v2 := varB_len (t.f1.length : Int)
 refine ev_bind0 (impl_putVar_eq _) (ev_bind0 (impl_putVar_eq _) (ev_if (by omega) ?_))
 have := impl_packTx_l0 t.f0 t.f1 t.f2 ho h2.2 t.f1 [] (varB t.f0 ++ varB t.f1.length) t.f1.length (by simp) (by omega) hi (by simp only [List.length_append]; omega)
 simpa using this
theorem laws_eqByteS_l0 (suf : List Int) : ∀ (pre : List Int), (pre.length : Int) + suf.length ≤ 9223372036854775806 →
 Ev (fun k => laws_eqByteS.l0 k (pre ++ suf) (pre ++ suf) pre.length) true := by
 induction suf with
 | nil => intro pre _; exact ev_succ (fun k => by simp [laws_eqByteS.l0])
 | cons b suf ih =>
  intro pre hl
  simp only [List.length_cons, Int.natCast_add, Int.natCast_one] at hl
  have h := ih (pre ++ [b]) (by simp; omega)
  refine Ev.step (fun k => ?_) (by simpa using h)
  rw [laws_eqByteS.l0]
  rw [if_pos (by simp; omega), if_pos (by omega), if_pos (by simp; omega), if_pos rfl, wrap_id (by omega) (by omega)]
theorem laws_eqByteS_refl {l : List Int} (hl : l.length ≤ 140737488351232) : Ev (fun k => laws_eqByteS.f k l l) true := by
 unfold laws_eqByteS.f
 exact ev_if rfl (laws_eqByteS_l0 l [] (by simp; omega))
def marks8 (k : Int) : Nat → List Int
 | 0 => []
 | n + 1 => (k % 256) :: marks8 (k + 1) n
theorem marks8_length (k : Int) (n : Nat) : (marks8 k n).length = n := by
 induction n generalizing k with
 | zero => rfl
 | succ n ih => simp [marks8, ih]
theorem laws_markByteS_l0 (suf : List Int) : ∀ (pre : List Int) (q : Int), 0 ≤ q → q + suf.length ≤ 9223372036854775806 → (pre.length : Int) + suf.length ≤ 9223372036854775806 →
 Ev (fun k => laws_markByteS.l0 k (pre ++ suf) q pre.length) (q + suf.length, pre ++ marks8 q suf.length) := by
 induction suf with
 | nil => intro pre q _ _ _; exact ev_succ (fun k => by simp [laws_markByteS.l0, marks8])
 | cons b suf ih =>
  intro pre q h0 hq hl
  simp only [List.length_cons, Int.natCast_add, Int.natCast_one] at hl hq
  have h := ih (pre ++ [q % 256]) (q + 1) (by omega) (by omega) (by simp; omega)
  refine Ev.step (f := fun k => laws_markByteS.l0 k (pre ++ [q % 256] ++ suf) (q + 1) ((pre ++ [q % 256]).length : Int)) (fun k => ?_) ?_
  · rw [laws_markByteS.l0]
    rw [if_pos (by simp; omega), if_pos (by omega), wrap_id (x := q + 1) (by omega) (by omega), wrap_id (by omega) (by omega)]
    simp
  · have e : ((q + ((b :: suf).length : Int), pre ++ marks8 q (b :: suf).length) : Int × List Int) = (q + 1 + (suf.length : Int), pre ++ [q % 256] ++ marks8 (q + 1) suf.length) := by
     simp [marks8]; omega
    rw [e]; exact h
theorem laws_markByteS_ev {l : List Int} {q : Int} (h0 : 0 ≤ q) (hq : q ≤ 4611686018427387904) (hl : l.length ≤ 140737488351232) : Ev (fun k => laws_markByteS.f k l q) (q + l.length, marks8 q l.length) := by
 have h := laws_markByteS_l0 l [] q h0 (by omega) (by simp; omega)
 unfold laws_markByteS.f
 simpa using h
theorem laws_heldByteS_l0 (n : Nat) : ∀ (pre : List Int) (q : Int), 0 ≤ q → q + n ≤ 9223372036854775806 → (pre.length : Int) + n ≤ 9223372036854775806 →
 Ev (fun k => laws_heldByteS.l0 k (pre ++ marks8 q n) q pre.length) (q + n) := by
 induction n with
 | zero => intro pre q _ _ _; exact ev_succ (fun k => by simp [laws_heldByteS.l0, marks8])
 | succ n ih =>
  intro pre q h0 hq hl
  simp only [Int.natCast_add, Int.natCast_one] at hl hq
  have h := ih (pre ++ [q % 256]) (q + 1) (by omega) (by omega) (by simp; omega)
  refine Ev.step (f := fun k => laws_heldByteS.l0 k (pre ++ [q % 256] ++ marks8 (q + 1) n) (q + 1) ((pre ++ [q % 256]).length : Int)) (fun k => ?_) ?_
  · rw [laws_heldByteS.l0, marks8]
    rw [if_pos (by simp [marks8_length]; omega), if_pos (by omega), rd_mid, if_pos rfl, wrap_id (x := q + 1) (by omega) (by omega), wrap_id (by omega) (by omega)]
    simp
  · have e : q + ((n + 1 : Nat) : Int) = q + 1 + (n : Int) := by omega
    rw [e]; exact h
theorem laws_heldByteS_ev {q : Int} {n : Nat} (h0 : 0 ≤ q) (hq : q ≤ 4611686018427387904) (hl : n ≤ 140737488351232) : Ev (fun k => laws_heldByteS.f k (marks8 q n) q) (q + n) := by
 have h := laws_heldByteS_l0 n [] q h0 (by omega) (by simp; omega)
 unfold laws_heldByteS.f
 simpa using h
theorem laws_eqBytesResult_refl (a : Int) {l : List Int} (hl : l.length ≤ 140737488351232) : Ev (fun k => laws_eqBytesResult.f k a l a l) true := by
 unfold laws_eqBytesResult.f
 exact ev_if rfl (ev_bind (laws_eqByteS_refl hl) (ev_if rfl (Ev.now _)))
theorem laws_markBytesResult_ev (a : Int) {l : List Int} {q : Int} (h0 : 0 ≤ q) (hq : q ≤ 4611686018427387904) (hl : l.length ≤ 140737488351232) : Ev (fun k => laws_markBytesResult.f k a l q) (q + l.length, marks8 q l.length) := by
 unfold laws_markBytesResult.f
 exact ev_bind (laws_markByteS_ev h0 hq hl) (Ev.now _)
theorem laws_heldBytesResult_ev (a : Int) {q : Int} {n : Nat} (h0 : 0 ≤ q) (hq : q ≤ 4611686018427387904) (hl : n ≤ 140737488351232) : Ev (fun k => laws_heldBytesResult.f k a (marks8 q n) q) (q + n) := by
 unfold laws_heldBytesResult.f
 exact ev_bind (laws_heldByteS_ev h0 hq hl) (ev_ifn (by omega) (Ev.now _))
theorem upTo_bound (q M : Nat) : ∀ ns : List Nat, (∀ m ∈ ns, m ≤ M) → upTo q ns ns.length ≤ ns.length * (M + q)
 | [], _ => by simp [upTo]
 | m :: r, h => by
  have ih := upTo_bound q M r (fun x hx => h x (by simp [hx]))
  unfold upTo at ih ⊢
  rw [List.take_length] at ih ⊢
  rw [List.map_cons, List.sum_cons, List.length_cons, Nat.succ_mul]
  have := h m (by simp)
  omega
theorem laws_markTx_eq (a : Int) {l1 : List S34} {l2 : List S86} (h1 : l1.length ≤ 1048576 ∧ ∀ x ∈ l1, (x.f2.length : Int) ≤ 1048576) (h2 : l2.length ≤ 1048576 ∧ ∀ x ∈ l2, (x.f1.length : Int) ≤ 1048576) : ∃ n : Nat, laws_markTx.f a l1 l2 1 = some (1 + (n : Int)) := by
 refine ⟨marksOf l1 l2, ?_⟩
 unfold laws_markTx.f
 have b1 := upTo_bound 2 1048576 (l1.map fun x => x.f2.length) (fun m hm => by obtain ⟨x, hx, rfl⟩ := List.mem_map.1 hm; have := h1.2 x hx; omega)
 have b2 := upTo_bound 1 1048576 (l2.map fun x => x.f1.length) (fun m hm => by obtain ⟨x, hx, rfl⟩ := List.mem_map.1 hm; have := h2.2 x hx; omega)
 rw [List.length_map] at b1 b2
 have c1 := Nat.mul_le_mul_right (1048576 + 2) h1.1
 have c2 := Nat.mul_le_mul_right (1048576 + 1) h2.1
 rw [if_pos ⟨by decide, by unfold marksOf; omega⟩]
def packV (t : S27) : Int × List Int := if txF t = 0 then (0, packB true t) else (txF t, [])
theorem spec_PackTx_ev {t : S27} (h1 : t.f1.length ≤ 1048576 ∧ ∀ x ∈ t.f1, (x.f2.length : Int) ≤ 1048576) (h2 : t.f2.length ≤ 1048576 ∧ ∀ x ∈ t.f2, (x.f1.length : Int) ≤ 1048576) : Ev (fun k => spec_PackTx.f k t.f0 t.f1 t.f2) (packV t) := by
 unfold spec_PackTx.f packV
 refine ev_bind (spec_l3Fault_ev h1 h2) ?_
 by_cases h0 : txF t = 0
 · rw [if_pos h0]; exact ev_if h0 (ev_bind (spec_l3Pack_ev true (txF_ok h0)) (Ev.now _))
 · rw [if_neg h0]; exact ev_ifn h0 (Ev.now _)
theorem impl_PackTx_ev {t : S27} (h1 : t.f1.length ≤ 1048576 ∧ ∀ x ∈ t.f1, (x.f2.length : Int) ≤ 1048576) (h2 : t.f2.length ≤ 1048576 ∧ ∀ x ∈ t.f2, (x.f1.length : Int) ≤ 1048576) : Ev (fun k => impl_PackTx.f k t.f0 t.f1 t.f2) (packV t) := by
 unfold impl_PackTx.f packV
 refine ev_bind (impl_TxFault_ev h1 h2) ?_
 by_cases h0 : txF t = 0
 · rw [if_pos h0]; exact ev_if h0 (ev_bind (impl_packTx_ev (txF_ok h0)) (Ev.now _))
 · rw [if_neg h0]; exact ev_ifn h0 (Ev.now _)
theorem packV_len (t : S27) : (packV t).2.length ≤ 140737488351232 := by
 unfold packV
 by_cases h0 : txF t = 0
 · rw [if_pos h0]; have := packB_len true (txF_ok h0); dsimp only; omega
 · rw [if_neg h0]; simp
theorem FnExactPackTx (x0 : S43) (o0 : ok43 x0) : ∃ k, laws_FnExactPackTx.f k x0.f0 x0.f1 x0.f2 = some true := by
 refine Ev.rounds (g := fun k => laws_FnExactPackTx.f k x0.f0 x0.f1 x0.f2) ?_
 unfold laws_FnExactPackTx.f
 obtain ⟨r, hr, hr1, hr2⟩ := laws_szTx_ev (a := x0.f0) o0.2.1.1 (fun x hx => (o0.2.1.2 x hx).2.2.1) o0.2.2.1 (fun x hx => (o0.2.2.2 x hx).2.1) 1048576 (by omega) (by omega)
 refine ev_bind hr ?_
 by_cases h : r < 0
 · exact ev_if h (Ev.now _)
 refine ev_ifn h ?_
 obtain ⟨b1, b2⟩ := hr2 (by omega)
 have hT := laws_toTx_ev (a := x0.f0) b1 b2
 have hs := spec_PackTx_ev (t := ⟨x0.f0, x0.f1.map cIn, x0.f2.map cOut⟩) (cIn_ok b1) (cOut_ok b2)
 have hi := impl_PackTx_ev (t := ⟨x0.f0, x0.f1.map cIn, x0.f2.map cOut⟩) (cIn_ok b1) (cOut_ok b2)
 have hl := packV_len ⟨x0.f0, x0.f1.map cIn, x0.f2.map cOut⟩
 generalize packV ⟨x0.f0, x0.f1.map cIn, x0.f2.map cOut⟩ = v at hs hi hl
 obtain ⟨n, hn⟩ := laws_markTx_eq x0.f0 (cIn_ok b1) (cOut_ok b2)
 have hE := laws_eqBytesResult_refl v.1 hl
 refine ev_bind hT (ev_bind hs ?_)
 refine ev_bind hT (ev_bind hi ?_)
 refine ev_bind hE (ev_if rfl ?_)
 refine ev_bind hT (ev_bind (laws_eqTx_refl (cIn_ok b1) (cOut_ok b2)) (ev_if rfl ?_))
 refine ev_bind0 hn (ev_ifn (by omega) ?_)
 refine ev_bind hE ?_
 refine Ev.step (f := fun k => (laws_markBytesResult.f k v.1 v.2 1).bind fun bt => (laws_heldBytesResult.f k v.1 bt.2 1).bind fun t => if t < 0 then none else if t = bt.1 then ((laws_toTx.f k x0.f0 x0.f1 x0.f2).bind fun b => (impl_PackTx.f k b.1 b.2.1 b.2.2).bind fun c => (laws_eqBytesResult.f k c.1 c.2 v.1 v.2).bind fun e => if e = true then ((laws_heldBytesResult.f k v.1 bt.2 1).bind fun q => if q < 0 then none else if q = bt.1 then some true else none) else none) else none) (fun k => ?_) ?_
 · rw [laws_FnExactPackTx.j0, if_neg (by decide)]
 refine ev_bind (laws_markBytesResult_ev _ (by omega) (by omega) hl) ?_
 refine ev_bind (laws_heldBytesResult_ev _ (by omega) (by omega) hl) ?_
 refine ev_ifn (by omega) (ev_if rfl ?_)
 refine ev_bind hT (ev_bind hi (ev_bind hE (ev_if rfl ?_)))
 refine ev_bind (laws_heldBytesResult_ev _ (by omega) (by omega) hl) ?_
 exact ev_ifn (by omega) (ev_if rfl (Ev.now _))
end Go.Proofs.Ythjlbpgiaehjnaa.Pure
