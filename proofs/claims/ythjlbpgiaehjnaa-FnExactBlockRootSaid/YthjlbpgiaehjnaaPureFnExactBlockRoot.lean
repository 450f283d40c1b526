/- for every block that is not too long, BlockRoot answers as the reference does and leaves its argument as it was. -/
import Derived.Test.YthjlbpgiaehjnaaQFnExactBlockRootx1
import Derived.Test.YthjlbpgiaehjnaaQFnExactBlockRootx2
import Derived.Test.YthjlbpgiaehjnaaQFnExactBlockRootx3
import Derived.Test.YthjlbpgiaehjnaaQFnExactBlockRootx4
import Derived.Test.YthjlbpgiaehjnaaQFnExactBlockRootx5
import Derived.Test.YthjlbpgiaehjnaaQFnExactBlockRootx6
import Derived.Test.YthjlbpgiaehjnaaQFnExactBlockRootx7
import Derived.Test.YthjlbpgiaehjnaaQFnExactBlockRootx8
import Derived.Test.YthjlbpgiaehjnaaQFnExactBlockRootx9
import Derived.Test.YthjlbpgiaehjnaaQFnExactBlockRootx10
import Derived.Test.YthjlbpgiaehjnaaQFnExactBlockRootx11
import Derived.Test.YthjlbpgiaehjnaaQFnExactBlockRootx12
import Derived.Test.YthjlbpgiaehjnaaQFnExactBlockRootx13
import Derived.Test.YthjlbpgiaehjnaaQFnExactBlockRootx14
import Derived.Test.YthjlbpgiaehjnaaQFnExactBlockRootx15
import Derived.Test.YthjlbpgiaehjnaaQFnExactBlockRootx16
import Derived.Test.YthjlbpgiaehjnaaQFnExactBlockRootx17
import Derived.Test.YthjlbpgiaehjnaaQFnExactBlockRootx18
import Derived.Test.YthjlbpgiaehjnaaQFnExactBlockRootx19
import Derived.Test.YthjlbpgiaehjnaaQFnExactBlockRootx20
import Derived.Test.YthjlbpgiaehjnaaQFnExactBlockRootx21
import Derived.Test.YthjlbpgiaehjnaaRFnExactBlockRoot
namespace Go.Proofs.Ythjlbpgiaehjnaa.Pure
open Go.RowKit Go.Proofs.Ythjlbpgiaehjnaa.QFnExactBlockRoot Go.Proofs.YthjlbpgiaehjnaaW.PrintWords Go.Proofs.YthjlbpgiaehjnaaW.PrintLast
set_option linter.unusedVariables false
set_option linter.unusedSimpArgs false
theorem wrap_id {x : Int} (h1 : -9223372036854775808 ≤ x) (h2 : x ≤ 9223372036854775807) : wrap64 x = x := by
 unfold wrap64; omega
theorem wf64 {x : Int} (h : (Lit.int .i64 x).wf = true) : -9223372036854775808 ≤ x ∧ x ≤ 9223372036854775807 := by
 simpa [Lit.wf, IntKind.min, IntKind.max, IntKind.signed, IntKind.bits] using h
theorem wf8 {x : Int} (h : (Lit.int .u8 x).wf = true) : 0 ≤ x ∧ x ≤ 255 := by
 simpa [Lit.wf, IntKind.min, IntKind.max, IntKind.signed, IntKind.bits] using h
theorem ev_some {α : Type} {g : Nat → Option α} {r : α} (h : ∀ k, g k = some r) : Ev g r := ⟨0, fun k _ => h k⟩
theorem ev_succ {α : Type} {g : Nat → Option α} {r : α} (h : ∀ k, g (k + 1) = some r) : Ev g r := Ev.step h (Ev.now r)
theorem ev_bind {α β : Type} {g : Nat → Option α} {f : α → Nat → Option β} {a : α} {r : β} (h : Ev g a) (k : Ev (f a) r) : Ev (fun n => (g n).bind fun t => f t n) r :=
 Ev.bind (f := fun n t => f t n) h k
theorem ev_if {α : Type} {p : Prop} [Decidable p] {g f : Nat → Option α} {r : α} (hp : p) (k : Ev g r) : Ev (fun n => if p then g n else f n) r :=
 Ev.congr (fun n => if_pos hp) k
theorem ev_ifn {α : Type} {p : Prop} [Decidable p] {g f : Nat → Option α} {r : α} (hp : ¬ p) (k : Ev f r) : Ev (fun n => if p then g n else f n) r :=
 Ev.congr (fun n => if_neg hp) k
theorem ev_bind0 {α β : Type} {g : Option α} {f : α → Nat → Option β} {a : α} {r : β} (h : g = some a) (k : Ev (f a) r) : Ev (fun n => g.bind fun t => f t n) r := by
 subst h; exact k
theorem rd_mid (pre : List Int) (b : Int) (suf : List Int) : rd (pre ++ b :: suf) (pre.length : Int) = b := by
 unfold rd
 simp
theorem rd_at {l : List Int} {i : Int} (h0 : 0 ≤ i) (h1 : i < l.length) : rd l i = l[i.toNat]'(by omega) := by
 unfold rd
 rw [List.getD_eq_getElem?_getD, List.getElem?_eq_getElem (by omega)]; rfl
theorem split_at_len {α : Type} (l : List α) (n : Nat) (h : n ≤ l.length) : ∃ pre suf, l = pre ++ suf ∧ pre.length = n :=
 ⟨l.take n, l.drop n, (List.take_append_drop n l).symm, by simp; omega⟩
theorem laws_szInt64S_some (l : List Int) (q : Int) (h0 : 0 ≤ q) (h1 : q ≤ 1048576) (hl : l.length ≤ maxLen) : ∃ r, laws_szInt64S.f l q = some r ∧ r ≤ q ∧ (0 ≤ r → (l.length : Int) ≤ q) := by
 unfold laws_szInt64S.f
 unfold maxLen at hl
 rw [wrap_id (by omega) (by omega)]
 by_cases h : q - (l.length : Int) < 0
 · rw [if_pos h]; exact ⟨-1, rfl, by omega, by omega⟩
 · rw [if_neg h]; exact ⟨_, rfl, by omega, by omega⟩
theorem laws_szIn_some (b : S137) (q : Int) (h0 : 0 ≤ q) (h1 : q ≤ 1048576) (hl : b.f2.length ≤ maxLen) : ∃ r, laws_szIn.f b.f0 b.f1 b.f2 q = some r ∧ r ≤ q ∧ (0 ≤ r → (b.f2.length : Int) ≤ q) := by
 unfold laws_szIn.f
 obtain ⟨r, hr, h2, h3⟩ := laws_szInt64S_some b.f2 q h0 h1 hl
 rw [hr]
 simp only [Option.bind_some]
 by_cases h : r < 0
 · rw [if_pos h]; exact ⟨-1, rfl, by omega, by omega⟩
 · rw [if_neg h]; exact ⟨r, rfl, h2, h3⟩
theorem laws_szInS_l0 (suf : List S137) : ∀ (pre : List S137) (q : Int), 0 ≤ q → q ≤ 1048576 → (∀ x ∈ suf, x.f2.length ≤ maxLen) → (pre.length : Int) + suf.length ≤ 1048576 →
 ∃ r, Ev (fun k => laws_szInS.l0 k (pre ++ suf) q pre.length) r ∧ r ≤ q ∧ (0 ≤ r → ∀ x ∈ suf, (x.f2.length : Int) ≤ 1048576) := by
 induction suf with
 | nil => intro pre q h0 h1 _ _; exact ⟨q, ev_succ (fun k => by rw [laws_szInS.l0, if_neg (by simp)]), by omega, by simp⟩
 | cons b suf ih =>
  intro pre q h0 h1 hs hl
  simp only [List.length_cons, Int.natCast_add, Int.natCast_one] at hl
  have hrd : rd_T137 (pre ++ b :: suf) (pre.length : Int) = b := by unfold rd_T137; simp
  obtain ⟨r, hr, hr1, hr2⟩ := laws_szIn_some b q h0 h1 (hs b (by simp))
  by_cases hneg : r < 0
  · refine ⟨-1, ev_succ (fun k => ?_), by omega, by omega⟩
    rw [laws_szInS.l0, if_pos (by simp; omega), if_pos (by omega), hrd, hr]
    simp only [Option.bind_some]
    rw [if_pos hneg]
  · obtain ⟨r', h', h1', h2'⟩ := ih (pre ++ [b]) r (by omega) (by omega) (fun x hx => hs x (by simp [hx])) (by simp; omega)
    refine ⟨r', Ev.step (fun k => ?_) h', by omega, fun h x hx => ?_⟩
    · rw [laws_szInS.l0, if_pos (by simp; omega), if_pos (by omega), hrd, hr]
      simp only [Option.bind_some]
      rw [if_neg hneg, wrap_id (by omega) (by omega)]
      simp
    · rcases List.mem_cons.1 hx with rfl | hx
      · have := hr2 (by omega); omega
      · exact h2' h x hx
theorem laws_szInS_ev {l : List S137} (hl : l.length ≤ maxLen) (hs : ∀ x ∈ l, x.f2.length ≤ maxLen) (q : Int) (h0 : 0 ≤ q) (h1 : q ≤ 1048576) :
 ∃ r, Ev (fun k => laws_szInS.f k l q) r ∧ r ≤ q ∧ (0 ≤ r → l.length ≤ 1048576 ∧ ∀ x ∈ l, (x.f2.length : Int) ≤ 1048576) := by
 unfold maxLen at hl
 unfold laws_szInS.f
 rw [wrap_id (by omega) (by omega)]
 by_cases h : q - (l.length : Int) < 0
 · exact ⟨-1, ev_if h (Ev.now _), by omega, by omega⟩
 · obtain ⟨r, hr, h2, h3⟩ := laws_szInS_l0 l [] (q - (l.length : Int)) (by omega) (by omega) hs (by simp; omega)
   exact ⟨r, ev_ifn h (by simpa using hr), by omega, fun hh => ⟨by omega, h3 hh⟩⟩
theorem laws_szOut_some (b : S139) (q : Int) (h0 : 0 ≤ q) (h1 : q ≤ 1048576) (hl : b.f1.length ≤ maxLen) : ∃ r, laws_szOut.f b.f0 b.f1 q = some r ∧ r ≤ q ∧ (0 ≤ r → (b.f1.length : Int) ≤ q) := by
 unfold laws_szOut.f
 obtain ⟨r, hr, h2, h3⟩ := laws_szInt64S_some b.f1 q h0 h1 hl
 rw [hr]
 simp only [Option.bind_some]
 by_cases h : r < 0
 · rw [if_pos h]; exact ⟨-1, rfl, by omega, by omega⟩
 · rw [if_neg h]; exact ⟨r, rfl, h2, h3⟩
theorem laws_szOutS_l0 (suf : List S139) : ∀ (pre : List S139) (q : Int), 0 ≤ q → q ≤ 1048576 → (∀ x ∈ suf, x.f1.length ≤ maxLen) → (pre.length : Int) + suf.length ≤ 1048576 →
 ∃ r, Ev (fun k => laws_szOutS.l0 k (pre ++ suf) q pre.length) r ∧ r ≤ q ∧ (0 ≤ r → ∀ x ∈ suf, (x.f1.length : Int) ≤ 1048576) := by
 induction suf with
 | nil => intro pre q h0 h1 _ _; exact ⟨q, ev_succ (fun k => by rw [laws_szOutS.l0, if_neg (by simp)]), by omega, by simp⟩
 | cons b suf ih =>
  intro pre q h0 h1 hs hl
  simp only [List.length_cons, Int.natCast_add, Int.natCast_one] at hl
  have hrd : rd_T139 (pre ++ b :: suf) (pre.length : Int) = b := by unfold rd_T139; simp
  obtain ⟨r, hr, hr1, hr2⟩ := laws_szOut_some b q h0 h1 (hs b (by simp))
  by_cases hneg : r < 0
  · refine ⟨-1, ev_succ (fun k => ?_), by omega, by omega⟩
    rw [laws_szOutS.l0, if_pos (by simp; omega), if_pos (by omega), hrd, hr]
    simp only [Option.bind_some]
    rw [if_pos hneg]
  · obtain ⟨r', h', h1', h2'⟩ := ih (pre ++ [b]) r (by omega) (by omega) (fun x hx => hs x (by simp [hx])) (by simp; omega)
    refine ⟨r', Ev.step (fun k => ?_) h', by omega, fun h x hx => ?_⟩
    · rw [laws_szOutS.l0, if_pos (by simp; omega), if_pos (by omega), hrd, hr]
      simp only [Option.bind_some]
      rw [if_neg hneg, wrap_id (by omega) (by omega)]
      simp
    · rcases List.mem_cons.1 hx with rfl | hx
      · have := hr2 (by omega); omega
      · exact h2' h x hx
theorem laws_szOutS_ev {l : List S139} (hl : l.length ≤ maxLen) (hs : ∀ x ∈ l, x.f1.length ≤ maxLen) (q : Int) (h0 : 0 ≤ q) (h1 : q ≤ 1048576) :
 ∃ r, Ev (fun k => laws_szOutS.f k l q) r ∧ r ≤ q ∧ (0 ≤ r → l.length ≤ 1048576 ∧ ∀ x ∈ l, (x.f1.length : Int) ≤ 1048576) := by
 unfold maxLen at hl
 unfold laws_szOutS.f
 rw [wrap_id (by omega) (by omega)]
 by_cases h : q - (l.length : Int) < 0
 · exact ⟨-1, ev_if h (Ev.now _), by omega, by omega⟩
 · obtain ⟨r, hr, h2, h3⟩ := laws_szOutS_l0 l [] (q - (l.length : Int)) (by omega) (by omega) hs (by simp; omega)
   exact ⟨r, ev_ifn h (by simpa using hr), by omega, fun hh => ⟨by omega, h3 hh⟩⟩
theorem laws_toInt64S_l0 (suf : List Int) : ∀ (pre : List Int) (z : List Int), z.length = suf.length → (pre.length : Int) + suf.length ≤ 9223372036854775806 →
 Ev (fun k => laws_toInt64S.l0 k (pre ++ suf) (pre ++ z) pre.length) (pre ++ suf) := by
 induction suf with
 | nil => intro pre z hz _; obtain rfl : z = [] := List.eq_nil_of_length_eq_zero (by simpa using hz); exact ev_succ (fun k => by simp [laws_toInt64S.l0])
 | cons b suf ih =>
  intro pre z hz hl
  obtain ⟨c, z, rfl⟩ : ∃ c z', z = c :: z' := by cases z with | nil => simp at hz | cons c z => exact ⟨c, z, rfl⟩
  simp only [List.length_cons, Int.natCast_add, Int.natCast_one] at hl hz
  have h := ih (pre ++ [b]) z (by omega) (by simp; omega)
  refine Ev.step (fun k => ?_) (by simpa using h)
  rw [laws_toInt64S.l0]
  rw [if_pos (by simp; omega), if_pos (by omega), if_pos (by simp; omega), rd_mid, wrap_id (by omega) (by omega)]
  simp
theorem laws_toInt64S_ev {l : List Int} (hl : l.length ≤ 17592186043904) : Ev (fun k => laws_toInt64S.f k l) l := by
 have h := laws_toInt64S_l0 l [] (List.replicate l.length 0) (by simp) (by simp; omega)
 unfold laws_toInt64S.f
 refine ev_if (by omega) (ev_if (by simp; omega) ?_)
 simpa using h
def cIn (x : S137) : S34 := ⟨x.f0, x.f1, x.f2⟩
theorem laws_toIn_ev (b : S137) (hl : (b.f2.length : Int) ≤ 1048576) : Ev (fun k => laws_toIn.f k b.f0 b.f1 b.f2) (b.f0, b.f1, b.f2) := by
 unfold laws_toIn.f
 exact ev_bind (laws_toInt64S_ev (by omega)) (Ev.now _)
theorem laws_toInS_l0 (suf : List S137) : ∀ (pre : List S137) (z : List S34), z.length = suf.length → (∀ x ∈ suf, (x.f2.length : Int) ≤ 1048576) → (pre.length : Int) + suf.length ≤ 1048576 →
 Ev (fun k => laws_toInS.l0 k (pre ++ suf) (pre.map cIn ++ z) pre.length) ((pre ++ suf).map cIn) := by
 induction suf with
 | nil => intro pre z hz _ _; obtain rfl : z = [] := List.eq_nil_of_length_eq_zero (by simpa using hz); exact ev_succ (fun k => by rw [laws_toInS.l0, if_neg (by simp)]; simp)
 | cons b suf ih =>
  intro pre z hz hs hl
  obtain ⟨c, z, rfl⟩ : ∃ c z', z = c :: z' := by cases z with | nil => simp at hz | cons c z => exact ⟨c, z, rfl⟩
  simp only [List.length_cons, Int.natCast_add, Int.natCast_one] at hl hz
  have hrd : rd_T137 (pre ++ b :: suf) (pre.length : Int) = b := by unfold rd_T137; simp
  have h := ih (pre ++ [b]) z (by omega) (fun x hx => hs x (by simp [hx])) (by simp; omega)
  refine Ev.step (f := fun k => (laws_toIn.f k b.f0 b.f1 b.f2).bind fun bt => laws_toInS.l0 k (pre ++ b :: suf) ((pre.map cIn ++ c :: z).set pre.length (⟨bt.1, bt.2.1, bt.2.2⟩ : S34)) ((pre.length : Int) + 1)) (fun k => ?_) (ev_bind (laws_toIn_ev b (hs b (by simp))) ?_)
  · rw [laws_toInS.l0, if_pos (by simp; omega), if_pos (by omega), hrd]
    refine congrArg _ (funext fun bt => ?_)
    rw [if_pos (by simp; omega), wrap_id (by omega) (by omega)]
    simp
  · have e : (pre.map cIn ++ c :: z).set pre.length (⟨b.f0, b.f1, b.f2⟩ : S34) = (pre ++ [b]).map cIn ++ z := by
     rw [List.set_append_right _ _ (by simp)]; simp [cIn]
    simp only [e]
    simpa using h
theorem laws_toInS_ev {l : List S137} (hl : l.length ≤ 1048576) (hs : ∀ x ∈ l, (x.f2.length : Int) ≤ 1048576) : Ev (fun k => laws_toInS.f k l) (l.map cIn) := by
 have h := laws_toInS_l0 l [] (List.replicate l.length z34) (by simp) hs (by simp; omega)
 unfold laws_toInS.f
 refine ev_if (by omega) (ev_if (by simp; omega) ?_)
 simpa using h
def cOut (x : S139) : S86 := ⟨x.f0, x.f1⟩
theorem laws_toOut_ev (b : S139) (hl : (b.f1.length : Int) ≤ 1048576) : Ev (fun k => laws_toOut.f k b.f0 b.f1) (b.f0, b.f1) := by
 unfold laws_toOut.f
 exact ev_bind (laws_toInt64S_ev (by omega)) (Ev.now _)
theorem laws_toOutS_l0 (suf : List S139) : ∀ (pre : List S139) (z : List S86), z.length = suf.length → (∀ x ∈ suf, (x.f1.length : Int) ≤ 1048576) → (pre.length : Int) + suf.length ≤ 1048576 →
 Ev (fun k => laws_toOutS.l0 k (pre ++ suf) (pre.map cOut ++ z) pre.length) ((pre ++ suf).map cOut) := by
 induction suf with
 | nil => intro pre z hz _ _; obtain rfl : z = [] := List.eq_nil_of_length_eq_zero (by simpa using hz); exact ev_succ (fun k => by rw [laws_toOutS.l0, if_neg (by simp)]; simp)
 | cons b suf ih =>
  intro pre z hz hs hl
  obtain ⟨c, z, rfl⟩ : ∃ c z', z = c :: z' := by cases z with | nil => simp at hz | cons c z => exact ⟨c, z, rfl⟩
  simp only [List.length_cons, Int.natCast_add, Int.natCast_one] at hl hz
  have hrd : rd_T139 (pre ++ b :: suf) (pre.length : Int) = b := by unfold rd_T139; simp
  have h := ih (pre ++ [b]) z (by omega) (fun x hx => hs x (by simp [hx])) (by simp; omega)
  refine Ev.step (f := fun k => (laws_toOut.f k b.f0 b.f1).bind fun bt => laws_toOutS.l0 k (pre ++ b :: suf) ((pre.map cOut ++ c :: z).set pre.length (⟨bt.1, bt.2⟩ : S86)) ((pre.length : Int) + 1)) (fun k => ?_) (ev_bind (laws_toOut_ev b (hs b (by simp))) ?_)
  · rw [laws_toOutS.l0, if_pos (by simp; omega), if_pos (by omega), hrd]
    refine congrArg _ (funext fun bt => ?_)
    rw [if_pos (by simp; omega), wrap_id (by omega) (by omega)]
    simp
  · have e : (pre.map cOut ++ c :: z).set pre.length (⟨b.f0, b.f1⟩ : S86) = (pre ++ [b]).map cOut ++ z := by
     rw [List.set_append_right _ _ (by simp)]; simp [cOut]
    simp only [e]
    simpa using h
theorem laws_toOutS_ev {l : List S139} (hl : l.length ≤ 1048576) (hs : ∀ x ∈ l, (x.f1.length : Int) ≤ 1048576) : Ev (fun k => laws_toOutS.f k l) (l.map cOut) := by
 have h := laws_toOutS_l0 l [] (List.replicate l.length z86) (by simp) hs (by simp; omega)
 unfold laws_toOutS.f
 refine ev_if (by omega) (ev_if (by simp; omega) ?_)
 simpa using h
theorem laws_eqInt64S_l0 (suf : List Int) : ∀ (pre : List Int), (pre.length : Int) + suf.length ≤ 9223372036854775806 →
 Ev (fun k => laws_eqInt64S.l0 k (pre ++ suf) (pre ++ suf) pre.length) true := by
 induction suf with
 | nil => intro pre _; exact ev_succ (fun k => by simp [laws_eqInt64S.l0])
 | cons b suf ih =>
  intro pre hl
  simp only [List.length_cons, Int.natCast_add, Int.natCast_one] at hl
  have h := ih (pre ++ [b]) (by simp; omega)
  refine Ev.step (fun k => ?_) (by simpa using h)
  rw [laws_eqInt64S.l0]
  rw [if_pos (by simp; omega), if_pos (by omega), if_pos (by simp; omega), if_pos rfl, wrap_id (by omega) (by omega)]
theorem laws_eqInt64S_refl {l : List Int} (hl : l.length ≤ 140737488351232) : Ev (fun k => laws_eqInt64S.f k l l) true := by
 unfold laws_eqInt64S.f
 exact ev_if rfl (laws_eqInt64S_l0 l [] (by simp; omega))
theorem laws_eqIn_refl (b : S34) (hl : (b.f2.length : Int) ≤ 1048576) : Ev (fun k => laws_eqIn.f k b.f0 b.f1 b.f2 b.f0 b.f1 b.f2) true := by
 unfold laws_eqIn.f
 exact ev_if rfl (ev_if rfl (ev_bind (laws_eqInt64S_refl (by omega)) (ev_if rfl (Ev.now _))))
theorem laws_eqInS_l0 (suf : List S34) : ∀ (pre : List S34), (∀ x ∈ suf, (x.f2.length : Int) ≤ 1048576) → (pre.length : Int) + suf.length ≤ 1048576 →
 Ev (fun k => laws_eqInS.l0 k (pre ++ suf) (pre ++ suf) pre.length) true := by
 induction suf with
 | nil => intro pre _ _; exact ev_succ (fun k => by rw [laws_eqInS.l0, if_neg (by simp)])
 | cons b suf ih =>
  intro pre hs hl
  simp only [List.length_cons, Int.natCast_add, Int.natCast_one] at hl
  have hrd : rd_T34 (pre ++ b :: suf) (pre.length : Int) = b := by unfold rd_T34; simp
  have h := ih (pre ++ [b]) (fun x hx => hs x (by simp [hx])) (by simp; omega)
  refine Ev.step (f := fun k => (laws_eqIn.f k b.f0 b.f1 b.f2 b.f0 b.f1 b.f2).bind fun t => if t = true then laws_eqInS.l0 k (pre ++ b :: suf) (pre ++ b :: suf) ((pre.length : Int) + 1) else some false) (fun k => ?_) (ev_bind (laws_eqIn_refl b (hs b (by simp))) (ev_if rfl ?_))
  · rw [laws_eqInS.l0, if_pos (by simp; omega), if_pos (by omega), if_pos (by simp; omega), hrd, wrap_id (by omega) (by omega)]
  · simpa using h
theorem laws_eqInS_refl {l : List S34} (hl : l.length ≤ 1048576) (hs : ∀ x ∈ l, (x.f2.length : Int) ≤ 1048576) : Ev (fun k => laws_eqInS.f k l l) true := by
 unfold laws_eqInS.f
 exact ev_if rfl (laws_eqInS_l0 l [] hs (by simp; omega))
theorem laws_eqOut_refl (b : S86) (hl : (b.f1.length : Int) ≤ 1048576) : Ev (fun k => laws_eqOut.f k b.f0 b.f1 b.f0 b.f1) true := by
 unfold laws_eqOut.f
 exact ev_if rfl (ev_bind (laws_eqInt64S_refl (by omega)) (ev_if rfl (Ev.now _)))
theorem laws_eqOutS_l0 (suf : List S86) : ∀ (pre : List S86), (∀ x ∈ suf, (x.f1.length : Int) ≤ 1048576) → (pre.length : Int) + suf.length ≤ 1048576 →
 Ev (fun k => laws_eqOutS.l0 k (pre ++ suf) (pre ++ suf) pre.length) true := by
 induction suf with
 | nil => intro pre _ _; exact ev_succ (fun k => by rw [laws_eqOutS.l0, if_neg (by simp)])
 | cons b suf ih =>
  intro pre hs hl
  simp only [List.length_cons, Int.natCast_add, Int.natCast_one] at hl
  have hrd : rd_T86 (pre ++ b :: suf) (pre.length : Int) = b := by unfold rd_T86; simp
  have h := ih (pre ++ [b]) (fun x hx => hs x (by simp [hx])) (by simp; omega)
  refine Ev.step (f := fun k => (laws_eqOut.f k b.f0 b.f1 b.f0 b.f1).bind fun t => if t = true then laws_eqOutS.l0 k (pre ++ b :: suf) (pre ++ b :: suf) ((pre.length : Int) + 1) else some false) (fun k => ?_) (ev_bind (laws_eqOut_refl b (hs b (by simp))) (ev_if rfl ?_))
  · rw [laws_eqOutS.l0, if_pos (by simp; omega), if_pos (by omega), if_pos (by simp; omega), hrd, wrap_id (by omega) (by omega)]
  · simpa using h
theorem laws_eqOutS_refl {l : List S86} (hl : l.length ≤ 1048576) (hs : ∀ x ∈ l, (x.f1.length : Int) ≤ 1048576) : Ev (fun k => laws_eqOutS.f k l l) true := by
 unfold laws_eqOutS.f
 exact ev_if rfl (laws_eqOutS_l0 l [] hs (by simp; omega))
theorem laws_szTx_ev {a : Int} {l1 : List S137} {l2 : List S139} (h1 : l1.length ≤ maxLen) (s1 : ∀ x ∈ l1, x.f2.length ≤ maxLen) (h2 : l2.length ≤ maxLen) (s2 : ∀ x ∈ l2, x.f1.length ≤ maxLen) (q : Int) (q0 : 0 ≤ q) (q1 : q ≤ 1048576) :
 ∃ r, Ev (fun k => laws_szTx.f k a l1 l2 q) r ∧ r ≤ q ∧ (0 ≤ r → (l1.length ≤ 1048576 ∧ ∀ x ∈ l1, (x.f2.length : Int) ≤ 1048576) ∧ (l2.length ≤ 1048576 ∧ ∀ x ∈ l2, (x.f1.length : Int) ≤ 1048576)) := by
 unfold laws_szTx.f
 obtain ⟨r, hr, hr1, hr2⟩ := laws_szInS_ev h1 s1 q q0 q1
 by_cases h : r < 0
 · exact ⟨-1, ev_bind hr (ev_if h (Ev.now _)), by omega, by omega⟩
 · obtain ⟨r', hr', hr1', hr2'⟩ := laws_szOutS_ev h2 s2 r (by omega) (by omega)
   by_cases h' : r' < 0
   · exact ⟨-1, ev_bind hr (ev_ifn h (ev_bind hr' (ev_if h' (Ev.now _)))), by omega, by omega⟩
   · exact ⟨r', ev_bind hr (ev_ifn h (ev_bind hr' (ev_ifn h' (Ev.now _)))), by omega, fun _ => ⟨hr2 (by omega), hr2' (by omega)⟩⟩
theorem laws_toTx_ev {a : Int} {l1 : List S137} {l2 : List S139} (h1 : l1.length ≤ 1048576 ∧ ∀ x ∈ l1, (x.f2.length : Int) ≤ 1048576) (h2 : l2.length ≤ 1048576 ∧ ∀ x ∈ l2, (x.f1.length : Int) ≤ 1048576) :
 Ev (fun k => laws_toTx.f k a l1 l2) (a, l1.map cIn, l2.map cOut) := by
 unfold laws_toTx.f
 exact ev_bind (laws_toInS_ev h1.1 h1.2) (ev_bind (laws_toOutS_ev h2.1 h2.2) (Ev.now _))
theorem laws_eqTx_refl {a : Int} {l1 : List S34} {l2 : List S86} (h1 : l1.length ≤ 1048576 ∧ ∀ x ∈ l1, (x.f2.length : Int) ≤ 1048576) (h2 : l2.length ≤ 1048576 ∧ ∀ x ∈ l2, (x.f1.length : Int) ≤ 1048576) :
 Ev (fun k => laws_eqTx.f k a l1 l2 a l1 l2) true := by
 unfold laws_eqTx.f
 exact ev_if rfl (ev_bind (laws_eqInS_refl h1.1 h1.2) (ev_if rfl (ev_bind (laws_eqOutS_refl h2.1 h2.2) (ev_if rfl (Ev.now _)))))
theorem cIn_ok {l : List S137} (h : l.length ≤ 1048576 ∧ ∀ x ∈ l, (x.f2.length : Int) ≤ 1048576) : (l.map cIn).length ≤ 1048576 ∧ ∀ x ∈ l.map cIn, (x.f2.length : Int) ≤ 1048576 := by
 refine ⟨by simpa using h.1, fun x hx => ?_⟩
 obtain ⟨y, hy, rfl⟩ := List.mem_map.1 hx
 exact h.2 y hy
theorem cOut_ok {l : List S139} (h : l.length ≤ 1048576 ∧ ∀ x ∈ l, (x.f1.length : Int) ≤ 1048576) : (l.map cOut).length ≤ 1048576 ∧ ∀ x ∈ l.map cOut, (x.f1.length : Int) ≤ 1048576 := by
 refine ⟨by simpa using h.1, fun x hx => ?_⟩
 obtain ⟨y, hy, rfl⟩ := List.mem_map.1 hx
 exact h.2 y hy
def cTx (t : S43) : S27 := ⟨t.f0, t.f1.map cIn, t.f2.map cOut⟩
def TBl (t : S43) : Prop := (t.f1.length ≤ 1048576 ∧ ∀ x ∈ t.f1, (x.f2.length : Int) ≤ 1048576) ∧ (t.f2.length ≤ 1048576 ∧ ∀ x ∈ t.f2, (x.f1.length : Int) ≤ 1048576)
def TB (t : S27) : Prop := (t.f1.length ≤ 1048576 ∧ ∀ x ∈ t.f1, (x.f2.length : Int) ≤ 1048576) ∧ (t.f2.length ≤ 1048576 ∧ ∀ x ∈ t.f2, (x.f1.length : Int) ≤ 1048576)
theorem cTx_TB {t : S43} (h : TBl t) : TB (cTx t) := ⟨cIn_ok h.1, cOut_ok h.2⟩
theorem laws_szTxS_l0 (suf : List S43) : ∀ (pre : List S43) (q : Int), 0 ≤ q → q ≤ 1048576 → (∀ x ∈ suf, ok43 x) → (pre.length : Int) + suf.length ≤ 1048576 →
 ∃ r, Ev (fun k => laws_szTxS.l0 k (pre ++ suf) q pre.length) r ∧ r ≤ q ∧ (0 ≤ r → ∀ x ∈ suf, TBl x) := by
 induction suf with
 | nil => intro pre q h0 h1 _ _; exact ⟨q, ev_succ (fun k => by rw [laws_szTxS.l0, if_neg (by simp)]), by omega, by simp⟩
 | cons b suf ih =>
  intro pre q h0 h1 hs hl
  simp only [List.length_cons, Int.natCast_add, Int.natCast_one] at hl
  have hrd : rd_T43 (pre ++ b :: suf) (pre.length : Int) = b := by unfold rd_T43; simp
  have o := hs b (by simp)
  obtain ⟨r, hr, hr1, hr2⟩ := laws_szTx_ev (a := b.f0) o.2.1.1 (fun y hy => (o.2.1.2 y hy).2.2.1) o.2.2.1 (fun y hy => (o.2.2.2 y hy).2.1) q h0 h1
  have hstep : ∀ k, laws_szTxS.l0 (k + 1) (pre ++ b :: suf) q pre.length = (laws_szTx.f k b.f0 b.f1 b.f2 q).bind fun t => if t < 0 then some (-1) else laws_szTxS.l0 k (pre ++ b :: suf) t ((pre.length : Int) + 1) := by
   intro k
   rw [laws_szTxS.l0, if_pos (by simp; omega), if_pos (by omega), hrd, wrap_id (by omega) (by omega)]
  by_cases hneg : r < 0
  · exact ⟨-1, Ev.step hstep (ev_bind hr (ev_if hneg (Ev.now _))), by omega, by omega⟩
  · obtain ⟨r', h', h1', h2'⟩ := ih (pre ++ [b]) r (by omega) (by omega) (fun x hx => hs x (by simp [hx])) (by simp; omega)
    rw [show ((pre ++ [b]).length : Int) = (pre.length : Int) + 1 from by simp, show pre ++ [b] ++ suf = pre ++ b :: suf from by simp] at h'
    refine ⟨r', Ev.step hstep (ev_bind hr (ev_ifn hneg h')), by omega, fun h x hx => ?_⟩
    rcases List.mem_cons.1 hx with rfl | hx
    · exact hr2 (by omega)
    · exact h2' h x hx
theorem laws_szBlock_ev {a b c d : Int} {l : List S43} (hl : l.length ≤ maxLen) (hs : ∀ x ∈ l, ok43 x) (q : Int) (h0 : 0 ≤ q) (h1 : q ≤ 1048576) :
 ∃ r, Ev (fun k => laws_szBlock.f k a b c d l q) r ∧ r ≤ q ∧ (0 ≤ r → l.length ≤ 1048576 ∧ ∀ x ∈ l, TBl x) := by
 unfold maxLen at hl
 unfold laws_szBlock.f laws_szTxS.f
 rw [wrap_id (by omega) (by omega)]
 by_cases h : q - (l.length : Int) < 0
 · exact ⟨-1, ev_bind (a := -1) (ev_if h (Ev.now _)) (ev_if (by omega) (Ev.now _)), by omega, by omega⟩
 · obtain ⟨r, hr, h2, h3⟩ := laws_szTxS_l0 l [] (q - (l.length : Int)) (by omega) (by omega) hs (by simp; omega)
   by_cases hn : r < 0
   · exact ⟨-1, ev_bind (ev_ifn h (by simpa using hr)) (ev_if hn (Ev.now _)), by omega, by omega⟩
   · exact ⟨r, ev_bind (ev_ifn h (by simpa using hr)) (ev_ifn hn (Ev.now _)), by omega, fun hh => ⟨by omega, h3 hh⟩⟩
theorem laws_toTxS_l0 (suf : List S43) : ∀ (pre : List S43) (z : List S27), z.length = suf.length → (∀ x ∈ suf, TBl x) → (pre.length : Int) + suf.length ≤ 1048576 →
 Ev (fun k => laws_toTxS.l0 k (pre ++ suf) (pre.map cTx ++ z) pre.length) ((pre ++ suf).map cTx) := by
 induction suf with
 | nil => intro pre z hz _ _; obtain rfl : z = [] := List.eq_nil_of_length_eq_zero (by simpa using hz); exact ev_succ (fun k => by rw [laws_toTxS.l0, if_neg (by simp)]; simp)
 | cons b suf ih =>
  intro pre z hz hs hl
  obtain ⟨c, z, rfl⟩ : ∃ c z', z = c :: z' := by cases z with | nil => simp at hz | cons c z => exact ⟨c, z, rfl⟩
  simp only [List.length_cons, Int.natCast_add, Int.natCast_one] at hl hz
  have hrd : rd_T43 (pre ++ b :: suf) (pre.length : Int) = b := by unfold rd_T43; simp
  have h := ih (pre ++ [b]) z (by omega) (fun x hx => hs x (by simp [hx])) (by simp; omega)
  have hb := hs b (by simp)
  refine Ev.step (f := fun k => (laws_toTx.f k b.f0 b.f1 b.f2).bind fun bt => laws_toTxS.l0 k (pre ++ b :: suf) ((pre.map cTx ++ c :: z).set pre.length (⟨bt.1, bt.2.1, bt.2.2⟩ : S27)) ((pre.length : Int) + 1)) (fun k => ?_) (ev_bind (laws_toTx_ev hb.1 hb.2) ?_)
  · rw [laws_toTxS.l0, if_pos (by simp; omega), if_pos (by omega), hrd]
    refine congrArg _ (funext fun bt => ?_)
    rw [if_pos (by simp; omega), wrap_id (by omega) (by omega)]
    simp
  · have e : (pre.map cTx ++ c :: z).set pre.length (cTx b) = (pre ++ [b]).map cTx ++ z := by
     rw [List.set_append_right _ _ (by simp)]; simp
    have e2 : (⟨b.f0, b.f1.map cIn, b.f2.map cOut⟩ : S27) = cTx b := rfl
    simp only [e2, e]
    simpa using h
theorem laws_toBlock_ev {a b c d : Int} {l : List S43} (hl : l.length ≤ 1048576) (hs : ∀ x ∈ l, TBl x) : Ev (fun k => laws_toBlock.f k a b c d l) (a, b, c, d, l.map cTx) := by
 have h := laws_toTxS_l0 l [] (List.replicate l.length z27) (by simp) hs (by simp; omega)
 unfold laws_toBlock.f laws_toTxS.f
 exact ev_bind (ev_if (by omega) (ev_if (by simp; omega) (by simpa using h))) (Ev.now _)
theorem laws_eqTxS_l0 (suf : List S27) : ∀ (pre : List S27), (∀ x ∈ suf, TB x) → (pre.length : Int) + suf.length ≤ 1048576 →
 Ev (fun k => laws_eqTxS.l0 k (pre ++ suf) (pre ++ suf) pre.length) true := by
 induction suf with
 | nil => intro pre _ _; exact ev_succ (fun k => by rw [laws_eqTxS.l0, if_neg (by simp)])
 | cons b suf ih =>
  intro pre hs hl
  simp only [List.length_cons, Int.natCast_add, Int.natCast_one] at hl
  have hrd : rd_T27 (pre ++ b :: suf) (pre.length : Int) = b := by unfold rd_T27; simp
  have h := ih (pre ++ [b]) (fun x hx => hs x (by simp [hx])) (by simp; omega)
  have hb := hs b (by simp)
  refine Ev.step (f := fun k => (laws_eqTx.f k b.f0 b.f1 b.f2 b.f0 b.f1 b.f2).bind fun t => if t = true then laws_eqTxS.l0 k (pre ++ b :: suf) (pre ++ b :: suf) ((pre.length : Int) + 1) else some false) (fun k => ?_) (ev_bind (laws_eqTx_refl hb.1 hb.2) (ev_if rfl ?_))
  · rw [laws_eqTxS.l0, if_pos (by simp; omega), if_pos (by omega), if_pos (by simp; omega), hrd, wrap_id (by omega) (by omega)]
  · simpa using h
theorem laws_eqBlock_refl {a b c d : Int} {l : List S27} (hl : l.length ≤ 1048576) (hs : ∀ x ∈ l, TB x) : Ev (fun k => laws_eqBlock.f k a b c d l a b c d l) true := by
 unfold laws_eqBlock.f laws_eqTxS.f
 exact ev_if rfl (ev_if rfl (ev_if rfl (ev_if rfl (ev_bind (ev_if rfl (by simpa using laws_eqTxS_l0 l [] hs (by simp; omega))) (ev_if rfl (Ev.now _))))))
theorem mapTx_ok {l : List S43} (hl : l.length ≤ 1048576) (hs : ∀ x ∈ l, TBl x) : (l.map cTx).length ≤ 1048576 ∧ ∀ x ∈ l.map cTx, TB x := by
 refine ⟨by simpa using hl, fun x hx => ?_⟩
 obtain ⟨y, hy, rfl⟩ := List.mem_map.1 hx
 exact cTx_TB (hs y hy)
def AllIn (l : List Int) (lo hi : Int) : Prop := ∀ x ∈ l, lo ≤ x ∧ x ≤ hi
instance (l : List Int) (lo hi : Int) : Decidable (AllIn l lo hi) := by unfold AllIn; infer_instance
theorem AllIn_cons {b : Int} {l : List Int} {lo hi : Int} : AllIn (b :: l) lo hi ↔ (lo ≤ b ∧ b ≤ hi) ∧ AllIn l lo hi := by simp [AllIn]
theorem spec_l1In_eq (a b c : Int) : spec_l1In.f a b c = some (decide (b ≤ a ∧ a ≤ c)) := by
 unfold spec_l1In.f
 by_cases h : a ≥ b
 · rw [if_pos h]; congr 1; rw [Bool.eq_iff_iff]; simp; omega
 · rw [if_neg h]; congr 1; symm; simp; omega
theorem impl_in_eq (a b c : Int) : impl_in.f a b c = some (decide (b ≤ a ∧ a ≤ c)) := by
 unfold impl_in.f
 by_cases h : a ≥ b
 · rw [if_pos h]; congr 1; rw [Bool.eq_iff_iff]; simp; omega
 · rw [if_neg h]; congr 1; symm; simp; omega
theorem spec_l1All_l0 (lo hi : Int) (suf : List Int) : ∀ (pre : List Int), (pre.length : Int) + suf.length ≤ 9223372036854775806 →
 Ev (fun k => spec_l1All.l0 k (pre ++ suf) lo hi pre.length) (decide (AllIn suf lo hi)) := by
 induction suf with
 | nil => intro pre _; exact ev_succ (fun k => by rw [spec_l1All.l0, if_neg (by simp)]; simp [AllIn])
 | cons b suf ih =>
  intro pre hl
  simp only [List.length_cons, Int.natCast_add, Int.natCast_one] at hl
  have h := ih (pre ++ [b]) (by simp; omega)
  by_cases hb : lo ≤ b ∧ b ≤ hi
  · have e : decide (AllIn (b :: suf) lo hi) = decide (AllIn suf lo hi) := by simp [AllIn_cons, hb]
    rw [e]
    refine Ev.step (fun k => ?_) h
    rw [spec_l1All.l0, if_pos (by simp; omega), if_pos (by omega), rd_mid, spec_l1In_eq, wrap_id (by omega) (by omega)]
    simp [hb]
  · have e : decide (AllIn (b :: suf) lo hi) = false := by simp [AllIn_cons, hb]
    rw [e]
    refine ev_succ (fun k => ?_)
    rw [spec_l1All.l0, if_pos (by simp; omega), if_pos (by omega), rd_mid, spec_l1In_eq]
    simp [hb]
theorem spec_l1All_ev {l : List Int} (lo hi : Int) (hl : (l.length : Int) ≤ 9223372036854775806) : Ev (fun k => spec_l1All.f k l lo hi) (decide (AllIn l lo hi)) := by
 unfold spec_l1All.f
 exact spec_l1All_l0 lo hi l [] (by simpa using hl)
theorem spec_l1Amount_eq (a : Int) : spec_l1Amount.f a = some (decide (0 ≤ a ∧ a ≤ 1000000)) := by
 unfold spec_l1Amount.f; rw [spec_l1In_eq]; rfl
theorem impl_isAmount_eq (a : Int) : impl_isAmount.f a = some (decide (0 ≤ a ∧ a ≤ 1000000)) := by
 unfold impl_isAmount.f; rw [impl_in_eq]; rfl
theorem slices_IndexFunc_at_impl_ProgramFault_1_l0 (p : Int → Bool) (hp : ∀ x, impl_ProgramFault_1.f x = some (p x)) (suf : List Int) : ∀ (pre : List Int), (pre.length : Int) + suf.length ≤ 9223372036854775806 →
 ∃ r : Int, Ev (fun k => slices_IndexFunc_at_impl_ProgramFault_1.l0 k (pre ++ suf) ((pre ++ suf).length : Int) pre.length) r ∧ decide (r ≥ 0) = suf.any p := by
 induction suf with
 | nil => intro pre _; exact ⟨-1, ev_succ (fun k => by rw [slices_IndexFunc_at_impl_ProgramFault_1.l0, if_neg (by simp)]), by simp⟩
 | cons b suf ih =>
  intro pre hl
  simp only [List.length_cons, Int.natCast_add, Int.natCast_one] at hl
  cases hb : p b with
  | true =>
   refine ⟨pre.length, ev_succ (fun k => ?_), by simp [hb]⟩
   rw [slices_IndexFunc_at_impl_ProgramFault_1.l0, if_pos (by simp; omega), if_pos (by omega), if_pos (by simp; omega), rd_mid, hp, hb]
   rfl
  | false =>
   obtain ⟨r, h, hr⟩ := ih (pre ++ [b]) (by simp; omega)
   refine ⟨r, Ev.step (fun k => ?_) h, by simp [hb, hr]⟩
   rw [slices_IndexFunc_at_impl_ProgramFault_1.l0, if_pos (by simp; omega), if_pos (by omega), if_pos (by simp; omega), rd_mid, hp, hb, wrap_id (by omega) (by omega)]
   simp
theorem slices_ContainsFunc_at_impl_ProgramFault_1_ev (p : Int → Bool) (hp : ∀ x, impl_ProgramFault_1.f x = some (p x)) {l : List Int} (hl : (l.length : Int) ≤ 9223372036854775806) :
 Ev (fun k => slices_ContainsFunc_at_impl_ProgramFault_1.f k l) (l.any p) := by
 obtain ⟨r, h, hr⟩ := slices_IndexFunc_at_impl_ProgramFault_1_l0 p hp l [] (by simpa using hl)
 rw [← hr]
 unfold slices_ContainsFunc_at_impl_ProgramFault_1.f slices_IndexFunc_at_impl_ProgramFault_1.f
 exact ev_bind (by simpa using h) (Ev.now _)
def opBad (x : Int) : Bool := !(decide (1 ≤ x ∧ x ≤ 9) || decide (100 ≤ x ∧ x ≤ 1099))
def faultP (l : List Int) : Int := if l.length > 12 then 2 else if l.any opBad then 1 else 0
theorem spec_l2Op_eq (x : Int) : spec_l2Op.f x = some (!opBad x) := by
 unfold spec_l2Op.f opBad
 simp only [spec_l1In_eq, Option.bind_some]
 by_cases h : 1 ≤ x ∧ x ≤ 9 <;> simp [h]
theorem impl_ProgramFault_1_eq (x : Int) : impl_ProgramFault_1.f x = some (opBad x) := by
 unfold impl_ProgramFault_1.f opBad
 simp only [impl_in_eq, Option.bind_some]
 by_cases h : 1 ≤ x ∧ x ≤ 9 <;> simp [h]
theorem spec_l2Fault_l0 (suf : List Int) : ∀ (pre : List Int), (pre.length : Int) + suf.length ≤ 9223372036854775806 →
 Ev (fun k => spec_l2Fault.l0 k (pre ++ suf) pre.length) (if suf.any opBad then 1 else 0) := by
 induction suf with
 | nil => intro pre _; exact ev_succ (fun k => by rw [spec_l2Fault.l0, if_neg (by simp)]; simp)
 | cons b suf ih =>
  intro pre hl
  simp only [List.length_cons, Int.natCast_add, Int.natCast_one] at hl
  cases hb : opBad b with
  | true =>
   refine ev_succ (fun k => ?_)
   rw [spec_l2Fault.l0, if_pos (by simp; omega), if_pos (by omega), rd_mid, spec_l2Op_eq, hb]
   simp [hb]
  | false =>
   have h := ih (pre ++ [b]) (by simp; omega)
   have e : (b :: suf).any opBad = suf.any opBad := by simp [hb]
   rw [e]
   refine Ev.step (fun k => ?_) h
   rw [spec_l2Fault.l0, if_pos (by simp; omega), if_pos (by omega), rd_mid, spec_l2Op_eq, hb, wrap_id (by omega) (by omega)]
   simp
theorem spec_l2Fault_ev {l : List Int} (hl : (l.length : Int) ≤ 9223372036854775806) : Ev (fun k => spec_l2Fault.f k l) (faultP l) := by
 unfold spec_l2Fault.f faultP
 by_cases h : l.length > 12
 · rw [if_pos h]; exact ev_if (by omega) (Ev.now _)
 · rw [if_neg h]; exact ev_ifn (by omega) (spec_l2Fault_l0 l [] (by simpa using hl))
theorem impl_ProgramFault_ev {l : List Int} (hl : (l.length : Int) ≤ 9223372036854775806) : Ev (fun k => impl_ProgramFault.f k l) (faultP l) := by
 unfold impl_ProgramFault.f faultP
 by_cases h : l.length > 12
 · rw [if_pos h]; exact ev_if (by omega) (Ev.now _)
 · rw [if_neg h]
   refine ev_ifn (by omega) (ev_bind (slices_ContainsFunc_at_impl_ProgramFault_1_ev opBad impl_ProgramFault_1_eq hl) ?_)
   cases l.any opBad with
   | true => exact ev_if rfl (Ev.now _)
   | false => exact ev_ifn (by decide) (Ev.now _)
theorem slices_IndexFunc_at_impl_badCell_l0 (p : Int → Bool) (hp : ∀ x, impl_badCell.f x = some (p x)) (suf : List Int) : ∀ (pre : List Int), (pre.length : Int) + suf.length ≤ 9223372036854775806 →
 ∃ r : Int, Ev (fun k => slices_IndexFunc_at_impl_badCell.l0 k (pre ++ suf) ((pre ++ suf).length : Int) pre.length) r ∧ decide (r ≥ 0) = suf.any p := by
 induction suf with
 | nil => intro pre _; exact ⟨-1, ev_succ (fun k => by rw [slices_IndexFunc_at_impl_badCell.l0, if_neg (by simp)]), by simp⟩
 | cons b suf ih =>
  intro pre hl
  simp only [List.length_cons, Int.natCast_add, Int.natCast_one] at hl
  cases hb : p b with
  | true =>
   refine ⟨pre.length, ev_succ (fun k => ?_), by simp [hb]⟩
   rw [slices_IndexFunc_at_impl_badCell.l0, if_pos (by simp; omega), if_pos (by omega), if_pos (by simp; omega), rd_mid, hp, hb]
   rfl
  | false =>
   obtain ⟨r, h, hr⟩ := ih (pre ++ [b]) (by simp; omega)
   refine ⟨r, Ev.step (fun k => ?_) h, by simp [hb, hr]⟩
   rw [slices_IndexFunc_at_impl_badCell.l0, if_pos (by simp; omega), if_pos (by omega), if_pos (by simp; omega), rd_mid, hp, hb, wrap_id (by omega) (by omega)]
   simp
theorem slices_ContainsFunc_at_impl_badCell_ev (p : Int → Bool) (hp : ∀ x, impl_badCell.f x = some (p x)) {l : List Int} (hl : (l.length : Int) ≤ 9223372036854775806) :
 Ev (fun k => slices_ContainsFunc_at_impl_badCell.f k l) (l.any p) := by
 obtain ⟨r, h, hr⟩ := slices_IndexFunc_at_impl_badCell_l0 p hp l [] (by simpa using hl)
 rw [← hr]
 unfold slices_ContainsFunc_at_impl_badCell.f slices_IndexFunc_at_impl_badCell.f
 exact ev_bind (by simpa using h) (Ev.now _)
theorem impl_isSum_eq (a : Int) : impl_isSum.f a = some (decide (0 ≤ a ∧ a ≤ 2147483646)) := by
 unfold impl_isSum.f; rw [impl_in_eq]; rfl
def inBad (x : S34) : Bool := !(decide (0 ≤ x.f0 ∧ x.f0 ≤ 2147483646) && decide (0 ≤ x.f1 ∧ x.f1 ≤ 3))
def sameIn (x y : S34) : Bool := decide (x.f0 = y.f0) && (x.f1 == y.f1)
def inF (ahead : List S34) (x : S34) : Int := if inBad x = true then 3 else if (x.f2.length : Int) > 8 then 2 else if decide (AllIn x.f2 0 9999) = true then (if ahead.any (sameIn x) = true then 6 else 0) else 3
def insF : List S34 → List S34 → Int → Int
 | _, [], e => e
 | p, x :: xs, e => if inF p x = 0 then insF (p ++ [x]) xs e else inF p x
def outSumF : Int → List S86 → Int
 | a, [] => a
 | a, x :: xs => outSumF (wrap64 (a + x.f0)) xs
def endV (a : Int) : Int := if 0 ≤ a ∧ a ≤ 1000000 then 0 else 7
def outsF : List S86 → Int → Int
 | [], e => e
 | y :: ys, e => if 0 ≤ y.f0 ∧ y.f0 ≤ 1000000 then (if faultP y.f1 = 0 then outsF ys e else faultP y.f1) else 3
def txF (t : S27) : Int := if 0 ≤ t.f0 ∧ t.f0 ≤ 65535 then (if (t.f1.length : Int) > 4 ∨ (t.f2.length : Int) < 1 ∨ (t.f2.length : Int) > 4 then 2 else insF [] t.f1 (outsF t.f2 (endV (outSumF 0 t.f2)))) else 3
theorem rdI (pre : List S34) (b : S34) (suf : List S34) : rd_T34 (pre ++ b :: suf) (pre.length : Int) = b := by unfold rd_T34; simp
theorem rdO (pre : List S86) (b : S86) (suf : List S86) : rd_T86 (pre ++ b :: suf) (pre.length : Int) = b := by unfold rd_T86; simp
theorem spec_l3In_l0 (x : S34) (suf : List S34) (p2 : List S34) : ∀ (p1 : List S34), (p1.length : Int) + p2.length + suf.length ≤ 1048576 →
 Ev (fun k => spec_l3In.l0 k (p1 ++ (p2 ++ x :: suf)) ((p1.length : Int) + p2.length) p1.length) (if p2.any (sameIn x) = true then 6 else 0) := by
 induction p2 with
 | nil => intro p1 _; exact ev_succ (fun k => by rw [spec_l3In.l0, if_neg (by simp)]; simp)
 | cons b p2 ih =>
  intro p1 hl
  simp only [List.length_cons, Int.natCast_add, Int.natCast_one] at hl ⊢
  have h := ih (p1 ++ [b]) (by simp; omega)
  have e1 : rd_T34 (p1 ++ (b :: p2 ++ x :: suf)) (p1.length : Int) = b := rdI p1 b _
  have e2 : rd_T34 (p1 ++ (b :: p2 ++ x :: suf)) ((p1.length : Int) + (p2.length + 1)) = x := by
   have := rdI (p1 ++ b :: p2) x suf
   simpa using this
  have hstep : ∀ k, spec_l3In.l0 (k + 1) (p1 ++ (b :: p2 ++ x :: suf)) ((p1.length : Int) + (p2.length + 1)) p1.length = (if b.f0 = x.f0 then (if b.f1 = x.f1 then some 6 else spec_l3In.l0 k (p1 ++ (b :: p2 ++ x :: suf)) ((p1.length : Int) + (p2.length + 1)) ((p1.length : Int) + 1)) else spec_l3In.l0 k (p1 ++ (b :: p2 ++ x :: suf)) ((p1.length : Int) + (p2.length + 1)) ((p1.length : Int) + 1)) := by
   intro k
   rw [spec_l3In.l0, if_pos (by omega), if_pos (by omega), if_pos (by simp; omega), if_pos (by omega), if_pos (by simp; omega), e1, e2, wrap_id (by omega) (by omega)]
  have h' : Ev (fun k => spec_l3In.l0 k (p1 ++ (b :: p2 ++ x :: suf)) ((p1.length : Int) + (p2.length + 1)) ((p1.length : Int) + 1)) (if p2.any (sameIn x) = true then 6 else 0) := by
   have q : ((p1 ++ [b]).length : Int) = (p1.length : Int) + 1 := by simp
   rw [q] at h
   have q2 : (p1.length : Int) + 1 + (p2.length : Int) = (p1.length : Int) + ((p2.length : Int) + 1) := by omega
   rw [q2] at h
   simpa using h
  by_cases h0 : b.f0 = x.f0
  · by_cases h1 : b.f1 = x.f1
    · refine ev_succ (fun k => ?_)
      rw [hstep, if_pos h0, if_pos h1]
      simp [sameIn, h0, h1]
    · refine Ev.step (fun k => by rw [hstep, if_pos h0, if_neg h1]) ?_
      have e : (b :: p2).any (sameIn x) = p2.any (sameIn x) := by simp [sameIn, h0, Ne.symm h1]
      rw [e]; exact h'
  · refine Ev.step (fun k => by rw [hstep, if_neg h0]) ?_
    have e : (b :: p2).any (sameIn x) = p2.any (sameIn x) := by simp [sameIn, Ne.symm h0]
    rw [e]; exact h'
theorem spec_l3In_ev (pre : List S34) (x : S34) (suf : List S34) (hx : (x.f2.length : Int) ≤ 1048576) (hl : (pre.length : Int) + suf.length + 1 ≤ 1048576) :
 Ev (fun k => spec_l3In.f k (pre ++ x :: suf) pre.length) (inF pre x) := by
 unfold spec_l3In.f
 refine ev_if (by omega) (ev_if (by simp; omega) ?_)
 refine Ev.congr (f := fun k => spec_l3In.j0 k (pre ++ x :: suf) pre.length (inBad x)) (fun k => ?_) ?_
 · rw [rdI, spec_l1In_eq, spec_l1In_eq]
   simp only [Option.bind_some, inBad]
   cases decide (0 ≤ x.f0 ∧ x.f0 ≤ 2147483646) <;> cases decide (0 ≤ x.f1 ∧ x.f1 ≤ 3) <;> simp
 · unfold inF
   cases hb : inBad x with
   | true => exact ev_succ (fun k => by rw [spec_l3In.j0]; simp)
   | false =>
    rw [if_neg (by decide)]
    refine Ev.step (f := fun k => if (x.f2.length : Int) > 8 then some 2 else (spec_l1All.f k x.f2 0 9999).bind fun t => if t = true then spec_l3In.l0 k (pre ++ x :: suf) pre.length 0 else some 3) (fun k => ?_) ?_
    · rw [spec_l3In.j0, if_neg (by decide), if_pos (by omega), if_pos (by simp; omega), rdI]
    · by_cases h8 : (x.f2.length : Int) > 8
      · rw [if_pos h8]; exact ev_if h8 (Ev.now _)
      · rw [if_neg h8]
        refine ev_ifn h8 (ev_bind (spec_l1All_ev 0 9999 (by omega)) ?_)
        by_cases ha : decide (AllIn x.f2 0 9999) = true
        · rw [if_pos ha]
          refine ev_if ha ?_
          have := spec_l3In_l0 x suf pre [] (by simp; omega)
          simpa using this
        · rw [if_neg ha]; exact ev_ifn ha (Ev.now _)
theorem spec_l3Outs_l0 (suf : List S86) : ∀ (pre : List S86) (a : Int), (∀ x ∈ suf, (x.f1.length : Int) ≤ 1048576) → (pre.length : Int) + suf.length ≤ 1048576 →
 Ev (fun k => spec_l3Outs.l0 k (pre ++ suf) a pre.length) (outsF suf (endV (outSumF a suf))) := by
 induction suf with
 | nil =>
  intro pre a _ _
  simp only [outsF, outSumF, endV]
  refine ev_succ (fun k => ?_)
  rw [spec_l3Outs.l0, if_neg (by simp), spec_l1Amount_eq]
  simp only [Option.bind_some, decide_eq_true_eq]
  by_cases hh : 0 ≤ a ∧ a ≤ 1000000 <;> simp [hh]
 | cons b suf ih =>
  intro pre a hs hl
  simp only [List.length_cons, Int.natCast_add, Int.natCast_one] at hl
  have h := ih (pre ++ [b]) (wrap64 (a + b.f0)) (fun x hx => hs x (by simp [hx])) (by simp; omega)
  rw [show ((pre ++ [b]).length : Int) = (pre.length : Int) + 1 from by simp, show pre ++ [b] ++ suf = pre ++ b :: suf from by simp] at h
  simp only [outsF, outSumF]
  by_cases hb : 0 ≤ b.f0 ∧ b.f0 ≤ 1000000
  · rw [if_pos hb]
    refine Ev.step (f := fun k => (spec_l2Fault.f k b.f1).bind fun t => if t = 0 then spec_l3Outs.l0 k (pre ++ b :: suf) (wrap64 (a + b.f0)) ((pre.length : Int) + 1) else some t) (fun k => ?_) (ev_bind (spec_l2Fault_ev (by have := hs b (by simp); omega)) ?_)
    · rw [spec_l3Outs.l0, if_pos (by simp; omega), if_pos (by omega), rdO, spec_l1Amount_eq, wrap_id (x := (pre.length : Int) + 1) (by omega) (by omega)]
      simp [hb]
    · by_cases hf : faultP b.f1 = 0
      · rw [if_pos hf]; exact ev_if hf h
      · rw [if_neg hf]; exact ev_ifn hf (Ev.now _)
  · rw [if_neg hb]
    refine ev_succ (fun k => ?_)
    rw [spec_l3Outs.l0, if_pos (by simp; omega), if_pos (by omega), rdO, spec_l1Amount_eq]
    simp [hb]
theorem spec_l3Fault_l0 (t : S27) (e : Int) (he : Ev (fun k => spec_l3Outs.f k t.f2) e) (suf : List S34) : ∀ (pre : List S34), t.f1 = pre ++ suf → (∀ x ∈ suf, (x.f2.length : Int) ≤ 1048576) → (pre.length : Int) + suf.length ≤ 1048576 →
 Ev (fun k => spec_l3Fault_in.l0 k [t] pre.length) (insF pre suf e) := by
 have hrd : rd_T27 [t] 0 = t := rfl
 induction suf with
 | nil =>
  intro pre ht _ _
  refine Ev.step (f := fun k => (spec_l3Outs.f k t.f2).bind fun t9 => some t9) (fun k => ?_) (ev_bind he (Ev.now _))
  rw [spec_l3Fault_in.l0, if_pos (by simp), hrd, if_neg (by rw [ht]; simp)]
 | cons b suf ih =>
  intro pre ht hs hl
  simp only [List.length_cons, Int.natCast_add, Int.natCast_one] at hl
  have h := ih (pre ++ [b]) (by rw [ht]; simp) (fun x hx => hs x (by simp [hx])) (by simp; omega)
  rw [show ((pre ++ [b]).length : Int) = (pre.length : Int) + 1 from by simp] at h
  refine Ev.step (f := fun k => (spec_l3In.f k (pre ++ b :: suf) pre.length).bind fun t7 => if t7 = 0 then spec_l3Fault_in.l0 k [t] ((pre.length : Int) + 1) else some t7) (fun k => ?_) (ev_bind (spec_l3In_ev pre b suf (hs b (by simp)) (by omega)) ?_)
  · rw [spec_l3Fault_in.l0, if_pos (by simp), hrd, if_pos (by rw [ht]; simp; omega), ht, wrap_id (x := (pre.length : Int) + 1) (by omega) (by omega)]
  · unfold insF
    by_cases hf : inF pre b = 0
    · rw [if_pos hf]; exact ev_if hf h
    · rw [if_neg hf]; exact ev_ifn hf (Ev.now _)
theorem spec_l3Fault_ev {t : S27} (h1 : t.f1.length ≤ 1048576 ∧ ∀ x ∈ t.f1, (x.f2.length : Int) ≤ 1048576) (h2 : t.f2.length ≤ 1048576 ∧ ∀ x ∈ t.f2, (x.f1.length : Int) ≤ 1048576) : Ev (fun k => spec_l3Fault.f k t.f0 t.f1 t.f2) (txF t) := by
 unfold spec_l3Fault.f spec_l3Fault_in.f txF
 have hrd : rd_T27 [t] 0 = t := rfl
 have ht : (⟨t.f0, t.f1, t.f2⟩ : S27) = t := rfl
 rw [ht]
 refine ev_if (by simp) ?_
 rw [hrd]
 refine ev_bind0 (spec_l1In_eq _ _ _) ?_
 by_cases hn : 0 ≤ t.f0 ∧ t.f0 ≤ 65535
 · rw [if_pos hn]
   refine ev_if (by simpa using hn) ?_
   have go : Ev (fun k => spec_l3Fault_in.l0 k [t] 0) (insF [] t.f1 (outsF t.f2 (endV (outSumF 0 t.f2)))) := by
    have := spec_l3Fault_l0 t _ (by unfold spec_l3Outs.f; exact spec_l3Outs_l0 t.f2 [] 0 h2.2 (by simp; omega)) t.f1 [] (by simp) h1.2 (by simp; omega)
    simpa using this
   have bad : Ev (fun k => spec_l3Fault_in.j0 k [t] true) 2 := ev_succ (fun k => by rw [spec_l3Fault_in.j0]; simp)
   by_cases c1 : (t.f1.length : Int) > 4
   · rw [if_pos (.inl c1)]; exact ev_if c1 bad
   · refine ev_ifn c1 ?_
     by_cases c2 : (t.f2.length : Int) < 1
     · rw [if_pos (.inr (.inl c2))]; exact ev_if c2 bad
     · refine ev_ifn c2 ?_
       by_cases c3 : (t.f2.length : Int) > 4
       · rw [if_pos (.inr (.inr c3)), decide_eq_true c3]; exact bad
       · rw [if_neg (by omega), decide_eq_false c3]
         exact Ev.step (fun k => by rw [spec_l3Fault_in.j0, if_neg (by decide)]) go
 · rw [if_neg hn]; exact ev_ifn (by simpa using hn) (Ev.now _)
def varB (n : Int) : List Int := if n < 253 then [n % 256] else [253, n % 256, n / 256 % 256]
theorem varB_len (n : Int) : (varB n).length ≤ 3 := by unfold varB; split <;> simp
def stepS (a b : Int) : Int := (33 * a + b + 1) % 2147483647
def sumB (l : List Int) : Int := l.foldl stepS 5381
def Bytes (l : List Int) : Prop := ∀ x ∈ l, 0 ≤ x ∧ x ≤ 255
theorem stepS_bd (a b : Int) : 0 ≤ stepS a b ∧ stepS a b < 2147483647 := by unfold stepS; omega
theorem sumB_bd_go (l : List Int) : ∀ a : Int, 0 ≤ a → a < 2147483647 → 0 ≤ l.foldl stepS a ∧ l.foldl stepS a < 2147483647 := by
 induction l with
 | nil => intro a h0 h1; exact ⟨h0, h1⟩
 | cons b l ih => intro a _ _; exact ih _ (stepS_bd a b).1 (stepS_bd a b).2
theorem sumB_bd (l : List Int) : 0 ≤ sumB l ∧ sumB l ≤ 2147483646 := by
 have := sumB_bd_go l 5381 (by omega) (by omega)
 unfold sumB; omega
theorem step_wrap {a b : Int} (h0 : 0 ≤ a) (h1 : a < 2147483647) (hb : 0 ≤ b ∧ b ≤ 255) :
 Int.tmod (wrap64 ((wrap64 ((wrap64 (a * 33)) + (wrap64 b))) + 1)) 2147483647 = stepS a b := by
 rw [wrap_id (x := a * 33) (by omega) (by omega), wrap_id (x := b) (by omega) (by omega), wrap_id (x := a * 33 + b) (by omega) (by omega), wrap_id (x := a * 33 + b + 1) (by omega) (by omega), Int.tmod_eq_emod_of_nonneg (by omega)]
 unfold stepS; rw [Int.mul_comm a 33]
def bigB (n : Int) : List Int := varB (n % 65536) ++ varB (n / 65536)
def listB (l : List Int) : List Int := varB l.length ++ (l.map varB).flatten
def inB (p : Bool) (x : S34) : List Int := bigB x.f0 ++ (varB x.f1 ++ (if p = true then listB x.f2 else [0]))
def outB (y : S86) : List Int := bigB y.f0 ++ listB y.f1
def packB (p : Bool) (t : S27) : List Int := varB t.f0 ++ (varB t.f1.length ++ ((t.f1.map (inB p)).flatten ++ (varB t.f2.length ++ (t.f2.map outB).flatten)))
def InOk (x : S34) : Prop := (0 ≤ x.f0 ∧ x.f0 ≤ 2147483646) ∧ (0 ≤ x.f1 ∧ x.f1 ≤ 3) ∧ x.f2.length ≤ 8 ∧ AllIn x.f2 0 9999
def OutOk (y : S86) : Prop := (0 ≤ y.f0 ∧ y.f0 ≤ 1000000) ∧ y.f1.length ≤ 12 ∧ AllIn y.f1 0 9999
def TxOk (t : S27) : Prop := (0 ≤ t.f0 ∧ t.f0 ≤ 65535) ∧ t.f1.length ≤ 4 ∧ (1 ≤ t.f2.length ∧ t.f2.length ≤ 4) ∧ (∀ x ∈ t.f1, InOk x) ∧ ∀ y ∈ t.f2, OutOk y
theorem inF_ok {p : List S34} {x : S34} (h : inF p x = 0) : InOk x := by
 unfold inF at h
 split at h
 · omega
 · rename_i h0
   split at h
   · omega
   · split at h
     · rename_i h8 ha
       refine ⟨?_, ?_, by omega, of_decide_eq_true ha⟩ <;> (unfold inBad at h0; simp at h0; omega)
     · omega
theorem insF_ok (s : List S34) : ∀ (p : List S34) (e : Int), insF p s e = 0 → (∀ x ∈ s, InOk x) ∧ e = 0 := by
 induction s with
 | nil => intro p e h; exact ⟨by simp, h⟩
 | cons x s ih =>
  intro p e h
  unfold insF at h
  by_cases hx : inF p x = 0
  · rw [if_pos hx] at h
    obtain ⟨h1, h2⟩ := ih _ _ h
    refine ⟨fun y hy => ?_, h2⟩
    rcases List.mem_cons.1 hy with rfl | hy
    · exact inF_ok hx
    · exact h1 y hy
  · rw [if_neg hx] at h; exact absurd h hx
theorem faultP_ok {l : List Int} (h : faultP l = 0) : l.length ≤ 12 ∧ AllIn l 0 9999 := by
 unfold faultP at h
 split at h
 · omega
 · rename_i h12
   split at h
   · omega
   · rename_i hb
     refine ⟨by omega, fun x hx => ?_⟩
     have : opBad x = false := by
      cases ho : opBad x with
      | false => rfl
      | true => exact absurd (List.any_eq_true.2 ⟨x, hx, ho⟩) hb
     unfold opBad at this
     simp at this
     omega
theorem outsF_ok (s : List S86) : ∀ (e : Int), outsF s e = 0 → ∀ y ∈ s, OutOk y := by
 induction s with
 | nil => intro e _; simp
 | cons x s ih =>
  intro e h y hy
  unfold outsF at h
  split at h
  · rename_i hx
    by_cases hf : faultP x.f1 = 0
    · rw [if_pos hf] at h
      rcases List.mem_cons.1 hy with rfl | hy
      · exact ⟨hx, faultP_ok hf⟩
      · exact ih e h y hy
    · rw [if_neg hf] at h; exact absurd h hf
  · omega
theorem txF_ok {t : S27} (h : txF t = 0) : TxOk t := by
 unfold txF at h
 split at h
 · rename_i hn
   split at h
   · omega
   · rename_i hc
     obtain ⟨h1, h2⟩ := insF_ok _ _ _ h
     exact ⟨hn, by omega, by omega, h1, outsF_ok _ _ h2⟩
 · omega
theorem varB_bytes (n : Int) : Bytes (varB n) := by
 unfold varB; split <;> (intro x hx; simp at hx; rcases hx with rfl | rfl | rfl) <;> omega
theorem Bytes_append {a b : List Int} (ha : Bytes a) (hb : Bytes b) : Bytes (a ++ b) := by
 intro x hx; rcases List.mem_append.1 hx with h | h
 · exact ha x h
 · exact hb x h
theorem Bytes_flat {α : Type} {f : α → List Int} {l : List α} (h : ∀ x ∈ l, Bytes (f x)) : Bytes (l.map f).flatten := by
 intro x hx
 obtain ⟨y, hy, hx⟩ := List.mem_flatten.1 hx
 obtain ⟨z, hz, rfl⟩ := List.mem_map.1 hy
 exact h z hz x hx
theorem flat_len {α : Type} {f : α → List Int} {n : Nat} : ∀ {l : List α}, (∀ x ∈ l, (f x).length ≤ n) → (l.map f).flatten.length ≤ n * l.length
 | [], _ => by simp
 | x :: l, h => by
  have h1 := h x (by simp)
  have h2 := flat_len (f := f) (n := n) (l := l) (fun y hy => h y (by simp [hy]))
  simp only [List.map_cons, List.flatten_cons, List.length_append, List.length_cons, Nat.mul_add, Nat.mul_one]
  omega
theorem listB_len {l : List Int} {n : Nat} (h : l.length ≤ n) : (listB l).length ≤ 3 + 3 * n := by
 unfold listB
 have h1 := varB_len l.length
 have h2 := flat_len (f := varB) (n := 3) (l := l) (fun x _ => varB_len x)
 simp only [List.length_append]
 omega
theorem bigB_len (n : Int) : (bigB n).length ≤ 6 := by
 unfold bigB; have h1 := varB_len (n % 65536); have h2 := varB_len (n / 65536); simp only [List.length_append]; omega
theorem inB_len {p : Bool} {x : S34} (h : InOk x) : (inB p x).length ≤ 36 := by
 unfold inB
 have h1 := bigB_len x.f0; have h2 := varB_len x.f1; have h3 := listB_len h.2.2.1
 cases p <;> simp <;> omega
theorem outB_len {y : S86} (h : OutOk y) : (outB y).length ≤ 45 := by
 unfold outB
 have h1 := bigB_len y.f0; have h3 := listB_len h.2.1
 simp only [List.length_append]; omega
theorem bigB_bytes (n : Int) : Bytes (bigB n) := Bytes_append (varB_bytes _) (varB_bytes _)
theorem listB_bytes (l : List Int) : Bytes (listB l) := Bytes_append (varB_bytes _) (Bytes_flat (fun x _ => varB_bytes x))
theorem packB_bytes (p : Bool) (t : S27) : Bytes (packB p t) := by
 unfold packB
 refine Bytes_append (varB_bytes _) (Bytes_append (varB_bytes _) (Bytes_append (Bytes_flat (fun x _ => ?_)) (Bytes_append (varB_bytes _) (Bytes_flat (fun y _ => ?_)))))
 · unfold inB
   refine Bytes_append (bigB_bytes _) (Bytes_append (varB_bytes _) ?_)
   cases p
   · intro x hx; simp at hx; omega
   · exact listB_bytes _
 · exact Bytes_append (bigB_bytes _) (listB_bytes _)
theorem spec_l1Sum_l0 (suf : List Int) : ∀ (pre : List Int) (a : Int), 0 ≤ a → a < 2147483647 → Bytes suf → (pre.length : Int) + suf.length ≤ 9223372036854775806 →
 Ev (fun k => spec_l1Sum.l0 k (pre ++ suf) a pre.length) (suf.foldl stepS a) := by
 induction suf with
 | nil => intro pre a _ _ _ _; exact ev_succ (fun k => by simp [spec_l1Sum.l0])
 | cons b suf ih =>
  intro pre a h0 h1 hb hl
  have hb0 := hb b List.mem_cons_self
  simp only [List.length_cons, Int.natCast_add, Int.natCast_one] at hl
  have h := ih (pre ++ [b]) (stepS a b) (stepS_bd a b).1 (stepS_bd a b).2 (fun x hx => hb x (List.mem_cons_of_mem _ hx)) (by simp; omega)
  refine Ev.step (fun k => ?_) h
  rw [spec_l1Sum.l0]
  rw [if_pos (by simp; omega), if_pos (by omega), rd_mid, step_wrap h0 h1 hb0, wrap_id (by omega) (by omega)]
  simp
theorem spec_l1Sum_ev {l : List Int} (hb : Bytes l) (hl : (l.length : Int) ≤ 9223372036854775806) : Ev (fun k => spec_l1Sum.f k l) (sumB l) :=
 spec_l1Sum_l0 l [] 5381 (by omega) (by omega) hb (by simpa using hl)
theorem impl_sumOf_l0 (suf : List Int) : ∀ (pre : List Int) (a : Int), 0 ≤ a → a < 2147483647 → Bytes suf → (pre.length : Int) + suf.length ≤ 9223372036854775806 →
 Ev (fun k => impl_sumOf.l0 k a (pre ++ suf) ((pre ++ suf).length : Int) pre.length) (suf.foldl stepS a) := by
 induction suf with
 | nil => intro pre a _ _ _ _; exact ev_succ (fun k => by simp [impl_sumOf.l0])
 | cons b suf ih =>
  intro pre a h0 h1 hb hl
  have hb0 := hb b List.mem_cons_self
  simp only [List.length_cons, Int.natCast_add, Int.natCast_one] at hl
  have h := ih (pre ++ [b]) (stepS a b) (stepS_bd a b).1 (stepS_bd a b).2 (fun x hx => hb x (List.mem_cons_of_mem _ hx)) (by simp; omega)
  refine Ev.step (fun k => ?_) h
  rw [impl_sumOf.l0]
  rw [if_pos (by simp; omega), if_pos (by omega), if_pos (by simp; omega), rd_mid, Int.mul_comm 33 a, step_wrap h0 h1 hb0, wrap_id (by omega) (by omega)]
  simp
theorem impl_sumOf_ev {l : List Int} (hb : Bytes l) (hl : (l.length : Int) ≤ 9223372036854775806) : Ev (fun k => impl_sumOf.f k l) (sumB l) :=
 impl_sumOf_l0 l [] 5381 (by omega) (by omega) hb (by simpa using hl)
def be4 (n : Int) : List Int := [n / 16777216 % 256, n / 65536 % 256, n / 256 % 256, n % 256]
theorem be4_bytes (n : Int) : Bytes (be4 n) := by
 intro x hx
 simp only [be4, List.mem_cons, List.not_mem_nil, or_false] at hx
 rcases hx with rfl | rfl | rfl | rfl <;> omega
theorem Bytes.app {a b : List Int} (ha : Bytes a) (hb : Bytes b) : Bytes (a ++ b) := by
 intro x hx; rcases List.mem_append.1 hx with h | h
 · exact ha x h
 · exact hb x h
def sumI (l : List Int) : Int := sumB (l.flatMap be4)
theorem sumI_bd (l : List Int) : 0 ≤ sumI l ∧ sumI l ≤ 2147483646 := sumB_bd _
theorem spec_l1SumInts_l0 (suf : List Int) : ∀ (pre acc : List Int), Bytes acc → (acc.length : Int) + 4 * suf.length < 140737488355328 → (pre.length : Int) + suf.length ≤ 9223372036854775806 →
 Ev (fun k => spec_l1SumInts.l0 k (pre ++ suf) acc pre.length) (sumB (acc ++ suf.flatMap be4)) := by
 induction suf with
 | nil =>
  intro pre acc hb hl _
  simp only [List.append_nil, List.flatMap_nil]
  refine Ev.step (f := fun k => (spec_l1Sum.f k acc).bind fun t => some t) (fun k => by rw [spec_l1SumInts.l0]; rw [if_neg (by omega)]) ?_
  exact ev_bind (spec_l1Sum_ev hb (by simp at hl; omega)) (Ev.now _)
 | cons b suf ih =>
  intro pre acc hb hl hp
  simp only [List.length_cons, Int.natCast_add, Int.natCast_one] at hl hp
  have h := ih (pre ++ [b]) (acc ++ be4 b) (hb.app (be4_bytes b)) (by simp [be4]; omega) (by simp; omega)
  refine Ev.step (fun k => ?_) (by simpa using h)
  rw [spec_l1SumInts.l0]
  rw [if_pos (by simp; omega), if_pos (by omega), rd_mid]
  simp only [spec_l1Four.f, Option.bind_some]
  rw [if_pos (by simp; omega), wrap_id (by omega) (by omega)]
  simp [be4]
theorem spec_l1SumInts_ev {l : List Int} (hl : l.length ≤ 1000) : Ev (fun k => spec_l1SumInts.f k l) (sumI l) :=
 spec_l1SumInts_l0 l [] [] (by intro x hx; cases hx) (by simp; omega) (by simp; omega)
theorem impl_high_ev (a : Int) : Ev (fun k => impl_high.f k a 4) (be4 a) := by
 refine Ev.of (impl_high.mono a 4) (k := 5) ?_
 have w3 : wrap64 (3) = 3 := wrap_id (by omega) (by omega)
 have w2 : wrap64 (2) = 2 := wrap_id (by omega) (by omega)
 have w1 : wrap64 (1) = 1 := wrap_id (by omega) (by omega)
 have w0 : wrap64 (0) = 0 := wrap_id (by omega) (by omega)
 have wm : wrap64 (-1) = -1 := wrap_id (by omega) (by omega)
 have d1 : a / 256 / 256 = a / 65536 := by omega
 have d2 : a / 65536 / 256 = a / 16777216 := by omega
 simp [impl_high.f, impl_high.l0, w3, w2, w1, w0, wm, be4, List.replicate, d1, d2]
theorem impl_sumInts_l0 (suf : List Int) : ∀ (pre acc : List Int), Bytes acc → (acc.length : Int) + 4 * suf.length < 140737488355328 → (pre.length : Int) + suf.length ≤ 9223372036854775806 →
 Ev (fun k => impl_sumInts.l0 k acc (pre ++ suf) ((pre ++ suf).length : Int) pre.length) (sumB (acc ++ suf.flatMap be4)) := by
 induction suf with
 | nil =>
  intro pre acc hb hl _
  simp only [List.append_nil, List.flatMap_nil]
  refine Ev.step (f := fun k => (impl_sumOf.f k acc).bind fun t => some t) (fun k => by rw [impl_sumInts.l0]; rw [if_neg (by omega)]) ?_
  exact ev_bind (impl_sumOf_ev hb (by simp at hl; omega)) (Ev.now _)
 | cons b suf ih =>
  intro pre acc hb hl hp
  simp only [List.length_cons, Int.natCast_add, Int.natCast_one] at hl hp
  have h := ih (pre ++ [b]) (acc ++ be4 b) (hb.app (be4_bytes b)) (by simp [be4]; omega) (by simp; omega)
  refine Ev.step (f := fun k => (impl_high.f k b 4).bind fun t => if acc.length + t.length < 140737488355328 then impl_sumInts.l0 k (acc ++ t) (pre ++ b :: suf) ((pre ++ b :: suf).length : Int) ((pre.length : Int) + 1) else none) (fun k => ?_) ?_
  · rw [impl_sumInts.l0]
    rw [if_pos (by simp; omega), if_pos (by omega), if_pos (by simp; omega), rd_mid, wrap_id (by omega) (by omega)]
  · refine ev_bind (impl_high_ev b) (ev_if (by simp [be4]; omega) ?_)
    simpa using h
theorem impl_sumInts_ev {l : List Int} (hl : l.length ≤ 1000) : Ev (fun k => impl_sumInts.f k l) (sumI l) :=
 impl_sumInts_l0 l [] [] (by intro x hx; cases hx) (by simp; omega) (by simp; omega)
def mateV (l : List Int) (i : Nat) : Int := if i % 2 = 1 then l.getD (i - 1) 0 else if i + 1 < l.length then l.getD (i + 1) 0 else l.getD i 0
def aboveV : List Int → List Int
 | [] => []
 | [a] => [sumI [a, a]]
 | a :: b :: t => sumI [a, b] :: aboveV t
theorem aboveV_length : ∀ l : List Int, (aboveV l).length = (l.length + 1) / 2
 | [] => by simp [aboveV]
 | [_] => by simp [aboveV]
 | _ :: _ :: t => by simp only [aboveV, List.length_cons, aboveV_length t]; omega
def rootN : Nat → List Int → Int
 | 0, l => l.getD 0 0
 | n + 1, l => if l.length > 1 then rootN n (aboveV l) else l.getD 0 0
theorem rd_getD (l : List Int) (i : Nat) : rd l (i : Int) = l.getD i 0 := by unfold rd; simp
theorem getD_app (pre suf : List Int) (i : Nat) : (pre ++ suf).getD (pre.length + i) 0 = suf.getD i 0 := by
 simp [List.getD_eq_getElem?_getD, List.getElem?_append_right]
theorem mateV_even (pre : List Int) (h : pre.length % 2 = 0) (a b : Int) (t : List Int) : mateV (pre ++ a :: b :: t) pre.length = b := by
 unfold mateV
 rw [if_neg (by omega), if_pos (by simp)]
 simp
theorem mateV_last (pre : List Int) (h : pre.length % 2 = 0) (a : Int) : mateV (pre ++ [a]) pre.length = a := by
 unfold mateV
 rw [if_neg (by omega), if_neg (by simp)]
 simp
def leavesV (l : List Int) : Int := if 1 ≤ l.length ∧ l.length ≤ 8 then (if AllIn l 0 2147483646 then 0 else 3) else 2
theorem leavesV_0 {l : List Int} (h : leavesV l = 0) : 1 ≤ l.length ∧ l.length ≤ 8 ∧ AllIn l 0 2147483646 := by
 unfold leavesV at h
 by_cases h1 : 1 ≤ l.length ∧ l.length ≤ 8
 · rw [if_pos h1] at h
   by_cases h2 : AllIn l 0 2147483646
   · exact ⟨h1.1, h1.2, h2⟩
   · rw [if_neg h2] at h; omega
 · rw [if_neg h1] at h; omega
def pairV : List Int → Bool
 | a :: b :: t => a == b || pairV t
 | _ => false
def twinN : Nat → List Int → Bool
 | 0, l => if l.length > 1 then pairV l else false
 | n + 1, l => if l.length > 1 then pairV l || twinN n (aboveV l) else false
def twinV (l : List Int) : Bool := if leavesV l = 0 then twinN 7 l else false
def rootV (l : List Int) : Int × Int := if leavesV l = 0 then (0, rootN 7 l) else (leavesV l, 0)
def txS (t : S27) : Int := sumB (packB false t)
def sumsV (l : List S27) : List Int := l.map txS
def basesV : Bool → List S27 → Bool
 | _, [] => true
 | b, t :: s => if ((t.f1.length : Int) == 0) = b then basesV false s else false
def txsF : List S27 → Int → Int
 | [], e => e
 | t :: s, e => if txF t = 0 then txsF s e else txF t
def headV (b : S72) : Bool := decide (0 ≤ b.f0 ∧ b.f0 ≤ 2147483646) && (decide (1 ≤ b.f1 ∧ b.f1 ≤ 99999) && (decide (1 ≤ b.f2 ∧ b.f2 ≤ 1023 ∧ Int.tmod b.f2 256 > 0) && decide (0 ≤ b.f3 ∧ b.f3 ≤ 65535)))
def endF (b : S72) : Int := if basesV true b.f4 = true then (if twinN 7 (sumsV b.f4) = true then 6 else 0) else 1
def blockF (b : S72) : Int := if headV b = true then (if (b.f4.length : Int) < 1 ∨ (b.f4.length : Int) > 4 then 2 else txsF b.f4 (endF b)) else 3
theorem txS_bd (t : S27) : 0 ≤ txS t ∧ txS t ≤ 2147483646 := sumB_bd _
theorem sumsV_leaves {l : List S27} (h1 : 1 ≤ (l.length : Int)) (h4 : (l.length : Int) ≤ 4) : leavesV (sumsV l) = 0 := by
 unfold leavesV sumsV
 rw [if_pos (by simp; omega), if_pos]
 intro x hx
 obtain ⟨t, _, rfl⟩ := List.mem_map.1 hx
 exact txS_bd t
theorem txsF_0 (l : List S27) (e : Int) (h : txsF l e = 0) : ∀ t ∈ l, txF t = 0 := by
 induction l with
 | nil => simp
 | cons t l ih =>
  unfold txsF at h
  by_cases h0 : txF t = 0
  · rw [if_pos h0] at h
    intro x hx
    rcases List.mem_cons.1 hx with rfl | hx
    · exact h0
    · exact ih h x hx
  · rw [if_neg h0] at h; exact absurd h h0
theorem blockF_0 {b : S72} (h : blockF b = 0) : (∀ t ∈ b.f4, TxOk t) ∧ 1 ≤ (b.f4.length : Int) ∧ (b.f4.length : Int) ≤ 4 ∧ headV b = true := by
 unfold blockF at h
 by_cases h1 : headV b = true
 · rw [if_pos h1] at h
   by_cases h2 : (b.f4.length : Int) < 1 ∨ (b.f4.length : Int) > 4
   · rw [if_pos h2] at h; omega
   · rw [if_neg h2] at h
     exact ⟨fun t ht => txF_ok (txsF_0 _ _ h t ht), by omega, by omega, h1⟩
 · rw [if_neg h1] at h; omega
theorem rdT (pre : List S27) (b : S27) (suf : List S27) : rd_T27 (pre ++ b :: suf) (pre.length : Int) = b := by unfold rd_T27; simp
theorem spec_l3Put_eq {n : Int} (h1 : n ≤ 9223372036854775807) : spec_l3Put.f n = some (varB n) := by
 unfold spec_l3Put.f varB
 by_cases h : n < 253
 · rw [if_pos h, if_pos h]
 · rw [if_neg h, if_neg h, Int.tmod_eq_emod_of_nonneg (by omega), Int.tdiv_eq_ediv_of_nonneg (by omega), wrap_id (by omega) (by omega)]
   have : n % 256 % 256 = n % 256 := by omega
   rw [this]
theorem spec_l3Big_eq {n : Int} (h0 : 0 ≤ n) (h1 : n ≤ 9223372036854775807) : spec_l3Big.f n = some (bigB n) := by
 unfold spec_l3Big.f bigB
 rw [Int.tmod_eq_emod_of_nonneg h0, Int.tdiv_eq_ediv_of_nonneg h0, wrap_id (by omega) (by omega), spec_l3Put_eq (by omega), spec_l3Put_eq (by omega)]
 simp only [Option.bind_some]
 have a := varB_len (n % 65536)
 have b := varB_len (n / 65536)
 rw [if_pos (by omega)]
theorem spec_l3List_l0 (suf : List Int) : ∀ (pre acc : List Int), (∀ x ∈ suf, x ≤ 9223372036854775807) → pre.length + suf.length ≤ 1000 → acc.length + 3 * suf.length ≤ 100000 →
 Ev (fun k => spec_l3List.l0 k (pre ++ suf) acc pre.length) (acc ++ (suf.map varB).flatten) := by
 induction suf with
 | nil => intro pre acc _ _ _; exact ev_succ (fun k => by rw [spec_l3List.l0, if_neg (by simp)]; simp)
 | cons b suf ih =>
  intro pre acc hs hp hl
  simp only [List.length_cons] at hp hl
  have hv := varB_len b
  have h := ih (pre ++ [b]) (acc ++ varB b) (fun x hx => hs x (by simp [hx])) (by simp; omega) (by simp only [List.length_append]; omega)
  rw [show ((pre ++ [b]).length : Int) = (pre.length : Int) + 1 from by simp, show pre ++ [b] ++ suf = pre ++ b :: suf from by simp] at h
  refine Ev.step (fun k => ?_) (by simpa using h)
  rw [spec_l3List.l0, if_pos (by simp; omega), if_pos (by omega), rd_mid, spec_l3Put_eq (hs b (by simp))]
  simp only [Option.bind_some]
  rw [if_pos (by omega), wrap_id (by omega) (by omega)]
theorem spec_l3List_ev {l : List Int} (hs : ∀ x ∈ l, x ≤ 9223372036854775807) (hl : l.length ≤ 1000) : Ev (fun k => spec_l3List.f k l) (listB l) := by
 unfold spec_l3List.f listB
 have hv := varB_len (l.length : Int)
 refine ev_bind0 (spec_l3Put_eq (by omega)) ?_
 have := spec_l3List_l0 l [] (varB l.length) hs (by simp; omega) (by omega)
 simpa using this
theorem le_of_allIn {l : List Int} {lo hi : Int} (h : AllIn l lo hi) (hh : hi ≤ 9223372036854775807) : ∀ x ∈ l, x ≤ 9223372036854775807 := fun x hx => by have := (h x hx).2; omega
theorem spec_l3Pack_l1 (t : S27) (suf : List S86) : ∀ (pre : List S86) (acc : List Int), t.f2 = pre ++ suf → (∀ y ∈ suf, OutOk y) → pre.length + suf.length ≤ 4 → acc.length + 45 * suf.length ≤ 100000 →
 Ev (fun k => spec_l3Pack_in.l1 k [t] acc pre.length) (acc ++ (suf.map outB).flatten) := by
 have hrd : rd_T27 [t] 0 = t := rfl
 induction suf with
 | nil => intro pre acc ht _ _ _; exact ev_succ (fun k => by rw [spec_l3Pack_in.l1, if_pos (by simp), hrd, if_neg (by rw [ht]; simp)]; simp)
 | cons b suf ih =>
  intro pre acc ht hs hp hl
  simp only [List.length_cons] at hp hl
  have hb := hs b (by simp)
  have l1 := bigB_len b.f0
  have l2 := listB_len hb.2.1
  have h := ih (pre ++ [b]) (acc ++ bigB b.f0 ++ listB b.f1) (by rw [ht]; simp) (fun y hy => hs y (by simp [hy])) (by simp; omega) (by simp only [List.length_append]; omega)
  rw [show ((pre ++ [b]).length : Int) = (pre.length : Int) + 1 from by simp] at h
  refine Ev.step (f := fun k => (spec_l3List.f k b.f1).bind fun t351 => if (acc ++ bigB b.f0).length + t351.length < 140737488355328 then spec_l3Pack_in.l1 k [t] (acc ++ bigB b.f0 ++ t351) ((pre.length : Int) + 1) else none) (fun k => ?_) (ev_bind (spec_l3List_ev (le_of_allIn hb.2.2 (by omega)) (by have := hb.2.1; omega)) (ev_if (by simp only [List.length_append]; omega) (by simpa [outB] using h)))
  rw [spec_l3Pack_in.l1, if_pos (by simp), hrd, if_pos (by rw [ht]; simp; omega), if_pos (by omega), ht, rdO, spec_l3Big_eq (by have := hb.1; omega) (by have := hb.1; omega)]
  simp only [Option.bind_some]
  rw [if_pos (by omega), wrap_id (by omega) (by omega)]
theorem spec_l3Pack_l0 (p : Bool) (t : S27) (ho : ∀ y ∈ t.f2, OutOk y) (h2 : t.f2.length ≤ 4) (suf : List S34) : ∀ (pre : List S34) (acc : List Int), t.f1 = pre ++ suf → (∀ x ∈ suf, InOk x) → pre.length + suf.length ≤ 4 → acc.length + 36 * suf.length ≤ 10000 →
 Ev (fun k => spec_l3Pack_in.l0 k [t] p acc pre.length) (acc ++ ((suf.map (inB p)).flatten ++ (varB t.f2.length ++ (t.f2.map outB).flatten))) := by
 have hrd : rd_T27 [t] 0 = t := rfl
 induction suf with
 | nil =>
  intro pre acc ht _ _ hl
  have hv := varB_len (t.f2.length : Int)
  have h := spec_l3Pack_l1 t t.f2 [] (acc ++ varB t.f2.length) (by simp) ho (by simpa using h2) (by simp only [List.length_append]; omega)
  refine Ev.step (f := fun k => spec_l3Pack_in.l1 k [t] (acc ++ varB t.f2.length) 0) (fun k => ?_) (by simpa using h)
  rw [spec_l3Pack_in.l0, if_pos (by simp), hrd, if_neg (by rw [ht]; simp), spec_l3Put_eq (by omega)]
  simp only [Option.bind_some]
  rw [if_pos (by omega)]
 | cons b suf ih =>
  intro pre acc ht hs hp hl
  simp only [List.length_cons] at hp hl
  have hb := hs b (by simp)
  have l1 := bigB_len b.f0
  have l2 := listB_len hb.2.2.1
  have l3 := varB_len b.f1
  have h := ih (pre ++ [b]) (acc ++ bigB b.f0 ++ varB b.f1 ++ (if p = true then listB b.f2 else [0])) (by rw [ht]; simp) (fun y hy => hs y (by simp [hy])) (by simp; omega) (by cases p <;> simp <;> omega)
  rw [show ((pre ++ [b]).length : Int) = (pre.length : Int) + 1 from by simp] at h
  have hstep : ∀ k, spec_l3Pack_in.l0 (k + 1) [t] p acc pre.length = (if p = true then ((spec_l3List.f k b.f2).bind fun t325 => (if (acc ++ bigB b.f0 ++ varB b.f1).length + t325.length < 140737488355328 then (spec_l3Pack_in.l0 k [t] p ((acc ++ bigB b.f0 ++ varB b.f1) ++ t325) ((pre.length : Int) + 1)) else (none))) else (if (acc ++ bigB b.f0 ++ varB b.f1).length < 140737488355328 then (spec_l3Pack_in.l0 k [t] p ((acc ++ bigB b.f0 ++ varB b.f1) ++ [0]) ((pre.length : Int) + 1)) else (none))) := by
   intro k
   rw [spec_l3Pack_in.l0, if_pos (by simp), hrd, if_pos (by rw [ht]; simp; omega), if_pos (by omega), ht, rdI, spec_l3Big_eq (by have := hb.1; omega) (by have := hb.1; omega)]
   simp only [Option.bind_some]
   rw [if_pos (by omega), spec_l3Put_eq (by have := hb.2.1; omega)]
   simp only [Option.bind_some]
   rw [if_pos (by simp only [List.length_append]; omega), wrap_id (by omega) (by omega)]
  cases p with
  | true =>
   refine Ev.step (f := fun k => (spec_l3List.f k b.f2).bind fun t325 => (if (acc ++ bigB b.f0 ++ varB b.f1).length + t325.length < 140737488355328 then (spec_l3Pack_in.l0 k [t] true ((acc ++ bigB b.f0 ++ varB b.f1) ++ t325) ((pre.length : Int) + 1)) else (none))) (fun k => by rw [hstep, if_pos rfl]) ?_
   refine ev_bind (spec_l3List_ev (le_of_allIn hb.2.2.2 (by omega)) (by have := hb.2.2.1; omega)) (ev_if (by simp only [List.length_append]; omega) ?_)
   simpa [inB] using h
  | false =>
   refine Ev.step (f := fun k => if (acc ++ bigB b.f0 ++ varB b.f1).length < 140737488355328 then (spec_l3Pack_in.l0 k [t] false ((acc ++ bigB b.f0 ++ varB b.f1) ++ [0]) ((pre.length : Int) + 1)) else (none)) (fun k => by rw [hstep, if_neg (by decide)]) ?_
   refine ev_if (by simp only [List.length_append]; omega) ?_
   simpa [inB] using h
theorem spec_l3Pack_ev (p : Bool) {t : S27} (h : TxOk t) : Ev (fun k => spec_l3Pack.f k t.f0 t.f1 t.f2 p) (packB p t) := by
 unfold spec_l3Pack.f spec_l3Pack_in.f packB
 have hrd : rd_T27 [t] 0 = t := rfl
 have ht : (⟨t.f0, t.f1, t.f2⟩ : S27) = t := rfl
 obtain ⟨h0, h1, h2, hi, ho⟩ := h
 have v1 := varB_len t.f0
 have v2 := varB_len (t.f1.length : Int)
 rw [ht]
 refine ev_if (by simp) ?_
 rw [hrd]
 refine ev_bind0 (spec_l3Put_eq (by omega)) (ev_bind0 (spec_l3Put_eq (by omega)) (ev_if (by omega) ?_))
 have := spec_l3Pack_l0 p t ho h2.2 t.f1 [] (varB t.f0 ++ varB t.f1.length) (by simp) hi (by simpa using h1) (by simp only [List.length_append]; omega)
 simpa using this
theorem packB_len (p : Bool) {t : S27} (h : TxOk t) : (packB p t).length ≤ 1000 := by
 unfold packB
 obtain ⟨h0, h1, h2, hi, ho⟩ := h
 have v1 := varB_len t.f0
 have v2 := varB_len (t.f1.length : Int)
 have v3 := varB_len (t.f2.length : Int)
 have f1 := flat_len (f := inB p) (n := 36) (l := t.f1) (fun x hx => inB_len (hi x hx))
 have f2 := flat_len (f := outB) (n := 45) (l := t.f2) (fun x hx => outB_len (ho x hx))
 simp only [List.length_append]
 omega
theorem spec_l3Sum_ev {t : S27} (h : TxOk t) : Ev (fun k => spec_l3Sum.f k t.f0 t.f1 t.f2) (sumB (packB false t)) := by
 unfold spec_l3Sum.f spec_l3Sum_in.f
 have hrd : rd_T27 [t] 0 = t := rfl
 have ht : (⟨t.f0, t.f1, t.f2⟩ : S27) = t := rfl
 have hl := packB_len false h
 rw [ht]
 refine ev_if (by simp) ?_
 rw [hrd]
 exact ev_bind (spec_l3Pack_ev false h) (ev_bind (spec_l1Sum_ev (packB_bytes _ _) (by omega)) (Ev.now _))
theorem spec_l4Join_ev (a b : Int) : Ev (fun k => spec_l4Join.f k a b) (sumI [a, b]) := by
 unfold spec_l4Join.f
 exact ev_bind (spec_l1SumInts_ev (by simp)) (Ev.now _)
theorem spec_l4Mate_eq (l : List Int) (i : Nat) (hi : i < l.length) (hl : l.length ≤ 1000) : spec_l4Mate.f l i = some (mateV l i) := by
 unfold spec_l4Mate.f mateV
 have hm : Int.tmod (i : Int) 2 = ((i % 2 : Nat) : Int) := by rw [Int.tmod_eq_emod_of_nonneg (by omega)]; omega
 rw [hm]
 by_cases h : i % 2 = 1
 · rw [if_pos (by omega), wrap_id (by omega) (by omega), if_neg (by omega), if_pos (by omega), if_pos (by omega), if_pos h]
   have : (i : Int) - 1 = ((i - 1 : Nat) : Int) := by omega
   rw [this, rd_getD]
 · rw [if_neg (by omega), wrap_id (by omega) (by omega), if_neg h]
   by_cases h2 : i + 1 < l.length
   · rw [if_neg (by omega), if_pos (by omega), if_pos (by omega), if_pos h2]
     have : (i : Int) + 1 = ((i + 1 : Nat) : Int) := by omega
     rw [this, rd_getD]
   · rw [if_pos (by omega), if_pos (by omega), if_pos (by omega), if_neg h2, rd_getD]
theorem spec_l4Above_l0 : ∀ (suf pre out : List Int), pre.length % 2 = 0 → pre.length + suf.length ≤ 1000 → out.length + suf.length ≤ 2000 →
 Ev (fun k => spec_l4Above.l0 k (pre ++ suf) out pre.length) (out ++ aboveV suf)
 | [], pre, out, _, _, _ => ev_succ (fun k => by rw [spec_l4Above.l0, if_neg (by simp)]; simp [aboveV])
 | [a], pre, out, he, hl, ho => by
  simp only [List.length_cons, List.length_nil] at hl ho
  refine Ev.step (f := fun k => (spec_l4Mate.f (pre ++ [a]) (pre.length : Int)).bind fun t => (spec_l4Join.f k a t).bind fun q => if out.length < 17592186044416 then spec_l4Above.l0 k (pre ++ [a]) (out ++ [q]) ((pre.length : Int) + 2) else none) (fun k => ?_) ?_
  · rw [spec_l4Above.l0, if_pos (by simp; omega), if_pos (by omega), rd_mid, wrap_id (by omega) (by omega)]
  · refine ev_bind0 (spec_l4Mate_eq _ _ (by simp) (by simp; omega)) ?_
    rw [mateV_last pre he]
    refine ev_bind (spec_l4Join_ev a a) (ev_if (by omega) ?_)
    exact ev_succ (fun k => by rw [spec_l4Above.l0, if_neg (by simp)]; simp [aboveV])
 | a :: b :: t, pre, out, he, hl, ho => by
  simp only [List.length_cons] at hl ho
  have ih := spec_l4Above_l0 t (pre ++ [a, b]) (out ++ [sumI [a, b]]) (by simp; omega) (by simp; omega) (by simp; omega)
  refine Ev.step (f := fun k => (spec_l4Mate.f (pre ++ a :: b :: t) (pre.length : Int)).bind fun u => (spec_l4Join.f k a u).bind fun q => if out.length < 17592186044416 then spec_l4Above.l0 k (pre ++ a :: b :: t) (out ++ [q]) ((pre.length : Int) + 2) else none) (fun k => ?_) ?_
  · rw [spec_l4Above.l0, if_pos (by simp; omega), if_pos (by omega), rd_mid, wrap_id (by omega) (by omega)]
  · refine ev_bind0 (spec_l4Mate_eq _ _ (by simp) (by simp; omega)) ?_
    rw [mateV_even pre he]
    refine ev_bind (spec_l4Join_ev a b) (ev_if (by omega) ?_)
    simpa [aboveV] using ih
theorem spec_l4Above_ev {l : List Int} (hl : l.length ≤ 1000) : Ev (fun k => spec_l4Above.f k l) (aboveV l) := by
 unfold spec_l4Above.f
 exact spec_l4Above_l0 l [] [] rfl (by simpa using hl) (by simp; omega)
theorem spec_l4Twin_l1 (n : Nat) (r : Bool) : ∀ (suf pre : List Int), pre.length % 2 = 0 → pre.length + suf.length ≤ 1000 →
 (pairV suf = false → Ev (fun k => (spec_l4Above.f k (pre ++ suf)).bind fun t => spec_l4Twin.l0 k t) r) → (pairV suf = true → r = true) → Ev (fun k => spec_l4Twin.l1 k (pre ++ suf) pre.length) r
 | [], pre, he, hl, h1, h2 => by
  refine Ev.step (fun k => ?_) (h1 rfl)
  rw [spec_l4Twin.l1, wrap_id (by omega) (by omega), if_neg (by simp; omega)]
 | [a], pre, he, hl, h1, h2 => by
  simp only [List.length_cons, List.length_nil] at hl
  refine Ev.step (fun k => ?_) (h1 rfl)
  rw [spec_l4Twin.l1, wrap_id (by omega) (by omega), if_neg (by simp)]
 | a :: b :: t, pre, he, hl, h1, h2 => by
  simp only [List.length_cons] at hl
  have hb : rd (pre ++ a :: b :: t) ((pre.length : Int) + 1) = b := by
   have := rd_mid (pre ++ [a]) b t
   simpa using this
  by_cases hab : a = b
  · have hr : r = true := h2 (by simp [pairV, hab])
    subst hr
    refine ev_succ (fun k => ?_)
    rw [spec_l4Twin.l1, wrap_id (by omega) (by omega), if_pos (by simp; omega), if_pos (by omega), if_pos (by simp; omega), if_pos (by omega), rd_mid, hb, if_pos hab]
  · have ih := spec_l4Twin_l1 n r t (pre ++ [a, b]) (by simp; omega) (by simp; omega) (fun h => by simpa using h1 (by simp [pairV, hab, h])) (fun h => h2 (by simp [pairV, h]))
    refine Ev.step (fun k => ?_) ih
    rw [spec_l4Twin.l1, wrap_id (x := (pre.length : Int) + 1) (by omega) (by omega), wrap_id (by omega) (by omega), if_pos (by simp; omega), if_pos (by omega), if_pos (by simp; omega), if_pos (by omega), rd_mid, hb, if_neg hab]
    simp
theorem spec_l4Twin_l0 : ∀ (n : Nat) (l : List Int), l.length ≤ n + 1 → l.length ≤ 1000 → Ev (fun k => spec_l4Twin.l0 k l) (twinN n l)
 | n, l, h1, h2 => by
  by_cases h : l.length > 1
  · obtain ⟨m, rfl⟩ : ∃ m, n = m + 1 := ⟨n - 1, by omega⟩
    refine Ev.step (f := fun k => spec_l4Twin.l1 k l 0) (fun k => by rw [spec_l4Twin.l0, if_pos (by omega)]) ?_
    have hlen := aboveV_length l
    unfold twinN
    rw [if_pos h]
    refine spec_l4Twin_l1 m _ l [] rfl (by simpa using h2) (fun hp => ?_) (fun hp => by rw [hp]; rfl)
    rw [hp]
    exact ev_bind (spec_l4Above_ev h2) (spec_l4Twin_l0 m (aboveV l) (by omega) (by omega))
  · have e : twinN n l = false := by cases n <;> (unfold twinN; rw [if_neg h])
    rw [e]
    exact ev_succ (fun k => by rw [spec_l4Twin.l0, if_neg (by omega)])
theorem spec_l1Bits_eq (a : Int) : spec_l1Bits.f a = some (decide (1 ≤ a ∧ a ≤ 1023 ∧ Int.tmod a 256 > 0)) := by
 unfold spec_l1Bits.f; rw [spec_l1In_eq]
 by_cases h : 1 ≤ a ∧ a ≤ 1023
 · simp [h]
 · simp only [Option.bind_some, h, decide_false, Bool.false_eq_true, if_false]; congr 1; symm; simp; omega
theorem spec_l4Sum_eq (a : Int) : spec_l4Sum.f a = some (decide (0 ≤ a ∧ a ≤ 2147483646)) := by
 unfold spec_l4Sum.f; rw [spec_l1In_eq]; rfl
theorem spec_l6Sums_l0 (b : S72) (suf : List S27) : ∀ (pre : List S27), b.f4 = pre ++ suf → (∀ t ∈ suf, TxOk t) → pre.length + suf.length ≤ 100 →
 Ev (fun k => spec_l6Sums_in.l0 k [b] (sumsV pre) pre.length) (sumsV (pre ++ suf)) := by
 have hrd : rd_T72 [b] 0 = b := rfl
 induction suf with
 | nil => intro pre hb _ _; exact ev_succ (fun k => by rw [spec_l6Sums_in.l0, if_pos (by simp), hrd, if_neg (by rw [hb]; simp)]; simp)
 | cons t suf ih =>
  intro pre hb hs hl
  simp only [List.length_cons] at hl
  have h := ih (pre ++ [t]) (by rw [hb]; simp) (fun x hx => hs x (by simp [hx])) (by simp; omega)
  rw [show ((pre ++ [t]).length : Int) = (pre.length : Int) + 1 from by simp, show pre ++ [t] ++ suf = pre ++ t :: suf from by simp] at h
  refine Ev.step (f := fun k => (spec_l3Sum.f k t.f0 t.f1 t.f2).bind fun u => if (sumsV pre).length < 17592186044416 then spec_l6Sums_in.l0 k [b] (sumsV pre ++ [u]) ((pre.length : Int) + 1) else none) (fun k => ?_) (ev_bind (spec_l3Sum_ev (hs t (by simp))) (ev_if (by simp [sumsV]; omega) ?_))
  · rw [spec_l6Sums_in.l0, if_pos (by simp), hrd, if_pos (by rw [hb]; simp; omega), if_pos (by omega), hb, rdT, wrap_id (by omega) (by omega)]
  · simpa [sumsV, txS] using h
theorem spec_l6Sums_ev {b : S72} (hs : ∀ t ∈ b.f4, TxOk t) (hl : b.f4.length ≤ 100) : Ev (fun k => spec_l6Sums.f k b.f0 b.f1 b.f2 b.f3 b.f4) (sumsV b.f4) := by
 unfold spec_l6Sums.f spec_l6Sums_in.f
 have := spec_l6Sums_l0 b b.f4 [] (by simp) hs (by simpa using hl)
 simpa [sumsV] using this
theorem spec_l6Bases_l0 (b : S72) (suf : List S27) : ∀ (pre : List S27), b.f4 = pre ++ suf → pre.length + suf.length ≤ 1048576 →
 Ev (fun k => spec_l6Bases_in.l0 k [b] pre.length) (basesV ((pre.length : Int) == 0) suf) := by
 have hrd : rd_T72 [b] 0 = b := rfl
 induction suf with
 | nil => intro pre hb _; exact ev_succ (fun k => by rw [spec_l6Bases_in.l0, if_pos (by simp), hrd, if_neg (by rw [hb]; simp)]; simp [basesV])
 | cons t suf ih =>
  intro pre hb hl
  simp only [List.length_cons] at hl
  have h := ih (pre ++ [t]) (by rw [hb]; simp) (by simp; omega)
  rw [show ((pre ++ [t]).length : Int) = (pre.length : Int) + 1 from by simp, show ((pre.length : Int) + 1 == 0) = false from by rw [beq_eq_false_iff_ne]; omega] at h
  have hstep : ∀ k, spec_l6Bases_in.l0 (k + 1) [b] pre.length = if (((t.f1.length : Int) == 0) != ((pre.length : Int) == 0)) = true then some false else spec_l6Bases_in.l0 k [b] ((pre.length : Int) + 1) := by
   intro k
   rw [spec_l6Bases_in.l0, if_pos (by simp), hrd, if_pos (by rw [hb]; simp; omega), if_pos (by omega), hb, rdT, wrap_id (by omega) (by omega)]
  unfold basesV
  by_cases hq : ((t.f1.length : Int) == 0) = ((pre.length : Int) == 0)
  · rw [if_pos hq]
    exact Ev.step (fun k => by rw [hstep, if_neg (by rw [hq]; simp)]) h
  · rw [if_neg hq]
    exact ev_succ (fun k => by rw [hstep, if_pos (by rw [bne_iff_ne]; exact hq)])
theorem spec_l6Bases_ev {b : S72} (hl : b.f4.length ≤ 1048576) : Ev (fun k => spec_l6Bases.f k b.f0 b.f1 b.f2 b.f3 b.f4) (basesV true b.f4) := by
 unfold spec_l6Bases.f spec_l6Bases_in.f
 have := spec_l6Bases_l0 b b.f4 [] (by simp) (by simpa using hl)
 simpa using this
theorem spec_l6End_ev {b : S72} (hs : ∀ t ∈ b.f4, txF t = 0) (h4 : (b.f4.length : Int) ≤ 4) :
 Ev (fun k => (spec_l6Bases.f k b.f0 b.f1 b.f2 b.f3 b.f4).bind fun t302 => (if t302 = true then ((spec_l6Sums.f k b.f0 b.f1 b.f2 b.f3 b.f4).bind fun t304 => ((spec_l4Twin.f k t304).bind fun t307 => (if t307 = true then (some 6) else (some 0)))) else (some 1))) (endF b) := by
 unfold endF
 refine ev_bind (spec_l6Bases_ev (by omega)) ?_
 by_cases hb : basesV true b.f4 = true
 · rw [if_pos hb]
   refine ev_if hb (ev_bind (spec_l6Sums_ev (fun t ht => txF_ok (hs t ht)) (by omega)) ?_)
   have hlen : (sumsV b.f4).length = b.f4.length := by simp [sumsV]
   refine ev_bind (by unfold spec_l4Twin.f; exact spec_l4Twin_l0 7 _ (by omega) (by omega)) ?_
   by_cases ht : twinN 7 (sumsV b.f4) = true
   · rw [show (if twinN 7 (sumsV b.f4) = true then (6 : Int) else 0) = 6 from if_pos ht]; exact ev_if ht (Ev.now _)
   · rw [show (if twinN 7 (sumsV b.f4) = true then (6 : Int) else 0) = 0 from if_neg ht]; exact ev_ifn ht (Ev.now _)
 · rw [if_neg hb]; exact ev_ifn hb (Ev.now _)
theorem spec_l6Fault_l0 (b : S72) (e : Int) (suf : List S27) : ∀ (pre : List S27), b.f4 = pre ++ suf → (∀ t ∈ suf, TB t) → pre.length + suf.length ≤ 1048576 →
 ((∀ t ∈ suf, txF t = 0) → Ev (fun k => (spec_l6Bases.f k b.f0 b.f1 b.f2 b.f3 b.f4).bind fun t302 => (if t302 = true then ((spec_l6Sums.f k b.f0 b.f1 b.f2 b.f3 b.f4).bind fun t304 => ((spec_l4Twin.f k t304).bind fun t307 => (if t307 = true then (some 6) else (some 0)))) else (some 1))) e) →
 Ev (fun k => spec_l6Fault_in.l0 k [b] pre.length) (txsF suf e) := by
 have hrd : rd_T72 [b] 0 = b := rfl
 induction suf with
 | nil =>
  intro pre hb _ _ he
  refine Ev.step (fun k => ?_) (he (by simp))
  rw [spec_l6Fault_in.l0, if_pos (by simp), hrd, if_neg (by rw [hb]; simp)]
 | cons t suf ih =>
  intro pre hb hs hl he
  simp only [List.length_cons] at hl
  have ht := hs t (by simp)
  unfold txsF
  refine Ev.step (f := fun k => (spec_l3Fault.f k t.f0 t.f1 t.f2).bind fun t300 => if t300 = 0 then spec_l6Fault_in.l0 k [b] ((pre.length : Int) + 1) else some t300) (fun k => ?_) (ev_bind (spec_l3Fault_ev ht.1 ht.2) ?_)
  · rw [spec_l6Fault_in.l0, if_pos (by simp), hrd, if_pos (by rw [hb]; simp; omega), if_pos (by omega), hb, rdT, wrap_id (by omega) (by omega)]
  · by_cases h0 : txF t = 0
    · rw [if_pos h0]
      have h := ih (pre ++ [t]) (by rw [hb]; simp) (fun x hx => hs x (by simp [hx])) (by simp; omega) (fun hx => he (fun y hy => by rcases List.mem_cons.1 hy with rfl | hy; exact h0; exact hx y hy))
      rw [show ((pre ++ [t]).length : Int) = (pre.length : Int) + 1 from by simp] at h
      exact ev_if h0 h
    · rw [if_neg h0]; exact ev_ifn h0 (Ev.now _)
theorem spec_l6Fault_ev {b : S72} (hl : b.f4.length ≤ 1048576) (hs : ∀ t ∈ b.f4, TB t) : Ev (fun k => spec_l6Fault.f k b.f0 b.f1 b.f2 b.f3 b.f4) (blockF b) := by
 unfold spec_l6Fault.f spec_l6Fault_in.f
 have hrd : rd_T72 [b] 0 = b := rfl
 have hb : (⟨b.f0, b.f1, b.f2, b.f3, b.f4⟩ : S72) = b := rfl
 rw [hb]
 refine ev_if (by simp) ?_
 rw [hrd]
 refine Ev.congr (f := fun k => spec_l6Fault_in.j0 k [b] (!headV b)) (fun k => ?_) ?_
 · rw [spec_l4Sum_eq, spec_l1In_eq, spec_l1Bits_eq, spec_l1In_eq]
   simp only [Option.bind_some, headV]
   cases decide (0 ≤ b.f0 ∧ b.f0 ≤ 2147483646) <;> cases decide (1 ≤ b.f1 ∧ b.f1 ≤ 99999) <;> cases decide (1 ≤ b.f2 ∧ b.f2 ≤ 1023 ∧ Int.tmod b.f2 256 > 0) <;> simp
 · unfold blockF
   cases hh : headV b with
   | false => exact ev_succ (fun k => by rw [spec_l6Fault_in.j0]; simp)
   | true =>
    rw [if_pos rfl]
    have bad : Ev (fun k => spec_l6Fault_in.j1 k [b] true) 2 := ev_succ (fun k => by rw [spec_l6Fault_in.j1, if_pos rfl])
    by_cases h1 : (b.f4.length : Int) < 1
    · rw [if_pos (.inl h1)]
      exact Ev.step (fun k => by rw [spec_l6Fault_in.j0, if_neg (by decide), if_pos (by simp), hrd, if_pos h1]) bad
    · by_cases h4 : (b.f4.length : Int) > 4
      · rw [if_pos (.inr h4)]
        exact Ev.step (fun k => by rw [spec_l6Fault_in.j0, if_neg (by decide), if_pos (by simp), hrd, if_neg h1, decide_eq_true h4]) bad
      · rw [if_neg (by omega)]
        have h := spec_l6Fault_l0 b (endF b) b.f4 [] (by simp) hs (by simpa using hl) (fun hx => spec_l6End_ev hx (by omega))
        refine Ev.step (f := fun k => spec_l6Fault_in.j1 k [b] false) (fun k => by rw [spec_l6Fault_in.j0, if_neg (by decide), if_pos (by simp), hrd, if_neg h1, decide_eq_false h4]) ?_
        exact Ev.step (fun k => by rw [spec_l6Fault_in.j1, if_neg (by decide)]) (by simpa using h)
theorem impl_badCell_eq (x : Int) : impl_badCell.f x = some (!decide (0 ≤ x ∧ x ≤ 9999)) := by
 unfold impl_badCell.f; rw [impl_in_eq]; rfl
theorem inFault_1_eq (x y : S34) : impl_inFault_1_in.f y.f0 y.f1 y.f2 [x] = some (sameIn x y) := by
 have hrd : rd_T34 [x] 0 = x := rfl
 unfold impl_inFault_1_in.f sameIn
 rw [if_pos (by simp), hrd]
 by_cases h : x.f0 = y.f0 <;> simp [h]
theorem inFault_index (x : S34) (suf : List S34) : ∀ (pre : List S34) (n : Int), n = (pre.length : Int) + suf.length → n ≤ 1048576 →
 ∃ r : Int, Ev (fun k => impl_IndexFunc_at_impl_inFault_1_in.l0 k (pre ++ suf) [x] n pre.length) r ∧ decide (r ≥ 0) = suf.any (sameIn x) := by
 induction suf with
 | nil => intro pre n hn _; subst hn; exact ⟨-1, ev_succ (fun k => by rw [impl_IndexFunc_at_impl_inFault_1_in.l0, if_neg (by simp)]), by simp⟩
 | cons b suf ih =>
  intro pre n hn hl
  simp only [List.length_cons, Int.natCast_add, Int.natCast_one] at hn
  cases hb : sameIn x b with
  | true =>
   refine ⟨pre.length, ev_succ (fun k => ?_), by simp [hb]⟩
   rw [impl_IndexFunc_at_impl_inFault_1_in.l0, if_pos (by omega), if_pos (by omega), if_pos (by simp; omega), rdI, inFault_1_eq, hb]
   rfl
  | false =>
   obtain ⟨r, h, hr⟩ := ih (pre ++ [b]) n (by simp; omega) hl
   refine ⟨r, Ev.step (fun k => ?_) h, by simp [hb, hr]⟩
   rw [impl_IndexFunc_at_impl_inFault_1_in.l0, if_pos (by omega), if_pos (by omega), if_pos (by simp; omega), rdI, inFault_1_eq, hb, wrap_id (by omega) (by omega)]
   simp
theorem inFault_any (x : S34) {l : List S34} (hl : (l.length : Int) ≤ 1048576) : Ev (fun k => impl_ContainsFunc_at_impl_inFault_1.f k l x.f0 x.f1 x.f2) (l.any (sameIn x)) := by
 obtain ⟨r, h, hr⟩ := inFault_index x l [] l.length (by simp) hl
 rw [← hr]
 unfold impl_ContainsFunc_at_impl_inFault_1.f impl_ContainsFunc_at_impl_inFault_1_in.f impl_IndexFunc_at_impl_inFault_1_in.f
 exact ev_bind (by simpa using h) (Ev.now _)
theorem any_not_all (l : List Int) : l.any (fun x => !decide (0 ≤ x ∧ x ≤ 9999)) = !decide (AllIn l 0 9999) := by
 induction l with
 | nil => simp [AllIn]
 | cons b l ih =>
  rw [List.any_cons, ih]
  by_cases hb : 0 ≤ b ∧ b ≤ 9999 <;> simp [AllIn_cons, hb]
theorem impl_inFault_ev (pre : List S34) (x : S34) (hx : (x.f2.length : Int) ≤ 1048576) (hl : (pre.length : Int) ≤ 1048576) : Ev (fun k => impl_inFault.f k x.f0 x.f1 x.f2 pre) (inF pre x) := by
 unfold impl_inFault.f
 refine Ev.congr (f := fun k => impl_inFault.j0 k pre (inBad x) x.f0 x.f1 x.f2) (fun k => ?_) ?_
 · rw [impl_isSum_eq, impl_in_eq]
   simp only [Option.bind_some, inBad]
   cases decide (0 ≤ x.f0 ∧ x.f0 ≤ 2147483646) <;> cases decide (0 ≤ x.f1 ∧ x.f1 ≤ 3) <;> simp
 · unfold inF
   cases hb : inBad x with
   | true => exact ev_succ (fun k => by rw [impl_inFault.j0]; simp)
   | false =>
    rw [if_neg (by decide)]
    refine Ev.step (fun k => by rw [impl_inFault.j0, if_neg (by decide)]) ?_
    by_cases h8 : (x.f2.length : Int) > 8
    · rw [if_pos h8]; exact ev_if h8 (Ev.now _)
    · rw [if_neg h8]
      refine ev_ifn h8 (ev_bind (slices_ContainsFunc_at_impl_badCell_ev _ impl_badCell_eq (by omega)) ?_)
      rw [any_not_all]
      by_cases ha : decide (AllIn x.f2 0 9999) = true
      · rw [if_pos ha, ha]
        refine ev_ifn (by decide) (ev_bind (inFault_any x hl) ?_)
        by_cases hh : pre.any (sameIn x) = true
        · rw [if_pos hh, if_pos hh]; exact Ev.now _
        · rw [if_neg hh, if_neg hh]; exact Ev.now _
      · rw [if_neg ha]; exact ev_if (by simpa using ha) (Ev.now _)
theorem impl_outSum_l0 (suf : List S86) : ∀ (pre : List S86) (a : Int) (n : Int), n = (pre.length : Int) + suf.length → n ≤ 1048576 →
 Ev (fun k => impl_outSum.l0 k a (pre ++ suf) n pre.length) (outSumF a suf) := by
 induction suf with
 | nil => intro pre a n hn _; subst hn; exact ev_succ (fun k => by rw [impl_outSum.l0, if_neg (by simp)]; rfl)
 | cons b suf ih =>
  intro pre a n hn hl
  simp only [List.length_cons, Int.natCast_add, Int.natCast_one] at hn
  have h := ih (pre ++ [b]) (wrap64 (a + b.f0)) n (by simp; omega) hl
  refine Ev.step (fun k => ?_) (by simpa [outSumF] using h)
  rw [impl_outSum.l0, if_pos (by omega), if_pos (by omega), if_pos (by simp; omega), rdO, wrap_id (x := (pre.length : Int) + 1) (by omega) (by omega)]
theorem impl_outSum_ev {l : List S86} (hl : l.length ≤ 1048576) : Ev (fun k => impl_outSum.f k l) (outSumF 0 l) := by
 unfold impl_outSum.f
 exact impl_outSum_l0 l [] 0 l.length (by simp) (by omega)
theorem impl_TxFault_l1 (t : S27) (h2 : t.f2.length ≤ 1048576) (suf : List S86) : ∀ (pre : List S86) (n : Int), n = (pre.length : Int) + suf.length → (∀ x ∈ suf, (x.f1.length : Int) ≤ 1048576) → n ≤ 1048576 →
 Ev (fun k => impl_TxFault.l1 k (pre ++ suf) n pre.length t.f0 t.f1 t.f2) (outsF suf (endV (outSumF 0 t.f2))) := by
 induction suf with
 | nil =>
  intro pre n hn _ _
  simp only [List.length_nil, Int.natCast_zero, Int.add_zero] at hn
  simp only [outsF, endV]
  refine Ev.step (f := fun k => (impl_outSum.f k t.f2).bind fun s => (impl_isAmount.f s).bind fun c => if c = true then some 0 else some 7) (fun k => ?_) (ev_bind (impl_outSum_ev h2) (ev_bind0 (impl_isAmount_eq _) ?_))
  · rw [impl_TxFault.l1, if_neg (by omega)]
  · by_cases h : 0 ≤ outSumF 0 t.f2 ∧ outSumF 0 t.f2 ≤ 1000000
    · rw [if_pos h]; exact ev_if (by simpa using h) (Ev.now _)
    · rw [if_neg h]; exact ev_ifn (by simpa using h) (Ev.now _)
 | cons b suf ih =>
  intro pre n hn hs hl
  simp only [List.length_cons, Int.natCast_add, Int.natCast_one] at hn
  have h := ih (pre ++ [b]) n (by simp; omega) (fun x hx => hs x (by simp [hx])) hl
  rw [show ((pre ++ [b]).length : Int) = (pre.length : Int) + 1 from by simp, show pre ++ [b] ++ suf = pre ++ b :: suf from by simp] at h
  simp only [outsF]
  by_cases hb : 0 ≤ b.f0 ∧ b.f0 ≤ 1000000
  · rw [if_pos hb]
    refine Ev.step (f := fun k => (impl_ProgramFault.f k b.f1).bind fun t1 => if t1 = 0 then impl_TxFault.l1 k (pre ++ b :: suf) n ((pre.length : Int) + 1) t.f0 t.f1 t.f2 else some t1) (fun k => ?_) (ev_bind (impl_ProgramFault_ev (by have := hs b (by simp); omega)) ?_)
    · rw [impl_TxFault.l1, if_pos (by omega), if_pos (by omega), if_pos (by simp; omega), rdO, impl_isAmount_eq, wrap_id (x := (pre.length : Int) + 1) (by omega) (by omega)]
      simp [hb]
    · by_cases hf : faultP b.f1 = 0
      · rw [if_pos hf]; exact ev_if hf h
      · rw [if_neg hf]; exact ev_ifn hf (Ev.now _)
  · rw [if_neg hb]
    refine ev_succ (fun k => ?_)
    rw [impl_TxFault.l1, if_pos (by omega), if_pos (by omega), if_pos (by simp; omega), rdO, impl_isAmount_eq]
    simp [hb]
theorem impl_TxFault_l0 (t : S27) (e : Int) (he : Ev (fun k => impl_TxFault.l1 k t.f2 (t.f2.length : Int) 0 t.f0 t.f1 t.f2) e) (suf : List S34) : ∀ (pre : List S34), t.f1 = pre ++ suf → (∀ x ∈ suf, (x.f2.length : Int) ≤ 1048576) → (pre.length : Int) + suf.length ≤ 1048576 →
 Ev (fun k => impl_TxFault.l0 k t.f1 (t.f1.length : Int) pre.length t.f0 t.f1 t.f2) (insF pre suf e) := by
 induction suf with
 | nil =>
  intro pre ht _ _
  refine Ev.step (fun k => ?_) he
  rw [impl_TxFault.l0, if_neg (by rw [ht]; simp)]
 | cons b suf ih =>
  intro pre ht hs hl
  simp only [List.length_cons, Int.natCast_add, Int.natCast_one] at hl
  have h := ih (pre ++ [b]) (by rw [ht]; simp) (fun x hx => hs x (by simp [hx])) (by simp; omega)
  rw [show ((pre ++ [b]).length : Int) = (pre.length : Int) + 1 from by simp] at h
  have hlen : (t.f1.length : Int) = (pre.length : Int) + (suf.length + 1) := by rw [ht]; simp
  have e1 : rd_T34 t.f1 (pre.length : Int) = b := by rw [ht]; exact rdI pre b suf
  have e2 : t.f1.take ((pre.length : Int)).toNat = pre := by rw [ht]; simp
  refine Ev.step (f := fun k => (impl_inFault.f k b.f0 b.f1 b.f2 pre).bind fun t7 => if t7 = 0 then impl_TxFault.l0 k t.f1 (t.f1.length : Int) ((pre.length : Int) + 1) t.f0 t.f1 t.f2 else some t7) (fun k => ?_) (ev_bind (impl_inFault_ev pre b (hs b (by simp)) (by omega)) ?_)
  · rw [impl_TxFault.l0, if_pos (by omega), if_pos (by omega), if_pos (by omega), if_pos (by omega), e1, e2, wrap_id (x := (pre.length : Int) + 1) (by omega) (by omega)]
  · unfold insF
    by_cases hf : inF pre b = 0
    · rw [if_pos hf]; exact ev_if hf h
    · rw [if_neg hf]; exact ev_ifn hf (Ev.now _)
theorem impl_TxFault_ev {t : S27} (h1 : t.f1.length ≤ 1048576 ∧ ∀ x ∈ t.f1, (x.f2.length : Int) ≤ 1048576) (h2 : t.f2.length ≤ 1048576 ∧ ∀ x ∈ t.f2, (x.f1.length : Int) ≤ 1048576) : Ev (fun k => impl_TxFault.f k t.f0 t.f1 t.f2) (txF t) := by
 unfold impl_TxFault.f txF
 refine ev_bind0 (impl_in_eq _ _ _) ?_
 by_cases hn : 0 ≤ t.f0 ∧ t.f0 ≤ 65535
 · rw [if_pos hn]
   refine ev_if (by simpa using hn) ?_
   by_cases c1 : (t.f1.length : Int) > 4
   · rw [if_pos (.inl c1)]; exact ev_if c1 (Ev.now _)
   · refine ev_ifn c1 (ev_bind0 (impl_in_eq _ _ _) ?_)
     by_cases c2 : 1 ≤ (t.f2.length : Int) ∧ (t.f2.length : Int) ≤ 4
     · rw [if_neg (by omega)]
       refine ev_if (by simpa using c2) ?_
       have l1 := impl_TxFault_l1 t h2.1 t.f2 [] t.f2.length (by simp) h2.2 (by omega)
       have := impl_TxFault_l0 t _ (by simpa using l1) t.f1 [] (by simp) h1.2 (by simp; omega)
       simpa using this
     · rw [if_pos (by omega)]; exact ev_ifn (by simpa using c2) (Ev.now _)
 · rw [if_neg hn]; exact ev_ifn (by simpa using hn) (Ev.now _)
theorem impl_putVar_eq (n : Int) : impl_putVar.f n = some (varB n) := by
 unfold impl_putVar.f varB; split <;> rfl
theorem slices_Concat_byte_byte_rd (pre : List (List Int)) (b : List Int) (suf : List (List Int)) : rd_L15 (pre ++ b :: suf) (pre.length : Int) = b := by
 unfold rd_L15
 simp
theorem slices_Concat_byte_byte_l1 (suf : List (List Int)) : ∀ (pre : List (List Int)) (acc : List Int), pre.length + suf.length ≤ 100000 → acc.length + suf.flatten.length ≤ 1000000000 →
 Ev (fun k => slices_Concat_byte_byte.l1 k acc (pre ++ suf) ((pre ++ suf).length : Int) pre.length) (acc ++ suf.flatten) := by
 induction suf with
 | nil => intro pre acc _ _; exact ev_succ (fun k => by rw [slices_Concat_byte_byte.l1, if_neg (by simp)]; simp)
 | cons b suf ih =>
  intro pre acc h1 h2
  simp only [List.length_cons, List.flatten_cons, List.length_append] at h1 h2
  have h := ih (pre ++ [b]) (acc ++ b) (by simp; omega) (by simp only [List.length_append]; omega)
  refine Ev.step (fun k => ?_) (by simpa using h)
  rw [slices_Concat_byte_byte.l1, if_pos (by simp; omega), if_pos (by omega), if_pos (by simp; omega), slices_Concat_byte_byte_rd, if_pos (by omega), wrap_id (by omega) (by omega)]
  simp
theorem slices_Concat_byte_byte_l0 (suf : List (List Int)) : ∀ (pre : List (List Int)) (n : Int), 0 ≤ n → n + suf.flatten.length ≤ 1000000000 → pre.length + suf.length ≤ 100000 → (pre ++ suf).flatten.length ≤ 1000000000 →
 Ev (fun k => slices_Concat_byte_byte.l0 k (pre ++ suf) n (pre ++ suf) ((pre ++ suf).length : Int) pre.length) (pre ++ suf).flatten := by
 induction suf with
 | nil =>
  intro pre n h0 h1 h2 h3
  refine Ev.step (f := fun k => (slices_Grow_at_nil.f n).bind fun t => slices_Concat_byte_byte.l1 k t (pre ++ []) ((pre ++ []).length : Int) 0) (fun k => by rw [slices_Concat_byte_byte.l0, if_neg (by simp)]) ?_
  refine ev_bind0 (a := []) (by unfold slices_Grow_at_nil.f; rw [if_pos h0, if_pos (by simp at h1; omega)]) ?_
  have := slices_Concat_byte_byte_l1 (pre ++ []) [] [] (by simpa using h2) (by simpa using h3)
  simpa using this
 | cons b suf ih =>
  intro pre n h0 h1 h2 h3
  simp only [List.length_cons, List.flatten_cons, List.length_append] at h1 h2
  have h := ih (pre ++ [b]) (n + b.length) (by omega) (by omega) (by simp; omega) (by simpa using h3)
  refine Ev.step (fun k => ?_) (by simpa using h)
  rw [slices_Concat_byte_byte.l0, if_pos (by simp; omega), if_pos (by omega), if_pos (by simp; omega), slices_Concat_byte_byte_rd, wrap_id (x := n + (b.length : Int)) (by omega) (by omega), if_neg (by omega), wrap_id (by omega) (by omega)]
  simp
theorem slices_Concat_byte_byte_ev {x : List (List Int)} (h1 : x.length ≤ 100000) (h2 : x.flatten.length ≤ 1000000000) : Ev (fun k => slices_Concat_byte_byte.f k x) x.flatten := by
 have := slices_Concat_byte_byte_l0 x [] 0 (by omega) (by omega) (by simpa using h1) (by simpa using h2)
 unfold slices_Concat_byte_byte.f
 simpa using this
theorem impl_halves_eq {n : Int} (h0 : 0 ≤ n) (h1 : n ≤ 9223372036854775807) : impl_halves.f n = some (bigB n) := by
 unfold impl_halves.f bigB
 rw [Int.tmod_eq_emod_of_nonneg h0, Int.tdiv_eq_ediv_of_nonneg h0, wrap_id (by omega) (by omega), impl_putVar_eq, impl_putVar_eq]
 simp only [Option.bind_some]
 have a := varB_len (n % 65536)
 have b := varB_len (n / 65536)
 rw [if_pos (by omega)]
theorem impl_numbers_l0 (suf : List Int) : ∀ (pre acc : List Int) (n : Int), n = (pre.length : Int) + suf.length → n ≤ 1000 → acc.length + 3 * suf.length ≤ 100000 →
 Ev (fun k => impl_numbers.l0 k acc (pre ++ suf) n pre.length) (acc ++ (suf.map varB).flatten) := by
 induction suf with
 | nil => intro pre acc n hn _ _; subst hn; exact ev_succ (fun k => by rw [impl_numbers.l0, if_neg (by simp)]; simp)
 | cons b suf ih =>
  intro pre acc n hn hp hl
  simp only [List.length_cons, Int.natCast_add, Int.natCast_one] at hn hl
  have hv := varB_len b
  have h := ih (pre ++ [b]) (acc ++ varB b) n (by simp; omega) hp (by simp only [List.length_append]; omega)
  rw [show ((pre ++ [b]).length : Int) = (pre.length : Int) + 1 from by simp, show pre ++ [b] ++ suf = pre ++ b :: suf from by simp] at h
  refine Ev.step (fun k => ?_) (by simpa using h)
  rw [impl_numbers.l0, if_pos (by omega), if_pos (by omega), if_pos (by simp; omega), rd_mid, impl_putVar_eq]
  simp only [Option.bind_some]
  rw [if_pos (by omega), wrap_id (by omega) (by omega)]
theorem impl_numbers_ev {l : List Int} (hl : l.length ≤ 1000) : Ev (fun k => impl_numbers.f k l) (listB l) := by
 unfold impl_numbers.f listB
 have hv := varB_len (l.length : Int)
 refine ev_bind0 (impl_putVar_eq _) ?_
 have := impl_numbers_l0 l [] (varB l.length) l.length (by simp) (by omega) (by omega)
 simpa using this
theorem impl_packTx_l1 (suf : List S86) : ∀ (pre : List S86) (acc : List Int) (n : Int), n = (pre.length : Int) + suf.length → n ≤ 4 → (∀ y ∈ suf, OutOk y) → acc.length + 45 * suf.length ≤ 100000 →
 Ev (fun k => impl_packTx.l1 k acc (pre ++ suf) n pre.length) (acc ++ (suf.map outB).flatten) := by
 induction suf with
 | nil => intro pre acc n hn _ _ _; subst hn; exact ev_succ (fun k => by rw [impl_packTx.l1, if_neg (by simp)]; simp)
 | cons b suf ih =>
  intro pre acc n hn hp hs hl
  simp only [List.length_cons, Int.natCast_add, Int.natCast_one] at hn hl
  have hb := hs b (by simp)
  have l1 := bigB_len b.f0
  have l2 := listB_len hb.2.1
  have h := ih (pre ++ [b]) (acc ++ (bigB b.f0 ++ listB b.f1)) n (by simp; omega) hp (fun y hy => hs y (by simp [hy])) (by simp only [List.length_append]; omega)
  rw [show ((pre ++ [b]).length : Int) = (pre.length : Int) + 1 from by simp, show pre ++ [b] ++ suf = pre ++ b :: suf from by simp] at h
  refine Ev.step (f := fun k => (impl_numbers.f k b.f1).bind fun t215 => (slices_Concat_byte_byte.f k (([acc, bigB b.f0, t215] : List (List Int)))).bind fun t221 => impl_packTx.l1 k t221 (pre ++ b :: suf) n ((pre.length : Int) + 1)) (fun k => ?_) (ev_bind (impl_numbers_ev (by have := hb.2.1; omega)) (ev_bind (slices_Concat_byte_byte_ev (by simp) (by simp; omega)) (by simpa [outB] using h)))
  rw [impl_packTx.l1, if_pos (by omega), if_pos (by omega), if_pos (by simp; omega), rdO, impl_halves_eq (by have := hb.1; omega) (by have := hb.1; omega), wrap_id (by omega) (by omega)]
  simp only [Option.bind_some]
theorem impl_packTx_l0 (a0 : Int) (i1 : List S34) (o : List S86) (ho : ∀ y ∈ o, OutOk y) (h2 : o.length ≤ 4) (suf : List S34) : ∀ (pre : List S34) (acc : List Int) (n : Int), n = (pre.length : Int) + suf.length → n ≤ 4 → (∀ x ∈ suf, InOk x) → acc.length + 36 * suf.length ≤ 10000 →
 Ev (fun k => impl_packTx.l0 k acc (pre ++ suf) n pre.length a0 i1 o) (acc ++ ((suf.map (inB true)).flatten ++ (varB o.length ++ (o.map outB).flatten))) := by
 induction suf with
 | nil =>
  intro pre acc n hn _ _ hl
  subst hn
  have hv := varB_len (o.length : Int)
  have h := impl_packTx_l1 o [] (acc ++ varB o.length) o.length (by simp) (by omega) ho (by simp only [List.length_append]; omega)
  refine Ev.step (f := fun k => impl_packTx.l1 k (acc ++ varB o.length) o o.length 0) (fun k => ?_) (by simpa using h)
  rw [impl_packTx.l0, if_neg (by simp), impl_putVar_eq]
  simp only [Option.bind_some]
  rw [if_pos (by omega)]
 | cons b suf ih =>
  intro pre acc n hn hp hs hl
  simp only [List.length_cons, Int.natCast_add, Int.natCast_one] at hn hl
  have hb := hs b (by simp)
  have l1 := bigB_len b.f0
  have l2 := listB_len hb.2.2.1
  have l3 := varB_len b.f1
  have h := ih (pre ++ [b]) (acc ++ (bigB b.f0 ++ (varB b.f1 ++ listB b.f2))) n (by simp; omega) hp (fun y hy => hs y (by simp [hy])) (by simp only [List.length_append]; omega)
  rw [show ((pre ++ [b]).length : Int) = (pre.length : Int) + 1 from by simp, show pre ++ [b] ++ suf = pre ++ b :: suf from by simp] at h
  refine Ev.step (f := fun k => (impl_numbers.f k b.f2).bind fun t195 => (slices_Concat_byte_byte.f k (([acc, bigB b.f0, varB b.f1, t195] : List (List Int)))).bind fun t201 => impl_packTx.l0 k t201 (pre ++ b :: suf) n ((pre.length : Int) + 1) a0 i1 o) (fun k => ?_) (ev_bind (impl_numbers_ev (by have := hb.2.2.1; omega)) (ev_bind (slices_Concat_byte_byte_ev (by simp) (by simp; omega)) (by simpa [inB] using h)))
  rw [impl_packTx.l0, if_pos (by omega), if_pos (by omega), if_pos (by simp; omega), rdI, impl_halves_eq (by have := hb.1; omega) (by have := hb.1; omega), wrap_id (by omega) (by omega), impl_putVar_eq]
  simp only [Option.bind_some]
theorem impl_packTx_ev {t : S27} (h : TxOk t) : Ev (fun k => impl_packTx.f k t.f0 t.f1 t.f2) (packB true t) := by
 unfold impl_packTx.f packB
 obtain ⟨h0, h1, h2, hi, ho⟩ := h
 have v1 := varB_len t.f0
 have v2 := varB_len (t.f1.length : Int)
 refine ev_bind0 (impl_putVar_eq _) (ev_bind0 (impl_putVar_eq _) (ev_if (by omega) ?_))
 have := impl_packTx_l0 t.f0 t.f1 t.f2 ho h2.2 t.f1 [] (varB t.f0 ++ varB t.f1.length) t.f1.length (by simp) (by omega) hi (by simp only [List.length_append]; omega)
 simpa using this
def bareIn (x : S34) : S34 := ⟨x.f0, x.f1, []⟩
def bareTx (t : S27) : S27 := ⟨t.f0, t.f1.map bareIn, t.f2⟩
theorem bareIn_ok {x : S34} (h : InOk x) : InOk (bareIn x) := ⟨h.1, h.2.1, by simp [bareIn], by simp [bareIn, AllIn]⟩
theorem bareTx_ok {t : S27} (h : TxOk t) : TxOk (bareTx t) := by
 obtain ⟨h0, h1, h2, hi, ho⟩ := h
 refine ⟨h0, by simpa [bareTx] using h1, h2, fun x hx => ?_, ho⟩
 obtain ⟨y, hy, rfl⟩ := List.mem_map.1 hx
 exact bareIn_ok (hi y hy)
theorem listB_nil : listB [] = [0] := by simp [listB, varB]
theorem packB_bare (t : S27) : packB true (bareTx t) = packB false t := by
 unfold packB bareTx
 simp only [List.length_map, List.map_map]
 have : (inB true ∘ bareIn) = inB false := by funext x; simp [inB, bareIn, listB_nil]
 rw [this]
theorem impl_txSum_l0 {t : S27} (ht : TxOk t) (suf : List S34) : ∀ (pre : List S34) (n : Int), t.f1 = pre ++ suf → n = (pre.length : Int) + suf.length → n ≤ 4 →
 Ev (fun k => impl_txSum.l0 k (pre ++ suf) n pre.length t.f0 (pre.map bareIn) t.f2) (sumB (packB false t)) := by
 induction suf with
 | nil =>
  intro pre n he hn _
  subst hn
  have hp : t.f1.map bareIn = pre.map bareIn := by rw [he]; simp
  have h := impl_packTx_ev (bareTx_ok ht)
  rw [packB_bare] at h
  have hl : (packB false t).length ≤ 1000 := by
   unfold packB
   obtain ⟨h0, h1, h2, hi, ho⟩ := ht
   have v1 := varB_len t.f0
   have v2 := varB_len (t.f1.length : Int)
   have v3 := varB_len (t.f2.length : Int)
   have f1 := flat_len (f := inB false) (n := 36) (l := t.f1) (fun x hx => inB_len (hi x hx))
   have f2 := flat_len (f := outB) (n := 45) (l := t.f2) (fun x hx => outB_len (ho x hx))
   simp only [List.length_append]
   omega
  refine Ev.step (f := fun k => (impl_packTx.f k t.f0 (pre.map bareIn) t.f2).bind fun t231 => (impl_sumOf.f k t231).bind fun t234 => some t234) (fun k => by rw [impl_txSum.l0, if_neg (by simp)]) ?_
  rw [← hp]
  exact ev_bind h (ev_bind (impl_sumOf_ev (packB_bytes _ _) (by omega)) (Ev.now _))
 | cons b suf ih =>
  intro pre n he hn hp
  simp only [List.length_cons, Int.natCast_add, Int.natCast_one] at hn
  have h := ih (pre ++ [b]) n (by rw [he]; simp) (by simp; omega) hp
  rw [show ((pre ++ [b]).length : Int) = (pre.length : Int) + 1 from by simp, show pre ++ [b] ++ suf = pre ++ b :: suf from by simp] at h
  refine Ev.step (fun k => ?_) h
  rw [impl_txSum.l0, if_pos (by omega), if_pos (by omega), if_pos (by simp; omega), if_pos (by simp; omega), rdI, wrap_id (by omega) (by omega)]
  simp [bareIn]
theorem impl_txSum_ev {t : S27} (h : TxOk t) : Ev (fun k => impl_txSum.f k t.f0 t.f1 t.f2) (sumB (packB false t)) := by
 unfold impl_txSum.f
 have h1 := h.2.1
 have := impl_txSum_l0 h t.f1 [] t.f1.length (by simp) (by simp) (by omega)
 simpa using this
theorem issum_same : True := trivial
theorem slices_IndexFunc_at_impl_sumsFault_1_l0 (p : Int → Bool) (hp : ∀ x, impl_sumsFault_1.f x = some (p x)) (suf : List Int) : ∀ (pre : List Int), (pre.length : Int) + suf.length ≤ 9223372036854775806 →
 ∃ r : Int, Ev (fun k => slices_IndexFunc_at_impl_sumsFault_1.l0 k (pre ++ suf) ((pre ++ suf).length : Int) pre.length) r ∧ decide (r ≥ 0) = suf.any p := by
 induction suf with
 | nil => intro pre _; exact ⟨-1, ev_succ (fun k => by rw [slices_IndexFunc_at_impl_sumsFault_1.l0, if_neg (by simp)]), by simp⟩
 | cons b suf ih =>
  intro pre hl
  simp only [List.length_cons, Int.natCast_add, Int.natCast_one] at hl
  cases hb : p b with
  | true =>
   refine ⟨pre.length, ev_succ (fun k => ?_), by simp [hb]⟩
   rw [slices_IndexFunc_at_impl_sumsFault_1.l0, if_pos (by simp; omega), if_pos (by omega), if_pos (by simp; omega), rd_mid, hp, hb]
   rfl
  | false =>
   obtain ⟨r, h, hr⟩ := ih (pre ++ [b]) (by simp; omega)
   refine ⟨r, Ev.step (fun k => ?_) h, by simp [hb, hr]⟩
   rw [slices_IndexFunc_at_impl_sumsFault_1.l0, if_pos (by simp; omega), if_pos (by omega), if_pos (by simp; omega), rd_mid, hp, hb, wrap_id (by omega) (by omega)]
   simp
theorem slices_ContainsFunc_at_impl_sumsFault_1_ev (p : Int → Bool) (hp : ∀ x, impl_sumsFault_1.f x = some (p x)) {l : List Int} (hl : (l.length : Int) ≤ 9223372036854775806) :
 Ev (fun k => slices_ContainsFunc_at_impl_sumsFault_1.f k l) (l.any p) := by
 obtain ⟨r, h, hr⟩ := slices_IndexFunc_at_impl_sumsFault_1_l0 p hp l [] (by simpa using hl)
 rw [← hr]
 unfold slices_ContainsFunc_at_impl_sumsFault_1.f slices_IndexFunc_at_impl_sumsFault_1.f
 exact ev_bind (by simpa using h) (Ev.now _)
def badSum (x : Int) : Bool := !decide (0 ≤ x ∧ x ≤ 2147483646)
theorem impl_sumsFault_1_eq (x : Int) : impl_sumsFault_1.f x = some (badSum x) := by
 unfold impl_sumsFault_1.f badSum; rw [impl_isSum_eq]; rfl
theorem any_badSum (l : List Int) : l.any badSum = !decide (AllIn l 0 2147483646) := by
 induction l with
 | nil => simp [AllIn]
 | cons b l ih => simp only [List.any_cons, ih, badSum]; by_cases h : 0 ≤ b ∧ b ≤ 2147483646 <;> by_cases h2 : AllIn l 0 2147483646 <;> simp [AllIn_cons, h, h2]
theorem impl_sumsFault_ev {l : List Int} (hl : (l.length : Int) ≤ 9223372036854775806) : Ev (fun k => impl_sumsFault.f k l) (if AllIn l 0 2147483646 then 0 else 3) := by
 unfold impl_sumsFault.f
 refine ev_bind (slices_ContainsFunc_at_impl_sumsFault_1_ev badSum impl_sumsFault_1_eq hl) ?_
 rw [any_badSum]
 by_cases h : AllIn l 0 2147483646
 · rw [if_pos h]; exact ev_ifn (by simp [h]) (Ev.now _)
 · rw [if_neg h]; exact ev_if (by simp [h]) (Ev.now _)
theorem impl_xor_all : ∀ n : Nat, n < 1024 → Go.bits .xor .i64 (n : Int) 1 = if n % 2 = 1 then (n : Int) - 1 else n + 1 := by decide +kernel
theorem impl_partner_eq (l : List Int) (i : Nat) (hi : i < l.length) (hl : l.length ≤ 1000) : impl_partner.f l i = some (mateV l i) := by
 unfold impl_partner.f mateV
 rw [impl_xor_all i (by omega)]
 by_cases h : i % 2 = 1
 · rw [if_pos h, if_pos (by omega), if_pos (by omega), if_pos h]
   have : (i : Int) - 1 = ((i - 1 : Nat) : Int) := by omega
   rw [this, rd_getD]
 · rw [if_neg h, if_neg h]
   by_cases h2 : i + 1 < l.length
   · rw [if_pos (by omega), if_pos (by omega), if_pos h2]
     have : (i : Int) + 1 = ((i + 1 : Nat) : Int) := by omega
     rw [this, rd_getD]
   · rw [if_neg (by omega), if_pos (by omega), if_pos (by omega), if_neg h2, rd_getD]
theorem impl_above_l0 : ∀ (suf pre out : List Int), pre.length % 2 = 0 → pre.length + suf.length ≤ 1000 → out.length + suf.length ≤ 2000 →
 Ev (fun k => impl_above.l0 k (pre ++ suf) out pre.length) (out ++ aboveV suf)
 | [], pre, out, _, _, _ => ev_succ (fun k => by rw [impl_above.l0, if_neg (by simp)]; simp [aboveV])
 | [a], pre, out, he, hl, ho => by
  simp only [List.length_cons, List.length_nil] at hl ho
  refine Ev.step (f := fun k => (impl_partner.f (pre ++ [a]) (pre.length : Int)).bind fun t => (impl_sumInts.f k [a, t]).bind fun q => if out.length < 17592186044416 then impl_above.l0 k (pre ++ [a]) (out ++ [q]) ((pre.length : Int) + 2) else none) (fun k => ?_) ?_
  · rw [impl_above.l0, if_pos (by simp; omega), if_pos (by omega), rd_mid, wrap_id (by omega) (by omega)]
  · refine ev_bind0 (impl_partner_eq _ _ (by simp) (by simp; omega)) ?_
    rw [mateV_last pre he]
    refine ev_bind (impl_sumInts_ev (by simp)) (ev_if (by omega) ?_)
    exact ev_succ (fun k => by rw [impl_above.l0, if_neg (by simp)]; simp [aboveV])
 | a :: b :: t, pre, out, he, hl, ho => by
  simp only [List.length_cons] at hl ho
  have ih := impl_above_l0 t (pre ++ [a, b]) (out ++ [sumI [a, b]]) (by simp; omega) (by simp; omega) (by simp; omega)
  refine Ev.step (f := fun k => (impl_partner.f (pre ++ a :: b :: t) (pre.length : Int)).bind fun u => (impl_sumInts.f k [a, u]).bind fun q => if out.length < 17592186044416 then impl_above.l0 k (pre ++ a :: b :: t) (out ++ [q]) ((pre.length : Int) + 2) else none) (fun k => ?_) ?_
  · rw [impl_above.l0, if_pos (by simp; omega), if_pos (by omega), rd_mid, wrap_id (by omega) (by omega)]
  · refine ev_bind0 (impl_partner_eq _ _ (by simp) (by simp; omega)) ?_
    rw [mateV_even pre he]
    refine ev_bind (impl_sumInts_ev (by simp)) (ev_if (by omega) ?_)
    simpa [aboveV] using ih
theorem impl_above_ev {l : List Int} (hl : l.length ≤ 1000) : Ev (fun k => impl_above.f k l) (aboveV l) := by
 unfold impl_above.f
 exact impl_above_l0 l [] [] rfl (by simpa using hl) (by simp; omega)
theorem impl_leavesFault_ev {l : List Int} (hl : l.length ≤ 140737488351232) : Ev (fun k => impl_leavesFault.f k l) (leavesV l) := by
 unfold impl_leavesFault.f leavesV
 refine ev_bind0 (impl_in_eq _ _ _) ?_
 by_cases h : 1 ≤ l.length ∧ l.length ≤ 8
 · rw [if_pos h]
   refine ev_if (by simp; omega) (ev_bind (impl_sumsFault_ev (by omega)) (Ev.now _))
 · rw [if_neg h]
   exact ev_ifn (by simp; omega) (Ev.now _)
theorem impl_HasTwin_l1 (n : Nat) (r : Bool) : ∀ (suf pre : List Int), pre.length % 2 = 0 → pre.length + suf.length ≤ 1000 →
 (pairV suf = false → Ev (fun k => (impl_above.f k (pre ++ suf)).bind fun t => impl_HasTwin.l0 k t) r) → (pairV suf = true → r = true) → Ev (fun k => impl_HasTwin.l1 k (pre ++ suf) ((pre.length : Int) + 1)) r
 | [], pre, he, hl, h1, h2 => by
  refine Ev.step (fun k => ?_) (h1 rfl)
  rw [impl_HasTwin.l1, if_neg (by simp; omega)]
 | [a], pre, he, hl, h1, h2 => by
  refine Ev.step (fun k => ?_) (h1 rfl)
  rw [impl_HasTwin.l1, if_neg (by simp)]
 | a :: b :: t, pre, he, hl, h1, h2 => by
  simp only [List.length_cons] at hl
  have hb : rd (pre ++ a :: b :: t) ((pre.length : Int) + 1) = b := by
   have := rd_mid (pre ++ [a]) b t
   simpa using this
  have hw : wrap64 ((pre.length : Int) + 1 - 1) = (pre.length : Int) := by rw [wrap_id (by omega) (by omega)]; omega
  by_cases hab : a = b
  · have hr : r = true := h2 (by simp [pairV, hab])
    subst hr
    refine ev_succ (fun k => ?_)
    rw [impl_HasTwin.l1, hw, if_pos (by simp; omega), if_pos (by omega), if_pos (by simp; omega), if_pos (by omega), rd_mid, hb, if_pos hab]
  · have ih := impl_HasTwin_l1 n r t (pre ++ [a, b]) (by simp; omega) (by simp; omega) (fun h => by simpa using h1 (by simp [pairV, hab, h])) (fun h => h2 (by simp [pairV, h]))
    refine Ev.step (fun k => ?_) ih
    rw [impl_HasTwin.l1, hw, wrap_id (by omega) (by omega), if_pos (by simp; omega), if_pos (by omega), if_pos (by simp; omega), if_pos (by omega), rd_mid, hb, if_neg hab]
    have : (pre.length : Int) + 1 + 2 = ((pre ++ [a, b]).length : Int) + 1 := by simp; omega
    rw [this]
    simp
theorem impl_HasTwin_l0 : ∀ (n : Nat) (l : List Int), l.length ≤ n + 1 → l.length ≤ 1000 → Ev (fun k => impl_HasTwin.l0 k l) (twinN n l)
 | n, l, h1, h2 => by
  by_cases h : l.length > 1
  · obtain ⟨m, rfl⟩ : ∃ m, n = m + 1 := ⟨n - 1, by omega⟩
    refine Ev.step (f := fun k => impl_HasTwin.l1 k l 1) (fun k => by rw [impl_HasTwin.l0, if_pos (by omega)]) ?_
    have hlen := aboveV_length l
    unfold twinN
    rw [if_pos h]
    refine impl_HasTwin_l1 m _ l [] rfl (by simpa using h2) (fun hp => ?_) (fun hp => by rw [hp]; rfl)
    rw [hp]
    exact ev_bind (impl_above_ev h2) (impl_HasTwin_l0 m (aboveV l) (by omega) (by omega))
  · have e : twinN n l = false := by cases n <;> (unfold twinN; rw [if_neg h])
    rw [e]
    exact ev_succ (fun k => by rw [impl_HasTwin.l0, if_neg (by omega)])
theorem impl_HasTwin_ev {l : List Int} (hl : l.length ≤ 140737488351232) : Ev (fun k => impl_HasTwin.f k l) (twinV l) := by
 unfold impl_HasTwin.f twinV
 refine ev_bind (impl_leavesFault_ev hl) ?_
 by_cases h : leavesV l = 0
 · have hh := leavesV_0 h
   rw [if_pos h]; exact ev_if h (impl_HasTwin_l0 7 l (by omega) (by omega))
 · rw [if_neg h]; exact ev_ifn h (Ev.now _)
theorem impl_bitsOk_eq (a : Int) : impl_bitsOk.f a = some (decide (1 ≤ a ∧ a ≤ 1023 ∧ Int.tmod a 256 > 0)) := by
 unfold impl_bitsOk.f; rw [impl_in_eq]
 by_cases h : 1 ≤ a ∧ a ≤ 1023
 · simp [h]
 · simp only [Option.bind_some, h, decide_false, Bool.false_eq_true, if_false]; congr 1; symm; simp; omega
theorem impl_txSums_l0 (suf : List S27) : ∀ (pre : List S27) (n : Int), n = (pre.length : Int) + suf.length → (∀ t ∈ suf, TxOk t) → n ≤ 100 →
 Ev (fun k => impl_txSums.l0 k (sumsV pre) (pre ++ suf) n pre.length) (sumsV (pre ++ suf)) := by
 induction suf with
 | nil => intro pre n hn _ _; subst hn; exact ev_succ (fun k => by rw [impl_txSums.l0, if_neg (by simp)]; simp)
 | cons t suf ih =>
  intro pre n hn hs hl
  simp only [List.length_cons, Int.natCast_add, Int.natCast_one] at hn
  have h := ih (pre ++ [t]) n (by simp; omega) (fun x hx => hs x (by simp [hx])) hl
  rw [show ((pre ++ [t]).length : Int) = (pre.length : Int) + 1 from by simp, show pre ++ [t] ++ suf = pre ++ t :: suf from by simp] at h
  refine Ev.step (f := fun k => (impl_txSum.f k t.f0 t.f1 t.f2).bind fun u => if (sumsV pre).length < 17592186044416 then impl_txSums.l0 k (sumsV pre ++ [u]) (pre ++ t :: suf) n ((pre.length : Int) + 1) else none) (fun k => ?_) (ev_bind (impl_txSum_ev (hs t (by simp))) (ev_if (by simp [sumsV]; omega) ?_))
  · rw [impl_txSums.l0, if_pos (by omega), if_pos (by omega), if_pos (by simp; omega), rdT, wrap_id (by omega) (by omega)]
  · simpa [sumsV, txS] using h
theorem impl_txSums_ev {b : S72} (hs : ∀ t ∈ b.f4, TxOk t) (hl : (b.f4.length : Int) ≤ 100) : Ev (fun k => impl_txSums.f k b.f0 b.f1 b.f2 b.f3 b.f4) (sumsV b.f4) := by
 unfold impl_txSums.f
 have := impl_txSums_l0 b.f4 [] b.f4.length (by simp) hs hl
 simpa [sumsV] using this
theorem impl_BlockFault_l1 (b : S72) (hall : ∀ t ∈ b.f4, txF t = 0) (h1 : 1 ≤ (b.f4.length : Int)) (h4 : (b.f4.length : Int) ≤ 4) (suf : List S27) : ∀ (pre : List S27) (n : Int), n = (pre.length : Int) + suf.length → n ≤ 1048576 →
 Ev (fun k => impl_BlockFault.l1 k (pre ++ suf) n pre.length b.f0 b.f1 b.f2 b.f3 b.f4) (if basesV ((pre.length : Int) == 0) suf = true then (if twinN 7 (sumsV b.f4) = true then 6 else 0) else 1) := by
 induction suf with
 | nil =>
  intro pre n hn _
  subst hn
  refine Ev.step (f := fun k => (impl_txSums.f k b.f0 b.f1 b.f2 b.f3 b.f4).bind fun t589 => ((impl_HasTwin.f k t589).bind fun t592 => (if t592 = true then (some 6) else (some 0)))) (fun k => by rw [impl_BlockFault.l1, if_neg (by simp)]) ?_
  have hv : twinV (sumsV b.f4) = twinN 7 (sumsV b.f4) := by unfold twinV; rw [if_pos (sumsV_leaves h1 h4)]
  have hlen : (sumsV b.f4).length = b.f4.length := by simp [sumsV]
  have ht := impl_HasTwin_ev (l := sumsV b.f4) (by omega)
  rw [hv] at ht
  refine ev_bind (impl_txSums_ev (fun t ht => txF_ok (hall t ht)) (by omega)) (ev_bind ht ?_)
  rw [show (if basesV ((pre.length : Int) == 0) [] = true then (if twinN 7 (sumsV b.f4) = true then (6 : Int) else 0) else 1) = (if twinN 7 (sumsV b.f4) = true then (6 : Int) else 0) from if_pos rfl]
  by_cases ht : twinN 7 (sumsV b.f4) = true
  · rw [show (if twinN 7 (sumsV b.f4) = true then (6 : Int) else 0) = 6 from if_pos ht]; exact ev_if ht (Ev.now _)
  · rw [show (if twinN 7 (sumsV b.f4) = true then (6 : Int) else 0) = 0 from if_neg ht]; exact ev_ifn ht (Ev.now _)
 | cons t suf ih =>
  intro pre n hn hl
  simp only [List.length_cons, Int.natCast_add, Int.natCast_one] at hn
  have h := ih (pre ++ [t]) n (by simp; omega) hl
  rw [show ((pre ++ [t]).length : Int) = (pre.length : Int) + 1 from by simp, show pre ++ [t] ++ suf = pre ++ t :: suf from by simp, show ((pre.length : Int) + 1 == 0) = false from by rw [beq_eq_false_iff_ne]; omega] at h
  have hstep : ∀ k, impl_BlockFault.l1 (k + 1) (pre ++ t :: suf) n pre.length b.f0 b.f1 b.f2 b.f3 b.f4 = if (((t.f1.length : Int) == 0) != ((pre.length : Int) == 0)) = true then some 1 else impl_BlockFault.l1 k (pre ++ t :: suf) n ((pre.length : Int) + 1) b.f0 b.f1 b.f2 b.f3 b.f4 := by
   intro k
   rw [impl_BlockFault.l1, if_pos (by omega), if_pos (by omega), if_pos (by simp; omega), rdT, wrap_id (by omega) (by omega)]
   rfl
  by_cases hq : ((t.f1.length : Int) == 0) = ((pre.length : Int) == 0)
  · rw [show basesV ((pre.length : Int) == 0) (t :: suf) = basesV false suf from by rw [basesV, if_pos hq]]
    exact Ev.step (fun k => by rw [hstep, if_neg (by rw [hq]; simp)]) h
  · rw [show basesV ((pre.length : Int) == 0) (t :: suf) = false from by rw [basesV, if_neg hq], if_neg (by decide)]
    exact ev_succ (fun k => by rw [hstep, if_pos (by rw [bne_iff_ne]; exact hq)])
theorem impl_BlockFault_l0 (b : S72) (e : Int) (suf : List S27) : ∀ (pre : List S27) (n : Int), n = (pre.length : Int) + suf.length → (∀ t ∈ suf, TB t) → n ≤ 1048576 →
 ((∀ t ∈ suf, txF t = 0) → Ev (fun k => impl_BlockFault.l1 k b.f4 b.f4.length 0 b.f0 b.f1 b.f2 b.f3 b.f4) e) →
 Ev (fun k => impl_BlockFault.l0 k (pre ++ suf) n pre.length b.f0 b.f1 b.f2 b.f3 b.f4) (txsF suf e) := by
 induction suf with
 | nil => intro pre n hn _ _ he; subst hn; exact Ev.step (fun k => by rw [impl_BlockFault.l0, if_neg (by simp)]) (he (by simp))
 | cons t suf ih =>
  intro pre n hn hs hl he
  simp only [List.length_cons, Int.natCast_add, Int.natCast_one] at hn
  have ht := hs t (by simp)
  unfold txsF
  refine Ev.step (f := fun k => (impl_TxFault.f k t.f0 t.f1 t.f2).bind fun t585 => if t585 = 0 then impl_BlockFault.l0 k (pre ++ t :: suf) n ((pre.length : Int) + 1) b.f0 b.f1 b.f2 b.f3 b.f4 else some t585) (fun k => ?_) (ev_bind (impl_TxFault_ev ht.1 ht.2) ?_)
  · rw [impl_BlockFault.l0, if_pos (by omega), if_pos (by omega), if_pos (by simp; omega), rdT, wrap_id (by omega) (by omega)]
  · by_cases h0 : txF t = 0
    · rw [if_pos h0]
      have h := ih (pre ++ [t]) n (by simp; omega) (fun x hx => hs x (by simp [hx])) hl (fun hx => he (fun y hy => by rcases List.mem_cons.1 hy with rfl | hy; exact h0; exact hx y hy))
      rw [show ((pre ++ [t]).length : Int) = (pre.length : Int) + 1 from by simp, show pre ++ [t] ++ suf = pre ++ t :: suf from by simp] at h
      exact ev_if h0 h
    · rw [if_neg h0]; exact ev_ifn h0 (Ev.now _)
theorem impl_BlockFault_ev {b : S72} (hl : b.f4.length ≤ 1048576) (hs : ∀ t ∈ b.f4, TB t) : Ev (fun k => impl_BlockFault.f k b.f0 b.f1 b.f2 b.f3 b.f4) (blockF b) := by
 unfold impl_BlockFault.f
 refine Ev.congr (f := fun k => impl_BlockFault.j0 k (!headV b) b.f0 b.f1 b.f2 b.f3 b.f4) (fun k => ?_) ?_
 · rw [impl_isSum_eq, impl_in_eq, impl_bitsOk_eq, impl_in_eq]
   simp only [Option.bind_some, headV]
   cases decide (0 ≤ b.f0 ∧ b.f0 ≤ 2147483646) <;> cases decide (1 ≤ b.f1 ∧ b.f1 ≤ 99999) <;> cases decide (1 ≤ b.f2 ∧ b.f2 ≤ 1023 ∧ Int.tmod b.f2 256 > 0) <;> simp
 · unfold blockF
   cases hh : headV b with
   | false => exact ev_succ (fun k => by rw [impl_BlockFault.j0]; simp)
   | true =>
    rw [if_pos rfl]
    refine Ev.step (f := fun k => (impl_in.f (b.f4.length : Int) 1 4).bind fun t582 => (if t582 = true then (impl_BlockFault.l0 k b.f4 (b.f4.length : Int) 0 b.f0 b.f1 b.f2 b.f3 b.f4) else (some 2))) (fun k => by rw [impl_BlockFault.j0]; simp) ?_
    refine ev_bind0 (impl_in_eq _ _ _) ?_
    by_cases h2 : 1 ≤ (b.f4.length : Int) ∧ (b.f4.length : Int) ≤ 4
    · rw [if_neg (by omega)]
      refine ev_if (by simpa using h2) ?_
      have h := impl_BlockFault_l0 b (endF b) b.f4 [] b.f4.length (by simp) hs (by omega) (fun hx => by
       have := impl_BlockFault_l1 b hx h2.1 h2.2 b.f4 [] b.f4.length (by simp) (by omega)
       simpa [endF] using this)
      simpa using h
    · rw [if_pos (by omega)]
      exact ev_ifn (by simpa using h2) (Ev.now _)
theorem spec_l4Root_l0 : ∀ (n : Nat) (l : List Int), 1 ≤ l.length → l.length ≤ n + 1 → l.length ≤ 1000 → Ev (fun k => spec_l4Root.l0 k l) (rootN n l)
 | 0, l, h1, h2, _ => ev_succ (fun k => by rw [spec_l4Root.l0, if_neg (by omega), if_pos (by omega)]; have := rd_getD l 0; simp at this; simp [rootN, this])
 | n + 1, l, h1, h2, h3 => by
  unfold rootN
  by_cases h : l.length > 1
  · rw [if_pos h]
    have hlen := aboveV_length l
    have ih := spec_l4Root_l0 n (aboveV l) (by omega) (by omega) (by omega)
    exact Ev.step (f := fun k => (spec_l4Above.f k l).bind fun t => spec_l4Root.l0 k t) (fun k => by rw [spec_l4Root.l0, if_pos (by omega)]) (ev_bind (spec_l4Above_ev h3) ih)
  · rw [if_neg h]
    exact ev_succ (fun k => by rw [spec_l4Root.l0, if_neg (by omega), if_pos (by omega)]; have := rd_getD l 0; simp at this; simp [this])
theorem impl_rootOf_l0 : ∀ (n : Nat) (l : List Int), 1 ≤ l.length → l.length ≤ n + 1 → l.length ≤ 1000 → Ev (fun k => impl_rootOf.l0 k l) (rootN n l)
 | 0, l, h1, h2, _ => ev_succ (fun k => by rw [impl_rootOf.l0, if_neg (by omega), if_pos (by omega)]; have := rd_getD l 0; simp at this; simp [rootN, this])
 | n + 1, l, h1, h2, h3 => by
  unfold rootN
  by_cases h : l.length > 1
  · rw [if_pos h]
    have hlen := aboveV_length l
    have ih := impl_rootOf_l0 n (aboveV l) (by omega) (by omega) (by omega)
    exact Ev.step (f := fun k => (impl_above.f k l).bind fun t => impl_rootOf.l0 k t) (fun k => by rw [impl_rootOf.l0, if_pos (by omega)]) (ev_bind (impl_above_ev h3) ih)
  · rw [if_neg h]
    exact ev_succ (fun k => by rw [impl_rootOf.l0, if_neg (by omega), if_pos (by omega)]; have := rd_getD l 0; simp at this; simp [this])
theorem laws_eqIntResult_eq (a b c d : Int) : laws_eqIntResult.f a b c d = some (decide (a = c ∧ b = d)) := by
 unfold laws_eqIntResult.f
 by_cases h : a = c <;> by_cases h2 : b = d <;> simp [h, h2]
theorem laws_eqIntResult_refl (a b : Int) : laws_eqIntResult.f a b a b = some true := by
 rw [laws_eqIntResult_eq]; simp
def outV (b : S72) : Int × Int := if blockF b = 0 then (0, rootN 7 (sumsV b.f4)) else (blockF b, 0)
theorem spec_BlockRoot_ev {b : S72} (hl : b.f4.length ≤ 1048576) (hs : ∀ t ∈ b.f4, TB t) : Ev (fun k => spec_BlockRoot.f k b.f0 b.f1 b.f2 b.f3 b.f4) (outV b) := by
 unfold spec_BlockRoot.f outV
 refine ev_bind (spec_l6Fault_ev hl hs) ?_
 by_cases h0 : blockF b = 0
 · rw [if_pos h0]
   obtain ⟨h1, h2, h3, _⟩ := blockF_0 h0
   have hlen : (sumsV b.f4).length = b.f4.length := by simp [sumsV]
   exact ev_if h0 (ev_bind (spec_l6Sums_ev h1 (by omega)) (ev_bind (by unfold spec_l4Root.f; exact spec_l4Root_l0 7 _ (by omega) (by omega) (by omega)) (Ev.now _)))
 · rw [if_neg h0]; exact ev_ifn h0 (Ev.now _)
theorem impl_BlockRoot_ev {b : S72} (hl : b.f4.length ≤ 1048576) (hs : ∀ t ∈ b.f4, TB t) : Ev (fun k => impl_BlockRoot.f k b.f0 b.f1 b.f2 b.f3 b.f4) (outV b) := by
 unfold impl_BlockRoot.f outV
 refine ev_bind (impl_BlockFault_ev hl hs) ?_
 by_cases h0 : blockF b = 0
 · rw [if_pos h0]
   obtain ⟨h1, h2, h3, _⟩ := blockF_0 h0
   have hlen : (sumsV b.f4).length = b.f4.length := by simp [sumsV]
   exact ev_if h0 (ev_bind (impl_txSums_ev h1 (by omega)) (ev_bind (by unfold impl_rootOf.f; exact impl_rootOf_l0 7 _ (by omega) (by omega) (by omega)) (Ev.now _)))
 · rw [if_neg h0]; exact ev_ifn h0 (Ev.now _)
theorem FnExactBlockRoot (x0 : S67) (o0 : ok67 x0) : ∃ k, laws_FnExactBlockRoot.f k x0.f0 x0.f1 x0.f2 x0.f3 x0.f4 = some true := by
 refine Ev.rounds (g := fun k => laws_FnExactBlockRoot.f k x0.f0 x0.f1 x0.f2 x0.f3 x0.f4) ?_
 unfold laws_FnExactBlockRoot.f
 obtain ⟨r, hr, hr1, hr2⟩ := laws_szBlock_ev (a := x0.f0) (b := x0.f1) (c := x0.f2) (d := x0.f3) o0.2.2.2.2.1 o0.2.2.2.2.2 1048576 (by omega) (by omega)
 refine ev_bind hr ?_
 by_cases h : r < 0
 · exact ev_if h (Ev.now _)
 refine ev_ifn h ?_
 obtain ⟨b1, b2⟩ := hr2 (by omega)
 have m := mapTx_ok b1 b2
 have hs := spec_BlockRoot_ev (b := ⟨x0.f0, x0.f1, x0.f2, x0.f3, x0.f4.map cTx⟩) (by have := m.1; simp only []; omega) m.2
 have hi := impl_BlockRoot_ev (b := ⟨x0.f0, x0.f1, x0.f2, x0.f3, x0.f4.map cTx⟩) (by have := m.1; simp only []; omega) m.2
 generalize outV ⟨x0.f0, x0.f1, x0.f2, x0.f3, x0.f4.map cTx⟩ = v at hs hi
 refine ev_bind (laws_toBlock_ev b1 b2) (ev_bind hs ?_)
 refine ev_bind (laws_toBlock_ev b1 b2) (ev_bind hi ?_)
 refine ev_bind0 (laws_eqIntResult_refl _ _) (ev_if rfl ?_)
 refine ev_bind (laws_toBlock_ev b1 b2) (ev_bind (laws_eqBlock_refl m.1 m.2) (ev_if rfl (Ev.now _)))
end Go.Proofs.Ythjlbpgiaehjnaa.Pure
