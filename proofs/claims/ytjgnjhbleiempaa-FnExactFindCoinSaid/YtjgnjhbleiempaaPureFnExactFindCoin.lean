/- for every list of coins that is not too long, FindCoin answers as the reference does, in new memory, and leaves its argument as it was. -/
import Derived.Test.YtjgnjhbleiempaaQFnExactFindCoinx1
import Derived.Test.YtjgnjhbleiempaaQFnExactFindCoinx2
import Derived.Test.YtjgnjhbleiempaaQFnExactFindCoinx3
import Derived.Test.YtjgnjhbleiempaaQFnExactFindCoinx4
import Derived.Test.YtjgnjhbleiempaaQFnExactFindCoinx5
import Derived.Test.YtjgnjhbleiempaaQFnExactFindCoinx6
import Derived.Test.YtjgnjhbleiempaaQFnExactFindCoinx7
import Derived.Test.YtjgnjhbleiempaaRFnExactFindCoin
namespace Go.Proofs.Ytjgnjhbleiempaa.Pure
open Go.RowKit Go.Proofs.Ytjgnjhbleiempaa.QFnExactFindCoin Go.Proofs.YtjgnjhbleiempaaW.PrintWords Go.Proofs.YtjgnjhbleiempaaW.PrintLast
set_option linter.unusedVariables false
set_option linter.unusedSimpArgs false

theorem wrap_id {x : Int} (h1 : -9223372036854775808 ≤ x) (h2 : x ≤ 9223372036854775807) : wrap64 x = x := by
  unfold wrap64; omega
theorem wf64 {x : Int} (h : (Lit.int .i64 x).wf = true) : -9223372036854775808 ≤ x ∧ x ≤ 9223372036854775807 := by
  simpa [Lit.wf, IntKind.min, IntKind.max, IntKind.signed, IntKind.bits] using h
theorem wf8 {x : Int} (h : (Lit.int .u8 x).wf = true) : 0 ≤ x ∧ x ≤ 255 := by
  simpa [Lit.wf, IntKind.min, IntKind.max, IntKind.signed, IntKind.bits] using h
theorem ev_some {α : Type} {g : Nat → Option α} {r : α} (h : ∀ k, g k = some r) : Ev g r := ⟨0, fun k _ => h k⟩
theorem ev_succ {α : Type} {g : Nat → Option α} {r : α} (h : ∀ k, g (k + 1) = some r) : Ev g r := Ev.step h (Ev.now r)
/-- A call whose answer is known, and what follows. -/
theorem ev_bind {α β : Type} {g : Nat → Option α} {f : α → Nat → Option β} {a : α} {r : β} (h : Ev g a) (k : Ev (f a) r) : Ev (fun n => (g n).bind fun t => f t n) r :=
  Ev.bind (f := fun n t => f t n) h k
theorem ev_if {α : Type} {p : Prop} [Decidable p] {g f : Nat → Option α} {r : α} (hp : p) (k : Ev g r) : Ev (fun n => if p then g n else f n) r :=
  Ev.congr (fun n => if_pos hp) k
theorem ev_ifn {α : Type} {p : Prop} [Decidable p] {g f : Nat → Option α} {r : α} (hp : ¬ p) (k : Ev f r) : Ev (fun n => if p then g n else f n) r :=
  Ev.congr (fun n => if_neg hp) k
theorem ev_bind0 {α β : Type} {g : Option α} {f : α → Nat → Option β} {a : α} {r : β} (h : g = some a) (k : Ev (f a) r) : Ev (fun n => g.bind fun t => f t n) r := by
  subst h; exact k
theorem rd_mid (pre : List Int) (b : Int) (suf : List Int) : rd (pre ++ b :: suf) (pre.length : Int) = b := by
  unfold rd
  simp
theorem rd_at {l : List Int} {i : Int} (h0 : 0 ≤ i) (h1 : i < l.length) : rd l i = l[i.toNat]'(by omega) := by
  unfold rd
  rw [List.getD_eq_getElem?_getD, List.getElem?_eq_getElem (by omega)]; rfl
theorem split_at_len {α : Type} (l : List α) (n : Nat) (h : n ≤ l.length) : ∃ pre suf, l = pre ++ suf ∧ pre.length = n :=
  ⟨l.take n, l.drop n, (List.take_append_drop n l).symm, by simp; omega⟩

theorem laws_szInt64S_some (l : List Int) (q : Int) (h0 : 0 ≤ q) (h1 : q ≤ 1048576) (hl : l.length ≤ maxLen) : ∃ r, laws_szInt64S.f l q = some r ∧ r ≤ q ∧ (0 ≤ r → (l.length : Int) ≤ q) := by
  unfold laws_szInt64S.f
  unfold maxLen at hl
  rw [wrap_id (by omega) (by omega)]
  by_cases h : q - (l.length : Int) < 0
  · rw [if_pos h]; exact ⟨-1, rfl, by omega, by omega⟩
  · rw [if_neg h]; exact ⟨_, rfl, by omega, by omega⟩

theorem laws_szCoin_some (x : S121) (q : Int) (h0 : 0 ≤ q) (h1 : q ≤ 1048576) (hl : x.f3.length ≤ maxLen) : ∃ r, laws_szCoin.f x.f0 x.f1 x.f2 x.f3 x.f4 x.f5 q = some r ∧ r ≤ q ∧ (0 ≤ r → (x.f3.length : Int) ≤ q) := by
  unfold laws_szCoin.f
  obtain ⟨r, hr, h2, h3⟩ := laws_szInt64S_some x.f3 q h0 h1 hl
  rw [hr]
  simp only [Option.bind_some]
  by_cases h : r < 0
  · rw [if_pos h]; exact ⟨-1, rfl, by omega, by omega⟩
  · rw [if_neg h]; exact ⟨r, rfl, h2, h3⟩
theorem laws_szCoinS_l0 (suf : List S121) : ∀ (pre : List S121) (q : Int), 0 ≤ q → q ≤ 1048576 → (∀ x ∈ suf, x.f3.length ≤ maxLen) → (pre.length : Int) + suf.length ≤ 1048576 →
    ∃ r, Ev (fun k => laws_szCoinS.l0 k (pre ++ suf) q pre.length) r ∧ r ≤ q ∧ (0 ≤ r → ∀ x ∈ suf, (x.f3.length : Int) ≤ 1048576) := by
  induction suf with
  | nil => intro pre q h0 h1 _ _; exact ⟨q, ev_succ (fun k => by rw [laws_szCoinS.l0, if_neg (by simp)]), by omega, by simp⟩
  | cons b suf ih =>
    intro pre q h0 h1 hs hl
    simp only [List.length_cons, Int.natCast_add, Int.natCast_one] at hl
    have hrd : rd_T121 (pre ++ b :: suf) (pre.length : Int) = b := by unfold rd_T121; simp
    obtain ⟨r, hr, hr1, hr2⟩ := laws_szCoin_some b q h0 h1 (hs b (by simp))
    by_cases hneg : r < 0
    · refine ⟨-1, ev_succ (fun k => ?_), by omega, by omega⟩
      rw [laws_szCoinS.l0, if_pos (by simp; omega), if_pos (by omega), hrd, hr]
      simp only [Option.bind_some]
      rw [if_pos hneg]
    · obtain ⟨r', h', h1', h2'⟩ := ih (pre ++ [b]) r (by omega) (by omega) (fun x hx => hs x (by simp [hx])) (by simp; omega)
      refine ⟨r', Ev.step (fun k => ?_) h', by omega, fun h x hx => ?_⟩
      · rw [laws_szCoinS.l0, if_pos (by simp; omega), if_pos (by omega), hrd, hr]
        simp only [Option.bind_some]
        rw [if_neg hneg, wrap_id (by omega) (by omega)]
        simp
      · rcases List.mem_cons.1 hx with rfl | hx
        · have := hr2 (by omega); omega
        · exact h2' h x hx
theorem laws_szCoinS_ev {l : List S121} (hl : l.length ≤ maxLen) (hs : ∀ x ∈ l, x.f3.length ≤ maxLen) (q : Int) (h0 : 0 ≤ q) (h1 : q ≤ 1048576) :
    ∃ r, Ev (fun k => laws_szCoinS.f k l q) r ∧ r ≤ q ∧ (0 ≤ r → l.length ≤ 1048576 ∧ ∀ x ∈ l, (x.f3.length : Int) ≤ 1048576) := by
  unfold maxLen at hl
  unfold laws_szCoinS.f
  rw [wrap_id (by omega) (by omega)]
  by_cases h : q - (l.length : Int) < 0
  · exact ⟨-1, ev_if h (Ev.now _), by omega, by omega⟩
  · obtain ⟨r, hr, h2, h3⟩ := laws_szCoinS_l0 l [] (q - (l.length : Int)) (by omega) (by omega) hs (by simp; omega)
    exact ⟨r, ev_ifn h (by simpa using hr), by omega, fun hh => ⟨by omega, h3 hh⟩⟩

theorem laws_toInt64S_l0 (suf : List Int) : ∀ (pre : List Int) (z : List Int), z.length = suf.length → (pre.length : Int) + suf.length ≤ 9223372036854775806 →
    Ev (fun k => laws_toInt64S.l0 k (pre ++ suf) (pre ++ z) pre.length) (pre ++ suf) := by
  induction suf with
  | nil => intro pre z hz _; obtain rfl : z = [] := List.eq_nil_of_length_eq_zero (by simpa using hz); exact ev_succ (fun k => by simp [laws_toInt64S.l0])
  | cons b suf ih =>
    intro pre z hz hl
    obtain ⟨c, z, rfl⟩ : ∃ c z', z = c :: z' := by cases z with | nil => simp at hz | cons c z => exact ⟨c, z, rfl⟩
    simp only [List.length_cons, Int.natCast_add, Int.natCast_one] at hl hz
    have h := ih (pre ++ [b]) z (by omega) (by simp; omega)
    refine Ev.step (fun k => ?_) (by simpa using h)
    rw [laws_toInt64S.l0]
    rw [if_pos (by simp; omega), if_pos (by omega), if_pos (by simp; omega), rd_mid, wrap_id (by omega) (by omega)]
    simp
theorem laws_toInt64S_ev {l : List Int} (hl : l.length ≤ 17592186043904) : Ev (fun k => laws_toInt64S.f k l) l := by
  have h := laws_toInt64S_l0 l [] (List.replicate l.length 0) (by simp) (by simp; omega)
  unfold laws_toInt64S.f
  refine ev_if (by omega) (ev_if (by simp; omega) ?_)
  simpa using h

def toC (x : S121) : S74 := ⟨x.f0, x.f1, x.f2, x.f3, x.f4, x.f5⟩
theorem laws_toCoin_ev (x : S121) (hl : (x.f3.length : Int) ≤ 1048576) : Ev (fun k => laws_toCoin.f k x.f0 x.f1 x.f2 x.f3 x.f4 x.f5) (x.f0, x.f1, x.f2, x.f3, x.f4, x.f5) := by
  unfold laws_toCoin.f
  exact ev_bind (laws_toInt64S_ev (by omega)) (Ev.now _)
theorem laws_toCoinS_l0 (suf : List S121) : ∀ (pre : List S121) (z : List S74), z.length = suf.length → (∀ x ∈ suf, (x.f3.length : Int) ≤ 1048576) → (pre.length : Int) + suf.length ≤ 1048576 →
    Ev (fun k => laws_toCoinS.l0 k (pre ++ suf) (pre.map toC ++ z) pre.length) ((pre ++ suf).map toC) := by
  induction suf with
  | nil => intro pre z hz _ _; obtain rfl : z = [] := List.eq_nil_of_length_eq_zero (by simpa using hz); exact ev_succ (fun k => by rw [laws_toCoinS.l0, if_neg (by simp)]; simp)
  | cons b suf ih =>
    intro pre z hz hs hl
    obtain ⟨c, z, rfl⟩ : ∃ c z', z = c :: z' := by cases z with | nil => simp at hz | cons c z => exact ⟨c, z, rfl⟩
    simp only [List.length_cons, Int.natCast_add, Int.natCast_one] at hl hz
    have hrd : rd_T121 (pre ++ b :: suf) (pre.length : Int) = b := by unfold rd_T121; simp
    have h := ih (pre ++ [b]) z (by omega) (fun x hx => hs x (by simp [hx])) (by simp; omega)
    refine Ev.step (f := fun k => (laws_toCoin.f k b.f0 b.f1 b.f2 b.f3 b.f4 b.f5).bind fun bt => laws_toCoinS.l0 k (pre ++ b :: suf) ((pre.map toC ++ c :: z).set pre.length (⟨bt.1, bt.2.1, bt.2.2.1, bt.2.2.2.1, bt.2.2.2.2.1, bt.2.2.2.2.2⟩ : S74)) ((pre.length : Int) + 1)) (fun k => ?_) (ev_bind (laws_toCoin_ev b (hs b (by simp))) ?_)
    · rw [laws_toCoinS.l0, if_pos (by simp; omega), if_pos (by omega), hrd]
      refine congrArg _ (funext fun bt => ?_)
      rw [if_pos (by simp; omega), wrap_id (by omega) (by omega)]
      simp
    · have e : (pre.map toC ++ c :: z).set pre.length (⟨b.f0, b.f1, b.f2, b.f3, b.f4, b.f5⟩ : S74) = (pre ++ [b]).map toC ++ z := by
        rw [List.set_append_right _ _ (by simp)]; simp [toC]
      simp only [e]
      simpa using h
theorem laws_toCoinS_ev {l : List S121} (hl : l.length ≤ 1048576) (hs : ∀ x ∈ l, (x.f3.length : Int) ≤ 1048576) : Ev (fun k => laws_toCoinS.f k l) (l.map toC) := by
  have h := laws_toCoinS_l0 l [] (List.replicate l.length z74) (by simp) hs (by simp; omega)
  unfold laws_toCoinS.f
  refine ev_if (by omega) (ev_if (by simp; omega) ?_)
  simpa using h

theorem laws_eqInt64S_l0 (suf : List Int) : ∀ (pre : List Int), (pre.length : Int) + suf.length ≤ 9223372036854775806 →
    Ev (fun k => laws_eqInt64S.l0 k (pre ++ suf) (pre ++ suf) pre.length) true := by
  induction suf with
  | nil => intro pre _; exact ev_succ (fun k => by simp [laws_eqInt64S.l0])
  | cons b suf ih =>
    intro pre hl
    simp only [List.length_cons, Int.natCast_add, Int.natCast_one] at hl
    have h := ih (pre ++ [b]) (by simp; omega)
    refine Ev.step (fun k => ?_) (by simpa using h)
    rw [laws_eqInt64S.l0]
    rw [if_pos (by simp; omega), if_pos (by omega), if_pos (by simp; omega), if_pos rfl, wrap_id (by omega) (by omega)]
theorem laws_eqInt64S_refl {l : List Int} (hl : l.length ≤ 140737488351232) : Ev (fun k => laws_eqInt64S.f k l l) true := by
  unfold laws_eqInt64S.f
  exact ev_if rfl (laws_eqInt64S_l0 l [] (by simp; omega))

theorem laws_eqCoin_refl (x : S74) (hl : (x.f3.length : Int) ≤ 1048576) : Ev (fun k => laws_eqCoin.f k x.f0 x.f1 x.f2 x.f3 x.f4 x.f5 x.f0 x.f1 x.f2 x.f3 x.f4 x.f5) true := by
  unfold laws_eqCoin.f
  exact ev_if rfl (ev_if rfl (ev_if rfl (ev_bind (laws_eqInt64S_refl (by omega)) (ev_if rfl (ev_if rfl (ev_ifn (by simp) (Ev.now _)))))))
theorem laws_eqCoinS_l0 (suf : List S74) : ∀ (pre : List S74), (∀ x ∈ suf, (x.f3.length : Int) ≤ 1048576) → (pre.length : Int) + suf.length ≤ 1048576 →
    Ev (fun k => laws_eqCoinS.l0 k (pre ++ suf) (pre ++ suf) pre.length) true := by
  induction suf with
  | nil => intro pre _ _; exact ev_succ (fun k => by rw [laws_eqCoinS.l0, if_neg (by simp)])
  | cons b suf ih =>
    intro pre hs hl
    simp only [List.length_cons, Int.natCast_add, Int.natCast_one] at hl
    have hrd : rd_T74 (pre ++ b :: suf) (pre.length : Int) = b := by unfold rd_T74; simp
    have h := ih (pre ++ [b]) (fun x hx => hs x (by simp [hx])) (by simp; omega)
    refine Ev.step (f := fun k => (laws_eqCoin.f k b.f0 b.f1 b.f2 b.f3 b.f4 b.f5 b.f0 b.f1 b.f2 b.f3 b.f4 b.f5).bind fun t => if t = true then laws_eqCoinS.l0 k (pre ++ b :: suf) (pre ++ b :: suf) ((pre.length : Int) + 1) else some false) (fun k => ?_) (ev_bind (laws_eqCoin_refl b (hs b (by simp))) (ev_if rfl ?_))
    · rw [laws_eqCoinS.l0, if_pos (by simp; omega), if_pos (by omega), if_pos (by simp; omega), hrd, wrap_id (by omega) (by omega)]
    · simpa using h
theorem laws_eqCoinS_refl {l : List S74} (hl : l.length ≤ 1048576) (hs : ∀ x ∈ l, (x.f3.length : Int) ≤ 1048576) : Ev (fun k => laws_eqCoinS.f k l l) true := by
  unfold laws_eqCoinS.f
  exact ev_if rfl (laws_eqCoinS_l0 l [] hs (by simp; omega))

theorem spec_l1In_eq (a b c : Int) : spec_l1In.f a b c = some (decide (b ≤ a ∧ a ≤ c)) := by
  unfold spec_l1In.f
  by_cases h : a ≥ b
  · rw [if_pos h]; congr 1; rw [Bool.eq_iff_iff]; simp; omega
  · rw [if_neg h]; congr 1; symm; simp; omega
theorem impl_in_eq (a b c : Int) : impl_in.f a b c = some (decide (b ≤ a ∧ a ≤ c)) := by
  unfold impl_in.f
  by_cases h : a ≥ b
  · rw [if_pos h]; congr 1; rw [Bool.eq_iff_iff]; simp; omega
  · rw [if_neg h]; congr 1; symm; simp; omega

theorem slices_IndexFunc_at_impl_ProgramFault_1_l0 (p : Int → Bool) (hp : ∀ x, impl_ProgramFault_1.f x = some (p x)) (suf : List Int) : ∀ (pre : List Int), (pre.length : Int) + suf.length ≤ 9223372036854775806 →
    ∃ r : Int, Ev (fun k => slices_IndexFunc_at_impl_ProgramFault_1.l0 k (pre ++ suf) ((pre ++ suf).length : Int) pre.length) r ∧ decide (r ≥ 0) = suf.any p := by
  induction suf with
  | nil => intro pre _; exact ⟨-1, ev_succ (fun k => by rw [slices_IndexFunc_at_impl_ProgramFault_1.l0, if_neg (by simp)]), by simp⟩
  | cons b suf ih =>
    intro pre hl
    simp only [List.length_cons, Int.natCast_add, Int.natCast_one] at hl
    cases hb : p b with
    | true =>
      refine ⟨pre.length, ev_succ (fun k => ?_), by simp [hb]⟩
      rw [slices_IndexFunc_at_impl_ProgramFault_1.l0, if_pos (by simp; omega), if_pos (by omega), if_pos (by simp; omega), rd_mid, hp, hb]
      rfl
    | false =>
      obtain ⟨r, h, hr⟩ := ih (pre ++ [b]) (by simp; omega)
      refine ⟨r, Ev.step (fun k => ?_) h, by simp [hb, hr]⟩
      rw [slices_IndexFunc_at_impl_ProgramFault_1.l0, if_pos (by simp; omega), if_pos (by omega), if_pos (by simp; omega), rd_mid, hp, hb, wrap_id (by omega) (by omega)]
      simp
theorem slices_ContainsFunc_at_impl_ProgramFault_1_ev (p : Int → Bool) (hp : ∀ x, impl_ProgramFault_1.f x = some (p x)) {l : List Int} (hl : (l.length : Int) ≤ 9223372036854775806) :
    Ev (fun k => slices_ContainsFunc_at_impl_ProgramFault_1.f k l) (l.any p) := by
  obtain ⟨r, h, hr⟩ := slices_IndexFunc_at_impl_ProgramFault_1_l0 p hp l [] (by simpa using hl)
  rw [← hr]
  unfold slices_ContainsFunc_at_impl_ProgramFault_1.f slices_IndexFunc_at_impl_ProgramFault_1.f
  exact ev_bind (by simpa using h) (Ev.now _)

/-- Is a number no operation? -/
def opBad (x : Int) : Bool := !(decide (1 ≤ x ∧ x ≤ 9) || decide (100 ≤ x ∧ x ≤ 1099))
def faultP (l : List Int) : Int := if l.length > 12 then 2 else if l.any opBad then 1 else 0
theorem spec_l2Op_eq (x : Int) : spec_l2Op.f x = some (!opBad x) := by
  unfold spec_l2Op.f opBad
  simp only [spec_l1In_eq, Option.bind_some]
  by_cases h : 1 ≤ x ∧ x ≤ 9 <;> simp [h]
theorem impl_ProgramFault_1_eq (x : Int) : impl_ProgramFault_1.f x = some (opBad x) := by
  unfold impl_ProgramFault_1.f opBad
  simp only [impl_in_eq, Option.bind_some]
  by_cases h : 1 ≤ x ∧ x ≤ 9 <;> simp [h]
theorem spec_l2Fault_l0 (suf : List Int) : ∀ (pre : List Int), (pre.length : Int) + suf.length ≤ 9223372036854775806 →
    Ev (fun k => spec_l2Fault.l0 k (pre ++ suf) pre.length) (if suf.any opBad then 1 else 0) := by
  induction suf with
  | nil => intro pre _; exact ev_succ (fun k => by rw [spec_l2Fault.l0, if_neg (by simp)]; simp)
  | cons b suf ih =>
    intro pre hl
    simp only [List.length_cons, Int.natCast_add, Int.natCast_one] at hl
    cases hb : opBad b with
    | true =>
      refine ev_succ (fun k => ?_)
      rw [spec_l2Fault.l0, if_pos (by simp; omega), if_pos (by omega), rd_mid, spec_l2Op_eq, hb]
      simp [hb]
    | false =>
      have h := ih (pre ++ [b]) (by simp; omega)
      have e : (b :: suf).any opBad = suf.any opBad := by simp [hb]
      rw [e]
      refine Ev.step (fun k => ?_) h
      rw [spec_l2Fault.l0, if_pos (by simp; omega), if_pos (by omega), rd_mid, spec_l2Op_eq, hb, wrap_id (by omega) (by omega)]
      simp
theorem spec_l2Fault_ev {l : List Int} (hl : (l.length : Int) ≤ 9223372036854775806) : Ev (fun k => spec_l2Fault.f k l) (faultP l) := by
  unfold spec_l2Fault.f faultP
  by_cases h : l.length > 12
  · rw [if_pos h]; exact ev_if (by omega) (Ev.now _)
  · rw [if_neg h]; exact ev_ifn (by omega) (spec_l2Fault_l0 l [] (by simpa using hl))
theorem impl_ProgramFault_ev {l : List Int} (hl : (l.length : Int) ≤ 9223372036854775806) : Ev (fun k => impl_ProgramFault.f k l) (faultP l) := by
  unfold impl_ProgramFault.f faultP
  by_cases h : l.length > 12
  · rw [if_pos h]; exact ev_if (by omega) (Ev.now _)
  · rw [if_neg h]
    refine ev_ifn (by omega) (ev_bind (slices_ContainsFunc_at_impl_ProgramFault_1_ev opBad impl_ProgramFault_1_eq hl) ?_)
    cases l.any opBad with
    | true => exact ev_if rfl (Ev.now _)
    | false => exact ev_ifn (by decide) (Ev.now _)

theorem spec_l1Amount_eq (a : Int) : spec_l1Amount.f a = some (decide (0 ≤ a ∧ a ≤ 1000000)) := by
  unfold spec_l1Amount.f; rw [spec_l1In_eq]; rfl
theorem impl_isAmount_eq (a : Int) : impl_isAmount.f a = some (decide (0 ≤ a ∧ a ≤ 1000000)) := by
  unfold impl_isAmount.f; rw [impl_in_eq]; rfl

/-- The sum of the coins' values, as the machine adds. -/
def worthF : Int → List S74 → Int
  | a, [] => a
  | a, x :: xs => worthF (wrap64 (a + x.f2)) xs
theorem spec_l5Worth_l0 (suf : List S74) : ∀ (pre : List S74) (a : Int), (pre.length : Int) + suf.length ≤ 1048576 →
    Ev (fun k => spec_l5Worth.l0 k (pre ++ suf) a pre.length) (worthF a suf) := by
  induction suf with
  | nil => intro pre a _; exact ev_succ (fun k => by rw [spec_l5Worth.l0, if_neg (by simp)]; rfl)
  | cons b suf ih =>
    intro pre a hl
    simp only [List.length_cons, Int.natCast_add, Int.natCast_one] at hl
    have hrd : rd_T74 (pre ++ b :: suf) (pre.length : Int) = b := by unfold rd_T74; simp
    have h := ih (pre ++ [b]) (wrap64 (a + b.f2)) (by simp; omega)
    refine Ev.step (fun k => ?_) (by simpa [worthF] using h)
    rw [spec_l5Worth.l0, if_pos (by simp; omega), if_pos (by omega), hrd, wrap_id (x := (pre.length : Int) + 1) (by omega) (by omega)]
theorem spec_l5Worth_ev {l : List S74} (hl : l.length ≤ 1048576) : Ev (fun k => spec_l5Worth.f k l) (worthF 0 l) := by
  unfold spec_l5Worth.f
  exact spec_l5Worth_l0 l [] 0 (by simp; omega)
theorem impl_worth_l0 (suf : List S74) : ∀ (pre : List S74) (a : Int) (n : Int), n = (pre.length : Int) + suf.length → n ≤ 1048576 →
    Ev (fun k => impl_worth.l0 k a (pre ++ suf) n pre.length) (worthF a suf) := by
  induction suf with
  | nil => intro pre a n hn _; subst hn; exact ev_succ (fun k => by rw [impl_worth.l0, if_neg (by simp)]; rfl)
  | cons b suf ih =>
    intro pre a n hn hl
    simp only [List.length_cons, Int.natCast_add, Int.natCast_one] at hn
    have hrd : rd_T74 (pre ++ b :: suf) (pre.length : Int) = b := by unfold rd_T74; simp
    have h := ih (pre ++ [b]) (wrap64 (a + b.f2)) n (by simp; omega) hl
    refine Ev.step (fun k => ?_) (by simpa [worthF] using h)
    rw [impl_worth.l0, if_pos (by omega), if_pos (by omega), if_pos (by simp; omega), hrd, wrap_id (x := (pre.length : Int) + 1) (by omega) (by omega)]
theorem impl_worth_ev {l : List S74} (hl : l.length ≤ 1048576) : Ev (fun k => impl_worth.f k l) (worthF 0 l) := by
  unfold impl_worth.f
  exact impl_worth_l0 l [] 0 l.length (by simp) (by omega)

theorem cmp_Or_ev (a b : Int) : Ev (fun k => cmp_Or_int.f k [a, b]) (if a = 0 then b else a) := by
  refine ⟨3, fun k hk => ?_⟩
  obtain ⟨j, rfl⟩ : ∃ j, k = j + 3 := ⟨k - 3, by omega⟩
  unfold cmp_Or_int.f
  by_cases ha : a = 0
  · by_cases hb : b = 0
    · simp [cmp_Or_int.l0, rd, ha, hb, wrap64]
    · simp [cmp_Or_int.l0, rd, ha, hb, wrap64]
  · simp [cmp_Or_int.l0, rd, ha, wrap64]
/-- Which of two numbers comes first. -/
def cmpI (a b : Int) : Int := if a < b then -1 else if a > b then 1 else 0
theorem cmp_Compare_eq (a b : Int) : cmp_Compare_int64.f a b = some (cmpI a b) := by
  unfold cmp_Compare_int64.f cmp_isNaN_int64.f cmpI
  simp only [bne_self_eq_false, Option.bind_some, Bool.false_eq_true, if_false]
  split
  · rfl
  · split <;> rfl

theorem impl_isSum_eq (a : Int) : impl_isSum.f a = some (decide (0 ≤ a ∧ a ≤ 2147483646)) := by
  unfold impl_isSum.f; rw [impl_in_eq]; rfl

/-- Is a coin's number out of its bounds? -/
def coinBad (x : S74) : Bool := !(decide (0 ≤ x.f0 ∧ x.f0 ≤ 2147483646) && (decide (0 ≤ x.f1 ∧ x.f1 ≤ 3) && (decide (0 ≤ x.f2 ∧ x.f2 ≤ 1000000) && decide (0 ≤ x.f4 ∧ x.f4 ≤ 9999))))
def coinLt (a b : S74) : Bool := decide (a.f0 < b.f0 ∨ (a.f0 = b.f0 ∧ a.f1 < b.f1))
def worthEnd (l : List S74) : Int := if 0 ≤ worthF 0 l ∧ worthF 0 l ≤ 1000000 then 0 else 7
def coinsF : Option S74 → List S74 → Int → Int
  | _, [], e => e
  | p, x :: xs, e => if coinBad x = true then 3 else if faultP x.f3 = 0 then (match p with
    | none => coinsF (some x) xs e
    | some a => if coinLt a x = true then coinsF (some x) xs e else 1) else faultP x.f3
def coinsV (l : List S74) : Int := if (l.length : Int) > 40 then 2 else coinsF none l (worthEnd l)
theorem spec_l5Less_eq (a b : S74) : spec_l5Less.f a.f0 a.f1 a.f2 a.f3 a.f4 a.f5 b.f0 b.f1 b.f2 b.f3 b.f4 b.f5 = some (coinLt a b) := by
  unfold spec_l5Less.f coinLt
  by_cases h : a.f0 < b.f0
  · simp [h]
  · by_cases h' : a.f0 = b.f0
    · simp [h']
    · simp [h, h']
theorem impl_isHeight_eq (a : Int) : impl_isHeight.f a = some (decide (0 ≤ a ∧ a ≤ 9999)) := by
  unfold impl_isHeight.f; rw [impl_in_eq]; rfl
theorem impl_coinOrder_ev (a b : S74) : ∃ c, Ev (fun k => impl_coinOrder.f k a.f0 a.f1 a.f2 a.f3 a.f4 a.f5 b.f0 b.f1 b.f2 b.f3 b.f4 b.f5) c ∧ (c ≥ 0 ↔ ¬ coinLt a b = true) := by
  unfold impl_coinOrder.f
  refine ⟨_, ev_bind0 (cmp_Compare_eq _ _) (ev_bind0 (cmp_Compare_eq _ _) (ev_bind (cmp_Or_ev _ _) (Ev.now _))), ?_⟩
  unfold cmpI coinLt
  simp only [decide_eq_true_eq]
  by_cases h1 : a.f0 < b.f0
  · simp [h1]
  · by_cases h2 : a.f0 > b.f0
    · simp [h1, h2]; omega
    · have h3 : a.f0 = b.f0 := by omega
      by_cases h4 : a.f1 < b.f1
      · simp [h3, h4]
      · by_cases h5 : a.f1 > b.f1
        · simp [h3, h4, h5]
        · simp [h3, h4, h5]
theorem rd_prev (q : List S74) (a b : S74) (suf : List S74) : rd_T74 (q ++ [a] ++ b :: suf) (((q ++ [a]).length : Int) - 1) = a := by
  have e : (((q ++ [a]).length : Int) - 1) = (q.length : Int) := by simp
  rw [e]; unfold rd_T74; simp
theorem spec_l5Fault_l0 (suf : List S74) : ∀ (pre : List S74), (∀ x ∈ suf, (x.f3.length : Int) ≤ 1048576) → (pre.length : Int) + suf.length ≤ 40 →
    Ev (fun k => spec_l5Fault.l0 k (pre ++ suf) pre.length) (coinsF pre.getLast? suf (worthEnd (pre ++ suf))) := by
  induction suf with
  | nil =>
    intro pre _ hl
    simp only [List.append_nil, coinsF, worthEnd]
    simp only [List.length_nil, Int.natCast_zero, Int.add_zero] at hl
    refine Ev.step (f := fun k => (spec_l5Worth.f k pre).bind fun t => (spec_l1Amount.f t).bind fun t2 => if t2 = true then some 0 else some 7) (fun k => ?_) (ev_bind (spec_l5Worth_ev (by omega)) (ev_bind0 (spec_l1Amount_eq _) ?_))
    · rw [spec_l5Fault.l0, if_neg (by simp)]
    · by_cases h : 0 ≤ worthF 0 pre ∧ worthF 0 pre ≤ 1000000
      · rw [if_pos h]; exact ev_if (by simpa using h) (Ev.now _)
      · rw [if_neg h]; exact ev_ifn (by simpa using h) (Ev.now _)
  | cons b suf ih =>
    intro pre hs hl
    simp only [List.length_cons, Int.natCast_add, Int.natCast_one] at hl
    have hrd : rd_T74 (pre ++ b :: suf) (pre.length : Int) = b := by unfold rd_T74; simp
    have h := ih (pre ++ [b]) (fun x hx => hs x (by simp [hx])) (by simp; omega)
    rw [show pre ++ [b] ++ suf = pre ++ b :: suf from by simp, show ((pre ++ [b]).length : Int) = (pre.length : Int) + 1 from by simp, List.getLast?_concat] at h
    refine Ev.step (f := fun k => spec_l5Fault.j1 k (pre ++ b :: suf) pre.length (coinBad b)) (fun k => ?_) ?_
    · rw [spec_l5Fault.l0, if_pos (by simp; omega), if_pos (by omega), hrd, spec_l1In_eq, spec_l1In_eq, spec_l1Amount_eq, spec_l1In_eq]
      simp only [Option.bind_some, coinBad]
      cases decide (0 ≤ b.f0 ∧ b.f0 ≤ 2147483646) <;> cases decide (0 ≤ b.f1 ∧ b.f1 ≤ 3) <;> cases decide (0 ≤ b.f2 ∧ b.f2 ≤ 1000000) <;> simp
    · unfold coinsF
      cases hbad : coinBad b with
      | true => exact ev_succ (fun k => by rw [spec_l5Fault.j1]; simp)
      | false =>
        rw [if_neg (by decide)]
        refine Ev.step (f := fun k => (spec_l2Fault.f k b.f3).bind fun t => if t = 0 then (if (pre.length : Int) > 0 then (if 0 ≤ (wrap64 ((pre.length : Int) - 1)) then (if (wrap64 ((pre.length : Int) - 1)) < ((pre ++ b :: suf).length : Int) then ((spec_l5Less.f ((rd_T74 (pre ++ b :: suf) (wrap64 ((pre.length : Int) - 1))).f0) ((rd_T74 (pre ++ b :: suf) (wrap64 ((pre.length : Int) - 1))).f1) ((rd_T74 (pre ++ b :: suf) (wrap64 ((pre.length : Int) - 1))).f2) ((rd_T74 (pre ++ b :: suf) (wrap64 ((pre.length : Int) - 1))).f3) ((rd_T74 (pre ++ b :: suf) (wrap64 ((pre.length : Int) - 1))).f4) ((rd_T74 (pre ++ b :: suf) (wrap64 ((pre.length : Int) - 1))).f5) b.f0 b.f1 b.f2 b.f3 b.f4 b.f5).bind fun t124 => (if t124 = true then (spec_l5Fault.l0 k (pre ++ b :: suf) (wrap64 ((pre.length : Int) + 1))) else (some 1))) else (none)) else (none)) else (spec_l5Fault.l0 k (pre ++ b :: suf) (wrap64 ((pre.length : Int) + 1)))) else some t) (fun k => ?_) ?_
        · rw [spec_l5Fault.j1, if_neg (by decide), if_pos (by omega), if_pos (by simp; omega), hrd]
        · refine ev_bind (spec_l2Fault_ev (by have := hs b (by simp); omega)) ?_
          by_cases hf : faultP b.f3 = 0
          · rw [if_pos hf]
            refine ev_if hf ?_
            rw [wrap_id (x := (pre.length : Int) + 1) (by omega) (by omega)]
            rcases List.eq_nil_or_concat pre with rfl | ⟨q, a, rfl⟩
            · exact ev_ifn (by simp) h
            · refine ev_if (by simp <;> omega) ?_
              rw [List.concat_eq_append] at hl h hrd ⊢
              rw [wrap_id (x := ((q ++ [a]).length : Int) - 1) (by first | (simp; done) | (simp; omega)) (by omega), rd_prev, List.getLast?_concat]
              refine ev_if (by simp) (ev_if (by first | (simp; done) | (simp; omega)) (ev_bind0 (spec_l5Less_eq a b) ?_))
              simp only
              by_cases hlt : coinLt a b = true
              · rw [if_pos hlt]; exact ev_if hlt h
              · rw [if_neg hlt]; exact ev_ifn hlt (Ev.now _)
          · rw [if_neg hf]; exact ev_ifn hf (Ev.now _)
theorem spec_l5Fault_ev {l : List S74} (hl : l.length ≤ 1048576) (hs : ∀ x ∈ l, (x.f3.length : Int) ≤ 1048576) : Ev (fun k => spec_l5Fault.f k l) (coinsV l) := by
  unfold spec_l5Fault.f coinsV
  by_cases h : (l.length : Int) > 40
  · rw [if_pos h]; exact ev_if h (Ev.now _)
  · rw [if_neg h]; exact ev_ifn h (spec_l5Fault_l0 l [] hs (by simp; omega))

theorem impl_CoinsFault_l0 (suf : List S74) : ∀ (pre : List S74) (n : Int), n = (pre.length : Int) + suf.length → (∀ x ∈ suf, (x.f3.length : Int) ≤ 1048576) → n ≤ 40 →
    Ev (fun k => impl_CoinsFault.l0 k (pre ++ suf) (pre ++ suf) n pre.length) (coinsF pre.getLast? suf (worthEnd (pre ++ suf))) := by
  induction suf with
  | nil =>
    intro pre n hn _ hl
    simp only [List.append_nil, coinsF, worthEnd]
    simp only [List.length_nil, Int.natCast_zero, Int.add_zero] at hn
    refine Ev.step (f := fun k => (impl_worth.f k pre).bind fun t => (impl_isAmount.f t).bind fun t2 => if t2 = true then some 0 else some 7) (fun k => ?_) (ev_bind (impl_worth_ev (by omega)) (ev_bind0 (impl_isAmount_eq _) ?_))
    · rw [impl_CoinsFault.l0, if_neg (by omega)]
    · by_cases h : 0 ≤ worthF 0 pre ∧ worthF 0 pre ≤ 1000000
      · rw [if_pos h]; exact ev_if (by simpa using h) (Ev.now _)
      · rw [if_neg h]; exact ev_ifn (by simpa using h) (Ev.now _)
  | cons b suf ih =>
    intro pre n hn hs hl
    simp only [List.length_cons, Int.natCast_add, Int.natCast_one] at hn
    have hrd : rd_T74 (pre ++ b :: suf) (pre.length : Int) = b := by unfold rd_T74; simp
    have h := ih (pre ++ [b]) n (by simp; omega) (fun x hx => hs x (by simp [hx])) hl
    rw [show pre ++ [b] ++ suf = pre ++ b :: suf from by simp, show ((pre ++ [b]).length : Int) = (pre.length : Int) + 1 from by simp, List.getLast?_concat] at h
    refine Ev.step (f := fun k => impl_CoinsFault.j1 k (pre ++ b :: suf) pre.length (pre ++ b :: suf) n pre.length (coinBad b) b.f0 b.f1 b.f2 b.f3 b.f4 b.f5) (fun k => ?_) ?_
    · rw [impl_CoinsFault.l0, if_pos (by omega), if_pos (by omega), if_pos (by simp; omega), hrd, impl_isSum_eq, impl_in_eq, impl_isAmount_eq, impl_isHeight_eq]
      simp only [Option.bind_some, coinBad]
      cases decide (0 ≤ b.f0 ∧ b.f0 ≤ 2147483646) <;> cases decide (0 ≤ b.f1 ∧ b.f1 ≤ 3) <;> cases decide (0 ≤ b.f2 ∧ b.f2 ≤ 1000000) <;> simp
    · unfold coinsF
      cases hbad : coinBad b with
      | true => exact ev_succ (fun k => by rw [impl_CoinsFault.j1]; simp)
      | false =>
        rw [if_neg (by decide)]
        refine Ev.step (f := fun k => (impl_ProgramFault.f k b.f3).bind fun t => if t = 0 then (if (pre.length : Int) > 0 then (if 0 ≤ (wrap64 ((pre.length : Int) - 1)) then (if (wrap64 ((pre.length : Int) - 1)) < ((pre ++ b :: suf).length : Int) then ((impl_coinOrder.f k ((rd_T74 (pre ++ b :: suf) (wrap64 ((pre.length : Int) - 1))).f0) ((rd_T74 (pre ++ b :: suf) (wrap64 ((pre.length : Int) - 1))).f1) ((rd_T74 (pre ++ b :: suf) (wrap64 ((pre.length : Int) - 1))).f2) ((rd_T74 (pre ++ b :: suf) (wrap64 ((pre.length : Int) - 1))).f3) ((rd_T74 (pre ++ b :: suf) (wrap64 ((pre.length : Int) - 1))).f4) ((rd_T74 (pre ++ b :: suf) (wrap64 ((pre.length : Int) - 1))).f5) b.f0 b.f1 b.f2 b.f3 b.f4 b.f5).bind fun t124 => (if t124 ≥ 0 then some 1 else (impl_CoinsFault.l0 k (pre ++ b :: suf) (pre ++ b :: suf) n (wrap64 ((pre.length : Int) + 1))))) else (none)) else (none)) else (impl_CoinsFault.l0 k (pre ++ b :: suf) (pre ++ b :: suf) n (wrap64 ((pre.length : Int) + 1)))) else some t) (fun k => ?_) ?_
        · rw [impl_CoinsFault.j1, if_neg (by decide)]
        · refine ev_bind (impl_ProgramFault_ev (by have := hs b (by simp); omega)) ?_
          by_cases hf : faultP b.f3 = 0
          · rw [if_pos hf]
            refine ev_if hf ?_
            rw [wrap_id (x := (pre.length : Int) + 1) (by omega) (by omega)]
            rcases List.eq_nil_or_concat pre with rfl | ⟨q, a, rfl⟩
            · exact ev_ifn (by simp) h
            · refine ev_if (by simp <;> omega) ?_
              rw [List.concat_eq_append] at hn h hrd ⊢
              rw [wrap_id (x := ((q ++ [a]).length : Int) - 1) (by first | (simp; done) | (simp; omega)) (by omega), rd_prev, List.getLast?_concat]
              obtain ⟨c, hc, hc2⟩ := impl_coinOrder_ev a b
              refine ev_if (by simp) (ev_if (by first | (simp; done) | (simp; omega)) (ev_bind hc ?_))
              simp only
              by_cases hlt : coinLt a b = true
              · rw [if_pos hlt]; exact ev_ifn (fun hh => hc2.1 hh hlt) h
              · rw [if_neg hlt]; exact ev_if (hc2.2 hlt) (Ev.now _)
          · rw [if_neg hf]; exact ev_ifn hf (Ev.now _)
theorem impl_CoinsFault_ev {l : List S74} (hl : l.length ≤ 1048576) (hs : ∀ x ∈ l, (x.f3.length : Int) ≤ 1048576) : Ev (fun k => impl_CoinsFault.f k l) (coinsV l) := by
  unfold impl_CoinsFault.f coinsV
  by_cases h : (l.length : Int) > 40
  · rw [if_pos h]; exact ev_if h (Ev.now _)
  · rw [if_neg h]; exact ev_ifn h (impl_CoinsFault_l0 l [] l.length (by simp) hs (by omega))

/-- The marks from k on. -/
def marks (k : Int) : Nat → List Int
  | 0 => []
  | n + 1 => k :: marks (k + 1) n
theorem marks_length (k : Int) (n : Nat) : (marks k n).length = n := by
  induction n generalizing k with
  | zero => rfl
  | succ n ih => simp [marks, ih]
theorem laws_markInt64S_l0 (suf : List Int) : ∀ (pre : List Int) (q : Int), 0 ≤ q → q + suf.length ≤ 9223372036854775806 → (pre.length : Int) + suf.length ≤ 9223372036854775806 →
    Ev (fun k => laws_markInt64S.l0 k (pre ++ suf) q pre.length) (q + suf.length, pre ++ marks q suf.length) := by
  induction suf with
  | nil => intro pre q _ _ _; exact ev_succ (fun k => by simp [laws_markInt64S.l0, marks])
  | cons b suf ih =>
    intro pre q h0 hq hl
    simp only [List.length_cons, Int.natCast_add, Int.natCast_one] at hl hq
    have h := ih (pre ++ [q]) (q + 1) (by omega) (by omega) (by simp; omega)
    refine Ev.step (f := fun k => laws_markInt64S.l0 k (pre ++ [q] ++ suf) (q + 1) ((pre ++ [q]).length : Int)) (fun k => ?_) ?_
    · rw [laws_markInt64S.l0]
      rw [if_pos (by simp; omega), if_pos (by omega), wrap_id (x := q + 1) (by omega) (by omega), wrap_id (by omega) (by omega)]
      simp
    · have e : ((q + ((b :: suf).length : Int), pre ++ marks q (b :: suf).length) : Int × List Int) = (q + 1 + (suf.length : Int), pre ++ [q] ++ marks (q + 1) suf.length) := by
        simp [marks]; omega
      rw [e]; exact h
theorem laws_markInt64S_ev {l : List Int} {q : Int} (h0 : 0 ≤ q) (hq : q ≤ 4611686018427387904) (hl : l.length ≤ 140737488351232) : Ev (fun k => laws_markInt64S.f k l q) (q + l.length, marks q l.length) := by
  have h := laws_markInt64S_l0 l [] q h0 (by omega) (by simp; omega)
  unfold laws_markInt64S.f
  simpa using h
theorem laws_heldInt64S_l0 (n : Nat) : ∀ (pre : List Int) (q : Int), 0 ≤ q → q + n ≤ 9223372036854775806 → (pre.length : Int) + n ≤ 9223372036854775806 →
    Ev (fun k => laws_heldInt64S.l0 k (pre ++ marks q n) q pre.length) (q + n) := by
  induction n with
  | zero => intro pre q _ _ _; exact ev_succ (fun k => by simp [laws_heldInt64S.l0, marks])
  | succ n ih =>
    intro pre q h0 hq hl
    simp only [Int.natCast_add, Int.natCast_one] at hl hq
    have h := ih (pre ++ [q]) (q + 1) (by omega) (by omega) (by simp; omega)
    refine Ev.step (f := fun k => laws_heldInt64S.l0 k (pre ++ [q] ++ marks (q + 1) n) (q + 1) ((pre ++ [q]).length : Int)) (fun k => ?_) ?_
    · rw [laws_heldInt64S.l0, marks]
      rw [if_pos (by simp [marks_length]; omega), if_pos (by omega), rd_mid, if_pos rfl, wrap_id (x := q + 1) (by omega) (by omega), wrap_id (by omega) (by omega)]
      simp
    · have e : q + ((n + 1 : Nat) : Int) = q + 1 + (n : Int) := by omega
      rw [e]; exact h
theorem laws_heldInt64S_ev {q : Int} {n : Nat} (h0 : 0 ≤ q) (hq : q ≤ 4611686018427387904) (hl : n ≤ 140737488351232) : Ev (fun k => laws_heldInt64S.f k (marks q n) q) (q + n) := by
  have h := laws_heldInt64S_l0 n [] q h0 (by omega) (by simp; omega)
  unfold laws_heldInt64S.f
  simpa using h

theorem findC_range (tx out : Int) : ∀ (l : List S74) (i : Int), 0 ≤ i → findC tx out l i = -1 ∨ (i ≤ findC tx out l i ∧ findC tx out l i < i + l.length)
  | [], i, _ => .inl rfl
  | x :: r, i, hi => by
    have e : findC tx out (x :: r) i = if hitC tx out x = true then i else findC tx out r (i + 1) := rfl
    rw [e]
    by_cases h : hitC tx out x = true
    · rw [if_pos h]; right; simp; omega
    · rw [if_neg h]
      rcases findC_range tx out r (i + 1) (by omega) with h' | ⟨h1, h2⟩
      · exact .inl h'
      · right; simp only [List.length_cons, Int.natCast_add, Int.natCast_one]; omega
theorem spec_l5At_l0 (tx out : Int) (suf : List S74) : ∀ (pre : List S74), (pre.length : Int) + suf.length ≤ 1048576 →
    Ev (fun k => spec_l5At.l0 k (pre ++ suf) tx out pre.length) (findC tx out suf pre.length) := by
  induction suf with
  | nil => intro pre _; exact ev_succ (fun k => by rw [spec_l5At.l0, if_neg (by simp)]; rfl)
  | cons b suf ih =>
    intro pre hl
    simp only [List.length_cons, Int.natCast_add, Int.natCast_one] at hl
    have h := ih (pre ++ [b]) (by simp; omega)
    have h' : Ev (fun k => spec_l5At.l0 k (pre ++ b :: suf) tx out ((pre.length : Int) + 1)) (findC tx out suf ((pre.length : Int) + 1)) := by
      have e : (((pre ++ [b]).length : Nat) : Int) = (pre.length : Int) + 1 := by simp
      rw [e] at h; simpa using h
    have hrd : rd_T74 (pre ++ b :: suf) (pre.length : Int) = b := by unfold rd_T74; simp
    have e : findC tx out (b :: suf) pre.length = if hitC tx out b = true then (pre.length : Int) else findC tx out suf ((pre.length : Int) + 1) := rfl
    rw [e]
    by_cases h1 : b.f0 = tx
    · by_cases h2 : b.f1 = out
      · rw [if_pos (by simp [hitC, h1, h2])]
        refine ev_succ (fun k => ?_)
        rw [spec_l5At.l0, if_pos (by simp; omega), if_pos (by omega), hrd, if_pos h1, if_pos h2]
      · rw [if_neg (by simp [hitC, h2])]
        refine Ev.step (fun k => ?_) h'
        rw [spec_l5At.l0, if_pos (by simp; omega), if_pos (by omega), hrd, if_pos h1, if_neg h2, wrap_id (by omega) (by omega)]
    · rw [if_neg (by simp [hitC, h1])]
      refine Ev.step (fun k => ?_) h'
      rw [spec_l5At.l0, if_pos (by simp; omega), if_pos (by omega), hrd, if_neg h1, wrap_id (by omega) (by omega)]
def pickV (l : List S74) (i : Int) : Int × Int × Int × Int × List Int × Int × Bool :=
  if i < 0 then (4, 0, 0, 0, [], 0, false) else (0, (rd_T74 l i).f0, (rd_T74 l i).f1, (rd_T74 l i).f2, (rd_T74 l i).f3, (rd_T74 l i).f4, (rd_T74 l i).f5)
/-- What FindCoin answers. -/
def findV (l : List S74) (tx out : Int) : Int × Int × Int × Int × List Int × Int × Bool :=
  if coinsV l = 0 then pickV l (findC tx out l 0) else (coinsV l, 0, 0, 0, [], 0, false)
theorem findV_0 {l : List S74} (tx out : Int) (h : coinsV l = 0) : findV l tx out = pickV l (findC tx out l 0) := if_pos h
theorem findV_1 {l : List S74} (tx out : Int) (h : ¬ coinsV l = 0) : findV l tx out = (coinsV l, 0, 0, 0, [], 0, false) := if_neg h
theorem pickV_0 (l : List S74) {i : Int} (h : i < 0) : pickV l i = (4, 0, 0, 0, [], 0, false) := if_pos h
theorem pickV_1 (l : List S74) {i : Int} (h : ¬ i < 0) : pickV l i = (0, (rd_T74 l i).f0, (rd_T74 l i).f1, (rd_T74 l i).f2, (rd_T74 l i).f3, (rd_T74 l i).f4, (rd_T74 l i).f5) := if_neg h
theorem rd_in {l : List S74} (hs : ∀ x ∈ l, (x.f3.length : Int) ≤ 1048576) {i : Int} (h0 : 0 ≤ i) (h1 : i < l.length) : ((rd_T74 l i).f3.length : Int) ≤ 1048576 := by
  unfold rd_T74
  rw [List.getD_eq_getElem?_getD, List.getElem?_eq_getElem (by omega)]
  exact hs _ (List.getElem_mem _)
theorem spec_FindCoin_ev {l : List S74} (tx out : Int) (hl : l.length ≤ 1048576) (hs : ∀ x ∈ l, (x.f3.length : Int) ≤ 1048576) : Ev (fun k => spec_FindCoin.f k l tx out) (findV l tx out) := by
  unfold spec_FindCoin.f
  refine ev_bind (spec_l5Fault_ev hl hs) ?_
  by_cases h : coinsV l = 0
  · rw [findV_0 tx out h]
    refine ev_if h ?_
    have ha : Ev (fun k => spec_l5At.f k l tx out) (findC tx out l 0) := spec_l5At_l0 tx out l [] (by simp; omega)
    have hr := findC_range tx out l 0 (by omega)
    refine ev_bind ha ?_
    generalize findC tx out l 0 = i at hr ⊢
    by_cases hn : i < 0
    · rw [pickV_0 l hn]; exact ev_if hn (Ev.now _)
    · rw [pickV_1 l hn]
      refine ev_ifn hn (ev_if (by omega) (ev_if (by omega) ?_))
      have hb := rd_in hs (i := i) (by omega) (by omega)
      generalize rd_T74 l i = c at hb ⊢
      have e : spec_l5CopyCoin.f c.f0 c.f1 c.f2 c.f3 c.f4 c.f5 = some (c.f0, c.f1, c.f2, c.f3, c.f4, c.f5) := by
        unfold spec_l5CopyCoin.f spec_l1Ints.f
        simp only [Option.bind_some, List.length_nil, List.nil_append]
        rw [if_pos (by omega)]; rfl
      exact ev_bind0 e (Ev.now _)
  · rw [findV_1 tx out h]; exact ev_ifn h (Ev.now _)
theorem impl_FindCoin_ev {l : List S74} (tx out : Int) (hl : l.length ≤ 1048576) (hs : ∀ x ∈ l, (x.f3.length : Int) ≤ 1048576) : Ev (fun k => impl_FindCoin.f k l tx out) (findV l tx out) := by
  unfold impl_FindCoin.f
  refine ev_bind (impl_CoinsFault_ev hl hs) ?_
  by_cases h : coinsV l = 0
  · rw [findV_0 tx out h]
    refine ev_if h ?_
    have ha : impl_coinAt.f l tx out = some (findC tx out l 0) := by unfold impl_coinAt.f; rw [if_pos (by omega)]
    have hr := findC_range tx out l 0 (by omega)
    refine ev_bind0 ha ?_
    generalize findC tx out l 0 = i at hr ⊢
    by_cases hn : i < 0
    · rw [pickV_0 l hn]; exact ev_if hn (Ev.now _)
    · rw [pickV_1 l hn]
      refine ev_ifn hn (ev_if (by omega) (ev_if (by omega) ?_))
      have hb := rd_in hs (i := i) (by omega) (by omega)
      generalize rd_T74 l i = c at hb ⊢
      have e : impl_cloneCoin.f c.f0 c.f1 c.f2 c.f3 c.f4 c.f5 = some (c.f0, c.f1, c.f2, c.f3, c.f4, c.f5) := by
        unfold impl_cloneCoin.f slices_Clone_int64_int64.f
        rw [if_pos (by omega)]; rfl
      exact ev_bind0 e (Ev.now _)
  · rw [findV_1 tx out h]; exact ev_ifn h (Ev.now _)
theorem findV_len {l : List S74} (tx out : Int) (hs : ∀ x ∈ l, (x.f3.length : Int) ≤ 1048576) : ((findV l tx out).2.2.2.2.1.length : Int) ≤ 1048576 := by
  by_cases h : coinsV l = 0
  · rw [findV_0 tx out h]
    have hr := findC_range tx out l 0 (by omega)
    generalize findC tx out l 0 = i at hr ⊢
    by_cases hn : i < 0
    · rw [pickV_0 l hn]; simp
    · rw [pickV_1 l hn]
      exact rd_in hs (by omega) (by omega)
  · rw [findV_1 tx out h]; simp
theorem upTo_bound (q M : Nat) : ∀ ns : List Nat, (∀ m ∈ ns, m ≤ M) → upTo q ns ns.length ≤ ns.length * (M + q)
  | [], _ => by simp [upTo]
  | m :: r, h => by
    have ih := upTo_bound q M r (fun x hx => h x (by simp [hx]))
    unfold upTo at ih ⊢
    rw [List.take_length] at ih ⊢
    rw [List.map_cons, List.sum_cons, List.length_cons, Nat.succ_mul]
    have := h m (by simp)
    omega
theorem laws_markCoinS_eq {l : List S74} (hl : l.length ≤ 1048576) (hs : ∀ x ∈ l, (x.f3.length : Int) ≤ 1048576) : ∃ n : Nat, laws_markCoinS.f l 1 = some (1 + (n : Int)) := by
  refine ⟨marksOf l, ?_⟩
  unfold laws_markCoinS.f
  have b1 := upTo_bound 5 1048576 (l.map fun x => x.f3.length) (fun m hm => by obtain ⟨x, hx, rfl⟩ := List.mem_map.1 hm; have := hs x hx; omega)
  rw [List.length_map] at b1
  have c1 := Nat.mul_le_mul_right (1048576 + 5) hl
  rw [if_pos ⟨by decide, by unfold marksOf; omega⟩]
theorem laws_eqCoinResult_refl (v : Int × Int × Int × Int × List Int × Int × Bool) (hl : (v.2.2.2.2.1.length : Int) ≤ 1048576) : Ev (fun k => laws_eqCoinResult.f k v.1 v.2.1 v.2.2.1 v.2.2.2.1 v.2.2.2.2.1 v.2.2.2.2.2.1 v.2.2.2.2.2.2 v.1 v.2.1 v.2.2.1 v.2.2.2.1 v.2.2.2.2.1 v.2.2.2.2.2.1 v.2.2.2.2.2.2) true := by
  unfold laws_eqCoinResult.f
  exact ev_if rfl (ev_bind (laws_eqCoin_refl ⟨v.2.1, v.2.2.1, v.2.2.2.1, v.2.2.2.2.1, v.2.2.2.2.2.1, v.2.2.2.2.2.2⟩ hl) (ev_if rfl (Ev.now _)))
theorem FnExactFindCoin (l0 : List S121) (a1 : Int) (a2 : Int) (o0 : okList ok121 l0) (_w1 : okInt .i64 a1) (_w2 : okInt .i64 a2) : ∃ k, laws_FnExactFindCoin.f k l0 a1 a2 = some true := by
  refine Ev.rounds (g := fun k => laws_FnExactFindCoin.f k l0 a1 a2) ?_
  unfold laws_FnExactFindCoin.f
  obtain ⟨r, hr, hr1, hr2⟩ := laws_szCoinS_ev o0.1 (fun x hx => (o0.2 x hx).2.2.2.1.1) 1048576 (by omega) (by omega)
  refine ev_bind hr ?_
  by_cases h : r < 0
  · exact ev_if h (Ev.now _)
  refine ev_ifn h ?_
  obtain ⟨b0, b1⟩ := hr2 (by omega)
  have m0 : (l0.map toC).length ≤ 1048576 := by simpa using b0
  have m1 : ∀ x ∈ l0.map toC, (x.f3.length : Int) ≤ 1048576 := by
    intro x hx
    obtain ⟨y, hy, rfl⟩ := List.mem_map.1 hx
    exact b1 y hy
  have hT := laws_toCoinS_ev b0 b1
  have hs := spec_FindCoin_ev a1 a2 m0 m1
  have hi := impl_FindCoin_ev a1 a2 m0 m1
  have hl := findV_len a1 a2 m1
  obtain ⟨n, hn⟩ := laws_markCoinS_eq m0 m1
  have hEq := laws_eqCoinS_refl m0 m1
  generalize findV (l0.map toC) a1 a2 = v at hs hi hl
  have hE := laws_eqCoinResult_refl v hl
  have hM : Ev (fun k => laws_markCoinResult.f k v.1 v.2.1 v.2.2.1 v.2.2.2.1 v.2.2.2.2.1 v.2.2.2.2.2.1 v.2.2.2.2.2.2 1) (1 + (v.2.2.2.2.1.length : Int), marks 1 v.2.2.2.2.1.length) := by
    unfold laws_markCoinResult.f laws_markCoin.f
    exact ev_bind (ev_bind (laws_markInt64S_ev (by omega) (by omega) (by omega)) (Ev.now _)) (Ev.now _)
  have hH : Ev (fun k => laws_heldCoinResult.f k v.1 v.2.1 v.2.2.1 v.2.2.2.1 (marks 1 v.2.2.2.2.1.length) v.2.2.2.2.2.1 v.2.2.2.2.2.2 1) (1 + (v.2.2.2.2.1.length : Int)) := by
    unfold laws_heldCoinResult.f laws_heldCoin.f
    exact ev_bind (ev_bind (laws_heldInt64S_ev (by omega) (by omega) (by omega)) (ev_ifn (by omega) (Ev.now _))) (ev_ifn (by omega) (Ev.now _))
  refine ev_bind hT (ev_bind hs (ev_bind hT (ev_bind hi ?_)))
  refine ev_bind hE (ev_if rfl (ev_bind hT (ev_bind hEq (ev_if rfl ?_))))
  refine ev_bind0 hn (ev_ifn (by omega) (ev_bind hE ?_))
  refine Ev.step (f := fun k => (laws_markCoinResult.f k v.1 v.2.1 v.2.2.1 v.2.2.2.1 v.2.2.2.2.1 v.2.2.2.2.2.1 v.2.2.2.2.2.2 1).bind fun bt => (laws_heldCoinResult.f k v.1 v.2.1 v.2.2.1 v.2.2.2.1 bt.2 v.2.2.2.2.2.1 v.2.2.2.2.2.2 1).bind fun t => if t < 0 then none else if t = bt.1 then ((laws_toCoinS.f k l0).bind fun c => (impl_FindCoin.f k c a1 a2).bind fun d => (laws_eqCoinResult.f k d.1 d.2.1 d.2.2.1 d.2.2.2.1 d.2.2.2.2.1 d.2.2.2.2.2.1 d.2.2.2.2.2.2 v.1 v.2.1 v.2.2.1 v.2.2.2.1 v.2.2.2.2.1 v.2.2.2.2.2.1 v.2.2.2.2.2.2).bind fun e => if e = true then ((laws_heldCoinResult.f k v.1 v.2.1 v.2.2.1 v.2.2.2.1 bt.2 v.2.2.2.2.2.1 v.2.2.2.2.2.2 1).bind fun q => if q < 0 then none else if q = bt.1 then some true else none) else none) else none) (fun k => ?_) ?_
  · rw [laws_FnExactFindCoin.j0, if_neg (by decide)]
  refine ev_bind hM (ev_bind hH (ev_ifn (by omega) (ev_if rfl ?_)))
  refine ev_bind hT (ev_bind hi (ev_bind hE (ev_if rfl ?_)))
  exact ev_bind hH (ev_ifn (by omega) (ev_if rfl (Ev.now _)))

end Go.Proofs.Ytjgnjhbleiempaa.Pure
