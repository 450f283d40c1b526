/- for every request that is not too long, RequestFault answers as the reference does and leaves its argument as it was. -/
import Derived.Test.YthjlbpgiaehjnaaDoorQFnExactRequestFaultx1
import Derived.Test.YthjlbpgiaehjnaaDoorQFnExactRequestFaultx2
import Derived.Test.YthjlbpgiaehjnaaDoorQFnExactRequestFaultx3
import Derived.Test.YthjlbpgiaehjnaaDoorRFnExactRequestFault
namespace Go.Proofs.YthjlbpgiaehjnaaDoor.Pure
open Go.RowKit Go.Proofs.YthjlbpgiaehjnaaDoor.QFnExactRequestFault Go.Proofs.YthjlbpgiaehjnaaDoorW.PrintWords Go.Proofs.YthjlbpgiaehjnaaDoorW.PrintLast
set_option linter.unusedVariables false
set_option linter.unusedSimpArgs false

theorem wrap_id {x : Int} (h1 : -9223372036854775808 ≤ x) (h2 : x ≤ 9223372036854775807) : wrap64 x = x := by
  unfold wrap64; omega
theorem wf64 {x : Int} (h : (Lit.int .i64 x).wf = true) : -9223372036854775808 ≤ x ∧ x ≤ 9223372036854775807 := by
  simpa [Lit.wf, IntKind.min, IntKind.max, IntKind.signed, IntKind.bits] using h
theorem wf8 {x : Int} (h : (Lit.int .u8 x).wf = true) : 0 ≤ x ∧ x ≤ 255 := by
  simpa [Lit.wf, IntKind.min, IntKind.max, IntKind.signed, IntKind.bits] using h
theorem ev_some {α : Type} {g : Nat → Option α} {r : α} (h : ∀ k, g k = some r) : Ev g r := ⟨0, fun k _ => h k⟩
theorem ev_succ {α : Type} {g : Nat → Option α} {r : α} (h : ∀ k, g (k + 1) = some r) : Ev g r := Ev.step h (Ev.now r)
/-- A call whose answer is known, and what follows. -/
theorem ev_bind {α β : Type} {g : Nat → Option α} {f : α → Nat → Option β} {a : α} {r : β} (h : Ev g a) (k : Ev (f a) r) : Ev (fun n => (g n).bind fun t => f t n) r :=
  Ev.bind (f := fun n t => f t n) h k
theorem ev_if {α : Type} {p : Prop} [Decidable p] {g f : Nat → Option α} {r : α} (hp : p) (k : Ev g r) : Ev (fun n => if p then g n else f n) r :=
  Ev.congr (fun n => if_pos hp) k
theorem ev_ifn {α : Type} {p : Prop} [Decidable p] {g f : Nat → Option α} {r : α} (hp : ¬ p) (k : Ev f r) : Ev (fun n => if p then g n else f n) r :=
  Ev.congr (fun n => if_neg hp) k
theorem ev_bind0 {α β : Type} {g : Option α} {f : α → Nat → Option β} {a : α} {r : β} (h : g = some a) (k : Ev (f a) r) : Ev (fun n => g.bind fun t => f t n) r := by
  subst h; exact k
theorem rd_mid (pre : List Int) (b : Int) (suf : List Int) : rd (pre ++ b :: suf) (pre.length : Int) = b := by
  unfold rd
  simp
theorem rd_at {l : List Int} {i : Int} (h0 : 0 ≤ i) (h1 : i < l.length) : rd l i = l[i.toNat]'(by omega) := by
  unfold rd
  rw [List.getD_eq_getElem?_getD, List.getElem?_eq_getElem (by omega)]; rfl
theorem split_at_len {α : Type} (l : List α) (n : Nat) (h : n ≤ l.length) : ∃ pre suf, l = pre ++ suf ∧ pre.length = n :=
  ⟨l.take n, l.drop n, (List.take_append_drop n l).symm, by simp; omega⟩

theorem rdS_mid (pre : List ByteArray) (b : ByteArray) (suf : List ByteArray) : rdOf ByteArray.empty (pre ++ b :: suf) (pre.length : Int) = b := by
  unfold rdOf
  simp

theorem laws_szStringS_l0 (suf : List ByteArray) : ∀ (pre : List ByteArray) (q : Int), 0 ≤ q → q ≤ 1048576 → (∀ x ∈ suf, x.size ≤ maxLen) → (pre.length : Int) + suf.length ≤ 1048576 →
    ∃ r, Ev (fun k => laws_szStringS.l0 k (pre ++ suf) q pre.length) r ∧ r ≤ q ∧ (0 ≤ r → ∀ x ∈ suf, x.size ≤ 1048576) := by
  induction suf with
  | nil => intro pre q h0 h1 _ _; exact ⟨q, ev_succ (fun k => by rw [laws_szStringS.l0, if_neg (by simp)]), by omega, by simp⟩
  | cons b suf ih =>
    intro pre q h0 h1 hs hl
    simp only [List.length_cons, Int.natCast_add, Int.natCast_one] at hl
    have hb := hs b (by simp)
    unfold maxLen at hb
    by_cases hneg : q - (b.size : Int) < 0
    · refine ⟨-1, ev_succ (fun k => ?_), by omega, by omega⟩
      rw [laws_szStringS.l0, if_pos (by simp; omega), if_pos (by omega), rdS_mid, wrap_id (x := q - (b.size : Int)) (by omega) (by omega), if_pos hneg]
    · obtain ⟨r', h', h1', h2'⟩ := ih (pre ++ [b]) (q - (b.size : Int)) (by omega) (by omega) (fun x hx => hs x (by simp [hx])) (by simp; omega)
      refine ⟨r', Ev.step (fun k => ?_) h', by omega, fun h x hx => ?_⟩
      · rw [laws_szStringS.l0, if_pos (by simp; omega), if_pos (by omega), rdS_mid, wrap_id (x := q - (b.size : Int)) (by omega) (by omega), if_neg hneg, wrap_id (by omega) (by omega)]
        simp
      · rcases List.mem_cons.1 hx with rfl | hx
        · omega
        · exact h2' h x hx
theorem laws_szStringS_ev {l : List ByteArray} (hl : l.length ≤ maxLen) (hs : ∀ x ∈ l, x.size ≤ maxLen) (q : Int) (h0 : 0 ≤ q) (h1 : q ≤ 1048576) :
    ∃ r, Ev (fun k => laws_szStringS.f k l q) r ∧ r ≤ q ∧ (0 ≤ r → l.length ≤ 1048576 ∧ ∀ x ∈ l, x.size ≤ 1048576) := by
  unfold maxLen at hl
  unfold laws_szStringS.f
  rw [wrap_id (by omega) (by omega)]
  by_cases h : q - (l.length : Int) < 0
  · exact ⟨-1, ev_if h (Ev.now _), by omega, by omega⟩
  · obtain ⟨r, hr, h2, h3⟩ := laws_szStringS_l0 l [] (q - (l.length : Int)) (by omega) (by omega) hs (by simp; omega)
    exact ⟨r, ev_ifn h (by simpa using hr), by omega, fun hh => ⟨by omega, h3 hh⟩⟩

theorem laws_toStringS_l0 (suf : List ByteArray) : ∀ (pre : List ByteArray) (z : List ByteArray), z.length = suf.length → (pre.length : Int) + suf.length ≤ 9223372036854775806 →
    Ev (fun k => laws_toStringS.l0 k (pre ++ suf) (pre ++ z) pre.length) (pre ++ suf) := by
  induction suf with
  | nil => intro pre z hz _; obtain rfl : z = [] := List.eq_nil_of_length_eq_zero (by simpa using hz); exact ev_succ (fun k => by simp [laws_toStringS.l0])
  | cons b suf ih =>
    intro pre z hz hl
    obtain ⟨c, z, rfl⟩ : ∃ c z', z = c :: z' := by cases z with | nil => simp at hz | cons c z => exact ⟨c, z, rfl⟩
    simp only [List.length_cons, Int.natCast_add, Int.natCast_one] at hl hz
    have h := ih (pre ++ [b]) z (by omega) (by simp; omega)
    refine Ev.step (fun k => ?_) (by simpa using h)
    rw [laws_toStringS.l0]
    rw [if_pos (by simp; omega), if_pos (by omega), if_pos (by simp; omega), rdS_mid, wrap_id (by omega) (by omega)]
    simp
theorem laws_toStringS_ev {l : List ByteArray} (hl : l.length ≤ 1048576) : Ev (fun k => laws_toStringS.f k l) l := by
  have h := laws_toStringS_l0 l [] (List.replicate l.length (⟨#[]⟩ : ByteArray)) (by simp) (by simp; omega)
  unfold laws_toStringS.f
  refine ev_if (by omega) (ev_if (by simp; omega) ?_)
  simpa using h

theorem laws_eqStringS_l0 (suf : List ByteArray) : ∀ (pre : List ByteArray), (pre.length : Int) + suf.length ≤ 9223372036854775806 →
    Ev (fun k => laws_eqStringS.l0 k (pre ++ suf) (pre ++ suf) pre.length) true := by
  induction suf with
  | nil => intro pre _; exact ev_succ (fun k => by simp [laws_eqStringS.l0])
  | cons b suf ih =>
    intro pre hl
    simp only [List.length_cons, Int.natCast_add, Int.natCast_one] at hl
    have h := ih (pre ++ [b]) (by simp; omega)
    refine Ev.step (fun k => ?_) (by simpa using h)
    rw [laws_eqStringS.l0]
    rw [if_pos (by simp; omega), if_pos (by omega), if_pos (by simp; omega), if_pos rfl, wrap_id (by omega) (by omega)]
theorem laws_eqStringS_refl {l : List ByteArray} (hl : l.length ≤ 1048576) : Ev (fun k => laws_eqStringS.f k l l) true := by
  unfold laws_eqStringS.f
  exact ev_if rfl (laws_eqStringS_l0 l [] (by simp; omega))

theorem bt_list (s : ByteArray) (i : Nat) (h : i < s.data.toList.length) : bt s (i : Int) = ((s.data.toList[i]).toNat : Int) := by
  have h' : i < s.size := by rw [Array.length_toList] at h; exact h
  have := bt_at s (i : Int) (by simpa using h')
  rw [← this]
  simp only [Int.toNat_natCast]
  rfl
theorem size_list (s : ByteArray) : (s.size : Int) = (s.data.toList.length : Int) := by rw [Array.length_toList]; rfl

theorem spec_l1In_eq (a b c : Int) : spec_l1In.f a b c = some (decide (b ≤ a ∧ a ≤ c)) := by
  unfold spec_l1In.f
  by_cases h : a ≥ b
  · rw [if_pos h]; congr 1; rw [Bool.eq_iff_iff]; simp; omega
  · rw [if_neg h]; congr 1; symm; simp; omega
theorem impl_in_eq (a b c : Int) : impl_in.f a b c = some (decide (b ≤ a ∧ a ≤ c)) := by
  unfold impl_in.f
  by_cases h : a ≥ b
  · rw [if_pos h]; congr 1; rw [Bool.eq_iff_iff]; simp; omega
  · rw [if_neg h]; congr 1; symm; simp; omega

theorem spec_l9Letter_eq (c : UInt8) : spec_l9Letter.f (c.toNat : Int) = some (Go.Proofs.YthjlbpgiaehjnaaDoor.HTrim.letter c.toNat) := by
  unfold spec_l9Letter.f Go.Proofs.YthjlbpgiaehjnaaDoor.HTrim.letter
  generalize c.toNat = n
  by_cases h1 : (n : Int) ≥ 97 <;> by_cases h2 : (n : Int) ≤ 122 <;> by_cases h3 : (n : Int) ≥ 65 <;> by_cases h4 : (n : Int) ≤ 90 <;> by_cases h5 : (n : Int) ≥ 48 <;> by_cases h6 : (n : Int) ≤ 57 <;> first | omega | (simp only [h1, h2, h3, h4, h5, h6, if_true, if_false, decide_true, decide_false]; congr 1; symm; simp; omega)
theorem spec_l9Arg_l0 (s : ByteArray) (hs : s.size ≤ 1048576) : ∀ (m i : Nat), s.data.toList.length - i = m → i ≤ s.data.toList.length →
    Ev (fun k => spec_l9Arg.l0 k s (i : Int)) (decide (s.size ≤ 12) && (s.data.toList.drop i).all fun c => Go.Proofs.YthjlbpgiaehjnaaDoor.HTrim.letter c.toNat) := by
  have el := size_list s
  intro m
  induction m with
  | zero =>
    intro i hm hi
    have hd : s.data.toList.drop i = [] := List.drop_eq_nil_of_le (by omega)
    refine ev_succ (fun k => ?_)
    rw [spec_l9Arg.l0, if_neg (by rw [el]; omega), hd]
    simp; omega
  | succ m ih =>
    intro i hm hi
    have hlt : i < s.data.toList.length := by omega
    have hd : s.data.toList.drop i = s.data.toList[i] :: s.data.toList.drop (i + 1) := List.drop_eq_getElem_cons hlt
    have hb := bt_list s i hlt
    have hw : wrap64 ((i : Int) + 1) = ((i + 1 : Nat) : Int) := wrap_id (by omega) (by omega)
    rw [hd]
    generalize s.data.toList[i] = c at hb ⊢
    cases hc : Go.Proofs.YthjlbpgiaehjnaaDoor.HTrim.letter c.toNat with
    | false =>
      refine ev_succ (fun k => ?_)
      rw [spec_l9Arg.l0, if_pos (by rw [el]; omega), if_pos (by omega), hb, spec_l9Letter_eq, hc]
      simp [hc]
    | true =>
      have h := ih (i + 1) (by omega) (by omega)
      have e : (c :: s.data.toList.drop (i + 1)).all (fun c => Go.Proofs.YthjlbpgiaehjnaaDoor.HTrim.letter c.toNat) = (s.data.toList.drop (i + 1)).all (fun c => Go.Proofs.YthjlbpgiaehjnaaDoor.HTrim.letter c.toNat) := by simp [hc]
      rw [e]
      refine Ev.step (fun k => ?_) h
      rw [spec_l9Arg.l0, if_pos (by rw [el]; omega), if_pos (by omega), hb, spec_l9Letter_eq, hc]
      simp only [Option.bind_some, if_true]
      rw [hw]
theorem spec_l9Arg_ev {s : ByteArray} (hs : s.size ≤ 1048576) : Ev (fun k => spec_l9Arg.f k s) (Go.Proofs.YthjlbpgiaehjnaaDoor.HTrim.argOk s) := by
  have h := spec_l9Arg_l0 s hs s.data.toList.length 0 (by omega) (by omega)
  rw [List.drop_zero] at h
  exact h
def anyBad (l : List ByteArray) : Bool := l.any fun s => !Go.Proofs.YthjlbpgiaehjnaaDoor.HTrim.argOk s
theorem spec_l9Args_l0 (suf : List ByteArray) : ∀ (pre : List ByteArray), (∀ x ∈ suf, x.size ≤ 1048576) → (pre.length : Int) + suf.length ≤ 1048576 →
    Ev (fun k => spec_l9Args.l0 k (pre ++ suf) pre.length) (if anyBad suf then 5 else 0) := by
  induction suf with
  | nil => intro pre _ _; exact ev_succ (fun k => by rw [spec_l9Args.l0, if_neg (by simp)]; simp [anyBad])
  | cons b suf ih =>
    intro pre hs hl
    simp only [List.length_cons, Int.natCast_add, Int.natCast_one] at hl
    have hb := spec_l9Arg_ev (hs b (by simp))
    have hstep : ∀ k, spec_l9Args.l0 (k + 1) (pre ++ b :: suf) pre.length = (spec_l9Arg.f k b).bind fun t => if t = true then spec_l9Args.l0 k (pre ++ b :: suf) ((pre.length : Int) + 1) else some 5 := by
      intro k
      rw [spec_l9Args.l0, if_pos (by simp; omega), if_pos (by omega), rdS_mid, wrap_id (by omega) (by omega)]
    cases hc : Go.Proofs.YthjlbpgiaehjnaaDoor.HTrim.argOk b with
    | false =>
      have e : anyBad (b :: suf) = true := by simp [anyBad, hc]
      rw [e, if_pos rfl]
      rw [hc] at hb
      exact Ev.step (f := fun k => (spec_l9Arg.f k b).bind fun t => if t = true then spec_l9Args.l0 k (pre ++ b :: suf) ((pre.length : Int) + 1) else some 5) hstep (ev_bind hb (ev_ifn (by simp) (Ev.now _)))
    | true =>
      have e : anyBad (b :: suf) = anyBad suf := by simp [anyBad, hc]
      rw [e]
      rw [hc] at hb
      have h := ih (pre ++ [b]) (fun x hx => hs x (by simp [hx])) (by simp; omega)
      exact Ev.step (f := fun k => (spec_l9Arg.f k b).bind fun t => if t = true then spec_l9Args.l0 k (pre ++ b :: suf) ((pre.length : Int) + 1) else some 5) hstep (ev_bind hb (ev_if rfl (by simpa using h)))
/-- What RequestFault answers. -/
def reqF (a b : Int) (l : List ByteArray) : Int := if (0 ≤ a ∧ a ≤ 9999) ∧ (1 ≤ b ∧ b ≤ 3) then (if (l.length : Int) > 5 then 2 else if anyBad l then 5 else 0) else 3
theorem spec_RequestFault_ev {a b : Int} {l : List ByteArray} (hl : l.length ≤ 1048576) (hs : ∀ x ∈ l, x.size ≤ 1048576) : Ev (fun k => spec_RequestFault.f k a b l) (reqF a b l) := by
  unfold spec_RequestFault.f spec_l9Fault.f spec_l9Fault_in.f
  refine ev_bind (a := reqF a b l) ?_ (Ev.now _)
  refine ev_if (by simp) ?_
  have e : rd_T27 [(⟨a, b, l⟩ : S27)] 0 = ⟨a, b, l⟩ := rfl
  rw [e]
  dsimp only
  unfold reqF
  refine ev_bind0 (spec_l1In_eq _ _ _) ?_
  by_cases h1 : 0 ≤ a ∧ a ≤ 9999
  · refine ev_if (decide_eq_true h1) (ev_bind0 (spec_l1In_eq _ _ _) ?_)
    by_cases h2 : 1 ≤ b ∧ b ≤ 3
    · refine ev_if (decide_eq_true h2) ?_
      rw [if_pos ⟨h1, h2⟩]
      refine ev_bind (a := if (l.length : Int) > 5 then 2 else if anyBad l then 5 else 0) ?_ (Ev.now _)
      unfold spec_l9Args.f
      by_cases h3 : (l.length : Int) > 5
      · rw [if_pos h3]; exact ev_if h3 (Ev.now _)
      · rw [if_neg h3]; exact ev_ifn h3 (by simpa using spec_l9Args_l0 l [] hs (by simp; omega))
    · rw [if_neg (fun h => h2 h.2)]; exact ev_ifn (by simpa using h2) (Ev.now _)
  · rw [if_neg (fun h => h1 h.1)]; exact ev_ifn (by simpa using h1) (Ev.now _)
theorem badArg_eq (s : ByteArray) : impl_badArg.f s = some (!Go.Proofs.YthjlbpgiaehjnaaDoor.HTrim.argOk s) := by simp [impl_badArg.f, impl_argOk.f]
theorem badIndex_l0 (suf : List ByteArray) : ∀ (pre : List ByteArray), (pre.length : Int) + suf.length ≤ 9223372036854775806 →
    ∃ r : Int, Ev (fun k => slices_IndexFunc_at_impl_badArg.l0 k (pre ++ suf) ((pre ++ suf).length : Int) pre.length) r ∧ decide (r ≥ 0) = anyBad suf := by
  induction suf with
  | nil => intro pre _; exact ⟨-1, ev_succ (fun k => by simp [slices_IndexFunc_at_impl_badArg.l0]), by simp [anyBad]⟩
  | cons b suf ih =>
    intro pre hl
    simp only [List.length_cons, Int.natCast_add, Int.natCast_one] at hl
    cases hb : Go.Proofs.YthjlbpgiaehjnaaDoor.HTrim.argOk b with
    | false =>
      refine ⟨pre.length, ev_succ (fun k => ?_), by simp [anyBad, hb]⟩
      rw [slices_IndexFunc_at_impl_badArg.l0, if_pos (by simp; omega), if_pos (by omega), if_pos (by simp; omega), rdS_mid, badArg_eq, hb]
      rfl
    | true =>
      obtain ⟨r, h, hr⟩ := ih (pre ++ [b]) (by simp; omega)
      refine ⟨r, Ev.step (fun k => ?_) h, by rw [hr]; simp [anyBad, hb]⟩
      rw [slices_IndexFunc_at_impl_badArg.l0, if_pos (by simp; omega), if_pos (by omega), if_pos (by simp; omega), rdS_mid, badArg_eq, hb, wrap_id (by omega) (by omega)]
      simp
theorem badContains_ev {l : List ByteArray} (hl : (l.length : Int) ≤ 1048576) : Ev (fun k => slices_ContainsFunc_at_impl_badArg.f k l) (anyBad l) := by
  obtain ⟨r, h, hr⟩ := badIndex_l0 l [] (by simp; omega)
  rw [← hr]
  unfold slices_ContainsFunc_at_impl_badArg.f slices_IndexFunc_at_impl_badArg.f
  exact ev_bind (by simpa using h) (Ev.now _)
theorem impl_RequestFault_ev {a b : Int} {l : List ByteArray} (hl : l.length ≤ 1048576) : Ev (fun k => impl_RequestFault.f k a b l) (reqF a b l) := by
  have hj : Ev (fun k => impl_RequestFault.j0 k true a b l) 3 := ev_succ (fun k => by simp [impl_RequestFault.j0])
  have hj0 : Ev (fun k => impl_RequestFault.j0 k false a b l) (if (l.length : Int) > 5 then 2 else if anyBad l then 5 else 0) := by
    refine Ev.step (f := fun k => if (l.length : Int) > 5 then some 2 else ((slices_ContainsFunc_at_impl_badArg.f k l).bind fun t136 => (if t136 = true then (some 5) else (some 0)))) (fun k => by simp [impl_RequestFault.j0]) ?_
    by_cases h3 : (l.length : Int) > 5
    · rw [if_pos h3]; exact ev_if h3 (Ev.now _)
    · rw [if_neg h3]
      refine ev_ifn h3 (ev_bind (badContains_ev (by omega)) ?_)
      cases hb : anyBad l with
      | true => exact ev_if rfl (Ev.now _)
      | false => exact ev_ifn (by simp) (Ev.now _)
  unfold impl_RequestFault.f
  have e1 : impl_isId.f a = some (decide (0 ≤ a ∧ a ≤ 9999)) := by unfold impl_isId.f; rw [impl_in_eq]; rfl
  refine ev_bind0 e1 ?_
  unfold reqF
  by_cases h1 : 0 ≤ a ∧ a ≤ 9999
  · refine ev_if (decide_eq_true h1) (ev_bind0 (impl_in_eq _ _ _) ?_)
    by_cases h2 : 1 ≤ b ∧ b ≤ 3
    · rw [decide_eq_true h2, if_pos ⟨h1, h2⟩]; exact hj0
    · rw [decide_eq_false h2, if_neg (fun h => h2 h.2)]; exact hj
  · rw [if_neg (fun h => h1 h.1)]; exact ev_ifn (by simpa using h1) hj

theorem laws_toRequest_ev {a b : Int} {l : List ByteArray} (hl : l.length ≤ 1048576) : Ev (fun k => laws_toRequest.f k a b l) (a, b, l) := by
  unfold laws_toRequest.f
  exact ev_bind (laws_toStringS_ev hl) (Ev.now _)
theorem FnExactRequestFault (x0 : S24) (o0 : ok24 x0) : ∃ k, laws_FnExactRequestFault.f k x0.f0 x0.f1 x0.f2 = some true := by
  refine Ev.rounds (g := fun k => laws_FnExactRequestFault.f k x0.f0 x0.f1 x0.f2) ?_
  unfold laws_FnExactRequestFault.f
  obtain ⟨r, hr, hr1, hr2⟩ := laws_szStringS_ev (l := x0.f2) o0.2.2.1 o0.2.2.2 1048576 (by omega) (by omega)
  have hz : Ev (fun k => laws_szRequest.f k x0.f0 x0.f1 x0.f2 1048576) (if r < 0 then -1 else r) := by
    unfold laws_szRequest.f
    refine ev_bind hr ?_
    by_cases h : r < 0
    · simp only [if_pos h]; exact Ev.now _
    · simp only [if_neg h]; exact Ev.now _
  refine ev_bind hz ?_
  by_cases h : r < 0
  · exact ev_if (by rw [if_pos h]; decide) (Ev.now _)
  refine ev_ifn (by rw [if_neg h]; exact h) ?_
  obtain ⟨b1, b2⟩ := hr2 (by omega)
  refine ev_bind (laws_toRequest_ev b1) (ev_bind (spec_RequestFault_ev b1 b2) ?_)
  refine ev_bind (laws_toRequest_ev b1) (ev_bind (impl_RequestFault_ev b1) ?_)
  refine ev_if rfl ?_
  refine ev_bind (laws_toRequest_ev b1) (ev_bind (a := true) ?_ (ev_if rfl (Ev.now _)))
  unfold laws_eqRequest.f
  exact ev_if rfl (ev_if rfl (ev_bind (laws_eqStringS_refl b1) (ev_if rfl (Ev.now _))))

end Go.Proofs.YthjlbpgiaehjnaaDoor.Pure
