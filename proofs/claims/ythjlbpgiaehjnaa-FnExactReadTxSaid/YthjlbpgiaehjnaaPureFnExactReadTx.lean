/- for every slice of bytes, ReadTx answers as the reference does, in new memory, and leaves its argument as it was. -/
import Derived.Test.YthjlbpgiaehjnaaQFnExactReadTxx1
import Derived.Test.YthjlbpgiaehjnaaQFnExactReadTxx2
import Derived.Test.YthjlbpgiaehjnaaQFnExactReadTxx3
import Derived.Test.YthjlbpgiaehjnaaQFnExactReadTxx4
import Derived.Test.YthjlbpgiaehjnaaQFnExactReadTxx5
import Derived.Test.YthjlbpgiaehjnaaQFnExactReadTxx6
import Derived.Test.YthjlbpgiaehjnaaQFnExactReadTxx7
import Derived.Test.YthjlbpgiaehjnaaQFnExactReadTxx8
import Derived.Test.YthjlbpgiaehjnaaQFnExactReadTxx9
import Derived.Test.YthjlbpgiaehjnaaQFnExactReadTxx10
import Derived.Test.YthjlbpgiaehjnaaQFnExactReadTxx11
import Derived.Test.YthjlbpgiaehjnaaQFnExactReadTxx12
namespace Go.Proofs.Ythjlbpgiaehjnaa.Pure
open Go.RowKit Go.Proofs.Ythjlbpgiaehjnaa.QFnExactReadTx Go.Proofs.YthjlbpgiaehjnaaW.PrintWords Go.Proofs.YthjlbpgiaehjnaaW.PrintLast Go.Proofs.YthjlbpgiaehjnaaW.PrintMore
set_option linter.unusedVariables false
set_option linter.unusedSimpArgs false

theorem wrap_id {x : Int} (h1 : -9223372036854775808 ≤ x) (h2 : x ≤ 9223372036854775807) : wrap64 x = x := by
  unfold wrap64; omega
theorem wf64 {x : Int} (h : (Lit.int .i64 x).wf = true) : -9223372036854775808 ≤ x ∧ x ≤ 9223372036854775807 := by
  simpa [Lit.wf, IntKind.min, IntKind.max, IntKind.signed, IntKind.bits] using h
theorem wf8 {x : Int} (h : (Lit.int .u8 x).wf = true) : 0 ≤ x ∧ x ≤ 255 := by
  simpa [Lit.wf, IntKind.min, IntKind.max, IntKind.signed, IntKind.bits] using h
theorem ev_some {α : Type} {g : Nat → Option α} {r : α} (h : ∀ k, g k = some r) : Ev g r := ⟨0, fun k _ => h k⟩
theorem ev_succ {α : Type} {g : Nat → Option α} {r : α} (h : ∀ k, g (k + 1) = some r) : Ev g r := Ev.step h (Ev.now r)
/-- A call whose answer is known, and what follows. -/
theorem ev_bind {α β : Type} {g : Nat → Option α} {f : α → Nat → Option β} {a : α} {r : β} (h : Ev g a) (k : Ev (f a) r) : Ev (fun n => (g n).bind fun t => f t n) r :=
  Ev.bind (f := fun n t => f t n) h k
theorem ev_if {α : Type} {p : Prop} [Decidable p] {g f : Nat → Option α} {r : α} (hp : p) (k : Ev g r) : Ev (fun n => if p then g n else f n) r :=
  Ev.congr (fun n => if_pos hp) k
theorem ev_ifn {α : Type} {p : Prop} [Decidable p] {g f : Nat → Option α} {r : α} (hp : ¬ p) (k : Ev f r) : Ev (fun n => if p then g n else f n) r :=
  Ev.congr (fun n => if_neg hp) k
theorem ev_bind0 {α β : Type} {g : Option α} {f : α → Nat → Option β} {a : α} {r : β} (h : g = some a) (k : Ev (f a) r) : Ev (fun n => g.bind fun t => f t n) r := by
  subst h; exact k
theorem rd_mid (pre : List Int) (b : Int) (suf : List Int) : rd (pre ++ b :: suf) (pre.length : Int) = b := by
  unfold rd
  simp
theorem rd_at {l : List Int} {i : Int} (h0 : 0 ≤ i) (h1 : i < l.length) : rd l i = l[i.toNat]'(by omega) := by
  unfold rd
  rw [List.getD_eq_getElem?_getD, List.getElem?_eq_getElem (by omega)]; rfl
theorem split_at_len {α : Type} (l : List α) (n : Nat) (h : n ≤ l.length) : ∃ pre suf, l = pre ++ suf ∧ pre.length = n :=
  ⟨l.take n, l.drop n, (List.take_append_drop n l).symm, by simp; omega⟩

theorem laws_toByteS_l0 (suf : List Int) : ∀ (pre : List Int) (z : List Int), z.length = suf.length → (pre.length : Int) + suf.length ≤ 9223372036854775806 →
    Ev (fun k => laws_toByteS.l0 k (pre ++ suf) (pre ++ z) pre.length) (pre ++ suf) := by
  induction suf with
  | nil => intro pre z hz _; obtain rfl : z = [] := List.eq_nil_of_length_eq_zero (by simpa using hz); exact ev_succ (fun k => by simp [laws_toByteS.l0])
  | cons b suf ih =>
    intro pre z hz hl
    obtain ⟨c, z, rfl⟩ : ∃ c z', z = c :: z' := by cases z with | nil => simp at hz | cons c z => exact ⟨c, z, rfl⟩
    simp only [List.length_cons, Int.natCast_add, Int.natCast_one] at hl hz
    have h := ih (pre ++ [b]) z (by omega) (by simp; omega)
    refine Ev.step (fun k => ?_) (by simpa using h)
    rw [laws_toByteS.l0]
    rw [if_pos (by simp; omega), if_pos (by omega), if_pos (by simp; omega), rd_mid, wrap_id (by omega) (by omega)]
    simp
theorem laws_toByteS_ev {l : List Int} (hl : l.length ≤ 140737488351232) : Ev (fun k => laws_toByteS.f k l) l := by
  have h := laws_toByteS_l0 l [] (List.replicate l.length 0) (by simp) (by simp; omega)
  unfold laws_toByteS.f
  refine ev_if (by omega) (ev_if (by simp; omega) ?_)
  simpa using h

theorem laws_eqByteS_l0 (suf : List Int) : ∀ (pre : List Int), (pre.length : Int) + suf.length ≤ 9223372036854775806 →
    Ev (fun k => laws_eqByteS.l0 k (pre ++ suf) (pre ++ suf) pre.length) true := by
  induction suf with
  | nil => intro pre _; exact ev_succ (fun k => by simp [laws_eqByteS.l0])
  | cons b suf ih =>
    intro pre hl
    simp only [List.length_cons, Int.natCast_add, Int.natCast_one] at hl
    have h := ih (pre ++ [b]) (by simp; omega)
    refine Ev.step (fun k => ?_) (by simpa using h)
    rw [laws_eqByteS.l0]
    rw [if_pos (by simp; omega), if_pos (by omega), if_pos (by simp; omega), if_pos rfl, wrap_id (by omega) (by omega)]
theorem laws_eqByteS_refl {l : List Int} (hl : l.length ≤ 140737488351232) : Ev (fun k => laws_eqByteS.f k l l) true := by
  unfold laws_eqByteS.f
  exact ev_if rfl (laws_eqByteS_l0 l [] (by simp; omega))

/-- The marks of bytes from k on. -/
def marks8 (k : Int) : Nat → List Int
  | 0 => []
  | n + 1 => (k % 256) :: marks8 (k + 1) n
theorem marks8_length (k : Int) (n : Nat) : (marks8 k n).length = n := by
  induction n generalizing k with
  | zero => rfl
  | succ n ih => simp [marks8, ih]
theorem laws_markByteS_l0 (suf : List Int) : ∀ (pre : List Int) (q : Int), 0 ≤ q → q + suf.length ≤ 9223372036854775806 → (pre.length : Int) + suf.length ≤ 9223372036854775806 →
    Ev (fun k => laws_markByteS.l0 k (pre ++ suf) q pre.length) (q + suf.length, pre ++ marks8 q suf.length) := by
  induction suf with
  | nil => intro pre q _ _ _; exact ev_succ (fun k => by simp [laws_markByteS.l0, marks8])
  | cons b suf ih =>
    intro pre q h0 hq hl
    simp only [List.length_cons, Int.natCast_add, Int.natCast_one] at hl hq
    have h := ih (pre ++ [q % 256]) (q + 1) (by omega) (by omega) (by simp; omega)
    refine Ev.step (f := fun k => laws_markByteS.l0 k (pre ++ [q % 256] ++ suf) (q + 1) ((pre ++ [q % 256]).length : Int)) (fun k => ?_) ?_
    · rw [laws_markByteS.l0]
      rw [if_pos (by simp; omega), if_pos (by omega), wrap_id (x := q + 1) (by omega) (by omega), wrap_id (by omega) (by omega)]
      simp
    · have e : ((q + ((b :: suf).length : Int), pre ++ marks8 q (b :: suf).length) : Int × List Int) = (q + 1 + (suf.length : Int), pre ++ [q % 256] ++ marks8 (q + 1) suf.length) := by
        simp [marks8]; omega
      rw [e]; exact h
theorem laws_markByteS_ev {l : List Int} {q : Int} (h0 : 0 ≤ q) (hq : q ≤ 4611686018427387904) (hl : l.length ≤ 140737488351232) : Ev (fun k => laws_markByteS.f k l q) (q + l.length, marks8 q l.length) := by
  have h := laws_markByteS_l0 l [] q h0 (by omega) (by simp; omega)
  unfold laws_markByteS.f
  simpa using h

theorem laws_eqInt64S_l0 (suf : List Int) : ∀ (pre : List Int), (pre.length : Int) + suf.length ≤ 9223372036854775806 →
    Ev (fun k => laws_eqInt64S.l0 k (pre ++ suf) (pre ++ suf) pre.length) true := by
  induction suf with
  | nil => intro pre _; exact ev_succ (fun k => by simp [laws_eqInt64S.l0])
  | cons b suf ih =>
    intro pre hl
    simp only [List.length_cons, Int.natCast_add, Int.natCast_one] at hl
    have h := ih (pre ++ [b]) (by simp; omega)
    refine Ev.step (fun k => ?_) (by simpa using h)
    rw [laws_eqInt64S.l0]
    rw [if_pos (by simp; omega), if_pos (by omega), if_pos (by simp; omega), if_pos rfl, wrap_id (by omega) (by omega)]
theorem laws_eqInt64S_refl {l : List Int} (hl : l.length ≤ 140737488351232) : Ev (fun k => laws_eqInt64S.f k l l) true := by
  unfold laws_eqInt64S.f
  exact ev_if rfl (laws_eqInt64S_l0 l [] (by simp; omega))

theorem laws_eqIn_refl (b : S34) (hl : (b.f2.length : Int) ≤ 1048576) : Ev (fun k => laws_eqIn.f k b.f0 b.f1 b.f2 b.f0 b.f1 b.f2) true := by
  unfold laws_eqIn.f
  exact ev_if rfl (ev_if rfl (ev_bind (laws_eqInt64S_refl (by omega)) (ev_if rfl (Ev.now _))))
theorem laws_eqInS_l0 (suf : List S34) : ∀ (pre : List S34), (∀ x ∈ suf, (x.f2.length : Int) ≤ 1048576) → (pre.length : Int) + suf.length ≤ 1048576 →
    Ev (fun k => laws_eqInS.l0 k (pre ++ suf) (pre ++ suf) pre.length) true := by
  induction suf with
  | nil => intro pre _ _; exact ev_succ (fun k => by rw [laws_eqInS.l0, if_neg (by simp)])
  | cons b suf ih =>
    intro pre hs hl
    simp only [List.length_cons, Int.natCast_add, Int.natCast_one] at hl
    have hrd : rd_T34 (pre ++ b :: suf) (pre.length : Int) = b := by unfold rd_T34; simp
    have h := ih (pre ++ [b]) (fun x hx => hs x (by simp [hx])) (by simp; omega)
    refine Ev.step (f := fun k => (laws_eqIn.f k b.f0 b.f1 b.f2 b.f0 b.f1 b.f2).bind fun t => if t = true then laws_eqInS.l0 k (pre ++ b :: suf) (pre ++ b :: suf) ((pre.length : Int) + 1) else some false) (fun k => ?_) (ev_bind (laws_eqIn_refl b (hs b (by simp))) (ev_if rfl ?_))
    · rw [laws_eqInS.l0, if_pos (by simp; omega), if_pos (by omega), if_pos (by simp; omega), hrd, wrap_id (by omega) (by omega)]
    · simpa using h
theorem laws_eqInS_refl {l : List S34} (hl : l.length ≤ 1048576) (hs : ∀ x ∈ l, (x.f2.length : Int) ≤ 1048576) : Ev (fun k => laws_eqInS.f k l l) true := by
  unfold laws_eqInS.f
  exact ev_if rfl (laws_eqInS_l0 l [] hs (by simp; omega))

theorem laws_eqOut_refl (b : S86) (hl : (b.f1.length : Int) ≤ 1048576) : Ev (fun k => laws_eqOut.f k b.f0 b.f1 b.f0 b.f1) true := by
  unfold laws_eqOut.f
  exact ev_if rfl (ev_bind (laws_eqInt64S_refl (by omega)) (ev_if rfl (Ev.now _)))
theorem laws_eqOutS_l0 (suf : List S86) : ∀ (pre : List S86), (∀ x ∈ suf, (x.f1.length : Int) ≤ 1048576) → (pre.length : Int) + suf.length ≤ 1048576 →
    Ev (fun k => laws_eqOutS.l0 k (pre ++ suf) (pre ++ suf) pre.length) true := by
  induction suf with
  | nil => intro pre _ _; exact ev_succ (fun k => by rw [laws_eqOutS.l0, if_neg (by simp)])
  | cons b suf ih =>
    intro pre hs hl
    simp only [List.length_cons, Int.natCast_add, Int.natCast_one] at hl
    have hrd : rd_T86 (pre ++ b :: suf) (pre.length : Int) = b := by unfold rd_T86; simp
    have h := ih (pre ++ [b]) (fun x hx => hs x (by simp [hx])) (by simp; omega)
    refine Ev.step (f := fun k => (laws_eqOut.f k b.f0 b.f1 b.f0 b.f1).bind fun t => if t = true then laws_eqOutS.l0 k (pre ++ b :: suf) (pre ++ b :: suf) ((pre.length : Int) + 1) else some false) (fun k => ?_) (ev_bind (laws_eqOut_refl b (hs b (by simp))) (ev_if rfl ?_))
    · rw [laws_eqOutS.l0, if_pos (by simp; omega), if_pos (by omega), if_pos (by simp; omega), hrd, wrap_id (by omega) (by omega)]
    · simpa using h
theorem laws_eqOutS_refl {l : List S86} (hl : l.length ≤ 1048576) (hs : ∀ x ∈ l, (x.f1.length : Int) ≤ 1048576) : Ev (fun k => laws_eqOutS.f k l l) true := by
  unfold laws_eqOutS.f
  exact ev_if rfl (laws_eqOutS_l0 l [] hs (by simp; omega))

theorem laws_eqTx_refl {a : Int} {l1 : List S34} {l2 : List S86} (h1 : l1.length ≤ 1048576 ∧ ∀ x ∈ l1, (x.f2.length : Int) ≤ 1048576) (h2 : l2.length ≤ 1048576 ∧ ∀ x ∈ l2, (x.f1.length : Int) ≤ 1048576) :
    Ev (fun k => laws_eqTx.f k a l1 l2 a l1 l2) true := by
  unfold laws_eqTx.f
  exact ev_if rfl (ev_bind (laws_eqInS_refl h1.1 h1.2) (ev_if rfl (ev_bind (laws_eqOutS_refl h2.1 h2.2) (ev_if rfl (Ev.now _)))))

/-- The marks from k on. -/
def marks (k : Int) : Nat → List Int
  | 0 => []
  | n + 1 => k :: marks (k + 1) n
theorem marks_length (k : Int) (n : Nat) : (marks k n).length = n := by
  induction n generalizing k with
  | zero => rfl
  | succ n ih => simp [marks, ih]
theorem laws_markInt64S_l0 (suf : List Int) : ∀ (pre : List Int) (q : Int), 0 ≤ q → q + suf.length ≤ 9223372036854775806 → (pre.length : Int) + suf.length ≤ 9223372036854775806 →
    Ev (fun k => laws_markInt64S.l0 k (pre ++ suf) q pre.length) (q + suf.length, pre ++ marks q suf.length) := by
  induction suf with
  | nil => intro pre q _ _ _; exact ev_succ (fun k => by simp [laws_markInt64S.l0, marks])
  | cons b suf ih =>
    intro pre q h0 hq hl
    simp only [List.length_cons, Int.natCast_add, Int.natCast_one] at hl hq
    have h := ih (pre ++ [q]) (q + 1) (by omega) (by omega) (by simp; omega)
    refine Ev.step (f := fun k => laws_markInt64S.l0 k (pre ++ [q] ++ suf) (q + 1) ((pre ++ [q]).length : Int)) (fun k => ?_) ?_
    · rw [laws_markInt64S.l0]
      rw [if_pos (by simp; omega), if_pos (by omega), wrap_id (x := q + 1) (by omega) (by omega), wrap_id (by omega) (by omega)]
      simp
    · have e : ((q + ((b :: suf).length : Int), pre ++ marks q (b :: suf).length) : Int × List Int) = (q + 1 + (suf.length : Int), pre ++ [q] ++ marks (q + 1) suf.length) := by
        simp [marks]; omega
      rw [e]; exact h
theorem laws_markInt64S_ev {l : List Int} {q : Int} (h0 : 0 ≤ q) (hq : q ≤ 4611686018427387904) (hl : l.length ≤ 140737488351232) : Ev (fun k => laws_markInt64S.f k l q) (q + l.length, marks q l.length) := by
  have h := laws_markInt64S_l0 l [] q h0 (by omega) (by simp; omega)
  unfold laws_markInt64S.f
  simpa using h
theorem laws_heldInt64S_l0 (n : Nat) : ∀ (pre : List Int) (q : Int), 0 ≤ q → q + n ≤ 9223372036854775806 → (pre.length : Int) + n ≤ 9223372036854775806 →
    Ev (fun k => laws_heldInt64S.l0 k (pre ++ marks q n) q pre.length) (q + n) := by
  induction n with
  | zero => intro pre q _ _ _; exact ev_succ (fun k => by simp [laws_heldInt64S.l0, marks])
  | succ n ih =>
    intro pre q h0 hq hl
    simp only [Int.natCast_add, Int.natCast_one] at hl hq
    have h := ih (pre ++ [q]) (q + 1) (by omega) (by omega) (by simp; omega)
    refine Ev.step (f := fun k => laws_heldInt64S.l0 k (pre ++ [q] ++ marks (q + 1) n) (q + 1) ((pre ++ [q]).length : Int)) (fun k => ?_) ?_
    · rw [laws_heldInt64S.l0, marks]
      rw [if_pos (by simp [marks_length]; omega), if_pos (by omega), rd_mid, if_pos rfl, wrap_id (x := q + 1) (by omega) (by omega), wrap_id (by omega) (by omega)]
      simp
    · have e : q + ((n + 1 : Nat) : Int) = q + 1 + (n : Int) := by omega
      rw [e]; exact h
theorem laws_heldInt64S_ev {q : Int} {n : Nat} (h0 : 0 ≤ q) (hq : q ≤ 4611686018427387904) (hl : n ≤ 140737488351232) : Ev (fun k => laws_heldInt64S.f k (marks q n) q) (q + n) := by
  have h := laws_heldInt64S_l0 n [] q h0 (by omega) (by simp; omega)
  unfold laws_heldInt64S.f
  simpa using h

def mkI (q : Int) : List S34 → List S34
  | [] => []
  | x :: r => ⟨q, q + 1, marks (q + 2) x.f2.length⟩ :: mkI (q + 2 + x.f2.length) r
def szI : List S34 → Nat
  | [] => 0
  | x :: r => 2 + x.f2.length + szI r
theorem laws_markInS_l0 (suf : List S34) : ∀ (pre : List S34) (q : Int), 0 ≤ q → q + szI suf ≤ 4611686018427387904 → (pre.length : Int) + suf.length ≤ 1048576 → (∀ x ∈ suf, (x.f2.length : Int) ≤ 1048576) →
    Ev (fun k => laws_markInS.l0 k (pre ++ suf) q pre.length) (q + szI suf, pre ++ mkI q suf) := by
  induction suf with
  | nil => intro pre q _ _ _ _; exact ev_succ (fun k => by simp [laws_markInS.l0, mkI, szI])
  | cons b suf ih =>
    intro pre q h0 hq hl hs
    have hb := hs b (by simp)
    have hsz : (szI (b :: suf) : Int) = 2 + b.f2.length + szI suf := by simp [szI]
    simp only [List.length_cons, Int.natCast_add, Int.natCast_one] at hl
    have h := ih (pre ++ [(⟨q, q + 1, marks (q + 2) b.f2.length⟩ : S34)]) (q + 2 + b.f2.length) (by omega) (by omega) (by simp; omega) (fun x hx => hs x (by simp [hx]))
    have hrd : (pre ++ b :: suf).getD ((pre.length : Int)).toNat z34 = b := by simp
    have hm := laws_markInt64S_ev (l := b.f2) (q := q + 2) (by omega) (by omega) (by omega)
    have hset : (pre ++ b :: suf).set ((pre.length : Int)).toNat (⟨q, q + 1, marks (q + 2) b.f2.length⟩ : S34) = pre ++ (⟨q, q + 1, marks (q + 2) b.f2.length⟩ : S34) :: suf := by simp
    refine Ev.step (f := fun k => (laws_markInt64S.f k b.f2 (q + 2)).bind fun t => laws_markInS.l0 k ((pre ++ b :: suf).set ((pre.length : Int)).toNat (⟨q, q + 1, t.2⟩ : S34)) t.1 ((pre.length : Int) + 1)) (fun k => ?_) (ev_bind hm ?_)
    · rw [laws_markInS.l0, if_pos (by simp; omega), if_pos (by omega), hrd, wrap_id (x := q + 1) (by omega) (by omega), wrap_id (x := q + 1 + 1) (by omega) (by omega), wrap_id (x := (pre.length : Int) + 1) (by omega) (by omega)]
      rw [show q + 1 + 1 = q + 2 by omega]
    · show Ev (fun k => laws_markInS.l0 k ((pre ++ b :: suf).set ((pre.length : Int)).toNat (⟨q, q + 1, marks (q + 2) b.f2.length⟩ : S34)) (q + 2 + b.f2.length) ((pre.length : Int) + 1)) _
      rw [hset, hsz]
      have e1 : pre ++ [(⟨q, q + 1, marks (q + 2) b.f2.length⟩ : S34)] ++ suf = pre ++ (⟨q, q + 1, marks (q + 2) b.f2.length⟩ : S34) :: suf := by simp
      have e2 : pre ++ [(⟨q, q + 1, marks (q + 2) b.f2.length⟩ : S34)] ++ mkI (q + 2 + b.f2.length) suf = pre ++ mkI q (b :: suf) := by simp [mkI]
      have e3 : ((pre ++ [(⟨q, q + 1, marks (q + 2) b.f2.length⟩ : S34)]).length : Int) = (pre.length : Int) + 1 := by simp
      rw [e1, e2, e3] at h
      have e4 : q + 2 + (b.f2.length : Int) + (szI suf : Int) = q + (2 + (b.f2.length : Int) + (szI suf : Int)) := by omega
      rw [e4] at h
      exact h
theorem laws_markInS_ev {l : List S34} {q : Int} (h0 : 0 ≤ q) (hq : q + szI l ≤ 4611686018427387904) (hl : l.length ≤ 1048576 ∧ ∀ x ∈ l, (x.f2.length : Int) ≤ 1048576) : Ev (fun k => laws_markInS.f k l q) (q + szI l, mkI q l) := by
  unfold laws_markInS.f
  exact laws_markInS_l0 l [] q h0 hq (by simp; omega) hl.2
theorem laws_heldInS_l0 (suf : List S34) : ∀ (pre : List S34) (q : Int), 0 ≤ q → q + szI suf ≤ 4611686018427387904 → (pre.length : Int) + suf.length ≤ 1048576 → (∀ x ∈ suf, (x.f2.length : Int) ≤ 1048576) →
    Ev (fun k => laws_heldInS.l0 k (pre ++ mkI q suf) q pre.length) (q + szI suf) := by
  induction suf with
  | nil => intro pre q _ _ _ _; exact ev_succ (fun k => by simp [laws_heldInS.l0, mkI, szI])
  | cons b suf ih =>
    intro pre q h0 hq hl hs
    have hb := hs b (by simp)
    have hsz : (szI (b :: suf) : Int) = 2 + b.f2.length + szI suf := by simp [szI]
    simp only [List.length_cons, Int.natCast_add, Int.natCast_one] at hl
    have h := ih (pre ++ [(⟨q, q + 1, marks (q + 2) b.f2.length⟩ : S34)]) (q + 2 + b.f2.length) (by omega) (by omega) (by simp; omega) (fun x hx => hs x (by simp [hx]))
    have hrd : rd_T34 (pre ++ mkI q (b :: suf)) (pre.length : Int) = (⟨q, q + 1, marks (q + 2) b.f2.length⟩ : S34) := by unfold rd_T34; simp [mkI]
    have hm := laws_heldInt64S_ev (n := b.f2.length) (q := q + 2) (by omega) (by omega) (by omega)
    refine Ev.step (f := fun k => (laws_heldInt64S.f k (marks (q + 2) b.f2.length) (q + 2)).bind fun t => if t < 0 then some (-1) else laws_heldInS.l0 k (pre ++ mkI q (b :: suf)) t ((pre.length : Int) + 1)) (fun k => ?_) (ev_bind hm (ev_ifn (by omega) ?_))
    · rw [laws_heldInS.l0, if_pos (by simp [mkI]; omega), if_pos (by omega), hrd, if_pos rfl, wrap_id (x := q + 1) (by omega) (by omega), if_pos rfl, wrap_id (x := q + 1 + 1) (by omega) (by omega), wrap_id (x := (pre.length : Int) + 1) (by omega) (by omega)]
      rw [show q + 1 + 1 = q + 2 by omega]
    · rw [hsz]
      have e2 : pre ++ [(⟨q, q + 1, marks (q + 2) b.f2.length⟩ : S34)] ++ mkI (q + 2 + b.f2.length) suf = pre ++ mkI q (b :: suf) := by simp [mkI]
      have e3 : ((pre ++ [(⟨q, q + 1, marks (q + 2) b.f2.length⟩ : S34)]).length : Int) = (pre.length : Int) + 1 := by simp
      rw [e2, e3] at h
      have e4 : q + 2 + (b.f2.length : Int) + (szI suf : Int) = q + (2 + (b.f2.length : Int) + (szI suf : Int)) := by omega
      rw [e4] at h
      exact h
theorem laws_heldInS_ev {l : List S34} {q : Int} (h0 : 0 ≤ q) (hq : q + szI l ≤ 4611686018427387904) (hl : l.length ≤ 1048576 ∧ ∀ x ∈ l, (x.f2.length : Int) ≤ 1048576) : Ev (fun k => laws_heldInS.f k (mkI q l) q) (q + szI l) := by
  unfold laws_heldInS.f
  exact laws_heldInS_l0 l [] q h0 hq (by simp; omega) hl.2
def mkO (q : Int) : List S86 → List S86
  | [] => []
  | x :: r => ⟨q, marks (q + 1) x.f1.length⟩ :: mkO (q + 1 + x.f1.length) r
def szO : List S86 → Nat
  | [] => 0
  | x :: r => 1 + x.f1.length + szO r
theorem laws_markOutS_l0 (suf : List S86) : ∀ (pre : List S86) (q : Int), 0 ≤ q → q + szO suf ≤ 4611686018427387904 → (pre.length : Int) + suf.length ≤ 1048576 → (∀ x ∈ suf, (x.f1.length : Int) ≤ 1048576) →
    Ev (fun k => laws_markOutS.l0 k (pre ++ suf) q pre.length) (q + szO suf, pre ++ mkO q suf) := by
  induction suf with
  | nil => intro pre q _ _ _ _; exact ev_succ (fun k => by simp [laws_markOutS.l0, mkO, szO])
  | cons b suf ih =>
    intro pre q h0 hq hl hs
    have hb := hs b (by simp)
    have hsz : (szO (b :: suf) : Int) = 1 + b.f1.length + szO suf := by simp [szO]
    simp only [List.length_cons, Int.natCast_add, Int.natCast_one] at hl
    have h := ih (pre ++ [(⟨q, marks (q + 1) b.f1.length⟩ : S86)]) (q + 1 + b.f1.length) (by omega) (by omega) (by simp; omega) (fun x hx => hs x (by simp [hx]))
    have hrd : (pre ++ b :: suf).getD ((pre.length : Int)).toNat z86 = b := by simp
    have hm := laws_markInt64S_ev (l := b.f1) (q := q + 1) (by omega) (by omega) (by omega)
    have hset : (pre ++ b :: suf).set ((pre.length : Int)).toNat (⟨q, marks (q + 1) b.f1.length⟩ : S86) = pre ++ (⟨q, marks (q + 1) b.f1.length⟩ : S86) :: suf := by simp
    refine Ev.step (f := fun k => (laws_markInt64S.f k b.f1 (q + 1)).bind fun t => laws_markOutS.l0 k ((pre ++ b :: suf).set ((pre.length : Int)).toNat (⟨q, t.2⟩ : S86)) t.1 ((pre.length : Int) + 1)) (fun k => ?_) (ev_bind hm ?_)
    · rw [laws_markOutS.l0, if_pos (by simp; omega), if_pos (by omega), hrd, wrap_id (x := q + 1) (by omega) (by omega), wrap_id (x := (pre.length : Int) + 1) (by omega) (by omega)]
    · show Ev (fun k => laws_markOutS.l0 k ((pre ++ b :: suf).set ((pre.length : Int)).toNat (⟨q, marks (q + 1) b.f1.length⟩ : S86)) (q + 1 + b.f1.length) ((pre.length : Int) + 1)) _
      rw [hset, hsz]
      have e1 : pre ++ [(⟨q, marks (q + 1) b.f1.length⟩ : S86)] ++ suf = pre ++ (⟨q, marks (q + 1) b.f1.length⟩ : S86) :: suf := by simp
      have e2 : pre ++ [(⟨q, marks (q + 1) b.f1.length⟩ : S86)] ++ mkO (q + 1 + b.f1.length) suf = pre ++ mkO q (b :: suf) := by simp [mkO]
      have e3 : ((pre ++ [(⟨q, marks (q + 1) b.f1.length⟩ : S86)]).length : Int) = (pre.length : Int) + 1 := by simp
      rw [e1, e2, e3] at h
      have e4 : q + 1 + (b.f1.length : Int) + (szO suf : Int) = q + (1 + (b.f1.length : Int) + (szO suf : Int)) := by omega
      rw [e4] at h
      exact h
theorem laws_markOutS_ev {l : List S86} {q : Int} (h0 : 0 ≤ q) (hq : q + szO l ≤ 4611686018427387904) (hl : l.length ≤ 1048576 ∧ ∀ x ∈ l, (x.f1.length : Int) ≤ 1048576) : Ev (fun k => laws_markOutS.f k l q) (q + szO l, mkO q l) := by
  unfold laws_markOutS.f
  exact laws_markOutS_l0 l [] q h0 hq (by simp; omega) hl.2
theorem laws_heldOutS_l0 (suf : List S86) : ∀ (pre : List S86) (q : Int), 0 ≤ q → q + szO suf ≤ 4611686018427387904 → (pre.length : Int) + suf.length ≤ 1048576 → (∀ x ∈ suf, (x.f1.length : Int) ≤ 1048576) →
    Ev (fun k => laws_heldOutS.l0 k (pre ++ mkO q suf) q pre.length) (q + szO suf) := by
  induction suf with
  | nil => intro pre q _ _ _ _; exact ev_succ (fun k => by simp [laws_heldOutS.l0, mkO, szO])
  | cons b suf ih =>
    intro pre q h0 hq hl hs
    have hb := hs b (by simp)
    have hsz : (szO (b :: suf) : Int) = 1 + b.f1.length + szO suf := by simp [szO]
    simp only [List.length_cons, Int.natCast_add, Int.natCast_one] at hl
    have h := ih (pre ++ [(⟨q, marks (q + 1) b.f1.length⟩ : S86)]) (q + 1 + b.f1.length) (by omega) (by omega) (by simp; omega) (fun x hx => hs x (by simp [hx]))
    have hrd : rd_T86 (pre ++ mkO q (b :: suf)) (pre.length : Int) = (⟨q, marks (q + 1) b.f1.length⟩ : S86) := by unfold rd_T86; simp [mkO]
    have hm := laws_heldInt64S_ev (n := b.f1.length) (q := q + 1) (by omega) (by omega) (by omega)
    refine Ev.step (f := fun k => (laws_heldInt64S.f k (marks (q + 1) b.f1.length) (q + 1)).bind fun t => if t < 0 then some (-1) else laws_heldOutS.l0 k (pre ++ mkO q (b :: suf)) t ((pre.length : Int) + 1)) (fun k => ?_) (ev_bind hm (ev_ifn (by omega) ?_))
    · rw [laws_heldOutS.l0, if_pos (by simp [mkO]; omega), if_pos (by omega), hrd, if_pos rfl, wrap_id (x := q + 1) (by omega) (by omega), wrap_id (x := (pre.length : Int) + 1) (by omega) (by omega)]
    · rw [hsz]
      have e2 : pre ++ [(⟨q, marks (q + 1) b.f1.length⟩ : S86)] ++ mkO (q + 1 + b.f1.length) suf = pre ++ mkO q (b :: suf) := by simp [mkO]
      have e3 : ((pre ++ [(⟨q, marks (q + 1) b.f1.length⟩ : S86)]).length : Int) = (pre.length : Int) + 1 := by simp
      rw [e2, e3] at h
      have e4 : q + 1 + (b.f1.length : Int) + (szO suf : Int) = q + (1 + (b.f1.length : Int) + (szO suf : Int)) := by omega
      rw [e4] at h
      exact h
theorem laws_heldOutS_ev {l : List S86} {q : Int} (h0 : 0 ≤ q) (hq : q + szO l ≤ 4611686018427387904) (hl : l.length ≤ 1048576 ∧ ∀ x ∈ l, (x.f1.length : Int) ≤ 1048576) : Ev (fun k => laws_heldOutS.f k (mkO q l) q) (q + szO l) := by
  unfold laws_heldOutS.f
  exact laws_heldOutS_l0 l [] q h0 hq (by simp; omega) hl.2
theorem laws_markTx_ev {a : Int} {l1 : List S34} {l2 : List S86} {q : Int} (h0 : 0 ≤ q) (hq : q + szI l1 + szO l2 ≤ 4611686018427387904) (h1 : l1.length ≤ 1048576 ∧ ∀ x ∈ l1, (x.f2.length : Int) ≤ 1048576) (h2 : l2.length ≤ 1048576 ∧ ∀ x ∈ l2, (x.f1.length : Int) ≤ 1048576) :
    Ev (fun k => laws_markTxResult.f k a l1 l2 q) (q + szI l1 + szO l2, mkI q l1, mkO (q + szI l1) l2) := by
  unfold laws_markTxResult.f laws_markTx.f
  exact ev_bind (laws_markInS_ev h0 (by omega) h1) (ev_bind (laws_markOutS_ev (q := q + szI l1) (by omega) (by omega) h2) (Ev.now _))
theorem laws_heldTx_ev {c a u : Int} {l1 : List S34} {l2 : List S86} {q : Int} (h0 : 0 ≤ q) (hq : q + szI l1 + szO l2 ≤ 4611686018427387904) (h1 : l1.length ≤ 1048576 ∧ ∀ x ∈ l1, (x.f2.length : Int) ≤ 1048576) (h2 : l2.length ≤ 1048576 ∧ ∀ x ∈ l2, (x.f1.length : Int) ≤ 1048576) :
    Ev (fun k => laws_heldTxResult.f k c a (mkI q l1) (mkO (q + szI l1) l2) u q) (q + szI l1 + szO l2) := by
  unfold laws_heldTxResult.f laws_heldTx.f
  exact ev_bind (ev_bind (laws_heldInS_ev h0 (by omega) h1) (ev_ifn (by omega) (ev_bind (laws_heldOutS_ev (q := q + szI l1) (by omega) (by omega) h2) (ev_ifn (by omega) (Ev.now _))))) (ev_ifn (by omega) (Ev.now _))

def readV : List Int → Int × Int × Int
  | [] => (5, 0, 0)
  | a :: r => if a < 253 then (0, a, 1) else if a = 253 then match r with
    | b :: c :: _ => if b + 256 * c < 253 then (5, 0, 0) else (0, b + 256 * c, 3)
    | _ => (5, 0, 0)
    else (5, 0, 0)
theorem readV_short {a : Int} (h1 : ¬ a < 253) : ∀ r : List Int, r.length < 2 → readV (a :: r) = (5, 0, 0)
  | [], _ => by simp [readV, h1]
  | [b], _ => by simp [readV, h1]
  | _ :: _ :: _, h => by simp at h; omega
theorem readV_wide {a : Int} (h1 : ¬ a < 253) (h2 : ¬ a = 253) : ∀ r : List Int, readV (a :: r) = (5, 0, 0)
  | [] => by simp [readV, h1]
  | [b] => by simp [readV, h1]
  | _ :: _ :: _ => by simp [readV, h1, h2]
theorem impl_ReadVar_ev {l : List Int} (hb : ∀ x ∈ l, 0 ≤ x ∧ x ≤ 255) : Ev (fun k => impl_ReadVar.f k l) (readV l) := by
  have bad : Ev (fun k => impl_ReadVar.j1 k l true) (5, 0, 0) := ev_succ (fun k => by rw [impl_ReadVar.j1, if_pos rfl])
  unfold impl_ReadVar.f
  match l, hb, bad with
  | [], _, bad =>
    refine ev_ifn (by simp) ?_
    exact Ev.step (f := fun k => impl_ReadVar.j1 k [] true) (fun k => by rw [impl_ReadVar.j0, if_neg (by decide), if_pos (by simp)]) bad
  | a :: r, hb, bad =>
    have ha := hb a (by simp)
    have hr0 : rd (a :: r) 0 = a := rfl
    refine ev_if (by simp <;> omega) (ev_if (by simp <;> omega) ?_)
    rw [hr0]
    by_cases h1 : a < 253
    · rw [decide_eq_true h1]
      refine ev_succ (fun k => ?_)
      rw [impl_ReadVar.j0, if_pos rfl, if_pos (by simp <;> omega), hr0, wrap_id (by omega) (by omega)]
      simp [readV, h1]
    · rw [decide_eq_false h1]
      by_cases h3 : r.length < 2
      · have e := readV_short h1 r h3
        rw [e]
        exact Ev.step (f := fun k => impl_ReadVar.j1 k (a :: r) true) (fun k => by rw [impl_ReadVar.j0, if_neg (by decide), if_pos (by simp <;> omega)]) bad
      · refine Ev.step (f := fun k => impl_ReadVar.j1 k (a :: r) (a != 253)) (fun k => by rw [impl_ReadVar.j0, if_neg (by decide), if_neg (by simp <;> omega), if_pos (by simp <;> omega), hr0]) ?_
        by_cases h2 : a = 253
        · obtain ⟨b, c, s, rfl⟩ : ∃ b c s, r = b :: c :: s := by
            cases r with
            | nil => simp at h3
            | cons b r => cases r with
              | nil => simp at h3
              | cons c s => exact ⟨b, c, s, rfl⟩
          · skip
            have hbb := hb b (by simp)
            have hbc := hb c (by simp)
            have hr1 : rd (a :: b :: c :: s) 1 = b := rfl
            have hr2 : rd (a :: b :: c :: s) 2 = c := rfl
            rw [show (a != 253) = false from bne_eq_false_iff_eq.2 h2]
            refine ev_succ (fun k => ?_)
            have e3 : wrap64 (wrap64 b + wrap64 (wrap64 c * 256)) = b + 256 * c := by
              rw [wrap_id (x := b) (by omega) (by omega), wrap_id (x := c) (by omega) (by omega), wrap_id (x := c * 256) (by omega) (by omega), Int.mul_comm c 256]
              exact wrap_id (by omega) (by omega)
            rw [impl_ReadVar.j1, if_neg (by decide), if_pos (by simp <;> omega), if_pos (by simp <;> omega), hr1, hr2, e3]
            by_cases h4 : b + 256 * c < 253
            · rw [if_pos h4]; simp [readV, h2, h4]
            · rw [if_neg h4]; simp [readV, h2, h4]
        · rw [show (a != 253) = true from bne_iff_ne.2 h2]
          have e := readV_wide h1 h2 r
          rw [e]; exact bad

theorem drop_tail {l r : List Int} {a : Int} {p : Nat} (e : l.drop p = a :: r) : l.drop (p + 1) = r := by
  have h := congrArg List.tail e
  rwa [List.tail_drop] at h
theorem drop_lt {l r : List Int} {a : Int} {p : Nat} (e : l.drop p = a :: r) : p < l.length := by
  have h := congrArg List.length e
  rw [List.length_drop, List.length_cons] at h
  omega
theorem drop_mem {l r : List Int} {a : Int} {p : Nat} (e : l.drop p = a :: r) : a ∈ l := List.mem_of_mem_drop (i := p) (by rw [e]; simp)
theorem drop_rd {l r : List Int} {a : Int} {p : Nat} (e : l.drop p = a :: r) : rd l (p : Int) = a := by
  have h : (l.drop p)[0]? = some a := by rw [e]; rfl
  rw [List.getElem?_drop, Nat.add_zero] at h
  unfold rd
  rw [Int.toNat_natCast, List.getD_eq_getElem?_getD, h]; rfl
/-- A number at a place, and the place behind it. -/
def V (l : List Int) (p : Nat) : Option (Int × Nat) := if (readV (l.drop p)).1 = 0 then some ((readV (l.drop p)).2.1, p + (readV (l.drop p)).2.2.toNat) else none
def Vm (b : Bool) (most : Int) (l : List Int) (p : Nat) : Option (Int × Nat) := (V l p).bind fun r => if b = true ∧ r.1 > most then none else some r
def Big (l : List Int) (p : Nat) : Option (Int × Nat) := (V l p).bind fun a => (V l a.2).bind fun c => some (a.1 + 65536 * c.1, c.2)
def Lst (l : List Int) : Nat → Nat → Option (List Int × Nat)
  | 0, p => some ([], p)
  | n + 1, p => (V l p).bind fun a => (Lst l n a.2).bind fun r => some (a.1 :: r.1, r.2)
def Nums (b : Bool) (most : Int) (l : List Int) (p : Nat) : Option (List Int × Nat) := (Vm b most l p).bind fun c => Lst l c.1.toNat c.2
def InR (b : Bool) (l : List Int) (p : Nat) : Option (S34 × Nat) := (Big l p).bind fun a => (V l a.2).bind fun o => (Nums b 8 l o.2).bind fun r => some (⟨a.1, o.1, r.1⟩, r.2)
def InsR (b : Bool) (l : List Int) : Nat → Nat → Option (List S34 × Nat)
  | 0, p => some ([], p)
  | n + 1, p => (InR b l p).bind fun x => (InsR b l n x.2).bind fun r => some (x.1 :: r.1, r.2)
def OutR (b : Bool) (l : List Int) (p : Nat) : Option (S86 × Nat) := (Big l p).bind fun a => (Nums b 12 l a.2).bind fun r => some (⟨a.1, r.1⟩, r.2)
def OutsR (b : Bool) (l : List Int) : Nat → Nat → Option (List S86 × Nat)
  | 0, p => some ([], p)
  | n + 1, p => (OutR b l p).bind fun x => (OutsR b l n x.2).bind fun r => some (x.1 :: r.1, r.2)
/-- A transaction at a place; b: whether the counts are bounded at once. -/
def TxR (b : Bool) (l : List Int) (p : Nat) : Option (S27 × Nat) := (V l p).bind fun n => (Vm b 4 l n.2).bind fun c => (InsR b l c.1.toNat c.2).bind fun xs => (Vm b 4 l xs.2).bind fun d => (OutsR b l d.1.toNat d.2).bind fun ys => some (⟨n.1, xs.1, ys.1⟩, ys.2)
def BytesL (l : List Int) : Prop := (∀ x ∈ l, 0 ≤ x ∧ x ≤ 255) ∧ l.length ≤ 1048576
/-- What stands at a place. -/
theorem readV_at {l : List Int} (hb : BytesL l) (p : Nat) : (readV (l.drop p)).1 = 0 → 0 ≤ (readV (l.drop p)).2.1 ∧ (readV (l.drop p)).2.1 ≤ 65535 ∧ 1 ≤ (readV (l.drop p)).2.2 ∧ (readV (l.drop p)).2.2 ≤ ((l.drop p).length : Int) := by
  intro h
  have hm : ∀ x ∈ l.drop p, 0 ≤ x ∧ x ≤ 255 := fun x hx => hb.1 x (List.mem_of_mem_drop hx)
  generalize l.drop p = d at h hm ⊢
  cases d with
  | nil => simp [readV] at h
  | cons a r =>
    have ha := hm a (by simp)
    by_cases h1 : a < 253
    · have e : readV (a :: r) = (0, a, 1) := by simp [readV, h1]
      rw [e]
      simp only [List.length_cons]
      omega
    · by_cases h3 : r.length < 2
      · rw [readV_short h1 r h3] at h; simp at h
      · by_cases h2 : a = 253
        · obtain ⟨c, e, s, rfl⟩ : ∃ c e s, r = c :: e :: s := by
            cases r with
            | nil => simp at h3
            | cons c r => cases r with
              | nil => simp at h3
              | cons e s => exact ⟨c, e, s, rfl⟩
          have hc := hm c (by simp)
          have he := hm e (by simp)
          by_cases h4 : c + 256 * e < 253
          · have e2 : readV (a :: c :: e :: s) = (5, 0, 0) := by simp [readV, h2, h4]
            rw [e2] at h; simp at h
          · have e2 : readV (a :: c :: e :: s) = (0, c + 256 * e, 3) := by simp [readV, h2, h4]
            rw [e2]
            simp only [List.length_cons]
            omega
        · rw [readV_wide h1 h2 r] at h; simp at h
theorem V_some {l : List Int} (hb : BytesL l) {p : Nat} {v : Int} {q : Nat} (h : V l p = some (v, q)) : (0 ≤ v ∧ v ≤ 65535) ∧ p < q ∧ q ≤ l.length ∧ readV (l.drop p) = (0, v, (q : Int) - p) := by
  unfold V at h
  by_cases h1 : (readV (l.drop p)).1 = 0
  · rw [if_pos h1] at h
    obtain ⟨a1, a2, a3, a4⟩ := readV_at hb p h1
    simp only [Option.some.injEq, Prod.mk.injEq] at h
    obtain ⟨rfl, rfl⟩ := h
    rw [List.length_drop] at a4
    refine ⟨⟨a1, a2⟩, by omega, by omega, ?_⟩
    have e : ((p + (readV (l.drop p)).2.2.toNat : Nat) : Int) - p = (readV (l.drop p)).2.2 := by omega
    rw [e]
    generalize readV (l.drop p) = t at h1
    obtain ⟨x, y, z⟩ := t
    simp only at h1
    rw [h1]
  · rw [if_neg h1] at h; cases h
theorem Vm_some {b : Bool} {most : Int} {l : List Int} {p : Nat} {r : Int × Nat} (h : Vm b most l p = some r) : V l p = some r ∧ (b = true → r.1 ≤ most) := by
  unfold Vm at h
  obtain ⟨x, hx, h⟩ := Option.bind_eq_some_iff.mp h
  by_cases c : b = true ∧ x.1 > most
  · rw [if_pos c] at h; cases h
  · rw [if_neg c] at h
    cases h
    exact ⟨hx, fun hb => Int.not_lt.1 (fun h => c ⟨hb, h⟩)⟩
theorem Vm_of {b : Bool} {most : Int} {l : List Int} {p : Nat} {r : Int × Nat} (h : V l p = some r) (hm : b = true → r.1 ≤ most) : Vm b most l p = some r := by
  unfold Vm
  rw [h, Option.bind_some, if_neg (fun c => by have := hm c.1; omega)]
theorem Lst_len {l : List Int} : ∀ (n p : Nat) (r : List Int × Nat), Lst l n p = some r → r.1.length = n
  | 0, p, r, h => by cases h; rfl
  | n + 1, p, r, h => by
    unfold Lst at h
    obtain ⟨a, _, h⟩ := Option.bind_eq_some_iff.mp h
    obtain ⟨s, hs, h⟩ := Option.bind_eq_some_iff.mp h
    cases h
    simp [Lst_len n _ _ hs]
theorem Lst_at {l : List Int} (hb : BytesL l) : ∀ (n p : Nat) (r : List Int × Nat), p ≤ l.length → Lst l n p = some r → p ≤ r.2 ∧ r.2 ≤ l.length
  | 0, p, r, hp, h => by cases h; exact ⟨Nat.le_refl _, hp⟩
  | n + 1, p, r, hp, h => by
    unfold Lst at h
    obtain ⟨a, ha, h⟩ := Option.bind_eq_some_iff.mp h
    obtain ⟨s, hs, h⟩ := Option.bind_eq_some_iff.mp h
    cases h
    have h1 := V_some hb ha
    have h2 := Lst_at hb n _ _ h1.2.2.1 hs
    exact ⟨by show p ≤ s.2; omega, h2.2⟩
theorem Nums_some {b : Bool} {most : Int} {l : List Int} (hb : BytesL l) {p : Nat} {r : List Int × Nat} (h : Nums b most l p = some r) : p ≤ r.2 ∧ r.2 ≤ l.length ∧ r.1.length ≤ 65535 ∧ ∃ c q, V l p = some (c, q) ∧ Lst l c.toNat q = some r ∧ (r.1.length : Int) = c ∧ (b = true → c ≤ most) := by
  obtain ⟨⟨c, q⟩, hc, h⟩ := Option.bind_eq_some_iff.mp h
  obtain ⟨hv, hm⟩ := Vm_some hc
  have h1 := V_some hb hv
  have h2 := Lst_at hb _ _ _ h1.2.2.1 h
  have h3 := Lst_len _ _ _ h
  simp only at hm h3
  exact ⟨by omega, h2.2, by omega, c, q, hv, h, by omega, hm⟩
theorem Big_some {l : List Int} (hb : BytesL l) {p : Nat} {r : Int × Nat} (h : Big l p = some r) : p ≤ r.2 ∧ r.2 ≤ l.length := by
  obtain ⟨a, ha, h⟩ := Option.bind_eq_some_iff.mp h
  obtain ⟨c, hc, h⟩ := Option.bind_eq_some_iff.mp h
  cases h
  have h1 := V_some hb ha
  have h2 := V_some hb hc
  exact ⟨by show p ≤ c.2; omega, h2.2.2.1⟩
theorem InR_some {b : Bool} {l : List Int} (hb : BytesL l) {p : Nat} {r : S34 × Nat} (h : InR b l p = some r) : r.2 ≤ l.length ∧ r.1.f2.length ≤ 65535 := by
  obtain ⟨a, ha, h⟩ := Option.bind_eq_some_iff.mp h
  obtain ⟨o, ho, h⟩ := Option.bind_eq_some_iff.mp h
  obtain ⟨s, hs, h⟩ := Option.bind_eq_some_iff.mp h
  cases h
  have h1 := Nums_some hb hs
  exact ⟨h1.2.1, h1.2.2.1⟩
theorem OutR_some {b : Bool} {l : List Int} (hb : BytesL l) {p : Nat} {r : S86 × Nat} (h : OutR b l p = some r) : r.2 ≤ l.length ∧ r.1.f1.length ≤ 65535 := by
  obtain ⟨a, ha, h⟩ := Option.bind_eq_some_iff.mp h
  obtain ⟨s, hs, h⟩ := Option.bind_eq_some_iff.mp h
  cases h
  have h1 := Nums_some hb hs
  exact ⟨h1.2.1, h1.2.2.1⟩
theorem InsR_some {b : Bool} {l : List Int} (hb : BytesL l) : ∀ (n p : Nat) (r : List S34 × Nat), p ≤ l.length → InsR b l n p = some r → r.2 ≤ l.length ∧ r.1.length = n ∧ ∀ x ∈ r.1, x.f2.length ≤ 65535
  | 0, p, r, hp, h => by cases h; exact ⟨hp, rfl, by simp⟩
  | n + 1, p, r, hp, h => by
    unfold InsR at h
    obtain ⟨a, ha, h⟩ := Option.bind_eq_some_iff.mp h
    obtain ⟨s, hs, h⟩ := Option.bind_eq_some_iff.mp h
    cases h
    have h1 := InR_some hb ha
    have h2 := InsR_some hb n _ _ h1.1 hs
    refine ⟨h2.1, by simp [h2.2.1], fun x hx => ?_⟩
    rcases List.mem_cons.1 hx with rfl | hx
    · exact h1.2
    · exact h2.2.2 x hx
theorem OutsR_some {b : Bool} {l : List Int} (hb : BytesL l) : ∀ (n p : Nat) (r : List S86 × Nat), p ≤ l.length → OutsR b l n p = some r → r.2 ≤ l.length ∧ r.1.length = n ∧ ∀ x ∈ r.1, x.f1.length ≤ 65535
  | 0, p, r, hp, h => by cases h; exact ⟨hp, rfl, by simp⟩
  | n + 1, p, r, hp, h => by
    unfold OutsR at h
    obtain ⟨a, ha, h⟩ := Option.bind_eq_some_iff.mp h
    obtain ⟨s, hs, h⟩ := Option.bind_eq_some_iff.mp h
    cases h
    have h1 := OutR_some hb ha
    have h2 := OutsR_some hb n _ _ h1.1 hs
    refine ⟨h2.1, by simp [h2.2.1], fun x hx => ?_⟩
    rcases List.mem_cons.1 hx with rfl | hx
    · exact h1.2
    · exact h2.2.2 x hx
/-! What is read within bounds is read without them; what is read only without them is not within them. -/
theorem Nums_true {most : Int} {l : List Int} {p : Nat} {r : List Int × Nat} (h : Nums true most l p = some r) : Nums false most l p = some r := by
  obtain ⟨c, hc, h⟩ := Option.bind_eq_some_iff.mp h
  exact Option.bind_eq_some_iff.mpr ⟨c, Vm_of (Vm_some hc).1 (fun h => by cases h), h⟩
theorem Nums_lim {most : Int} {l : List Int} (hb : BytesL l) {p : Nat} {r : List Int × Nat} (h : Nums false most l p = some r) : Nums true most l p = some r ∨ most < (r.1.length : Int) := by
  obtain ⟨_, _, _, c, q, hv, hl, hc, _⟩ := Nums_some hb h
  by_cases hm : c ≤ most
  · exact .inl (Option.bind_eq_some_iff.mpr ⟨(c, q), Vm_of hv (fun _ => hm), hl⟩)
  · exact .inr (by omega)
theorem InR_true {l : List Int} {p : Nat} {r : S34 × Nat} (h : InR true l p = some r) : InR false l p = some r := by
  obtain ⟨a, ha, h⟩ := Option.bind_eq_some_iff.mp h
  obtain ⟨o, ho, h⟩ := Option.bind_eq_some_iff.mp h
  obtain ⟨s, hs, h⟩ := Option.bind_eq_some_iff.mp h
  exact Option.bind_eq_some_iff.mpr ⟨a, ha, Option.bind_eq_some_iff.mpr ⟨o, ho, Option.bind_eq_some_iff.mpr ⟨s, Nums_true hs, h⟩⟩⟩
theorem InR_lim {l : List Int} (hb : BytesL l) {p : Nat} {r : S34 × Nat} (h : InR false l p = some r) : InR true l p = some r ∨ 8 < r.1.f2.length := by
  obtain ⟨a, ha, h⟩ := Option.bind_eq_some_iff.mp h
  obtain ⟨o, ho, h⟩ := Option.bind_eq_some_iff.mp h
  obtain ⟨s, hs, h⟩ := Option.bind_eq_some_iff.mp h
  rcases Nums_lim hb hs with h1 | h1
  · exact .inl (Option.bind_eq_some_iff.mpr ⟨a, ha, Option.bind_eq_some_iff.mpr ⟨o, ho, Option.bind_eq_some_iff.mpr ⟨s, h1, h⟩⟩⟩)
  · cases h; exact .inr (by show 8 < s.1.length; omega)
theorem OutR_true {l : List Int} {p : Nat} {r : S86 × Nat} (h : OutR true l p = some r) : OutR false l p = some r := by
  obtain ⟨a, ha, h⟩ := Option.bind_eq_some_iff.mp h
  obtain ⟨s, hs, h⟩ := Option.bind_eq_some_iff.mp h
  exact Option.bind_eq_some_iff.mpr ⟨a, ha, Option.bind_eq_some_iff.mpr ⟨s, Nums_true hs, h⟩⟩
theorem OutR_lim {l : List Int} (hb : BytesL l) {p : Nat} {r : S86 × Nat} (h : OutR false l p = some r) : OutR true l p = some r ∨ 12 < r.1.f1.length := by
  obtain ⟨a, ha, h⟩ := Option.bind_eq_some_iff.mp h
  obtain ⟨s, hs, h⟩ := Option.bind_eq_some_iff.mp h
  rcases Nums_lim hb hs with h1 | h1
  · exact .inl (Option.bind_eq_some_iff.mpr ⟨a, ha, Option.bind_eq_some_iff.mpr ⟨s, h1, h⟩⟩)
  · cases h; exact .inr (by show 12 < s.1.length; omega)
theorem InsR_true {l : List Int} : ∀ (n p : Nat) (r : List S34 × Nat), InsR true l n p = some r → InsR false l n p = some r
  | 0, _, _, h => h
  | n + 1, p, r, h => by
    unfold InsR at h ⊢
    obtain ⟨a, ha, h⟩ := Option.bind_eq_some_iff.mp h
    obtain ⟨s, hs, h⟩ := Option.bind_eq_some_iff.mp h
    exact Option.bind_eq_some_iff.mpr ⟨a, InR_true ha, Option.bind_eq_some_iff.mpr ⟨s, InsR_true n _ _ hs, h⟩⟩
theorem InsR_lim {l : List Int} (hb : BytesL l) : ∀ (n p : Nat) (r : List S34 × Nat), InsR false l n p = some r → InsR true l n p = some r ∨ ∃ x ∈ r.1, 8 < x.f2.length
  | 0, _, _, h => .inl h
  | n + 1, p, r, h => by
    unfold InsR at h ⊢
    obtain ⟨a, ha, h⟩ := Option.bind_eq_some_iff.mp h
    obtain ⟨s, hs, h⟩ := Option.bind_eq_some_iff.mp h
    rcases InR_lim hb ha with h1 | h1
    · rcases InsR_lim hb n _ _ hs with h2 | ⟨x, hx, h2⟩
      · exact .inl (Option.bind_eq_some_iff.mpr ⟨a, h1, Option.bind_eq_some_iff.mpr ⟨s, h2, h⟩⟩)
      · cases h; exact .inr ⟨x, List.mem_cons_of_mem _ hx, h2⟩
    · cases h; exact .inr ⟨a.1, by simp, h1⟩
theorem OutsR_true {l : List Int} : ∀ (n p : Nat) (r : List S86 × Nat), OutsR true l n p = some r → OutsR false l n p = some r
  | 0, _, _, h => h
  | n + 1, p, r, h => by
    unfold OutsR at h ⊢
    obtain ⟨a, ha, h⟩ := Option.bind_eq_some_iff.mp h
    obtain ⟨s, hs, h⟩ := Option.bind_eq_some_iff.mp h
    exact Option.bind_eq_some_iff.mpr ⟨a, OutR_true ha, Option.bind_eq_some_iff.mpr ⟨s, OutsR_true n _ _ hs, h⟩⟩
theorem OutsR_lim {l : List Int} (hb : BytesL l) : ∀ (n p : Nat) (r : List S86 × Nat), OutsR false l n p = some r → OutsR true l n p = some r ∨ ∃ x ∈ r.1, 12 < x.f1.length
  | 0, _, _, h => .inl h
  | n + 1, p, r, h => by
    unfold OutsR at h ⊢
    obtain ⟨a, ha, h⟩ := Option.bind_eq_some_iff.mp h
    obtain ⟨s, hs, h⟩ := Option.bind_eq_some_iff.mp h
    rcases OutR_lim hb ha with h1 | h1
    · rcases OutsR_lim hb n _ _ hs with h2 | ⟨x, hx, h2⟩
      · exact .inl (Option.bind_eq_some_iff.mpr ⟨a, h1, Option.bind_eq_some_iff.mpr ⟨s, h2, h⟩⟩)
      · cases h; exact .inr ⟨x, List.mem_cons_of_mem _ hx, h2⟩
    · cases h; exact .inr ⟨a.1, by simp, h1⟩
theorem TxR_true {l : List Int} {p : Nat} {r : S27 × Nat} (h : TxR true l p = some r) : TxR false l p = some r := by
  obtain ⟨n, hn, h⟩ := Option.bind_eq_some_iff.mp h
  obtain ⟨c, hc, h⟩ := Option.bind_eq_some_iff.mp h
  obtain ⟨xs, hx, h⟩ := Option.bind_eq_some_iff.mp h
  obtain ⟨d, hd, h⟩ := Option.bind_eq_some_iff.mp h
  obtain ⟨ys, hy, h⟩ := Option.bind_eq_some_iff.mp h
  exact Option.bind_eq_some_iff.mpr ⟨n, hn, Option.bind_eq_some_iff.mpr ⟨c, Vm_of (Vm_some hc).1 (fun h => by cases h), Option.bind_eq_some_iff.mpr ⟨xs, InsR_true _ _ _ hx, Option.bind_eq_some_iff.mpr ⟨d, Vm_of (Vm_some hd).1 (fun h => by cases h), Option.bind_eq_some_iff.mpr ⟨ys, OutsR_true _ _ _ hy, h⟩⟩⟩⟩⟩
/-- What is read, and is within the bounds of a transaction, is read within bounds. -/
theorem TxR_lim {l : List Int} (hb : BytesL l) {p : Nat} {r : S27 × Nat} (h : TxR false l p = some r) (h1 : r.1.f1.length ≤ 4) (h2 : r.1.f2.length ≤ 4) (h3 : ∀ x ∈ r.1.f1, x.f2.length ≤ 8) (h4 : ∀ x ∈ r.1.f2, x.f1.length ≤ 12) : TxR true l p = some r := by
  obtain ⟨n, hn, h⟩ := Option.bind_eq_some_iff.mp h
  obtain ⟨c, hc, h⟩ := Option.bind_eq_some_iff.mp h
  obtain ⟨xs, hx, h⟩ := Option.bind_eq_some_iff.mp h
  obtain ⟨d, hd, h⟩ := Option.bind_eq_some_iff.mp h
  obtain ⟨ys, hy, h⟩ := Option.bind_eq_some_iff.mp h
  cases h
  have a0 := V_some hb hn
  have a1 := V_some hb (Vm_some hc).1
  have a2 := InsR_some hb _ _ _ a1.2.2.1 hx
  have a3 := V_some hb (Vm_some hd).1
  have a4 := OutsR_some hb _ _ _ a3.2.2.1 hy
  simp only at h1 h2 h3 h4
  have c1 : InsR true l c.1.toNat c.2 = some xs := (InsR_lim hb _ _ _ hx).resolve_right (fun ⟨x, hx, h⟩ => by have := h3 x hx; omega)
  have c2 : OutsR true l d.1.toNat d.2 = some ys := (OutsR_lim hb _ _ _ hy).resolve_right (fun ⟨x, hx, h⟩ => by have := h4 x hx; omega)
  exact Option.bind_eq_some_iff.mpr ⟨n, hn, Option.bind_eq_some_iff.mpr ⟨c, Vm_of (Vm_some hc).1 (fun _ => by omega), Option.bind_eq_some_iff.mpr ⟨xs, c1, Option.bind_eq_some_iff.mpr ⟨d, Vm_of (Vm_some hd).1 (fun _ => by omega), Option.bind_eq_some_iff.mpr ⟨ys, c2, rfl⟩⟩⟩⟩⟩

/-- All numbers of a list lie between two. -/
def AllIn (l : List Int) (lo hi : Int) : Prop := ∀ x ∈ l, lo ≤ x ∧ x ≤ hi
instance (l : List Int) (lo hi : Int) : Decidable (AllIn l lo hi) := by unfold AllIn; infer_instance
theorem AllIn_cons {b : Int} {l : List Int} {lo hi : Int} : AllIn (b :: l) lo hi ↔ (lo ≤ b ∧ b ≤ hi) ∧ AllIn l lo hi := by simp [AllIn]

theorem spec_l1In_eq (a b c : Int) : spec_l1In.f a b c = some (decide (b ≤ a ∧ a ≤ c)) := by
  unfold spec_l1In.f
  by_cases h : a ≥ b
  · rw [if_pos h]; congr 1; rw [Bool.eq_iff_iff]; simp; omega
  · rw [if_neg h]; congr 1; symm; simp; omega
theorem impl_in_eq (a b c : Int) : impl_in.f a b c = some (decide (b ≤ a ∧ a ≤ c)) := by
  unfold impl_in.f
  by_cases h : a ≥ b
  · rw [if_pos h]; congr 1; rw [Bool.eq_iff_iff]; simp; omega
  · rw [if_neg h]; congr 1; symm; simp; omega

theorem spec_l1All_l0 (lo hi : Int) (suf : List Int) : ∀ (pre : List Int), (pre.length : Int) + suf.length ≤ 9223372036854775806 →
    Ev (fun k => spec_l1All.l0 k (pre ++ suf) lo hi pre.length) (decide (AllIn suf lo hi)) := by
  induction suf with
  | nil => intro pre _; exact ev_succ (fun k => by rw [spec_l1All.l0, if_neg (by simp)]; simp [AllIn])
  | cons b suf ih =>
    intro pre hl
    simp only [List.length_cons, Int.natCast_add, Int.natCast_one] at hl
    have h := ih (pre ++ [b]) (by simp; omega)
    by_cases hb : lo ≤ b ∧ b ≤ hi
    · have e : decide (AllIn (b :: suf) lo hi) = decide (AllIn suf lo hi) := by simp [AllIn_cons, hb]
      rw [e]
      refine Ev.step (fun k => ?_) h
      rw [spec_l1All.l0, if_pos (by simp; omega), if_pos (by omega), rd_mid, spec_l1In_eq, wrap_id (by omega) (by omega)]
      simp [hb]
    · have e : decide (AllIn (b :: suf) lo hi) = false := by simp [AllIn_cons, hb]
      rw [e]
      refine ev_succ (fun k => ?_)
      rw [spec_l1All.l0, if_pos (by simp; omega), if_pos (by omega), rd_mid, spec_l1In_eq]
      simp [hb]
theorem spec_l1All_ev {l : List Int} (lo hi : Int) (hl : (l.length : Int) ≤ 9223372036854775806) : Ev (fun k => spec_l1All.f k l lo hi) (decide (AllIn l lo hi)) := by
  unfold spec_l1All.f
  exact spec_l1All_l0 lo hi l [] (by simpa using hl)

theorem spec_l1Amount_eq (a : Int) : spec_l1Amount.f a = some (decide (0 ≤ a ∧ a ≤ 1000000)) := by
  unfold spec_l1Amount.f; rw [spec_l1In_eq]; rfl
theorem impl_isAmount_eq (a : Int) : impl_isAmount.f a = some (decide (0 ≤ a ∧ a ≤ 1000000)) := by
  unfold impl_isAmount.f; rw [impl_in_eq]; rfl

theorem slices_IndexFunc_at_impl_ProgramFault_1_l0 (p : Int → Bool) (hp : ∀ x, impl_ProgramFault_1.f x = some (p x)) (suf : List Int) : ∀ (pre : List Int), (pre.length : Int) + suf.length ≤ 9223372036854775806 →
    ∃ r : Int, Ev (fun k => slices_IndexFunc_at_impl_ProgramFault_1.l0 k (pre ++ suf) ((pre ++ suf).length : Int) pre.length) r ∧ decide (r ≥ 0) = suf.any p := by
  induction suf with
  | nil => intro pre _; exact ⟨-1, ev_succ (fun k => by rw [slices_IndexFunc_at_impl_ProgramFault_1.l0, if_neg (by simp)]), by simp⟩
  | cons b suf ih =>
    intro pre hl
    simp only [List.length_cons, Int.natCast_add, Int.natCast_one] at hl
    cases hb : p b with
    | true =>
      refine ⟨pre.length, ev_succ (fun k => ?_), by simp [hb]⟩
      rw [slices_IndexFunc_at_impl_ProgramFault_1.l0, if_pos (by simp; omega), if_pos (by omega), if_pos (by simp; omega), rd_mid, hp, hb]
      rfl
    | false =>
      obtain ⟨r, h, hr⟩ := ih (pre ++ [b]) (by simp; omega)
      refine ⟨r, Ev.step (fun k => ?_) h, by simp [hb, hr]⟩
      rw [slices_IndexFunc_at_impl_ProgramFault_1.l0, if_pos (by simp; omega), if_pos (by omega), if_pos (by simp; omega), rd_mid, hp, hb, wrap_id (by omega) (by omega)]
      simp
theorem slices_ContainsFunc_at_impl_ProgramFault_1_ev (p : Int → Bool) (hp : ∀ x, impl_ProgramFault_1.f x = some (p x)) {l : List Int} (hl : (l.length : Int) ≤ 9223372036854775806) :
    Ev (fun k => slices_ContainsFunc_at_impl_ProgramFault_1.f k l) (l.any p) := by
  obtain ⟨r, h, hr⟩ := slices_IndexFunc_at_impl_ProgramFault_1_l0 p hp l [] (by simpa using hl)
  rw [← hr]
  unfold slices_ContainsFunc_at_impl_ProgramFault_1.f slices_IndexFunc_at_impl_ProgramFault_1.f
  exact ev_bind (by simpa using h) (Ev.now _)

/-- Is a number no operation? -/
def opBad (x : Int) : Bool := !(decide (1 ≤ x ∧ x ≤ 9) || decide (100 ≤ x ∧ x ≤ 1099))
def faultP (l : List Int) : Int := if l.length > 12 then 2 else if l.any opBad then 1 else 0
theorem spec_l2Op_eq (x : Int) : spec_l2Op.f x = some (!opBad x) := by
  unfold spec_l2Op.f opBad
  simp only [spec_l1In_eq, Option.bind_some]
  by_cases h : 1 ≤ x ∧ x ≤ 9 <;> simp [h]
theorem impl_ProgramFault_1_eq (x : Int) : impl_ProgramFault_1.f x = some (opBad x) := by
  unfold impl_ProgramFault_1.f opBad
  simp only [impl_in_eq, Option.bind_some]
  by_cases h : 1 ≤ x ∧ x ≤ 9 <;> simp [h]
theorem spec_l2Fault_l0 (suf : List Int) : ∀ (pre : List Int), (pre.length : Int) + suf.length ≤ 9223372036854775806 →
    Ev (fun k => spec_l2Fault.l0 k (pre ++ suf) pre.length) (if suf.any opBad then 1 else 0) := by
  induction suf with
  | nil => intro pre _; exact ev_succ (fun k => by rw [spec_l2Fault.l0, if_neg (by simp)]; simp)
  | cons b suf ih =>
    intro pre hl
    simp only [List.length_cons, Int.natCast_add, Int.natCast_one] at hl
    cases hb : opBad b with
    | true =>
      refine ev_succ (fun k => ?_)
      rw [spec_l2Fault.l0, if_pos (by simp; omega), if_pos (by omega), rd_mid, spec_l2Op_eq, hb]
      simp [hb]
    | false =>
      have h := ih (pre ++ [b]) (by simp; omega)
      have e : (b :: suf).any opBad = suf.any opBad := by simp [hb]
      rw [e]
      refine Ev.step (fun k => ?_) h
      rw [spec_l2Fault.l0, if_pos (by simp; omega), if_pos (by omega), rd_mid, spec_l2Op_eq, hb, wrap_id (by omega) (by omega)]
      simp
theorem spec_l2Fault_ev {l : List Int} (hl : (l.length : Int) ≤ 9223372036854775806) : Ev (fun k => spec_l2Fault.f k l) (faultP l) := by
  unfold spec_l2Fault.f faultP
  by_cases h : l.length > 12
  · rw [if_pos h]; exact ev_if (by omega) (Ev.now _)
  · rw [if_neg h]; exact ev_ifn (by omega) (spec_l2Fault_l0 l [] (by simpa using hl))
theorem impl_ProgramFault_ev {l : List Int} (hl : (l.length : Int) ≤ 9223372036854775806) : Ev (fun k => impl_ProgramFault.f k l) (faultP l) := by
  unfold impl_ProgramFault.f faultP
  by_cases h : l.length > 12
  · rw [if_pos h]; exact ev_if (by omega) (Ev.now _)
  · rw [if_neg h]
    refine ev_ifn (by omega) (ev_bind (slices_ContainsFunc_at_impl_ProgramFault_1_ev opBad impl_ProgramFault_1_eq hl) ?_)
    cases l.any opBad with
    | true => exact ev_if rfl (Ev.now _)
    | false => exact ev_ifn (by decide) (Ev.now _)

theorem slices_IndexFunc_at_impl_badCell_l0 (p : Int → Bool) (hp : ∀ x, impl_badCell.f x = some (p x)) (suf : List Int) : ∀ (pre : List Int), (pre.length : Int) + suf.length ≤ 9223372036854775806 →
    ∃ r : Int, Ev (fun k => slices_IndexFunc_at_impl_badCell.l0 k (pre ++ suf) ((pre ++ suf).length : Int) pre.length) r ∧ decide (r ≥ 0) = suf.any p := by
  induction suf with
  | nil => intro pre _; exact ⟨-1, ev_succ (fun k => by rw [slices_IndexFunc_at_impl_badCell.l0, if_neg (by simp)]), by simp⟩
  | cons b suf ih =>
    intro pre hl
    simp only [List.length_cons, Int.natCast_add, Int.natCast_one] at hl
    cases hb : p b with
    | true =>
      refine ⟨pre.length, ev_succ (fun k => ?_), by simp [hb]⟩
      rw [slices_IndexFunc_at_impl_badCell.l0, if_pos (by simp; omega), if_pos (by omega), if_pos (by simp; omega), rd_mid, hp, hb]
      rfl
    | false =>
      obtain ⟨r, h, hr⟩ := ih (pre ++ [b]) (by simp; omega)
      refine ⟨r, Ev.step (fun k => ?_) h, by simp [hb, hr]⟩
      rw [slices_IndexFunc_at_impl_badCell.l0, if_pos (by simp; omega), if_pos (by omega), if_pos (by simp; omega), rd_mid, hp, hb, wrap_id (by omega) (by omega)]
      simp
theorem slices_ContainsFunc_at_impl_badCell_ev (p : Int → Bool) (hp : ∀ x, impl_badCell.f x = some (p x)) {l : List Int} (hl : (l.length : Int) ≤ 9223372036854775806) :
    Ev (fun k => slices_ContainsFunc_at_impl_badCell.f k l) (l.any p) := by
  obtain ⟨r, h, hr⟩ := slices_IndexFunc_at_impl_badCell_l0 p hp l [] (by simpa using hl)
  rw [← hr]
  unfold slices_ContainsFunc_at_impl_badCell.f slices_IndexFunc_at_impl_badCell.f
  exact ev_bind (by simpa using h) (Ev.now _)

theorem impl_isSum_eq (a : Int) : impl_isSum.f a = some (decide (0 ≤ a ∧ a ≤ 2147483646)) := by
  unfold impl_isSum.f; rw [impl_in_eq]; rfl

def inBad (x : S34) : Bool := !(decide (0 ≤ x.f0 ∧ x.f0 ≤ 2147483646) && decide (0 ≤ x.f1 ∧ x.f1 ≤ 3))
def sameIn (x y : S34) : Bool := decide (x.f0 = y.f0) && (x.f1 == y.f1)
/-- The code of an input behind others. -/
def inF (ahead : List S34) (x : S34) : Int := if inBad x = true then 3 else if (x.f2.length : Int) > 8 then 2 else if decide (AllIn x.f2 0 9999) = true then (if ahead.any (sameIn x) = true then 6 else 0) else 3
def insF : List S34 → List S34 → Int → Int
  | _, [], e => e
  | p, x :: xs, e => if inF p x = 0 then insF (p ++ [x]) xs e else inF p x
def outSumF : Int → List S86 → Int
  | a, [] => a
  | a, x :: xs => outSumF (wrap64 (a + x.f0)) xs
def endV (a : Int) : Int := if 0 ≤ a ∧ a ≤ 1000000 then 0 else 7
def outsF : List S86 → Int → Int
  | [], e => e
  | y :: ys, e => if 0 ≤ y.f0 ∧ y.f0 ≤ 1000000 then (if faultP y.f1 = 0 then outsF ys e else faultP y.f1) else 3
def txF (t : S27) : Int := if 0 ≤ t.f0 ∧ t.f0 ≤ 65535 then (if (t.f1.length : Int) > 4 ∨ (t.f2.length : Int) < 1 ∨ (t.f2.length : Int) > 4 then 2 else insF [] t.f1 (outsF t.f2 (endV (outSumF 0 t.f2)))) else 3
theorem rdI (pre : List S34) (b : S34) (suf : List S34) : rd_T34 (pre ++ b :: suf) (pre.length : Int) = b := by unfold rd_T34; simp
theorem rdO (pre : List S86) (b : S86) (suf : List S86) : rd_T86 (pre ++ b :: suf) (pre.length : Int) = b := by unfold rd_T86; simp
theorem spec_l3In_l0 (x : S34) (suf : List S34) (p2 : List S34) : ∀ (p1 : List S34), (p1.length : Int) + p2.length + suf.length ≤ 1048576 →
    Ev (fun k => spec_l3In.l0 k (p1 ++ (p2 ++ x :: suf)) ((p1.length : Int) + p2.length) p1.length) (if p2.any (sameIn x) = true then 6 else 0) := by
  induction p2 with
  | nil => intro p1 _; exact ev_succ (fun k => by rw [spec_l3In.l0, if_neg (by simp)]; simp)
  | cons b p2 ih =>
    intro p1 hl
    simp only [List.length_cons, Int.natCast_add, Int.natCast_one] at hl ⊢
    have h := ih (p1 ++ [b]) (by simp; omega)
    have e1 : rd_T34 (p1 ++ (b :: p2 ++ x :: suf)) (p1.length : Int) = b := rdI p1 b _
    have e2 : rd_T34 (p1 ++ (b :: p2 ++ x :: suf)) ((p1.length : Int) + (p2.length + 1)) = x := by
      have := rdI (p1 ++ b :: p2) x suf
      simpa using this
    have hstep : ∀ k, spec_l3In.l0 (k + 1) (p1 ++ (b :: p2 ++ x :: suf)) ((p1.length : Int) + (p2.length + 1)) p1.length = (if b.f0 = x.f0 then (if b.f1 = x.f1 then some 6 else spec_l3In.l0 k (p1 ++ (b :: p2 ++ x :: suf)) ((p1.length : Int) + (p2.length + 1)) ((p1.length : Int) + 1)) else spec_l3In.l0 k (p1 ++ (b :: p2 ++ x :: suf)) ((p1.length : Int) + (p2.length + 1)) ((p1.length : Int) + 1)) := by
      intro k
      rw [spec_l3In.l0, if_pos (by omega), if_pos (by omega), if_pos (by simp; omega), if_pos (by omega), if_pos (by simp; omega), e1, e2, wrap_id (by omega) (by omega)]
    have h' : Ev (fun k => spec_l3In.l0 k (p1 ++ (b :: p2 ++ x :: suf)) ((p1.length : Int) + (p2.length + 1)) ((p1.length : Int) + 1)) (if p2.any (sameIn x) = true then 6 else 0) := by
      have q : ((p1 ++ [b]).length : Int) = (p1.length : Int) + 1 := by simp
      rw [q] at h
      have q2 : (p1.length : Int) + 1 + (p2.length : Int) = (p1.length : Int) + ((p2.length : Int) + 1) := by omega
      rw [q2] at h
      simpa using h
    by_cases h0 : b.f0 = x.f0
    · by_cases h1 : b.f1 = x.f1
      · refine ev_succ (fun k => ?_)
        rw [hstep, if_pos h0, if_pos h1]
        simp [sameIn, h0, h1]
      · refine Ev.step (fun k => by rw [hstep, if_pos h0, if_neg h1]) ?_
        have e : (b :: p2).any (sameIn x) = p2.any (sameIn x) := by simp [sameIn, h0, Ne.symm h1]
        rw [e]; exact h'
    · refine Ev.step (fun k => by rw [hstep, if_neg h0]) ?_
      have e : (b :: p2).any (sameIn x) = p2.any (sameIn x) := by simp [sameIn, Ne.symm h0]
      rw [e]; exact h'
theorem spec_l3In_ev (pre : List S34) (x : S34) (suf : List S34) (hx : (x.f2.length : Int) ≤ 1048576) (hl : (pre.length : Int) + suf.length + 1 ≤ 1048576) :
    Ev (fun k => spec_l3In.f k (pre ++ x :: suf) pre.length) (inF pre x) := by
  unfold spec_l3In.f
  refine ev_if (by omega) (ev_if (by simp; omega) ?_)
  refine Ev.congr (f := fun k => spec_l3In.j0 k (pre ++ x :: suf) pre.length (inBad x)) (fun k => ?_) ?_
  · rw [rdI, spec_l1In_eq, spec_l1In_eq]
    simp only [Option.bind_some, inBad]
    cases decide (0 ≤ x.f0 ∧ x.f0 ≤ 2147483646) <;> cases decide (0 ≤ x.f1 ∧ x.f1 ≤ 3) <;> simp
  · unfold inF
    cases hb : inBad x with
    | true => exact ev_succ (fun k => by rw [spec_l3In.j0]; simp)
    | false =>
      rw [if_neg (by decide)]
      refine Ev.step (f := fun k => if (x.f2.length : Int) > 8 then some 2 else (spec_l1All.f k x.f2 0 9999).bind fun t => if t = true then spec_l3In.l0 k (pre ++ x :: suf) pre.length 0 else some 3) (fun k => ?_) ?_
      · rw [spec_l3In.j0, if_neg (by decide), if_pos (by omega), if_pos (by simp; omega), rdI]
      · by_cases h8 : (x.f2.length : Int) > 8
        · rw [if_pos h8]; exact ev_if h8 (Ev.now _)
        · rw [if_neg h8]
          refine ev_ifn h8 (ev_bind (spec_l1All_ev 0 9999 (by omega)) ?_)
          by_cases ha : decide (AllIn x.f2 0 9999) = true
          · rw [if_pos ha]
            refine ev_if ha ?_
            have := spec_l3In_l0 x suf pre [] (by simp; omega)
            simpa using this
          · rw [if_neg ha]; exact ev_ifn ha (Ev.now _)
theorem spec_l3Outs_l0 (suf : List S86) : ∀ (pre : List S86) (a : Int), (∀ x ∈ suf, (x.f1.length : Int) ≤ 1048576) → (pre.length : Int) + suf.length ≤ 1048576 →
    Ev (fun k => spec_l3Outs.l0 k (pre ++ suf) a pre.length) (outsF suf (endV (outSumF a suf))) := by
  induction suf with
  | nil =>
    intro pre a _ _
    simp only [outsF, outSumF, endV]
    refine ev_succ (fun k => ?_)
    rw [spec_l3Outs.l0, if_neg (by simp), spec_l1Amount_eq]
    simp only [Option.bind_some, decide_eq_true_eq]
    by_cases hh : 0 ≤ a ∧ a ≤ 1000000 <;> simp [hh]
  | cons b suf ih =>
    intro pre a hs hl
    simp only [List.length_cons, Int.natCast_add, Int.natCast_one] at hl
    have h := ih (pre ++ [b]) (wrap64 (a + b.f0)) (fun x hx => hs x (by simp [hx])) (by simp; omega)
    rw [show ((pre ++ [b]).length : Int) = (pre.length : Int) + 1 from by simp, show pre ++ [b] ++ suf = pre ++ b :: suf from by simp] at h
    simp only [outsF, outSumF]
    by_cases hb : 0 ≤ b.f0 ∧ b.f0 ≤ 1000000
    · rw [if_pos hb]
      refine Ev.step (f := fun k => (spec_l2Fault.f k b.f1).bind fun t => if t = 0 then spec_l3Outs.l0 k (pre ++ b :: suf) (wrap64 (a + b.f0)) ((pre.length : Int) + 1) else some t) (fun k => ?_) (ev_bind (spec_l2Fault_ev (by have := hs b (by simp); omega)) ?_)
      · rw [spec_l3Outs.l0, if_pos (by simp; omega), if_pos (by omega), rdO, spec_l1Amount_eq, wrap_id (x := (pre.length : Int) + 1) (by omega) (by omega)]
        simp [hb]
      · by_cases hf : faultP b.f1 = 0
        · rw [if_pos hf]; exact ev_if hf h
        · rw [if_neg hf]; exact ev_ifn hf (Ev.now _)
    · rw [if_neg hb]
      refine ev_succ (fun k => ?_)
      rw [spec_l3Outs.l0, if_pos (by simp; omega), if_pos (by omega), rdO, spec_l1Amount_eq]
      simp [hb]
theorem spec_l3Fault_l0 (t : S27) (e : Int) (he : Ev (fun k => spec_l3Outs.f k t.f2) e) (suf : List S34) : ∀ (pre : List S34), t.f1 = pre ++ suf → (∀ x ∈ suf, (x.f2.length : Int) ≤ 1048576) → (pre.length : Int) + suf.length ≤ 1048576 →
    Ev (fun k => spec_l3Fault_in.l0 k [t] pre.length) (insF pre suf e) := by
  have hrd : rd_T27 [t] 0 = t := rfl
  induction suf with
  | nil =>
    intro pre ht _ _
    refine Ev.step (f := fun k => (spec_l3Outs.f k t.f2).bind fun t9 => some t9) (fun k => ?_) (ev_bind he (Ev.now _))
    rw [spec_l3Fault_in.l0, if_pos (by simp), hrd, if_neg (by rw [ht]; simp)]
  | cons b suf ih =>
    intro pre ht hs hl
    simp only [List.length_cons, Int.natCast_add, Int.natCast_one] at hl
    have h := ih (pre ++ [b]) (by rw [ht]; simp) (fun x hx => hs x (by simp [hx])) (by simp; omega)
    rw [show ((pre ++ [b]).length : Int) = (pre.length : Int) + 1 from by simp] at h
    refine Ev.step (f := fun k => (spec_l3In.f k (pre ++ b :: suf) pre.length).bind fun t7 => if t7 = 0 then spec_l3Fault_in.l0 k [t] ((pre.length : Int) + 1) else some t7) (fun k => ?_) (ev_bind (spec_l3In_ev pre b suf (hs b (by simp)) (by omega)) ?_)
    · rw [spec_l3Fault_in.l0, if_pos (by simp), hrd, if_pos (by rw [ht]; simp; omega), ht, wrap_id (x := (pre.length : Int) + 1) (by omega) (by omega)]
    · unfold insF
      by_cases hf : inF pre b = 0
      · rw [if_pos hf]; exact ev_if hf h
      · rw [if_neg hf]; exact ev_ifn hf (Ev.now _)
theorem spec_l3Fault_ev {t : S27} (h1 : t.f1.length ≤ 1048576 ∧ ∀ x ∈ t.f1, (x.f2.length : Int) ≤ 1048576) (h2 : t.f2.length ≤ 1048576 ∧ ∀ x ∈ t.f2, (x.f1.length : Int) ≤ 1048576) : Ev (fun k => spec_l3Fault.f k t.f0 t.f1 t.f2) (txF t) := by
  unfold spec_l3Fault.f spec_l3Fault_in.f txF
  have hrd : rd_T27 [t] 0 = t := rfl
  have ht : (⟨t.f0, t.f1, t.f2⟩ : S27) = t := rfl
  rw [ht]
  refine ev_if (by simp) ?_
  rw [hrd]
  refine ev_bind0 (spec_l1In_eq _ _ _) ?_
  by_cases hn : 0 ≤ t.f0 ∧ t.f0 ≤ 65535
  · rw [if_pos hn]
    refine ev_if (by simpa using hn) ?_
    have go : Ev (fun k => spec_l3Fault_in.l0 k [t] 0) (insF [] t.f1 (outsF t.f2 (endV (outSumF 0 t.f2)))) := by
      have := spec_l3Fault_l0 t _ (by unfold spec_l3Outs.f; exact spec_l3Outs_l0 t.f2 [] 0 h2.2 (by simp; omega)) t.f1 [] (by simp) h1.2 (by simp; omega)
      simpa using this
    have bad : Ev (fun k => spec_l3Fault_in.j0 k [t] true) 2 := ev_succ (fun k => by rw [spec_l3Fault_in.j0]; simp)
    by_cases c1 : (t.f1.length : Int) > 4
    · rw [if_pos (.inl c1)]; exact ev_if c1 bad
    · refine ev_ifn c1 ?_
      by_cases c2 : (t.f2.length : Int) < 1
      · rw [if_pos (.inr (.inl c2))]; exact ev_if c2 bad
      · refine ev_ifn c2 ?_
        by_cases c3 : (t.f2.length : Int) > 4
        · rw [if_pos (.inr (.inr c3)), decide_eq_true c3]; exact bad
        · rw [if_neg (by omega), decide_eq_false c3]
          exact Ev.step (fun k => by rw [spec_l3Fault_in.j0, if_neg (by decide)]) go
  · rw [if_neg hn]; exact ev_ifn (by simpa using hn) (Ev.now _)

/-- The bytes of a right number. -/
def varB (n : Int) : List Int := if n < 253 then [n % 256] else [253, n % 256, n / 256 % 256]
theorem varB_len (n : Int) : (varB n).length ≤ 3 := by unfold varB; split <;> simp

/-- One byte more in a sum. -/
def stepS (a b : Int) : Int := (33 * a + b + 1) % 2147483647
/-- The sum of bytes. -/
def sumB (l : List Int) : Int := l.foldl stepS 5381
def Bytes (l : List Int) : Prop := ∀ x ∈ l, 0 ≤ x ∧ x ≤ 255
theorem stepS_bd (a b : Int) : 0 ≤ stepS a b ∧ stepS a b < 2147483647 := by unfold stepS; omega
theorem sumB_bd_go (l : List Int) : ∀ a : Int, 0 ≤ a → a < 2147483647 → 0 ≤ l.foldl stepS a ∧ l.foldl stepS a < 2147483647 := by
  induction l with
  | nil => intro a h0 h1; exact ⟨h0, h1⟩
  | cons b l ih => intro a _ _; exact ih _ (stepS_bd a b).1 (stepS_bd a b).2
theorem sumB_bd (l : List Int) : 0 ≤ sumB l ∧ sumB l ≤ 2147483646 := by
  have := sumB_bd_go l 5381 (by omega) (by omega)
  unfold sumB; omega
theorem step_wrap {a b : Int} (h0 : 0 ≤ a) (h1 : a < 2147483647) (hb : 0 ≤ b ∧ b ≤ 255) :
    Int.tmod (wrap64 ((wrap64 ((wrap64 (a * 33)) + (wrap64 b))) + 1)) 2147483647 = stepS a b := by
  rw [wrap_id (x := a * 33) (by omega) (by omega), wrap_id (x := b) (by omega) (by omega), wrap_id (x := a * 33 + b) (by omega) (by omega), wrap_id (x := a * 33 + b + 1) (by omega) (by omega), Int.tmod_eq_emod_of_nonneg (by omega)]
  unfold stepS; rw [Int.mul_comm a 33]

def bigB (n : Int) : List Int := varB (n % 65536) ++ varB (n / 65536)
def listB (l : List Int) : List Int := varB l.length ++ (l.map varB).flatten
def inB (p : Bool) (x : S34) : List Int := bigB x.f0 ++ (varB x.f1 ++ (if p = true then listB x.f2 else [0]))
def outB (y : S86) : List Int := bigB y.f0 ++ listB y.f1
/-- A right transaction as bytes, with its proofs or without them. -/
def packB (p : Bool) (t : S27) : List Int := varB t.f0 ++ (varB t.f1.length ++ ((t.f1.map (inB p)).flatten ++ (varB t.f2.length ++ (t.f2.map outB).flatten)))
/-- What a right transaction's parts are. -/
def InOk (x : S34) : Prop := (0 ≤ x.f0 ∧ x.f0 ≤ 2147483646) ∧ (0 ≤ x.f1 ∧ x.f1 ≤ 3) ∧ x.f2.length ≤ 8 ∧ AllIn x.f2 0 9999
def OutOk (y : S86) : Prop := (0 ≤ y.f0 ∧ y.f0 ≤ 1000000) ∧ y.f1.length ≤ 12 ∧ AllIn y.f1 0 9999
def TxOk (t : S27) : Prop := (0 ≤ t.f0 ∧ t.f0 ≤ 65535) ∧ t.f1.length ≤ 4 ∧ (1 ≤ t.f2.length ∧ t.f2.length ≤ 4) ∧ (∀ x ∈ t.f1, InOk x) ∧ ∀ y ∈ t.f2, OutOk y
theorem inF_ok {p : List S34} {x : S34} (h : inF p x = 0) : InOk x := by
  unfold inF at h
  split at h
  · omega
  · rename_i h0
    split at h
    · omega
    · split at h
      · rename_i h8 ha
        refine ⟨?_, ?_, by omega, of_decide_eq_true ha⟩ <;> (unfold inBad at h0; simp at h0; omega)
      · omega
theorem insF_ok (s : List S34) : ∀ (p : List S34) (e : Int), insF p s e = 0 → (∀ x ∈ s, InOk x) ∧ e = 0 := by
  induction s with
  | nil => intro p e h; exact ⟨by simp, h⟩
  | cons x s ih =>
    intro p e h
    unfold insF at h
    by_cases hx : inF p x = 0
    · rw [if_pos hx] at h
      obtain ⟨h1, h2⟩ := ih _ _ h
      refine ⟨fun y hy => ?_, h2⟩
      rcases List.mem_cons.1 hy with rfl | hy
      · exact inF_ok hx
      · exact h1 y hy
    · rw [if_neg hx] at h; exact absurd h hx
theorem faultP_ok {l : List Int} (h : faultP l = 0) : l.length ≤ 12 ∧ AllIn l 0 9999 := by
  unfold faultP at h
  split at h
  · omega
  · rename_i h12
    split at h
    · omega
    · rename_i hb
      refine ⟨by omega, fun x hx => ?_⟩
      have : opBad x = false := by
        cases ho : opBad x with
        | false => rfl
        | true => exact absurd (List.any_eq_true.2 ⟨x, hx, ho⟩) hb
      unfold opBad at this
      simp at this
      omega
theorem outsF_ok (s : List S86) : ∀ (e : Int), outsF s e = 0 → ∀ y ∈ s, OutOk y := by
  induction s with
  | nil => intro e _; simp
  | cons x s ih =>
    intro e h y hy
    unfold outsF at h
    split at h
    · rename_i hx
      by_cases hf : faultP x.f1 = 0
      · rw [if_pos hf] at h
        rcases List.mem_cons.1 hy with rfl | hy
        · exact ⟨hx, faultP_ok hf⟩
        · exact ih e h y hy
      · rw [if_neg hf] at h; exact absurd h hf
    · omega
theorem txF_ok {t : S27} (h : txF t = 0) : TxOk t := by
  unfold txF at h
  split at h
  · rename_i hn
    split at h
    · omega
    · rename_i hc
      obtain ⟨h1, h2⟩ := insF_ok _ _ _ h
      exact ⟨hn, by omega, by omega, h1, outsF_ok _ _ h2⟩
  · omega
theorem varB_bytes (n : Int) : Bytes (varB n) := by
  unfold varB; split <;> (intro x hx; simp at hx; rcases hx with rfl | rfl | rfl) <;> omega
theorem Bytes_append {a b : List Int} (ha : Bytes a) (hb : Bytes b) : Bytes (a ++ b) := by
  intro x hx; rcases List.mem_append.1 hx with h | h
  · exact ha x h
  · exact hb x h
theorem Bytes_flat {α : Type} {f : α → List Int} {l : List α} (h : ∀ x ∈ l, Bytes (f x)) : Bytes (l.map f).flatten := by
  intro x hx
  obtain ⟨y, hy, hx⟩ := List.mem_flatten.1 hx
  obtain ⟨z, hz, rfl⟩ := List.mem_map.1 hy
  exact h z hz x hx
theorem flat_len {α : Type} {f : α → List Int} {n : Nat} : ∀ {l : List α}, (∀ x ∈ l, (f x).length ≤ n) → (l.map f).flatten.length ≤ n * l.length
  | [], _ => by simp
  | x :: l, h => by
    have h1 := h x (by simp)
    have h2 := flat_len (f := f) (n := n) (l := l) (fun y hy => h y (by simp [hy]))
    simp only [List.map_cons, List.flatten_cons, List.length_append, List.length_cons, Nat.mul_add, Nat.mul_one]
    omega
theorem listB_len {l : List Int} {n : Nat} (h : l.length ≤ n) : (listB l).length ≤ 3 + 3 * n := by
  unfold listB
  have h1 := varB_len l.length
  have h2 := flat_len (f := varB) (n := 3) (l := l) (fun x _ => varB_len x)
  simp only [List.length_append]
  omega
theorem bigB_len (n : Int) : (bigB n).length ≤ 6 := by
  unfold bigB; have h1 := varB_len (n % 65536); have h2 := varB_len (n / 65536); simp only [List.length_append]; omega
theorem inB_len {p : Bool} {x : S34} (h : InOk x) : (inB p x).length ≤ 36 := by
  unfold inB
  have h1 := bigB_len x.f0; have h2 := varB_len x.f1; have h3 := listB_len h.2.2.1
  cases p <;> simp <;> omega
theorem outB_len {y : S86} (h : OutOk y) : (outB y).length ≤ 45 := by
  unfold outB
  have h1 := bigB_len y.f0; have h3 := listB_len h.2.1
  simp only [List.length_append]; omega
theorem bigB_bytes (n : Int) : Bytes (bigB n) := Bytes_append (varB_bytes _) (varB_bytes _)
theorem listB_bytes (l : List Int) : Bytes (listB l) := Bytes_append (varB_bytes _) (Bytes_flat (fun x _ => varB_bytes x))
theorem packB_bytes (p : Bool) (t : S27) : Bytes (packB p t) := by
  unfold packB
  refine Bytes_append (varB_bytes _) (Bytes_append (varB_bytes _) (Bytes_append (Bytes_flat (fun x _ => ?_)) (Bytes_append (varB_bytes _) (Bytes_flat (fun y _ => ?_)))))
  · unfold inB
    refine Bytes_append (bigB_bytes _) (Bytes_append (varB_bytes _) ?_)
    cases p
    · intro x hx; simp at hx; omega
    · exact listB_bytes _
  · exact Bytes_append (bigB_bytes _) (listB_bytes _)

theorem sbyte_cons {l r : List Int} {a : Int} {p : Nat} (hb : BytesL l) (e : l.drop p = a :: r) (w : Bool) : spec_l3Byte.f l (p : Int) w = some (a, ((p + 1 : Nat) : Int), w) := by
  have hp := drop_lt e
  have ha := hb.1 a (drop_mem e)
  have hl := hb.2
  have e1 : wrap64 ((p : Int) + 1) = (p : Int) + 1 := wrap_id (by omega) (by omega)
  have e2 : wrap64 ((p : Int) + 1 - 1) = (p : Int) := by rw [show (p : Int) + 1 - 1 = p by omega]; exact wrap_id (by omega) (by omega)
  unfold spec_l3Byte.f
  rw [if_neg (by omega), e1, e2, if_pos (by omega), if_pos (by omega), drop_rd e, wrap_id (x := a) (by omega) (by omega)]
  rfl
theorem sbyte_nil {l : List Int} {p : Nat} (e : l.drop p = []) (w : Bool) : spec_l3Byte.f l (p : Int) w = some (0, (p : Int), true) := by
  have h := List.drop_eq_nil_iff.1 e
  unfold spec_l3Byte.f
  rw [if_pos (by omega)]
theorem V_code {l : List Int} {p : Nat} {v u : Int} (h : readV (l.drop p) = (0, v, u)) : V l p = some (v, p + u.toNat) := by unfold V; rw [h, if_pos rfl]
theorem V_no {l : List Int} {p : Nat} (h : readV (l.drop p) = (5, 0, 0)) : V l p = none := by unfold V; rw [h, if_neg (by decide)]
/-- A number as the reference reads it. -/
theorem spec_var {l : List Int} (hb : BytesL l) {p : Nat} (hp : p ≤ l.length) (w : Bool) : ∃ (v : Int) (q : Nat), q ≤ l.length ∧ spec_l3Var.f l (p : Int) w = some (v, (q : Int), w || !(V l p).isSome) ∧ ∀ a, V l p = some a → a = (v, q) := by
  unfold spec_l3Var.f
  cases e : l.drop p with
  | nil =>
    have hV : V l p = none := V_no (by rw [e]; simp [readV])
    rw [sbyte_nil e, hV]
    exact ⟨0, p, hp, by simp, fun a h => by cases h⟩
  | cons a r =>
    have ha := hb.1 a (drop_mem e)
    have hp1 := drop_lt e
    have e1 := drop_tail e
    rw [sbyte_cons hb e]
    simp only [Option.bind_some]
    by_cases h1 : a < 253
    · have hV : V l p = some (a, p + 1) := V_code (u := 1) (by rw [e]; simp [readV, h1])
      rw [if_pos h1, hV]
      exact ⟨a, p + 1, by omega, by simp, fun x h => by cases h; rfl⟩
    · rw [if_neg h1]
      cases r with
      | nil =>
        have hV : V l p = none := V_no (by rw [e]; exact readV_short h1 [] (by simp))
        rw [sbyte_nil e1, Option.bind_some, sbyte_nil e1, Option.bind_some, hV]
        refine ⟨wrap64 (0 + wrap64 (256 * 0)), p + 1, by omega, ?_, fun x h => by cases h⟩
        by_cases h2 : a = 253
        · rw [if_pos h2]; by_cases h3 : wrap64 (0 + wrap64 (256 * 0)) < 253
          · rw [if_pos h3]; simp
          · rw [if_neg h3]; simp
        · rw [if_neg h2]; simp
      | cons c r =>
        have hc := hb.1 c (drop_mem e1)
        have hp2 := drop_lt e1
        have e2 := drop_tail e1
        rw [sbyte_cons hb e1]
        simp only [Option.bind_some]
        cases r with
        | nil =>
          have hV : V l p = none := V_no (by rw [e]; exact readV_short h1 [c] (by simp))
          rw [sbyte_nil e2, Option.bind_some, hV]
          refine ⟨wrap64 (c + wrap64 (256 * 0)), p + 1 + 1, by omega, ?_, fun x h => by cases h⟩
          by_cases h2 : a = 253
          · rw [if_pos h2]; by_cases h3 : wrap64 (c + wrap64 (256 * 0)) < 253
            · rw [if_pos h3]; simp
            · rw [if_neg h3]; simp
          · rw [if_neg h2]; simp
        | cons d s =>
          have hd := hb.1 d (drop_mem e2)
          have hp3 := drop_lt e2
          have e3 : wrap64 (c + wrap64 (256 * d)) = c + 256 * d := by
            rw [wrap_id (x := 256 * d) (by omega) (by omega)]; exact wrap_id (by omega) (by omega)
          rw [sbyte_cons hb e2]
          simp only [Option.bind_some]
          rw [e3]
          by_cases h2 : a = 253
          · rw [if_pos h2]
            by_cases h3 : c + 256 * d < 253
            · have hV : V l p = none := V_no (by rw [e]; simp [readV, h2, h3])
              rw [if_pos h3, hV]
              exact ⟨c + 256 * d, p + 1 + 1 + 1, by omega, by simp, fun x h => by cases h⟩
            · have hV : V l p = some (c + 256 * d, p + 3) := V_code (u := 3) (by rw [e]; simp [readV, h2, h3])
              rw [if_neg h3, hV]
              exact ⟨c + 256 * d, p + 1 + 1 + 1, by omega, by simp, fun x h => by cases h; rfl⟩
          · have hV : V l p = none := V_no (by rw [e]; exact readV_wide h1 h2 _)
            rw [if_neg h2, hV]
            exact ⟨c + 256 * d, p + 1 + 1 + 1, by omega, by simp, fun x h => by cases h⟩
theorem spec_var_G {l : List Int} (hb : BytesL l) {p : Nat} (hp : p ≤ l.length) {v : Int} {q : Nat} (h : V l p = some (v, q)) : spec_l3Var.f l (p : Int) false = some (v, (q : Int), false) := by
  obtain ⟨v', q', _, h1, h2⟩ := spec_var hb hp false
  obtain ⟨rfl, rfl⟩ := Prod.mk.inj (h2 _ h)
  rw [h1, h]; rfl
theorem spec_var_N {l : List Int} (hb : BytesL l) {p : Nat} (hp : p ≤ l.length) (h : V l p = none) : ∃ (v : Int) (q : Nat), q ≤ l.length ∧ spec_l3Var.f l (p : Int) false = some (v, (q : Int), true) := by
  obtain ⟨v', q', hq, h1, h2⟩ := spec_var hb hp false
  exact ⟨v', q', hq, by rw [h1, h]; rfl⟩
theorem spec_var_W {l : List Int} (hb : BytesL l) {p : Nat} (hp : p ≤ l.length) : ∃ (v : Int) (q : Nat), q ≤ l.length ∧ spec_l3Var.f l (p : Int) true = some (v, (q : Int), true) := by
  obtain ⟨v', q', hq, h1, h2⟩ := spec_var hb hp true
  exact ⟨v', q', hq, by rw [h1]; simp⟩
theorem spec_big_G {l : List Int} (hb : BytesL l) {p : Nat} (hp : p ≤ l.length) {v : Int} {q : Nat} (h : Big l p = some (v, q)) : spec_l3ReadBig.f l (p : Int) false = some (v, (q : Int), false) := by
  obtain ⟨⟨a, p1⟩, ha, h⟩ := Option.bind_eq_some_iff.mp h
  obtain ⟨⟨c, p2⟩, hc, h⟩ := Option.bind_eq_some_iff.mp h
  cases h
  have h1 := V_some hb ha
  have h2 := V_some hb hc
  unfold spec_l3ReadBig.f
  rw [spec_var_G hb hp ha, Option.bind_some, spec_var_G hb h1.2.2.1 hc, Option.bind_some]
  simp only
  rw [wrap_id (x := 65536 * c) (by omega) (by omega), wrap_id (by omega) (by omega)]
theorem spec_big_W {l : List Int} (hb : BytesL l) {p : Nat} (hp : p ≤ l.length) : ∃ (v : Int) (q : Nat), q ≤ l.length ∧ spec_l3ReadBig.f l (p : Int) true = some (v, (q : Int), true) := by
  obtain ⟨a, p1, hp1, ha⟩ := spec_var_W hb hp
  obtain ⟨c, p2, hp2, hc⟩ := spec_var_W hb hp1
  unfold spec_l3ReadBig.f
  rw [ha, Option.bind_some, hc, Option.bind_some]
  exact ⟨_, p2, hp2, rfl⟩
theorem spec_big_N {l : List Int} (hb : BytesL l) {p : Nat} (hp : p ≤ l.length) (h : Big l p = none) : ∃ (v : Int) (q : Nat), q ≤ l.length ∧ spec_l3ReadBig.f l (p : Int) false = some (v, (q : Int), true) := by
  unfold spec_l3ReadBig.f
  cases ha : V l p with
  | none =>
    obtain ⟨a, p1, hp1, ha⟩ := spec_var_N hb hp ha
    obtain ⟨c, p2, hp2, hc⟩ := spec_var_W hb hp1
    rw [ha, Option.bind_some, hc, Option.bind_some]
    exact ⟨_, p2, hp2, rfl⟩
  | some a =>
    have h1 := V_some hb ha
    have hn : V l a.2 = none := by
      cases hc : V l a.2 with
      | none => rfl
      | some c => unfold Big at h; rw [ha, Option.bind_some, hc] at h; cases h
    obtain ⟨c, p2, hp2, hc⟩ := spec_var_N hb h1.2.2.1 hn
    rw [spec_var_G hb hp ha, Option.bind_some, hc, Option.bind_some]
    exact ⟨_, p2, hp2, rfl⟩
/-- Numbers one behind the other. -/
theorem spec_list_l0 {l : List Int} (hb : BytesL l) : ∀ (n p : Nat) (acc : List Int), p ≤ l.length → acc.length + n ≤ 1000000 →
    (∀ r, Lst l n p = some r → Ev (fun k => spec_l3ReadList.l0 k acc (n : Int) l (p : Int) false) (acc ++ r.1, (r.2 : Int), false)) ∧
    (Lst l n p = none → ∃ (ys : List Int) (q : Nat), q ≤ l.length ∧ Ev (fun k => spec_l3ReadList.l0 k acc (n : Int) l (p : Int) false) (ys, (q : Int), true))
  | 0, p, acc, hp, ha => by
    refine ⟨fun r h => ?_, fun h => by cases h⟩
    cases h
    exact ev_succ fun k => by rw [spec_l3ReadList.l0, if_neg (by omega), List.append_nil]
  | n + 1, p, acc, hp, ha => by
    have hw : wrap64 (((n + 1 : Nat) : Int) - 1) = (n : Int) := by rw [show ((n + 1 : Nat) : Int) - 1 = n by omega]; exact wrap_id (by omega) (by omega)
    have hstep : ∀ k, spec_l3ReadList.l0 (k + 1) acc ((n + 1 : Nat) : Int) l (p : Int) false = (spec_l3Var.f l (p : Int) false).bind fun t => if acc.length < 17592186044416 then spec_l3ReadList.l0 k (acc ++ [t.1]) (n : Int) l t.2.1 t.2.2 else none := by
      intro k
      rw [spec_l3ReadList.l0, if_pos (by omega), if_neg (by decide), hw]
    refine ⟨fun r h => ?_, fun h => ?_⟩
    · unfold Lst at h
      obtain ⟨⟨a, p1⟩, hv, h⟩ := Option.bind_eq_some_iff.mp h
      obtain ⟨s, hs, h⟩ := Option.bind_eq_some_iff.mp h
      cases h
      have h1 := V_some hb hv
      have ih := (spec_list_l0 hb n p1 (acc ++ [a]) h1.2.2.1 (by simp; omega)).1 s hs
      refine Ev.step hstep (ev_bind0 (spec_var_G hb hp hv) (ev_if (by omega) ?_))
      simpa using ih
    · cases hv : V l p with
      | none =>
        obtain ⟨a, q, hq, hx⟩ := spec_var_N hb hp hv
        refine ⟨acc ++ [a], q, hq, Ev.step hstep (ev_bind0 hx (ev_if (by omega) (ev_succ fun k => ?_)))⟩
        rw [spec_l3ReadList.l0]
        by_cases hn : (n : Int) > 0
        · rw [if_pos hn, if_pos rfl]
        · rw [if_neg hn]
      | some a =>
        have h1 := V_some hb hv
        have hn : Lst l n a.2 = none := by
          cases hc : Lst l n a.2 with
          | none => rfl
          | some c => unfold Lst at h; rw [hv, Option.bind_some, hc] at h; cases h
        obtain ⟨ys, q, hq, ih⟩ := (spec_list_l0 hb n a.2 (acc ++ [a.1]) h1.2.2.1 (by simp; omega)).2 hn
        exact ⟨ys, q, hq, Ev.step hstep (ev_bind0 (spec_var_G hb hp hv) (ev_if (by omega) ih))⟩
theorem spec_nums_G {most : Int} {l : List Int} (hb : BytesL l) {p : Nat} (hp : p ≤ l.length) {r : List Int × Nat} (h : Nums false most l p = some r) : Ev (fun k => spec_l3ReadList.f k l (p : Int) false) (r.1, (r.2 : Int), false) := by
  obtain ⟨_, _, _, c, q, hv, hl, _, _⟩ := Nums_some hb h
  have h1 := V_some hb hv
  unfold spec_l3ReadList.f
  refine ev_bind0 (spec_var_G hb hp hv) ?_
  have := (spec_list_l0 hb c.toNat q [] h1.2.2.1 (by simp; omega)).1 r hl
  rw [Int.toNat_of_nonneg h1.1.1] at this
  exact this
theorem spec_nums_W {l : List Int} (hb : BytesL l) {p : Nat} (hp : p ≤ l.length) : ∃ (ys : List Int) (q : Nat), q ≤ l.length ∧ Ev (fun k => spec_l3ReadList.f k l (p : Int) true) (ys, (q : Int), true) := by
  obtain ⟨a, q, hq, hx⟩ := spec_var_W hb hp
  unfold spec_l3ReadList.f
  refine ⟨[], q, hq, ev_bind0 hx (ev_succ fun k => ?_)⟩
  rw [spec_l3ReadList.l0]
  by_cases hn : a > 0
  · rw [if_pos hn, if_pos rfl]
  · rw [if_neg hn]
theorem spec_nums_N {most : Int} {l : List Int} (hb : BytesL l) {p : Nat} (hp : p ≤ l.length) (h : Nums false most l p = none) : ∃ (ys : List Int) (q : Nat), q ≤ l.length ∧ Ev (fun k => spec_l3ReadList.f k l (p : Int) false) (ys, (q : Int), true) := by
  unfold spec_l3ReadList.f
  cases hv : V l p with
  | none =>
    obtain ⟨a, q, hq, hx⟩ := spec_var_N hb hp hv
    refine ⟨[], q, hq, ev_bind0 hx (ev_succ fun k => ?_)⟩
    rw [spec_l3ReadList.l0]
    by_cases hn : a > 0
    · rw [if_pos hn, if_pos rfl]
    · rw [if_neg hn]
  | some a =>
    have h1 := V_some hb hv
    have hn : Lst l a.1.toNat a.2 = none := by
      unfold Nums at h
      rw [Vm_of hv (fun h => by cases h)] at h
      exact h
    obtain ⟨ys, q, hq, ih⟩ := (spec_list_l0 hb a.1.toNat a.2 [] h1.2.2.1 (by simp; omega)).2 hn
    rw [Int.toNat_of_nonneg h1.1.1] at ih
    exact ⟨ys, q, hq, ev_bind0 (spec_var_G hb hp hv) ih⟩
/-! Once it is wrong it stays wrong. -/
theorem spec_l1_W {l : List Int} (x6 : Int) (p : Int) (note : Int) (ins : List S34) (outs : List S86) : Ev (fun k => spec_l3Read.l1 k x6 l p true note ins outs) (note, ins, outs, p, true) := by
  refine Ev.step (f := fun k => spec_l3Read.j3 k x6 false l p true note ins outs) (fun k => ?_) (ev_succ fun k => ?_)
  · rw [spec_l3Read.l1]
    by_cases h : x6 > 0
    · rw [if_pos h]; rfl
    · rw [if_neg h]
  · rw [spec_l3Read.j3, if_neg (by decide), if_pos rfl]
theorem spec_l0_W {l : List Int} (hb : BytesL l) (x4 : Int) {p : Nat} (hp : p ≤ l.length) (note : Int) (ins : List S34) : ∃ r, Ev (fun k => spec_l3Read.l0 k x4 l (p : Int) true note ins) r ∧ r.2.2.2.2 = true := by
  obtain ⟨a, q, hq, hx⟩ := spec_var_W hb hp
  refine ⟨_, Ev.step (f := fun k => spec_l3Read.j1 k x4 false l (p : Int) true note ins) (fun k => ?_) (Ev.step (f := fun k => (spec_l3Var.f l (p : Int) true).bind fun t => spec_l3Read.l1 k t.1 l t.2.1 t.2.2 note ins []) (fun k => ?_) (ev_bind0 hx (spec_l1_W _ _ _ _ _))), rfl⟩
  · rw [spec_l3Read.l0]
    by_cases h : x4 > 0
    · rw [if_pos h]; rfl
    · rw [if_neg h]
  · rw [spec_l3Read.j1, if_neg (by decide)]
def lenI (l : List S34) : Prop := l.length ≤ 1000000 ∧ ∀ x ∈ l, x.f2.length ≤ 65535
def lenO (l : List S86) : Prop := l.length ≤ 1000000 ∧ ∀ x ∈ l, x.f1.length ≤ 65535
theorem spec_outs {l : List Int} (hb : BytesL l) (note : Int) (ins : List S34) (hi : lenI ins) : ∀ (n p : Nat) (acc : List S86), p ≤ l.length → acc.length + n ≤ 1000000 → (∀ x ∈ acc, x.f1.length ≤ 65535) →
    (∀ r, OutsR false l n p = some r → Ev (fun k => spec_l3Read.l1 k (n : Int) l (p : Int) false note ins acc) (note, ins, acc ++ r.1, (r.2 : Int), (txF ⟨note, ins, acc ++ r.1⟩ != 0))) ∧
    (OutsR false l n p = none → ∃ r, Ev (fun k => spec_l3Read.l1 k (n : Int) l (p : Int) false note ins acc) r ∧ r.2.2.2.2 = true)
  | 0, p, acc, hp, ha, hx => by
    refine ⟨fun r h => ?_, fun h => by cases h⟩
    cases h
    have hF := spec_l3Fault_ev (t := ⟨note, ins, acc⟩) ⟨by show ins.length ≤ 1048576; have := hi.1; omega, fun x hx => by have := hi.2 x hx; omega⟩ ⟨by show acc.length ≤ 1048576; omega, fun x h => by have := hx x h; omega⟩
    refine Ev.step (f := fun k => spec_l3Read.j3 k 0 false l (p : Int) false note ins acc) (fun k => ?_) (Ev.step (f := fun k => (spec_l3Fault.f k note ins acc).bind fun t => some (note, ins, acc, (p : Int), (t != 0))) (fun k => ?_) (ev_bind hF ?_))
    · rw [spec_l3Read.l1, if_neg (by omega)]; rfl
    · rw [spec_l3Read.j3, if_neg (by decide), if_neg (by decide)]
    · rw [List.append_nil]; exact Ev.now _
  | n + 1, p, acc, hp, ha, hx => by
    have hw : wrap64 (((n + 1 : Nat) : Int) - 1) = (n : Int) := by rw [show ((n + 1 : Nat) : Int) - 1 = n by omega]; exact wrap_id (by omega) (by omega)
    have h0 : ∀ k, spec_l3Read.l1 (k + 1) ((n + 1 : Nat) : Int) l (p : Int) false note ins acc = spec_l3Read.j3 k ((n + 1 : Nat) : Int) true l (p : Int) false note ins acc := by
      intro k
      rw [spec_l3Read.l1, if_pos (by omega)]; rfl
    have h1 : ∀ k, spec_l3Read.j3 (k + 1) ((n + 1 : Nat) : Int) true l (p : Int) false note ins acc = (spec_l3ReadBig.f l (p : Int) false).bind fun a => (spec_l3ReadList.f k l a.2.1 a.2.2).bind fun b => if acc.length < 4398046511104 then spec_l3Read.l1 k (n : Int) l b.2.1 b.2.2 note ins (acc ++ [⟨a.1, b.1⟩]) else none := by
      intro k
      rw [spec_l3Read.j3, if_pos rfl, hw]
    refine ⟨fun r h => ?_, fun h => ?_⟩
    · unfold OutsR at h
      obtain ⟨x, hxr, h⟩ := Option.bind_eq_some_iff.mp h
      obtain ⟨s, hs, h⟩ := Option.bind_eq_some_iff.mp h
      cases h
      have hO := OutR_some hb hxr
      obtain ⟨⟨a, p1⟩, h3, h4⟩ := Option.bind_eq_some_iff.mp hxr
      obtain ⟨b, h5, h6⟩ := Option.bind_eq_some_iff.mp h4
      cases h6
      have hB := Big_some hb h3
      have ih := (spec_outs hb note ins hi n b.2 (acc ++ [⟨a, b.1⟩]) hO.1 (by simp; omega) (fun y hy => by
        rcases List.mem_append.1 hy with hy | hy
        · exact hx y hy
        · rw [List.mem_singleton.1 hy]; exact hO.2)).1 s hs
      refine Ev.step h0 (Ev.step h1 (ev_bind0 (spec_big_G hb hp h3) (ev_bind (spec_nums_G hb hB.2 h5) (ev_if (by omega) ?_))))
      simpa using ih
    · cases h3 : Big l p with
      | none =>
        obtain ⟨a, p1, hp1, ha1⟩ := spec_big_N hb hp h3
        obtain ⟨ys, q, hq, hy⟩ := spec_nums_W hb hp1
        exact ⟨_, Ev.step h0 (Ev.step h1 (ev_bind0 ha1 (ev_bind hy (ev_if (by omega) (spec_l1_W _ _ _ _ _))))), rfl⟩
      | some a =>
        have hB := Big_some hb h3
        cases h5 : Nums false 12 l a.2 with
        | none =>
          obtain ⟨ys, q, hq, hy⟩ := spec_nums_N hb hB.2 h5
          exact ⟨_, Ev.step h0 (Ev.step h1 (ev_bind0 (spec_big_G hb hp h3) (ev_bind hy (ev_if (by omega) (spec_l1_W _ _ _ _ _))))), rfl⟩
        | some b =>
          have hN := Nums_some hb h5
          have hn : OutsR false l n b.2 = none := by
            cases hc : OutsR false l n b.2 with
            | none => rfl
            | some c =>
              have e : OutR false l p = some (⟨a.1, b.1⟩, b.2) := by unfold OutR; rw [h3, Option.bind_some, h5]; rfl
              unfold OutsR at h; rw [e, Option.bind_some, hc] at h; cases h
          obtain ⟨r, hr, hr1⟩ := (spec_outs hb note ins hi n b.2 (acc ++ [⟨a.1, b.1⟩]) hN.2.1 (by simp; omega) (fun y hy => by
            rcases List.mem_append.1 hy with hy | hy
            · exact hx y hy
            · rw [List.mem_singleton.1 hy]; exact hN.2.2.1)).2 hn
          exact ⟨r, Ev.step h0 (Ev.step h1 (ev_bind0 (spec_big_G hb hp h3) (ev_bind (spec_nums_G hb hB.2 h5) (ev_if (by omega) hr)))), hr1⟩
/-- What is behind the inputs. -/
def RestR (b : Bool) (l : List Int) (p : Nat) : Option (List S86 × Nat) := (Vm b 4 l p).bind fun d => OutsR b l d.1.toNat d.2
theorem spec_rest {l : List Int} (hb : BytesL l) (note : Int) (ins : List S34) (hi : lenI ins) {p : Nat} (hp : p ≤ l.length) :
    (∀ r, RestR false l p = some r → Ev (fun k => spec_l3Read.l0 k 0 l (p : Int) false note ins) (note, ins, r.1, (r.2 : Int), (txF ⟨note, ins, r.1⟩ != 0))) ∧
    (RestR false l p = none → ∃ r, Ev (fun k => spec_l3Read.l0 k 0 l (p : Int) false note ins) r ∧ r.2.2.2.2 = true) := by
  have h0 : ∀ k, spec_l3Read.l0 (k + 1) 0 l (p : Int) false note ins = spec_l3Read.j1 k 0 false l (p : Int) false note ins := by
    intro k; rw [spec_l3Read.l0, if_neg (by omega)]
  have h1 : ∀ k, spec_l3Read.j1 (k + 1) 0 false l (p : Int) false note ins = (spec_l3Var.f l (p : Int) false).bind fun t => spec_l3Read.l1 k t.1 l t.2.1 t.2.2 note ins [] := by
    intro k; rw [spec_l3Read.j1, if_neg (by decide)]
  cases hv : V l p with
  | none =>
    refine ⟨fun r h => ?_, fun _ => ?_⟩
    · unfold RestR Vm at h; rw [hv] at h; cases h
    · obtain ⟨a, q, hq, hx⟩ := spec_var_N hb hp hv
      exact ⟨_, Ev.step h0 (Ev.step h1 (ev_bind0 hx (spec_l1_W _ _ _ _ _))), rfl⟩
  | some d =>
    have hd := V_some hb hv
    have e : RestR false l p = OutsR false l d.1.toNat d.2 := by unfold RestR; rw [Vm_of hv (fun h => by cases h)]; rfl
    have ho := spec_outs hb note ins hi d.1.toNat d.2 [] hd.2.2.1 (by simp; omega) (by simp)
    rw [Int.toNat_of_nonneg hd.1.1] at ho
    rw [e]
    refine ⟨fun r h => ?_, fun h => ?_⟩
    · exact Ev.step h0 (Ev.step h1 (ev_bind0 (spec_var_G hb hp hv) (ho.1 r h)))
    · obtain ⟨r, hr, hr1⟩ := ho.2 h
      exact ⟨r, Ev.step h0 (Ev.step h1 (ev_bind0 (spec_var_G hb hp hv) hr)), hr1⟩
theorem spec_ins {l : List Int} (hb : BytesL l) (note : Int) : ∀ (n p : Nat) (acc : List S34), p ≤ l.length → acc.length + n ≤ 1000000 → (∀ x ∈ acc, x.f2.length ≤ 65535) →
    (∀ xs r, InsR false l n p = some xs → RestR false l xs.2 = some r → Ev (fun k => spec_l3Read.l0 k (n : Int) l (p : Int) false note acc) (note, acc ++ xs.1, r.1, (r.2 : Int), (txF ⟨note, acc ++ xs.1, r.1⟩ != 0))) ∧
    (((InsR false l n p).bind fun xs => RestR false l xs.2) = none → ∃ r, Ev (fun k => spec_l3Read.l0 k (n : Int) l (p : Int) false note acc) r ∧ r.2.2.2.2 = true)
  | 0, p, acc, hp, ha, hx => by
    have h := spec_rest hb note acc ⟨by omega, hx⟩ hp
    refine ⟨fun xs r h1 h2 => ?_, fun h1 => ?_⟩
    · cases h1
      rw [List.append_nil]
      exact h.1 r h2
    · exact h.2 h1
  | n + 1, p, acc, hp, ha, hx => by
    have hw : wrap64 (((n + 1 : Nat) : Int) - 1) = (n : Int) := by rw [show ((n + 1 : Nat) : Int) - 1 = n by omega]; exact wrap_id (by omega) (by omega)
    have h0 : ∀ k, spec_l3Read.l0 (k + 1) ((n + 1 : Nat) : Int) l (p : Int) false note acc = spec_l3Read.j1 k ((n + 1 : Nat) : Int) true l (p : Int) false note acc := by
      intro k
      rw [spec_l3Read.l0, if_pos (by omega)]; rfl
    have h1 : ∀ k, spec_l3Read.j1 (k + 1) ((n + 1 : Nat) : Int) true l (p : Int) false note acc = (spec_l3ReadBig.f l (p : Int) false).bind fun a => (spec_l3Var.f l a.2.1 a.2.2).bind fun o => (spec_l3ReadList.f k l o.2.1 o.2.2).bind fun b => if acc.length < 3518437208883 then spec_l3Read.l0 k (n : Int) l b.2.1 b.2.2 note (acc ++ [⟨a.1, o.1, b.1⟩]) else none := by
      intro k
      rw [spec_l3Read.j1, if_pos rfl, hw]
    refine ⟨fun xs r h h2 => ?_, fun h => ?_⟩
    · unfold InsR at h
      obtain ⟨x, hxr, h⟩ := Option.bind_eq_some_iff.mp h
      obtain ⟨s, hs, h⟩ := Option.bind_eq_some_iff.mp h
      cases h
      have hO := InR_some hb hxr
      obtain ⟨⟨a, p1⟩, h3, h4⟩ := Option.bind_eq_some_iff.mp hxr
      obtain ⟨⟨o, p2⟩, h5, h4⟩ := Option.bind_eq_some_iff.mp h4
      obtain ⟨b, h7, h6⟩ := Option.bind_eq_some_iff.mp h4
      cases h6
      have hB := Big_some hb h3
      have hV := V_some hb h5
      have ih := (spec_ins hb note n b.2 (acc ++ [⟨a, o, b.1⟩]) hO.1 (by simp; omega) (fun y hy => by
        rcases List.mem_append.1 hy with hy | hy
        · exact hx y hy
        · rw [List.mem_singleton.1 hy]; exact hO.2)).1 s r hs h2
      refine Ev.step h0 (Ev.step h1 (ev_bind0 (spec_big_G hb hp h3) (ev_bind0 (spec_var_G hb hB.2 h5) (ev_bind (spec_nums_G hb hV.2.2.1 h7) (ev_if (by omega) ?_)))))
      simpa using ih
    · cases h3 : Big l p with
      | none =>
        obtain ⟨a, p1, hp1, ha1⟩ := spec_big_N hb hp h3
        obtain ⟨o, p2, hp2, ho1⟩ := spec_var_W hb hp1
        obtain ⟨ys, q, hq, hy⟩ := spec_nums_W hb hp2
        obtain ⟨r, hr, hr1⟩ := spec_l0_W hb (n : Int) hq note (acc ++ [⟨a, o, ys⟩])
        exact ⟨r, Ev.step h0 (Ev.step h1 (ev_bind0 ha1 (ev_bind0 ho1 (ev_bind hy (ev_if (by omega) hr))))), hr1⟩
      | some a =>
        have hB := Big_some hb h3
        cases h5 : V l a.2 with
        | none =>
          obtain ⟨o, p2, hp2, ho1⟩ := spec_var_N hb hB.2 h5
          obtain ⟨ys, q, hq, hy⟩ := spec_nums_W hb hp2
          obtain ⟨r, hr, hr1⟩ := spec_l0_W hb (n : Int) hq note (acc ++ [⟨a.1, o, ys⟩])
          exact ⟨r, Ev.step h0 (Ev.step h1 (ev_bind0 (spec_big_G hb hp h3) (ev_bind0 ho1 (ev_bind hy (ev_if (by omega) hr))))), hr1⟩
        | some o =>
          have hV := V_some hb h5
          cases h7 : Nums false 8 l o.2 with
          | none =>
            obtain ⟨ys, q, hq, hy⟩ := spec_nums_N hb hV.2.2.1 h7
            obtain ⟨r, hr, hr1⟩ := spec_l0_W hb (n : Int) hq note (acc ++ [⟨a.1, o.1, ys⟩])
            exact ⟨r, Ev.step h0 (Ev.step h1 (ev_bind0 (spec_big_G hb hp h3) (ev_bind0 (spec_var_G hb hB.2 h5) (ev_bind hy (ev_if (by omega) hr))))), hr1⟩
          | some b =>
            have hN := Nums_some hb h7
            have e : InR false l p = some (⟨a.1, o.1, b.1⟩, b.2) := by unfold InR; rw [h3, Option.bind_some, h5, Option.bind_some, h7]; rfl
            have hn : ((InsR false l n b.2).bind fun xs => RestR false l xs.2) = none := by
              cases hc : InsR false l n b.2 with
              | none => rfl
              | some c => unfold InsR at h; rw [e, Option.bind_some, hc] at h; exact h
            obtain ⟨r, hr, hr1⟩ := (spec_ins hb note n b.2 (acc ++ [⟨a.1, o.1, b.1⟩]) hN.2.1 (by simp; omega) (fun y hy => by
              rcases List.mem_append.1 hy with hy | hy
              · exact hx y hy
              · rw [List.mem_singleton.1 hy]; exact hN.2.2.1)).2 hn
            exact ⟨r, Ev.step h0 (Ev.step h1 (ev_bind0 (spec_big_G hb hp h3) (ev_bind0 (spec_var_G hb hB.2 h5) (ev_bind (spec_nums_G hb hV.2.2.1 h7) (ev_if (by omega) hr))))), hr1⟩
/-- The reference's reader. -/
theorem spec_l3Read_ev {l : List Int} (hb : BytesL l) : (∀ r, TxR false l 0 = some r → Ev (fun k => spec_l3Read.f k l 0 false) (r.1.f0, r.1.f1, r.1.f2, (r.2 : Int), (txF r.1 != 0))) ∧ (TxR false l 0 = none → ∃ r, Ev (fun k => spec_l3Read.f k l 0 false) r ∧ r.2.2.2.2 = true) := by
  unfold spec_l3Read.f
  cases hn : V l 0 with
  | none =>
    refine ⟨fun r h => ?_, fun _ => ?_⟩
    · unfold TxR at h; rw [hn] at h; cases h
    · obtain ⟨a, p1, hp1, ha1⟩ := spec_var_N hb (Nat.zero_le _) hn
      obtain ⟨c, p2, hp2, hc1⟩ := spec_var_W hb hp1
      obtain ⟨r, hr, hr1⟩ := spec_l0_W hb c hp2 a []
      exact ⟨r, ev_bind0 ha1 (ev_bind0 hc1 hr), hr1⟩
  | some a =>
    have h1 := V_some hb hn
    cases hc : V l a.2 with
    | none =>
      refine ⟨fun r h => ?_, fun _ => ?_⟩
      · unfold TxR Vm at h; rw [hn, Option.bind_some, hc] at h; cases h
      · obtain ⟨c, p2, hp2, hc1⟩ := spec_var_N hb h1.2.2.1 hc
        obtain ⟨r, hr, hr1⟩ := spec_l0_W hb c hp2 a.1 []
        exact ⟨r, ev_bind0 (spec_var_G hb (Nat.zero_le _) hn) (ev_bind0 hc1 hr), hr1⟩
    | some c =>
      have h2 := V_some hb hc
      have hi := spec_ins hb a.1 c.1.toNat c.2 [] h2.2.2.1 (by simp; omega) (by simp)
      rw [Int.toNat_of_nonneg h2.1.1] at hi
      have e : TxR false l 0 = (InsR false l c.1.toNat c.2).bind fun xs => (RestR false l xs.2).bind fun ys => some (⟨a.1, xs.1, ys.1⟩, ys.2) := by
        unfold TxR RestR
        rw [hn, Option.bind_some, Vm_of hc (fun h => by cases h), Option.bind_some]
        congr 1
        funext xs
        rw [Option.bind_assoc]
      refine ⟨fun r h => ?_, fun h => ?_⟩
      · rw [e] at h
        obtain ⟨xs, hx, h⟩ := Option.bind_eq_some_iff.mp h
        obtain ⟨ys, hy, h⟩ := Option.bind_eq_some_iff.mp h
        cases h
        exact ev_bind0 (spec_var_G hb (Nat.zero_le _) hn) (ev_bind0 (spec_var_G hb h1.2.2.1 hc) (hi.1 xs ys hx hy))
      · have hn2 : ((InsR false l c.1.toNat c.2).bind fun xs => RestR false l xs.2) = none := by
          rw [e] at h
          cases hx : InsR false l c.1.toNat c.2 with
          | none => rfl
          | some xs =>
            rw [hx, Option.bind_some] at h
            cases hy : RestR false l xs.2 with
            | none => exact hy
            | some ys => rw [hy] at h; cases h
        obtain ⟨r, hr, hr1⟩ := hi.2 hn2
        exact ⟨r, ev_bind0 (spec_var_G hb (Nat.zero_le _) hn) (ev_bind0 (spec_var_G hb h1.2.2.1 hc) hr), hr1⟩

theorem impl_badCell_eq (x : Int) : impl_badCell.f x = some (!decide (0 ≤ x ∧ x ≤ 9999)) := by
  unfold impl_badCell.f; rw [impl_in_eq]; rfl
theorem inFault_1_eq (x y : S34) : impl_inFault_1_in.f y.f0 y.f1 y.f2 [x] = some (sameIn x y) := by
  have hrd : rd_T34 [x] 0 = x := rfl
  unfold impl_inFault_1_in.f sameIn
  rw [if_pos (by simp), hrd]
  by_cases h : x.f0 = y.f0 <;> simp [h]
theorem inFault_index (x : S34) (suf : List S34) : ∀ (pre : List S34) (n : Int), n = (pre.length : Int) + suf.length → n ≤ 1048576 →
    ∃ r : Int, Ev (fun k => impl_IndexFunc_at_impl_inFault_1_in.l0 k (pre ++ suf) [x] n pre.length) r ∧ decide (r ≥ 0) = suf.any (sameIn x) := by
  induction suf with
  | nil => intro pre n hn _; subst hn; exact ⟨-1, ev_succ (fun k => by rw [impl_IndexFunc_at_impl_inFault_1_in.l0, if_neg (by simp)]), by simp⟩
  | cons b suf ih =>
    intro pre n hn hl
    simp only [List.length_cons, Int.natCast_add, Int.natCast_one] at hn
    cases hb : sameIn x b with
    | true =>
      refine ⟨pre.length, ev_succ (fun k => ?_), by simp [hb]⟩
      rw [impl_IndexFunc_at_impl_inFault_1_in.l0, if_pos (by omega), if_pos (by omega), if_pos (by simp; omega), rdI, inFault_1_eq, hb]
      rfl
    | false =>
      obtain ⟨r, h, hr⟩ := ih (pre ++ [b]) n (by simp; omega) hl
      refine ⟨r, Ev.step (fun k => ?_) h, by simp [hb, hr]⟩
      rw [impl_IndexFunc_at_impl_inFault_1_in.l0, if_pos (by omega), if_pos (by omega), if_pos (by simp; omega), rdI, inFault_1_eq, hb, wrap_id (by omega) (by omega)]
      simp
theorem inFault_any (x : S34) {l : List S34} (hl : (l.length : Int) ≤ 1048576) : Ev (fun k => impl_ContainsFunc_at_impl_inFault_1.f k l x.f0 x.f1 x.f2) (l.any (sameIn x)) := by
  obtain ⟨r, h, hr⟩ := inFault_index x l [] l.length (by simp) hl
  rw [← hr]
  unfold impl_ContainsFunc_at_impl_inFault_1.f impl_ContainsFunc_at_impl_inFault_1_in.f impl_IndexFunc_at_impl_inFault_1_in.f
  exact ev_bind (by simpa using h) (Ev.now _)
theorem any_not_all (l : List Int) : l.any (fun x => !decide (0 ≤ x ∧ x ≤ 9999)) = !decide (AllIn l 0 9999) := by
  induction l with
  | nil => simp [AllIn]
  | cons b l ih =>
    rw [List.any_cons, ih]
    by_cases hb : 0 ≤ b ∧ b ≤ 9999 <;> simp [AllIn_cons, hb]
theorem impl_inFault_ev (pre : List S34) (x : S34) (hx : (x.f2.length : Int) ≤ 1048576) (hl : (pre.length : Int) ≤ 1048576) : Ev (fun k => impl_inFault.f k x.f0 x.f1 x.f2 pre) (inF pre x) := by
  unfold impl_inFault.f
  refine Ev.congr (f := fun k => impl_inFault.j0 k pre (inBad x) x.f0 x.f1 x.f2) (fun k => ?_) ?_
  · rw [impl_isSum_eq, impl_in_eq]
    simp only [Option.bind_some, inBad]
    cases decide (0 ≤ x.f0 ∧ x.f0 ≤ 2147483646) <;> cases decide (0 ≤ x.f1 ∧ x.f1 ≤ 3) <;> simp
  · unfold inF
    cases hb : inBad x with
    | true => exact ev_succ (fun k => by rw [impl_inFault.j0]; simp)
    | false =>
      rw [if_neg (by decide)]
      refine Ev.step (fun k => by rw [impl_inFault.j0, if_neg (by decide)]) ?_
      by_cases h8 : (x.f2.length : Int) > 8
      · rw [if_pos h8]; exact ev_if h8 (Ev.now _)
      · rw [if_neg h8]
        refine ev_ifn h8 (ev_bind (slices_ContainsFunc_at_impl_badCell_ev _ impl_badCell_eq (by omega)) ?_)
        rw [any_not_all]
        by_cases ha : decide (AllIn x.f2 0 9999) = true
        · rw [if_pos ha, ha]
          refine ev_ifn (by decide) (ev_bind (inFault_any x hl) ?_)
          by_cases hh : pre.any (sameIn x) = true
          · rw [if_pos hh, if_pos hh]; exact Ev.now _
          · rw [if_neg hh, if_neg hh]; exact Ev.now _
        · rw [if_neg ha]; exact ev_if (by simpa using ha) (Ev.now _)
theorem impl_outSum_l0 (suf : List S86) : ∀ (pre : List S86) (a : Int) (n : Int), n = (pre.length : Int) + suf.length → n ≤ 1048576 →
    Ev (fun k => impl_outSum.l0 k a (pre ++ suf) n pre.length) (outSumF a suf) := by
  induction suf with
  | nil => intro pre a n hn _; subst hn; exact ev_succ (fun k => by rw [impl_outSum.l0, if_neg (by simp)]; rfl)
  | cons b suf ih =>
    intro pre a n hn hl
    simp only [List.length_cons, Int.natCast_add, Int.natCast_one] at hn
    have h := ih (pre ++ [b]) (wrap64 (a + b.f0)) n (by simp; omega) hl
    refine Ev.step (fun k => ?_) (by simpa [outSumF] using h)
    rw [impl_outSum.l0, if_pos (by omega), if_pos (by omega), if_pos (by simp; omega), rdO, wrap_id (x := (pre.length : Int) + 1) (by omega) (by omega)]
theorem impl_outSum_ev {l : List S86} (hl : l.length ≤ 1048576) : Ev (fun k => impl_outSum.f k l) (outSumF 0 l) := by
  unfold impl_outSum.f
  exact impl_outSum_l0 l [] 0 l.length (by simp) (by omega)
theorem impl_TxFault_l1 (t : S27) (h2 : t.f2.length ≤ 1048576) (suf : List S86) : ∀ (pre : List S86) (n : Int), n = (pre.length : Int) + suf.length → (∀ x ∈ suf, (x.f1.length : Int) ≤ 1048576) → n ≤ 1048576 →
    Ev (fun k => impl_TxFault.l1 k (pre ++ suf) n pre.length t.f0 t.f1 t.f2) (outsF suf (endV (outSumF 0 t.f2))) := by
  induction suf with
  | nil =>
    intro pre n hn _ _
    simp only [List.length_nil, Int.natCast_zero, Int.add_zero] at hn
    simp only [outsF, endV]
    refine Ev.step (f := fun k => (impl_outSum.f k t.f2).bind fun s => (impl_isAmount.f s).bind fun c => if c = true then some 0 else some 7) (fun k => ?_) (ev_bind (impl_outSum_ev h2) (ev_bind0 (impl_isAmount_eq _) ?_))
    · rw [impl_TxFault.l1, if_neg (by omega)]
    · by_cases h : 0 ≤ outSumF 0 t.f2 ∧ outSumF 0 t.f2 ≤ 1000000
      · rw [if_pos h]; exact ev_if (by simpa using h) (Ev.now _)
      · rw [if_neg h]; exact ev_ifn (by simpa using h) (Ev.now _)
  | cons b suf ih =>
    intro pre n hn hs hl
    simp only [List.length_cons, Int.natCast_add, Int.natCast_one] at hn
    have h := ih (pre ++ [b]) n (by simp; omega) (fun x hx => hs x (by simp [hx])) hl
    rw [show ((pre ++ [b]).length : Int) = (pre.length : Int) + 1 from by simp, show pre ++ [b] ++ suf = pre ++ b :: suf from by simp] at h
    simp only [outsF]
    by_cases hb : 0 ≤ b.f0 ∧ b.f0 ≤ 1000000
    · rw [if_pos hb]
      refine Ev.step (f := fun k => (impl_ProgramFault.f k b.f1).bind fun t1 => if t1 = 0 then impl_TxFault.l1 k (pre ++ b :: suf) n ((pre.length : Int) + 1) t.f0 t.f1 t.f2 else some t1) (fun k => ?_) (ev_bind (impl_ProgramFault_ev (by have := hs b (by simp); omega)) ?_)
      · rw [impl_TxFault.l1, if_pos (by omega), if_pos (by omega), if_pos (by simp; omega), rdO, impl_isAmount_eq, wrap_id (x := (pre.length : Int) + 1) (by omega) (by omega)]
        simp [hb]
      · by_cases hf : faultP b.f1 = 0
        · rw [if_pos hf]; exact ev_if hf h
        · rw [if_neg hf]; exact ev_ifn hf (Ev.now _)
    · rw [if_neg hb]
      refine ev_succ (fun k => ?_)
      rw [impl_TxFault.l1, if_pos (by omega), if_pos (by omega), if_pos (by simp; omega), rdO, impl_isAmount_eq]
      simp [hb]
theorem impl_TxFault_l0 (t : S27) (e : Int) (he : Ev (fun k => impl_TxFault.l1 k t.f2 (t.f2.length : Int) 0 t.f0 t.f1 t.f2) e) (suf : List S34) : ∀ (pre : List S34), t.f1 = pre ++ suf → (∀ x ∈ suf, (x.f2.length : Int) ≤ 1048576) → (pre.length : Int) + suf.length ≤ 1048576 →
    Ev (fun k => impl_TxFault.l0 k t.f1 (t.f1.length : Int) pre.length t.f0 t.f1 t.f2) (insF pre suf e) := by
  induction suf with
  | nil =>
    intro pre ht _ _
    refine Ev.step (fun k => ?_) he
    rw [impl_TxFault.l0, if_neg (by rw [ht]; simp)]
  | cons b suf ih =>
    intro pre ht hs hl
    simp only [List.length_cons, Int.natCast_add, Int.natCast_one] at hl
    have h := ih (pre ++ [b]) (by rw [ht]; simp) (fun x hx => hs x (by simp [hx])) (by simp; omega)
    rw [show ((pre ++ [b]).length : Int) = (pre.length : Int) + 1 from by simp] at h
    have hlen : (t.f1.length : Int) = (pre.length : Int) + (suf.length + 1) := by rw [ht]; simp
    have e1 : rd_T34 t.f1 (pre.length : Int) = b := by rw [ht]; exact rdI pre b suf
    have e2 : t.f1.take ((pre.length : Int)).toNat = pre := by rw [ht]; simp
    refine Ev.step (f := fun k => (impl_inFault.f k b.f0 b.f1 b.f2 pre).bind fun t7 => if t7 = 0 then impl_TxFault.l0 k t.f1 (t.f1.length : Int) ((pre.length : Int) + 1) t.f0 t.f1 t.f2 else some t7) (fun k => ?_) (ev_bind (impl_inFault_ev pre b (hs b (by simp)) (by omega)) ?_)
    · rw [impl_TxFault.l0, if_pos (by omega), if_pos (by omega), if_pos (by omega), if_pos (by omega), e1, e2, wrap_id (x := (pre.length : Int) + 1) (by omega) (by omega)]
    · unfold insF
      by_cases hf : inF pre b = 0
      · rw [if_pos hf]; exact ev_if hf h
      · rw [if_neg hf]; exact ev_ifn hf (Ev.now _)
theorem impl_TxFault_ev {t : S27} (h1 : t.f1.length ≤ 1048576 ∧ ∀ x ∈ t.f1, (x.f2.length : Int) ≤ 1048576) (h2 : t.f2.length ≤ 1048576 ∧ ∀ x ∈ t.f2, (x.f1.length : Int) ≤ 1048576) : Ev (fun k => impl_TxFault.f k t.f0 t.f1 t.f2) (txF t) := by
  unfold impl_TxFault.f txF
  refine ev_bind0 (impl_in_eq _ _ _) ?_
  by_cases hn : 0 ≤ t.f0 ∧ t.f0 ≤ 65535
  · rw [if_pos hn]
    refine ev_if (by simpa using hn) ?_
    by_cases c1 : (t.f1.length : Int) > 4
    · rw [if_pos (.inl c1)]; exact ev_if c1 (Ev.now _)
    · refine ev_ifn c1 (ev_bind0 (impl_in_eq _ _ _) ?_)
      by_cases c2 : 1 ≤ (t.f2.length : Int) ∧ (t.f2.length : Int) ≤ 4
      · rw [if_neg (by omega)]
        refine ev_if (by simpa using c2) ?_
        have l1 := impl_TxFault_l1 t h2.1 t.f2 [] t.f2.length (by simp) h2.2 (by omega)
        have := impl_TxFault_l0 t _ (by simpa using l1) t.f1 [] (by simp) h1.2 (by simp; omega)
        simpa using this
      · rw [if_pos (by omega)]; exact ev_ifn (by simpa using c2) (Ev.now _)
  · rw [if_neg hn]; exact ev_ifn (by simpa using hn) (Ev.now _)

theorem bytes_drop {l : List Int} (hb : BytesL l) (p : Nat) : ∀ x ∈ l.drop p, 0 ≤ x ∧ x ≤ 255 := fun x hx => hb.1 x (List.mem_of_mem_drop hx)
/-- A number as the program reads it. -/
theorem next_G {l : List Int} (hb : BytesL l) {p : Nat} {most v : Int} {q : Nat} (h : Vm true most l p = some (v, q)) : Ev (fun k => impl_reader_next.f k (l.drop p) false most) (v, l.drop q, false) := by
  obtain ⟨hv, hm⟩ := Vm_some h
  obtain ⟨h1, h2, h3, h4⟩ := V_some hb hv
  have hm := hm rfl
  simp only at hm
  have hr := impl_ReadVar_ev (bytes_drop hb p)
  rw [h4] at hr
  unfold impl_reader_next.f
  refine ev_bind hr (ev_ifn (by simp; omega) (ev_if (by simp; omega) ?_))
  have e : (l.drop p).drop ((q : Int) - p).toNat = l.drop q := by rw [List.drop_drop]; congr 1; omega
  rw [e]
  exact Ev.now _
theorem next_N {l : List Int} (hb : BytesL l) {p : Nat} {most : Int} (h : Vm true most l p = none) : Ev (fun k => impl_reader_next.f k (l.drop p) false most) (0, l.drop p, true) := by
  have hr := impl_ReadVar_ev (bytes_drop hb p)
  unfold impl_reader_next.f
  refine ev_bind hr (ev_if ?_ (Ev.now _))
  by_cases h1 : (readV (l.drop p)).1 = 0
  · right; right
    have hV : V l p = some ((readV (l.drop p)).2.1, p + (readV (l.drop p)).2.2.toNat) := by unfold V; rw [if_pos h1]
    apply Classical.byContradiction
    intro hc
    rw [Vm_of hV (fun _ => Int.not_lt.1 hc)] at h
    cases h
  · exact .inr (.inl h1)
theorem next_W {l : List Int} (hb : BytesL l) (p : Nat) (most : Int) : Ev (fun k => impl_reader_next.f k (l.drop p) true most) (0, l.drop p, true) := by
  have hr := impl_ReadVar_ev (bytes_drop hb p)
  unfold impl_reader_next.f
  exact ev_bind hr (ev_if (.inl rfl) (Ev.now _))
theorem Vm_65535 {l : List Int} (hb : BytesL l) {p : Nat} : Vm true 65535 l p = V l p := by
  cases h : V l p with
  | none => unfold Vm; rw [h]; rfl
  | some r => exact Vm_of h (fun _ => (V_some hb (v := r.1) (q := r.2) h).1.2)
theorem halves_G {l : List Int} (hb : BytesL l) {p : Nat} {v : Int} {q : Nat} (h : Big l p = some (v, q)) : Ev (fun k => impl_reader_halves.f k (l.drop p) false) (v, l.drop q, false) := by
  obtain ⟨⟨a, p1⟩, ha, h⟩ := Option.bind_eq_some_iff.mp h
  obtain ⟨⟨c, p2⟩, hc, h⟩ := Option.bind_eq_some_iff.mp h
  cases h
  have h1 := V_some hb ha
  have h2 := V_some hb hc
  rw [← Vm_65535 hb] at ha hc
  unfold impl_reader_halves.f
  refine ev_bind (next_G hb ha) (ev_bind (next_G hb hc) ?_)
  simp only
  rw [wrap_id (x := 65536 * c) (by omega) (by omega), wrap_id (by omega) (by omega)]
  exact Ev.now _
theorem halves_W {l : List Int} (hb : BytesL l) (p : Nat) : Ev (fun k => impl_reader_halves.f k (l.drop p) true) (0, l.drop p, true) := by
  unfold impl_reader_halves.f
  refine ev_bind (next_W hb p _) (ev_bind (next_W hb p _) ?_)
  simp only
  rw [wrap_id (x := 65536 * 0) (by omega) (by omega), wrap_id (by omega) (by omega)]
  exact Ev.now _
theorem halves_N {l : List Int} (hb : BytesL l) {p : Nat} (h : Big l p = none) : ∃ (v : Int) (q : Nat), Ev (fun k => impl_reader_halves.f k (l.drop p) false) (v, l.drop q, true) := by
  unfold impl_reader_halves.f
  cases ha : V l p with
  | none =>
    rw [← Vm_65535 hb] at ha
    exact ⟨_, p, ev_bind (next_N hb ha) (ev_bind (next_W hb p _) (Ev.now _))⟩
  | some a =>
    have hn : V l a.2 = none := by
      cases hc : V l a.2 with
      | none => rfl
      | some c => unfold Big at h; rw [ha, Option.bind_some, hc] at h; cases h
    rw [← Vm_65535 hb] at ha hn
    exact ⟨_, a.2, ev_bind (next_G hb (v := a.1) (q := a.2) ha) (ev_bind (next_N hb hn) (Ev.now _))⟩
theorem numbers_l0_W {l : List Int} (hb : BytesL l) (p : Nat) : ∀ (c i : Nat) (n : Int) (acc : List Int), (i : Int) + c = n → n ≤ 100000 → acc.length + c ≤ 1000000 → ∃ ys, Ev (fun k => impl_reader_numbers.l0 k acc n (i : Int) (l.drop p) true) (ys, l.drop p, true)
  | 0, i, n, acc, hc, hn, ha => ⟨acc, ev_succ fun k => by rw [impl_reader_numbers.l0, if_neg (by omega)]⟩
  | c + 1, i, n, acc, hc, hn, ha => by
    obtain ⟨ys, h⟩ := numbers_l0_W hb p c (i + 1) n (acc ++ [0]) (by omega) hn (by simp; omega)
    refine ⟨ys, Ev.step (f := fun k => (impl_reader_next.f k (l.drop p) true 65535).bind fun t => if acc.length < 17592186044416 then impl_reader_numbers.l0 k (acc ++ [t.1]) n ((i + 1 : Nat) : Int) t.2.1 t.2.2 else none) (fun k => ?_) (ev_bind (next_W hb p _) (ev_if (by omega) h))⟩
    rw [impl_reader_numbers.l0, if_pos (by omega), wrap_id (x := (i : Int) + 1) (by omega) (by omega)]; rfl
theorem numbers_l0 {l : List Int} (hb : BytesL l) : ∀ (c p i : Nat) (n : Int) (acc : List Int), (i : Int) + c = n → n ≤ 100000 → acc.length + c ≤ 1000000 →
    (∀ r, Lst l c p = some r → Ev (fun k => impl_reader_numbers.l0 k acc n (i : Int) (l.drop p) false) (acc ++ r.1, l.drop r.2, false)) ∧
    (Lst l c p = none → ∃ (ys : List Int) (q : Nat), Ev (fun k => impl_reader_numbers.l0 k acc n (i : Int) (l.drop p) false) (ys, l.drop q, true))
  | 0, p, i, n, acc, hc, hn, ha => by
    refine ⟨fun r h => ?_, fun h => by cases h⟩
    cases h
    exact ev_succ fun k => by rw [impl_reader_numbers.l0, if_neg (by omega), List.append_nil]
  | c + 1, p, i, n, acc, hc, hn, ha => by
    have hstep : ∀ k, impl_reader_numbers.l0 (k + 1) acc n (i : Int) (l.drop p) false = (impl_reader_next.f k (l.drop p) false 65535).bind fun t => if acc.length < 17592186044416 then impl_reader_numbers.l0 k (acc ++ [t.1]) n ((i + 1 : Nat) : Int) t.2.1 t.2.2 else none := by
      intro k
      rw [impl_reader_numbers.l0, if_pos (by omega), wrap_id (x := (i : Int) + 1) (by omega) (by omega)]; rfl
    refine ⟨fun r h => ?_, fun h => ?_⟩
    · unfold Lst at h
      obtain ⟨⟨a, p1⟩, hv, h⟩ := Option.bind_eq_some_iff.mp h
      obtain ⟨s, hs, h⟩ := Option.bind_eq_some_iff.mp h
      cases h
      have ih := (numbers_l0 hb c p1 (i + 1) n (acc ++ [a]) (by omega) hn (by simp; omega)).1 s hs
      rw [← Vm_65535 hb] at hv
      refine Ev.step hstep (ev_bind (next_G hb hv) (ev_if (by omega) ?_))
      simpa using ih
    · cases hv : V l p with
      | none =>
        rw [← Vm_65535 hb] at hv
        obtain ⟨ys, hw⟩ := numbers_l0_W hb p c (i + 1) n (acc ++ [0]) (by omega) hn (by simp; omega)
        exact ⟨ys, p, Ev.step hstep (ev_bind (next_N hb hv) (ev_if (by omega) hw))⟩
      | some a =>
        have hn2 : Lst l c a.2 = none := by
          cases hc : Lst l c a.2 with
          | none => rfl
          | some r => unfold Lst at h; rw [hv, Option.bind_some, hc] at h; cases h
        obtain ⟨ys, q, ih⟩ := (numbers_l0 hb c a.2 (i + 1) n (acc ++ [a.1]) (by omega) hn (by simp; omega)).2 hn2
        rw [← Vm_65535 hb] at hv
        exact ⟨ys, q, Ev.step hstep (ev_bind (next_G hb (v := a.1) (q := a.2) hv) (ev_if (by omega) ih))⟩
theorem numbers_G {most : Int} {l : List Int} (hb : BytesL l) {p : Nat} {r : List Int × Nat} (h : Nums true most l p = some r) : Ev (fun k => impl_reader_numbers.f k (l.drop p) false most) (r.1, l.drop r.2, false) := by
  obtain ⟨⟨c, q⟩, hv, hl⟩ := Option.bind_eq_some_iff.mp h
  have h1 := V_some hb (Vm_some hv).1
  simp only at hl
  unfold impl_reader_numbers.f
  have ih := (numbers_l0 hb c.toNat q 0 c [] (by omega) (by omega) (by simp; omega)).1 r hl
  exact ev_bind (next_G hb hv) ih
theorem numbers_W {l : List Int} (hb : BytesL l) (p : Nat) (most : Int) : ∃ ys, Ev (fun k => impl_reader_numbers.f k (l.drop p) true most) (ys, l.drop p, true) := by
  unfold impl_reader_numbers.f
  obtain ⟨ys, h⟩ := numbers_l0_W hb p 0 0 0 [] (by omega) (by omega) (by simp)
  exact ⟨ys, ev_bind (next_W hb p _) h⟩
theorem numbers_N {most : Int} {l : List Int} (hb : BytesL l) {p : Nat} (h : Nums true most l p = none) : ∃ (ys : List Int) (q : Nat), Ev (fun k => impl_reader_numbers.f k (l.drop p) false most) (ys, l.drop q, true) := by
  unfold impl_reader_numbers.f
  cases hv : Vm true most l p with
  | none =>
    obtain ⟨ys, h⟩ := numbers_l0_W hb p 0 0 0 [] (by omega) (by omega) (by simp)
    exact ⟨ys, p, ev_bind (next_N hb hv) h⟩
  | some a =>
    have h1 := V_some hb (v := a.1) (q := a.2) (Vm_some hv).1
    have hn : Lst l a.1.toNat a.2 = none := by unfold Nums at h; rw [hv] at h; exact h
    obtain ⟨ys, q, ih⟩ := (numbers_l0 hb a.1.toNat a.2 0 a.1 [] (by omega) (by omega) (by simp; omega)).2 hn
    exact ⟨ys, q, ev_bind (next_G hb (v := a.1) (q := a.2) hv) ih⟩
/-! Once it is bad it stays bad. -/
theorem tx_l1_W {l : List Int} (hb : BytesL l) (p : Nat) (note : Int) (ins : List S34) : ∀ (c i : Nat) (n : Int) (acc : List S86), (i : Int) + c = n → n ≤ 100 → acc.length + c ≤ 1000000 → ∃ r, Ev (fun k => impl_reader_tx.l1 k n (i : Int) (l.drop p) true note ins acc) r ∧ r.2.2.2.2 = true
  | 0, i, n, acc, hc, hn, ha => ⟨_, ev_succ fun k => by rw [impl_reader_tx.l1, if_neg (by omega)], rfl⟩
  | c + 1, i, n, acc, hc, hn, ha => by
    obtain ⟨ys, hy⟩ := numbers_W hb p 12
    obtain ⟨r, h, hr⟩ := tx_l1_W hb p note ins c (i + 1) n (acc ++ [⟨0, ys⟩]) (by omega) hn (by simp; omega)
    refine ⟨r, Ev.step (f := fun k => (impl_reader_halves.f k (l.drop p) true).bind fun a => (impl_reader_numbers.f k a.2.1 a.2.2 12).bind fun b => if acc.length < 4398046511104 then impl_reader_tx.l1 k n ((i + 1 : Nat) : Int) b.2.1 b.2.2 note ins (acc ++ [⟨a.1, b.1⟩]) else none) (fun k => ?_) (ev_bind (halves_W hb p) (ev_bind hy (ev_if (by omega) h))), hr⟩
    rw [impl_reader_tx.l1, if_pos (by omega), wrap_id (x := (i : Int) + 1) (by omega) (by omega)]; rfl
theorem tx_l0_W {l : List Int} (hb : BytesL l) (p : Nat) (note : Int) : ∀ (c i : Nat) (n : Int) (acc : List S34), (i : Int) + c = n → n ≤ 100 → acc.length + c ≤ 1000000 → ∃ r, Ev (fun k => impl_reader_tx.l0 k n (i : Int) (l.drop p) true note acc) r ∧ r.2.2.2.2 = true
  | 0, i, n, acc, hc, hn, ha => by
    obtain ⟨r, h, hr⟩ := tx_l1_W hb p note acc 0 0 0 [] (by omega) (by omega) (by simp)
    refine ⟨r, Ev.step (f := fun k => (impl_reader_next.f k (l.drop p) true 4).bind fun t => impl_reader_tx.l1 k t.1 0 t.2.1 t.2.2 note acc []) (fun k => ?_) (ev_bind (next_W hb p _) h), hr⟩
    rw [impl_reader_tx.l0, if_neg (by omega)]
  | c + 1, i, n, acc, hc, hn, ha => by
    obtain ⟨ys, hy⟩ := numbers_W hb p 8
    obtain ⟨r, h, hr⟩ := tx_l0_W hb p note c (i + 1) n (acc ++ [⟨0, 0, ys⟩]) (by omega) hn (by simp; omega)
    refine ⟨r, Ev.step (f := fun k => (impl_reader_halves.f k (l.drop p) true).bind fun a => (impl_reader_next.f k a.2.1 a.2.2 65535).bind fun o => (impl_reader_numbers.f k o.2.1 o.2.2 8).bind fun b => if acc.length < 3518437208883 then impl_reader_tx.l0 k n ((i + 1 : Nat) : Int) b.2.1 b.2.2 note (acc ++ [⟨a.1, o.1, b.1⟩]) else none) (fun k => ?_) (ev_bind (halves_W hb p) (ev_bind (next_W hb p _) (ev_bind hy (ev_if (by omega) h)))), hr⟩
    rw [impl_reader_tx.l0, if_pos (by omega), wrap_id (x := (i : Int) + 1) (by omega) (by omega)]; rfl
theorem tx_outs {l : List Int} (hb : BytesL l) (note : Int) (ins : List S34) : ∀ (c p i : Nat) (n : Int) (acc : List S86), (i : Int) + c = n → n ≤ 100 → acc.length + c ≤ 1000000 →
    (∀ r, OutsR true l c p = some r → Ev (fun k => impl_reader_tx.l1 k n (i : Int) (l.drop p) false note ins acc) (note, ins, acc ++ r.1, l.drop r.2, false)) ∧
    (OutsR true l c p = none → ∃ r, Ev (fun k => impl_reader_tx.l1 k n (i : Int) (l.drop p) false note ins acc) r ∧ r.2.2.2.2 = true)
  | 0, p, i, n, acc, hc, hn, ha => by
    refine ⟨fun r h => ?_, fun h => by cases h⟩
    cases h
    exact ev_succ fun k => by rw [impl_reader_tx.l1, if_neg (by omega), List.append_nil]
  | c + 1, p, i, n, acc, hc, hn, ha => by
    have h0 : ∀ k, impl_reader_tx.l1 (k + 1) n (i : Int) (l.drop p) false note ins acc = (impl_reader_halves.f k (l.drop p) false).bind fun a => (impl_reader_numbers.f k a.2.1 a.2.2 12).bind fun b => if acc.length < 4398046511104 then impl_reader_tx.l1 k n ((i + 1 : Nat) : Int) b.2.1 b.2.2 note ins (acc ++ [⟨a.1, b.1⟩]) else none := by
      intro k
      rw [impl_reader_tx.l1, if_pos (by omega), wrap_id (x := (i : Int) + 1) (by omega) (by omega)]; rfl
    refine ⟨fun r h => ?_, fun h => ?_⟩
    · unfold OutsR at h
      obtain ⟨x, hxr, h⟩ := Option.bind_eq_some_iff.mp h
      obtain ⟨s, hs, h⟩ := Option.bind_eq_some_iff.mp h
      cases h
      obtain ⟨⟨a, p1⟩, h3, h4⟩ := Option.bind_eq_some_iff.mp hxr
      obtain ⟨b, h5, h6⟩ := Option.bind_eq_some_iff.mp h4
      cases h6
      have ih := (tx_outs hb note ins c b.2 (i + 1) n (acc ++ [⟨a, b.1⟩]) (by omega) hn (by simp; omega)).1 s hs
      refine Ev.step h0 (ev_bind (halves_G hb h3) (ev_bind (numbers_G hb h5) (ev_if (by omega) ?_)))
      simpa using ih
    · cases h3 : Big l p with
      | none =>
        obtain ⟨a, q, ha1⟩ := halves_N hb h3
        obtain ⟨ys, hy⟩ := numbers_W hb q 12
        obtain ⟨r, hr, hr1⟩ := tx_l1_W hb q note ins c (i + 1) n (acc ++ [⟨a, ys⟩]) (by omega) hn (by simp; omega)
        exact ⟨r, Ev.step h0 (ev_bind ha1 (ev_bind hy (ev_if (by omega) hr))), hr1⟩
      | some a =>
        cases h5 : Nums true 12 l a.2 with
        | none =>
          obtain ⟨ys, q, hy⟩ := numbers_N hb h5
          obtain ⟨r, hr, hr1⟩ := tx_l1_W hb q note ins c (i + 1) n (acc ++ [⟨a.1, ys⟩]) (by omega) hn (by simp; omega)
          exact ⟨r, Ev.step h0 (ev_bind (halves_G hb (v := a.1) (q := a.2) h3) (ev_bind hy (ev_if (by omega) hr))), hr1⟩
        | some b =>
          have hn2 : OutsR true l c b.2 = none := by
            cases hc2 : OutsR true l c b.2 with
            | none => rfl
            | some z =>
              have e : OutR true l p = some (⟨a.1, b.1⟩, b.2) := by unfold OutR; rw [h3, Option.bind_some, h5]; rfl
              unfold OutsR at h; rw [e, Option.bind_some, hc2] at h; cases h
          obtain ⟨r, hr, hr1⟩ := (tx_outs hb note ins c b.2 (i + 1) n (acc ++ [⟨a.1, b.1⟩]) (by omega) hn (by simp; omega)).2 hn2
          exact ⟨r, Ev.step h0 (ev_bind (halves_G hb (v := a.1) (q := a.2) h3) (ev_bind (numbers_G hb h5) (ev_if (by omega) hr))), hr1⟩
def RestT (l : List Int) (p : Nat) : Option (List S86 × Nat) := (Vm true 4 l p).bind fun d => OutsR true l d.1.toNat d.2
theorem tx_ins {l : List Int} (hb : BytesL l) (note : Int) : ∀ (c p i : Nat) (n : Int) (acc : List S34), (i : Int) + c = n → n ≤ 100 → acc.length + c ≤ 1000000 →
    (∀ xs r, InsR true l c p = some xs → RestT l xs.2 = some r → Ev (fun k => impl_reader_tx.l0 k n (i : Int) (l.drop p) false note acc) (note, acc ++ xs.1, r.1, l.drop r.2, false)) ∧
    (((InsR true l c p).bind fun xs => RestT l xs.2) = none → ∃ r, Ev (fun k => impl_reader_tx.l0 k n (i : Int) (l.drop p) false note acc) r ∧ r.2.2.2.2 = true)
  | 0, p, i, n, acc, hc, hn, ha => by
    have h0 : ∀ k, impl_reader_tx.l0 (k + 1) n (i : Int) (l.drop p) false note acc = (impl_reader_next.f k (l.drop p) false 4).bind fun t => impl_reader_tx.l1 k t.1 0 t.2.1 t.2.2 note acc [] := by
      intro k
      rw [impl_reader_tx.l0, if_neg (by omega)]
    refine ⟨fun xs r h h2 => ?_, fun h => ?_⟩
    · cases h
      obtain ⟨d, hd, ho⟩ := Option.bind_eq_some_iff.mp h2
      obtain ⟨hv, hm⟩ := Vm_some hd
      have h1 := V_some hb (v := d.1) (q := d.2) hv
      have hm := hm rfl
      have h3 := (tx_outs hb note acc d.1.toNat d.2 0 d.1 [] (by omega) (by omega) (by simp; omega)).1 r ho
      rw [List.append_nil]
      exact Ev.step h0 (ev_bind (next_G hb (v := d.1) (q := d.2) hd) h3)
    · have h : RestT l p = none := h
      cases hd : Vm true 4 l p with
      | none =>
        obtain ⟨r, hr, hr1⟩ := tx_l1_W hb p note acc 0 0 0 [] (by omega) (by omega) (by simp)
        exact ⟨r, Ev.step h0 (ev_bind (next_N hb hd) hr), hr1⟩
      | some d =>
        obtain ⟨hv, hm⟩ := Vm_some hd
        have h1 := V_some hb (v := d.1) (q := d.2) hv
        have hm := hm rfl
        have hn2 : OutsR true l d.1.toNat d.2 = none := by unfold RestT at h; rw [hd] at h; exact h
        obtain ⟨r, hr, hr1⟩ := (tx_outs hb note acc d.1.toNat d.2 0 d.1 [] (by omega) (by omega) (by simp; omega)).2 hn2
        exact ⟨r, Ev.step h0 (ev_bind (next_G hb (v := d.1) (q := d.2) hd) hr), hr1⟩
  | c + 1, p, i, n, acc, hc, hn, ha => by
    have h0 : ∀ k, impl_reader_tx.l0 (k + 1) n (i : Int) (l.drop p) false note acc = (impl_reader_halves.f k (l.drop p) false).bind fun a => (impl_reader_next.f k a.2.1 a.2.2 65535).bind fun o => (impl_reader_numbers.f k o.2.1 o.2.2 8).bind fun b => if acc.length < 3518437208883 then impl_reader_tx.l0 k n ((i + 1 : Nat) : Int) b.2.1 b.2.2 note (acc ++ [⟨a.1, o.1, b.1⟩]) else none := by
      intro k
      rw [impl_reader_tx.l0, if_pos (by omega), wrap_id (x := (i : Int) + 1) (by omega) (by omega)]; rfl
    refine ⟨fun xs r h h2 => ?_, fun h => ?_⟩
    · unfold InsR at h
      obtain ⟨x, hxr, h⟩ := Option.bind_eq_some_iff.mp h
      obtain ⟨s, hs, h⟩ := Option.bind_eq_some_iff.mp h
      cases h
      obtain ⟨⟨a, p1⟩, h3, h4⟩ := Option.bind_eq_some_iff.mp hxr
      obtain ⟨⟨o, p2⟩, h5, h4⟩ := Option.bind_eq_some_iff.mp h4
      obtain ⟨b, h7, h6⟩ := Option.bind_eq_some_iff.mp h4
      cases h6
      rw [← Vm_65535 hb] at h5
      have ih := (tx_ins hb note c b.2 (i + 1) n (acc ++ [⟨a, o, b.1⟩]) (by omega) hn (by simp; omega)).1 s r hs h2
      refine Ev.step h0 (ev_bind (halves_G hb h3) (ev_bind (next_G hb h5) (ev_bind (numbers_G hb h7) (ev_if (by omega) ?_))))
      simpa using ih
    · cases h3 : Big l p with
      | none =>
        obtain ⟨a, q, ha1⟩ := halves_N hb h3
        obtain ⟨ys, hy⟩ := numbers_W hb q 8
        obtain ⟨r, hr, hr1⟩ := tx_l0_W hb q note c (i + 1) n (acc ++ [⟨a, 0, ys⟩]) (by omega) hn (by simp; omega)
        exact ⟨r, Ev.step h0 (ev_bind ha1 (ev_bind (next_W hb q _) (ev_bind hy (ev_if (by omega) hr)))), hr1⟩
      | some a =>
        cases h5 : V l a.2 with
        | none =>
          rw [← Vm_65535 hb] at h5
          obtain ⟨ys, hy⟩ := numbers_W hb a.2 8
          obtain ⟨r, hr, hr1⟩ := tx_l0_W hb a.2 note c (i + 1) n (acc ++ [⟨a.1, 0, ys⟩]) (by omega) hn (by simp; omega)
          exact ⟨r, Ev.step h0 (ev_bind (halves_G hb (v := a.1) (q := a.2) h3) (ev_bind (next_N hb h5) (ev_bind hy (ev_if (by omega) hr)))), hr1⟩
        | some o =>
          have h5' := h5
          rw [← Vm_65535 hb] at h5'
          cases h7 : Nums true 8 l o.2 with
          | none =>
            obtain ⟨ys, q, hy⟩ := numbers_N hb h7
            obtain ⟨r, hr, hr1⟩ := tx_l0_W hb q note c (i + 1) n (acc ++ [⟨a.1, o.1, ys⟩]) (by omega) hn (by simp; omega)
            exact ⟨r, Ev.step h0 (ev_bind (halves_G hb (v := a.1) (q := a.2) h3) (ev_bind (next_G hb (v := o.1) (q := o.2) h5') (ev_bind hy (ev_if (by omega) hr)))), hr1⟩
          | some b =>
            have e : InR true l p = some (⟨a.1, o.1, b.1⟩, b.2) := by unfold InR; rw [h3, Option.bind_some, h5, Option.bind_some, h7]; rfl
            have hn2 : ((InsR true l c b.2).bind fun xs => RestT l xs.2) = none := by
              cases hc2 : InsR true l c b.2 with
              | none => rfl
              | some z => unfold InsR at h; rw [e, Option.bind_some, hc2] at h; exact h
            obtain ⟨r, hr, hr1⟩ := (tx_ins hb note c b.2 (i + 1) n (acc ++ [⟨a.1, o.1, b.1⟩]) (by omega) hn (by simp; omega)).2 hn2
            exact ⟨r, Ev.step h0 (ev_bind (halves_G hb (v := a.1) (q := a.2) h3) (ev_bind (next_G hb (v := o.1) (q := o.2) h5') (ev_bind (numbers_G hb h7) (ev_if (by omega) hr)))), hr1⟩
theorem impl_tx_ev {l : List Int} (hb : BytesL l) : (∀ r, TxR true l 0 = some r → Ev (fun k => impl_reader_tx.f k l false) (r.1.f0, r.1.f1, r.1.f2, l.drop r.2, false)) ∧ (TxR true l 0 = none → ∃ r, Ev (fun k => impl_reader_tx.f k l false) r ∧ r.2.2.2.2 = true) := by
  unfold impl_reader_tx.f
  have e0 : l = l.drop 0 := rfl
  cases hn : V l 0 with
  | none =>
    refine ⟨fun r h => ?_, fun _ => ?_⟩
    · unfold TxR at h; rw [hn] at h; cases h
    · rw [← Vm_65535 hb] at hn
      obtain ⟨r, hr, hr1⟩ := tx_l0_W hb 0 0 0 0 0 [] (by omega) (by omega) (by simp)
      exact ⟨r, ev_bind (next_N hb hn) (ev_bind (next_W hb 0 _) hr), hr1⟩
  | some a =>
    have hn' := hn
    rw [← Vm_65535 hb] at hn'
    have hG := next_G hb (p := 0) (v := a.1) (q := a.2) hn'
    cases hc : Vm true 4 l a.2 with
    | none =>
      refine ⟨fun r h => ?_, fun _ => ?_⟩
      · unfold TxR at h; rw [hn, Option.bind_some, hc] at h; cases h
      · obtain ⟨r, hr, hr1⟩ := tx_l0_W hb a.2 a.1 0 0 0 [] (by omega) (by omega) (by simp)
        exact ⟨r, ev_bind hG (ev_bind (next_N hb hc) hr), hr1⟩
    | some c =>
      obtain ⟨hv, hm⟩ := Vm_some hc
      have h2 := V_some hb (v := c.1) (q := c.2) hv
      have hm := hm rfl
      have hi := tx_ins hb a.1 c.1.toNat c.2 0 c.1 [] (by omega) (by omega) (by simp; omega)
      have e : TxR true l 0 = (InsR true l c.1.toNat c.2).bind fun xs => (RestT l xs.2).bind fun ys => some (⟨a.1, xs.1, ys.1⟩, ys.2) := by
        unfold TxR RestT
        rw [hn, Option.bind_some, hc, Option.bind_some]
        congr 1
        funext xs
        rw [Option.bind_assoc]
      refine ⟨fun r h => ?_, fun h => ?_⟩
      · rw [e] at h
        obtain ⟨xs, hx, h⟩ := Option.bind_eq_some_iff.mp h
        obtain ⟨ys, hy, h⟩ := Option.bind_eq_some_iff.mp h
        cases h
        exact ev_bind hG (ev_bind (next_G hb (v := c.1) (q := c.2) hc) (hi.1 xs ys hx hy))
      · have hn2 : ((InsR true l c.1.toNat c.2).bind fun xs => RestT l xs.2) = none := by
          rw [e] at h
          cases hx : InsR true l c.1.toNat c.2 with
          | none => rfl
          | some xs =>
            rw [hx, Option.bind_some] at h
            cases hy : RestT l xs.2 with
            | none => exact hy
            | some ys => rw [hy] at h; cases h
        obtain ⟨r, hr, hr1⟩ := hi.2 hn2
        exact ⟨r, ev_bind hG (ev_bind (next_G hb (v := c.1) (q := c.2) hc) hr), hr1⟩

theorem TxR_some {b : Bool} {l : List Int} (hb : BytesL l) {p : Nat} {r : S27 × Nat} (h : TxR b l p = some r) : r.2 ≤ l.length ∧ lenI r.1.f1 ∧ lenO r.1.f2 := by
  obtain ⟨n, hn, h⟩ := Option.bind_eq_some_iff.mp h
  obtain ⟨c, hc, h⟩ := Option.bind_eq_some_iff.mp h
  obtain ⟨xs, hx, h⟩ := Option.bind_eq_some_iff.mp h
  obtain ⟨d, hd, h⟩ := Option.bind_eq_some_iff.mp h
  obtain ⟨ys, hy, h⟩ := Option.bind_eq_some_iff.mp h
  cases h
  have a1 := V_some hb (v := c.1) (q := c.2) (Vm_some hc).1
  have a2 := InsR_some hb _ _ _ a1.2.2.1 hx
  have a3 := V_some hb (v := d.1) (q := d.2) (Vm_some hd).1
  have a4 := OutsR_some hb _ _ _ a3.2.2.1 hy
  exact ⟨a4.1, ⟨by show xs.1.length ≤ _; omega, a2.2.2⟩, ⟨by show ys.1.length ≤ _; omega, a4.2.2⟩⟩
theorem lenI_ok {l : List S34} (h : lenI l) : l.length ≤ 1048576 ∧ ∀ x ∈ l, (x.f2.length : Int) ≤ 1048576 := ⟨by have := h.1; omega, fun x hx => by have := h.2 x hx; omega⟩
theorem lenO_ok {l : List S86} (h : lenO l) : l.length ≤ 1048576 ∧ ∀ x ∈ l, (x.f1.length : Int) ≤ 1048576 := ⟨by have := h.1; omega, fun x hx => by have := h.2 x hx; omega⟩
theorem readTx_both {l : List Int} (hb : BytesL l) : ∃ (c n : Int) (xs : List S34) (ys : List S86) (u : Int), Ev (fun k => spec_ReadTx.f k l) (c, n, xs, ys, u) ∧ Ev (fun k => impl_ReadTx.f k l) (c, n, xs, ys, u) ∧ lenI xs ∧ lenO ys := by
  have hbad : lenI [] ∧ lenO [] := ⟨⟨by simp, by simp⟩, ⟨by simp, by simp⟩⟩
  have hS := spec_l3Read_ev hb
  have hI := impl_tx_ev hb
  unfold spec_ReadTx.f impl_ReadTx.f
  cases h : TxR true l 0 with
  | some r =>
    obtain ⟨hr, h1, h2⟩ := TxR_some hb h
    have s1 := hS.1 r (TxR_true h)
    have i1 := hI.1 r h
    have hF := impl_TxFault_ev (t := r.1) (lenI_ok h1) (lenO_ok h2)
    by_cases h0 : txF r.1 = 0
    · rw [h0] at s1 hF
      refine ⟨0, r.1.f0, r.1.f1, r.1.f2, (r.2 : Int), ev_bind s1 (ev_ifn (by simp) (Ev.now _)), ev_bind i1 (ev_ifn (by simp) (ev_bind hF (ev_if rfl (ev_if ⟨by simp, by have := hb.2; omega⟩ ?_)))), h1, h2⟩
      have e : (l.length : Int) - ((l.drop r.2).length : Int) = (r.2 : Int) := by rw [List.length_drop]; omega
      show Ev (fun _ => some (0, r.1.f0, r.1.f1, r.1.f2, (l.length : Int) - ((l.drop r.2).length : Int))) _
      rw [e]
      exact Ev.now _
    · have hne : (txF r.1 != 0) = true := bne_iff_ne.2 h0
      rw [hne] at s1
      exact ⟨5, 0, [], [], 0, ev_bind s1 (ev_if rfl (Ev.now _)), ev_bind i1 (ev_ifn (by simp) (ev_bind hF (ev_ifn h0 (Ev.now _)))), hbad.1, hbad.2⟩
  | none =>
    obtain ⟨ri, hri, hri1⟩ := hI.2 h
    refine ⟨5, 0, [], [], 0, ?_, ev_bind hri (ev_if hri1 (Ev.now _)), hbad.1, hbad.2⟩
    cases h' : TxR false l 0 with
    | none =>
      obtain ⟨rs, hrs, hrs1⟩ := hS.2 h'
      exact ev_bind hrs (ev_if hrs1 (Ev.now _))
    | some r =>
      have s1 := hS.1 r h'
      have h0 : txF r.1 ≠ 0 := by
        intro h0
        have hok := txF_ok h0
        rw [TxR_lim hb h' hok.2.1 hok.2.2.1.2 (fun x hx => (hok.2.2.2.1 x hx).2.2.1) (fun x hx => (hok.2.2.2.2 x hx).2.1)] at h
        cases h
      have hne : (txF r.1 != 0) = true := bne_iff_ne.2 h0
      rw [hne] at s1
      exact ev_bind s1 (ev_if rfl (Ev.now _))
theorem szI_le (l : List S34) (h : ∀ x ∈ l, x.f2.length ≤ 65535) : szI l ≤ 65537 * l.length := by
  induction l with
  | nil => simp [szI]
  | cons x r ih =>
    have h1 := h x (by simp)
    have h2 := ih (fun y hy => h y (by simp [hy]))
    simp only [szI, List.length_cons]; omega
theorem szO_le (l : List S86) (h : ∀ x ∈ l, x.f1.length ≤ 65535) : szO l ≤ 65536 * l.length := by
  induction l with
  | nil => simp [szO]
  | cons x r ih =>
    have h1 := h x (by simp)
    have h2 := ih (fun y hy => h y (by simp [hy]))
    simp only [szO, List.length_cons]; omega
theorem laws_eqTxResult_refl (c n u : Int) {xs : List S34} {ys : List S86} (h1 : lenI xs) (h2 : lenO ys) : Ev (fun k => laws_eqTxResult.f k c n xs ys u c n xs ys u) true := by
  unfold laws_eqTxResult.f
  exact ev_if rfl (ev_bind (laws_eqTx_refl (lenI_ok h1) (lenO_ok h2)) (ev_if rfl (ev_if rfl (Ev.now _))))
theorem FnExactReadTx : laws_FnExactReadTx.Pure := by
  intro l hm hl hw
  have hb0 : ∀ x ∈ l, 0 ≤ x ∧ x ≤ 255 := fun x hx => wf8 (hw x hx)
  refine Ev.rounds (g := fun k => laws_FnExactReadTx.f k l) ?_
  unfold laws_FnExactReadTx.f
  by_cases h : (l.length : Int) > 1048576
  · exact ev_if h (Ev.now _)
  have hb : BytesL l := ⟨hb0, by omega⟩
  obtain ⟨c, n, xs, ys, u, hS, hI, h1, h2⟩ := readTx_both hb
  have hlen : l.length ≤ 140737488351232 := by omega
  have hT := laws_toByteS_ev hlen
  have hE := laws_eqTxResult_refl c n u h1 h2
  have hM := laws_markByteS_ev (l := l) (q := 1) (by omega) (by omega) hlen
  have b1 := szI_le xs h1.2
  have b2 := szO_le ys h2.2
  have b3 := h1.1
  have b4 := h2.1
  have hMT := laws_markTx_ev (a := n) (l1 := xs) (l2 := ys) (q := 1) (by omega) (by omega) (lenI_ok h1) (lenO_ok h2)
  have hHT := laws_heldTx_ev (c := c) (a := n) (u := u) (l1 := xs) (l2 := ys) (q := 1) (by omega) (by omega) (lenI_ok h1) (lenO_ok h2)
  refine ev_ifn h (ev_bind hT (ev_bind hS (ev_bind hT (ev_bind hI (ev_bind hE (ev_if rfl ?_))))))
  refine ev_bind hT (ev_bind (laws_eqByteS_refl hlen) (ev_if rfl (ev_bind hM (ev_ifn (by show ¬ (1 + (l.length : Int) < 0); omega) ?_))))
  refine ev_bind hE (ev_if rfl (ev_bind hMT (ev_bind hHT (ev_ifn (by omega) (ev_if rfl ?_)))))
  exact ev_bind hT (ev_bind hI (ev_bind hE (ev_if rfl (ev_bind hHT (ev_ifn (by omega) (ev_if rfl (Ev.now _)))))))

end Go.Proofs.Ythjlbpgiaehjnaa.Pure
