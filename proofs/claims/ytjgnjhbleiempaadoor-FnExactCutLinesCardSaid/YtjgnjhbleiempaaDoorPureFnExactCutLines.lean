/- for all texts and bytes, CutLines answers as the reference does, leaves its arguments as they were and shares no memory with them. -/
import Derived.Lib.SplitLaws
import Derived.Lib.Strings
import Derived.Lib.Bytes
import Derived.Lib.Replace
import Derived.Test.YtjgnjhbleiempaaDoorQFnExactCutLinesx1
import Derived.Test.YtjgnjhbleiempaaDoorQFnExactCutLinesx2
import Derived.Test.YtjgnjhbleiempaaDoorQFnExactCutLinesx3
import Derived.Test.YtjgnjhbleiempaaDoorQFnExactCutLinesx4
namespace Go.Proofs.YtjgnjhbleiempaaDoor.Pure
open Go.RowKit Go.Proofs.YtjgnjhbleiempaaDoor.QFnExactCutLines Go.Proofs.YtjgnjhbleiempaaDoorW.PrintWords Go.Proofs.YtjgnjhbleiempaaDoorW.PrintLast
set_option linter.unusedVariables false
set_option linter.unusedSimpArgs false

theorem wrap_id {x : Int} (h1 : -9223372036854775808 ≤ x) (h2 : x ≤ 9223372036854775807) : wrap64 x = x := by
  unfold wrap64; omega
theorem wf64 {x : Int} (h : (Lit.int .i64 x).wf = true) : -9223372036854775808 ≤ x ∧ x ≤ 9223372036854775807 := by
  simpa [Lit.wf, IntKind.min, IntKind.max, IntKind.signed, IntKind.bits] using h
theorem wf8 {x : Int} (h : (Lit.int .u8 x).wf = true) : 0 ≤ x ∧ x ≤ 255 := by
  simpa [Lit.wf, IntKind.min, IntKind.max, IntKind.signed, IntKind.bits] using h
theorem ev_some {α : Type} {g : Nat → Option α} {r : α} (h : ∀ k, g k = some r) : Ev g r := ⟨0, fun k _ => h k⟩
theorem ev_succ {α : Type} {g : Nat → Option α} {r : α} (h : ∀ k, g (k + 1) = some r) : Ev g r := Ev.step h (Ev.now r)
/-- A call whose answer is known, and what follows. -/
theorem ev_bind {α β : Type} {g : Nat → Option α} {f : α → Nat → Option β} {a : α} {r : β} (h : Ev g a) (k : Ev (f a) r) : Ev (fun n => (g n).bind fun t => f t n) r :=
  Ev.bind (f := fun n t => f t n) h k
theorem ev_if {α : Type} {p : Prop} [Decidable p] {g f : Nat → Option α} {r : α} (hp : p) (k : Ev g r) : Ev (fun n => if p then g n else f n) r :=
  Ev.congr (fun n => if_pos hp) k
theorem ev_ifn {α : Type} {p : Prop} [Decidable p] {g f : Nat → Option α} {r : α} (hp : ¬ p) (k : Ev f r) : Ev (fun n => if p then g n else f n) r :=
  Ev.congr (fun n => if_neg hp) k
theorem ev_bind0 {α β : Type} {g : Option α} {f : α → Nat → Option β} {a : α} {r : β} (h : g = some a) (k : Ev (f a) r) : Ev (fun n => g.bind fun t => f t n) r := by
  subst h; exact k
theorem rd_mid (pre : List Int) (b : Int) (suf : List Int) : rd (pre ++ b :: suf) (pre.length : Int) = b := by
  unfold rd
  simp
theorem rd_at {l : List Int} {i : Int} (h0 : 0 ≤ i) (h1 : i < l.length) : rd l i = l[i.toNat]'(by omega) := by
  unfold rd
  rw [List.getD_eq_getElem?_getD, List.getElem?_eq_getElem (by omega)]; rfl
theorem split_at_len {α : Type} (l : List α) (n : Nat) (h : n ≤ l.length) : ∃ pre suf, l = pre ++ suf ∧ pre.length = n :=
  ⟨l.take n, l.drop n, (List.take_append_drop n l).symm, by simp; omega⟩

theorem bt_list (s : ByteArray) (i : Nat) (h : i < s.data.toList.length) : bt s (i : Int) = ((s.data.toList[i]).toNat : Int) := by
  have h' : i < s.size := by rw [Array.length_toList] at h; exact h
  have := bt_at s (i : Int) (by simpa using h')
  rw [← this]
  simp only [Int.toNat_natCast]
  rfl
theorem size_list (s : ByteArray) : (s.size : Int) = (s.data.toList.length : Int) := by rw [Array.length_toList]; rfl

theorem rdS_mid (pre : List ByteArray) (b : ByteArray) (suf : List ByteArray) : rdOf ByteArray.empty (pre ++ b :: suf) (pre.length : Int) = b := by
  unfold rdOf
  simp

/-- The pieces of a list between its 10s. -/
def spl : List UInt8 → List (List UInt8)
  | [] => [[]]
  | c :: r => if c = 10 then [] :: spl r else match spl r with
    | [] => [[c]]
    | p :: q => (c :: p) :: q
theorem spl_ne (l : List UInt8) : spl l ≠ [] := by
  cases l with
  | nil => simp [spl]
  | cons c r =>
    unfold spl
    by_cases h : c = 10
    · rw [if_pos h]; simp
    · rw [if_neg h]; cases spl r <;> simp
theorem splitK_spl : ∀ (l : List UInt8), Lib.splitK [10] 0 (Lib.count l [10]) l = spl l
  | [] => by rw [Lib.count_miss (by simp [Lib.index])]; rfl
  | c :: r => by
    have ih := splitK_spl r
    by_cases h : c = 10
    · subst h
      have hix : Lib.index ((10 : UInt8) :: r) [10] = 0 := by rw [Lib.index]; simp [List.isPrefixOf]
      rw [Lib.count_cons_eq, Nat.add_comm 1, Lib.splitK, hix, if_neg (by decide), spl, if_pos rfl]
      simpa using ih
    · have hp : ([10] : List UInt8).isPrefixOf (c :: r) = false := by simp [List.isPrefixOf, Ne.symm h]
      have hix : Lib.index (c :: r) [10] = if Lib.index r [10] == -1 then -1 else Lib.index r [10] + 1 := by rw [Lib.index, hp]; simp
      rw [Lib.count_cons_ne c 10 r h, spl, if_neg h, ← ih]
      cases hn : Lib.count r [10] with
      | zero => rfl
      | succ k =>
        obtain ⟨j, hj⟩ := Lib.index_of_count (s := r) (old := [10]) (by omega)
        rw [hj, if_neg (by intro e; have := beq_iff_eq.1 e; omega)] at hix
        rw [Lib.splitK, hix, if_neg (by intro e; have := beq_iff_eq.1 e; omega), Lib.splitK, hj, if_neg (by intro e; have := beq_iff_eq.1 e; omega)]
        have e1 : ((j : Int) + 1).toNat = j + 1 := by omega
        rw [e1, Int.toNat_natCast]
        simp
/-- The pieces, where some bytes stand ahead of the first one. -/
def splA (acc r : List UInt8) : List (List UInt8) := match spl r with
  | [] => [acc]
  | p :: q => (acc ++ p) :: q
theorem splA_nil (r : List UInt8) : splA [] r = spl r := by
  unfold splA
  cases h : spl r with
  | nil => exact absurd h (spl_ne r)
  | cons p q => rfl
theorem splA_ten (acc r : List UInt8) : splA acc (10 :: r) = acc :: splA [] r := by
  rw [splA_nil]
  unfold splA
  rw [spl, if_pos rfl]
  simp
theorem splA_other (acc r : List UInt8) (c : UInt8) (h : c ≠ 10) : splA acc (c :: r) = splA (acc ++ [c]) r := by
  unfold splA
  rw [spl, if_neg h]
  cases hs : spl r with
  | nil => exact absurd hs (spl_ne r)
  | cons p q => simp
theorem splA_end (acc : List UInt8) : splA acc [] = [acc] := by simp [splA, spl]
theorem extract_list (s : ByteArray) (a b : Nat) : (s.extract a b).data.toList = (s.data.toList.drop a).take (b - a) := by
  rw [← ByteArray.toList_eq]; exact Lib.extract_toList s a b
theorem bytes_inj {a b : ByteArray} (h : a.data.toList = b.data.toList) : a = b := by
  cases a; cases b; simp only [ByteArray.mk.injEq]; exact Array.toList_inj.1 h
theorem list_inj : ∀ {a b : List ByteArray}, a.map (·.data.toList) = b.map (·.data.toList) → a = b
  | [], [], _ => rfl
  | [], _ :: _, h => by simp at h
  | _ :: _, [], h => by simp at h
  | x :: a, y :: b, h => by
    simp only [List.map_cons, List.cons.injEq] at h
    rw [bytes_inj h.1, list_inj h.2]
/-- The pieces of a text between its newlines. -/
def pieces (s : ByteArray) : List ByteArray := Lib.splitB ⟨#[10]⟩ 0 (Lib.countB s ⟨#[10]⟩) s
theorem pieces_data (s : ByteArray) : (pieces s).map (·.data.toList) = spl s.data.toList := by
  unfold pieces
  rw [Lib.splitB_data]
  exact splitK_spl s.data.toList
theorem pieces_len (s : ByteArray) : (pieces s).length ≤ s.size + 1 ∧ 1 ≤ (pieces s).length := by
  have h1 := Lib.splitB_all ⟨#[10]⟩ (by decide) 0 _ s rfl
  have h2 := Lib.countB_le ⟨#[10]⟩ (by decide) s.size s (Nat.le_refl _)
  unfold pieces
  omega

theorem spec_l8Cut_l0 (s : ByteArray) (hs : s.size ≤ 1048576) : ∀ (m i a : Nat) (out : List ByteArray), s.data.toList.length - i = m → a ≤ i → i ≤ s.data.toList.length → out.length ≤ i →
    ∃ r, Ev (fun k => spec_l8Cut.l0 k s 10 out (a : Int) (i : Int)) r ∧ r.map (·.data.toList) = out.map (·.data.toList) ++ splA ((s.data.toList.drop a).take (i - a)) (s.data.toList.drop i) := by
  have el := size_list s
  intro m
  induction m with
  | zero =>
    intro i a out hm ha hi ho
    have e : s.data.toList.length = i := by omega
    have hd : s.data.toList.drop i = [] := List.drop_eq_nil_of_le (by omega)
    refine ⟨out ++ [s.extract a i], Ev.step (f := fun k => spec_l8Cut.l0 k s 10 (out ++ [s.extract a i]) (wrap64 ((i : Int) + 1)) (wrap64 ((i : Int) + 1))) (fun k => ?_) (ev_succ (fun k => ?_)), ?_⟩
    · rw [spec_l8Cut.l0, if_pos (by rw [el]; omega), if_pos (by rw [el]; omega), if_pos (by omega), if_pos (by omega), if_pos (by omega)]
      simp only [Int.toNat_natCast]
    · rw [spec_l8Cut.l0, wrap_id (by omega) (by omega), if_neg (by rw [el]; omega)]
    · rw [hd, splA_end]; simp [extract_list]
  | succ m ih =>
    intro i a out hm ha hi ho
    have hlt : i < s.data.toList.length := by omega
    have hd : s.data.toList.drop i = s.data.toList[i] :: s.data.toList.drop (i + 1) := List.drop_eq_getElem_cons hlt
    have hb := bt_list s i hlt
    have hw : wrap64 ((i : Int) + 1) = ((i + 1 : Nat) : Int) := wrap_id (by omega) (by omega)
    by_cases hc : s.data.toList[i] = 10
    · obtain ⟨r, hr, hm'⟩ := ih (i + 1) (i + 1) (out ++ [s.extract a i]) (by omega) (Nat.le_refl _) (by omega) (by simp; omega)
      refine ⟨r, Ev.step (fun k => ?_) hr, ?_⟩
      · rw [spec_l8Cut.l0, if_pos (by rw [el]; omega), if_neg (by rw [el]; omega), if_pos (by omega), if_pos (by rw [el]; omega), hb, hc, if_pos (by decide), if_pos (by omega), if_pos (by omega), if_pos (by omega), hw]
        simp only [Int.toNat_natCast]
      · rw [hm', hd, hc, splA_ten]; simp [extract_list]
    · obtain ⟨r, hr, hm'⟩ := ih (i + 1) a out (by omega) (by omega) (by omega) (by omega)
      refine ⟨r, Ev.step (fun k => ?_) hr, ?_⟩
      · have hne : ¬ ((s.data.toList[i]).toNat : Int) = 10 := fun e => hc (by
          have e' : (s.data.toList[i]).toNat = (10 : UInt8).toNat := by simpa using (by exact_mod_cast e)
          exact UInt8.toNat_inj.1 e')
        rw [spec_l8Cut.l0, if_pos (by rw [el]; omega), if_neg (by rw [el]; omega), if_pos (by omega), if_pos (by rw [el]; omega), hb, if_neg hne, hw]
      · rw [hm', hd, splA_other _ _ _ hc]
        have e : (s.data.toList.drop a).take (i + 1 - a) = (s.data.toList.drop a).take (i - a) ++ [s.data.toList[i]] := by
          rw [show i + 1 - a = (i - a) + 1 by omega, List.take_add_one, List.getElem?_drop, show a + (i - a) = i by omega, List.getElem?_eq_getElem hlt]
          rfl
        rw [e]
theorem spec_l8Cut_ev {s : ByteArray} (hs : s.size ≤ 1048576) : Ev (fun k => spec_l8Cut.f k s 10) (pieces s) := by
  obtain ⟨r, hr, hm⟩ := spec_l8Cut_l0 s hs s.data.toList.length 0 0 [] (by omega) (by omega) (by omega) (by simp)
  have e : r = pieces s := by
    apply list_inj
    rw [hm, pieces_data]
    simp [splA_nil]
  rw [← e]
  exact hr

def fitLine (p : ByteArray) : ByteArray := if (p.size : Int) > 160 then ⟨#[]⟩ else p
/-- What lies behind the last newline, cut to a length. -/
def lastOf (P : List ByteArray) : ByteArray := rdOf ByteArray.empty P ((P.length : Int) - 1)
def restOf (z : ByteArray) : ByteArray := z.extract 0 (mn (z.size : Int) 161).toNat
theorem nums_size (l : List Int) : (strOfNums l).size = l.length := by
  have h := Lib.strOfNums_toList l
  have e : (strOfNums l).size = (strOfNums l).toList.length := by rw [ByteArray.toList_eq, Array.length_toList]; rfl
  rw [e, h, Lib.bytesOf, List.length_map]
theorem mn_le (a b : Int) : mn a b ≤ a := by unfold mn; by_cases h : b < a <;> simp [h] <;> omega
theorem mn_ge {a b : Int} (h0 : 0 ≤ a) (h1 : 0 ≤ b) : 0 ≤ mn a b := by unfold mn; by_cases h : b < a <;> simp [h] <;> omega
theorem spec_l1Min_eq (a : Int) : spec_l1Min.f a 161 = some (mn a 161) := by
  unfold spec_l1Min.f mn
  by_cases h : a < 161
  · rw [if_pos h, if_neg (by omega)]
  · rw [if_neg h]
    by_cases h' : (161 : Int) < a
    · rw [if_pos h']
    · rw [if_neg h', show a = 161 by omega]
theorem spec_CutLines_l0 (z : ByteArray) (suf : List ByteArray) : ∀ (pre out : List ByteArray) (rest : ByteArray), out.length = pre.length → (pre.length : Int) + suf.length ≤ 2000000 →
    Ev (fun k => spec_CutLines.l0 k (pre ++ suf ++ [z]) ((pre.length : Int) + suf.length) pre.length 0 out rest) (0, out ++ suf.map fitLine, rest) := by
  induction suf with
  | nil => intro pre out rest ho hl; exact ev_succ (fun k => by rw [spec_CutLines.l0, if_neg (by simp)]; simp)
  | cons b suf ih =>
    intro pre out rest ho hl
    simp only [List.length_cons, Int.natCast_add, Int.natCast_one] at hl ⊢
    have h := ih (pre ++ [b]) (out ++ [fitLine b]) rest (by simp; omega) (by simp; omega)
    have h' : Ev (fun k => spec_CutLines.l0 k (pre ++ b :: suf ++ [z]) ((pre.length : Int) + ((suf.length : Int) + 1)) ((pre.length : Int) + 1) 0 (out ++ [fitLine b]) rest) (0, out ++ (b :: suf).map fitLine, rest) := by
      have e : ((pre ++ [b]).length : Int) = (pre.length : Int) + 1 := by simp
      rw [e, show (pre.length : Int) + 1 + (suf.length : Int) = (pre.length : Int) + ((suf.length : Int) + 1) by omega] at h
      simpa using h
    have hrd : rdOf ByteArray.empty (pre ++ b :: suf ++ [z]) (pre.length : Int) = b := by rw [List.append_assoc]; exact rdS_mid pre b (suf ++ [z])
    refine Ev.step (fun k => ?_) h'
    rw [spec_CutLines.l0, if_pos (by omega), if_pos (by omega), if_pos (by simp; omega), hrd, wrap_id (by omega) (by omega)]
    unfold fitLine
    by_cases hb : (b.size : Int) > 160
    · rw [if_pos hb, if_pos (by omega), if_pos hb]
    · rw [if_neg hb, if_pos (by omega), if_neg hb]
theorem impl_cutLines_l0 (P : List ByteArray) (r : List ByteArray → ByteArray) (suf : List ByteArray)
    (hend : ∀ k out x16 x17 x18, ¬ x18 < x17 → impl_cutLines.l0 (k + 1) P out x16 x17 x18 = some (out, restOf (lastOf P))) : ∀ (pre out : List ByteArray), out.length = pre.length → (pre.length : Int) + suf.length ≤ 2000000 →
    Ev (fun k => impl_cutLines.l0 k P out (pre ++ suf) ((pre.length : Int) + suf.length) pre.length) (out ++ suf.map fitLine, restOf (lastOf P)) := by
  induction suf with
  | nil => intro pre out ho hl; exact ev_succ (fun k => by rw [hend k _ _ _ _ (by simp)]; simp)
  | cons b suf ih =>
    intro pre out ho hl
    simp only [List.length_cons, Int.natCast_add, Int.natCast_one] at hl ⊢
    have h := ih (pre ++ [b]) (out ++ [fitLine b]) (by simp; omega) (by simp; omega)
    have h' : Ev (fun k => impl_cutLines.l0 k P (out ++ [fitLine b]) (pre ++ b :: suf) ((pre.length : Int) + ((suf.length : Int) + 1)) ((pre.length : Int) + 1)) (out ++ (b :: suf).map fitLine, restOf (lastOf P)) := by
      have e : ((pre ++ [b]).length : Int) = (pre.length : Int) + 1 := by simp
      rw [e, show (pre.length : Int) + 1 + (suf.length : Int) = (pre.length : Int) + ((suf.length : Int) + 1) by omega] at h
      simpa using h
    refine Ev.step (fun k => ?_) h'
    rw [impl_cutLines.l0, if_pos (by omega), if_pos (by omega), if_pos (by simp; omega), rdS_mid, wrap_id (x := (pre.length : Int) + 1) (by omega) (by omega)]
    unfold fitLine
    by_cases hb : (b.size : Int) > 160
    · rw [if_pos hb, if_pos (by omega), if_pos hb]
    · rw [if_neg hb, if_pos (by omega), if_neg hb]
theorem snoc_of {P : List ByteArray} (h : 1 ≤ P.length) : ∃ Q z, P = Q ++ [z] ∧ lastOf P = z := by
  have hne : P ≠ [] := by intro e; rw [e] at h; simp at h
  refine ⟨P.dropLast, P.getLast hne, (List.dropLast_concat_getLast hne).symm, ?_⟩
  unfold lastOf
  have hl : ((P.length : Int) - 1) = (P.dropLast.length : Int) := by rw [List.length_dropLast]; omega
  rw [hl]
  have t := rdS_mid P.dropLast (P.getLast hne) []
  rw [List.dropLast_concat_getLast hne] at t
  exact t
/-- What CutLines answers. -/
def cutF (s : ByteArray) (l : List Int) : Int × List ByteArray × ByteArray :=
  if (s.size : Int) > 161 ∨ (l.length : Int) > 1000 then (2, [], ⟨#[]⟩) else (0, (pieces (s ++ strOfNums l)).dropLast.map fitLine, restOf (lastOf (pieces (s ++ strOfNums l))))
theorem spec_CutLines_ev (s : ByteArray) (l : List Int) (hl : l.length ≤ 1048576) : Ev (fun k => spec_CutLines.f k s l) (cutF s l) := by
  have hT : Ev (fun k => spec_CutLines.j0 k s l true) (2, [], ⟨#[]⟩) := ev_succ (fun k => by rw [spec_CutLines.j0, if_pos rfl])
  unfold spec_CutLines.f cutF
  by_cases h1 : (s.size : Int) > 161
  · rw [if_pos (Or.inl h1)]; exact ev_if h1 hT
  · refine ev_ifn h1 ?_
    by_cases h2 : (l.length : Int) > 1000
    · rw [if_pos (Or.inr h2), decide_eq_true h2]; exact hT
    · rw [if_neg (fun h => h.elim h1 h2), decide_eq_false h2]
      have hn := nums_size l
      have hsz : (s ++ strOfNums l).size ≤ 1048576 := by rw [ByteArray.size_append, hn]; omega
      obtain ⟨p1, p2⟩ := pieces_len (s ++ strOfNums l)
      have hc := spec_l8Cut_ev hsz
      generalize pieces (s ++ strOfNums l) = P at hc p1 p2 ⊢
      obtain ⟨Q, z, rfl, hz⟩ := snoc_of p2
      have hw : wrap64 (((Q ++ [z]).length : Int) - 1) = (Q.length : Int) := by simp only [List.length_append, List.length_cons, List.length_nil] at p1 ⊢; unfold wrap64; omega
      have hlst : rdOf ByteArray.empty (Q ++ [z]) (Q.length : Int) = z := rdS_mid Q z []
      have hL := spec_CutLines_l0 z Q [] [] (restOf z) rfl (by simp only [List.length_append, List.length_cons, List.length_nil] at p1 ⊢; omega)
      rw [hz]
      refine Ev.step (f := fun k => (spec_l8Cut.f k (s ++ strOfNums l) 10).bind fun t => if 0 ≤ (wrap64 ((t.length : Int) - 1)) then (if (wrap64 ((t.length : Int) - 1)) < (t.length : Int) then ((spec_l1Min.f ((rdOf ByteArray.empty t (wrap64 ((t.length : Int) - 1))).size : Int) 161).bind fun t116 => (if 0 ≤ t116 then (if t116 ≤ ((rdOf ByteArray.empty t (wrap64 ((t.length : Int) - 1))).size : Int) then (spec_CutLines.l0 k t (wrap64 ((t.length : Int) - 1)) 0 0 ([] : List ByteArray) ((rdOf ByteArray.empty t (wrap64 ((t.length : Int) - 1))).extract 0 (t116 : Int).toNat)) else (none)) else (none))) else (none)) else (none)) (fun k => ?_) (ev_bind hc ?_)
      · rw [spec_CutLines.j0, if_neg (by decide), if_pos (by rw [hn]; omega)]
      · rw [hw, hlst]
        refine ev_if (by omega) (ev_if (by simp; omega) (ev_bind0 (spec_l1Min_eq _) (ev_if (mn_ge (by omega) (by omega)) (ev_if (mn_le _ _) ?_))))
        simpa [restOf] using hL
theorem impl_CutLines_ev (s : ByteArray) (l : List Int) (hl : l.length ≤ 1048576) : Ev (fun k => impl_CutLines.f k s l) (cutF s l) := by
  unfold impl_CutLines.f cutF
  by_cases h1 : (s.size : Int) > 161
  · rw [if_pos (Or.inl h1)]; exact ev_if h1 (Ev.now _)
  · refine ev_ifn h1 ?_
    by_cases h2 : (l.length : Int) > 1000
    · rw [if_pos (Or.inr h2)]; exact ev_if h2 (Ev.now _)
    · rw [if_neg (fun h => h.elim h1 h2)]
      have hn := nums_size l
      have hsz : (s ++ strOfNums l).size ≤ 1048576 := by rw [ByteArray.size_append, hn]; omega
      refine ev_ifn h2 (ev_if (by rw [hn]; omega) ?_)
      obtain ⟨p1, p2⟩ := pieces_len (s ++ strOfNums l)
      have hc : strings_Split.f (s ++ strOfNums l) (⟨#[10]⟩ : ByteArray) = some (pieces (s ++ strOfNums l)) := by
        unfold strings_Split.f
        rw [if_pos ⟨by decide, by omega⟩]; rfl
      refine ev_bind (a := ((pieces (s ++ strOfNums l)).dropLast.map fitLine, restOf (lastOf (pieces (s ++ strOfNums l))))) ?_ (Ev.now _)
      unfold impl_cutLines.f
      refine ev_bind0 hc ?_
      generalize pieces (s ++ strOfNums l) = P at p1 p2 ⊢
      obtain ⟨Q, z, rfl, hz⟩ := snoc_of p2
      have hw : wrap64 (((Q ++ [z]).length : Int) - 1) = (Q.length : Int) := by simp only [List.length_append, List.length_cons, List.length_nil] at p1 ⊢; unfold wrap64; omega
      have hlst : rdOf ByteArray.empty (Q ++ [z]) (Q.length : Int) = z := rdS_mid Q z []
      have hend : ∀ k out x16 x17 x18, ¬ x18 < x17 → impl_cutLines.l0 (k + 1) (Q ++ [z]) out x16 x17 x18 = some (out, restOf (lastOf (Q ++ [z]))) := by
        intro k out x16 x17 x18 hx
        rw [impl_cutLines.l0, if_neg hx, hw, hlst, hz, if_pos (by omega), if_pos (by simp; omega), if_pos (mn_ge (by omega) (by omega)), if_pos (mn_le _ _)]
        rfl
      have hL := impl_cutLines_l0 (Q ++ [z]) (fun _ => z) Q hend [] [] rfl (by simp only [List.length_append, List.length_cons, List.length_nil] at p1 ⊢; omega)
      rw [hw]
      refine ev_if (by omega) (ev_if (by simp; omega) (ev_bind0 (a := Q) (by simp) ?_))
      simpa using hL

theorem one_size (x : Int) : (strOfNums [x]).size = 1 := by
  have h := Lib.strOfNums_toList [x]
  have e : (strOfNums [x]).size = (strOfNums [x]).toList.length := by rw [ByteArray.toList_eq, Array.length_toList]; rfl
  rw [e, h, Lib.bytesOf, List.length_map]; rfl
theorem laws_markText_l0 : ∀ (m : Nat) (x : Nat) (y : ByteArray), x < 10 ^ m → x ≤ 1000000000000000000 → y.size + m ≤ 1000 → ∃ t, Ev (fun k => laws_markText.l0 k (x : Int) y) t := by
  intro m
  induction m with
  | zero =>
    intro x y hx hx18 hy
    obtain rfl : x = 0 := by simpa using hx
    exact ⟨_, ev_succ (fun k => by rw [laws_markText.l0, if_neg (by decide), if_pos (by omega)])⟩
  | succ m ih =>
    intro x y hx hx18 hy
    by_cases h0 : x = 0
    · subst h0
      exact ⟨_, ev_succ (fun k => by rw [laws_markText.l0, if_neg (by decide), if_pos (by omega)])⟩
    · have hd : x / 10 < 10 ^ m := by rw [Nat.pow_succ] at hx; generalize 10 ^ m = p at hx ⊢; omega
      obtain ⟨t, ht⟩ := ih (x / 10) (strOfNums [(wrap64 (48 + (Int.tmod (x : Int) 10))) % 256] ++ y) hd (by omega) (by rw [ByteArray.size_append, one_size]; omega)
      refine ⟨t, Ev.step (fun k => ?_) ht⟩
      have e : wrap64 (Int.tdiv (x : Int) 10) = ((x / 10 : Nat) : Int) := by
        rw [show Int.tdiv (x : Int) 10 = ((x / 10 : Nat) : Int) from rfl]
        exact wrap_id (by omega) (by omega)
      rw [laws_markText.l0, if_pos (by omega)]
      simp only [Option.bind_some]
      rw [if_pos (by rw [one_size]; omega), e]
theorem laws_markText_ev (n : Nat) (h : n < 10 ^ 18) (h18 : n ≤ 1000000000000000000) : ∃ t, Ev (fun k => laws_markText.f k (n : Int)) t := by
  unfold laws_markText.f
  by_cases h0 : (n : Int) ≤ 0
  · exact ⟨_, ev_if h0 (Ev.now _)⟩
  · obtain ⟨t, ht⟩ := laws_markText_l0 18 n ⟨#[]⟩ h h18 (by decide)
    exact ⟨t, ev_ifn h0 ht⟩
/-- Rows of texts are marked, and the marks are found again. -/
theorem laws_markStringS_l0 (suf : List ByteArray) : ∀ (pre : List ByteArray) (n : Nat), (pre.length : Int) + suf.length ≤ 2000000 → n + suf.length ≤ 4000000 →
    ∃ out : List ByteArray, out.length = suf.length ∧ Ev (fun k => laws_markStringS.l0 k (pre ++ suf) (n : Int) pre.length) ((n : Int) + suf.length, pre ++ out) ∧
      ∀ pre' : List ByteArray, pre'.length = pre.length → Ev (fun k => laws_heldStringS.l0 k (pre' ++ out) (n : Int) pre'.length) ((n : Int) + suf.length) := by
  induction suf with
  | nil => intro pre n hl hn; exact ⟨[], rfl, ev_succ (fun k => by rw [laws_markStringS.l0, if_neg (by simp)]; simp), fun pre' hp => ev_succ (fun k => by rw [laws_heldStringS.l0, if_neg (by simp)]; simp)⟩
  | cons b suf ih =>
    intro pre n hl hn
    simp only [List.length_cons, Int.natCast_add, Int.natCast_one] at hl hn ⊢
    obtain ⟨t, ht⟩ := laws_markText_ev n (Nat.lt_of_le_of_lt (m := 4000000) (by omega) (by decide)) (by omega)
    obtain ⟨out, h1, h2, h3⟩ := ih (pre ++ [t]) (n + 1) (by simp; omega) (by omega)
    have hw1 : wrap64 ((n : Int) + 1) = ((n + 1 : Nat) : Int) := wrap_id (by omega) (by omega)
    refine ⟨t :: out, by simp [h1], ?_, fun pre' hp => ?_⟩
    · refine Ev.step (f := fun k => (laws_markText.f k (n : Int)).bind fun t166 => if 0 ≤ (pre.length : Int) then laws_markStringS.l0 k ((pre ++ b :: suf).set ((pre.length : Int)).toNat t166) (wrap64 ((n : Int) + 1)) (wrap64 ((pre.length : Int) + 1)) else none) (fun k => ?_) (ev_bind ht (ev_if (by omega) ?_))
      · rw [laws_markStringS.l0, if_pos (by simp; omega)]
      · have e : (pre ++ b :: suf).set ((pre.length : Int)).toNat t = (pre ++ [t]) ++ suf := by simp
        rw [e, hw1, wrap_id (x := (pre.length : Int) + 1) (by omega) (by omega)]
        have e2 : (((pre ++ [t]).length : Nat) : Int) = (pre.length : Int) + 1 := by simp
        rw [e2] at h2
        have e3 : ((n : Int) + ((suf.length : Int) + 1), pre ++ t :: out) = (((n + 1 : Nat) : Int) + (suf.length : Int), (pre ++ [t]) ++ out) := by simp; omega
        rw [e3]; exact h2
    · have h3' := h3 (pre' ++ [t]) (by simp [hp])
      refine Ev.step (f := fun k => (laws_markText.f k (n : Int)).bind fun t172 => if t.toList = t172.toList then laws_heldStringS.l0 k (pre' ++ t :: out) (wrap64 ((n : Int) + 1)) (wrap64 ((pre'.length : Int) + 1)) else some (-1)) (fun k => ?_) (ev_bind ht (ev_if rfl ?_))
      · rw [laws_heldStringS.l0, if_pos (by simp; omega), if_pos (by omega), rdS_mid]
      · have e2 : (((pre' ++ [t]).length : Nat) : Int) = (pre'.length : Int) + 1 := by simp
        rw [e2] at h3'
        rw [hw1, wrap_id (x := (pre'.length : Int) + 1) (by omega) (by omega)]
        have e3 : (n : Int) + ((suf.length : Int) + 1) = ((n + 1 : Nat) : Int) + (suf.length : Int) := by omega
        rw [e3]; simpa using h3'
theorem laws_markStringS_ev (l : List ByteArray) (hl : l.length ≤ 2000000) : ∃ out, Ev (fun k => laws_markStringS.f k l 1) (1 + (l.length : Int), out) ∧ Ev (fun k => laws_heldStringS.f k out 1) (1 + (l.length : Int)) := by
  obtain ⟨out, _, h2, h3⟩ := laws_markStringS_l0 l [] 1 (by simp; omega) (by omega)
  have h3' := h3 [] rfl
  exact ⟨out, by simpa [laws_markStringS.f] using h2, by simpa [laws_heldStringS.f] using h3'⟩

theorem laws_eqStringS_l0 (suf : List ByteArray) : ∀ (pre : List ByteArray), (pre.length : Int) + suf.length ≤ 9223372036854775806 →
    Ev (fun k => laws_eqStringS.l0 k (pre ++ suf) (pre ++ suf) pre.length) true := by
  induction suf with
  | nil => intro pre _; exact ev_succ (fun k => by simp [laws_eqStringS.l0])
  | cons b suf ih =>
    intro pre hl
    simp only [List.length_cons, Int.natCast_add, Int.natCast_one] at hl
    have h := ih (pre ++ [b]) (by simp; omega)
    refine Ev.step (fun k => ?_) (by simpa using h)
    rw [laws_eqStringS.l0]
    rw [if_pos (by simp; omega), if_pos (by omega), if_pos (by simp; omega), if_pos rfl, wrap_id (by omega) (by omega)]
theorem laws_eqStringS_refl {l : List ByteArray} (hl : l.length ≤ 1048576) : Ev (fun k => laws_eqStringS.f k l l) true := by
  unfold laws_eqStringS.f
  exact ev_if rfl (laws_eqStringS_l0 l [] (by simp; omega))

theorem laws_toByteS_l0 (suf : List Int) : ∀ (pre : List Int) (z : List Int), z.length = suf.length → (pre.length : Int) + suf.length ≤ 9223372036854775806 →
    Ev (fun k => laws_toByteS.l0 k (pre ++ suf) (pre ++ z) pre.length) (pre ++ suf) := by
  induction suf with
  | nil => intro pre z hz _; obtain rfl : z = [] := List.eq_nil_of_length_eq_zero (by simpa using hz); exact ev_succ (fun k => by simp [laws_toByteS.l0])
  | cons b suf ih =>
    intro pre z hz hl
    obtain ⟨c, z, rfl⟩ : ∃ c z', z = c :: z' := by cases z with | nil => simp at hz | cons c z => exact ⟨c, z, rfl⟩
    simp only [List.length_cons, Int.natCast_add, Int.natCast_one] at hl hz
    have h := ih (pre ++ [b]) z (by omega) (by simp; omega)
    refine Ev.step (fun k => ?_) (by simpa using h)
    rw [laws_toByteS.l0]
    rw [if_pos (by simp; omega), if_pos (by omega), if_pos (by simp; omega), rd_mid, wrap_id (by omega) (by omega)]
    simp
theorem laws_toByteS_ev {l : List Int} (hl : l.length ≤ 140737488351232) : Ev (fun k => laws_toByteS.f k l) l := by
  have h := laws_toByteS_l0 l [] (List.replicate l.length 0) (by simp) (by simp; omega)
  unfold laws_toByteS.f
  refine ev_if (by omega) (ev_if (by simp; omega) ?_)
  simpa using h

theorem laws_eqByteS_l0 (suf : List Int) : ∀ (pre : List Int), (pre.length : Int) + suf.length ≤ 9223372036854775806 →
    Ev (fun k => laws_eqByteS.l0 k (pre ++ suf) (pre ++ suf) pre.length) true := by
  induction suf with
  | nil => intro pre _; exact ev_succ (fun k => by simp [laws_eqByteS.l0])
  | cons b suf ih =>
    intro pre hl
    simp only [List.length_cons, Int.natCast_add, Int.natCast_one] at hl
    have h := ih (pre ++ [b]) (by simp; omega)
    refine Ev.step (fun k => ?_) (by simpa using h)
    rw [laws_eqByteS.l0]
    rw [if_pos (by simp; omega), if_pos (by omega), if_pos (by simp; omega), if_pos rfl, wrap_id (by omega) (by omega)]
theorem laws_eqByteS_refl {l : List Int} (hl : l.length ≤ 140737488351232) : Ev (fun k => laws_eqByteS.f k l l) true := by
  unfold laws_eqByteS.f
  exact ev_if rfl (laws_eqByteS_l0 l [] (by simp; omega))

/-- The marks of bytes from k on. -/
def marks8 (k : Int) : Nat → List Int
  | 0 => []
  | n + 1 => (k % 256) :: marks8 (k + 1) n
theorem marks8_length (k : Int) (n : Nat) : (marks8 k n).length = n := by
  induction n generalizing k with
  | zero => rfl
  | succ n ih => simp [marks8, ih]
theorem laws_markByteS_l0 (suf : List Int) : ∀ (pre : List Int) (q : Int), 0 ≤ q → q + suf.length ≤ 9223372036854775806 → (pre.length : Int) + suf.length ≤ 9223372036854775806 →
    Ev (fun k => laws_markByteS.l0 k (pre ++ suf) q pre.length) (q + suf.length, pre ++ marks8 q suf.length) := by
  induction suf with
  | nil => intro pre q _ _ _; exact ev_succ (fun k => by simp [laws_markByteS.l0, marks8])
  | cons b suf ih =>
    intro pre q h0 hq hl
    simp only [List.length_cons, Int.natCast_add, Int.natCast_one] at hl hq
    have h := ih (pre ++ [q % 256]) (q + 1) (by omega) (by omega) (by simp; omega)
    refine Ev.step (f := fun k => laws_markByteS.l0 k (pre ++ [q % 256] ++ suf) (q + 1) ((pre ++ [q % 256]).length : Int)) (fun k => ?_) ?_
    · rw [laws_markByteS.l0]
      rw [if_pos (by simp; omega), if_pos (by omega), wrap_id (x := q + 1) (by omega) (by omega), wrap_id (by omega) (by omega)]
      simp
    · have e : ((q + ((b :: suf).length : Int), pre ++ marks8 q (b :: suf).length) : Int × List Int) = (q + 1 + (suf.length : Int), pre ++ [q % 256] ++ marks8 (q + 1) suf.length) := by
        simp [marks8]; omega
      rw [e]; exact h
theorem laws_markByteS_ev {l : List Int} {q : Int} (h0 : 0 ≤ q) (hq : q ≤ 4611686018427387904) (hl : l.length ≤ 140737488351232) : Ev (fun k => laws_markByteS.f k l q) (q + l.length, marks8 q l.length) := by
  have h := laws_markByteS_l0 l [] q h0 (by omega) (by simp; omega)
  unfold laws_markByteS.f
  simpa using h

theorem laws_eqLinesResult_refl (a : Int) (l : List ByteArray) (z : ByteArray) (hl : l.length ≤ 1048576) : Ev (fun k => laws_eqLinesResult.f k a l z a l z) true := by
  unfold laws_eqLinesResult.f
  exact ev_if rfl (ev_bind (laws_eqStringS_refl hl) (ev_if rfl (ev_if rfl (Ev.now _))))
theorem cutF_len (s : ByteArray) (l : List Int) : (cutF s l).2.1.length ≤ 1048576 := by
  unfold cutF
  by_cases h : (s.size : Int) > 161 ∨ (l.length : Int) > 1000
  · rw [if_pos h]; simp
  · rw [if_neg h]
    obtain ⟨p1, p2⟩ := pieces_len (s ++ strOfNums l)
    rw [ByteArray.size_append, nums_size] at p1
    simp only [List.length_map, List.length_dropLast]
    omega
theorem FnExactCutLines : laws_FnExactCutLines.Pure := by
  intro s l _ hm hl _
  refine Ev.rounds (g := fun k => laws_FnExactCutLines.f k s l) ?_
  unfold laws_FnExactCutLines.f
  by_cases h1 : (s.size : Int) > 1048576
  · exact ev_if h1 (Ev.now _)
  refine ev_ifn h1 ?_
  by_cases h2 : (l.length : Int) > 1048576
  · exact ev_if h2 (Ev.now _)
  refine ev_ifn h2 ?_
  have hl' : l.length ≤ 140737488351232 := by omega
  have hT := laws_toByteS_ev hl'
  have hS := spec_CutLines_ev s l (by omega)
  have hI := impl_CutLines_ev s l (by omega)
  have hn := cutF_len s l
  generalize cutF s l = r at hS hI hn
  obtain ⟨c, L, z⟩ := r
  dsimp only at hn
  have hE := laws_eqLinesResult_refl c L z hn
  obtain ⟨out, hK, hH⟩ := laws_markStringS_ev L (by omega)
  have hML : Ev (fun k => laws_markLinesResult.f k c L z 1) (1 + (L.length : Int), out) := by
    unfold laws_markLinesResult.f; exact ev_bind hK (Ev.now _)
  have hHL : Ev (fun k => laws_heldLinesResult.f k c out z 1) (1 + (L.length : Int)) := by
    unfold laws_heldLinesResult.f; exact ev_bind hH (ev_ifn (by omega) (Ev.now _))
  refine ev_bind hT (ev_bind hS (ev_bind hT (ev_bind hI (ev_bind hE (ev_if rfl (ev_bind hT (ev_bind (laws_eqByteS_refl hl') (ev_if rfl ?_))))))))
  refine ev_bind (laws_markByteS_ev (by omega) (by omega) hl') (ev_ifn (by omega) (ev_bind hE ?_))
  refine Ev.step (f := fun k => (laws_markLinesResult.f k c L z 1).bind fun bt201 => ((laws_heldLinesResult.f k c bt201.2 z 1).bind fun t203 => (if t203 < 0 then (none) else (if t203 = bt201.1 then ((laws_toByteS.f k l).bind fun t204 => ((impl_CutLines.f k s t204).bind fun bt207 => ((laws_eqLinesResult.f k bt207.1 bt207.2.1 bt207.2.2 c L z).bind fun t213 => (if t213 = true then ((laws_heldLinesResult.f k c bt201.2 z 1).bind fun t214 => (if t214 < 0 then (none) else (if t214 = bt201.1 then (some true) else (none)))) else (none))))) else (none))))) (fun k => by rw [laws_FnExactCutLines.j0, if_neg (by decide)]) ?_
  refine ev_bind hML (ev_bind hHL (ev_ifn (by omega) (ev_if rfl ?_)))
  refine ev_bind hT (ev_bind hI (ev_bind hE (ev_if rfl ?_)))
  exact ev_bind hHL (ev_ifn (by omega) (ev_if rfl (Ev.now _)))

end Go.Proofs.YtjgnjhbleiempaaDoor.Pure
