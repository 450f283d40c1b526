/- What the arguments of FnExactFindCoin read as: elements of their kinds, within bounds. -/
import Derived.Test.YtjgnjhbleiempaaQFnExactFindCoinx0
import Derived.ChangeSlices
import Derived.ProofKit
import Derived.OpenShut
namespace Go.Proofs.Ytjgnjhbleiempaa.QFnExactFindCoin
open Go.RowKit Go.ChangeShapes Go.WideShapes Go.Proofs.YtjgnjhbleiempaaW.PrintWords Go.Proofs.YtjgnjhbleiempaaW.PrintLast
set_option linter.unusedVariables false
/-- What reads as data of type t is an element of kind d, and within bounds. -/
def Opens {α : Type} (P : Program) (w : World) (d : Kd α) (t : TypeId) (ok : α → Prop) : Prop :=
  ∀ (H : Type) (enc : TypeId × Value → H) (fuel : Nat) (cs : List Value) (y : DataW H × List MemPlace), DataW.trod enc P w 0 (fun _ => true) true fuel t cs = some y → ∃ x, d.K w x cs ∧ ok x
def okInt (k : IntKind) (n : Int) : Prop := (Lit.int k n).wf = true
def okBool (_ : Bool) : Prop := True
def okStr (s : ByteArray) : Prop := s.size ≤ maxLen
def okList {α : Type} (ok : α → Prop) (l : List α) : Prop := l.length ≤ maxLen ∧ ∀ x ∈ l, ok x
theorem opens_int {P : Program} {w : World} {t : TypeId} {k : IntKind} (ht : P.underlying t = some (.int k)) : Opens P w (Kd.int k) t (okInt k) := by
  intro H enc fuel cs y h
  obtain ⟨n, rfl, _, hw⟩ := DataW.trod_int ht h
  exact ⟨n, rfl, hw⟩
theorem opens_bool {P : Program} {w : World} {t : TypeId} (ht : P.underlying t = some .bool) : Opens P w Kd.bool t okBool := by
  intro H enc fuel cs y h
  obtain ⟨b, rfl, _⟩ := DataW.trod_bool ht h
  exact ⟨b, rfl, trivial⟩
theorem opens_string {P : Program} {w : World} {t : TypeId} (ht : P.underlying t = some .string) : Opens P w Kd.string t okStr := by
  intro H enc fuel cs y h
  obtain ⟨b, rfl, _, hs⟩ := DataW.trod_string ht h
  exact ⟨b, rfl, hs⟩
theorem list_of {α : Type} {p : Nat → α → Prop} (n : Nat) (h : ∀ i, i < n → ∃ x, p i x) : ∃ l : List α, l.length = n ∧ ∀ i x, l[i]? = some x → p i x := by
  induction n with
  | zero => exact ⟨[], rfl, by intro i x hx; simp at hx⟩
  | succ n ih =>
    obtain ⟨l, hl, hp⟩ := ih (fun i hi => h i (by omega))
    obtain ⟨x, hx⟩ := h n (by omega)
    refine ⟨l ++ [x], by simp [hl], fun i y hy => ?_⟩
    by_cases hi : i < l.length
    · rw [List.getElem?_append_left hi] at hy; exact hp i y hy
    · rw [List.getElem?_append_right (by omega)] at hy
      have : i - l.length = 0 := by
        have := (List.getElem?_eq_some_iff.1 hy).1
        simp at this; omega
      rw [this] at hy
      simp at hy
      obtain rfl := hy
      obtain rfl : i = n := by omega
      exact hx
theorem opens_slice {α : Type} {P : Program} {w : World} {d : Kd α} {t e : TypeId} {ok : α → Prop} (ht : P.underlying t = some (.slice e)) (hc : P.cellsOf e = d.sz) (he : Opens P w d e ok) : Opens P w (Kd.slice e d) t (okList ok) := by
  intro H enc fuel cs y h
  rcases DataW.trod_slice ht h with ⟨rfl, _⟩ | ⟨a, len, cap, elems, rest, n, _, rfl, _, hb, hl, hm, hlen, hel, _, _⟩
  · exact ⟨[], ⟨none, 0, rfl, Nat.zero_le _, Kd.C_nil d w⟩, by simp, by simp⟩
  · have each : ∀ i, i < len → ∃ x, (∃ c : List Value, c.length = d.sz ∧ d.K w x c ∧ ∀ j u, c[j]? = some u → w.cell? (a.add (i * d.sz + j)) = some u) ∧ ok x := by
      intro i hi
      have h1 := hel i hi
      rw [List.getElem?_eq_getElem (by omega), Option.bind_eq_some_iff] at h1
      obtain ⟨c, hc1, hc2⟩ := h1
      obtain ⟨x, hx, hok⟩ := he H enc n c _ hc2
      rw [hc] at hc1
      obtain ⟨_, hcl, hcell⟩ := World.cells?_some hc1
      refine ⟨x, ⟨c, hcl, hx, fun j u hu => ?_⟩, hok⟩
      have hj : j < d.sz := by have := (List.getElem?_eq_some_iff.1 hu).1; omega
      rw [← Addr.add_add, hcell j hj, hu]
    obtain ⟨l, hll, hp⟩ := list_of len each
    refine ⟨l, ⟨some a, cap, by rw [hll], by omega, ⟨rfl, by unfold maxLen at hm; omega, fun _ => ⟨a, rfl, fun j p hj => (hp j p hj).1⟩⟩⟩, by omega, fun x hx => ?_⟩
    obtain ⟨i, hi⟩ := List.getElem?_of_mem hx
    exact (hp i x hi).2
theorem list_len6 {α : Type} {l : List α} (h : l.length = 6) : ∃ c0 c1 c2 c3 c4 c5, l = [c0, c1, c2, c3, c4, c5] := by
  match l, h with
  | [c0, c1, c2, c3, c4, c5], _ => exact ⟨c0, c1, c2, c3, c4, c5, rfl⟩
def ok121 (x : S121) : Prop := (okInt .i64) x.f0 ∧ (okInt .i64) x.f1 ∧ (okInt .i64) x.f2 ∧ (okList (okInt .i64)) x.f3 ∧ (okInt .i64) x.f4 ∧ okBool x.f5
theorem opens_k121 (W : World) : Opens Try.prog W k121 121 ok121 := by
  intro H enc fuel cs y h
  obtain ⟨xs, n, _, _, hl, _, hf⟩ := DataW.trod_struct Try.underlying121 h
  rw [show Try.prog.cellsOf 121 = 6 by kernel_rfl] at hl
  obtain ⟨c0, c1, c2, c3, c4, c5, rfl⟩ := list_len6 hl
  have f0 := hf 0 _ rfl
  obtain ⟨y0, hy0⟩ : ∃ y_, xs[0]? = some y_ := ⟨_, List.getElem?_eq_getElem (by simp_all)⟩
  rw [hy0] at f0
  have g0 : DataW.trod enc Try.prog W 0 (fun _ => true) true n 2 [c0] = some y0 := by
    have e_ : Try.prog.cellsOf 2 = 1 := by kernel_rfl
    simpa [e_] using f0
  obtain ⟨x0, k_0, o_0⟩ := (opens_int (w := W) Try.underlying2) H enc n _ _ g0
  have f1 := hf 1 _ rfl
  obtain ⟨y1, hy1⟩ : ∃ y_, xs[1]? = some y_ := ⟨_, List.getElem?_eq_getElem (by simp_all)⟩
  rw [hy1] at f1
  have g1 : DataW.trod enc Try.prog W 0 (fun _ => true) true n 2 [c1] = some y1 := by
    have e_ : Try.prog.cellsOf 2 = 1 := by kernel_rfl
    simpa [e_] using f1
  obtain ⟨x1, k_1, o_1⟩ := (opens_int (w := W) Try.underlying2) H enc n _ _ g1
  have f2 := hf 2 _ rfl
  obtain ⟨y2, hy2⟩ : ∃ y_, xs[2]? = some y_ := ⟨_, List.getElem?_eq_getElem (by simp_all)⟩
  rw [hy2] at f2
  have g2 : DataW.trod enc Try.prog W 0 (fun _ => true) true n 2 [c2] = some y2 := by
    have e_ : Try.prog.cellsOf 2 = 1 := by kernel_rfl
    simpa [e_] using f2
  obtain ⟨x2, k_2, o_2⟩ := (opens_int (w := W) Try.underlying2) H enc n _ _ g2
  have f3 := hf 3 _ rfl
  obtain ⟨y3, hy3⟩ : ∃ y_, xs[3]? = some y_ := ⟨_, List.getElem?_eq_getElem (by simp_all)⟩
  rw [hy3] at f3
  have g3 : DataW.trod enc Try.prog W 0 (fun _ => true) true n 24 [c3] = some y3 := by
    have e_ : Try.prog.cellsOf 24 = 1 := by kernel_rfl
    simpa [e_] using f3
  obtain ⟨x3, k_3, o_3⟩ := (opens_slice (e := 2) Try.underlying24 (by kernel_rfl) (opens_int (w := W) Try.underlying2)) H enc n _ _ g3
  have f4 := hf 4 _ rfl
  obtain ⟨y4, hy4⟩ : ∃ y_, xs[4]? = some y_ := ⟨_, List.getElem?_eq_getElem (by simp_all)⟩
  rw [hy4] at f4
  have g4 : DataW.trod enc Try.prog W 0 (fun _ => true) true n 2 [c4] = some y4 := by
    have e_ : Try.prog.cellsOf 2 = 1 := by kernel_rfl
    simpa [e_] using f4
  obtain ⟨x4, k_4, o_4⟩ := (opens_int (w := W) Try.underlying2) H enc n _ _ g4
  have f5 := hf 5 _ rfl
  obtain ⟨y5, hy5⟩ : ∃ y_, xs[5]? = some y_ := ⟨_, List.getElem?_eq_getElem (by simp_all)⟩
  rw [hy5] at f5
  have g5 : DataW.trod enc Try.prog W 0 (fun _ => true) true n 4 [c5] = some y5 := by
    have e_ : Try.prog.cellsOf 4 = 1 := by kernel_rfl
    simpa [e_] using f5
  obtain ⟨x5, k_5, o_5⟩ := (opens_bool (w := W) Try.underlying4) H enc n _ _ g5
  exact ⟨⟨x0, x1, x2, x3, x4, x5⟩, ⟨[c0], [c1, c2, c3, c4, c5], rfl, k_0, ⟨[c1], [c2, c3, c4, c5], rfl, k_1, ⟨[c2], [c3, c4, c5], rfl, k_2, ⟨[c3], [c4, c5], rfl, k_3, ⟨[c4], [c5], rfl, k_4, k_5⟩⟩⟩⟩⟩, ⟨o_0, o_1, o_2, o_3, o_4, o_5⟩⟩
end Go.Proofs.Ytjgnjhbleiempaa.QFnExactFindCoin
