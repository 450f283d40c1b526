/- What the arguments of FnExactPrintVals read as: elements of their kinds, within bounds. -/
import Derived.Test.YthjlbpgiaehjnaaDoorQFnExactPrintValsx0
import Derived.ChangeSlices
import Derived.ProofKit
import Derived.OpenShut
namespace Go.Proofs.YthjlbpgiaehjnaaDoor.QFnExactPrintVals
open Go.RowKit Go.ChangeShapes Go.WideShapes Go.Proofs.YthjlbpgiaehjnaaDoorW.PrintWords Go.Proofs.YthjlbpgiaehjnaaDoorW.PrintLast
set_option linter.unusedVariables false
/-- What reads as data of type t is an element of kind d, and within bounds. -/
def Opens {α : Type} (P : Program) (w : World) (d : Kd α) (t : TypeId) (ok : α → Prop) : Prop :=
  ∀ (H : Type) (enc : TypeId × Value → H) (fuel : Nat) (cs : List Value) (y : DataW H × List MemPlace), DataW.trod enc P w 0 (fun _ => true) true fuel t cs = some y → ∃ x, d.K w x cs ∧ ok x
def okInt (k : IntKind) (n : Int) : Prop := (Lit.int k n).wf = true
def okBool (_ : Bool) : Prop := True
def okStr (s : ByteArray) : Prop := s.size ≤ maxLen
def okList {α : Type} (ok : α → Prop) (l : List α) : Prop := l.length ≤ maxLen ∧ ∀ x ∈ l, ok x
theorem opens_int {P : Program} {w : World} {t : TypeId} {k : IntKind} (ht : P.underlying t = some (.int k)) : Opens P w (Kd.int k) t (okInt k) := by
  intro H enc fuel cs y h
  obtain ⟨n, rfl, _, hw⟩ := DataW.trod_int ht h
  exact ⟨n, rfl, hw⟩
theorem opens_bool {P : Program} {w : World} {t : TypeId} (ht : P.underlying t = some .bool) : Opens P w Kd.bool t okBool := by
  intro H enc fuel cs y h
  obtain ⟨b, rfl, _⟩ := DataW.trod_bool ht h
  exact ⟨b, rfl, trivial⟩
theorem opens_string {P : Program} {w : World} {t : TypeId} (ht : P.underlying t = some .string) : Opens P w Kd.string t okStr := by
  intro H enc fuel cs y h
  obtain ⟨b, rfl, _, hs⟩ := DataW.trod_string ht h
  exact ⟨b, rfl, hs⟩
theorem list_of {α : Type} {p : Nat → α → Prop} (n : Nat) (h : ∀ i, i < n → ∃ x, p i x) : ∃ l : List α, l.length = n ∧ ∀ i x, l[i]? = some x → p i x := by
  induction n with
  | zero => exact ⟨[], rfl, by intro i x hx; simp at hx⟩
  | succ n ih =>
    obtain ⟨l, hl, hp⟩ := ih (fun i hi => h i (by omega))
    obtain ⟨x, hx⟩ := h n (by omega)
    refine ⟨l ++ [x], by simp [hl], fun i y hy => ?_⟩
    by_cases hi : i < l.length
    · rw [List.getElem?_append_left hi] at hy; exact hp i y hy
    · rw [List.getElem?_append_right (by omega)] at hy
      have : i - l.length = 0 := by
        have := (List.getElem?_eq_some_iff.1 hy).1
        simp at this; omega
      rw [this] at hy
      simp at hy
      obtain rfl := hy
      obtain rfl : i = n := by omega
      exact hx
theorem opens_slice {α : Type} {P : Program} {w : World} {d : Kd α} {t e : TypeId} {ok : α → Prop} (ht : P.underlying t = some (.slice e)) (hc : P.cellsOf e = d.sz) (he : Opens P w d e ok) : Opens P w (Kd.slice e d) t (okList ok) := by
  intro H enc fuel cs y h
  rcases DataW.trod_slice ht h with ⟨rfl, _⟩ | ⟨a, len, cap, elems, rest, n, _, rfl, _, hb, hl, hm, hlen, hel, _, _⟩
  · exact ⟨[], ⟨none, 0, rfl, Nat.zero_le _, Kd.C_nil d w⟩, by simp, by simp⟩
  · have each : ∀ i, i < len → ∃ x, (∃ c : List Value, c.length = d.sz ∧ d.K w x c ∧ ∀ j u, c[j]? = some u → w.cell? (a.add (i * d.sz + j)) = some u) ∧ ok x := by
      intro i hi
      have h1 := hel i hi
      rw [List.getElem?_eq_getElem (by omega), Option.bind_eq_some_iff] at h1
      obtain ⟨c, hc1, hc2⟩ := h1
      obtain ⟨x, hx, hok⟩ := he H enc n c _ hc2
      rw [hc] at hc1
      obtain ⟨_, hcl, hcell⟩ := World.cells?_some hc1
      refine ⟨x, ⟨c, hcl, hx, fun j u hu => ?_⟩, hok⟩
      have hj : j < d.sz := by have := (List.getElem?_eq_some_iff.1 hu).1; omega
      rw [← Addr.add_add, hcell j hj, hu]
    obtain ⟨l, hll, hp⟩ := list_of len each
    refine ⟨l, ⟨some a, cap, by rw [hll], by omega, ⟨rfl, by unfold maxLen at hm; omega, fun _ => ⟨a, rfl, fun j p hj => (hp j p hj).1⟩⟩⟩, by omega, fun x hx => ?_⟩
    obtain ⟨i, hi⟩ := List.getElem?_of_mem hx
    exact (hp i x hi).2
theorem list_len3 {α : Type} {l : List α} (h : l.length = 3) : ∃ c0 c1 c2, l = [c0, c1, c2] := by
  match l, h with
  | [c0, c1, c2], _ => exact ⟨c0, c1, c2, rfl⟩
def ok79 (x : S79) : Prop := (okInt .i64) x.f0 ∧ (okInt .i64) x.f1 ∧ okStr x.f2
theorem opens_k79 (W : World) : Opens Tryd.prog W k79 79 ok79 := by
  intro H enc fuel cs y h
  obtain ⟨xs, n, _, _, hl, _, hf⟩ := DataW.trod_struct Tryd.underlying79 h
  rw [show Tryd.prog.cellsOf 79 = 3 by kernel_rfl] at hl
  obtain ⟨c0, c1, c2, rfl⟩ := list_len3 hl
  have f0 := hf 0 _ rfl
  obtain ⟨y0, hy0⟩ : ∃ y_, xs[0]? = some y_ := ⟨_, List.getElem?_eq_getElem (by simp_all)⟩
  rw [hy0] at f0
  have g0 : DataW.trod enc Tryd.prog W 0 (fun _ => true) true n 2 [c0] = some y0 := by
    have e_ : Tryd.prog.cellsOf 2 = 1 := by kernel_rfl
    simpa [e_] using f0
  obtain ⟨x0, k_0, o_0⟩ := (opens_int (w := W) Tryd.underlying2) H enc n _ _ g0
  have f1 := hf 1 _ rfl
  obtain ⟨y1, hy1⟩ : ∃ y_, xs[1]? = some y_ := ⟨_, List.getElem?_eq_getElem (by simp_all)⟩
  rw [hy1] at f1
  have g1 : DataW.trod enc Tryd.prog W 0 (fun _ => true) true n 2 [c1] = some y1 := by
    have e_ : Tryd.prog.cellsOf 2 = 1 := by kernel_rfl
    simpa [e_] using f1
  obtain ⟨x1, k_1, o_1⟩ := (opens_int (w := W) Tryd.underlying2) H enc n _ _ g1
  have f2 := hf 2 _ rfl
  obtain ⟨y2, hy2⟩ : ∃ y_, xs[2]? = some y_ := ⟨_, List.getElem?_eq_getElem (by simp_all)⟩
  rw [hy2] at f2
  have g2 : DataW.trod enc Tryd.prog W 0 (fun _ => true) true n 9 [c2] = some y2 := by
    have e_ : Tryd.prog.cellsOf 9 = 1 := by kernel_rfl
    simpa [e_] using f2
  obtain ⟨x2, k_2, o_2⟩ := (opens_string (w := W) Tryd.underlying9) H enc n _ _ g2
  exact ⟨⟨x0, x1, x2⟩, ⟨[c0], [c1, c2], rfl, k_0, ⟨[c1], [c2], rfl, k_1, k_2⟩⟩, ⟨o_0, o_1, o_2⟩⟩
end Go.Proofs.YthjlbpgiaehjnaaDoor.QFnExactPrintVals
