import Derived.Maps.OwnOps
import Derived.Maps.Views
import Derived.StringKeys
import Derived.Test.YthjlbpgiaehjnaaDoorProg
namespace Go.Proofs.YthjlbpgiaehjnaaDoor.HNames
open Go Go.Maps Go.ChangeMaps Go.WideMaps
theorem law : Keyed Tryd.prog 9 := string_keyed Tryd.underlying9
theorem zeroB (w : World) : (zeroValue 4).run Tryd.prog w = .ok (.bool false) w := by kernel_rfl
/-- Block B is a set of names. -/
def NamesAt (w : World) (B : Nat) (names : List ByteArray) : Prop :=
  ∃ (D : DataW Unit) (n : Nat), w.ownsMap Tryd.prog 9 (plainElem Tryd.prog 4) B n D ∧ n ≤ names.length ∧ IsMap D ∧ ∀ s : List UInt8, D.atKey (.string s) (.lit (.bool false)) = .lit (.bool (names.any fun x => x.data.toList == s))
theorem bool_inv {P : Program} {e : TypeId} (he : P.underlying e = some .bool) {v : Value} {z : DataW Unit × List MemPlace} (h : plainElem P e v = some z) : ∃ b, v = .bool b ∧ z = (.lit (.bool b), []) := by
  unfold plainElem at h
  rw [he] at h
  cases v <;> simp at h
  exact ⟨_, rfl, h.symm⟩
theorem NamesAt.made (w : World) : NamesAt (w.alloc (.map #[] 0)) w.heap.size [] :=
  ⟨.map [], 0, World.ownsMap_made w Tryd.prog 9 _, Nat.le_refl _, ⟨[], rfl⟩, fun _ => rfl⟩
theorem NamesAt.kept {w w' : World} {row : Option Nat} {B : Nat} {names : List ByteArray} (h : NamesAt w B names) (hg : w.grownBy w' row) (hne : some B ≠ row) : NamesAt w' B names := by
  obtain ⟨D, n, h1, h2, h3, h4⟩ := h
  exact ⟨D, n, h1.kept hg hne, h2, h3, h4⟩
theorem NamesAt.heap {w w' : World} {B : Nat} {names : List ByteArray} (h : NamesAt w B names) (e : w'.heap[B]? = w.heap[B]?) : NamesAt w' B names := by
  obtain ⟨D, n, ⟨es, clock, h1, h1'⟩, h2, h3, h4⟩ := h
  exact ⟨D, n, ⟨es, clock, e.trans h1, h1'⟩, h2, h3, h4⟩
theorem NamesAt.lt {w : World} {B : Nat} {names : List ByteArray} (h : NamesAt w B names) : B < w.heap.size := by
  obtain ⟨D, n, h1, _⟩ := h
  exact h1.lt
theorem NamesAt.look {w : World} {B : Nat} {names : List ByteArray} (h : NamesAt w B names) {t : TypeId} (ht : Tryd.prog.underlying t = some (.map 9 4)) (s : ByteArray) (hs : s.size ≤ maxLen) :
    (Instr.lookup t (.map (some B)) (.string s) false).run Tryd.prog w = .ok (.bool (names.any fun x => x.data.toList == s.data.toList)) w := by
  obtain ⟨D, n, h1, _, _, h4⟩ := h
  obtain ⟨v, ps, hrun, hv⟩ := h1.lookup law ht (zeroB w) (plainElem_bool Tryd.underlying4 false) (keyOf_string_mk Tryd.underlying9 hs)
  obtain ⟨b, rfl, hb⟩ := bool_inv Tryd.underlying4 hv
  have e := h4 s.data.toList
  simp only [Prod.mk.injEq] at hb
  rw [hb.1] at e
  have e2 := Lit.bool.inj (DataW.lit.inj e)
  rw [hrun, e2]
theorem NamesAt.put {w : World} {B : Nat} {names : List ByteArray} (h : NamesAt w B names) {t : TypeId} (ht : Tryd.prog.underlying t = some (.map 9 4)) (s : ByteArray) (hs : s.size ≤ maxLen) (hn : names.length < maxLen) :
    ∃ w', (Instr.mapUpdate t (.map (some B)) (.string s) (.bool true)).run Tryd.prog w = .ok () w' ∧ NamesAt w' B (s :: names) ∧ w.grownBy w' (some B) := by
  obtain ⟨D, n, h1, h2, h3, h4⟩ := h
  obtain ⟨w', hrun, h1', hg⟩ := h1.update law ht (Nat.lt_of_le_of_lt h2 hn) (keyOf_string_mk Tryd.underlying9 hs) (plainElem_bool Tryd.underlying4 true)
  refine ⟨w', hrun, ⟨_, n + 1, h1', by simp; omega, ?_, fun x => ?_⟩, hg⟩
  · exact h3.put _ _
  · by_cases e : x = s.data.toList
    · subst e
      rw [atKey_put_same h3 (show WideAt.IsKeyLit (.string _) from trivial)]
      simp
    · rw [atKey_put_other (fun h => e (Lit.string.inj h))]
      rw [h4 x]
      simp [Ne.symm e]
/-- A name is put in, at the operation. -/
theorem wpList_names {w : World} {ops : Array Oper} {rest : List Oper} {o : Oper} {a : Act} {Q : Exit → Act → World → Prop} (hg : o.guard = none) (m x v : Operand) (t : TypeId) (hop : o.op = Op.mapUpdate t m x v)
    (ht : Tryd.prog.underlying t = some (.map 9 4)) (B : Nat) (names : List ByteArray) (hm : a.eval m = .map (some B)) (hn : NamesAt w B names) (hlen : names.length < maxLen) (s : ByteArray) (hs : s.size ≤ maxLen) (hx : a.eval x = .string s) (hv : a.eval v = .bool true)
    (hK : ∀ w', NamesAt w' B (s :: names) → w.grownBy w' (some B) → wpList Tryd.prog ops Q rest (a.put o.dst undef) w') : wpList Tryd.prog ops Q (o :: rest) a w := by
  refine wpList_plain hg fun K' hK' => ?_
  obtain ⟨w', hrun, r1, r2⟩ := hn.put ht s hs hlen
  unfold Oper.wp
  simp [execOp, hop, hm, hx, hv, hrun, Result.andThen]
  exact hK' _ _ (hK w' r1 r2)
end Go.Proofs.YthjlbpgiaehjnaaDoor.HNames
