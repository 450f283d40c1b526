import Derived.Lib.SlTrimSet
import Derived.Laws.Strings
import Derived.Shelf.Strings.SlTrimAscii
import Derived.Test.YthjlbpgiaehjnaaDoorHLayTrim
import Derived.WalkKit
import Derived.BigCall
namespace Go.Proofs.YthjlbpgiaehjnaaDoor.HTrim
open Go.Lib Go.Shelf Go.RowKit
theorem dropWhile_nil {p : UInt8 → Bool} {l : List UInt8} : l.dropWhile p = [] ↔ ∀ b ∈ l, p b = true := by
  induction l with
  | nil => simp
  | cons b r ih =>
    by_cases h : p b = true
    · simp [h, ih]
    · simp [h]
theorem dropWhile_head {p : UInt8 → Bool} {l : List UInt8} {b : UInt8} {r : List UInt8} (h : l.dropWhile p = b :: r) : p b = false := by
  induction l with
  | nil => simp at h
  | cons x s ih =>
    by_cases hx : p x = true
    · simp [hx] at h; exact ih h
    · simp [hx] at h; obtain ⟨rfl, _⟩ := h; simpa using hx
theorem trim_nil {l cs : List UInt8} : trimS l cs = [] ↔ ∀ b ∈ l, cs.contains b = true := by
  unfold trimS trimLeftS trimRightS
  rw [dropWhile_nil]
  constructor
  · intro h
    cases e : l.reverse.dropWhile (cs.contains ·) with
    | nil => intro b hb; exact dropWhile_nil.1 e b (by simpa using hb)
    | cons x r =>
      have h1 := dropWhile_head e
      have h2 := h x (by rw [e]; simp)
      rw [h1] at h2; cases h2
  · intro h b hb
    have : l.reverse.dropWhile (cs.contains ·) = [] := dropWhile_nil.2 (fun b hb => h b (by simpa using hb))
    rw [this] at hb; simp at hb
def signs : List UInt8 := [97,98,99,100,101,102,103,104,105,106,107,108,109,110,111,112,113,114,115,116,117,118,119,120,121,122,65,66,67,68,69,70,71,72,73,74,75,76,77,78,79,80,81,82,83,84,85,86,87,88,89,90,48,49,50,51,52,53,54,55,56,57]
def letter (n : Nat) : Bool := (decide (97 ≤ n) && decide (n ≤ 122)) || ((decide (65 ≤ n) && decide (n ≤ 90)) || (decide (48 ≤ n) && decide (n ≤ 57)))
set_option maxRecDepth 10000 in
theorem signs_n : ∀ n, n < 256 → signs.contains (UInt8.ofNat n) = letter n := by decide
theorem signs_c (c : UInt8) : signs.contains c = letter c.toNat := by
  have := signs_n c.toNat c.toNat_lt
  simpa using this
/-- What argOk answers: at most twelve bytes, each a letter or a digit. -/
def argOk (s : ByteArray) : Bool := decide (s.size ≤ 12) && s.data.toList.all fun c => letter c.toNat
theorem trim_empty (s : ByteArray) : (trimS s.data.toList signs == ([] : List UInt8)) = s.data.toList.all fun c => letter c.toNat := by
  by_cases h : trimS s.data.toList signs = []
  · have h2 := trim_nil.1 h
    rw [h]; symm
    exact List.all_eq_true.2 (fun c hc => by rw [← signs_c]; exact h2 c hc)
  · rw [beq_eq_false_iff_ne.2 h]
    symm
    apply Bool.eq_false_iff.2
    intro e
    exact h (trim_nil.2 (fun c hc => by rw [signs_c]; exact List.all_eq_true.1 e c hc))
set_option maxHeartbeats 1000000 in
set_option maxRecDepth 100000 in
theorem walk (s : ByteArray) (w : World) :
    Calls Tryd.prog 69 #[.string s] w fun e w' => e = .returned (.bool (argOk s)) ∧ Below w.heap.size w w' := by
  by_cases h : s.size ≤ 12
  · have hb : decide ((s.size : Int) ≤ 12) = true := decide_eq_true (by omega)
    have hb2 : decide (s.size ≤ 12) = true := decide_eq_true h
    have hcon := Any.strings_Trim_laid Tryd.laysTR (by kernel_rfl) s ⟨signs.toArray⟩ w (by omega) (by decide) (ascii_of_all (by decide))
    have hr : (trimS s.data.toList signs == ([] : List UInt8)) = argOk s := by unfold argOk; rw [trim_empty, decide_eq_true h]; rfl
    change Calls Tryd.prog 92 _ _ (fun e w' => e = .returned (.string ⟨(trimS s.data.toList signs).toArray⟩) ∧ Below w.heap.size w w') at hcon
    generalize trimS s.data.toList signs = r at hcon hr
    go_enter Tryd.func69, Tryd.ntmps69
    go_wp2_with (go_at_call 92; refine hcon.mono ?_; rintro e w' ⟨rfl, hB⟩)
    go_ret
    exact ⟨rfl, hB⟩
  · have hb : decide ((s.size : Int) ≤ 12) = false := decide_eq_false (by omega)
    have hb2 : decide (s.size ≤ 12) = false := decide_eq_false h
    have hr : argOk s = false := by unfold argOk; rw [hb2]; rfl
    rw [hr]
    go_enter Tryd.func69, Tryd.ntmps69
    go_wp2
    go_ret
    exact ⟨rfl, Below.refl _ _⟩
end Go.Proofs.YthjlbpgiaehjnaaDoor.HTrim
