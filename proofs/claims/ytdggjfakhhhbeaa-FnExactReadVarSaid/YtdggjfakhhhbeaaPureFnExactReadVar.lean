/- for every slice of bytes, ReadVar answers as the reference does and leaves its argument as it was. -/
import Derived.Test.YtdggjfakhhhbeaaQFnExactReadVarx1
import Derived.Test.YtdggjfakhhhbeaaQFnExactReadVarx2
namespace Go.Proofs.Ytdggjfakhhhbeaa.Pure
open Go.RowKit Go.Proofs.Ytdggjfakhhhbeaa.QFnExactReadVar Go.Proofs.YtdggjfakhhhbeaaW.PrintWords Go.Proofs.YtdggjfakhhhbeaaW.PrintLast
set_option linter.unusedVariables false
set_option linter.unusedSimpArgs false

theorem wrap_id {x : Int} (h1 : -9223372036854775808 ≤ x) (h2 : x ≤ 9223372036854775807) : wrap64 x = x := by
  unfold wrap64; omega
theorem wf64 {x : Int} (h : (Lit.int .i64 x).wf = true) : -9223372036854775808 ≤ x ∧ x ≤ 9223372036854775807 := by
  simpa [Lit.wf, IntKind.min, IntKind.max, IntKind.signed, IntKind.bits] using h
theorem wf8 {x : Int} (h : (Lit.int .u8 x).wf = true) : 0 ≤ x ∧ x ≤ 255 := by
  simpa [Lit.wf, IntKind.min, IntKind.max, IntKind.signed, IntKind.bits] using h
theorem ev_some {α : Type} {g : Nat → Option α} {r : α} (h : ∀ k, g k = some r) : Ev g r := ⟨0, fun k _ => h k⟩
theorem ev_succ {α : Type} {g : Nat → Option α} {r : α} (h : ∀ k, g (k + 1) = some r) : Ev g r := Ev.step h (Ev.now r)
/-- A call whose answer is known, and what follows. -/
theorem ev_bind {α β : Type} {g : Nat → Option α} {f : α → Nat → Option β} {a : α} {r : β} (h : Ev g a) (k : Ev (f a) r) : Ev (fun n => (g n).bind fun t => f t n) r :=
  Ev.bind (f := fun n t => f t n) h k
theorem ev_if {α : Type} {p : Prop} [Decidable p] {g f : Nat → Option α} {r : α} (hp : p) (k : Ev g r) : Ev (fun n => if p then g n else f n) r :=
  Ev.congr (fun n => if_pos hp) k
theorem ev_ifn {α : Type} {p : Prop} [Decidable p] {g f : Nat → Option α} {r : α} (hp : ¬ p) (k : Ev f r) : Ev (fun n => if p then g n else f n) r :=
  Ev.congr (fun n => if_neg hp) k
theorem ev_bind0 {α β : Type} {g : Option α} {f : α → Nat → Option β} {a : α} {r : β} (h : g = some a) (k : Ev (f a) r) : Ev (fun n => g.bind fun t => f t n) r := by
  subst h; exact k
theorem rd_mid (pre : List Int) (b : Int) (suf : List Int) : rd (pre ++ b :: suf) (pre.length : Int) = b := by
  unfold rd
  simp
theorem rd_at {l : List Int} {i : Int} (h0 : 0 ≤ i) (h1 : i < l.length) : rd l i = l[i.toNat]'(by omega) := by
  unfold rd
  rw [List.getD_eq_getElem?_getD, List.getElem?_eq_getElem (by omega)]; rfl
theorem split_at_len {α : Type} (l : List α) (n : Nat) (h : n ≤ l.length) : ∃ pre suf, l = pre ++ suf ∧ pre.length = n :=
  ⟨l.take n, l.drop n, (List.take_append_drop n l).symm, by simp; omega⟩

theorem laws_toByteS_l0 (suf : List Int) : ∀ (pre : List Int) (z : List Int), z.length = suf.length → (pre.length : Int) + suf.length ≤ 9223372036854775806 →
    Ev (fun k => laws_toByteS.l0 k (pre ++ suf) (pre ++ z) pre.length) (pre ++ suf) := by
  induction suf with
  | nil => intro pre z hz _; obtain rfl : z = [] := List.eq_nil_of_length_eq_zero (by simpa using hz); exact ev_succ (fun k => by simp [laws_toByteS.l0])
  | cons b suf ih =>
    intro pre z hz hl
    obtain ⟨c, z, rfl⟩ : ∃ c z', z = c :: z' := by cases z with | nil => simp at hz | cons c z => exact ⟨c, z, rfl⟩
    simp only [List.length_cons, Int.natCast_add, Int.natCast_one] at hl hz
    have h := ih (pre ++ [b]) z (by omega) (by simp; omega)
    refine Ev.step (fun k => ?_) (by simpa using h)
    rw [laws_toByteS.l0]
    rw [if_pos (by simp; omega), if_pos (by omega), if_pos (by simp; omega), rd_mid, wrap_id (by omega) (by omega)]
    simp
theorem laws_toByteS_ev {l : List Int} (hl : l.length ≤ 140737488351232) : Ev (fun k => laws_toByteS.f k l) l := by
  have h := laws_toByteS_l0 l [] (List.replicate l.length 0) (by simp) (by simp; omega)
  unfold laws_toByteS.f
  refine ev_if (by omega) (ev_if (by simp; omega) ?_)
  simpa using h

theorem laws_eqByteS_l0 (suf : List Int) : ∀ (pre : List Int), (pre.length : Int) + suf.length ≤ 9223372036854775806 →
    Ev (fun k => laws_eqByteS.l0 k (pre ++ suf) (pre ++ suf) pre.length) true := by
  induction suf with
  | nil => intro pre _; exact ev_succ (fun k => by simp [laws_eqByteS.l0])
  | cons b suf ih =>
    intro pre hl
    simp only [List.length_cons, Int.natCast_add, Int.natCast_one] at hl
    have h := ih (pre ++ [b]) (by simp; omega)
    refine Ev.step (fun k => ?_) (by simpa using h)
    rw [laws_eqByteS.l0]
    rw [if_pos (by simp; omega), if_pos (by omega), if_pos (by simp; omega), if_pos rfl, wrap_id (by omega) (by omega)]
theorem laws_eqByteS_refl {l : List Int} (hl : l.length ≤ 140737488351232) : Ev (fun k => laws_eqByteS.f k l l) true := by
  unfold laws_eqByteS.f
  exact ev_if rfl (laws_eqByteS_l0 l [] (by simp; omega))

def readV : List Int → Int × Int × Int
  | [] => (5, 0, 0)
  | a :: r => if a < 253 then (0, a, 1) else if a = 253 then match r with
    | b :: c :: _ => if b + 256 * c < 253 then (5, 0, 0) else (0, b + 256 * c, 3)
    | _ => (5, 0, 0)
    else (5, 0, 0)
theorem readV_short {a : Int} (h1 : ¬ a < 253) : ∀ r : List Int, r.length < 2 → readV (a :: r) = (5, 0, 0)
  | [], _ => by simp [readV, h1]
  | [b], _ => by simp [readV, h1]
  | _ :: _ :: _, h => by simp at h; omega
theorem readV_wide {a : Int} (h1 : ¬ a < 253) (h2 : ¬ a = 253) : ∀ r : List Int, readV (a :: r) = (5, 0, 0)
  | [] => by simp [readV, h1]
  | [b] => by simp [readV, h1]
  | _ :: _ :: _ => by simp [readV, h1, h2]
theorem byte_in {l : List Int} {i : Int} {a : Int} (h0 : 0 ≤ i) (h1 : i < l.length) (hi : i ≤ 4) (hr : rd l i = a) (ha : 0 ≤ a ∧ a ≤ 255) (b : Bool) : spec_l3Byte.f l i b = some (a, i + 1, b) := by
  have e1 : wrap64 (i + 1) = i + 1 := wrap_id (by omega) (by omega)
  have e2 : wrap64 (i + 1 - 1) = i := by rw [show i + 1 - 1 = i by omega]; exact wrap_id (by omega) (by omega)
  have e3 : wrap64 a = a := wrap_id (by omega) (by omega)
  unfold spec_l3Byte.f
  rw [if_neg (by omega), e1, e2, if_pos h0, if_pos h1, hr, e3]
theorem byte_out {l : List Int} {i : Int} (h : (l.length : Int) ≤ i) (b : Bool) : spec_l3Byte.f l i b = some (0, i, true) := by
  unfold spec_l3Byte.f
  rw [if_pos (by omega)]
theorem spec_ReadVar_eq : ∀ (l : List Int), (∀ x ∈ l, 0 ≤ x ∧ x ≤ 255) → spec_ReadVar.f l = some (readV l)
  | [], _ => by
    unfold spec_ReadVar.f spec_l3Var.f
    rw [byte_out (by simp)]
    simp [readV]
  | a :: r, hb => by
    have ha := hb a (by simp)
    have h0 : spec_l3Byte.f (a :: r) 0 false = some (a, 1, false) := byte_in (a := a) (i := 0) (by omega) (by simp <;> omega) (by omega) rfl ha _
    unfold spec_ReadVar.f spec_l3Var.f
    rw [h0]
    simp only [Option.bind_some]
    by_cases h1 : a < 253
    · rw [if_pos h1]; simp [readV, h1]
    · rw [if_neg h1]
      match r, hb with
      | [], _ =>
        rw [byte_out (l := [a]) (i := 1) (by simp)]
        simp only [Option.bind_some]
        rw [byte_out (l := [a]) (i := 1) (by simp)]
        simp only [Option.bind_some]
        by_cases h2 : a = 253
        · rw [if_pos h2]; by_cases h3 : wrap64 (0 + wrap64 (256 * 0)) < 253
          · rw [if_pos h3]; simp [readV, h1]
          · rw [if_neg h3]; simp [readV, h1]
        · rw [if_neg h2]; simp [readV, h1]
      | [b], hb =>
        have hbb := hb b (by simp)
        have e1 : spec_l3Byte.f [a, b] 1 false = some (b, 2, false) := byte_in (a := b) (i := 1) (by omega) (by simp) (by omega) rfl hbb _
        rw [e1]
        simp only [Option.bind_some]
        rw [byte_out (l := [a, b]) (i := 2) (by simp)]
        simp only [Option.bind_some]
        by_cases h2 : a = 253
        · rw [if_pos h2]; by_cases h3 : wrap64 (b + wrap64 (256 * 0)) < 253
          · rw [if_pos h3]; simp [readV, h1]
          · rw [if_neg h3]; simp [readV, h1]
        · rw [if_neg h2]; simp [readV, h1]
      | b :: c :: s, hb =>
        have hbb := hb b (by simp)
        have hbc := hb c (by simp)
        have e1 : spec_l3Byte.f (a :: b :: c :: s) 1 false = some (b, 2, false) := byte_in (a := b) (i := 1) (by omega) (by simp <;> omega) (by omega) rfl hbb _
        have e2 : spec_l3Byte.f (a :: b :: c :: s) 2 false = some (c, 3, false) := byte_in (a := c) (i := 2) (by omega) (by simp <;> omega) (by omega) rfl hbc _
        have e3 : wrap64 (b + wrap64 (256 * c)) = b + 256 * c := by
          rw [wrap_id (x := 256 * c) (by omega) (by omega)]; exact wrap_id (by omega) (by omega)
        rw [e1]
        simp only [Option.bind_some]
        rw [e2]
        simp only [Option.bind_some]
        rw [e3]
        by_cases h2 : a = 253
        · rw [if_pos h2]; by_cases h3 : b + 256 * c < 253
          · rw [if_pos h3]; simp [readV, h2, h3]
          · rw [if_neg h3]; simp [readV, h2, h3]
        · rw [if_neg h2]; simp [readV, h1, h2]
theorem impl_ReadVar_ev {l : List Int} (hb : ∀ x ∈ l, 0 ≤ x ∧ x ≤ 255) : Ev (fun k => impl_ReadVar.f k l) (readV l) := by
  have bad : Ev (fun k => impl_ReadVar.j1 k l true) (5, 0, 0) := ev_succ (fun k => by rw [impl_ReadVar.j1, if_pos rfl])
  unfold impl_ReadVar.f
  match l, hb, bad with
  | [], _, bad =>
    refine ev_ifn (by simp) ?_
    exact Ev.step (f := fun k => impl_ReadVar.j1 k [] true) (fun k => by rw [impl_ReadVar.j0, if_neg (by decide), if_pos (by simp)]) bad
  | a :: r, hb, bad =>
    have ha := hb a (by simp)
    have hr0 : rd (a :: r) 0 = a := rfl
    refine ev_if (by simp <;> omega) (ev_if (by simp <;> omega) ?_)
    rw [hr0]
    by_cases h1 : a < 253
    · rw [decide_eq_true h1]
      refine ev_succ (fun k => ?_)
      rw [impl_ReadVar.j0, if_pos rfl, if_pos (by simp <;> omega), hr0, wrap_id (by omega) (by omega)]
      simp [readV, h1]
    · rw [decide_eq_false h1]
      by_cases h3 : r.length < 2
      · have e := readV_short h1 r h3
        rw [e]
        exact Ev.step (f := fun k => impl_ReadVar.j1 k (a :: r) true) (fun k => by rw [impl_ReadVar.j0, if_neg (by decide), if_pos (by simp <;> omega)]) bad
      · refine Ev.step (f := fun k => impl_ReadVar.j1 k (a :: r) (a != 253)) (fun k => by rw [impl_ReadVar.j0, if_neg (by decide), if_neg (by simp <;> omega), if_pos (by simp <;> omega), hr0]) ?_
        by_cases h2 : a = 253
        · obtain ⟨b, c, s, rfl⟩ : ∃ b c s, r = b :: c :: s := by
            cases r with
            | nil => simp at h3
            | cons b r => cases r with
              | nil => simp at h3
              | cons c s => exact ⟨b, c, s, rfl⟩
          · skip
            have hbb := hb b (by simp)
            have hbc := hb c (by simp)
            have hr1 : rd (a :: b :: c :: s) 1 = b := rfl
            have hr2 : rd (a :: b :: c :: s) 2 = c := rfl
            rw [show (a != 253) = false from bne_eq_false_iff_eq.2 h2]
            refine ev_succ (fun k => ?_)
            have e3 : wrap64 (wrap64 b + wrap64 (wrap64 c * 256)) = b + 256 * c := by
              rw [wrap_id (x := b) (by omega) (by omega), wrap_id (x := c) (by omega) (by omega), wrap_id (x := c * 256) (by omega) (by omega), Int.mul_comm c 256]
              exact wrap_id (by omega) (by omega)
            rw [impl_ReadVar.j1, if_neg (by decide), if_pos (by simp <;> omega), if_pos (by simp <;> omega), hr1, hr2, e3]
            by_cases h4 : b + 256 * c < 253
            · rw [if_pos h4]; simp [readV, h2, h4]
            · rw [if_neg h4]; simp [readV, h2, h4]
        · rw [show (a != 253) = true from bne_iff_ne.2 h2]
          have e := readV_wide h1 h2 r
          rw [e]; exact bad
theorem FnExactReadVar : laws_FnExactReadVar.Pure := by
  intro l hm hl hw
  have hb : ∀ x ∈ l, 0 ≤ x ∧ x ≤ 255 := fun x hx => wf8 (hw x hx)
  have hl' : l.length ≤ 140737488351232 := by omega
  refine Ev.rounds (g := fun k => laws_FnExactReadVar.f k l) ?_
  unfold laws_FnExactReadVar.f
  by_cases hc : (l.length : Int) > 1048576
  · exact ev_if hc (Ev.now _)
  refine ev_ifn hc ?_
  refine ev_bind (laws_toByteS_ev hl') (ev_bind0 (spec_ReadVar_eq l hb) ?_)
  refine ev_bind (laws_toByteS_ev hl') (ev_bind (impl_ReadVar_ev hb) ?_)
  refine ev_bind0 (a := true) (by unfold laws_eqVarResult.f; rw [if_pos rfl, if_pos rfl, if_pos rfl]) (ev_if rfl ?_)
  refine ev_bind (laws_toByteS_ev hl') (ev_bind (laws_eqByteS_refl hl') ?_)
  exact ev_if rfl (Ev.now _)

end Go.Proofs.Ytdggjfakhhhbeaa.Pure
