/- for every code, leaves that are told twice are found out, as the law FnTwins says: it answers true. -/
import Derived.Test.YtjgnjhbleiempaaQFnTwinsx1
import Derived.Test.YtjgnjhbleiempaaQFnTwinsx2
import Derived.Test.YtjgnjhbleiempaaQFnTwinsx3
import Derived.Test.YtjgnjhbleiempaaQFnTwinsx4
import Derived.Test.YtjgnjhbleiempaaQFnTwinsx5
import Derived.Test.YtjgnjhbleiempaaQFnTwinsx6
namespace Go.Proofs.Ytjgnjhbleiempaa.Pure
open Go.RowKit Go.Proofs.Ytjgnjhbleiempaa.QFnTwins Go.Proofs.YtjgnjhbleiempaaW.PrintWords Go.Proofs.YtjgnjhbleiempaaW.PrintLast
set_option linter.unusedVariables false
set_option linter.unusedSimpArgs false

theorem wrap_id {x : Int} (h1 : -9223372036854775808 ≤ x) (h2 : x ≤ 9223372036854775807) : wrap64 x = x := by
  unfold wrap64; omega
theorem wf64 {x : Int} (h : (Lit.int .i64 x).wf = true) : -9223372036854775808 ≤ x ∧ x ≤ 9223372036854775807 := by
  simpa [Lit.wf, IntKind.min, IntKind.max, IntKind.signed, IntKind.bits] using h
theorem wf8 {x : Int} (h : (Lit.int .u8 x).wf = true) : 0 ≤ x ∧ x ≤ 255 := by
  simpa [Lit.wf, IntKind.min, IntKind.max, IntKind.signed, IntKind.bits] using h
theorem ev_some {α : Type} {g : Nat → Option α} {r : α} (h : ∀ k, g k = some r) : Ev g r := ⟨0, fun k _ => h k⟩
theorem ev_succ {α : Type} {g : Nat → Option α} {r : α} (h : ∀ k, g (k + 1) = some r) : Ev g r := Ev.step h (Ev.now r)
/-- A call whose answer is known, and what follows. -/
theorem ev_bind {α β : Type} {g : Nat → Option α} {f : α → Nat → Option β} {a : α} {r : β} (h : Ev g a) (k : Ev (f a) r) : Ev (fun n => (g n).bind fun t => f t n) r :=
  Ev.bind (f := fun n t => f t n) h k
theorem ev_if {α : Type} {p : Prop} [Decidable p] {g f : Nat → Option α} {r : α} (hp : p) (k : Ev g r) : Ev (fun n => if p then g n else f n) r :=
  Ev.congr (fun n => if_pos hp) k
theorem ev_ifn {α : Type} {p : Prop} [Decidable p] {g f : Nat → Option α} {r : α} (hp : ¬ p) (k : Ev f r) : Ev (fun n => if p then g n else f n) r :=
  Ev.congr (fun n => if_neg hp) k
theorem ev_bind0 {α β : Type} {g : Option α} {f : α → Nat → Option β} {a : α} {r : β} (h : g = some a) (k : Ev (f a) r) : Ev (fun n => g.bind fun t => f t n) r := by
  subst h; exact k
theorem rd_mid (pre : List Int) (b : Int) (suf : List Int) : rd (pre ++ b :: suf) (pre.length : Int) = b := by
  unfold rd
  simp
theorem rd_at {l : List Int} {i : Int} (h0 : 0 ≤ i) (h1 : i < l.length) : rd l i = l[i.toNat]'(by omega) := by
  unfold rd
  rw [List.getD_eq_getElem?_getD, List.getElem?_eq_getElem (by omega)]; rfl
theorem split_at_len {α : Type} (l : List α) (n : Nat) (h : n ≤ l.length) : ∃ pre suf, l = pre ++ suf ∧ pre.length = n :=
  ⟨l.take n, l.drop n, (List.take_append_drop n l).symm, by simp; omega⟩

/-- One byte more in a sum. -/
def stepS (a b : Int) : Int := (33 * a + b + 1) % 2147483647
/-- The sum of bytes. -/
def sumB (l : List Int) : Int := l.foldl stepS 5381
def Bytes (l : List Int) : Prop := ∀ x ∈ l, 0 ≤ x ∧ x ≤ 255
theorem stepS_bd (a b : Int) : 0 ≤ stepS a b ∧ stepS a b < 2147483647 := by unfold stepS; omega
theorem sumB_bd_go (l : List Int) : ∀ a : Int, 0 ≤ a → a < 2147483647 → 0 ≤ l.foldl stepS a ∧ l.foldl stepS a < 2147483647 := by
  induction l with
  | nil => intro a h0 h1; exact ⟨h0, h1⟩
  | cons b l ih => intro a _ _; exact ih _ (stepS_bd a b).1 (stepS_bd a b).2
theorem sumB_bd (l : List Int) : 0 ≤ sumB l ∧ sumB l ≤ 2147483646 := by
  have := sumB_bd_go l 5381 (by omega) (by omega)
  unfold sumB; omega
theorem step_wrap {a b : Int} (h0 : 0 ≤ a) (h1 : a < 2147483647) (hb : 0 ≤ b ∧ b ≤ 255) :
    Int.tmod (wrap64 ((wrap64 ((wrap64 (a * 33)) + (wrap64 b))) + 1)) 2147483647 = stepS a b := by
  rw [wrap_id (x := a * 33) (by omega) (by omega), wrap_id (x := b) (by omega) (by omega), wrap_id (x := a * 33 + b) (by omega) (by omega), wrap_id (x := a * 33 + b + 1) (by omega) (by omega), Int.tmod_eq_emod_of_nonneg (by omega)]
  unfold stepS; rw [Int.mul_comm a 33]

theorem rd_byte {c : List Int} (hb : Bytes c) (i : Int) : 0 ≤ rd c i ∧ rd c i ≤ 255 := by
  unfold rd
  rw [List.getD_eq_getElem?_getD]
  cases h : c[i.toNat]? with
  | none => simp
  | some x => exact hb x (List.mem_of_getElem? h)
/-- A draw: a number below m, and the next place. -/
theorem spec_l1Next_some {c : List Int} (hb : Bytes c) (hc : c.length ≤ 140737488351232) (n m : Int) (h0 : 0 ≤ n) (h1 : n ≤ 1000000) (hm : m ≤ 1000000) :
    ∃ v, spec_l1Next.f c n m = some (v, n + 1) ∧ 0 ≤ v ∧ (1 ≤ m → v < m) ∧ (m < 1 → v = 0) := by
  unfold spec_l1Next.f
  rw [wrap_id (x := n + 1) (by omega) (by omega), wrap_id (x := n + 1 - 1) (by omega) (by omega), show n + 1 - 1 = n by omega]
  by_cases hm1 : m < 1
  · rw [if_pos hm1]; exact ⟨0, rfl, by omega, by omega, fun _ => rfl⟩
  rw [if_neg hm1]
  by_cases hk : (c.length : Int) = 0
  · rw [if_pos hk, if_neg (by omega), wrap_id (x := n * 7) (by omega) (by omega), Int.tmod_eq_emod_of_nonneg (by omega)]
    exact ⟨_, rfl, Int.emod_nonneg _ (by omega), fun _ => Int.emod_lt_of_pos _ (by omega), fun h => absurd h hm1⟩
  rw [if_neg hk]
  have hkp : (0 : Int) < c.length := by omega
  have e1 : Int.tmod n (c.length : Int) = n % (c.length : Int) := Int.tmod_eq_emod_of_nonneg h0
  have e2 : Int.tdiv n (c.length : Int) = n / (c.length : Int) := Int.tdiv_eq_ediv_of_nonneg h0
  have b1 := Int.emod_nonneg n (b := (c.length : Int)) (by omega)
  have b2 := Int.emod_lt_of_pos n hkp
  have b3 : 0 ≤ n / (c.length : Int) := Int.ediv_nonneg h0 (by omega)
  have b4 : n / (c.length : Int) ≤ n := Int.ediv_le_self _ h0
  have r1 := rd_byte hb (n % (c.length : Int))
  rw [e1, e2, if_pos b1, if_pos b2]
  rw [wrap_id (x := rd c (n % (c.length : Int))) (by omega) (by omega), wrap_id (x := n / (c.length : Int)) (by omega) (by omega), wrap_id (x := n / (c.length : Int) * 37) (by omega) (by omega), wrap_id (x := rd c (n % (c.length : Int)) + n / (c.length : Int) * 37) (by omega) (by omega)]
  by_cases h200 : m > 200
  · rw [if_pos h200]
    rw [wrap_id (x := n + 1) (by omega) (by omega)]
    have e3 : Int.tmod (n + 1) (c.length : Int) = (n + 1) % (c.length : Int) := Int.tmod_eq_emod_of_nonneg (by omega)
    have b5 := Int.emod_nonneg (n + 1) (b := (c.length : Int)) (by omega)
    have b6 := Int.emod_lt_of_pos (n + 1) hkp
    have r2 := rd_byte hb ((n + 1) % (c.length : Int))
    rw [e3, if_pos b5, if_pos b6, if_neg (by omega)]
    generalize rd c (n % (c.length : Int)) = x at *
    generalize rd c ((n + 1) % (c.length : Int)) = y at *
    generalize n / (c.length : Int) = z at *
    rw [wrap_id (x := (x + z * 37) * 251) (by omega) (by omega), wrap_id (x := y) (by omega) (by omega), wrap_id (x := y * 13) (by omega) (by omega), wrap_id (x := (x + z * 37) * 251 + y * 13) (by omega) (by omega), wrap_id (x := (x + z * 37) * 251 + y * 13 + n) (by omega) (by omega), Int.tmod_eq_emod_of_nonneg (by omega)]
    exact ⟨_, rfl, Int.emod_nonneg _ (by omega), fun _ => Int.emod_lt_of_pos _ (by omega), fun h => absurd h hm1⟩
  · rw [if_neg h200, if_neg (by omega), Int.tmod_eq_emod_of_nonneg (by omega)]
    exact ⟨_, rfl, Int.emod_nonneg _ (by omega), fun _ => Int.emod_lt_of_pos _ (by omega), fun h => absurd h hm1⟩

theorem rd_mem {l : List Int} {i : Int} (h0 : 0 ≤ i) (h1 : i < l.length) : rd l i ∈ l := by
  rw [rd_at h0 h1]; exact List.getElem_mem _
theorem spec_l1Pick_some {c : List Int} (hb : Bytes c) (hc : c.length ≤ 140737488351232) (n : Int) (h0 : 0 ≤ n) (h1 : n ≤ 1000000) (l : List Int) (hl : 1 ≤ l.length) (hl2 : l.length ≤ 1000) :
    ∃ v, v ∈ l ∧ spec_l1Pick.f c n l = some (v, n + 1) := by
  unfold spec_l1Pick.f
  obtain ⟨j, hj, j0, j1, _⟩ := spec_l1Next_some hb hc n (l.length : Int) h0 h1 (by omega)
  rw [hj]
  simp only [Option.bind_some]
  rw [if_pos j0, if_pos (j1 (by omega))]
  exact ⟨_, rd_mem j0 (j1 (by omega)), rfl⟩

theorem spec_l4Draw_l0 {c : List Int} (hb : Bytes c) (hc : c.length ≤ 140737488351232) : ∀ (d : Nat) (out : List Int) (n : Int), 0 ≤ n → n + 4 * d ≤ 1000 → out.length + d ≤ 100 →
    ∃ r n', Ev (fun k => spec_l4Draw.l0 k out d c n) (r, n') ∧ r.length ≤ 101 ∧ 0 ≤ n' ∧ n' ≤ 1100
  | 0, out, n, h0, h1, h2 => by
    obtain ⟨x, hx, x0, x1, _⟩ := spec_l1Next_some hb hc n 10 h0 (by omega) (by omega)
    by_cases e0 : x = 0
    · obtain ⟨v, _, hv⟩ := spec_l1Pick_some hb hc (n + 1) (by omega) (by omega) [-1, 2147483647, 7] (by simp) (by simp)
      refine ⟨out ++ [v], n + 1 + 1, ev_succ (fun k => ?_), by simp; omega, by omega, by omega⟩
      rw [spec_l4Draw.l0, if_neg (by omega), hx]
      simp only [Option.bind_some]
      rw [if_pos e0, hv]
      simp only [Option.bind_some]
      rw [if_pos (by omega)]
    · by_cases e1 : x = 1
      · obtain ⟨v, hvm, hv⟩ := spec_l1Pick_some hb hc (n + 1) (by omega) (by omega) [0, 9] (by simp) (by simp)
        have hv2 : 0 ≤ v ∧ v ≤ 9 := by
          simp only [List.mem_cons, List.not_mem_nil, or_false] at hvm
          omega
        refine ⟨List.replicate v.toNat 0, n + 1 + 1, ev_succ (fun k => ?_), by rw [List.length_replicate]; omega, by omega, by omega⟩
        rw [spec_l4Draw.l0, if_neg (by omega), hx]
        simp only [Option.bind_some]
        rw [if_neg e0, if_pos e1, hv]
        simp only [Option.bind_some]
        rw [if_pos hv2.1, if_pos (by omega)]
      · refine ⟨out, n + 1, ev_succ (fun k => ?_), by omega, by omega, by omega⟩
        rw [spec_l4Draw.l0, if_neg (by omega), hx]
        simp only [Option.bind_some]
        rw [if_neg e0, if_neg e1]
  | d + 1, out, n, h0, h1, h2 => by
    obtain ⟨x, hx, x0, x1, _⟩ := spec_l1Next_some hb hc n 1000 h0 (by omega) (by omega)
    obtain ⟨v, _, hv⟩ := spec_l1Pick_some hb hc (n + 1) (by omega) (by omega) [x, 7, 2147483646] (by simp) (by simp)
    obtain ⟨r, n', hr, hl⟩ := spec_l4Draw_l0 hb hc d (out ++ [v]) (n + 1 + 1) (by omega) (by omega) (by simp; omega)
    refine ⟨r, n', Ev.step (fun k => ?_) hr, hl⟩
    rw [spec_l4Draw.l0, if_pos (by omega), hx]
    simp only [Option.bind_some]
    rw [hv]
    simp only [Option.bind_some]
    rw [if_pos (by omega), wrap_id (by omega) (by omega)]
    congr 1
    omega
theorem spec_l4Draw_ev {c : List Int} (hb : Bytes c) (hc : c.length ≤ 140737488351232) (n : Int) (h0 : 0 ≤ n) (h1 : n ≤ 100) : ∃ r n', Ev (fun k => spec_l4Draw.f k c n) (r, n') ∧ r.length ≤ 101 ∧ 0 ≤ n' ∧ n' ≤ 1100 := by
  obtain ⟨x, hx, x0, x1, _⟩ := spec_l1Next_some hb hc n 8 (by omega) (by omega) (by omega)
  have := x1 (by omega)
  obtain ⟨r, n', hr, hl⟩ := spec_l4Draw_l0 hb hc (1 + x).toNat [] (n + 1) (by omega) (by omega) (by simp; omega)
  rw [Int.toNat_of_nonneg (by omega)] at hr
  refine ⟨r, n', ?_, hl⟩
  unfold spec_l4Draw.f
  refine ev_bind0 hx ?_
  simp only []
  rw [wrap_id (by omega) (by omega)]
  exact hr

theorem spec_l1Sum_l0 (suf : List Int) : ∀ (pre : List Int) (a : Int), 0 ≤ a → a < 2147483647 → Bytes suf → (pre.length : Int) + suf.length ≤ 9223372036854775806 →
    Ev (fun k => spec_l1Sum.l0 k (pre ++ suf) a pre.length) (suf.foldl stepS a) := by
  induction suf with
  | nil => intro pre a _ _ _ _; exact ev_succ (fun k => by simp [spec_l1Sum.l0])
  | cons b suf ih =>
    intro pre a h0 h1 hb hl
    have hb0 := hb b List.mem_cons_self
    simp only [List.length_cons, Int.natCast_add, Int.natCast_one] at hl
    have h := ih (pre ++ [b]) (stepS a b) (stepS_bd a b).1 (stepS_bd a b).2 (fun x hx => hb x (List.mem_cons_of_mem _ hx)) (by simp; omega)
    refine Ev.step (fun k => ?_) h
    rw [spec_l1Sum.l0]
    rw [if_pos (by simp; omega), if_pos (by omega), rd_mid, step_wrap h0 h1 hb0, wrap_id (by omega) (by omega)]
    simp
theorem spec_l1Sum_ev {l : List Int} (hb : Bytes l) (hl : (l.length : Int) ≤ 9223372036854775806) : Ev (fun k => spec_l1Sum.f k l) (sumB l) :=
  spec_l1Sum_l0 l [] 5381 (by omega) (by omega) hb (by simpa using hl)

theorem impl_sumOf_l0 (suf : List Int) : ∀ (pre : List Int) (a : Int), 0 ≤ a → a < 2147483647 → Bytes suf → (pre.length : Int) + suf.length ≤ 9223372036854775806 →
    Ev (fun k => impl_sumOf.l0 k a (pre ++ suf) ((pre ++ suf).length : Int) pre.length) (suf.foldl stepS a) := by
  induction suf with
  | nil => intro pre a _ _ _ _; exact ev_succ (fun k => by simp [impl_sumOf.l0])
  | cons b suf ih =>
    intro pre a h0 h1 hb hl
    have hb0 := hb b List.mem_cons_self
    simp only [List.length_cons, Int.natCast_add, Int.natCast_one] at hl
    have h := ih (pre ++ [b]) (stepS a b) (stepS_bd a b).1 (stepS_bd a b).2 (fun x hx => hb x (List.mem_cons_of_mem _ hx)) (by simp; omega)
    refine Ev.step (fun k => ?_) h
    rw [impl_sumOf.l0]
    rw [if_pos (by simp; omega), if_pos (by omega), if_pos (by simp; omega), rd_mid, Int.mul_comm 33 a, step_wrap h0 h1 hb0, wrap_id (by omega) (by omega)]
    simp
theorem impl_sumOf_ev {l : List Int} (hb : Bytes l) (hl : (l.length : Int) ≤ 9223372036854775806) : Ev (fun k => impl_sumOf.f k l) (sumB l) :=
  impl_sumOf_l0 l [] 5381 (by omega) (by omega) hb (by simpa using hl)



/-- The four bytes of a number. -/
def be4 (n : Int) : List Int := [n / 16777216 % 256, n / 65536 % 256, n / 256 % 256, n % 256]
theorem be4_bytes (n : Int) : Bytes (be4 n) := by
  intro x hx
  simp only [be4, List.mem_cons, List.not_mem_nil, or_false] at hx
  rcases hx with rfl | rfl | rfl | rfl <;> omega
theorem Bytes.app {a b : List Int} (ha : Bytes a) (hb : Bytes b) : Bytes (a ++ b) := by
  intro x hx; rcases List.mem_append.1 hx with h | h
  · exact ha x h
  · exact hb x h
/-- The sum of numbers. -/
def sumI (l : List Int) : Int := sumB (l.flatMap be4)
theorem sumI_bd (l : List Int) : 0 ≤ sumI l ∧ sumI l ≤ 2147483646 := sumB_bd _
theorem spec_l1SumInts_l0 (suf : List Int) : ∀ (pre acc : List Int), Bytes acc → (acc.length : Int) + 4 * suf.length < 140737488355328 → (pre.length : Int) + suf.length ≤ 9223372036854775806 →
    Ev (fun k => spec_l1SumInts.l0 k (pre ++ suf) acc pre.length) (sumB (acc ++ suf.flatMap be4)) := by
  induction suf with
  | nil =>
    intro pre acc hb hl _
    simp only [List.append_nil, List.flatMap_nil]
    refine Ev.step (f := fun k => (spec_l1Sum.f k acc).bind fun t => some t) (fun k => by rw [spec_l1SumInts.l0]; rw [if_neg (by omega)]) ?_
    exact ev_bind (spec_l1Sum_ev hb (by simp at hl; omega)) (Ev.now _)
  | cons b suf ih =>
    intro pre acc hb hl hp
    simp only [List.length_cons, Int.natCast_add, Int.natCast_one] at hl hp
    have h := ih (pre ++ [b]) (acc ++ be4 b) (hb.app (be4_bytes b)) (by simp [be4]; omega) (by simp; omega)
    refine Ev.step (fun k => ?_) (by simpa using h)
    rw [spec_l1SumInts.l0]
    rw [if_pos (by simp; omega), if_pos (by omega), rd_mid]
    simp only [spec_l1Four.f, Option.bind_some]
    rw [if_pos (by simp; omega), wrap_id (by omega) (by omega)]
    simp [be4]
theorem spec_l1SumInts_ev {l : List Int} (hl : l.length ≤ 1000) : Ev (fun k => spec_l1SumInts.f k l) (sumI l) :=
  spec_l1SumInts_l0 l [] [] (by intro x hx; cases hx) (by simp; omega) (by simp; omega)
theorem impl_high_ev (a : Int) : Ev (fun k => impl_high.f k a 4) (be4 a) := by
  refine Ev.of (impl_high.mono a 4) (k := 5) ?_
  have w3 : wrap64 (3) = 3 := wrap_id (by omega) (by omega)
  have w2 : wrap64 (2) = 2 := wrap_id (by omega) (by omega)
  have w1 : wrap64 (1) = 1 := wrap_id (by omega) (by omega)
  have w0 : wrap64 (0) = 0 := wrap_id (by omega) (by omega)
  have wm : wrap64 (-1) = -1 := wrap_id (by omega) (by omega)
  have d1 : a / 256 / 256 = a / 65536 := by omega
  have d2 : a / 65536 / 256 = a / 16777216 := by omega
  simp [impl_high.f, impl_high.l0, w3, w2, w1, w0, wm, be4, List.replicate, d1, d2]
theorem impl_sumInts_l0 (suf : List Int) : ∀ (pre acc : List Int), Bytes acc → (acc.length : Int) + 4 * suf.length < 140737488355328 → (pre.length : Int) + suf.length ≤ 9223372036854775806 →
    Ev (fun k => impl_sumInts.l0 k acc (pre ++ suf) ((pre ++ suf).length : Int) pre.length) (sumB (acc ++ suf.flatMap be4)) := by
  induction suf with
  | nil =>
    intro pre acc hb hl _
    simp only [List.append_nil, List.flatMap_nil]
    refine Ev.step (f := fun k => (impl_sumOf.f k acc).bind fun t => some t) (fun k => by rw [impl_sumInts.l0]; rw [if_neg (by omega)]) ?_
    exact ev_bind (impl_sumOf_ev hb (by simp at hl; omega)) (Ev.now _)
  | cons b suf ih =>
    intro pre acc hb hl hp
    simp only [List.length_cons, Int.natCast_add, Int.natCast_one] at hl hp
    have h := ih (pre ++ [b]) (acc ++ be4 b) (hb.app (be4_bytes b)) (by simp [be4]; omega) (by simp; omega)
    refine Ev.step (f := fun k => (impl_high.f k b 4).bind fun t => if acc.length + t.length < 140737488355328 then impl_sumInts.l0 k (acc ++ t) (pre ++ b :: suf) ((pre ++ b :: suf).length : Int) ((pre.length : Int) + 1) else none) (fun k => ?_) ?_
    · rw [impl_sumInts.l0]
      rw [if_pos (by simp; omega), if_pos (by omega), if_pos (by simp; omega), rd_mid, wrap_id (by omega) (by omega)]
    · refine ev_bind (impl_high_ev b) (ev_if (by simp [be4]; omega) ?_)
      simpa using h
theorem impl_sumInts_ev {l : List Int} (hl : l.length ≤ 1000) : Ev (fun k => impl_sumInts.f k l) (sumI l) :=
  impl_sumInts_l0 l [] [] (by intro x hx; cases hx) (by simp; omega) (by simp; omega)

/-- All numbers of a list lie between two. -/
def AllIn (l : List Int) (lo hi : Int) : Prop := ∀ x ∈ l, lo ≤ x ∧ x ≤ hi
instance (l : List Int) (lo hi : Int) : Decidable (AllIn l lo hi) := by unfold AllIn; infer_instance
theorem AllIn_cons {b : Int} {l : List Int} {lo hi : Int} : AllIn (b :: l) lo hi ↔ (lo ≤ b ∧ b ≤ hi) ∧ AllIn l lo hi := by simp [AllIn]

/-- The sum with which one of a row is joined. -/
def mateV (l : List Int) (i : Nat) : Int := if i % 2 = 1 then l.getD (i - 1) 0 else if i + 1 < l.length then l.getD (i + 1) 0 else l.getD i 0
/-- The row above a row. -/
def aboveV : List Int → List Int
  | [] => []
  | [a] => [sumI [a, a]]
  | a :: b :: t => sumI [a, b] :: aboveV t
theorem aboveV_length : ∀ l : List Int, (aboveV l).length = (l.length + 1) / 2
  | [] => by simp [aboveV]
  | [_] => by simp [aboveV]
  | _ :: _ :: t => by simp only [aboveV, List.length_cons, aboveV_length t]; omega
/-- The sum at the top of a row, in at most n steps. -/
def rootN : Nat → List Int → Int
  | 0, l => l.getD 0 0
  | n + 1, l => if l.length > 1 then rootN n (aboveV l) else l.getD 0 0
theorem rd_getD (l : List Int) (i : Nat) : rd l (i : Int) = l.getD i 0 := by unfold rd; simp
theorem getD_app (pre suf : List Int) (i : Nat) : (pre ++ suf).getD (pre.length + i) 0 = suf.getD i 0 := by
  simp [List.getD_eq_getElem?_getD, List.getElem?_append_right]
theorem mateV_even (pre : List Int) (h : pre.length % 2 = 0) (a b : Int) (t : List Int) : mateV (pre ++ a :: b :: t) pre.length = b := by
  unfold mateV
  rw [if_neg (by omega), if_pos (by simp)]
  simp
theorem mateV_last (pre : List Int) (h : pre.length % 2 = 0) (a : Int) : mateV (pre ++ [a]) pre.length = a := by
  unfold mateV
  rw [if_neg (by omega), if_neg (by simp)]
  simp

theorem spec_l1In_eq (a b c : Int) : spec_l1In.f a b c = some (decide (b ≤ a ∧ a ≤ c)) := by
  unfold spec_l1In.f
  by_cases h : a ≥ b
  · rw [if_pos h]; congr 1; rw [Bool.eq_iff_iff]; simp; omega
  · rw [if_neg h]; congr 1; symm; simp; omega
theorem impl_in_eq (a b c : Int) : impl_in.f a b c = some (decide (b ≤ a ∧ a ≤ c)) := by
  unfold impl_in.f
  by_cases h : a ≥ b
  · rw [if_pos h]; congr 1; rw [Bool.eq_iff_iff]; simp; omega
  · rw [if_neg h]; congr 1; symm; simp; omega

theorem spec_l1All_l0 (lo hi : Int) (suf : List Int) : ∀ (pre : List Int), (pre.length : Int) + suf.length ≤ 9223372036854775806 →
    Ev (fun k => spec_l1All.l0 k (pre ++ suf) lo hi pre.length) (decide (AllIn suf lo hi)) := by
  induction suf with
  | nil => intro pre _; exact ev_succ (fun k => by rw [spec_l1All.l0, if_neg (by simp)]; simp [AllIn])
  | cons b suf ih =>
    intro pre hl
    simp only [List.length_cons, Int.natCast_add, Int.natCast_one] at hl
    have h := ih (pre ++ [b]) (by simp; omega)
    by_cases hb : lo ≤ b ∧ b ≤ hi
    · have e : decide (AllIn (b :: suf) lo hi) = decide (AllIn suf lo hi) := by simp [AllIn_cons, hb]
      rw [e]
      refine Ev.step (fun k => ?_) h
      rw [spec_l1All.l0, if_pos (by simp; omega), if_pos (by omega), rd_mid, spec_l1In_eq, wrap_id (by omega) (by omega)]
      simp [hb]
    · have e : decide (AllIn (b :: suf) lo hi) = false := by simp [AllIn_cons, hb]
      rw [e]
      refine ev_succ (fun k => ?_)
      rw [spec_l1All.l0, if_pos (by simp; omega), if_pos (by omega), rd_mid, spec_l1In_eq]
      simp [hb]
theorem spec_l1All_ev {l : List Int} (lo hi : Int) (hl : (l.length : Int) ≤ 9223372036854775806) : Ev (fun k => spec_l1All.f k l lo hi) (decide (AllIn l lo hi)) := by
  unfold spec_l1All.f
  exact spec_l1All_l0 lo hi l [] (by simpa using hl)

theorem spec_l4Join_ev (a b : Int) : Ev (fun k => spec_l4Join.f k a b) (sumI [a, b]) := by
  unfold spec_l4Join.f
  exact ev_bind (spec_l1SumInts_ev (by simp)) (Ev.now _)

theorem spec_l4Mate_eq (l : List Int) (i : Nat) (hi : i < l.length) (hl : l.length ≤ 1000) : spec_l4Mate.f l i = some (mateV l i) := by
  unfold spec_l4Mate.f mateV
  have hm : Int.tmod (i : Int) 2 = ((i % 2 : Nat) : Int) := by rw [Int.tmod_eq_emod_of_nonneg (by omega)]; omega
  rw [hm]
  by_cases h : i % 2 = 1
  · rw [if_pos (by omega), wrap_id (by omega) (by omega), if_neg (by omega), if_pos (by omega), if_pos (by omega), if_pos h]
    have : (i : Int) - 1 = ((i - 1 : Nat) : Int) := by omega
    rw [this, rd_getD]
  · rw [if_neg (by omega), wrap_id (by omega) (by omega), if_neg h]
    by_cases h2 : i + 1 < l.length
    · rw [if_neg (by omega), if_pos (by omega), if_pos (by omega), if_pos h2]
      have : (i : Int) + 1 = ((i + 1 : Nat) : Int) := by omega
      rw [this, rd_getD]
    · rw [if_pos (by omega), if_pos (by omega), if_pos (by omega), if_neg h2, rd_getD]
theorem spec_l4Above_l0 : ∀ (suf pre out : List Int), pre.length % 2 = 0 → pre.length + suf.length ≤ 1000 → out.length + suf.length ≤ 2000 →
    Ev (fun k => spec_l4Above.l0 k (pre ++ suf) out pre.length) (out ++ aboveV suf)
  | [], pre, out, _, _, _ => ev_succ (fun k => by rw [spec_l4Above.l0, if_neg (by simp)]; simp [aboveV])
  | [a], pre, out, he, hl, ho => by
    simp only [List.length_cons, List.length_nil] at hl ho
    refine Ev.step (f := fun k => (spec_l4Mate.f (pre ++ [a]) (pre.length : Int)).bind fun t => (spec_l4Join.f k a t).bind fun q => if out.length < 17592186044416 then spec_l4Above.l0 k (pre ++ [a]) (out ++ [q]) ((pre.length : Int) + 2) else none) (fun k => ?_) ?_
    · rw [spec_l4Above.l0, if_pos (by simp; omega), if_pos (by omega), rd_mid, wrap_id (by omega) (by omega)]
    · refine ev_bind0 (spec_l4Mate_eq _ _ (by simp) (by simp; omega)) ?_
      rw [mateV_last pre he]
      refine ev_bind (spec_l4Join_ev a a) (ev_if (by omega) ?_)
      exact ev_succ (fun k => by rw [spec_l4Above.l0, if_neg (by simp)]; simp [aboveV])
  | a :: b :: t, pre, out, he, hl, ho => by
    simp only [List.length_cons] at hl ho
    have ih := spec_l4Above_l0 t (pre ++ [a, b]) (out ++ [sumI [a, b]]) (by simp; omega) (by simp; omega) (by simp; omega)
    refine Ev.step (f := fun k => (spec_l4Mate.f (pre ++ a :: b :: t) (pre.length : Int)).bind fun u => (spec_l4Join.f k a u).bind fun q => if out.length < 17592186044416 then spec_l4Above.l0 k (pre ++ a :: b :: t) (out ++ [q]) ((pre.length : Int) + 2) else none) (fun k => ?_) ?_
    · rw [spec_l4Above.l0, if_pos (by simp; omega), if_pos (by omega), rd_mid, wrap_id (by omega) (by omega)]
    · refine ev_bind0 (spec_l4Mate_eq _ _ (by simp) (by simp; omega)) ?_
      rw [mateV_even pre he]
      refine ev_bind (spec_l4Join_ev a b) (ev_if (by omega) ?_)
      simpa [aboveV] using ih
theorem spec_l4Above_ev {l : List Int} (hl : l.length ≤ 1000) : Ev (fun k => spec_l4Above.f k l) (aboveV l) := by
  unfold spec_l4Above.f
  exact spec_l4Above_l0 l [] [] rfl (by simpa using hl) (by simp; omega)
/-- The code of leaves. -/
def leavesV (l : List Int) : Int := if 1 ≤ l.length ∧ l.length ≤ 8 then (if AllIn l 0 2147483646 then 0 else 3) else 2
theorem spec_l4Asked_ev {l : List Int} (hl : l.length ≤ 140737488351232) : Ev (fun k => spec_l4Asked.f k l) (leavesV l) := by
  unfold spec_l4Asked.f leavesV
  by_cases h1 : l.length < 1
  · rw [if_neg (by omega)]
    exact ev_if (by omega) (ev_succ (fun k => by rw [spec_l4Asked.j0, if_pos rfl]))
  · refine ev_ifn (by omega) ?_
    by_cases h2 : l.length > 8
    · rw [if_neg (by omega)]
      exact ev_succ (fun k => by rw [spec_l4Asked.j0, if_pos (by simp; omega)])
    · rw [if_pos (by omega)]
      refine Ev.step (f := fun k => (spec_l1All.f k l 0 2147483646).bind fun t => if t = true then some 0 else some 3) (fun k => by rw [spec_l4Asked.j0, if_neg (by simp; omega)]) ?_
      refine ev_bind (spec_l1All_ev 0 2147483646 (by omega)) ?_
      by_cases ha : AllIn l 0 2147483646
      · rw [if_pos ha]; exact ev_if (by simpa using ha) (Ev.now _)
      · rw [if_neg ha]; exact ev_ifn (by simpa using ha) (Ev.now _)

theorem impl_isSum_eq (a : Int) : impl_isSum.f a = some (decide (0 ≤ a ∧ a ≤ 2147483646)) := by
  unfold impl_isSum.f; rw [impl_in_eq]; rfl

theorem slices_IndexFunc_at_impl_sumsFault_1_l0 (p : Int → Bool) (hp : ∀ x, impl_sumsFault_1.f x = some (p x)) (suf : List Int) : ∀ (pre : List Int), (pre.length : Int) + suf.length ≤ 9223372036854775806 →
    ∃ r : Int, Ev (fun k => slices_IndexFunc_at_impl_sumsFault_1.l0 k (pre ++ suf) ((pre ++ suf).length : Int) pre.length) r ∧ decide (r ≥ 0) = suf.any p := by
  induction suf with
  | nil => intro pre _; exact ⟨-1, ev_succ (fun k => by rw [slices_IndexFunc_at_impl_sumsFault_1.l0, if_neg (by simp)]), by simp⟩
  | cons b suf ih =>
    intro pre hl
    simp only [List.length_cons, Int.natCast_add, Int.natCast_one] at hl
    cases hb : p b with
    | true =>
      refine ⟨pre.length, ev_succ (fun k => ?_), by simp [hb]⟩
      rw [slices_IndexFunc_at_impl_sumsFault_1.l0, if_pos (by simp; omega), if_pos (by omega), if_pos (by simp; omega), rd_mid, hp, hb]
      rfl
    | false =>
      obtain ⟨r, h, hr⟩ := ih (pre ++ [b]) (by simp; omega)
      refine ⟨r, Ev.step (fun k => ?_) h, by simp [hb, hr]⟩
      rw [slices_IndexFunc_at_impl_sumsFault_1.l0, if_pos (by simp; omega), if_pos (by omega), if_pos (by simp; omega), rd_mid, hp, hb, wrap_id (by omega) (by omega)]
      simp
theorem slices_ContainsFunc_at_impl_sumsFault_1_ev (p : Int → Bool) (hp : ∀ x, impl_sumsFault_1.f x = some (p x)) {l : List Int} (hl : (l.length : Int) ≤ 9223372036854775806) :
    Ev (fun k => slices_ContainsFunc_at_impl_sumsFault_1.f k l) (l.any p) := by
  obtain ⟨r, h, hr⟩ := slices_IndexFunc_at_impl_sumsFault_1_l0 p hp l [] (by simpa using hl)
  rw [← hr]
  unfold slices_ContainsFunc_at_impl_sumsFault_1.f slices_IndexFunc_at_impl_sumsFault_1.f
  exact ev_bind (by simpa using h) (Ev.now _)

def badSum (x : Int) : Bool := !decide (0 ≤ x ∧ x ≤ 2147483646)
theorem impl_sumsFault_1_eq (x : Int) : impl_sumsFault_1.f x = some (badSum x) := by
  unfold impl_sumsFault_1.f badSum; rw [impl_isSum_eq]; rfl
theorem any_badSum (l : List Int) : l.any badSum = !decide (AllIn l 0 2147483646) := by
  induction l with
  | nil => simp [AllIn]
  | cons b l ih => simp only [List.any_cons, ih, badSum]; by_cases h : 0 ≤ b ∧ b ≤ 2147483646 <;> by_cases h2 : AllIn l 0 2147483646 <;> simp [AllIn_cons, h, h2]
theorem impl_sumsFault_ev {l : List Int} (hl : (l.length : Int) ≤ 9223372036854775806) : Ev (fun k => impl_sumsFault.f k l) (if AllIn l 0 2147483646 then 0 else 3) := by
  unfold impl_sumsFault.f
  refine ev_bind (slices_ContainsFunc_at_impl_sumsFault_1_ev badSum impl_sumsFault_1_eq hl) ?_
  rw [any_badSum]
  by_cases h : AllIn l 0 2147483646
  · rw [if_pos h]; exact ev_ifn (by simp [h]) (Ev.now _)
  · rw [if_neg h]; exact ev_if (by simp [h]) (Ev.now _)

theorem impl_xor_all : ∀ n : Nat, n < 1024 → Go.bits .xor .i64 (n : Int) 1 = if n % 2 = 1 then (n : Int) - 1 else n + 1 := by decide +kernel
theorem impl_partner_eq (l : List Int) (i : Nat) (hi : i < l.length) (hl : l.length ≤ 1000) : impl_partner.f l i = some (mateV l i) := by
  unfold impl_partner.f mateV
  rw [impl_xor_all i (by omega)]
  by_cases h : i % 2 = 1
  · rw [if_pos h, if_pos (by omega), if_pos (by omega), if_pos h]
    have : (i : Int) - 1 = ((i - 1 : Nat) : Int) := by omega
    rw [this, rd_getD]
  · rw [if_neg h, if_neg h]
    by_cases h2 : i + 1 < l.length
    · rw [if_pos (by omega), if_pos (by omega), if_pos h2]
      have : (i : Int) + 1 = ((i + 1 : Nat) : Int) := by omega
      rw [this, rd_getD]
    · rw [if_neg (by omega), if_pos (by omega), if_pos (by omega), if_neg h2, rd_getD]
theorem impl_above_l0 : ∀ (suf pre out : List Int), pre.length % 2 = 0 → pre.length + suf.length ≤ 1000 → out.length + suf.length ≤ 2000 →
    Ev (fun k => impl_above.l0 k (pre ++ suf) out pre.length) (out ++ aboveV suf)
  | [], pre, out, _, _, _ => ev_succ (fun k => by rw [impl_above.l0, if_neg (by simp)]; simp [aboveV])
  | [a], pre, out, he, hl, ho => by
    simp only [List.length_cons, List.length_nil] at hl ho
    refine Ev.step (f := fun k => (impl_partner.f (pre ++ [a]) (pre.length : Int)).bind fun t => (impl_sumInts.f k [a, t]).bind fun q => if out.length < 17592186044416 then impl_above.l0 k (pre ++ [a]) (out ++ [q]) ((pre.length : Int) + 2) else none) (fun k => ?_) ?_
    · rw [impl_above.l0, if_pos (by simp; omega), if_pos (by omega), rd_mid, wrap_id (by omega) (by omega)]
    · refine ev_bind0 (impl_partner_eq _ _ (by simp) (by simp; omega)) ?_
      rw [mateV_last pre he]
      refine ev_bind (impl_sumInts_ev (by simp)) (ev_if (by omega) ?_)
      exact ev_succ (fun k => by rw [impl_above.l0, if_neg (by simp)]; simp [aboveV])
  | a :: b :: t, pre, out, he, hl, ho => by
    simp only [List.length_cons] at hl ho
    have ih := impl_above_l0 t (pre ++ [a, b]) (out ++ [sumI [a, b]]) (by simp; omega) (by simp; omega) (by simp; omega)
    refine Ev.step (f := fun k => (impl_partner.f (pre ++ a :: b :: t) (pre.length : Int)).bind fun u => (impl_sumInts.f k [a, u]).bind fun q => if out.length < 17592186044416 then impl_above.l0 k (pre ++ a :: b :: t) (out ++ [q]) ((pre.length : Int) + 2) else none) (fun k => ?_) ?_
    · rw [impl_above.l0, if_pos (by simp; omega), if_pos (by omega), rd_mid, wrap_id (by omega) (by omega)]
    · refine ev_bind0 (impl_partner_eq _ _ (by simp) (by simp; omega)) ?_
      rw [mateV_even pre he]
      refine ev_bind (impl_sumInts_ev (by simp)) (ev_if (by omega) ?_)
      simpa [aboveV] using ih
theorem impl_above_ev {l : List Int} (hl : l.length ≤ 1000) : Ev (fun k => impl_above.f k l) (aboveV l) := by
  unfold impl_above.f
  exact impl_above_l0 l [] [] rfl (by simpa using hl) (by simp; omega)

theorem impl_leavesFault_ev {l : List Int} (hl : l.length ≤ 140737488351232) : Ev (fun k => impl_leavesFault.f k l) (leavesV l) := by
  unfold impl_leavesFault.f leavesV
  refine ev_bind0 (impl_in_eq _ _ _) ?_
  by_cases h : 1 ≤ l.length ∧ l.length ≤ 8
  · rw [if_pos h]
    refine ev_if (by simp; omega) (ev_bind (impl_sumsFault_ev (by omega)) (Ev.now _))
  · rw [if_neg h]
    exact ev_ifn (by simp; omega) (Ev.now _)
theorem leavesV_0 {l : List Int} (h : leavesV l = 0) : 1 ≤ l.length ∧ l.length ≤ 8 ∧ AllIn l 0 2147483646 := by
  unfold leavesV at h
  by_cases h1 : 1 ≤ l.length ∧ l.length ≤ 8
  · rw [if_pos h1] at h
    by_cases h2 : AllIn l 0 2147483646
    · exact ⟨h1.1, h1.2, h2⟩
    · rw [if_neg h2] at h; omega
  · rw [if_neg h1] at h; omega

/-- Are two neighbours that are joined alike? -/
def pairV : List Int → Bool
  | a :: b :: t => a == b || pairV t
  | _ => false
def twinN : Nat → List Int → Bool
  | 0, l => if l.length > 1 then pairV l else false
  | n + 1, l => if l.length > 1 then pairV l || twinN n (aboveV l) else false
theorem spec_l4Twin_l1 (n : Nat) (r : Bool) : ∀ (suf pre : List Int), pre.length % 2 = 0 → pre.length + suf.length ≤ 1000 →
    (pairV suf = false → Ev (fun k => (spec_l4Above.f k (pre ++ suf)).bind fun t => spec_l4Twin.l0 k t) r) → (pairV suf = true → r = true) → Ev (fun k => spec_l4Twin.l1 k (pre ++ suf) pre.length) r
  | [], pre, he, hl, h1, h2 => by
    refine Ev.step (fun k => ?_) (h1 rfl)
    rw [spec_l4Twin.l1, wrap_id (by omega) (by omega), if_neg (by simp; omega)]
  | [a], pre, he, hl, h1, h2 => by
    simp only [List.length_cons, List.length_nil] at hl
    refine Ev.step (fun k => ?_) (h1 rfl)
    rw [spec_l4Twin.l1, wrap_id (by omega) (by omega), if_neg (by simp)]
  | a :: b :: t, pre, he, hl, h1, h2 => by
    simp only [List.length_cons] at hl
    have hb : rd (pre ++ a :: b :: t) ((pre.length : Int) + 1) = b := by
      have := rd_mid (pre ++ [a]) b t
      simpa using this
    by_cases hab : a = b
    · have hr : r = true := h2 (by simp [pairV, hab])
      subst hr
      refine ev_succ (fun k => ?_)
      rw [spec_l4Twin.l1, wrap_id (by omega) (by omega), if_pos (by simp; omega), if_pos (by omega), if_pos (by simp; omega), if_pos (by omega), rd_mid, hb, if_pos hab]
    · have ih := spec_l4Twin_l1 n r t (pre ++ [a, b]) (by simp; omega) (by simp; omega) (fun h => by simpa using h1 (by simp [pairV, hab, h])) (fun h => h2 (by simp [pairV, h]))
      refine Ev.step (fun k => ?_) ih
      rw [spec_l4Twin.l1, wrap_id (x := (pre.length : Int) + 1) (by omega) (by omega), wrap_id (by omega) (by omega), if_pos (by simp; omega), if_pos (by omega), if_pos (by simp; omega), if_pos (by omega), rd_mid, hb, if_neg hab]
      simp
theorem spec_l4Twin_l0 : ∀ (n : Nat) (l : List Int), l.length ≤ n + 1 → l.length ≤ 1000 → Ev (fun k => spec_l4Twin.l0 k l) (twinN n l)
  | n, l, h1, h2 => by
    by_cases h : l.length > 1
    · obtain ⟨m, rfl⟩ : ∃ m, n = m + 1 := ⟨n - 1, by omega⟩
      refine Ev.step (f := fun k => spec_l4Twin.l1 k l 0) (fun k => by rw [spec_l4Twin.l0, if_pos (by omega)]) ?_
      have hlen := aboveV_length l
      unfold twinN
      rw [if_pos h]
      refine spec_l4Twin_l1 m _ l [] rfl (by simpa using h2) (fun hp => ?_) (fun hp => by rw [hp]; rfl)
      rw [hp]
      exact ev_bind (spec_l4Above_ev h2) (spec_l4Twin_l0 m (aboveV l) (by omega) (by omega))
    · have e : twinN n l = false := by cases n <;> (unfold twinN; rw [if_neg h])
      rw [e]
      exact ev_succ (fun k => by rw [spec_l4Twin.l0, if_neg (by omega)])
theorem impl_HasTwin_l1 (n : Nat) (r : Bool) : ∀ (suf pre : List Int), pre.length % 2 = 0 → pre.length + suf.length ≤ 1000 →
    (pairV suf = false → Ev (fun k => (impl_above.f k (pre ++ suf)).bind fun t => impl_HasTwin.l0 k t) r) → (pairV suf = true → r = true) → Ev (fun k => impl_HasTwin.l1 k (pre ++ suf) ((pre.length : Int) + 1)) r
  | [], pre, he, hl, h1, h2 => by
    refine Ev.step (fun k => ?_) (h1 rfl)
    rw [impl_HasTwin.l1, if_neg (by simp; omega)]
  | [a], pre, he, hl, h1, h2 => by
    refine Ev.step (fun k => ?_) (h1 rfl)
    rw [impl_HasTwin.l1, if_neg (by simp)]
  | a :: b :: t, pre, he, hl, h1, h2 => by
    simp only [List.length_cons] at hl
    have hb : rd (pre ++ a :: b :: t) ((pre.length : Int) + 1) = b := by
      have := rd_mid (pre ++ [a]) b t
      simpa using this
    have hw : wrap64 ((pre.length : Int) + 1 - 1) = (pre.length : Int) := by rw [wrap_id (by omega) (by omega)]; omega
    by_cases hab : a = b
    · have hr : r = true := h2 (by simp [pairV, hab])
      subst hr
      refine ev_succ (fun k => ?_)
      rw [impl_HasTwin.l1, hw, if_pos (by simp; omega), if_pos (by omega), if_pos (by simp; omega), if_pos (by omega), rd_mid, hb, if_pos hab]
    · have ih := impl_HasTwin_l1 n r t (pre ++ [a, b]) (by simp; omega) (by simp; omega) (fun h => by simpa using h1 (by simp [pairV, hab, h])) (fun h => h2 (by simp [pairV, h]))
      refine Ev.step (fun k => ?_) ih
      rw [impl_HasTwin.l1, hw, wrap_id (by omega) (by omega), if_pos (by simp; omega), if_pos (by omega), if_pos (by simp; omega), if_pos (by omega), rd_mid, hb, if_neg hab]
      have : (pre.length : Int) + 1 + 2 = ((pre ++ [a, b]).length : Int) + 1 := by simp; omega
      rw [this]
      simp
theorem impl_HasTwin_l0 : ∀ (n : Nat) (l : List Int), l.length ≤ n + 1 → l.length ≤ 1000 → Ev (fun k => impl_HasTwin.l0 k l) (twinN n l)
  | n, l, h1, h2 => by
    by_cases h : l.length > 1
    · obtain ⟨m, rfl⟩ : ∃ m, n = m + 1 := ⟨n - 1, by omega⟩
      refine Ev.step (f := fun k => impl_HasTwin.l1 k l 1) (fun k => by rw [impl_HasTwin.l0, if_pos (by omega)]) ?_
      have hlen := aboveV_length l
      unfold twinN
      rw [if_pos h]
      refine impl_HasTwin_l1 m _ l [] rfl (by simpa using h2) (fun hp => ?_) (fun hp => by rw [hp]; rfl)
      rw [hp]
      exact ev_bind (impl_above_ev h2) (impl_HasTwin_l0 m (aboveV l) (by omega) (by omega))
    · have e : twinN n l = false := by cases n <;> (unfold twinN; rw [if_neg h])
      rw [e]
      exact ev_succ (fun k => by rw [impl_HasTwin.l0, if_neg (by omega)])
def twinV (l : List Int) : Bool := if leavesV l = 0 then twinN 7 l else false
theorem spec_HasTwin_ev {l : List Int} (hl : l.length ≤ 140737488351232) : Ev (fun k => spec_HasTwin.f k l) (twinV l) := by
  unfold spec_HasTwin.f twinV spec_l4Twin.f
  refine ev_bind (spec_l4Asked_ev hl) ?_
  by_cases h : leavesV l = 0
  · have hh := leavesV_0 h
    rw [if_pos h]; exact ev_if h (ev_bind (spec_l4Twin_l0 7 l (by omega) (by omega)) (Ev.now _))
  · rw [if_neg h]; exact ev_ifn h (Ev.now _)
theorem impl_HasTwin_ev {l : List Int} (hl : l.length ≤ 140737488351232) : Ev (fun k => impl_HasTwin.f k l) (twinV l) := by
  unfold impl_HasTwin.f twinV
  refine ev_bind (impl_leavesFault_ev hl) ?_
  by_cases h : leavesV l = 0
  · have hh := leavesV_0 h
    rw [if_pos h]; exact ev_if h (impl_HasTwin_l0 7 l (by omega) (by omega))
  · rw [if_neg h]; exact ev_ifn h (Ev.now _)

def rootV (l : List Int) : Int × Int := if leavesV l = 0 then (0, rootN 7 l) else (leavesV l, 0)

theorem impl_rootOf_l0 : ∀ (n : Nat) (l : List Int), 1 ≤ l.length → l.length ≤ n + 1 → l.length ≤ 1000 → Ev (fun k => impl_rootOf.l0 k l) (rootN n l)
  | 0, l, h1, h2, _ => ev_succ (fun k => by rw [impl_rootOf.l0, if_neg (by omega), if_pos (by omega)]; have := rd_getD l 0; simp at this; simp [rootN, this])
  | n + 1, l, h1, h2, h3 => by
    unfold rootN
    by_cases h : l.length > 1
    · rw [if_pos h]
      have hlen := aboveV_length l
      have ih := impl_rootOf_l0 n (aboveV l) (by omega) (by omega) (by omega)
      exact Ev.step (f := fun k => (impl_above.f k l).bind fun t => impl_rootOf.l0 k t) (fun k => by rw [impl_rootOf.l0, if_pos (by omega)]) (ev_bind (impl_above_ev h3) ih)
    · rw [if_neg h]
      exact ev_succ (fun k => by rw [impl_rootOf.l0, if_neg (by omega), if_pos (by omega)]; have := rd_getD l 0; simp at this; simp [this])
theorem impl_RootOf_ev {l : List Int} (hl : l.length ≤ 140737488351232) : Ev (fun k => impl_RootOf.f k l) (rootV l) := by
  unfold impl_RootOf.f rootV impl_rootOf.f
  refine ev_bind (impl_leavesFault_ev hl) ?_
  by_cases h : leavesV l = 0
  · have hh := leavesV_0 h
    rw [if_pos h]; exact ev_if h (ev_bind (impl_rootOf_l0 7 l hh.1 (by omega) (by omega)) (Ev.now _))
  · rw [if_neg h]; exact ev_ifn h (Ev.now _)

theorem spec_l4Sum_eq (a : Int) : spec_l4Sum.f a = some (decide (0 ≤ a ∧ a ≤ 2147483646)) := by
  unfold spec_l4Sum.f; rw [spec_l1In_eq]; rfl

def joinV (a b : Int) : Int × Int := if (0 ≤ a ∧ a ≤ 2147483646) ∧ (0 ≤ b ∧ b ≤ 2147483646) then (0, sumI [a, b]) else (3, 0)
theorem spec_JoinSums_ev (a b : Int) : Ev (fun k => spec_JoinSums.f k a b) (joinV a b) := by
  unfold spec_JoinSums.f joinV
  simp only [spec_l4Sum_eq, Option.bind_some, decide_eq_true_eq]
  by_cases h1 : 0 ≤ a ∧ a ≤ 2147483646
  · by_cases h2 : 0 ≤ b ∧ b ≤ 2147483646
    · rw [if_pos ⟨h1, h2⟩]; exact ev_if h1 (ev_if h2 (ev_bind (spec_l4Join_ev a b) (Ev.now _)))
    · rw [if_neg (fun h => h2 h.2)]; exact ev_if h1 (ev_ifn h2 (Ev.now _))
  · rw [if_neg (fun h => h1 h.1)]; exact ev_ifn h1 (Ev.now _)
theorem impl_JoinSums_ev (a b : Int) : Ev (fun k => impl_JoinSums.f k a b) (joinV a b) := by
  unfold impl_JoinSums.f joinV
  simp only [impl_isSum_eq, Option.bind_some, decide_eq_true_eq]
  by_cases h1 : 0 ≤ a ∧ a ≤ 2147483646
  · by_cases h2 : 0 ≤ b ∧ b ≤ 2147483646
    · rw [if_pos ⟨h1, h2⟩]; exact ev_if h1 (ev_if h2 (ev_bind (impl_sumInts_ev (by simp)) (Ev.now _)))
    · rw [if_neg (fun h => h2 h.2)]; exact ev_if h1 (ev_ifn h2 (Ev.now _))
  · rw [if_neg (fun h => h1 h.1)]; exact ev_ifn h1 (Ev.now _)

theorem leavesV_ok {l : List Int} (h1 : 1 ≤ l.length) (h8 : l.length ≤ 8) (ha : AllIn l 0 2147483646) : leavesV l = 0 := by
  unfold leavesV; rw [if_pos ⟨h1, h8⟩, if_pos ha]
theorem allIn_sub {l m : List Int} (h : AllIn l 0 2147483646) (hs : ∀ x ∈ m, x ∈ l) : AllIn m 0 2147483646 := fun x hx => h x (hs x hx)
theorem twin1 (a : Int) (h : AllIn [a] 0 2147483646) : twinV [a, a] = true := by
  unfold twinV
  rw [if_pos (leavesV_ok (by simp) (by simp) (allIn_sub h (by simp)))]
  simp [twinN, pairV]
theorem twin2 (a b : Int) (h : AllIn [a, b] 0 2147483646) : twinV [a, b, a, b] = true := by
  unfold twinV
  rw [if_pos (leavesV_ok (by simp) (by simp) (allIn_sub h (by simp)))]
  simp [twinN, pairV, aboveV]
theorem twin4 (a b c d : Int) (h : AllIn [a, b, c, d] 0 2147483646) : twinV [a, b, c, d, a, b, c, d] = true := by
  unfold twinV
  rw [if_pos (leavesV_ok (by simp) (by simp) (allIn_sub h (by simp)))]
  simp [twinN, pairV, aboveV]
theorem twin3 (a b c : Int) (h : AllIn [a, b, c] 0 2147483646) : twinV [a, b, c, c] = true ∧ rootV [a, b, c, c] = rootV [a, b, c] := by
  have h1 : leavesV [a, b, c, c] = 0 := leavesV_ok (by simp) (by simp) (allIn_sub h (by simp))
  have h2 : leavesV [a, b, c] = 0 := leavesV_ok (by simp) (by simp) h
  refine ⟨?_, ?_⟩
  · unfold twinV
    rw [if_pos h1]
    simp [twinN, pairV]
  · unfold rootV
    rw [if_pos h1, if_pos h2]
    simp [rootN, aboveV]
theorem root2 (a b : Int) (h : AllIn [a, b] 0 2147483646) : rootV [a, b] = (0, sumI [a, b]) := by
  unfold rootV
  rw [if_pos (leavesV_ok (by simp) (by simp) h)]
  simp [rootN, aboveV]
theorem laws_FnTwins_j1 (l : List Int) (k : Nat) (hl : l.length ≤ 4) : laws_FnTwins.j1 (k + 1) l false = if ((l.length : Int) % 2) = 1 then laws_FnTwins.j2 k l (l ++ l) (decide ((l.length : Int) > 1)) else laws_FnTwins.j2 k l (l ++ l) false := by
  rw [laws_FnTwins.j1, if_neg (by decide)]
  simp only [Option.bind_some, List.nil_append, List.length_nil]
  rw [if_pos (by omega), if_pos (by omega)]
theorem laws_FnTwins_j2f (l m : List Int) (h : (l.length : Int) ≠ 3) (ht : twinV m = true) (hm : m.length ≤ 140737488351232) : Ev (fun k => laws_FnTwins.j2 k l m false) true := by
  refine Ev.step (f := fun k => (impl_HasTwin.f k m).bind fun t => some t) (fun k => by rw [laws_FnTwins.j2, if_neg (by decide), if_neg h]) ?_
  have := impl_HasTwin_ev hm
  rw [ht] at this
  exact ev_bind this (Ev.now _)
theorem laws_FnTwins_j1_ev (l : List Int) (h0 : leavesV l = 0) (h4 : l.length ≤ 4) : Ev (fun k => laws_FnTwins.j1 k l false) true := by
  have hh := leavesV_0 h0
  match l, hh, h4 with
  | [], hh, _ => simp at hh
  | [a], hh, _ => exact Ev.step (fun k => by rw [laws_FnTwins_j1 _ _ (by simp), if_pos (by simp)]; rfl) (laws_FnTwins_j2f [a] [a, a] (by simp) (twin1 a hh.2.2) (by simp))
  | [a, b], hh, _ => exact Ev.step (fun k => by rw [laws_FnTwins_j1 _ _ (by simp), if_neg (by simp)]; rfl) (laws_FnTwins_j2f [a, b] [a, b, a, b] (by simp) (twin2 a b hh.2.2) (by simp))
  | [a, b, c, d], hh, _ => exact Ev.step (fun k => by rw [laws_FnTwins_j1 _ _ (by simp), if_neg (by simp)]; rfl) (laws_FnTwins_j2f [a, b, c, d] [a, b, c, d, a, b, c, d] (by simp) (twin4 a b c d hh.2.2) (by simp))
  | [a, b, c], hh, _ =>
    obtain ⟨ht, hr⟩ := twin3 a b c hh.2.2
    refine Ev.step (f := fun k => laws_FnTwins.j2 k [a, b, c] [a, b, c, a, b, c] true) (fun k => by rw [laws_FnTwins_j1 _ _ (by simp), if_pos (by simp)]; rfl) ?_
    have e : rd [a, b, c] (wrap64 ((([a, b, c] : List Int).length : Int) - 1)) = c := by rw [wrap_id (by simp) (by simp)]; rfl
    refine Ev.step (f := fun k => (impl_HasTwin.f k [a, b, c, c]).bind fun t306 => (if t306 = true then ((impl_RootOf.f k [a, b, c, c]).bind fun bt307 => ((impl_RootOf.f k [a, b, c]).bind fun bt309 => (some (bt307.2 == bt309.2)))) else (none))) (fun k => ?_) ?_
    · rw [laws_FnTwins.j2, if_pos rfl, e]
      simp only [Option.bind_some, List.nil_append, List.length_nil, List.length_cons]
      rw [wrap_id (by simp) (by simp), if_pos (by omega), if_pos (by simp), if_pos (by simp), if_pos (by omega)]
      rfl
    · have h1 := impl_HasTwin_ev (l := [a, b, c, c]) (by simp)
      rw [ht] at h1
      have h2 := impl_RootOf_ev (l := [a, b, c, c]) (by simp)
      rw [hr] at h2
      refine ev_bind h1 (ev_if rfl (ev_bind h2 (ev_bind (impl_RootOf_ev (by simp)) ?_)))
      simp only [BEq.rfl]
      exact Ev.now _
  | a :: b :: c :: d :: e :: t, hh, h4 => simp at h4
theorem laws_FnTwins_j0_ev (l : List Int) (hl : l.length ≤ 140737488351232) : Ev (fun k => laws_FnTwins.j0 k l false) true := by
  have hyes : Ev (fun k => laws_FnTwins.j1 k l true) true := ev_succ (fun k => by rw [laws_FnTwins.j1, if_pos rfl])
  by_cases h0 : (l.length : Int) = 0
  · exact Ev.step (fun k => by rw [laws_FnTwins.j0, if_neg (by decide), if_pos h0]) hyes
  by_cases h4 : (l.length : Int) > 4
  · exact Ev.step (fun k => by rw [laws_FnTwins.j0, if_neg (by decide), if_neg h0, if_pos h4]) hyes
  refine Ev.step (f := fun k => (impl_RootOf.f k l).bind fun t => laws_FnTwins.j1 k l (t.1 != 0)) (fun k => by rw [laws_FnTwins.j0, if_neg (by decide), if_neg h0, if_neg h4]) ?_
  refine ev_bind (impl_RootOf_ev hl) ?_
  by_cases hv : leavesV l = 0
  · have e : ((rootV l).1 != 0) = false := by unfold rootV; rw [if_pos hv]; rfl
    rw [e]; exact laws_FnTwins_j1_ev l hv (by omega)
  · have e : ((rootV l).1 != 0) = true := by unfold rootV; rw [if_neg hv]; simpa using hv
    rw [e]; exact hyes
theorem FnTwins : laws_FnTwins.Pure := by
  intro c hm hl hw
  have hb : Bytes c := fun x hx => wf8 (hw x hx)
  have hc : c.length ≤ 140737488351232 := by omega
  refine Ev.rounds (g := fun k => laws_FnTwins.f k c) ?_
  unfold laws_FnTwins.f
  refine ev_bind0 rfl ?_
  by_cases hbig : (c.length : Int) > 1048576
  · exact ev_if (by simpa using hbig) (Ev.now _)
  refine ev_ifn (by simpa using hbig) ?_
  obtain ⟨l, n', hr, hlen, _, _⟩ := spec_l4Draw_ev hb hc 0 (by omega) (by omega)
  have hd : Ev (fun k => spec_DrawHasTwin.f k c) l := by
    unfold spec_DrawHasTwin.f
    exact ev_bind0 rfl (ev_bind hr (Ev.now _))
  obtain ⟨a, _, ha⟩ := spec_l1Pick_some hb hc 0 (by omega) (by omega) [7, 2147483646, 2147483647] (by simp) (by simp)
  obtain ⟨b, _, hbb⟩ := spec_l1Pick_some hb hc (0 + 1) (by omega) (by omega) [0, 7, -1] (by simp) (by simp)
  have hj : spec_DrawJoinSums.f c = some (a, b) := by
    unfold spec_DrawJoinSums.f
    show (Option.bind (some (c, (0 : Int))) _) = _
    simp only [Option.bind_some, ha, hbb]
  have hl' : l.length ≤ 140737488351232 := by omega
  refine ev_bind hd (ev_bind (impl_HasTwin_ev hl') (ev_bind0 hj (ev_bind (impl_JoinSums_ev a b) (ev_bind (spec_HasTwin_ev hl') (ev_ifn (by simp) (ev_bind (spec_JoinSums_ev a b) (ev_if rfl (ev_bind (spec_JoinSums_ev a b) (ev_if rfl ?_)))))))))
  have hend := laws_FnTwins_j0_ev l hl'
  by_cases h0 : (joinV a b).1 = 0
  · refine ev_if h0 ?_
    have hab : (0 ≤ a ∧ a ≤ 2147483646) ∧ (0 ≤ b ∧ b ≤ 2147483646) := by
      refine Classical.byContradiction fun hn => ?_
      unfold joinV at h0; rw [if_neg hn] at h0; simp at h0
    refine ev_bind (impl_RootOf_ev (l := [a, b]) (by simp)) ?_
    have e1 : joinV a b = (0, sumI [a, b]) := by unfold joinV; rw [if_pos hab]
    have e2 := root2 a b (fun x hx => by simp at hx; rcases hx with rfl | rfl <;> (first | exact hab.1 | exact hab.2))
    have e : ((rootV [a, b]).2 != (joinV a b).2) = false := by rw [e1, e2]; simp
    rw [e]; exact hend
  · exact ev_ifn h0 hend

end Go.Proofs.Ytjgnjhbleiempaa.Pure
