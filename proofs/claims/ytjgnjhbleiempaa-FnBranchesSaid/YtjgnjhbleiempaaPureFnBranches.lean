/- for every code, the branch of every leaf leads to the root, as the law FnBranches says: it answers true. -/
import Derived.Test.YtjgnjhbleiempaaQFnBranchesx6
namespace Go.Proofs.Ytjgnjhbleiempaa.Pure
open Go.RowKit Go.Proofs.Ytjgnjhbleiempaa.QFnBranches Go.Proofs.YtjgnjhbleiempaaW.PrintWords Go.Proofs.YtjgnjhbleiempaaW.PrintLast
set_option linter.unusedVariables false
set_option linter.unusedSimpArgs false

theorem wrap_id {x : Int} (h1 : -9223372036854775808 ≤ x) (h2 : x ≤ 9223372036854775807) : wrap64 x = x := by
  unfold wrap64; omega
theorem wf64 {x : Int} (h : (Lit.int .i64 x).wf = true) : -9223372036854775808 ≤ x ∧ x ≤ 9223372036854775807 := by
  simpa [Lit.wf, IntKind.min, IntKind.max, IntKind.signed, IntKind.bits] using h
theorem wf8 {x : Int} (h : (Lit.int .u8 x).wf = true) : 0 ≤ x ∧ x ≤ 255 := by
  simpa [Lit.wf, IntKind.min, IntKind.max, IntKind.signed, IntKind.bits] using h
theorem ev_some {α : Type} {g : Nat → Option α} {r : α} (h : ∀ k, g k = some r) : Ev g r := ⟨0, fun k _ => h k⟩
theorem ev_succ {α : Type} {g : Nat → Option α} {r : α} (h : ∀ k, g (k + 1) = some r) : Ev g r := Ev.step h (Ev.now r)
/-- A call whose answer is known, and what follows. -/
theorem ev_bind {α β : Type} {g : Nat → Option α} {f : α → Nat → Option β} {a : α} {r : β} (h : Ev g a) (k : Ev (f a) r) : Ev (fun n => (g n).bind fun t => f t n) r :=
  Ev.bind (f := fun n t => f t n) h k
theorem ev_if {α : Type} {p : Prop} [Decidable p] {g f : Nat → Option α} {r : α} (hp : p) (k : Ev g r) : Ev (fun n => if p then g n else f n) r :=
  Ev.congr (fun n => if_pos hp) k
theorem ev_ifn {α : Type} {p : Prop} [Decidable p] {g f : Nat → Option α} {r : α} (hp : ¬ p) (k : Ev f r) : Ev (fun n => if p then g n else f n) r :=
  Ev.congr (fun n => if_neg hp) k
theorem ev_bind0 {α β : Type} {g : Option α} {f : α → Nat → Option β} {a : α} {r : β} (h : g = some a) (k : Ev (f a) r) : Ev (fun n => g.bind fun t => f t n) r := by
  subst h; exact k
theorem rd_mid (pre : List Int) (b : Int) (suf : List Int) : rd (pre ++ b :: suf) (pre.length : Int) = b := by
  unfold rd
  simp
theorem rd_at {l : List Int} {i : Int} (h0 : 0 ≤ i) (h1 : i < l.length) : rd l i = l[i.toNat]'(by omega) := by
  unfold rd
  rw [List.getD_eq_getElem?_getD, List.getElem?_eq_getElem (by omega)]; rfl
theorem split_at_len {α : Type} (l : List α) (n : Nat) (h : n ≤ l.length) : ∃ pre suf, l = pre ++ suf ∧ pre.length = n :=
  ⟨l.take n, l.drop n, (List.take_append_drop n l).symm, by simp; omega⟩

/-- One byte more in a sum. -/
def stepS (a b : Int) : Int := (33 * a + b + 1) % 2147483647
/-- The sum of bytes. -/
def sumB (l : List Int) : Int := l.foldl stepS 5381
def Bytes (l : List Int) : Prop := ∀ x ∈ l, 0 ≤ x ∧ x ≤ 255
theorem stepS_bd (a b : Int) : 0 ≤ stepS a b ∧ stepS a b < 2147483647 := by unfold stepS; omega
theorem sumB_bd_go (l : List Int) : ∀ a : Int, 0 ≤ a → a < 2147483647 → 0 ≤ l.foldl stepS a ∧ l.foldl stepS a < 2147483647 := by
  induction l with
  | nil => intro a h0 h1; exact ⟨h0, h1⟩
  | cons b l ih => intro a _ _; exact ih _ (stepS_bd a b).1 (stepS_bd a b).2
theorem sumB_bd (l : List Int) : 0 ≤ sumB l ∧ sumB l ≤ 2147483646 := by
  have := sumB_bd_go l 5381 (by omega) (by omega)
  unfold sumB; omega
theorem step_wrap {a b : Int} (h0 : 0 ≤ a) (h1 : a < 2147483647) (hb : 0 ≤ b ∧ b ≤ 255) :
    Int.tmod (wrap64 ((wrap64 ((wrap64 (a * 33)) + (wrap64 b))) + 1)) 2147483647 = stepS a b := by
  rw [wrap_id (x := a * 33) (by omega) (by omega), wrap_id (x := b) (by omega) (by omega), wrap_id (x := a * 33 + b) (by omega) (by omega), wrap_id (x := a * 33 + b + 1) (by omega) (by omega), Int.tmod_eq_emod_of_nonneg (by omega)]
  unfold stepS; rw [Int.mul_comm a 33]
theorem spec_l1Sum_l0 (suf : List Int) : ∀ (pre : List Int) (a : Int), 0 ≤ a → a < 2147483647 → Bytes suf → (pre.length : Int) + suf.length ≤ 9223372036854775806 →
    Ev (fun k => spec_l1Sum.l0 k (pre ++ suf) a pre.length) (suf.foldl stepS a) := by
  induction suf with
  | nil => intro pre a _ _ _ _; exact ev_succ (fun k => by simp [spec_l1Sum.l0])
  | cons b suf ih =>
    intro pre a h0 h1 hb hl
    have hb0 := hb b List.mem_cons_self
    simp only [List.length_cons, Int.natCast_add, Int.natCast_one] at hl
    have h := ih (pre ++ [b]) (stepS a b) (stepS_bd a b).1 (stepS_bd a b).2 (fun x hx => hb x (List.mem_cons_of_mem _ hx)) (by simp; omega)
    refine Ev.step (fun k => ?_) h
    rw [spec_l1Sum.l0]
    rw [if_pos (by simp; omega), if_pos (by omega), rd_mid, step_wrap h0 h1 hb0, wrap_id (by omega) (by omega)]
    simp
theorem spec_l1Sum_ev {l : List Int} (hb : Bytes l) (hl : (l.length : Int) ≤ 9223372036854775806) : Ev (fun k => spec_l1Sum.f k l) (sumB l) :=
  spec_l1Sum_l0 l [] 5381 (by omega) (by omega) hb (by simpa using hl)
theorem impl_sumOf_l0 (suf : List Int) : ∀ (pre : List Int) (a : Int), 0 ≤ a → a < 2147483647 → Bytes suf → (pre.length : Int) + suf.length ≤ 9223372036854775806 →
    Ev (fun k => impl_sumOf.l0 k a (pre ++ suf) ((pre ++ suf).length : Int) pre.length) (suf.foldl stepS a) := by
  induction suf with
  | nil => intro pre a _ _ _ _; exact ev_succ (fun k => by simp [impl_sumOf.l0])
  | cons b suf ih =>
    intro pre a h0 h1 hb hl
    have hb0 := hb b List.mem_cons_self
    simp only [List.length_cons, Int.natCast_add, Int.natCast_one] at hl
    have h := ih (pre ++ [b]) (stepS a b) (stepS_bd a b).1 (stepS_bd a b).2 (fun x hx => hb x (List.mem_cons_of_mem _ hx)) (by simp; omega)
    refine Ev.step (fun k => ?_) h
    rw [impl_sumOf.l0]
    rw [if_pos (by simp; omega), if_pos (by omega), if_pos (by simp; omega), rd_mid, Int.mul_comm 33 a, step_wrap h0 h1 hb0, wrap_id (by omega) (by omega)]
    simp
theorem impl_sumOf_ev {l : List Int} (hb : Bytes l) (hl : (l.length : Int) ≤ 9223372036854775806) : Ev (fun k => impl_sumOf.f k l) (sumB l) :=
  impl_sumOf_l0 l [] 5381 (by omega) (by omega) hb (by simpa using hl)

theorem rd_byte {c : List Int} (hb : Bytes c) (i : Int) : 0 ≤ rd c i ∧ rd c i ≤ 255 := by
  unfold rd
  rw [List.getD_eq_getElem?_getD]
  cases h : c[i.toNat]? with
  | none => simp
  | some x => exact hb x (List.mem_of_getElem? h)
/-- A draw: a number below m, and the next place. -/
theorem spec_l1Next_some {c : List Int} (hb : Bytes c) (hc : c.length ≤ 140737488351232) (n m : Int) (h0 : 0 ≤ n) (h1 : n ≤ 1000000) (hm : m ≤ 1000000) :
    ∃ v, spec_l1Next.f c n m = some (v, n + 1) ∧ 0 ≤ v ∧ (1 ≤ m → v < m) ∧ (m < 1 → v = 0) := by
  unfold spec_l1Next.f
  rw [wrap_id (x := n + 1) (by omega) (by omega), wrap_id (x := n + 1 - 1) (by omega) (by omega), show n + 1 - 1 = n by omega]
  by_cases hm1 : m < 1
  · rw [if_pos hm1]; exact ⟨0, rfl, by omega, by omega, fun _ => rfl⟩
  rw [if_neg hm1]
  by_cases hk : (c.length : Int) = 0
  · rw [if_pos hk, if_neg (by omega), wrap_id (x := n * 7) (by omega) (by omega), Int.tmod_eq_emod_of_nonneg (by omega)]
    exact ⟨_, rfl, Int.emod_nonneg _ (by omega), fun _ => Int.emod_lt_of_pos _ (by omega), fun h => absurd h hm1⟩
  rw [if_neg hk]
  have hkp : (0 : Int) < c.length := by omega
  have e1 : Int.tmod n (c.length : Int) = n % (c.length : Int) := Int.tmod_eq_emod_of_nonneg h0
  have e2 : Int.tdiv n (c.length : Int) = n / (c.length : Int) := Int.tdiv_eq_ediv_of_nonneg h0
  have b1 := Int.emod_nonneg n (b := (c.length : Int)) (by omega)
  have b2 := Int.emod_lt_of_pos n hkp
  have b3 : 0 ≤ n / (c.length : Int) := Int.ediv_nonneg h0 (by omega)
  have b4 : n / (c.length : Int) ≤ n := Int.ediv_le_self _ h0
  have r1 := rd_byte hb (n % (c.length : Int))
  rw [e1, e2, if_pos b1, if_pos b2]
  rw [wrap_id (x := rd c (n % (c.length : Int))) (by omega) (by omega), wrap_id (x := n / (c.length : Int)) (by omega) (by omega), wrap_id (x := n / (c.length : Int) * 37) (by omega) (by omega), wrap_id (x := rd c (n % (c.length : Int)) + n / (c.length : Int) * 37) (by omega) (by omega)]
  by_cases h200 : m > 200
  · rw [if_pos h200]
    rw [wrap_id (x := n + 1) (by omega) (by omega)]
    have e3 : Int.tmod (n + 1) (c.length : Int) = (n + 1) % (c.length : Int) := Int.tmod_eq_emod_of_nonneg (by omega)
    have b5 := Int.emod_nonneg (n + 1) (b := (c.length : Int)) (by omega)
    have b6 := Int.emod_lt_of_pos (n + 1) hkp
    have r2 := rd_byte hb ((n + 1) % (c.length : Int))
    rw [e3, if_pos b5, if_pos b6, if_neg (by omega)]
    generalize rd c (n % (c.length : Int)) = x at *
    generalize rd c ((n + 1) % (c.length : Int)) = y at *
    generalize n / (c.length : Int) = z at *
    rw [wrap_id (x := (x + z * 37) * 251) (by omega) (by omega), wrap_id (x := y) (by omega) (by omega), wrap_id (x := y * 13) (by omega) (by omega), wrap_id (x := (x + z * 37) * 251 + y * 13) (by omega) (by omega), wrap_id (x := (x + z * 37) * 251 + y * 13 + n) (by omega) (by omega), Int.tmod_eq_emod_of_nonneg (by omega)]
    exact ⟨_, rfl, Int.emod_nonneg _ (by omega), fun _ => Int.emod_lt_of_pos _ (by omega), fun h => absurd h hm1⟩
  · rw [if_neg h200, if_neg (by omega), Int.tmod_eq_emod_of_nonneg (by omega)]
    exact ⟨_, rfl, Int.emod_nonneg _ (by omega), fun _ => Int.emod_lt_of_pos _ (by omega), fun h => absurd h hm1⟩

theorem rd_mem {l : List Int} {i : Int} (h0 : 0 ≤ i) (h1 : i < l.length) : rd l i ∈ l := by
  rw [rd_at h0 h1]; exact List.getElem_mem _
theorem spec_l1Pick_some {c : List Int} (hb : Bytes c) (hc : c.length ≤ 140737488351232) (n : Int) (h0 : 0 ≤ n) (h1 : n ≤ 1000000) (l : List Int) (hl : 1 ≤ l.length) (hl2 : l.length ≤ 1000) :
    ∃ v, v ∈ l ∧ spec_l1Pick.f c n l = some (v, n + 1) := by
  unfold spec_l1Pick.f
  obtain ⟨j, hj, j0, j1, _⟩ := spec_l1Next_some hb hc n (l.length : Int) h0 h1 (by omega)
  rw [hj]
  simp only [Option.bind_some]
  rw [if_pos j0, if_pos (j1 (by omega))]
  exact ⟨_, rd_mem j0 (j1 (by omega)), rfl⟩

theorem spec_l4Draw_l0 {c : List Int} (hb : Bytes c) (hc : c.length ≤ 140737488351232) : ∀ (d : Nat) (out : List Int) (n : Int), 0 ≤ n → n + 4 * d ≤ 1000 → out.length + d ≤ 100 →
    ∃ r n', Ev (fun k => spec_l4Draw.l0 k out d c n) (r, n') ∧ r.length ≤ 101 ∧ 0 ≤ n' ∧ n' ≤ 1100
  | 0, out, n, h0, h1, h2 => by
    obtain ⟨x, hx, x0, x1, _⟩ := spec_l1Next_some hb hc n 10 h0 (by omega) (by omega)
    by_cases e0 : x = 0
    · obtain ⟨v, _, hv⟩ := spec_l1Pick_some hb hc (n + 1) (by omega) (by omega) [-1, 2147483647, 7] (by simp) (by simp)
      refine ⟨out ++ [v], n + 1 + 1, ev_succ (fun k => ?_), by simp; omega, by omega, by omega⟩
      rw [spec_l4Draw.l0, if_neg (by omega), hx]
      simp only [Option.bind_some]
      rw [if_pos e0, hv]
      simp only [Option.bind_some]
      rw [if_pos (by omega)]
    · by_cases e1 : x = 1
      · obtain ⟨v, hvm, hv⟩ := spec_l1Pick_some hb hc (n + 1) (by omega) (by omega) [0, 9] (by simp) (by simp)
        have hv2 : 0 ≤ v ∧ v ≤ 9 := by
          simp only [List.mem_cons, List.not_mem_nil, or_false] at hvm
          omega
        refine ⟨List.replicate v.toNat 0, n + 1 + 1, ev_succ (fun k => ?_), by rw [List.length_replicate]; omega, by omega, by omega⟩
        rw [spec_l4Draw.l0, if_neg (by omega), hx]
        simp only [Option.bind_some]
        rw [if_neg e0, if_pos e1, hv]
        simp only [Option.bind_some]
        rw [if_pos hv2.1, if_pos (by omega)]
      · refine ⟨out, n + 1, ev_succ (fun k => ?_), by omega, by omega, by omega⟩
        rw [spec_l4Draw.l0, if_neg (by omega), hx]
        simp only [Option.bind_some]
        rw [if_neg e0, if_neg e1]
  | d + 1, out, n, h0, h1, h2 => by
    obtain ⟨x, hx, x0, x1, _⟩ := spec_l1Next_some hb hc n 1000 h0 (by omega) (by omega)
    obtain ⟨v, _, hv⟩ := spec_l1Pick_some hb hc (n + 1) (by omega) (by omega) [x, 7, 2147483646] (by simp) (by simp)
    obtain ⟨r, n', hr, hl⟩ := spec_l4Draw_l0 hb hc d (out ++ [v]) (n + 1 + 1) (by omega) (by omega) (by simp; omega)
    refine ⟨r, n', Ev.step (fun k => ?_) hr, hl⟩
    rw [spec_l4Draw.l0, if_pos (by omega), hx]
    simp only [Option.bind_some]
    rw [hv]
    simp only [Option.bind_some]
    rw [if_pos (by omega), wrap_id (by omega) (by omega)]
    congr 1
    omega
theorem spec_l4Draw_ev {c : List Int} (hb : Bytes c) (hc : c.length ≤ 140737488351232) (n : Int) (h0 : 0 ≤ n) (h1 : n ≤ 100) : ∃ r n', Ev (fun k => spec_l4Draw.f k c n) (r, n') ∧ r.length ≤ 101 ∧ 0 ≤ n' ∧ n' ≤ 1100 := by
  obtain ⟨x, hx, x0, x1, _⟩ := spec_l1Next_some hb hc n 8 (by omega) (by omega) (by omega)
  have := x1 (by omega)
  obtain ⟨r, n', hr, hl⟩ := spec_l4Draw_l0 hb hc (1 + x).toNat [] (n + 1) (by omega) (by omega) (by simp; omega)
  rw [Int.toNat_of_nonneg (by omega)] at hr
  refine ⟨r, n', ?_, hl⟩
  unfold spec_l4Draw.f
  refine ev_bind0 hx ?_
  simp only []
  rw [wrap_id (by omega) (by omega)]
  exact hr
theorem spec_DrawBranchOf_ev {c : List Int} (hb : Bytes c) (hc : c.length ≤ 140737488351232) : ∃ r i, Ev (fun k => spec_DrawBranchOf.f k c) (r, i) ∧ r.length ≤ 101 ∧ -1 ≤ i ∧ i ≤ 200 := by
  obtain ⟨r, n', hr, hl, h0, h1⟩ := spec_l4Draw_ev hb hc 0 (by omega) (by omega)
  obtain ⟨x, hx, x0, x1, _⟩ := spec_l1Next_some hb hc n' (wrap64 ((r.length : Int) + 2)) h0 (by omega) (by rw [wrap_id (by omega) (by omega)]; omega)
  have hx1 := x1 (by rw [wrap_id (by omega) (by omega)]; omega)
  rw [wrap_id (by omega) (by omega)] at hx1
  refine ⟨r, wrap64 (x - 1), ?_, hl, by rw [wrap_id (by omega) (by omega)]; omega, by rw [wrap_id (by omega) (by omega)]; omega⟩
  unfold spec_DrawBranchOf.f
  exact ev_bind0 rfl (ev_bind hr (ev_bind0 hx (Ev.now _)))
theorem spec_DrawClimbOf_ev {c : List Int} (hb : Bytes c) (hc : c.length ≤ 140737488351232) : ∃ a i r, Ev (fun k => spec_DrawClimbOf.f k c) (a, i, r) ∧ r.length ≤ 101 := by
  obtain ⟨a, _, ha⟩ := spec_l1Pick_some hb hc 0 (by omega) (by omega) [7, 2147483646, -1, 5] (by simp) (by simp)
  obtain ⟨i, _, hi⟩ := spec_l1Pick_some hb hc (0 + 1) (by omega) (by omega) [0, 3, 255, 256] (by simp) (by simp)
  obtain ⟨r, n', hr, hl, _, _⟩ := spec_l4Draw_ev hb hc (0 + 1 + 1) (by omega) (by omega)
  refine ⟨a, i, r, ?_, hl⟩
  unfold spec_DrawClimbOf.f
  exact ev_bind0 rfl (ev_bind0 ha (ev_bind0 hi (ev_bind hr (Ev.now _))))

/-- The four bytes of a number. -/
def be4 (n : Int) : List Int := [n / 16777216 % 256, n / 65536 % 256, n / 256 % 256, n % 256]
theorem be4_bytes (n : Int) : Bytes (be4 n) := by
  intro x hx
  simp only [be4, List.mem_cons, List.not_mem_nil, or_false] at hx
  rcases hx with rfl | rfl | rfl | rfl <;> omega
theorem Bytes.app {a b : List Int} (ha : Bytes a) (hb : Bytes b) : Bytes (a ++ b) := by
  intro x hx; rcases List.mem_append.1 hx with h | h
  · exact ha x h
  · exact hb x h
/-- The sum of numbers. -/
def sumI (l : List Int) : Int := sumB (l.flatMap be4)
theorem sumI_bd (l : List Int) : 0 ≤ sumI l ∧ sumI l ≤ 2147483646 := sumB_bd _
theorem spec_l1SumInts_l0 (suf : List Int) : ∀ (pre acc : List Int), Bytes acc → (acc.length : Int) + 4 * suf.length < 140737488355328 → (pre.length : Int) + suf.length ≤ 9223372036854775806 →
    Ev (fun k => spec_l1SumInts.l0 k (pre ++ suf) acc pre.length) (sumB (acc ++ suf.flatMap be4)) := by
  induction suf with
  | nil =>
    intro pre acc hb hl _
    simp only [List.append_nil, List.flatMap_nil]
    refine Ev.step (f := fun k => (spec_l1Sum.f k acc).bind fun t => some t) (fun k => by rw [spec_l1SumInts.l0]; rw [if_neg (by omega)]) ?_
    exact ev_bind (spec_l1Sum_ev hb (by simp at hl; omega)) (Ev.now _)
  | cons b suf ih =>
    intro pre acc hb hl hp
    simp only [List.length_cons, Int.natCast_add, Int.natCast_one] at hl hp
    have h := ih (pre ++ [b]) (acc ++ be4 b) (hb.app (be4_bytes b)) (by simp [be4]; omega) (by simp; omega)
    refine Ev.step (fun k => ?_) (by simpa using h)
    rw [spec_l1SumInts.l0]
    rw [if_pos (by simp; omega), if_pos (by omega), rd_mid]
    simp only [spec_l1Four.f, Option.bind_some]
    rw [if_pos (by simp; omega), wrap_id (by omega) (by omega)]
    simp [be4]
theorem spec_l1SumInts_ev {l : List Int} (hl : l.length ≤ 1000) : Ev (fun k => spec_l1SumInts.f k l) (sumI l) :=
  spec_l1SumInts_l0 l [] [] (by intro x hx; cases hx) (by simp; omega) (by simp; omega)
theorem impl_high_ev (a : Int) : Ev (fun k => impl_high.f k a 4) (be4 a) := by
  refine Ev.of (impl_high.mono a 4) (k := 5) ?_
  have w3 : wrap64 (3) = 3 := wrap_id (by omega) (by omega)
  have w2 : wrap64 (2) = 2 := wrap_id (by omega) (by omega)
  have w1 : wrap64 (1) = 1 := wrap_id (by omega) (by omega)
  have w0 : wrap64 (0) = 0 := wrap_id (by omega) (by omega)
  have wm : wrap64 (-1) = -1 := wrap_id (by omega) (by omega)
  have d1 : a / 256 / 256 = a / 65536 := by omega
  have d2 : a / 65536 / 256 = a / 16777216 := by omega
  simp [impl_high.f, impl_high.l0, w3, w2, w1, w0, wm, be4, List.replicate, d1, d2]
theorem impl_sumInts_l0 (suf : List Int) : ∀ (pre acc : List Int), Bytes acc → (acc.length : Int) + 4 * suf.length < 140737488355328 → (pre.length : Int) + suf.length ≤ 9223372036854775806 →
    Ev (fun k => impl_sumInts.l0 k acc (pre ++ suf) ((pre ++ suf).length : Int) pre.length) (sumB (acc ++ suf.flatMap be4)) := by
  induction suf with
  | nil =>
    intro pre acc hb hl _
    simp only [List.append_nil, List.flatMap_nil]
    refine Ev.step (f := fun k => (impl_sumOf.f k acc).bind fun t => some t) (fun k => by rw [impl_sumInts.l0]; rw [if_neg (by omega)]) ?_
    exact ev_bind (impl_sumOf_ev hb (by simp at hl; omega)) (Ev.now _)
  | cons b suf ih =>
    intro pre acc hb hl hp
    simp only [List.length_cons, Int.natCast_add, Int.natCast_one] at hl hp
    have h := ih (pre ++ [b]) (acc ++ be4 b) (hb.app (be4_bytes b)) (by simp [be4]; omega) (by simp; omega)
    refine Ev.step (f := fun k => (impl_high.f k b 4).bind fun t => if acc.length + t.length < 140737488355328 then impl_sumInts.l0 k (acc ++ t) (pre ++ b :: suf) ((pre ++ b :: suf).length : Int) ((pre.length : Int) + 1) else none) (fun k => ?_) ?_
    · rw [impl_sumInts.l0]
      rw [if_pos (by simp; omega), if_pos (by omega), if_pos (by simp; omega), rd_mid, wrap_id (by omega) (by omega)]
    · refine ev_bind (impl_high_ev b) (ev_if (by simp [be4]; omega) ?_)
      simpa using h
theorem impl_sumInts_ev {l : List Int} (hl : l.length ≤ 1000) : Ev (fun k => impl_sumInts.f k l) (sumI l) :=
  impl_sumInts_l0 l [] [] (by intro x hx; cases hx) (by simp; omega) (by simp; omega)

/-- All numbers of a list lie between two. -/
def AllIn (l : List Int) (lo hi : Int) : Prop := ∀ x ∈ l, lo ≤ x ∧ x ≤ hi
instance (l : List Int) (lo hi : Int) : Decidable (AllIn l lo hi) := by unfold AllIn; infer_instance
theorem AllIn_cons {b : Int} {l : List Int} {lo hi : Int} : AllIn (b :: l) lo hi ↔ (lo ≤ b ∧ b ≤ hi) ∧ AllIn l lo hi := by simp [AllIn]

/-- The sum with which one of a row is joined. -/
def mateV (l : List Int) (i : Nat) : Int := if i % 2 = 1 then l.getD (i - 1) 0 else if i + 1 < l.length then l.getD (i + 1) 0 else l.getD i 0
/-- The row above a row. -/
def aboveV : List Int → List Int
  | [] => []
  | [a] => [sumI [a, a]]
  | a :: b :: t => sumI [a, b] :: aboveV t
theorem aboveV_length : ∀ l : List Int, (aboveV l).length = (l.length + 1) / 2
  | [] => by simp [aboveV]
  | [_] => by simp [aboveV]
  | _ :: _ :: t => by simp only [aboveV, List.length_cons, aboveV_length t]; omega
/-- The sum at the top of a row, in at most n steps. -/
def rootN : Nat → List Int → Int
  | 0, l => l.getD 0 0
  | n + 1, l => if l.length > 1 then rootN n (aboveV l) else l.getD 0 0
theorem rd_getD (l : List Int) (i : Nat) : rd l (i : Int) = l.getD i 0 := by unfold rd; simp
theorem getD_app (pre suf : List Int) (i : Nat) : (pre ++ suf).getD (pre.length + i) 0 = suf.getD i 0 := by
  simp [List.getD_eq_getElem?_getD, List.getElem?_append_right]
theorem mateV_even (pre : List Int) (h : pre.length % 2 = 0) (a b : Int) (t : List Int) : mateV (pre ++ a :: b :: t) pre.length = b := by
  unfold mateV
  rw [if_neg (by omega), if_pos (by simp)]
  simp
theorem mateV_last (pre : List Int) (h : pre.length % 2 = 0) (a : Int) : mateV (pre ++ [a]) pre.length = a := by
  unfold mateV
  rw [if_neg (by omega), if_neg (by simp)]
  simp

theorem mateV_cons2 (a b : Int) (t : List Int) (j : Nat) : mateV (a :: b :: t) (2 * j + 2) = mateV t (2 * j) := by
  unfold mateV
  rw [if_neg (c := (2 * j + 2) % 2 = 1) (by omega), if_neg (c := (2 * j) % 2 = 1) (by omega)]
  simp only [List.length_cons]
  by_cases h : 2 * j + 1 < t.length
  · rw [if_pos (by omega), if_pos h]; simp [show 2 * j + 2 + 1 = (2 * j + 1) + 1 + 1 by omega]
  · rw [if_neg (by omega), if_neg h]; simp [show 2 * j + 2 = (2 * j) + 1 + 1 by omega]
theorem aboveV_getD : ∀ (l : List Int) (j : Nat), 2 * j < l.length → (aboveV l).getD j 0 = sumI [l.getD (2 * j) 0, mateV l (2 * j)]
  | [], j, h => by simp at h
  | [a], j, h => by
    obtain rfl : j = 0 := by simp at h; omega
    simp [aboveV, mateV]
  | a :: b :: t, 0, _ => by simp [aboveV, mateV]
  | a :: b :: t, j + 1, h => by
    have ih := aboveV_getD t j (by simp only [List.length_cons] at h; omega)
    rw [show 2 * (j + 1) = 2 * j + 2 by omega, mateV_cons2]
    simpa [aboveV, show 2 * j + 2 = (2 * j) + 1 + 1 by omega] using ih
theorem mateV_odd (l : List Int) (i : Nat) (h : i % 2 = 1) : mateV l i = l.getD (i - 1) 0 := by unfold mateV; rw [if_pos h]
theorem getD_in {l : List Int} (ha : AllIn l 0 2147483646) (i : Nat) : 0 ≤ l.getD i 0 ∧ l.getD i 0 ≤ 2147483646 := by
  rw [List.getD_eq_getElem?_getD]
  cases h : l[i]? with
  | none => simp
  | some x => exact ha x (List.mem_of_getElem? h)
theorem mateV_in {l : List Int} (ha : AllIn l 0 2147483646) (i : Nat) : 0 ≤ mateV l i ∧ mateV l i ≤ 2147483646 := by
  unfold mateV
  split
  · exact getD_in ha _
  · split
    · exact getD_in ha _
    · exact getD_in ha _
theorem aboveV_in : ∀ l : List Int, AllIn (aboveV l) 0 2147483646
  | [] => by intro x hx; simp [aboveV] at hx
  | [a] => by
    intro x hx
    simp only [aboveV, List.mem_cons, List.not_mem_nil, or_false] at hx
    rw [hx]; exact sumI_bd _
  | a :: b :: t => by
    intro x hx
    simp only [aboveV, List.mem_cons] at hx
    rcases hx with hx | hx
    · rw [hx]; exact sumI_bd _
    · exact aboveV_in t x hx

theorem spec_l1In_eq (a b c : Int) : spec_l1In.f a b c = some (decide (b ≤ a ∧ a ≤ c)) := by
  unfold spec_l1In.f
  by_cases h : a ≥ b
  · rw [if_pos h]; congr 1; rw [Bool.eq_iff_iff]; simp; omega
  · rw [if_neg h]; congr 1; symm; simp; omega
theorem impl_in_eq (a b c : Int) : impl_in.f a b c = some (decide (b ≤ a ∧ a ≤ c)) := by
  unfold impl_in.f
  by_cases h : a ≥ b
  · rw [if_pos h]; congr 1; rw [Bool.eq_iff_iff]; simp; omega
  · rw [if_neg h]; congr 1; symm; simp; omega

theorem spec_l1All_l0 (lo hi : Int) (suf : List Int) : ∀ (pre : List Int), (pre.length : Int) + suf.length ≤ 9223372036854775806 →
    Ev (fun k => spec_l1All.l0 k (pre ++ suf) lo hi pre.length) (decide (AllIn suf lo hi)) := by
  induction suf with
  | nil => intro pre _; exact ev_succ (fun k => by rw [spec_l1All.l0, if_neg (by simp)]; simp [AllIn])
  | cons b suf ih =>
    intro pre hl
    simp only [List.length_cons, Int.natCast_add, Int.natCast_one] at hl
    have h := ih (pre ++ [b]) (by simp; omega)
    by_cases hb : lo ≤ b ∧ b ≤ hi
    · have e : decide (AllIn (b :: suf) lo hi) = decide (AllIn suf lo hi) := by simp [AllIn_cons, hb]
      rw [e]
      refine Ev.step (fun k => ?_) h
      rw [spec_l1All.l0, if_pos (by simp; omega), if_pos (by omega), rd_mid, spec_l1In_eq, wrap_id (by omega) (by omega)]
      simp [hb]
    · have e : decide (AllIn (b :: suf) lo hi) = false := by simp [AllIn_cons, hb]
      rw [e]
      refine ev_succ (fun k => ?_)
      rw [spec_l1All.l0, if_pos (by simp; omega), if_pos (by omega), rd_mid, spec_l1In_eq]
      simp [hb]
theorem spec_l1All_ev {l : List Int} (lo hi : Int) (hl : (l.length : Int) ≤ 9223372036854775806) : Ev (fun k => spec_l1All.f k l lo hi) (decide (AllIn l lo hi)) := by
  unfold spec_l1All.f
  exact spec_l1All_l0 lo hi l [] (by simpa using hl)

theorem spec_l4Join_ev (a b : Int) : Ev (fun k => spec_l4Join.f k a b) (sumI [a, b]) := by
  unfold spec_l4Join.f
  exact ev_bind (spec_l1SumInts_ev (by simp)) (Ev.now _)

theorem spec_l4Mate_eq (l : List Int) (i : Nat) (hi : i < l.length) (hl : l.length ≤ 1000) : spec_l4Mate.f l i = some (mateV l i) := by
  unfold spec_l4Mate.f mateV
  have hm : Int.tmod (i : Int) 2 = ((i % 2 : Nat) : Int) := by rw [Int.tmod_eq_emod_of_nonneg (by omega)]; omega
  rw [hm]
  by_cases h : i % 2 = 1
  · rw [if_pos (by omega), wrap_id (by omega) (by omega), if_neg (by omega), if_pos (by omega), if_pos (by omega), if_pos h]
    have : (i : Int) - 1 = ((i - 1 : Nat) : Int) := by omega
    rw [this, rd_getD]
  · rw [if_neg (by omega), wrap_id (by omega) (by omega), if_neg h]
    by_cases h2 : i + 1 < l.length
    · rw [if_neg (by omega), if_pos (by omega), if_pos (by omega), if_pos h2]
      have : (i : Int) + 1 = ((i + 1 : Nat) : Int) := by omega
      rw [this, rd_getD]
    · rw [if_pos (by omega), if_pos (by omega), if_pos (by omega), if_neg h2, rd_getD]
theorem spec_l4Above_l0 : ∀ (suf pre out : List Int), pre.length % 2 = 0 → pre.length + suf.length ≤ 1000 → out.length + suf.length ≤ 2000 →
    Ev (fun k => spec_l4Above.l0 k (pre ++ suf) out pre.length) (out ++ aboveV suf)
  | [], pre, out, _, _, _ => ev_succ (fun k => by rw [spec_l4Above.l0, if_neg (by simp)]; simp [aboveV])
  | [a], pre, out, he, hl, ho => by
    simp only [List.length_cons, List.length_nil] at hl ho
    refine Ev.step (f := fun k => (spec_l4Mate.f (pre ++ [a]) (pre.length : Int)).bind fun t => (spec_l4Join.f k a t).bind fun q => if out.length < 17592186044416 then spec_l4Above.l0 k (pre ++ [a]) (out ++ [q]) ((pre.length : Int) + 2) else none) (fun k => ?_) ?_
    · rw [spec_l4Above.l0, if_pos (by simp; omega), if_pos (by omega), rd_mid, wrap_id (by omega) (by omega)]
    · refine ev_bind0 (spec_l4Mate_eq _ _ (by simp) (by simp; omega)) ?_
      rw [mateV_last pre he]
      refine ev_bind (spec_l4Join_ev a a) (ev_if (by omega) ?_)
      exact ev_succ (fun k => by rw [spec_l4Above.l0, if_neg (by simp)]; simp [aboveV])
  | a :: b :: t, pre, out, he, hl, ho => by
    simp only [List.length_cons] at hl ho
    have ih := spec_l4Above_l0 t (pre ++ [a, b]) (out ++ [sumI [a, b]]) (by simp; omega) (by simp; omega) (by simp; omega)
    refine Ev.step (f := fun k => (spec_l4Mate.f (pre ++ a :: b :: t) (pre.length : Int)).bind fun u => (spec_l4Join.f k a u).bind fun q => if out.length < 17592186044416 then spec_l4Above.l0 k (pre ++ a :: b :: t) (out ++ [q]) ((pre.length : Int) + 2) else none) (fun k => ?_) ?_
    · rw [spec_l4Above.l0, if_pos (by simp; omega), if_pos (by omega), rd_mid, wrap_id (by omega) (by omega)]
    · refine ev_bind0 (spec_l4Mate_eq _ _ (by simp) (by simp; omega)) ?_
      rw [mateV_even pre he]
      refine ev_bind (spec_l4Join_ev a b) (ev_if (by omega) ?_)
      simpa [aboveV] using ih
theorem spec_l4Above_ev {l : List Int} (hl : l.length ≤ 1000) : Ev (fun k => spec_l4Above.f k l) (aboveV l) := by
  unfold spec_l4Above.f
  exact spec_l4Above_l0 l [] [] rfl (by simpa using hl) (by simp; omega)
/-- The code of leaves. -/
def leavesV (l : List Int) : Int := if 1 ≤ l.length ∧ l.length ≤ 8 then (if AllIn l 0 2147483646 then 0 else 3) else 2
theorem spec_l4Asked_ev {l : List Int} (hl : l.length ≤ 140737488351232) : Ev (fun k => spec_l4Asked.f k l) (leavesV l) := by
  unfold spec_l4Asked.f leavesV
  by_cases h1 : l.length < 1
  · rw [if_neg (by omega)]
    exact ev_if (by omega) (ev_succ (fun k => by rw [spec_l4Asked.j0, if_pos rfl]))
  · refine ev_ifn (by omega) ?_
    by_cases h2 : l.length > 8
    · rw [if_neg (by omega)]
      exact ev_succ (fun k => by rw [spec_l4Asked.j0, if_pos (by simp; omega)])
    · rw [if_pos (by omega)]
      refine Ev.step (f := fun k => (spec_l1All.f k l 0 2147483646).bind fun t => if t = true then some 0 else some 3) (fun k => by rw [spec_l4Asked.j0, if_neg (by simp; omega)]) ?_
      refine ev_bind (spec_l1All_ev 0 2147483646 (by omega)) ?_
      by_cases ha : AllIn l 0 2147483646
      · rw [if_pos ha]; exact ev_if (by simpa using ha) (Ev.now _)
      · rw [if_neg ha]; exact ev_ifn (by simpa using ha) (Ev.now _)

theorem impl_isSum_eq (a : Int) : impl_isSum.f a = some (decide (0 ≤ a ∧ a ≤ 2147483646)) := by
  unfold impl_isSum.f; rw [impl_in_eq]; rfl

theorem slices_IndexFunc_at_impl_sumsFault_1_l0 (p : Int → Bool) (hp : ∀ x, impl_sumsFault_1.f x = some (p x)) (suf : List Int) : ∀ (pre : List Int), (pre.length : Int) + suf.length ≤ 9223372036854775806 →
    ∃ r : Int, Ev (fun k => slices_IndexFunc_at_impl_sumsFault_1.l0 k (pre ++ suf) ((pre ++ suf).length : Int) pre.length) r ∧ decide (r ≥ 0) = suf.any p := by
  induction suf with
  | nil => intro pre _; exact ⟨-1, ev_succ (fun k => by rw [slices_IndexFunc_at_impl_sumsFault_1.l0, if_neg (by simp)]), by simp⟩
  | cons b suf ih =>
    intro pre hl
    simp only [List.length_cons, Int.natCast_add, Int.natCast_one] at hl
    cases hb : p b with
    | true =>
      refine ⟨pre.length, ev_succ (fun k => ?_), by simp [hb]⟩
      rw [slices_IndexFunc_at_impl_sumsFault_1.l0, if_pos (by simp; omega), if_pos (by omega), if_pos (by simp; omega), rd_mid, hp, hb]
      rfl
    | false =>
      obtain ⟨r, h, hr⟩ := ih (pre ++ [b]) (by simp; omega)
      refine ⟨r, Ev.step (fun k => ?_) h, by simp [hb, hr]⟩
      rw [slices_IndexFunc_at_impl_sumsFault_1.l0, if_pos (by simp; omega), if_pos (by omega), if_pos (by simp; omega), rd_mid, hp, hb, wrap_id (by omega) (by omega)]
      simp
theorem slices_ContainsFunc_at_impl_sumsFault_1_ev (p : Int → Bool) (hp : ∀ x, impl_sumsFault_1.f x = some (p x)) {l : List Int} (hl : (l.length : Int) ≤ 9223372036854775806) :
    Ev (fun k => slices_ContainsFunc_at_impl_sumsFault_1.f k l) (l.any p) := by
  obtain ⟨r, h, hr⟩ := slices_IndexFunc_at_impl_sumsFault_1_l0 p hp l [] (by simpa using hl)
  rw [← hr]
  unfold slices_ContainsFunc_at_impl_sumsFault_1.f slices_IndexFunc_at_impl_sumsFault_1.f
  exact ev_bind (by simpa using h) (Ev.now _)

def badSum (x : Int) : Bool := !decide (0 ≤ x ∧ x ≤ 2147483646)
theorem impl_sumsFault_1_eq (x : Int) : impl_sumsFault_1.f x = some (badSum x) := by
  unfold impl_sumsFault_1.f badSum; rw [impl_isSum_eq]; rfl
theorem any_badSum (l : List Int) : l.any badSum = !decide (AllIn l 0 2147483646) := by
  induction l with
  | nil => simp [AllIn]
  | cons b l ih => simp only [List.any_cons, ih, badSum]; by_cases h : 0 ≤ b ∧ b ≤ 2147483646 <;> by_cases h2 : AllIn l 0 2147483646 <;> simp [AllIn_cons, h, h2]
theorem impl_sumsFault_ev {l : List Int} (hl : (l.length : Int) ≤ 9223372036854775806) : Ev (fun k => impl_sumsFault.f k l) (if AllIn l 0 2147483646 then 0 else 3) := by
  unfold impl_sumsFault.f
  refine ev_bind (slices_ContainsFunc_at_impl_sumsFault_1_ev badSum impl_sumsFault_1_eq hl) ?_
  rw [any_badSum]
  by_cases h : AllIn l 0 2147483646
  · rw [if_pos h]; exact ev_ifn (by simp [h]) (Ev.now _)
  · rw [if_neg h]; exact ev_if (by simp [h]) (Ev.now _)

theorem impl_xor_all : ∀ n : Nat, n < 1024 → Go.bits .xor .i64 (n : Int) 1 = if n % 2 = 1 then (n : Int) - 1 else n + 1 := by decide +kernel
theorem impl_partner_eq (l : List Int) (i : Nat) (hi : i < l.length) (hl : l.length ≤ 1000) : impl_partner.f l i = some (mateV l i) := by
  unfold impl_partner.f mateV
  rw [impl_xor_all i (by omega)]
  by_cases h : i % 2 = 1
  · rw [if_pos h, if_pos (by omega), if_pos (by omega), if_pos h]
    have : (i : Int) - 1 = ((i - 1 : Nat) : Int) := by omega
    rw [this, rd_getD]
  · rw [if_neg h, if_neg h]
    by_cases h2 : i + 1 < l.length
    · rw [if_pos (by omega), if_pos (by omega), if_pos h2]
      have : (i : Int) + 1 = ((i + 1 : Nat) : Int) := by omega
      rw [this, rd_getD]
    · rw [if_neg (by omega), if_pos (by omega), if_pos (by omega), if_neg h2, rd_getD]
theorem impl_above_l0 : ∀ (suf pre out : List Int), pre.length % 2 = 0 → pre.length + suf.length ≤ 1000 → out.length + suf.length ≤ 2000 →
    Ev (fun k => impl_above.l0 k (pre ++ suf) out pre.length) (out ++ aboveV suf)
  | [], pre, out, _, _, _ => ev_succ (fun k => by rw [impl_above.l0, if_neg (by simp)]; simp [aboveV])
  | [a], pre, out, he, hl, ho => by
    simp only [List.length_cons, List.length_nil] at hl ho
    refine Ev.step (f := fun k => (impl_partner.f (pre ++ [a]) (pre.length : Int)).bind fun t => (impl_sumInts.f k [a, t]).bind fun q => if out.length < 17592186044416 then impl_above.l0 k (pre ++ [a]) (out ++ [q]) ((pre.length : Int) + 2) else none) (fun k => ?_) ?_
    · rw [impl_above.l0, if_pos (by simp; omega), if_pos (by omega), rd_mid, wrap_id (by omega) (by omega)]
    · refine ev_bind0 (impl_partner_eq _ _ (by simp) (by simp; omega)) ?_
      rw [mateV_last pre he]
      refine ev_bind (impl_sumInts_ev (by simp)) (ev_if (by omega) ?_)
      exact ev_succ (fun k => by rw [impl_above.l0, if_neg (by simp)]; simp [aboveV])
  | a :: b :: t, pre, out, he, hl, ho => by
    simp only [List.length_cons] at hl ho
    have ih := impl_above_l0 t (pre ++ [a, b]) (out ++ [sumI [a, b]]) (by simp; omega) (by simp; omega) (by simp; omega)
    refine Ev.step (f := fun k => (impl_partner.f (pre ++ a :: b :: t) (pre.length : Int)).bind fun u => (impl_sumInts.f k [a, u]).bind fun q => if out.length < 17592186044416 then impl_above.l0 k (pre ++ a :: b :: t) (out ++ [q]) ((pre.length : Int) + 2) else none) (fun k => ?_) ?_
    · rw [impl_above.l0, if_pos (by simp; omega), if_pos (by omega), rd_mid, wrap_id (by omega) (by omega)]
    · refine ev_bind0 (impl_partner_eq _ _ (by simp) (by simp; omega)) ?_
      rw [mateV_even pre he]
      refine ev_bind (impl_sumInts_ev (by simp)) (ev_if (by omega) ?_)
      simpa [aboveV] using ih
theorem impl_above_ev {l : List Int} (hl : l.length ≤ 1000) : Ev (fun k => impl_above.f k l) (aboveV l) := by
  unfold impl_above.f
  exact impl_above_l0 l [] [] rfl (by simpa using hl) (by simp; omega)

theorem impl_leavesFault_ev {l : List Int} (hl : l.length ≤ 140737488351232) : Ev (fun k => impl_leavesFault.f k l) (leavesV l) := by
  unfold impl_leavesFault.f leavesV
  refine ev_bind0 (impl_in_eq _ _ _) ?_
  by_cases h : 1 ≤ l.length ∧ l.length ≤ 8
  · rw [if_pos h]
    refine ev_if (by simp; omega) (ev_bind (impl_sumsFault_ev (by omega)) (Ev.now _))
  · rw [if_neg h]
    exact ev_ifn (by simp; omega) (Ev.now _)
theorem leavesV_0 {l : List Int} (h : leavesV l = 0) : 1 ≤ l.length ∧ l.length ≤ 8 ∧ AllIn l 0 2147483646 := by
  unfold leavesV at h
  by_cases h1 : 1 ≤ l.length ∧ l.length ≤ 8
  · rw [if_pos h1] at h
    by_cases h2 : AllIn l 0 2147483646
    · exact ⟨h1.1, h1.2, h2⟩
    · rw [if_neg h2] at h; omega
  · rw [if_neg h1] at h; omega

/-- The branch of a leaf, in at most n steps. -/
def branchN : Nat → List Int → Nat → List Int
  | 0, _, _ => []
  | n + 1, l, i => if l.length > 1 then mateV l i :: branchN n (aboveV l) (i / 2) else []
theorem branchN_length : ∀ (n : Nat) (l : List Int) (i : Nat), (branchN n l i).length ≤ n
  | 0, _, _ => by simp [branchN]
  | n + 1, l, i => by
    unfold branchN
    split
    · simp only [List.length_cons]; have := branchN_length n (aboveV l) (i / 2); omega
    · simp
theorem half_wrap (i : Nat) (h : i ≤ 1000) : wrap64 (Int.tdiv (i : Int) 2) = ((i / 2 : Nat) : Int) := by
  rw [Int.tdiv_eq_ediv_of_nonneg (by omega), wrap_id (by omega) (by omega)]; omega
theorem spec_BranchOf_l0 : ∀ (n : Nat) (l : List Int) (i : Nat) (out : List Int), l.length ≤ n + 1 → l.length ≤ 1000 → i < l.length → out.length + n ≤ 1000 →
    Ev (fun k => spec_BranchOf.l0 k i l 0 out) (0, out ++ branchN n l i)
  | 0, l, i, out, h1, _, _, _ => ev_succ (fun k => by rw [spec_BranchOf.l0, if_neg (by omega)]; simp [branchN])
  | n + 1, l, i, out, h1, h2, h3, h4 => by
    unfold branchN
    by_cases h : l.length > 1
    · rw [if_pos h]
      have hlen := aboveV_length l
      have ih := spec_BranchOf_l0 n (aboveV l) (i / 2) (out ++ [mateV l i]) (by omega) (by omega) (by omega) (by simp; omega)
      refine Ev.step (f := fun k => (spec_l4Mate.f l i).bind fun t => if out.length < 17592186044416 then (spec_l4Above.f k l).bind fun u => spec_BranchOf.l0 k ((i / 2 : Nat) : Int) u 0 (out ++ [t]) else none) (fun k => by rw [spec_BranchOf.l0, if_pos (by omega), half_wrap i (by omega)]) ?_
      refine ev_bind0 (spec_l4Mate_eq l i h3 h2) (ev_if (by omega) (ev_bind (spec_l4Above_ev h2) ?_))
      simpa using ih
    · rw [if_neg h]
      exact ev_succ (fun k => by rw [spec_BranchOf.l0, if_neg (by omega)]; simp)
theorem impl_BranchOf_l0 : ∀ (n : Nat) (l : List Int) (i : Nat) (out : List Int), l.length ≤ n + 1 → l.length ≤ 1000 → i < l.length → out.length + n ≤ 1000 →
    Ev (fun k => impl_BranchOf.l0 k i out l) (0, out ++ branchN n l i)
  | 0, l, i, out, h1, _, _, _ => ev_succ (fun k => by rw [impl_BranchOf.l0, if_neg (by omega)]; simp [branchN])
  | n + 1, l, i, out, h1, h2, h3, h4 => by
    unfold branchN
    by_cases h : l.length > 1
    · rw [if_pos h]
      have hlen := aboveV_length l
      have ih := impl_BranchOf_l0 n (aboveV l) (i / 2) (out ++ [mateV l i]) (by omega) (by omega) (by omega) (by simp; omega)
      refine Ev.step (f := fun k => (impl_partner.f l i).bind fun t => if out.length < 17592186044416 then (impl_above.f k l).bind fun u => impl_BranchOf.l0 k ((i / 2 : Nat) : Int) (out ++ [t]) u else none) (fun k => by rw [impl_BranchOf.l0, if_pos (by omega), half_wrap i (by omega)]) ?_
      refine ev_bind0 (impl_partner_eq l i h3 h2) (ev_if (by omega) (ev_bind (impl_above_ev h2) ?_))
      simpa using ih
    · rw [if_neg h]
      exact ev_succ (fun k => by rw [impl_BranchOf.l0, if_neg (by omega)]; simp)
def branchV (l : List Int) (i : Int) : Int × List Int :=
  if leavesV l = 0 then (if 0 ≤ i ∧ i ≤ (l.length : Int) - 1 then (0, branchN 7 l i.toNat) else (3, [])) else (leavesV l, [])
theorem branchV_length (l : List Int) (i : Int) : (branchV l i).2.length ≤ 7 := by
  unfold branchV; split
  · split
    · exact branchN_length _ _ _
    · simp
  · simp
theorem spec_BranchOf_ev {l : List Int} (i : Int) (hl : l.length ≤ 140737488351232) : Ev (fun k => spec_BranchOf.f k l i) (branchV l i) := by
  unfold spec_BranchOf.f branchV
  refine ev_bind (spec_l4Asked_ev hl) ?_
  by_cases h : leavesV l = 0
  · have hh := leavesV_0 h
    rw [if_pos h]
    refine ev_if h (ev_bind0 (spec_l1In_eq _ _ _) ?_)
    rw [wrap_id (by omega) (by omega)]
    by_cases h2 : 0 ≤ i ∧ i ≤ (l.length : Int) - 1
    · rw [if_pos h2]
      have := spec_BranchOf_l0 7 l i.toNat [] (by omega) (by omega) (by omega) (by simp)
      rw [Int.toNat_of_nonneg h2.1] at this
      exact ev_if (by simpa using h2) (by simpa using this)
    · rw [if_neg h2]; exact ev_ifn (by simp; omega) (Ev.now _)
  · rw [if_neg h]; exact ev_ifn h (Ev.now _)
theorem impl_BranchOf_ev {l : List Int} (i : Int) (hl : l.length ≤ 140737488351232) : Ev (fun k => impl_BranchOf.f k l i) (branchV l i) := by
  unfold impl_BranchOf.f branchV
  refine ev_bind (impl_leavesFault_ev hl) ?_
  by_cases h : leavesV l = 0
  · have hh := leavesV_0 h
    rw [if_pos h]
    refine ev_if h (ev_bind0 (impl_in_eq _ _ _) ?_)
    rw [wrap_id (by omega) (by omega)]
    by_cases h2 : 0 ≤ i ∧ i ≤ (l.length : Int) - 1
    · rw [if_pos h2]
      have := impl_BranchOf_l0 7 l i.toNat [] (by omega) (by omega) (by omega) (by simp)
      rw [Int.toNat_of_nonneg h2.1] at this
      exact ev_if (by simpa using h2) (by simpa using this)
    · rw [if_neg h2]; exact ev_ifn (by simp; omega) (Ev.now _)
  · rw [if_neg h]; exact ev_ifn h (Ev.now _)

theorem spec_l4Sum_eq (a : Int) : spec_l4Sum.f a = some (decide (0 ≤ a ∧ a ≤ 2147483646)) := by
  unfold spec_l4Sum.f; rw [spec_l1In_eq]; rfl

/-- From a leaf up a branch. -/
def climbV : Int → Int → List Int → Int
  | leaf, _, [] => leaf
  | leaf, at_, o :: t => climbV (if at_ % 2 = 0 then sumI [leaf, o] else sumI [o, leaf]) (at_ / 2) t
def climbR (leaf at_ : Int) (l : List Int) : Int × Int :=
  if (0 ≤ leaf ∧ leaf ≤ 2147483646) ∧ (0 ≤ at_ ∧ at_ ≤ 255) then if l.length > 8 then (2, 0) else if AllIn l 0 2147483646 then (0, climbV leaf at_ l) else (3, 0) else (3, 0)
theorem spec_ClimbOf_l0 (suf : List Int) : ∀ (pre : List Int) (leaf at_ : Int), 0 ≤ at_ → at_ ≤ 255 → pre.length + suf.length ≤ 8 →
    Ev (fun k => spec_ClimbOf.l0 k leaf at_ (pre ++ suf) pre.length) (0, climbV leaf at_ suf) := by
  induction suf with
  | nil => intro pre leaf at_ _ _ _; exact ev_succ (fun k => by rw [spec_ClimbOf.l0, if_neg (by simp)]; simp [climbV])
  | cons b suf ih =>
    intro pre leaf at_ h0 h1 hl
    simp only [List.length_cons] at hl
    have ht : Int.tmod at_ 2 = at_ % 2 := Int.tmod_eq_emod_of_nonneg h0
    have hd : wrap64 (Int.tdiv at_ 2) = at_ / 2 := by rw [Int.tdiv_eq_ediv_of_nonneg h0, wrap_id (by omega) (by omega)]
    have hn : (pre.length : Int) + 1 = ((pre ++ [b]).length : Int) := by simp
    unfold climbV
    by_cases hp : at_ % 2 = 0
    · rw [if_pos hp]
      have h := ih (pre ++ [b]) (sumI [leaf, b]) (at_ / 2) (by omega) (by omega) (by simp; omega)
      refine Ev.step (f := fun k => (spec_l4Join.f k leaf b).bind fun t => spec_ClimbOf.l0 k t (at_ / 2) (pre ++ b :: suf) ((pre.length : Int) + 1)) (fun k => ?_) ?_
      · rw [spec_ClimbOf.l0, if_pos (by simp; omega), ht, if_pos hp, if_pos (by omega), rd_mid, hd, wrap_id (by omega) (by omega)]
      · refine ev_bind (spec_l4Join_ev _ _) ?_
        rw [hn]; simpa using h
    · rw [if_neg hp]
      have h := ih (pre ++ [b]) (sumI [b, leaf]) (at_ / 2) (by omega) (by omega) (by simp; omega)
      refine Ev.step (f := fun k => (spec_l4Join.f k b leaf).bind fun t => spec_ClimbOf.l0 k t (at_ / 2) (pre ++ b :: suf) ((pre.length : Int) + 1)) (fun k => ?_) ?_
      · rw [spec_ClimbOf.l0, if_pos (by simp; omega), ht, if_neg hp, if_pos (by omega), rd_mid, hd, wrap_id (by omega) (by omega)]
      · refine ev_bind (spec_l4Join_ev _ _) ?_
        rw [hn]; simpa using h
theorem impl_ClimbOf_l0 (suf : List Int) : ∀ (pre : List Int) (leaf at_ : Int), 0 ≤ at_ → at_ ≤ 255 → pre.length + suf.length ≤ 8 →
    Ev (fun k => impl_ClimbOf.l0 k leaf at_ (pre ++ suf) ((pre ++ suf).length : Int) pre.length) (0, climbV leaf at_ suf) := by
  induction suf with
  | nil => intro pre leaf at_ _ _ _; exact ev_succ (fun k => by rw [impl_ClimbOf.l0, if_neg (by simp)]; simp [climbV])
  | cons b suf ih =>
    intro pre leaf at_ h0 h1 hl
    simp only [List.length_cons] at hl
    have ht : Int.tmod at_ 2 = at_ % 2 := Int.tmod_eq_emod_of_nonneg h0
    have hd : wrap64 (Int.tdiv at_ 2) = at_ / 2 := by rw [Int.tdiv_eq_ediv_of_nonneg h0, wrap_id (by omega) (by omega)]
    have hn : (pre.length : Int) + 1 = ((pre ++ [b]).length : Int) := by simp
    unfold climbV
    by_cases hp : at_ % 2 = 0
    · rw [if_pos hp]
      have h := ih (pre ++ [b]) (sumI [leaf, b]) (at_ / 2) (by omega) (by omega) (by simp; omega)
      refine Ev.step (f := fun k => (impl_sumInts.f k [leaf, b]).bind fun t => impl_ClimbOf.l0 k t (at_ / 2) (pre ++ b :: suf) ((pre ++ b :: suf).length : Int) ((pre.length : Int) + 1)) (fun k => ?_) ?_
      · rw [impl_ClimbOf.l0, if_pos (by simp; omega), if_pos (by omega), if_pos (by simp; omega), ht, if_pos hp, rd_mid, hd, wrap_id (by omega) (by omega)]
      · refine ev_bind (impl_sumInts_ev (by simp)) ?_
        rw [hn]; simpa using h
    · rw [if_neg hp]
      have h := ih (pre ++ [b]) (sumI [b, leaf]) (at_ / 2) (by omega) (by omega) (by simp; omega)
      refine Ev.step (f := fun k => (impl_sumInts.f k [b, leaf]).bind fun t => impl_ClimbOf.l0 k t (at_ / 2) (pre ++ b :: suf) ((pre ++ b :: suf).length : Int) ((pre.length : Int) + 1)) (fun k => ?_) ?_
      · rw [impl_ClimbOf.l0, if_pos (by simp; omega), if_pos (by omega), if_pos (by simp; omega), ht, if_neg hp, rd_mid, hd, wrap_id (by omega) (by omega)]
      · refine ev_bind (impl_sumInts_ev (by simp)) ?_
        rw [hn]; simpa using h
theorem spec_ClimbOf_ev (leaf at_ : Int) {l : List Int} (hl : l.length ≤ 140737488351232) : Ev (fun k => spec_ClimbOf.f k leaf at_ l) (climbR leaf at_ l) := by
  unfold spec_ClimbOf.f climbR
  refine ev_bind0 (spec_l4Sum_eq _) ?_
  by_cases h1 : 0 ≤ leaf ∧ leaf ≤ 2147483646
  · refine ev_if (by simpa using h1) (ev_bind0 (spec_l1In_eq _ _ _) ?_)
    by_cases h2 : 0 ≤ at_ ∧ at_ ≤ 255
    · rw [if_pos ⟨h1, h2⟩]
      by_cases h3 : l.length > 8
      · rw [if_pos h3]
        exact ev_succ (fun k => by rw [spec_ClimbOf.j0, if_neg (by simpa using h2), if_pos (by omega)])
      · rw [if_neg h3]
        refine Ev.step (f := fun k => (spec_l1All.f k l 0 2147483646).bind fun t => if t = true then spec_ClimbOf.l0 k leaf at_ l 0 else some (3, 0)) (fun k => by rw [spec_ClimbOf.j0, if_neg (by simpa using h2), if_neg (by omega)]) ?_
        refine ev_bind (spec_l1All_ev 0 2147483646 (by omega)) ?_
        by_cases ha : AllIn l 0 2147483646
        · rw [if_pos ha]; exact ev_if (by simpa using ha) (spec_ClimbOf_l0 l [] leaf at_ h2.1 h2.2 (by simp; omega))
        · rw [if_neg ha]; exact ev_ifn (by simpa using ha) (Ev.now _)
    · rw [if_neg (fun h => h2 h.2)]
      exact ev_succ (fun k => by rw [spec_ClimbOf.j0, if_pos (by simp; omega)])
  · rw [if_neg (fun h => h1 h.1)]
    exact ev_ifn (by simpa using h1) (ev_succ (fun k => by rw [spec_ClimbOf.j0, if_pos rfl]))
theorem impl_ClimbOf_ev (leaf at_ : Int) {l : List Int} (hl : l.length ≤ 140737488351232) : Ev (fun k => impl_ClimbOf.f k leaf at_ l) (climbR leaf at_ l) := by
  unfold impl_ClimbOf.f climbR
  refine ev_bind0 (impl_isSum_eq _) ?_
  by_cases h1 : 0 ≤ leaf ∧ leaf ≤ 2147483646
  · refine ev_if (by simpa using h1) (ev_bind0 (impl_in_eq _ _ _) ?_)
    by_cases h2 : 0 ≤ at_ ∧ at_ ≤ 255
    · rw [if_pos ⟨h1, h2⟩]
      by_cases h3 : l.length > 8
      · rw [if_pos h3]
        exact ev_succ (fun k => by rw [impl_ClimbOf.j0, if_neg (by simpa using h2), if_pos (by omega)])
      · rw [if_neg h3]
        refine Ev.step (f := fun k => (impl_sumsFault.f k l).bind fun t => if t = 0 then impl_ClimbOf.l0 k leaf at_ l (l.length : Int) 0 else some (3, 0)) (fun k => by rw [impl_ClimbOf.j0, if_neg (by simpa using h2), if_neg (by omega)]) ?_
        refine ev_bind (impl_sumsFault_ev (by omega)) ?_
        by_cases ha : AllIn l 0 2147483646
        · rw [if_pos ha, if_pos ha]; exact ev_if rfl (impl_ClimbOf_l0 l [] leaf at_ h2.1 h2.2 (by simp; omega))
        · rw [if_neg ha, if_neg ha]; exact ev_ifn (by decide) (Ev.now _)
    · rw [if_neg (fun h => h2 h.2)]
      exact ev_succ (fun k => by rw [impl_ClimbOf.j0, if_pos (by simp; omega)])
  · rw [if_neg (fun h => h1 h.1)]
    exact ev_ifn (by simpa using h1) (ev_succ (fun k => by rw [impl_ClimbOf.j0, if_pos rfl]))

theorem branchN_in : ∀ (n : Nat) (l : List Int) (i : Nat), AllIn l 0 2147483646 → AllIn (branchN n l i) 0 2147483646
  | 0, _, _, _ => by intro x hx; simp [branchN] at hx
  | n + 1, l, i, ha => by
    unfold branchN
    split
    · rw [AllIn_cons]; exact ⟨mateV_in ha i, branchN_in n _ _ (aboveV_in l)⟩
    · intro x hx; simp at hx
theorem branchN_short : ∀ (n m : Nat) (l : List Int) (i : Nat), l.length ≤ 2 ^ m → (branchN n l i).length ≤ m
  | 0, _, _, _, _ => by simp [branchN]
  | n + 1, m, l, i, h => by
    unfold branchN
    by_cases h1 : l.length > 1
    · rw [if_pos h1]
      cases m with
      | zero => simp at h; omega
      | succ m =>
        have hp : 2 ^ (m + 1) = 2 * 2 ^ m := by rw [Nat.pow_succ]; omega
        have := branchN_short n m (aboveV l) (i / 2) (by rw [aboveV_length]; omega)
        simp only [List.length_cons]; omega
    · rw [if_neg h1]; simp
theorem climb_root : ∀ (n : Nat) (l : List Int) (i : Nat), l.length ≤ n + 1 → i < l.length → climbV (l.getD i 0) i (branchN n l i) = rootN n l
  | 0, l, i, h1, h2 => by
    obtain rfl : i = 0 := by omega
    simp [branchN, climbV, rootN]
  | n + 1, l, i, h1, h2 => by
    unfold branchN rootN
    by_cases h : l.length > 1
    · rw [if_pos h, if_pos h]
      have hlen := aboveV_length l
      have ih := climb_root n (aboveV l) (i / 2) (by omega) (by omega)
      rw [← ih]
      have e : ((i : Int) / 2) = ((i / 2 : Nat) : Int) := by omega
      rw [climbV, e]
      congr 1
      by_cases hp : i % 2 = 0
      · rw [if_pos (by omega), aboveV_getD l (i / 2) (by omega), show 2 * (i / 2) = i by omega]
      · rw [if_neg (by omega), aboveV_getD l (i / 2) (by omega), mateV_odd l i (by omega), show 2 * (i / 2) = i - 1 by omega]
        have : mateV l (i - 1) = l.getD i 0 := by
          unfold mateV
          rw [if_neg (by omega), if_pos (by omega), show i - 1 + 1 = i by omega]
        rw [this]
    · rw [if_neg h, if_neg h]
      obtain rfl : i = 0 := by omega
      simp [climbV]

theorem spec_l4Root_l0 : ∀ (n : Nat) (l : List Int), 1 ≤ l.length → l.length ≤ n + 1 → l.length ≤ 1000 → Ev (fun k => spec_l4Root.l0 k l) (rootN n l)
  | 0, l, h1, h2, _ => ev_succ (fun k => by rw [spec_l4Root.l0, if_neg (by omega), if_pos (by omega)]; have := rd_getD l 0; simp at this; simp [rootN, this])
  | n + 1, l, h1, h2, h3 => by
    unfold rootN
    by_cases h : l.length > 1
    · rw [if_pos h]
      have hlen := aboveV_length l
      have ih := spec_l4Root_l0 n (aboveV l) (by omega) (by omega) (by omega)
      exact Ev.step (f := fun k => (spec_l4Above.f k l).bind fun t => spec_l4Root.l0 k t) (fun k => by rw [spec_l4Root.l0, if_pos (by omega)]) (ev_bind (spec_l4Above_ev h3) ih)
    · rw [if_neg h]
      exact ev_succ (fun k => by rw [spec_l4Root.l0, if_neg (by omega), if_pos (by omega)]; have := rd_getD l 0; simp at this; simp [this])
theorem impl_rootOf_l0 : ∀ (n : Nat) (l : List Int), 1 ≤ l.length → l.length ≤ n + 1 → l.length ≤ 1000 → Ev (fun k => impl_rootOf.l0 k l) (rootN n l)
  | 0, l, h1, h2, _ => ev_succ (fun k => by rw [impl_rootOf.l0, if_neg (by omega), if_pos (by omega)]; have := rd_getD l 0; simp at this; simp [rootN, this])
  | n + 1, l, h1, h2, h3 => by
    unfold rootN
    by_cases h : l.length > 1
    · rw [if_pos h]
      have hlen := aboveV_length l
      have ih := impl_rootOf_l0 n (aboveV l) (by omega) (by omega) (by omega)
      exact Ev.step (f := fun k => (impl_above.f k l).bind fun t => impl_rootOf.l0 k t) (fun k => by rw [impl_rootOf.l0, if_pos (by omega)]) (ev_bind (impl_above_ev h3) ih)
    · rw [if_neg h]
      exact ev_succ (fun k => by rw [impl_rootOf.l0, if_neg (by omega), if_pos (by omega)]; have := rd_getD l 0; simp at this; simp [this])
def rootV (l : List Int) : Int × Int := if leavesV l = 0 then (0, rootN 7 l) else (leavesV l, 0)
theorem spec_RootOf_ev {l : List Int} (hl : l.length ≤ 140737488351232) : Ev (fun k => spec_RootOf.f k l) (rootV l) := by
  unfold spec_RootOf.f rootV spec_l4Root.f
  refine ev_bind (spec_l4Asked_ev hl) ?_
  by_cases h : leavesV l = 0
  · have hh := leavesV_0 h
    rw [if_pos h]; exact ev_if h (ev_bind (spec_l4Root_l0 7 l hh.1 (by omega) (by omega)) (Ev.now _))
  · rw [if_neg h]; exact ev_ifn h (Ev.now _)
theorem impl_RootOf_ev {l : List Int} (hl : l.length ≤ 140737488351232) : Ev (fun k => impl_RootOf.f k l) (rootV l) := by
  unfold impl_RootOf.f rootV impl_rootOf.f
  refine ev_bind (impl_leavesFault_ev hl) ?_
  by_cases h : leavesV l = 0
  · have hh := leavesV_0 h
    rw [if_pos h]; exact ev_if h (ev_bind (impl_rootOf_l0 7 l hh.1 (by omega) (by omega)) (Ev.now _))
  · rw [if_neg h]; exact ev_ifn h (Ev.now _)

theorem FnBranches : laws_FnBranches.Pure := by
  intro c hm hl hw
  have hb : Bytes c := fun x hx => wf8 (hw x hx)
  have hc : c.length ≤ 140737488351232 := by omega
  refine Ev.rounds (g := fun k => laws_FnBranches.f k c) ?_
  unfold laws_FnBranches.f
  refine ev_bind0 rfl ?_
  by_cases hbig : (c.length : Int) > 1048576
  · exact ev_if (by simpa using hbig) (Ev.now _)
  refine ev_ifn (by simpa using hbig) ?_
  obtain ⟨l, i, hd1, hd2, i0, i1⟩ := spec_DrawBranchOf_ev hb hc
  obtain ⟨a, p, br, hd3, hd4⟩ := spec_DrawClimbOf_ev hb hc
  refine ev_bind hd1 (ev_bind (impl_BranchOf_ev _ (by simp only []; omega)) (ev_bind hd3 (ev_bind (impl_ClimbOf_ev _ _ (by simp only []; omega)) (ev_bind (spec_ClimbOf_ev _ _ (by simp only []; omega)) (ev_if rfl (ev_bind (spec_ClimbOf_ev _ _ (by simp only []; omega)) ?_))))))
  simp only [bne_self_eq_false]
  have hl' : l.length ≤ 140737488351232 := by omega
  by_cases h : (branchV l i).1 = 0
  · have hv : leavesV l = 0 ∧ 0 ≤ i ∧ i ≤ (l.length : Int) - 1 := by
      unfold branchV at h
      by_cases h1 : leavesV l = 0
      · rw [if_pos h1] at h
        by_cases h2 : 0 ≤ i ∧ i ≤ (l.length : Int) - 1
        · exact ⟨h1, h2⟩
        · rw [if_neg h2] at h; simp at h
      · rw [if_neg h1] at h; exact absurd h h1
    have hbv : branchV l i = (0, branchN 7 l i.toNat) := by unfold branchV; rw [if_pos hv.1, if_pos hv.2]
    have hlv := leavesV_0 hv.1
    have hroot : rootV l = (0, rootN 7 l) := by unfold rootV; rw [if_pos hv.1]
    have hin := branchN_in 7 l i.toNat hlv.2.2
    have hsh := branchN_short 7 3 l i.toNat (by simp; omega)
    have hcl : climbR (rd l i) i (branchN 7 l i.toNat) = (0, rootN 7 l) := by
      have e : rd l i = l.getD i.toNat 0 := by
        have := rd_getD l i.toNat
        rwa [Int.toNat_of_nonneg hv.2.1] at this
      unfold climbR
      rw [e, if_pos ⟨getD_in hlv.2.2 _, by omega⟩, if_neg (by omega), if_pos hin]
      have := climb_root 7 l i.toNat (by omega) (by omega)
      rw [Int.toNat_of_nonneg hv.2.1] at this
      rw [this]
    rw [hbv]
    refine Ev.step (f := fun k => laws_FnBranches.j1 k l i false 0 (branchN 7 l i.toNat)) (fun k => ?_) ?_
    · rw [laws_FnBranches.j0, if_neg (by decide), if_pos rfl, if_neg (by omega)]
      have : decide (i ≥ (l.length : Int)) = false := by simp; omega
      simp only [this]
    · refine Ev.step (fun k => by rw [laws_FnBranches.j1, if_neg (by decide)]) ?_
      refine ev_bind (impl_RootOf_ev hl') (ev_if hv.2.1 (ev_if (by omega) (ev_bind (impl_ClimbOf_ev _ _ (by omega)) ?_)))
      rw [hroot, hcl]
      refine ev_if rfl (ev_if rfl (ev_if rfl (ev_bind (spec_RootOf_ev hl') ?_)))
      rw [hroot]
      refine ev_if rfl ?_
      have : decide (((branchN 7 l i.toNat).length : Int) ≤ 3) = true := by simp; omega
      simp only [this]
      exact Ev.now _
  · refine Ev.step (f := fun k => (spec_BranchOf.f k l i).bind fun t => if t.1 = (branchV l i).1 then (impl_RootOf.f k l).bind fun u => (spec_RootOf.f k l).bind fun v => some (u.1 == v.1) else none) (fun k => ?_) ?_
    · rw [laws_FnBranches.j0, if_neg (by decide), if_neg h]
    · refine ev_bind (spec_BranchOf_ev i hl') (ev_if rfl (ev_bind (impl_RootOf_ev hl') (ev_bind (spec_RootOf_ev hl') ?_)))
      simp only [BEq.rfl]
      exact Ev.now _

end Go.Proofs.Ytjgnjhbleiempaa.Pure
