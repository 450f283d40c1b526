/- for every code, amounts are added in any order as the law FnMoney says: it answers true. -/
import Derived.Test.YtjgnjhbleiempaaQFnMoneyx5
namespace Go.Proofs.Ytjgnjhbleiempaa.Pure
open Go.RowKit Go.Proofs.Ytjgnjhbleiempaa.QFnMoney Go.Proofs.YtjgnjhbleiempaaW.PrintWords Go.Proofs.YtjgnjhbleiempaaW.PrintLast
set_option linter.unusedVariables false
set_option linter.unusedSimpArgs false

theorem wrap_id {x : Int} (h1 : -9223372036854775808 ≤ x) (h2 : x ≤ 9223372036854775807) : wrap64 x = x := by
  unfold wrap64; omega
theorem wf64 {x : Int} (h : (Lit.int .i64 x).wf = true) : -9223372036854775808 ≤ x ∧ x ≤ 9223372036854775807 := by
  simpa [Lit.wf, IntKind.min, IntKind.max, IntKind.signed, IntKind.bits] using h
theorem wf8 {x : Int} (h : (Lit.int .u8 x).wf = true) : 0 ≤ x ∧ x ≤ 255 := by
  simpa [Lit.wf, IntKind.min, IntKind.max, IntKind.signed, IntKind.bits] using h
theorem ev_some {α : Type} {g : Nat → Option α} {r : α} (h : ∀ k, g k = some r) : Ev g r := ⟨0, fun k _ => h k⟩
theorem ev_succ {α : Type} {g : Nat → Option α} {r : α} (h : ∀ k, g (k + 1) = some r) : Ev g r := Ev.step h (Ev.now r)
/-- A call whose answer is known, and what follows. -/
theorem ev_bind {α β : Type} {g : Nat → Option α} {f : α → Nat → Option β} {a : α} {r : β} (h : Ev g a) (k : Ev (f a) r) : Ev (fun n => (g n).bind fun t => f t n) r :=
  Ev.bind (f := fun n t => f t n) h k
theorem ev_if {α : Type} {p : Prop} [Decidable p] {g f : Nat → Option α} {r : α} (hp : p) (k : Ev g r) : Ev (fun n => if p then g n else f n) r :=
  Ev.congr (fun n => if_pos hp) k
theorem ev_ifn {α : Type} {p : Prop} [Decidable p] {g f : Nat → Option α} {r : α} (hp : ¬ p) (k : Ev f r) : Ev (fun n => if p then g n else f n) r :=
  Ev.congr (fun n => if_neg hp) k
theorem ev_bind0 {α β : Type} {g : Option α} {f : α → Nat → Option β} {a : α} {r : β} (h : g = some a) (k : Ev (f a) r) : Ev (fun n => g.bind fun t => f t n) r := by
  subst h; exact k
theorem rd_mid (pre : List Int) (b : Int) (suf : List Int) : rd (pre ++ b :: suf) (pre.length : Int) = b := by
  unfold rd
  simp
theorem rd_at {l : List Int} {i : Int} (h0 : 0 ≤ i) (h1 : i < l.length) : rd l i = l[i.toNat]'(by omega) := by
  unfold rd
  rw [List.getD_eq_getElem?_getD, List.getElem?_eq_getElem (by omega)]; rfl
theorem split_at_len {α : Type} (l : List α) (n : Nat) (h : n ≤ l.length) : ∃ pre suf, l = pre ++ suf ∧ pre.length = n :=
  ⟨l.take n, l.drop n, (List.take_append_drop n l).symm, by simp; omega⟩

/-- One byte more in a sum. -/
def stepS (a b : Int) : Int := (33 * a + b + 1) % 2147483647
/-- The sum of bytes. -/
def sumB (l : List Int) : Int := l.foldl stepS 5381
def Bytes (l : List Int) : Prop := ∀ x ∈ l, 0 ≤ x ∧ x ≤ 255
theorem stepS_bd (a b : Int) : 0 ≤ stepS a b ∧ stepS a b < 2147483647 := by unfold stepS; omega
theorem sumB_bd_go (l : List Int) : ∀ a : Int, 0 ≤ a → a < 2147483647 → 0 ≤ l.foldl stepS a ∧ l.foldl stepS a < 2147483647 := by
  induction l with
  | nil => intro a h0 h1; exact ⟨h0, h1⟩
  | cons b l ih => intro a _ _; exact ih _ (stepS_bd a b).1 (stepS_bd a b).2
theorem sumB_bd (l : List Int) : 0 ≤ sumB l ∧ sumB l ≤ 2147483646 := by
  have := sumB_bd_go l 5381 (by omega) (by omega)
  unfold sumB; omega
theorem step_wrap {a b : Int} (h0 : 0 ≤ a) (h1 : a < 2147483647) (hb : 0 ≤ b ∧ b ≤ 255) :
    Int.tmod (wrap64 ((wrap64 ((wrap64 (a * 33)) + (wrap64 b))) + 1)) 2147483647 = stepS a b := by
  rw [wrap_id (x := a * 33) (by omega) (by omega), wrap_id (x := b) (by omega) (by omega), wrap_id (x := a * 33 + b) (by omega) (by omega), wrap_id (x := a * 33 + b + 1) (by omega) (by omega), Int.tmod_eq_emod_of_nonneg (by omega)]
  unfold stepS; rw [Int.mul_comm a 33]
theorem spec_l1Sum_l0 (suf : List Int) : ∀ (pre : List Int) (a : Int), 0 ≤ a → a < 2147483647 → Bytes suf → (pre.length : Int) + suf.length ≤ 9223372036854775806 →
    Ev (fun k => spec_l1Sum.l0 k (pre ++ suf) a pre.length) (suf.foldl stepS a) := by
  induction suf with
  | nil => intro pre a _ _ _ _; exact ev_succ (fun k => by simp [spec_l1Sum.l0])
  | cons b suf ih =>
    intro pre a h0 h1 hb hl
    have hb0 := hb b List.mem_cons_self
    simp only [List.length_cons, Int.natCast_add, Int.natCast_one] at hl
    have h := ih (pre ++ [b]) (stepS a b) (stepS_bd a b).1 (stepS_bd a b).2 (fun x hx => hb x (List.mem_cons_of_mem _ hx)) (by simp; omega)
    refine Ev.step (fun k => ?_) h
    rw [spec_l1Sum.l0]
    rw [if_pos (by simp; omega), if_pos (by omega), rd_mid, step_wrap h0 h1 hb0, wrap_id (by omega) (by omega)]
    simp
theorem spec_l1Sum_ev {l : List Int} (hb : Bytes l) (hl : (l.length : Int) ≤ 9223372036854775806) : Ev (fun k => spec_l1Sum.f k l) (sumB l) :=
  spec_l1Sum_l0 l [] 5381 (by omega) (by omega) hb (by simpa using hl)
theorem impl_sumOf_l0 (suf : List Int) : ∀ (pre : List Int) (a : Int), 0 ≤ a → a < 2147483647 → Bytes suf → (pre.length : Int) + suf.length ≤ 9223372036854775806 →
    Ev (fun k => impl_sumOf.l0 k a (pre ++ suf) ((pre ++ suf).length : Int) pre.length) (suf.foldl stepS a) := by
  induction suf with
  | nil => intro pre a _ _ _ _; exact ev_succ (fun k => by simp [impl_sumOf.l0])
  | cons b suf ih =>
    intro pre a h0 h1 hb hl
    have hb0 := hb b List.mem_cons_self
    simp only [List.length_cons, Int.natCast_add, Int.natCast_one] at hl
    have h := ih (pre ++ [b]) (stepS a b) (stepS_bd a b).1 (stepS_bd a b).2 (fun x hx => hb x (List.mem_cons_of_mem _ hx)) (by simp; omega)
    refine Ev.step (fun k => ?_) h
    rw [impl_sumOf.l0]
    rw [if_pos (by simp; omega), if_pos (by omega), if_pos (by simp; omega), rd_mid, Int.mul_comm 33 a, step_wrap h0 h1 hb0, wrap_id (by omega) (by omega)]
    simp
theorem impl_sumOf_ev {l : List Int} (hb : Bytes l) (hl : (l.length : Int) ≤ 9223372036854775806) : Ev (fun k => impl_sumOf.f k l) (sumB l) :=
  impl_sumOf_l0 l [] 5381 (by omega) (by omega) hb (by simpa using hl)

theorem rd_byte {c : List Int} (hb : Bytes c) (i : Int) : 0 ≤ rd c i ∧ rd c i ≤ 255 := by
  unfold rd
  rw [List.getD_eq_getElem?_getD]
  cases h : c[i.toNat]? with
  | none => simp
  | some x => exact hb x (List.mem_of_getElem? h)
/-- A draw: a number below m, and the next place. -/
theorem spec_l1Next_some {c : List Int} (hb : Bytes c) (hc : c.length ≤ 140737488351232) (n m : Int) (h0 : 0 ≤ n) (h1 : n ≤ 1000000) (hm : m ≤ 1000000) :
    ∃ v, spec_l1Next.f c n m = some (v, n + 1) ∧ 0 ≤ v ∧ (1 ≤ m → v < m) ∧ (m < 1 → v = 0) := by
  unfold spec_l1Next.f
  rw [wrap_id (x := n + 1) (by omega) (by omega), wrap_id (x := n + 1 - 1) (by omega) (by omega), show n + 1 - 1 = n by omega]
  by_cases hm1 : m < 1
  · rw [if_pos hm1]; exact ⟨0, rfl, by omega, by omega, fun _ => rfl⟩
  rw [if_neg hm1]
  by_cases hk : (c.length : Int) = 0
  · rw [if_pos hk, if_neg (by omega), wrap_id (x := n * 7) (by omega) (by omega), Int.tmod_eq_emod_of_nonneg (by omega)]
    exact ⟨_, rfl, Int.emod_nonneg _ (by omega), fun _ => Int.emod_lt_of_pos _ (by omega), fun h => absurd h hm1⟩
  rw [if_neg hk]
  have hkp : (0 : Int) < c.length := by omega
  have e1 : Int.tmod n (c.length : Int) = n % (c.length : Int) := Int.tmod_eq_emod_of_nonneg h0
  have e2 : Int.tdiv n (c.length : Int) = n / (c.length : Int) := Int.tdiv_eq_ediv_of_nonneg h0
  have b1 := Int.emod_nonneg n (b := (c.length : Int)) (by omega)
  have b2 := Int.emod_lt_of_pos n hkp
  have b3 : 0 ≤ n / (c.length : Int) := Int.ediv_nonneg h0 (by omega)
  have b4 : n / (c.length : Int) ≤ n := Int.ediv_le_self _ h0
  have r1 := rd_byte hb (n % (c.length : Int))
  rw [e1, e2, if_pos b1, if_pos b2]
  rw [wrap_id (x := rd c (n % (c.length : Int))) (by omega) (by omega), wrap_id (x := n / (c.length : Int)) (by omega) (by omega), wrap_id (x := n / (c.length : Int) * 37) (by omega) (by omega), wrap_id (x := rd c (n % (c.length : Int)) + n / (c.length : Int) * 37) (by omega) (by omega)]
  by_cases h200 : m > 200
  · rw [if_pos h200]
    rw [wrap_id (x := n + 1) (by omega) (by omega)]
    have e3 : Int.tmod (n + 1) (c.length : Int) = (n + 1) % (c.length : Int) := Int.tmod_eq_emod_of_nonneg (by omega)
    have b5 := Int.emod_nonneg (n + 1) (b := (c.length : Int)) (by omega)
    have b6 := Int.emod_lt_of_pos (n + 1) hkp
    have r2 := rd_byte hb ((n + 1) % (c.length : Int))
    rw [e3, if_pos b5, if_pos b6, if_neg (by omega)]
    generalize rd c (n % (c.length : Int)) = x at *
    generalize rd c ((n + 1) % (c.length : Int)) = y at *
    generalize n / (c.length : Int) = z at *
    rw [wrap_id (x := (x + z * 37) * 251) (by omega) (by omega), wrap_id (x := y) (by omega) (by omega), wrap_id (x := y * 13) (by omega) (by omega), wrap_id (x := (x + z * 37) * 251 + y * 13) (by omega) (by omega), wrap_id (x := (x + z * 37) * 251 + y * 13 + n) (by omega) (by omega), Int.tmod_eq_emod_of_nonneg (by omega)]
    exact ⟨_, rfl, Int.emod_nonneg _ (by omega), fun _ => Int.emod_lt_of_pos _ (by omega), fun h => absurd h hm1⟩
  · rw [if_neg h200, if_neg (by omega), Int.tmod_eq_emod_of_nonneg (by omega)]
    exact ⟨_, rfl, Int.emod_nonneg _ (by omega), fun _ => Int.emod_lt_of_pos _ (by omega), fun h => absurd h hm1⟩

theorem rd_mem {l : List Int} {i : Int} (h0 : 0 ≤ i) (h1 : i < l.length) : rd l i ∈ l := by
  rw [rd_at h0 h1]; exact List.getElem_mem _
theorem spec_l1Pick_some {c : List Int} (hb : Bytes c) (hc : c.length ≤ 140737488351232) (n : Int) (h0 : 0 ≤ n) (h1 : n ≤ 1000000) (l : List Int) (hl : 1 ≤ l.length) (hl2 : l.length ≤ 1000) :
    ∃ v, v ∈ l ∧ spec_l1Pick.f c n l = some (v, n + 1) := by
  unfold spec_l1Pick.f
  obtain ⟨j, hj, j0, j1, _⟩ := spec_l1Next_some hb hc n (l.length : Int) h0 h1 (by omega)
  rw [hj]
  simp only [Option.bind_some]
  rw [if_pos j0, if_pos (j1 (by omega))]
  exact ⟨_, rd_mem j0 (j1 (by omega)), rfl⟩

theorem spec_l1Chance_some {c : List Int} (hb : Bytes c) (hc : c.length ≤ 140737488351232) (n m : Int) (h0 : 0 ≤ n) (h1 : n ≤ 1000000) (hm : m ≤ 1000000) : ∃ b, spec_l1Chance.f c n m = some (b, n + 1) := by
  unfold spec_l1Chance.f
  obtain ⟨j, hj, _⟩ := spec_l1Next_some hb hc n m h0 h1 hm
  rw [hj]
  exact ⟨_, rfl⟩

theorem spec_DrawAddMoney_some {c : List Int} (hb : Bytes c) (hc : c.length ≤ 140737488351232) : ∃ a b, spec_DrawAddMoney.f c = some (a, b) ∧ -1 ≤ a ∧ a ≤ 1000001 ∧ -1 ≤ b ∧ b ≤ 1000001 := by
  unfold spec_DrawAddMoney.f spec_l1Source.f
  simp only [Option.bind_some]
  obtain ⟨x, hx, x0, x1, _⟩ := spec_l1Next_some hb hc 0 1000 (by omega) (by omega) (by omega)
  rw [hx]; simp only [Option.bind_some]
  obtain ⟨a, ha, ha'⟩ := spec_l1Pick_some hb hc (0 + 1) (by omega) (by omega) [x, 600000, 1000000, 1000001, -1] (by simp) (by simp)
  rw [ha']; simp only [Option.bind_some]
  obtain ⟨y, hy, y0, y1, _⟩ := spec_l1Next_some hb hc (0 + 1 + 1) 1000 (by omega) (by omega) (by omega)
  rw [hy]; simp only [Option.bind_some]
  obtain ⟨b, hb', hb''⟩ := spec_l1Pick_some hb hc (0 + 1 + 1 + 1) (by omega) (by omega) [y, 400000, 400001] (by simp) (by simp)
  rw [hb'']; simp only [Option.bind_some]
  have := x1 (by omega)
  have := y1 (by omega)
  simp only [List.mem_cons, List.not_mem_nil, or_false] at ha hb'
  exact ⟨a, b, rfl, by omega, by omega, by omega, by omega⟩
theorem spec_DrawTotalOf_l0 {c : List Int} (hb : Bytes c) (hc : c.length ≤ 140737488351232) : ∀ (d : Nat) (out : List Int) (n : Int), 0 ≤ n → n + 4 * d ≤ 1000 → out.length + d ≤ 100 →
    ∃ r, Ev (fun k => spec_DrawTotalOf.l0 k out d c n) r ∧ r.length ≤ 101
  | 0, out, n, h0, h1, h2 => by
    obtain ⟨b, hb1⟩ := spec_l1Chance_some hb hc n 10 h0 (by omega) (by omega)
    cases b with
    | false => exact ⟨out, ev_succ (fun k => by rw [spec_DrawTotalOf.l0, if_neg (by omega), hb1]; rfl), by omega⟩
    | true =>
      obtain ⟨v, _, hv⟩ := spec_l1Pick_some hb hc (n + 1) (by omega) (by omega) [-1, 1000001] (by simp) (by simp)
      refine ⟨out ++ [v], ev_succ (fun k => ?_), by simp; omega⟩
      rw [spec_DrawTotalOf.l0, if_neg (by omega), hb1]
      simp only [Option.bind_some, if_true]
      rw [hv]
      simp only [Option.bind_some]
      rw [if_pos (by omega)]
  | d + 1, out, n, h0, h1, h2 => by
    obtain ⟨x, hx, x0, x1, _⟩ := spec_l1Next_some hb hc n 1000 h0 (by omega) (by omega)
    obtain ⟨v, _, hv⟩ := spec_l1Pick_some hb hc (n + 1) (by omega) (by omega) [x, 300000, 1000000] (by simp) (by simp)
    obtain ⟨r, hr, hl⟩ := spec_DrawTotalOf_l0 hb hc d (out ++ [v]) (n + 1 + 1) (by omega) (by omega) (by simp; omega)
    refine ⟨r, Ev.step (fun k => ?_) hr, hl⟩
    rw [spec_DrawTotalOf.l0, if_pos (by omega), hx]
    simp only [Option.bind_some]
    rw [hv]
    simp only [Option.bind_some]
    rw [if_pos (by omega), wrap_id (by omega) (by omega)]
    congr 1
    omega
theorem spec_DrawTotalOf_ev {c : List Int} (hb : Bytes c) (hc : c.length ≤ 140737488351232) : ∃ r, Ev (fun k => spec_DrawTotalOf.f k c) r ∧ r.length ≤ 101 := by
  obtain ⟨x, hx, x0, x1, _⟩ := spec_l1Next_some hb hc 0 6 (by omega) (by omega) (by omega)
  obtain ⟨r, hr, hl⟩ := spec_DrawTotalOf_l0 hb hc x.toNat [] (0 + 1) (by omega) (by omega) (by simp; omega)
  rw [Int.toNat_of_nonneg x0] at hr
  refine ⟨r, ?_, hl⟩
  unfold spec_DrawTotalOf.f
  exact ev_bind0 rfl (ev_bind0 hx hr)
theorem spec_l1List_l0 {c : List Int} (hb : Bytes c) (hc : c.length ≤ 140737488351232) : ∀ (d : Nat) (out : List Int) (n : Int), 0 ≤ n → n + 4 * d ≤ 1000 → out.length + d ≤ 100 →
    ∃ r n', Ev (fun k => spec_l1List.l0 k out d c n) (r, n') ∧ r.length ≤ 201
  | 0, out, n, h0, h1, h2 => by
    obtain ⟨x, hx, x0, x1, _⟩ := spec_l1Next_some hb hc n 12 h0 (by omega) (by omega)
    by_cases e0 : x = 0
    · obtain ⟨v, _, hv⟩ := spec_l1Pick_some hb hc (n + 1) (by omega) (by omega) [-1, 2147483647] (by simp) (by simp)
      refine ⟨out ++ [v], n + 1 + 1, ev_succ (fun k => ?_), by simp; omega⟩
      rw [spec_l1List.l0, if_neg (by omega), hx]
      simp only [Option.bind_some]
      rw [if_pos e0, hv]
      simp only [Option.bind_some]
      rw [if_pos (by omega)]
    · by_cases e1 : x = 1
      · refine ⟨List.replicate 201 0, n + 1, ev_succ (fun k => ?_), by rw [List.length_replicate]; exact Nat.le_refl _⟩
        rw [spec_l1List.l0, if_neg (by omega), hx]
        simp only [Option.bind_some]
        rw [if_neg e0, if_pos e1, if_pos (by omega)]
      · refine ⟨out, n + 1, ev_succ (fun k => ?_), by omega⟩
        rw [spec_l1List.l0, if_neg (by omega), hx]
        simp only [Option.bind_some]
        rw [if_neg e0, if_neg e1]
  | d + 1, out, n, h0, h1, h2 => by
    obtain ⟨x, hx, x0, x1, _⟩ := spec_l1Next_some hb hc n 1000 h0 (by omega) (by omega)
    obtain ⟨v, _, hv⟩ := spec_l1Pick_some hb hc (n + 1) (by omega) (by omega) [x, 2147483646, 300000] (by simp) (by simp)
    obtain ⟨r, n', hr, hl⟩ := spec_l1List_l0 hb hc d (out ++ [v]) (n + 1 + 1) (by omega) (by omega) (by simp; omega)
    refine ⟨r, n', Ev.step (fun k => ?_) hr, hl⟩
    rw [spec_l1List.l0, if_pos (by omega), hx]
    simp only [Option.bind_some]
    rw [hv]
    simp only [Option.bind_some]
    rw [if_pos (by omega), wrap_id (by omega) (by omega)]
    congr 1
    omega
theorem spec_DrawSumInts_ev {c : List Int} (hb : Bytes c) (hc : c.length ≤ 140737488351232) : ∃ r, Ev (fun k => spec_DrawSumInts.f k c) r ∧ r.length ≤ 201 := by
  obtain ⟨x, hx, x0, x1, _⟩ := spec_l1Next_some hb hc 0 6 (by omega) (by omega) (by omega)
  obtain ⟨r, n', hr, hl⟩ := spec_l1List_l0 hb hc x.toNat [] (0 + 1) (by omega) (by omega) (by simp; omega)
  rw [Int.toNat_of_nonneg x0] at hr
  refine ⟨r, ?_, hl⟩
  unfold spec_DrawSumInts.f spec_l1List.f
  exact ev_bind0 rfl (ev_bind (ev_bind0 hx hr) (Ev.now _))
theorem spec_l1Some_l0 {c : List Int} (hb : Bytes c) (hc : c.length ≤ 140737488351232) : ∀ (d : Nat) (out : List Int) (n : Int), 0 ≤ n → n + d ≤ 5000 → out.length + d ≤ 5000 → Bytes out →
    ∃ r n', Ev (fun k => spec_l1Some.l0 k d out c n) (r, n') ∧ r.length = out.length + d ∧ Bytes r ∧ n' = n + d
  | 0, out, n, h0, h1, h2, h3 => ⟨out, n, ev_succ (fun k => by rw [spec_l1Some.l0, if_neg (by omega)]), by omega, h3, by omega⟩
  | d + 1, out, n, h0, h1, h2, h3 => by
    obtain ⟨x, hx, x0, x1, _⟩ := spec_l1Next_some hb hc n 256 h0 (by omega) (by omega)
    have hx1 := x1 (by omega)
    obtain ⟨r, n', hr, hl, hbr, hn⟩ := spec_l1Some_l0 hb hc d (out ++ [x % 256]) (n + 1) (by omega) (by omega) (by simp; omega) (by
      intro y hy
      rcases List.mem_append.1 hy with h | h
      · exact h3 y h
      · simp only [List.mem_cons, List.not_mem_nil, or_false] at h; omega)
    refine ⟨r, n', Ev.step (fun k => ?_) hr, by simp at hl; omega, hbr, by omega⟩
    rw [spec_l1Some.l0, if_pos (by omega), hx]
    simp only [Option.bind_some]
    rw [if_pos (by omega), wrap_id (by omega) (by omega)]
    congr 1
    omega
theorem spec_DrawSumOf_ev {c : List Int} (hb : Bytes c) (hc : c.length ≤ 140737488351232) : ∃ r, Ev (fun k => spec_DrawSumOf.f k c) r ∧ r.length ≤ 4001 ∧ Bytes r := by
  obtain ⟨b, hb1⟩ := spec_l1Chance_some hb hc 0 40 (by omega) (by omega) (by omega)
  unfold spec_DrawSumOf.f
  cases b with
  | true =>
    refine ⟨List.replicate 4001 0, ev_bind0 rfl (ev_bind0 hb1 (ev_if rfl (ev_if (by omega) (Ev.now _)))), by rw [List.length_replicate]; exact Nat.le_refl _, ?_⟩
    intro x hx
    have := List.eq_of_mem_replicate hx
    omega
  | false =>
    obtain ⟨x, hx, x0, x1, _⟩ := spec_l1Next_some hb hc (0 + 1) 12 (by omega) (by omega) (by omega)
    obtain ⟨r, n', hr, hl, hbr, _⟩ := spec_l1Some_l0 hb hc x.toNat [] (0 + 1 + 1) (by omega) (by omega) (by simp; omega) (by intro y hy; cases hy)
    rw [Int.toNat_of_nonneg x0] at hr
    refine ⟨r, ev_bind0 rfl (ev_bind0 hb1 (ev_ifn (by decide) (ev_bind0 hx (ev_bind hr (Ev.now _))))), by simp at hl; omega, hbr⟩

theorem spec_l1In_eq (a b c : Int) : spec_l1In.f a b c = some (decide (b ≤ a ∧ a ≤ c)) := by
  unfold spec_l1In.f
  by_cases h : a ≥ b
  · rw [if_pos h]; congr 1; rw [Bool.eq_iff_iff]; simp; omega
  · rw [if_neg h]; congr 1; symm; simp; omega
theorem impl_in_eq (a b c : Int) : impl_in.f a b c = some (decide (b ≤ a ∧ a ≤ c)) := by
  unfold impl_in.f
  by_cases h : a ≥ b
  · rw [if_pos h]; congr 1; rw [Bool.eq_iff_iff]; simp; omega
  · rw [if_neg h]; congr 1; symm; simp; omega

theorem spec_l1Amount_eq (a : Int) : spec_l1Amount.f a = some (decide (0 ≤ a ∧ a ≤ 1000000)) := by
  unfold spec_l1Amount.f; rw [spec_l1In_eq]; rfl
theorem impl_isAmount_eq (a : Int) : impl_isAmount.f a = some (decide (0 ≤ a ∧ a ≤ 1000000)) := by
  unfold impl_isAmount.f; rw [impl_in_eq]; rfl

def addV (a b : Int) : Int × Int := if (0 ≤ a ∧ a ≤ 1000000) ∧ (0 ≤ b ∧ b ≤ 1000000) then (if a + b ≤ 1000000 then (0, a + b) else (7, 0)) else (3, 0)
theorem spec_AddMoney_ev (a b : Int) : Ev (fun k => spec_AddMoney.f k a b) (addV a b) := by
  unfold spec_AddMoney.f addV
  refine ev_bind0 (spec_l1Amount_eq _) ?_
  by_cases h1 : 0 ≤ a ∧ a ≤ 1000000
  · refine ev_if (by simpa using h1) (ev_bind0 (spec_l1Amount_eq _) (ev_succ fun k => ?_))
    by_cases h2 : 0 ≤ b ∧ b ≤ 1000000
    · rw [spec_AddMoney.j0, if_neg (by simpa using h2), spec_l1Amount_eq, wrap_id (by omega) (by omega), if_pos ⟨h1, h2⟩]
      by_cases h3 : a + b ≤ 1000000
      · have : 0 ≤ a + b ∧ a + b ≤ 1000000 := by omega
        simp [h3, this]
      · simp [h3]
    · rw [spec_AddMoney.j0, if_pos (by simp; omega), if_neg (fun h => h2 h.2)]
  · rw [if_neg (fun h => h1 h.1)]
    exact ev_ifn (by simpa using h1) (ev_succ fun k => by rw [spec_AddMoney.j0, if_pos rfl])
theorem impl_AddMoney_ev (a b : Int) : Ev (fun k => impl_AddMoney.f k a b) (addV a b) := by
  unfold impl_AddMoney.f addV
  refine ev_bind0 (impl_isAmount_eq _) ?_
  by_cases h1 : 0 ≤ a ∧ a ≤ 1000000
  · refine ev_if (by simpa using h1) (ev_bind0 (impl_isAmount_eq _) (ev_succ fun k => ?_))
    by_cases h2 : 0 ≤ b ∧ b ≤ 1000000
    · rw [impl_AddMoney.j0, if_neg (by simpa using h2), impl_isAmount_eq, wrap_id (by omega) (by omega), if_pos ⟨h1, h2⟩]
      by_cases h3 : a + b ≤ 1000000
      · have : 0 ≤ a + b ∧ a + b ≤ 1000000 := by omega
        simp [h3, this]
      · simp [h3]
    · rw [impl_AddMoney.j0, if_pos (by simp; omega), if_neg (fun h => h2 h.2)]
  · rw [if_neg (fun h => h1 h.1)]
    exact ev_ifn (by simpa using h1) (ev_succ fun k => by rw [impl_AddMoney.j0, if_pos rfl])

/-- All numbers of a list lie between two. -/
def AllIn (l : List Int) (lo hi : Int) : Prop := ∀ x ∈ l, lo ≤ x ∧ x ≤ hi
instance (l : List Int) (lo hi : Int) : Decidable (AllIn l lo hi) := by unfold AllIn; infer_instance
theorem AllIn_cons {b : Int} {l : List Int} {lo hi : Int} : AllIn (b :: l) lo hi ↔ (lo ≤ b ∧ b ≤ hi) ∧ AllIn l lo hi := by simp [AllIn]

theorem spec_l1All_l0 (lo hi : Int) (suf : List Int) : ∀ (pre : List Int), (pre.length : Int) + suf.length ≤ 9223372036854775806 →
    Ev (fun k => spec_l1All.l0 k (pre ++ suf) lo hi pre.length) (decide (AllIn suf lo hi)) := by
  induction suf with
  | nil => intro pre _; exact ev_succ (fun k => by rw [spec_l1All.l0, if_neg (by simp)]; simp [AllIn])
  | cons b suf ih =>
    intro pre hl
    simp only [List.length_cons, Int.natCast_add, Int.natCast_one] at hl
    have h := ih (pre ++ [b]) (by simp; omega)
    by_cases hb : lo ≤ b ∧ b ≤ hi
    · have e : decide (AllIn (b :: suf) lo hi) = decide (AllIn suf lo hi) := by simp [AllIn_cons, hb]
      rw [e]
      refine Ev.step (fun k => ?_) h
      rw [spec_l1All.l0, if_pos (by simp; omega), if_pos (by omega), rd_mid, spec_l1In_eq, wrap_id (by omega) (by omega)]
      simp [hb]
    · have e : decide (AllIn (b :: suf) lo hi) = false := by simp [AllIn_cons, hb]
      rw [e]
      refine ev_succ (fun k => ?_)
      rw [spec_l1All.l0, if_pos (by simp; omega), if_pos (by omega), rd_mid, spec_l1In_eq]
      simp [hb]
theorem spec_l1All_ev {l : List Int} (lo hi : Int) (hl : (l.length : Int) ≤ 9223372036854775806) : Ev (fun k => spec_l1All.f k l lo hi) (decide (AllIn l lo hi)) := by
  unfold spec_l1All.f
  exact spec_l1All_l0 lo hi l [] (by simpa using hl)

def finT (s : Int) : Int × Int := if 0 ≤ s ∧ s ≤ 1000000 then (0, s) else (7, 0)
def totalV (l : List Int) : Int × Int := if l.length > 200 then (2, 0) else if AllIn l 0 1000000 then finT l.sum else (3, 0)
theorem spec_TotalOf_l0 (suf : List Int) : ∀ (pre : List Int) (s : Int), 0 ≤ s → s ≤ 1000000 * pre.length → pre.length + suf.length ≤ 200 → AllIn suf 0 1000000 →
    Ev (fun k => spec_TotalOf.l0 k (pre ++ suf) s pre.length) (finT (s + suf.sum)) := by
  induction suf with
  | nil =>
    intro pre s h0 h1 hl _
    refine ev_succ (fun k => ?_)
    rw [spec_TotalOf.l0, if_neg (by simp), spec_l1Amount_eq]
    simp only [Option.bind_some, decide_eq_true_eq, List.sum_nil, Int.add_zero]
    unfold finT; split <;> rfl
  | cons b suf ih =>
    intro pre s h0 h1 hl ha
    rw [AllIn_cons] at ha
    simp only [List.length_cons] at hl
    have h := ih (pre ++ [b]) (s + b) (by omega) (by simp; omega) (by simp; omega) ha.2
    refine Ev.step (f := fun k => spec_TotalOf.l0 k (pre ++ [b] ++ suf) (s + b) ((pre ++ [b]).length : Int)) (fun k => ?_) ?_
    · rw [spec_TotalOf.l0, if_pos (by simp; omega), if_pos (by omega), rd_mid, wrap_id (x := s + b) (by omega) (by omega), wrap_id (by omega) (by omega)]
      simp
    · rw [List.sum_cons, ← Int.add_assoc]; exact h
theorem impl_TotalOf_l0 (suf : List Int) : ∀ (pre : List Int) (s : Int), 0 ≤ s → s ≤ 1000000 * pre.length → pre.length + suf.length ≤ 200 →
    Ev (fun k => impl_TotalOf.l0 k s (pre ++ suf) ((pre ++ suf).length : Int) pre.length) (if AllIn suf 0 1000000 then finT (s + suf.sum) else (3, 0)) := by
  induction suf with
  | nil =>
    intro pre s h0 h1 hl
    refine ev_succ (fun k => ?_)
    rw [impl_TotalOf.l0, if_neg (by simp), impl_isAmount_eq, if_pos (by simp [AllIn])]
    simp only [Option.bind_some, decide_eq_true_eq, List.sum_nil, Int.add_zero]
    unfold finT; split <;> rfl
  | cons b suf ih =>
    intro pre s h0 h1 hl
    simp only [List.length_cons] at hl
    by_cases hb : 0 ≤ b ∧ b ≤ 1000000
    · have h := ih (pre ++ [b]) (s + b) (by omega) (by simp; omega) (by simp; omega)
      have e : (if AllIn (b :: suf) 0 1000000 then finT (s + (b :: suf).sum) else (3, 0)) = (if AllIn suf 0 1000000 then finT (s + b + suf.sum) else (3, 0)) := by
        rw [List.sum_cons, ← Int.add_assoc]; by_cases hs : AllIn suf 0 1000000 <;> simp [AllIn_cons, hb, hs]
      rw [e]
      refine Ev.step (fun k => ?_) h
      rw [impl_TotalOf.l0, if_pos (by simp; omega), if_pos (by omega), if_pos (by simp; omega), rd_mid, impl_isAmount_eq, wrap_id (x := s + b) (by omega) (by omega), wrap_id (by omega) (by omega)]
      simp [hb]
    · rw [if_neg (by rw [AllIn_cons]; exact fun h => hb h.1)]
      refine ev_succ (fun k => ?_)
      rw [impl_TotalOf.l0, if_pos (by simp; omega), if_pos (by omega), if_pos (by simp; omega), rd_mid, impl_isAmount_eq]
      simp [hb]
theorem spec_TotalOf_ev {l : List Int} (hl : l.length ≤ 140737488351232) : Ev (fun k => spec_TotalOf.f k l) (totalV l) := by
  unfold spec_TotalOf.f totalV
  by_cases h : l.length > 200
  · rw [if_pos h]; exact ev_if (by omega) (Ev.now _)
  · rw [if_neg h]
    refine ev_ifn (by omega) (ev_bind (spec_l1All_ev 0 1000000 (by omega)) ?_)
    by_cases ha : AllIn l 0 1000000
    · rw [if_pos ha]
      have := spec_TotalOf_l0 l [] 0 (by omega) (by simp) (by simp; omega) ha
      exact ev_if (by simpa using ha) (by simpa using this)
    · rw [if_neg ha]
      exact ev_ifn (by simpa using ha) (Ev.now _)
theorem impl_TotalOf_ev {l : List Int} (hl : l.length ≤ 140737488351232) : Ev (fun k => impl_TotalOf.f k l) (totalV l) := by
  unfold impl_TotalOf.f totalV
  by_cases h : l.length > 200
  · rw [if_pos h]; exact ev_if (by omega) (Ev.now _)
  · rw [if_neg h]
    have := impl_TotalOf_l0 l [] 0 (by omega) (by simp) (by simp; omega)
    exact ev_ifn (by omega) (by simpa using this)

theorem impl_isSum_eq (a : Int) : impl_isSum.f a = some (decide (0 ≤ a ∧ a ≤ 2147483646)) := by
  unfold impl_isSum.f; rw [impl_in_eq]; rfl

theorem slices_IndexFunc_at_impl_sumsFault_1_l0 (p : Int → Bool) (hp : ∀ x, impl_sumsFault_1.f x = some (p x)) (suf : List Int) : ∀ (pre : List Int), (pre.length : Int) + suf.length ≤ 9223372036854775806 →
    ∃ r : Int, Ev (fun k => slices_IndexFunc_at_impl_sumsFault_1.l0 k (pre ++ suf) ((pre ++ suf).length : Int) pre.length) r ∧ decide (r ≥ 0) = suf.any p := by
  induction suf with
  | nil => intro pre _; exact ⟨-1, ev_succ (fun k => by rw [slices_IndexFunc_at_impl_sumsFault_1.l0, if_neg (by simp)]), by simp⟩
  | cons b suf ih =>
    intro pre hl
    simp only [List.length_cons, Int.natCast_add, Int.natCast_one] at hl
    cases hb : p b with
    | true =>
      refine ⟨pre.length, ev_succ (fun k => ?_), by simp [hb]⟩
      rw [slices_IndexFunc_at_impl_sumsFault_1.l0, if_pos (by simp; omega), if_pos (by omega), if_pos (by simp; omega), rd_mid, hp, hb]
      rfl
    | false =>
      obtain ⟨r, h, hr⟩ := ih (pre ++ [b]) (by simp; omega)
      refine ⟨r, Ev.step (fun k => ?_) h, by simp [hb, hr]⟩
      rw [slices_IndexFunc_at_impl_sumsFault_1.l0, if_pos (by simp; omega), if_pos (by omega), if_pos (by simp; omega), rd_mid, hp, hb, wrap_id (by omega) (by omega)]
      simp
theorem slices_ContainsFunc_at_impl_sumsFault_1_ev (p : Int → Bool) (hp : ∀ x, impl_sumsFault_1.f x = some (p x)) {l : List Int} (hl : (l.length : Int) ≤ 9223372036854775806) :
    Ev (fun k => slices_ContainsFunc_at_impl_sumsFault_1.f k l) (l.any p) := by
  obtain ⟨r, h, hr⟩ := slices_IndexFunc_at_impl_sumsFault_1_l0 p hp l [] (by simpa using hl)
  rw [← hr]
  unfold slices_ContainsFunc_at_impl_sumsFault_1.f slices_IndexFunc_at_impl_sumsFault_1.f
  exact ev_bind (by simpa using h) (Ev.now _)

def badSum (x : Int) : Bool := !decide (0 ≤ x ∧ x ≤ 2147483646)
theorem impl_sumsFault_1_eq (x : Int) : impl_sumsFault_1.f x = some (badSum x) := by
  unfold impl_sumsFault_1.f badSum; rw [impl_isSum_eq]; rfl
theorem any_badSum (l : List Int) : l.any badSum = !decide (AllIn l 0 2147483646) := by
  induction l with
  | nil => simp [AllIn]
  | cons b l ih => simp only [List.any_cons, ih, badSum]; by_cases h : 0 ≤ b ∧ b ≤ 2147483646 <;> by_cases h2 : AllIn l 0 2147483646 <;> simp [AllIn_cons, h, h2]
theorem impl_sumsFault_ev {l : List Int} (hl : (l.length : Int) ≤ 9223372036854775806) : Ev (fun k => impl_sumsFault.f k l) (if AllIn l 0 2147483646 then 0 else 3) := by
  unfold impl_sumsFault.f
  refine ev_bind (slices_ContainsFunc_at_impl_sumsFault_1_ev badSum impl_sumsFault_1_eq hl) ?_
  rw [any_badSum]
  by_cases h : AllIn l 0 2147483646
  · rw [if_pos h]; exact ev_ifn (by simp [h]) (Ev.now _)
  · rw [if_neg h]; exact ev_if (by simp [h]) (Ev.now _)

/-- The four bytes of a number. -/
def be4 (n : Int) : List Int := [n / 16777216 % 256, n / 65536 % 256, n / 256 % 256, n % 256]
theorem be4_bytes (n : Int) : Bytes (be4 n) := by
  intro x hx
  simp only [be4, List.mem_cons, List.not_mem_nil, or_false] at hx
  rcases hx with rfl | rfl | rfl | rfl <;> omega
theorem Bytes.app {a b : List Int} (ha : Bytes a) (hb : Bytes b) : Bytes (a ++ b) := by
  intro x hx; rcases List.mem_append.1 hx with h | h
  · exact ha x h
  · exact hb x h
/-- The sum of numbers. -/
def sumI (l : List Int) : Int := sumB (l.flatMap be4)
theorem sumI_bd (l : List Int) : 0 ≤ sumI l ∧ sumI l ≤ 2147483646 := sumB_bd _
theorem spec_l1SumInts_l0 (suf : List Int) : ∀ (pre acc : List Int), Bytes acc → (acc.length : Int) + 4 * suf.length < 140737488355328 → (pre.length : Int) + suf.length ≤ 9223372036854775806 →
    Ev (fun k => spec_l1SumInts.l0 k (pre ++ suf) acc pre.length) (sumB (acc ++ suf.flatMap be4)) := by
  induction suf with
  | nil =>
    intro pre acc hb hl _
    simp only [List.append_nil, List.flatMap_nil]
    refine Ev.step (f := fun k => (spec_l1Sum.f k acc).bind fun t => some t) (fun k => by rw [spec_l1SumInts.l0]; rw [if_neg (by omega)]) ?_
    exact ev_bind (spec_l1Sum_ev hb (by simp at hl; omega)) (Ev.now _)
  | cons b suf ih =>
    intro pre acc hb hl hp
    simp only [List.length_cons, Int.natCast_add, Int.natCast_one] at hl hp
    have h := ih (pre ++ [b]) (acc ++ be4 b) (hb.app (be4_bytes b)) (by simp [be4]; omega) (by simp; omega)
    refine Ev.step (fun k => ?_) (by simpa using h)
    rw [spec_l1SumInts.l0]
    rw [if_pos (by simp; omega), if_pos (by omega), rd_mid]
    simp only [spec_l1Four.f, Option.bind_some]
    rw [if_pos (by simp; omega), wrap_id (by omega) (by omega)]
    simp [be4]
theorem spec_l1SumInts_ev {l : List Int} (hl : l.length ≤ 1000) : Ev (fun k => spec_l1SumInts.f k l) (sumI l) :=
  spec_l1SumInts_l0 l [] [] (by intro x hx; cases hx) (by simp; omega) (by simp; omega)
theorem impl_high_ev (a : Int) : Ev (fun k => impl_high.f k a 4) (be4 a) := by
  refine Ev.of (impl_high.mono a 4) (k := 5) ?_
  have w3 : wrap64 (3) = 3 := wrap_id (by omega) (by omega)
  have w2 : wrap64 (2) = 2 := wrap_id (by omega) (by omega)
  have w1 : wrap64 (1) = 1 := wrap_id (by omega) (by omega)
  have w0 : wrap64 (0) = 0 := wrap_id (by omega) (by omega)
  have wm : wrap64 (-1) = -1 := wrap_id (by omega) (by omega)
  have d1 : a / 256 / 256 = a / 65536 := by omega
  have d2 : a / 65536 / 256 = a / 16777216 := by omega
  simp [impl_high.f, impl_high.l0, w3, w2, w1, w0, wm, be4, List.replicate, d1, d2]
theorem impl_sumInts_l0 (suf : List Int) : ∀ (pre acc : List Int), Bytes acc → (acc.length : Int) + 4 * suf.length < 140737488355328 → (pre.length : Int) + suf.length ≤ 9223372036854775806 →
    Ev (fun k => impl_sumInts.l0 k acc (pre ++ suf) ((pre ++ suf).length : Int) pre.length) (sumB (acc ++ suf.flatMap be4)) := by
  induction suf with
  | nil =>
    intro pre acc hb hl _
    simp only [List.append_nil, List.flatMap_nil]
    refine Ev.step (f := fun k => (impl_sumOf.f k acc).bind fun t => some t) (fun k => by rw [impl_sumInts.l0]; rw [if_neg (by omega)]) ?_
    exact ev_bind (impl_sumOf_ev hb (by simp at hl; omega)) (Ev.now _)
  | cons b suf ih =>
    intro pre acc hb hl hp
    simp only [List.length_cons, Int.natCast_add, Int.natCast_one] at hl hp
    have h := ih (pre ++ [b]) (acc ++ be4 b) (hb.app (be4_bytes b)) (by simp [be4]; omega) (by simp; omega)
    refine Ev.step (f := fun k => (impl_high.f k b 4).bind fun t => if acc.length + t.length < 140737488355328 then impl_sumInts.l0 k (acc ++ t) (pre ++ b :: suf) ((pre ++ b :: suf).length : Int) ((pre.length : Int) + 1) else none) (fun k => ?_) ?_
    · rw [impl_sumInts.l0]
      rw [if_pos (by simp; omega), if_pos (by omega), if_pos (by simp; omega), rd_mid, wrap_id (by omega) (by omega)]
    · refine ev_bind (impl_high_ev b) (ev_if (by simp [be4]; omega) ?_)
      simpa using h
theorem impl_sumInts_ev {l : List Int} (hl : l.length ≤ 1000) : Ev (fun k => impl_sumInts.f k l) (sumI l) :=
  impl_sumInts_l0 l [] [] (by intro x hx; cases hx) (by simp; omega) (by simp; omega)

def sumIntsV (l : List Int) : Int × Int := if l.length > 200 then (2, 0) else if AllIn l 0 2147483646 then (0, sumI l) else (3, 0)
theorem spec_SumInts_ev {l : List Int} (hl : l.length ≤ 140737488351232) : Ev (fun k => spec_SumInts.f k l) (sumIntsV l) := by
  unfold spec_SumInts.f sumIntsV
  by_cases h : l.length > 200
  · rw [if_pos h]; exact ev_if (by omega) (Ev.now _)
  · rw [if_neg h]
    refine ev_ifn (by omega) (ev_bind (spec_l1All_ev 0 2147483646 (by omega)) ?_)
    by_cases ha : AllIn l 0 2147483646
    · rw [if_pos ha]; exact ev_if (by simpa using ha) (ev_bind (spec_l1SumInts_ev (by omega)) (Ev.now _))
    · rw [if_neg ha]; exact ev_ifn (by simpa using ha) (Ev.now _)
theorem impl_SumInts_ev {l : List Int} (hl : l.length ≤ 140737488351232) : Ev (fun k => impl_SumInts.f k l) (sumIntsV l) := by
  unfold impl_SumInts.f sumIntsV
  by_cases h : l.length > 200
  · rw [if_pos h]; exact ev_if (by omega) (Ev.now _)
  · rw [if_neg h]
    refine ev_ifn (by omega) (ev_bind (impl_sumsFault_ev (by omega)) ?_)
    by_cases ha : AllIn l 0 2147483646
    · rw [if_pos ha, if_pos ha]; exact ev_if rfl (ev_bind (impl_sumInts_ev (by omega)) (Ev.now _))
    · rw [if_neg ha, if_neg ha]; exact ev_ifn (by decide) (Ev.now _)

def sumOfV (l : List Int) : Int × Int := if (l.length : Int) > 4000 then (2, 0) else (0, sumB l)
theorem spec_SumOf_ev {l : List Int} (hb : Bytes l) (hl : l.length ≤ 140737488351232) : Ev (fun k => spec_SumOf.f k l) (sumOfV l) := by
  unfold spec_SumOf.f sumOfV
  by_cases h : (l.length : Int) > 4000
  · rw [if_pos h]; exact ev_if h (Ev.now _)
  · rw [if_neg h]; exact ev_ifn h (ev_bind (spec_l1Sum_ev hb (by omega)) (Ev.now _))
theorem impl_SumOf_ev {l : List Int} (hb : Bytes l) (hl : l.length ≤ 140737488351232) : Ev (fun k => impl_SumOf.f k l) (sumOfV l) := by
  unfold impl_SumOf.f sumOfV
  by_cases h : (l.length : Int) > 4000
  · rw [if_pos h]; exact ev_if h (Ev.now _)
  · rw [if_neg h]; exact ev_ifn h (ev_bind (impl_sumOf_ev hb (by omega)) (Ev.now _))

/-- A list's sum, from its end. -/
theorem money_l0 (c : List Int) (a b s0 s1 : Int) (l : List Int) (v : Int) (ha : AllIn l 0 1000000) (hs : l.sum ≤ 1000000) (hlen : l.length ≤ 101) (hv : v = l.sum)
    (hrest : Ev (fun k => laws_FnMoney.j2 k c a b s0 s1) true) : ∀ (suf pre : List Int), l = pre ++ suf → Ev (fun k => laws_FnMoney.l0 k c a b l suf.sum ((pre.length : Int) - 1) s0 s1 0 v) true := by
  have key : ∀ (n : Nat) (pre suf : List Int), pre.length = n → l = pre ++ suf → Ev (fun k => laws_FnMoney.l0 k c a b l suf.sum ((pre.length : Int) - 1) s0 s1 0 v) true := by
    intro n
    induction n with
    | zero =>
      intro pre suf hn he
      obtain rfl : pre = [] := List.eq_nil_of_length_eq_zero hn
      refine Ev.step (f := fun k => laws_FnMoney.j2 k c a b s0 s1) (fun k => ?_) hrest
      rw [laws_FnMoney.l0, if_neg (by simp), if_pos (by simp only [List.nil_append] at he; rw [hv, he])]
    | succ n ih =>
      intro pre suf hn he
      obtain ⟨p, x, rfl⟩ : ∃ p x, pre = p ++ [x] := by
        rcases List.eq_nil_or_concat pre with h | ⟨p, x, h⟩
        · rw [h] at hn; simp at hn
        · exact ⟨p, x, by simpa using h⟩
      have hl : l = p ++ (x :: suf) := by simpa using he
      have hpl : p.length = n := by simpa using hn
      have hx : 0 ≤ x ∧ x ≤ 1000000 := ha x (by rw [hl]; simp)
      have hsp : ∀ y ∈ p, 0 ≤ y := fun y hy => (ha y (by rw [hl]; simp [hy])).1
      have hss : ∀ y ∈ suf, 0 ≤ y := fun y hy => (ha y (by rw [hl]; simp [hy])).1
      have sumnn : ∀ q : List Int, (∀ y ∈ q, 0 ≤ y) → 0 ≤ q.sum := by
        intro q
        induction q with
        | nil => intro _; simp
        | cons z q ihq => intro h; rw [List.sum_cons]; have := h z (by simp); have := ihq (fun y hy => h y (by simp [hy])); omega
      have s1' := sumnn p hsp
      have s2' := sumnn suf hss
      have hsum : l.sum = p.sum + (x + suf.sum) := by rw [hl]; simp
      have hrd : rd l (((p ++ [x]).length : Int) - 1) = x := by
        have := rd_mid p x suf
        rw [← hl] at this
        simpa using this
      have hadd : addV suf.sum x = (0, suf.sum + x) := by
        unfold addV
        rw [if_pos ⟨by omega, hx⟩, if_pos (by omega)]
      have h := ih p (x :: suf) hpl hl
      have hlx : l.length = p.length + (suf.length + 1) := by rw [hl]; simp
      refine Ev.step (f := fun k => (impl_AddMoney.f k suf.sum x).bind fun t => laws_FnMoney.l0 k c a b l t.2 ((p.length : Int) - 1) s0 s1 0 v) (fun k => ?_) ?_
      · rw [laws_FnMoney.l0, hrd, if_pos (by simp), if_pos (by simp), if_pos (by simp; omega), wrap_id (by simp; omega) (by simp; omega)]
        simp
      · refine ev_bind (impl_AddMoney_ev _ _) ?_
        rw [hadd]
        have e : suf.sum + x = (x :: suf).sum := by rw [List.sum_cons]; omega
        simp only []
        rw [e]
        exact h
  intro suf pre he
  exact key _ pre suf rfl he
theorem money_j3 (a b : Int) (ha : -1 ≤ a ∧ a ≤ 1000001) (hb : -1 ≤ b ∧ b ≤ 1000001) : Ev (fun k => laws_FnMoney.j3 k a b false (addV a b).1 (addV a b).2) true := by
  by_cases h : (addV a b).1 = 0
  · have hv : (0 ≤ a ∧ a ≤ 1000000) ∧ (0 ≤ b ∧ b ≤ 1000000) ∧ a + b ≤ 1000000 := by
      unfold addV at h
      by_cases h1 : (0 ≤ a ∧ a ≤ 1000000) ∧ (0 ≤ b ∧ b ≤ 1000000)
      · rw [if_pos h1] at h
        by_cases h2 : a + b ≤ 1000000
        · exact ⟨h1.1, h1.2, h2⟩
        · rw [if_neg h2] at h; simp at h
      · rw [if_neg h1] at h; simp at h
    have e1 : addV a b = (0, a + b) := by unfold addV; rw [if_pos ⟨hv.1, hv.2.1⟩, if_pos hv.2.2]
    have e2 : addV b a = (0, b + a) := by unfold addV; rw [if_pos ⟨hv.2.1, hv.1⟩, if_pos (by omega)]
    rw [e1]
    refine Ev.step (f := fun k => (impl_AddMoney.f k b a).bind fun t => if t.2 = a + b then some (decide (a + b ≤ 1000000)) else none) (fun k => ?_) ?_
    · rw [laws_FnMoney.j3, if_neg (by decide), if_pos rfl, if_pos (by rw [wrap_id (by omega) (by omega)])]
    · refine ev_bind (impl_AddMoney_ev _ _) ?_
      rw [e2]
      refine ev_if (by simp only []; omega) ?_
      have : decide (a + b ≤ 1000000) = true := by simpa using hv.2.2
      rw [this]; exact Ev.now _
  · refine Ev.step (f := fun k => (spec_AddMoney.f k a b).bind fun t => some (t.1 == (addV a b).1)) (fun k => ?_) ?_
    · rw [laws_FnMoney.j3, if_neg (by decide), if_neg h]
    · refine ev_bind (spec_AddMoney_ev a b) ?_
      simp only [BEq.rfl]
      exact Ev.now _
theorem FnMoney : laws_FnMoney.Pure := by
  intro c hm hl hw
  have hb : Bytes c := fun x hx => wf8 (hw x hx)
  have hc : c.length ≤ 140737488351232 := by omega
  refine Ev.rounds (g := fun k => laws_FnMoney.f k c) ?_
  unfold laws_FnMoney.f
  refine ev_bind0 rfl ?_
  by_cases hbig : (c.length : Int) > 1048576
  · exact ev_if (by simpa using hbig) (Ev.now _)
  refine ev_ifn (by simpa using hbig) ?_
  obtain ⟨a, b, hab, a0, a1, b0, b1⟩ := spec_DrawAddMoney_some hb hc
  obtain ⟨l, hl1, hl2⟩ := spec_DrawTotalOf_ev hb hc
  obtain ⟨s, hs1, hs2⟩ := spec_DrawSumInts_ev hb hc
  obtain ⟨d, hd1, hd2, hd3⟩ := spec_DrawSumOf_ev hb hc
  refine ev_bind0 hab (ev_bind (impl_AddMoney_ev _ _) (ev_bind hl1 (ev_bind (impl_TotalOf_ev (by omega)) (ev_bind hs1 ?_))))
  refine ev_bind (impl_SumInts_ev (by omega)) (ev_bind (spec_SumInts_ev (by omega)) (ev_if rfl ?_))
  refine ev_bind (impl_SumInts_ev (by omega)) (ev_bind (spec_SumInts_ev (by omega)) (ev_if rfl ?_))
  refine ev_bind (spec_TotalOf_ev (by omega)) ?_
  have hj2 : Ev (fun k => laws_FnMoney.j2 k c a b (addV a b).1 (addV a b).2) true := by
    refine Ev.step (fun k => by rw [laws_FnMoney.j2]) ?_
    refine ev_bind hd1 (ev_bind (impl_SumOf_ev hd3 (by omega)) (ev_bind (spec_SumOf_ev hd3 (by omega)) (ev_if rfl (ev_bind (spec_SumOf_ev hd3 (by omega)) (ev_if rfl ?_)))))
    have hbd : 0 ≤ (sumOfV d).2 ∧ (sumOfV d).2 ≤ 2147483646 := by
      unfold sumOfV
      split
      · simp
      · exact sumB_bd d
    refine ev_ifn (by omega) ?_
    have : decide ((sumOfV d).2 > 2147483646) = false := by simp; omega
    rw [this]
    exact money_j3 a b ⟨a0, a1⟩ ⟨b0, b1⟩
  have hne : ((totalV l).1 != (totalV l).1) = false := by simp
  rw [hne]
  by_cases ht : (totalV l).1 = 0
  · refine Ev.step (fun k => by rw [laws_FnMoney.j0, if_neg (by decide), if_pos ht]) ?_
    have hv : AllIn l 0 1000000 ∧ l.sum ≤ 1000000 ∧ (totalV l).2 = l.sum := by
      unfold totalV at ht ⊢
      rw [if_neg (by omega)] at ht ⊢
      by_cases h1 : AllIn l 0 1000000
      · rw [if_pos h1] at ht ⊢
        unfold finT at ht ⊢
        by_cases h2 : 0 ≤ l.sum ∧ l.sum ≤ 1000000
        · rw [if_pos h2]; exact ⟨h1, h2.2, rfl⟩
        · rw [if_neg h2] at ht; simp at ht
      · rw [if_neg h1] at ht; simp at ht
    rw [ht, wrap_id (by omega) (by omega)]
    have := money_l0 c a b (addV a b).1 (addV a b).2 l (totalV l).2 hv.1 hv.2.1 hl2 hv.2.2 hj2 [] l (by simp)
    simpa using this
  · exact Ev.step (fun k => by rw [laws_FnMoney.j0, if_neg (by decide), if_neg ht]) hj2

end Go.Proofs.Ytjgnjhbleiempaa.Pure
