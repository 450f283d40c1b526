import Derived.Test.YthjlbpgiaehjnaaDoorQFnExactNumberOfx3
namespace Go.Proofs.YthjlbpgiaehjnaaDoor.Pure
open Go.RowKit Go.Proofs.YthjlbpgiaehjnaaDoor.QFnExactNumberOf Go.Proofs.YthjlbpgiaehjnaaDoorW.PrintWords Go.Proofs.YthjlbpgiaehjnaaDoorW.PrintLast Go.Proofs.YthjlbpgiaehjnaaDoor.NumMath
theorem bt_list (s : ByteArray) (i : Nat) (h : i < s.data.toList.length) : bt s (i : Int) = ((s.data.toList[i]).toNat : Int) := by
  have h' : i < s.size := by rw [Array.length_toList] at h; exact h
  have := bt_at s (i : Int) (by simpa using h')
  rw [← this]
  simp only [Int.toNat_natCast]
  rfl
theorem w1 (n c : Nat) (hn : n < 100000) (h1 : ¬ c < 48) (h2 : ¬ 57 < c) : wrap64 (wrap64 ((n : Int) * 10) + ((c : Int) - 48) % 256) = ((n * 10 + (c - 48) : Nat) : Int) := by unfold wrap64; omega
theorem w2 (i : Nat) (hi : i < 100) : wrap64 ((i : Int) + 1) = ((i + 1 : Nat) : Int) := by unfold wrap64; omega
theorem pow_lt (i n : Nat) (hi : i < 5) (hn : n < 10 ^ i) : n < 100000 := Nat.lt_of_lt_of_le hn (Nat.le_trans (Nat.pow_le_pow_right (n := 10) (by decide) (Nat.le_of_lt hi)) (by decide))
theorem pow_up (i n d : Nat) (hn : n < 10 ^ i) (hd : d < 10) : n * 10 + d < 10 ^ (i + 1) := by
  rw [Nat.pow_succ]
  generalize 10 ^ i = p at hn ⊢
  omega
theorem pow_le5 (i : Nat) (h : i ≤ 5) : 10 ^ i ≤ 10 ^ 5 := Nat.pow_le_pow_right (by decide) h
/-- The reference's loop: the value, or -1. -/
theorem loop_ev (s : ByteArray) (h5 : s.data.toList.length ≤ 5) : ∀ (m i n k : Nat), s.data.toList.length - i = m → i ≤ s.data.toList.length → n < 10 ^ i → m < k →
    spec_l9Number.l0 k s (n : Int) (i : Int) = some (if ∀ c ∈ s.data.toList.drop i, dig c then ((valF n (s.data.toList.drop i) : Nat) : Int) else -1) := by
  have el : (s.size : Int) = (s.data.toList.length : Int) := by rw [Array.length_toList]; rfl
  intro m
  induction m with
  | zero =>
    intro i n k hm hi hn hk
    obtain ⟨k, rfl⟩ : ∃ j, k = j + 1 := ⟨k - 1, by omega⟩
    have hd : s.data.toList.drop i = [] := List.drop_eq_nil_of_le (by omega)
    rw [spec_l9Number.l0, if_neg (by rw [el]; omega), hd]
    simp [valF]
  | succ m ih =>
    intro i n k hm hi hn hk
    obtain ⟨k, rfl⟩ : ∃ j, k = j + 1 := ⟨k - 1, by omega⟩
    have hlt : i < s.data.toList.length := by omega
    have hd : s.data.toList.drop i = s.data.toList[i] :: s.data.toList.drop (i + 1) := List.drop_eq_getElem_cons hlt
    have hb := bt_list s i hlt
    rw [spec_l9Number.l0, if_pos (by rw [el]; omega), if_pos (by omega), hd, hb]
    generalize s.data.toList[i] = c
    by_cases h1 : c.toNat < 48
    · rw [if_pos (by omega), if_neg (fun h => by have := h c (by simp); unfold dig at this; omega)]
    · by_cases h2 : 57 < c.toNat
      · rw [if_neg (by omega), if_pos (by omega), if_neg (fun h => by have := h c (by simp); unfold dig at this; omega)]
      · rw [if_neg (by omega), if_neg (by omega)]
        rw [w1 n c.toNat (pow_lt i n (by omega) hn) h1 h2, w2 i (by omega), ih (i + 1) (n * 10 + (c.toNat - 48)) k (by omega) (by omega) (pow_up i n _ hn (by omega)) (by omega)]
        have hc : dig c := by unfold dig; omega
        by_cases hall : ∀ x ∈ s.data.toList.drop (i + 1), dig x
        · rw [if_pos hall, if_pos (by intro x hx; exact (List.mem_cons.1 hx).elim (fun e => e ▸ hc) (fun hx => hall x hx))]; rfl
        · rw [if_neg hall, if_neg (fun h => hall (fun x hx => h x (by simp [hx])))]
theorem spec_ev (s : ByteArray) : ∃ k, spec_NumberOf.f k s = some (numV s.data.toList) := by
  have el : (s.size : Int) = (s.data.toList.length : Int) := by rw [Array.length_toList]; rfl
  refine ⟨10, ?_⟩
  unfold spec_NumberOf.f spec_l9Number.f
  rw [el]
  have jt : spec_l9Number.j0 10 s true = some (-1) := by simp [spec_l9Number.j0]
  by_cases h1 : (s.data.toList.length : Int) < 1
  · rw [if_pos h1, jt, numV_bad (fun h => h.2.1 (List.length_eq_zero_iff.1 (by omega)))]; simp
  · rw [if_neg h1]
    by_cases h5 : (s.data.toList.length : Int) > 5
    · rw [if_pos h5, jt, numV_bad (fun h => by have := h.1; omega)]; simp
    · rw [if_neg h5]
      have hl : spec_l9Number.j0 10 s false = some (if ∀ c ∈ s.data.toList, dig c then ((valF 0 s.data.toList : Nat) : Int) else -1) := by
        have := loop_ev s (by omega) s.data.toList.length 0 0 9 (by omega) (by omega) (by decide) (by omega)
        rw [List.drop_zero] at this
        rw [← this]; simp [spec_l9Number.j0]
      have fin : ∀ hd : (1 < s.data.toList.length → s.data.toList.head?.map (·.toNat) ≠ some 48), ((spec_l9Number.j0 10 s false).bind fun t102 => (if t102 < 0 then (some ((5 : Int), (0 : Int))) else (some (0, t102)))) = some (numV s.data.toList) := by
        intro hd
        rw [hl]
        by_cases hall : ∀ c ∈ s.data.toList, dig c
        · rw [if_pos hall]
          have : NumMath.Good s.data.toList := ⟨fun e => by rw [e] at h1; simp at h1, hall, hd⟩
          simp only [Option.bind_some]
          rw [if_neg (by omega)]
          unfold numV
          rw [if_pos ⟨by omega, this⟩]
        · rw [if_neg hall, numV_bad (fun h => hall h.2.2.1)]; simp
      by_cases h2 : (s.data.toList.length : Int) > 1
      · rw [if_pos h2, if_pos (by omega)]
        have hb := bt_list s 0 (by omega)
        by_cases h48 : bt s 0 = 48
        · rw [show (bt s 0 == 48) = true from beq_iff_eq.2 h48, jt, numV_bad (fun h => h.2.2.2 (by omega) (by
            rw [List.head?_eq_getElem?, List.getElem?_eq_getElem (by omega)]
            simp only [Option.map_some, Option.some.injEq]
            have hb' : bt s 0 = ((s.data.toList[0]'(by omega)).toNat : Int) := hb
            omega))]; simp
        · rw [show (bt s 0 == 48) = false from beq_eq_false_iff_ne.2 h48]
          refine fin (fun _ => ?_)
          rw [List.head?_eq_getElem?, List.getElem?_eq_getElem (by omega)]
          simp only [Option.map_some, ne_eq, Option.some.injEq]
          have hb' : bt s 0 = ((s.data.toList[0]'(by omega)).toNat : Int) := hb
          omega
      · rw [if_neg h2]
        exact fin (fun h => by omega)
theorem FnExactNumberOf : laws_FnExactNumberOf.Pure := by
  intro s _
  obtain ⟨k, h⟩ := spec_ev s
  refine ⟨k, ?_⟩
  unfold laws_FnExactNumberOf.f
  by_cases c : (s.size : Int) > 1048576
  · rw [if_pos c]
  · rw [if_neg c, h]
    simp [impl_NumberOf.f, laws_eqIntResult.f]
end Go.Proofs.YthjlbpgiaehjnaaDoor.Pure
