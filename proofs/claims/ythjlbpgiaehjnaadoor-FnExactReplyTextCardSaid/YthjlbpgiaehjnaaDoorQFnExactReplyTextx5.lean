-- written by this session's program (wip/tools/myprint.py)
import Derived.Test.YthjlbpgiaehjnaaDoorQFnExactReplyTextx0
namespace Go.Proofs.YthjlbpgiaehjnaaDoor.QFnExactReplyText
open Go.RowKit Go.Proofs.YthjlbpgiaehjnaaDoorW.PrintWords Go.Proofs.YthjlbpgiaehjnaaDoorW.PrintLast Go.Proofs.YthjlbpgiaehjnaaDoorW.PrintMore
attribute [local go_sem] max2_int min2_int max_two min_two max_three min_three max_four min_four   -- for this text's walks alone
set_option linter.unusedVariables false
set_option linter.unusedSimpArgs false

/-! ### impl_printed: function 53 (by hand: a state written by a bound method and by a closure; a strings.Builder) -/
namespace HPrint
set_option maxHeartbeats 1000000 in
set_option maxRecDepth 100000 in
/-- copyCheck at a builder that has been used. -/
theorem check_used (g : Nat) (w : World) (h0 : w.cell? ⟨g, 1, none⟩ = some (.pointer (some ⟨g, 1, none⟩))) :
    Calls Tryd.prog 124 #[.pointer (some ⟨g, 1, none⟩)] w fun e w' => e = .returned (.tuple #[]) ∧ w' = w := by
  obtain ⟨j, hj⟩ : ∃ j, Tryd.prog.info? 118 = some j := ⟨_, rfl⟩
  have t118 := Tryd.underlying118
  have t116 := Tryd.underlying116
  have u116 := run_underlying t116
  go_enter Tryd.func124, Tryd.ntmps124
  go_wp2
  rw [Lib.run_neq_ptr_same w _ t116 hj]
  go_wp2
  go_end0
  exact ⟨rfl, rfl⟩
set_option maxHeartbeats 1000000 in
set_option maxRecDepth 100000 in
/-- copyCheck at a fresh builder: it stores its own address. -/
theorem check_fresh (g : Nat) (w : World) (h0 : w.cell? ⟨g, 1, none⟩ = some (.pointer none)) (hsh : w.shape? g = some (120, 3)) (hfz : w.frozen? ⟨g, 1, none⟩ = false) :
    Calls Tryd.prog 124 #[.pointer (some ⟨g, 1, none⟩)] w fun e w' => e = .returned (.tuple #[]) ∧ w' = w.setCell ⟨g, 1, none⟩ (.pointer (some ⟨g, 1, none⟩)) := by
  obtain ⟨j, hj, hjs⟩ : ∃ j, Tryd.prog.info? 118 = some j ∧ j.size = 2 := ⟨_, rfl, rfl⟩
  have t118 := Tryd.underlying118
  have t116 := Tryd.underlying116
  have t180 := Tryd.underlying180
  have u116 := run_underlying t116
  go_enter Tryd.func124, Tryd.ntmps124
  go_wp2
  rw [Lib.run_to_unsafe w ⟨g, 1, none⟩ t116 t180 hj (by rw [hjs]; decide) hsh (show 1 < 3 by decide)]
  simp only [Result.andThen]
  rw [Oper.upon_value]
  go_wp2
  rw [run_callFunc_extern Tryd.func139 (by kernel_rfl) (by kernel_rfl) (by kernel_rfl) (e := Extern.AbiNoEscape.same) (by kernel_rfl)]
  rw [Lib.run_noEscape]
  simp only [Result.andThen]
  rw [Oper.upon_value]
  go_wp2
  rw [Lib.run_from_unsafe w ⟨g, 1, none⟩ t180 t116 hj hsh (by kernel_rfl)]
  simp only [Result.andThen]
  rw [Oper.upon_value]
  go_wp2
  go_end0
  exact ⟨rfl, rfl⟩
/-- All but block g, and rows of bytes, stays. -/
def KeepT (w w' : World) (g : Nat) : Prop := w.heap.size ≤ w'.heap.size ∧ ∀ k, k < w.heap.size → k ≠ g → (∀ cs, w.heap[k]? ≠ some (.cells cs 5 (0, 0))) → w'.heap[k]? = w.heap[k]?
theorem KeepT.refl (w : World) (g : Nat) : KeepT w w g := ⟨Nat.le_refl _, fun _ _ _ _ => rfl⟩
theorem KeepT.trans {w1 w2 w3 : World} {g : Nat} (h : KeepT w1 w2 g) (h' : KeepT w2 w3 g) : KeepT w1 w3 g :=
  ⟨Nat.le_trans h.1 h'.1, fun k hk hg hc => (h'.2 k (Nat.lt_of_lt_of_le hk h.1) hg (fun cs e => hc cs ((h.2 k hk hg hc).symm.trans e))).trans (h.2 k hk hg hc)⟩
theorem KeepT.set {w w' : World} {g : Nat} (h : KeepT w w' g) (i : Nat) (u : Value) : KeepT w (w'.setCell ⟨g, i, none⟩ u) g :=
  ⟨by simpa [World.setCell] using h.1, fun k hk hg hc => (Below.heap_setCell w' ⟨g, i, none⟩ u k hg).trans (h.2 k hk hg hc)⟩
/-- A printer at block g: what is left, and the bytes so far. -/
def PrAt (B g : Nat) (lv : Value) (bs : List Value) (w : World) : Prop :=
  B ≤ g ∧ ∃ p v, w.heap[g]? = some (.cells #[lv, p, v] 120 (0, 0)) ∧ (p = .pointer none ∨ p = .pointer (some ⟨g, 1, none⟩)) ∧ w.ownsRow B 5 1 v bs.length bs ∧ v.ownBlock ≠ some g
set_option maxHeartbeats 2000000 in
set_option maxRecDepth 100000 in
/-- WriteString into the printer's builder. -/
theorem prWrite (B g : Nat) (lv : Value) (bs : List Value) (s : ByteArray) (w : World) (h : PrAt B g lv bs w) (hlen : bs.length + s.size ≤ 140737488355328) (hBw : B ≤ w.heap.size) :
    Calls Tryd.prog 102 #[.pointer (some ⟨g, 1, none⟩), .string s] w fun e w' => e = .returned (.tuple #[.int .i64 s.size, .nilIface]) ∧ PrAt B g lv (bs ++ Lib.strCells s) w' ∧ Below B w w' ∧ KeepT w w' g := by
  obtain ⟨i0, hi, hz0, hz1, hz2⟩ : ∃ i, Tryd.prog.info? 5 = some i ∧ i.zero = some (.int .u8 0) ∧ i.size = 1 ∧ i.bytes = 1 := ⟨_, rfl, rfl, rfl, rfl⟩
  have t118 := Tryd.underlying118
  have t116 := Tryd.underlying116
  have u116 := run_underlying t116
  have t48 := Tryd.underlying48
  have t9 := Tryd.underlying9
  have t5 := Tryd.underlying5
  obtain ⟨hB, p, v, hb, hp, hown, hne⟩ := h
  have hg : g < w.heap.size := blk_lt hb
  have hchk : Calls Tryd.prog 124 #[.pointer (some ⟨g, 1, none⟩)] w fun e w' => e = .returned (.tuple #[]) ∧ w'.heap[g]? = some (.cells #[lv, .pointer (some ⟨g, 1, none⟩), v] 120 (0, 0)) ∧ w'.ownsRow B 5 1 v bs.length bs ∧ Below B w w' ∧ KeepT w w' g := by
    rcases hp with rfl | rfl
    · refine (check_fresh g w ((blk_cell hb 1).trans rfl) (by simp [World.shape?, hb]) (blk_frozen hb 1)).mono ?_
      rintro e w' ⟨rfl, rfl⟩
      exact ⟨rfl, blk_put (cs := #[lv, .pointer none, v]) hb 1 _ rfl, hown.kept (row := some g) ⟨rfl, rfl, rfl, by simp [World.setCell], fun k _ hk => Below.heap_setCell _ _ _ _ (fun e => hk (by simp [e]))⟩ (Or.inr hne), (Below.refl B w).setCell (p := ⟨g, 1, none⟩) hB _, (KeepT.refl w g).set 1 _⟩
    · refine (check_used g w ((blk_cell hb 1).trans rfl)).mono ?_
      rintro e w' ⟨rfl, rfl⟩
      exact ⟨rfl, hb, hown, Below.refl B _, KeepT.refl _ g⟩
  clear hb hown hp
  go_enter Tryd.func102, Tryd.ntmps102
  go_wp2_with (go_at_call 124; refine hchk.mono ?_)
  rintro e w1 ⟨rfl, hbk, hown, hb1, hk1⟩
  have c0 : w1.cell? ⟨g, 1, none⟩ = some (.pointer (some ⟨g, 1, none⟩)) := (blk_cell hbk 1).trans rfl
  have c1 : w1.cell? ⟨g, 2, none⟩ = some v := (blk_cell hbk 2).trans rfl
  go_wp2_with (at_builtin; refine Lib.wpList_append_own_string _ rfl _ _ 48 9 rfl B 5 i0 t48 t9 hi hz0 hz1 hz2 _ _ _ rfl hown s rfl ?c3 ?c4 ?c5 ?_)
  case c3 => unfold maxLen; omega
  case c4 => omega
  case c5 => have := hb1.size; omega
  intro v' w2 hown' hgrow _
  have hlt : g < w1.heap.size := blk_lt hbk
  have hb2 : w2.heap[g]? = some (.cells #[lv, .pointer (some ⟨g, 1, none⟩), v] 120 (0, 0)) := by
    rw [hgrow.block g hlt (fun e => hne e.symm)]
    exact hbk
  have d0 : w2.cell? ⟨g, 1, none⟩ = some (.pointer (some ⟨g, 1, none⟩)) := (blk_cell hb2 1).trans rfl
  have d1 : w2.cell? ⟨g, 2, none⟩ = some v := (blk_cell hb2 2).trans rfl
  have f1 : w2.frozen? ⟨g, 2, none⟩ = false := blk_frozen hb2 2
  have hk2 : KeepT w1 w2 g := ⟨hgrow.size, fun k hk hkg hc => hgrow.block k hk (fun e => by
    obtain ⟨cs, he⟩ := own_typed hown k e.symm
    exact hc cs he)⟩
  have hne' : v'.ownBlock ≠ some g := fun e => by
    obtain ⟨cs, he⟩ := own_typed hown' g e
    rw [hb2] at he
    simp at he
  obtain ⟨ao, n', cap, rfl⟩ : ∃ ao n' cap, v' = .slice ao n' cap := by
    rcases hown'.2 with ⟨hv, _⟩ | ⟨g, cap, cur, hv, _⟩
    · exact ⟨_, _, _, hv⟩
    · exact ⟨_, _, _, hv⟩
  go_wp2
  go_ret2
  refine ⟨rfl, ⟨hB, _, _, blk_put (cs := #[lv, .pointer (some ⟨g, 1, none⟩), v]) hb2 2 _ rfl, .inr rfl, ?_, hne'⟩, ?_, (hk1.trans hk2).set 2 _⟩
  · have ho : w2.ownsRow B 5 1 (.slice ao n' cap) (bs ++ Lib.strCells s).length (bs ++ Lib.strCells s) := by simpa [Lib.strCells_length] using hown'
    exact ho.kept (row := some g) ⟨rfl, rfl, rfl, by simp [World.setCell], fun k _ hk => Below.heap_setCell _ _ _ _ (fun e => hk (by simp [e]))⟩ (Or.inr hne')
  · exact (hb1.grown hgrow (by have := hb1.size; omega) (fun k hk => (hown.lt k hk).1)).setCell (p := ⟨g, 2, none⟩) hB _
set_option maxHeartbeats 1000000 in
set_option maxRecDepth 100000 in
/-- String, of a printer's builder that holds a byte. -/
theorem prString (B g : Nat) (lv : Value) (l : List UInt8) (w : World) (h : PrAt B g lv (Lib.byteCells l) w) (h0 : l ≠ []) :
    Calls Tryd.prog 86 #[.pointer (some ⟨g, 1, none⟩)] w fun e w' => e = .returned (.string ⟨l.toArray⟩) ∧ Below B w w' := by
  obtain ⟨hB, p, v, hbk, hp, hown, hne⟩ := h
  have hl0 : l.length ≠ 0 := by simpa using h0
  rw [Lib.byteCells_length] at hown
  obtain ⟨b, cap, cur, rfl, hbg, hg, hnc, hcm, hcs, htake⟩ : ∃ b cap cur, v = .slice (some ⟨b, 0, none⟩) l.length cap ∧ B ≤ b ∧ w.heap[b]? = some (.cells cur 5 (0, 0)) ∧ l.length ≤ cap ∧ cap ≤ maxLen ∧ cur.size = cap * 1 ∧ cur.toList.take (l.length * 1) = Lib.byteCells l := by
    rcases hown.2 with ⟨_, hz⟩ | ⟨g, cap, cur, hv, r⟩
    · exact absurd hz hl0
    · exact ⟨g, cap, cur, hv, r⟩
  have c1 : w.drew.cell? ⟨g, 2, none⟩ = some (.slice (some ⟨b, 0, none⟩) l.length cap) := (blk_cell (w := w.drew) hbk 2).trans rfl
  have hSD : (Builtin.unsafeSliceData_ #[48] 144 #[.slice (some ⟨b, 0, none⟩) l.length cap]).run Tryd.prog w.drew = .ok (.pointer (some ⟨b, 0, none⟩)) w.drew :=
    Lib.run_unsafeSliceData_row _ _ _ _ _ _ (by omega)
  have hUS : (Builtin.unsafeString_ #[144, 3] 9 #[.pointer (some ⟨b, 0, none⟩), .int .i64 l.length]).run Tryd.prog w.drew = .ok (.string ⟨l.toArray⟩) (w.drew.freeze ⟨b, 0, none⟩ l.length) := by
    refine Lib.run_unsafeString_row w.drew 144 3 9 5 Tryd.underlying144 (by kernel_rfl) b cur.size (by have hg' : w.drew.heap[b]? = some (.cells cur 5 (0, 0)) := hg; simp [World.shape?, hg']) l h0 (by omega) (by unfold maxLen at hcm; omega) ?_
    intro j x hx
    have := hown.cells (g := b) rfl j (.int .u8 x.toNat) (by simp [Lib.byteCells, hx])
    exact this
  have t118 := Tryd.underlying118
  have t116 := Tryd.underlying116
  have u116 := run_underlying t116
  have t48 := Tryd.underlying48
  have u48 := run_underlying t48
  have t144 := Tryd.underlying144
  have u144 := run_underlying t144
  have t9 := Tryd.underlying9
  have t5 := Tryd.underlying5
  have mixed : Tryd.prog.follows .mixedOrders = true := by kernel_rfl
  go_enter Tryd.func86, Tryd.ntmps86
  go_wp2
  go_region_o
  all_goals (go_wp2; go_ret; exact ⟨rfl, Lib.below_freeze (Below.drew (Below.refl B w)) (p := ⟨b, 0, none⟩) hbg _⟩)
/-- A call of a function that is known by its value: what it is bound to, and what it has captured. -/
theorem goesV_ {P : Program} {ops : Array Oper} {Q : Exit → Act → World → Prop} {rest : List Oper} {oi : Oper} {a : Act} {w : World} (N : Option Tmp) (hd : oi.dst = N) (hg : oi.guard = none) {f : FuncId} {fn : Func} {x : Operand} {aa : Array Operand} {ts : Array TypeId} {bs caps : Array Value} (hf : P.funcs[f]? = some fn) (hname : (fn.name == "runtime.NumGoroutine") = false) (hb : fn.body.isSome = true) (hx : a.eval x = .func (.func f) bs caps) (args : Array Value)
    (hop : oi.op = .call { callee := .value x, args := aa, argTypes := ts }) (hargs : bs ++ aa.map a.eval ++ caps = args)
    (h : Calls P f args w fun e w' => ∃ v, e = .returned v ∧ wpList P ops Q rest (a.put N v) w') : wpList P ops Q (oi :: rest) a w := by
  refine wpList_plain hg fun K hK => ?_
  have he := enters_ hf hname hb args w
  have hrun : (execOp a.eval oi).run P w = .ok (.enter f args) w := by
    unfold execOp
    simp [hop, resolve, Deferred.ofValue, invoke, hx, hargs, he]
  unfold Oper.wp
  rw [hrun, Oper.upon_enter]
  refine h.mono fun e w'' hh => ?_
  obtain ⟨v, rfl, hk⟩ := hh
  subst hd
  exact hK _ _ hk
/-- So many things one behind the other, with commas between. -/
def loopP {α : Type} (step : List α → Option (List UInt8 × List α)) : Nat → Int → Int → List α → Option (List UInt8 × List α)
  | 0, _, _, _ => none
  | k + 1, num, i, left => if i < num then (if 0 ≤ i ∧ i ≤ 1000000 then ((step left).bind fun r => (loopP step k num (i + 1) r.2).bind fun q => some ((if i > 0 then [44] else []) ++ (r.1 ++ q.1), q.2)) else none) else some ([], left)
/-- The printer's state: what is left is told by PrLq. -/
def PrSt {α : Type} (PrLq : Value → List α → Prop) (w0 : World) (g pb : Nat) (left : List α) (bs : List UInt8) (w : World) : Prop :=
  ∃ lv, PrAt w0.heap.size g lv (Lib.byteCells bs) w ∧ PrLq lv left ∧ Below w0.heap.size w0 w ∧ (pb ≠ g → w.heap[pb]? = some (.cells #[.pointer (some ⟨g, 0, none⟩)] 115 (0, 0)))
theorem byteCells_append (a b : List UInt8) : Lib.byteCells (a ++ b) = Lib.byteCells a ++ Lib.byteCells b := by simp [Lib.byteCells]
theorem PrSt.prWrite {α : Type} {PrLq : Value → List α → Prop} {w0 : World} {g pb : Nat} {left : List α} {bs : List UInt8} {w : World} (h : PrSt PrLq w0 g pb left bs w) (s : ByteArray) (hlen : bs.length + s.data.toList.length ≤ 1000000000) :
    Calls Tryd.prog 102 #[.pointer (some ⟨g, 1, none⟩), .string s] w fun e w' => e = .returned (.tuple #[.int .i64 s.size, .nilIface]) ∧ PrSt PrLq w0 g pb left (bs ++ s.data.toList) w' ∧ KeepT w w' g := by
  obtain ⟨lv, hp, hl, hb, hx⟩ := h
  have es : s.size = s.data.toList.length := by rw [Array.length_toList]; rfl
  refine (HPrint.prWrite w0.heap.size g lv (Lib.byteCells bs) s w hp (by rw [Lib.byteCells_length]; omega) hb.size).mono ?_
  rintro e w' ⟨rfl, hp', hb', hk⟩
  refine ⟨rfl, ⟨lv, ?_, hl, hb.trans hb', ?_⟩, hk⟩
  · rw [byteCells_append]; exact hp'
  · intro hpb
    rw [hk.2 pb (blk_lt (hx hpb)) hpb (fun cs e => by rw [hx hpb] at e; simp at e)]; exact hx hpb
set_option maxHeartbeats 2000000 in
set_option maxRecDepth 100000 in
/-- nested: so many things between two signs. -/
theorem prNested {α : Type} {PrLq : Value → List α → Prop} {w0 : World} {g pb : Nat} (step : List α → Option (List UInt8 × List α)) {fO : FuncId} {fnO : Func} {b c oargs : Array Value} (hf : Tryd.prog.funcs[fO]? = some fnO) (hname : (fnO.name == "runtime.NumGoroutine") = false) (hbody : fnO.body.isSome = true) (hargs : b ++ #[] ++ c = oargs)
    (HO : ∀ left bs w out left', PrSt PrLq w0 g pb left bs w → step left = some (out, left') → bs.length + out.length ≤ 1000000000 → Calls Tryd.prog fO oargs w fun e w' => e = .returned (.tuple #[]) ∧ PrSt PrLq w0 g pb left' (bs ++ out) w' ∧ KeepT w w' g)
    (k : Nat) (num : Int) (op en : ByteArray) (left : List α) (bs : List UInt8) (w : World) (out : List UInt8) (left' : List α) (h : PrSt PrLq w0 g pb left bs w) (hl : loopP step k num 0 left = some (out, left')) (hlen : bs.length + op.data.toList.length + out.length + en.data.toList.length ≤ 1000000000) :
    Calls Tryd.prog 104 #[.pointer (some ⟨g, 0, none⟩), .int .i64 num, .string op, .string en, .func (.func fO) b c] w fun e w' => e = .returned (.tuple #[]) ∧ PrSt PrLq w0 g pb left' (bs ++ op.data.toList ++ out ++ en.data.toList) w' ∧ KeepT w w' g := by
  have t118 := Tryd.underlying118
  have t120 := Tryd.underlying120
  have HS0 := Aside0.mk h
  have HL := Aside0.mk hl
  have HN := Aside0.mk hlen
  have HOA := Aside0.mk HO
  clear h hl hlen HO
  go_enter Tryd.func104, Tryd.ntmps104
  go_wp2_with (first | (go_at_call 102; refine (HS0.out.prWrite op (by have := HN.out; omega)).mono ?_; rintro e w1 ⟨rfl, hs1, hk1⟩; have HS := Aside0.mk hs1; have HK := Aside0.mk hk1; clear hs1 hk1))
  go_loopg [17] k (fun kq v17 w' => ∃ (i : Int) (left1 : List α) (bs1 out1 : List UInt8), v17 = .int .i64 i ∧ Aside0 (loopP step kq num i left1 = some (out1, left')) ∧ Aside0 (kq ≤ k) ∧ Aside0 (PrSt PrLq w0 g pb left1 bs1 w') ∧ Aside0 (KeepT w w' g) ∧ Aside0 (bs ++ op.data.toList ++ out = bs1 ++ out1))
  case atStart => exact ⟨0, left, _, out, rfl, HL, ⟨Nat.le_refl _⟩, HS, HK, ⟨rfl⟩⟩
  case round =>
    clear HL HS HK HS0
    obtain ⟨i, left1, bs1, out1, rfl, HA, HKK, HS, HK, HE⟩ := hrel
    cases gk with
    | zero => exact absurd HA.out (by simp [loopP])
    | succ k2 =>
      have H := HA.out
      clear HA
      simp only [loopP] at H
      by_cases c1 : i < num
      · rw [if_pos c1] at H
        have c1b : decide (i < num) = true := decide_eq_true c1
        clear c1
        by_cases c2 : 0 ≤ i ∧ i ≤ 1000000
        · rw [if_pos c2] at H
          obtain ⟨⟨o1, l1⟩, h1, H⟩ := Option.bind_eq_some_iff.mp H
          obtain ⟨⟨o2, l2⟩, h2, H⟩ := Option.bind_eq_some_iff.mp H
          simp only [Option.some.injEq, Prod.mk.injEq] at H
          obtain ⟨rfl, rfl⟩ := H
          have H1 := Aside0.mk h1
          have H2 := Aside0.mk h2
          have hwi : wrap64 (i + 1) = i + 1 := by unfold wrap64; omega
          have HLn := Aside0.mk (show bs1.length + ((if i > 0 then [44] else []) ++ (o1 ++ o2)).length ≤ 1000000000 by
            have e := congrArg List.length HE.out
            have := HN.out
            simp only [List.length_append] at e ⊢
            omega)
          clear h1 h2
          by_cases c3 : i > 0
          · have c3b : decide (i > 0) = true := decide_eq_true c3
            have c3c : decide (0 < i) = true := decide_eq_true c3
            rw [if_pos c3] at HE HLn
            clear c3
            go_wp2_with (first | (go_at_call 102; refine (HS.out.prWrite ⟨#[44]⟩ (by have := HLn.out; simp at this ⊢; omega)).mono ?_; rintro e w3 ⟨rfl, hs3, hk3⟩; have HS3 := Aside0.mk hs3; have HK3 := Aside0.mk (HK.out.trans hk3); clear hs3 hk3 HS HK; have HS := HS3; have HK := HK3; clear HS3 HK3) | (refine goesV_ (some 27) rfl rfl hf hname hbody (x := .tmp 26) rfl oargs rfl (by simpa using hargs) ?_; refine (HOA.out _ _ _ o1 l1 HS.out H1.out (by have := HLn.out; simp at this ⊢; omega)).mono ?_; rintro e w4 ⟨rfl, hs4, hk4⟩; refine ⟨_, rfl, ?_⟩; have HS4 := Aside0.mk hs4; have HK4 := Aside0.mk (HK.out.trans hk4); clear hs4 hk4))
            go_roundg k2
            case measure => have := HKK.out; omega
            case rel => exact ⟨i + 1, l1, _, o2, (by first | rfl | (simp [hwi]; done)), H2, ⟨by have := HKK.out; omega⟩, HS4, HK4, ⟨by rw [HE.out]; simp⟩⟩
          · have c3b : decide (i > 0) = false := decide_eq_false c3
            have c3c : decide (0 < i) = false := decide_eq_false c3
            rw [if_neg c3] at HE HLn
            clear c3
            go_wp2_with (first | (refine goesV_ (some 27) rfl rfl hf hname hbody (x := .tmp 26) rfl oargs rfl (by simpa using hargs) ?_; refine (HOA.out _ _ _ o1 l1 HS.out H1.out (by have := HLn.out; simp at this ⊢; omega)).mono ?_; rintro e w4 ⟨rfl, hs4, hk4⟩; refine ⟨_, rfl, ?_⟩; have HS4 := Aside0.mk hs4; have HK4 := Aside0.mk (HK.out.trans hk4); clear hs4 hk4))
            go_roundg k2
            case measure => have := HKK.out; omega
            case rel => exact ⟨i + 1, l1, _, o2, (by first | rfl | (simp [hwi]; done)), H2, ⟨by have := HKK.out; omega⟩, HS4, HK4, ⟨by rw [HE.out]; simp⟩⟩
        · rw [if_neg c2] at H; cases H
      · rw [if_neg c1] at H
        have c1b : decide (i < num) = false := decide_eq_false c1
        simp only [Option.some.injEq, Prod.mk.injEq] at H
        obtain ⟨rfl, rfl⟩ := H
        have HLn := Aside0.mk (show bs1.length + en.data.toList.length ≤ 1000000000 by
          have e := congrArg List.length HE.out
          have := HN.out
          simp only [List.length_append, List.length_nil] at e
          omega)
        clear c1
        go_wp2_with (first | (go_at_call 102; refine (HS.out.prWrite en HLn.out).mono ?_; rintro e w5 ⟨rfl, hs5, hk5⟩; have HS5 := Aside0.mk hs5; have HK5 := Aside0.mk (HK.out.trans hk5); clear hs5 hk5))
        go_end0
        refine ⟨rfl, ?_, HK5.out⟩
        rw [HE.out, List.append_nil]
        exact HS5.out
/-- A name, a colon, a value. -/
def pairP {α : Type} (step : List α → Option (List UInt8 × List α)) (left : List α) : Option (List UInt8 × List α) := (step left).bind fun r => (step r.2).bind fun q => some (r.1 ++ (58 :: q.1), q.2)
theorem PrSt.prBox {α : Type} {PrLq : Value → List α → Prop} {w0 : World} {g pb : Nat} {left : List α} {bs : List UInt8} {w : World} (h : PrSt PrLq w0 g pb left bs w) (hpb : pb ≠ g) : w.cell? ⟨pb, 0, none⟩ = some (.pointer (some ⟨g, 0, none⟩)) := by
  obtain ⟨lv, _, _, _, hx⟩ := h
  exact (blk_cell (hx hpb) 0).trans rfl
set_option maxHeartbeats 1000000 in
set_option maxRecDepth 100000 in
/-- The closure of a map's pairs. -/
theorem prPair {α : Type} {PrLq : Value → List α → Prop} {w0 : World} {g pb : Nat} (hpb : pb ≠ g) (step : List α → Option (List UInt8 × List α))
    (HO : ∀ left bs w out left', PrSt PrLq w0 g pb left bs w → step left = some (out, left') → bs.length + out.length ≤ 1000000000 → Calls Tryd.prog 85 #[.pointer (some ⟨g, 0, none⟩)] w fun e w' => e = .returned (.tuple #[]) ∧ PrSt PrLq w0 g pb left' (bs ++ out) w' ∧ KeepT w w' g)
    (left : List α) (bs : List UInt8) (w : World) (out : List UInt8) (left' : List α) (h : PrSt PrLq w0 g pb left bs w) (hl : pairP step left = some (out, left')) (hlen : bs.length + out.length ≤ 1000000000) :
    Calls Tryd.prog 105 #[.pointer (some ⟨pb, 0, none⟩)] w fun e w' => e = .returned (.tuple #[]) ∧ PrSt PrLq w0 g pb left' (bs ++ out) w' ∧ KeepT w w' g := by
  have t118 := Tryd.underlying118
  have t120 := Tryd.underlying120
  have t115 := Tryd.underlying115
  unfold pairP at hl
  obtain ⟨⟨o1, l1⟩, h1, hl⟩ := Option.bind_eq_some_iff.mp hl
  obtain ⟨⟨o2, l2⟩, h2, hl⟩ := Option.bind_eq_some_iff.mp hl
  simp only [Option.some.injEq, Prod.mk.injEq] at hl
  obtain ⟨rfl, rfl⟩ := hl
  simp only [List.length_append, List.length_cons] at hlen
  have H1 := Aside0.mk h1
  have H2 := Aside0.mk h2
  have HN := Aside0.mk hlen
  have HOA := Aside0.mk HO
  have HS := Aside0.mk h
  have b0 := h.prBox hpb
  clear h1 h2 hlen HO h
  go_enter Tryd.func105, Tryd.ntmps105
  go_upto_region 1 with (first | (go_at_call 85; refine (HOA.out _ _ _ o1 l1 HS.out H1.out (by have := HN.out; omega)).mono ?_; rintro e w3 ⟨rfl, hs3, hk3⟩; have HS3 := Aside0.mk hs3; have HK3 := Aside0.mk hk3; have b3 := hs3.prBox hpb; clear hs3 hk3))
  go_upto_region 2 with (first | (go_at_call 102; refine (HS3.out.prWrite ⟨#[58]⟩ (by have := HN.out; simp; omega)).mono ?_; rintro e w4 ⟨rfl, hs4, hk4⟩; have HS4 := Aside0.mk hs4; have HK4 := Aside0.mk (HK3.out.trans hk4); have b4 := hs4.prBox hpb; clear hs4 hk4))
  go_wp2_with (first | (go_at_call 85; refine (HOA.out _ _ _ o2 l2 HS4.out H2.out (by have := HN.out; simp; omega)).mono ?_; rintro e w5 ⟨rfl, hs5, hk5⟩; have HS5 := Aside0.mk hs5; have HK5 := Aside0.mk (HK4.out.trans hk5); clear hs5 hk5))
  go_end0
  refine ⟨rfl, ?_, HK5.out⟩
  have e : bs ++ (o1 ++ 58 :: o2) = bs ++ o1 ++ (⟨#[58]⟩ : ByteArray).data.toList ++ o2 := by simp
  rw [e]
  exact HS5.out
theorem PrSt.prSwap {α : Type} {PrLq : Value → List α → Prop} {w0 : World} {g pb pb0 : Nat} {left left0 : List α} {bs bs0 : List UInt8} {w w' : World} (h : PrSt PrLq w0 g pb left bs w') (h0 : PrSt PrLq w0 g pb0 left0 bs0 w) (hk : KeepT w w' g) : PrSt PrLq w0 g pb0 left bs w' := by
  obtain ⟨lv, h1, h2, h3, _⟩ := h
  obtain ⟨_, _, _, _, hx⟩ := h0
  exact ⟨lv, h1, h2, h3, fun hne => (hk.2 pb0 (blk_lt (hx hne)) hne (fun cs e => by rw [hx hne] at e; simp at e)).trans (hx hne)⟩
theorem PrSt.prBelow {α : Type} {PrLq : Value → List α → Prop} {w0 : World} {g pb : Nat} {left : List α} {bs : List UInt8} {w w' : World} (h : PrSt PrLq w0 g pb left bs w) (hb : Below w.heap.size w w') : PrSt PrLq w0 g pb left bs w' ∧ KeepT w w' g := by
  obtain ⟨lv, ⟨hB, p, v, hbk, hp, hown, hne⟩, hl, hbel, hx⟩ := h
  exact ⟨⟨lv, ⟨hB, p, v, blk_below hbk hb, hp, hown.kept (grown_of_below hb none) (Classical.em _), hne⟩, hl, hbel.trans (hb.mono hbel.size), fun hne => blk_below (hx hne) hb⟩, ⟨hb.size, fun k hk _ _ => hb.block k hk⟩⟩
theorem PrSt.prOld {α : Type} {PrLq : Value → List α → Prop} {w0 : World} {g pb : Nat} {left : List α} {bs : List UInt8} {w : World} (h : PrSt PrLq w0 g pb left bs w) : Below w0.heap.size w0 w := by
  obtain ⟨_, _, _, hbel, _⟩ := h
  exact hbel
set_option maxHeartbeats 1000000 in
/-- FormatBool. -/
theorem format_bool1 (b : Bool) (w : World) : Calls Tryd.prog 125 #[.bool b] w fun e w' => e = .returned (.string (if b = true then ⟨#[116, 114, 117, 101]⟩ else ⟨#[102, 97, 108, 115, 101]⟩)) ∧ w' = w := by
  cases b <;> (go_enter Tryd.func125, Tryd.ntmps125; go_wp2; go_ret; exact ⟨rfl, rfl⟩)
theorem format_bool (b : Bool) (w : World) : Calls Tryd.prog 103 #[.bool b] w fun e w' => e = .returned (.string (if b = true then ⟨#[116, 114, 117, 101]⟩ else ⟨#[102, 97, 108, 115, 101]⟩)) ∧ w' = w := by
  cases b <;> (go_enter Tryd.func103, Tryd.ntmps103; go_wp2_with (go_at_call 125; refine (format_bool1 _ _).mono ?_; rintro e w' ⟨rfl, rfl⟩); go_ret; exact ⟨rfl, rfl⟩)
/-- What (*printer).value prints, and what it leaves. -/
def valP : Nat → List S81 → Option (List UInt8 × List S81)
  | 0, _ => none
  | _ + 1, [] => none
  | k + 1, v :: rest =>
    if v.f0 = 1 then some ([110, 117, 108, 108], rest)
    else if v.f0 = 2 then some (if v.f1 = 1 then [116, 114, 117, 101] else [102, 97, 108, 115, 101], rest)
    else if v.f0 = 3 then (if 0 ≤ v.f1 ∧ v.f1 ≤ 9223372036854775807 then some (Lib.itoa v.f1, rest) else none)
    else if v.f0 = 4 then some ([34] ++ v.f2.data.toList ++ [34], rest)
    else if v.f0 = 5 then (loopP (valP k) 1000 v.f1 0 rest).bind fun q => some ([91] ++ q.1 ++ [93], q.2)
    else if v.f0 = 6 then (loopP (pairP (valP k)) 1000 v.f1 0 rest).bind fun q => some ([123] ++ q.1 ++ [125], q.2)
    else some ([], rest)
def PrLq (w0 : World) (lv : Value) (left : List S81) : Prop := ∃ A c, lv = .slice A left.length c ∧ left.length ≤ c ∧ Kd.C k81 w0 A left.length left
set_option maxHeartbeats 4000000 in
set_option maxRecDepth 100000 in
theorem value_calls {w0 : World} {g : Nat} (hVars : HFmt.Vars w0) : ∀ (k pb0 : Nat) (left : List S81) (bs : List UInt8) (w : World) (out : List UInt8) (left' : List S81), PrSt (PrLq w0) w0 g pb0 left bs w → valP k left = some (out, left') → bs.length + out.length ≤ 1000000000 →
    Calls Tryd.prog 85 #[.pointer (some ⟨g, 0, none⟩)] w fun e w' => e = .returned (.tuple #[]) ∧ PrSt (PrLq w0) w0 g pb0 left' (bs ++ out) w' ∧ KeepT w w' g := by
  intro k
  induction k using Nat.strongRecOn with
  | _ k ih =>
    intro pb0 left bs w out left' hS h hlen
    cases k with
    | zero => simp [valP] at h
    | succ k =>
      cases left with
      | nil => simp [valP] at h
      | cons x rest =>
        obtain ⟨lv, ⟨hBg, p, v, hb, hpp, hown, hne⟩, ⟨A, c, rfl, hc, hC⟩, hbel0, hbx0⟩ := hS
        have hAt := at_T81 hC 0 (by omega) (by simp)
        obtain ⟨ad, e, hx0, hx1, hx2⟩ := hAt
        cases e
        have erd : rd_T81 (x :: rest) 0 = x := rfl
        rw [erd] at hx0 hx1 hx2
        (try rw [show ((0 : Int)).toNat = 0 from rfl] at hx0 hx1 hx2)
        (try rw [show 0 * 3 = 0 from rfl] at hx0 hx1 hx2)
        (try rw [Addr.add_zero'] at hx0 hx1 hx2)
        replace hx0 := (hbel0.cell (World.block_lt_of_cell? w0 _ hx0)).trans hx0
        replace hx1 := (hbel0.cell (World.block_lt_of_cell? w0 _ hx1)).trans hx1
        replace hx2 := (hbel0.cell (World.block_lt_of_cell? w0 _ hx2)).trans hx2
        simp only [List.length_cons] at hb hc
        have HC := Aside0.mk hC
        have HW := Aside0.mk hown
        have HBE := Aside0.mk hbel0
        have HP0 := Aside0.mk hbx0
        have HH := Aside0.mk h
        have HLN := Aside0.mk hlen
        clear hC hown hbel0 hbx0 h hlen
        have t120 := Tryd.underlying120
        have t81 := Tryd.underlying81
        have t115 := Tryd.underlying115
        have HBX := Aside0.mk hb
        have hc0 : w.cell? ⟨g, 0, none⟩ = some (.slice (some ad) (rest.length + 1) c) := (blk_cell hb 0).trans rfl
        have hg : g < w.heap.size := blk_lt hb
        have q5 : ((0 : Int) < ((rest.length + 1 : Nat) : Int)) = True := eq_true (by omega)
        have q6 : (0 < rest.length + 1) = True := eq_true (by omega)
        have p5 : ((0 : Int) ≤ 0) = True := eq_true (by omega)
        clear hb
        go_enter Tryd.func85, Tryd.ntmps85
        go_upto_region 1 with (first | ((with_reducible refine gate_dst (N := 1) rfl ?_); refine box_event ?hg (N := 1) ?hd (cs := #[.pointer (some ⟨g, 0, none⟩)]) (t := 115) ?hr ?_; (case hd => rfl); (case hg => rfl); (case hr => first | (go_simp; done) | (go_simp; rfl)); intro pb hpb w3 hbox hbel; have HPB := Aside0.mk hbox; have HBB := Aside0.mk hbel; have HPE := Aside0.mk hpb; have b3 : w3.cell? ⟨pb, 0, none⟩ = some (.pointer (some ⟨g, 0, none⟩)) := (blk_cell hbox 0).trans rfl; clear hbox hbel hpb; replace hc0 := (HBB.out.cell hg).trans hc0; replace hx0 := (HBB.out.cell (World.block_lt_of_cell? w _ hx0)).trans hx0; replace hx1 := (HBB.out.cell (World.block_lt_of_cell? w _ hx1)).trans hx1; replace hx2 := (HBB.out.cell (World.block_lt_of_cell? w _ hx2)).trans hx2))
        go_upto_region 2 with (first | ((with_reducible refine gate_dst (N := 2) rfl ?_); refine box_event ?hg (N := 2) ?hd (cs := #[.int .i64 0, .int .i64 0, .string ⟨#[]⟩]) (t := 81) ?hr ?_; (case hd => rfl); (case hg => rfl); (case hr => first | (go_simp; done) | (go_simp; rfl)); intro gv hgv w5 hbox hbel; have HV5 := Aside0.mk hbox; have HB5 := Aside0.mk hbel; have HGV := Aside0.mk hgv; have hz0 : w5.cell? ⟨gv, 0, none⟩ = some (.int .i64 0) := (blk_cell hbox 0).trans rfl; have hz1 : w5.cell? ⟨gv, 1, none⟩ = some (.int .i64 0) := (blk_cell hbox 1).trans rfl; have hz2 : w5.cell? ⟨gv, 2, none⟩ = some (.string ⟨#[]⟩) := (blk_cell hbox 2).trans rfl; have hzf0 := blk_frozen hbox 0; have hzf1 := blk_frozen hbox 1; have hzf2 := blk_frozen hbox 2; clear hbox hbel hgv))
        have hgv1 : g < w3.heap.size := Nat.lt_of_lt_of_le hg HBB.out.size
        have hpbg : pb ≠ g := by rw [HPE.out]; omega
        have hpv : pb ≠ gv := by rw [HGV.out]; have := blk_lt HPB.out; omega
        have hgg : g ≠ gv := by rw [HGV.out]; omega
        have W6g : (((w5.setCell ⟨gv, 0, none⟩ (.int .i64 x.f0)).setCell ⟨gv, 1, none⟩ (.int .i64 x.f1)).setCell ⟨gv, 2, none⟩ (.string x.f2)).heap[g]? = some (.cells #[.slice (some ad) (rest.length + 1) c, p, v] 120 (0, 0)) := blk_far (blk_far (blk_far (blk_below (blk_below HBX.out HBB.out) HB5.out) hgg _) hgg _) hgg _
        have W6p : (((w5.setCell ⟨gv, 0, none⟩ (.int .i64 x.f0)).setCell ⟨gv, 1, none⟩ (.int .i64 x.f1)).setCell ⟨gv, 2, none⟩ (.string x.f2)).heap[pb]? = some (.cells #[.pointer (some ⟨g, 0, none⟩)] 115 (0, 0)) := blk_far (blk_far (blk_far (blk_below HPB.out HB5.out) hpv _) hpv _) hpv _
        have W6v := blk_put (cs := #[.int .i64 x.f0, .int .i64 x.f1, .string ⟨#[]⟩]) (blk_put (cs := #[.int .i64 x.f0, .int .i64 0, .string ⟨#[]⟩]) (blk_put HV5.out 0 (.int .i64 x.f0) rfl) 1 (.int .i64 x.f1) rfl) 2 (.string x.f2) rfl
        have hgw : w.heap.size ≤ gv := by rw [HGV.out]; exact HBB.out.size
        have HB6 : Below w.heap.size w (((w5.setCell ⟨gv, 0, none⟩ (.int .i64 x.f0)).setCell ⟨gv, 1, none⟩ (.int .i64 x.f1)).setCell ⟨gv, 2, none⟩ (.string x.f2)) := below_set (below_set (below_set (below_step HBB.out HB5.out) hgw) hgw) hgw
        clear hz0 hz1 hz2 hzf0 hzf1 hzf2 hc0 hx0 hx1 hx2 b3
        generalize (((w5.setCell ⟨gv, 0, none⟩ (.int .i64 x.f0)).setCell ⟨gv, 1, none⟩ (.int .i64 x.f1)).setCell ⟨gv, 2, none⟩ (.string x.f2)) = w6 at W6g W6p W6v HB6 ⊢
        have hb0 : w6.cell? ⟨pb, 0, none⟩ = some (.pointer (some ⟨g, 0, none⟩)) := (blk_cell W6p 0).trans rfl
        have hc0 : w6.cell? ⟨g, 0, none⟩ = some (.slice (some ad) (rest.length + 1) c) := (blk_cell W6g 0).trans rfl
        have hf0 := blk_frozen W6g 0
        obtain ⟨i81, hi81, hs81⟩ : ∃ i, Tryd.prog.info? 81 = some i ∧ i.size = 3 := ⟨_, rfl, rfl⟩
        have hcut := cut_from (P := Tryd.prog) 44 81 .i64 Tryd.underlying44 hi81 3 hs81 (some ad) (rest.length + 1) c 1 (by omega) (by omega)
        obtain ⟨A1, hA1⟩ : ∃ A1, A1 = (if c = (1 : Int).toNat then (some ad) else ((some ad) : Option Addr).map (·.add ((1 : Int).toNat * 3))) := ⟨_, rfl⟩
        rw [← hA1, show rest.length + 1 - (1 : Int).toNat = rest.length from rfl] at hcut
        have HA1 := Aside0.mk hA1
        clear hA1
        go_still_tail 8, (by kernel_rfl)
        change wpList _ _ _ _ _ w6.drew
        have W7g : w6.drew.heap[g]? = _ := W6g
        have W7p : w6.drew.heap[pb]? = _ := W6p
        have W7v : w6.drew.heap[gv]? = _ := W6v
        have HB7 : Below w.heap.size w w6.drew := HB6.drew
        clear hb0 hc0 hf0 W6g W6p W6v
        generalize w6.drew = w7 at W7g W7p W7v HB7 ⊢
        have hb0 : w7.cell? ⟨pb, 0, none⟩ = some (.pointer (some ⟨g, 0, none⟩)) := (blk_cell W7p 0).trans rfl
        have hc0 : w7.cell? ⟨g, 0, none⟩ = some (.slice (some ad) (rest.length + 1) c) := (blk_cell W7g 0).trans rfl
        have hf0 := blk_frozen W7g 0
        go_upto_region 3 with fail
        have W8g := blk_put (cs := #[.slice (some ad) (rest.length + 1) c, p, v]) W7g 0 (.slice A1 rest.length (c - 1)) rfl
        have W8p := blk_far (p := ⟨g, 0, none⟩) W7p hpbg (.slice A1 rest.length (c - 1))
        have W8v := blk_far (p := ⟨g, 0, none⟩) W7v (Ne.symm hgg) (.slice A1 rest.length (c - 1))
        have hk8 : KeepT w (w7.setCell ⟨g, 0, none⟩ (.slice A1 rest.length (c - 1))) g := KeepT.set ⟨HB7.size, fun k hk _ _ => HB7.block k hk⟩ 0 _
        have hb8 : Below w0.heap.size w0 (w7.setCell ⟨g, 0, none⟩ (.slice A1 rest.length (c - 1))) := (HBE.out.trans (HB7.mono HBE.out.size)).setCell (p := ⟨g, 0, none⟩) hBg _
        have hown8 : (w7.setCell ⟨g, 0, none⟩ (.slice A1 rest.length (c - 1))).ownsRow w0.heap.size 5 1 v (Lib.byteCells bs).length (Lib.byteCells bs) := (HW.out.kept (grown_of_below HB7 none) (Classical.em _)).kept (row := some g) ⟨rfl, rfl, rfl, by simp [World.setCell], fun k _ hk => Below.heap_setCell _ _ _ _ (fun e => hk (by simp [e]))⟩ (Or.inr hne)
        have hC8 : Kd.C k81 w0 A1 rest.length rest := by
          have h_ := Kd.C_drop (m := 1) HC.out (by simp) (by simpa using hc)
          rw [HA1.out]
          simpa [show k81.sz = 3 from rfl] using h_
        have HS8 : ∀ q, (q ≠ g → (w7.setCell ⟨g, 0, none⟩ (.slice A1 rest.length (c - 1))).heap[q]? = some (.cells #[.pointer (some ⟨g, 0, none⟩)] 115 (0, 0))) → PrSt (PrLq w0) w0 g q rest bs (w7.setCell ⟨g, 0, none⟩ (.slice A1 rest.length (c - 1))) := fun q hx => ⟨_, ⟨hBg, p, v, W8g, hpp, hown8, hne⟩, ⟨A1, c - 1, rfl, by omega, hC8⟩, hb8, hx⟩
        have HP8 : pb0 ≠ g → (w7.setCell ⟨g, 0, none⟩ (.slice A1 rest.length (c - 1))).heap[pb0]? = some (.cells #[.pointer (some ⟨g, 0, none⟩)] 115 (0, 0)) := by
          intro hpb0
          rw [hk8.2 pb0 (blk_lt (HP0.out hpb0)) hpb0 (fun cs e => by rw [HP0.out hpb0] at e; simp at e)]; exact HP0.out hpb0
        clear hb0 hc0 hf0 W7g W7p W7v hcut
        generalize (w7.setCell ⟨g, 0, none⟩ (.slice A1 rest.length (c - 1))) = w8 at W8g W8p W8v hk8 hb8 hown8 HS8 HP8 ⊢
        have HA8 := Aside0.mk (HS8 pb0 HP8)
        have HI8 := Aside0.mk (HS8 pb (fun _ => W8p))
        have HK8 := Aside0.mk hk8
        have hb0 : w8.cell? ⟨pb, 0, none⟩ = some (.pointer (some ⟨g, 0, none⟩)) := (blk_cell W8p 0).trans rfl
        have hv0 : w8.cell? ⟨gv, 0, none⟩ = some (.int .i64 x.f0) := (blk_cell W8v 0).trans rfl
        have hv1 : w8.cell? ⟨gv, 1, none⟩ = some (.int .i64 x.f1) := (blk_cell W8v 1).trans rfl
        have hv2 : w8.cell? ⟨gv, 2, none⟩ = some (.string x.f2) := (blk_cell W8v 2).trans rfl
        clear HS8 HP8 W8g hk8 hb8 hown8 hC8
        have H := HH.out
        clear HH
        simp only [valP] at H
        by_cases k1 : x.f0 = 1
        · rw [if_pos k1] at H
          simp only [Option.some.injEq, Prod.mk.injEq] at H
          obtain ⟨rfl, rfl⟩ := H
          have k1b : (x.f0 == 1) = true := beq_iff_eq.2 k1
          clear k1
          go_wp2_with (first | (go_at_call 102; refine (HA8.out.prWrite ⟨#[110, 117, 108, 108]⟩ (by have := HLN.out; simpa using this)).mono ?_; rintro e w9 ⟨rfl, hs9, hk9⟩; have HS9 := Aside0.mk hs9; have HK9 := Aside0.mk (HK8.out.trans hk9); clear hs9 hk9))
          go_end0
          exact ⟨rfl, HS9.out, HK9.out⟩
        · rw [if_neg k1] at H
          have k1b : (x.f0 == 1) = false := beq_eq_false_iff_ne.2 k1
          by_cases k2 : x.f0 = 2
          · rw [if_pos k2] at H
            have k2b : (x.f0 == 2) = true := beq_iff_eq.2 k2
            clear k1 k2
            simp only [Option.some.injEq, Prod.mk.injEq] at H
            obtain ⟨ho, rfl⟩ := H
            by_cases k7 : x.f1 = 1
            · rw [if_pos k7] at ho
              subst ho
              have k7b : (x.f1 == 1) = true := beq_iff_eq.2 k7
              clear k7
              go_upto_region 7 with fail
              have SS : w8.drew.cell? ⟨pb, 0, none⟩ = some (.pointer (some ⟨g, 0, none⟩)) ∧ w8.drew.cell? ⟨gv, 1, none⟩ = some (.int .i64 x.f1) := ⟨hb0, hv1⟩
              have HAd : PrSt (PrLq w0) w0 g pb0 rest bs w8.drew := by
                obtain ⟨lv, h1, h2, h3, h4⟩ := HA8.out
                exact ⟨lv, h1, h2, h3.drew, h4⟩
              have HKd : KeepT w w8.drew g := HK8.out
              have HAD := Aside0.mk HAd
              have HKD := Aside0.mk HKd
              clear HAd HKd hb0 hv0 hv1 hv2
              have W9p : w8.drew.heap[pb]? = some (.cells #[.pointer (some ⟨g, 0, none⟩)] 115 (0, 0)) := W8p
              have W9v := (show w8.drew.heap[gv]? = w8.heap[gv]? from rfl).trans W8v
              clear W8p W8v
              refine start_ (n := 8) (S := fun w' => w'.cell? ⟨pb, 0, none⟩ = some (.pointer (some ⟨g, 0, none⟩)) ∧ w'.cell? ⟨gv, 1, none⟩ = some (.int .i64 x.f1)) (ds := [7]) #[false, false, false, false, false, false, false, false] (by kernel_rfl) rfl rfl SS (fun hHeld => ?_)
              clear SS
              generalize w8.drew = w9 at HAD HKD W9p W9v hHeld ⊢
              refine take_ (i := 0) (N := some 27) (v := ?_) (a' := ?_) #[true, false, false, false, false, false, false, false] rfl rfl (by kernel_rfl) (fun _ _ _ h => h) (Or.inl ⟨by rfl, ?_⟩) hHeld ?_ ?_
              rotate_left
              · rintro w' ⟨s0, s1⟩
                go_simp
                with_reducible rfl
              rotate_left
              · simp only [Act.put, List.setIfInBounds_toArray, List.set_cons_zero, List.set_cons_succ, i64_w, i32_w]
                rfl
              refine pure_ (i := 1) (N := some 28) (v := ?_) (a' := ?_) #[true, true, false, false, false, false, false, false] rfl rfl (by kernel_rfl) (fun _ _ _ h => h) (Or.inl ⟨by rfl, ?_⟩) ?_ ?_
              rotate_left
              · intro w'
                go_simp
                with_reducible rfl
              rotate_left
              · simp only [Act.put, List.setIfInBounds_toArray, List.set_cons_zero, List.set_cons_succ, i64_w, i32_w]
                rfl
              refine pure_ (i := 2) (N := some 29) (v := ?_) (a' := ?_) #[true, true, true, false, false, false, false, false] rfl rfl (by kernel_rfl) (fun _ _ _ h => h) (Or.inl ⟨by rfl, ?_⟩) ?_ ?_
              rotate_left
              · intro w'
                go_simp
                with_reducible rfl
              rotate_left
              · simp only [Act.put, List.setIfInBounds_toArray, List.set_cons_zero, List.set_cons_succ, i64_w, i32_w]
                rfl
              refine pure_ (i := 3) (N := some 30) (v := ?_) (a' := ?_) #[true, true, true, true, false, false, false, false] rfl rfl (by kernel_rfl) (fun _ _ _ h => h) (Or.inl ⟨by rfl, ?_⟩) ?_ ?_
              rotate_left
              · intro w'
                go_simp
                with_reducible rfl
              rotate_left
              · simp only [Act.put, List.setIfInBounds_toArray, List.set_cons_zero, List.set_cons_succ, i64_w, i32_w]
                rfl
              refine take_ (i := 4) (N := some 31) (v := ?_) (a' := ?_) #[true, true, true, true, true, false, false, false] rfl rfl (by kernel_rfl) (fun _ _ _ h => h) (Or.inl ⟨by rfl, ?_⟩) hHeld ?_ ?_
              rotate_left
              · rintro w' ⟨s0, s1⟩
                go_simp
                with_reducible rfl
              rotate_left
              · simp only [Act.put, List.setIfInBounds_toArray, List.set_cons_zero, List.set_cons_succ, i64_w, i32_w]
                rfl
              refine pure_ (i := 5) (N := some 32) (v := ?_) (a' := ?_) #[true, true, true, true, true, true, false, false] rfl rfl (by kernel_rfl) (fun _ _ _ h => h) (Or.inl ⟨by rfl, ?_⟩) ?_ ?_
              rotate_left
              · intro w'
                go_simp
                with_reducible rfl
              rotate_left
              · simp only [Act.put, List.setIfInBounds_toArray, List.set_cons_zero, List.set_cons_succ, i64_w, i32_w]
                rfl
              refine one_ (i := 6) (N := some 33) #[true, true, true, true, true, true, true, false] rfl rfl (by kernel_rfl) (by decide) (fun K hK => ?_)
              refine goes_ Tryd.func103 (by kernel_rfl) rfl #[.bool true] (by rfl) rfl rfl (by (try simp only [List.map_toArray, List.map_cons, List.map_nil]); first | done | rfl) ?_
              refine (format_bool true _).mono ?_
              rintro e w10 ⟨rfl, rfl⟩
              refine ⟨_, rfl, ?_⟩
              refine hK.out _ _ (hHeld) (fun hHeld => ?_)
              clear hK K
              refine norm_ (a' := ?_) ?_ ?_
              rotate_left
              · show Act.put _ (some 33) _ = _
                simp only [Act.put, List.setIfInBounds_toArray, List.set_cons_zero, List.set_cons_succ, i64_w, i32_w]
                rfl
              refine last_ (i := 7) (N := some 34) #[true, true, true, true, true, true, true, true] rfl rfl (by kernel_rfl) (by decide) (fun K hK => ?_)
              refine goes_ Tryd.func102 (by kernel_rfl) rfl #[.pointer (some ⟨g, 1, none⟩), .string ⟨#[116, 114, 117, 101]⟩] (by rfl) rfl rfl (by (try simp only [List.map_toArray, List.map_cons, List.map_nil]); first | done | rfl) ?_
              refine (HAD.out.prWrite ⟨#[116, 114, 117, 101]⟩ (by have := HLN.out; simpa using this)).mono ?_
              rintro e w11 ⟨rfl, hs9, hk9⟩
              have HS9 := Aside0.mk hs9
              have HK9 := Aside0.mk (HKD.out.trans hk9)
              clear hs9 hk9
              refine ⟨_, rfl, ?_⟩
              refine hK.out _ _ ?_
              clear hK K
              refine norm_ (a' := ?_) ?_ ?_
              rotate_left
              · show Act.put _ (some 34) _ = _
                simp only [Act.put, List.setIfInBounds_toArray, List.set_cons_zero, List.set_cons_succ, i64_w, i32_w]
                rfl
              refine done_ (by kernel_rfl) ?_
              try go_wp2
              go_end0
              exact ⟨rfl, HS9.out, HK9.out⟩
            · rw [if_neg k7] at ho
              subst ho
              have k7b : (x.f1 == 1) = false := beq_eq_false_iff_ne.2 k7
              clear k7
              go_upto_region 7 with fail
              have SS : w8.drew.cell? ⟨pb, 0, none⟩ = some (.pointer (some ⟨g, 0, none⟩)) ∧ w8.drew.cell? ⟨gv, 1, none⟩ = some (.int .i64 x.f1) := ⟨hb0, hv1⟩
              have HAd : PrSt (PrLq w0) w0 g pb0 rest bs w8.drew := by
                obtain ⟨lv, h1, h2, h3, h4⟩ := HA8.out
                exact ⟨lv, h1, h2, h3.drew, h4⟩
              have HKd : KeepT w w8.drew g := HK8.out
              have HAD := Aside0.mk HAd
              have HKD := Aside0.mk HKd
              clear HAd HKd hb0 hv0 hv1 hv2
              have W9p : w8.drew.heap[pb]? = some (.cells #[.pointer (some ⟨g, 0, none⟩)] 115 (0, 0)) := W8p
              have W9v := (show w8.drew.heap[gv]? = w8.heap[gv]? from rfl).trans W8v
              clear W8p W8v
              refine start_ (n := 8) (S := fun w' => w'.cell? ⟨pb, 0, none⟩ = some (.pointer (some ⟨g, 0, none⟩)) ∧ w'.cell? ⟨gv, 1, none⟩ = some (.int .i64 x.f1)) (ds := [7]) #[false, false, false, false, false, false, false, false] (by kernel_rfl) rfl rfl SS (fun hHeld => ?_)
              clear SS
              generalize w8.drew = w9 at HAD HKD W9p W9v hHeld ⊢
              refine take_ (i := 0) (N := some 27) (v := ?_) (a' := ?_) #[true, false, false, false, false, false, false, false] rfl rfl (by kernel_rfl) (fun _ _ _ h => h) (Or.inl ⟨by rfl, ?_⟩) hHeld ?_ ?_
              rotate_left
              · rintro w' ⟨s0, s1⟩
                go_simp
                with_reducible rfl
              rotate_left
              · simp only [Act.put, List.setIfInBounds_toArray, List.set_cons_zero, List.set_cons_succ, i64_w, i32_w]
                rfl
              refine pure_ (i := 1) (N := some 28) (v := ?_) (a' := ?_) #[true, true, false, false, false, false, false, false] rfl rfl (by kernel_rfl) (fun _ _ _ h => h) (Or.inl ⟨by rfl, ?_⟩) ?_ ?_
              rotate_left
              · intro w'
                go_simp
                with_reducible rfl
              rotate_left
              · simp only [Act.put, List.setIfInBounds_toArray, List.set_cons_zero, List.set_cons_succ, i64_w, i32_w]
                rfl
              refine pure_ (i := 2) (N := some 29) (v := ?_) (a' := ?_) #[true, true, true, false, false, false, false, false] rfl rfl (by kernel_rfl) (fun _ _ _ h => h) (Or.inl ⟨by rfl, ?_⟩) ?_ ?_
              rotate_left
              · intro w'
                go_simp
                with_reducible rfl
              rotate_left
              · simp only [Act.put, List.setIfInBounds_toArray, List.set_cons_zero, List.set_cons_succ, i64_w, i32_w]
                rfl
              refine pure_ (i := 3) (N := some 30) (v := ?_) (a' := ?_) #[true, true, true, true, false, false, false, false] rfl rfl (by kernel_rfl) (fun _ _ _ h => h) (Or.inl ⟨by rfl, ?_⟩) ?_ ?_
              rotate_left
              · intro w'
                go_simp
                with_reducible rfl
              rotate_left
              · simp only [Act.put, List.setIfInBounds_toArray, List.set_cons_zero, List.set_cons_succ, i64_w, i32_w]
                rfl
              refine take_ (i := 4) (N := some 31) (v := ?_) (a' := ?_) #[true, true, true, true, true, false, false, false] rfl rfl (by kernel_rfl) (fun _ _ _ h => h) (Or.inl ⟨by rfl, ?_⟩) hHeld ?_ ?_
              rotate_left
              · rintro w' ⟨s0, s1⟩
                go_simp
                with_reducible rfl
              rotate_left
              · simp only [Act.put, List.setIfInBounds_toArray, List.set_cons_zero, List.set_cons_succ, i64_w, i32_w]
                rfl
              refine pure_ (i := 5) (N := some 32) (v := ?_) (a' := ?_) #[true, true, true, true, true, true, false, false] rfl rfl (by kernel_rfl) (fun _ _ _ h => h) (Or.inl ⟨by rfl, ?_⟩) ?_ ?_
              rotate_left
              · intro w'
                go_simp
                with_reducible rfl
              rotate_left
              · simp only [Act.put, List.setIfInBounds_toArray, List.set_cons_zero, List.set_cons_succ, i64_w, i32_w]
                rfl
              refine one_ (i := 6) (N := some 33) #[true, true, true, true, true, true, true, false] rfl rfl (by kernel_rfl) (by decide) (fun K hK => ?_)
              refine goes_ Tryd.func103 (by kernel_rfl) rfl #[.bool false] (by rfl) rfl rfl (by (try simp only [List.map_toArray, List.map_cons, List.map_nil]); first | done | rfl) ?_
              refine (format_bool false _).mono ?_
              rintro e w10 ⟨rfl, rfl⟩
              refine ⟨_, rfl, ?_⟩
              refine hK.out _ _ (hHeld) (fun hHeld => ?_)
              clear hK K
              refine norm_ (a' := ?_) ?_ ?_
              rotate_left
              · show Act.put _ (some 33) _ = _
                simp only [Act.put, List.setIfInBounds_toArray, List.set_cons_zero, List.set_cons_succ, i64_w, i32_w]
                rfl
              refine last_ (i := 7) (N := some 34) #[true, true, true, true, true, true, true, true] rfl rfl (by kernel_rfl) (by decide) (fun K hK => ?_)
              refine goes_ Tryd.func102 (by kernel_rfl) rfl #[.pointer (some ⟨g, 1, none⟩), .string ⟨#[102, 97, 108, 115, 101]⟩] (by rfl) rfl rfl (by (try simp only [List.map_toArray, List.map_cons, List.map_nil]); first | done | rfl) ?_
              refine (HAD.out.prWrite ⟨#[102, 97, 108, 115, 101]⟩ (by have := HLN.out; simpa using this)).mono ?_
              rintro e w11 ⟨rfl, hs9, hk9⟩
              have HS9 := Aside0.mk hs9
              have HK9 := Aside0.mk (HKD.out.trans hk9)
              clear hs9 hk9
              refine ⟨_, rfl, ?_⟩
              refine hK.out _ _ ?_
              clear hK K
              refine norm_ (a' := ?_) ?_ ?_
              rotate_left
              · show Act.put _ (some 34) _ = _
                simp only [Act.put, List.setIfInBounds_toArray, List.set_cons_zero, List.set_cons_succ, i64_w, i32_w]
                rfl
              refine done_ (by kernel_rfl) ?_
              try go_wp2
              go_end0
              exact ⟨rfl, HS9.out, HK9.out⟩
          · rw [if_neg k2] at H
            have k2b : (x.f0 == 2) = false := beq_eq_false_iff_ne.2 k2
            by_cases k3 : x.f0 = 3
            · rw [if_pos k3] at H
              have k3b : (x.f0 == 3) = true := beq_iff_eq.2 k3
              clear k1 k2 k3
              by_cases k7 : 0 ≤ x.f1 ∧ x.f1 ≤ 9223372036854775807
              · rw [if_pos k7] at H
                simp only [Option.some.injEq, Prod.mk.injEq] at H
                obtain ⟨rfl, rfl⟩ := H
                have hVars8 : HFmt.Vars w8.drew := hVars.below HA8.out.prOld.drew
                have HY := Aside0.mk (HFmt.decimal_ok x.f1 (by omega) k7.2 w8.drew hVars8)
                clear k7 hVars8
                obtain ⟨y, hy⟩ : ∃ y, y = Lib.itoa x.f1 := ⟨_, rfl⟩
                rw [← hy] at HY HLN
                have HYE := Aside0.mk hy
                clear hy
                go_upto_region 9 with fail
                have SS : w8.drew.cell? ⟨pb, 0, none⟩ = some (.pointer (some ⟨g, 0, none⟩)) ∧ w8.drew.cell? ⟨gv, 1, none⟩ = some (.int .i64 x.f1) := ⟨hb0, hv1⟩
                have HAd : PrSt (PrLq w0) w0 g pb0 rest bs w8.drew := by
                  obtain ⟨lv, h1, h2, h3, h4⟩ := HA8.out
                  exact ⟨lv, h1, h2, h3.drew, h4⟩
                have HKd : KeepT w w8.drew g := HK8.out
                have HAD := Aside0.mk HAd
                have HKD := Aside0.mk HKd
                clear HAd HKd hb0 hv0 hv1 hv2
                have W9p : w8.drew.heap[pb]? = some (.cells #[.pointer (some ⟨g, 0, none⟩)] 115 (0, 0)) := W8p
                have W9v := (show w8.drew.heap[gv]? = w8.heap[gv]? from rfl).trans W8v
                clear W8p W8v
                refine start_ (n := 7) (S := fun w' => w'.cell? ⟨pb, 0, none⟩ = some (.pointer (some ⟨g, 0, none⟩)) ∧ w'.cell? ⟨gv, 1, none⟩ = some (.int .i64 x.f1)) (ds := [6]) #[false, false, false, false, false, false, false] (by kernel_rfl) rfl rfl SS (fun hHeld => ?_)
                clear SS
                generalize w8.drew = w9 at HAD HKD W9p W9v hHeld HY ⊢
                refine take_ (i := 0) (N := some 37) (v := ?_) (a' := ?_) #[true, false, false, false, false, false, false] rfl rfl (by kernel_rfl) (fun _ _ _ h => h) (Or.inl ⟨by rfl, ?_⟩) hHeld ?_ ?_
                rotate_left
                · rintro w' ⟨s0, s1⟩
                  go_simp
                  with_reducible rfl
                rotate_left
                · simp only [Act.put, List.setIfInBounds_toArray, List.set_cons_zero, List.set_cons_succ, i64_w, i32_w]
                  rfl
                refine pure_ (i := 1) (N := some 38) (v := ?_) (a' := ?_) #[true, true, false, false, false, false, false] rfl rfl (by kernel_rfl) (fun _ _ _ h => h) (Or.inl ⟨by rfl, ?_⟩) ?_ ?_
                rotate_left
                · intro w'
                  go_simp
                  with_reducible rfl
                rotate_left
                · simp only [Act.put, List.setIfInBounds_toArray, List.set_cons_zero, List.set_cons_succ, i64_w, i32_w]
                  rfl
                refine pure_ (i := 2) (N := some 39) (v := ?_) (a' := ?_) #[true, true, true, false, false, false, false] rfl rfl (by kernel_rfl) (fun _ _ _ h => h) (Or.inl ⟨by rfl, ?_⟩) ?_ ?_
                rotate_left
                · intro w'
                  go_simp
                  with_reducible rfl
                rotate_left
                · simp only [Act.put, List.setIfInBounds_toArray, List.set_cons_zero, List.set_cons_succ, i64_w, i32_w]
                  rfl
                refine pure_ (i := 3) (N := some 40) (v := ?_) (a' := ?_) #[true, true, true, true, false, false, false] rfl rfl (by kernel_rfl) (fun _ _ _ h => h) (Or.inl ⟨by rfl, ?_⟩) ?_ ?_
                rotate_left
                · intro w'
                  go_simp
                  with_reducible rfl
                rotate_left
                · simp only [Act.put, List.setIfInBounds_toArray, List.set_cons_zero, List.set_cons_succ, i64_w, i32_w]
                  rfl
                refine take_ (i := 4) (N := some 41) (v := ?_) (a' := ?_) #[true, true, true, true, true, false, false] rfl rfl (by kernel_rfl) (fun _ _ _ h => h) (Or.inl ⟨by rfl, ?_⟩) hHeld ?_ ?_
                rotate_left
                · rintro w' ⟨s0, s1⟩
                  go_simp
                  with_reducible rfl
                rotate_left
                · simp only [Act.put, List.setIfInBounds_toArray, List.set_cons_zero, List.set_cons_succ, i64_w, i32_w]
                  rfl
                refine one_ (i := 5) (N := some 42) #[true, true, true, true, true, true, false] rfl rfl (by kernel_rfl) (by decide) (fun K hK => ?_)
                refine goes_ Tryd.func48 (by kernel_rfl) rfl #[.int .i64 x.f1] (by rfl) rfl rfl (by (try simp only [List.map_toArray, List.map_cons, List.map_nil]); first | done | rfl) ?_
                refine HY.out.mono ?_
                rintro e w19 ⟨rfl, hb9⟩
                have HA9 := Aside0.mk (HAD.out.prBelow hb9)
                have hHeld' : w19.cell? ⟨pb, 0, none⟩ = some (.pointer (some ⟨g, 0, none⟩)) ∧ w19.cell? ⟨gv, 1, none⟩ = some (.int .i64 x.f1) := ⟨(hb9.cell (World.block_lt_of_cell? w9 _ hHeld.1)).trans hHeld.1, (hb9.cell (World.block_lt_of_cell? w9 _ hHeld.2)).trans hHeld.2⟩
                clear hb9
                refine ⟨_, rfl, ?_⟩
                refine hK.out _ _ (hHeld') (fun hHeld => ?_)
                clear hK K
                refine norm_ (a' := ?_) ?_ ?_
                rotate_left
                · show Act.put _ (some 42) _ = _
                  simp only [Act.put, List.setIfInBounds_toArray, List.set_cons_zero, List.set_cons_succ, i64_w, i32_w]
                  rfl
                refine last_ (i := 6) (N := some 43) #[true, true, true, true, true, true, true] rfl rfl (by kernel_rfl) (by decide) (fun K hK => ?_)
                refine goes_ Tryd.func102 (by kernel_rfl) rfl #[.pointer (some ⟨g, 1, none⟩), .string ⟨y.toArray⟩] (by rfl) rfl rfl (by (try simp only [List.map_toArray, List.map_cons, List.map_nil]); first | done | rfl) ?_
                refine (HA9.out.1.prWrite ⟨y.toArray⟩ (by have := HLN.out; simpa using this)).mono ?_
                rintro e w11 ⟨rfl, hs9, hk9⟩
                have HS9 := Aside0.mk hs9
                have HK9 := Aside0.mk ((HKD.out.trans HA9.out.2).trans hk9)
                clear hs9 hk9
                refine ⟨_, rfl, ?_⟩
                refine hK.out _ _ ?_
                clear hK K
                refine norm_ (a' := ?_) ?_ ?_
                rotate_left
                · show Act.put _ (some 43) _ = _
                  simp only [Act.put, List.setIfInBounds_toArray, List.set_cons_zero, List.set_cons_succ, i64_w, i32_w]
                  rfl
                refine done_ (by kernel_rfl) ?_
                try go_wp2
                go_end0
                exact ⟨rfl, by rw [← HYE.out]; simpa using HS9.out, HK9.out⟩
              · rw [if_neg k7] at H; cases H
            · rw [if_neg k3] at H
              have k3b : (x.f0 == 3) = false := beq_eq_false_iff_ne.2 k3
              by_cases k4 : x.f0 = 4
              · rw [if_pos k4] at H
                have k4b : (x.f0 == 4) = true := beq_iff_eq.2 k4
                clear k1 k2 k3 k4
                simp only [Option.some.injEq, Prod.mk.injEq] at H
                obtain ⟨rfl, rfl⟩ := H
                have hsz : x.f2.size ≤ 999999999 := by
                  have := HLN.out
                  have es : x.f2.size = x.f2.data.toList.length := by rw [Array.length_toList]; rfl
                  simp only [List.length_append, List.length_cons, List.length_nil] at this
                  omega
                have s1 : (9223372036854775807 < 1 + x.f2.size) = False := eq_false (by omega)
                have s2 : (9223372036854775807 < (⟨#[34]⟩ ++ x.f2 : ByteArray).size + 1) = False := eq_false (by rw [ByteArray.size_append]; show ¬ (_ < 1 + x.f2.size + 1); omega)
                have s3 : (9223372036854775807 < 1 + x.f2.size + 1) = False := eq_false (by omega)
                go_upto_region 11 with fail
                go_still_tail 7, (by kernel_rfl)
                change wpList _ _ _ _ _ w8.drew
                have HAd : PrSt (PrLq w0) w0 g pb0 rest bs w8.drew := by
                  obtain ⟨lv, h1, h2, h3, h4⟩ := HA8.out
                  exact ⟨lv, h1, h2, h3.drew, h4⟩
                have HKd : KeepT w w8.drew g := HK8.out
                have HAD := Aside0.mk HAd
                have HKD := Aside0.mk HKd
                clear HAd HKd hb0 hv0 hv1 hv2 W8p W8v
                generalize w8.drew = w9 at HAD HKD ⊢
                obtain ⟨y, hy⟩ : ∃ y, y = (⟨#[34]⟩ ++ x.f2 ++ ⟨#[34]⟩ : ByteArray) := ⟨_, rfl⟩
                have hyl : y.data.toList = [34] ++ x.f2.data.toList ++ [34] := by rw [hy, ByteArray.data_append, ByteArray.data_append, Array.toList_append, Array.toList_append]
                rw [← hyl] at HLN
                rw [← hy]
                have HYE := Aside0.mk hyl
                clear hy hyl
                go_wp2_with (first | (go_at_call 102; refine (HAD.out.prWrite y (by have := HLN.out; simpa using this)).mono ?_; rintro e w10 ⟨rfl, hs9, hk9⟩; have HS9 := Aside0.mk hs9; have HK9 := Aside0.mk (HKD.out.trans hk9); clear hs9 hk9))
                go_end0
                exact ⟨rfl, by rw [← HYE.out]; exact HS9.out, HK9.out⟩
              · rw [if_neg k4] at H
                have k4b : (x.f0 == 4) = false := beq_eq_false_iff_ne.2 k4
                clear k1 k2 k3 k4
                by_cases k5 : x.f0 = 5
                · rw [if_pos k5] at H
                  have k5b : (x.f0 == 5) = true := beq_iff_eq.2 k5
                  clear k5
                  obtain ⟨⟨o, l1⟩, hl, H⟩ := Option.bind_eq_some_iff.mp H
                  simp only [Option.some.injEq, Prod.mk.injEq] at H
                  obtain ⟨rfl, rfl⟩ := H
                  have HL := Aside0.mk hl
                  clear hl
                  go_wp2_with (first | (go_at_call 104; refine (prNested (PrLq := PrLq w0) (w0 := w0) (g := g) (pb := pb) (valP k) Tryd.func85 (by kernel_rfl) rfl (b := #[.pointer (some ⟨g, 0, none⟩)]) (c := #[]) (oargs := #[.pointer (some ⟨g, 0, none⟩)]) rfl (fun left bs w out left' hS h hl => ih k (Nat.lt_succ_self k) pb left bs w out left' hS h hl) 1000 x.f1 ⟨#[91]⟩ ⟨#[93]⟩ rest bs w8 o l1 HI8.out HL.out (by have := HLN.out; simp at this ⊢; omega)).mono ?_; rintro e w9 ⟨rfl, hs9, hk9⟩; have HS9 := Aside0.mk hs9; have HK9 := Aside0.mk hk9; clear hs9 hk9))
                  go_end0
                  have hs := PrSt.prSwap HS9.out HA8.out HK9.out
                  exact ⟨rfl, by simpa using hs, HK8.out.trans HK9.out⟩
                · rw [if_neg k5] at H
                  have k5b : (x.f0 == 5) = false := beq_eq_false_iff_ne.2 k5
                  by_cases k6 : x.f0 = 6
                  · rw [if_pos k6] at H
                    have k6b : (x.f0 == 6) = true := beq_iff_eq.2 k6
                    clear k5 k6
                    obtain ⟨⟨o, l1⟩, hl, H⟩ := Option.bind_eq_some_iff.mp H
                    simp only [Option.some.injEq, Prod.mk.injEq] at H
                    obtain ⟨rfl, rfl⟩ := H
                    have HL := Aside0.mk hl
                    clear hl
                    go_wp2_with (first | (go_at_call 104; refine (prNested (PrLq := PrLq w0) (w0 := w0) (g := g) (pb := pb) (pairP (valP k)) Tryd.func105 (by kernel_rfl) rfl (b := #[]) (c := #[.pointer (some ⟨pb, 0, none⟩)]) (oargs := #[.pointer (some ⟨pb, 0, none⟩)]) rfl (fun left bs w out left' hS h hl => prPair hpbg (valP k) (fun left bs w out left' hS h hl => ih k (Nat.lt_succ_self k) pb left bs w out left' hS h hl) left bs w out left' hS h hl) 1000 x.f1 ⟨#[123]⟩ ⟨#[125]⟩ rest bs w8 o l1 HI8.out HL.out (by have := HLN.out; simp at this ⊢; omega)).mono ?_; rintro e w9 ⟨rfl, hs9, hk9⟩; have HS9 := Aside0.mk hs9; have HK9 := Aside0.mk hk9; clear hs9 hk9))
                    go_end0
                    have hs := PrSt.prSwap HS9.out HA8.out HK9.out
                    exact ⟨rfl, by simpa using hs, HK8.out.trans HK9.out⟩
                  · rw [if_neg k6] at H
                    have k6b : (x.f0 == 6) = false := beq_eq_false_iff_ne.2 k6
                    simp only [Option.some.injEq, Prod.mk.injEq] at H
                    obtain ⟨rfl, rfl⟩ := H
                    clear k5 k6
                    go_wp2
                    go_end0
                    rw [List.append_nil]
                    exact ⟨rfl, HA8.out, HK8.out⟩
/-- What printed answers. -/
def printedF (l : List S81) : Option ByteArray := (valP 100 l).bind fun q => if q.1 ≠ [] ∧ q.1.length ≤ 1000000000 then some ⟨q.1.toArray⟩ else none
set_option maxHeartbeats 2000000 in
set_option maxRecDepth 100000 in
theorem printed_calls (A0 : Option Addr) (c0 : Nat) (l0 : List S81) (r : ByteArray) (w : World) (hr0 : Kd.C k81 w A0 l0.length l0) (hc0 : l0.length ≤ c0) (h : printedF l0 = some r) (hV : HFmt.Vars w) :
    Calls Tryd.prog 53 #[.slice A0 l0.length c0] w fun e w' => e = .returned (.string r) ∧ Below w.heap.size w w' := by
  have t118 := Tryd.underlying118
  have t120 := Tryd.underlying120
  unfold printedF at h
  obtain ⟨⟨out, left⟩, hv, h⟩ := Option.bind_eq_some_iff.mp h
  dsimp only at h
  by_cases c1 : out ≠ [] ∧ out.length ≤ 1000000000
  · rw [if_pos c1] at h
    cases h
    have HC := Aside0.mk c1
    have HV := Aside0.mk hv
    have HR := Aside0.mk hr0
    have HL := Aside0.mk hc0
    have HVA := Aside0.mk hV
    clear c1 hv hr0 hc0 hV
    have hs1 : PrSt (PrLq w) w w.heap.size w.heap.size l0 [] (w.alloc (.cells #[.slice A0 l0.length c0, .pointer none, .slice none 0 0] 120 (0, 0))) := by
      refine ⟨.slice A0 l0.length c0, ⟨Nat.le_refl _, .pointer none, .slice none 0 0, by rw [World.alloc]; exact Array.getElem?_push_size, .inl rfl, ?_, by simp [Value.ownBlock]⟩, ⟨A0, c0, rfl, HL.out, HR.out⟩, below_alloc (Below.refl _ _) _, fun h => absurd rfl h⟩
      exact ⟨rfl, .inl ⟨rfl, rfl⟩⟩
    have HS1 := Aside0.mk hs1
    clear hs1
    go_enter Tryd.func53, Tryd.ntmps53
    go_wp2_with (first | (go_at_call 85; refine (value_calls (w0 := w) (g := w.heap.size) HVA.out 100 w.heap.size l0 [] _ out left HS1.out HV.out (by simpa using HC.out.2)).mono ?_; rintro e w3 ⟨rfl, hs, hk⟩; obtain ⟨lv, hp, _, hbel, _⟩ := hs; have HP := Aside0.mk hp; have HB := Aside0.mk hbel; clear hp hbel hk) | (go_at_call 86; refine (prString w.heap.size w.heap.size lv out w3 (by simpa using HP.out) HC.out.1).mono ?_; rintro e w4 ⟨rfl, hb4⟩; have HB4 := Aside0.mk (HB.out.trans hb4); clear hb4))
    go_ret
    exact ⟨rfl, HB4.out⟩
  · rw [if_neg c1] at h; cases h
end HPrint
def impl_printed.f (l0 : List S81) : Option ByteArray := HPrint.printedF l0
theorem impl_printed.calls (A0 : Option Addr) (c0 : Nat) (l0 : List (S81)) (r : ByteArray) (w : World) (hr0 : Kd.C k81 w A0 l0.length l0) (hc0 : l0.length ≤ c0) (h : impl_printed.f l0 = some r) (hV : HFmt.Vars w) :
    Calls Tryd.prog 53 #[.slice A0 l0.length c0] w fun e w' => e = .returned (.string r) ∧ Below w.heap.size w w' := HPrint.printed_calls A0 c0 l0 r w hr0 hc0 h hV

/-! ### impl_numVal: function 73 -/
def impl_numVal.f (a0 : Int) : Option (Int × Int × ByteArray) := some (3, a0, (⟨#[]⟩ : ByteArray))
set_option maxHeartbeats 8000000 in
set_option maxRecDepth 100000 in
theorem impl_numVal.calls (a0 : Int) (r1 : Int) (r2 : Int) (r3 : ByteArray) (w : World) (h : impl_numVal.f a0 = some (r1, r2, r3)) :
    Calls Tryd.prog 73 #[.int .i64 a0] w fun e w' => e = .returned (.agg #[.int .i64 r1, .int .i64 r2, .string r3]) ∧ Below w.heap.size w w' := by
  have hu81 := Tryd.underlying81
  have HB := Aside0.mk (Below.refl w.heap.size w)
  have H : (some (3, a0, (⟨#[]⟩ : ByteArray))) = some (r1, r2, r3) := h
  clear h
  simp only [Option.some.injEq, Prod.mk.injEq] at H
  obtain ⟨rfl, rfl, rfl⟩ := H
  go_enter Tryd.func73, Tryd.ntmps73
  go_wp2_with (first | ((with_reducible refine gate_dst (N := 2) rfl ?_); refine box_event ?hg (N := 2) ?hd (cs := #[.int .i64 0, .int .i64 0, .string (⟨#[]⟩ : ByteArray)]) (t := 81) ?hr ?_; (case hd => rfl); (case hg => rfl); (case hr => first | (go_simp; done) | (go_simp; rfl)); intro gb174 hg w2 hbox hb; have n0_ := Aside0.mk (below_step (by repeat (first | (with_reducible first | exact HB.out | apply below_alloc | apply pw_below_drewN | apply below_drew1) | exact HB.out)) hb); have n1_ := Aside0.mk (hbox); have n2_ := Aside0.mk ((by rw [hg]; exact (below_size (by repeat (first | (with_reducible first | exact HB.out | apply below_alloc | apply pw_below_drewN | apply below_drew1) | exact HB.out))) : w.heap.size ≤ gb174)); have n3_ := Aside0.mk ((by rw [hg]; exact (below_size (by repeat (first | (with_reducible first | exact HB.out | apply below_alloc | apply pw_below_drewN | apply below_drew1) | exact HB.out))) : w.heap.size ≤ gb174)); clear HB; have HB := n0_; have BK174 := n1_; have GW174 := n2_; have GE174 := n3_; clear n0_ n1_ n2_ n3_; clear hb hbox hg; have hcz3_0 : w2.cell? ⟨gb174, 0, none⟩ = some (.int .i64 0) := (blk_cell BK174.out 0).trans rfl; have hcz3_1 : w2.cell? ⟨gb174, 1, none⟩ = some (.int .i64 0) := (blk_cell BK174.out 1).trans rfl; have hcz3_2 : w2.cell? ⟨gb174, 2, none⟩ = some (.string (⟨#[]⟩ : ByteArray)) := (blk_cell BK174.out 2).trans rfl; have hfz3_0 := blk_frozen BK174.out 0; have hfz3_1 := blk_frozen BK174.out 1; have hfz3_2 := blk_frozen BK174.out 2))
  refine bodyPost_ret (results_cell_row rfl _ _ gb174 81 #[.int .i64 3, .int .i64 a0, .string (⟨#[]⟩ : ByteArray)] (0, 0) _ rfl (by (with_reducible repeat (first | refine blk_drewN ?_ _ | refine blk_drew ?_ | refine blk_alloc ?_ _)); refine blk_put (cs := #[.int .i64 3, .int .i64 a0, .string (⟨#[]⟩ : ByteArray)]) ?_ 2 _ rfl; (with_reducible repeat (first | refine blk_drewN ?_ _ | refine blk_drew ?_ | refine blk_alloc ?_ _)); refine blk_put (cs := #[.int .i64 3, .int .i64 0, .string (⟨#[]⟩ : ByteArray)]) ?_ 1 _ rfl; (with_reducible repeat (first | refine blk_drewN ?_ _ | refine blk_drew ?_ | refine blk_alloc ?_ _)); refine blk_put (cs := #[.int .i64 0, .int .i64 0, .string (⟨#[]⟩ : ByteArray)]) ?_ 0 _ rfl; (with_reducible repeat (first | refine blk_drewN ?_ _ | refine blk_drew ?_ | refine blk_alloc ?_ _)); exact BK174.out) Tryd.underlying81 rfl (by kernel_rfl)) rfl ?_
  exact ⟨by first | rfl | (simp [errW_none, errW_some] <;> rfl) | (simp [*, errW_none, errW_some] <;> rfl), by repeat (first | (with_reducible first | exact HB.out | apply below_alloc | apply pw_below_drewN | apply below_drew1 | refine below_set ?_ GE174.out) | exact HB.out)⟩

end Go.Proofs.YthjlbpgiaehjnaaDoor.QFnExactReplyText
