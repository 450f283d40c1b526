-- written by this session's program (wip/tools/myprint.py)
import Derived.Test.YtdggjfakhhhbeaaProg
import Derived.Below
import Derived.Deep.Draws
import Derived.Deep.AppendLies
import Derived.Maps.AppendAt
import Derived.OwnWalk
import Derived.Laws.BytesArg
import Derived.Laws.MakeOwn
import Derived.Laws.OwnMore
import Derived.Deep.OwnRows
import Derived.Tactics
import Derived.Lib.ConvBytes
import Derived.Laws.Slices
import Derived.WalkKit
import Derived.KernelRfl
import Derived.RowKit3
import Derived.Deep.LoopGhost
import Derived.Deep.QuietTactic
import Derived.BigQuiet
import Derived.WideLaws
import Derived.Deep.DeepCutAuto
import Derived.Deep.CutBlock
import Derived.Deep.RegionHeld3
import Derived.Laws.Rows
import Derived.Lib.AppendStr
import Derived.ArgAppend
import Derived.Laws.IdiomCopy
import Derived.OrdersHeld
import Derived.Laws.BitsLemmas
import Derived.RowKit
import Derived.Test.YtdggjfakhhhbeaaWWords
import Derived.Test.YtdggjfakhhhbeaaWLast
import Derived.Test.YtdggjfakhhhbeaaWTab
import Derived.Test.YtdggjfakhhhbeaaWFour
import Derived.Test.YtdggjfakhhhbeaaWQPut
import Derived.Test.YtdggjfakhhhbeaaWApart
import Derived.Test.YtdggjfakhhhbeaaWArr
import Derived.Test.YtdggjfakhhhbeaaWZeros
import Derived.Test.YtdggjfakhhhbeaaWFoot
import Derived.Test.YtdggjfakhhhbeaaWKept
import Derived.Test.YtdggjfakhhhbeaaWShare
import Derived.Test.YtdggjfakhhhbeaaWN
import Derived.Test.YtdggjfakhhhbeaaWFootNe
import Derived.Test.YtdggjfakhhhbeaaWAt
import Derived.Test.YtdggjfakhhhbeaaWEqStruct
import Derived.Test.YtdggjfakhhhbeaaWRepsOne
import Derived.Test.YtdggjfakhhhbeaaWInv
import Derived.Test.YtdggjfakhhhbeaaWInvWords
import Derived.Test.YtdggjfakhhhbeaaWGuard
import Derived.Test.YtdggjfakhhhbeaaWNEv
import Derived.Test.YtdggjfakhhhbeaaWMore
namespace Go.Proofs.Ytdggjfakhhhbeaa.QFnExactReadVar
open Go.RowKit Go.Proofs.YtdggjfakhhhbeaaW.PrintWords Go.Proofs.YtdggjfakhhhbeaaW.PrintLast Go.Proofs.YtdggjfakhhhbeaaW.PrintMore
attribute [local go_sem] max2_int min2_int max_two min_two max_three min_three max_four min_four   -- for this text's walks alone
set_option linter.unusedVariables false
set_option linter.unusedSimpArgs false



def errW : Option Int → Value
  | none => .nilIface
  | some c => .iface 0 (.int .i64 c)
theorem errW_none : errW none = .nilIface := rfl
theorem errW_some (c : Int) : errW (some c) = .iface 0 (.int .i64 c) := rfl

theorem info5 : (Try.prog.info? 5).map (fun i => (i.zero, i.size, i.bytes)) = some (some (.int .u8 0), 1, 1) := by kernel_rfl
-- the values' own types

section
variable {P : Program} {ops : Array Oper} {rest : List Oper} {o : Oper} {a : Act} {Q : Exit → Act → World → Prop} {W : World}
/-- The operation is a call of the function that this operand holds. -/
theorem gate_value {x : Operand} {aa : Array Operand} {ts : Array TypeId} (_ho : o.op = .call { callee := .value x, args := aa, argTypes := ts }) (h : wpList P ops Q (o :: rest) a W) : wpList P ops Q (o :: rest) a W := h
/-- A call of a function that is known by its value. -/
theorem goesV_ {rest : List Oper} {oi : Oper} {a : Act} {w : World} (N : Option Tmp) (hd : oi.dst = N) (hg : oi.guard = none) {f : FuncId} {fn : Func} {x : Operand} {aa : Array Operand} {ts : Array TypeId} (hf : P.funcs[f]? = some fn) (hname : (fn.name == "runtime.NumGoroutine") = false) (hb : fn.body.isSome = true) (hx : a.eval x = .func (.func f) #[] #[]) (args : Array Value)
    (hop : oi.op = .call { callee := .value x, args := aa, argTypes := ts }) (hargs : aa.map a.eval = args)
    (h : Calls P f args w fun e w' => ∃ v, e = .returned v ∧ wpList P ops Q rest (a.put N v) w') : wpList P ops Q (oi :: rest) a w := by
  refine wpList_plain hg fun K hK => ?_
  have he := enters_ hf hname hb args w
  have hrun : (execOp a.eval oi).run P w = .ok (.enter f args) w := by
    unfold execOp
    simp [hop, resolve, Deferred.ofValue, invoke, hx, hargs, he]
  unfold Oper.wp
  rw [hrun, Oper.upon_enter]
  refine h.mono fun e w'' hh => ?_
  obtain ⟨v, rfl, hk⟩ := hh
  subst hd
  exact hK _ _ hk
/-- A call of a function that is known by its value, and has captured. -/
theorem goesC_ {rest : List Oper} {oi : Oper} {a : Act} {w : World} (N : Option Tmp) (hd : oi.dst = N) (hg : oi.guard = none) {f : FuncId} {fn : Func} {x : Operand} {aa : Array Operand} {ts : Array TypeId} {caps : Array Value} (hf : P.funcs[f]? = some fn) (hname : (fn.name == "runtime.NumGoroutine") = false) (hb : fn.body.isSome = true) (hx : a.eval x = .func (.func f) #[] caps) (args : Array Value)
    (hop : oi.op = .call { callee := .value x, args := aa, argTypes := ts }) (hargs : aa.map a.eval ++ caps = args)
    (h : Calls P f args w fun e w' => ∃ v, e = .returned v ∧ wpList P ops Q rest (a.put N v) w') : wpList P ops Q (oi :: rest) a w := by
  refine wpList_plain hg fun K hK => ?_
  have he := enters_ hf hname hb args w
  have hrun : (execOp a.eval oi).run P w = .ok (.enter f args) w := by
    unfold execOp
    simp [hop, resolve, Deferred.ofValue, invoke, hx, hargs, he]
  unfold Oper.wp
  rw [hrun, Oper.upon_enter]
  refine h.mono fun e w'' hh => ?_
  obtain ⟨v, rfl, hk⟩ := hh
  subst hd
  exact hK _ _ hk
end

end Go.Proofs.Ytdggjfakhhhbeaa.QFnExactReadVar
