-- written by this session's program (wip/tools/myprint.py)
import Derived.Test.YthjlbpgiaehjnaaDoorProg
import Derived.Below
import Derived.Deep.Draws
import Derived.Deep.AppendLies
import Derived.Maps.AppendAt
import Derived.OwnWalk
import Derived.Laws.BytesArg
import Derived.Laws.MakeOwn
import Derived.Laws.OwnMore
import Derived.Deep.OwnRows
import Derived.Tactics
import Derived.Lib.ConvBytes
import Derived.Laws.Slices
import Derived.WalkKit
import Derived.KernelRfl
import Derived.RowKit3
import Derived.Deep.LoopGhost
import Derived.Deep.QuietTactic
import Derived.BigQuiet
import Derived.WideLaws
import Derived.Deep.DeepCutAuto
import Derived.Deep.CutBlock
import Derived.Deep.RegionHeld3
import Derived.Laws.Rows
import Derived.Lib.AppendStr
import Derived.ArgAppend
import Derived.Laws.IdiomCopy
import Derived.OrdersHeld
import Derived.Laws.BitsLemmas
import Derived.RowKit
import Derived.Test.YthjlbpgiaehjnaaDoorHNumW
import Derived.Test.YthjlbpgiaehjnaaDoorWWords
import Derived.Test.YthjlbpgiaehjnaaDoorWLast
import Derived.Test.YthjlbpgiaehjnaaDoorWTab
import Derived.Test.YthjlbpgiaehjnaaDoorWFour
import Derived.Test.YthjlbpgiaehjnaaDoorWQPut
import Derived.Test.YthjlbpgiaehjnaaDoorWApart
import Derived.Test.YthjlbpgiaehjnaaDoorWArr
import Derived.Test.YthjlbpgiaehjnaaDoorWZeros
import Derived.Test.YthjlbpgiaehjnaaDoorWFoot
import Derived.Test.YthjlbpgiaehjnaaDoorWKept
import Derived.Test.YthjlbpgiaehjnaaDoorWShare
import Derived.Test.YthjlbpgiaehjnaaDoorWN
import Derived.Test.YthjlbpgiaehjnaaDoorWFootNe
import Derived.Test.YthjlbpgiaehjnaaDoorWAt
import Derived.Test.YthjlbpgiaehjnaaDoorWEqStruct
import Derived.Test.YthjlbpgiaehjnaaDoorWRepsOne
import Derived.Test.YthjlbpgiaehjnaaDoorWInv
import Derived.Test.YthjlbpgiaehjnaaDoorWInvWords
import Derived.Test.YthjlbpgiaehjnaaDoorWGuard
import Derived.Test.YthjlbpgiaehjnaaDoorWNEv
import Derived.Test.YthjlbpgiaehjnaaDoorWMore
namespace Go.Proofs.YthjlbpgiaehjnaaDoor.QFnExactNumberOf
open Go.RowKit Go.Proofs.YthjlbpgiaehjnaaDoorW.PrintWords Go.Proofs.YthjlbpgiaehjnaaDoorW.PrintLast Go.Proofs.YthjlbpgiaehjnaaDoorW.PrintMore
attribute [local go_sem] max2_int min2_int max_two min_two max_three min_three max_four min_four   -- for this text's walks alone
set_option linter.unusedVariables false
set_option linter.unusedSimpArgs false



def errW : Option Int → Value
  | none => .nilIface
  | some c => .iface 131 (.int .i64 c)
theorem errW_none : errW none = .nilIface := rfl
theorem errW_some (c : Int) : errW (some c) = .iface 131 (.int .i64 c) := rfl

-- the values' own types

section
variable {P : Program} {ops : Array Oper} {rest : List Oper} {o : Oper} {a : Act} {Q : Exit → Act → World → Prop} {W : World}
/-- The operation is a call of the function that this operand holds. -/
theorem gate_value {x : Operand} {aa : Array Operand} {ts : Array TypeId} (_ho : o.op = .call { callee := .value x, args := aa, argTypes := ts }) (h : wpList P ops Q (o :: rest) a W) : wpList P ops Q (o :: rest) a W := h
/-- A call of a function that is known by its value. -/
theorem goesV_ {rest : List Oper} {oi : Oper} {a : Act} {w : World} (N : Option Tmp) (hd : oi.dst = N) (hg : oi.guard = none) {f : FuncId} {fn : Func} {x : Operand} {aa : Array Operand} {ts : Array TypeId} (hf : P.funcs[f]? = some fn) (hname : (fn.name == "runtime.NumGoroutine") = false) (hb : fn.body.isSome = true) (hx : a.eval x = .func (.func f) #[] #[]) (args : Array Value)
    (hop : oi.op = .call { callee := .value x, args := aa, argTypes := ts }) (hargs : aa.map a.eval = args)
    (h : Calls P f args w fun e w' => ∃ v, e = .returned v ∧ wpList P ops Q rest (a.put N v) w') : wpList P ops Q (oi :: rest) a w := by
  refine wpList_plain hg fun K hK => ?_
  have he := enters_ hf hname hb args w
  have hrun : (execOp a.eval oi).run P w = .ok (.enter f args) w := by
    unfold execOp
    simp [hop, resolve, Deferred.ofValue, invoke, hx, hargs, he]
  unfold Oper.wp
  rw [hrun, Oper.upon_enter]
  refine h.mono fun e w'' hh => ?_
  obtain ⟨v, rfl, hk⟩ := hh
  subst hd
  exact hK _ _ hk
/-- A call of a function that is known by its value, and has captured. -/
theorem goesC_ {rest : List Oper} {oi : Oper} {a : Act} {w : World} (N : Option Tmp) (hd : oi.dst = N) (hg : oi.guard = none) {f : FuncId} {fn : Func} {x : Operand} {aa : Array Operand} {ts : Array TypeId} {caps : Array Value} (hf : P.funcs[f]? = some fn) (hname : (fn.name == "runtime.NumGoroutine") = false) (hb : fn.body.isSome = true) (hx : a.eval x = .func (.func f) #[] caps) (args : Array Value)
    (hop : oi.op = .call { callee := .value x, args := aa, argTypes := ts }) (hargs : aa.map a.eval ++ caps = args)
    (h : Calls P f args w fun e w' => ∃ v, e = .returned v ∧ wpList P ops Q rest (a.put N v) w') : wpList P ops Q (oi :: rest) a w := by
  refine wpList_plain hg fun K hK => ?_
  have he := enters_ hf hname hb args w
  have hrun : (execOp a.eval oi).run P w = .ok (.enter f args) w := by
    unfold execOp
    simp [hop, resolve, Deferred.ofValue, invoke, hx, hargs, he]
  unfold Oper.wp
  rw [hrun, Oper.upon_enter]
  refine h.mono fun e w'' hh => ?_
  obtain ⟨v, rfl, hk⟩ := hh
  subst hd
  exact hK _ _ hk
end

end Go.Proofs.YthjlbpgiaehjnaaDoor.QFnExactNumberOf
