import Derived.Test.YthjlbpgiaehjnaaDoorRows
import Derived.Test.YthjlbpgiaehjnaaDoorQFnExactPrintValsx10
import Derived.Test.YthjlbpgiaehjnaaDoorRFnExactPrintVals
import Derived.Test.YthjlbpgiaehjnaaDoorPureFnExactPrintVals
import Derived.WalkKit
import Derived.ProofKit
import Derived.OpenShut
import Derived.ShutString
import Derived.ChangeOld
import Derived.Below
import Derived.SizedLaws
import Derived.Test.YthjlbpgiaehjnaaDoorWSized
import Derived.Handed
import Derived.LaidLaws
import Derived.Lib.LaidTab
import Derived.Stop.LaidErr
import Derived.Shelf.Vars
namespace Go.Proofs.YthjlbpgiaehjnaaDoor.fnExactPrintVals
open Go.ChangeShapes Go.WideShapes Go.ChangeAt Go.RowKit Go.Proofs.YthjlbpgiaehjnaaDoorW.PrintWords Go.Proofs.YthjlbpgiaehjnaaDoor.QFnExactPrintVals
open Go.ChangeMaps (open_string shut_string)
set_option linter.unusedVariables false
/-- The cells of a table. -/
def flat : DataW Unit → List Value
  | .agg l => l.flatMap fun
    | .lit (.int k z) => [.int k z]
    | .agg m => m.flatMap fun
      | .lit (.int k z) => [.int k z]
      | _ => []
    | _ => []
  | _ => []
def put (h : Array Obj) (g : Nat) (cs : Array Value) : Array Obj := h.modify g fun
  | .cells _ t frozen => .cells cs t frozen
  | o => o
/-- The settled world, with what the listed variables are laid as: the witness. -/
noncomputable def laidWorld (os : Os) : World :=
  let w0 := World.holding Tryd.prog os ⟨#[], #[], []⟩
  let h := w0.heap
  { w0 with heap := (put (put (put h 6 (flat Rows.laid_math_bits_deBruijn32tab).toArray) 7 (flat Rows.laid_math_bits_deBruijn64tab).toArray) 2 (flat Rows.laid_internal_strconv_uint64pow10).toArray) }
set_option maxRecDepth 1000000 in
theorem laid_met (os : Os) (args : Array Value) : laidMet Tryd.prog Rows.fnExactPrintValsRow.laid ((laidWorld os).forCall (fun _ _ => 0) ⟨#[], args, []⟩).memory :=
  laidMet_of_run' 8 (by kernel_rfl) (by kernel_rfl)
theorem own : ownKnob Tryd.prog.godebug = none := by kernel_rfl
theorem laidOut : laidOutB Tryd.prog = true := by kernel_rfl
theorem vars_of (W : World) (h : laidMet Tryd.prog Rows.fnExactPrintValsRow.laid W) : HFmt.Vars W :=
  ⟨Lib.tabIs_of_head (g := 2) (by kernel_rfl) (by kernel_rfl) Tryd.underlying175 (by kernel_rfl) (by kernel_rfl) (by kernel_rfl) h.tail.tail⟩
set_option maxRecDepth 100000 in
theorem lifted (os : Os) (started : os.Started) (H : Type) (enc : TypeId × Value → H) :
    ReturnsInHanded {} Tryd.checked os 6 .any (fun w args => (Rows.fnExactPrintValsSpec.pre enc Tryd.prog Tryd.f6 Rows.fnExactPrintValsRow.domain false w args ∧ laidMet Tryd.prog Rows.fnExactPrintValsRow.laid w) ∧ sizedMet enc Tryd.prog Tryd.f6 (OpenSpec.ofChange Rows.fnExactPrintValsSpec) false w args) (Rows.fnExactPrintValsSpec.post enc Tryd.prog Tryd.f6 false true false false) := by
  refine returnsInHanded_of_change_and (C := Tryd.checked) (X := fun w _ => laidMet Tryd.prog Rows.fnExactPrintValsRow.laid w) (fun _ _ _ hh h => h.of_heap hh) own started (by kernel_rfl) Tryd.func6
    (ChangeSpec.witness_at (enc := enc) (C := Tryd.checked) (os := os) (X := fun w _ => laidMet Tryd.prog Rows.fnExactPrintValsRow.laid w) false (laidWorld os) #[.slice none 0 0] 8 rfl (by kernel_rfl) (by kernel_rfl) (by kernel_rfl) (by kernel_rfl) (by kernel_rfl) (laid_met os _)) ?_
  intro W base args ds gs before hval0 hW hcnd hsz0 hL _
  have hL' : laidMet Tryd.prog Rows.fnExactPrintValsRow.laid W := hL
  have hval : ∀ (j : Nat) t v, Tryd.f6.params[j]? = some t → args[j]? = some v → Value.okWide Tryd.prog W .any base t v := hval0
  have hW' := hW
  obtain ⟨p, q, hA0, hV, rfl, hfz, hnd⟩ := hW
  have hA : DataW.TrodAll enc Tryd.prog W 0 (fun _ => true) true Tryd.f6.params.toList args.toList ds p := hA0
  rw [Tryd.params6] at hA hval
  obtain ⟨v0, vs0, d0, ds0, p0, q0, hargs, rfl, rfl, h0, r0⟩ := trodAll_cons hA
  obtain ⟨rfl, rfl, rfl⟩ := trodAll_nil r0
  obtain rfl : args = #[v0] := by cases args; simp_all
  obtain ⟨rfl, rfl⟩ := trodVars_none hV
  obtain ⟨a0, len0, cap0, rfl⟩ := okWide_slice Tryd.underlying41 (hval 0 41 v0 rfl rfl)
  have k0 := h0
  have lt0 : ∀ x ∈ p0, x.block < W.heap.size := by obtain ⟨m, hm⟩ := k0; exact DataW.trod_lt m _ _ _ hm
  obtain ⟨l0, ⟨A0, c0, e0, hc0, hr0⟩, o0⟩ := (show ∃ l, (Kd.slice 79 k79).K W l [.slice a0 len0 cap0] ∧ (okList ok79) l from by obtain ⟨m, hm⟩ := h0; exact ((opens_slice (e := 79) Tryd.underlying41 (by kernel_rfl) (opens_k79 W))) H enc m _ _ hm)
  simp only [List.cons.injEq, Value.slice.injEq, and_true] at e0
  obtain ⟨rfl, rfl, rfl⟩ := e0
  clear hA0 hval0 hsz0
  obtain ⟨k, h⟩ := Pure.FnExactPrintVals l0 o0
  refine (laws_FnExactPrintVals.calls k _ _ l0 true W hr0 hc0 h (vars_of W hL')).mono fun e W' ⟨he, bel⟩ => ?_
  subst he
  exact ⟨_, rfl, _, _, _, [], _, [], hW', trodAll_mk1 (shut_bool Tryd.underlying4 _), (trodAll_cons_mk (Below.trod laidOut (by kernel_rfl) (of_decide_eq_true (by kernel_rfl)) k0 bel lt0) trodAll_mk0), rfl, bel.frame _, fun h => by cases h⟩
theorem over : Rows.fnExactPrintValsRow.holds Tryd.pinned (OpenSpec.ofChange Rows.fnExactPrintValsSpec) :=
  OpenClaim.holds_of_wide 6 Tryd.f6 rfl rfl rfl rfl rfl rfl rfl ⟨rfl, rfl, rfl, rfl, rfl⟩ rfl rfl rfl rfl rfl (by kernel_rfl) Tryd.func6 (by kernel_rfl)
    (of_decide_eq_true (by kernel_rfl)) (by unfold Func.isWrapper; first | (rw [if_pos (by decide +kernel)]; kernel_rfl) | (rw [if_neg (by decide +kernel)]; exact ⟨rfl, rfl⟩))
    (fun os started H enc _ => lifted os started H enc)
theorem proved : Rows.FnExactPrintValsSaid := over
end Go.Proofs.YthjlbpgiaehjnaaDoor.fnExactPrintVals
namespace Go.Proofs.YthjlbpgiaehjnaaDoor
/-- The row, under a short name, for the claim. -/
theorem fnExactPrintVals_holds : Rows.FnExactPrintValsSaid := fnExactPrintVals.proved
end Go.Proofs.YthjlbpgiaehjnaaDoor
