import Derived.Test.YthjlbpgiaehjnaaRows
import Derived.Test.YthjlbpgiaehjnaaQFnExactBlockFaultx20
import Derived.Test.YthjlbpgiaehjnaaRFnExactBlockFault
import Derived.Test.YthjlbpgiaehjnaaPureFnExactBlockFault
import Derived.WalkKit
import Derived.ProofKit
import Derived.OpenShut
import Derived.ShutString
import Derived.ChangeOld
import Derived.Below
import Derived.SizedLaws
import Derived.Test.YthjlbpgiaehjnaaVFnExactBlockFault
namespace Go.Proofs.Ythjlbpgiaehjnaa.fnExactBlockFault
open Go.ChangeShapes Go.WideShapes Go.ChangeAt Go.RowKit Go.Proofs.YthjlbpgiaehjnaaW.PrintWords Go.Proofs.Ythjlbpgiaehjnaa.QFnExactBlockFault
open Go.ChangeMaps (open_string shut_string)
set_option linter.unusedVariables false
theorem own : ownKnob Try.prog.godebug = none := by kernel_rfl
theorem laidOut : laidOutB Try.prog = true := by kernel_rfl
set_option maxRecDepth 100000 in
theorem lifted (os : Os) (started : os.Started) (H : Type) (enc : TypeId × Value → H) :
 ReturnsInHanded {} Try.checked os 8 .any (Rows.fnExactBlockFaultSpec.pre6 enc Try.prog Try.f8 Rows.fnExactBlockFaultRow.domain false) (Rows.fnExactBlockFaultSpec.post enc Try.prog Try.f8 false true false false) := by
 refine returnsInHanded_of_change_sized (C := Try.checked) own started (by kernel_rfl) Try.func8
  (ChangeSpec.witness6 (enc := enc) (C := Try.checked) false ⟨#[], #[.agg #[.int .i64 0, .int .i64 0, .int .i64 0, .int .i64 0, .slice none 0 0]], []⟩ 8 (by kernel_rfl) (by kernel_rfl) (by kernel_rfl) (by kernel_rfl)) ?_
 intro W base args ds gs before hval0 hW hcnd hsz0 _
 have hval : ∀ (j : Nat) t v, Try.f8.params[j]? = some t → args[j]? = some v → Value.okWide Try.prog W .any base t v := hval0
 have hW' := hW
 obtain ⟨p, q, hA0, hV, rfl, hfz, hnd⟩ := hW
 have hA : DataW.TrodAll enc Try.prog W 0 (fun _ => true) true Try.f8.params.toList args.toList ds p := hA0
 rw [Try.params8] at hA hval
 obtain ⟨v0, vs0, d0, ds0, p0, q0, hargs, rfl, rfl, h0, r0⟩ := trodAll_cons hA
 obtain ⟨rfl, rfl, rfl⟩ := trodAll_nil r0
 obtain rfl : args = #[v0] := by cases args; simp_all
 obtain ⟨rfl, rfl⟩ := trodVars_none hV
 obtain ⟨cs0, rfl, hsz0⟩ := okWide_struct Try.underlying67 (hval 0 67 v0 rfl rfl)
 have k0 := h0
 have lt0 : ∀ x ∈ p0, x.block < W.heap.size := by obtain ⟨m, hm⟩ := k0; exact DataW.trod_lt m _ _ _ hm
 obtain ⟨x0, hk0, o0⟩ := (show ∃ x, k67.K W x cs0.toList ∧ ok67 x from by obtain ⟨m, hm⟩ := h0; exact opens_k67 W H enc m _ _ hm)
 obtain ⟨_, _, e0_0, rfl, ⟨_, _, rfl, rfl, ⟨_, _, rfl, rfl, ⟨_, _, rfl, rfl, ⟨A0_4, c0_4, rfl, hc0_4, hr0_4⟩⟩⟩⟩⟩ := hk0
 obtain rfl : cs0 = #[(.int .i64 x0.f0), (.int .i64 x0.f1), (.int .i64 x0.f2), (.int .i64 x0.f3), (.slice A0_4 x0.f4.length c0_4)] := by cases cs0; simp_all
 clear hA0 hval0 hsz0
 obtain ⟨k, h⟩ := Pure.FnExactBlockFault x0 o0
 refine (laws_FnExactBlockFault.calls k x0.f0 x0.f1 x0.f2 x0.f3 _ _ x0.f4 true W hr0_4 hc0_4 h).mono fun e W' ⟨he, bel⟩ => ?_
 subst he
 exact ⟨_, rfl, _, _, _, [], _, [], hW', trodAll_mk1 (shut_bool Try.underlying4 _), (trodAll_cons_mk (Below.trod laidOut (by kernel_rfl) (of_decide_eq_true (by kernel_rfl)) k0 bel lt0) trodAll_mk0), rfl, bel.frame _, fun h => by cases h⟩
theorem over : Rows.fnExactBlockFaultRow.holds Try.pinned (OpenSpec.ofChange Rows.fnExactBlockFaultSpec) :=
 OpenClaim.holds_of_wide 8 Try.f8 rfl rfl rfl rfl rfl rfl rfl ⟨rfl, rfl, rfl, rfl, rfl⟩ rfl rfl rfl rfl rfl (by kernel_rfl) Try.func8 (by kernel_rfl)
  (of_decide_eq_true (by kernel_rfl)) (by unfold Func.isWrapper; first | (rw [if_pos (by decide +kernel)]; kernel_rfl) | (rw [if_neg (by decide +kernel)]; exact ⟨rfl, rfl⟩))
  (fun os started H enc _ => lifted os started H enc)
theorem proved : Rows.FnExactBlockFaultSaid := over
end Go.Proofs.Ythjlbpgiaehjnaa.fnExactBlockFault
namespace Go.Proofs.Ythjlbpgiaehjnaa
theorem fnExactBlockFault_holds : Rows.FnExactBlockFaultSaid := fnExactBlockFault.proved
end Go.Proofs.Ythjlbpgiaehjnaa
