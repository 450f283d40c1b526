import Derived.Test.YthjlbpgiaehjnaaRows
import Derived.Test.YthjlbpgiaehjnaaQFnExactPackTxx14
import Derived.Test.YthjlbpgiaehjnaaRFnExactPackTx
import Derived.Test.YthjlbpgiaehjnaaPureFnExactPackTx
import Derived.WalkKit
import Derived.ProofKit
import Derived.OpenShut
import Derived.ShutString
import Derived.ChangeOld
import Derived.Below
import Derived.SizedLaws
import Derived.Test.YthjlbpgiaehjnaaVFnExactPackTx
namespace Go.Proofs.Ythjlbpgiaehjnaa.fnExactPackTx
open Go.ChangeShapes Go.WideShapes Go.ChangeAt Go.RowKit Go.Proofs.YthjlbpgiaehjnaaW.PrintWords Go.Proofs.Ythjlbpgiaehjnaa.QFnExactPackTx
open Go.ChangeMaps (open_string shut_string)
set_option linter.unusedVariables false
theorem own : ownKnob Try.prog.godebug = none := by kernel_rfl
theorem laidOut : laidOutB Try.prog = true := by kernel_rfl
set_option maxRecDepth 100000 in
theorem lifted (os : Os) (started : os.Started) (H : Type) (enc : TypeId × Value → H) :
 ReturnsInHanded {} Try.checked os 6 .any (Rows.fnExactPackTxSpec.pre6 enc Try.prog Try.f6 Rows.fnExactPackTxRow.domain false) (Rows.fnExactPackTxSpec.post enc Try.prog Try.f6 false true false false) := by
 refine returnsInHanded_of_change_sized (C := Try.checked) own started (by kernel_rfl) Try.func6
  (ChangeSpec.witness6 (enc := enc) (C := Try.checked) false ⟨#[], #[.agg #[.int .i64 0, .slice none 0 0, .slice none 0 0]], []⟩ 8 (by kernel_rfl) (by kernel_rfl) (by kernel_rfl) (by kernel_rfl)) ?_
 intro W base args ds gs before hval0 hW hcnd hsz0 _
 have hval : ∀ (j : Nat) t v, Try.f6.params[j]? = some t → args[j]? = some v → Value.okWide Try.prog W .any base t v := hval0
 have hW' := hW
 obtain ⟨p, q, hA0, hV, rfl, hfz, hnd⟩ := hW
 have hA : DataW.TrodAll enc Try.prog W 0 (fun _ => true) true Try.f6.params.toList args.toList ds p := hA0
 rw [Try.params6] at hA hval
 obtain ⟨v0, vs0, d0, ds0, p0, q0, hargs, rfl, rfl, h0, r0⟩ := trodAll_cons hA
 obtain ⟨rfl, rfl, rfl⟩ := trodAll_nil r0
 obtain rfl : args = #[v0] := by cases args; simp_all
 obtain ⟨rfl, rfl⟩ := trodVars_none hV
 obtain ⟨cs0, rfl, hsz0⟩ := okWide_struct Try.underlying43 (hval 0 43 v0 rfl rfl)
 have k0 := h0
 have lt0 : ∀ x ∈ p0, x.block < W.heap.size := by obtain ⟨m, hm⟩ := k0; exact DataW.trod_lt m _ _ _ hm
 obtain ⟨x0, hk0, o0⟩ := (show ∃ x, k43.K W x cs0.toList ∧ ok43 x from by obtain ⟨m, hm⟩ := h0; exact opens_k43 W H enc m _ _ hm)
 obtain ⟨_, _, e0_0, rfl, ⟨_, _, rfl, ⟨A0_1, c0_1, rfl, hc0_1, hr0_1⟩, ⟨A0_2, c0_2, rfl, hc0_2, hr0_2⟩⟩⟩ := hk0
 obtain rfl : cs0 = #[(.int .i64 x0.f0), (.slice A0_1 x0.f1.length c0_1), (.slice A0_2 x0.f2.length c0_2)] := by cases cs0; simp_all
 clear hA0 hval0 hsz0
 obtain ⟨k, h⟩ := Pure.FnExactPackTx x0 o0
 refine (laws_FnExactPackTx.calls k x0.f0 _ _ x0.f1 _ _ x0.f2 true W hr0_1 hc0_1 hr0_2 hc0_2 h).mono fun e W' ⟨he, bel⟩ => ?_
 subst he
 exact ⟨_, rfl, _, _, _, [], _, [], hW', trodAll_mk1 (shut_bool Try.underlying4 _), (trodAll_cons_mk (Below.trod laidOut (by kernel_rfl) (of_decide_eq_true (by kernel_rfl)) k0 bel lt0) trodAll_mk0), rfl, bel.frame _, fun h => by cases h⟩
theorem over : Rows.fnExactPackTxRow.holds Try.pinned (OpenSpec.ofChange Rows.fnExactPackTxSpec) :=
 OpenClaim.holds_of_wide 6 Try.f6 rfl rfl rfl rfl rfl rfl rfl ⟨rfl, rfl, rfl, rfl, rfl⟩ rfl rfl rfl rfl rfl (by kernel_rfl) Try.func6 (by kernel_rfl)
  (of_decide_eq_true (by kernel_rfl)) (by unfold Func.isWrapper; first | (rw [if_pos (by decide +kernel)]; kernel_rfl) | (rw [if_neg (by decide +kernel)]; exact ⟨rfl, rfl⟩))
  (fun os started H enc _ => lifted os started H enc)
theorem proved : Rows.FnExactPackTxSaid := over
end Go.Proofs.Ythjlbpgiaehjnaa.fnExactPackTx
namespace Go.Proofs.Ythjlbpgiaehjnaa
theorem fnExactPackTx_holds : Rows.FnExactPackTxSaid := fnExactPackTx.proved
end Go.Proofs.Ythjlbpgiaehjnaa
