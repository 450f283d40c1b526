import Derived.Test.YtjgnjhbleiempaaRows
import Derived.Test.YtjgnjhbleiempaaQFnExactSameTxsx6
import Derived.Test.YtjgnjhbleiempaaRFnExactSameTxs
import Derived.Test.YtjgnjhbleiempaaPureFnExactSameTxs
import Derived.WalkKit
import Derived.ProofKit
import Derived.OpenShut
import Derived.ShutString
import Derived.ChangeOld
import Derived.Below
import Derived.SizedLaws
import Derived.Test.YtjgnjhbleiempaaVFnExactSameTxs
namespace Go.Proofs.Ytjgnjhbleiempaa.fnExactSameTxs
open Go.ChangeShapes Go.WideShapes Go.ChangeAt Go.RowKit Go.Proofs.YtjgnjhbleiempaaW.PrintWords Go.Proofs.Ytjgnjhbleiempaa.QFnExactSameTxs
open Go.ChangeMaps (open_string shut_string)
set_option linter.unusedVariables false
theorem own : ownKnob Try.prog.godebug = none := by kernel_rfl
theorem laidOut : laidOutB Try.prog = true := by kernel_rfl
set_option maxRecDepth 100000 in
theorem lifted (os : Os) (started : os.Started) (H : Type) (enc : TypeId × Value → H) :
 ReturnsInHanded {} Try.checked os 5 .any (Rows.fnExactSameTxsSpec.pre6 enc Try.prog Try.f5 Rows.fnExactSameTxsRow.domain false) (Rows.fnExactSameTxsSpec.post enc Try.prog Try.f5 false true false false) := by
 refine returnsInHanded_of_change_sized (C := Try.checked) own started (by kernel_rfl) Try.func5
  (ChangeSpec.witness6 (enc := enc) (C := Try.checked) false ⟨#[], #[.agg #[.int .i64 0, .slice none 0 0, .slice none 0 0], .agg #[.int .i64 0, .slice none 0 0, .slice none 0 0]], []⟩ 8 (by kernel_rfl) (by kernel_rfl) (by kernel_rfl) (by kernel_rfl)) ?_
 intro W base args ds gs before hval0 hW hcnd hsz0 _
 have hval : ∀ (j : Nat) t v, Try.f5.params[j]? = some t → args[j]? = some v → Value.okWide Try.prog W .any base t v := hval0
 have hW' := hW
 obtain ⟨p, q, hA0, hV, rfl, hfz, hnd⟩ := hW
 have hA : DataW.TrodAll enc Try.prog W 0 (fun _ => true) true Try.f5.params.toList args.toList ds p := hA0
 rw [Try.params5] at hA hval
 obtain ⟨v0, vs0, d0, ds0, p0, q0, hargs, rfl, rfl, h0, r0⟩ := trodAll_cons hA
 obtain ⟨v1, vs1, d1, ds1, p1, q1, rfl, rfl, rfl, h1, r1⟩ := trodAll_cons r0
 obtain ⟨rfl, rfl, rfl⟩ := trodAll_nil r1
 obtain rfl : args = #[v0, v1] := by cases args; simp_all
 obtain ⟨rfl, rfl⟩ := trodVars_none hV
 obtain ⟨cs0, rfl, hsz0⟩ := okWide_struct Try.underlying38 (hval 0 38 v0 rfl rfl)
 have k0 := h0
 have lt0 : ∀ x ∈ p0, x.block < W.heap.size := by obtain ⟨m, hm⟩ := k0; exact DataW.trod_lt m _ _ _ hm
 obtain ⟨x0, hk0, o0⟩ := (show ∃ x, k38.K W x cs0.toList ∧ ok38 x from by obtain ⟨m, hm⟩ := h0; exact opens_k38 W H enc m _ _ hm)
 obtain ⟨_, _, e0_0, rfl, ⟨_, _, rfl, ⟨A0_1, c0_1, rfl, hc0_1, hr0_1⟩, ⟨A0_2, c0_2, rfl, hc0_2, hr0_2⟩⟩⟩ := hk0
 obtain rfl : cs0 = #[(.int .i64 x0.f0), (.slice A0_1 x0.f1.length c0_1), (.slice A0_2 x0.f2.length c0_2)] := by cases cs0; simp_all
 obtain ⟨cs1, rfl, hsz1⟩ := okWide_struct Try.underlying38 (hval 1 38 v1 rfl rfl)
 have k1 := h1
 have lt1 : ∀ x ∈ p1, x.block < W.heap.size := by obtain ⟨m, hm⟩ := k1; exact DataW.trod_lt m _ _ _ hm
 obtain ⟨x1, hk1, o1⟩ := (show ∃ x, k38.K W x cs1.toList ∧ ok38 x from by obtain ⟨m, hm⟩ := h1; exact opens_k38 W H enc m _ _ hm)
 obtain ⟨_, _, e1_0, rfl, ⟨_, _, rfl, ⟨A1_1, c1_1, rfl, hc1_1, hr1_1⟩, ⟨A1_2, c1_2, rfl, hc1_2, hr1_2⟩⟩⟩ := hk1
 obtain rfl : cs1 = #[(.int .i64 x1.f0), (.slice A1_1 x1.f1.length c1_1), (.slice A1_2 x1.f2.length c1_2)] := by cases cs1; simp_all
 clear hA0 hval0 hsz0
 obtain ⟨k, h⟩ := Pure.FnExactSameTxs x0 x1 o0 o1
 refine (laws_FnExactSameTxs.calls k x0.f0 _ _ x0.f1 _ _ x0.f2 x1.f0 _ _ x1.f1 _ _ x1.f2 true W hr0_1 hc0_1 hr0_2 hc0_2 hr1_1 hc1_1 hr1_2 hc1_2 h).mono fun e W' ⟨he, bel⟩ => ?_
 subst he
 exact ⟨_, rfl, _, _, _, [], _, [], hW', trodAll_mk1 (shut_bool Try.underlying4 _), (trodAll_cons_mk (Below.trod laidOut (by kernel_rfl) (of_decide_eq_true (by kernel_rfl)) k0 bel lt0) (trodAll_cons_mk (Below.trod laidOut (by kernel_rfl) (of_decide_eq_true (by kernel_rfl)) k1 bel lt1) trodAll_mk0)), rfl, bel.frame _, fun h => by cases h⟩
theorem over : Rows.fnExactSameTxsRow.holds Try.pinned (OpenSpec.ofChange Rows.fnExactSameTxsSpec) :=
 OpenClaim.holds_of_wide 5 Try.f5 rfl rfl rfl rfl rfl rfl rfl ⟨rfl, rfl, rfl, rfl, rfl⟩ rfl rfl rfl rfl rfl (by kernel_rfl) Try.func5 (by kernel_rfl)
  (of_decide_eq_true (by kernel_rfl)) (by unfold Func.isWrapper; first | (rw [if_pos (by decide +kernel)]; kernel_rfl) | (rw [if_neg (by decide +kernel)]; exact ⟨rfl, rfl⟩))
  (fun os started H enc _ => lifted os started H enc)
theorem proved : Rows.FnExactSameTxsSaid := over
end Go.Proofs.Ytjgnjhbleiempaa.fnExactSameTxs
namespace Go.Proofs.Ytjgnjhbleiempaa
theorem fnExactSameTxs_holds : Rows.FnExactSameTxsSaid := fnExactSameTxs.proved
end Go.Proofs.Ytjgnjhbleiempaa
