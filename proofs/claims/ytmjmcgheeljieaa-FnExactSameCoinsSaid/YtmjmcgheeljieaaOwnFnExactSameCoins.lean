import Derived.Test.YtmjmcgheeljieaaRows
import Derived.Test.YtmjmcgheeljieaaQFnExactSameCoinsx5
import Derived.Test.YtmjmcgheeljieaaRFnExactSameCoins
import Derived.Test.YtmjmcgheeljieaaPureFnExactSameCoins
import Derived.WalkKit
import Derived.ProofKit
import Derived.OpenShut
import Derived.ShutString
import Derived.ChangeOld
import Derived.Below
import Derived.SizedLaws
import Derived.Test.YtmjmcgheeljieaaVFnExactSameCoins
namespace Go.Proofs.Ytmjmcgheeljieaa.fnExactSameCoins
open Go.ChangeShapes Go.WideShapes Go.ChangeAt Go.RowKit Go.Proofs.YtmjmcgheeljieaaW.PrintWords Go.Proofs.Ytmjmcgheeljieaa.QFnExactSameCoins
open Go.ChangeMaps (open_string shut_string)
set_option linter.unusedVariables false
theorem own : ownKnob Try.prog.godebug = none := by kernel_rfl
theorem laidOut : laidOutB Try.prog = true := by kernel_rfl
set_option maxRecDepth 100000 in
theorem lifted (os : Os) (started : os.Started) (H : Type) (enc : TypeId × Value → H) :
 ReturnsInHanded {} Try.checked os 11 .any (Rows.fnExactSameCoinsSpec.pre6 enc Try.prog Try.f11 Rows.fnExactSameCoinsRow.domain false) (Rows.fnExactSameCoinsSpec.post enc Try.prog Try.f11 false true false false) := by
 refine returnsInHanded_of_change_sized (C := Try.checked) own started (by kernel_rfl) Try.func11
  (ChangeSpec.witness6 (enc := enc) (C := Try.checked) false ⟨#[], #[.slice none 0 0, .slice none 0 0], []⟩ 8 (by kernel_rfl) (by kernel_rfl) (by kernel_rfl) (by kernel_rfl)) ?_
 intro W base args ds gs before hval0 hW hcnd hsz0 _
 have hval : ∀ (j : Nat) t v, Try.f11.params[j]? = some t → args[j]? = some v → Value.okWide Try.prog W .any base t v := hval0
 have hW' := hW
 obtain ⟨p, q, hA0, hV, rfl, hfz, hnd⟩ := hW
 have hA : DataW.TrodAll enc Try.prog W 0 (fun _ => true) true Try.f11.params.toList args.toList ds p := hA0
 rw [Try.params11] at hA hval
 obtain ⟨v0, vs0, d0, ds0, p0, q0, hargs, rfl, rfl, h0, r0⟩ := trodAll_cons hA
 obtain ⟨v1, vs1, d1, ds1, p1, q1, rfl, rfl, rfl, h1, r1⟩ := trodAll_cons r0
 obtain ⟨rfl, rfl, rfl⟩ := trodAll_nil r1
 obtain rfl : args = #[v0, v1] := by cases args; simp_all
 obtain ⟨rfl, rfl⟩ := trodVars_none hV
 obtain ⟨a0, len0, cap0, rfl⟩ := okWide_slice Try.underlying54 (hval 0 54 v0 rfl rfl)
 have k0 := h0
 have lt0 : ∀ x ∈ p0, x.block < W.heap.size := by obtain ⟨m, hm⟩ := k0; exact DataW.trod_lt m _ _ _ hm
 obtain ⟨l0, ⟨A0, c0, e0, hc0, hr0⟩, o0⟩ := (show ∃ l, (Kd.slice 86 k86).K W l [.slice a0 len0 cap0] ∧ (okList ok86) l from by obtain ⟨m, hm⟩ := h0; exact ((opens_slice (e := 86) Try.underlying54 (by kernel_rfl) (opens_k86 W))) H enc m _ _ hm)
 simp only [List.cons.injEq, Value.slice.injEq, and_true] at e0
 obtain ⟨rfl, rfl, rfl⟩ := e0
 obtain ⟨a1, len1, cap1, rfl⟩ := okWide_slice Try.underlying54 (hval 1 54 v1 rfl rfl)
 have k1 := h1
 have lt1 : ∀ x ∈ p1, x.block < W.heap.size := by obtain ⟨m, hm⟩ := k1; exact DataW.trod_lt m _ _ _ hm
 obtain ⟨l1, ⟨A1, c1, e1, hc1, hr1⟩, o1⟩ := (show ∃ l, (Kd.slice 86 k86).K W l [.slice a1 len1 cap1] ∧ (okList ok86) l from by obtain ⟨m, hm⟩ := h1; exact ((opens_slice (e := 86) Try.underlying54 (by kernel_rfl) (opens_k86 W))) H enc m _ _ hm)
 simp only [List.cons.injEq, Value.slice.injEq, and_true] at e1
 obtain ⟨rfl, rfl, rfl⟩ := e1
 clear hA0 hval0 hsz0
 obtain ⟨k, h⟩ := Pure.FnExactSameCoins l0 l1 o0 o1
 refine (laws_FnExactSameCoins.calls k _ _ l0 _ _ l1 true W hr0 hc0 hr1 hc1 h).mono fun e W' ⟨he, bel⟩ => ?_
 subst he
 exact ⟨_, rfl, _, _, _, [], _, [], hW', trodAll_mk1 (shut_bool Try.underlying4 _), (trodAll_cons_mk (Below.trod laidOut (by kernel_rfl) (of_decide_eq_true (by kernel_rfl)) k0 bel lt0) (trodAll_cons_mk (Below.trod laidOut (by kernel_rfl) (of_decide_eq_true (by kernel_rfl)) k1 bel lt1) trodAll_mk0)), rfl, bel.frame _, fun h => by cases h⟩
theorem over : Rows.fnExactSameCoinsRow.holds Try.pinned (OpenSpec.ofChange Rows.fnExactSameCoinsSpec) :=
 OpenClaim.holds_of_wide 11 Try.f11 rfl rfl rfl rfl rfl rfl rfl ⟨rfl, rfl, rfl, rfl, rfl⟩ rfl rfl rfl rfl rfl (by kernel_rfl) Try.func11 (by kernel_rfl)
  (of_decide_eq_true (by kernel_rfl)) (by unfold Func.isWrapper; first | (rw [if_pos (by decide +kernel)]; kernel_rfl) | (rw [if_neg (by decide +kernel)]; exact ⟨rfl, rfl⟩))
  (fun os started H enc _ => lifted os started H enc)
theorem proved : Rows.FnExactSameCoinsSaid := over
end Go.Proofs.Ytmjmcgheeljieaa.fnExactSameCoins
namespace Go.Proofs.Ytmjmcgheeljieaa
theorem fnExactSameCoins_holds : Rows.FnExactSameCoinsSaid := fnExactSameCoins.proved
end Go.Proofs.Ytmjmcgheeljieaa
