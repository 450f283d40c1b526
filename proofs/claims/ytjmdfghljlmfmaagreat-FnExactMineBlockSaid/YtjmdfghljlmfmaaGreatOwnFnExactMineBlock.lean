import Derived.Test.YtjmdfghljlmfmaaGreatRows
import Derived.Test.YtjmdfghljlmfmaaGreatQFnExactMineBlockx27
import Derived.Test.YtjmdfghljlmfmaaGreatRFnExactMineBlock
import Derived.Test.YtjmdfghljlmfmaaGreatPureFnExactMineBlock
import Derived.WalkKit
import Derived.ProofKit
import Derived.OpenShut
import Derived.ShutString
import Derived.ChangeOld
import Derived.Below
import Derived.SizedLaws
import Derived.Test.YtjmdfghljlmfmaaGreatVFnExactMineBlock
namespace Go.Proofs.YtjmdfghljlmfmaaGreat.fnExactMineBlock
open Go.ChangeShapes Go.WideShapes Go.ChangeAt Go.RowKit Go.Proofs.YtjmdfghljlmfmaaGreatW.PrintWords Go.Proofs.YtjmdfghljlmfmaaGreat.QFnExactMineBlock
open Go.ChangeMaps (open_string shut_string)
set_option linter.unusedVariables false
theorem own:ownKnob Tryz.prog.godebug=none:=by kernel_rfl
theorem laidOut:laidOutB Tryz.prog=true:=by kernel_rfl
set_option maxRecDepth 100000 in
theorem lifted (os:Os) (started:os.Started) (H:Type) (enc:TypeId×Value→H):
 ReturnsInHanded {} Tryz.checked os 3 .any (Rows.fnExactMineBlockSpec.pre6 enc Tryz.prog Tryz.f3 Rows.fnExactMineBlockRow.domain false) (Rows.fnExactMineBlockSpec.post enc Tryz.prog Tryz.f3 false true false false):=by
 refine returnsInHanded_of_change_sized (C:=Tryz.checked) own started (by kernel_rfl) Tryz.func3
  (ChangeSpec.witness6 (enc:=enc) (C:=Tryz.checked) false ⟨#[],#[.agg #[.int .i64 0,.int .i64 0,.int .i64 0,.int .i64 0,.slice none 0 0],.int .i64 0],[]⟩ 8 (by kernel_rfl) (by kernel_rfl) (by kernel_rfl) (by kernel_rfl)) ?_
 intro W base args ds gs before hval0 hW hcnd hsz0 _;have hval:∀(j:Nat) t v,Tryz.f3.params[j]? =some t→args[j]? =some v→Value.okWide Tryz.prog W .any base t v:=hval0;have hW':=hW;obtain⟨p,q,aF,hV,rfl,hfz,hnd⟩:=hW;have hA:DataW.TrodAll enc Tryz.prog W 0 (fun _=>true) true Tryz.f3.params.toList args.toList ds p:=aF;rw[Tryz.params3]at hA hval;obtain⟨v0,wm,d0,ds0,p0,q0,hargs,rfl,rfl,h0,r0⟩:=trodAll_cons hA;obtain⟨v1,vs1,d1,ds1,p1,q1,rfl,rfl,rfl,h1,r1⟩:=trodAll_cons r0;obtain⟨rfl,rfl,rfl⟩:=trodAll_nil r1;obtain rfl:args=#[v0,v1]:=by cases args;simp_all
 obtain⟨rfl,rfl⟩:=trodVars_none hV;obtain⟨cs0,rfl,hsz0⟩:=okWide_struct Tryz.underlying24 (hval 0 24 v0 rfl rfl);have k0:=h0;have aS:∀x∈p0,x.block<W.heap.size:=by obtain⟨m,hm⟩:=k0;exact DataW.trod_lt m _ _ _ hm
 obtain⟨x0,hk0,o0⟩:=(show∃x,k24.K W x cs0.toList∧wH x from by obtain⟨m,hm⟩:=h0;exact ES W H enc m _ _ hm);obtain⟨_,_,mg,rfl,⟨_,_,rfl,rfl,⟨_,_,rfl,rfl,⟨_,_,rfl,rfl,⟨aL,aO,rfl,aP,aR⟩⟩⟩⟩⟩:=hk0;obtain rfl:cs0=#[(.int .i64 x0.f0),(.int .i64 x0.f1),(.int .i64 x0.f2),(.int .i64 x0.f3),(.slice aL x0.f4.length aO)]:=by cases cs0;simp_all
 obtain⟨a1,rfl,rfl,rfl,w1⟩:=open_int Tryz.underlying2 (hval 1 2 v1 rfl rfl) h1;clear aF hval0 hsz0;obtain⟨k,h⟩:=Pure.FnExactMineBlock x0 a1 o0 w1;refine(qI.calls k x0.f0 x0.f1 x0.f2 x0.f3 _ _ x0.f4 a1 true W aR aP h).mono fun e W' ⟨he,aB⟩=>?_;subst he;exact⟨_,rfl,_,_,_,[],_,[],hW',trodAll_mk1 (shut_bool Tryz.underlying4 _),(trodAll_cons_mk (Below.trod laidOut (by kernel_rfl) (of_decide_eq_true (by kernel_rfl)) k0 aB aS) (trodAll_cons_mk (shut_int Tryz.underlying2 w1) trodAll_mk0)),rfl,aB.frame _,fun h=>by cases h⟩
theorem over:Rows.fnExactMineBlockRow.holds Tryz.pinned (OpenSpec.ofChange Rows.fnExactMineBlockSpec):=
 OpenClaim.holds_of_wide 3 Tryz.f3 rfl rfl rfl rfl rfl rfl rfl ⟨rfl,rfl,rfl,rfl,rfl⟩ rfl rfl rfl rfl rfl (by kernel_rfl) Tryz.func3 (by kernel_rfl)
  (of_decide_eq_true (by kernel_rfl)) (by unfold Func.isWrapper;first|(rw[if_pos (by decide+kernel)];kernel_rfl)|(rw[if_neg (by decide+kernel)];exact⟨rfl,rfl⟩))
  (fun os started H enc _=>lifted os started H enc)
theorem proved:Rows.FnExactMineBlockSaid:=over
end Go.Proofs.YtjmdfghljlmfmaaGreat.fnExactMineBlock
namespace Go.Proofs.YtjmdfghljlmfmaaGreat
theorem fnExactMineBlock_holds:Rows.FnExactMineBlockSaid:=fnExactMineBlock.proved
end Go.Proofs.YtjmdfghljlmfmaaGreat
