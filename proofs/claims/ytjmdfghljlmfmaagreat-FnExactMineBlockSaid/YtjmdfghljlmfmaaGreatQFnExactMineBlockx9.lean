-- written by this session's program (wip/tools/myprint.py)
import Derived.Test.YtjmdfghljlmfmaaGreatQFnExactMineBlockx0
import Derived.Test.YtjmdfghljlmfmaaGreatQFnExactMineBlockx8
-- squeezed
namespace Go.Proofs.YtjmdfghljlmfmaaGreat.QFnExactMineBlock
open Go.RowKit Go.Proofs.YtjmdfghljlmfmaaGreatW.PrintWords Go.Proofs.YtjmdfghljlmfmaaGreatW.PrintLast Go.Proofs.YtjmdfghljlmfmaaGreatW.PrintMore
attribute [local go_sem] iC iG iF iJ iE iI iD iH
set_option linter.unusedVariables false
set_option linter.unusedSimpArgs false
set_option maxHeartbeats 8000000
set_option maxRecDepth 100000
def kU.f (k:Nat) (mg:Int) (wm:Int) (Ab:Int) (Ag:Int) (av:List (aJ)):Option (Int):=bL.f k [(⟨mg,wm,Ab,Ag,av⟩:bN)]
theorem kU.mono:∀(mg:Int) (wm:Int) (Ab:Int) (Ag:Int) (av:List (aJ)) (k:Nat),aj (kU.f k mg wm Ab Ag av) (kU.f (k+1) mg wm Ab Ag av):=fun mg wm Ab Ag av k=>bL.mono [(⟨mg,wm,Ab,Ag,av⟩:bN)] k
set_option maxHeartbeats 8000000 in
theorem kU.calls (k:Nat) (mg:Int) (wm:Int) (Ab:Int) (Ag:Int) (Jl:Option Addr) (Jp:Nat) (av:List (aJ)) (r:Int) (w:World) (Jz:Kd.C dF w Jl av.length av) (Jv:av.length≤Jp) (h:kU.f k mg wm Ab Ag av=some r) {aP:Addr} (iQ:w.cell? aP=some (.int .i64 mg)) (iR:w.cell? ⟨aP.block,aP.off+1,none⟩=some (.int .i64 wm)) (iT:w.cell? ⟨aP.block,aP.off+2,none⟩=some (.int .i64 Ab)) (jS:w.cell? ⟨aP.block,aP.off+3,none⟩=some (.int .i64 Ag)) (jT:w.cell? ⟨aP.block,aP.off+4,none⟩=some (.slice Jl av.length Jp)):
 Calls Tryz.prog 28 #[.pointer (some aP)] w fun e w'=>e= .returned (.int .i64 r)∧Below w.heap.size w w':=by
 have o0:Kd.C k28 w (some aP) 1 [(⟨mg,wm,Ab,Ag,av⟩:bN)]:=by
  refine⟨rfl,by decide,fun _=>⟨aP,rfl,fun j p hj=>?_⟩⟩;cases j with
  |succ j=>simp at hj
  |zero=>
   (obtain rfl:(⟨mg,wm,Ab,Ag,av⟩:bN)=p:=by simpa using hj);refine⟨_,rfl,tC w _ Jv Jz,fun i u hu=>?_⟩
   match i,hu with
   |0,hu=>obtain rfl:=sj hu;exact iQ
   |1,hu=>obtain rfl:=sj hu;exact iR
   |2,hu=>obtain rfl:=sj hu;exact iT
   |3,hu=>obtain rfl:=sj hu;exact jS
   |4,hu=>obtain rfl:=sj hu;exact jT
 exact bL.calls k (some aP) 1 [(⟨mg,wm,Ab,Ag,av⟩:bN)] r w o0 (Nat.le_refl 1) h
def qg.f (l0:List Int):Option (List Int):=(some (([]:List Int):List Int)).bind fun Ah=>(if Ah.length+l0.length<17592186044416 then(some (Ah++l0))else(none))
theorem qg.calls (A0:Option Addr) (c0:Nat) (l0:List Int) (r:List Int) (w:World) (hr0:Kd.C (Kd.int .i64) w A0 l0.length l0) (hc0:l0.length≤c0) (h:qg.f l0=some r):
 Calls Tryz.prog 100 #[.slice A0 l0.length c0] w fun e w'=>∃Jq:Value,e= .returned (Jq)∧Kd.R (Kd.int .i64) 2 w' w.heap.size (fun _=>True) Jq r∧Below w.heap.size w w':=by
 have Js:=am hr0;have JC:=am hc0;clear hr0 hc0;have HB:=am (Below.refl w.heap.size w);have H:((some (([]:List Int):List Int)).bind fun Ah=>(if Ah.length+l0.length<17592186044416 then(some (Ah++l0))else(none)))=some r:=h;clear h;obtain⟨Ah,Jj⟩:∃y_:List Int,y_=(([]:List Int)):=⟨_,rfl⟩;replace H:(if Ah.length+l0.length<17592186044416 then(some (Ah++l0))else(none))=some r:=by first|(rw[Jj];with_reducible exact H)|(have Ay:=(Option.bind_some _ _).symm.trans H;rw[Jj];with_reducible exact Ay)|(have Ay:=(Option.bind_some _ _).symm.trans H;with_reducible exact Ay)|with_reducible exact H|(rw[Jj];exact H)|exact H
 have Jo:=am Jj;clear Jj;by_cases c2:Ah.length+l0.length<17592186044416
 ·rw[if_pos c2]at H;have Jt:=am c2;clear c2;obtain⟨JB,Jk⟩:∃y_:List Int,y_=(Ah++l0):=⟨_,rfl⟩;(replace H:(some JB)=some r:=by first|(rw[Jk];with_reducible exact H)|(have Ay:=(Option.bind_some _ _).symm.trans H;rw[Jk];with_reducible exact Ay)|(have Ay:=(Option.bind_some _ _).symm.trans H;with_reducible exact Ay)|with_reducible exact H|(rw[Jk];exact H)|exact H);have Ju:=am Jk;clear Jk;obtain rfl:=sj H;go_enter Tryz.func100,Tryz.ntmps100;(go_wp2_with (first|((with_reducible refine bg (N:=3) rfl ?_);refine Kd.jP (Kd.int .i64) _ 2 ?hg (N:=3) ?hd (xs:=([]:List Int)) (inner:=[]) (ok:=fun _=>True) (bH:=fun _=>True) ?hr ?hp (fun _ hk=>hk) trivial (Below.refl _ _) (Nat.le_refl _) (by simp) ?_;(case hd=>rfl);(case hg=>rfl);(case hr=>first|(go_simp;done)|(go_simp;rfl));(case hp=>exact(bn.none _ _));intro JA w3 Az hb Jw Jy;clear Jw Jy;(first|rw[←Jo.out]at Az|(simp only[Int.reduceToNat]at Az;rw[←Jo.out]at Az));have n_:=t2 (rL Az (aH pB)) (aK pB hb);clear HB;obtain⟨Jm,HB⟩:=n_;clear hb Az)|((with_reducible refine gB (b:=.append) (xs:=#[.tmp 3,.tmp 4]) rfl ?_);at_builtin;refine Kd.mE (Kd.int .i64) (w0:=w) w.heap.size rfl (.tmp 3) (.tmp 4) 73 2 (.int .i64 0) 8 rfl Tryz.underlying73 qH rfl (by decide) (by omega) JA Ah l0 _ _ _ (fun _=>True) (fun _=>False) rfl rfl ?aO ?aR (fun _ _ h=>h) (fun _ h=>h.elim) ?aF ?aB ?aS ?aL ?_;(case aR=>exact pC (Kd.aY Js.out HB.out));(case aB=>exact pB);(case aF=>exact(fun _ _=>trivial));(case aO=>exact(pR Jm));(case aS=>exact(aH pB));(case aL=>have:=Jt.out;omega);intro JD w5 ho hb hg hat;rw[←Ju.out]at ho;have n_:=t2 (hb) (ho);clear HB Jm;obtain⟨HB,Jr⟩:=n_;clear ho hb hg hat)));go_ret;exact⟨_,pE,(pR Jr),pB⟩
 ·rw[if_neg c2]at H;exact absurd H (by simp)
end Go.Proofs.YtjmdfghljlmfmaaGreat.QFnExactMineBlock
