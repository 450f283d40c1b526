-- written by this session's program (wip/tools/myprint.py)
import Derived.Test.YtjmdfghljlmfmaaGreatQFnExactMineBlockx0
import Derived.Test.YtjmdfghljlmfmaaGreatQFnExactMineBlockx4
import Derived.Test.YtjmdfghljlmfmaaGreatQFnExactMineBlockx6
-- squeezed
namespace Go.Proofs.YtjmdfghljlmfmaaGreat.QFnExactMineBlock
open Go.RowKit Go.Proofs.YtjmdfghljlmfmaaGreatW.PrintWords Go.Proofs.YtjmdfghljlmfmaaGreatW.PrintLast Go.Proofs.YtjmdfghljlmfmaaGreatW.PrintMore
attribute [local go_sem] iC iG iF iJ iE iI iD iH
set_option linter.unusedVariables false
set_option linter.unusedSimpArgs false
set_option maxHeartbeats 8000000
set_option maxRecDepth 100000
def nJ.f (k:Nat) (aR:Int) (ak:List (aM)) (wm:List (aT)) (a1:Bool):Option (List Int):=bF.f k [(⟨aR,ak,wm⟩:aJ)] a1
theorem nJ.mono:∀(aR:Int) (ak:List (aM)) (wm:List (aT)) (a1:Bool) (k:Nat),aj (nJ.f k aR ak wm a1) (nJ.f (k+1) aR ak wm a1):=fun aR ak wm a1 k=>bF.mono [(⟨aR,ak,wm⟩:aJ)] a1 k
set_option maxHeartbeats 8000000 in
theorem nJ.calls (k:Nat) (aR:Int) (Jw:Option Addr) (JA:Nat) (ak:List (aM)) (Jy:Option Addr) (JB:Nat) (wm:List (aT)) (a1:Bool) (r:List Int) (w:World) (JN:Kd.C bM w Jw ak.length ak) (JL:ak.length≤JA) (JO:Kd.C bY w Jy wm.length wm) (JM:wm.length≤JB) (h:nJ.f k aR ak wm a1=some r) {mg:Addr} (iQ:w.cell? mg=some (.int .i64 aR)) (iR:w.cell? ⟨mg.block,mg.off+1,none⟩=some (.slice Jw ak.length JA)) (iT:w.cell? ⟨mg.block,mg.off+2,none⟩=some (.slice Jy wm.length JB)):
 Calls Tryz.prog 98 #[.pointer (some mg),.bool a1] w fun e w'=>∃Jq:Value,e= .returned (Jq)∧Kd.R (Kd.int .u8) 5 w' w.heap.size (fun _=>True) Jq r∧Below w.heap.size w w':=by
 have o0:Kd.C dF w (some mg) 1 [(⟨aR,ak,wm⟩:aJ)]:=by
  refine⟨rfl,by decide,fun _=>⟨mg,rfl,fun j p hj=>?_⟩⟩;cases j with
  |succ j=>simp at hj
  |zero=>
   (obtain rfl:(⟨aR,ak,wm⟩:aJ)=p:=by simpa using hj);refine⟨_,rfl,uJ w _ JL JN JM JO,fun i u hu=>?_⟩
   match i,hu with
   |0,hu=>obtain rfl:=sj hu;exact iQ
   |1,hu=>obtain rfl:=sj hu;exact iR
   |2,hu=>obtain rfl:=sj hu;exact iT
 exact bF.calls k (some mg) 1 [(⟨aR,ak,wm⟩:aJ)] a1 r w o0 (Nat.le_refl 1) h
def om.f (k:Nat) (l0:List (aJ)):Option (Int):=if 0<(l0.length:Int)then((nJ.f k ((aI l0 0).f0) ((aI l0 0).f1) ((aI l0 0).f2) false).bind fun Jo=>((gy.f k Jo).bind fun Jp=>(some Jp)))else(none)
theorem om.mono:∀a0 k,aj (om.f k a0) (om.f (k+1) a0):=by
 intro a0 k;unfold om.f;repeat' with_reducible first|exact gy.mono _ _|exact nJ.mono _ _ _ _ _|exact aj.refl _|exact aj.none _|refine aj.ite ?_ ?_|refine aj.bind ?_ (fun _=>?_)
theorem om.calls (k:Nat) (A0:Option Addr) (c0:Nat) (l0:List (aJ)) (r:Int) (w:World) (hr0:Kd.C dF w A0 l0.length l0) (hc0:l0.length≤c0) (h:om.f k l0=some r):
 Calls Tryz.prog 47 #[.pointer A0] w fun e w'=>e= .returned (.int .i64 r)∧Below w.heap.size w w':=by
 have Lv:=Tryz.underlying53;have Jz:=am hr0;have KN:=am hc0;clear hr0 hc0;have HB:=am (Below.refl w.heap.size w);have H:(if 0<(l0.length:Int)then((nJ.f k ((aI l0 0).f0) ((aI l0 0).f1) ((aI l0 0).f2) false).bind fun Jo=>((gy.f k Jo).bind fun Jp=>(some Jp)))else(none))=some r:=h;clear h;by_cases c2:0<(l0.length:Int)
 ·rw[if_pos c2]at H;have LZ:decide (0<(l0.length:Int))=true:=dt c2;have Ma:decide (0<l0.length)=true:=dt (by omega);clear c2;replace H:=bO H;obtain⟨Jo,Kk,H⟩:=H;replace H:((gy.f k Jo).bind fun Jp=>(some Jp))=some r:=H;have A3:=am Kk;clear Kk;replace H:=bO H;obtain⟨Jp,Kl,H⟩:=H;replace H:(some Jp)=some r:=H;have A4:=am Kl;clear Kl;obtain rfl:=sj H;have JX:0≤(0:Int):=(by omega);have Ka:0<(l0.length:Int):=pD;obtain⟨LP,LD,LU,LG,LV,Lh,Lx,LA,LB,Kz,Kt,KA,Ku⟩:=dM Jz.out 0 JX Ka;cases Lh;have Mf:(0<l0.length)=True:=eq_true (by omega);(try rw[z0,zm,az]at Lx);(try rw[z0,zm,az]at LA);(try rw[z0,zm,az]at LB);have KV:=am Kt;have KO:=am Kz;clear Kt Kz;have KW:=am Ku;have KP:=am KA;clear Ku KA;replace JX:=eq_true JX;replace Ka:=eq_true Ka;go_enter Tryz.func47,Tryz.ntmps47;(go_wp2_with (first|((with_reducible refine gC (f:=98) rfl ?_);refine aV (some 4) rfl rfl Tryz.func98 (by kernel_rfl) rfl #[.pointer (some _),.bool false] rfl pA ?_;(refine Calls.mono (nJ.calls k ((aI l0 0).f0) _ _ ((aI l0 0).f1) _ _ ((aI l0 0).f2) false Jo _ ?JG ?JH ?Kh ?Ki A3.out (iQ:=by first|(with_unfolding_all assumption)|(dsimp only;assumption)|(dsimp only[Nat.zero_add];exact(ah (ay.out (by assumption)) _).trans rfl)|(go_simp;done)) (iR:=by first|(with_unfolding_all assumption)|(dsimp only;assumption)|(dsimp only[Nat.zero_add];exact(ah (ay.out (by assumption)) _).trans rfl)|(go_simp;done)) (iT:=by first|(with_unfolding_all assumption)|(dsimp only;assumption)|(dsimp only[Nat.zero_add];exact(ah (ay.out (by assumption)) _).trans rfl)|(go_simp;done))) ?_);(case JG=>exact pC KV.out);(case JH=>exact KO.out);(case Kh=>exact pC KW.out);(case Ki=>exact KP.out);rintro e w5 ⟨Mh,rfl,ho0,hb⟩;refine⟨_,rfl,?_⟩;have n_:=t2 (rL ho0 (aH pB)) (aK pB hb);clear HB;obtain⟨JJ,HB⟩:=n_;(try clear hb);(try clear ho0);obtain⟨KM,Lg,Lm⟩:=rS JJ.out;subst Lm)|((with_reducible refine gC (f:=97) rfl ?_);refine aV (some 5) rfl rfl Tryz.func97 (by kernel_rfl) rfl #[.slice KM Jo.length Lg] rfl pA ?_;(with_reducible refine(gy.calls k _ _ Jo Jp _ ?JG ?JH A4.out).mono ?_);(case JG=>exact pC (rr JJ.out).2.2);(case JH=>exact(rr JJ.out).2.1);rintro e w' ⟨rfl,⟨nd,rfl⟩⟩;refine⟨_,rfl,?_⟩)));go_ret;exact⟨pE,pB⟩
 ·rw[if_neg c2]at H;exact absurd H (by simp)
def mY.f (k:Nat) (aR:Int) (ak:List (aM)) (wm:List (aT)):Option (Int):=om.f k [(⟨aR,ak,wm⟩:aJ)]
theorem mY.mono:∀(aR:Int) (ak:List (aM)) (wm:List (aT)) (k:Nat),aj (mY.f k aR ak wm) (mY.f (k+1) aR ak wm):=fun aR ak wm k=>om.mono [(⟨aR,ak,wm⟩:aJ)] k
set_option maxHeartbeats 8000000 in
theorem mY.calls (k:Nat) (aR:Int) (Jw:Option Addr) (JA:Nat) (ak:List (aM)) (Jy:Option Addr) (JB:Nat) (wm:List (aT)) (r:Int) (w:World) (JN:Kd.C bM w Jw ak.length ak) (JL:ak.length≤JA) (JO:Kd.C bY w Jy wm.length wm) (JM:wm.length≤JB) (h:mY.f k aR ak wm=some r) {mg:Addr} (iQ:w.cell? mg=some (.int .i64 aR)) (iR:w.cell? ⟨mg.block,mg.off+1,none⟩=some (.slice Jw ak.length JA)) (iT:w.cell? ⟨mg.block,mg.off+2,none⟩=some (.slice Jy wm.length JB)):
 Calls Tryz.prog 47 #[.pointer (some mg)] w fun e w'=>e= .returned (.int .i64 r)∧Below w.heap.size w w':=by
 have o0:Kd.C dF w (some mg) 1 [(⟨aR,ak,wm⟩:aJ)]:=by
  refine⟨rfl,by decide,fun _=>⟨mg,rfl,fun j p hj=>?_⟩⟩;cases j with
  |succ j=>simp at hj
  |zero=>
   (obtain rfl:(⟨aR,ak,wm⟩:aJ)=p:=by simpa using hj);refine⟨_,rfl,uJ w _ JL JN JM JO,fun i u hu=>?_⟩
   match i,hu with
   |0,hu=>obtain rfl:=sj hu;exact iQ
   |1,hu=>obtain rfl:=sj hu;exact iR
   |2,hu=>obtain rfl:=sj hu;exact iT
 exact om.calls k (some mg) 1 [(⟨aR,ak,wm⟩:aJ)] r w o0 (Nat.le_refl 1) h
def fI.l0:Nat→List (bN)→List Int→Int→Option (List Int)
 |0,_,_,_=>none
 |k+1,x0,x3,x4=>if 0<(x0.length:Int)then(if x4<(((aU x0 0).f4).length:Int)then(if 0≤x4 then((mY.f k ((aI ((aU x0 0).f4) x4).f0) ((aI ((aU x0 0).f4) x4).f1) ((aI ((aU x0 0).f4) x4).f2)).bind fun Jv=>(if x3.length<17592186044416 then(fI.l0 k x0 (x3++[Jv]) (wrap64 (x4+1)))else(none)))else(none))else(some x3))else(none)
def fI.f (k:Nat) (l0:List (bN)):Option (List Int):=fI.l0 k l0 (([]:List Int)) 0
theorem fI.aW:∀k,(∀y0 y1 y2,aj (fI.l0 k y0 y1 y2) (fI.l0 (k+1) y0 y1 y2))
 |0=>fun _ _ _ r h=>by simp[fI.l0]at h
 |k+1=>by
  have JW:=fI.aW k
  ·intro y0 y1 y2
   unfold fI.l0
   repeat' with_reducible first|exact JW _ _ _|exact mY.mono _ _ _ _|exact aj.refl _|exact aj.none _|refine aj.ite ?_ ?_|refine aj.bind ?_ (fun _=>?_)
theorem fI.mono:∀a0 k,aj (fI.f k a0) (fI.f (k+1) a0):=by
 intro a0 k;have JW:=fI.aW k;unfold fI.f;repeat' with_reducible first|exact JW _ _ _|exact mY.mono _ _ _ _|exact aj.refl _|exact aj.none _|refine aj.ite ?_ ?_|refine aj.bind ?_ (fun _=>?_)
theorem fI.calls (k:Nat) (A0:Option Addr) (c0:Nat) (l0:List (bN)) (r:List Int) (w:World) (hr0:Kd.C k28 w A0 l0.length l0) (hc0:l0.length≤c0) (h:fI.f k l0=some r):
 Calls Tryz.prog 80 #[.pointer A0] w fun e w'=>∃Jq:Value,e= .returned (Jq)∧Kd.R (Kd.int .i64) 2 w' w.heap.size (fun _=>True) Jq r∧Below w.heap.size w w':=by
 have Lv:=Tryz.underlying53;have Jz:=am hr0;have KN:=am hc0;clear hr0 hc0;have HB:=am (Below.refl w.heap.size w);have H:(fI.l0 k l0 (([]:List Int)) 0)=some r:=h;clear h;obtain⟨KI,JE⟩:∃y_:List Int,y_=(([]:List Int)):=⟨_,rfl⟩;replace H:(fI.l0 k l0 KI 0)=some r:=by first|(rw[JE];with_reducible exact H)|(have Js:=(Option.bind_some _ _).symm.trans H;rw[JE];with_reducible exact Js)|(have Js:=(Option.bind_some _ _).symm.trans H;with_reducible exact Js)|with_reducible exact H|(rw[JE];exact H)|exact H
 have Ko:=am JE;clear JE;have H':=am H;clear H;go_enter Tryz.func80,Tryz.ntmps80;go_wp2_with (first|((with_reducible refine bg (N:=5) rfl ?_);refine Kd.jP (Kd.int .i64) _ 2 ?hg (N:=5) ?hd (xs:=([]:List Int)) (inner:=[]) (ok:=fun _=>True) (bH:=fun _=>True) ?hr ?hp (fun _ hk=>hk) trivial (Below.refl _ _) (Nat.le_refl _) (by simp) ?_;(case hd=>rfl);(case hg=>rfl);(case hr=>first|(go_simp;done)|(go_simp;rfl));(case hp=>exact(bn.none _ _));intro Mi w2 ho3 hb Lr Ls;clear Lr Ls;(first|rw[←Ko.out]at ho3|(simp only[Int.reduceToNat]at ho3;rw[←Ko.out]at ho3));have n_:=t2 (rL ho3 (aH pB)) (aK pB hb);clear HB;obtain⟨KT,HB⟩:=n_;clear hb ho3))
 go_loopg [3,4] k (fun kq v3 v4 w'=>∃(Jr:List Int) (Ab:Int),v4= .int .i64 Ab∧ay (fI.l0 kq l0 Jr Ab=some r)∧ay (kq≤k)∧ay (Kd.R (Kd.int .i64) 2 w' w.heap.size (fun _=>True) v3 Jr)∧ay (Below w.heap.size w w'))
 case atStart=>exact⟨(KI),(0),pF,H',⟨Nat.le_refl _⟩,⟨(pR KT)⟩,⟨pB⟩⟩
 case round=>
  clear H';obtain⟨Jr,Ab,rfl,HA,Kn,aN,HB⟩:=hrel;cases gk with
  |zero=>exact absurd HA.out (by simp[fI.l0])
  |succ k1=>
   have H:=HA.out;clear HA;simp only[fI.l0]at H;by_cases c4:0<(l0.length:Int)
   ·rw[if_pos c4]at H;have Mc:decide (0<(l0.length:Int))=true:=dt c4;have Md:decide (0<l0.length)=true:=dt (by omega);clear c4;by_cases c5:Ab<(((aU l0 0).f4).length:Int)
    ·rw[if_pos c5]at H;have Lf:decide (Ab<(((aU l0 0).f4).length:Int))=true:=dt c5;clear c5;by_cases c6:0≤Ab
     ·rw[if_pos c6]at H;have Me:decide (0≤Ab)=true:=dt c6;clear c6;replace H:=bO H;obtain⟨Jv,Km,H⟩:=H;replace H:(if Jr.length<17592186044416 then(fI.l0 k1 l0 (Jr++[Jv]) (wrap64 (Ab+1)))else(none))=some r:=H;have A7:=am Km;clear Km;by_cases c8:Jr.length<17592186044416
      ·rw[if_pos c8]at H;have Lb:=am c8;clear c8;obtain⟨KJ,JF⟩:∃y_:List Int,y_=(Jr++[Jv]):=⟨_,rfl⟩;(replace H:(fI.l0 k1 l0 KJ (wrap64 (Ab+1)))=some r:=by first|(rw[JF];with_reducible exact H)|(have Js:=(Option.bind_some _ _).symm.trans H;rw[JF];with_reducible exact Js)|(have Js:=(Option.bind_some _ _).symm.trans H;with_reducible exact Js)|with_reducible exact H|(rw[JF];exact H)|exact H);have Lc:=am JF;clear JF;have H':=am H;clear H;have Jt:0≤(0:Int):=(by omega);have Ju:0<(l0.length:Int):=pD;obtain⟨Kq,KL,Le,e284,Az,Jj,Jk,Jl,Jm,JD,JC⟩:=iO Jz.out 0 Jt Ju;cases e284;have LC:(0<l0.length)=True:=eq_true (by omega);(try rw[z0,zm,az]at Az);(try rw[z0,zm,az]at Jj);(try rw[z0,zm,az]at Jk);(try rw[z0,zm,az]at Jl);(try rw[z0,zm,az]at Jm);replace Az:=cb HB Az;replace Jj:=cb HB Jj;replace Jk:=cb HB Jk;replace Jl:=cb HB Jl;replace Jm:=cb HB Jm;have KX:=am JC;have KQ:=am JD;clear JC JD;replace Jt:=eq_true Jt;replace Ju:=eq_true Ju;have JY:0≤(0:Int):=(by omega);have Ke:0<(l0.length:Int):=pD;(try clear Az);(try clear Jj);(try clear Jk);(try clear Jl);(try clear hHeld);obtain⟨Ld,LH,LW,e285,JQ,JR,JU,JV,JI,KC,Kv⟩:=iO Jz.out 0 JY Ke;obtain rfl:Kq=Ld:=(by injection e285);have Mg:(0<l0.length)=True:=eq_true (by omega);(try rw[z0,zm,az]at JQ);(try rw[z0,zm,az]at JR);(try rw[z0,zm,az]at JU);(try rw[z0,zm,az]at JV);(try rw[z0,zm,az]at JI);replace JQ:=cb HB JQ;replace JR:=cb HB JR;replace JU:=cb HB JU;replace JV:=cb HB JV;replace JI:=cb HB JI;have KY:=am Kv;have LM:=am KC;clear Kv KC;replace JY:=eq_true JY;replace Ke:=eq_true Ke;have JK:=sj (Jm.symm.trans JI);(injection JK with JK Ll Lj);subst JK;subst Lj;clear Ll;have JZ:0≤(Ab:Int):=pD;have Kg:Ab<(((aU l0 0).f4).length:Int):=pD;obtain⟨LQ,LJ,LX,LK,LY,Li,KF,KG,KH,KD,Kw,KE,Ky⟩:=dM KY.out Ab JZ Kg;cases Li;replace KF:=cb HB KF;replace KG:=cb HB KG;replace KH:=cb HB KH;have KZ:=am Kw;have KR:=am KD;clear Kw KD;have La:=am Ky;have KS:=am KE;clear Ky KE;replace JZ:=eq_true JZ;replace Kg:=eq_true Kg;(go_wp2_with (first|((with_reducible refine gC (f:=47) rfl ?_);refine aV (some 22) rfl rfl Tryz.func47 (by kernel_rfl) rfl #[.pointer (some _)] rfl pA ?_;(refine Calls.mono (mY.calls k1 ((aI ((aU l0 0).f4) Ab).f0) _ _ ((aI ((aU l0 0).f4) Ab).f1) _ _ ((aI ((aU l0 0).f4) Ab).f2) Jv _ ?JG ?JH ?Kh ?Ki A7.out (iQ:=by first|(with_unfolding_all assumption)|(dsimp only;assumption)|(dsimp only[Nat.zero_add];exact(ah (ay.out (by assumption)) _).trans rfl)|(go_simp;done)) (iR:=by first|(with_unfolding_all assumption)|(dsimp only;assumption)|(dsimp only[Nat.zero_add];exact(ah (ay.out (by assumption)) _).trans rfl)|(go_simp;done)) (iT:=by first|(with_unfolding_all assumption)|(dsimp only;assumption)|(dsimp only[Nat.zero_add];exact(ah (ay.out (by assumption)) _).trans rfl)|(go_simp;done))) ?_);(case JG=>exact pC (Kd.aY KZ.out HB.out));(case JH=>exact KR.out);(case Kh=>exact pC (Kd.aY La.out HB.out));(case Ki=>exact KS.out);rintro e w9 ⟨rfl,hb⟩;refine⟨_,rfl,?_⟩;have n_:=t2 (Kd.dW (pR aN) hb) (aK pB hb);clear aN HB;obtain⟨aN,HB⟩:=n_;(try clear hb))|((with_reducible refine gB (b:=.append) (xs:=#[.tmp 15,.tmp 23]) rfl ?_);at_builtin;refine Kd.sJ (Kd.int .i64) (w0:=w) w.heap.size rfl (.tmp 15) (.tmp 23) 73 2 (.int .i64 0) 8 rfl Tryz.underlying73 qH rfl (by decide) (by omega) u3 Jr Jv [.int .i64 Jv] (fun _=>True) (fun _=>False) rfl rfl ?aP (fun _ hk=>hk.elim) ?aF ?aO ?aB ?aS ?aL ?_;(case aP=>exact rfl);(case aB=>exact pB);(case aF=>exact(fun _ _=>trivial));(case aO=>exact(pR aN));(case aS=>exact(aH pB));(case aL=>have:=Lb.out;omega);intro Mj Mk ho hb hg hat;rw[←Lc.out]at ho;have n_:=t2 (hb) (ho);clear HB aN;obtain⟨HB,KU⟩:=n_;clear ho hb hg hat)));go_roundg k1
       case measure=>have:=Kn.out;omega
       case rel=>exact⟨(KJ),(wrap64 (Ab+1)),pF,H',⟨by have:=Kn.out;omega⟩,⟨(pR KU)⟩,⟨pB⟩⟩
      ·rw[if_neg c8]at H;exact absurd H (by simp)
     ·rw[if_neg c6]at H;exact absurd H (by simp)
    ·rw[if_neg c5]at H;have Lf:decide (Ab<(((aU l0 0).f4).length:Int))=false:=decide_eq_false c5;clear c5;obtain rfl:=sj H;have Jt:0≤(0:Int):=(by omega);have Ju:0<(l0.length:Int):=pD;obtain⟨Kq,KL,Le,e284,Az,Jj,Jk,Jl,Jm,JD,JC⟩:=iO Jz.out 0 Jt Ju;cases e284;have LC:(0<l0.length)=True:=eq_true (by omega);(try rw[z0,zm,az]at Az);(try rw[z0,zm,az]at Jj);(try rw[z0,zm,az]at Jk);(try rw[z0,zm,az]at Jl);(try rw[z0,zm,az]at Jm);replace Az:=cb HB Az;replace Jj:=cb HB Jj;replace Jk:=cb HB Jk;replace Jl:=cb HB Jl;replace Jm:=cb HB Jm;have KX:=am JC;have KQ:=am JD;clear JC JD;replace Jt:=eq_true Jt;replace Ju:=eq_true Ju;go_wp2;go_ret;exact⟨_,pE,(pR aN),pB⟩
   ·rw[if_neg c4]at H;exact absurd H (by simp)
def jO.f (k:Nat) (aR:Int) (Ag:Int) (Ah:Int) (Ay:Int) (av:List (aJ)):Option (List Int):=fI.f k [(⟨aR,Ag,Ah,Ay,av⟩:bN)]
theorem jO.mono:∀(aR:Int) (Ag:Int) (Ah:Int) (Ay:Int) (av:List (aJ)) (k:Nat),aj (jO.f k aR Ag Ah Ay av) (jO.f (k+1) aR Ag Ah Ay av):=fun aR Ag Ah Ay av k=>fI.mono [(⟨aR,Ag,Ah,Ay,av⟩:bN)] k
set_option maxHeartbeats 8000000 in
theorem jO.calls (k:Nat) (aR:Int) (Ag:Int) (Ah:Int) (Ay:Int) (Kj:Option Addr) (Kr:Nat) (av:List (aJ)) (r:List Int) (w:World) (Lu:Kd.C dF w Kj av.length av) (Lp:av.length≤Kr) (h:jO.f k aR Ag Ah Ay av=some r) {mg:Addr} (iQ:w.cell? mg=some (.int .i64 aR)) (iR:w.cell? ⟨mg.block,mg.off+1,none⟩=some (.int .i64 Ag)) (iT:w.cell? ⟨mg.block,mg.off+2,none⟩=some (.int .i64 Ah)) (jS:w.cell? ⟨mg.block,mg.off+3,none⟩=some (.int .i64 Ay)) (jT:w.cell? ⟨mg.block,mg.off+4,none⟩=some (.slice Kj av.length Kr)):
 Calls Tryz.prog 80 #[.pointer (some mg)] w fun e w'=>∃Jq:Value,e= .returned (Jq)∧Kd.R (Kd.int .i64) 2 w' w.heap.size (fun _=>True) Jq r∧Below w.heap.size w w':=by
 have o0:Kd.C k28 w (some mg) 1 [(⟨aR,Ag,Ah,Ay,av⟩:bN)]:=by
  refine⟨rfl,by decide,fun _=>⟨mg,rfl,fun j p hj=>?_⟩⟩;cases j with
  |succ j=>simp at hj
  |zero=>
   (obtain rfl:(⟨aR,Ag,Ah,Ay,av⟩:bN)=p:=by simpa using hj);refine⟨_,rfl,tC w _ Lp Lu,fun i u hu=>?_⟩
   match i,hu with
   |0,hu=>obtain rfl:=sj hu;exact iQ
   |1,hu=>obtain rfl:=sj hu;exact iR
   |2,hu=>obtain rfl:=sj hu;exact iT
   |3,hu=>obtain rfl:=sj hu;exact jS
   |4,hu=>obtain rfl:=sj hu;exact jT
 exact fI.calls k (some mg) 1 [(⟨aR,Ag,Ah,Ay,av⟩:bN)] r w o0 (Nat.le_refl 1) h
end Go.Proofs.YtjmdfghljlmfmaaGreat.QFnExactMineBlock
