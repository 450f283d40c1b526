-- written by this session's program (wip/tools/myprint.py)
import Derived.Test.YtjmdfghljlmfmaaGreatQFnExactMineBlockx0
import Derived.Test.YtjmdfghljlmfmaaGreatQFnExactMineBlockx13
-- squeezed
namespace Go.Proofs.YtjmdfghljlmfmaaGreat.QFnExactMineBlock
open Go.RowKit Go.Proofs.YtjmdfghljlmfmaaGreatW.PrintWords Go.Proofs.YtjmdfghljlmfmaaGreatW.PrintLast Go.Proofs.YtjmdfghljlmfmaaGreatW.PrintMore
attribute [local go_sem] iC iG iF iJ iE iI iD iH
set_option linter.unusedVariables false
set_option linter.unusedSimpArgs false
set_option maxHeartbeats 8000000
set_option maxRecDepth 100000
def jU.f (k:Nat) (l0:List Int):Option (Int):=if(l0.length:Int)>12 then(some 2)else((mh.f k l0).bind fun JJ=>(if JJ=true then(some 1)else(some 0)))
theorem jU.mono:∀a0 k,aj (jU.f k a0) (jU.f (k+1) a0):=by
 intro a0 k;unfold jU.f;repeat' with_reducible first|exact mh.mono _ _|exact aj.refl _|exact aj.none _|refine aj.ite ?_ ?_|refine aj.bind ?_ (fun _=>?_)
theorem jU.calls (k:Nat) (A0:Option Addr) (c0:Nat) (l0:List Int) (r:Int) (w:World) (hr0:Kd.C (Kd.int .i64) w A0 l0.length l0) (hc0:l0.length≤c0) (h:jU.f k l0=some r):
 Calls Tryz.prog 118 #[.slice A0 l0.length c0] w fun e w'=>e= .returned (.int .i64 r)∧bX w w':=by
 have Ah:=am hr0;have Js:=am hc0;clear hr0 hc0;have H:(if(l0.length:Int)>12 then(some 2)else((mh.f k l0).bind fun JJ=>(if JJ=true then(some 1)else(some 0))))=some r:=h;clear h;by_cases c2:(l0.length:Int)>12
 ·rw[if_pos c2]at H;have JV:decide (12<(l0.length:Int))=true:=dt c2;have Lr:decide (12<l0.length)=true:=dt (by omega);clear c2;obtain rfl:=sj H;go_enter Tryz.func118,Tryz.ntmps118;go_wp2;go_ret;exact⟨by first|rfl|(simp;done)|(simp[*];done),pW⟩
 ·rw[if_neg c2]at H;have JV:decide (12<(l0.length:Int))=false:=decide_eq_false c2;have Lr:decide (12<l0.length)=false:=decide_eq_false (by omega);clear c2;replace H:=bO H;obtain⟨JJ,JR,H⟩:=H;replace H:(if JJ=true then(some 1)else(some 0))=some r:=H;have A3:=am JR;clear JR;by_cases c4:JJ=true
  ·subst c4;(have H1:(some 1)=some r:=by rw[if_pos rfl]at H;exact H);clear H;have H:=H1;clear H1;obtain rfl:=sj H;go_enter Tryz.func118,Tryz.ntmps118;(go_wp2_with (first|((with_reducible refine gC (f:=146) rfl ?_);refine aV (some 7) rfl rfl Tryz.func146 (by kernel_rfl) rfl #[.slice A0 l0.length c0,.func (.func 147) #[] #[]] rfl pA ?_;(with_reducible refine(mh.calls k _ _ l0 true _ ?aP ?aR A3.out).mono ?_);(case aP=>exact pC Ah.out);(case aR=>exact Js.out);rintro e w' ⟨rfl,⟨nd,rfl⟩⟩;refine⟨_,rfl,?_⟩)));go_ret;exact⟨by first|rfl|(simp;done)|(simp[*];done),pW⟩
  ·replace c4:=Bool.eq_false_iff.mpr c4;subst c4;(have H1:(some 0)=some r:=by rw[if_neg (show ¬(false=true) by decide)]at H;exact H);clear H;have H:=H1;clear H1;obtain rfl:=sj H;go_enter Tryz.func118,Tryz.ntmps118;(go_wp2_with (first|((with_reducible refine gC (f:=146) rfl ?_);refine aV (some 7) rfl rfl Tryz.func146 (by kernel_rfl) rfl #[.slice A0 l0.length c0,.func (.func 147) #[] #[]] rfl pA ?_;(with_reducible refine(mh.calls k _ _ l0 false _ ?aP ?aR A3.out).mono ?_);(case aP=>exact pC Ah.out);(case aR=>exact Js.out);rintro e w' ⟨rfl,⟨nd,rfl⟩⟩;refine⟨_,rfl,?_⟩)));go_ret;exact⟨by first|rfl|(simp;done)|(simp[*];done),pW⟩
def oF.f (a0:Int):Option (Bool):=(bQ.f a0 0 9999).bind fun JK=>(some (!JK))
theorem oF.calls (a0:Int) (r:Bool) (w:World) (h:oF.f a0=some r):
 Calls Tryz.prog 151 #[.int .i64 a0] w fun e w'=>e= .returned (.bool r)∧bX w w':=by
 have H:((bQ.f a0 0 9999).bind fun JK=>(some (!JK)))=some r:=h;clear h;replace H:=bO H;obtain⟨JK,JQ,H⟩:=H;replace H:(some (!JK))=some r:=H;have A2:=am JQ;clear JQ;obtain rfl:=sj H;go_enter Tryz.func151,Tryz.ntmps151;go_wp2_with (first|((with_reducible refine gC (f:=35) rfl ?_);refine aV (some 4) rfl rfl Tryz.func35 (by kernel_rfl) rfl #[.int .i64 a0,.int .i64 0,.int .i64 9999] rfl pA ?_;(with_reducible refine(bQ.calls a0 0 9999 JK _ A2.out).mono ?_);rintro e w' ⟨rfl,⟨nd,rfl⟩⟩;refine⟨_,rfl,?_⟩))
 go_ret;exact⟨by first|rfl|(simp;done)|(simp[*];done),pW⟩
def qG.f (aL:Int) (aO:Int) (aF:List Int) (l1:List (aM)):Option (Bool):=if 0<(l1.length:Int)then(if((aD l1 0).f0)=aL then(some (((aD l1 0).f1)==aO))else(some false))else(none)
theorem qG.calls (aL:Int) (aO:Int) (aS:Option Addr) (mg:Nat) (aF:List Int) (A1:Option Addr) (c1:Nat) (l1:List (aM)) (r:Bool) (w:World) (Kg:Kd.C (Kd.int .i64) w aS aF.length aF) (JX:aF.length≤mg) (hr1:Kd.C bM w A1 l1.length l1) (hc1:l1.length≤c1) (h:qG.f aL aO aF l1=some r):
 Calls Tryz.prog 153 #[.agg #[.int .i64 aL,.int .i64 aO,.slice aS aF.length mg],.pointer A1] w fun e w'=>e= .returned (.bool r)∧Below w.heap.size w w':=by
 have La:=Tryz.underlying128;have JH:=am Kg;have JG:=am JX;clear Kg JX;have HR1:=am hr1;have Jy:=am hc1;clear hr1 hc1;have HB:=am (Below.refl w.heap.size w);have H:(if 0<(l1.length:Int)then(if((aD l1 0).f0)=aL then(some (((aD l1 0).f1)==aO))else(some false))else(none))=some r:=h;clear h;by_cases c3:0<(l1.length:Int)
 ·rw[if_pos c3]at H;have Kn:decide (0<(l1.length:Int))=true:=dt c3;have Mr:decide (0<l1.length)=true:=dt (by omega);clear c3;by_cases c4:((aD l1 0).f0)=aL
  ·rw[if_pos c4]at H;have Ko:(((aD l1 0).f0)==aL)=true:=beq_iff_eq.mpr c4;have Lu:(((aD l1 0).f0) != aL)=false:=bne_eq_false_iff_eq.mpr c4;clear c4;obtain rfl:=sj H;go_enter Tryz.func153,Tryz.ntmps153;(go_wp2_with (first|((with_reducible refine bg (N:=2) rfl ?_);refine bA ?hg (N:=2) ?hd (cs:=#[.int .i64 aL,.int .i64 aO,.slice aS aF.length mg]) (t:=128) ?hr ?_;(case hd=>rfl);(case hg=>rfl);(case hr=>first|(go_simp;done)|(go_simp;rfl));intro Jl hg w5 Jm hb;have n_:=t4 (aK pB hb) (Jm) ((by rw[hg];exact(aH pB):w.heap.size≤Jl)) ((by rw[hg];exact(aH pB):w.heap.size≤Jl));clear HB;obtain⟨HB,Ay,Lf,Le⟩:=n_;clear hb Jm hg;have JA:0≤(0:Int):=(by omega);have JD:0<(l1.length:Int):=pD;obtain⟨KU,Ld,Ls,KE,Jo,Jp,Jk,Ka,JY⟩:=dI HR1.out 0 JA JD;cases KE;have LY:(0<l1.length)=True:=eq_true (by omega);(try rw[show((0:Int)).toNat=0 from rfl]at Jo);(try rw[show 0*3=0 from rfl]at Jo);(try rw[Addr.add_zero']at Jo);(try rw[show((0:Int)).toNat=0 from rfl]at Jp);(try rw[show 0*3=0 from rfl]at Jp);(try rw[Addr.add_zero']at Jp);(try rw[show((0:Int)).toNat=0 from rfl]at Jk);(try rw[show 0*3=0 from rfl]at Jk);(try rw[Addr.add_zero']at Jk);replace Jo:=cb HB Jo;replace Jp:=cb HB Jp;replace Jk:=cb HB Jk;have Lh:=am JY;have Lg:=am Ka;clear JY Ka;replace JA:=eq_true JA;replace JD:=eq_true JD;have LD:w5.cell? ⟨Jl,0,none⟩=some (.int .i64 aL):=(ah Ay.out 0).trans rfl;have LG:w5.cell? ⟨Jl,1,none⟩=some (.int .i64 aO):=(ah Ay.out 1).trans rfl;have MN:w5.cell? ⟨Jl,2,none⟩=some (.slice aS aF.length mg):=(ah Ay.out 2).trans rfl;have LM:=au Ay.out 0;have LP:=au Ay.out 1;have Nh:=au Ay.out 2;have KI:0≤(0:Int):=(by omega);have KL:0<(l1.length:Int):=pD;obtain⟨Li,Mc,Ms,Lv,Kh,Ki,JI,KY,KW⟩:=dI HR1.out 0 KI KL;obtain rfl:KU=Li:=(by injection Lv);have Nn:(0<l1.length)=True:=eq_true (by omega);(try rw[show((0:Int)).toNat=0 from rfl]at Kh);(try rw[show 0*3=0 from rfl]at Kh);(try rw[Addr.add_zero']at Kh);(try rw[show((0:Int)).toNat=0 from rfl]at Ki);(try rw[show 0*3=0 from rfl]at Ki);(try rw[Addr.add_zero']at Ki);(try rw[show((0:Int)).toNat=0 from rfl]at JI);(try rw[show 0*3=0 from rfl]at JI);(try rw[Addr.add_zero']at JI);replace Kh:=cb HB Kh;replace Ki:=cb HB Ki;replace JI:=cb HB JI;have Mk:=am KW;have Mi:=am KY;clear KW KY;replace KI:=eq_true KI;replace KL:=eq_true KL;have KH:=sj (Jk.symm.trans JI);injection KH with KH LB LA;subst KH;subst LA;clear LB)));go_ret;exact⟨pE,pB⟩
  ·rw[if_neg c4]at H;have Ko:(((aD l1 0).f0)==aL)=false:=beq_eq_false_iff_ne.mpr c4;have Lu:(((aD l1 0).f0) != aL)=true:=bne_iff_ne.mpr c4;obtain rfl:=sj H;go_enter Tryz.func153,Tryz.ntmps153;(go_wp2_with (first|((with_reducible refine bg (N:=2) rfl ?_);refine bA ?hg (N:=2) ?hd (cs:=#[.int .i64 aL,.int .i64 aO,.slice aS aF.length mg]) (t:=128) ?hr ?_;(case hd=>rfl);(case hg=>rfl);(case hr=>first|(go_simp;done)|(go_simp;rfl));intro Jl hg w7 Jm hb;have n_:=t4 (aK pB hb) (Jm) ((by rw[hg];exact(aH pB):w.heap.size≤Jl)) ((by rw[hg];exact(aH pB):w.heap.size≤Jl));clear HB;obtain⟨HB,Ay,Lf,Le⟩:=n_;clear hb Jm hg;have JA:0≤(0:Int):=(by omega);have JD:0<(l1.length:Int):=pD;obtain⟨KU,Ld,Ls,KE,Jo,Jp,Jk,Ka,JY⟩:=dI HR1.out 0 JA JD;cases KE;have LY:(0<l1.length)=True:=eq_true (by omega);(try rw[show((0:Int)).toNat=0 from rfl]at Jo);(try rw[show 0*3=0 from rfl]at Jo);(try rw[Addr.add_zero']at Jo);(try rw[show((0:Int)).toNat=0 from rfl]at Jp);(try rw[show 0*3=0 from rfl]at Jp);(try rw[Addr.add_zero']at Jp);(try rw[show((0:Int)).toNat=0 from rfl]at Jk);(try rw[show 0*3=0 from rfl]at Jk);(try rw[Addr.add_zero']at Jk);replace Jo:=cb HB Jo;replace Jp:=cb HB Jp;replace Jk:=cb HB Jk;have Lh:=am JY;have Lg:=am Ka;clear JY Ka;replace JA:=eq_true JA;replace JD:=eq_true JD;have LH:w7.cell? ⟨Jl,0,none⟩=some (.int .i64 aL):=(ah Ay.out 0).trans rfl;have LJ:w7.cell? ⟨Jl,1,none⟩=some (.int .i64 aO):=(ah Ay.out 1).trans rfl;have LK:w7.cell? ⟨Jl,2,none⟩=some (.slice aS aF.length mg):=(ah Ay.out 2).trans rfl;have LQ:=au Ay.out 0;have LU:=au Ay.out 1;have LV:=au Ay.out 2)));go_ret;exact⟨pE,pB⟩
 ·rw[if_neg c3]at H;exact absurd H (by simp)
def gT.l0:Nat→List (aM)→List (aM)→Int→Int→Option (Int)
 |0,_,_,_,_=>none
 |k+1,x0,x1,x7,x8=>if x8<x7 then(if 0≤x8 then(if x8<(x0.length:Int)then((qG.f ((aD x0 x8).f0) ((aD x0 x8).f1) ((aD x0 x8).f2) x1).bind fun Kr=>(if Kr=true then(some x8)else(gT.l0 k x0 x1 x7 (wrap64 (x8+1)))))else(none))else(none))else(some (-1))
def gT.f (k:Nat) (l0:List (aM)) (l1:List (aM)):Option (Int):=gT.l0 k l0 l1 (l0.length:Int) 0
theorem gT.aW:∀k,(∀y0 y1 y2 y3,aj (gT.l0 k y0 y1 y2 y3) (gT.l0 (k+1) y0 y1 y2 y3))
 |0=>fun _ _ _ _ r h=>by simp[gT.l0]at h
 |k+1=>by
  have Ab:=gT.aW k
  ·intro y0 y1 y2 y3
   unfold gT.l0
   repeat' with_reducible first|exact Ab _ _ _ _|exact aj.refl _|exact aj.none _|refine aj.ite ?_ ?_|refine aj.bind ?_ (fun _=>?_)
theorem gT.mono:∀a0 a1 k,aj (gT.f k a0 a1) (gT.f (k+1) a0 a1):=by
 intro a0 a1 k;have Ab:=gT.aW k;unfold gT.f;repeat' with_reducible first|exact Ab _ _ _ _|exact aj.refl _|exact aj.none _|refine aj.ite ?_ ?_|refine aj.bind ?_ (fun _=>?_)
theorem gT.calls (k:Nat) (A0:Option Addr) (c0:Nat) (l0:List (aM)) (A1:Option Addr) (c1:Nat) (l1:List (aM)) (r:Int) (w:World) (hr0:Kd.C bM w A0 l0.length l0) (hc0:l0.length≤c0) (hr1:Kd.C bM w A1 l1.length l1) (hc1:l1.length≤c1) (h:gT.f k l0 l1=some r):
 Calls Tryz.prog 162 #[.slice A0 l0.length c0,.func (.func 153) #[] #[.pointer A1]] w fun e w'=>e= .returned (.int .i64 r)∧Below w.heap.size w w':=by
 have La:=Tryz.underlying128;have Ah:=am hr0;have Js:=am hc0;clear hr0 hc0;have HR1:=am hr1;have Jy:=am hc1;clear hr1 hc1;have HB:=am (Below.refl w.heap.size w);have H:(gT.l0 k l0 l1 (l0.length:Int) 0)=some r:=h;clear h;have H':=am H;clear H;go_enter Tryz.func162,Tryz.ntmps162;go_wp2;go_loopg [8] k (fun kq v8 w'=>∃(aB:Int),v8= .int .i64 aB∧ay (gT.l0 kq l0 l1 (l0.length:Int) aB=some r)∧ay (kq≤k)∧ay (Below w.heap.size w w'))
 case atStart=>exact⟨(0),pF,H',⟨Nat.le_refl _⟩,⟨pB⟩⟩
 case round=>
  clear H';(try clear c1);obtain⟨aB,rfl,HA,Jz,HB⟩:=hrel;cases gk with
  |zero=>exact absurd HA.out (by simp[gT.l0])
  |succ k1=>
   have H:=HA.out;clear HA;simp only[gT.l0]at H;by_cases c3:aB<(l0.length:Int)
   ·rw[if_pos c3]at H;have Kn:decide (aB<(l0.length:Int))=true:=dt c3;clear c3;by_cases c4:0≤aB
    ·rw[if_pos c4]at H;have Ko:decide (0≤aB)=true:=dt c4;clear c4;by_cases c5:aB<(l0.length:Int)
     ·rw[if_pos c5]at H;have Mv:decide (aB<(l0.length:Int))=true:=dt c5;clear c5;replace H:=bO H;obtain⟨Kr,KS,H⟩:=H;replace H:(if Kr=true then(some aB)else(gT.l0 k1 l0 l1 (l0.length:Int) (wrap64 (aB+1))))=some r:=H;have A6:=am KS;clear KS;by_cases c7:Kr=true
      ·subst c7;(have H1:(some aB)=some r:=by rw[if_pos rfl]at H;exact H);clear H;have H:=H1;clear H1;obtain rfl:=sj H;have JB:0≤(aB:Int):=pD;have JE:aB<(l0.length:Int):=pD;obtain⟨Lj,Ky,KD,KF,Kj,Kk,Kl,Ke,JZ⟩:=dI Ah.out aB JB JE;cases KF;replace Kj:=cb HB Kj;replace Kk:=cb HB Kk;replace Kl:=cb HB Kl;have KC:=am JZ;have KA:=am Ke;clear JZ Ke;replace JB:=eq_true JB;replace JE:=eq_true JE;(go_wp2_with (first|((with_reducible refine pI (x:=.tmp 11) rfl ?_);refine yw (some 16) rfl rfl Tryz.func153 (by kernel_rfl) rfl (x:=.tmp 11) rfl #[.agg #[.int .i64 ((aD l0 aB).f0),.int .i64 ((aD l0 aB).f1),.slice Ky ((aD l0 aB).f2).length KD],.pointer A1] rfl pA ?_;(with_reducible refine(qG.calls ((aD l0 aB).f0) ((aD l0 aB).f1) _ _ ((aD l0 aB).f2) _ c1 l1 true _ ?aP ?aR ?Jv ?Jw A6.out).mono ?_);(case aP=>exact pC (Kd.aY KC.out HB.out));(case aR=>exact KA.out);(case Jv=>exact pC (Kd.aY HR1.out HB.out));(case Jw=>exact Jy.out);rintro e w8 ⟨rfl,hb⟩;refine⟨_,rfl,?_⟩;have n_:=am (aK pB hb);clear HB;have HB:=n_;clear n_;(try clear hb))));go_ret;exact⟨pE,pB⟩
      ·replace c7:=Bool.eq_false_iff.mpr c7;subst c7;(have H1:(gT.l0 k1 l0 l1 (l0.length:Int) (wrap64 (aB+1)))=some r:=by rw[if_neg (show ¬(false=true) by decide)]at H;exact H);clear H;have H:=H1;clear H1;have H':=am H;clear H;have JB:0≤(aB:Int):=pD;have JE:aB<(l0.length:Int):=pD;obtain⟨Lj,Ky,KD,KF,Kj,Kk,Kl,Ke,JZ⟩:=dI Ah.out aB JB JE;cases KF;replace Kj:=cb HB Kj;replace Kk:=cb HB Kk;replace Kl:=cb HB Kl;have KC:=am JZ;have KA:=am Ke;clear JZ Ke;replace JB:=eq_true JB;replace JE:=eq_true JE;(go_wp2_with (first|((with_reducible refine pI (x:=.tmp 11) rfl ?_);refine yw (some 16) rfl rfl Tryz.func153 (by kernel_rfl) rfl (x:=.tmp 11) rfl #[.agg #[.int .i64 ((aD l0 aB).f0),.int .i64 ((aD l0 aB).f1),.slice Ky ((aD l0 aB).f2).length KD],.pointer A1] rfl pA ?_;(with_reducible refine(qG.calls ((aD l0 aB).f0) ((aD l0 aB).f1) _ _ ((aD l0 aB).f2) _ c1 l1 false _ ?aP ?aR ?Jv ?Jw A6.out).mono ?_);(case aP=>exact pC (Kd.aY KC.out HB.out));(case aR=>exact KA.out);(case Jv=>exact pC (Kd.aY HR1.out HB.out));(case Jw=>exact Jy.out);rintro e w9 ⟨rfl,hb⟩;refine⟨_,rfl,?_⟩;have n_:=am (aK pB hb);clear HB;have HB:=n_;clear n_;(try clear hb))));go_roundg k1
       case measure=>have:=Jz.out;omega
       case rel=>exact⟨(wrap64 (aB+1)),pF,H',⟨by have:=Jz.out;omega⟩,⟨pB⟩⟩
     ·rw[if_neg c5]at H;exact absurd H (by simp)
    ·rw[if_neg c4]at H;exact absurd H (by simp)
   ·rw[if_neg c3]at H;have Kn:decide (aB<(l0.length:Int))=false:=decide_eq_false c3;clear c3;obtain rfl:=sj H;go_wp2;go_ret;exact⟨pE,pB⟩
def nT.f (k:Nat) (l0:List (aM)) (l1:List (aM)):Option (Bool):=(gT.f k l0 l1).bind fun JL=>(some (decide (JL≥0)))
theorem nT.mono:∀a0 a1 k,aj (nT.f k a0 a1) (nT.f (k+1) a0 a1):=by
 intro a0 a1 k;unfold nT.f;repeat' with_reducible first|exact gT.mono _ _ _|exact aj.refl _|exact aj.none _|refine aj.ite ?_ ?_|refine aj.bind ?_ (fun _=>?_)
theorem nT.calls (k:Nat) (A0:Option Addr) (c0:Nat) (l0:List (aM)) (A1:Option Addr) (c1:Nat) (l1:List (aM)) (r:Bool) (w:World) (hr0:Kd.C bM w A0 l0.length l0) (hc0:l0.length≤c0) (hr1:Kd.C bM w A1 l1.length l1) (hc1:l1.length≤c1) (h:nT.f k l0 l1=some r):
 Calls Tryz.prog 152 #[.slice A0 l0.length c0,.func (.func 153) #[] #[.pointer A1]] w fun e w'=>e= .returned (.bool r)∧Below w.heap.size w w':=by
 have Ah:=am hr0;have Js:=am hc0;clear hr0 hc0;have HR1:=am hr1;have Jy:=am hc1;clear hr1 hc1;have HB:=am (Below.refl w.heap.size w);have H:((gT.f k l0 l1).bind fun JL=>(some (decide (JL≥0))))=some r:=h;clear h;replace H:=bO H;obtain⟨JL,JR,H⟩:=H;replace H:(some (decide (JL≥0)))=some r:=H;have A3:=am JR;clear JR;obtain rfl:=sj H;go_enter Tryz.func152,Tryz.ntmps152;go_wp2_with (first|((with_reducible refine gC (f:=162) rfl ?_);refine aV (some 7) rfl rfl Tryz.func162 (by kernel_rfl) rfl #[.slice A0 l0.length c0,.func (.func 153) #[] #[.pointer A1]] rfl pA ?_;(with_reducible refine(gT.calls k _ _ l0 _ c1 l1 JL _ ?aP ?aR ?Jv ?Jw A3.out).mono ?_);(case aP=>exact pC Ah.out);(case aR=>exact Js.out);(case Jv=>exact pC HR1.out);(case Jw=>exact Jy.out);rintro e w4 ⟨rfl,hb⟩;refine⟨_,rfl,?_⟩;have n_:=am (aK pB hb);clear HB;have HB:=n_;clear n_;(try clear hb)))
 go_ret;exact⟨pE,pB⟩
def kN.f (k:Nat) (l0:List (aM)) (Az:Int) (Jj:Int) (Ag:List Int):Option (Bool):=nT.f k l0 [(⟨Az,Jj,Ag⟩:aM)]
theorem kN.mono:∀(l0:List (aM)) (Az:Int) (Jj:Int) (Ag:List Int) (k:Nat),aj (kN.f k l0 Az Jj Ag) (kN.f (k+1) l0 Az Jj Ag):=fun l0 Az Jj Ag k=>nT.mono l0 [(⟨Az,Jj,Ag⟩:aM)] k
set_option maxHeartbeats 8000000 in
theorem kN.calls (k:Nat) (A0:Option Addr) (c0:Nat) (l0:List (aM)) (Az:Int) (Jj:Int) (KR:Option Addr) (KV:Nat) (Ag:List Int) (r:Bool) (w:World) (hr0:Kd.C bM w A0 l0.length l0) (hc0:l0.length≤c0) (LW:Kd.C (Kd.int .i64) w KR Ag.length Ag) (LC:Ag.length≤KV) (h:kN.f k l0 Az Jj Ag=some r) {Ju:Addr} (vV:w.cell? Ju=some (.int .i64 Az)) (vW:w.cell? ⟨Ju.block,Ju.off+1,none⟩=some (.int .i64 Jj)) (vX:w.cell? ⟨Ju.block,Ju.off+2,none⟩=some (.slice KR Ag.length KV)):
 Calls Tryz.prog 152 #[.slice A0 l0.length c0,.func (.func 153) #[] #[.pointer (some Ju)]] w fun e w'=>e= .returned (.bool r)∧Below w.heap.size w w':=by
 have o1:Kd.C bM w (some Ju) 1 [(⟨Az,Jj,Ag⟩:aM)]:=by
  refine⟨rfl,by decide,fun _=>⟨Ju,rfl,fun j p hj=>?_⟩⟩;cases j with
  |succ j=>simp at hj
  |zero=>
   (obtain rfl:(⟨Az,Jj,Ag⟩:aM)=p:=by simpa using hj);refine⟨_,rfl,yN w _ LC LW,fun i u hu=>?_⟩
   match i,hu with
   |0,hu=>obtain rfl:=sj hu;exact vV
   |1,hu=>obtain rfl:=sj hu;exact vW
   |2,hu=>obtain rfl:=sj hu;exact vX
 exact nT.calls k A0 c0 l0 (some Ju) 1 [(⟨Az,Jj,Ag⟩:aM)] r w hr0 hc0 o1 (Nat.le_refl 1) h
def gZ.l0:Nat→List Int→Int→Int→Option (Int)
 |0,_,_,_=>none
 |k+1,x0,x7,x8=>if x8<x7 then(if 0≤x8 then(if x8<(x0.length:Int)then((oF.f (rd x0 x8)).bind fun Kt=>(if Kt=true then(some x8)else(gZ.l0 k x0 x7 (wrap64 (x8+1)))))else(none))else(none))else(some (-1))
def gZ.f (k:Nat) (l0:List Int):Option (Int):=gZ.l0 k l0 (l0.length:Int) 0
theorem gZ.aW:∀k,(∀y0 y1 y2,aj (gZ.l0 k y0 y1 y2) (gZ.l0 (k+1) y0 y1 y2))
 |0=>fun _ _ _ r h=>by simp[gZ.l0]at h
 |k+1=>by
  have Ab:=gZ.aW k
  ·intro y0 y1 y2
   unfold gZ.l0
   repeat' with_reducible first|exact Ab _ _ _|exact aj.refl _|exact aj.none _|refine aj.ite ?_ ?_|refine aj.bind ?_ (fun _=>?_)
theorem gZ.mono:∀a0 k,aj (gZ.f k a0) (gZ.f (k+1) a0):=by
 intro a0 k;have Ab:=gZ.aW k;unfold gZ.f;repeat' with_reducible first|exact Ab _ _ _|exact aj.refl _|exact aj.none _|refine aj.ite ?_ ?_|refine aj.bind ?_ (fun _=>?_)
theorem gZ.calls (k:Nat) (A0:Option Addr) (c0:Nat) (l0:List Int) (r:Int) (w:World) (hr0:Kd.C (Kd.int .i64) w A0 l0.length l0) (hc0:l0.length≤c0) (h:gZ.f k l0=some r):
 Calls Tryz.prog 161 #[.slice A0 l0.length c0,.func (.func 151) #[] #[]] w fun e w'=>e= .returned (.int .i64 r)∧bX w w':=by
 have Ah:=am hr0;have Js:=am hc0;clear hr0 hc0;have H:(gZ.l0 k l0 (l0.length:Int) 0)=some r:=h;clear h;have H':=am H;clear H;go_enter Tryz.func161,Tryz.ntmps161;go_wp2;go_loopg [8] k (fun kq v8 w'=>∃(aB:Int),v8= .int .i64 aB∧ay (gZ.l0 kq l0 (l0.length:Int) aB=some r)∧ay (kq≤k)∧bX w w')
 case atStart=>exact⟨(0),pF,H',⟨Nat.le_refl _⟩,pW⟩
 case round=>
  clear H';obtain⟨aB,rfl,HA,Jz,⟨m1,rfl⟩⟩:=hrel;cases gk with
  |zero=>exact absurd HA.out (by simp[gZ.l0])
  |succ k1=>
   have H:=HA.out;clear HA;simp only[gZ.l0]at H;by_cases c2:aB<(l0.length:Int)
   ·rw[if_pos c2]at H;have JV:decide (aB<(l0.length:Int))=true:=dt c2;clear c2;by_cases c3:0≤aB
    ·rw[if_pos c3]at H;have Kn:decide (0≤aB)=true:=dt c3;clear c3;by_cases c4:aB<(l0.length:Int)
     ·rw[if_pos c4]at H;have Ko:decide (aB<(l0.length:Int))=true:=dt c4;clear c4;replace H:=bO H;obtain⟨Kt,JU,H⟩:=H;replace H:(if Kt=true then(some aB)else(gZ.l0 k1 l0 (l0.length:Int) (wrap64 (aB+1))))=some r:=H;have A5:=am JU;clear JU;by_cases c6:Kt=true
      ·subst c6;(have H1:(some aB)=some r:=by rw[if_pos rfl]at H;exact H);clear H;have H:=H1;clear H1;obtain rfl:=sj H;have JC:0≤(aB:Int):=pD;have JF:aB<(l0.length:Int):=pD;obtain⟨Ll,KG,LX⟩:=Kd.eG Ah.out aB JC JF;cases KG;replace JC:=eq_true JC;replace JF:=eq_true JF;(go_wp2_with (first|((with_reducible refine pI (x:=.tmp 11) rfl ?_);refine rJ (some 16) rfl rfl Tryz.func151 (by kernel_rfl) rfl (x:=.tmp 11) rfl #[.int .i64 (rd l0 aB)] rfl pA ?_;(with_reducible refine(oF.calls (rd l0 aB) true _ A5.out).mono ?_);rintro e w' ⟨rfl,⟨nd,rfl⟩⟩;refine⟨_,rfl,?_⟩)));go_ret;exact⟨by first|rfl|(simp;done)|(simp[*];done),pW⟩
      ·replace c6:=Bool.eq_false_iff.mpr c6;subst c6;(have H1:(gZ.l0 k1 l0 (l0.length:Int) (wrap64 (aB+1)))=some r:=by rw[if_neg (show ¬(false=true) by decide)]at H;exact H);clear H;have H:=H1;clear H1;have H':=am H;clear H;have JC:0≤(aB:Int):=pD;have JF:aB<(l0.length:Int):=pD;obtain⟨Ll,KG,LX⟩:=Kd.eG Ah.out aB JC JF;cases KG;replace JC:=eq_true JC;replace JF:=eq_true JF;(go_wp2_with (first|((with_reducible refine pI (x:=.tmp 11) rfl ?_);refine rJ (some 16) rfl rfl Tryz.func151 (by kernel_rfl) rfl (x:=.tmp 11) rfl #[.int .i64 (rd l0 aB)] rfl pA ?_;(with_reducible refine(oF.calls (rd l0 aB) false _ A5.out).mono ?_);rintro e w' ⟨rfl,⟨nd,rfl⟩⟩;refine⟨_,rfl,?_⟩)));go_roundg k1
       case measure=>have:=Jz.out;omega
       case rel=>exact⟨(wrap64 (aB+1)),pF,H',⟨by have:=Jz.out;omega⟩,pW⟩
     ·rw[if_neg c4]at H;exact absurd H (by simp)
    ·rw[if_neg c3]at H;exact absurd H (by simp)
   ·rw[if_neg c2]at H;have JV:decide (aB<(l0.length:Int))=false:=decide_eq_false c2;clear c2;obtain rfl:=sj H;go_wp2;go_ret;exact⟨by first|rfl|(simp;done)|(simp[*];done),pW⟩
def kR.f (k:Nat) (l0:List Int):Option (Bool):=(gZ.f k l0).bind fun JM=>(some (decide (JM≥0)))
theorem kR.mono:∀a0 k,aj (kR.f k a0) (kR.f (k+1) a0):=by
 intro a0 k;unfold kR.f;repeat' with_reducible first|exact gZ.mono _ _|exact aj.refl _|exact aj.none _|refine aj.ite ?_ ?_|refine aj.bind ?_ (fun _=>?_)
theorem kR.calls (k:Nat) (A0:Option Addr) (c0:Nat) (l0:List Int) (r:Bool) (w:World) (hr0:Kd.C (Kd.int .i64) w A0 l0.length l0) (hc0:l0.length≤c0) (h:kR.f k l0=some r):
 Calls Tryz.prog 146 #[.slice A0 l0.length c0,.func (.func 151) #[] #[]] w fun e w'=>e= .returned (.bool r)∧bX w w':=by
 have Ah:=am hr0;have Js:=am hc0;clear hr0 hc0;have H:((gZ.f k l0).bind fun JM=>(some (decide (JM≥0))))=some r:=h;clear h;replace H:=bO H;obtain⟨JM,JQ,H⟩:=H;replace H:(some (decide (JM≥0)))=some r:=H;have A2:=am JQ;clear JQ;obtain rfl:=sj H;go_enter Tryz.func146,Tryz.ntmps146;go_wp2_with (first|((with_reducible refine gC (f:=161) rfl ?_);refine aV (some 7) rfl rfl Tryz.func161 (by kernel_rfl) rfl #[.slice A0 l0.length c0,.func (.func 151) #[] #[]] rfl pA ?_;(with_reducible refine(gZ.calls k _ _ l0 JM _ ?aP ?aR A2.out).mono ?_);(case aP=>exact pC Ah.out);(case aR=>exact Js.out);rintro e w' ⟨rfl,⟨nd,rfl⟩⟩;refine⟨_,rfl,?_⟩))
 go_ret;exact⟨by first|rfl|(simp;done)|(simp[*];done),pW⟩
def eT.j0:Nat→List (aM)→Bool→Int→Int→List Int→Option (Int)
 |0,_,_,_,_,_=>none
 |k+1,x1,x5,LZ,Ma,KN=>if x5=true then(some 3)else(if(KN.length:Int)>8 then(some 2)else((kR.f k KN).bind fun JO=>(if JO=true then(some 3)else((kN.f k x1 LZ Ma KN).bind fun Jr=>(if Jr=true then(some 6)else(some 0))))))
def eT.f (k:Nat) (aL:Int) (aO:Int) (aF:List Int) (l1:List (aM)):Option (Int):=(jV.f aL).bind fun JN=>(if JN=true then((bQ.f aO 0 3).bind fun Jq=>(eT.j0 k l1 (!Jq) aL aO aF))else(eT.j0 k l1 true aL aO aF))
theorem eT.aW:∀k,(∀y0 y1 y2 y3 y4,aj (eT.j0 k y0 y1 y2 y3 y4) (eT.j0 (k+1) y0 y1 y2 y3 y4))
 |0=>fun _ _ _ _ _ r h=>by simp[eT.j0]at h
 |k+1=>by
  have Ab:=eT.aW k
  ·intro y0 y1 y2 y3 y4
   unfold eT.j0
   repeat' with_reducible first|exact Ab _ _ _ _ _|exact kN.mono _ _ _ _ _|exact kR.mono _ _|exact aj.refl _|exact aj.none _|refine aj.ite ?_ ?_|refine aj.bind ?_ (fun _=>?_)
theorem eT.mono:∀a0 a1 a2 a3 k,aj (eT.f k a0 a1 a2 a3) (eT.f (k+1) a0 a1 a2 a3):=by
 intro a0 a1 a2 a3 k;have Ab:=eT.aW k;unfold eT.f;repeat' with_reducible first|exact Ab _ _ _ _ _|exact kN.mono _ _ _ _ _|exact kR.mono _ _|exact aj.refl _|exact aj.none _|refine aj.ite ?_ ?_|refine aj.bind ?_ (fun _=>?_)
theorem eT.calls (k:Nat) (aL:Int) (aO:Int) (aS:Option Addr) (mg:Nat) (aF:List Int) (A1:Option Addr) (c1:Nat) (l1:List (aM)) (r:Int) (w:World) (Kg:Kd.C (Kd.int .i64) w aS aF.length aF) (JX:aF.length≤mg) (hr1:Kd.C bM w A1 l1.length l1) (hc1:l1.length≤c1) (h:eT.f k aL aO aF l1=some r):
 Calls Tryz.prog 129 #[.agg #[.int .i64 aL,.int .i64 aO,.slice aS aF.length mg],.slice A1 l1.length c1] w fun e w'=>e= .returned (.int .i64 r)∧Below w.heap.size w w':=by
 have La:=Tryz.underlying128;have JH:=am Kg;have JG:=am JX;clear Kg JX;have HR1:=am hr1;have Jy:=am hc1;clear hr1 hc1;have HB:=am (Below.refl w.heap.size w);have H:((jV.f aL).bind fun JN=>(if JN=true then((bQ.f aO 0 3).bind fun Jq=>(eT.j0 k l1 (!Jq) aL aO aF))else(eT.j0 k l1 true aL aO aF)))=some r:=h;clear h;have Kz:=am H;clear H;go_enter Tryz.func129,Tryz.ntmps129;go_upto_region 1 with(first|((with_reducible refine bg (N:=2) rfl ?_);refine bA ?hg (N:=2) ?hd (cs:=#[.int .i64 aL,.int .i64 aO,.slice aS aF.length mg]) (t:=128) ?hr ?_;(case hd=>rfl);(case hg=>rfl);(case hr=>first|(go_simp;done)|(go_simp;rfl));intro JW hg w4 Jm hb;have n_:=t4 (aK pB hb) (Jm) ((by rw[hg];exact(aH pB):w.heap.size≤JW)) ((by rw[hg];exact(aH pB):w.heap.size≤JW));clear HB;obtain⟨HB,wm,Mg,Me⟩:=n_;clear hb Jm hg))
 (try simp only[Act.put,List.setIfInBounds_toArray,List.set_cons_zero,List.set_cons_succ]);go_cut [5] (fun v5 wc=>∃(kq:Nat) (Kv:Bool),v5= .bool Kv∧ay (eT.j0 kq l1 Kv aL aO aF=some r)∧ay (kq≤k)∧ay (wc.heap[JW]? =some (.cells #[.int .i64 aL,.int .i64 aO,(.slice aS aF.length mg)] 128 (0,0)))∧ay (Below w.heap.size w wc))
 case first=>
  have H:=Kz.out;clear Kz;replace H:=bO H;obtain⟨JN,JU,H⟩:=H;replace H:(if JN=true then((bQ.f aO 0 3).bind fun Jq=>(eT.j0 k l1 (!Jq) aL aO aF))else(eT.j0 k l1 true aL aO aF))=some r:=H;have A5:=am JU;clear JU;by_cases c6:JN=true
  ·subst c6;(have H1:((bQ.f aO 0 3).bind fun Jq=>(eT.j0 k l1 (!Jq) aL aO aF))=some r:=by rw[if_pos rfl]at H;exact H);clear H;have H:=H1;clear H1;replace H:=bO H;obtain⟨Jq,KT,H⟩:=H;replace H:(eT.j0 k l1 (!Jq) aL aO aF)=some r:=H;have A7:=am KT;clear KT;have H':=am H;clear H;obtain⟨LH,LJ,LK,LQ,LU,LV⟩:=jr wm;(go_wp2_with (first|((with_reducible refine gC (f:=84) rfl ?_);refine aV (some 8) rfl rfl Tryz.func84 (by kernel_rfl) rfl #[.int .i64 aL] rfl pA ?_;(with_reducible refine(jV.calls aL true _ A5.out).mono ?_);rintro e w' ⟨rfl,⟨nd,rfl⟩⟩;refine⟨_,rfl,?_⟩)|(go_at_call 35;(with_reducible refine(bQ.calls aO 0 3 Jq _ A7.out).mono ?_);rintro e w' ⟨rfl,⟨nd,rfl⟩⟩)));go_meet
   case rel=>exact⟨_,(!Jq),pF,H',⟨by first|omega|exact Nat.le_refl _⟩,⟨(pK wm)⟩,⟨pB⟩⟩
  ·replace c6:=Bool.eq_false_iff.mpr c6;subst c6;(have H1:(eT.j0 k l1 true aL aO aF)=some r:=by rw[if_neg (show ¬(false=true) by decide)]at H;exact H);clear H;have H:=H1;clear H1;have H':=am H;clear H;obtain⟨MO,MP,MQ,Ni,Nj,Nk⟩:=jr wm;(go_wp2_with (first|((with_reducible refine gC (f:=84) rfl ?_);refine aV (some 8) rfl rfl Tryz.func84 (by kernel_rfl) rfl #[.int .i64 aL] rfl pA ?_;(with_reducible refine(jV.calls aL false _ A5.out).mono ?_);rintro e w' ⟨rfl,⟨nd,rfl⟩⟩;refine⟨_,rfl,?_⟩)));go_meet
   case rel=>exact⟨_,(true),pF,H',⟨by first|omega|exact Nat.le_refl _⟩,⟨(pK wm)⟩,⟨pB⟩⟩
 case rest=>
  clear Kz;(try clear c1);obtain⟨kq,Kv,rfl,HA,HJ2,wm,HB⟩:=hcut;cases kq with
  |zero=>exact absurd HA.out (by simp[eT.j0])
  |succ Jt=>
   have H:=HA.out;clear HA;simp only[eT.j0]at H;by_cases c10:Kv=true
   ·subst c10;(have H1:(some 3)=some r:=by rw[if_pos rfl]at H;exact H);clear H;have H:=H1;clear H1;obtain rfl:=sj H;go_wp2;go_ret;exact⟨pE,pB⟩
   ·replace c10:=Bool.eq_false_iff.mpr c10;subst c10;(have H1:(if(aF.length:Int)>8 then(some 2)else((kR.f Jt aF).bind fun JO=>(if JO=true then(some 3)else((kN.f Jt l1 aL aO aF).bind fun Jr=>(if Jr=true then(some 6)else(some 0))))))=some r:=by rw[if_neg (show ¬(false=true) by decide)]at H;exact H);clear H;have H:=H1;clear H1;by_cases c11:(aF.length:Int)>8
    ·rw[if_pos c11]at H;have Lm:decide (8<(aF.length:Int))=true:=dt c11;have Lp:decide (8<aF.length)=true:=dt (by omega);clear c11;obtain rfl:=sj H;obtain⟨Mw,Mx,MB,MR,MS,MU⟩:=jr wm;go_wp2;go_ret;exact⟨pE,pB⟩
    ·rw[if_neg c11]at H;have Lm:decide (8<(aF.length:Int))=false:=decide_eq_false c11;have Lp:decide (8<aF.length)=false:=decide_eq_false (by omega);clear c11;replace H:=bO H;obtain⟨JO,KO,H⟩:=H;replace H:(if JO=true then(some 3)else((kN.f Jt l1 aL aO aF).bind fun Jr=>(if Jr=true then(some 6)else(some 0))))=some r:=H;have Kw:=am KO;clear KO;by_cases c14:JO=true
     ·subst c14;(have H1:(some 3)=some r:=by rw[if_pos rfl]at H;exact H);clear H;have H:=H1;clear H1;obtain rfl:=sj H;obtain⟨MC,ME,MF,MV,MW,MX⟩:=jr wm;(go_wp2_with (first|((with_reducible refine gC (f:=146) rfl ?_);refine aV (some 24) rfl rfl Tryz.func146 (by kernel_rfl) rfl #[.slice aS aF.length mg,.func (.func 151) #[] #[]] rfl pA ?_;(with_reducible refine(kR.calls Jt _ _ aF true _ ?aP ?aR Kw.out).mono ?_);(case aP=>exact pC (Kd.aY JH.out HB.out));(case aR=>exact JG.out);rintro e w' ⟨rfl,⟨nd,rfl⟩⟩;refine⟨_,rfl,?_⟩)));go_ret;exact⟨pE,pB⟩
     ·replace c14:=Bool.eq_false_iff.mpr c14;subst c14;(have H1:((kN.f Jt l1 aL aO aF).bind fun Jr=>(if Jr=true then(some 6)else(some 0)))=some r:=by rw[if_neg (show ¬(false=true) by decide)]at H;exact H);clear H;have H:=H1;clear H1;replace H:=bO H;obtain⟨Jr,KQ,H⟩:=H;replace H:(if Jr=true then(some 6)else(some 0))=some r:=H;have KP:=am KQ;clear KQ;by_cases c17:Jr=true
      ·subst c17;(have H1:(some 6)=some r:=by rw[if_pos rfl]at H;exact H);clear H;have H:=H1;clear H1;obtain rfl:=sj H;obtain⟨MG,MH,MI,MZ,Na,Nb⟩:=jr wm;(go_wp2_with (first|((with_reducible refine gC (f:=146) rfl ?_);refine aV (some 24) rfl rfl Tryz.func146 (by kernel_rfl) rfl #[.slice aS aF.length mg,.func (.func 151) #[] #[]] rfl pA ?_;(with_reducible refine(kR.calls Jt _ _ aF false _ ?aP ?aR Kw.out).mono ?_);(case aP=>exact pC (Kd.aY JH.out HB.out));(case aR=>exact JG.out);rintro e w' ⟨rfl,⟨nd,rfl⟩⟩;refine⟨_,rfl,?_⟩)|((with_reducible refine gC (f:=152) rfl ?_);refine aV (some 28) rfl rfl Tryz.func152 (by kernel_rfl) rfl #[.slice A1 l1.length c1,.func (.func 153) #[] #[.pointer (some _)]] rfl pA ?_;(refine Calls.mono (kN.calls Jt _ _ l1 aL aO _ _ aF true _ ?aP ?aR ?Jv ?Jw KP.out (vV:=by first|(with_unfolding_all assumption)|(dsimp only;assumption)|(dsimp only[Nat.zero_add];exact(ah (ay.out (by assumption)) _).trans rfl)|(go_simp;done)) (vW:=by first|(with_unfolding_all assumption)|(dsimp only;assumption)|(dsimp only[Nat.zero_add];exact(ah (ay.out (by assumption)) _).trans rfl)|(go_simp;done)) (vX:=by first|(with_unfolding_all assumption)|(dsimp only;assumption)|(dsimp only[Nat.zero_add];exact(ah (ay.out (by assumption)) _).trans rfl)|(go_simp;done))) ?_);(case aP=>exact pC (Kd.aY HR1.out pB));(case aR=>exact Jy.out);(case Jv=>exact pC (Kd.aY JH.out pB));(case Jw=>exact JG.out);rintro e Np ⟨rfl,hb⟩;refine⟨_,rfl,?_⟩;have n_:=t2 (aQ (g:=JW) (o:=.cells #[.int .i64 aL,.int .i64 aO,.slice aS aF.length mg] 128 (0,0)) (pK wm) hb) (aK pB hb);clear wm HB;obtain⟨wm,HB⟩:=n_;(try clear hb))));go_ret;exact⟨pE,pB⟩
      ·replace c17:=Bool.eq_false_iff.mpr c17;subst c17;(have H1:(some 0)=some r:=by rw[if_neg (show ¬(false=true) by decide)]at H;exact H);clear H;have H:=H1;clear H1;obtain rfl:=sj H;obtain⟨MJ,MK,ML,Nc,Nf,Ng⟩:=jr wm;(go_wp2_with (first|((with_reducible refine gC (f:=146) rfl ?_);refine aV (some 24) rfl rfl Tryz.func146 (by kernel_rfl) rfl #[.slice aS aF.length mg,.func (.func 151) #[] #[]] rfl pA ?_;(with_reducible refine(kR.calls Jt _ _ aF false _ ?aP ?aR Kw.out).mono ?_);(case aP=>exact pC (Kd.aY JH.out HB.out));(case aR=>exact JG.out);rintro e w' ⟨rfl,⟨nd,rfl⟩⟩;refine⟨_,rfl,?_⟩)|((with_reducible refine gC (f:=152) rfl ?_);refine aV (some 28) rfl rfl Tryz.func152 (by kernel_rfl) rfl #[.slice A1 l1.length c1,.func (.func 153) #[] #[.pointer (some _)]] rfl pA ?_;(refine Calls.mono (kN.calls Jt _ _ l1 aL aO _ _ aF false _ ?aP ?aR ?Jv ?Jw KP.out (vV:=by first|(with_unfolding_all assumption)|(dsimp only;assumption)|(dsimp only[Nat.zero_add];exact(ah (ay.out (by assumption)) _).trans rfl)|(go_simp;done)) (vW:=by first|(with_unfolding_all assumption)|(dsimp only;assumption)|(dsimp only[Nat.zero_add];exact(ah (ay.out (by assumption)) _).trans rfl)|(go_simp;done)) (vX:=by first|(with_unfolding_all assumption)|(dsimp only;assumption)|(dsimp only[Nat.zero_add];exact(ah (ay.out (by assumption)) _).trans rfl)|(go_simp;done))) ?_);(case aP=>exact pC (Kd.aY HR1.out pB));(case aR=>exact Jy.out);(case Jv=>exact pC (Kd.aY JH.out pB));(case Jw=>exact JG.out);rintro e Nq ⟨rfl,hb⟩;refine⟨_,rfl,?_⟩;have n_:=t2 (aQ (g:=JW) (o:=.cells #[.int .i64 aL,.int .i64 aO,.slice aS aF.length mg] 128 (0,0)) (pK wm) hb) (aK pB hb);clear wm HB;obtain⟨wm,HB⟩:=n_;(try clear hb))));go_ret;exact⟨pE,pB⟩
def gJ.l0:Nat→Int→List (aT)→Int→Int→Option (Int)
 |0,_,_,_,_=>none
 |k+1,x3,x6,x7,x8=>if x8<x7 then(if 0≤x8 then(if x8<(x6.length:Int)then(gJ.l0 k (wrap64 (x3+((aX x6 x8).f0))) x6 x7 (wrap64 (x8+1)))else(none))else(none))else(some x3)
def gJ.f (k:Nat) (l0:List (aT)):Option (Int):=gJ.l0 k 0 l0 (l0.length:Int) 0
theorem gJ.aW:∀k,(∀y0 y1 y2 y3,aj (gJ.l0 k y0 y1 y2 y3) (gJ.l0 (k+1) y0 y1 y2 y3))
 |0=>fun _ _ _ _ r h=>by simp[gJ.l0]at h
 |k+1=>by
  have Ab:=gJ.aW k
  ·intro y0 y1 y2 y3
   unfold gJ.l0
   repeat' with_reducible first|exact Ab _ _ _ _|exact aj.refl _|exact aj.none _|refine aj.ite ?_ ?_|refine aj.bind ?_ (fun _=>?_)
theorem gJ.mono:∀a0 k,aj (gJ.f k a0) (gJ.f (k+1) a0):=by
 intro a0 k;have Ab:=gJ.aW k;unfold gJ.f;repeat' with_reducible first|exact Ab _ _ _ _|exact aj.refl _|exact aj.none _|refine aj.ite ?_ ?_|refine aj.bind ?_ (fun _=>?_)
theorem gJ.calls (k:Nat) (A0:Option Addr) (c0:Nat) (l0:List (aT)) (r:Int) (w:World) (hr0:Kd.C bY w A0 l0.length l0) (hc0:l0.length≤c0) (h:gJ.f k l0=some r):
 Calls Tryz.prog 130 #[.slice A0 l0.length c0] w fun e w'=>e= .returned (.int .i64 r)∧Below w.heap.size w w':=by
 have Nl:=Tryz.underlying130;have Ah:=am hr0;have Js:=am hc0;clear hr0 hc0;have HB:=am (Below.refl w.heap.size w);have H:(gJ.l0 k 0 l0 (l0.length:Int) 0)=some r:=h;clear h;have H':=am H;clear H;go_enter Tryz.func130,Tryz.ntmps130;go_wp2;go_loopg [3,8] k (fun kq v3 v8 w'=>∃(Ku:Int) (aB:Int),v3= .int .i64 Ku∧v8= .int .i64 aB∧ay (gJ.l0 kq Ku l0 (l0.length:Int) aB=some r)∧ay (kq≤k)∧ay (Below w.heap.size w w'))
 case atStart=>exact⟨(0),(0),pF,pF,H',⟨Nat.le_refl _⟩,⟨pB⟩⟩
 case round=>
  clear H';obtain⟨Ku,aB,rfl,rfl,HA,Jz,HB⟩:=hrel;cases gk with
  |zero=>exact absurd HA.out (by simp[gJ.l0])
  |succ k1=>
   have H:=HA.out;clear HA;simp only[gJ.l0]at H;by_cases c2:aB<(l0.length:Int)
   ·rw[if_pos c2]at H;have JV:decide (aB<(l0.length:Int))=true:=dt c2;clear c2;by_cases c3:0≤aB
    ·rw[if_pos c3]at H;have Kn:decide (0≤aB)=true:=dt c3;clear c3;by_cases c4:aB<(l0.length:Int)
     ·rw[if_pos c4]at H;have Ko:decide (aB<(l0.length:Int))=true:=dt c4;clear c4;have H':=am H;clear H;have KJ:0≤(aB:Int):=pD;have KM:aB<(l0.length:Int):=pD;obtain⟨Mq,Md,Mt,Lx,Lb,Lc,KZ,KX⟩:=iY Ah.out aB KJ KM;cases Lx;replace Lb:=cb HB Lb;replace Lc:=cb HB Lc;have Ml:=am KX;have Mj:=am KZ;clear KX KZ;replace KJ:=eq_true KJ;replace KM:=eq_true KM;(go_wp2_with (first|((with_reducible refine bg (N:=5) rfl ?_);refine bA ?hg (N:=5) ?hd (cs:=#[.int .i64 0,.slice none 0 0]) (t:=130) ?hr ?_;(case hd=>rfl);(case hg=>rfl);(case hr=>first|(go_simp;done)|(go_simp;rfl));intro Kq hg w5 Jm hb;have n_:=t4 (aK pB hb) (Jm) ((by rw[hg];exact(aH pB):w.heap.size≤Kq)) ((by rw[hg];exact(aH pB):w.heap.size≤Kq));clear HB;obtain⟨HB,Km,Mh,Mf⟩:=n_;clear hb Jm hg;have LD:w5.cell? ⟨Kq,0,none⟩=some (.int .i64 0):=(ah Km.out 0).trans rfl;have LG:w5.cell? ⟨Kq,1,none⟩=some (.slice none 0 0):=(ah Km.out 1).trans rfl;have LM:=au Km.out 0;have LP:=au Km.out 1)));go_roundg k1
      case measure=>have:=Jz.out;omega
      case rel=>exact⟨(wrap64 (Ku+((aX l0 aB).f0))),(wrap64 (aB+1)),pF,pF,H',⟨by have:=Jz.out;omega⟩,⟨pB⟩⟩
     ·rw[if_neg c4]at H;exact absurd H (by simp)
    ·rw[if_neg c3]at H;exact absurd H (by simp)
   ·rw[if_neg c2]at H;have JV:decide (aB<(l0.length:Int))=false:=decide_eq_false c2;clear c2;obtain rfl:=sj H;go_wp2;go_ret;exact⟨pE,pB⟩
end Go.Proofs.YtjmdfghljlmfmaaGreat.QFnExactMineBlock
