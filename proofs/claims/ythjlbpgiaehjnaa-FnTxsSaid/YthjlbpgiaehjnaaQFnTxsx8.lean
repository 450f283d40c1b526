-- written by this session's program (wip/tools/myprint.py)
import Derived.Test.YthjlbpgiaehjnaaQFnTxsx0
import Derived.Test.YthjlbpgiaehjnaaQFnTxsx6
import Derived.Test.YthjlbpgiaehjnaaQFnTxsx7
-- squeezed
namespace Go.Proofs.Ythjlbpgiaehjnaa.QFnTxs
open Go.RowKit Go.Proofs.YthjlbpgiaehjnaaW.PrintWords Go.Proofs.YthjlbpgiaehjnaaW.PrintLast Go.Proofs.YthjlbpgiaehjnaaW.PrintMore
attribute [local go_sem] kT kX kW lg kV kZ kU kY
set_option linter.unusedVariables false
set_option linter.unusedSimpArgs false
set_option maxHeartbeats 8000000
set_option maxRecDepth 100000
theorem yM {p:Prop} [Decidable p] {α:Type} {x:Option α} {r:α} (h:(if p then x else none)=some r):p∧x=some r:=by
 by_cases c:p
 ·rw[if_pos c]at h;exact⟨c,h⟩
 ·rw[if_neg c]at h;cases h
theorem wU (p:Prop) [Decidable p] {q:Prop} (a:p→q) (b:¬p→q):q:=if h:p then a h else b h
mutual
def fU.j0:Nat→List (eU)→Bool→Option (Int)
 |0,_,_=>none
 |k+1,x0,x32=>if x32=true then(some 2)else(fU.l0 k x0 0)
def fU.l0:Nat→List (eU)→Int→Option (Int)
 |0,_,_=>none
 |k+1,x0,x3=>if 0<(x0.length:Int)then(if x3<(((bW x0 0).f1).length:Int)then((fD.f k ((bW x0 0).f1) x3).bind fun OZ=>(if OZ=0 then(fU.l0 k x0 (wrap64 (x3+1)))else(some OZ)))else((iG.f k ((bW x0 0).f2)).bind fun Qb=>(some Qb)))else(none)
end
def fU.f (k:Nat) (l0:List (eU)):Option (Int):=if 0<(l0.length:Int)then((fT.f ((bW l0 0).f0) 0 65535).bind fun Qa=>(if Qa=true then(if(((bW l0 0).f1).length:Int)>4 then(fU.j0 k l0 true)else(if(((bW l0 0).f2).length:Int)<1 then(fU.j0 k l0 true)else(fU.j0 k l0 (decide ((((bW l0 0).f2).length:Int)>4)))))else(some 3)))else(none)
theorem fU.cO:∀k,(∀y0 y1,aD (fU.j0 k y0 y1) (fU.j0 (k+1) y0 y1))∧(∀y0 y1,aD (fU.l0 k y0 y1) (fU.l0 (k+1) y0 y1))
 |0=>⟨fun _ _ r h=>by simp[fU.j0]at h,fun _ _ r h=>by simp[fU.l0]at h⟩
 |k+1=>by
  obtain⟨Ob,ih1⟩:=fU.cO k
  refine⟨?_,?_⟩
  ·intro y0 y1
   unfold fU.j0
   repeat' with_reducible first|exact Ob _ _|exact ih1 _ _|exact fD.mono _ _ _|exact iG.mono _ _|exact aD.refl _|exact aD.none _|refine aD.ite ?_ ?_|refine aD.bind ?_ (fun _=>?_)
  ·intro y0 y1
   unfold fU.l0
   repeat' with_reducible first|exact Ob _ _|exact ih1 _ _|exact fD.mono _ _ _|exact iG.mono _ _|exact aD.refl _|exact aD.none _|refine aD.ite ?_ ?_|refine aD.bind ?_ (fun _=>?_)
theorem fU.mono:∀a0 k,aD (fU.f k a0) (fU.f (k+1) a0):=by
 intro a0 k;obtain⟨Ob,ih1⟩:=fU.cO k;unfold fU.f;repeat' with_reducible first|exact Ob _ _|exact ih1 _ _|exact fD.mono _ _ _|exact iG.mono _ _|exact aD.refl _|exact aD.none _|refine aD.ite ?_ ?_|refine aD.bind ?_ (fun _=>?_)
theorem fU.calls (k:Nat) (A0:Option Addr) (c0:Nat) (l0:List (eU)) (r:Int) (w:World) (hr0:Kd.C k27 w A0 l0.length l0) (hc0:l0.length≤c0) (h:fU.f k l0=some r):
 Calls Try.prog 53 #[.pointer A0] w fun e w'=>e= .returned (.int .i64 r)∧Below w.heap.size w w':=by
 have MV:=am hr0;have Qk:=am hc0;clear hr0 hc0;have HB:=am (Below.refl w.heap.size w);have H:(if 0<(l0.length:Int)then((fT.f ((bW l0 0).f0) 0 65535).bind fun t20=>(if t20=true then(if(((bW l0 0).f1).length:Int)>4 then(fU.j0 k l0 true)else(if(((bW l0 0).f2).length:Int)<1 then(fU.j0 k l0 true)else(fU.j0 k l0 (decide ((((bW l0 0).f2).length:Int)>4)))))else(some 3)))else(none))=some r:=h;clear h;replace H:=yM H;obtain⟨c20,H⟩:=H;have NV:=dt c20;have NW:decide (0<l0.length)=true:=dt (by omega);clear c20;replace H:=bO H;obtain⟨t20,Nb,H⟩:=H;try dsimp only at H
 have NR:=am Nb;clear Nb;by_cases c21:t20=true
 ·subst c21;rw[if_pos rfl]at H;have Od:=am H;clear H;have MW:0≤(0:Int):=(by omega);have MZ:0<(l0.length:Int):=pD;obtain⟨Nf,Pe,Pq,Pf,Pt,e20,NC,ND,NG,NP,NM,NQ,NN⟩:=lS MV.out 0 MW MZ;cases e20;have PZ:(0<l0.length)=True:=eq_true (by omega);(try rw[z0,zm,az]at NC);(try rw[z0,zm,az]at ND);(try rw[z0,zm,az]at NG);have Pj:=am NM;have Pg:=am NP;clear NM NP;have Pk:=am NN;have Ph:=am NQ;clear NN NQ;replace MW:=eq_true MW;replace MZ:=eq_true MZ;go_enter Try.func53,Try.ntmps53;(go_upto_region 3 with(first|((with_reducible refine gC (f:=81) rfl ?_);refine bG (some 9) rfl rfl Try.func81 (by kernel_rfl) rfl #[.int .i64 ((bW l0 0).f0),.int .i64 0,.int .i64 65535] rfl pA ?_;(with_reducible refine(fT.calls ((bW l0 0).f0) 0 65535 true _ NR.out).mono ?_);rintro e w' ⟨rfl,⟨nd,rfl⟩⟩;refine⟨_,rfl,?_⟩)));(try simp only[Act.put,List.setIfInBounds_toArray,List.set_cons_zero,List.set_cons_succ]);go_cut [32] (fun v32 wc=>∃(kq:Nat) (Oc:Bool),v32= .bool Oc∧au (fU.j0 kq l0 Oc=some r)∧au (kq≤k)∧au (Below w.heap.size w wc))
  case first=>
   have H:=Od.out;clear Od;refine wU ((((bW l0 0).f1).length:Int)>4) ?Ow ?Ot
   case' Ot=>
    intro HV;rw[if_neg HV]at H;have Ns:decide (4<(((bW l0 0).f1).length:Int))=false:=decide_eq_false HV;have Pv:decide (4<((bW l0 0).f1).length)=false:=decide_eq_false (by omega);clear HV;(first|rw[Ns]|(simp only[jy,jE];rw[Ns])|skip);refine wU ((((bW l0 0).f2).length:Int)<1) ?PY ?PV
    case' PV=>intro c23;rw[if_neg c23]at H;have Om:=decide_eq_false c23;have Pw:decide (((bW l0 0).f2).length<1)=false:=decide_eq_false (by omega);clear c23;have H':=am H;clear H;have Po:=trivial
    case' PY=>intro c23;rw[if_pos c23]at H;have Om:=dt c23;have Pw:decide (((bW l0 0).f2).length<1)=true:=dt (by omega);clear c23;have H':=am H;clear H;have Pn:=trivial
   case' Ow=>intro HV;rw[if_pos HV]at H;have Ns:decide (4<(((bW l0 0).f1).length:Int))=true:=dt HV;have Pv:decide (4<((bW l0 0).f1).length)=true:=dt (by omega);clear HV;(first|rw[Ns]|(simp only[jy,jE];rw[Ns])|skip);have H':=am H;clear H;have OL:=trivial
   all_goals
    have Ou:0≤(0:Int):=(by omega);have Ox:0<(l0.length:Int):=pD;first
    |have _:=OL;(try clear NC);(try clear ND);(try clear NG);(try clear hHeld)
    |skip
    obtain⟨Np,NI,NK,NS,NY,e21,fE,Oo,Oq,MO,ML,MP,MN⟩:=lS MV.out 0 Ou Ox;obtain rfl:Nf=Np:=(by injection e21);have Oz:(0<l0.length)=True:=eq_true (by omega);(try rw[z0,zm,az]at fE);(try rw[z0,zm,az]at Oo);(try rw[z0,zm,az]at Oq);replace fE:=cb HB fE;replace Oo:=cb HB Oo;replace Oq:=cb HB Oq;have Oi:=am ML;have Oe:=am MO;clear ML MO;have Oj:=am MN;have Og:=am MP;clear MN MP;replace Ou:=eq_true Ou;replace Ox:=eq_true Ox;go_wp2;go_meet;first
    |(first|(have _:=OL)|(have _:=Pn))
     case rel=>exact⟨_,(true),pF,H',⟨by first|omega|exact Nat.le_refl _⟩,⟨pB⟩⟩
    |have _:=Po
     case rel=>exact⟨_,(decide ((((bW l0 0).f2).length:Int)>4)),pF,H',⟨by first|omega|exact Nat.le_refl _⟩,⟨pB⟩⟩
  case rest=>
   clear Od;(try clear c20);(try clear NV);(try clear NW);(try clear c21);(try clear NC);(try clear ND);(try clear NG);(try clear MW);(try clear MZ);obtain⟨kq,Oc,rfl,HA,OI,HB⟩:=hcut;cases kq with
   |zero=>exact absurd HA.out (by simp[fU.j0])
   |succ OX=>
    have H:=HA.out;clear HA;simp only[fU.j0]at H;by_cases c24:Oc=true
    ·subst c24;rw[if_pos rfl]at H;obtain rfl:=sj H;go_wp2;go_ret;exact⟨pE,pB⟩
    ·replace c24:=Bool.eq_false_iff.mpr c24;subst c24;rw[if_neg (show ¬(false=true) by decide)]at H;have H':=am H;clear H;go_wp2;go_loopg [3] OX (fun kq v3 w'=>∃(Na:Int),v3= .int .i64 Na∧au (fU.l0 kq l0 Na=some r)∧au (kq≤OX)∧au (Below w.heap.size w w'))
     case atStart=>exact⟨(0),pF,H',⟨Nat.le_refl _⟩,⟨pB⟩⟩
     case round=>
      clear H';(try clear c20);(try clear NV);(try clear NW);(try clear c21);(try clear c24);(try clear NC);(try clear ND);(try clear NG);(try clear MW);(try clear MZ);obtain⟨Na,rfl,HA,OJ,HB⟩:=hrel;cases gk with
      |zero=>exact absurd HA.out (by simp[fU.l0])
      |succ k2=>
       have H:=HA.out;clear HA;simp only[fU.l0]at H;replace H:=yM H;obtain⟨OW,H⟩:=H;have Qp:=dt OW;have Qq:decide (0<l0.length)=true:=dt (by omega);clear OW;by_cases NA:Na<(((bW l0 0).f1).length:Int)
       ·rw[if_pos NA]at H;have Px:=dt NA;clear NA;replace H:=bO H;obtain⟨t21,Nc,H⟩:=H;(try dsimp only at H);have Nv:=am Nc;clear Nc;by_cases Nt:t21=0
        ·rw[if_pos Nt]at H;have Pz:=beq_iff_eq.mpr Nt;have Py:=bne_eq_false_iff_eq.mpr Nt;clear Nt;have H':=am H;clear H;have MR:0≤(0:Int):=(by omega);have q22:0<(l0.length:Int):=pD;obtain⟨Np,NI,NK,NS,NY,e21,MB,MC,ME,MO,ML,MP,MN⟩:=lS MV.out 0 MR q22;obtain rfl:Nf=Np:=(by injection e21);have Oz:(0<l0.length)=True:=eq_true (by omega);(try rw[z0,zm,az]at MB);(try rw[z0,zm,az]at MC);(try rw[z0,zm,az]at ME);replace MB:=cb HB MB;replace MC:=cb HB MC;replace ME:=cb HB ME;have Oi:=am ML;have Oe:=am MO;clear ML MO;have Oj:=am MN;have Og:=am MP;clear MN MP;replace MR:=eq_true MR;replace q22:=eq_true q22;have MS:0≤(0:Int):=(by omega);have MU:0<(l0.length:Int):=pD;(try clear MB);(try clear hHeld);obtain⟨NJ,OC,OU,OD,OV,e22,MQ,MF,MG,Nl,Ng,Nn,Nh⟩:=lS MV.out 0 MS MU;obtain rfl:Nf=NJ:=(by injection e22);have OY:(0<l0.length)=True:=eq_true (by omega);(try rw[z0,zm,az]at MQ);(try rw[z0,zm,az]at MF);(try rw[z0,zm,az]at MG);replace MQ:=cb HB MQ;replace MF:=cb HB MF;replace MG:=cb HB MG;have NU:=am Ng;have NT:=am Nl;clear Ng Nl;have Ol:=am Nh;have Oh:=am Nn;clear Nh Nn;replace MS:=eq_true MS;replace MU:=eq_true MU;have aL:=sj (MC.symm.trans MF);(injection aL with aL MK MJ);subst aL;subst MJ;clear MK;have aL:=sj (ME.symm.trans MG);(injection aL with aL MK MJ);subst aL;subst MJ;clear MK;(go_wp2_with (first|((with_reducible refine gC (f:=101) rfl ?_);refine bG (some 47) rfl rfl Try.func101 (by kernel_rfl) rfl #[.slice NI ((bW l0 0).f1).length NK,.int .i64 Na] rfl pA ?_;(with_reducible refine(fD.calls k2 _ _ ((bW l0 0).f1) Na t21 _ ?aR ?aS Nv.out).mono ?_);(case aR=>exact pC (Kd.dV NU.out HB.out));(case aS=>exact NT.out);rintro e w' ⟨rfl,⟨nd,rfl⟩⟩;refine⟨_,rfl,?_⟩)));go_roundg k2
         case measure=>have:=OI.out;have:=OJ.out;omega
         case rel=>exact⟨(wrap64 (Na+1)),pF,H',⟨by have:=OI.out;have:=OJ.out;omega⟩,⟨pB⟩⟩
        ·rw[if_neg Nt]at H;have Pz:=beq_eq_false_iff_ne.mpr Nt;have Py:=bne_iff_ne.mpr Nt;obtain rfl:=sj H;have MR:0≤(0:Int):=(by omega);have q22:0<(l0.length:Int):=pD;obtain⟨Np,NI,NK,NS,NY,e21,MB,MC,ME,MO,ML,MP,MN⟩:=lS MV.out 0 MR q22;obtain rfl:Nf=Np:=(by injection e21);have Oz:(0<l0.length)=True:=eq_true (by omega);(try rw[z0,zm,az]at MB);(try rw[z0,zm,az]at MC);(try rw[z0,zm,az]at ME);replace MB:=cb HB MB;replace MC:=cb HB MC;replace ME:=cb HB ME;have Oi:=am ML;have Oe:=am MO;clear ML MO;have Oj:=am MN;have Og:=am MP;clear MN MP;replace MR:=eq_true MR;replace q22:=eq_true q22;have MS:0≤(0:Int):=(by omega);have MU:0<(l0.length:Int):=pD;(try clear MB);(try clear hHeld);obtain⟨NJ,OC,OU,OD,OV,e22,MQ,MF,MG,Nl,Ng,Nn,Nh⟩:=lS MV.out 0 MS MU;obtain rfl:Nf=NJ:=(by injection e22);have OY:(0<l0.length)=True:=eq_true (by omega);(try rw[z0,zm,az]at MQ);(try rw[z0,zm,az]at MF);(try rw[z0,zm,az]at MG);replace MQ:=cb HB MQ;replace MF:=cb HB MF;replace MG:=cb HB MG;have NU:=am Ng;have NT:=am Nl;clear Ng Nl;have Ol:=am Nh;have Oh:=am Nn;clear Nh Nn;replace MS:=eq_true MS;replace MU:=eq_true MU;have aL:=sj (MC.symm.trans MF);(injection aL with aL MK MJ);subst aL;subst MJ;clear MK;have aL:=sj (ME.symm.trans MG);(injection aL with aL MK MJ);subst aL;subst MJ;clear MK;(go_wp2_with (first|((with_reducible refine gC (f:=101) rfl ?_);refine bG (some 47) rfl rfl Try.func101 (by kernel_rfl) rfl #[.slice NI ((bW l0 0).f1).length NK,.int .i64 Na] rfl pA ?_;(with_reducible refine(fD.calls k2 _ _ ((bW l0 0).f1) Na t21 _ ?aR ?aS Nv.out).mono ?_);(case aR=>exact pC (Kd.dV NU.out HB.out));(case aS=>exact NT.out);rintro e w' ⟨rfl,⟨nd,rfl⟩⟩;refine⟨_,rfl,?_⟩)));go_ret;exact⟨pE,pB⟩
       ·rw[if_neg NA]at H;have Px:=decide_eq_false NA;clear NA;replace H:=bO H;obtain⟨t21,Nc,H⟩:=H;(try dsimp only at H);have Nv:=am Nc;clear Nc;obtain rfl:=sj H;have MR:0≤(0:Int):=(by omega);have q22:0<(l0.length:Int):=pD;obtain⟨Np,NI,NK,NS,NY,e21,MB,MC,ME,MO,ML,MP,MN⟩:=lS MV.out 0 MR q22;obtain rfl:Nf=Np:=(by injection e21);have Oz:(0<l0.length)=True:=eq_true (by omega);(try rw[z0,zm,az]at MB);(try rw[z0,zm,az]at MC);(try rw[z0,zm,az]at ME);replace MB:=cb HB MB;replace MC:=cb HB MC;replace ME:=cb HB ME;have Oi:=am ML;have Oe:=am MO;clear ML MO;have Oj:=am MN;have Og:=am MP;clear MN MP;replace MR:=eq_true MR;replace q22:=eq_true q22;have MS:0≤(0:Int):=(by omega);have MU:0<(l0.length:Int):=pD;(try clear MB);(try clear hHeld);obtain⟨NJ,OC,OU,OD,OV,e22,MQ,MF,MG,Nl,Ng,Nn,Nh⟩:=lS MV.out 0 MS MU;obtain rfl:Nf=NJ:=(by injection e22);have OY:(0<l0.length)=True:=eq_true (by omega);(try rw[z0,zm,az]at MQ);(try rw[z0,zm,az]at MF);(try rw[z0,zm,az]at MG);replace MQ:=cb HB MQ;replace MF:=cb HB MF;replace MG:=cb HB MG;have NU:=am Ng;have NT:=am Nl;clear Ng Nl;have Ol:=am Nh;have Oh:=am Nn;clear Nh Nn;replace MS:=eq_true MS;replace MU:=eq_true MU;have aL:=sj (MC.symm.trans MF);(injection aL with aL MK MJ);subst aL;subst MJ;clear MK;have aL:=sj (ME.symm.trans MG);(injection aL with aL MK MJ);subst aL;subst MJ;clear MK;(go_wp2_with (first|((with_reducible refine gC (f:=102) rfl ?_);refine bG (some 55) rfl rfl Try.func102 (by kernel_rfl) rfl #[.slice NS ((bW l0 0).f2).length NY] rfl pA ?_;(with_reducible refine(iG.calls k2 _ _ ((bW l0 0).f2) t21 _ ?aR ?aS Nv.out).mono ?_);(case aR=>exact pC (Kd.dV Ol.out HB.out));(case aS=>exact Oh.out);rintro e w' ⟨rfl,⟨nd,rfl⟩⟩;refine⟨_,rfl,?_⟩)));go_ret;exact⟨pE,pB⟩
 ·replace c21:=Bool.eq_false_iff.mpr c21;subst c21;rw[if_neg (show ¬(false=true) by decide)]at H;obtain rfl:=sj H;have MW:0≤(0:Int):=(by omega);have MZ:0<(l0.length:Int):=pD;obtain⟨Nf,Pe,Pq,Pf,Pt,e20,NC,ND,NG,NP,NM,NQ,NN⟩:=lS MV.out 0 MW MZ;cases e20;have PZ:(0<l0.length)=True:=eq_true (by omega);(try rw[z0,zm,az]at NC);(try rw[z0,zm,az]at ND);(try rw[z0,zm,az]at NG);have Pj:=am NM;have Pg:=am NP;clear NM NP;have Pk:=am NN;have Ph:=am NQ;clear NN NQ;replace MW:=eq_true MW;replace MZ:=eq_true MZ;go_enter Try.func53,Try.ntmps53;(go_wp2_with (first|((with_reducible refine gC (f:=81) rfl ?_);refine bG (some 9) rfl rfl Try.func81 (by kernel_rfl) rfl #[.int .i64 ((bW l0 0).f0),.int .i64 0,.int .i64 65535] rfl pA ?_;(with_reducible refine(fT.calls ((bW l0 0).f0) 0 65535 false _ NR.out).mono ?_);rintro e w' ⟨rfl,⟨nd,rfl⟩⟩;refine⟨_,rfl,?_⟩)));go_ret;exact⟨pE,pB⟩
def lu.f (k:Nat) (MI:Int) (Mw:List (bf)) (Mx:List (bH)):Option (Int):=fU.f k [(⟨MI,Mw,Mx⟩:eU)]
theorem lu.mono:∀(MI:Int) (Mw:List (bf)) (Mx:List (bH)) (k:Nat),aD (lu.f k MI Mw Mx) (lu.f (k+1) MI Mw Mx):=fun MI Mw Mx k=>fU.mono [(⟨MI,Mw,Mx⟩:eU)] k
set_option maxHeartbeats 8000000 in
theorem lu.calls (k:Nat) (MI:Int) (OA:Option Addr) (OQ:Nat) (Mw:List (bf)) (OB:Option Addr) (OT:Nat) (Mx:List (bH)) (r:Int) (w:World) (PN:Kd.C bZ w OA Mw.length Mw) (PE:Mw.length≤OQ) (PO:Kd.C dF w OB Mx.length Mx) (PG:Mx.length≤OT) (h:lu.f k MI Mw Mx=some r) {MX:Addr} (sD:w.cell? MX=some (.int .i64 MI)) (sF:w.cell? ⟨MX.block,MX.off+1,none⟩=some (.slice OA Mw.length OQ)) (sG:w.cell? ⟨MX.block,MX.off+2,none⟩=some (.slice OB Mx.length OT)):
 Calls Try.prog 53 #[.pointer (some MX)] w fun e w'=>e= .returned (.int .i64 r)∧Below w.heap.size w w':=by
 have o0:Kd.C k27 w (some MX) 1 [(⟨MI,Mw,Mx⟩:eU)]:=by
  refine⟨rfl,by decide,fun _=>⟨MX,rfl,fun j p hj=>?_⟩⟩;cases j with
  |succ j=>simp at hj
  |zero=>
   (obtain rfl:(⟨MI,Mw,Mx⟩:eU)=p:=by simpa using hj);refine⟨_,rfl,Am w _ PE PN PG PO,fun i u hu=>?_⟩
   match i,hu with
   |0,hu=>obtain rfl:=sj hu;exact sD
   |1,hu=>obtain rfl:=sj hu;exact sF
   |2,hu=>obtain rfl:=sj hu;exact sG
 exact fU.calls k (some MX) 1 [(⟨MI,Mw,Mx⟩:eU)] r w o0 (Nat.le_refl 1) h
def aI (w0 W:World) (g:Nat) (f0:List Int) (f1:Int) (f2:Bool):Prop:=∃A0 c0,W.heap[g]? =some (.cells #[.slice A0 f0.length c0,.int .i64 f1,.bool f2] 97 (0,0))∧w0.heap.size≤g∧Kd.C (Kd.int .u8) w0 A0 f0.length f0
theorem aI.grown {w0 W:World} {g:Nat} {f0:List Int} {f1:Int} {f2:Bool} {W1:World} {row:Option Nat} (h:aI w0 W g f0 f1 f2) (hw:W.grownBy W1 row) (hne:some g≠row):aI w0 W1 g f0 f1 f2:=by
 obtain⟨A0,c0,hb,hg,hr0⟩:=h;exact⟨A0,c0,iJ hb hw hne,hg,hr0⟩
theorem aI.xB {w0 W:World} {g:Nat} {f0:List Int} {f1:Int} {f2:Bool} {α:Type} {d:Kd α} {e:Nat} {base:Nat} {ok:Nat→Prop} {v:Value} {xs:List α} (h:aI w0 W g f0 f1 f2) (ho:Kd.N d e W base ok v xs) (ht:e≠97):some g≠v.ownBlock:=by
 obtain⟨A0,c0,hb,hg,hr0⟩:=h;exact Kd.wL ho hb ht
theorem aI.fresh {w0 W:World} {g:Nat} {f0:List Int} {f1:Int} {f2:Bool} (h:aI w0 W g f0 f1 f2):∀k,W.heap.size≤k→k≠g:=by
 obtain⟨A0,c0,hb,hg,hr0⟩:=h;exact Kd.gV hb
theorem aI.kept {w0 W:World} {g:Nat} {f0:List Int} {f1:Int} {f2:Bool} {W1:World} {S:Nat→Prop} (h:aI w0 W g f0 f1 f2) (hk:Kept W W1 S) (hne:¬S g):aI w0 W1 g f0 f1 f2:=by
 obtain⟨A0,c0,hb,hg,hr0⟩:=h;exact⟨A0,c0,zS hb hk hne,hg,hr0⟩
theorem aI.below {w0 W:World} {g:Nat} {f0:List Int} {f1:Int} {f2:Bool} {W1:World} (h:aI w0 W g f0 f1 f2) (hw:Below W.heap.size W W1):aI w0 W1 g f0 f1 f2:=h.grown (yL hw none) (by simp)
theorem aI.alloc {w0 W:World} {g:Nat} {f0:List Int} {f1:Int} {f2:Bool} (h:aI w0 W g f0 f1 f2) (o:Obj):aI w0 (W.alloc o) g f0 f1 f2:=h.below (dn (Below.refl _ _) o)
theorem aI.drewN {w0 W:World} {g:Nat} {f0:List Int} {f1:Int} {f2:Bool} (h:aI w0 W g f0 f1 f2) (m:Nat):aI w0 (W.drewN m) g f0 f1 f2:=h
theorem aI.drew {w0 W:World} {g:Nat} {f0:List Int} {f1:Int} {f2:Bool} (h:aI w0 W g f0 f1 f2):aI w0 W.drew g f0 f1 f2:=h
theorem aI.at_ {w0 W:World} {g:Nat} {f0:List Int} {f1:Int} {f2:Bool} {w':World} {m:Nat} (hq:W.drewN m=w') (h:aI w0 W g f0 f1 f2):aI w0 w' g f0 f1 f2:=by subst hq;exact aI.drewN h m
theorem aI.apart {w0 W:World} {g:Nat} {f0:List Int} {f1:Int} {f2:Bool} {α:Type} {d:Kd α} {e:Nat} {base:Nat} {ok:Nat→Prop} {v:Value} {xs:List α} (h:aI w0 W g f0 f1 f2) (ho:d.R e W base ok v xs) (ht:∀q,q∈e::d.E→q≠97):d.R e W base (fun k=>ok k∧k≠g) v xs:=by
 obtain⟨A0,c0,hb,hg,hr0⟩:=h;exact Kd.dL ho hb ht
theorem aI.own_ne {w0 W:World} {g:Nat} {f0:List Int} {f1:Int} {f2:Bool} {α:Type} {d:Kd α} {e:Nat} {base:Nat} {ok:Nat→Prop} {v:Value} {xs:List α} (h:aI w0 W g f0 f1 f2) (ho:d.R e W base ok v xs) (ht:e≠97):some g≠v.ownBlock:=by
 obtain⟨A0,c0,hb,hg,hr0⟩:=h;exact Kd.mH ho hb ht
theorem aI.Dt {w0 W:World} {g:Nat} {f0:List Int} {f1:Int} {f2:Bool} {α:Type} {d:Kd α} {e:Nat} {base:Nat} {ok:Nat→Prop} {v:Value} {xs:List α} (h:aI w0 W g f0 f1 f2) (ho:d.Q e W base ok v xs) (ht:∀q,q∈e::d.E→q≠97):d.Q e W base (fun k=>ok k∧k≠g) v xs:=by
 obtain⟨A0,c0,hb,hg,hr0⟩:=h;exact Kd.tO ho hb ht
theorem aI.EB {w0 W:World} {g:Nat} {f0:List Int} {f1:Int} {f2:Bool} {α:Type} {d:Kd α} {e:Nat} {base:Nat} {ok:Nat→Prop} {v:Value} {xs:List α} (h:aI w0 W g f0 f1 f2) (ho:d.Q e W base ok v xs) (ht:e≠97):some g≠v.ownBlock:=by
 obtain⟨A0,c0,hb,hg,hr0⟩:=h;exact Kd.zM ho hb ht
theorem aI.gq {w0 W:World} {g:Nat} {f0:List Int} {f1:Int} {f2:Bool} {α:Type} {d:Kd α} {e:Nat} {base:Nat} {ok:Nat→Prop} {v:Value} {xs:List α} (h:aI w0 W g f0 f1 f2) (ho:d.S e W base ok v xs) (ht:∀q,q∈e::d.E→q≠97):d.S e W base (fun k=>ok k∧k≠g) v xs:=by
 obtain⟨A0,c0,hb,hg,hr0⟩:=h;exact Kd.iU ho hb ht
theorem aI.sO {w0 W:World} {g:Nat} {f0:List Int} {f1:Int} {f2:Bool} {α:Type} {d:Kd α} {e:Nat} {base:Nat} {ok:Nat→Prop} {v:Value} {xs:List α} (h:aI w0 W g f0 f1 f2) (ho:d.S e W base ok v xs) (ht:e≠97):some g≠v.ownBlock:=by
 obtain⟨A0,c0,hb,hg,hr0⟩:=h;exact Kd.mX ho hb ht
theorem aI.lt {w0 W:World} {g:Nat} {f0:List Int} {f1:Int} {f2:Bool} (h:aI w0 W g f0 f1 f2):g<W.heap.size:=by
 obtain⟨A0,c0,hb,hg,hr0⟩:=h;exact dI hb
theorem aI.ge {w0 W:World} {g:Nat} {f0:List Int} {f1:Int} {f2:Bool} (h:aI w0 W g f0 f1 f2):w0.heap.size≤g:=by
 obtain⟨A0,c0,hb,hg,hr0⟩:=h;exact hg
theorem aI.yP {w0 W:World} {g:Nat} {f0:List Int} {f1:Int} {f2:Bool} {a:Nat} {cs:Array Value} {t:TypeId} {fr:Nat×Nat} (h:aI w0 W g f0 f1 f2) (hb2:W.heap[a]? =some (.cells cs t fr)) (ht:t≠97):g≠a:=by
 obtain⟨A0,c0,hb,hg,hr0⟩:=h;rintro rfl;rw[hb]at hb2;injection hb2 with hb2
 injection hb2 with _ ht2
 exact ht ht2.symm
theorem aI.far {w0 W:World} {g:Nat} {f0:List Int} {f1:Int} {f2:Bool} {p:Addr} (h:aI w0 W g f0 f1 f2) (hne:g≠p.block) (u:Value):aI w0 (W.setCell p u) g f0 f1 f2:=by
 obtain⟨A0,c0,hb,hg,hr0⟩:=h;exact⟨A0,c0,bT hb hne u,hg,hr0⟩
theorem qm {W:World} {g:Nat} {A0:Option Addr} {c0:Nat} {f0:List Int} {f1:Int} {f2:Bool} (h:W.heap[g]? =some (.cells #[.slice A0 f0.length c0,.int .i64 f1,.bool f2] 97 (0,0))):W.cell? ⟨g,0,none⟩=some (.slice A0 f0.length c0):=(aj h 0).trans rfl
theorem qo {W:World} {g:Nat} {A0:Option Addr} {c0:Nat} {f0:List Int} {f1:Int} {f2:Bool} (h:W.heap[g]? =some (.cells #[.slice A0 f0.length c0,.int .i64 f1,.bool f2] 97 (0,0))):W.cell? ⟨g,1,none⟩=some (.int .i64 f1):=(aj h 1).trans rfl
theorem aI.bF {w0 W:World} {g:Nat} {f0:List Int} {f1:Int} {f2:Bool} (h:aI w0 W g f0 f1 f2) (x:Int):aI w0 (W.setCell ⟨g,1,none⟩ (.int .i64 x)) g f0 x f2:=by
 obtain⟨A0,c0,hb,hg,hr0⟩:=h;exact⟨A0,c0,by simpa using vB hb 1 (.int .i64 x),hg,hr0⟩
theorem qp {W:World} {g:Nat} {A0:Option Addr} {c0:Nat} {f0:List Int} {f1:Int} {f2:Bool} (h:W.heap[g]? =some (.cells #[.slice A0 f0.length c0,.int .i64 f1,.bool f2] 97 (0,0))):W.cell? ⟨g,2,none⟩=some (.bool f2):=(aj h 2).trans rfl
theorem aI.gY {w0 W:World} {g:Nat} {f0:List Int} {f1:Int} {f2:Bool} (h:aI w0 W g f0 f1 f2) (x:Bool):aI w0 (W.setCell ⟨g,2,none⟩ (.bool x)) g f0 f1 x:=by
 obtain⟨A0,c0,hb,hg,hr0⟩:=h;exact⟨A0,c0,by simpa using vB hb 2 (.bool x),hg,hr0⟩
theorem aI.new (w0 W:World) (A0:Option Addr) (c0:Nat) (f0:List Int) (f1:Int) (f2:Bool) (hB:Below w0.heap.size w0 W) (hr0:Kd.C (Kd.int .u8) w0 A0 f0.length f0):aI w0 (W.alloc (.cells #[.slice A0 f0.length c0,.int .i64 f1,.bool f2] 97)) W.heap.size f0 f1 f2:=⟨A0,c0,by simpa using heap_alloc_new W _,hB.size,hr0⟩
def jR.f (aB:List Int) (aF:Int) (aO:Bool):Option (Int×Int×Bool):=if aF≥(aB.length:Int)then(some (0,aF,true))else(if 0≤(wrap64 ((wrap64 (aF+1))-1))then(if(wrap64 ((wrap64 (aF+1))-1))<(aB.length:Int)then(some (wrap64 (rd aB (wrap64 ((wrap64 (aF+1))-1))),wrap64 (aF+1),aO))else(none))else(none))
theorem jR.calls (g:Nat) (aB:List Int) (aF:Int) (aO:Bool) (r1:Int) (r2:Int) (r3:Bool) (w0 w:World) (hI:aI w0 w g aB aF aO) (hB:Below w0.heap.size w0 w) (h:jR.f aB aF aO=some (r1,r2,r3)):
 Calls Try.prog 129 #[.pointer (some ⟨g,0,none⟩)] w fun e w'=>e= .returned (.int .i64 r1)∧aI w0 w' g aB r2 r3∧Below w0.heap.size w0 w'∧aC w w' g none:=by
 have HI0:=am hI;have HK:=am (aC.refl w g none);have HL:=am hB.size;clear hI;have HW0:=am hB.size;have HB:=am hB;clear hB;have H:(if aF≥(aB.length:Int)then(some (0,aF,true))else(if 0≤(wrap64 ((wrap64 (aF+1))-1))then(if(wrap64 ((wrap64 (aF+1))-1))<(aB.length:Int)then(some (wrap64 (rd aB (wrap64 ((wrap64 (aF+1))-1))),wrap64 (aF+1),aO))else(none))else(none)))=some (r1,r2,r3):=h;clear h;by_cases c2:aF≥(aB.length:Int)
 ·rw[if_pos c2]at H;have PD:decide ((aB.length:Int)≤aF)=true:=dt c2;clear c2;simp only[Option.some.injEq,Prod.mk.injEq]at H;obtain⟨rfl,rfl,rfl⟩:=H;obtain⟨Qi,Qu,Ny,PK,Qm⟩:=HI0.out;have Qz:=qm Ny;have QA:=qo Ny;have QB:=qp Ny;have QH:=aM Ny 1;have QI:=aM Ny 2;clear Ny PK;go_enter Try.func129,Try.ntmps129;go_wp2;(repeat(go_quiet (fail);try go_wp2));go_ret;exact⟨pE,oU,oQ,bV⟩
 ·rw[if_neg c2]at H;have PD:decide ((aB.length:Int)≤aF)=false:=decide_eq_false c2;clear c2;obtain⟨Nu,NZ⟩:∃j_:Int,(wrap64 ((wrap64 (aF+1))-1))=j_:=⟨_,rfl⟩;(replace H:(if 0≤(Nu)then(if(Nu)<(aB.length:Int)then(some (wrap64 (rd aB (Nu)),wrap64 (aF+1),aO))else(none))else(none))=some (r1,r2,r3):=by first|(rw[NZ]at H;exact H)|(simp only[NZ]at H ⊢;exact H));have QL:(IntKind.i64.wrap ((wrap64 (aF+1))-1))=Nu:=(jy _).trans NZ;replace H:=yM H;obtain⟨c5,H⟩:=H;have Qr:=dt c5;clear c5;replace H:=yM H;obtain⟨c6,H⟩:=H;have Qs:=dt c6;clear c6;simp only[Option.some.injEq,Prod.mk.injEq]at H;obtain⟨rfl,rfl,rfl⟩:=H;obtain⟨Qj,Qv,Nz,PL,Pm⟩:=HI0.out;have QC:=qm Nz;have QD:=qo Nz;have QE:=qp Nz;have QJ:=aM Nz 1;have QK:=aM Nz 2;clear Nz PL;have Ov:0≤((Nu):Int):=pD;have Oy:(Nu)<(aB.length:Int):=pD;obtain⟨Pp,e262,NH⟩:=Kd.kK Pm (Nu) Ov Oy;cases e262;have Oa:Pp.block≠g:=Nat.ne_of_lt (Nat.lt_of_lt_of_le (by have:=World.block_lt_of_cell? _ _ NH;first|rwa [add_block]at this|exact this) (aI.ge HI0.out));replace NH:=uq HB.out NH;replace NH:=(cell_far (p:=⟨g,1,none⟩) (by first|(rw[add_block];exact Oa)|(show(Addr.add _ _).block≠_;rw[add_block];exact Oa)|exact Oa) (.int .i64 (wrap64 (aF+1)))).trans NH;(try have QM:=fun(n_:Nat)=>(show(((w.drewN n_).setCell ⟨g,1,none⟩ (.int .i64 (wrap64 (aF+1))))).cell? _=some _ from NH));clear Oa;replace Ov:=eq_true Ov;replace Oy:=eq_true Oy;go_enter Try.func129,Try.ntmps129;go_wp2;(repeat(go_quiet (fail);try go_wp2));go_ret;exact⟨by first|rfl|(simp[pG,pI]<;>rfl)|(simp only[←NZ];first|rfl|(simp[pG,pI]<;>rfl))|(simp[*,pG,pI]<;>rfl),oU,oQ,bV⟩
def gL.f (aB:List Int) (aF:Int) (aO:Bool):Option (Int×Int×Bool):=(jR.f aB aF aO).bind fun Al=>(if Al.1<253 then(some (Al.1,Al.2.1,Al.2.2))else((jR.f aB Al.2.1 Al.2.2).bind fun MH=>((jR.f aB MH.2.1 MH.2.2).bind fun aP=>(if Al.1=253 then(if(wrap64 (MH.1+(wrap64 (256*aP.1))))<253 then(some (wrap64 (MH.1+(wrap64 (256*aP.1))),aP.2.1,true))else(some (wrap64 (MH.1+(wrap64 (256*aP.1))),aP.2.1,aP.2.2)))else(some (wrap64 (MH.1+(wrap64 (256*aP.1))),aP.2.1,true))))))
theorem gL.calls (g:Nat) (aB:List Int) (aF:Int) (aO:Bool) (r1:Int) (r2:Int) (r3:Bool) (w0 w:World) (hI:aI w0 w g aB aF aO) (hB:Below w0.heap.size w0 w) (h:gL.f aB aF aO=some (r1,r2,r3)):
 Calls Try.prog 82 #[.pointer (some ⟨g,0,none⟩)] w fun e w'=>e= .returned (.int .i64 r1)∧aI w0 w' g aB r2 r3∧Below w0.heap.size w0 w'∧aC w w' g none:=by
 have aG:=am hI;have HK:=am (aC.refl w g none);have HL:=am hB.size;clear hI;have Qn:=am hB.size;have HB:=am hB;clear hB;have H:((jR.f aB aF aO).bind fun Al=>(if Al.1<253 then(some (Al.1,Al.2.1,Al.2.2))else((jR.f aB Al.2.1 Al.2.2).bind fun MH=>((jR.f aB MH.2.1 MH.2.2).bind fun aP=>(if Al.1=253 then(if(wrap64 (MH.1+(wrap64 (256*aP.1))))<253 then(some (wrap64 (MH.1+(wrap64 (256*aP.1))),aP.2.1,true))else(some (wrap64 (MH.1+(wrap64 (256*aP.1))),aP.2.1,aP.2.2)))else(some (wrap64 (MH.1+(wrap64 (256*aP.1))),aP.2.1,true)))))))=some (r1,r2,r3):=h;clear h;replace H:=bO H;obtain⟨⟨t20,t21,t22⟩,Nb,H⟩:=H;try dsimp only at H
 have NR:=am Nb;clear Nb;refine wU (t20<253) ?PW ?PS
 case' PS=>
  intro c20;rw[if_neg c20]at H;have NV:=decide_eq_false c20;clear c20;replace H:=bO H;obtain⟨⟨t23,t24,t25⟩,Nc,H⟩:=H;try dsimp only at H
  have Nv:=am Nc;clear Nc;replace H:=bO H;obtain⟨⟨t26,t27,t28⟩,OE,H⟩:=H;try dsimp only at H
  have OG:=am OE;clear OE;refine wU (t20=253) ?PX ?PU
  case' PU=>intro c21;rw[if_neg c21]at H;have Ns:=beq_eq_false_iff_ne.mpr c21;have NW:=bne_iff_ne.mpr c21;simp only[Option.some.injEq,Prod.mk.injEq]at H;obtain⟨rfl,rfl,rfl⟩:=H;have OP:=trivial
  case' PX=>
   intro c21;rw[if_pos c21]at H;have Ns:=beq_iff_eq.mpr c21;have NW:=bne_eq_false_iff_eq.mpr c21;clear c21;refine wU ((wrap64 (t23+(wrap64 (256*t26))))<253) ?Ow ?Ot
   case' Ot=>intro HV;rw[if_neg HV]at H;have Om:=decide_eq_false HV;clear HV;simp only[Option.some.injEq,Prod.mk.injEq]at H;obtain⟨rfl,rfl,rfl⟩:=H;have OO:=trivial
   case' Ow=>intro HV;rw[if_pos HV]at H;have Om:=dt HV;clear HV;simp only[Option.some.injEq,Prod.mk.injEq]at H;obtain⟨rfl,rfl,rfl⟩:=H;have OM:=trivial
 case' PW=>intro c20;rw[if_pos c20]at H;have NV:=dt c20;clear c20;simp only[Option.some.injEq,Prod.mk.injEq]at H;obtain⟨rfl,rfl,rfl⟩:=H;have Qo:=trivial
 all_goals
  go_enter Try.func82,Try.ntmps82;go_wp2_with (first|((with_reducible refine gC (f:=129) rfl ?_);refine bG (some 7) rfl rfl Try.func129 (by kernel_rfl) rfl #[.pointer (some ⟨g,0,none⟩)] rfl pA ?_;(with_reducible refine(jR.calls g aB aF aO t20 t21 t22 w0 _ ?aR ?aS NR.out).mono ?_);(case aR=>exact xU);(case aS=>exact xS);rintro e QN ⟨rfl,hi,hb,hk⟩;refine⟨_,rfl,?_⟩;have n_:=t3 (aC.trans bV hk (.inl rfl)) (hb) (hi);clear HK HB aG;obtain⟨HK,HB,aG⟩:=n_;(try clear hb);(try clear hk);(try clear hi))|((first|(have _:=OM)|(have _:=OO)|(have _:=OP));(with_reducible refine gC (f:=129) rfl ?_);refine bG (some 12) rfl rfl Try.func129 (by kernel_rfl) rfl #[.pointer (some ⟨g,0,none⟩)] rfl pA ?_;(with_reducible refine(jR.calls g aB t21 t22 t23 t24 t25 w0 _ ?aR ?aS Nv.out).mono ?_);(case aR=>exact xU);(case aS=>exact xS);rintro e QO ⟨rfl,hi,hb,hk⟩;refine⟨_,rfl,?_⟩;have n_:=t3 (aC.trans bV hk (.inl rfl)) (hb) (hi);clear HK HB aG;obtain⟨HK,HB,aG⟩:=n_;(try clear hb);(try clear hk);(try clear hi))|(have _:=OO;(with_reducible refine gC (f:=129) rfl ?_);refine bG (some 15) rfl rfl Try.func129 (by kernel_rfl) rfl #[.pointer (some ⟨g,0,none⟩)] rfl pA ?_;(with_reducible refine(jR.calls g aB t24 t25 t26 t27 t28 w0 _ ?aR ?aS OG.out).mono ?_);(case aR=>exact xU);(case aS=>exact xS);rintro e Qg ⟨rfl,hi,hb,hk⟩;refine⟨_,rfl,?_⟩;have n_:=t3 (aC.trans bV hk (.inl rfl)) (hb) (hi);clear HK HB aG;obtain⟨HK,HB,aG⟩:=n_;(try clear hb);(try clear hk);(try clear hi))|((first|(have _:=OM)|(have _:=OP));(with_reducible refine gC (f:=129) rfl ?_);refine bG (some 15) rfl rfl Try.func129 (by kernel_rfl) rfl #[.pointer (some ⟨g,0,none⟩)] rfl pA ?_;(with_reducible refine(jR.calls g aB t24 t25 t26 t27 t28 w0 _ ?aR ?aS OG.out).mono ?_);(case aR=>exact xU);(case aS=>exact xS);rintro e Qg ⟨rfl,hi,hb,hk⟩;refine⟨_,rfl,?_⟩;have n_:=t3 (aC.trans bV hk (.inl rfl)) (hb) (hi);clear HK HB aG;obtain⟨HK,HB,aG⟩:=n_;(try clear hb);(try clear hk);(try clear hi);obtain⟨Qh,Qt,Nw,PI,Ql⟩:=aG.out;have Qw:=qm Nw;have Qx:=qo Nw;have Qy:=qp Nw;have QF:=aM Nw 1;have QG:=aM Nw 2;clear Nw PI))
  go_ret;exact⟨pE,xU,xS,bV⟩
def nO.f (aB:List Int) (aF:Int) (aO:Bool):Option (Int×Int×Bool):=(gL.f aB aF aO).bind fun Nq=>((gL.f aB Nq.2.1 Nq.2.2).bind fun Nr=>(some (wrap64 (Nq.1+(wrap64 (65536*Nr.1))),Nr.2.1,Nr.2.2)))
theorem nO.calls (g:Nat) (aB:List Int) (aF:Int) (aO:Bool) (r1:Int) (r2:Int) (r3:Bool) (w0 w:World) (hI:aI w0 w g aB aF aO) (hB:Below w0.heap.size w0 w) (h:nO.f aB aF aO=some (r1,r2,r3)):
 Calls Try.prog 118 #[.pointer (some ⟨g,0,none⟩)] w fun e w'=>e= .returned (.int .i64 r1)∧aI w0 w' g aB r2 r3∧Below w0.heap.size w0 w'∧aC w w' g none:=by
 have HI0:=am hI;have HK:=am (aC.refl w g none);have HL:=am hB.size;clear hI;have HW0:=am hB.size;have HB:=am hB;clear hB;have H:((gL.f aB aF aO).bind fun Nq=>((gL.f aB Nq.2.1 Nq.2.2).bind fun Nr=>(some (wrap64 (Nq.1+(wrap64 (65536*Nr.1))),Nr.2.1,Nr.2.2))))=some (r1,r2,r3):=h;clear h;replace H:=bO H;obtain⟨⟨Qc,Pb,Pd⟩,Nb,H⟩:=H;try dsimp only at H
 have A2:=am Nb;clear Nb;replace H:=bO H;obtain⟨⟨Qd,Qe,Qf⟩,OH,H⟩:=H;try dsimp only at H
 have A3:=am OH;clear OH;simp only[Option.some.injEq,Prod.mk.injEq]at H;obtain⟨rfl,rfl,rfl⟩:=H;go_enter Try.func118,Try.ntmps118;go_wp2_with (first|((with_reducible refine gC (f:=82) rfl ?_);refine bG (some 5) rfl rfl Try.func82 (by kernel_rfl) rfl #[.pointer (some ⟨g,0,none⟩)] rfl pA ?_;(with_reducible refine(gL.calls g aB aF aO Qc Pb Pd w0 _ ?aR ?aS A2.out).mono ?_);(case aR=>exact oU);(case aS=>exact oQ);rintro e w4 ⟨rfl,hi,hb,hk⟩;refine⟨_,rfl,?_⟩;have n_:=t3 (aC.trans bV hk (.inl rfl)) (hb) (hi);clear HK HB HI0;obtain⟨HK,HB,HI0⟩:=n_;(try clear hb);(try clear hk);(try clear hi))|((with_reducible refine gC (f:=82) rfl ?_);refine bG (some 8) rfl rfl Try.func82 (by kernel_rfl) rfl #[.pointer (some ⟨g,0,none⟩)] rfl pA ?_;(with_reducible refine(gL.calls g aB Pb Pd Qd Qe Qf w0 _ ?aR ?aS A3.out).mono ?_);(case aR=>exact oU);(case aS=>exact oQ);rintro e w5 ⟨rfl,hi,hb,hk⟩;refine⟨_,rfl,?_⟩;have n_:=t3 (aC.trans bV hk (.inl rfl)) (hb) (hi);clear HK HB HI0;obtain⟨HK,HB,HI0⟩:=n_;(try clear hb);(try clear hk);(try clear hi)))
 go_ret;exact⟨pE,oU,oQ,bV⟩
end Go.Proofs.Ythjlbpgiaehjnaa.QFnTxs
