-- written by this session's program (wip/tools/myprint.py)
import Derived.Test.YthjlbpgiaehjnaaQFnTxsx0
-- squeezed
namespace Go.Proofs.Ythjlbpgiaehjnaa.QFnTxs
open Go.RowKit Go.Proofs.YthjlbpgiaehjnaaW.PrintWords Go.Proofs.YthjlbpgiaehjnaaW.PrintLast Go.Proofs.YthjlbpgiaehjnaaW.PrintMore
attribute [local go_sem] kT kX kW lg kV kZ kU kY
set_option linter.unusedVariables false
set_option linter.unusedSimpArgs false
set_option maxHeartbeats 8000000
set_option maxRecDepth 100000
theorem uh {p:Prop} [Decidable p] {α:Type} {x:Option α} {r:α} (h:(if p then x else none)=some r):p∧x=some r:=by
 by_cases c:p
 ·rw[if_pos c]at h;exact⟨c,h⟩
 ·rw[if_neg c]at h;cases h
theorem bc1 (p:Prop) [Decidable p] {q:Prop} (a:p→q) (b:¬p→q):q:=if h:p then a h else b h
def vI.f (l0:List Int):Option (Bool):=some (decide ((l0.length:Int)>1048576))
theorem vI.calls (A0:Option Addr) (c0:Nat) (l0:List Int) (r:Bool) (w:World) (hr0:Kd.C (Kd.int .u8) w A0 l0.length l0) (hc0:l0.length≤c0) (h:vI.f l0=some r):
 Calls Try.prog 10 #[.slice A0 l0.length c0] w fun e w'=>e= .returned (.bool r)∧gD w w':=by
 have MJ:=am hr0;have Nb:=am hc0;clear hr0 hc0;have H:(some (decide ((l0.length:Int)>1048576)))=some r:=h;clear h;obtain rfl:=sj H;go_enter Try.func10,Try.ntmps10;go_wp2;go_ret;exact⟨by first|rfl|(simp;done)|(simp[*];done),pW⟩
def gW.f (a0:Int) (a1:Int) (a2:Int):Option (Bool):=if a0≥a1 then(some (decide (a0≤a2)))else(some false)
theorem gW.calls (a0:Int) (a1:Int) (a2:Int) (r:Bool) (w:World) (h:gW.f a0 a1 a2=some r):
 Calls Try.prog 57 #[.int .i64 a0,.int .i64 a1,.int .i64 a2] w fun e w'=>e= .returned (.bool r)∧gD w w':=by
 have H:(if a0≥a1 then(some (decide (a0≤a2)))else(some false))=some r:=h;clear h;refine bc1 (a0≥a1) ?NV ?NR
 case' NR=>intro c20;rw[if_neg c20]at H;have Nn:decide (a1≤a0)=false:=decide_eq_false c20;clear c20;obtain rfl:=sj H;have PU:=trivial
 case' NV=>intro c20;rw[if_pos c20]at H;have Nn:decide (a1≤a0)=true:=dt c20;clear c20;obtain rfl:=sj H;have PS:=trivial
 all_goals go_enter Try.func57,Try.ntmps57;go_wp2;go_ret;exact⟨by first|rfl|(simp;done)|(simp[*];done),pW⟩
def sJ.f (a0:Int):Option (Bool):=(gW.f a0 0 2147483646).bind fun Nv=>(some Nv)
theorem sJ.calls (a0:Int) (r:Bool) (w:World) (h:sJ.f a0=some r):
 Calls Try.prog 91 #[.int .i64 a0] w fun e w'=>e= .returned (.bool r)∧gD w w':=by
 have H:((gW.f a0 0 2147483646).bind fun Nv=>(some Nv))=some r:=h;clear h;replace H:=bO H;obtain⟨Nv,aP,H⟩:=H;try dsimp only at H
 have A2:=am aP;clear aP;obtain rfl:=sj H;go_enter Try.func91,Try.ntmps91;go_wp2_with (first|((with_reducible refine gC (f:=57) rfl ?_);refine bG (some 4) rfl rfl Try.func57 (by kernel_rfl) rfl #[.int .i64 a0,.int .i64 0,.int .i64 2147483646] rfl pA ?_;(with_reducible refine(gW.calls a0 0 2147483646 Nv _ A2.out).mono ?_);rintro e w' ⟨rfl,⟨nd,rfl⟩⟩;refine⟨_,rfl,?_⟩))
 go_ret;exact⟨by first|rfl|(simp;done)|(simp[*];done),pW⟩
def qJ.f (a0:Int):Option (Bool):=(gW.f a0 0 9999).bind fun Nw=>(some (!Nw))
theorem qJ.calls (a0:Int) (r:Bool) (w:World) (h:qJ.f a0=some r):
 Calls Try.prog 108 #[.int .i64 a0] w fun e w'=>e= .returned (.bool r)∧gD w w':=by
 have H:((gW.f a0 0 9999).bind fun Nw=>(some (!Nw)))=some r:=h;clear h;replace H:=bO H;obtain⟨Nw,aP,H⟩:=H;try dsimp only at H
 have A2:=am aP;clear aP;obtain rfl:=sj H;go_enter Try.func108,Try.ntmps108;go_wp2_with (first|((with_reducible refine gC (f:=57) rfl ?_);refine bG (some 4) rfl rfl Try.func57 (by kernel_rfl) rfl #[.int .i64 a0,.int .i64 0,.int .i64 9999] rfl pA ?_;(with_reducible refine(gW.calls a0 0 9999 Nw _ A2.out).mono ?_);rintro e w' ⟨rfl,⟨nd,rfl⟩⟩;refine⟨_,rfl,?_⟩))
 go_ret;exact⟨by first|rfl|(simp;done)|(simp[*];done),pW⟩
def ug.f (aF:Int) (aO:Int) (aB:List Int) (l1:List (bf)):Option (Bool):=if 0<(l1.length:Int)then(if((aQ l1 0).f0)=aF then(some (((aQ l1 0).f1)==aO))else(some false))else(none)
theorem ug.calls (aF:Int) (aO:Int) (aR:Option Addr) (aS:Nat) (aB:List Int) (A1:Option Addr) (c1:Nat) (l1:List (bf)) (r:Bool) (w:World) (Ns:Kd.C (Kd.int .i64) w aR aB.length aB) (Np:aB.length≤aS) (hr1:Kd.C bZ w A1 l1.length l1) (hc1:l1.length≤c1) (h:ug.f aF aO aB l1=some r):
 Calls Try.prog 110 #[.agg #[.int .i64 aF,.int .i64 aO,.slice aR aB.length aS],.pointer A1] w fun e w'=>e= .returned (.bool r)∧Below w.heap.size w w':=by
 have OE:=Try.underlying34;have PN:=am Ns;have PI:=am Np;clear Ns Np;have HR1:=am hr1;have Oi:=am hc1;clear hr1 hc1;have HB:=am (Below.refl w.heap.size w);have H:(if 0<(l1.length:Int)then(if((aQ l1 0).f0)=aF then(some (((aQ l1 0).f1)==aO))else(some false))else(none))=some r:=h;clear h;replace H:=uh H;obtain⟨c3,H⟩:=H;have Oz:=dt c3;have PZ:decide (0<l1.length)=true:=dt (by omega);clear c3;by_cases c4:((aQ l1 0).f0)=aF
 ·rw[if_pos c4]at H;have NK:=beq_iff_eq.mpr c4;have OZ:=bne_eq_false_iff_eq.mpr c4;clear c4;obtain rfl:=sj H;go_enter Try.func110,Try.ntmps110;(go_wp2_with (first|((with_reducible refine cB (N:=2) rfl ?_);refine eB ?hg (N:=2) ?hd (cs:=#[.int .i64 aF,.int .i64 aO,.slice aR aB.length aS]) (t:=34) ?hr ?_;(case hd=>rfl);(case hg=>rfl);(case hr=>first|(go_simp;done)|(go_simp;rfl));intro MG hg w5 MQ hb;have n_:=t4 (bq pB hb) (MQ) ((by rw[hg];exact(bE pB):w.heap.size≤MG)) ((by rw[hg];exact(bE pB):w.heap.size≤MG));clear HB;obtain⟨HB,MB,OO,OM⟩:=n_;clear hb MQ hg;have MU:0≤(0:Int):=(by omega);have MX:0<(l1.length:Int):=pD;obtain⟨Ow,OL,OX,NM,MH,MI,MF,Nr,Nq⟩:=iI HR1.out 0 MU MX;cases NM;have Pv:(0<l1.length)=True:=eq_true (by omega);(try rw[show((0:Int)).toNat=0 from rfl]at MH);(try rw[show 0*3=0 from rfl]at MH);(try rw[Addr.add_zero']at MH);(try rw[show((0:Int)).toNat=0 from rfl]at MI);(try rw[show 0*3=0 from rfl]at MI);(try rw[Addr.add_zero']at MI);(try rw[show((0:Int)).toNat=0 from rfl]at MF);(try rw[show 0*3=0 from rfl]at MF);(try rw[Addr.add_zero']at MF);replace MH:=cb HB MH;replace MI:=cb HB MI;replace MF:=cb HB MF;have OQ:=am Nq;have OP:=am Nr;clear Nq Nr;replace MU:=eq_true MU;replace MX:=eq_true MX;have Qd:w5.cell? ⟨MG,0,none⟩=some (.int .i64 aF):=(aj MB.out 0).trans rfl;have Qe:w5.cell? ⟨MG,1,none⟩=some (.int .i64 aO):=(aj MB.out 1).trans rfl;have Qf:w5.cell? ⟨MG,2,none⟩=some (.slice aR aB.length aS):=(aj MB.out 2).trans rfl;have Qm:=aM MB.out 0;have Qn:=aM MB.out 1;have Qo:=aM MB.out 2;have NT:0≤(0:Int):=(by omega);have NY:0<(l1.length:Int):=pD;obtain⟨OU,PG,PW,Pb,Nt,Nu,Nf,OC,OA⟩:=iI HR1.out 0 NT NY;obtain rfl:Ow=OU:=(by injection Pb);have Qs:(0<l1.length)=True:=eq_true (by omega);(try rw[show((0:Int)).toNat=0 from rfl]at Nt);(try rw[show 0*3=0 from rfl]at Nt);(try rw[Addr.add_zero']at Nt);(try rw[show((0:Int)).toNat=0 from rfl]at Nu);(try rw[show 0*3=0 from rfl]at Nu);(try rw[Addr.add_zero']at Nu);(try rw[show((0:Int)).toNat=0 from rfl]at Nf);(try rw[show 0*3=0 from rfl]at Nf);(try rw[Addr.add_zero']at Nf);replace Nt:=cb HB Nt;replace Nu:=cb HB Nu;replace Nf:=cb HB Nf;have PO:=am OA;have PK:=am OC;clear OA OC;replace NT:=eq_true NT;replace NY:=eq_true NY;have NQ:=sj (MF.symm.trans Nf);injection NQ with NQ Pe Pd;subst NQ;subst Pd;clear Pe)));go_ret;exact⟨pE,pB⟩
 ·rw[if_neg c4]at H;have NK:=beq_eq_false_iff_ne.mpr c4;have OZ:=bne_iff_ne.mpr c4;obtain rfl:=sj H;go_enter Try.func110,Try.ntmps110;(go_wp2_with (first|((with_reducible refine cB (N:=2) rfl ?_);refine eB ?hg (N:=2) ?hd (cs:=#[.int .i64 aF,.int .i64 aO,.slice aR aB.length aS]) (t:=34) ?hr ?_;(case hd=>rfl);(case hg=>rfl);(case hr=>first|(go_simp;done)|(go_simp;rfl));intro MG hg w7 MQ hb;have n_:=t4 (bq pB hb) (MQ) ((by rw[hg];exact(bE pB):w.heap.size≤MG)) ((by rw[hg];exact(bE pB):w.heap.size≤MG));clear HB;obtain⟨HB,MB,OO,OM⟩:=n_;clear hb MQ hg;have MU:0≤(0:Int):=(by omega);have MX:0<(l1.length:Int):=pD;obtain⟨Ow,OL,OX,NM,MH,MI,MF,Nr,Nq⟩:=iI HR1.out 0 MU MX;cases NM;have Pv:(0<l1.length)=True:=eq_true (by omega);(try rw[show((0:Int)).toNat=0 from rfl]at MH);(try rw[show 0*3=0 from rfl]at MH);(try rw[Addr.add_zero']at MH);(try rw[show((0:Int)).toNat=0 from rfl]at MI);(try rw[show 0*3=0 from rfl]at MI);(try rw[Addr.add_zero']at MI);(try rw[show((0:Int)).toNat=0 from rfl]at MF);(try rw[show 0*3=0 from rfl]at MF);(try rw[Addr.add_zero']at MF);replace MH:=cb HB MH;replace MI:=cb HB MI;replace MF:=cb HB MF;have OQ:=am Nq;have OP:=am Nr;clear Nq Nr;replace MU:=eq_true MU;replace MX:=eq_true MX;have Qg:w7.cell? ⟨MG,0,none⟩=some (.int .i64 aF):=(aj MB.out 0).trans rfl;have Qh:w7.cell? ⟨MG,1,none⟩=some (.int .i64 aO):=(aj MB.out 1).trans rfl;have Qi:w7.cell? ⟨MG,2,none⟩=some (.slice aR aB.length aS):=(aj MB.out 2).trans rfl;have Qp:=aM MB.out 0;have Qq:=aM MB.out 1;have Qr:=aM MB.out 2)));go_ret;exact⟨pE,pB⟩
def jd.l0:Nat→List (bf)→List (bf)→Int→Int→Option (Int)
 |0,_,_,_,_=>none
 |k+1,x0,x1,x7,x8=>if x8<x7 then(if 0≤x8 then(if x8<(x0.length:Int)then((ug.f ((aQ x0 x8).f0) ((aQ x0 x8).f1) ((aQ x0 x8).f2) x1).bind fun Pw=>(if Pw=true then(some x8)else(jd.l0 k x0 x1 x7 (wrap64 (x8+1)))))else(none))else(none))else(some (-1))
def jd.f (k:Nat) (l0:List (bf)) (l1:List (bf)):Option (Int):=jd.l0 k l0 l1 (l0.length:Int) 0
theorem jd.cO:∀k,(∀y0 y1 y2 y3,aD (jd.l0 k y0 y1 y2 y3) (jd.l0 (k+1) y0 y1 y2 y3))
 |0=>fun _ _ _ _ r h=>by simp[jd.l0]at h
 |k+1=>by
  have Al:=jd.cO k
  ·intro y0 y1 y2 y3
   unfold jd.l0
   repeat' with_reducible first|exact Al _ _ _ _|exact aD.refl _|exact aD.none _|refine aD.ite ?_ ?_|refine aD.bind ?_ (fun _=>?_)
theorem jd.mono:∀a0 a1 k,aD (jd.f k a0 a1) (jd.f (k+1) a0 a1):=by
 intro a0 a1 k;have Al:=jd.cO k;unfold jd.f;repeat' with_reducible first|exact Al _ _ _ _|exact aD.refl _|exact aD.none _|refine aD.ite ?_ ?_|refine aD.bind ?_ (fun _=>?_)
theorem jd.calls (k:Nat) (A0:Option Addr) (c0:Nat) (l0:List (bf)) (A1:Option Addr) (c1:Nat) (l1:List (bf)) (r:Int) (w:World) (hr0:Kd.C bZ w A0 l0.length l0) (hc0:l0.length≤c0) (hr1:Kd.C bZ w A1 l1.length l1) (hc1:l1.length≤c1) (h:jd.f k l0 l1=some r):
 Calls Try.prog 142 #[.slice A0 l0.length c0,.func (.func 110) #[] #[.pointer A1]] w fun e w'=>e= .returned (.int .i64 r)∧Below w.heap.size w w':=by
 have OE:=Try.underlying34;have ND:=am hr0;have NI:=am hc0;clear hr0 hc0;have Ol:=am hr1;have Nc:=am hc1;clear hr1 hc1;have HB:=am (Below.refl w.heap.size w);have H:(jd.l0 k l0 l1 (l0.length:Int) 0)=some r:=h;clear h;have H':=am H;clear H;go_enter Try.func142,Try.ntmps142;go_wp2;go_loopg [8] k (fun kq v8 w'=>∃(aZ:Int),v8= .int .i64 aZ∧au (jd.l0 kq l0 l1 (l0.length:Int) aZ=some r)∧au (kq≤k)∧au (Below w.heap.size w w'))
 case atStart=>exact⟨(0),pF,H',⟨Nat.le_refl _⟩,⟨pB⟩⟩
 case round=>
  clear H';(try clear c1);obtain⟨aZ,rfl,HA,Oj,HB⟩:=hrel;cases gk with
  |zero=>exact absurd HA.out (by simp[jd.l0])
  |succ k1=>
   have H:=HA.out;clear HA;simp only[jd.l0]at H;by_cases c20:aZ<(l0.length:Int)
   ·rw[if_pos c20]at H;have Nn:=dt c20;clear c20;replace H:=uh H;obtain⟨c21,H⟩:=H;have PX:=dt c21;clear c21;replace H:=uh H;obtain⟨MK,H⟩:=H;have PY:=dt MK;clear MK;replace H:=bO H;obtain⟨t20,aP,H⟩:=H;(try dsimp only at H);have MP:=am aP;clear aP;refine bc1 (t20=true) ?NW ?NS
    case' NS=>intro c23;replace c23:=Bool.eq_false_iff.mpr c23;subst c23;rw[if_neg (show ¬(false=true) by decide)]at H;have H':=am H;clear H;have Ot:=trivial
    case' NW=>intro c23;subst c23;rw[if_pos rfl]at H;obtain rfl:=sj H;have Oq:=trivial
    all_goals
     have NU:0≤(aZ:Int):=pD;have NZ:aZ<(l0.length:Int):=pD;obtain⟨PV,Oe,Oy,e20,OG,OH,OI,OD,OB⟩:=iI ND.out aZ NU NZ;cases e20;replace OG:=cb HB OG;replace OH:=cb HB OH;replace OI:=cb HB OI;have MS:=am OB;have MR:=am OD;clear OB OD;replace NU:=eq_true NU;replace NZ:=eq_true NZ;(go_wp2_with (first|(have _:=Ot;(with_reducible refine qw (x:=.tmp 11) rfl ?_);refine DV (some 16) rfl rfl Try.func110 (by kernel_rfl) rfl (x:=.tmp 11) rfl #[.agg #[.int .i64 ((aQ l0 aZ).f0),.int .i64 ((aQ l0 aZ).f1),.slice Oe ((aQ l0 aZ).f2).length Oy],.pointer A1] rfl pA ?_;(with_reducible refine(ug.calls ((aQ l0 aZ).f0) ((aQ l0 aZ).f1) _ _ ((aQ l0 aZ).f2) _ c1 l1 false _ ?Mw ?Mx ?MN ?MO MP.out).mono ?_);(case Mw=>exact pC (Kd.dV MS.out HB.out));(case Mx=>exact MR.out);(case MN=>exact pC (Kd.dV Ol.out HB.out));(case MO=>exact Nc.out);rintro e OJ ⟨rfl,hb⟩;refine⟨_,rfl,?_⟩;have n_:=am (bq pB hb);clear HB;have HB:=n_;clear n_;(try clear hb))|(have _:=Oq;(with_reducible refine qw (x:=.tmp 11) rfl ?_);refine DV (some 16) rfl rfl Try.func110 (by kernel_rfl) rfl (x:=.tmp 11) rfl #[.agg #[.int .i64 ((aQ l0 aZ).f0),.int .i64 ((aQ l0 aZ).f1),.slice Oe ((aQ l0 aZ).f2).length Oy],.pointer A1] rfl pA ?_;(with_reducible refine(ug.calls ((aQ l0 aZ).f0) ((aQ l0 aZ).f1) _ _ ((aQ l0 aZ).f2) _ c1 l1 true _ ?Mw ?Mx ?MN ?MO MP.out).mono ?_);(case Mw=>exact pC (Kd.dV MS.out HB.out));(case Mx=>exact MR.out);(case MN=>exact pC (Kd.dV Ol.out HB.out));(case MO=>exact Nc.out);rintro e OJ ⟨rfl,hb⟩;refine⟨_,rfl,?_⟩;have n_:=am (bq pB hb);clear HB;have HB:=n_;clear n_;(try clear hb))));first
     |have _:=Oq;go_ret;exact⟨pE,pB⟩
     |have _:=Ot;go_roundg k1
      case measure=>have:=Oj.out;omega
      case rel=>exact⟨(wrap64 (aZ+1)),pF,H',⟨by have:=Oj.out;omega⟩,⟨pB⟩⟩
   ·rw[if_neg c20]at H;have Nn:=decide_eq_false c20;clear c20;obtain rfl:=sj H;go_wp2;go_ret;exact⟨pE,pB⟩
def qx.f (k:Nat) (l0:List (bf)) (l1:List (bf)):Option (Bool):=(jd.f k l0 l1).bind fun t109=>(some (decide (t109≥0)))
theorem qx.mono:∀a0 a1 k,aD (qx.f k a0 a1) (qx.f (k+1) a0 a1):=by
 intro a0 a1 k;unfold qx.f;repeat' with_reducible first|exact jd.mono _ _ _|exact aD.refl _|exact aD.none _|refine aD.ite ?_ ?_|refine aD.bind ?_ (fun _=>?_)
theorem qx.calls (k:Nat) (A0:Option Addr) (c0:Nat) (l0:List (bf)) (A1:Option Addr) (c1:Nat) (l1:List (bf)) (r:Bool) (w:World) (hr0:Kd.C bZ w A0 l0.length l0) (hc0:l0.length≤c0) (hr1:Kd.C bZ w A1 l1.length l1) (hc1:l1.length≤c1) (h:qx.f k l0 l1=some r):
 Calls Try.prog 109 #[.slice A0 l0.length c0,.func (.func 110) #[] #[.pointer A1]] w fun e w'=>e= .returned (.bool r)∧Below w.heap.size w w':=by
 have MJ:=am hr0;have Nb:=am hc0;clear hr0 hc0;have HR1:=am hr1;have Oi:=am hc1;clear hr1 hc1;have HB:=am (Below.refl w.heap.size w);have H:((jd.f k l0 l1).bind fun t109=>(some (decide (t109≥0))))=some r:=h;clear h;replace H:=bO H;obtain⟨t109,Og,H⟩:=H;try dsimp only at H
 have A3:=am Og;clear Og;obtain rfl:=sj H;go_enter Try.func109,Try.ntmps109;go_wp2_with (first|((with_reducible refine gC (f:=142) rfl ?_);refine bG (some 7) rfl rfl Try.func142 (by kernel_rfl) rfl #[.slice A0 l0.length c0,.func (.func 110) #[] #[.pointer A1]] rfl pA ?_;(with_reducible refine(jd.calls k _ _ l0 _ c1 l1 t109 _ ?Mw ?Mx ?MN ?MO A3.out).mono ?_);(case Mw=>exact pC MJ.out);(case Mx=>exact Nb.out);(case MN=>exact pC HR1.out);(case MO=>exact Oi.out);rintro e w4 ⟨rfl,hb⟩;refine⟨_,rfl,?_⟩;have n_:=am (bq pB hb);clear HB;have HB:=n_;clear n_;(try clear hb)))
 go_ret;exact⟨pE,pB⟩
def oK.f (k:Nat) (l0:List (bf)) (MC:Int) (ME:Int) (HV:List Int):Option (Bool):=qx.f k l0 [(⟨MC,ME,HV⟩:bf)]
theorem oK.mono:∀(l0:List (bf)) (MC:Int) (ME:Int) (HV:List Int) (k:Nat),aD (oK.f k l0 MC ME HV) (oK.f (k+1) l0 MC ME HV):=fun l0 MC ME HV k=>qx.mono l0 [(⟨MC,ME,HV⟩:bf)] k
set_option maxHeartbeats 8000000 in
theorem oK.calls (k:Nat) (A0:Option Addr) (c0:Nat) (l0:List (bf)) (MC:Int) (ME:Int) (Od:Option Addr) (Ox:Nat) (HV:List Int) (r:Bool) (w:World) (hr0:Kd.C bZ w A0 l0.length l0) (hc0:l0.length≤c0) (Po:Kd.C (Kd.int .i64) w Od HV.length HV) (Pf:HV.length≤Ox) (h:oK.f k l0 MC ME HV=some r) {ML:Addr} (Ad:w.cell? ML=some (.int .i64 MC)) (Ae:w.cell? ⟨ML.block,ML.off+1,none⟩=some (.int .i64 ME)) (Af:w.cell? ⟨ML.block,ML.off+2,none⟩=some (.slice Od HV.length Ox)):
 Calls Try.prog 109 #[.slice A0 l0.length c0,.func (.func 110) #[] #[.pointer (some ML)]] w fun e w'=>e= .returned (.bool r)∧Below w.heap.size w w':=by
 have o1:Kd.C bZ w (some ML) 1 [(⟨MC,ME,HV⟩:bf)]:=by
  refine⟨rfl,by decide,fun _=>⟨ML,rfl,fun j p hj=>?_⟩⟩;cases j with
  |succ j=>simp at hj
  |zero=>
   (obtain rfl:(⟨MC,ME,HV⟩:bf)=p:=by simpa using hj);refine⟨_,rfl,El w _ Pf Po,fun i u hu=>?_⟩
   match i,hu with
   |0,hu=>obtain rfl:=sj hu;exact Ad
   |1,hu=>obtain rfl:=sj hu;exact Ae
   |2,hu=>obtain rfl:=sj hu;exact Af
 exact qx.calls k A0 c0 l0 (some ML) 1 [(⟨MC,ME,HV⟩:bf)] r w hr0 hc0 o1 (Nat.le_refl 1) h
def jf.l0:Nat→List Int→Int→Int→Option (Int)
 |0,_,_,_=>none
 |k+1,x0,x7,x8=>if x8<x7 then(if 0≤x8 then(if x8<(x0.length:Int)then((qJ.f (rd x0 x8)).bind fun Oa=>(if Oa=true then(some x8)else(jf.l0 k x0 x7 (wrap64 (x8+1)))))else(none))else(none))else(some (-1))
def jf.f (k:Nat) (l0:List Int):Option (Int):=jf.l0 k l0 (l0.length:Int) 0
theorem jf.cO:∀k,(∀y0 y1 y2,aD (jf.l0 k y0 y1 y2) (jf.l0 (k+1) y0 y1 y2))
 |0=>fun _ _ _ r h=>by simp[jf.l0]at h
 |k+1=>by
  have Al:=jf.cO k
  ·intro y0 y1 y2
   unfold jf.l0
   repeat' with_reducible first|exact Al _ _ _|exact aD.refl _|exact aD.none _|refine aD.ite ?_ ?_|refine aD.bind ?_ (fun _=>?_)
theorem jf.mono:∀a0 k,aD (jf.f k a0) (jf.f (k+1) a0):=by
 intro a0 k;have Al:=jf.cO k;unfold jf.f;repeat' with_reducible first|exact Al _ _ _|exact aD.refl _|exact aD.none _|refine aD.ite ?_ ?_|refine aD.bind ?_ (fun _=>?_)
theorem jf.calls (k:Nat) (A0:Option Addr) (c0:Nat) (l0:List Int) (r:Int) (w:World) (hr0:Kd.C (Kd.int .i64) w A0 l0.length l0) (hc0:l0.length≤c0) (h:jf.f k l0=some r):
 Calls Try.prog 141 #[.slice A0 l0.length c0,.func (.func 108) #[] #[]] w fun e w'=>e= .returned (.int .i64 r)∧gD w w':=by
 have MJ:=am hr0;have Nb:=am hc0;clear hr0 hc0;have H:(jf.l0 k l0 (l0.length:Int) 0)=some r:=h;clear h;have H':=am H;clear H;go_enter Try.func141,Try.ntmps141;go_wp2;go_loopg [8] k (fun kq v8 w'=>∃(aL:Int),v8= .int .i64 aL∧au (jf.l0 kq l0 (l0.length:Int) aL=some r)∧au (kq≤k)∧gD w w')
 case atStart=>exact⟨(0),pF,H',⟨Nat.le_refl _⟩,pW⟩
 case round=>
  clear H';obtain⟨aL,rfl,HA,Nl,⟨m1,rfl⟩⟩:=hrel;cases gk with
  |zero=>exact absurd HA.out (by simp[jf.l0])
  |succ k1=>
   have H:=HA.out;clear HA;simp only[jf.l0]at H;by_cases c2:aL<(l0.length:Int)
   ·rw[if_pos c2]at H;have NJ:=dt c2;clear c2;replace H:=uh H;obtain⟨c3,H⟩:=H;have Oz:=dt c3;clear c3;replace H:=uh H;obtain⟨c4,H⟩:=H;have NK:=dt c4;clear c4;replace H:=bO H;obtain⟨Oa,Nh,H⟩:=H;(try dsimp only at H);have A5:=am Nh;clear Nh;by_cases c6:Oa=true
    ·subst c6;rw[if_pos rfl]at H;obtain rfl:=sj H;have MV:0≤(aL:Int):=pD;have MZ:aL<(l0.length:Int):=pD;obtain⟨OV,NN,Pp⟩:=Kd.kK MJ.out aL MV MZ;cases NN;replace MV:=eq_true MV;replace MZ:=eq_true MZ;(go_wp2_with (first|((with_reducible refine qw (x:=.tmp 11) rfl ?_);refine su (some 16) rfl rfl Try.func108 (by kernel_rfl) rfl (x:=.tmp 11) rfl #[.int .i64 (rd l0 aL)] rfl pA ?_;(with_reducible refine(qJ.calls (rd l0 aL) true _ A5.out).mono ?_);rintro e w' ⟨rfl,⟨nd,rfl⟩⟩;refine⟨_,rfl,?_⟩)));go_ret;exact⟨by first|rfl|(simp;done)|(simp[*];done),pW⟩
    ·replace c6:=Bool.eq_false_iff.mpr c6;subst c6;rw[if_neg (show ¬(false=true) by decide)]at H;have H':=am H;clear H;have MV:0≤(aL:Int):=pD;have MZ:aL<(l0.length:Int):=pD;obtain⟨OV,NN,Pp⟩:=Kd.kK MJ.out aL MV MZ;cases NN;replace MV:=eq_true MV;replace MZ:=eq_true MZ;(go_wp2_with (first|((with_reducible refine qw (x:=.tmp 11) rfl ?_);refine su (some 16) rfl rfl Try.func108 (by kernel_rfl) rfl (x:=.tmp 11) rfl #[.int .i64 (rd l0 aL)] rfl pA ?_;(with_reducible refine(qJ.calls (rd l0 aL) false _ A5.out).mono ?_);rintro e w' ⟨rfl,⟨nd,rfl⟩⟩;refine⟨_,rfl,?_⟩)));go_roundg k1
     case measure=>have:=Nl.out;omega
     case rel=>exact⟨(wrap64 (aL+1)),pF,H',⟨by have:=Nl.out;omega⟩,pW⟩
   ·rw[if_neg c2]at H;have NJ:=decide_eq_false c2;clear c2;obtain rfl:=sj H;go_wp2;go_ret;exact⟨by first|rfl|(simp;done)|(simp[*];done),pW⟩
def om.f (k:Nat) (l0:List Int):Option (Bool):=(jf.f k l0).bind fun Ny=>(some (decide (Ny≥0)))
theorem om.mono:∀a0 k,aD (om.f k a0) (om.f (k+1) a0):=by
 intro a0 k;unfold om.f;repeat' with_reducible first|exact jf.mono _ _|exact aD.refl _|exact aD.none _|refine aD.ite ?_ ?_|refine aD.bind ?_ (fun _=>?_)
theorem om.calls (k:Nat) (A0:Option Addr) (c0:Nat) (l0:List Int) (r:Bool) (w:World) (hr0:Kd.C (Kd.int .i64) w A0 l0.length l0) (hc0:l0.length≤c0) (h:om.f k l0=some r):
 Calls Try.prog 107 #[.slice A0 l0.length c0,.func (.func 108) #[] #[]] w fun e w'=>e= .returned (.bool r)∧gD w w':=by
 have MJ:=am hr0;have Nb:=am hc0;clear hr0 hc0;have H:((jf.f k l0).bind fun Ny=>(some (decide (Ny≥0))))=some r:=h;clear h;replace H:=bO H;obtain⟨Ny,aP,H⟩:=H;try dsimp only at H
 have A2:=am aP;clear aP;obtain rfl:=sj H;go_enter Try.func107,Try.ntmps107;go_wp2_with (first|((with_reducible refine gC (f:=141) rfl ?_);refine bG (some 7) rfl rfl Try.func141 (by kernel_rfl) rfl #[.slice A0 l0.length c0,.func (.func 108) #[] #[]] rfl pA ?_;(with_reducible refine(jf.calls k _ _ l0 Ny _ ?Mw ?Mx A2.out).mono ?_);(case Mw=>exact pC MJ.out);(case Mx=>exact Nb.out);rintro e w' ⟨rfl,⟨nd,rfl⟩⟩;refine⟨_,rfl,?_⟩))
 go_ret;exact⟨by first|rfl|(simp;done)|(simp[*];done),pW⟩
def iF.j0:Nat→List (bf)→Bool→Int→Int→List Int→Option (Int)
 |0,_,_,_,_,_=>none
 |k+1,x1,x5,PD,PE,Oc=>if x5=true then(some 3)else(if(Oc.length:Int)>8 then(some 2)else((om.f k Oc).bind fun t116=>(if t116=true then(some 3)else((oK.f k x1 PD PE Oc).bind fun t117=>(if t117=true then(some 6)else(some 0))))))
def iF.f (k:Nat) (aF:Int) (aO:Int) (aB:List Int) (l1:List (bf)):Option (Int):=(sJ.f aF).bind fun Px=>(if Px=true then((gW.f aO 0 3).bind fun Py=>(iF.j0 k l1 (!Py) aF aO aB))else(iF.j0 k l1 true aF aO aB))
theorem iF.cO:∀k,(∀y0 y1 y2 y3 y4,aD (iF.j0 k y0 y1 y2 y3 y4) (iF.j0 (k+1) y0 y1 y2 y3 y4))
 |0=>fun _ _ _ _ _ r h=>by simp[iF.j0]at h
 |k+1=>by
  have Al:=iF.cO k
  ·intro y0 y1 y2 y3 y4
   unfold iF.j0
   repeat' with_reducible first|exact Al _ _ _ _ _|exact oK.mono _ _ _ _ _|exact om.mono _ _|exact aD.refl _|exact aD.none _|refine aD.ite ?_ ?_|refine aD.bind ?_ (fun _=>?_)
theorem iF.mono:∀a0 a1 a2 a3 k,aD (iF.f k a0 a1 a2 a3) (iF.f (k+1) a0 a1 a2 a3):=by
 intro a0 a1 a2 a3 k;have Al:=iF.cO k;unfold iF.f;repeat' with_reducible first|exact Al _ _ _ _ _|exact oK.mono _ _ _ _ _|exact om.mono _ _|exact aD.refl _|exact aD.none _|refine aD.ite ?_ ?_|refine aD.bind ?_ (fun _=>?_)
theorem iF.calls (k:Nat) (aF:Int) (aO:Int) (aR:Option Addr) (aS:Nat) (aB:List Int) (A1:Option Addr) (c1:Nat) (l1:List (bf)) (r:Int) (w:World) (Ns:Kd.C (Kd.int .i64) w aR aB.length aB) (Np:aB.length≤aS) (hr1:Kd.C bZ w A1 l1.length l1) (hc1:l1.length≤c1) (h:iF.f k aF aO aB l1=some r):
 Calls Try.prog 58 #[.agg #[.int .i64 aF,.int .i64 aO,.slice aR aB.length aS],.slice A1 l1.length c1] w fun e w'=>e= .returned (.int .i64 r)∧Below w.heap.size w w':=by
 have OE:=Try.underlying34;have MS:=am Ns;have MR:=am Np;clear Ns Np;have ND:=am hr1;have NI:=am hc1;clear hr1 hc1;have HB:=am (Below.refl w.heap.size w);have H:((sJ.f aF).bind fun t20=>(if t20=true then((gW.f aO 0 3).bind fun t21=>(iF.j0 k l1 (!t21) aF aO aB))else(iF.j0 k l1 true aF aO aB)))=some r:=h;clear h;have Nc:=am H;clear H;go_enter Try.func58,Try.ntmps58;go_upto_region 1 with(first|((with_reducible refine cB (N:=2) rfl ?_);refine eB ?hg (N:=2) ?hd (cs:=#[.int .i64 aF,.int .i64 aO,.slice aR aB.length aS]) (t:=34) ?hr ?_;(case hd=>rfl);(case hg=>rfl);(case hr=>first|(go_simp;done)|(go_simp;rfl));intro av hg OJ MQ hb;have n_:=t4 (bq pB hb) (MQ) ((by rw[hg];exact(bE pB):w.heap.size≤av)) ((by rw[hg];exact(bE pB):w.heap.size≤av));clear HB;obtain⟨HB,ak,iR,jF⟩:=n_;clear hb MQ hg))
 (try simp only[Act.put,List.setIfInBounds_toArray,List.set_cons_zero,List.set_cons_succ]);go_cut [5] (fun v5 wc=>∃(kq:Nat) (NH:Bool),v5= .bool NH∧au (iF.j0 kq l1 NH aF aO aB=some r)∧au (kq≤k)∧au (wc.heap[av]? =some (.cells #[.int .i64 aF,.int .i64 aO,(.slice aR aB.length aS)] 34 (0,0)))∧au (Below w.heap.size w wc))
 case first=>
  have H:=Nc.out;clear Nc;replace H:=bO H;obtain⟨t20,aP,H⟩:=H;try dsimp only at H
  have MP:=am aP;clear aP;refine bc1 (t20=true) ?NV ?NR
  case' NR=>intro c20;replace c20:=Bool.eq_false_iff.mpr c20;subst c20;rw[if_neg (show ¬(false=true) by decide)]at H;have H':=am H;clear H;have Ov:=trivial
  case' NV=>intro c20;subst c20;rw[if_pos rfl]at H;replace H:=bO H;obtain⟨t21,Ng,H⟩:=H;(try dsimp only at H);have NC:=am Ng;clear Ng;have H':=am H;clear H;have Ou:=trivial
  all_goals
   obtain⟨Qa,Qb,Qc,Qj,Qk,Ql⟩:=kE ak;(go_wp2_with (first|(have _:=Ov;(with_reducible refine gC (f:=91) rfl ?_);refine bG (some 8) rfl rfl Try.func91 (by kernel_rfl) rfl #[.int .i64 aF] rfl pA ?_;(with_reducible refine(sJ.calls aF false _ MP.out).mono ?_);rintro e w' ⟨rfl,⟨nd,rfl⟩⟩;refine⟨_,rfl,?_⟩)|(have _:=Ou;(with_reducible refine gC (f:=91) rfl ?_);refine bG (some 8) rfl rfl Try.func91 (by kernel_rfl) rfl #[.int .i64 aF] rfl pA ?_;(with_reducible refine(sJ.calls aF true _ MP.out).mono ?_);rintro e w' ⟨rfl,⟨nd,rfl⟩⟩;refine⟨_,rfl,?_⟩)|(go_at_call 57;(with_reducible refine(gW.calls aO 0 3 t21 _ NC.out).mono ?_);rintro e w' ⟨rfl,⟨nd,rfl⟩⟩)));go_meet;first
   |have _:=Ou
    case rel=>exact⟨_,(!t21),pF,H',⟨by first|omega|exact Nat.le_refl _⟩,⟨(pK ak)⟩,⟨pB⟩⟩
   |have _:=Ov
    case rel=>exact⟨_,(true),pF,H',⟨by first|omega|exact Nat.le_refl _⟩,⟨(pK ak)⟩,⟨pB⟩⟩
 case rest=>
  clear Nc;(try clear c1);obtain⟨kq,NH,rfl,HA,PL,ak,HB⟩:=hcut;cases kq with
  |zero=>exact absurd HA.out (by simp[iF.j0])
  |succ NG=>
   have H:=HA.out;clear HA;simp only[iF.j0]at H;by_cases c21:NH=true
   ·subst c21;rw[if_pos rfl]at H;obtain rfl:=sj H;go_wp2;go_ret;exact⟨pE,pB⟩
   ·replace c21:=Bool.eq_false_iff.mpr c21;subst c21;rw[if_neg (show ¬(false=true) by decide)]at H;by_cases MK:(aB.length:Int)>8
    ·rw[if_pos MK]at H;have Nn:decide (8<(aB.length:Int))=true:=dt MK;have OY:decide (8<aB.length)=true:=dt (by omega);clear MK;obtain rfl:=sj H;obtain⟨Pg,Ph,Pj,Pk,Pm,Pn⟩:=kE ak;go_wp2;go_ret;exact⟨pE,pB⟩
    ·rw[if_neg MK]at H;have Nn:decide (8<(aB.length:Int))=false:=decide_eq_false MK;have OY:decide (8<aB.length)=false:=decide_eq_false (by omega);clear MK;replace H:=bO H;obtain⟨t22,aP,H⟩:=H;(try dsimp only at H);have MP:=am aP;clear aP;refine bc1 (t22=true) ?NW ?NS
     case' NS=>
      intro c23;replace c23:=Bool.eq_false_iff.mpr c23;subst c23;rw[if_neg (show ¬(false=true) by decide)]at H;replace H:=bO H;obtain⟨t23,Ng,H⟩:=H;(try dsimp only at H);have NC:=am Ng;clear Ng;refine bc1 (t23=true) ?pc24 ?Pt
      case' Pt=>intro c24;replace c24:=Bool.eq_false_iff.mpr c24;subst c24;rw[if_neg (show ¬(false=true) by decide)]at H;obtain rfl:=sj H;have Oo:=trivial
      case' pc24=>intro c24;subst c24;rw[if_pos rfl]at H;obtain rfl:=sj H;have Om:=trivial
     case' NW=>intro c23;subst c23;rw[if_pos rfl]at H;obtain rfl:=sj H;have OT:=trivial
     all_goals obtain⟨Pg,Ph,Pj,Pk,Pm,Pn⟩:=kE ak;(go_wp2_with (first|((first|(have _:=Om)|(have _:=Oo));(with_reducible refine gC (f:=107) rfl ?_);refine bG (some 24) rfl rfl Try.func107 (by kernel_rfl) rfl #[.slice aR aB.length aS,.func (.func 108) #[] #[]] rfl pA ?_;(with_reducible refine(om.calls NG _ _ aB false _ ?Mw ?Mx MP.out).mono ?_);(case Mw=>exact pC (Kd.dV MS.out HB.out));(case Mx=>exact MR.out);rintro e w' ⟨rfl,⟨nd,rfl⟩⟩;refine⟨_,rfl,?_⟩)|(have _:=Oo;(with_reducible refine gC (f:=109) rfl ?_);refine bG (some 28) rfl rfl Try.func109 (by kernel_rfl) rfl #[.slice A1 l1.length c1,.func (.func 110) #[] #[.pointer (some _)]] rfl pA ?_;(refine Calls.mono (oK.calls NG _ _ l1 aF aO _ _ aB false _ ?Mw ?Mx ?MN ?MO NC.out (Ad:=by first|(with_unfolding_all assumption)|(dsimp only;assumption)|(dsimp only[Nat.zero_add];exact(aj (au.out (by assumption)) _).trans rfl)|(go_simp;done)) (Ae:=by first|(with_unfolding_all assumption)|(dsimp only;assumption)|(dsimp only[Nat.zero_add];exact(aj (au.out (by assumption)) _).trans rfl)|(go_simp;done)) (Af:=by first|(with_unfolding_all assumption)|(dsimp only;assumption)|(dsimp only[Nat.zero_add];exact(aj (au.out (by assumption)) _).trans rfl)|(go_simp;done))) ?_);(case Mw=>exact pC (Kd.dV ND.out pB));(case Mx=>exact NI.out);(case MN=>exact pC (Kd.dV MS.out pB));(case MO=>exact MR.out);rintro e Pz ⟨rfl,hb⟩;refine⟨_,rfl,?_⟩;have n_:=t2 (bB (g:=av) (o:=.cells #[.int .i64 aF,.int .i64 aO,.slice aR aB.length aS] 34 (0,0)) (pK ak) hb) (bq pB hb);clear ak HB;obtain⟨ak,HB⟩:=n_;(try clear hb))|(have _:=Om;(with_reducible refine gC (f:=109) rfl ?_);refine bG (some 28) rfl rfl Try.func109 (by kernel_rfl) rfl #[.slice A1 l1.length c1,.func (.func 110) #[] #[.pointer (some _)]] rfl pA ?_;(refine Calls.mono (oK.calls NG _ _ l1 aF aO _ _ aB true _ ?Mw ?Mx ?MN ?MO NC.out (Ad:=by first|(with_unfolding_all assumption)|(dsimp only;assumption)|(dsimp only[Nat.zero_add];exact(aj (au.out (by assumption)) _).trans rfl)|(go_simp;done)) (Ae:=by first|(with_unfolding_all assumption)|(dsimp only;assumption)|(dsimp only[Nat.zero_add];exact(aj (au.out (by assumption)) _).trans rfl)|(go_simp;done)) (Af:=by first|(with_unfolding_all assumption)|(dsimp only;assumption)|(dsimp only[Nat.zero_add];exact(aj (au.out (by assumption)) _).trans rfl)|(go_simp;done))) ?_);(case Mw=>exact pC (Kd.dV ND.out pB));(case Mx=>exact NI.out);(case MN=>exact pC (Kd.dV MS.out pB));(case MO=>exact MR.out);rintro e Pz ⟨rfl,hb⟩;refine⟨_,rfl,?_⟩;have n_:=t2 (bB (g:=av) (o:=.cells #[.int .i64 aF,.int .i64 aO,.slice aR aB.length aS] 34 (0,0)) (pK ak) hb) (bq pB hb);clear ak HB;obtain⟨ak,HB⟩:=n_;(try clear hb))|(have _:=OT;(with_reducible refine gC (f:=107) rfl ?_);refine bG (some 24) rfl rfl Try.func107 (by kernel_rfl) rfl #[.slice aR aB.length aS,.func (.func 108) #[] #[]] rfl pA ?_;(with_reducible refine(om.calls NG _ _ aB true _ ?Mw ?Mx MP.out).mono ?_);(case Mw=>exact pC (Kd.dV MS.out HB.out));(case Mx=>exact MR.out);rintro e w' ⟨rfl,⟨nd,rfl⟩⟩;refine⟨_,rfl,?_⟩)));go_ret;exact⟨pE,pB⟩
def pO.f (a0:Int):Option (Bool):=(gW.f a0 0 1000000).bind fun Nz=>(some Nz)
theorem pO.calls (a0:Int) (r:Bool) (w:World) (h:pO.f a0=some r):
 Calls Try.prog 59 #[.int .i64 a0] w fun e w'=>e= .returned (.bool r)∧gD w w':=by
 have H:((gW.f a0 0 1000000).bind fun Nz=>(some Nz))=some r:=h;clear h;replace H:=bO H;obtain⟨Nz,aP,H⟩:=H;try dsimp only at H
 have A2:=am aP;clear aP;obtain rfl:=sj H;go_enter Try.func59,Try.ntmps59;go_wp2_with (first|((with_reducible refine gC (f:=57) rfl ?_);refine bG (some 4) rfl rfl Try.func57 (by kernel_rfl) rfl #[.int .i64 a0,.int .i64 0,.int .i64 1000000] rfl pA ?_;(with_reducible refine(gW.calls a0 0 1000000 Nz _ A2.out).mono ?_);rintro e w' ⟨rfl,⟨nd,rfl⟩⟩;refine⟨_,rfl,?_⟩))
 go_ret;exact⟨by first|rfl|(simp;done)|(simp[*];done),pW⟩
def qI.f (a0:Int):Option (Bool):=(gW.f a0 1 9).bind fun t119=>(if t119=true then(some false)else((gW.f a0 100 1099).bind fun NA=>(some (!NA))))
theorem qI.calls (a0:Int) (r:Bool) (w:World) (h:qI.f a0=some r):
 Calls Try.prog 111 #[.int .i64 a0] w fun e w'=>e= .returned (.bool r)∧gD w w':=by
 have H:((gW.f a0 1 9).bind fun t119=>(if t119=true then(some false)else((gW.f a0 100 1099).bind fun NA=>(some (!NA)))))=some r:=h;clear h;replace H:=bO H;obtain⟨t119,aP,H⟩:=H;try dsimp only at H
 have A2:=am aP;clear aP;by_cases c3:t119=true
 ·subst c3;rw[if_pos rfl]at H;obtain rfl:=sj H;go_enter Try.func111,Try.ntmps111;(go_wp2_with (first|((with_reducible refine gC (f:=57) rfl ?_);refine bG (some 4) rfl rfl Try.func57 (by kernel_rfl) rfl #[.int .i64 a0,.int .i64 1,.int .i64 9] rfl pA ?_;(with_reducible refine(gW.calls a0 1 9 true _ A2.out).mono ?_);rintro e w' ⟨rfl,⟨nd,rfl⟩⟩;refine⟨_,rfl,?_⟩)));go_ret;exact⟨by first|rfl|(simp;done)|(simp[*];done),pW⟩
 ·replace c3:=Bool.eq_false_iff.mpr c3;subst c3;rw[if_neg (show ¬(false=true) by decide)]at H;replace H:=bO H;obtain⟨NA,Oh,H⟩:=H;(try dsimp only at H);have A4:=am Oh;clear Oh;obtain rfl:=sj H;go_enter Try.func111,Try.ntmps111;(go_wp2_with (first|((with_reducible refine gC (f:=57) rfl ?_);refine bG (some 4) rfl rfl Try.func57 (by kernel_rfl) rfl #[.int .i64 a0,.int .i64 1,.int .i64 9] rfl pA ?_;(with_reducible refine(gW.calls a0 1 9 false _ A2.out).mono ?_);rintro e w' ⟨rfl,⟨nd,rfl⟩⟩;refine⟨_,rfl,?_⟩)|(go_at_call 57;(with_reducible refine(gW.calls a0 100 1099 NA _ A4.out).mono ?_);rintro e w' ⟨rfl,⟨nd,rfl⟩⟩)));go_ret;exact⟨by first|rfl|(simp;done)|(simp[*];done),pW⟩
def je.l0:Nat→List Int→Int→Int→Option (Int)
 |0,_,_,_=>none
 |k+1,x0,x7,x8=>if x8<x7 then(if 0≤x8 then(if x8<(x0.length:Int)then((qI.f (rd x0 x8)).bind fun Ob=>(if Ob=true then(some x8)else(je.l0 k x0 x7 (wrap64 (x8+1)))))else(none))else(none))else(some (-1))
def je.f (k:Nat) (l0:List Int):Option (Int):=je.l0 k l0 (l0.length:Int) 0
theorem je.cO:∀k,(∀y0 y1 y2,aD (je.l0 k y0 y1 y2) (je.l0 (k+1) y0 y1 y2))
 |0=>fun _ _ _ r h=>by simp[je.l0]at h
 |k+1=>by
  have Al:=je.cO k
  ·intro y0 y1 y2
   unfold je.l0
   repeat' with_reducible first|exact Al _ _ _|exact aD.refl _|exact aD.none _|refine aD.ite ?_ ?_|refine aD.bind ?_ (fun _=>?_)
theorem je.mono:∀a0 k,aD (je.f k a0) (je.f (k+1) a0):=by
 intro a0 k;have Al:=je.cO k;unfold je.f;repeat' with_reducible first|exact Al _ _ _|exact aD.refl _|exact aD.none _|refine aD.ite ?_ ?_|refine aD.bind ?_ (fun _=>?_)
theorem je.calls (k:Nat) (A0:Option Addr) (c0:Nat) (l0:List Int) (r:Int) (w:World) (hr0:Kd.C (Kd.int .i64) w A0 l0.length l0) (hc0:l0.length≤c0) (h:je.f k l0=some r):
 Calls Try.prog 141 #[.slice A0 l0.length c0,.func (.func 111) #[] #[]] w fun e w'=>e= .returned (.int .i64 r)∧gD w w':=by
 have MJ:=am hr0;have Nb:=am hc0;clear hr0 hc0;have H:(je.l0 k l0 (l0.length:Int) 0)=some r:=h;clear h;have H':=am H;clear H;go_enter Try.func141,Try.ntmps141;go_wp2;go_loopg [8] k (fun kq v8 w'=>∃(aL:Int),v8= .int .i64 aL∧au (je.l0 kq l0 (l0.length:Int) aL=some r)∧au (kq≤k)∧gD w w')
 case atStart=>exact⟨(0),pF,H',⟨Nat.le_refl _⟩,pW⟩
 case round=>
  clear H';obtain⟨aL,rfl,HA,Nl,⟨m1,rfl⟩⟩:=hrel;cases gk with
  |zero=>exact absurd HA.out (by simp[je.l0])
  |succ k1=>
   have H:=HA.out;clear HA;simp only[je.l0]at H;by_cases c2:aL<(l0.length:Int)
   ·rw[if_pos c2]at H;have NJ:=dt c2;clear c2;replace H:=uh H;obtain⟨c3,H⟩:=H;have Oz:=dt c3;clear c3;replace H:=uh H;obtain⟨c4,H⟩:=H;have NK:=dt c4;clear c4;replace H:=bO H;obtain⟨Ob,Nh,H⟩:=H;(try dsimp only at H);have A5:=am Nh;clear Nh;by_cases c6:Ob=true
    ·subst c6;rw[if_pos rfl]at H;obtain rfl:=sj H;have MW:0≤(aL:Int):=pD;have Na:aL<(l0.length:Int):=pD;obtain⟨OW,NP,Pq⟩:=Kd.kK MJ.out aL MW Na;cases NP;replace MW:=eq_true MW;replace Na:=eq_true Na;(go_wp2_with (first|((with_reducible refine qw (x:=.tmp 11) rfl ?_);refine su (some 16) rfl rfl Try.func111 (by kernel_rfl) rfl (x:=.tmp 11) rfl #[.int .i64 (rd l0 aL)] rfl pA ?_;(with_reducible refine(qI.calls (rd l0 aL) true _ A5.out).mono ?_);rintro e w' ⟨rfl,⟨nd,rfl⟩⟩;refine⟨_,rfl,?_⟩)));go_ret;exact⟨by first|rfl|(simp;done)|(simp[*];done),pW⟩
    ·replace c6:=Bool.eq_false_iff.mpr c6;subst c6;rw[if_neg (show ¬(false=true) by decide)]at H;have H':=am H;clear H;have MW:0≤(aL:Int):=pD;have Na:aL<(l0.length:Int):=pD;obtain⟨OW,NP,Pq⟩:=Kd.kK MJ.out aL MW Na;cases NP;replace MW:=eq_true MW;replace Na:=eq_true Na;(go_wp2_with (first|((with_reducible refine qw (x:=.tmp 11) rfl ?_);refine su (some 16) rfl rfl Try.func111 (by kernel_rfl) rfl (x:=.tmp 11) rfl #[.int .i64 (rd l0 aL)] rfl pA ?_;(with_reducible refine(qI.calls (rd l0 aL) false _ A5.out).mono ?_);rintro e w' ⟨rfl,⟨nd,rfl⟩⟩;refine⟨_,rfl,?_⟩)));go_roundg k1
     case measure=>have:=Nl.out;omega
     case rel=>exact⟨(wrap64 (aL+1)),pF,H',⟨by have:=Nl.out;omega⟩,pW⟩
   ·rw[if_neg c2]at H;have NJ:=decide_eq_false c2;clear c2;obtain rfl:=sj H;go_wp2;go_ret;exact⟨by first|rfl|(simp;done)|(simp[*];done),pW⟩
end Go.Proofs.Ythjlbpgiaehjnaa.QFnTxs
