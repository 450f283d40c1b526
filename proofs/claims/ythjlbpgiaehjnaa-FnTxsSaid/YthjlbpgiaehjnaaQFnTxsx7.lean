-- written by this session's program (wip/tools/myprint.py)
import Derived.Test.YthjlbpgiaehjnaaQFnTxsx0
import Derived.Test.YthjlbpgiaehjnaaQFnTxsx6
-- squeezed
namespace Go.Proofs.Ythjlbpgiaehjnaa.QFnTxs
open Go.RowKit Go.Proofs.YthjlbpgiaehjnaaW.PrintWords Go.Proofs.YthjlbpgiaehjnaaW.PrintLast Go.Proofs.YthjlbpgiaehjnaaW.PrintMore
attribute [local go_sem] kT kX kW lg kV kZ kU kY
set_option linter.unusedVariables false
set_option linter.unusedSimpArgs false
set_option maxHeartbeats 8000000
set_option maxRecDepth 100000
theorem Ej {p:Prop} [Decidable p] {α:Type} {x:Option α} {r:α} (h:(if p then x else none)=some r):p∧x=some r:=by
 by_cases c:p
 ·rw[if_pos c]at h;exact⟨c,h⟩
 ·rw[if_neg c]at h;cases h
theorem Dy (p:Prop) [Decidable p] {q:Prop} (a:p→q) (b:¬p→q):q:=if h:p then a h else b h
def iL.l0:Nat→List Int→Int→Option (Int)
 |0,_,_=>none
 |k+1,x0,x3=>if x3<(x0.length:Int)then(if 0≤x3 then((uF.f (rd x0 x3)).bind fun MN=>(if MN=true then(iL.l0 k x0 (wrap64 (x3+1)))else(some 1)))else(none))else(some 0)
def iL.f (k:Nat) (l0:List Int):Option (Int):=if(l0.length:Int)>12 then(some 2)else(iL.l0 k l0 0)
theorem iL.cO:∀k,(∀y0 y1,aD (iL.l0 k y0 y1) (iL.l0 (k+1) y0 y1))
 |0=>fun _ _ r h=>by simp[iL.l0]at h
 |k+1=>by
  have aO:=iL.cO k
  ·intro y0 y1
   unfold iL.l0
   repeat' with_reducible first|exact aO _ _|exact aD.refl _|exact aD.none _|refine aD.ite ?_ ?_|refine aD.bind ?_ (fun _=>?_)
theorem iL.mono:∀a0 k,aD (iL.f k a0) (iL.f (k+1) a0):=by
 intro a0 k;have aO:=iL.cO k;unfold iL.f;repeat' with_reducible first|exact aO _ _|exact aD.refl _|exact aD.none _|refine aD.ite ?_ ?_|refine aD.bind ?_ (fun _=>?_)
theorem iL.calls (k:Nat) (A0:Option Addr) (c0:Nat) (l0:List Int) (r:Int) (w:World) (hr0:Kd.C (Kd.int .i64) w A0 l0.length l0) (hc0:l0.length≤c0) (h:iL.f k l0=some r):
 Calls Try.prog 139 #[.slice A0 l0.length c0] w fun e w'=>e= .returned (.int .i64 r)∧gD w w':=by
 have MW:=am hr0;have NR:=am hc0;clear hr0 hc0;have H:(if(l0.length:Int)>12 then(some 2)else(iL.l0 k l0 0))=some r:=h;clear h;by_cases c2:(l0.length:Int)>12
 ·rw[if_pos c2]at H;have Nc:decide (12<(l0.length:Int))=true:=dt c2;have Nf:decide (12<l0.length)=true:=dt (by omega);clear c2;obtain rfl:=sj H;go_enter Try.func139,Try.ntmps139;go_wp2;go_ret;exact⟨by first|rfl|(simp;done)|(simp[*];done),pW⟩
 ·rw[if_neg c2]at H;have Nc:decide (12<(l0.length:Int))=false:=decide_eq_false c2;have Nf:decide (12<l0.length)=false:=decide_eq_false (by omega);clear c2;have H':=am H;clear H;go_enter Try.func139,Try.ntmps139;go_wp2;go_loopg [3] k (fun kq v3 w'=>∃(aF:Int),v3= .int .i64 aF∧au (iL.l0 kq l0 aF=some r)∧au (kq≤k)∧gD w w')
  case atStart=>exact⟨(0),pF,H',⟨Nat.le_refl _⟩,pW⟩
  case round=>
   clear H';(try clear c2);(try clear Nc);(try clear Nf);obtain⟨aF,rfl,HA,MU,⟨m1,rfl⟩⟩:=hrel;cases gk with
   |zero=>exact absurd HA.out (by simp[iL.l0])
   |succ k1=>
    have H:=HA.out;clear HA;simp only[iL.l0]at H;by_cases c3:aF<(l0.length:Int)
    ·rw[if_pos c3]at H;have NA:=dt c3;clear c3;replace H:=Ej H;obtain⟨c4,H⟩:=H;have Ob:=dt c4;clear c4;replace H:=bO H;obtain⟨MN,MR,H⟩:=H;(try dsimp only at H);have A5:=am MR;clear MR;by_cases c6:MN=true
     ·subst c6;rw[if_pos rfl]at H;have H':=am H;clear H;have aP:0≤(aF:Int):=pD;have aR:aF<(l0.length:Int):=pD;obtain⟨Nv,e246,NG⟩:=Kd.kK MW.out aF aP aR;cases e246;replace aP:=eq_true aP;replace aR:=eq_true aR;(go_wp2_with (first|((with_reducible refine gC (f:=156) rfl ?_);refine bG (some 17) rfl rfl Try.func156 (by kernel_rfl) rfl #[.int .i64 (rd l0 aF)] rfl pA ?_;(with_reducible refine(uF.calls (rd l0 aF) true _ A5.out).mono ?_);rintro e w' ⟨rfl,⟨nd,rfl⟩⟩;refine⟨_,rfl,?_⟩)));go_roundg k1
      case measure=>have:=MU.out;omega
      case rel=>exact⟨(wrap64 (aF+1)),pF,H',⟨by have:=MU.out;omega⟩,pW⟩
     ·replace c6:=Bool.eq_false_iff.mpr c6;subst c6;rw[if_neg (show ¬(false=true) by decide)]at H;obtain rfl:=sj H;have aP:0≤(aF:Int):=pD;have aR:aF<(l0.length:Int):=pD;obtain⟨Nv,e246,NG⟩:=Kd.kK MW.out aF aP aR;cases e246;replace aP:=eq_true aP;replace aR:=eq_true aR;(go_wp2_with (first|((with_reducible refine gC (f:=156) rfl ?_);refine bG (some 17) rfl rfl Try.func156 (by kernel_rfl) rfl #[.int .i64 (rd l0 aF)] rfl pA ?_;(with_reducible refine(uF.calls (rd l0 aF) false _ A5.out).mono ?_);rintro e w' ⟨rfl,⟨nd,rfl⟩⟩;refine⟨_,rfl,?_⟩)));go_ret;exact⟨by first|rfl|(simp;done)|(simp[*];done),pW⟩
    ·rw[if_neg c3]at H;have NA:=decide_eq_false c3;clear c3;obtain rfl:=sj H;go_wp2;go_ret;exact⟨by first|rfl|(simp;done)|(simp[*];done),pW⟩
def iG.l0:Nat→List (bH)→Int→Int→Option (Int)
 |0,_,_,_=>none
 |k+1,x0,x3,x4=>if x4<(x0.length:Int)then(if 0≤x4 then((qz.f ((bM x0 x4).f0)).bind fun NN=>(if NN=true then((iL.f k ((bM x0 x4).f1)).bind fun Ns=>(if Ns=0 then(iG.l0 k x0 (wrap64 (x3+((bM x0 x4).f0))) (wrap64 (x4+1)))else(some Ns)))else(some 3)))else(none))else((qz.f x3).bind fun NM=>(if NM=true then(some 0)else(some 7)))
def iG.f (k:Nat) (l0:List (bH)):Option (Int):=iG.l0 k l0 0 0
theorem iG.cO:∀k,(∀y0 y1 y2,aD (iG.l0 k y0 y1 y2) (iG.l0 (k+1) y0 y1 y2))
 |0=>fun _ _ _ r h=>by simp[iG.l0]at h
 |k+1=>by
  have aO:=iG.cO k
  ·intro y0 y1 y2
   unfold iG.l0
   repeat' with_reducible first|exact aO _ _ _|exact iL.mono _ _|exact aD.refl _|exact aD.none _|refine aD.ite ?_ ?_|refine aD.bind ?_ (fun _=>?_)
theorem iG.mono:∀a0 k,aD (iG.f k a0) (iG.f (k+1) a0):=by
 intro a0 k;have aO:=iG.cO k;unfold iG.f;repeat' with_reducible first|exact aO _ _ _|exact iL.mono _ _|exact aD.refl _|exact aD.none _|refine aD.ite ?_ ?_|refine aD.bind ?_ (fun _=>?_)
theorem iG.calls (k:Nat) (A0:Option Addr) (c0:Nat) (l0:List (bH)) (r:Int) (w:World) (hr0:Kd.C dF w A0 l0.length l0) (hc0:l0.length≤c0) (h:iG.f k l0=some r):
 Calls Try.prog 102 #[.slice A0 l0.length c0] w fun e w'=>e= .returned (.int .i64 r)∧gD w w':=by
 have Mw:=am hr0;have NS:=am hc0;clear hr0 hc0;have H:(iG.l0 k l0 0 0)=some r:=h;clear h;have H':=am H;clear H;go_enter Try.func102,Try.ntmps102;go_wp2;go_loopg [3,4] k (fun kq v3 v4 w'=>∃(aZ:Int) (aB:Int),v3= .int .i64 aZ∧v4= .int .i64 aB∧au (iG.l0 kq l0 aZ aB=some r)∧au (kq≤k)∧gD w w')
 case atStart=>exact⟨(0),(0),pF,pF,H',⟨Nat.le_refl _⟩,pW⟩
 case round=>
  clear H';obtain⟨aZ,aB,rfl,rfl,HA,MV,⟨m20,rfl⟩⟩:=hrel;cases gk with
  |zero=>exact absurd HA.out (by simp[iG.l0])
  |succ k1=>
   have H:=HA.out;clear HA;simp only[iG.l0]at H;by_cases c20:aB<(l0.length:Int)
   ·rw[if_pos c20]at H;have Nw:=dt c20;clear c20;replace H:=Ej H;obtain⟨c21,H⟩:=H;have NZ:=dt c21;clear c21;replace H:=bO H;obtain⟨t20,aS,H⟩:=H;(try dsimp only at H);have Al:=am aS;clear aS;refine Dy (t20=true) ?NJ ?NH
    case' NH=>intro HV;replace HV:=Bool.eq_false_iff.mpr HV;subst HV;rw[if_neg (show ¬(false=true) by decide)]at H;obtain rfl:=sj H;have MZ:=trivial
    case' NJ=>
     intro HV;subst HV;rw[if_pos rfl]at H;replace H:=bO H;obtain⟨t21,MP,H⟩:=H;(try dsimp only at H);have MQ:=am MP;clear MP;refine Dy (t21=0) ?NK ?NI
     case' NI=>intro c23;rw[if_neg c23]at H;have Nz:=beq_eq_false_iff_ne.mpr c23;have Ny:=bne_iff_ne.mpr c23;obtain rfl:=sj H;have MB:=trivial
     case' NK=>intro c23;rw[if_pos c23]at H;have Nz:=beq_iff_eq.mpr c23;have Ny:=bne_eq_false_iff_eq.mpr c23;clear c23;have H':=am H;clear H;have Mx:=trivial
    all_goals
     have MF:0≤(aB:Int):=pD;have MI:aB<(l0.length:Int):=pD;obtain⟨Na,MO,Nb,e20,Oc,Nr,Nn,Ng⟩:=ql Mw.out aB MF MI;cases e20;have NV:=am Ng;have NT:=am Nn;clear Ng Nn;replace MF:=eq_true MF;replace MI:=eq_true MI;(go_wp2_with (first|(have _:=MZ;(with_reducible refine gC (f:=138) rfl ?_);refine bG (some 17) rfl rfl Try.func138 (by kernel_rfl) rfl #[.int .i64 ((bM l0 aB).f0)] rfl pA ?_;(with_reducible refine(qz.calls ((bM l0 aB).f0) false _ Al.out).mono ?_);rintro e w' ⟨rfl,⟨nd,rfl⟩⟩;refine⟨_,rfl,?_⟩)|((first|(have _:=Mx)|(have _:=MB));(with_reducible refine gC (f:=138) rfl ?_);refine bG (some 17) rfl rfl Try.func138 (by kernel_rfl) rfl #[.int .i64 ((bM l0 aB).f0)] rfl pA ?_;(with_reducible refine(qz.calls ((bM l0 aB).f0) true _ Al.out).mono ?_);rintro e w' ⟨rfl,⟨nd,rfl⟩⟩;refine⟨_,rfl,?_⟩;have MG:0≤(aB:Int):=pD;have MJ:aB<(l0.length:Int):=pD;obtain⟨Nt,NP,NY,e21,fE,NC,Np,Nh⟩:=ql Mw.out aB MG MJ;obtain rfl:Na=Nt:=(by injection e21);have MX:=am Nh;have MS:=am Np;clear Nh Np;replace MG:=eq_true MG;replace MJ:=eq_true MJ;have aL:=sj (Nr.symm.trans NC);injection aL with aL ME MC;subst aL;subst MC;clear ME)|(have _:=MB;(with_reducible refine gC (f:=139) rfl ?_);refine bG (some 24) rfl rfl Try.func139 (by kernel_rfl) rfl #[.slice MO ((bM l0 aB).f1).length Nb] rfl pA ?_;(with_reducible refine(iL.calls k1 _ _ ((bM l0 aB).f1) t21 _ ?MK ?ML MQ.out).mono ?_);(case MK=>exact pC MX.out);(case ML=>exact MS.out);rintro e w' ⟨rfl,⟨nd,rfl⟩⟩;refine⟨_,rfl,?_⟩)|(have _:=Mx;(with_reducible refine gC (f:=139) rfl ?_);refine bG (some 24) rfl rfl Try.func139 (by kernel_rfl) rfl #[.slice MO ((bM l0 aB).f1).length Nb] rfl pA ?_;(with_reducible refine(iL.calls k1 _ _ ((bM l0 aB).f1) t21 _ ?MK ?ML MQ.out).mono ?_);(case MK=>exact pC MX.out);(case ML=>exact MS.out);rintro e w' ⟨rfl,⟨nd,rfl⟩⟩;refine⟨_,rfl,?_⟩;have MH:0≤(aB:Int):=pD;have q22:aB<(l0.length:Int):=pD;obtain⟨Nu,NQ,Oa,e22,Od,ND,Nq,Nl⟩:=ql Mw.out aB MH q22;obtain rfl:Na=Nu:=(by injection e22);have NW:=am Nl;have NU:=am Nq;clear Nl Nq;replace MH:=eq_true MH;replace q22:=eq_true q22;have aL:=sj (Nr.symm.trans ND);injection aL with aL ME MC;subst aL;subst MC;clear ME)));first
     |have _:=Mx;go_roundg k1
      case measure=>have:=MV.out;omega
      case rel=>exact⟨(wrap64 (aZ+((bM l0 aB).f0))),(wrap64 (aB+1)),pF,pF,H',⟨by have:=MV.out;omega⟩,pW⟩
     |(first|(have _:=MB)|(have _:=MZ));go_ret;exact⟨by first|rfl|(simp;done)|(simp[*];done),pW⟩
   ·rw[if_neg c20]at H;have Nw:=decide_eq_false c20;clear c20;replace H:=bO H;obtain⟨t20,aS,H⟩:=H;(try dsimp only at H);have Al:=am aS;clear aS;by_cases c21:t20=true
    ·subst c21;rw[if_pos rfl]at H;obtain rfl:=sj H;(go_wp2_with (first|((with_reducible refine gC (f:=138) rfl ?_);refine bG (some 36) rfl rfl Try.func138 (by kernel_rfl) rfl #[.int .i64 aZ] rfl pA ?_;(with_reducible refine(qz.calls aZ true _ Al.out).mono ?_);rintro e w' ⟨rfl,⟨nd,rfl⟩⟩;refine⟨_,rfl,?_⟩)));go_ret;exact⟨by first|rfl|(simp;done)|(simp[*];done),pW⟩
    ·replace c21:=Bool.eq_false_iff.mpr c21;subst c21;rw[if_neg (show ¬(false=true) by decide)]at H;obtain rfl:=sj H;(go_wp2_with (first|((with_reducible refine gC (f:=138) rfl ?_);refine bG (some 36) rfl rfl Try.func138 (by kernel_rfl) rfl #[.int .i64 aZ] rfl pA ?_;(with_reducible refine(qz.calls aZ false _ Al.out).mono ?_);rintro e w' ⟨rfl,⟨nd,rfl⟩⟩;refine⟨_,rfl,?_⟩)));go_ret;exact⟨by first|rfl|(simp;done)|(simp[*];done),pW⟩
end Go.Proofs.Ythjlbpgiaehjnaa.QFnTxs
