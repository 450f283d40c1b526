-- written by this session's program (wip/tools/myprint.py)
import Derived.Test.YthjlbpgiaehjnaaQFnTxsx0
import Derived.Test.YthjlbpgiaehjnaaQFnTxsx1
-- squeezed
namespace Go.Proofs.Ythjlbpgiaehjnaa.QFnTxs
open Go.RowKit Go.Proofs.YthjlbpgiaehjnaaW.PrintWords Go.Proofs.YthjlbpgiaehjnaaW.PrintLast Go.Proofs.YthjlbpgiaehjnaaW.PrintMore
attribute [local go_sem] kT kX kW lg kV kZ kU kY
set_option linter.unusedVariables false
set_option linter.unusedSimpArgs false
set_option maxHeartbeats 8000000
set_option maxRecDepth 100000
theorem Ei {p:Prop} [Decidable p] {α:Type} {x:Option α} {r:α} (h:(if p then x else none)=some r):p∧x=some r:=by
 by_cases c:p
 ·rw[if_pos c]at h;exact⟨c,h⟩
 ·rw[if_neg c]at h;cases h
def oh.f (k:Nat) (l0:List Int):Option (Bool):=(je.f k l0).bind fun aR=>(some (decide (aR≥0)))
theorem oh.mono:∀a0 k,aD (oh.f k a0) (oh.f (k+1) a0):=by
 intro a0 k;unfold oh.f;repeat' with_reducible first|exact je.mono _ _|exact aD.refl _|exact aD.none _|refine aD.ite ?_ ?_|refine aD.bind ?_ (fun _=>?_)
theorem oh.calls (k:Nat) (A0:Option Addr) (c0:Nat) (l0:List Int) (r:Bool) (w:World) (hr0:Kd.C (Kd.int .i64) w A0 l0.length l0) (hc0:l0.length≤c0) (h:oh.f k l0=some r):
 Calls Try.prog 107 #[.slice A0 l0.length c0,.func (.func 111) #[] #[]] w fun e w'=>e= .returned (.bool r)∧gD w w':=by
 have aF:=am hr0;have aL:=am hc0;clear hr0 hc0;have H:((je.f k l0).bind fun aR=>(some (decide (aR≥0))))=some r:=h;clear h;replace H:=bO H;obtain⟨aR,ME,H⟩:=H;try dsimp only at H
 have A2:=am ME;clear ME;obtain rfl:=sj H;go_enter Try.func107,Try.ntmps107;go_wp2_with (first|((with_reducible refine gC (f:=141) rfl ?_);refine bG (some 7) rfl rfl Try.func141 (by kernel_rfl) rfl #[.slice A0 l0.length c0,.func (.func 111) #[] #[]] rfl pA ?_;(with_reducible refine(je.calls k _ _ l0 aR _ ?aO ?aP A2.out).mono ?_);(case aO=>exact pC aF.out);(case aP=>exact aL.out);rintro e w' ⟨rfl,⟨nd,rfl⟩⟩;refine⟨_,rfl,?_⟩))
 go_ret;exact⟨by first|rfl|(simp;done)|(simp[*];done),pW⟩
def nJ.f (k:Nat) (l0:List Int):Option (Int):=if(l0.length:Int)>12 then(some 2)else((oh.f k l0).bind fun t124=>(if t124=true then(some 1)else(some 0)))
theorem nJ.mono:∀a0 k,aD (nJ.f k a0) (nJ.f (k+1) a0):=by
 intro a0 k;unfold nJ.f;repeat' with_reducible first|exact oh.mono _ _|exact aD.refl _|exact aD.none _|refine aD.ite ?_ ?_|refine aD.bind ?_ (fun _=>?_)
theorem nJ.calls (k:Nat) (A0:Option Addr) (c0:Nat) (l0:List Int) (r:Int) (w:World) (hr0:Kd.C (Kd.int .i64) w A0 l0.length l0) (hc0:l0.length≤c0) (h:nJ.f k l0=some r):
 Calls Try.prog 60 #[.slice A0 l0.length c0] w fun e w'=>e= .returned (.int .i64 r)∧gD w w':=by
 have aF:=am hr0;have aL:=am hc0;clear hr0 hc0;have H:(if(l0.length:Int)>12 then(some 2)else((oh.f k l0).bind fun t124=>(if t124=true then(some 1)else(some 0))))=some r:=h;clear h;by_cases c2:(l0.length:Int)>12
 ·rw[if_pos c2]at H;have Mw:decide (12<(l0.length:Int))=true:=dt c2;have MN:decide (12<l0.length)=true:=dt (by omega);clear c2;obtain rfl:=sj H;go_enter Try.func60,Try.ntmps60;go_wp2;go_ret;exact⟨by first|rfl|(simp;done)|(simp[*];done),pW⟩
 ·rw[if_neg c2]at H;have Mw:decide (12<(l0.length:Int))=false:=decide_eq_false c2;have MN:decide (12<l0.length)=false:=decide_eq_false (by omega);clear c2;replace H:=bO H;obtain⟨t124,MF,H⟩:=H;(try dsimp only at H);have A3:=am MF;clear MF;by_cases c4:t124=true
  ·subst c4;rw[if_pos rfl]at H;obtain rfl:=sj H;go_enter Try.func60,Try.ntmps60;(go_wp2_with (first|((with_reducible refine gC (f:=107) rfl ?_);refine bG (some 7) rfl rfl Try.func107 (by kernel_rfl) rfl #[.slice A0 l0.length c0,.func (.func 111) #[] #[]] rfl pA ?_;(with_reducible refine(oh.calls k _ _ l0 true _ ?aO ?aP A3.out).mono ?_);(case aO=>exact pC aF.out);(case aP=>exact aL.out);rintro e w' ⟨rfl,⟨nd,rfl⟩⟩;refine⟨_,rfl,?_⟩)));go_ret;exact⟨by first|rfl|(simp;done)|(simp[*];done),pW⟩
  ·replace c4:=Bool.eq_false_iff.mpr c4;subst c4;rw[if_neg (show ¬(false=true) by decide)]at H;obtain rfl:=sj H;go_enter Try.func60,Try.ntmps60;(go_wp2_with (first|((with_reducible refine gC (f:=107) rfl ?_);refine bG (some 7) rfl rfl Try.func107 (by kernel_rfl) rfl #[.slice A0 l0.length c0,.func (.func 111) #[] #[]] rfl pA ?_;(with_reducible refine(oh.calls k _ _ l0 false _ ?aO ?aP A3.out).mono ?_);(case aO=>exact pC aF.out);(case aP=>exact aL.out);rintro e w' ⟨rfl,⟨nd,rfl⟩⟩;refine⟨_,rfl,?_⟩)));go_ret;exact⟨by first|rfl|(simp;done)|(simp[*];done),pW⟩
def iQ.l0:Nat→Int→List (bH)→Int→Int→Option (Int)
 |0,_,_,_,_=>none
 |k+1,x3,x6,x7,x8=>if x8<x7 then(if 0≤x8 then(if x8<(x6.length:Int)then(iQ.l0 k (wrap64 (x3+((bM x6 x8).f0))) x6 x7 (wrap64 (x8+1)))else(none))else(none))else(some x3)
def iQ.f (k:Nat) (l0:List (bH)):Option (Int):=iQ.l0 k 0 l0 (l0.length:Int) 0
theorem iQ.cO:∀k,(∀y0 y1 y2 y3,aD (iQ.l0 k y0 y1 y2 y3) (iQ.l0 (k+1) y0 y1 y2 y3))
 |0=>fun _ _ _ _ r h=>by simp[iQ.l0]at h
 |k+1=>by
  have Mx:=iQ.cO k
  ·intro y0 y1 y2 y3
   unfold iQ.l0
   repeat' with_reducible first|exact Mx _ _ _ _|exact aD.refl _|exact aD.none _|refine aD.ite ?_ ?_|refine aD.bind ?_ (fun _=>?_)
theorem iQ.mono:∀a0 k,aD (iQ.f k a0) (iQ.f (k+1) a0):=by
 intro a0 k;have Mx:=iQ.cO k;unfold iQ.f;repeat' with_reducible first|exact Mx _ _ _ _|exact aD.refl _|exact aD.none _|refine aD.ite ?_ ?_|refine aD.bind ?_ (fun _=>?_)
theorem iQ.calls (k:Nat) (A0:Option Addr) (c0:Nat) (l0:List (bH)) (r:Int) (w:World) (hr0:Kd.C dF w A0 l0.length l0) (hc0:l0.length≤c0) (h:iQ.f k l0=some r):
 Calls Try.prog 61 #[.slice A0 l0.length c0] w fun e w'=>e= .returned (.int .i64 r)∧Below w.heap.size w w':=by
 have Nf:=Try.underlying86;have aF:=am hr0;have aL:=am hc0;clear hr0 hc0;have HB:=am (Below.refl w.heap.size w);have H:(iQ.l0 k 0 l0 (l0.length:Int) 0)=some r:=h;clear h;have H':=am H;clear H;go_enter Try.func61,Try.ntmps61;go_wp2;go_loopg [3,8] k (fun kq v3 v8 w'=>∃(HV:Int) (aB:Int),v3= .int .i64 HV∧v8= .int .i64 aB∧au (iQ.l0 kq HV l0 (l0.length:Int) aB=some r)∧au (kq≤k)∧au (Below w.heap.size w w'))
 case atStart=>exact⟨(0),(0),pF,pF,H',⟨Nat.le_refl _⟩,⟨pB⟩⟩
 case round=>
  clear H';obtain⟨HV,aB,rfl,rfl,HA,MG,HB⟩:=hrel;cases gk with
  |zero=>exact absurd HA.out (by simp[iQ.l0])
  |succ k1=>
   have H:=HA.out;clear HA;simp only[iQ.l0]at H;by_cases c2:aB<(l0.length:Int)
   ·rw[if_pos c2]at H;have Mw:=dt c2;clear c2;replace H:=Ei H;obtain⟨c3,H⟩:=H;have MW:=dt c3;clear c3;replace H:=Ei H;obtain⟨c4,H⟩:=H;have MX:=dt c4;clear c4;have H':=am H;clear H;have MB:0≤(aB:Int):=pD;have MC:aB<(l0.length:Int):=pD;obtain⟨MU,MO,MV,e125,MK,ML,MJ,MI⟩:=ql aF.out aB MB MC;cases e125;replace MK:=cb HB MK;replace ML:=cb HB ML;have MS:=am MI;have MR:=am MJ;clear MI MJ;replace MB:=eq_true MB;replace MC:=eq_true MC;(go_wp2_with (first|((with_reducible refine cB (N:=5) rfl ?_);refine eB ?hg (N:=5) ?hd (cs:=#[.int .i64 0,.slice none 0 0]) (t:=86) ?hr ?_;(case hd=>rfl);(case hg=>rfl);(case hr=>first|(go_simp;done)|(go_simp;rfl));intro Al hg w5 MH hb;have n_:=t4 (bq pB hb) (MH) ((by rw[hg];exact(bE pB):w.heap.size≤Al)) ((by rw[hg];exact(bE pB):w.heap.size≤Al));clear HB;obtain⟨HB,aS,MQ,MP⟩:=n_;clear hb MH hg;have MZ:w5.cell? ⟨Al,0,none⟩=some (.int .i64 0):=(aj aS.out 0).trans rfl;have Na:w5.cell? ⟨Al,1,none⟩=some (.slice none 0 0):=(aj aS.out 1).trans rfl;have Nb:=aM aS.out 0;have Nc:=aM aS.out 1)));go_roundg k1
    case measure=>have:=MG.out;omega
    case rel=>exact⟨(wrap64 (HV+((bM l0 aB).f0))),(wrap64 (aB+1)),pF,pF,H',⟨by have:=MG.out;omega⟩,⟨pB⟩⟩
   ·rw[if_neg c2]at H;have Mw:=decide_eq_false c2;clear c2;obtain rfl:=sj H;go_wp2;go_ret;exact⟨pE,pB⟩
end Go.Proofs.Ythjlbpgiaehjnaa.QFnTxs
