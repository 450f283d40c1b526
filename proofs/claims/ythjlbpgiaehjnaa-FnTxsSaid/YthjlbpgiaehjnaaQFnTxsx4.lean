-- written by this session's program (wip/tools/myprint.py)
import Derived.Test.YthjlbpgiaehjnaaQFnTxsx0
import Derived.Test.YthjlbpgiaehjnaaQFnTxsx3
-- squeezed
namespace Go.Proofs.Ythjlbpgiaehjnaa.QFnTxs
open Go.RowKit Go.Proofs.YthjlbpgiaehjnaaW.PrintWords Go.Proofs.YthjlbpgiaehjnaaW.PrintLast Go.Proofs.YthjlbpgiaehjnaaW.PrintMore
attribute [local go_sem] kT kX kW lg kV kZ kU kY
set_option linter.unusedVariables false
set_option linter.unusedSimpArgs false
set_option maxHeartbeats 8000000
set_option maxRecDepth 100000
theorem qO {p:Prop} [Decidable p] {α:Type} {x:Option α} {r:α} (h:(if p then x else none)=some r):p∧x=some r:=by
 by_cases c:p
 ·rw[if_pos c]at h;exact⟨c,h⟩
 ·rw[if_neg c]at h;cases h
mutual
def fF.l0:Nat→List (List Int)→Int→List (List Int)→Int→Int→Option (List Int)
 |0,_,_,_,_,_=>none
 |k+1,x0,x3,x9,x10,HV=>if HV<x10 then(if 0≤HV then(if HV<(x9.length:Int)then(if(wrap64 (x3+((nM x9 HV).length:Int)))<0 then(none)else(fF.l0 k x0 (wrap64 (x3+((nM x9 HV).length:Int))) x9 x10 (wrap64 (HV+1))))else(none))else(none))else((uz.f x3).bind fun MS=>(fF.l1 k MS x0 (x0.length:Int) 0))
def fF.l1:Nat→List Int→List (List Int)→Int→Int→Option (List Int)
 |0,_,_,_,_=>none
 |k+1,x6,x25,Nw,x27=>if x27<Nw then(if 0≤x27 then(if x27<(x25.length:Int)then(if x6.length+(nM x25 x27).length<140737488355328 then(fF.l1 k (x6++(nM x25 x27)) x25 Nw (wrap64 (x27+1)))else(none))else(none))else(none))else(some x6)
end
def fF.f (k:Nat) (l0:List (List Int)):Option (List Int):=fF.l0 k l0 0 l0 (l0.length:Int) 0
theorem fF.cO:∀k,(∀y0 y1 y2 y3 y4,aD (fF.l0 k y0 y1 y2 y3 y4) (fF.l0 (k+1) y0 y1 y2 y3 y4))∧(∀y0 y1 y2 y3,aD (fF.l1 k y0 y1 y2 y3) (fF.l1 (k+1) y0 y1 y2 y3))
 |0=>⟨fun _ _ _ _ _ r h=>by simp[fF.l0]at h,fun _ _ _ _ r h=>by simp[fF.l1]at h⟩
 |k+1=>by
  obtain⟨MB,ih1⟩:=fF.cO k
  refine⟨?_,?_⟩
  ·intro y0 y1 y2 y3 y4
   unfold fF.l0
   repeat' with_reducible first|exact MB _ _ _ _ _|exact ih1 _ _ _ _|exact aD.refl _|exact aD.none _|refine aD.ite ?_ ?_|refine aD.bind ?_ (fun _=>?_)
  ·intro y0 y1 y2 y3
   unfold fF.l1
   repeat' with_reducible first|exact MB _ _ _ _ _|exact ih1 _ _ _ _|exact aD.refl _|exact aD.none _|refine aD.ite ?_ ?_|refine aD.bind ?_ (fun _=>?_)
theorem fF.mono:∀a0 k,aD (fF.f k a0) (fF.f (k+1) a0):=by
 intro a0 k;obtain⟨MB,ih1⟩:=fF.cO k;unfold fF.f;repeat' with_reducible first|exact MB _ _ _ _ _|exact ih1 _ _ _ _|exact aD.refl _|exact aD.none _|refine aD.ite ?_ ?_|refine aD.bind ?_ (fun _=>?_)
theorem fF.calls (k:Nat) (A0:Option Addr) (c0:Nat) (l0:List (List Int)) (r:List Int) (w:World) (hr0:Kd.C (Kd.slice 5 (Kd.int .u8)) w A0 l0.length l0) (hc0:l0.length≤c0) (h:fF.f k l0=some r):
 Calls Try.prog 104 #[.slice A0 l0.length c0] w fun e w'=>∃MC:Value,e= .returned (MC)∧Kd.R (Kd.int .u8) 5 w' w.heap.size (fun _=>True) MC r∧Below w.heap.size w w':=by
 have MR:=am hr0;have ND:=am hc0;clear hr0 hc0;have HB:=am (Below.refl w.heap.size w);have H:(fF.l0 k l0 0 l0 (l0.length:Int) 0)=some r:=h;clear h;have H':=am H;clear H;go_enter Try.func104,Try.ntmps104;go_wp2;go_loopg [3,11] k (fun kq v3 v11 w'=>∃(Al:Int) (aP:Int),v3= .int .i64 Al∧v11= .int .i64 aP∧au (fF.l0 kq l0 Al l0 (l0.length:Int) aP=some r)∧au (kq≤k)∧au (Below w.heap.size w w'))
 case atStart=>exact⟨(0),(0),pF,pF,H',⟨Nat.le_refl _⟩,⟨pB⟩⟩
 case round=>
  clear H';obtain⟨Al,aP,rfl,rfl,HA,ME,HB⟩:=hrel;cases gk with
  |zero=>exact absurd HA.out (by simp[fF.l0])
  |succ k1=>
   have H:=HA.out;clear HA;simp only[fF.l0]at H;by_cases c2:aP<(l0.length:Int)
   ·rw[if_pos c2]at H;have Nl:=dt c2;clear c2;replace H:=qO H;obtain⟨c3,H⟩:=H;have Ov:=dt c3;clear c3;replace H:=qO H;obtain⟨c4,H⟩:=H;have Nn:=dt c4;clear c4;by_cases c5:(wrap64 (Al+((nM l0 aP).length:Int)))<0
    ·rw[if_pos c5]at H;exact absurd H (by simp)
    ·rw[if_neg c5]at H;have NU:=decide_eq_false c5;clear c5;have H':=am H;clear H;have MV:0≤(aP:Int):=pD;have MZ:aP<(l0.length:Int):=pD;obtain⟨Ol,Oe,Ot,NZ,Nt,Nr,Np⟩:=Du MR.out aP MV MZ;cases NZ;replace Nt:=cb HB Nt;have Oj:=am Np;have Oh:=am Nr;clear Np Nr;replace MV:=eq_true MV;replace MZ:=eq_true MZ;go_wp2;go_roundg k1
     case measure=>have:=ME.out;omega
     case rel=>exact⟨(wrap64 (Al+((nM l0 aP).length:Int))),(wrap64 (aP+1)),pF,pF,H',⟨by have:=ME.out;omega⟩,⟨pB⟩⟩
   ·rw[if_neg c2]at H;have Nl:=decide_eq_false c2;clear c2;replace H:=bO H;obtain⟨MS,Nf,H⟩:=H;(try dsimp only at H);have A6:=am Nf;clear Nf;have H':=am H;clear H;(go_wp2_with (first|((with_reducible refine gC (f:=140) rfl ?_);refine bG (some 24) rfl rfl Try.func140 (by kernel_rfl) rfl #[.slice none 0 0,.int .i64 Al] rfl pA ?_;(with_reducible refine(uz.calls Al MS _ A6.out).mono ?_);rintro e w7 ⟨Oy,rfl,ho0,hb⟩;refine⟨_,rfl,?_⟩;have n_:=t2 (rL ho0 (bE pB)) (bq pB hb);clear HB;obtain⟨NG,HB⟩:=n_;(try clear hb);(try clear ho0))));go_loopg [6,27] k1 (fun kq v6 v27 w'=>∃(MQ:List Int) (Mx:Int),v27= .int .i64 Mx∧au (fF.l1 kq MQ l0 (l0.length:Int) Mx=some r)∧au (kq≤k1)∧au (Kd.R (Kd.int .u8) 5 w' w.heap.size (fun _=>True) v6 MQ)∧au (Below w.heap.size w w'))
    case atStart=>exact⟨(MS),(0),pF,H',⟨Nat.le_refl _⟩,⟨(pR NG)⟩,⟨pB⟩⟩
    case round=>
     clear H';(try clear c2);(try clear Nl);obtain⟨MQ,Mx,rfl,HA,Nh,MU,HB⟩:=hrel;cases gk with
     |zero=>exact absurd HA.out (by simp[fF.l1])
     |succ k2=>
      have H:=HA.out;clear HA;simp only[fF.l1]at H;by_cases c8:Mx<(l0.length:Int)
      ·rw[if_pos c8]at H;have NV:=dt c8;clear c8;replace H:=qO H;obtain⟨c9,H⟩:=H;have Ox:=dt c9;clear c9;replace H:=qO H;obtain⟨c10,H⟩:=H;have Oq:=dt c10;clear c10;replace H:=qO H;obtain⟨c11,H⟩:=H;have NN:=am c11;clear c11;obtain⟨Ny,MN⟩:∃y_:List Int,y_=(MQ++(nM l0 Mx)):=⟨_,rfl⟩;(replace H:(fF.l1 k2 Ny l0 (l0.length:Int) (wrap64 (Mx+1)))=some r:=by first|(rw[MN];with_reducible exact H)|(have Mw:=(Option.bind_some _ _).symm.trans H;rw[MN];with_reducible exact Mw)|(have Mw:=(Option.bind_some _ _).symm.trans H;with_reducible exact Mw)|with_reducible exact H|(rw[MN];exact H)|exact H);have NR:=am MN;clear MN;have H':=am H;clear H;have MW:0≤(Mx:Int):=pD;have Na:Mx<(l0.length:Int):=pD;obtain⟨Om,Og,Ou,e153,Nu,Ns,Nq⟩:=Du MR.out Mx MW Na;cases e153;replace Nu:=cb HB Nu;have NM:=am Nq;have Oi:=am Ns;clear Nq Ns;replace MW:=eq_true MW;replace Na:=eq_true Na;(go_wp2_with (first|((with_reducible refine gB (b:=.append) (xs:=#[.tmp 31,.tmp 32]) rfl ?_);at_builtin;refine Kd.nG (Kd.int .u8) (w0:=w) w.heap.size rfl (.tmp 31) (.tmp 32) 22 5 (.int .u8 0) 1 rfl Try.underlying22 info5 rfl (by decide) (by omega) u6 MQ (nM l0 Mx) _ _ _ (fun _=>True) (fun _=>False) rfl rfl ?aO ?aR (fun _ _ h=>h) (fun _ h=>h.elim) ?aF ?aB ?aS ?aL ?_;(case aR=>exact pC (Kd.dV NM.out HB.out));(case aB=>exact pB);(case aF=>exact(fun _ _=>trivial));(case aO=>exact(pR MU));(case aS=>exact(bE pB));(case aL=>have:=NN.out;omega);intro Oz OD ho hb hg hat;rw[←NR.out]at ho;have n_:=t2 (hb) (ho);clear HB MU;obtain⟨HB,NH⟩:=n_;clear ho hb hg hat)));go_roundg k2
       case measure=>have:=ME.out;have:=Nh.out;omega
       case rel=>exact⟨(Ny),(wrap64 (Mx+1)),pF,H',⟨by have:=ME.out;have:=Nh.out;omega⟩,⟨(pR NH)⟩,⟨pB⟩⟩
      ·rw[if_neg c8]at H;have NV:=decide_eq_false c8;clear c8;obtain rfl:=sj H;go_wp2;go_ret;exact⟨_,pE,(pR MU),pB⟩
def sH.f (a0:Int):Option (List Int):=(jk.f (Int.tmod a0 65536)).bind fun t157=>((jk.f (wrap64 (Int.tdiv a0 65536))).bind fun t160=>(if t157.length+t160.length<140737488355328 then(some (t157++t160))else(none)))
theorem sH.calls (a0:Int) (r:List Int) (w:World) (h:sH.f a0=some r):
 Calls Try.prog 105 #[.int .i64 a0] w fun e w'=>∃MC:Value,e= .returned (MC)∧Kd.R (Kd.int .u8) 5 w' w.heap.size (fun _=>True) MC r∧Below w.heap.size w w':=by
 have HB:=am (Below.refl w.heap.size w);have H:((jk.f (Int.tmod a0 65536)).bind fun t157=>((jk.f (wrap64 (Int.tdiv a0 65536))).bind fun t160=>(if t157.length+t160.length<140737488355328 then(some (t157++t160))else(none))))=some r:=h;clear h;replace H:=bO H;obtain⟨t157,ML,H⟩:=H;try dsimp only at H
 have A2:=am ML;clear ML;replace H:=bO H;obtain⟨t160,Nc,H⟩:=H;try dsimp only at H
 have A3:=am Nc;clear Nc;replace H:=qO H;obtain⟨c4,H⟩:=H;have NP:=am c4;clear c4;obtain⟨Od,MO⟩:∃y_:List Int,y_=(t157++t160):=⟨_,rfl⟩;replace H:(some Od)=some r:=by first|(rw[MO];with_reducible exact H)|(have Mw:=(Option.bind_some _ _).symm.trans H;rw[MO];with_reducible exact Mw)|(have Mw:=(Option.bind_some _ _).symm.trans H;with_reducible exact Mw)|with_reducible exact H|(rw[MO];exact H)|exact H
 have NS:=am MO;clear MO;obtain rfl:=sj H;go_enter Try.func105,Try.ntmps105;go_wp2_with (first|((with_reducible refine gC (f:=79) rfl ?_);refine bG (some 5) rfl rfl Try.func79 (by kernel_rfl) rfl #[.int .i64 (Int.tmod a0 65536)] rfl pA ?_;(with_reducible refine(jk.calls (Int.tmod a0 65536) t157 _ A2.out).mono ?_);rintro e w5 ⟨Oc,rfl,ho0,hb⟩;refine⟨_,rfl,?_⟩;have n_:=t2 (rL ho0 (bE pB)) (bq pB hb);clear HB;obtain⟨MH,HB⟩:=n_;(try clear hb);(try clear ho0))|((with_reducible refine gC (f:=79) rfl ?_);refine bG (some 8) rfl rfl Try.func79 (by kernel_rfl) rfl #[.int .i64 (wrap64 (Int.tdiv a0 65536))] rfl pA ?_;(with_reducible refine(jk.calls (wrap64 (Int.tdiv a0 65536)) t160 _ A3.out).mono ?_);rintro e w6 ⟨OA,rfl,ho0,hb⟩;refine⟨_,rfl,?_⟩;have n_:=t3 (rE (pR MH) (rB ho0) hb) (rL (rW ho0 (Kd.bP (pR MH))) (bE pB)) (bq pB hb);clear MH HB;obtain⟨MH,MI,HB⟩:=n_;(try clear hb);(try clear ho0);obtain⟨NC,NY,Ob⟩:=rS MI.out;subst Ob)|((with_reducible refine gB (b:=.append) (xs:=#[.tmp 5,.tmp 8]) rfl ?_);at_builtin;refine Kd.nG (Kd.int .u8) (w0:=w) w.heap.size rfl (.tmp 5) (.tmp 8) 22 5 (.int .u8 0) 1 rfl Try.underlying22 info5 rfl (by decide) (by omega) Oc t157 t160 _ _ _ (fun k_=>some k_≠(.slice NC t160.length NY:Value).ownBlock) (fun _=>False) rfl rfl ?aO ?aR (fun _ _ h=>h) (fun _ h=>h.elim) ?aF ?aB ?aS ?aL ?_;(case aR=>exact pC (rr MI.out).2.2);(case aB=>exact pB);(case aF=>exact(fun k_ hk=>Kd.fresh' (Kd.bP (pR MI)) k_ hk));(case aO=>exact(pT (Kd.bn MH.out (fun _ hk=>hk.2))));(case aS=>exact(bE pB));(case aL=>have:=NP.out;omega);intro v164 w7 ho hb hg hat;rw[←NS.out]at ho;have n_:=t3 (Kd.jc (ok:=(fun _=>True)) (pR MI) hg hat) (hb) (ho);clear MI HB MH;obtain⟨MI,HB,NI⟩:=n_;clear ho hb hg hat))
 go_ret;exact⟨_,pE,(pT (Kd.bn NI.out (fun _ hk=>trivial))),pB⟩
def gX.l0:Nat→List Int→List Int→Int→Int→Option (List Int)
 |0,_,_,_,_=>none
 |k+1,x3,x9,x10,HV=>if HV<x10 then(if 0≤HV then(if HV<(x9.length:Int)then((jk.f (rd x9 HV)).bind fun MG=>(if x3.length+MG.length<140737488355328 then(gX.l0 k (x3++MG) x9 x10 (wrap64 (HV+1)))else(none)))else(none))else(none))else(some x3)
def gX.f (k:Nat) (l0:List Int):Option (List Int):=(jk.f (l0.length:Int)).bind fun MK=>(gX.l0 k MK l0 (l0.length:Int) 0)
theorem gX.cO:∀k,(∀y0 y1 y2 y3,aD (gX.l0 k y0 y1 y2 y3) (gX.l0 (k+1) y0 y1 y2 y3))
 |0=>fun _ _ _ _ r h=>by simp[gX.l0]at h
 |k+1=>by
  have MB:=gX.cO k
  ·intro y0 y1 y2 y3
   unfold gX.l0
   repeat' with_reducible first|exact MB _ _ _ _|exact aD.refl _|exact aD.none _|refine aD.ite ?_ ?_|refine aD.bind ?_ (fun _=>?_)
theorem gX.mono:∀a0 k,aD (gX.f k a0) (gX.f (k+1) a0):=by
 intro a0 k;have MB:=gX.cO k;unfold gX.f;repeat' with_reducible first|exact MB _ _ _ _|exact aD.refl _|exact aD.none _|refine aD.ite ?_ ?_|refine aD.bind ?_ (fun _=>?_)
theorem gX.calls (k:Nat) (A0:Option Addr) (c0:Nat) (l0:List Int) (r:List Int) (w:World) (hr0:Kd.C (Kd.int .i64) w A0 l0.length l0) (hc0:l0.length≤c0) (h:gX.f k l0=some r):
 Calls Try.prog 106 #[.slice A0 l0.length c0] w fun e w'=>∃MC:Value,e= .returned (MC)∧Kd.R (Kd.int .u8) 5 w' w.heap.size (fun _=>True) MC r∧Below w.heap.size w w':=by
 have MR:=am hr0;have ND:=am hc0;clear hr0 hc0;have HB:=am (Below.refl w.heap.size w);have H:((jk.f (l0.length:Int)).bind fun MK=>(gX.l0 k MK l0 (l0.length:Int) 0))=some r:=h;clear h;replace H:=bO H;obtain⟨MK,ML,H⟩:=H;try dsimp only at H
 have A2:=am ML;clear ML;have H':=am H;clear H;go_enter Try.func106,Try.ntmps106;go_wp2_with (first|((with_reducible refine gC (f:=79) rfl ?_);refine bG (some 8) rfl rfl Try.func79 (by kernel_rfl) rfl #[.int .i64 (l0.length:Int)] rfl pA ?_;(with_reducible refine(jk.calls (l0.length:Int) MK _ A2.out).mono ?_);rintro e w3 ⟨v167,rfl,ho0,hb⟩;refine⟨_,rfl,?_⟩;have n_:=t2 (rL ho0 (bE pB)) (bq pB hb);clear HB;obtain⟨NJ,HB⟩:=n_;(try clear hb);(try clear ho0)))
 go_loopg [3,11] k (fun kq v3 v11 w'=>∃(Al:List Int) (aP:Int),v11= .int .i64 aP∧au (gX.l0 kq Al l0 (l0.length:Int) aP=some r)∧au (kq≤k)∧au (Kd.R (Kd.int .u8) 5 w' w.heap.size (fun _=>True) v3 Al)∧au (Below w.heap.size w w'))
 case atStart=>exact⟨(MK),(0),pF,H',⟨Nat.le_refl _⟩,⟨(pR NJ)⟩,⟨pB⟩⟩
 case round=>
  clear H';obtain⟨Al,aP,rfl,HA,ME,MF,HB⟩:=hrel;cases gk with
  |zero=>exact absurd HA.out (by simp[gX.l0])
  |succ k1=>
   have H:=HA.out;clear HA;simp only[gX.l0]at H;by_cases c4:aP<(l0.length:Int)
   ·rw[if_pos c4]at H;have Nn:=dt c4;clear c4;replace H:=qO H;obtain⟨c5,H⟩:=H;have NU:=dt c5;clear c5;replace H:=qO H;obtain⟨c6,H⟩:=H;have Ow:=dt c6;clear c6;replace H:=bO H;obtain⟨MG,Ng,H⟩:=H;(try dsimp only at H);have A7:=am Ng;clear Ng;replace H:=qO H;obtain⟨c8,H⟩:=H;have NQ:=am c8;clear c8;obtain⟨Nz,MP⟩:∃y_:List Int,y_=(Al++MG):=⟨_,rfl⟩;(replace H:(gX.l0 k1 Nz l0 (l0.length:Int) (wrap64 (aP+1)))=some r:=by first|(rw[MP];with_reducible exact H)|(have Mw:=(Option.bind_some _ _).symm.trans H;rw[MP];with_reducible exact Mw)|(have Mw:=(Option.bind_some _ _).symm.trans H;with_reducible exact Mw)|with_reducible exact H|(rw[MP];exact H)|exact H);have NT:=am MP;clear MP;have H':=am H;clear H;have MX:0≤(aP:Int):=pD;have Nb:aP<(l0.length:Int):=pD;obtain⟨Oo,e169,Nv⟩:=Kd.kK MR.out aP MX Nb;cases e169;replace Nv:=cb HB Nv;replace MX:=eq_true MX;replace Nb:=eq_true Nb;(go_wp2_with (first|((with_reducible refine gC (f:=79) rfl ?_);refine bG (some 17) rfl rfl Try.func79 (by kernel_rfl) rfl #[.int .i64 (rd l0 aP)] rfl pA ?_;(with_reducible refine(jk.calls (rd l0 aP) MG _ A7.out).mono ?_);rintro e w9 ⟨v171,rfl,ho0,hb⟩;refine⟨_,rfl,?_⟩;have n_:=t3 (rE (pR MF) (rB ho0) hb) (rL (rW ho0 (Kd.bP (pR MF))) (bE pB)) (bq pB hb);clear MF HB;obtain⟨MF,MJ,HB⟩:=n_;(try clear hb);(try clear ho0);obtain⟨NA,NW,Oa⟩:=rS MJ.out;subst Oa)|((with_reducible refine gB (b:=.append) (xs:=#[.tmp 15,.tmp 17]) rfl ?_);at_builtin;refine Kd.nG (Kd.int .u8) (w0:=w) w.heap.size rfl (.tmp 15) (.tmp 17) 22 5 (.int .u8 0) 1 rfl Try.underlying22 info5 rfl (by decide) (by omega) u3 Al MG _ _ _ (fun k_=>some k_≠(.slice NA MG.length NW:Value).ownBlock) (fun _=>False) rfl rfl ?aO ?aR (fun _ _ h=>h) (fun _ h=>h.elim) ?aF ?aB ?aS ?aL ?_;(case aR=>exact pC (rr MJ.out).2.2);(case aB=>exact pB);(case aF=>exact(fun k_ hk=>Kd.fresh' (Kd.bP (pR MJ)) k_ hk));(case aO=>exact(pT (Kd.bn MF.out (fun _ hk=>hk.2))));(case aS=>exact(bE pB));(case aL=>have:=NQ.out;omega);intro OB OC ho hb hg hat;rw[←NT.out]at ho;have n_:=t3 (Kd.jc (ok:=(fun _=>True)) (pR MJ) hg hat) (hb) (ho);clear MJ HB MF;obtain⟨MJ,HB,NK⟩:=n_;clear ho hb hg hat)));go_roundg k1
    case measure=>have:=ME.out;omega
    case rel=>exact⟨(Nz),(wrap64 (aP+1)),pF,H',⟨by have:=ME.out;omega⟩,⟨(pT (Kd.bn NK.out (fun _ hk=>trivial)))⟩,⟨pB⟩⟩
   ·rw[if_neg c4]at H;have Nn:=decide_eq_false c4;clear c4;obtain rfl:=sj H;go_wp2;go_ret;exact⟨_,pE,(pR MF),pB⟩
end Go.Proofs.Ythjlbpgiaehjnaa.QFnTxs
