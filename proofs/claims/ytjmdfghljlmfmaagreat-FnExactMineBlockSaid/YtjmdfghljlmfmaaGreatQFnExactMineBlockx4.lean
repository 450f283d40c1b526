-- written by this session's program (wip/tools/myprint.py)
import Derived.Test.YtjmdfghljlmfmaaGreatQFnExactMineBlockx0
-- squeezed
namespace Go.Proofs.YtjmdfghljlmfmaaGreat.QFnExactMineBlock
open Go.RowKit Go.Proofs.YtjmdfghljlmfmaaGreatW.PrintWords Go.Proofs.YtjmdfghljlmfmaaGreatW.PrintLast Go.Proofs.YtjmdfghljlmfmaaGreatW.PrintMore
attribute [local go_sem] iC iG iF iJ iE iI iD iH
set_option linter.unusedVariables false
set_option linter.unusedSimpArgs false
set_option maxHeartbeats 8000000
set_option maxRecDepth 100000
def iy.l0:Nat→List (bN)→Int→Option (Bool)
 |0,_,_=>none
 |k+1,x0,x3=>if 0<(x0.length:Int)then(if x3<(((aU x0 0).f4).length:Int)then(if 0≤x3 then(if(((((aI ((aU x0 0).f4) x3).f1).length:Int)==0) != (x3==0))=true then(some false)else(iy.l0 k x0 (wrap64 (x3+1))))else(none))else(some true))else(none)
def iy.f (k:Nat) (l0:List (bN)):Option (Bool):=iy.l0 k l0 0
theorem iy.aW:∀k,(∀y0 y1,aj (iy.l0 k y0 y1) (iy.l0 (k+1) y0 y1))
 |0=>fun _ _ r h=>by simp[iy.l0]at h
 |k+1=>by
  have Jq:=iy.aW k
  ·intro y0 y1
   unfold iy.l0
   repeat' with_reducible first|exact Jq _ _|exact aj.refl _|exact aj.none _|refine aj.ite ?_ ?_|refine aj.bind ?_ (fun _=>?_)
theorem iy.mono:∀a0 k,aj (iy.f k a0) (iy.f (k+1) a0):=by
 intro a0 k;have Jq:=iy.aW k;unfold iy.f;repeat' with_reducible first|exact Jq _ _|exact aj.refl _|exact aj.none _|refine aj.ite ?_ ?_|refine aj.bind ?_ (fun _=>?_)
theorem iy.calls (k:Nat) (A0:Option Addr) (c0:Nat) (l0:List (bN)) (r:Bool) (w:World) (hr0:Kd.C k28 w A0 l0.length l0) (hc0:l0.length≤c0) (h:iy.f k l0=some r):
 Calls Tryz.prog 78 #[.pointer A0] w fun e w'=>e= .returned (.bool r)∧Below w.heap.size w w':=by
 have Ab:=am hr0;have Ko:=am hc0;clear hr0 hc0;have HB:=am (Below.refl w.heap.size w);have H:(iy.l0 k l0 0)=some r:=h;clear h;have H':=am H;clear H;go_enter Tryz.func78,Tryz.ntmps78;go_wp2;go_loopg [3] k (fun kq v3 w'=>∃(aP:Int),v3= .int .i64 aP∧ay (iy.l0 kq l0 aP=some r)∧ay (kq≤k)∧ay (Below w.heap.size w w'))
 case atStart=>exact⟨(0),pF,H',⟨Nat.le_refl _⟩,⟨pB⟩⟩
 case round=>
  clear H';obtain⟨aP,rfl,HA,Jw,HB⟩:=hrel;cases gk with
  |zero=>exact absurd HA.out (by simp[iy.l0])
  |succ k1=>
   have H:=HA.out;clear HA;simp only[iy.l0]at H;by_cases c2:0<(l0.length:Int)
   ·rw[if_pos c2]at H;have Lb:decide (0<(l0.length:Int))=true:=dt c2;have ME:decide (0<l0.length)=true:=dt (by omega);clear c2;by_cases c3:aP<(((aU l0 0).f4).length:Int)
    ·rw[if_pos c3]at H;have Kn:decide (aP<(((aU l0 0).f4).length:Int))=true:=dt c3;clear c3;by_cases c4:0≤aP
     ·rw[if_pos c4]at H;have JM:decide (0≤aP)=true:=dt c4;clear c4;by_cases c5:(((((aI ((aU l0 0).f4) aP).f1).length:Int)==0) != (aP==0))=true
      ·rw[if_pos c5]at H;have Kt:(((((aI ((aU l0 0).f4) aP).f1).length:Int)==0) != (aP==0))=true:=c5;(try(have LQ:decide (((((aI ((aU l0 0).f4) aP).f1).length:Int)==0)=(aP==0))=false:=by simpa using c5));(try(have LU:(((((aI ((aU l0 0).f4) aP).f1).length:Int)==0)==(aP==0))=false:=by simpa using c5));(try(have MF:¬(((((aI ((aU l0 0).f4) aP).f1).length:Int)==0)=(aP==0)):=by simpa using c5));clear c5;obtain rfl:=sj H;have Jt:0≤(0:Int):=(by omega);have Ju:0<(l0.length:Int):=pD;obtain⟨Km,KQ,La,JN,Ag,Ah,Ay,Az,Jj,Jz,Jy⟩:=iO Ab.out 0 Jt Ju;cases JN;have Ld:(0<l0.length)=True:=eq_true (by omega);(try rw[z0,zm,az]at Ag);(try rw[z0,zm,az]at Ah);(try rw[z0,zm,az]at Ay);(try rw[z0,zm,az]at Az);(try rw[z0,zm,az]at Jj);replace Ag:=cb HB Ag;replace Ah:=cb HB Ah;replace Ay:=cb HB Ay;replace Az:=cb HB Az;replace Jj:=cb HB Jj;have KU:=am Jy;have KT:=am Jz;clear Jy Jz;replace Jt:=eq_true Jt;replace Ju:=eq_true Ju;have JG:0≤(0:Int):=(by omega);have JI:0<(l0.length:Int):=pD;(try clear Ag);(try clear Ah);(try clear Ay);(try clear Az);(try clear hHeld);obtain⟨Kr,Lh,LJ,e152,JC,JD,JE,JF,Jv,JX,JQ⟩:=iO Ab.out 0 JG JI;obtain rfl:Km=Kr:=(by injection e152);have Mj:(0<l0.length)=True:=eq_true (by omega);(try rw[z0,zm,az]at JC);(try rw[z0,zm,az]at JD);(try rw[z0,zm,az]at JE);(try rw[z0,zm,az]at JF);(try rw[z0,zm,az]at Jv);replace JC:=cb HB JC;replace JD:=cb HB JD;replace JE:=cb HB JE;replace JF:=cb HB JF;replace Jv:=cb HB Jv;have Kq:=am JQ;have Lr:=am JX;clear JQ JX;replace JG:=eq_true JG;replace JI:=eq_true JI;have JB:=sj (Jj.symm.trans Jv);(injection JB with JB Kv Ku);subst JB;subst Ku;clear Kv;have JH:0≤(aP:Int):=pD;have JJ:aP<(((aU l0 0).f4).length:Int):=pD;obtain⟨LH,Li,LK,Lj,LM,e153,Kg,Kh,Ki,JY,JR,JZ,JU⟩:=dM Kq.out aP JH JJ;cases e153;replace Kg:=cb HB Kg;replace Kh:=cb HB Kh;replace Ki:=cb HB Ki;have LB:=am JR;have Ls:=am JY;clear JR JY;have LC:=am JU;have Lu:=am JZ;clear JU JZ;replace JH:=eq_true JH;replace JJ:=eq_true JJ;go_wp2;go_ret;exact⟨pE,pB⟩
      ·rw[if_neg c5]at H;(have Kt:(((((aI ((aU l0 0).f4) aP).f1).length:Int)==0) != (aP==0))=false:=by simpa using c5);(try(have LQ:decide (((((aI ((aU l0 0).f4) aP).f1).length:Int)==0)=(aP==0))=true:=by simpa using c5));(try(have LU:(((((aI ((aU l0 0).f4) aP).f1).length:Int)==0)==(aP==0))=true:=by simpa using c5));clear c5;have H':=am H;clear H;have Jt:0≤(0:Int):=(by omega);have Ju:0<(l0.length:Int):=pD;obtain⟨Km,KQ,La,JN,Ag,Ah,Ay,Az,Jj,Jz,Jy⟩:=iO Ab.out 0 Jt Ju;cases JN;have Ld:(0<l0.length)=True:=eq_true (by omega);(try rw[z0,zm,az]at Ag);(try rw[z0,zm,az]at Ah);(try rw[z0,zm,az]at Ay);(try rw[z0,zm,az]at Az);(try rw[z0,zm,az]at Jj);replace Ag:=cb HB Ag;replace Ah:=cb HB Ah;replace Ay:=cb HB Ay;replace Az:=cb HB Az;replace Jj:=cb HB Jj;have KU:=am Jy;have KT:=am Jz;clear Jy Jz;replace Jt:=eq_true Jt;replace Ju:=eq_true Ju;have JG:0≤(0:Int):=(by omega);have JI:0<(l0.length:Int):=pD;(try clear Ag);(try clear Ah);(try clear Ay);(try clear Az);(try clear hHeld);obtain⟨Kr,Lh,LJ,e152,JC,JD,JE,JF,Jv,JX,JQ⟩:=iO Ab.out 0 JG JI;obtain rfl:Km=Kr:=(by injection e152);have Mj:(0<l0.length)=True:=eq_true (by omega);(try rw[z0,zm,az]at JC);(try rw[z0,zm,az]at JD);(try rw[z0,zm,az]at JE);(try rw[z0,zm,az]at JF);(try rw[z0,zm,az]at Jv);replace JC:=cb HB JC;replace JD:=cb HB JD;replace JE:=cb HB JE;replace JF:=cb HB JF;replace Jv:=cb HB Jv;have Kq:=am JQ;have Lr:=am JX;clear JQ JX;replace JG:=eq_true JG;replace JI:=eq_true JI;have JB:=sj (Jj.symm.trans Jv);(injection JB with JB Kv Ku);subst JB;subst Ku;clear Kv;have JH:0≤(aP:Int):=pD;have JJ:aP<(((aU l0 0).f4).length:Int):=pD;obtain⟨LH,Li,LK,Lj,LM,e153,Kg,Kh,Ki,JY,JR,JZ,JU⟩:=dM Kq.out aP JH JJ;cases e153;replace Kg:=cb HB Kg;replace Kh:=cb HB Kh;replace Ki:=cb HB Ki;have LB:=am JR;have Ls:=am JY;clear JR JY;have LC:=am JU;have Lu:=am JZ;clear JU JZ;replace JH:=eq_true JH;replace JJ:=eq_true JJ;go_wp2;go_roundg k1
       case measure=>have:=Jw.out;omega
       case rel=>exact⟨(wrap64 (aP+1)),pF,H',⟨by have:=Jw.out;omega⟩,⟨pB⟩⟩
     ·rw[if_neg c4]at H;exact absurd H (by simp)
    ·rw[if_neg c3]at H;have Kn:decide (aP<(((aU l0 0).f4).length:Int))=false:=decide_eq_false c3;clear c3;obtain rfl:=sj H;have Jt:0≤(0:Int):=(by omega);have Ju:0<(l0.length:Int):=pD;obtain⟨Km,KQ,La,JN,Ag,Ah,Ay,Az,Jj,Jz,Jy⟩:=iO Ab.out 0 Jt Ju;cases JN;have Ld:(0<l0.length)=True:=eq_true (by omega);(try rw[z0,zm,az]at Ag);(try rw[z0,zm,az]at Ah);(try rw[z0,zm,az]at Ay);(try rw[z0,zm,az]at Az);(try rw[z0,zm,az]at Jj);replace Ag:=cb HB Ag;replace Ah:=cb HB Ah;replace Ay:=cb HB Ay;replace Az:=cb HB Az;replace Jj:=cb HB Jj;have KU:=am Jy;have KT:=am Jz;clear Jy Jz;replace Jt:=eq_true Jt;replace Ju:=eq_true Ju;go_wp2;go_ret;exact⟨pE,pB⟩
   ·rw[if_neg c2]at H;exact absurd H (by simp)
def jX.f (k:Nat) (Jl:Int) (Jm:Int) (Jo:Int) (Jp:Int) (av:List (aJ)):Option (Bool):=iy.f k [(⟨Jl,Jm,Jo,Jp,av⟩:bN)]
theorem jX.mono:∀(Jl:Int) (Jm:Int) (Jo:Int) (Jp:Int) (av:List (aJ)) (k:Nat),aj (jX.f k Jl Jm Jo Jp av) (jX.f (k+1) Jl Jm Jo Jp av):=fun Jl Jm Jo Jp av k=>iy.mono [(⟨Jl,Jm,Jo,Jp,av⟩:bN)] k
set_option maxHeartbeats 8000000 in
theorem jX.calls (k:Nat) (Jl:Int) (Jm:Int) (Jo:Int) (Jp:Int) (KO:Option Addr) (KY:Nat) (av:List (aJ)) (r:Bool) (w:World) (Mi:Kd.C dF w KO av.length av) (Mh:av.length≤KY) (h:jX.f k Jl Jm Jo Jp av=some r) {Jk:Addr} (iQ:w.cell? Jk=some (.int .i64 Jl)) (iR:w.cell? ⟨Jk.block,Jk.off+1,none⟩=some (.int .i64 Jm)) (iT:w.cell? ⟨Jk.block,Jk.off+2,none⟩=some (.int .i64 Jo)) (jS:w.cell? ⟨Jk.block,Jk.off+3,none⟩=some (.int .i64 Jp)) (jT:w.cell? ⟨Jk.block,Jk.off+4,none⟩=some (.slice KO av.length KY)):
 Calls Tryz.prog 78 #[.pointer (some Jk)] w fun e w'=>e= .returned (.bool r)∧Below w.heap.size w w':=by
 have o0:Kd.C k28 w (some Jk) 1 [(⟨Jl,Jm,Jo,Jp,av⟩:bN)]:=by
  refine⟨rfl,by decide,fun _=>⟨Jk,rfl,fun j p hj=>?_⟩⟩;cases j with
  |succ j=>simp at hj
  |zero=>
   (obtain rfl:(⟨Jl,Jm,Jo,Jp,av⟩:bN)=p:=by simpa using hj);refine⟨_,rfl,tC w _ Mh Mi,fun i u hu=>?_⟩
   match i,hu with
   |0,hu=>obtain rfl:=sj hu;exact iQ
   |1,hu=>obtain rfl:=sj hu;exact iR
   |2,hu=>obtain rfl:=sj hu;exact iT
   |3,hu=>obtain rfl:=sj hu;exact jS
   |4,hu=>obtain rfl:=sj hu;exact jT
 exact iy.calls k (some Jk) 1 [(⟨Jl,Jm,Jo,Jp,av⟩:bN)] r w o0 (Nat.le_refl 1) h
def gy.l0:Nat→List Int→Int→Int→Option (Int)
 |0,_,_,_=>none
 |k+1,x0,x3,x4=>if x4<(x0.length:Int)then(if 0≤x4 then(gy.l0 k x0 (Int.tmod (wrap64 ((wrap64 ((wrap64 (x3*33))+(wrap64 (rd x0 x4))))+1)) 2147483647) (wrap64 (x4+1)))else(none))else(some x3)
def gy.f (k:Nat) (l0:List Int):Option (Int):=gy.l0 k l0 5381 0
theorem gy.aW:∀k,(∀y0 y1 y2,aj (gy.l0 k y0 y1 y2) (gy.l0 (k+1) y0 y1 y2))
 |0=>fun _ _ _ r h=>by simp[gy.l0]at h
 |k+1=>by
  have Jq:=gy.aW k
  ·intro y0 y1 y2
   unfold gy.l0
   repeat' with_reducible first|exact Jq _ _ _|exact aj.refl _|exact aj.none _|refine aj.ite ?_ ?_|refine aj.bind ?_ (fun _=>?_)
theorem gy.mono:∀a0 k,aj (gy.f k a0) (gy.f (k+1) a0):=by
 intro a0 k;have Jq:=gy.aW k;unfold gy.f;repeat' with_reducible first|exact Jq _ _ _|exact aj.refl _|exact aj.none _|refine aj.ite ?_ ?_|refine aj.bind ?_ (fun _=>?_)
theorem gy.calls (k:Nat) (A0:Option Addr) (c0:Nat) (l0:List Int) (r:Int) (w:World) (hr0:Kd.C (Kd.int .u8) w A0 l0.length l0) (hc0:l0.length≤c0) (h:gy.f k l0=some r):
 Calls Tryz.prog 97 #[.slice A0 l0.length c0] w fun e w'=>e= .returned (.int .i64 r)∧bX w w':=by
 have Ab:=am hr0;have Ko:=am hc0;clear hr0 hc0;have H:(gy.l0 k l0 5381 0)=some r:=h;clear h;have H':=am H;clear H;go_enter Tryz.func97,Tryz.ntmps97;go_wp2;go_loopg [3,4] k (fun kq v3 v4 w'=>∃(aP:Int) (mg:Int),v3= .int .i64 aP∧v4= .int .i64 mg∧ay (gy.l0 kq l0 aP mg=some r)∧ay (kq≤k)∧bX w w')
 case atStart=>exact⟨(5381),(0),pF,pF,H',⟨Nat.le_refl _⟩,pW⟩
 case round=>
  clear H';obtain⟨aP,mg,rfl,rfl,HA,Jw,⟨m1,rfl⟩⟩:=hrel;cases gk with
  |zero=>exact absurd HA.out (by simp[gy.l0])
  |succ k1=>
   have H:=HA.out;clear HA;simp only[gy.l0]at H;by_cases c2:mg<(l0.length:Int)
   ·rw[if_pos c2]at H;have Lb:decide (mg<(l0.length:Int))=true:=dt c2;clear c2;by_cases c3:0≤mg
    ·rw[if_pos c3]at H;have Kn:decide (0≤mg)=true:=dt c3;clear c3;have H':=am H;clear H;have Kw:0≤(mg:Int):=pD;have KE:mg<(l0.length:Int):=pD;obtain⟨Ml,e154,ML⟩:=Kd.eG Ab.out mg Kw KE;cases e154;replace Kw:=eq_true Kw;replace KE:=eq_true KE;go_wp2;go_roundg k1
     case measure=>have:=Jw.out;omega
     case rel=>exact⟨(Int.tmod (wrap64 ((wrap64 ((wrap64 (aP*33))+(wrap64 (rd l0 mg))))+1)) 2147483647),(wrap64 (mg+1)),pF,pF,H',⟨by have:=Jw.out;omega⟩,pW⟩
    ·rw[if_neg c3]at H;exact absurd H (by simp)
   ·rw[if_neg c2]at H;have Lb:decide (mg<(l0.length:Int))=false:=decide_eq_false c2;clear c2;obtain rfl:=sj H;go_wp2;go_ret;exact⟨by first|rfl|(simp;done)|(simp[*];done),pW⟩
def tO.f (a0:Int):Option (List Int):=some (([(a0 / 16777216)%256,(a0 / 65536)%256,(a0 / 256)%256,(a0)%256]:List Int))
theorem tO.calls (a0:Int) (r:List Int) (w:World) (h:tO.f a0=some r):
 Calls Tryz.prog 128 #[.int .i64 a0] w fun e w'=>∃Le:Value,e= .returned (Le)∧Kd.R (Kd.int .u8) 5 w' w.heap.size (fun _=>True) Le r∧Below w.heap.size w w':=by
 have HB:=am (Below.refl w.heap.size w);have H:(some (([(a0 / 16777216)%256,(a0 / 65536)%256,(a0 / 256)%256,(a0)%256]:List Int)))=some r:=h;clear h;obtain⟨Mk,Kj⟩:∃y_:List Int,y_=(([(a0 / 16777216)%256,(a0 / 65536)%256,(a0 / 256)%256,(a0)%256]:List Int)):=⟨_,rfl⟩;replace H:(some Mk)=some r:=by first|(rw[Kj];with_reducible exact H)|(have wm:=(Option.bind_some _ _).symm.trans H;rw[Kj];with_reducible exact wm)|(have wm:=(Option.bind_some _ _).symm.trans H;with_reducible exact wm)|with_reducible exact H|(rw[Kj];exact H)|exact H
 have KV:=am Kj;clear Kj;obtain rfl:=sj H;go_enter Tryz.func128,Tryz.ntmps128;go_wp2_with (first|((with_reducible refine bg (N:=14) rfl ?_);refine Kd.jP (Kd.int .u8) _ 5 ?hg (N:=14) ?hd (xs:=([(a0 / 16777216)%256,(a0 / 65536)%256,(a0 / 256)%256,(a0)%256]:List Int)) (inner:=[.int .u8 ((a0 / 16777216)%256),.int .u8 ((a0 / 65536)%256),.int .u8 ((a0 / 256)%256),.int .u8 ((a0)%256)]) (ok:=fun _=>True) (bH:=fun _=>True) ?hr ?hp (fun _ hk=>hk) trivial (Below.refl _ _) (Nat.le_refl _) (by simp) ?_;(case hd=>rfl);(case hg=>rfl);(case hr=>first|(go_simp;done)|(go_simp;rfl));(case hp=>exact(bn.one (show Kd.M (Kd.int .u8) _ _ _ ((a0 / 16777216)%256) [.int .u8 ((a0 / 16777216)%256)]from rfl) (bn.one (show Kd.M (Kd.int .u8) _ _ _ ((a0 / 65536)%256) [.int .u8 ((a0 / 65536)%256)]from rfl) (bn.one (show Kd.M (Kd.int .u8) _ _ _ ((a0 / 256)%256) [.int .u8 ((a0 / 256)%256)]from rfl) (bn.one (show Kd.M (Kd.int .u8) _ _ _ ((a0)%256) [.int .u8 ((a0)%256)]from rfl) (bn.none _ _))))));intro MR w2 ho3 hb JO Ka;clear JO Ka;(first|rw[←KV.out]at ho3|(simp only[Int.reduceToNat]at ho3;rw[←KV.out]at ho3));have n_:=t2 (rL ho3 (aH pB)) (aK pB hb);clear HB;obtain⟨Lv,HB⟩:=n_;clear hb ho3))
 go_ret;exact⟨_,pE,(pR Lv),pB⟩
def eX.l0:Nat→List Int→List Int→Int→Option (Int)
 |0,_,_,_=>none
 |k+1,x0,x3,x4=>if x4<(x0.length:Int)then(if 0≤x4 then((tO.f (rd x0 x4)).bind fun t162=>(if x3.length+t162.length<140737488355328 then(eX.l0 k x0 (x3++t162) (wrap64 (x4+1)))else(none)))else(none))else((gy.f k x3).bind fun t168=>(some t168))
def eX.f (k:Nat) (l0:List Int):Option (Int):=eX.l0 k l0 (([]:List Int)) 0
theorem eX.aW:∀k,(∀y0 y1 y2,aj (eX.l0 k y0 y1 y2) (eX.l0 (k+1) y0 y1 y2))
 |0=>fun _ _ _ r h=>by simp[eX.l0]at h
 |k+1=>by
  have Jq:=eX.aW k
  ·intro y0 y1 y2
   unfold eX.l0
   repeat' with_reducible first|exact Jq _ _ _|exact gy.mono _ _|exact aj.refl _|exact aj.none _|refine aj.ite ?_ ?_|refine aj.bind ?_ (fun _=>?_)
theorem eX.mono:∀a0 k,aj (eX.f k a0) (eX.f (k+1) a0):=by
 intro a0 k;have Jq:=eX.aW k;unfold eX.f;repeat' with_reducible first|exact Jq _ _ _|exact gy.mono _ _|exact aj.refl _|exact aj.none _|refine aj.ite ?_ ?_|refine aj.bind ?_ (fun _=>?_)
theorem eX.calls (k:Nat) (A0:Option Addr) (c0:Nat) (l0:List Int) (r:Int) (w:World) (hr0:Kd.C (Kd.int .i64) w A0 l0.length l0) (hc0:l0.length≤c0) (h:eX.f k l0=some r):
 Calls Tryz.prog 82 #[.slice A0 l0.length c0] w fun e w'=>e= .returned (.int .i64 r)∧Below w.heap.size w w':=by
 have Ab:=am hr0;have Ko:=am hc0;clear hr0 hc0;have HB:=am (Below.refl w.heap.size w);have H:(eX.l0 k l0 (([]:List Int)) 0)=some r:=h;clear h;obtain⟨y158,hy158⟩:∃y_:List Int,y_=(([]:List Int)):=⟨_,rfl⟩;replace H:(eX.l0 k l0 y158 0)=some r:=by first|(rw[hy158];with_reducible exact H)|(have wm:=(Option.bind_some _ _).symm.trans H;rw[hy158];with_reducible exact wm)|(have wm:=(Option.bind_some _ _).symm.trans H;with_reducible exact wm)|with_reducible exact H|(rw[hy158];exact H)|exact H
 have KW:=am hy158;clear hy158;have H':=am H;clear H;go_enter Tryz.func82,Tryz.ntmps82;go_wp2_with (first|((with_reducible refine bg (N:=5) rfl ?_);refine Kd.jP (Kd.int .u8) _ 5 ?hg (N:=5) ?hd (xs:=([]:List Int)) (inner:=[]) (ok:=fun _=>True) (bH:=fun _=>True) ?hr ?hp (fun _ hk=>hk) trivial (Below.refl _ _) (Nat.le_refl _) (by simp) ?_;(case hd=>rfl);(case hg=>rfl);(case hr=>first|(go_simp;done)|(go_simp;rfl));(case hp=>exact(bn.none _ _));intro v159 w2 ho3 hb JO Ka;clear JO Ka;(first|rw[←KW.out]at ho3|(simp only[Int.reduceToNat]at ho3;rw[←KW.out]at ho3));have n_:=t2 (rL ho3 (aH pB)) (aK pB hb);clear HB;obtain⟨Lx,HB⟩:=n_;clear hb ho3))
 go_loopg [3,4] k (fun kq v3 v4 w'=>∃(aP:List Int) (mg:Int),v4= .int .i64 mg∧ay (eX.l0 kq l0 aP mg=some r)∧ay (kq≤k)∧ay (Kd.R (Kd.int .u8) 5 w' w.heap.size (fun _=>True) v3 aP)∧ay (Below w.heap.size w w'))
 case atStart=>exact⟨(y158),(0),pF,H',⟨Nat.le_refl _⟩,⟨(pR Lx)⟩,⟨pB⟩⟩
 case round=>
  clear H';obtain⟨aP,mg,rfl,HA,Jw,aN,HB⟩:=hrel;cases gk with
  |zero=>exact absurd HA.out (by simp[eX.l0])
  |succ k1=>
   have H:=HA.out;clear HA;simp only[eX.l0]at H;by_cases c4:mg<(l0.length:Int)
   ·rw[if_pos c4]at H;have JM:decide (mg<(l0.length:Int))=true:=dt c4;clear c4;by_cases c5:0≤mg
    ·rw[if_pos c5]at H;have Kt:decide (0≤mg)=true:=dt c5;clear c5;replace H:=bO H;obtain⟨t162,KS,H⟩:=H;replace H:(if aP.length+t162.length<140737488355328 then(eX.l0 k1 l0 (aP++t162) (wrap64 (mg+1)))else(none))=some r:=H;have A6:=am KS;clear KS;by_cases c7:aP.length+t162.length<140737488355328
     ·rw[if_pos c7]at H;have LD:=am c7;clear c7;obtain⟨Lf,Kk⟩:∃y_:List Int,y_=(aP++t162):=⟨_,rfl⟩;(replace H:(eX.l0 k1 l0 Lf (wrap64 (mg+1)))=some r:=by first|(rw[Kk];with_reducible exact H)|(have wm:=(Option.bind_some _ _).symm.trans H;rw[Kk];with_reducible exact wm)|(have wm:=(Option.bind_some _ _).symm.trans H;with_reducible exact wm)|with_reducible exact H|(rw[Kk];exact H)|exact H);have LG:=am Kk;clear Kk;have H':=am H;clear H;have Ky:0≤(mg:Int):=pD;have KF:mg<(l0.length:Int):=pD;obtain⟨Mq,LY,Lc⟩:=Kd.eG Ab.out mg Ky KF;cases LY;replace Lc:=cb HB Lc;replace Ky:=eq_true Ky;replace KF:=eq_true KF;(go_wp2_with (first|((with_reducible refine gC (f:=128) rfl ?_);refine aV (some 17) rfl rfl Tryz.func128 (by kernel_rfl) rfl #[.int .i64 (rd l0 mg)] rfl pA ?_;(with_reducible refine(tO.calls (rd l0 mg) t162 _ A6.out).mono ?_);rintro e w8 ⟨MS,rfl,ho0,hb⟩;refine⟨_,rfl,?_⟩;have n_:=t3 (rE (pR aN) (rB ho0) hb) (rL (rW ho0 (Kd.cO (pR aN))) (aH pB)) (aK pB hb);clear aN HB;obtain⟨aN,JK,HB⟩:=n_;(try clear hb);(try clear ho0);obtain⟨Ll,LV,Me⟩:=rS JK.out;subst Me)|((with_reducible refine gB (b:=.append) (xs:=#[.tmp 12,.tmp 17]) rfl ?_);at_builtin;refine Kd.mE (Kd.int .u8) (w0:=w) w.heap.size rfl (.tmp 12) (.tmp 17) 123 5 (.int .u8 0) 1 rfl Tryz.underlying123 info5 rfl (by decide) (by omega) u3 aP t162 _ _ _ (fun k_=>some k_≠(.slice Ll t162.length LV:Value).ownBlock) (fun _=>False) rfl rfl ?aO ?aR (fun _ _ h=>h) (fun _ h=>h.elim) ?aF ?aB ?aS ?aL ?_;(case aR=>exact pC (rr JK.out).2.2);(case aB=>exact pB);(case aF=>exact(fun k_ hk=>Kd.fresh' (Kd.cO (pR JK)) k_ hk));(case aO=>exact(pT (Kd.bC aN.out (fun _ hk=>hk.2))));(case aS=>exact(aH pB));(case aL=>have:=LD.out;omega);intro MU w9 ho hb hg hat;rw[←LG.out]at ho;have n_:=t3 (Kd.iX (ok:=(fun _=>True)) (pR JK) hg hat) (hb) (ho);clear JK HB aN;obtain⟨JK,HB,LA⟩:=n_;clear ho hb hg hat)));go_roundg k1
      case measure=>have:=Jw.out;omega
      case rel=>exact⟨(Lf),(wrap64 (mg+1)),pF,H',⟨by have:=Jw.out;omega⟩,⟨(pT (Kd.bC LA.out (fun _ hk=>trivial)))⟩,⟨pB⟩⟩
     ·rw[if_neg c7]at H;exact absurd H (by simp)
    ·rw[if_neg c5]at H;exact absurd H (by simp)
   ·rw[if_neg c4]at H;have JM:decide (mg<(l0.length:Int))=false:=decide_eq_false c4;clear c4;replace H:=bO H;obtain⟨t168,KP,H⟩:=H;replace H:(some t168)=some r:=H;have Lg:=am KP;clear KP;obtain rfl:=sj H;obtain⟨Lm,LW,Mf⟩:=rS aN.out;subst Mf;(go_wp2_with (first|((with_reducible refine gC (f:=97) rfl ?_);refine aV (some 20) rfl rfl Tryz.func97 (by kernel_rfl) rfl #[.slice Lm aP.length LW] rfl pA ?_;(with_reducible refine(gy.calls k1 _ _ aP t168 _ ?KL ?KM Lg.out).mono ?_);(case KL=>exact pC (rr aN.out).2.2);(case KM=>exact(rr aN.out).2.1);rintro e w' ⟨rfl,⟨nd,rfl⟩⟩;refine⟨_,rfl,?_⟩)));go_ret;exact⟨pE,pB⟩
def kT.f (k:Nat) (a0:Int) (a1:Int):Option (Int):=(eX.f k (([a0,a1]:List Int))).bind fun JA=>(some JA)
theorem kT.mono:∀a0 a1 k,aj (kT.f k a0 a1) (kT.f (k+1) a0 a1):=by
 intro a0 a1 k;unfold kT.f;repeat' with_reducible first|exact eX.mono _ _|exact aj.refl _|exact aj.none _|refine aj.ite ?_ ?_|refine aj.bind ?_ (fun _=>?_)
theorem kT.calls (k:Nat) (a0:Int) (a1:Int) (r:Int) (w:World) (h:kT.f k a0 a1=some r):
 Calls Tryz.prog 149 #[.int .i64 a0,.int .i64 a1] w fun e w'=>e= .returned (.int .i64 r)∧Below w.heap.size w w':=by
 have HB:=am (Below.refl w.heap.size w);have H:((eX.f k (([a0,a1]:List Int))).bind fun JA=>(some JA))=some r:=h;clear h;obtain⟨KN,Kl⟩:∃y_:List Int,y_=(([a0,a1]:List Int)):=⟨_,rfl⟩;replace H:((eX.f k KN).bind fun JA=>(some JA))=some r:=by first|(rw[Kl];with_reducible exact H)|(have wm:=(Option.bind_some _ _).symm.trans H;rw[Kl];with_reducible exact wm)|(have wm:=(Option.bind_some _ _).symm.trans H;with_reducible exact wm)|with_reducible exact H|(rw[Kl];exact H)|exact H
 have KX:=am Kl;clear Kl;replace H:=bO H;obtain⟨JA,KR,H⟩:=H;replace H:(some JA)=some r:=H;have A3:=am KR;clear KR;obtain rfl:=sj H;go_enter Tryz.func149,Tryz.ntmps149;go_wp2_with (first|((with_reducible refine bg (N:=7) rfl ?_);refine Kd.jP (Kd.int .i64) _ 2 ?hg (N:=7) ?hd (xs:=([a0,a1]:List Int)) (inner:=[.int .i64 a0,.int .i64 a1]) (ok:=fun _=>True) (bH:=fun _=>True) ?hr ?hp (fun _ hk=>hk) trivial (Below.refl _ _) (Nat.le_refl _) (by simp) ?_;(case hd=>rfl);(case hg=>rfl);(case hr=>first|(go_simp;done)|(go_simp;rfl));(case hp=>exact(bn.one (show Kd.M (Kd.int .i64) _ _ _ a0 [.int .i64 a0]from rfl) (bn.one (show Kd.M (Kd.int .i64) _ _ _ a1 [.int .i64 a1]from rfl) (bn.none _ _))));intro MV w4 Ke hb JO Ka;clear JO Ka;(first|rw[←KX.out]at Ke|(simp only[Int.reduceToNat]at Ke;rw[←KX.out]at Ke));have n_:=t2 (rL Ke (aH pB)) (aK pB hb);clear HB;obtain⟨JL,HB⟩:=n_;clear hb Ke;obtain⟨Lp,LX,Mg⟩:=rS JL.out;subst Mg)|((with_reducible refine gC (f:=82) rfl ?_);refine aV (some 8) rfl rfl Tryz.func82 (by kernel_rfl) rfl #[.slice Lp KN.length LX] rfl pA ?_;(with_reducible refine(eX.calls k _ _ KN JA _ ?KL ?KM A3.out).mono ?_);(case KL=>exact pC (rr JL.out).2.2);(case KM=>exact(rr JL.out).2.1);rintro e w7 ⟨rfl,hb⟩;refine⟨_,rfl,?_⟩;have n_:=t2 (Kd.dW (pR JL) hb) (aK pB hb);clear JL HB;obtain⟨JL,HB⟩:=n_;(try clear hb)))
 go_ret;exact⟨pE,pB⟩
def qj.f (l0:List Int) (a1:Int):Option (Int):=if(Int.tmod a1 2)=1 then(if(wrap64 (a1-1))≥(l0.length:Int)then(if 0≤a1 then(if a1<(l0.length:Int)then(some (rd l0 a1))else(none))else(none))else(if 0≤(wrap64 (a1-1))then(if(wrap64 (a1-1))<(l0.length:Int)then(some (rd l0 (wrap64 (a1-1))))else(none))else(none)))else(if(wrap64 (a1+1))≥(l0.length:Int)then(if 0≤a1 then(if a1<(l0.length:Int)then(some (rd l0 a1))else(none))else(none))else(if 0≤(wrap64 (a1+1))then(if(wrap64 (a1+1))<(l0.length:Int)then(some (rd l0 (wrap64 (a1+1))))else(none))else(none)))
theorem qj.calls (A0:Option Addr) (c0:Nat) (l0:List Int) (a1:Int) (r:Int) (w:World) (hr0:Kd.C (Kd.int .i64) w A0 l0.length l0) (hc0:l0.length≤c0) (h:qj.f l0 a1=some r):
 Calls Tryz.prog 150 #[.slice A0 l0.length c0,.int .i64 a1] w fun e w'=>e= .returned (.int .i64 r)∧bX w w':=by
 have Ab:=am hr0;have Ko:=am hc0;clear hr0 hc0;have H:(if(Int.tmod a1 2)=1 then(if(wrap64 (a1-1))≥(l0.length:Int)then(if 0≤a1 then(if a1<(l0.length:Int)then(some (rd l0 a1))else(none))else(none))else(if 0≤(wrap64 (a1-1))then(if(wrap64 (a1-1))<(l0.length:Int)then(some (rd l0 (wrap64 (a1-1))))else(none))else(none)))else(if(wrap64 (a1+1))≥(l0.length:Int)then(if 0≤a1 then(if a1<(l0.length:Int)then(some (rd l0 a1))else(none))else(none))else(if 0≤(wrap64 (a1+1))then(if(wrap64 (a1+1))<(l0.length:Int)then(some (rd l0 (wrap64 (a1+1))))else(none))else(none))))=some r:=h;clear h;by_cases c3:(Int.tmod a1 2)=1
 ·rw[if_pos c3]at H;have Kn:((Int.tmod a1 2)==1)=true:=beq_iff_eq.mpr c3;have LP:((Int.tmod a1 2) != 1)=false:=bne_eq_false_iff_eq.mpr c3;clear c3;by_cases c4:(wrap64 (a1-1))≥(l0.length:Int)
  ·rw[if_pos c4]at H;have JM:decide ((l0.length:Int)≤(wrap64 (a1-1)))=true:=dt c4;clear c4;by_cases c5:0≤a1
   ·rw[if_pos c5]at H;have Kt:decide (0≤a1)=true:=dt c5;clear c5;by_cases c6:a1<(l0.length:Int)
    ·rw[if_pos c6]at H;have MG:decide (a1<(l0.length:Int))=true:=dt c6;clear c6;obtain rfl:=sj H;have Kz:0≤(a1:Int):=pD;have KG:a1<(l0.length:Int):=pD;obtain⟨Mr,LZ,MN⟩:=Kd.eG Ab.out a1 Kz KG;cases LZ;replace Kz:=eq_true Kz;replace KG:=eq_true KG;go_enter Tryz.func150,Tryz.ntmps150;go_wp2;go_ret;exact⟨by first|rfl|(simp;done)|(simp[*];done),pW⟩
    ·rw[if_neg c6]at H;exact absurd H (by simp)
   ·rw[if_neg c5]at H;exact absurd H (by simp)
  ·rw[if_neg c4]at H;have JM:decide ((l0.length:Int)≤(wrap64 (a1-1)))=false:=decide_eq_false c4;clear c4;obtain⟨Js,JW⟩:∃j_:Int,(wrap64 (a1-1))=j_:=⟨_,rfl⟩;(replace H:(if 0≤(Js)then(if(Js)<(l0.length:Int)then(some (rd l0 (Js)))else(none))else(none))=some r:=by first|(rw[JW]at H;exact H)|(simp only[JW]at H ⊢;exact H));(try rw[JW]at JM);have MK:(IntKind.i64.wrap (a1-1))=Js:=(jg _).trans JW;by_cases c8:0≤(Js)
   ·rw[if_pos c8]at H;have MH:decide (0≤(Js))=true:=dt c8;clear c8;by_cases c9:(Js)<(l0.length:Int)
    ·rw[if_pos c9]at H;have MI:decide ((Js)<(l0.length:Int))=true:=dt c9;clear c9;obtain rfl:=sj H;have KA:0≤((Js):Int):=pD;have KH:(Js)<(l0.length:Int):=pD;obtain⟨Ms,Ma,MO⟩:=Kd.eG Ab.out (Js) KA KH;cases Ma;replace KA:=eq_true KA;replace KH:=eq_true KH;go_enter Tryz.func150,Tryz.ntmps150;go_wp2;go_ret;exact⟨by first|rfl|(simp;done)|(simp only[←JW]<;>(first|rfl|simp))|(simp[*];done),pW⟩
    ·rw[if_neg c9]at H;exact absurd H (by simp)
   ·rw[if_neg c8]at H;exact absurd H (by simp)
 ·rw[if_neg c3]at H;have Kn:((Int.tmod a1 2)==1)=false:=beq_eq_false_iff_ne.mpr c3;have LP:((Int.tmod a1 2) != 1)=true:=bne_iff_ne.mpr c3;by_cases c10:(wrap64 (a1+1))≥(l0.length:Int)
  ·rw[if_pos c10]at H;have KZ:decide ((l0.length:Int)≤(wrap64 (a1+1)))=true:=dt c10;clear c10;by_cases c11:0≤a1
   ·rw[if_pos c11]at H;have Mw:decide (0≤a1)=true:=dt c11;clear c11;by_cases c12:a1<(l0.length:Int)
    ·rw[if_pos c12]at H;have Mx:decide (a1<(l0.length:Int))=true:=dt c12;clear c12;obtain rfl:=sj H;have KC:0≤(a1:Int):=pD;have KI:a1<(l0.length:Int):=pD;obtain⟨Mt,Mc,MP⟩:=Kd.eG Ab.out a1 KC KI;cases Mc;replace KC:=eq_true KC;replace KI:=eq_true KI;go_enter Tryz.func150,Tryz.ntmps150;go_wp2;go_ret;exact⟨by first|rfl|(simp;done)|(simp[*];done),pW⟩
    ·rw[if_neg c12]at H;exact absurd H (by simp)
   ·rw[if_neg c11]at H;exact absurd H (by simp)
  ·rw[if_neg c10]at H;have KZ:decide ((l0.length:Int)≤(wrap64 (a1+1)))=false:=decide_eq_false c10;clear c10;obtain⟨Jr,JV⟩:∃j_:Int,(wrap64 (a1+1))=j_:=⟨_,rfl⟩;(replace H:(if 0≤(Jr)then(if(Jr)<(l0.length:Int)then(some (rd l0 (Jr)))else(none))else(none))=some r:=by first|(rw[JV]at H;exact H)|(simp only[JV]at H ⊢;exact H));(try rw[JV]at KZ);have MJ:(IntKind.i64.wrap (a1+1))=Jr:=(jg _).trans JV;by_cases c14:0≤(Jr)
   ·rw[if_pos c14]at H;have MB:decide (0≤(Jr))=true:=dt c14;clear c14;by_cases c15:(Jr)<(l0.length:Int)
    ·rw[if_pos c15]at H;have MC:decide ((Jr)<(l0.length:Int))=true:=dt c15;clear c15;obtain rfl:=sj H;have KD:0≤((Jr):Int):=pD;have KJ:(Jr)<(l0.length:Int):=pD;obtain⟨Mv,Md,MQ⟩:=Kd.eG Ab.out (Jr) KD KJ;cases Md;replace KD:=eq_true KD;replace KJ:=eq_true KJ;go_enter Tryz.func150,Tryz.ntmps150;go_wp2;go_ret;exact⟨by first|rfl|(simp;done)|(simp only[←JV]<;>(first|rfl|simp))|(simp[*];done),pW⟩
    ·rw[if_neg c15]at H;exact absurd H (by simp)
   ·rw[if_neg c14]at H;exact absurd H (by simp)
end Go.Proofs.YtjmdfghljlmfmaaGreat.QFnExactMineBlock
