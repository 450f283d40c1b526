-- written by this session's program (wip/tools/myprint.py)
import Derived.Test.YtjmdfghljlmfmaaGreatQFnExactMineBlockx0
import Derived.Test.YtjmdfghljlmfmaaGreatQFnExactMineBlockx13
import Derived.Test.YtjmdfghljlmfmaaGreatQFnExactMineBlockx15
-- squeezed
namespace Go.Proofs.YtjmdfghljlmfmaaGreat.QFnExactMineBlock
open Go.RowKit Go.Proofs.YtjmdfghljlmfmaaGreatW.PrintWords Go.Proofs.YtjmdfghljlmfmaaGreatW.PrintLast Go.Proofs.YtjmdfghljlmfmaaGreatW.PrintMore
attribute [local go_sem] iC iG iF iJ iE iI iD iH
set_option linter.unusedVariables false
set_option linter.unusedSimpArgs false
set_option maxHeartbeats 8000000
set_option maxRecDepth 100000
def mo.f (k:Nat) (l0:List Int):Option (Bool):=(ig.f k l0).bind fun JF=>(some (decide (JF≥0)))
theorem mo.mono:∀a0 k,aj (mo.f k a0) (mo.f (k+1) a0):=by
 intro a0 k;unfold mo.f;repeat' with_reducible first|exact ig.mono _ _|exact aj.refl _|exact aj.none _|refine aj.ite ?_ ?_|refine aj.bind ?_ (fun _=>?_)
theorem mo.calls (k:Nat) (A0:Option Addr) (c0:Nat) (l0:List Int) (r:Bool) (w:World) (hr0:Kd.C (Kd.int .i64) w A0 l0.length l0) (hc0:l0.length≤c0) (h:mo.f k l0=some r):
 Calls Tryz.prog 146 #[.slice A0 l0.length c0,.func (.func 163) #[] #[]] w fun e w'=>e= .returned (.bool r)∧bX w w':=by
 have Ay:=am hr0;have Jm:=am hc0;clear hr0 hc0;have H:((ig.f k l0).bind fun JF=>(some (decide (JF≥0))))=some r:=h;clear h;replace H:=bO H;obtain⟨JF,Ju,H⟩:=H;replace H:(some (decide (JF≥0)))=some r:=H;have A2:=am Ju;clear Ju;obtain rfl:=sj H;go_enter Tryz.func146,Tryz.ntmps146;go_wp2_with (first|((with_reducible refine gC (f:=161) rfl ?_);refine aV (some 7) rfl rfl Tryz.func161 (by kernel_rfl) rfl #[.slice A0 l0.length c0,.func (.func 163) #[] #[]] rfl pA ?_;(with_reducible refine(ig.calls k _ _ l0 JF _ ?Jk ?Jl A2.out).mono ?_);(case Jk=>exact pC Ay.out);(case Jl=>exact Jm.out);rintro e w' ⟨rfl,⟨nd,rfl⟩⟩;refine⟨_,rfl,?_⟩))
 go_ret;exact⟨by first|rfl|(simp;done)|(simp[*];done),pW⟩
def lD.f (k:Nat) (l0:List Int):Option (Int):=(mo.f k l0).bind fun JG=>(if JG=true then(some 3)else(some 0))
theorem lD.mono:∀a0 k,aj (lD.f k a0) (lD.f (k+1) a0):=by
 intro a0 k;unfold lD.f;repeat' with_reducible first|exact mo.mono _ _|exact aj.refl _|exact aj.none _|refine aj.ite ?_ ?_|refine aj.bind ?_ (fun _=>?_)
theorem lD.calls (k:Nat) (A0:Option Addr) (c0:Nat) (l0:List Int) (r:Int) (w:World) (hr0:Kd.C (Kd.int .i64) w A0 l0.length l0) (hc0:l0.length≤c0) (h:lD.f k l0=some r):
 Calls Tryz.prog 154 #[.slice A0 l0.length c0] w fun e w'=>e= .returned (.int .i64 r)∧bX w w':=by
 have Ay:=am hr0;have Jm:=am hc0;clear hr0 hc0;have H:((mo.f k l0).bind fun JG=>(if JG=true then(some 3)else(some 0)))=some r:=h;clear h;replace H:=bO H;obtain⟨JG,Ju,H⟩:=H;replace H:(if JG=true then(some 3)else(some 0))=some r:=H;have A2:=am Ju;clear Ju;by_cases c3:JG=true
 ·subst c3;(have H1:(some 3)=some r:=by rw[if_pos rfl]at H;exact H);clear H;have H:=H1;clear H1;obtain rfl:=sj H;go_enter Tryz.func154,Tryz.ntmps154;(go_wp2_with (first|((with_reducible refine gC (f:=146) rfl ?_);refine aV (some 4) rfl rfl Tryz.func146 (by kernel_rfl) rfl #[.slice A0 l0.length c0,.func (.func 163) #[] #[]] rfl pA ?_;(with_reducible refine(mo.calls k _ _ l0 true _ ?Jk ?Jl A2.out).mono ?_);(case Jk=>exact pC Ay.out);(case Jl=>exact Jm.out);rintro e w' ⟨rfl,⟨nd,rfl⟩⟩;refine⟨_,rfl,?_⟩)));go_ret;exact⟨by first|rfl|(simp;done)|(simp[*];done),pW⟩
 ·replace c3:=Bool.eq_false_iff.mpr c3;subst c3;(have H1:(some 0)=some r:=by rw[if_neg (show ¬(false=true) by decide)]at H;exact H);clear H;have H:=H1;clear H1;obtain rfl:=sj H;go_enter Tryz.func154,Tryz.ntmps154;(go_wp2_with (first|((with_reducible refine gC (f:=146) rfl ?_);refine aV (some 4) rfl rfl Tryz.func146 (by kernel_rfl) rfl #[.slice A0 l0.length c0,.func (.func 163) #[] #[]] rfl pA ?_;(with_reducible refine(mo.calls k _ _ l0 false _ ?Jk ?Jl A2.out).mono ?_);(case Jk=>exact pC Ay.out);(case Jl=>exact Jm.out);rintro e w' ⟨rfl,⟨nd,rfl⟩⟩;refine⟨_,rfl,?_⟩)));go_ret;exact⟨by first|rfl|(simp;done)|(simp[*];done),pW⟩
def jH.f (k:Nat) (l0:List Int):Option (Int):=(bQ.f (l0.length:Int) 1 8).bind fun JH=>(if JH=true then((lD.f k l0).bind fun Jr=>(some Jr))else(some 2))
theorem jH.mono:∀a0 k,aj (jH.f k a0) (jH.f (k+1) a0):=by
 intro a0 k;unfold jH.f;repeat' with_reducible first|exact lD.mono _ _|exact aj.refl _|exact aj.none _|refine aj.ite ?_ ?_|refine aj.bind ?_ (fun _=>?_)
theorem jH.calls (k:Nat) (A0:Option Addr) (c0:Nat) (l0:List Int) (r:Int) (w:World) (hr0:Kd.C (Kd.int .i64) w A0 l0.length l0) (hc0:l0.length≤c0) (h:jH.f k l0=some r):
 Calls Tryz.prog 131 #[.slice A0 l0.length c0] w fun e w'=>e= .returned (.int .i64 r)∧bX w w':=by
 have Ay:=am hr0;have Jm:=am hc0;clear hr0 hc0;have H:((bQ.f (l0.length:Int) 1 8).bind fun JH=>(if JH=true then((lD.f k l0).bind fun Jr=>(some Jr))else(some 2)))=some r:=h;clear h;replace H:=bO H;obtain⟨JH,Ju,H⟩:=H;replace H:(if JH=true then((lD.f k l0).bind fun Jr=>(some Jr))else(some 2))=some r:=H;have A2:=am Ju;clear Ju;by_cases c3:JH=true
 ·subst c3;(have H1:((lD.f k l0).bind fun Jr=>(some Jr))=some r:=by rw[if_pos rfl]at H;exact H);clear H;have H:=H1;clear H1;replace H:=bO H;obtain⟨Jr,Kz,H⟩:=H;replace H:(some Jr)=some r:=H;have A4:=am Kz;clear Kz;obtain rfl:=sj H;go_enter Tryz.func131,Tryz.ntmps131;(go_wp2_with (first|((with_reducible refine gC (f:=35) rfl ?_);refine aV (some 5) rfl rfl Tryz.func35 (by kernel_rfl) rfl #[.int .i64 (l0.length:Int),.int .i64 1,.int .i64 8] rfl pA ?_;(with_reducible refine(bQ.calls (l0.length:Int) 1 8 true _ A2.out).mono ?_);rintro e w' ⟨rfl,⟨nd,rfl⟩⟩;refine⟨_,rfl,?_⟩)|((with_reducible refine gC (f:=154) rfl ?_);refine aV (some 8) rfl rfl Tryz.func154 (by kernel_rfl) rfl #[.slice A0 l0.length c0] rfl pA ?_;(with_reducible refine(lD.calls k _ _ l0 Jr _ ?Jk ?Jl A4.out).mono ?_);(case Jk=>exact pC Ay.out);(case Jl=>exact Jm.out);rintro e w' ⟨rfl,⟨nd,rfl⟩⟩;refine⟨_,rfl,?_⟩)));go_ret;exact⟨by first|rfl|(simp;done)|(simp[*];done),pW⟩
 ·replace c3:=Bool.eq_false_iff.mpr c3;subst c3;(have H1:(some 2)=some r:=by rw[if_neg (show ¬(false=true) by decide)]at H;exact H);clear H;have H:=H1;clear H1;obtain rfl:=sj H;go_enter Tryz.func131,Tryz.ntmps131;(go_wp2_with (first|((with_reducible refine gC (f:=35) rfl ?_);refine aV (some 5) rfl rfl Tryz.func35 (by kernel_rfl) rfl #[.int .i64 (l0.length:Int),.int .i64 1,.int .i64 8] rfl pA ?_;(with_reducible refine(bQ.calls (l0.length:Int) 1 8 false _ A2.out).mono ?_);rintro e w' ⟨rfl,⟨nd,rfl⟩⟩;refine⟨_,rfl,?_⟩)));go_ret;exact⟨by first|rfl|(simp;done)|(simp[*];done),pW⟩
def gU.l0:Nat→Int→List Int→Int→Option (List Int)
 |0,_,_,_=>none
 |k+1,x0,x5,x6=>if x6≥0 then(if 0≤x6 then(if x6<(x5.length:Int)then(gU.l0 k (x0 / 256) (x5.set (x6:Int).toNat ((x0)%256)) (wrap64 (x6-1)))else(none))else(none))else(some x5)
def gU.f (k:Nat) (a0:Int) (a1:Int):Option (List Int):=if 0≤a1 then(if(a1:Int).toNat≤281474976710656 then(gU.l0 k a0 (List.replicate (a1:Int).toNat 0) (wrap64 (a1-1)))else(none))else(none)
theorem gU.aW:∀k,(∀y0 y1 y2,aj (gU.l0 k y0 y1 y2) (gU.l0 (k+1) y0 y1 y2))
 |0=>fun _ _ _ r h=>by simp[gU.l0]at h
 |k+1=>by
  have Az:=gU.aW k
  ·intro y0 y1 y2
   unfold gU.l0
   repeat' with_reducible first|exact Az _ _ _|exact aj.refl _|exact aj.none _|refine aj.ite ?_ ?_|refine aj.bind ?_ (fun _=>?_)
theorem gU.mono:∀a0 a1 k,aj (gU.f k a0 a1) (gU.f (k+1) a0 a1):=by
 intro a0 a1 k;have Az:=gU.aW k;unfold gU.f;repeat' with_reducible first|exact Az _ _ _|exact aj.refl _|exact aj.none _|refine aj.ite ?_ ?_|refine aj.bind ?_ (fun _=>?_)
theorem gU.calls (k:Nat) (a0:Int) (a1:Int) (r:List Int) (w:World) (h:gU.f k a0 a1=some r):
 Calls Tryz.prog 134 #[.int .i64 a0,.int .i64 a1] w fun e w'=>∃JU:Value,e= .returned (JU)∧Kd.R (Kd.int .u8) 5 w' w.heap.size (fun _=>True) JU r∧Below w.heap.size w w':=by
 have HB:=am (Below.refl w.heap.size w);have H:(if 0≤a1 then(if(a1:Int).toNat≤281474976710656 then(gU.l0 k a0 (List.replicate (a1:Int).toNat 0) (wrap64 (a1-1)))else(none))else(none))=some r:=h;clear h;by_cases c3:0≤a1
 ·rw[if_pos c3]at H;have JV:=eq_true c3;have Lm:decide (0≤a1)=true:=dt c3;clear c3;by_cases c4:(a1:Int).toNat≤281474976710656
  ·rw[if_pos c4]at H;have Jz:=eq_true c4;have Lp:decide ((a1:Int).toNat≤281474976710656)=true:=dt c4;clear c4;obtain⟨KT,JK⟩:∃y_:List Int,y_=(List.replicate (a1:Int).toNat 0):=⟨_,rfl⟩;(replace H:(gU.l0 k a0 KT (wrap64 (a1-1)))=some r:=by first|(rw[JK];with_reducible exact H)|(have wm:=(Option.bind_some _ _).symm.trans H;rw[JK];with_reducible exact wm)|(have wm:=(Option.bind_some _ _).symm.trans H;with_reducible exact wm)|with_reducible exact H|(rw[JK];exact H)|exact H);have KE:=am JK;clear JK;have H':=am H;clear H;go_enter Tryz.func134,Tryz.ntmps134;(go_wp2_with (first|((with_reducible refine bg (N:=8) rfl ?_);refine Kd.vH (Kd.int .u8) _ 5 rfl (N:=8) rfl 123 _ _ rfl a1 rfl rfl Tryz.underlying123 (.int .u8 0) 1 info5 rfl (by decide) (by omega) 0 (ok:=fun _=>True) (bH:=fun _=>True) rfl (fun _ hk=>hk) trivial (pD) (Nat.le_trans (Nat.mul_le_mul_right _ (pD:a1.toNat≤281474976710656)) (by omega)) (Below.refl _ _) (Nat.le_refl _) ?_;intro LW w5 JJ hb JA JB;clear JA JB;(first|rw[←KE.out]at JJ|(simp only[Int.reduceToNat]at JJ;rw[←KE.out]at JJ));have n_:=t2 (rL JJ (aH pB)) (aK pB hb);clear HB;obtain⟨Lc,HB⟩:=n_;clear hb JJ)));go_loopg [0,6] k (fun kq v0 v6 w'=>∃(Jv:Int) (Jw:List Int) (Ag:Int),v0= .int .i64 Jv∧v6= .int .i64 Ag∧ay (gU.l0 kq Jv Jw Ag=some r)∧ay (kq≤k)∧ay (Kd.R (Kd.int .u8) 5 w' w.heap.size (fun _=>True) LW Jw)∧ay (Below w.heap.size w w'))
   case atStart=>exact⟨(a0),(KT),(wrap64 (a1-1)),pF,pF,H',⟨Nat.le_refl _⟩,⟨(pR Lc)⟩,⟨pB⟩⟩
   case round=>
    clear H';(try clear c3);(try clear JV);(try clear Lm);(try clear c4);(try clear Jz);(try clear Lp);obtain⟨Jv,Jw,Ag,rfl,rfl,HA,Jo,Jy,HB⟩:=hrel;cases gk with
    |zero=>exact absurd HA.out (by simp[gU.l0])
    |succ k1=>
     have H:=HA.out;clear HA;simp only[gU.l0]at H;by_cases c7:Ag≥0
     ·rw[if_pos c7]at H;have Ls:decide (0≤Ag)=true:=dt c7;clear c7;by_cases c8:0≤Ag
      ·rw[if_pos c8]at H;have Me:decide (0≤Ag)=true:=dt c8;clear c8;by_cases c9:Ag<(Jw.length:Int)
       ·rw[if_pos c9]at H;have Mf:decide (Ag<(Jw.length:Int))=true:=dt c9;clear c9;obtain⟨Kw,JL⟩:∃y_:List Int,y_=(Jw.set (Ag:Int).toNat ((Jv)%256)):=⟨_,rfl⟩;(replace H:(gU.l0 k1 (Jv / 256) Kw (wrap64 (Ag-1)))=some r:=by first|(rw[JL];with_reducible exact H)|(have wm:=(Option.bind_some _ _).symm.trans H;rw[JL];with_reducible exact wm)|(have wm:=(Option.bind_some _ _).symm.trans H;with_reducible exact wm)|with_reducible exact H|(rw[JL];exact H)|exact H);have Lh:=am JL;clear JL;have H':=am H;clear H;have Kh:0≤(Ag:Int):=pD;have Kn:(Ag:Int)<((Jw.length:Int):Int):=pD;obtain⟨Kg,Lu,KM,KQ,LV,Mg,KD⟩:=Kd.uf Jy.out (by omega);(first|cases KM|(injection KM with JW LJ LH;(first|subst JW|(injection JW with JW;subst JW));subst LH;clear LJ));have Lb:=am KQ;have LY:=am KD;clear KQ LV KD;obtain⟨Mi,Mh⟩:=Kd.vF 0 Jy.out (Ag:Int) Kh Kn;replace Kh:=eq_true Kh;replace Kn:=eq_true Kn;have Ka:=Kd.vI Jy.out (Ag:Int) ((Jv)%256);(go_wp2_with (first|((with_reducible refine mI (t:=5) (p:=19) rfl ?_);refine ng (t:=5) (p:=19) (v:=?Mx) (w1:=(wr.setCell ⟨Kg,(Ag:Int).toNat,none⟩ (.int .u8 ((Jv)%256)))) ?hg ?ho ?hn ?hr ?_;(case ho=>rfl);(case hg=>rfl);(case hn=>rfl);(case hr=>first|(go_simp;done)|(go_simp;rfl));intro Kv hw;have hg:wr.grownBy Kv (some Kg):=(by rw[hw];exact Ka.2);have KR:Kd.R (Kd.int .u8) 5 Kv w.heap.size (fun _=>True) (.slice (some ⟨Kg,0,none⟩) Jw.length Lu) Kw:=(by rw[hw,Lh.out];exact Ka.1);clear Ka;have n_:=t2 (KR) ((by rw[hw];exact ku (HB.out) Lb.out:Below w.heap.size w Kv));clear Jy HB;obtain⟨Jy,HB⟩:=n_;clear hg hw KR)));go_roundg k1
        case measure=>have:=Jo.out;omega
        case rel=>exact⟨(Jv / 256),(Kw),(wrap64 (Ag-1)),pF,pF,H',⟨by have:=Jo.out;omega⟩,⟨(pR Jy)⟩,⟨pB⟩⟩
       ·rw[if_neg c9]at H;exact absurd H (by simp)
      ·rw[if_neg c8]at H;exact absurd H (by simp)
     ·rw[if_neg c7]at H;have Ls:decide (0≤Ag)=false:=decide_eq_false c7;clear c7;obtain rfl:=sj H;go_wp2;go_ret;exact⟨_,pE,(pR Jy),pB⟩
  ·rw[if_neg c4]at H;exact absurd H (by simp)
 ·rw[if_neg c3]at H;exact absurd H (by simp)
def fM.l0:Nat→Int→List Int→Int→Int→Option (Int)
 |0,_,_,_,_=>none
 |k+1,x3,x6,x7,x8=>if x8<x7 then(if 0≤x8 then(if x8<(x6.length:Int)then(fM.l0 k (Int.tmod (wrap64 ((wrap64 ((wrap64 (33*x3))+(wrap64 (rd x6 x8))))+1)) 2147483647) x6 x7 (wrap64 (x8+1)))else(none))else(none))else(some x3)
def fM.f (k:Nat) (l0:List Int):Option (Int):=fM.l0 k 5381 l0 (l0.length:Int) 0
theorem fM.aW:∀k,(∀y0 y1 y2 y3,aj (fM.l0 k y0 y1 y2 y3) (fM.l0 (k+1) y0 y1 y2 y3))
 |0=>fun _ _ _ _ r h=>by simp[fM.l0]at h
 |k+1=>by
  have Az:=fM.aW k
  ·intro y0 y1 y2 y3
   unfold fM.l0
   repeat' with_reducible first|exact Az _ _ _ _|exact aj.refl _|exact aj.none _|refine aj.ite ?_ ?_|refine aj.bind ?_ (fun _=>?_)
theorem fM.mono:∀a0 k,aj (fM.f k a0) (fM.f (k+1) a0):=by
 intro a0 k;have Az:=fM.aW k;unfold fM.f;repeat' with_reducible first|exact Az _ _ _ _|exact aj.refl _|exact aj.none _|refine aj.ite ?_ ?_|refine aj.bind ?_ (fun _=>?_)
theorem fM.calls (k:Nat) (A0:Option Addr) (c0:Nat) (l0:List Int) (r:Int) (w:World) (hr0:Kd.C (Kd.int .u8) w A0 l0.length l0) (hc0:l0.length≤c0) (h:fM.f k l0=some r):
 Calls Tryz.prog 135 #[.slice A0 l0.length c0] w fun e w'=>e= .returned (.int .i64 r)∧bX w w':=by
 have Ay:=am hr0;have Jm:=am hc0;clear hr0 hc0;have H:(fM.l0 k 5381 l0 (l0.length:Int) 0)=some r:=h;clear h;have H':=am H;clear H;go_enter Tryz.func135,Tryz.ntmps135;go_wp2;go_loopg [3,8] k (fun kq v3 v8 w'=>∃(mg:Int) (Jj:Int),v3= .int .i64 mg∧v8= .int .i64 Jj∧ay (fM.l0 kq mg l0 (l0.length:Int) Jj=some r)∧ay (kq≤k)∧bX w w')
 case atStart=>exact⟨(5381),(0),pF,pF,H',⟨Nat.le_refl _⟩,pW⟩
 case round=>
  clear H';obtain⟨mg,Jj,rfl,rfl,HA,Jo,⟨m1,rfl⟩⟩:=hrel;cases gk with
  |zero=>exact absurd HA.out (by simp[fM.l0])
  |succ k1=>
   have H:=HA.out;clear HA;simp only[fM.l0]at H;by_cases c2:Jj<(l0.length:Int)
   ·rw[if_pos c2]at H;have Ll:decide (Jj<(l0.length:Int))=true:=dt c2;clear c2;by_cases c3:0≤Jj
    ·rw[if_pos c3]at H;have JV:decide (0≤Jj)=true:=dt c3;clear c3;by_cases c4:Jj<(l0.length:Int)
     ·rw[if_pos c4]at H;have Jz:decide (Jj<(l0.length:Int))=true:=dt c4;clear c4;have H':=am H;clear H;have Ki:0≤(Jj:Int):=pD;have Ko:Jj<(l0.length:Int):=pD;obtain⟨LZ,LA,Mj⟩:=Kd.eG Ay.out Jj Ki Ko;cases LA;replace Ki:=eq_true Ki;replace Ko:=eq_true Ko;go_wp2;go_roundg k1
      case measure=>have:=Jo.out;omega
      case rel=>exact⟨(Int.tmod (wrap64 ((wrap64 ((wrap64 (33*mg))+(wrap64 (rd l0 Jj))))+1)) 2147483647),(wrap64 (Jj+1)),pF,pF,H',⟨by have:=Jo.out;omega⟩,pW⟩
     ·rw[if_neg c4]at H;exact absurd H (by simp)
    ·rw[if_neg c3]at H;exact absurd H (by simp)
   ·rw[if_neg c2]at H;have Ll:decide (Jj<(l0.length:Int))=false:=decide_eq_false c2;clear c2;obtain rfl:=sj H;go_wp2;go_ret;exact⟨by first|rfl|(simp;done)|(simp[*];done),pW⟩
def dX.l0:Nat→List Int→List Int→Int→Int→Option (Int)
 |0,_,_,_,_=>none
 |k+1,x3,x7,x8,x9=>if x9<x8 then(if 0≤x9 then(if x9<(x7.length:Int)then((gU.f k (rd x7 x9) 4).bind fun Js=>(if x3.length+Js.length<140737488355328 then(dX.l0 k (x3++Js) x7 x8 (wrap64 (x9+1)))else(none)))else(none))else(none))else((fM.f k x3).bind fun JY=>(some JY))
def dX.f (k:Nat) (l0:List Int):Option (Int):=dX.l0 k (([]:List Int)) l0 (l0.length:Int) 0
theorem dX.aW:∀k,(∀y0 y1 y2 y3,aj (dX.l0 k y0 y1 y2 y3) (dX.l0 (k+1) y0 y1 y2 y3))
 |0=>fun _ _ _ _ r h=>by simp[dX.l0]at h
 |k+1=>by
  have Az:=dX.aW k
  ·intro y0 y1 y2 y3
   unfold dX.l0
   repeat' with_reducible first|exact Az _ _ _ _|exact gU.mono _ _ _|exact fM.mono _ _|exact aj.refl _|exact aj.none _|refine aj.ite ?_ ?_|refine aj.bind ?_ (fun _=>?_)
theorem dX.mono:∀a0 k,aj (dX.f k a0) (dX.f (k+1) a0):=by
 intro a0 k;have Az:=dX.aW k;unfold dX.f;repeat' with_reducible first|exact Az _ _ _ _|exact gU.mono _ _ _|exact fM.mono _ _|exact aj.refl _|exact aj.none _|refine aj.ite ?_ ?_|refine aj.bind ?_ (fun _=>?_)
theorem dX.calls (k:Nat) (A0:Option Addr) (c0:Nat) (l0:List Int) (r:Int) (w:World) (hr0:Kd.C (Kd.int .i64) w A0 l0.length l0) (hc0:l0.length≤c0) (h:dX.f k l0=some r):
 Calls Tryz.prog 91 #[.slice A0 l0.length c0] w fun e w'=>e= .returned (.int .i64 r)∧Below w.heap.size w w':=by
 have Ay:=am hr0;have Jm:=am hc0;clear hr0 hc0;have HB:=am (Below.refl w.heap.size w);have H:(dX.l0 k (([]:List Int)) l0 (l0.length:Int) 0)=some r:=h;clear h;obtain⟨KU,JM⟩:∃y_:List Int,y_=(([]:List Int)):=⟨_,rfl⟩;replace H:(dX.l0 k KU l0 (l0.length:Int) 0)=some r:=by first|(rw[JM];with_reducible exact H)|(have wm:=(Option.bind_some _ _).symm.trans H;rw[JM];with_reducible exact wm)|(have wm:=(Option.bind_some _ _).symm.trans H;with_reducible exact wm)|with_reducible exact H|(rw[JM];exact H)|exact H
 have KF:=am JM;clear JM;have H':=am H;clear H;go_enter Tryz.func91,Tryz.ntmps91;go_wp2_with (first|((with_reducible refine bg (N:=6) rfl ?_);refine Kd.jP (Kd.int .u8) _ 5 ?hg (N:=6) ?hd (xs:=([]:List Int)) (inner:=[]) (ok:=fun _=>True) (bH:=fun _=>True) ?hr ?hp (fun _ hk=>hk) trivial (Below.refl _ _) (Nat.le_refl _) (by simp) ?_;(case hd=>rfl);(case hg=>rfl);(case hr=>first|(go_simp;done)|(go_simp;rfl));(case hp=>exact(bn.none _ _));intro Mq w2 ho3 hb JA JB;clear JA JB;(first|rw[←KF.out]at ho3|(simp only[Int.reduceToNat]at ho3;rw[←KF.out]at ho3));have n_:=t2 (rL ho3 (aH pB)) (aK pB hb);clear HB;obtain⟨Ld,HB⟩:=n_;clear hb ho3))
 go_loopg [3,9] k (fun kq v3 v9 w'=>∃(mg:List Int) (Ah:Int),v9= .int .i64 Ah∧ay (dX.l0 kq mg l0 (l0.length:Int) Ah=some r)∧ay (kq≤k)∧ay (Kd.R (Kd.int .u8) 5 w' w.heap.size (fun _=>True) v3 mg)∧ay (Below w.heap.size w w'))
 case atStart=>exact⟨(KU),(0),pF,H',⟨Nat.le_refl _⟩,⟨(pR Ld)⟩,⟨pB⟩⟩
 case round=>
  clear H';obtain⟨mg,Ah,rfl,HA,Jo,aN,HB⟩:=hrel;cases gk with
  |zero=>exact absurd HA.out (by simp[dX.l0])
  |succ k1=>
   have H:=HA.out;clear HA;simp only[dX.l0]at H;by_cases c4:Ah<(l0.length:Int)
   ·rw[if_pos c4]at H;have Jz:decide (Ah<(l0.length:Int))=true:=dt c4;clear c4;by_cases c5:0≤Ah
    ·rw[if_pos c5]at H;have KJ:decide (0≤Ah)=true:=dt c5;clear c5;by_cases c6:Ah<(l0.length:Int)
     ·rw[if_pos c6]at H;have Lr:decide (Ah<(l0.length:Int))=true:=dt c6;clear c6;replace H:=bO H;obtain⟨Js,JI,H⟩:=H;replace H:(if mg.length+Js.length<140737488355328 then(dX.l0 k1 (mg++Js) l0 (l0.length:Int) (wrap64 (Ah+1)))else(none))=some r:=H;have A7:=am JI;clear JI;by_cases c8:mg.length+Js.length<140737488355328
      ·rw[if_pos c8]at H;have Ke:=am c8;clear c8;obtain⟨KV,JN⟩:∃y_:List Int,y_=(mg++Js):=⟨_,rfl⟩;(replace H:(dX.l0 k1 KV l0 (l0.length:Int) (wrap64 (Ah+1)))=some r:=by first|(rw[JN];with_reducible exact H)|(have wm:=(Option.bind_some _ _).symm.trans H;rw[JN];with_reducible exact wm)|(have wm:=(Option.bind_some _ _).symm.trans H;with_reducible exact wm)|with_reducible exact H|(rw[JN];exact H)|exact H);have Li:=am JN;clear JN;have H':=am H;clear H;have Kj:0≤(Ah:Int):=pD;have Kq:Ah<(l0.length:Int):=pD;obtain⟨Ma,LB,KS⟩:=Kd.eG Ay.out Ah Kj Kq;cases LB;replace KS:=cb HB KS;replace Kj:=eq_true Kj;replace Kq:=eq_true Kq;(go_wp2_with (first|((with_reducible refine gC (f:=134) rfl ?_);refine aV (some 15) rfl rfl Tryz.func134 (by kernel_rfl) rfl #[.int .i64 (rd l0 Ah),.int .i64 4] rfl pA ?_;(with_reducible refine(gU.calls k1 (rd l0 Ah) 4 Js _ A7.out).mono ?_);rintro e w9 ⟨Mr,rfl,ho0,hb⟩;refine⟨_,rfl,?_⟩;have n_:=t3 (rE (pR aN) (rB ho0) hb) (rL (rW ho0 (Kd.cO (pR aN))) (aH pB)) (aK pB hb);clear aN HB;obtain⟨aN,JD,HB⟩:=n_;(try clear hb);(try clear ho0);obtain⟨KZ,Lv,LK⟩:=rS JD.out;subst LK)|((with_reducible refine gB (b:=.append) (xs:=#[.tmp 13,.tmp 15]) rfl ?_);at_builtin;refine Kd.mE (Kd.int .u8) (w0:=w) w.heap.size rfl (.tmp 13) (.tmp 15) 123 5 (.int .u8 0) 1 rfl Tryz.underlying123 info5 rfl (by decide) (by omega) u3 mg Js _ _ _ (fun k_=>some k_≠(.slice KZ Js.length Lv:Value).ownBlock) (fun _=>False) rfl rfl ?aO ?aR (fun _ _ h=>h) (fun _ h=>h.elim) ?aF ?aB ?aS ?aL ?_;(case aR=>exact pC (rr JD.out).2.2);(case aB=>exact pB);(case aF=>exact(fun k_ hk=>Kd.fresh' (Kd.cO (pR JD)) k_ hk));(case aO=>exact(pT (Kd.bC aN.out (fun _ hk=>hk.2))));(case aS=>exact(aH pB));(case aL=>have:=Ke.out;omega);intro Ms LX ho hb hg hat;rw[←Li.out]at ho;have n_:=t3 (Kd.iX (ok:=(fun _=>True)) (pR JD) hg hat) (hb) (ho);clear JD HB aN;obtain⟨JD,HB,Le⟩:=n_;clear ho hb hg hat)));go_roundg k1
       case measure=>have:=Jo.out;omega
       case rel=>exact⟨(KV),(wrap64 (Ah+1)),pF,H',⟨by have:=Jo.out;omega⟩,⟨(pT (Kd.bC Le.out (fun _ hk=>trivial)))⟩,⟨pB⟩⟩
      ·rw[if_neg c8]at H;exact absurd H (by simp)
     ·rw[if_neg c6]at H;exact absurd H (by simp)
    ·rw[if_neg c5]at H;exact absurd H (by simp)
   ·rw[if_neg c4]at H;have Jz:decide (Ah<(l0.length:Int))=false:=decide_eq_false c4;clear c4;replace H:=bO H;obtain⟨JY,Ky,H⟩:=H;replace H:(some JY)=some r:=H;have KY:=am Ky;clear Ky;obtain rfl:=sj H;obtain⟨La,Lx,LM⟩:=rS aN.out;subst LM;(go_wp2_with (first|((with_reducible refine gC (f:=135) rfl ?_);refine aV (some 19) rfl rfl Tryz.func135 (by kernel_rfl) rfl #[.slice La mg.length Lx] rfl pA ?_;(with_reducible refine(fM.calls k1 _ _ mg JY _ ?Jk ?Jl KY.out).mono ?_);(case Jk=>exact pC (rr aN.out).2.2);(case Jl=>exact(rr aN.out).2.1);rintro e w' ⟨rfl,⟨nd,rfl⟩⟩;refine⟨_,rfl,?_⟩)));go_ret;exact⟨pE,pB⟩
def pQ.f (l0:List Int) (a1:Int):Option (Int):=if(Go.bits .xor .i64 a1 1)<(l0.length:Int)then(if 0≤(Go.bits .xor .i64 a1 1)then(some (rd l0 (Go.bits .xor .i64 a1 1)))else(none))else(if 0≤a1 then(if a1<(l0.length:Int)then(some (rd l0 a1))else(none))else(none))
theorem pQ.calls (A0:Option Addr) (c0:Nat) (l0:List Int) (a1:Int) (r:Int) (w:World) (hr0:Kd.C (Kd.int .i64) w A0 l0.length l0) (hc0:l0.length≤c0) (h:pQ.f l0 a1=some r):
 Calls Tryz.prog 155 #[.slice A0 l0.length c0,.int .i64 a1] w fun e w'=>e= .returned (.int .i64 r)∧bX w w':=by
 have Ay:=am hr0;have Jm:=am hc0;clear hr0 hc0;have H:(if(Go.bits .xor .i64 a1 1)<(l0.length:Int)then(if 0≤(Go.bits .xor .i64 a1 1)then(some (rd l0 (Go.bits .xor .i64 a1 1)))else(none))else(if 0≤a1 then(if a1<(l0.length:Int)then(some (rd l0 a1))else(none))else(none)))=some r:=h;clear h;by_cases c3:(Go.bits .xor .i64 a1 1)<(l0.length:Int)
 ·rw[if_pos c3]at H;have JV:decide ((Go.bits .xor .i64 a1 1)<(l0.length:Int))=true:=dt c3;clear c3;by_cases c4:0≤(Go.bits .xor .i64 a1 1)
  ·rw[if_pos c4]at H;have Jz:decide (0≤(Go.bits .xor .i64 a1 1))=true:=dt c4;clear c4;obtain rfl:=sj H;have Kk:0≤((Go.bits .xor .i64 a1 1):Int):=pD;have Kr:(Go.bits .xor .i64 a1 1)<(l0.length:Int):=pD;obtain⟨Mc,LC,Mk⟩:=Kd.eG Ay.out (Go.bits .xor .i64 a1 1) Kk Kr;cases LC;replace Kk:=eq_true Kk;replace Kr:=eq_true Kr;go_enter Tryz.func155,Tryz.ntmps155;go_wp2;go_ret;exact⟨by first|rfl|(simp;done)|(simp[*];done),pW⟩
  ·rw[if_neg c4]at H;exact absurd H (by simp)
 ·rw[if_neg c3]at H;have JV:decide ((Go.bits .xor .i64 a1 1)<(l0.length:Int))=false:=decide_eq_false c3;clear c3;by_cases c5:0≤a1
  ·rw[if_pos c5]at H;have KJ:decide (0≤a1)=true:=dt c5;clear c5;by_cases c6:a1<(l0.length:Int)
   ·rw[if_pos c6]at H;have Lr:decide (a1<(l0.length:Int))=true:=dt c6;clear c6;obtain rfl:=sj H;have Kl:0≤(a1:Int):=pD;have Kt:a1<(l0.length:Int):=pD;obtain⟨Md,LD,Ml⟩:=Kd.eG Ay.out a1 Kl Kt;cases LD;replace Kl:=eq_true Kl;replace Kt:=eq_true Kt;go_enter Tryz.func155,Tryz.ntmps155;go_wp2;go_ret;exact⟨by first|rfl|(simp;done)|(simp[*];done),pW⟩
   ·rw[if_neg c6]at H;exact absurd H (by simp)
  ·rw[if_neg c5]at H;exact absurd H (by simp)
def dx.l0:Nat→List Int→List Int→Int→Option (List Int)
 |0,_,_,_=>none
 |k+1,x0,x3,x4=>if x4<(x0.length:Int)then(if 0≤x4 then((pQ.f x0 x4).bind fun Jt=>((dX.f k (([rd x0 x4,Jt]:List Int))).bind fun Jp=>(if x3.length<17592186044416 then(dx.l0 k x0 (x3++[Jp]) (wrap64 (x4+2)))else(none))))else(none))else(some x3)
def dx.f (k:Nat) (l0:List Int):Option (List Int):=dx.l0 k l0 (([]:List Int)) 0
theorem dx.aW:∀k,(∀y0 y1 y2,aj (dx.l0 k y0 y1 y2) (dx.l0 (k+1) y0 y1 y2))
 |0=>fun _ _ _ r h=>by simp[dx.l0]at h
 |k+1=>by
  have Az:=dx.aW k
  ·intro y0 y1 y2
   unfold dx.l0
   repeat' with_reducible first|exact Az _ _ _|exact dX.mono _ _|exact aj.refl _|exact aj.none _|refine aj.ite ?_ ?_|refine aj.bind ?_ (fun _=>?_)
theorem dx.mono:∀a0 k,aj (dx.f k a0) (dx.f (k+1) a0):=by
 intro a0 k;have Az:=dx.aW k;unfold dx.f;repeat' with_reducible first|exact Az _ _ _|exact dX.mono _ _|exact aj.refl _|exact aj.none _|refine aj.ite ?_ ?_|refine aj.bind ?_ (fun _=>?_)
def dx.T5:Bool×List (List Nat×List Nat):=(true,[([],[]),([],[]),([],[]),([1,2],[1,2]),([3],[3]),([],[]),([],[]),([5,6],[5,6]),([4,7],[4,7]),([8,7],[8]),([9],[9]),([0,10,9],[0,10]),([11,11,0,1,2,3,4,5,6,7,8,9,10,11],[0,11])])
def dx.B5:List Nat:=[0,0,0,6,14,0,0,96,254,510,1022,2047,4095]
theorem dx.oq:fT .any (opsOf Tryz.f132 5)=dx.T5:=by kernel_rfl
theorem dx.nS:jJ dx.T5.2 dx.B5=true:=by kernel_rfl
theorem dx.calls (k:Nat) (A0:Option Addr) (c0:Nat) (l0:List Int) (r:List Int) (w:World) (hr0:Kd.C (Kd.int .i64) w A0 l0.length l0) (hc0:l0.length≤c0) (h:dx.f k l0=some r):
 Calls Tryz.prog 132 #[.slice A0 l0.length c0] w fun e w'=>∃JU:Value,e= .returned (JU)∧Kd.R (Kd.int .i64) 2 w' w.heap.size (fun _=>True) JU r∧Below w.heap.size w w':=by
 have Ay:=am hr0;have Jm:=am hc0;clear hr0 hc0;have HB:=am (Below.refl w.heap.size w);have H:(dx.l0 k l0 (([]:List Int)) 0)=some r:=h;clear h;obtain⟨KW,JO⟩:∃y_:List Int,y_=(([]:List Int)):=⟨_,rfl⟩;replace H:(dx.l0 k l0 KW 0)=some r:=by first|(rw[JO];with_reducible exact H)|(have wm:=(Option.bind_some _ _).symm.trans H;rw[JO];with_reducible exact wm)|(have wm:=(Option.bind_some _ _).symm.trans H;with_reducible exact wm)|with_reducible exact H|(rw[JO];exact H)|exact H
 have KG:=am JO;clear JO;have H':=am H;clear H;go_enter Tryz.func132,Tryz.ntmps132;go_wp2_with (first|((with_reducible refine bg (N:=5) rfl ?_);refine Kd.jP (Kd.int .i64) _ 2 ?hg (N:=5) ?hd (xs:=([]:List Int)) (inner:=[]) (ok:=fun _=>True) (bH:=fun _=>True) ?hr ?hp (fun _ hk=>hk) trivial (Below.refl _ _) (Nat.le_refl _) (by simp) ?_;(case hd=>rfl);(case hg=>rfl);(case hr=>first|(go_simp;done)|(go_simp;rfl));(case hp=>exact(bn.none _ _));intro Mt w2 ho3 hb JA JB;clear JA JB;(first|rw[←KG.out]at ho3|(simp only[Int.reduceToNat]at ho3;rw[←KG.out]at ho3));have n_:=t2 (rL ho3 (aH pB)) (aK pB hb);clear HB;obtain⟨Lf,HB⟩:=n_;clear hb ho3))
 go_loopg [3,4] k (fun kq v3 v4 w'=>∃(mg:List Int) (Ab:Int),v4= .int .i64 Ab∧ay (dx.l0 kq l0 mg Ab=some r)∧ay (kq≤k)∧ay (Kd.R (Kd.int .i64) 2 w' w.heap.size (fun _=>True) v3 mg)∧ay (Below w.heap.size w w'))
 case atStart=>exact⟨(KW),(0),pF,H',⟨Nat.le_refl _⟩,⟨(pR Lf)⟩,⟨pB⟩⟩
 case round=>
  clear H';obtain⟨mg,Ab,rfl,HA,Jo,aN,HB⟩:=hrel;cases gk with
  |zero=>exact absurd HA.out (by simp[dx.l0])
  |succ k1=>
   have H:=HA.out;clear HA;simp only[dx.l0]at H;by_cases c4:Ab<(l0.length:Int)
   ·rw[if_pos c4]at H;have Jz:decide (Ab<(l0.length:Int))=true:=dt c4;clear c4;by_cases c5:0≤Ab
    ·rw[if_pos c5]at H;have KJ:decide (0≤Ab)=true:=dt c5;clear c5;replace H:=bO H;obtain⟨Jt,KA,H⟩:=H;replace H:((dX.f k1 (([rd l0 Ab,Jt]:List Int))).bind fun Jp=>(if mg.length<17592186044416 then(dx.l0 k1 l0 (mg++[Jp]) (wrap64 (Ab+2)))else(none)))=some r:=H;have A6:=am KA;clear KA;obtain⟨JZ,JQ⟩:∃y_:List Int,y_=(([rd l0 Ab,Jt]:List Int)):=⟨_,rfl⟩;(replace H:((dX.f k1 JZ).bind fun Jp=>(if mg.length<17592186044416 then(dx.l0 k1 l0 (mg++[Jp]) (wrap64 (Ab+2)))else(none)))=some r:=by first|(rw[JQ];with_reducible exact H)|(have wm:=(Option.bind_some _ _).symm.trans H;rw[JQ];with_reducible exact wm)|(have wm:=(Option.bind_some _ _).symm.trans H;with_reducible exact wm)|with_reducible exact H|(rw[JQ];exact H)|exact H);have KH:=am JQ;clear JQ;replace H:=bO H;obtain⟨Jp,JI,H⟩:=H;replace H:(if mg.length<17592186044416 then(dx.l0 k1 l0 (mg++[Jp]) (wrap64 (Ab+2)))else(none))=some r:=H;have A7:=am JI;clear JI;by_cases c8:mg.length<17592186044416
     ·rw[if_pos c8]at H;have Ke:=am c8;clear c8;obtain⟨KX,JR⟩:∃y_:List Int,y_=(mg++[Jp]):=⟨_,rfl⟩;(replace H:(dx.l0 k1 l0 KX (wrap64 (Ab+2)))=some r:=by first|(rw[JR];with_reducible exact H)|(have wm:=(Option.bind_some _ _).symm.trans H;rw[JR];with_reducible exact wm)|(have wm:=(Option.bind_some _ _).symm.trans H;with_reducible exact wm)|with_reducible exact H|(rw[JR];exact H)|exact H);have Lj:=am JR;clear JR;have H':=am H;clear H;(try go_wp2);have n_:=t2 (Kd.jA aN.out) (gH HB.out);clear aN HB;obtain⟨aN,HB⟩:=n_;have Km:0≤(Ab:Int):=pD;have Ku:Ab<(l0.length:Int):=pD;obtain⟨KI,LG,JX⟩:=Kd.eG Ay.out Ab Km Ku;have JC:=JX;cases LG;replace JX:=cb HB JX;replace Km:=eq_true Km;replace Ku:=eq_true Ku;refine iU (n:=13) (S:=fun w'=>w'.cell? (KI.add (Ab).toNat)=some (.int .i64 (rd l0 Ab))) (ds:=[]) #[false,false,false,false,false,false,false,false,false,false,false,false,false] (by kernel_rfl) rfl rfl ((cb HB JC)) (fun hHeld=>?_);refine jK dx.oq dx.nS (fun bG jC=>?_);generalize wr.drew=w9 at aN HB JX hHeld ⊢;refine rQ 0 12 ?_;refine rQ 1 13 ?_;refine rQ 2 14 ?_;refine rQ 3 15 ?_;refine rQ 5 17 ?_;refine rQ 6 18 ?_;refine rV 4 16 ?_;refine bR (i:=7) (N:=some 19) #[true,true,true,true,true,true,true,true,false,false,false,false,false] rfl rfl (dn bG.out (by kernel_rfl)) (by decide) (fun K hK=>?_);refine dK Tryz.func155 (by kernel_rfl) rfl #[.slice (some KI) l0.length c0,.int .i64 Ab] (by rfl) rfl rfl pA ?_;(with_reducible refine(pQ.calls _ _ l0 Ab Jt _ ?Jk ?Jl A6.out).mono ?_);(case Jk=>exact pC (Kd.aY Ay.out HB.out));(case Jl=>exact Jm.out);rintro e w' ⟨rfl,⟨nd,rfl⟩⟩;refine⟨_,rfl,?_⟩;refine hK.out _ _ ((cb HB JC)) (fun hHeld=>?_);clear hK K;refine rN ?_;refine bR (i:=8) (N:=some 20) #[true,true,true,true,true,true,true,true,true,false,false,false,false] rfl rfl (dn bG.out (by kernel_rfl)) (by decide) (fun K hK=>?_);refine Kd.ug (Kd.int .i64) _ 2 ?hg (N:=20) ?hd (xs:=([rd l0 Ab,Jt]:List Int)) (inner:=[.int .i64 (rd l0 Ab),.int .i64 Jt]) (ok:=fun _=>True) (bH:=fun _=>True) ?hr ?hp (fun _ hk=>hk) trivial (Below.refl _ _) (Nat.le_refl _) (by simp) ?_;(case hd=>rfl);(case hg=>rfl);(case hr=>first|(go_simp;done)|(go_simp;rfl));(case hp=>exact(bn.one (show Kd.M (Kd.int .i64) _ _ _ (rd l0 Ab) [.int .i64 (rd l0 Ab)]from rfl) (bn.one (show Kd.M (Kd.int .i64) _ _ _ Jt [.int .i64 Jt]from rfl) (bn.none _ _))));intro Mv LX JE hb JA JB;clear JA JB;(first|rw[←KH.out]at JE|(simp only[Int.reduceToNat]at JE;rw[←KH.out]at JE));have n_:=t3 (rE (pR aN) (rB JE) hb) (rL (rW JE (Kd.cO (pR aN))) (aH pB)) (aK pB hb);clear aN HB;obtain⟨aN,Jq,HB⟩:=n_;clear hb JE;obtain⟨KC,KL,KN⟩:=rS Jq.out;(first|subst KN|(injection KN with KO LP KP;have LQ:=KO.symm;have LU:=KP.symm;clear KO LP KP;subst LQ;subst LU));refine hK.out _ _ ((cb HB JC)) (fun hHeld=>?_);clear hK K;refine rN ?_;refine bR (i:=9) (N:=some 21) #[true,true,true,true,true,true,true,true,true,true,false,false,false] rfl rfl (dn bG.out (by kernel_rfl)) (by decide) (fun K hK=>?_);refine dK Tryz.func91 (by kernel_rfl) rfl #[.slice KC JZ.length KL] (by rfl) rfl rfl pA ?_;(with_reducible refine(dX.calls k1 _ _ JZ Jp _ ?Jk ?Jl A7.out).mono ?_);(case Jk=>exact pC (rr Jq.out).2.2);(case Jl=>exact(rr Jq.out).2.1);rintro e MB ⟨rfl,hb⟩;refine⟨_,rfl,?_⟩;have n_:=t3 (Kd.dW (pR aN) hb) (Kd.dW (pR Jq) hb) (aK pB hb);clear aN Jq HB;obtain⟨aN,Jq,HB⟩:=n_;(try clear hb);(try clear hb2);(try clear hk);(try clear hi);refine hK.out _ _ ((cb HB JC)) (fun hHeld=>?_);clear hK K;refine rN ?_;refine bR (i:=10) (N:=some 22) #[true,true,true,true,true,true,true,true,true,true,true,false,false] rfl rfl (dn bG.out (by kernel_rfl)) (by decide) (fun K hK=>?_);refine vo (w1:=?_) (v:=?_) (by rfl) rfl ?_ ?_;rotate_left 2
      ·go_simp;constructor
       ·rfl
       ·rfl
      refine hK.out _ _ ((World.cell?_alloc_lt _ _ _ (World.block_lt_of_cell? _ _ ((cb HB JC)))).trans ((cb HB JC))) (fun hHeld=>?_);clear hK K;refine rN ?_;refine bR (i:=11) (N:=some 23) #[true,true,true,true,true,true,true,true,true,true,true,true,false] rfl rfl (dn bG.out (by kernel_rfl)) (by decide) (fun K hK=>?_);refine Kd.vE (Kd.int .i64) (w0:=w) w.heap.size (by rfl) (.tmp 12) (.tmp 22) 73 2 (.int .i64 0) 8 rfl Tryz.underlying73 qH rfl (by decide) (by omega) u3 mg Jp [.int .i64 Jp] (fun k_=>some k_≠(.slice KC JZ.length KL:Value).ownBlock) (fun _=>False) rfl rfl ?aP (fun _ hk=>hk.elim) ?aF ?aO ?aB ?aS ?aL ?_;(case aP=>exact rfl);(case aB=>exact pB);(case aF=>exact(fun k_ hk=>Kd.fresh' (Kd.cO (pR Jq)) k_ hk));(case aO=>exact(pT (Kd.bC aN.out (fun _ hk=>hk.2))));(case aS=>exact(aH pB));(case aL=>have:=Ke.out;omega);intro Mw MC ho hb hg hat;rw[←Lj.out]at ho;have n_:=t3 (Kd.iX (ok:=(fun _=>True)) (pR Jq) hg hat) (hb) (ho);clear Jq HB aN;obtain⟨Jq,HB,Lg⟩:=n_;clear ho hb hg hat;refine hK.out _ _ ((cb HB JC)) (fun hHeld=>?_);clear hK K;refine rN ?_;refine rQ 12 3 ?_;refine iP (jG bG.out (by kernel_rfl)) ?_;(try go_wp2);go_roundg k1
      case measure=>have:=Jo.out;omega
      case rel=>exact⟨(KX),(wrap64 (Ab+2)),pF,H',⟨by have:=Jo.out;omega⟩,⟨(pT (Kd.bC Lg.out (fun _ hk=>trivial)))⟩,⟨pB⟩⟩
     ·rw[if_neg c8]at H;exact absurd H (by simp)
    ·rw[if_neg c5]at H;exact absurd H (by simp)
   ·rw[if_neg c4]at H;have Jz:decide (Ab<(l0.length:Int))=false:=decide_eq_false c4;clear c4;obtain rfl:=sj H;go_wp2;go_ret;exact⟨_,pE,(pR aN),pB⟩
end Go.Proofs.YtjmdfghljlmfmaaGreat.QFnExactMineBlock
