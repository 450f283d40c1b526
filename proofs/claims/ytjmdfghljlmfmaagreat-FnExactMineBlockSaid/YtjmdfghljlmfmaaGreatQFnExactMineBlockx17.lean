-- written by this session's program (wip/tools/myprint.py)
import Derived.Test.YtjmdfghljlmfmaaGreatQFnExactMineBlockx0
import Derived.Test.YtjmdfghljlmfmaaGreatQFnExactMineBlockx16
-- squeezed
namespace Go.Proofs.YtjmdfghljlmfmaaGreat.QFnExactMineBlock
open Go.RowKit Go.Proofs.YtjmdfghljlmfmaaGreatW.PrintWords Go.Proofs.YtjmdfghljlmfmaaGreatW.PrintLast Go.Proofs.YtjmdfghljlmfmaaGreatW.PrintMore
attribute [local go_sem] iC iG iF iJ iE iI iD iH
set_option linter.unusedVariables false
set_option linter.unusedSimpArgs false
set_option maxHeartbeats 8000000
set_option maxRecDepth 100000
mutual
def dB.l0:Nat→List Int→Option (Bool)
 |0,_=>none
 |k+1,x3=>if(x3.length:Int)>1 then(dB.l1 k x3 1)else(some false)
def dB.l1:Nat→List Int→Int→Option (Bool)
 |0,_,_=>none
 |k+1,x3,x4=>if x4<(x3.length:Int)then(if 0≤(wrap64 (x4-1))then(if(wrap64 (x4-1))<(x3.length:Int)then(if 0≤x4 then(if(rd x3 (wrap64 (x4-1)))=(rd x3 x4)then(some true)else(dB.l1 k x3 (wrap64 (x4+2))))else(none))else(none))else(none))else((dx.f k x3).bind fun JA=>(dB.l0 k JA))
end
def dB.f (k:Nat) (l0:List Int):Option (Bool):=(jH.f k l0).bind fun Jj=>(if Jj=0 then(dB.l0 k l0)else(some false))
theorem dB.aW:∀k,(∀y0,aj (dB.l0 k y0) (dB.l0 (k+1) y0))∧(∀y0 y1,aj (dB.l1 k y0 y1) (dB.l1 (k+1) y0 y1))
 |0=>⟨fun _ r h=>by simp[dB.l0]at h,fun _ _ r h=>by simp[dB.l1]at h⟩
 |k+1=>by
  obtain⟨Jp,ih1⟩:=dB.aW k
  refine⟨?_,?_⟩
  ·intro y0
   unfold dB.l0
   repeat' with_reducible first|exact Jp _|exact ih1 _ _|exact dx.mono _ _|exact jH.mono _ _|exact aj.refl _|exact aj.none _|refine aj.ite ?_ ?_|refine aj.bind ?_ (fun _=>?_)
  ·intro y0 y1
   unfold dB.l1
   repeat' with_reducible first|exact Jp _|exact ih1 _ _|exact dx.mono _ _|exact jH.mono _ _|exact aj.refl _|exact aj.none _|refine aj.ite ?_ ?_|refine aj.bind ?_ (fun _=>?_)
theorem dB.mono:∀a0 k,aj (dB.f k a0) (dB.f (k+1) a0):=by
 intro a0 k;obtain⟨Jp,ih1⟩:=dB.aW k;unfold dB.f;repeat' with_reducible first|exact Jp _|exact ih1 _ _|exact dx.mono _ _|exact jH.mono _ _|exact aj.refl _|exact aj.none _|refine aj.ite ?_ ?_|refine aj.bind ?_ (fun _=>?_)
theorem dB.calls (k:Nat) (JR:Nat→Prop) (A0:Option Addr) (c0:Nat) (l0:List Int) (r:Bool) (w:World) (hs0:Kd.V (Kd.int .i64) 2 w w.heap.size (fun k_=>JR k_) (.slice A0 l0.length c0) l0) (h:dB.f k l0=some r):
 Calls Tryz.prog 88 #[.slice A0 l0.length c0] w fun e w'=>e= .returned (.bool r)∧Below w.heap.size w w':=by
 have Jo:=am (show Kd.V (Kd.int .i64) 2 w w.heap.size (fun k_=>(JR k_∨w.heap.size≤k_)) (.slice A0 l0.length c0) l0 from Kd.oU hs0 (fun k_ hk=>.inl hk));have HB:=am (Below.refl w.heap.size w);have H:((jH.f k l0).bind fun Jj=>(if Jj=0 then(dB.l0 k l0)else(some false)))=some r:=h;clear h;replace H:=bO H;obtain⟨Jj,Jt,H⟩:=H;replace H:(if Jj=0 then(dB.l0 k l0)else(some false))=some r:=H;have A2:=am Jt;clear Jt;by_cases c3:Jj=0
 ·rw[if_pos c3]at H;have JV:(Jj==0)=true:=beq_iff_eq.mpr c3;have Kg:(Jj != 0)=false:=bne_eq_false_iff_eq.mpr c3;clear c3;have H':=am H;clear H;go_enter Tryz.func88,Tryz.ntmps88;(go_wp2_with (first|(go_at_call 131;(with_reducible refine(jH.calls k _ _ l0 Jj _ ?Ay ?Az A2.out).mono ?_);(case Ay=>exact pC (Kd.eZ Jo.out).2.2);(case Az=>exact(Kd.eZ Jo.out).2.1);rintro e w' ⟨rfl,⟨nd,rfl⟩⟩;(try first|exact⟨rfl,_,World.drewN_drewN _ _ _⟩|exact⟨rfl,_,Eq.trans (World.drewN_drewN _ _ _) (congrArg (World.drewN _) (Nat.add_assoc _ _ _))⟩))));(repeat(go_quiet (first|(go_at_call 131;(with_reducible refine(jH.calls k _ _ l0 Jj _ ?Ay ?Az A2.out).mono ?_);(case Ay=>exact pC (Kd.eZ Jo.out).2.2);(case Az=>exact(Kd.eZ Jo.out).2.1);rintro e w' ⟨rfl,⟨nd,rfl⟩⟩;(try first|exact⟨rfl,_,World.drewN_drewN _ _ _⟩|exact⟨rfl,_,Eq.trans (World.drewN_drewN _ _ _) (congrArg (World.drewN _) (Nat.add_assoc _ _ _))⟩)));try go_wp2_with (first|(go_at_call 131;(with_reducible refine(jH.calls k _ _ l0 Jj _ ?Ay ?Az A2.out).mono ?_);(case Ay=>exact pC (Kd.eZ Jo.out).2.2);(case Az=>exact(Kd.eZ Jo.out).2.1);rintro e w' ⟨rfl,⟨nd,rfl⟩⟩;(try first|exact⟨rfl,_,World.drewN_drewN _ _ _⟩|exact⟨rfl,_,Eq.trans (World.drewN_drewN _ _ _) (congrArg (World.drewN _) (Nat.add_assoc _ _ _))⟩)))));go_loopg [3] k (fun kq v3 w'=>∃(aP:List Int),ay (dB.l0 kq aP=some r)∧ay (kq≤k)∧ay (Kd.V (Kd.int .i64) 2 w' w.heap.size (fun k_=>(JR k_∨w.heap.size≤k_)) v3 aP)∧ay (Below w.heap.size w w'))
  case atStart=>exact⟨(l0),H',⟨Nat.le_refl _⟩,⟨by(with_reducible repeat(first|apply Kd.nP|apply Kd.nR|apply Kd.nQ));exact Jo.out⟩,⟨pB⟩⟩
  case round=>
   clear H';(try clear c3);(try clear JV);(try clear Kg);obtain⟨aP,HA,Jq,aN,HB⟩:=hrel;cases gk with
   |zero=>exact absurd HA.out (by simp[dB.l0])
   |succ k1=>
    have H:=HA.out;clear HA;simp only[dB.l0]at H;by_cases c4:(aP.length:Int)>1
    ·rw[if_pos c4]at H;have JG:decide (1<(aP.length:Int))=true:=dt c4;have KA:decide (1<aP.length)=true:=dt (by omega);clear c4;have H':=am H;clear H;obtain⟨KS,Lu,LG⟩:=Kd.oV aN.out;subst LG;go_wp2;(repeat(go_quiet (fail);try go_wp2));go_loopg [4] k1 (fun kq v4 w'=>∃(wm:Int),v4= .int .i64 wm∧ay (dB.l1 kq aP wm=some r)∧ay (kq≤k1)∧ay (Kd.V (Kd.int .i64) 2 w' w.heap.size (fun k_=>(JR k_∨w.heap.size≤k_)) (.slice KS aP.length Lu) aP)∧ay (Below w.heap.size w w'))
     case atStart=>exact⟨(1),pF,H',⟨Nat.le_refl _⟩,⟨by(with_reducible repeat(first|apply Kd.nP|apply Kd.nR|apply Kd.nQ));exact aN.out⟩,⟨pB⟩⟩
     case round=>
      clear H';(try clear c3);(try clear JV);(try clear Kg);(try clear c4);(try clear JG);(try clear KA);obtain⟨wm,rfl,HA,Ju,aN,HB⟩:=hrel;cases gk with
      |zero=>exact absurd HA.out (by simp[dB.l1])
      |succ k2=>
       have H:=HA.out;clear HA;simp only[dB.l1]at H;by_cases c6:wm<(aP.length:Int)
       ·rw[if_pos c6]at H;have KC:decide (wm<(aP.length:Int))=true:=dt c6;clear c6;obtain⟨Ag,JW⟩:∃j_:Int,(wrap64 (wm-1))=j_:=⟨_,rfl⟩;(replace H:(if 0≤(Ag)then(if(Ag)<(aP.length:Int)then(if 0≤wm then(if(rd aP (Ag))=(rd aP wm)then(some true)else(dB.l1 k2 aP (wrap64 (wm+2))))else(none))else(none))else(none))=some r:=by first|(rw[JW]at H;exact H)|(simp only[JW]at H ⊢;exact H));have Mi:(IntKind.i64.wrap (wm-1))=Ag:=(jg _).trans JW;by_cases c8:0≤(Ag)
        ·rw[if_pos c8]at H;have KD:decide (0≤(Ag))=true:=dt c8;clear c8;by_cases c9:(Ag)<(aP.length:Int)
         ·rw[if_pos c9]at H;have Lr:decide ((Ag)<(aP.length:Int))=true:=dt c9;clear c9;by_cases c10:0≤wm
          ·rw[if_pos c10]at H;have Lj:decide (0≤wm)=true:=dt c10;clear c10;by_cases c11:(rd aP (Ag))=(rd aP wm)
           ·rw[if_pos c11]at H;have Ll:((rd aP (Ag))==(rd aP wm))=true:=beq_iff_eq.mpr c11;have Lm:((rd aP (Ag)) != (rd aP wm))=false:=bne_eq_false_iff_eq.mpr c11;clear c11;obtain rfl:=sj H;have Jv:0≤((Ag):Int):=pD;have Jy:(Ag)<(aP.length:Int):=pD;obtain⟨Ka,Kh,LJ⟩:=Kd.eG (Kd.eZ aN.out).2.2 (Ag) Jv Jy;cases Kh;replace Jv:=eq_true Jv;replace Jy:=eq_true Jy;have Jw:0≤(wm:Int):=pD;have Jz:wm<(aP.length:Int):=pD;obtain⟨Ke,Ki,LK⟩:=Kd.eG (Kd.eZ aN.out).2.2 wm Jw Jz;obtain rfl:Ka=Ke:=(by injection Ki);replace Jw:=eq_true Jw;replace Jz:=eq_true Jz;go_wp2;(repeat(go_quiet (fail);try go_wp2));go_ret;exact⟨by first|rfl|(simp[pq,pz]<;>rfl)|(simp only[←JW];first|rfl|(simp[pq,pz]<;>rfl))|(simp[*,pq,pz]<;>rfl),pB⟩
           ·rw[if_neg c11]at H;have Ll:((rd aP (Ag))==(rd aP wm))=false:=beq_eq_false_iff_ne.mpr c11;have Lm:((rd aP (Ag)) != (rd aP wm))=true:=bne_iff_ne.mpr c11;have H':=am H;clear H;have Jv:0≤((Ag):Int):=pD;have Jy:(Ag)<(aP.length:Int):=pD;obtain⟨Ka,Kh,LJ⟩:=Kd.eG (Kd.eZ aN.out).2.2 (Ag) Jv Jy;cases Kh;replace Jv:=eq_true Jv;replace Jy:=eq_true Jy;have Jw:0≤(wm:Int):=pD;have Jz:wm<(aP.length:Int):=pD;obtain⟨Ke,Ki,LK⟩:=Kd.eG (Kd.eZ aN.out).2.2 wm Jw Jz;obtain rfl:Ka=Ke:=(by injection Ki);replace Jw:=eq_true Jw;replace Jz:=eq_true Jz;go_wp2;(repeat(go_quiet (fail);try go_wp2));go_roundg k2
            case measure=>have:=Jq.out;have:=Ju.out;omega
            case rel=>exact⟨(wrap64 (wm+2)),pF,H',⟨by have:=Jq.out;have:=Ju.out;omega⟩,⟨by(with_reducible repeat(first|apply Kd.nP|apply Kd.nR|apply Kd.nQ));exact aN.out⟩,⟨pB⟩⟩
          ·rw[if_neg c10]at H;exact absurd H (by simp)
         ·rw[if_neg c9]at H;exact absurd H (by simp)
        ·rw[if_neg c8]at H;exact absurd H (by simp)
       ·rw[if_neg c6]at H;have KC:decide (wm<(aP.length:Int))=false:=decide_eq_false c6;clear c6;replace H:=bO H;obtain⟨JA,Kt,H⟩:=H;replace H:(dB.l0 k2 JA)=some r:=H;have JX:=am Kt;clear Kt;have H':=am H;clear H;(go_wp2_with (first|(go_at_call 132;(with_reducible refine(dx.calls k2 _ _ aP JA _ ?Ay ?Az JX.out).mono ?_);(case Ay=>exact pC (Kd.eZ aN.out).2.2);(case Az=>exact(Kd.eZ aN.out).2.1);rintro e KN ⟨KM,rfl,ho0,hb⟩;have n_:=t3 (Kd.oQ qQ (rB ho0) hb) (rL (Kd.oO (M:=fun k_=>(w.heap.size≤k_)) ho0 (aH pB) (fun k_ h_=>h_)) (aH pB)) (aK pB hb);clear aN HB;obtain⟨aN,JY,HB⟩:=n_;(try clear hb);(try clear ho0))));(repeat(go_quiet (first|(go_at_call 132;(with_reducible refine(dx.calls k2 _ _ aP JA _ ?Ay ?Az JX.out).mono ?_);(case Ay=>exact pC (Kd.eZ aN.out).2.2);(case Az=>exact(Kd.eZ aN.out).2.1);rintro e KN ⟨KM,rfl,ho0,hb⟩;have n_:=t3 (Kd.oQ qQ (rB ho0) hb) (rL (Kd.oO (M:=fun k_=>(w.heap.size≤k_)) ho0 (aH pB) (fun k_ h_=>h_)) (aH pB)) (aK pB hb);clear aN HB;obtain⟨aN,JY,HB⟩:=n_;(try clear hb);(try clear ho0)));try go_wp2_with (first|(go_at_call 132;(with_reducible refine(dx.calls k2 _ _ aP JA _ ?Ay ?Az JX.out).mono ?_);(case Ay=>exact pC (Kd.eZ aN.out).2.2);(case Az=>exact(Kd.eZ aN.out).2.1);rintro e KN ⟨KM,rfl,ho0,hb⟩;have n_:=t3 (Kd.oQ qQ (rB ho0) hb) (rL (Kd.oO (M:=fun k_=>(w.heap.size≤k_)) ho0 (aH pB) (fun k_ h_=>h_)) (aH pB)) (aK pB hb);clear aN HB;obtain⟨aN,JY,HB⟩:=n_;(try clear hb);(try clear ho0)))));go_roundg k2
        case measure=>have:=Jq.out;have:=Ju.out;omega
        case rel=>exact⟨(JA),H',⟨by have:=Jq.out;have:=Ju.out;omega⟩,⟨Kd.oU (Kd.nL (pT (Kd.bC JY.out (fun _ hk=>hk.1)))) (fun k_ hk=>by first|exact⟨(.inr (hk.1)),hk.2⟩|exact(.inr (hk)))⟩,⟨pB⟩⟩
    ·rw[if_neg c4]at H;have JG:decide (1<(aP.length:Int))=false:=decide_eq_false c4;have KA:decide (1<aP.length)=false:=decide_eq_false (by omega);clear c4;obtain rfl:=sj H;obtain⟨LX,Mh,LD⟩:=Kd.oV aN.out;subst LD;go_wp2;(repeat(go_quiet (fail);try go_wp2));go_ret;exact⟨pE,pB⟩
 ·rw[if_neg c3]at H;have JV:(Jj==0)=false:=beq_eq_false_iff_ne.mpr c3;have Kg:(Jj != 0)=true:=bne_iff_ne.mpr c3;obtain rfl:=sj H;go_enter Tryz.func88,Tryz.ntmps88;(go_wp2_with (first|(go_at_call 131;(with_reducible refine(jH.calls k _ _ l0 Jj _ ?Ay ?Az A2.out).mono ?_);(case Ay=>exact pC (Kd.eZ Jo.out).2.2);(case Az=>exact(Kd.eZ Jo.out).2.1);rintro e w' ⟨rfl,⟨nd,rfl⟩⟩;(try first|exact⟨rfl,_,World.drewN_drewN _ _ _⟩|exact⟨rfl,_,Eq.trans (World.drewN_drewN _ _ _) (congrArg (World.drewN _) (Nat.add_assoc _ _ _))⟩))));(repeat(go_quiet (first|(go_at_call 131;(with_reducible refine(jH.calls k _ _ l0 Jj _ ?Ay ?Az A2.out).mono ?_);(case Ay=>exact pC (Kd.eZ Jo.out).2.2);(case Az=>exact(Kd.eZ Jo.out).2.1);rintro e w' ⟨rfl,⟨nd,rfl⟩⟩;(try first|exact⟨rfl,_,World.drewN_drewN _ _ _⟩|exact⟨rfl,_,Eq.trans (World.drewN_drewN _ _ _) (congrArg (World.drewN _) (Nat.add_assoc _ _ _))⟩)));try go_wp2_with (first|(go_at_call 131;(with_reducible refine(jH.calls k _ _ l0 Jj _ ?Ay ?Az A2.out).mono ?_);(case Ay=>exact pC (Kd.eZ Jo.out).2.2);(case Az=>exact(Kd.eZ Jo.out).2.1);rintro e w' ⟨rfl,⟨nd,rfl⟩⟩;(try first|exact⟨rfl,_,World.drewN_drewN _ _ _⟩|exact⟨rfl,_,Eq.trans (World.drewN_drewN _ _ _) (congrArg (World.drewN _) (Nat.add_assoc _ _ _))⟩)))));go_ret;exact⟨pE,pB⟩
def iB.f (a0:Int):Option (List Int):=if a0<253 then(some (([(a0)%256]:List Int)))else(some (([253,(a0)%256,(a0 / 256)%256]:List Int)))
theorem iB.calls (a0:Int) (r:List Int) (w:World) (h:iB.f a0=some r):
 Calls Tryz.prog 156 #[.int .i64 a0] w fun e w'=>∃Jm:Value,e= .returned (Jm)∧Kd.R (Kd.int .u8) 5 w' w.heap.size (fun _=>True) Jm r∧Below w.heap.size w w':=by
 have HB:=am (Below.refl w.heap.size w);have H:(if a0<253 then(some (([(a0)%256]:List Int)))else(some (([253,(a0)%256,(a0 / 256)%256]:List Int))))=some r:=h;clear h;by_cases c2:a0<253
 ·rw[if_pos c2]at H;have JU:decide (a0<253)=true:=dt c2;clear c2;obtain⟨LP,JJ⟩:∃y_:List Int,y_=(([(a0)%256]:List Int)):=⟨_,rfl⟩;(replace H:(some LP)=some r:=by first|(rw[JJ];with_reducible exact H)|(have Ab:=(Option.bind_some _ _).symm.trans H;rw[JJ];with_reducible exact Ab)|(have Ab:=(Option.bind_some _ _).symm.trans H;with_reducible exact Ab)|with_reducible exact H|(rw[JJ];exact H)|exact H);have Ky:=am JJ;clear JJ;obtain rfl:=sj H;go_enter Tryz.func156,Tryz.ntmps156;(go_wp2_with (first|((with_reducible refine bg (N:=7) rfl ?_);refine Kd.jP (Kd.int .u8) _ 5 ?hg (N:=7) ?hd (xs:=([(a0)%256]:List Int)) (inner:=[.int .u8 ((a0)%256)]) (ok:=fun _=>True) (bH:=fun _=>True) ?hr ?hp (fun _ hk=>hk) trivial (Below.refl _ _) (Nat.le_refl _) (by simp) ?_;(case hd=>rfl);(case hg=>rfl);(case hr=>first|(go_simp;done)|(go_simp;rfl));(case hp=>exact(bn.one (show Kd.M (Kd.int .u8) _ _ _ ((a0)%256) [.int .u8 ((a0)%256)]from rfl) (bn.none _ _)));intro Mj w3 JH hb Kj Kk;clear Kj Kk;(first|rw[←Ky.out]at JH|(simp only[Int.reduceToNat]at JH;rw[←Ky.out]at JH));have n_:=t2 (rL JH (aH pB)) (aK pB hb);clear HB;obtain⟨KV,HB⟩:=n_;clear hb JH)));go_ret;exact⟨_,pE,(pR KV),pB⟩
 ·rw[if_neg c2]at H;have JU:decide (a0<253)=false:=decide_eq_false c2;clear c2;obtain⟨LQ,JK⟩:∃y_:List Int,y_=(([253,(a0)%256,(a0 / 256)%256]:List Int)):=⟨_,rfl⟩;(replace H:(some LQ)=some r:=by first|(rw[JK];with_reducible exact H)|(have Ab:=(Option.bind_some _ _).symm.trans H;rw[JK];with_reducible exact Ab)|(have Ab:=(Option.bind_some _ _).symm.trans H;with_reducible exact Ab)|with_reducible exact H|(rw[JK];exact H)|exact H);have Kz:=am JK;clear JK;obtain rfl:=sj H;go_enter Tryz.func156,Tryz.ntmps156;(go_wp2_with (first|((with_reducible refine bg (N:=13) rfl ?_);refine Kd.jP (Kd.int .u8) _ 5 ?hg (N:=13) ?hd (xs:=([253,(a0)%256,(a0 / 256)%256]:List Int)) (inner:=[.int .u8 253,.int .u8 ((a0)%256),.int .u8 ((a0 / 256)%256)]) (ok:=fun _=>True) (bH:=fun _=>True) ?hr ?hp (fun _ hk=>hk) trivial (Below.refl _ _) (Nat.le_refl _) (by simp) ?_;(case hd=>rfl);(case hg=>rfl);(case hr=>first|(go_simp;done)|(go_simp;rfl));(case hp=>exact(bn.one (show Kd.M (Kd.int .u8) _ _ _ 253 [.int .u8 253]from rfl) (bn.one (show Kd.M (Kd.int .u8) _ _ _ ((a0)%256) [.int .u8 ((a0)%256)]from rfl) (bn.one (show Kd.M (Kd.int .u8) _ _ _ ((a0 / 256)%256) [.int .u8 ((a0 / 256)%256)]from rfl) (bn.none _ _)))));intro Mk w5 JI hb Kj Kk;clear Kj Kk;(first|rw[←Kz.out]at JI|(simp only[Int.reduceToNat]at JI;rw[←Kz.out]at JI));have n_:=t2 (rL JI (aH pB)) (aK pB hb);clear HB;obtain⟨KW,HB⟩:=n_;clear hb JI)));go_ret;exact⟨_,pE,(pR KW),pB⟩
def qM.f (a0:Int):Option (List Int):=if 0≤a0 then(if a0≤70368744177664 then some []else none)else none
set_option maxHeartbeats 1000000 in
set_option maxRecDepth 100000 in
theorem qM.calls (a0:Int) (r:List Int) (w:World) (h:qM.f a0=some r):
 Calls Tryz.prog 164 #[.slice none 0 0,.int .i64 a0] w fun e w'=>∃Jm:Value,e= .returned (Jm)∧Kd.R (Kd.int .u8) 5 w' w.heap.size (fun _=>True) Jm r∧Below w.heap.size w w':=by
 unfold qM.f at h;by_cases h0:0≤a0
 ·rw[if_pos h0]at h;by_cases hl:a0≤70368744177664
  ·rw[if_pos hl]at h;obtain rfl:=sj h;clear h;by_cases hz:a0=0
   ·subst hz;go_enter Tryz.func164,Tryz.ntmps164;go_wp2;go_ret;exact⟨_,rfl,Kd.jQ _ _ _ _ _,Below.refl _ _⟩
   ·have hp:decide (0<wrap64 a0)=true:=dt (by unfold wrap64;omega);have hn:decide (a0<0)=false:=decide_eq_false (by omega);(have hw:wrap64 a0=a0:=by unfold wrap64;omega);have H0:=am (show 0≤wrap64 a0 by rw[hw];exact h0);have HL:=am (show wrap64 a0≤70368744177664 by rw[hw];exact hl);clear hw;clear hz hl h0;go_enter Tryz.func164,Tryz.ntmps164;(go_wp2_with (first|(at_builtin;refine Kd.Bc (Kd.int .u8) (w0:=w) w.heap.size rfl (.tmp 20) (.tmp 21) 123 3 5 (.int .u8 0) 1 rfl Tryz.underlying123 Tryz.underlying3 info5 rfl (by decide) (by omega) (.slice none 0 0) [] 0 (wrap64 a0) (fun _=>True) rfl rfl rfl (fun _ _=>trivial) (Kd.jQ _ _ _ _ _) H0.out (Below.refl _ _) (Nat.le_refl _) (by have:=HL.out;have:=H0.out;simp only[List.length_nil];omega) ?_;intro v1 w1 hR hB hg hat;(try clear hg hat);obtain⟨A1,c1,rfl⟩:=rS hR;have HR:=am hR;have HB:=am hB;clear hR hB)));go_ret;exact⟨_,rfl,by have:=Kd.Bp HR.out (m:=0) (by simp);simpa using this,HB.out⟩
  ·rw[if_neg hl]at h;exact absurd h (by simp)
 ·rw[if_neg h0]at h;exact absurd h (by simp)
mutual
def dw.l0:Nat→List (List Int)→Int→List (List Int)→Int→Int→Option (List Int)
 |0,_,_,_,_,_=>none
 |k+1,x0,x3,x9,x10,Jr=>if Jr<x10 then(if 0≤Jr then(if Jr<(x9.length:Int)then(if(wrap64 (x3+((kE x9 Jr).length:Int)))<0 then(none)else(dw.l0 k x0 (wrap64 (x3+((kE x9 Jr).length:Int))) x9 x10 (wrap64 (Jr+1))))else(none))else(none))else((qM.f x3).bind fun JO=>(dw.l1 k JO x0 (x0.length:Int) 0))
def dw.l1:Nat→List Int→List (List Int)→Int→Int→Option (List Int)
 |0,_,_,_,_=>none
 |k+1,x6,x25,KO,x27=>if x27<KO then(if 0≤x27 then(if x27<(x25.length:Int)then(if x6.length+(kE x25 x27).length<140737488355328 then(dw.l1 k (x6++(kE x25 x27)) x25 KO (wrap64 (x27+1)))else(none))else(none))else(none))else(some x6)
end
def dw.f (k:Nat) (l0:List (List Int)):Option (List Int):=dw.l0 k l0 0 l0 (l0.length:Int) 0
theorem dw.aW:∀k,(∀y0 y1 y2 y3 y4,aj (dw.l0 k y0 y1 y2 y3 y4) (dw.l0 (k+1) y0 y1 y2 y3 y4))∧(∀y0 y1 y2 y3,aj (dw.l1 k y0 y1 y2 y3) (dw.l1 (k+1) y0 y1 y2 y3))
 |0=>⟨fun _ _ _ _ _ r h=>by simp[dw.l0]at h,fun _ _ _ _ r h=>by simp[dw.l1]at h⟩
 |k+1=>by
  obtain⟨Jp,ih1⟩:=dw.aW k
  refine⟨?_,?_⟩
  ·intro y0 y1 y2 y3 y4
   unfold dw.l0
   repeat' with_reducible first|exact Jp _ _ _ _ _|exact ih1 _ _ _ _|exact aj.refl _|exact aj.none _|refine aj.ite ?_ ?_|refine aj.bind ?_ (fun _=>?_)
  ·intro y0 y1 y2 y3
   unfold dw.l1
   repeat' with_reducible first|exact Jp _ _ _ _ _|exact ih1 _ _ _ _|exact aj.refl _|exact aj.none _|refine aj.ite ?_ ?_|refine aj.bind ?_ (fun _=>?_)
theorem dw.mono:∀a0 k,aj (dw.f k a0) (dw.f (k+1) a0):=by
 intro a0 k;obtain⟨Jp,ih1⟩:=dw.aW k;unfold dw.f;repeat' with_reducible first|exact Jp _ _ _ _ _|exact ih1 _ _ _ _|exact aj.refl _|exact aj.none _|refine aj.ite ?_ ?_|refine aj.bind ?_ (fun _=>?_)
theorem dw.calls (k:Nat) (A0:Option Addr) (c0:Nat) (l0:List (List Int)) (r:List Int) (w:World) (hr0:Kd.C (Kd.slice 5 (Kd.int .u8)) w A0 l0.length l0) (hc0:l0.length≤c0) (h:dw.f k l0=some r):
 Calls Tryz.prog 157 #[.slice A0 l0.length c0] w fun e w'=>∃Jm:Value,e= .returned (Jm)∧Kd.R (Kd.int .u8) 5 w' w.heap.size (fun _=>True) Jm r∧Below w.heap.size w w':=by
 have JQ:=am hr0;have KU:=am hc0;clear hr0 hc0;have HB:=am (Below.refl w.heap.size w);have H:(dw.l0 k l0 0 l0 (l0.length:Int) 0)=some r:=h;clear h;have H':=am H;clear H;go_enter Tryz.func157,Tryz.ntmps157;go_wp2;go_loopg [3,11] k (fun kq v3 v11 w'=>∃(aP:Int) (mg:Int),v3= .int .i64 aP∧v11= .int .i64 mg∧ay (dw.l0 kq l0 aP l0 (l0.length:Int) mg=some r)∧ay (kq≤k)∧ay (Below w.heap.size w w'))
 case atStart=>exact⟨(0),(0),pF,pF,H',⟨Nat.le_refl _⟩,⟨pB⟩⟩
 case round=>
  clear H';obtain⟨aP,mg,rfl,rfl,HA,Jq,HB⟩:=hrel;cases gk with
  |zero=>exact absurd HA.out (by simp[dw.l0])
  |succ k1=>
   have H:=HA.out;clear HA;simp only[dw.l0]at H;by_cases c2:mg<(l0.length:Int)
   ·rw[if_pos c2]at H;have JU:decide (mg<(l0.length:Int))=true:=dt c2;clear c2;by_cases c3:0≤mg
    ·rw[if_pos c3]at H;have JV:decide (0≤mg)=true:=dt c3;clear c3;by_cases c4:mg<(l0.length:Int)
     ·rw[if_pos c4]at H;have JG:decide (mg<(l0.length:Int))=true:=dt c4;clear c4;by_cases c5:(wrap64 (aP+((kE l0 mg).length:Int)))<0
      ·rw[if_pos c5]at H;exact absurd H (by simp)
      ·rw[if_neg c5]at H;have Lp:decide ((wrap64 (aP+((kE l0 mg).length:Int)))<0)=false:=decide_eq_false c5;clear c5;have H':=am H;clear H;have Kl:0≤(mg:Int):=pD;have Ko:mg<(l0.length:Int):=pD;obtain⟨Mc,LV,Mf,Lx,KI,KG,KE⟩:=xR JQ.out mg Kl Ko;cases Lx;replace KI:=cb HB KI;have Ma:=am KE;have LY:=am KG;clear KE KG;replace Kl:=eq_true Kl;replace Ko:=eq_true Ko;go_wp2;go_roundg k1
       case measure=>have:=Jq.out;omega
       case rel=>exact⟨(wrap64 (aP+((kE l0 mg).length:Int))),(wrap64 (mg+1)),pF,pF,H',⟨by have:=Jq.out;omega⟩,⟨pB⟩⟩
     ·rw[if_neg c4]at H;exact absurd H (by simp)
    ·rw[if_neg c3]at H;exact absurd H (by simp)
   ·rw[if_neg c2]at H;have JU:decide (mg<(l0.length:Int))=false:=decide_eq_false c2;clear c2;replace H:=bO H;obtain⟨JO,Kv,H⟩:=H;replace H:(dw.l1 k1 JO l0 (l0.length:Int) 0)=some r:=H;have A6:=am Kv;clear Kv;have H':=am H;clear H;(go_wp2_with (first|((with_reducible refine gC (f:=164) rfl ?_);refine aV (some 24) rfl rfl Tryz.func164 (by kernel_rfl) rfl #[.slice none 0 0,.int .i64 aP] rfl pA ?_;(with_reducible refine(qM.calls aP JO _ A6.out).mono ?_);rintro e w7 ⟨Ml,rfl,ho0,hb⟩;refine⟨_,rfl,?_⟩;have n_:=t2 (rL ho0 (aH pB)) (aK pB hb);clear HB;obtain⟨KX,HB⟩:=n_;(try clear hb);(try clear ho0))));go_loopg [6,27] k1 (fun kq v6 v27 w'=>∃(JF:List Int) (Ah:Int),v27= .int .i64 Ah∧ay (dw.l1 kq JF l0 (l0.length:Int) Ah=some r)∧ay (kq≤k1)∧ay (Kd.R (Kd.int .u8) 5 w' w.heap.size (fun _=>True) v6 JF)∧ay (Below w.heap.size w w'))
    case atStart=>exact⟨(JO),(0),pF,H',⟨Nat.le_refl _⟩,⟨(pR KX)⟩,⟨pB⟩⟩
    case round=>
     clear H';(try clear c2);(try clear JU);obtain⟨JF,Ah,rfl,HA,Ju,JZ,HB⟩:=hrel;cases gk with
     |zero=>exact absurd HA.out (by simp[dw.l1])
     |succ k2=>
      have H:=HA.out;clear HA;simp only[dw.l1]at H;by_cases c8:Ah<(l0.length:Int)
      ·rw[if_pos c8]at H;have KD:decide (Ah<(l0.length:Int))=true:=dt c8;clear c8;by_cases c9:0≤Ah
       ·rw[if_pos c9]at H;have Lr:decide (0≤Ah)=true:=dt c9;clear c9;by_cases c10:Ah<(l0.length:Int)
        ·rw[if_pos c10]at H;have Lj:decide (Ah<(l0.length:Int))=true:=dt c10;clear c10;by_cases c11:JF.length+(kE l0 Ah).length<140737488355328
         ·rw[if_pos c11]at H;have Ld:=am c11;clear c11;obtain⟨KP,JL⟩:∃y_:List Int,y_=(JF++(kE l0 Ah)):=⟨_,rfl⟩;(replace H:(dw.l1 k2 KP l0 (l0.length:Int) (wrap64 (Ah+1)))=some r:=by first|(rw[JL];with_reducible exact H)|(have Ab:=(Option.bind_some _ _).symm.trans H;rw[JL];with_reducible exact Ab)|(have Ab:=(Option.bind_some _ _).symm.trans H;with_reducible exact Ab)|with_reducible exact H|(rw[JL];exact H)|exact H);have Lg:=am JL;clear JL;have H':=am H;clear H;have Km:0≤(Ah:Int):=pD;have Kq:Ah<(l0.length:Int):=pD;obtain⟨Md,LW,Mg,LA,KJ,KH,KF⟩:=xR JQ.out Ah Km Kq;cases LA;replace KJ:=cb HB KJ;have Lc:=am KF;have LZ:=am KH;clear KF KH;replace Km:=eq_true Km;replace Kq:=eq_true Kq;(go_wp2_with (first|((with_reducible refine gB (b:=.append) (xs:=#[.tmp 31,.tmp 32]) rfl ?_);at_builtin;refine Kd.mE (Kd.int .u8) (w0:=w) w.heap.size rfl (.tmp 31) (.tmp 32) 123 5 (.int .u8 0) 1 rfl Tryz.underlying123 info5 rfl (by decide) (by omega) u6 JF (kE l0 Ah) _ _ _ (fun _=>True) (fun _=>False) rfl rfl ?aO ?aR (fun _ _ h=>h) (fun _ h=>h.elim) ?aF ?aB ?aS ?aL ?_;(case aR=>exact pC (Kd.aY Lc.out HB.out));(case aB=>exact pB);(case aF=>exact(fun _ _=>trivial));(case aO=>exact(pR JZ));(case aS=>exact(aH pB));(case aL=>have:=Ld.out;omega);intro Mq MB ho hb hg hat;rw[←Lg.out]at ho;have n_:=t2 (hb) (ho);clear HB JZ;obtain⟨HB,KY⟩:=n_;clear ho hb hg hat)));go_roundg k2
          case measure=>have:=Jq.out;have:=Ju.out;omega
          case rel=>exact⟨(KP),(wrap64 (Ah+1)),pF,H',⟨by have:=Jq.out;have:=Ju.out;omega⟩,⟨(pR KY)⟩,⟨pB⟩⟩
         ·rw[if_neg c11]at H;exact absurd H (by simp)
        ·rw[if_neg c10]at H;exact absurd H (by simp)
       ·rw[if_neg c9]at H;exact absurd H (by simp)
      ·rw[if_neg c8]at H;have KD:decide (Ah<(l0.length:Int))=false:=decide_eq_false c8;clear c8;obtain rfl:=sj H;go_wp2;go_ret;exact⟨_,pE,(pR JZ),pB⟩
def pO.f (a0:Int):Option (List Int):=(iB.f (Int.tmod a0 65536)).bind fun Jl=>((iB.f (wrap64 (Int.tdiv a0 65536))).bind fun Jk=>(if Jl.length+Jk.length<140737488355328 then(some (Jl++Jk))else(none)))
theorem pO.calls (a0:Int) (r:List Int) (w:World) (h:pO.f a0=some r):
 Calls Tryz.prog 158 #[.int .i64 a0] w fun e w'=>∃Jm:Value,e= .returned (Jm)∧Kd.R (Kd.int .u8) 5 w' w.heap.size (fun _=>True) Jm r∧Below w.heap.size w w':=by
 have HB:=am (Below.refl w.heap.size w);have H:((iB.f (Int.tmod a0 65536)).bind fun Jl=>((iB.f (wrap64 (Int.tdiv a0 65536))).bind fun Jk=>(if Jl.length+Jk.length<140737488355328 then(some (Jl++Jk))else(none))))=some r:=h;clear h;replace H:=bO H;obtain⟨Jl,Jt,H⟩:=H;replace H:((iB.f (wrap64 (Int.tdiv a0 65536))).bind fun Jk=>(if Jl.length+Jk.length<140737488355328 then(some (Jl++Jk))else(none)))=some r:=H;have A2:=am Jt;clear Jt;replace H:=bO H;obtain⟨Jk,Ku,H⟩:=H;replace H:(if Jl.length+Jk.length<140737488355328 then(some (Jl++Jk))else(none))=some r:=H;have A3:=am Ku;clear Ku;by_cases c4:Jl.length+Jk.length<140737488355328
 ·rw[if_pos c4]at H;have Le:=am c4;clear c4;obtain⟨LU,JM⟩:∃y_:List Int,y_=(Jl++Jk):=⟨_,rfl⟩;(replace H:(some LU)=some r:=by first|(rw[JM];with_reducible exact H)|(have Ab:=(Option.bind_some _ _).symm.trans H;rw[JM];with_reducible exact Ab)|(have Ab:=(Option.bind_some _ _).symm.trans H;with_reducible exact Ab)|with_reducible exact H|(rw[JM];exact H)|exact H);have Lh:=am JM;clear JM;obtain rfl:=sj H;go_enter Tryz.func158,Tryz.ntmps158;(go_wp2_with (first|((with_reducible refine gC (f:=156) rfl ?_);refine aV (some 5) rfl rfl Tryz.func156 (by kernel_rfl) rfl #[.int .i64 (Int.tmod a0 65536)] rfl pA ?_;(with_reducible refine(iB.calls (Int.tmod a0 65536) Jl _ A2.out).mono ?_);rintro e w5 ⟨LM,rfl,ho0,hb⟩;refine⟨_,rfl,?_⟩;have n_:=t2 (rL ho0 (aH pB)) (aK pB hb);clear HB;obtain⟨JC,HB⟩:=n_;(try clear hb);(try clear ho0))|((with_reducible refine gC (f:=156) rfl ?_);refine aV (some 8) rfl rfl Tryz.func156 (by kernel_rfl) rfl #[.int .i64 (wrap64 (Int.tdiv a0 65536))] rfl pA ?_;(with_reducible refine(iB.calls (wrap64 (Int.tdiv a0 65536)) Jk _ A3.out).mono ?_);rintro e w6 ⟨Mr,rfl,ho0,hb⟩;refine⟨_,rfl,?_⟩;have n_:=t3 (rE (pR JC) (rB ho0) hb) (rL (rW ho0 (Kd.cO (pR JC))) (aH pB)) (aK pB hb);clear JC HB;obtain⟨JC,JD,HB⟩:=n_;(try clear hb);(try clear ho0);obtain⟨KT,Lv,LH⟩:=rS JD.out;subst LH)|((with_reducible refine gB (b:=.append) (xs:=#[.tmp 5,.tmp 8]) rfl ?_);at_builtin;refine Kd.mE (Kd.int .u8) (w0:=w) w.heap.size rfl (.tmp 5) (.tmp 8) 123 5 (.int .u8 0) 1 rfl Tryz.underlying123 info5 rfl (by decide) (by omega) LM Jl Jk _ _ _ (fun k_=>some k_≠(.slice KT Jk.length Lv:Value).ownBlock) (fun _=>False) rfl rfl ?aO ?aR (fun _ _ h=>h) (fun _ h=>h.elim) ?aF ?aB ?aS ?aL ?_;(case aR=>exact pC (rr JD.out).2.2);(case aB=>exact pB);(case aF=>exact(fun k_ hk=>Kd.fresh' (Kd.cO (pR JD)) k_ hk));(case aO=>exact(pT (Kd.bC JC.out (fun _ hk=>hk.2))));(case aS=>exact(aH pB));(case aL=>have:=Le.out;omega);intro Ms w7 ho hb hg hat;rw[←Lh.out]at ho;have n_:=t3 (Kd.iX (ok:=(fun _=>True)) (pR JD) hg hat) (hb) (ho);clear JD HB JC;obtain⟨JD,HB,KZ⟩:=n_;clear ho hb hg hat)));go_ret;exact⟨_,pE,(pT (Kd.bC KZ.out (fun _ hk=>trivial))),pB⟩
 ·rw[if_neg c4]at H;exact absurd H (by simp)
def eO.l0:Nat→List Int→List Int→Int→Int→Option (List Int)
 |0,_,_,_,_=>none
 |k+1,x3,x9,x10,Jr=>if Jr<x10 then(if 0≤Jr then(if Jr<(x9.length:Int)then((iB.f (rd x9 Jr)).bind fun Js=>(if x3.length+Js.length<140737488355328 then(eO.l0 k (x3++Js) x9 x10 (wrap64 (Jr+1)))else(none)))else(none))else(none))else(some x3)
def eO.f (k:Nat) (l0:List Int):Option (List Int):=(iB.f (l0.length:Int)).bind fun JB=>(eO.l0 k JB l0 (l0.length:Int) 0)
theorem eO.aW:∀k,(∀y0 y1 y2 y3,aj (eO.l0 k y0 y1 y2 y3) (eO.l0 (k+1) y0 y1 y2 y3))
 |0=>fun _ _ _ _ r h=>by simp[eO.l0]at h
 |k+1=>by
  have Jp:=eO.aW k
  ·intro y0 y1 y2 y3
   unfold eO.l0
   repeat' with_reducible first|exact Jp _ _ _ _|exact aj.refl _|exact aj.none _|refine aj.ite ?_ ?_|refine aj.bind ?_ (fun _=>?_)
theorem eO.mono:∀a0 k,aj (eO.f k a0) (eO.f (k+1) a0):=by
 intro a0 k;have Jp:=eO.aW k;unfold eO.f;repeat' with_reducible first|exact Jp _ _ _ _|exact aj.refl _|exact aj.none _|refine aj.ite ?_ ?_|refine aj.bind ?_ (fun _=>?_)
theorem eO.calls (k:Nat) (A0:Option Addr) (c0:Nat) (l0:List Int) (r:List Int) (w:World) (hr0:Kd.C (Kd.int .i64) w A0 l0.length l0) (hc0:l0.length≤c0) (h:eO.f k l0=some r):
 Calls Tryz.prog 159 #[.slice A0 l0.length c0] w fun e w'=>∃Jm:Value,e= .returned (Jm)∧Kd.R (Kd.int .u8) 5 w' w.heap.size (fun _=>True) Jm r∧Below w.heap.size w w':=by
 have JQ:=am hr0;have KU:=am hc0;clear hr0 hc0;have HB:=am (Below.refl w.heap.size w);have H:((iB.f (l0.length:Int)).bind fun JB=>(eO.l0 k JB l0 (l0.length:Int) 0))=some r:=h;clear h;replace H:=bO H;obtain⟨JB,Jt,H⟩:=H;replace H:(eO.l0 k JB l0 (l0.length:Int) 0)=some r:=H;have A2:=am Jt;clear Jt;have H':=am H;clear H;go_enter Tryz.func159,Tryz.ntmps159;go_wp2_with (first|((with_reducible refine gC (f:=156) rfl ?_);refine aV (some 8) rfl rfl Tryz.func156 (by kernel_rfl) rfl #[.int .i64 (l0.length:Int)] rfl pA ?_;(with_reducible refine(iB.calls (l0.length:Int) JB _ A2.out).mono ?_);rintro e w3 ⟨Mt,rfl,ho0,hb⟩;refine⟨_,rfl,?_⟩;have n_:=t2 (rL ho0 (aH pB)) (aK pB hb);clear HB;obtain⟨La,HB⟩:=n_;(try clear hb);(try clear ho0)))
 go_loopg [3,11] k (fun kq v3 v11 w'=>∃(aP:List Int) (mg:Int),v11= .int .i64 mg∧ay (eO.l0 kq aP l0 (l0.length:Int) mg=some r)∧ay (kq≤k)∧ay (Kd.R (Kd.int .u8) 5 w' w.heap.size (fun _=>True) v3 aP)∧ay (Below w.heap.size w w'))
 case atStart=>exact⟨(JB),(0),pF,H',⟨Nat.le_refl _⟩,⟨(pR La)⟩,⟨pB⟩⟩
 case round=>
  clear H';obtain⟨aP,mg,rfl,HA,Jq,aN,HB⟩:=hrel;cases gk with
  |zero=>exact absurd HA.out (by simp[eO.l0])
  |succ k1=>
   have H:=HA.out;clear HA;simp only[eO.l0]at H;by_cases c4:mg<(l0.length:Int)
   ·rw[if_pos c4]at H;have JG:decide (mg<(l0.length:Int))=true:=dt c4;clear c4;by_cases c5:0≤mg
    ·rw[if_pos c5]at H;have Lp:decide (0≤mg)=true:=dt c5;clear c5;by_cases c6:mg<(l0.length:Int)
     ·rw[if_pos c6]at H;have KC:decide (mg<(l0.length:Int))=true:=dt c6;clear c6;replace H:=bO H;obtain⟨Js,Kw,H⟩:=H;replace H:(if aP.length+Js.length<140737488355328 then(eO.l0 k1 (aP++Js) l0 (l0.length:Int) (wrap64 (mg+1)))else(none))=some r:=H;have A7:=am Kw;clear Kw;by_cases c8:aP.length+Js.length<140737488355328
      ·rw[if_pos c8]at H;have Lf:=am c8;clear c8;obtain⟨KQ,JN⟩:∃y_:List Int,y_=(aP++Js):=⟨_,rfl⟩;(replace H:(eO.l0 k1 KQ l0 (l0.length:Int) (wrap64 (mg+1)))=some r:=by first|(rw[JN];with_reducible exact H)|(have Ab:=(Option.bind_some _ _).symm.trans H;rw[JN];with_reducible exact Ab)|(have Ab:=(Option.bind_some _ _).symm.trans H;with_reducible exact Ab)|with_reducible exact H|(rw[JN];exact H)|exact H);have Li:=am JN;clear JN;have H':=am H;clear H;have Kn:0≤(mg:Int):=pD;have Kr:mg<(l0.length:Int):=pD;obtain⟨Me,LB,KL⟩:=Kd.eG JQ.out mg Kn Kr;cases LB;replace KL:=cb HB KL;replace Kn:=eq_true Kn;replace Kr:=eq_true Kr;(go_wp2_with (first|((with_reducible refine gC (f:=156) rfl ?_);refine aV (some 17) rfl rfl Tryz.func156 (by kernel_rfl) rfl #[.int .i64 (rd l0 mg)] rfl pA ?_;(with_reducible refine(iB.calls (rd l0 mg) Js _ A7.out).mono ?_);rintro e w9 ⟨Mv,rfl,ho0,hb⟩;refine⟨_,rfl,?_⟩;have n_:=t3 (rE (pR aN) (rB ho0) hb) (rL (rW ho0 (Kd.cO (pR aN))) (aH pB)) (aK pB hb);clear aN HB;obtain⟨aN,JE,HB⟩:=n_;(try clear hb);(try clear ho0);obtain⟨KR,Ls,LC⟩:=rS JE.out;subst LC)|((with_reducible refine gB (b:=.append) (xs:=#[.tmp 15,.tmp 17]) rfl ?_);at_builtin;refine Kd.mE (Kd.int .u8) (w0:=w) w.heap.size rfl (.tmp 15) (.tmp 17) 123 5 (.int .u8 0) 1 rfl Tryz.underlying123 info5 rfl (by decide) (by omega) u3 aP Js _ _ _ (fun k_=>some k_≠(.slice KR Js.length Ls:Value).ownBlock) (fun _=>False) rfl rfl ?aO ?aR (fun _ _ h=>h) (fun _ h=>h.elim) ?aF ?aB ?aS ?aL ?_;(case aR=>exact pC (rr JE.out).2.2);(case aB=>exact pB);(case aF=>exact(fun k_ hk=>Kd.fresh' (Kd.cO (pR JE)) k_ hk));(case aO=>exact(pT (Kd.bC aN.out (fun _ hk=>hk.2))));(case aS=>exact(aH pB));(case aL=>have:=Lf.out;omega);intro Mw Mx ho hb hg hat;rw[←Li.out]at ho;have n_:=t3 (Kd.iX (ok:=(fun _=>True)) (pR JE) hg hat) (hb) (ho);clear JE HB aN;obtain⟨JE,HB,Lb⟩:=n_;clear ho hb hg hat)));go_roundg k1
       case measure=>have:=Jq.out;omega
       case rel=>exact⟨(KQ),(wrap64 (mg+1)),pF,H',⟨by have:=Jq.out;omega⟩,⟨(pT (Kd.bC Lb.out (fun _ hk=>trivial)))⟩,⟨pB⟩⟩
      ·rw[if_neg c8]at H;exact absurd H (by simp)
     ·rw[if_neg c6]at H;exact absurd H (by simp)
    ·rw[if_neg c5]at H;exact absurd H (by simp)
   ·rw[if_neg c4]at H;have JG:decide (mg<(l0.length:Int))=false:=decide_eq_false c4;clear c4;obtain rfl:=sj H;go_wp2;go_ret;exact⟨_,pE,(pR aN),pB⟩
end Go.Proofs.YtjmdfghljlmfmaaGreat.QFnExactMineBlock
