-- written by this session's program (wip/tools/myprint.py)
import Derived.Test.YtjmdfghljlmfmaaGreatQFnExactMineBlockx0
import Derived.Test.YtjmdfghljlmfmaaGreatQFnExactMineBlockx4
-- squeezed
namespace Go.Proofs.YtjmdfghljlmfmaaGreat.QFnExactMineBlock
open Go.RowKit Go.Proofs.YtjmdfghljlmfmaaGreatW.PrintWords Go.Proofs.YtjmdfghljlmfmaaGreatW.PrintLast Go.Proofs.YtjmdfghljlmfmaaGreatW.PrintMore
attribute [local go_sem] iC iG iF iJ iE iI iD iH
set_option linter.unusedVariables false
set_option linter.unusedSimpArgs false
set_option maxHeartbeats 8000000
set_option maxRecDepth 100000
def dz.l0:Nat→List Int→List Int→Int→Option (List Int)
 |0,_,_,_=>none
 |k+1,x0,x3,x4=>if x4<(x0.length:Int)then(if 0≤x4 then((qj.f x0 x4).bind fun JA=>((kT.f k (rd x0 x4) JA).bind fun t182=>(if x3.length<17592186044416 then(dz.l0 k x0 (x3++[t182]) (wrap64 (x4+2)))else(none))))else(none))else(some x3)
def dz.f (k:Nat) (l0:List Int):Option (List Int):=dz.l0 k l0 (([]:List Int)) 0
theorem dz.aW:∀k,(∀y0 y1 y2,aj (dz.l0 k y0 y1 y2) (dz.l0 (k+1) y0 y1 y2))
 |0=>fun _ _ _ r h=>by simp[dz.l0]at h
 |k+1=>by
  have Jj:=dz.aW k
  ·intro y0 y1 y2
   unfold dz.l0
   repeat' with_reducible first|exact Jj _ _ _|exact kT.mono _ _ _|exact aj.refl _|exact aj.none _|refine aj.ite ?_ ?_|refine aj.bind ?_ (fun _=>?_)
theorem dz.mono:∀a0 k,aj (dz.f k a0) (dz.f (k+1) a0):=by
 intro a0 k;have Jj:=dz.aW k;unfold dz.f;repeat' with_reducible first|exact Jj _ _ _|exact kT.mono _ _ _|exact aj.refl _|exact aj.none _|refine aj.ite ?_ ?_|refine aj.bind ?_ (fun _=>?_)
def dz.T5:Bool×List (List Nat×List Nat):=(true,[([],[]),([],[]),([],[]),([1,2],[1,2]),([3],[3]),([],[]),([],[]),([5,6],[5,6]),([4,7,7],[4,7]),([8],[8]),([0,9,8],[0,9]),([10,10,0,1,2,3,4,5,6,7,8,9,10],[0,10])])
def dz.B5:List Nat:=[0,0,0,6,14,0,0,96,254,510,1023,2047]
theorem dz.oq:fT .any (opsOf Tryz.f126 5)=dz.T5:=by kernel_rfl
theorem dz.nS:jJ dz.T5.2 dz.B5=true:=by kernel_rfl
theorem dz.calls (k:Nat) (A0:Option Addr) (c0:Nat) (l0:List Int) (r:List Int) (w:World) (hr0:Kd.C (Kd.int .i64) w A0 l0.length l0) (hc0:l0.length≤c0) (h:dz.f k l0=some r):
 Calls Tryz.prog 126 #[.slice A0 l0.length c0] w fun e w'=>∃Jk:Value,e= .returned (Jk)∧Kd.R (Kd.int .i64) 2 w' w.heap.size (fun _=>True) Jk r∧Below w.heap.size w w':=by
 have JQ:=am hr0;have Kn:=am hc0;clear hr0 hc0;have HB:=am (Below.refl w.heap.size w);have H:(dz.l0 k l0 (([]:List Int)) 0)=some r:=h;clear h;obtain⟨Kz,JI⟩:∃y_:List Int,y_=(([]:List Int)):=⟨_,rfl⟩;replace H:(dz.l0 k l0 Kz 0)=some r:=by first|(rw[JI];with_reducible exact H)|(have Ag:=(Option.bind_some _ _).symm.trans H;rw[JI];with_reducible exact Ag)|(have Ag:=(Option.bind_some _ _).symm.trans H;with_reducible exact Ag)|with_reducible exact H|(rw[JI];exact H)|exact H
 have Ko:=am JI;clear JI;have H':=am H;clear H;go_enter Tryz.func126,Tryz.ntmps126;go_wp2_with (first|((with_reducible refine bg (N:=5) rfl ?_);refine Kd.jP (Kd.int .i64) _ 2 ?hg (N:=5) ?hd (xs:=([]:List Int)) (inner:=[]) (ok:=fun _=>True) (bH:=fun _=>True) ?hr ?hp (fun _ hk=>hk) trivial (Below.refl _ _) (Nat.le_refl _) (by simp) ?_;(case hd=>rfl);(case hg=>rfl);(case hr=>first|(go_simp;done)|(go_simp;rfl));(case hp=>exact(bn.none _ _));intro Lv w2 ho3 hb JD JF;clear JD JF;(first|rw[←Ko.out]at ho3|(simp only[Int.reduceToNat]at ho3;rw[←Ko.out]at ho3));have n_:=t2 (rL ho3 (aH pB)) (aK pB hb);clear HB;obtain⟨KH,HB⟩:=n_;clear hb ho3))
 go_loopg [3,4] k (fun kq v3 v4 w'=>∃(mg:List Int) (wm:Int),v4= .int .i64 wm∧ay (dz.l0 kq l0 mg wm=some r)∧ay (kq≤k)∧ay (Kd.R (Kd.int .i64) 2 w' w.heap.size (fun _=>True) v3 mg)∧ay (Below w.heap.size w w'))
 case atStart=>exact⟨(Kz),(0),pF,H',⟨Nat.le_refl _⟩,⟨(pR KH)⟩,⟨pB⟩⟩
 case round=>
  clear H';obtain⟨mg,wm,rfl,HA,Jl,aN,HB⟩:=hrel;cases gk with
  |zero=>exact absurd HA.out (by simp[dz.l0])
  |succ k1=>
   have H:=HA.out;clear HA;simp only[dz.l0]at H;by_cases c4:wm<(l0.length:Int)
   ·rw[if_pos c4]at H;have Jy:decide (wm<(l0.length:Int))=true:=dt c4;clear c4;by_cases c5:0≤wm
    ·rw[if_pos c5]at H;have Kv:decide (0≤wm)=true:=dt c5;clear c5;replace H:=bO H;obtain⟨JA,JC,H⟩:=H;replace H:((kT.f k1 (rd l0 wm) JA).bind fun t182=>(if mg.length<17592186044416 then(dz.l0 k1 l0 (mg++[t182]) (wrap64 (wm+2)))else(none)))=some r:=H;have A6:=am JC;clear JC;replace H:=bO H;obtain⟨t182,Km,H⟩:=H;replace H:(if mg.length<17592186044416 then(dz.l0 k1 l0 (mg++[t182]) (wrap64 (wm+2)))else(none))=some r:=H;have A7:=am Km;clear Km;by_cases c8:mg.length<17592186044416
     ·rw[if_pos c8]at H;have KR:=am c8;clear c8;obtain⟨KA,JJ⟩:∃y_:List Int,y_=(mg++[t182]):=⟨_,rfl⟩;(replace H:(dz.l0 k1 l0 KA (wrap64 (wm+2)))=some r:=by first|(rw[JJ];with_reducible exact H)|(have Ag:=(Option.bind_some _ _).symm.trans H;rw[JJ];with_reducible exact Ag)|(have Ag:=(Option.bind_some _ _).symm.trans H;with_reducible exact Ag)|with_reducible exact H|(rw[JJ];exact H)|exact H);have KS:=am JJ;clear JJ;have H':=am H;clear H;(try go_wp2);have n_:=t2 (Kd.jA aN.out) (gH HB.out);clear aN HB;obtain⟨aN,HB⟩:=n_;have Ke:0≤(wm:Int):=pD;have Kh:wm<(l0.length:Int):=pD;obtain⟨Kt,La,JV⟩:=Kd.eG JQ.out wm Ke Kh;have Jz:=JV;cases La;replace JV:=cb HB JV;replace Ke:=eq_true Ke;replace Kh:=eq_true Kh;refine iU (n:=12) (S:=fun w'=>w'.cell? (Kt.add (wm).toNat)=some (.int .i64 (rd l0 wm))) (ds:=[]) #[false,false,false,false,false,false,false,false,false,false,false,false] (by kernel_rfl) rfl rfl ((cb HB Jz)) (fun hHeld=>?_);refine jK dz.oq dz.nS (fun bG jC=>?_);generalize wr.drew=w9 at aN HB JV hHeld ⊢;refine rQ 0 12 ?_;refine rQ 1 13 ?_;refine rQ 2 14 ?_;refine rQ 3 15 ?_;refine rQ 5 17 ?_;refine rQ 6 18 ?_;refine rV 4 16 ?_;refine bR (i:=7) (N:=some 19) #[true,true,true,true,true,true,true,true,false,false,false,false] rfl rfl (dn bG.out (by kernel_rfl)) (by decide) (fun K hK=>?_);refine dK Tryz.func150 (by kernel_rfl) rfl #[.slice (some Kt) l0.length c0,.int .i64 wm] (by rfl) rfl rfl pA ?_;(with_reducible refine(qj.calls _ _ l0 wm JA _ ?Jr ?Js A6.out).mono ?_);(case Jr=>exact pC (Kd.aY JQ.out HB.out));(case Js=>exact Kn.out);rintro e w' ⟨rfl,⟨nd,rfl⟩⟩;refine⟨_,rfl,?_⟩;refine hK.out _ _ ((cb HB Jz)) (fun hHeld=>?_);clear hK K;refine rN ?_;refine bR (i:=8) (N:=some 20) #[true,true,true,true,true,true,true,true,true,false,false,false] rfl rfl (dn bG.out (by kernel_rfl)) (by decide) (fun K hK=>?_);refine dK Tryz.func149 (by kernel_rfl) rfl #[.int .i64 (rd l0 wm),.int .i64 JA] (by rfl) rfl rfl pA ?_;(with_reducible refine(kT.calls k1 (rd l0 wm) JA t182 _ A7.out).mono ?_);rintro e LJ ⟨rfl,hb⟩;refine⟨_,rfl,?_⟩;have n_:=t2 (Kd.dW (pR aN) hb) (aK pB hb);clear aN HB;obtain⟨aN,HB⟩:=n_;(try clear hb);(try clear hb2);(try clear hk);(try clear hi);refine hK.out _ _ ((cb HB Jz)) (fun hHeld=>?_);clear hK K;refine rN ?_;refine bR (i:=9) (N:=some 21) #[true,true,true,true,true,true,true,true,true,true,false,false] rfl rfl (dn bG.out (by kernel_rfl)) (by decide) (fun K hK=>?_);refine vo (w1:=?_) (v:=?_) (by rfl) rfl ?_ ?_;rotate_left 2
      ·go_simp;constructor
       ·rfl
       ·rfl
      refine hK.out _ _ ((World.cell?_alloc_lt _ _ _ (World.block_lt_of_cell? _ _ ((cb HB Jz)))).trans ((cb HB Jz))) (fun hHeld=>?_);clear hK K;refine rN ?_;refine bR (i:=10) (N:=some 22) #[true,true,true,true,true,true,true,true,true,true,true,false] rfl rfl (dn bG.out (by kernel_rfl)) (by decide) (fun K hK=>?_);refine Kd.vE (Kd.int .i64) (w0:=w) w.heap.size (by rfl) (.tmp 12) (.tmp 21) 73 2 (.int .i64 0) 8 rfl Tryz.underlying73 qH rfl (by decide) (by omega) u3 mg t182 [.int .i64 t182] (fun _=>True) (fun _=>False) rfl rfl ?aP (fun _ hk=>hk.elim) ?aF ?aO ?aB ?aS ?aL ?_;(case aP=>exact rfl);(case aB=>exact pB);(case aF=>exact(fun _ _=>trivial));(case aO=>exact(pR aN));(case aS=>exact(aH pB));(case aL=>have:=KR.out;omega);intro Lx Kj ho hb hg hat;rw[←KS.out]at ho;have n_:=t2 (hb) (ho);clear HB aN;obtain⟨HB,KI⟩:=n_;clear ho hb hg hat;refine hK.out _ _ ((cb HB Jz)) (fun hHeld=>?_);clear hK K;refine rN ?_;refine rQ 11 3 ?_;refine iP (jG bG.out (by kernel_rfl)) ?_;(try go_wp2);go_roundg k1
      case measure=>have:=Jl.out;omega
      case rel=>exact⟨(KA),(wrap64 (wm+2)),pF,H',⟨by have:=Jl.out;omega⟩,⟨(pR KI)⟩,⟨pB⟩⟩
     ·rw[if_neg c8]at H;exact absurd H (by simp)
    ·rw[if_neg c5]at H;exact absurd H (by simp)
   ·rw[if_neg c4]at H;have Jy:decide (wm<(l0.length:Int))=false:=decide_eq_false c4;clear c4;obtain rfl:=sj H;go_wp2;go_ret;exact⟨_,pE,(pR aN),pB⟩
mutual
def dA.l0:Nat→List Int→Option (Bool)
 |0,_=>none
 |k+1,x3=>if(x3.length:Int)>1 then(dA.l1 k x3 0)else(some false)
def dA.l1:Nat→List Int→Int→Option (Bool)
 |0,_,_=>none
 |k+1,x3,x4=>if(wrap64 (x4+1))<(x3.length:Int)then(if 0≤x4 then(if x4<(x3.length:Int)then(if 0≤(wrap64 (x4+1))then(if(rd x3 x4)=(rd x3 (wrap64 (x4+1)))then(some true)else(dA.l1 k x3 (wrap64 (x4+2))))else(none))else(none))else(none))else((dz.f k x3).bind fun Jt=>(dA.l0 k Jt))
end
def dA.f (k:Nat) (l0:List Int):Option (Bool):=dA.l0 k l0
theorem dA.aW:∀k,(∀y0,aj (dA.l0 k y0) (dA.l0 (k+1) y0))∧(∀y0 y1,aj (dA.l1 k y0 y1) (dA.l1 (k+1) y0 y1))
 |0=>⟨fun _ r h=>by simp[dA.l0]at h,fun _ _ r h=>by simp[dA.l1]at h⟩
 |k+1=>by
  obtain⟨Jj,ih1⟩:=dA.aW k
  refine⟨?_,?_⟩
  ·intro y0
   unfold dA.l0
   repeat' with_reducible first|exact Jj _|exact ih1 _ _|exact dz.mono _ _|exact aj.refl _|exact aj.none _|refine aj.ite ?_ ?_|refine aj.bind ?_ (fun _=>?_)
  ·intro y0 y1
   unfold dA.l1
   repeat' with_reducible first|exact Jj _|exact ih1 _ _|exact dz.mono _ _|exact aj.refl _|exact aj.none _|refine aj.ite ?_ ?_|refine aj.bind ?_ (fun _=>?_)
theorem dA.mono:∀a0 k,aj (dA.f k a0) (dA.f (k+1) a0):=by
 intro a0 k;obtain⟨Jj,ih1⟩:=dA.aW k;unfold dA.f;repeat' with_reducible first|exact Jj _|exact ih1 _ _|exact dz.mono _ _|exact aj.refl _|exact aj.none _|refine aj.ite ?_ ?_|refine aj.bind ?_ (fun _=>?_)
theorem dA.calls (k:Nat) (JR:Nat→Prop) (A0:Option Addr) (c0:Nat) (l0:List Int) (r:Bool) (w:World) (hs0:Kd.V (Kd.int .i64) 2 w w.heap.size (fun k_=>JR k_) (.slice A0 l0.length c0) l0) (h:dA.f k l0=some r):
 Calls Tryz.prog 79 #[.slice A0 l0.length c0] w fun e w'=>e= .returned (.bool r)∧Below w.heap.size w w':=by
 have KG:=am (show Kd.V (Kd.int .i64) 2 w w.heap.size (fun k_=>(JR k_∨w.heap.size≤k_)) (.slice A0 l0.length c0) l0 from Kd.oU hs0 (fun k_ hk=>.inl hk));have HB:=am (Below.refl w.heap.size w);have H:(dA.l0 k l0)=some r:=h;clear h;have H':=am H;clear H;go_enter Tryz.func79,Tryz.ntmps79;go_wp2;repeat(go_quiet (fail);try go_wp2)
 go_loopg [3] k (fun kq v3 w'=>∃(mg:List Int),ay (dA.l0 kq mg=some r)∧ay (kq≤k)∧ay (Kd.V (Kd.int .i64) 2 w' w.heap.size (fun k_=>(JR k_∨w.heap.size≤k_)) v3 mg)∧ay (Below w.heap.size w w'))
 case atStart=>exact⟨(l0),H',⟨Nat.le_refl _⟩,⟨by(with_reducible repeat(first|apply Kd.nP|apply Kd.nR|apply Kd.nQ));exact KG.out⟩,⟨pB⟩⟩
 case round=>
  clear H';obtain⟨mg,HA,Jl,aN,HB⟩:=hrel;cases gk with
  |zero=>exact absurd HA.out (by simp[dA.l0])
  |succ k1=>
   have H:=HA.out;clear HA;simp only[dA.l0]at H;by_cases c2:(mg.length:Int)>1
   ·rw[if_pos c2]at H;have JU:decide (1<(mg.length:Int))=true:=dt c2;have Ku:decide (1<mg.length)=true:=dt (by omega);clear c2;have H':=am H;clear H;obtain⟨KE,KY,Ld⟩:=Kd.oV aN.out;subst Ld;go_wp2;(repeat(go_quiet (fail);try go_wp2));go_loopg [4] k1 (fun kq v4 w'=>∃(Ab:Int),v4= .int .i64 Ab∧ay (dA.l1 kq mg Ab=some r)∧ay (kq≤k1)∧ay (Kd.V (Kd.int .i64) 2 w' w.heap.size (fun k_=>(JR k_∨w.heap.size≤k_)) (.slice KE mg.length KY) mg)∧ay (Below w.heap.size w w'))
    case atStart=>exact⟨(0),pF,H',⟨Nat.le_refl _⟩,⟨by(with_reducible repeat(first|apply Kd.nP|apply Kd.nR|apply Kd.nQ));exact aN.out⟩,⟨pB⟩⟩
    case round=>
     clear H';(try clear c2);(try clear JU);(try clear Ku);obtain⟨Ab,rfl,HA,JO,aN,HB⟩:=hrel;cases gk with
     |zero=>exact absurd HA.out (by simp[dA.l1])
     |succ k2=>
      have H:=HA.out;clear HA;simp only[dA.l1]at H;by_cases c4:(wrap64 (Ab+1))<(mg.length:Int)
      ·rw[if_pos c4]at H;have Jy:decide ((wrap64 (Ab+1))<(mg.length:Int))=true:=dt c4;clear c4;by_cases c5:0≤Ab
       ·rw[if_pos c5]at H;have Kv:decide (0≤Ab)=true:=dt c5;clear c5;by_cases c6:Ab<(mg.length:Int)
        ·rw[if_pos c6]at H;have Lp:decide (Ab<(mg.length:Int))=true:=dt c6;clear c6;obtain⟨Ah,JE⟩:∃j_:Int,(wrap64 (Ab+1))=j_:=⟨_,rfl⟩;(replace H:(if 0≤(Ah)then(if(rd mg Ab)=(rd mg (Ah))then(some true)else(dA.l1 k2 mg (wrap64 (Ab+2))))else(none))=some r:=by first|(rw[JE]at H;exact H)|(simp only[JE]at H ⊢;exact H));(try rw[JE]at Jy);have Lu:(IntKind.i64.wrap (Ab+1))=Ah:=(jg _).trans JE;by_cases c8:0≤(Ah)
         ·rw[if_pos c8]at H;have Lr:decide (0≤(Ah))=true:=dt c8;clear c8;by_cases c9:(rd mg Ab)=(rd mg (Ah))
          ·rw[if_pos c9]at H;have KV:((rd mg Ab)==(rd mg (Ah)))=true:=beq_iff_eq.mpr c9;have KW:((rd mg Ab) != (rd mg (Ah)))=false:=bne_eq_false_iff_eq.mpr c9;clear c9;obtain rfl:=sj H;have Jm:0≤(Ab:Int):=pD;have Jp:Ab<(mg.length:Int):=pD;obtain⟨JY,Ka,Lf⟩:=Kd.eG (Kd.eZ aN.out).2.2 Ab Jm Jp;cases Ka;replace Jm:=eq_true Jm;replace Jp:=eq_true Jp;have Jo:0≤((Ah):Int):=pD;have Jq:(Ah)<(mg.length:Int):=pD;obtain⟨JZ,e187,Lg⟩:=Kd.eG (Kd.eZ aN.out).2.2 (Ah) Jo Jq;obtain rfl:JY=JZ:=(by injection e187);replace Jo:=eq_true Jo;replace Jq:=eq_true Jq;go_wp2;(repeat(go_quiet (fail);try go_wp2));go_ret;exact⟨by first|rfl|(simp[pq,pz]<;>rfl)|(simp only[←JE];first|rfl|(simp[pq,pz]<;>rfl))|(simp[*,pq,pz]<;>rfl),pB⟩
          ·rw[if_neg c9]at H;have KV:((rd mg Ab)==(rd mg (Ah)))=false:=beq_eq_false_iff_ne.mpr c9;have KW:((rd mg Ab) != (rd mg (Ah)))=true:=bne_iff_ne.mpr c9;have H':=am H;clear H;have Jm:0≤(Ab:Int):=pD;have Jp:Ab<(mg.length:Int):=pD;obtain⟨JY,Ka,Lf⟩:=Kd.eG (Kd.eZ aN.out).2.2 Ab Jm Jp;cases Ka;replace Jm:=eq_true Jm;replace Jp:=eq_true Jp;have Jo:0≤((Ah):Int):=pD;have Jq:(Ah)<(mg.length:Int):=pD;obtain⟨JZ,e187,Lg⟩:=Kd.eG (Kd.eZ aN.out).2.2 (Ah) Jo Jq;obtain rfl:JY=JZ:=(by injection e187);replace Jo:=eq_true Jo;replace Jq:=eq_true Jq;go_wp2;(repeat(go_quiet (fail);try go_wp2));go_roundg k2
           case measure=>have:=Jl.out;have:=JO.out;omega
           case rel=>exact⟨(wrap64 (Ab+2)),pF,H',⟨by have:=Jl.out;have:=JO.out;omega⟩,⟨by(with_reducible repeat(first|apply Kd.nP|apply Kd.nR|apply Kd.nQ));exact aN.out⟩,⟨pB⟩⟩
         ·rw[if_neg c8]at H;exact absurd H (by simp)
        ·rw[if_neg c6]at H;exact absurd H (by simp)
       ·rw[if_neg c5]at H;exact absurd H (by simp)
      ·rw[if_neg c4]at H;have Jy:decide ((wrap64 (Ab+1))<(mg.length:Int))=false:=decide_eq_false c4;clear c4;replace H:=bO H;obtain⟨Jt,Kk,H⟩:=H;replace H:(dA.l0 k2 Jt)=some r:=H;have JW:=am Kk;clear Kk;have H':=am H;clear H;(go_wp2_with (first|(go_at_call 126;(with_reducible refine(dz.calls k2 _ _ mg Jt _ ?Jr ?Js JW.out).mono ?_);(case Jr=>exact pC (Kd.eZ aN.out).2.2);(case Js=>exact(Kd.eZ aN.out).2.1);rintro e Kj ⟨Ky,rfl,ho0,hb⟩;have n_:=t3 (Kd.oQ qQ (rB ho0) hb) (rL (Kd.oO (M:=fun k_=>(w.heap.size≤k_)) ho0 (aH pB) (fun k_ h_=>h_)) (aH pB)) (aK pB hb);clear aN HB;obtain⟨aN,JX,HB⟩:=n_;(try clear hb);(try clear ho0))));(repeat(go_quiet (first|(go_at_call 126;(with_reducible refine(dz.calls k2 _ _ mg Jt _ ?Jr ?Js JW.out).mono ?_);(case Jr=>exact pC (Kd.eZ aN.out).2.2);(case Js=>exact(Kd.eZ aN.out).2.1);rintro e Kj ⟨Ky,rfl,ho0,hb⟩;have n_:=t3 (Kd.oQ qQ (rB ho0) hb) (rL (Kd.oO (M:=fun k_=>(w.heap.size≤k_)) ho0 (aH pB) (fun k_ h_=>h_)) (aH pB)) (aK pB hb);clear aN HB;obtain⟨aN,JX,HB⟩:=n_;(try clear hb);(try clear ho0)));try go_wp2_with (first|(go_at_call 126;(with_reducible refine(dz.calls k2 _ _ mg Jt _ ?Jr ?Js JW.out).mono ?_);(case Jr=>exact pC (Kd.eZ aN.out).2.2);(case Js=>exact(Kd.eZ aN.out).2.1);rintro e Kj ⟨Ky,rfl,ho0,hb⟩;have n_:=t3 (Kd.oQ qQ (rB ho0) hb) (rL (Kd.oO (M:=fun k_=>(w.heap.size≤k_)) ho0 (aH pB) (fun k_ h_=>h_)) (aH pB)) (aK pB hb);clear aN HB;obtain⟨aN,JX,HB⟩:=n_;(try clear hb);(try clear ho0)))));go_roundg k2
       case measure=>have:=Jl.out;have:=JO.out;omega
       case rel=>exact⟨(Jt),H',⟨by have:=Jl.out;have:=JO.out;omega⟩,⟨Kd.oU (Kd.nL (pT (Kd.bC JX.out (fun _ hk=>hk.1)))) (fun k_ hk=>by first|exact⟨(.inr (hk.1)),hk.2⟩|exact(.inr (hk)))⟩,⟨pB⟩⟩
   ·rw[if_neg c2]at H;have JU:decide (1<(mg.length:Int))=false:=decide_eq_false c2;have Ku:decide (1<mg.length)=false:=decide_eq_false (by omega);clear c2;obtain rfl:=sj H;obtain⟨Ll,Ls,Lc⟩:=Kd.oV aN.out;subst Lc;go_wp2;(repeat(go_quiet (fail);try go_wp2));go_ret;exact⟨pE,pB⟩
def iq.f (a0:Int):Option (List Int):=if a0<253 then(some (([(a0)%256]:List Int)))else(some (([253,(Int.tmod a0 256)%256,(wrap64 (Int.tdiv a0 256))%256]:List Int)))
theorem iq.calls (a0:Int) (r:List Int) (w:World) (h:iq.f a0=some r):
 Calls Tryz.prog 138 #[.int .i64 a0] w fun e w'=>∃Jk:Value,e= .returned (Jk)∧Kd.R (Kd.int .u8) 5 w' w.heap.size (fun _=>True) Jk r∧Below w.heap.size w w':=by
 have HB:=am (Below.refl w.heap.size w);have H:(if a0<253 then(some (([(a0)%256]:List Int)))else(some (([253,(Int.tmod a0 256)%256,(wrap64 (Int.tdiv a0 256))%256]:List Int))))=some r:=h;clear h;by_cases c2:a0<253
 ·rw[if_pos c2]at H;have JU:decide (a0<253)=true:=dt c2;clear c2;obtain⟨Lh,JK⟩:∃y_:List Int,y_=(([(a0)%256]:List Int)):=⟨_,rfl⟩;(replace H:(some Lh)=some r:=by first|(rw[JK];with_reducible exact H)|(have Ag:=(Option.bind_some _ _).symm.trans H;rw[JK];with_reducible exact Ag)|(have Ag:=(Option.bind_some _ _).symm.trans H;with_reducible exact Ag)|with_reducible exact H|(rw[JK];exact H)|exact H);have Kq:=am JK;clear JK;obtain rfl:=sj H;go_enter Tryz.func138,Tryz.ntmps138;(go_wp2_with (first|((with_reducible refine bg (N:=7) rfl ?_);refine Kd.jP (Kd.int .u8) _ 5 ?hg (N:=7) ?hd (xs:=([(a0)%256]:List Int)) (inner:=[.int .u8 ((a0)%256)]) (ok:=fun _=>True) (bH:=fun _=>True) ?hr ?hp (fun _ hk=>hk) trivial (Below.refl _ _) (Nat.le_refl _) (by simp) ?_;(case hd=>rfl);(case hg=>rfl);(case hr=>first|(go_simp;done)|(go_simp;rfl));(case hp=>exact(bn.one (show Kd.M (Kd.int .u8) _ _ _ ((a0)%256) [.int .u8 ((a0)%256)]from rfl) (bn.none _ _)));intro LA w3 JG hb JD JF;clear JD JF;(first|rw[←Kq.out]at JG|(simp only[Int.reduceToNat]at JG;rw[←Kq.out]at JG));have n_:=t2 (rL JG (aH pB)) (aK pB hb);clear HB;obtain⟨KJ,HB⟩:=n_;clear hb JG)));go_ret;exact⟨_,pE,(pR KJ),pB⟩
 ·rw[if_neg c2]at H;have JU:decide (a0<253)=false:=decide_eq_false c2;clear c2;obtain⟨Li,JL⟩:∃y_:List Int,y_=(([253,(Int.tmod a0 256)%256,(wrap64 (Int.tdiv a0 256))%256]:List Int)):=⟨_,rfl⟩;(replace H:(some Li)=some r:=by first|(rw[JL];with_reducible exact H)|(have Ag:=(Option.bind_some _ _).symm.trans H;rw[JL];with_reducible exact Ag)|(have Ag:=(Option.bind_some _ _).symm.trans H;with_reducible exact Ag)|with_reducible exact H|(rw[JL];exact H)|exact H);have Kr:=am JL;clear JL;obtain rfl:=sj H;go_enter Tryz.func138,Tryz.ntmps138;(go_wp2_with (first|((with_reducible refine bg (N:=14) rfl ?_);refine Kd.jP (Kd.int .u8) _ 5 ?hg (N:=14) ?hd (xs:=([253,(Int.tmod a0 256)%256,(wrap64 (Int.tdiv a0 256))%256]:List Int)) (inner:=[.int .u8 253,.int .u8 ((Int.tmod a0 256)%256),.int .u8 ((wrap64 (Int.tdiv a0 256))%256)]) (ok:=fun _=>True) (bH:=fun _=>True) ?hr ?hp (fun _ hk=>hk) trivial (Below.refl _ _) (Nat.le_refl _) (by simp) ?_;(case hd=>rfl);(case hg=>rfl);(case hr=>first|(go_simp;done)|(go_simp;rfl));(case hp=>exact(bn.one (show Kd.M (Kd.int .u8) _ _ _ 253 [.int .u8 253]from rfl) (bn.one (show Kd.M (Kd.int .u8) _ _ _ ((Int.tmod a0 256)%256) [.int .u8 ((Int.tmod a0 256)%256)]from rfl) (bn.one (show Kd.M (Kd.int .u8) _ _ _ ((wrap64 (Int.tdiv a0 256))%256) [.int .u8 ((wrap64 (Int.tdiv a0 256))%256)]from rfl) (bn.none _ _)))));intro LB w5 JH hb JD JF;clear JD JF;(first|rw[←Kr.out]at JH|(simp only[Int.reduceToNat]at JH;rw[←Kr.out]at JH));have n_:=t2 (rL JH (aH pB)) (aK pB hb);clear HB;obtain⟨KL,HB⟩:=n_;clear hb JH)));go_ret;exact⟨_,pE,(pR KL),pB⟩
def oK.f (a0:Int):Option (List Int):=(iq.f (Int.tmod a0 65536)).bind fun Az=>((iq.f (wrap64 (Int.tdiv a0 65536))).bind fun Ay=>(if Az.length+Ay.length<140737488355328 then(some (Az++Ay))else(none)))
theorem oK.calls (a0:Int) (r:List Int) (w:World) (h:oK.f a0=some r):
 Calls Tryz.prog 139 #[.int .i64 a0] w fun e w'=>∃Jk:Value,e= .returned (Jk)∧Kd.R (Kd.int .u8) 5 w' w.heap.size (fun _=>True) Jk r∧Below w.heap.size w w':=by
 have HB:=am (Below.refl w.heap.size w);have H:((iq.f (Int.tmod a0 65536)).bind fun Az=>((iq.f (wrap64 (Int.tdiv a0 65536))).bind fun Ay=>(if Az.length+Ay.length<140737488355328 then(some (Az++Ay))else(none))))=some r:=h;clear h;replace H:=bO H;obtain⟨Az,JB,H⟩:=H;replace H:((iq.f (wrap64 (Int.tdiv a0 65536))).bind fun Ay=>(if Az.length+Ay.length<140737488355328 then(some (Az++Ay))else(none)))=some r:=H;have A2:=am JB;clear JB;replace H:=bO H;obtain⟨Ay,Kl,H⟩:=H;replace H:(if Az.length+Ay.length<140737488355328 then(some (Az++Ay))else(none))=some r:=H;have A3:=am Kl;clear Kl;by_cases c4:Az.length+Ay.length<140737488355328
 ·rw[if_pos c4]at H;have KP:=am c4;clear c4;obtain⟨Lj,JM⟩:∃y_:List Int,y_=(Az++Ay):=⟨_,rfl⟩;(replace H:(some Lj)=some r:=by first|(rw[JM];with_reducible exact H)|(have Ag:=(Option.bind_some _ _).symm.trans H;rw[JM];with_reducible exact Ag)|(have Ag:=(Option.bind_some _ _).symm.trans H;with_reducible exact Ag)|with_reducible exact H|(rw[JM];exact H)|exact H);have KT:=am JM;clear JM;obtain rfl:=sj H;go_enter Tryz.func139,Tryz.ntmps139;(go_wp2_with (first|((with_reducible refine gC (f:=138) rfl ?_);refine aV (some 5) rfl rfl Tryz.func138 (by kernel_rfl) rfl #[.int .i64 (Int.tmod a0 65536)] rfl pA ?_;(with_reducible refine(iq.calls (Int.tmod a0 65536) Az _ A2.out).mono ?_);rintro e w5 ⟨v198,rfl,ho0,hb⟩;refine⟨_,rfl,?_⟩;have n_:=t2 (rL ho0 (aH pB)) (aK pB hb);clear HB;obtain⟨Ju,HB⟩:=n_;(try clear hb);(try clear ho0))|((with_reducible refine gC (f:=138) rfl ?_);refine aV (some 8) rfl rfl Tryz.func138 (by kernel_rfl) rfl #[.int .i64 (wrap64 (Int.tdiv a0 65536))] rfl pA ?_;(with_reducible refine(iq.calls (wrap64 (Int.tdiv a0 65536)) Ay _ A3.out).mono ?_);rintro e w6 ⟨v201,rfl,ho0,hb⟩;refine⟨_,rfl,?_⟩;have n_:=t3 (rE (pR Ju) (rB ho0) hb) (rL (rW ho0 (Kd.cO (pR Ju))) (aH pB)) (aK pB hb);clear Ju HB;obtain⟨Ju,Jv,HB⟩:=n_;(try clear hb);(try clear ho0);obtain⟨KF,KZ,Le⟩:=rS Jv.out;subst Le)|((with_reducible refine gB (b:=.append) (xs:=#[.tmp 5,.tmp 8]) rfl ?_);at_builtin;refine Kd.mE (Kd.int .u8) (w0:=w) w.heap.size rfl (.tmp 5) (.tmp 8) 123 5 (.int .u8 0) 1 rfl Tryz.underlying123 info5 rfl (by decide) (by omega) v198 Az Ay _ _ _ (fun k_=>some k_≠(.slice KF Ay.length KZ:Value).ownBlock) (fun _=>False) rfl rfl ?aO ?aR (fun _ _ h=>h) (fun _ h=>h.elim) ?aF ?aB ?aS ?aL ?_;(case aR=>exact pC (rr Jv.out).2.2);(case aB=>exact pB);(case aF=>exact(fun k_ hk=>Kd.fresh' (Kd.cO (pR Jv)) k_ hk));(case aO=>exact(pT (Kd.bC Ju.out (fun _ hk=>hk.2))));(case aS=>exact(aH pB));(case aL=>have:=KP.out;omega);intro LC w7 ho hb hg hat;rw[←KT.out]at ho;have n_:=t3 (Kd.iX (ok:=(fun _=>True)) (pR Jv) hg hat) (hb) (ho);clear Jv HB Ju;obtain⟨Jv,HB,KM⟩:=n_;clear ho hb hg hat)));go_ret;exact⟨_,pE,(pT (Kd.bC KM.out (fun _ hk=>trivial))),pB⟩
 ·rw[if_neg c4]at H;exact absurd H (by simp)
def dS.l0:Nat→List Int→List Int→Int→Option (List Int)
 |0,_,_,_=>none
 |k+1,x0,x3,x4=>if x4<(x0.length:Int)then(if 0≤x4 then((iq.f (rd x0 x4)).bind fun t210=>(if x3.length+t210.length<140737488355328 then(dS.l0 k x0 (x3++t210) (wrap64 (x4+1)))else(none)))else(none))else(some x3)
def dS.f (k:Nat) (l0:List Int):Option (List Int):=(iq.f (l0.length:Int)).bind fun t206=>(dS.l0 k l0 t206 0)
theorem dS.aW:∀k,(∀y0 y1 y2,aj (dS.l0 k y0 y1 y2) (dS.l0 (k+1) y0 y1 y2))
 |0=>fun _ _ _ r h=>by simp[dS.l0]at h
 |k+1=>by
  have Jj:=dS.aW k
  ·intro y0 y1 y2
   unfold dS.l0
   repeat' with_reducible first|exact Jj _ _ _|exact aj.refl _|exact aj.none _|refine aj.ite ?_ ?_|refine aj.bind ?_ (fun _=>?_)
theorem dS.mono:∀a0 k,aj (dS.f k a0) (dS.f (k+1) a0):=by
 intro a0 k;have Jj:=dS.aW k;unfold dS.f;repeat' with_reducible first|exact Jj _ _ _|exact aj.refl _|exact aj.none _|refine aj.ite ?_ ?_|refine aj.bind ?_ (fun _=>?_)
theorem dS.calls (k:Nat) (A0:Option Addr) (c0:Nat) (l0:List Int) (r:List Int) (w:World) (hr0:Kd.C (Kd.int .i64) w A0 l0.length l0) (hc0:l0.length≤c0) (h:dS.f k l0=some r):
 Calls Tryz.prog 140 #[.slice A0 l0.length c0] w fun e w'=>∃Jk:Value,e= .returned (Jk)∧Kd.R (Kd.int .u8) 5 w' w.heap.size (fun _=>True) Jk r∧Below w.heap.size w w':=by
 have JQ:=am hr0;have Kn:=am hc0;clear hr0 hc0;have HB:=am (Below.refl w.heap.size w);have H:((iq.f (l0.length:Int)).bind fun t206=>(dS.l0 k l0 t206 0))=some r:=h;clear h;replace H:=bO H;obtain⟨t206,JB,H⟩:=H;replace H:(dS.l0 k l0 t206 0)=some r:=H;have A2:=am JB;clear JB;have H':=am H;clear H;go_enter Tryz.func140,Tryz.ntmps140;go_wp2_with (first|((with_reducible refine gC (f:=138) rfl ?_);refine aV (some 7) rfl rfl Tryz.func138 (by kernel_rfl) rfl #[.int .i64 (l0.length:Int)] rfl pA ?_;(with_reducible refine(iq.calls (l0.length:Int) t206 _ A2.out).mono ?_);rintro e w3 ⟨LD,rfl,ho0,hb⟩;refine⟨_,rfl,?_⟩;have n_:=t2 (rL ho0 (aH pB)) (aK pB hb);clear HB;obtain⟨KN,HB⟩:=n_;(try clear hb);(try clear ho0)))
 go_loopg [3,4] k (fun kq v3 v4 w'=>∃(mg:List Int) (wm:Int),v4= .int .i64 wm∧ay (dS.l0 kq l0 mg wm=some r)∧ay (kq≤k)∧ay (Kd.R (Kd.int .u8) 5 w' w.heap.size (fun _=>True) v3 mg)∧ay (Below w.heap.size w w'))
 case atStart=>exact⟨(t206),(0),pF,H',⟨Nat.le_refl _⟩,⟨(pR KN)⟩,⟨pB⟩⟩
 case round=>
  clear H';obtain⟨mg,wm,rfl,HA,Jl,aN,HB⟩:=hrel;cases gk with
  |zero=>exact absurd HA.out (by simp[dS.l0])
  |succ k1=>
   have H:=HA.out;clear HA;simp only[dS.l0]at H;by_cases c4:wm<(l0.length:Int)
   ·rw[if_pos c4]at H;have Jy:decide (wm<(l0.length:Int))=true:=dt c4;clear c4;by_cases c5:0≤wm
    ·rw[if_pos c5]at H;have Kv:decide (0≤wm)=true:=dt c5;clear c5;replace H:=bO H;obtain⟨t210,JC,H⟩:=H;replace H:(if mg.length+t210.length<140737488355328 then(dS.l0 k1 l0 (mg++t210) (wrap64 (wm+1)))else(none))=some r:=H;have A6:=am JC;clear JC;by_cases c7:mg.length+t210.length<140737488355328
     ·rw[if_pos c7]at H;have KQ:=am c7;clear c7;obtain⟨KC,JN⟩:∃y_:List Int,y_=(mg++t210):=⟨_,rfl⟩;(replace H:(dS.l0 k1 l0 KC (wrap64 (wm+1)))=some r:=by first|(rw[JN];with_reducible exact H)|(have Ag:=(Option.bind_some _ _).symm.trans H;rw[JN];with_reducible exact Ag)|(have Ag:=(Option.bind_some _ _).symm.trans H;with_reducible exact Ag)|with_reducible exact H|(rw[JN];exact H)|exact H);have KU:=am JN;clear JN;have H':=am H;clear H;have Kg:0≤(wm:Int):=pD;have Ki:wm<(l0.length:Int):=pD;obtain⟨Lm,e209,Kw⟩:=Kd.eG JQ.out wm Kg Ki;cases e209;replace Kw:=cb HB Kw;replace Kg:=eq_true Kg;replace Ki:=eq_true Ki;(go_wp2_with (first|((with_reducible refine gC (f:=138) rfl ?_);refine aV (some 19) rfl rfl Tryz.func138 (by kernel_rfl) rfl #[.int .i64 (rd l0 wm)] rfl pA ?_;(with_reducible refine(iq.calls (rd l0 wm) t210 _ A6.out).mono ?_);rintro e w8 ⟨LG,rfl,ho0,hb⟩;refine⟨_,rfl,?_⟩;have n_:=t3 (rE (pR aN) (rB ho0) hb) (rL (rW ho0 (Kd.cO (pR aN))) (aH pB)) (aK pB hb);clear aN HB;obtain⟨aN,Jw,HB⟩:=n_;(try clear hb);(try clear ho0);obtain⟨KD,KX,Lb⟩:=rS Jw.out;subst Lb)|((with_reducible refine gB (b:=.append) (xs:=#[.tmp 14,.tmp 19]) rfl ?_);at_builtin;refine Kd.mE (Kd.int .u8) (w0:=w) w.heap.size rfl (.tmp 14) (.tmp 19) 123 5 (.int .u8 0) 1 rfl Tryz.underlying123 info5 rfl (by decide) (by omega) u3 mg t210 _ _ _ (fun k_=>some k_≠(.slice KD t210.length KX:Value).ownBlock) (fun _=>False) rfl rfl ?aO ?aR (fun _ _ h=>h) (fun _ h=>h.elim) ?aF ?aB ?aS ?aL ?_;(case aR=>exact pC (rr Jw.out).2.2);(case aB=>exact pB);(case aF=>exact(fun k_ hk=>Kd.fresh' (Kd.cO (pR Jw)) k_ hk));(case aO=>exact(pT (Kd.bC aN.out (fun _ hk=>hk.2))));(case aS=>exact(aH pB));(case aL=>have:=KQ.out;omega);intro LH w9 ho hb hg hat;rw[←KU.out]at ho;have n_:=t3 (Kd.iX (ok:=(fun _=>True)) (pR Jw) hg hat) (hb) (ho);clear Jw HB aN;obtain⟨Jw,HB,KO⟩:=n_;clear ho hb hg hat)));go_roundg k1
      case measure=>have:=Jl.out;omega
      case rel=>exact⟨(KC),(wrap64 (wm+1)),pF,H',⟨by have:=Jl.out;omega⟩,⟨(pT (Kd.bC KO.out (fun _ hk=>trivial)))⟩,⟨pB⟩⟩
     ·rw[if_neg c7]at H;exact absurd H (by simp)
    ·rw[if_neg c5]at H;exact absurd H (by simp)
   ·rw[if_neg c4]at H;have Jy:decide (wm<(l0.length:Int))=false:=decide_eq_false c4;clear c4;obtain rfl:=sj H;go_wp2;go_ret;exact⟨_,pE,(pR aN),pB⟩
end Go.Proofs.YtjmdfghljlmfmaaGreat.QFnExactMineBlock
