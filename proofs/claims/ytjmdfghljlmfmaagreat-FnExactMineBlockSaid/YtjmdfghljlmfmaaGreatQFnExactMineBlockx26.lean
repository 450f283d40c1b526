-- by hand (wip/hand/mk_mine.py)
import Derived.Test.YtjmdfghljlmfmaaGreatQFnExactMineBlockx0
import Derived.Test.YtjmdfghljlmfmaaGreatQFnExactMineBlockx1
import Derived.Test.YtjmdfghljlmfmaaGreatQFnExactMineBlockx2
import Derived.Test.YtjmdfghljlmfmaaGreatQFnExactMineBlockx3
import Derived.Test.YtjmdfghljlmfmaaGreatQFnExactMineBlockx4
import Derived.Test.YtjmdfghljlmfmaaGreatQFnExactMineBlockx5
import Derived.Test.YtjmdfghljlmfmaaGreatQFnExactMineBlockx6
import Derived.Test.YtjmdfghljlmfmaaGreatQFnExactMineBlockx7
import Derived.Test.YtjmdfghljlmfmaaGreatQFnExactMineBlockx8
import Derived.Test.YtjmdfghljlmfmaaGreatQFnExactMineBlockx9
import Derived.Test.YtjmdfghljlmfmaaGreatQFnExactMineBlockx10
import Derived.Test.YtjmdfghljlmfmaaGreatQFnExactMineBlockx11
import Derived.Test.YtjmdfghljlmfmaaGreatQFnExactMineBlockx12
import Derived.Test.YtjmdfghljlmfmaaGreatQFnExactMineBlockx13
import Derived.Test.YtjmdfghljlmfmaaGreatQFnExactMineBlockx14
import Derived.Test.YtjmdfghljlmfmaaGreatQFnExactMineBlockx15
import Derived.Test.YtjmdfghljlmfmaaGreatQFnExactMineBlockx16
import Derived.Test.YtjmdfghljlmfmaaGreatQFnExactMineBlockx17
import Derived.Test.YtjmdfghljlmfmaaGreatQFnExactMineBlockx18
import Derived.Test.YtjmdfghljlmfmaaGreatQFnExactMineBlockx19
import Derived.Test.YtjmdfghljlmfmaaGreatQFnExactMineBlockx20
import Derived.Test.YtjmdfghljlmfmaaGreatQFnExactMineBlockx21
import Derived.Test.YtjmdfghljlmfmaaGreatQFnExactMineBlockx22
import Derived.Test.YtjmdfghljlmfmaaGreatQFnExactMineBlockx23
import Derived.Test.YtjmdfghljlmfmaaGreatQFnExactMineBlockx24
import Derived.Test.YtjmdfghljlmfmaaGreatQFnExactMineBlockx25
-- squeezed
namespace Go.Proofs.YtjmdfghljlmfmaaGreat.QFnExactMineBlock
open Go.RowKit Go.Proofs.YtjmdfghljlmfmaaGreatW.PrintWords Go.Proofs.YtjmdfghljlmfmaaGreatW.PrintLast Go.Proofs.YtjmdfghljlmfmaaGreatW.PrintMore
attribute [local go_sem] iC iG iF iJ iE iI iD iH
set_option linter.unusedVariables false
set_option linter.unusedSimpArgs false
set_option maxHeartbeats 8000000
set_option maxRecDepth 100000
theorem eU.get {w:World} {B g n cap:Nat} {P:Nat→Prop} {xs:List aM} (h:Kd.S bM 128 w B P (.slice (some ⟨g,0,none⟩) n cap) xs) (i:Int) (h0:0≤i) (h1:i<n) (x:aM) (hx:xs.getD i.toNat jd=x):
 w.cell? ⟨g,i.toNat*3,none⟩=some (.int .i64 (x).f0)∧w.frozen? ⟨g,i.toNat*3,none⟩=false∧w.cell? ⟨g,i.toNat*3+1,none⟩=some (.int .i64 (x).f1)∧w.frozen? ⟨g,i.toNat*3+1,none⟩=false:=by
 obtain⟨bV,c,hcl,hM,hcc,hfr,jf,hH⟩:=Kd.kK h jd i h0 h1;rw[hx]at hM;obtain⟨v2,rfl,g2⟩:=rX hM;exact⟨hcc 0 _ rfl,hfr 0,hcc 1 _ rfl,hfr 1⟩
theorem eU.tK {w:World} {B g n cap:Nat} {P:Nat→Prop} {xs:List aM} (h:Kd.S bM 128 w B P (.slice (some ⟨g,0,none⟩) n cap) xs) (i:Int) (h0:0≤i) (h1:i<n) (x:aM) (hx:xs.getD i.toNat jd=x) (y:Int):
 Kd.S bM 128 (w.setCell ⟨g,i.toNat*3,none⟩ (.int .i64 y)) B P (.slice (some ⟨g,0,none⟩) n cap) (xs.set i.toNat (⟨y,(x).f1,(x).f2⟩:aM))∧(xs.set i.toNat (⟨y,(x).f1,(x).f2⟩:aM)).getD i.toNat jd=(⟨y,(x).f1,(x).f2⟩:aM):=by
 have hlen:=(Kd.eD h).1;refine⟨?_,by rw[List.getD_eq_getElem?_getD,List.getElem?_set_self (by omega)];rfl⟩;have h':=Kd.bU (ok':=fun k=>P k∧¬False) h (fun k hk=>⟨hk,id⟩);obtain⟨bV,c,hcl,hM,hcc,hfr,jf,hH⟩:=Kd.kK h' jd i h0 h1;rw[hx]at hM;obtain⟨v2,rfl,g2⟩:=rX hM;exact(Kd.qB (mU:=fun _=>False) hH h0 h1 (seg:=[.int .i64 y]) (j:=0) (show 0+1≤3 from by decide) (x':=(⟨y,(x).f1,(x).f2⟩:aM)) (pX _ _ _ (⟨y,(x).f1,(x).f2⟩:aM) g2) (fun k hk=>.inl hk) (fun _ hk=>hk.elim)).1
theorem eU.Fq {w:World} {B g n cap:Nat} {P:Nat→Prop} {xs:List aM} (h:Kd.S bM 128 w B P (.slice (some ⟨g,0,none⟩) n cap) xs) (i:Int) (h0:0≤i) (h1:i<n) (x:aM) (hx:xs.getD i.toNat jd=x) (y:Int):
 Kd.S bM 128 (w.setCell ⟨g,i.toNat*3+1,none⟩ (.int .i64 y)) B P (.slice (some ⟨g,0,none⟩) n cap) (xs.set i.toNat (⟨(x).f0,y,(x).f2⟩:aM))∧(xs.set i.toNat (⟨(x).f0,y,(x).f2⟩:aM)).getD i.toNat jd=(⟨(x).f0,y,(x).f2⟩:aM):=by
 have hlen:=(Kd.eD h).1;refine⟨?_,by rw[List.getD_eq_getElem?_getD,List.getElem?_set_self (by omega)];rfl⟩;have h':=Kd.bU (ok':=fun k=>P k∧¬False) h (fun k hk=>⟨hk,id⟩);obtain⟨bV,c,hcl,hM,hcc,hfr,jf,hH⟩:=Kd.kK h' jd i h0 h1;rw[hx]at hM;obtain⟨v2,rfl,g2⟩:=rX hM;exact(Kd.qB (mU:=fun _=>False) hH h0 h1 (seg:=[.int .i64 y]) (j:=1) (show 1+1≤3 from by decide) (x':=(⟨(x).f0,y,(x).f2⟩:aM)) (pX _ _ _ (⟨(x).f0,y,(x).f2⟩:aM) g2) (fun k hk=>.inl hk) (fun _ hk=>hk.elim)).1
theorem eU.row {w:World} {B g n cap:Nat} {P:Nat→Prop} {xs:List aM} (h:Kd.S bM 128 w B P (.slice (some ⟨g,0,none⟩) n cap) xs) (i:Int) (h0:0≤i) (h1:i<n) (x:aM) (hx:xs.getD i.toNat jd=x):
 ∃(bV:Nat→Prop) (v2:Value),w.cell? ⟨g,i.toNat*3+2,none⟩=some v2∧Kd.R (Kd.int .i64) 2 w B bV v2 (x).f2∧(∀k,bV k→P k)∧∀(w1:World) (r2:List Int),Kept w w1 bV→Kd.R (Kd.int .i64) 2 w1 B (fun k=>bV k∨w.heap.size≤k) v2 r2→Kd.S bM 128 w1 B P (.slice (some ⟨g,0,none⟩) n cap) (xs.set i.toNat (⟨(x).f0,(x).f1,r2⟩:aM)):=by
 obtain⟨bV,c,hcl,hM,hcc,hfr,jf,hH⟩:=Kd.kK h jd i h0 h1;rw[hx]at hM;obtain⟨v2,rfl,g2⟩:=rX hM;refine⟨bV,v2,hcc 2 _ rfl,g2,fun k hk=>(jf k hk).1,fun w1 r2 hk hr=>?_⟩;exact Kd.tV (Kd.vC hH (fun k _ hn hlt=>hk.2 k hlt hn)) (x':=(⟨(x).f0,(x).f1,r2⟩:aM)) (pX _ _ _ (⟨(x).f0,(x).f1,r2⟩:aM) (Kd.bC (Kd.kI rfl hr) (fun k hk=>g2.1 k hk.symm))) (fun _ hk=>hk)
def eU.l0:Nat→List aM→Int→Int→Option (Int×List aM)
 |0,_,_,_=>none
 |k+1,x0,x1,x5=>if x5<(x0.length:Int)then(if 0≤x5 then((fP.f k (x0.getD x5.toNat jd).f2 (wrap64 (wrap64 (x1+1)+1))).bind fun t=>eU.l0 k (x0.set x5.toNat (⟨x1,wrap64 (x1+1),t.2⟩:aM)) t.1 (wrap64 (x5+1)))else none)else some (x1,x0)
def eU.f (k:Nat) (l0:List aM) (a1:Int):Option (Int×List aM):=eU.l0 k l0 a1 0
theorem eU.aW:∀k x0 x1 x5,aj (eU.l0 k x0 x1 x5) (eU.l0 (k+1) x0 x1 x5)
 |0=>fun _ _ _ r h=>by simp[eU.l0]at h
 |k+1=>by
  intro x0 x1 x5 r h
  unfold eU.l0 at h ⊢
  by_cases c1:x5<(x0.length:Int)
  ·rw[if_pos c1]at h ⊢
   by_cases c2:0≤x5
   ·rw[if_pos c2]at h ⊢
    obtain⟨c,h1,h2⟩:=Option.bind_eq_some_iff.mp h
    exact Option.bind_eq_some_iff.mpr ⟨c,fP.mono _ _ _ _ h1,eU.aW k _ _ _ r h2⟩
   ·rw[if_neg c2]at h;cases h
  ·rw[if_neg c1]at h ⊢
   exact h
theorem eU.mono:∀a0 a1 k,aj (eU.f k a0 a1) (eU.f (k+1) a0 a1):=fun a0 a1 k=>eU.aW k a0 a1 0
set_option maxHeartbeats 2000000 in
set_option maxRecDepth 100000 in
theorem eU.calls (k:Nat) (aB:Nat→Prop) (aF:Value) (l0:List aM) (a1:Int) (r1:Int) (r2:List aM) (w0 w:World) (hB:Below w0.heap.size w0 w) (ho0:Kd.S bM 128 w w0.heap.size aB aF l0) (h:eU.f k l0 a1=some (r1,r2)):
 Calls Tryz.prog 72 #[aF,.int .i64 a1] w fun e w'=>e= .returned (.int .i64 r1)∧Kd.S bM 128 w' w0.heap.size (fun k_=>aB k_) aF r2∧Below w0.heap.size w0 w'∧Kept w w' (fun k_=>aB k_):=by
 obtain⟨A,c,rfl⟩:=Kd.dV ho0;have HS:=am ho0;have HB:=am hB;have HA:=am (show eU.l0 k l0 a1 0=some (r1,r2)from h);have HK:=am (Kept.refl w aB);clear ho0 hB h;go_enter Tryz.func72,Tryz.ntmps72;go_wp2;go_loopg [1,5] k (fun kq v1 v5 w'=>∃(x1 x5:Int) (x0:List aM),v1= .int .i64 x1∧v5= .int .i64 x5∧ay (eU.l0 kq x0 x1 x5=some (r1,r2))∧ay (kq≤k)∧ay (Kd.S bM 128 w' w0.heap.size aB (.slice A l0.length c) x0)∧ay (Below w0.heap.size w0 w')∧ay (Kept w w' aB))
 case atStart=>exact⟨a1,0,l0,rfl,rfl,HA,⟨Nat.le_refl _⟩,HS,HB,HK⟩
 case round=>
  clear HA HS HB HK;obtain⟨x1,x5,x0,rfl,rfl,HA,HQ,HS,HB,HK⟩:=hrel;cases gk with
  |zero=>exact absurd HA.out (by simp[eU.l0])
  |succ k2=>
   have H:=HA.out;clear HA;simp only[eU.l0]at H;have hl:=(Kd.eD HS.out).1;rw[←hl]at H;have Az:=am hl;clear hl;by_cases c3:x5<(l0.length:Int)
   ·rw[if_pos c3]at H;by_cases hx0:0≤x5
    ·rw[if_pos hx0]at H;obtain⟨⟨t1,t2⟩,hm,H⟩:=Option.bind_eq_some_iff.mp H;have HR:=am H;clear H;have Jk:decide (x5<(l0.length:Int))=true:=dt c3;have Jq:decide (0≤x5)=true:=dt hx0;have hx5:=c3;obtain⟨g,cap,ev,_,_,_⟩:=Kd.qY HS.out (by have:=Az.out;omega);(injection ev with ea en ec);clear en;subst ea;subst ec;have aS:=am ((Kd.kg HS.out).1 g (by simp[Value.ownBlock]));have aR:=am (Kd.oz HS.out g (by simp[Value.ownBlock]));obtain⟨x,hx⟩:∃x,x0.getD x5.toNat jd=x:=⟨_,rfl⟩;rw[hx]at hm;have HX:=am hx;have HM:=am hm;clear hx hm;have p5:=eq_true hx0;have q5:=eq_true c3;obtain⟨hz0,hf0,_,_⟩:=eU.get HS.out x5 hx0 hx5 x HX.out;(go_wp2_with (first|((with_reducible refine mI (t:=2) (p:=16) rfl ?_);refine ng (t:=2) (p:=16) (v:=?Js) (w1:=(wr.setCell ⟨g,x5.toNat*3,none⟩ (.int .i64 x1))) ?hg ?ho ?hn ?hr ?_;(case ho=>rfl);(case hg=>rfl);(case hn=>rfl);(case hr=>first|(go_simp;done)|(go_simp;rfl));intro w8 hw;have hpp:=eU.tK HS.out x5 hx0 hx5 x HX.out x1;have HS2:=am (show Kd.S bM 128 w8 w0.heap.size aB (.slice (some ⟨g,0,none⟩) l0.length c) (x0.set x5.toNat (⟨x1,x.f1,x.f2⟩:aM))from by rw[hw];exact hpp.1);have mg:=am (show(x0.set x5.toNat (⟨x1,x.f1,x.f2⟩:aM)).getD x5.toNat jd=(⟨x1,x.f1,x.f2⟩:aM)from hpp.2);clear hpp;have HB2:=am (show Below w0.heap.size w0 w8 from by rw[hw];exact ku HB.out aR.out);have Ah:=am (show Kept w w8 aB from by rw[hw];exact Kept.setCell HK.out (.inl aS.out) _);clear hw hz0 hf0;obtain⟨_,_,hz1,hf1⟩:=eU.get HS2.out x5 hx0 hx5 (⟨x1,x.f1,x.f2⟩:aM) mg.out;skip)|((with_reducible refine mI (t:=2) (p:=23) rfl ?_);refine ng (t:=2) (p:=23) (v:=?JI) (w1:=(w8.setCell ⟨g,x5.toNat*3+1,none⟩ (.int .i64 (wrap64 (x1+1))))) ?hg ?ho ?hn ?hr ?_;(case ho=>rfl);(case hg=>rfl);(case hn=>rfl);(case hr=>first|(go_simp;done)|(go_simp;rfl));intro w9 hw;have hpp:=eU.Fq HS2.out x5 hx0 hx5 (⟨x1,x.f1,x.f2⟩:aM) mg.out (wrap64 (x1+1));have JA:=am (show Kd.S bM 128 w9 w0.heap.size aB (.slice (some ⟨g,0,none⟩) l0.length c) ((x0.set x5.toNat (⟨x1,x.f1,x.f2⟩:aM)).set x5.toNat (⟨x1,(wrap64 (x1+1)),x.f2⟩:aM))from by rw[hw];exact hpp.1);have JC:=am (show((x0.set x5.toNat (⟨x1,x.f1,x.f2⟩:aM)).set x5.toNat (⟨x1,(wrap64 (x1+1)),x.f2⟩:aM)).getD x5.toNat jd=(⟨x1,(wrap64 (x1+1)),x.f2⟩:aM)from hpp.2);clear hpp;have HB3:=am (show Below w0.heap.size w0 w9 from by rw[hw];exact ku HB2.out aR.out);have Jw:=am (show Kept w w9 aB from by rw[hw];exact Kept.setCell Ah.out (.inl aS.out) _);clear hw hz1 hf1;obtain⟨bV,u9,aO,aL,jf,hback⟩:=eU.row JA.out x5 hx0 hx5 (⟨x1,(wrap64 (x1+1)),x.f2⟩:aM) JC.out;have Ag:=am aL;have aP:=am jf;have Ab:=am hback;clear aL jf hback;skip)|(go_at_call 71;refine(fP.calls k2 bV u9 _ (wrap64 (wrap64 (x1+1)+1)) t1 t2 w0 _ HB3.out Ag.out HM.out).mono ?_;rintro e Jl ⟨rfl,hr,hb,hk⟩;have Jj:=am (Ab.out Jl t2 hk hr);have wm:=am hb;have Ay:=am (Kept.then_ Jw.out hk (fun k_ h_=>.inl (aP.out k_ h_)));clear hr hb hk aO)));go_roundg k2
     case measure=>have:=HQ.out;omega
     case rel=>exact⟨t1,wrap64 (x5+1),_,rfl,(by first|rfl|(simp;done)),HR,⟨by have:=HQ.out;omega⟩,⟨by have h_:=Jj.out;rw[List.set_set,List.set_set]at h_;exact h_⟩,wm,Ay⟩
    ·rw[if_neg hx0]at H;cases H
   ·rw[if_neg c3]at H;have Jk:decide (x5<(l0.length:Int))=false:=decide_eq_false c3;simp only[Option.some.injEq,Prod.mk.injEq]at H;obtain⟨rfl,rfl⟩:=H;go_wp2;go_ret;exact⟨rfl,HS.out,HB.out,HK.out⟩
theorem fF.get {w:World} {B g n cap:Nat} {P:Nat→Prop} {xs:List aT} (h:Kd.S bY 130 w B P (.slice (some ⟨g,0,none⟩) n cap) xs) (i:Int) (h0:0≤i) (h1:i<n) (x:aT) (hx:xs.getD i.toNat z130=x):
 w.cell? ⟨g,i.toNat*2,none⟩=some (.int .i64 (x).f0)∧w.frozen? ⟨g,i.toNat*2,none⟩=false:=by
 obtain⟨bV,c,hcl,hM,hcc,hfr,jf,hH⟩:=Kd.kK h z130 i h0 h1;rw[hx]at hM;obtain⟨v2,rfl,g2⟩:=tu hM;exact⟨hcc 0 _ rfl,hfr 0⟩
theorem fF.tK {w:World} {B g n cap:Nat} {P:Nat→Prop} {xs:List aT} (h:Kd.S bY 130 w B P (.slice (some ⟨g,0,none⟩) n cap) xs) (i:Int) (h0:0≤i) (h1:i<n) (x:aT) (hx:xs.getD i.toNat z130=x) (y:Int):
 Kd.S bY 130 (w.setCell ⟨g,i.toNat*2,none⟩ (.int .i64 y)) B P (.slice (some ⟨g,0,none⟩) n cap) (xs.set i.toNat (⟨y,(x).f1⟩:aT))∧(xs.set i.toNat (⟨y,(x).f1⟩:aT)).getD i.toNat z130=(⟨y,(x).f1⟩:aT):=by
 have hlen:=(Kd.eD h).1;refine⟨?_,by rw[List.getD_eq_getElem?_getD,List.getElem?_set_self (by omega)];rfl⟩;have h':=Kd.bU (ok':=fun k=>P k∧¬False) h (fun k hk=>⟨hk,id⟩);obtain⟨bV,c,hcl,hM,hcc,hfr,jf,hH⟩:=Kd.kK h' z130 i h0 h1;rw[hx]at hM;obtain⟨v2,rfl,g2⟩:=tu hM;exact(Kd.qB (mU:=fun _=>False) hH h0 h1 (seg:=[.int .i64 y]) (j:=0) (show 0+1≤2 from by decide) (x':=(⟨y,(x).f1⟩:aT)) (rY _ _ _ (⟨y,(x).f1⟩:aT) g2) (fun k hk=>.inl hk) (fun _ hk=>hk.elim)).1
theorem fF.row {w:World} {B g n cap:Nat} {P:Nat→Prop} {xs:List aT} (h:Kd.S bY 130 w B P (.slice (some ⟨g,0,none⟩) n cap) xs) (i:Int) (h0:0≤i) (h1:i<n) (x:aT) (hx:xs.getD i.toNat z130=x):
 ∃(bV:Nat→Prop) (v2:Value),w.cell? ⟨g,i.toNat*2+1,none⟩=some v2∧Kd.R (Kd.int .i64) 2 w B bV v2 (x).f1∧(∀k,bV k→P k)∧∀(w1:World) (r2:List Int),Kept w w1 bV→Kd.R (Kd.int .i64) 2 w1 B (fun k=>bV k∨w.heap.size≤k) v2 r2→Kd.S bY 130 w1 B P (.slice (some ⟨g,0,none⟩) n cap) (xs.set i.toNat (⟨(x).f0,r2⟩:aT)):=by
 obtain⟨bV,c,hcl,hM,hcc,hfr,jf,hH⟩:=Kd.kK h z130 i h0 h1;rw[hx]at hM;obtain⟨v2,rfl,g2⟩:=tu hM;refine⟨bV,v2,hcc 1 _ rfl,g2,fun k hk=>(jf k hk).1,fun w1 r2 hk hr=>?_⟩;exact Kd.tV (Kd.vC hH (fun k _ hn hlt=>hk.2 k hlt hn)) (x':=(⟨(x).f0,r2⟩:aT)) (rY _ _ _ (⟨(x).f0,r2⟩:aT) (Kd.bC (Kd.kI rfl hr) (fun k hk=>g2.1 k hk.symm))) (fun _ hk=>hk)
def fF.l0:Nat→List aT→Int→Int→Option (Int×List aT)
 |0,_,_,_=>none
 |k+1,x0,x1,x5=>if x5<(x0.length:Int)then(if 0≤x5 then((fP.f k (x0.getD x5.toNat z130).f1 (wrap64 (x1+1))).bind fun t=>fF.l0 k (x0.set x5.toNat (⟨x1,t.2⟩:aT)) t.1 (wrap64 (x5+1)))else none)else some (x1,x0)
def fF.f (k:Nat) (l0:List aT) (a1:Int):Option (Int×List aT):=fF.l0 k l0 a1 0
theorem fF.aW:∀k x0 x1 x5,aj (fF.l0 k x0 x1 x5) (fF.l0 (k+1) x0 x1 x5)
 |0=>fun _ _ _ r h=>by simp[fF.l0]at h
 |k+1=>by
  intro x0 x1 x5 r h
  unfold fF.l0 at h ⊢
  by_cases c1:x5<(x0.length:Int)
  ·rw[if_pos c1]at h ⊢
   by_cases c2:0≤x5
   ·rw[if_pos c2]at h ⊢
    obtain⟨c,h1,h2⟩:=Option.bind_eq_some_iff.mp h
    exact Option.bind_eq_some_iff.mpr ⟨c,fP.mono _ _ _ _ h1,fF.aW k _ _ _ r h2⟩
   ·rw[if_neg c2]at h;cases h
  ·rw[if_neg c1]at h ⊢
   exact h
theorem fF.mono:∀a0 a1 k,aj (fF.f k a0 a1) (fF.f (k+1) a0 a1):=fun a0 a1 k=>fF.aW k a0 a1 0
set_option maxHeartbeats 2000000 in
set_option maxRecDepth 100000 in
theorem fF.calls (k:Nat) (aB:Nat→Prop) (aF:Value) (l0:List aT) (a1:Int) (r1:Int) (r2:List aT) (w0 w:World) (hB:Below w0.heap.size w0 w) (ho0:Kd.S bY 130 w w0.heap.size aB aF l0) (h:fF.f k l0 a1=some (r1,r2)):
 Calls Tryz.prog 73 #[aF,.int .i64 a1] w fun e w'=>e= .returned (.int .i64 r1)∧Kd.S bY 130 w' w0.heap.size (fun k_=>aB k_) aF r2∧Below w0.heap.size w0 w'∧Kept w w' (fun k_=>aB k_):=by
 obtain⟨A,c,rfl⟩:=Kd.dV ho0;have HS:=am ho0;have HB:=am hB;have HA:=am (show fF.l0 k l0 a1 0=some (r1,r2)from h);have HK:=am (Kept.refl w aB);clear ho0 hB h;go_enter Tryz.func73,Tryz.ntmps73;go_wp2;go_loopg [1,5] k (fun kq v1 v5 w'=>∃(x1 x5:Int) (x0:List aT),v1= .int .i64 x1∧v5= .int .i64 x5∧ay (fF.l0 kq x0 x1 x5=some (r1,r2))∧ay (kq≤k)∧ay (Kd.S bY 130 w' w0.heap.size aB (.slice A l0.length c) x0)∧ay (Below w0.heap.size w0 w')∧ay (Kept w w' aB))
 case atStart=>exact⟨a1,0,l0,rfl,rfl,HA,⟨Nat.le_refl _⟩,HS,HB,HK⟩
 case round=>
  clear HA HS HB HK;obtain⟨x1,x5,x0,rfl,rfl,HA,HQ,HS,HB,HK⟩:=hrel;cases gk with
  |zero=>exact absurd HA.out (by simp[fF.l0])
  |succ k2=>
   have H:=HA.out;clear HA;simp only[fF.l0]at H;have hl:=(Kd.eD HS.out).1;rw[←hl]at H;have Az:=am hl;clear hl;by_cases c3:x5<(l0.length:Int)
   ·rw[if_pos c3]at H;by_cases hx0:0≤x5
    ·rw[if_pos hx0]at H;obtain⟨⟨t1,t2⟩,hm,H⟩:=Option.bind_eq_some_iff.mp H;have HR:=am H;clear H;have Jk:decide (x5<(l0.length:Int))=true:=dt c3;have Jq:decide (0≤x5)=true:=dt hx0;have hx5:=c3;obtain⟨g,cap,ev,_,_,_⟩:=Kd.qY HS.out (by have:=Az.out;omega);(injection ev with ea en ec);clear en;subst ea;subst ec;have aS:=am ((Kd.kg HS.out).1 g (by simp[Value.ownBlock]));have aR:=am (Kd.oz HS.out g (by simp[Value.ownBlock]));obtain⟨x,hx⟩:∃x,x0.getD x5.toNat z130=x:=⟨_,rfl⟩;rw[hx]at hm;have HX:=am hx;have HM:=am hm;clear hx hm;have p5:=eq_true hx0;have q5:=eq_true c3;obtain⟨hz0,hf0⟩:=fF.get HS.out x5 hx0 hx5 x HX.out;(go_wp2_with (first|((with_reducible refine mI (t:=2) (p:=16) rfl ?_);refine ng (t:=2) (p:=16) (v:=?Js) (w1:=(wr.setCell ⟨g,x5.toNat*2,none⟩ (.int .i64 x1))) ?hg ?ho ?hn ?hr ?_;(case ho=>rfl);(case hg=>rfl);(case hn=>rfl);(case hr=>first|(go_simp;done)|(go_simp;rfl));intro w8 hw;have hpp:=fF.tK HS.out x5 hx0 hx5 x HX.out x1;have HS2:=am (show Kd.S bY 130 w8 w0.heap.size aB (.slice (some ⟨g,0,none⟩) l0.length c) (x0.set x5.toNat (⟨x1,x.f1⟩:aT))from by rw[hw];exact hpp.1);have mg:=am (show(x0.set x5.toNat (⟨x1,x.f1⟩:aT)).getD x5.toNat z130=(⟨x1,x.f1⟩:aT)from hpp.2);clear hpp;have HB2:=am (show Below w0.heap.size w0 w8 from by rw[hw];exact ku HB.out aR.out);have Ah:=am (show Kept w w8 aB from by rw[hw];exact Kept.setCell HK.out (.inl aS.out) _);clear hw hz0 hf0;obtain⟨bV,u9,aO,aL,jf,hback⟩:=fF.row HS2.out x5 hx0 hx5 (⟨x1,x.f1⟩:aT) mg.out;have Ag:=am aL;have aP:=am jf;have Ab:=am hback;clear aL jf hback;skip)|(go_at_call 71;refine(fP.calls k2 bV u9 _ (wrap64 (x1+1)) t1 t2 w0 _ HB2.out Ag.out HM.out).mono ?_;rintro e Jl ⟨rfl,hr,hb,hk⟩;have Jj:=am (Ab.out Jl t2 hk hr);have wm:=am hb;have Ay:=am (Kept.then_ Ah.out hk (fun k_ h_=>.inl (aP.out k_ h_)));clear hr hb hk aO)));go_roundg k2
     case measure=>have:=HQ.out;omega
     case rel=>exact⟨t1,wrap64 (x5+1),_,rfl,(by first|rfl|(simp;done)),HR,⟨by have:=HQ.out;omega⟩,⟨by have h_:=Jj.out;rw[List.set_set]at h_;exact h_⟩,wm,Ay⟩
    ·rw[if_neg hx0]at H;cases H
   ·rw[if_neg c3]at H;have Jk:decide (x5<(l0.length:Int))=false:=decide_eq_false c3;simp only[Option.some.injEq,Prod.mk.injEq]at H;obtain⟨rfl,rfl⟩:=H;go_wp2;go_ret;exact⟨rfl,HS.out,HB.out,HK.out⟩
theorem fA.get {w:World} {B g n cap:Nat} {P:Nat→Prop} {xs:List aJ} (h:Kd.S fu 53 w B P (.slice (some ⟨g,0,none⟩) n cap) xs) (i:Int) (h0:0≤i) (h1:i<n) (x:aJ) (hx:xs.getD i.toNat z53=x):
 w.cell? ⟨g,i.toNat*3,none⟩=some (.int .i64 (x).f0)∧w.frozen? ⟨g,i.toNat*3,none⟩=false:=by
 obtain⟨bV,c,hcl,hM,hcc,hfr,jf,hH⟩:=Kd.kK h z53 i h0 h1;rw[hx]at hM;obtain⟨t,v1,v2,rfl,g1,g2⟩:=tF hM;exact⟨hcc 0 _ rfl,hfr 0⟩
theorem fA.tK {w:World} {B g n cap:Nat} {P:Nat→Prop} {xs:List aJ} (h:Kd.S fu 53 w B P (.slice (some ⟨g,0,none⟩) n cap) xs) (i:Int) (h0:0≤i) (h1:i<n) (x:aJ) (hx:xs.getD i.toNat z53=x) (y:Int):
 Kd.S fu 53 (w.setCell ⟨g,i.toNat*3,none⟩ (.int .i64 y)) B P (.slice (some ⟨g,0,none⟩) n cap) (xs.set i.toNat (⟨y,(x).f1,(x).f2⟩:aJ))∧(xs.set i.toNat (⟨y,(x).f1,(x).f2⟩:aJ)).getD i.toNat z53=(⟨y,(x).f1,(x).f2⟩:aJ):=by
 have hlen:=(Kd.eD h).1;refine⟨?_,by rw[List.getD_eq_getElem?_getD,List.getElem?_set_self (by omega)];rfl⟩;have h':=Kd.bU (ok':=fun k=>P k∧¬False) h (fun k hk=>⟨hk,id⟩);obtain⟨bV,c,hcl,hM,hcc,hfr,jf,hH⟩:=Kd.kK h' z53 i h0 h1;rw[hx]at hM;obtain⟨t,v1,v2,rfl,g1,g2⟩:=tF hM;exact(Kd.qB (mU:=fun _=>False) hH h0 h1 (seg:=[.int .i64 y]) (j:=0) (show 0+1≤3 from by decide) (x':=(⟨y,(x).f1,(x).f2⟩:aJ)) (wG _ _ _ (⟨y,(x).f1,(x).f2⟩:aJ) t g1 g2) (fun k hk=>.inl hk) (fun _ hk=>hk.elim)).1
theorem fA.row {w:World} {B g n cap:Nat} {P:Nat→Prop} {xs:List aJ} (h:Kd.S fu 53 w B P (.slice (some ⟨g,0,none⟩) n cap) xs) (i:Int) (h0:0≤i) (h1:i<n) (x:aJ) (hx:xs.getD i.toNat z53=x):
 ∃(bV t:Nat→Prop) (v1 v2:Value),w.cell? ⟨g,i.toNat*3+1,none⟩=some v1∧w.cell? ⟨g,i.toNat*3+2,none⟩=some v2∧Kd.S bM 128 w B (fun k=>bV k∧t k) v1 (x).f1∧Kd.S bY 130 w B (fun k=>bV k∧¬t k) v2 (x).f2∧(∀k,bV k→P k∧k≠g)∧∀(w1:World) (r1:List aM) (r2:List aT),Kept w w1 bV→Kd.S bM 128 w1 B (fun k=>bV k∧t k) v1 r1→Kd.S bY 130 w1 B (fun k=>bV k∧¬t k) v2 r2→Kd.S fu 53 w1 B P (.slice (some ⟨g,0,none⟩) n cap) (xs.set i.toNat (⟨(x).f0,r1,r2⟩:aJ)):=by
 obtain⟨bV,c,hcl,hM,hcc,hfr,jf,hH⟩:=Kd.kK h z53 i h0 h1;rw[hx]at hM;obtain⟨t,v1,v2,rfl,g1,g2⟩:=tF hM;refine⟨bV,t,v1,v2,hcc 1 _ rfl,hcc 2 _ rfl,g1,g2,jf,fun w1 r1 r2 hk h1 h2=>?_⟩;exact Kd.tV (Kd.vC hH (fun k _ hn hlt=>hk.2 k hlt hn)) (x':=(⟨(x).f0,r1,r2⟩:aJ)) (wG _ _ _ (⟨(x).f0,r1,r2⟩:aJ) t h1 h2) (fun _ hk=>hk)
def fA.l0:Nat→List aJ→Int→Int→Option (Int×List aJ)
 |0,_,_,_=>none
 |k+1,x0,x1,x5=>if x5<(x0.length:Int)then(if 0≤x5 then((eU.f k (x0.getD x5.toNat z53).f1 (wrap64 (x1+1))).bind fun t=>((fF.f k (x0.getD x5.toNat z53).f2 t.1).bind fun u=>fA.l0 k (x0.set x5.toNat (⟨x1,t.2,u.2⟩:aJ)) u.1 (wrap64 (x5+1))))else none)else some (x1,x0)
def fA.f (k:Nat) (l0:List aJ) (a1:Int):Option (Int×List aJ):=fA.l0 k l0 a1 0
theorem fA.aW:∀k x0 x1 x5,aj (fA.l0 k x0 x1 x5) (fA.l0 (k+1) x0 x1 x5)
 |0=>fun _ _ _ r h=>by simp[fA.l0]at h
 |k+1=>by
  intro x0 x1 x5 r h
  unfold fA.l0 at h ⊢
  by_cases c1:x5<(x0.length:Int)
  ·rw[if_pos c1]at h ⊢
   by_cases c2:0≤x5
   ·rw[if_pos c2]at h ⊢
    obtain⟨c,h1,h2⟩:=Option.bind_eq_some_iff.mp h
    obtain⟨d,h3,h4⟩:=Option.bind_eq_some_iff.mp h2
    exact Option.bind_eq_some_iff.mpr ⟨c,eU.mono _ _ _ _ h1,Option.bind_eq_some_iff.mpr ⟨d,fF.mono _ _ _ _ h3,fA.aW k _ _ _ r h4⟩⟩
   ·rw[if_neg c2]at h;cases h
  ·rw[if_neg c1]at h ⊢
   exact h
theorem fA.mono:∀a0 a1 k,aj (fA.f k a0 a1) (fA.f (k+1) a0 a1):=fun a0 a1 k=>fA.aW k a0 a1 0
set_option maxHeartbeats 2000000 in
set_option maxRecDepth 100000 in
theorem fA.calls (k:Nat) (aB:Nat→Prop) (aF:Value) (l0:List aJ) (a1:Int) (r1:Int) (r2:List aJ) (w0 w:World) (hB:Below w0.heap.size w0 w) (ho0:Kd.S fu 53 w w0.heap.size aB aF l0) (h:fA.f k l0 a1=some (r1,r2)):
 Calls Tryz.prog 40 #[aF,.int .i64 a1] w fun e w'=>e= .returned (.int .i64 r1)∧Kd.S fu 53 w' w0.heap.size (fun k_=>aB k_) aF r2∧Below w0.heap.size w0 w'∧Kept w w' (fun k_=>aB k_):=by
 obtain⟨A,c,rfl⟩:=Kd.dV ho0;have HS:=am ho0;have HB:=am hB;have HA:=am (show fA.l0 k l0 a1 0=some (r1,r2)from h);have HK:=am (Kept.refl w aB);clear ho0 hB h;go_enter Tryz.func40,Tryz.ntmps40;go_wp2;go_loopg [1,5] k (fun kq v1 v5 w'=>∃(x1 x5:Int) (x0:List aJ),v1= .int .i64 x1∧v5= .int .i64 x5∧ay (fA.l0 kq x0 x1 x5=some (r1,r2))∧ay (kq≤k)∧ay (Kd.S fu 53 w' w0.heap.size aB (.slice A l0.length c) x0)∧ay (Below w0.heap.size w0 w')∧ay (Kept w w' aB))
 case atStart=>exact⟨a1,0,l0,rfl,rfl,HA,⟨Nat.le_refl _⟩,HS,HB,HK⟩
 case round=>
  clear HA HS HB HK;obtain⟨x1,x5,x0,rfl,rfl,HA,HQ,HS,HB,HK⟩:=hrel;cases gk with
  |zero=>exact absurd HA.out (by simp[fA.l0])
  |succ k2=>
   have H:=HA.out;clear HA;simp only[fA.l0]at H;have hl:=(Kd.eD HS.out).1;rw[←hl]at H;have Az:=am hl;clear hl;by_cases c3:x5<(l0.length:Int)
   ·rw[if_pos c3]at H;by_cases hx0:0≤x5
    ·rw[if_pos hx0]at H;obtain⟨⟨t1,t2⟩,hm,H⟩:=Option.bind_eq_some_iff.mp H;obtain⟨⟨s1,s2⟩,hn,H⟩:=Option.bind_eq_some_iff.mp H;have HR:=am H;clear H;have Jk:decide (x5<(l0.length:Int))=true:=dt c3;have Jq:decide (0≤x5)=true:=dt hx0;have hx5:=c3;obtain⟨g,cap,ev,_,_,_⟩:=Kd.qY HS.out (by have:=Az.out;omega);(injection ev with ea en ec);clear en;subst ea;subst ec;have aS:=am ((Kd.kg HS.out).1 g (by simp[Value.ownBlock]));have aR:=am (Kd.oz HS.out g (by simp[Value.ownBlock]));obtain⟨x,hx⟩:∃x,x0.getD x5.toNat z53=x:=⟨_,rfl⟩;rw[hx]at hm hn;have HX:=am hx;have HM:=am hm;have HN:=am hn;clear hx hm hn;have p5:=eq_true hx0;have q5:=eq_true c3;obtain⟨hz0,hf0⟩:=fA.get HS.out x5 hx0 hx5 x HX.out;(go_wp2_with (first|((with_reducible refine mI (t:=2) (p:=16) rfl ?_);refine ng (t:=2) (p:=16) (v:=?Js) (w1:=(wr.setCell ⟨g,x5.toNat*3,none⟩ (.int .i64 x1))) ?hg ?ho ?hn ?hr ?_;(case ho=>rfl);(case hg=>rfl);(case hn=>rfl);(case hr=>first|(go_simp;done)|(go_simp;rfl));intro w8 hw;have hpp:=fA.tK HS.out x5 hx0 hx5 x HX.out x1;have HS2:=am (show Kd.S fu 53 w8 w0.heap.size aB (.slice (some ⟨g,0,none⟩) l0.length c) (x0.set x5.toNat (⟨x1,x.f1,x.f2⟩:aJ))from by rw[hw];exact hpp.1);have mg:=am (show(x0.set x5.toNat (⟨x1,x.f1,x.f2⟩:aJ)).getD x5.toNat z53=(⟨x1,x.f1,x.f2⟩:aJ)from hpp.2);clear hpp;have HB2:=am (show Below w0.heap.size w0 w8 from by rw[hw];exact ku HB.out aR.out);have Ah:=am (show Kept w w8 aB from by rw[hw];exact Kept.setCell HK.out (.inl aS.out) _);clear hw hz0 hf0;obtain⟨bV,tt,JE,JF,JD,aO,Jr,aL,jf,hback⟩:=fA.row HS2.out x5 hx0 hx5 (⟨x1,x.f1,x.f2⟩:aJ) mg.out;have Ju:=am Jr;have Ag:=am aL;have aP:=am jf;have Ab:=am hback;have Jp:=am aO;clear Jr aL jf hback aO;skip)|(go_at_call 72;refine(eU.calls k2 (fun k_=>bV k_∧tt k_) JE _ (wrap64 (x1+1)) t1 t2 w0 _ HB2.out Ju.out HM.out).mono ?_;rintro e Jl ⟨rfl,hr,hb,hk⟩;have JB:=am hr;have Jj:=am (Kd.sO Ag.out (fun k_ hp hlt=>hk.2 k_ hlt (fun h_=>hp.2 h_.2)));have wm:=am hb;have Jy:=am (Kept.then_ (Kept.refl _ bV) hk (fun k_ h_=>.inl h_.1));have Ay:=am (Kept.then_ Ah.out hk (fun k_ h_=>.inl (aP.out k_ h_.1).1));have aO:=(World.cell?_of_block (hk.2 g (World.block_lt_of_cell? _ _ Jp.out) (fun h_=>(aP.out g h_.1).2 rfl))).trans Jp.out;clear hr hb hk JD)|(go_at_call 73;refine(fF.calls k2 (fun k_=>bV k_∧¬tt k_) JF _ t1 s1 s2 w0 _ wm.out Jj.out HN.out).mono ?_;rintro e JG ⟨rfl,hr,hb,hk⟩;have Jz:=am (Ab.out JG t2 s2 (Kept.then_ Jy.out hk (fun k_ h_=>.inl h_.1)) (Kd.sO JB.out (fun k_ hp hlt=>hk.2 k_ hlt (fun h_=>h_.2 hp.2))) hr);have Jt:=am hb;have Jv:=am (Kept.then_ Ay.out hk (fun k_ h_=>.inl (aP.out k_ h_.1).1));clear hr hb hk aO)));go_roundg k2
     case measure=>have:=HQ.out;omega
     case rel=>exact⟨s1,wrap64 (x5+1),_,rfl,(by first|rfl|(simp;done)),HR,⟨by have:=HQ.out;omega⟩,⟨by have h_:=Jz.out;rw[List.set_set]at h_;exact h_⟩,Jt,Jv⟩
    ·rw[if_neg hx0]at H;cases H
   ·rw[if_neg c3]at H;have Jk:decide (x5<(l0.length:Int))=false:=decide_eq_false c3;simp only[Option.some.injEq,Prod.mk.injEq]at H;obtain⟨rfl,rfl⟩:=H;go_wp2;go_ret;exact⟨rfl,HS.out,HB.out,HK.out⟩
set_option maxHeartbeats 2000000 in
set_option maxRecDepth 100000 in
theorem yT.calls (k:Nat) (P:Nat→Prop) (a0 a1 a2 a3:Int) (v:Value) (l0:List aJ) (m r1:Int) (r2:List aJ) (w0 w:World) (hB:Below w0.heap.size w0 w) (ho:Kd.S fu 53 w w0.heap.size P v l0) (h:fA.f k l0 m=some (r1,r2)):
 Calls Tryz.prog 11 #[.agg #[.int .i64 a0,.int .i64 a1,.int .i64 a2,.int .i64 a3,v],.int .i64 m] w fun e w'=>e= .returned (.int .i64 r1)∧Kd.S fu 53 w' w0.heap.size P v r2∧Below w0.heap.size w0 w'∧Kept w w' P:=by
 have huB:=Tryz.underlying28;obtain⟨A1,c1,rfl⟩:=Kd.dV ho;have H:=am h;have HB:=am (show Below w0.heap.size w0 (w.alloc (.cells #[.int .i64 a0,.int .i64 a1,.int .i64 a2,.int .i64 a3,.slice A1 l0.length c1] 28 (0,0)))from jh hB _);have H1:=am (show Kd.S fu 53 (w.alloc (.cells #[.int .i64 a0,.int .i64 a1,.int .i64 a2,.int .i64 a3,.slice A1 l0.length c1] 28 (0,0))) w0.heap.size P _ _ from Kd.cB ho _);have HK:=am (show Kept w (w.alloc (.cells #[.int .i64 a0,.int .i64 a1,.int .i64 a2,.int .i64 a3,.slice A1 l0.length c1] 28 (0,0))) P from(Kept.refl w _).alloc _);clear hB ho h;go_enter Tryz.func11,Tryz.ntmps11;go_wp2_with fail
 refine(fA.calls k P _ l0 m r1 r2 w0 _ HB.out H1.out H.out).mono ?_;rintro e w3 ⟨rfl,h1,hb,hk⟩;have H3:=am h1;have Jm:=am hb;have Jo:=am (Kept.then_ HK.out hk (fun _ h=>.inl h));clear h1 hb hk;go_wp2;go_ret;exact⟨rfl,H3.out,Jm.out,Jo.out⟩
set_option maxHeartbeats 2000000 in
set_option maxRecDepth 100000 in
theorem DV.calls (k:Nat) (P:Nat→Prop) (c a0 a1 a2 a3:Int) (v:Value) (l0:List aJ) (m r1:Int) (r2:List aJ) (w0 w:World) (hB:Below w0.heap.size w0 w) (ho:Kd.S fu 53 w w0.heap.size P v l0) (h:fA.f k l0 m=some (r1,r2)):
 Calls Tryz.prog 12 #[.agg #[.int .i64 c,.int .i64 a0,.int .i64 a1,.int .i64 a2,.int .i64 a3,v],.int .i64 m] w fun e w'=>e= .returned (.int .i64 r1)∧Kd.S fu 53 w' w0.heap.size P v r2∧Below w0.heap.size w0 w'∧Kept w w' P:=by
 have JH:=Tryz.underlying30;have huB:=Tryz.underlying28;obtain⟨A1,c1,rfl⟩:=Kd.dV ho;have H:=am h;have HB:=am (show Below w0.heap.size w0 (w.alloc (.cells #[.int .i64 c,.int .i64 a0,.int .i64 a1,.int .i64 a2,.int .i64 a3,.slice A1 l0.length c1] 30 (0,0)))from jh hB _);have H1:=am (show Kd.S fu 53 (w.alloc (.cells #[.int .i64 c,.int .i64 a0,.int .i64 a1,.int .i64 a2,.int .i64 a3,.slice A1 l0.length c1] 30 (0,0))) w0.heap.size P _ _ from Kd.cB ho _);have HK:=am (show Kept w (w.alloc (.cells #[.int .i64 c,.int .i64 a0,.int .i64 a1,.int .i64 a2,.int .i64 a3,.slice A1 l0.length c1] 30 (0,0))) P from(Kept.refl w _).alloc _);clear hB ho h;go_enter Tryz.func12,Tryz.ntmps12;go_wp2_with fail
 refine(yT.calls k P a0 a1 a2 a3 _ l0 m r1 r2 w0 _ HB.out H1.out H.out).mono ?_;rintro e w3 ⟨rfl,h1,hb,hk⟩;have H3:=am h1;have Jm:=am hb;have Jo:=am (Kept.then_ HK.out hk (fun _ h=>.inl h));clear h1 hb hk;go_wp2;go_ret;exact⟨rfl,H3.out,Jm.out,Jo.out⟩
end Go.Proofs.YtjmdfghljlmfmaaGreat.QFnExactMineBlock
