/- What the arguments of FnExactMineBlock read as: elements of their kinds, within bounds. -/
import Derived.Test.YtjmdfghljlmfmaaGreatQFnExactMineBlockx0
import Derived.ChangeSlices
import Derived.ProofKit
import Derived.OpenShut
namespace Go.Proofs.YtjmdfghljlmfmaaGreat.QFnExactMineBlock
open Go.RowKit Go.ChangeShapes Go.WideShapes Go.Proofs.YtjmdfghljlmfmaaGreatW.PrintWords Go.Proofs.YtjmdfghljlmfmaaGreatW.PrintLast
set_option linter.unusedVariables false
def Opens {α:Type} (P:Program) (w:World) (d:Kd α) (t:TypeId) (ok:α→Prop):Prop:=
 ∀(H:Type) (enc:TypeId×Value→H) (fuel:Nat) (cs:List Value) (y:DataW H×List MemPlace),DataW.trod enc P w 0 (fun _=>true) true fuel t cs=some y→∃x,d.K w x cs∧ok x
def mR (k:IntKind) (n:Int):Prop:=(Lit.int k n).wf=true
def EN (_:Bool):Prop:=True
def EO (s:ByteArray):Prop:=s.size≤maxLen
def sw {α:Type} (ok:α→Prop) (l:List α):Prop:=l.length≤maxLen∧∀x∈l,ok x
theorem nW {P:Program} {w:World} {t:TypeId} {k:IntKind} (ht:P.underlying t=some (.int k)):Opens P w (Kd.int k) t (mR k):=by
 intro H enc fuel cs y h;obtain⟨n,rfl,_,hw⟩:=DataW.trod_int ht h;exact⟨n,rfl,hw⟩
theorem Ja {P:Program} {w:World} {t:TypeId} (ht:P.underlying t=some .bool):Opens P w Kd.bool t EN:=by
 intro H enc fuel cs y h;obtain⟨b,rfl,_⟩:=DataW.trod_bool ht h;exact⟨b,rfl,trivial⟩
theorem Jb {P:Program} {w:World} {t:TypeId} (ht:P.underlying t=some .string):Opens P w Kd.string t EO:=by
 intro H enc fuel cs y h;obtain⟨b,rfl,_,hs⟩:=DataW.trod_string ht h;exact⟨b,rfl,hs⟩
theorem EF {α:Type} {p:Nat→α→Prop} (n:Nat) (h:∀i,i<n→∃x,p i x):∃l:List α,l.length=n∧∀i x,l[i]? =some x→p i x:=by
 induction n with
 |zero=>exact⟨[],rfl,by intro i x hx;simp at hx⟩
 |succ n ih=>
  obtain⟨l,hl,hp⟩:=ih (fun i hi=>h i (by omega));obtain⟨x,hx⟩:=h n (by omega);refine⟨l++[x],by simp[hl],fun i y hy=>?_⟩;by_cases hi:i<l.length
  ·rw[List.getElem?_append_left hi]at hy;exact hp i y hy
  ·rw[List.getElem?_append_right (by omega)]at hy;have:i-l.length=0:=by
    have:=(List.getElem?_eq_some_iff.1 hy).1;simp at this;omega
   rw[this]at hy;simp at hy;obtain rfl:=hy;(obtain rfl:i=n:=by omega);exact hx
theorem tJ {α:Type} {P:Program} {w:World} {d:Kd α} {t e:TypeId} {ok:α→Prop} (ht:P.underlying t=some (.slice e)) (hc:P.cellsOf e=d.sz) (he:Opens P w d e ok):Opens P w (Kd.slice e d) t (sw ok):=by
 intro H enc fuel cs y h;rcases DataW.trod_slice ht h with⟨rfl,_⟩|⟨a,len,cap,elems,rest,n,_,rfl,_,hb,hl,hm,hlen,hel,_,_⟩
 ·exact⟨[],⟨none,0,rfl,Nat.zero_le _,Kd.wT d w⟩,by simp,by simp⟩
 ·have each:∀i,i<len→∃x,(∃c:List Value,c.length=d.sz∧d.K w x c∧∀j u,c[j]? =some u→w.cell? (a.add (i*d.sz+j))=some u)∧ok x:=by
   intro i hi;have h1:=hel i hi;rw[List.getElem?_eq_getElem (by omega),Option.bind_eq_some_iff]at h1;obtain⟨c,hc1,hc2⟩:=h1;obtain⟨x,hx,hok⟩:=he H enc n c _ hc2;rw[hc]at hc1;obtain⟨_,hcl,hcell⟩:=World.cells?_some hc1;refine⟨x,⟨c,hcl,hx,fun j u hu=>?_⟩,hok⟩;(have hj:j<d.sz:=by have:=(List.getElem?_eq_some_iff.1 hu).1;omega);rw[←Addr.add_add,hcell j hj,hu]
  obtain⟨l,hll,hp⟩:=EF len each;refine⟨l,⟨some a,cap,by rw[hll],by omega,⟨rfl,by unfold maxLen at hm;omega,fun _=>⟨a,rfl,fun j p hj=>(hp j p hj).1⟩⟩⟩,by omega,fun x hx=>?_⟩;obtain⟨i,hi⟩:=List.getElem?_of_mem hx;exact(hp i x hi).2
theorem EC {α:Type} {l:List α} (h:l.length=2):∃c0 c1,l=[c0,c1]:=by
 match l,h with
 |[c0,c1],_=>exact⟨c0,c1,rfl⟩
theorem ze {α:Type} {l:List α} (h:l.length=3):∃c0 c1 c2,l=[c0,c1,c2]:=by
 match l,h with
 |[c0,c1,c2],_=>exact⟨c0,c1,c2,rfl⟩
theorem ED {α:Type} {l:List α} (h:l.length=5):∃c0 c1 c2 c3 c4,l=[c0,c1,c2,c3,c4]:=by
 match l,h with
 |[c0,c1,c2,c3,c4],_=>exact⟨c0,c1,c2,c3,c4,rfl⟩
def zo (x:eu):Prop:=(mR .i64) x.f0∧(mR .i64) x.f1∧(sw (mR .i64)) x.f2
theorem EP (W:World):Opens Tryz.prog W jk 118 zo:=by
 intro H enc fuel cs y h;obtain⟨xs,n,_,_,hl,_,hf⟩:=DataW.trod_struct Tryz.underlying118 h;rw[show Tryz.prog.cellsOf 118=3 by kernel_rfl]at hl;obtain⟨c0,c1,c2,rfl⟩:=ze hl;have f0:=hf 0 _ rfl;obtain⟨y0,hy0⟩:∃y_,xs[0]? =some y_:=⟨_,List.getElem?_eq_getElem (by simp_all)⟩;rw[hy0]at f0;have g0:DataW.trod enc Tryz.prog W 0 (fun _=>true) true n 2 [c0]=some y0:=by
  have e_:Tryz.prog.cellsOf 2=1:=by kernel_rfl
  simpa[e_]using f0
 obtain⟨x0,aB,aL⟩:=(nW (w:=W) Tryz.underlying2) H enc n _ _ g0;have f1:=hf 1 _ rfl;obtain⟨y1,hy1⟩:∃y_,xs[1]? =some y_:=⟨_,List.getElem?_eq_getElem (by simp_all)⟩;rw[hy1]at f1;have g1:DataW.trod enc Tryz.prog W 0 (fun _=>true) true n 2 [c1]=some y1:=by
  have e_:Tryz.prog.cellsOf 2=1:=by kernel_rfl
  simpa[e_]using f1
 obtain⟨x1,aF,aO⟩:=(nW (w:=W) Tryz.underlying2) H enc n _ _ g1;have f2:=hf 2 _ rfl;obtain⟨y2,hy2⟩:∃y_,xs[2]? =some y_:=⟨_,List.getElem?_eq_getElem (by simp_all)⟩;rw[hy2]at f2;have g2:DataW.trod enc Tryz.prog W 0 (fun _=>true) true n 73 [c2]=some y2:=by
  have e_:Tryz.prog.cellsOf 73=1:=by kernel_rfl
  simpa[e_]using f2
 obtain⟨x2,aP,aR⟩:=(tJ (e:=2) Tryz.underlying73 (by kernel_rfl) (nW (w:=W) Tryz.underlying2)) H enc n _ _ g2;exact⟨⟨x0,x1,x2⟩,⟨[c0],[c1,c2],rfl,aB,⟨[c1],[c2],rfl,aF,aP⟩⟩,⟨aL,aO,aR⟩⟩
def zq (x:eB):Prop:=(mR .i64) x.f0∧(sw (mR .i64)) x.f1
theorem ER (W:World):Opens Tryz.prog W jl 121 zq:=by
 intro H enc fuel cs y h;obtain⟨xs,n,_,_,hl,_,hf⟩:=DataW.trod_struct Tryz.underlying121 h;rw[show Tryz.prog.cellsOf 121=2 by kernel_rfl]at hl;obtain⟨c0,c1,rfl⟩:=EC hl;have f0:=hf 0 _ rfl;obtain⟨y0,hy0⟩:∃y_,xs[0]? =some y_:=⟨_,List.getElem?_eq_getElem (by simp_all)⟩;rw[hy0]at f0;have g0:DataW.trod enc Tryz.prog W 0 (fun _=>true) true n 2 [c0]=some y0:=by
  have e_:Tryz.prog.cellsOf 2=1:=by kernel_rfl
  simpa[e_]using f0
 obtain⟨x0,aB,aL⟩:=(nW (w:=W) Tryz.underlying2) H enc n _ _ g0;have f1:=hf 1 _ rfl;obtain⟨y1,hy1⟩:∃y_,xs[1]? =some y_:=⟨_,List.getElem?_eq_getElem (by simp_all)⟩;rw[hy1]at f1;have g1:DataW.trod enc Tryz.prog W 0 (fun _=>true) true n 73 [c1]=some y1:=by
  have e_:Tryz.prog.cellsOf 73=1:=by kernel_rfl
  simpa[e_]using f1
 obtain⟨x1,aF,aO⟩:=(tJ (e:=2) Tryz.underlying73 (by kernel_rfl) (nW (w:=W) Tryz.underlying2)) H enc n _ _ g1;exact⟨⟨x0,x1⟩,⟨[c0],[c1],rfl,aB,aF⟩,⟨aL,aO⟩⟩
def uM (x:fD):Prop:=(mR .i64) x.f0∧(sw zo) x.f1∧(sw zq) x.f2
theorem ET (W:World):Opens Tryz.prog W lG 42 uM:=by
 intro H enc fuel cs y h;obtain⟨xs,n,_,_,hl,_,hf⟩:=DataW.trod_struct Tryz.underlying42 h;rw[show Tryz.prog.cellsOf 42=3 by kernel_rfl]at hl;obtain⟨c0,c1,c2,rfl⟩:=ze hl;have f0:=hf 0 _ rfl;obtain⟨y0,hy0⟩:∃y_,xs[0]? =some y_:=⟨_,List.getElem?_eq_getElem (by simp_all)⟩;rw[hy0]at f0;have g0:DataW.trod enc Tryz.prog W 0 (fun _=>true) true n 2 [c0]=some y0:=by
  have e_:Tryz.prog.cellsOf 2=1:=by kernel_rfl
  simpa[e_]using f0
 obtain⟨x0,aB,aL⟩:=(nW (w:=W) Tryz.underlying2) H enc n _ _ g0;have f1:=hf 1 _ rfl;obtain⟨y1,hy1⟩:∃y_,xs[1]? =some y_:=⟨_,List.getElem?_eq_getElem (by simp_all)⟩;rw[hy1]at f1;have g1:DataW.trod enc Tryz.prog W 0 (fun _=>true) true n 39 [c1]=some y1:=by
  have e_:Tryz.prog.cellsOf 39=1:=by kernel_rfl
  simpa[e_]using f1
 obtain⟨x1,aF,aO⟩:=(tJ (e:=118) Tryz.underlying39 (by kernel_rfl) (EP W)) H enc n _ _ g1;have f2:=hf 2 _ rfl;obtain⟨y2,hy2⟩:∃y_,xs[2]? =some y_:=⟨_,List.getElem?_eq_getElem (by simp_all)⟩;rw[hy2]at f2;have g2:DataW.trod enc Tryz.prog W 0 (fun _=>true) true n 40 [c2]=some y2:=by
  have e_:Tryz.prog.cellsOf 40=1:=by kernel_rfl
  simpa[e_]using f2
 obtain⟨x2,aP,aR⟩:=(tJ (e:=121) Tryz.underlying40 (by kernel_rfl) (ER W)) H enc n _ _ g2;exact⟨⟨x0,x1,x2⟩,⟨[c0],[c1,c2],rfl,aB,⟨[c1],[c2],rfl,aF,aP⟩⟩,⟨aL,aO,aR⟩⟩
structure uj where
 f0:Int
 f1:Int
 f2:Int
 f3:Int
 f4:List fD
def k24:Kd uj:=Kd.oI (Kd.pair (Kd.int .i64) (Kd.pair (Kd.int .i64) (Kd.pair (Kd.int .i64) (Kd.pair (Kd.int .i64) (Kd.slice 42 lG))))) (fun x:uj=>(x.f0,x.f1,x.f2,x.f3,x.f4))
def wH (x:uj):Prop:=(mR .i64) x.f0∧(mR .i64) x.f1∧(mR .i64) x.f2∧(mR .i64) x.f3∧(sw uM) x.f4
theorem ES (W:World):Opens Tryz.prog W k24 24 wH:=by
 intro H enc fuel cs y h;obtain⟨xs,n,_,_,hl,_,hf⟩:=DataW.trod_struct Tryz.underlying24 h;rw[show Tryz.prog.cellsOf 24=5 by kernel_rfl]at hl;obtain⟨c0,c1,c2,c3,c4,rfl⟩:=ED hl;have f0:=hf 0 _ rfl;obtain⟨y0,hy0⟩:∃y_,xs[0]? =some y_:=⟨_,List.getElem?_eq_getElem (by simp_all)⟩;rw[hy0]at f0;have g0:DataW.trod enc Tryz.prog W 0 (fun _=>true) true n 2 [c0]=some y0:=by
  have e_:Tryz.prog.cellsOf 2=1:=by kernel_rfl
  simpa[e_]using f0
 obtain⟨x0,aB,aL⟩:=(nW (w:=W) Tryz.underlying2) H enc n _ _ g0;have f1:=hf 1 _ rfl;obtain⟨y1,hy1⟩:∃y_,xs[1]? =some y_:=⟨_,List.getElem?_eq_getElem (by simp_all)⟩;rw[hy1]at f1;have g1:DataW.trod enc Tryz.prog W 0 (fun _=>true) true n 2 [c1]=some y1:=by
  have e_:Tryz.prog.cellsOf 2=1:=by kernel_rfl
  simpa[e_]using f1
 obtain⟨x1,aF,aO⟩:=(nW (w:=W) Tryz.underlying2) H enc n _ _ g1;have f2:=hf 2 _ rfl;obtain⟨y2,hy2⟩:∃y_,xs[2]? =some y_:=⟨_,List.getElem?_eq_getElem (by simp_all)⟩;rw[hy2]at f2;have g2:DataW.trod enc Tryz.prog W 0 (fun _=>true) true n 2 [c2]=some y2:=by
  have e_:Tryz.prog.cellsOf 2=1:=by kernel_rfl
  simpa[e_]using f2
 obtain⟨x2,aP,aR⟩:=(nW (w:=W) Tryz.underlying2) H enc n _ _ g2;have f3:=hf 3 _ rfl;obtain⟨y3,hy3⟩:∃y_,xs[3]? =some y_:=⟨_,List.getElem?_eq_getElem (by simp_all)⟩;rw[hy3]at f3;have g3:DataW.trod enc Tryz.prog W 0 (fun _=>true) true n 2 [c3]=some y3:=by
  have e_:Tryz.prog.cellsOf 2=1:=by kernel_rfl
  simpa[e_]using f3
 obtain⟨x3,aS,wm⟩:=(nW (w:=W) Tryz.underlying2) H enc n _ _ g3;have f4:=hf 4 _ rfl;obtain⟨y4,hy4⟩:∃y_,xs[4]? =some y_:=⟨_,List.getElem?_eq_getElem (by simp_all)⟩;rw[hy4]at f4;have g4:DataW.trod enc Tryz.prog W 0 (fun _=>true) true n 22 [c4]=some y4:=by
  have e_:Tryz.prog.cellsOf 22=1:=by kernel_rfl
  simpa[e_]using f4
 obtain⟨x4,mg,Ab⟩:=(tJ (e:=42) Tryz.underlying22 (by kernel_rfl) (ET W)) H enc n _ _ g4;exact⟨⟨x0,x1,x2,x3,x4⟩,⟨[c0],[c1,c2,c3,c4],rfl,aB,⟨[c1],[c2,c3,c4],rfl,aF,⟨[c2],[c3,c4],rfl,aP,⟨[c3],[c4],rfl,aS,mg⟩⟩⟩⟩,⟨aL,aO,aR,wm,Ab⟩⟩
end Go.Proofs.YtjmdfghljlmfmaaGreat.QFnExactMineBlock
