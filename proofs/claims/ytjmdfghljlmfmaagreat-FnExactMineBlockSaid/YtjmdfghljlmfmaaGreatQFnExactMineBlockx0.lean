-- written by this session's program (wip/tools/myprint.py)
import Derived.Test.YtjmdfghljlmfmaaGreatProg
import Derived.StillTailTactics
import Derived.Test.YtjmdfghljlmfmaaGreatVFnExactMineBlock
-- squeezed
namespace Go.Proofs.YtjmdfghljlmfmaaGreat.QFnExactMineBlock
open Go.RowKit Go.Proofs.YtjmdfghljlmfmaaGreatW.PrintWords Go.Proofs.YtjmdfghljlmfmaaGreatW.PrintLast Go.Proofs.YtjmdfghljlmfmaaGreatW.PrintMore
attribute [local go_sem] iC iG iF iJ iE iI iD iH
set_option linter.unusedVariables false
set_option linter.unusedSimpArgs false
set_option maxHeartbeats 8000000
set_option maxRecDepth 100000
def yh:Option Int→Value
 |none=>.nilIface
 |some c=>.iface 0 (.int .i64 c)
theorem pq:yh none= .nilIface:=rfl
theorem pz (c:Int):yh (some c)= .iface 0 (.int .i64 c):=rfl
theorem qH:(Tryz.prog.info? 2).map (fun i=>(i.zero,i.size,i.bytes))=some (some (.int .i64 0),1,8):=by kernel_rfl
theorem info5:(Tryz.prog.info? 5).map (fun i=>(i.zero,i.size,i.bytes))=some (some (.int .u8 0),1,1):=by kernel_rfl
theorem wu:(Tryz.prog.info? 53).map (fun i=>(i.zero,i.size,i.bytes))=some (some (.agg #[(.int .i64 0),(.slice none 0 0),(.slice none 0 0)]),3,56):=by kernel_rfl
theorem Il:(Tryz.prog.info? 123).map (fun i=>(i.zero,i.size,i.bytes))=some (some (.slice none 0 0),1,24):=by kernel_rfl
theorem rR:(Tryz.prog.info? 128).map (fun i=>(i.zero,i.size,i.bytes))=some (some (.agg #[(.int .i64 0),(.int .i64 0),(.slice none 0 0)]),3,40):=by kernel_rfl
theorem wo:(Tryz.prog.info? 130).map (fun i=>(i.zero,i.size,i.bytes))=some (some (.agg #[(.int .i64 0),(.slice none 0 0)]),2,32):=by kernel_rfl
def uQ (xs:List (List Int)) (i:Int):(List Int):=xs.getD i.toNat ([]:List Int)
theorem HY {w:World} {A:Option Addr} {n:Nat} {xs:List (List Int)} (h:Kd.C (Kd.slice 2 (Kd.int .i64)) w A n xs) (i:Int) (h0:0≤i) (h1:i<n):∃ad A0 c0,A=some ad∧w.cell? (ad.add i.toNat)=some (.slice A0 (uQ xs i).length c0)∧(uQ xs i).length≤c0∧(Kd.int .i64).C w A0 (uQ xs i).length (uQ xs i):=by
 obtain⟨ad,c,e,_,hK,hc0⟩:=Kd.kW h ([]:List Int) i h0 h1;have hc:∀j u,c[j]? =some u→w.cell? (ad.add (i.toNat*1+j))=some u:=hc0;obtain⟨A0,c0,rfl,l0,g0⟩:=hK;exact⟨ad,A0,c0,e,by have hq:=hc 0 _ rfl;rwa [Nat.mul_one,Nat.add_zero]at hq,l0,g0⟩
structure eu where
 f0:Int
 f1:Int
 f2:(List Int)
def Ai:eu:=⟨(0:Int),(0:Int),([]:List Int)⟩
def jk:Kd eu:=Kd.oI (Kd.pair (Kd.int .i64) (Kd.pair (Kd.int .i64) (Kd.slice 2 (Kd.int .i64)))) (fun x:eu=>(x.f0,x.f1,x.f2))
theorem wz {w:World} {x:eu} {cs:List Value} (h:jk.K w x cs):∃A2 c2,cs=[.int .i64 x.f0,.int .i64 x.f1,.slice A2 x.f2.length c2]∧x.f2.length≤c2∧(Kd.int .i64).C w A2 x.f2.length x.f2:=by
 obtain⟨_,_,rfl,rfl,⟨_,_,rfl,rfl,⟨A2,c2,rfl,l2,g2⟩⟩⟩:=h;exact⟨A2,c2,rfl,l2,g2⟩
theorem Ir {w:World} {base:Nat} {ok:Nat→Prop} {x:eu} {cs:List Value} (h:jk.M w base ok x cs):∃v2,cs=[.int .i64 x.f0,.int .i64 x.f1,v2]∧(Kd.int .i64).R 2 w base ok v2 x.f2:=by
 obtain⟨_,_,rfl,rfl,⟨_,_,rfl,rfl,⟨v2,rfl,g2⟩⟩⟩:=h;exact⟨v2,rfl,g2⟩
theorem Dl (w:World) (x:eu) {A2:Option Addr} {c2:Nat} (l2:x.f2.length≤c2) (g2:(Kd.int .i64).C w A2 x.f2.length x.f2):jk.K w x [.int .i64 x.f0,.int .i64 x.f1,.slice A2 x.f2.length c2]:=⟨[.int .i64 x.f0],[.int .i64 x.f1,.slice A2 x.f2.length c2],rfl,rfl,⟨[.int .i64 x.f1],[.slice A2 x.f2.length c2],rfl,rfl,⟨A2,c2,rfl,l2,g2⟩⟩⟩
theorem Ip (w:World) (base:Nat) (ok:Nat→Prop) (x:eu) {v2:Value} (g2:(Kd.int .i64).R 2 w base ok v2 x.f2):jk.M w base ok x [.int .i64 x.f0,.int .i64 x.f1,v2]:=⟨[.int .i64 x.f0],[.int .i64 x.f1,v2],rfl,rfl,⟨[.int .i64 x.f1],[v2],rfl,rfl,⟨v2,rfl,g2⟩⟩⟩
theorem Iq {W:World} {ok:Nat→Prop} {x:eu} {cs:List Value} (h:Kd.FK jk W ok x cs):∃A2 c2,cs=[.int .i64 x.f0,.int .i64 x.f1,.slice A2 x.f2.length c2]∧x.f2.length≤c2∧Kd.F (Kd.int .i64) W ok A2 x.f2.length x.f2:=by
 obtain⟨A2,c2,rfl,l2,_⟩:=wz (Kd.nK h);exact⟨A2,c2,rfl,l2,(fun W' hW=>by obtain⟨aL,aP,he,wm,aS⟩:=wz (h W' hW);injection(sj (show some (Value.slice A2 x.f2.length c2)=some (Value.slice aL x.f2.length aP)from congrArg (fun l=>l[2]?) he))with aB _ _;rw[aB];exact aS)⟩
theorem Io (W:World) (ok:Nat→Prop) (x:eu) {A2:Option Addr} {c2:Nat} (l2:x.f2.length≤c2) (g2:Kd.F (Kd.int .i64) W ok A2 x.f2.length x.f2):Kd.FK jk W ok x [.int .i64 x.f0,.int .i64 x.f1,.slice A2 x.f2.length c2]:=fun W2 hW=>Dl W2 x l2 (g2 W2 hW)
def gu (xs:List eu) (i:Int):eu:=xs.getD i.toNat Ai
theorem vO {w:World} {A:Option Addr} {n:Nat} {xs:List eu} (h:Kd.C jk w A n xs) (i:Int) (h0:0≤i) (h1:i<n):∃ad A2 c2,A=some ad∧w.cell? (ad.add (i.toNat*3))=some (.int .i64 (gu xs i).f0)∧w.cell? ⟨(ad.add (i.toNat*3)).block,(ad.add (i.toNat*3)).off+1,none⟩=some (.int .i64 (gu xs i).f1)∧w.cell? ⟨(ad.add (i.toNat*3)).block,(ad.add (i.toNat*3)).off+2,none⟩=some (.slice A2 (gu xs i).f2.length c2)∧(gu xs i).f2.length≤c2∧(Kd.int .i64).C w A2 (gu xs i).f2.length (gu xs i).f2:=by
 obtain⟨ad,c,e,_,hK,hc0⟩:=Kd.kW h Ai i h0 h1;have hc:∀j u,c[j]? =some u→w.cell? (ad.add (i.toNat*3+j))=some u:=hc0;obtain⟨A2,c2,rfl,l2,g2⟩:=wz hK;exact⟨ad,A2,c2,e,hc 0 _ rfl,by rw[←lq _ _ 1 (by omega)];exact hc 1 _ rfl,by rw[←lq _ _ 2 (by omega)];exact hc 2 _ rfl,l2,g2⟩
structure eB where
 f0:Int
 f1:(List Int)
def Aj:eB:=⟨(0:Int),([]:List Int)⟩
def jl:Kd eB:=Kd.oI (Kd.pair (Kd.int .i64) (Kd.slice 2 (Kd.int .i64))) (fun x:eB=>(x.f0,x.f1))
theorem wB {w:World} {x:eB} {cs:List Value} (h:jl.K w x cs):∃A1 c1,cs=[.int .i64 x.f0,.slice A1 x.f1.length c1]∧x.f1.length≤c1∧(Kd.int .i64).C w A1 x.f1.length x.f1:=by
 obtain⟨_,_,rfl,rfl,⟨A1,c1,rfl,l1,g1⟩⟩:=h;exact⟨A1,c1,rfl,l1,g1⟩
theorem Iz {w:World} {base:Nat} {ok:Nat→Prop} {x:eB} {cs:List Value} (h:jl.M w base ok x cs):∃v1,cs=[.int .i64 x.f0,v1]∧(Kd.int .i64).R 2 w base ok v1 x.f1:=by
 obtain⟨_,_,rfl,rfl,⟨v1,rfl,g1⟩⟩:=h;exact⟨v1,rfl,g1⟩
theorem Dm (w:World) (x:eB) {A1:Option Addr} {c1:Nat} (l1:x.f1.length≤c1) (g1:(Kd.int .i64).C w A1 x.f1.length x.f1):jl.K w x [.int .i64 x.f0,.slice A1 x.f1.length c1]:=⟨[.int .i64 x.f0],[.slice A1 x.f1.length c1],rfl,rfl,⟨A1,c1,rfl,l1,g1⟩⟩
theorem Iw (w:World) (base:Nat) (ok:Nat→Prop) (x:eB) {v1:Value} (g1:(Kd.int .i64).R 2 w base ok v1 x.f1):jl.M w base ok x [.int .i64 x.f0,v1]:=⟨[.int .i64 x.f0],[v1],rfl,rfl,⟨v1,rfl,g1⟩⟩
theorem Iy {W:World} {ok:Nat→Prop} {x:eB} {cs:List Value} (h:Kd.FK jl W ok x cs):∃A1 c1,cs=[.int .i64 x.f0,.slice A1 x.f1.length c1]∧x.f1.length≤c1∧Kd.F (Kd.int .i64) W ok A1 x.f1.length x.f1:=by
 obtain⟨A1,c1,rfl,l1,_⟩:=wB (Kd.nK h);exact⟨A1,c1,rfl,l1,(fun W' hW=>by obtain⟨aF,aO,he,mg,aR⟩:=wB (h W' hW);injection(sj (show some (Value.slice A1 x.f1.length c1)=some (Value.slice aF x.f1.length aO)from congrArg (fun l=>l[1]?) he))with aB _ _;rw[aB];exact aR)⟩
theorem Iu (W:World) (ok:Nat→Prop) (x:eB) {A1:Option Addr} {c1:Nat} (l1:x.f1.length≤c1) (g1:Kd.F (Kd.int .i64) W ok A1 x.f1.length x.f1):Kd.FK jl W ok x [.int .i64 x.f0,.slice A1 x.f1.length c1]:=fun W2 hW=>Dm W2 x l1 (g1 W2 hW)
def jc (xs:List eB) (i:Int):eB:=xs.getD i.toNat Aj
theorem vP {w:World} {A:Option Addr} {n:Nat} {xs:List eB} (h:Kd.C jl w A n xs) (i:Int) (h0:0≤i) (h1:i<n):∃ad A1 c1,A=some ad∧w.cell? (ad.add (i.toNat*2))=some (.int .i64 (jc xs i).f0)∧w.cell? ⟨(ad.add (i.toNat*2)).block,(ad.add (i.toNat*2)).off+1,none⟩=some (.slice A1 (jc xs i).f1.length c1)∧(jc xs i).f1.length≤c1∧(Kd.int .i64).C w A1 (jc xs i).f1.length (jc xs i).f1:=by
 obtain⟨ad,c,e,_,hK,hc0⟩:=Kd.kW h Aj i h0 h1;have hc:∀j u,c[j]? =some u→w.cell? (ad.add (i.toNat*2+j))=some u:=hc0;obtain⟨A1,c1,rfl,l1,g1⟩:=wB hK;exact⟨ad,A1,c1,e,hc 0 _ rfl,by rw[←lq _ _ 1 (by omega)];exact hc 1 _ rfl,l1,g1⟩
def uT (xs:List (List eu)) (i:Int):(List eu):=xs.getD i.toNat ([]:List eu)
theorem Ib {w:World} {A:Option Addr} {n:Nat} {xs:List (List eu)} (h:Kd.C (Kd.slice 118 jk) w A n xs) (i:Int) (h0:0≤i) (h1:i<n):∃ad A0 c0,A=some ad∧w.cell? (ad.add i.toNat)=some (.slice A0 (uT xs i).length c0)∧(uT xs i).length≤c0∧jk.C w A0 (uT xs i).length (uT xs i):=by
 obtain⟨ad,c,e,_,hK,hc0⟩:=Kd.kW h ([]:List eu) i h0 h1;have hc:∀j u,c[j]? =some u→w.cell? (ad.add (i.toNat*1+j))=some u:=hc0;obtain⟨A0,c0,rfl,l0,g0⟩:=hK;exact⟨ad,A0,c0,e,by have hq:=hc 0 _ rfl;rwa [Nat.mul_one,Nat.add_zero]at hq,l0,g0⟩
def uU (xs:List (List eB)) (i:Int):(List eB):=xs.getD i.toNat ([]:List eB)
theorem Ic {w:World} {A:Option Addr} {n:Nat} {xs:List (List eB)} (h:Kd.C (Kd.slice 121 jl) w A n xs) (i:Int) (h0:0≤i) (h1:i<n):∃ad A0 c0,A=some ad∧w.cell? (ad.add i.toNat)=some (.slice A0 (uU xs i).length c0)∧(uU xs i).length≤c0∧jl.C w A0 (uU xs i).length (uU xs i):=by
 obtain⟨ad,c,e,_,hK,hc0⟩:=Kd.kW h ([]:List eB) i h0 h1;have hc:∀j u,c[j]? =some u→w.cell? (ad.add (i.toNat*1+j))=some u:=hc0;obtain⟨A0,c0,rfl,l0,g0⟩:=hK;exact⟨ad,A0,c0,e,by have hq:=hc 0 _ rfl;rwa [Nat.mul_one,Nat.add_zero]at hq,l0,g0⟩
structure fD where
 f0:Int
 f1:(List eu)
 f2:(List eB)
def z42:fD:=⟨(0:Int),([]:List eu),([]:List eB)⟩
def lG:Kd fD:=Kd.oI (Kd.pair (Kd.int .i64) (Kd.pair (Kd.slice 118 jk) (Kd.slice 121 jl))) (fun x:fD=>(x.f0,x.f1,x.f2))
theorem uI {w:World} {x:fD} {cs:List Value} (h:lG.K w x cs):∃A1 c1 A2 c2,cs=[.int .i64 x.f0,.slice A1 x.f1.length c1,.slice A2 x.f2.length c2]∧x.f1.length≤c1∧jk.C w A1 x.f1.length x.f1∧x.f2.length≤c2∧jl.C w A2 x.f2.length x.f2:=by
 obtain⟨_,_,rfl,rfl,⟨_,_,rfl,⟨A1,c1,rfl,l1,g1⟩,⟨A2,c2,rfl,l2,g2⟩⟩⟩:=h;exact⟨A1,c1,A2,c2,rfl,l1,g1,l2,g2⟩
theorem IW {w:World} {base:Nat} {ok:Nat→Prop} {x:fD} {cs:List Value} (h:lG.M w base ok x cs):∃v1 v2,cs=[.int .i64 x.f0,v1,v2]∧jk.R 118 w base ok v1 x.f1∧jl.R 121 w base ok v2 x.f2:=by
 obtain⟨_,_,rfl,rfl,⟨_,_,rfl,⟨v1,rfl,g1⟩,⟨v2,rfl,g2⟩⟩⟩:=h;exact⟨v1,v2,rfl,g1,g2⟩
theorem Dp (w:World) (x:fD) {A1:Option Addr} {c1:Nat} (l1:x.f1.length≤c1) (g1:jk.C w A1 x.f1.length x.f1) {A2:Option Addr} {c2:Nat} (l2:x.f2.length≤c2) (g2:jl.C w A2 x.f2.length x.f2):lG.K w x [.int .i64 x.f0,.slice A1 x.f1.length c1,.slice A2 x.f2.length c2]:=⟨[.int .i64 x.f0],[.slice A1 x.f1.length c1,.slice A2 x.f2.length c2],rfl,rfl,⟨[.slice A1 x.f1.length c1],[.slice A2 x.f2.length c2],rfl,⟨A1,c1,rfl,l1,g1⟩,⟨A2,c2,rfl,l2,g2⟩⟩⟩
theorem IU (w:World) (base:Nat) (ok:Nat→Prop) (x:fD) {v1:Value} (g1:jk.R 118 w base ok v1 x.f1) {v2:Value} (g2:jl.R 121 w base ok v2 x.f2):lG.M w base ok x [.int .i64 x.f0,v1,v2]:=⟨[.int .i64 x.f0],[v1,v2],rfl,rfl,⟨[v1],[v2],rfl,⟨v1,rfl,g1⟩,⟨v2,rfl,g2⟩⟩⟩
theorem IV {W:World} {ok:Nat→Prop} {x:fD} {cs:List Value} (h:Kd.FK lG W ok x cs):∃A1 c1 A2 c2,cs=[.int .i64 x.f0,.slice A1 x.f1.length c1,.slice A2 x.f2.length c2]∧x.f1.length≤c1∧Kd.F jk W ok A1 x.f1.length x.f1∧x.f2.length≤c2∧Kd.F jl W ok A2 x.f2.length x.f2:=by
 obtain⟨A1,c1,A2,c2,rfl,l1,_,l2,_⟩:=uI (Kd.nK h);exact⟨A1,c1,A2,c2,rfl,l1,(fun W' hW=>by obtain⟨aF,aO,aL,aP,he,mg,aR,wm,aS⟩:=uI (h W' hW);injection(sj (show some (Value.slice A1 x.f1.length c1)=some (Value.slice aF x.f1.length aO)from congrArg (fun l=>l[1]?) he))with aB _ _;rw[aB];exact aR),l2,(fun W' hW=>by obtain⟨aF,aO,aL,aP,he,mg,aR,wm,aS⟩:=uI (h W' hW);injection(sj (show some (Value.slice A2 x.f2.length c2)=some (Value.slice aL x.f2.length aP)from congrArg (fun l=>l[2]?) he))with aB _ _;rw[aB];exact aS)⟩
theorem IQ (W:World) (ok:Nat→Prop) (x:fD) {A1:Option Addr} {c1:Nat} (l1:x.f1.length≤c1) (g1:Kd.F jk W ok A1 x.f1.length x.f1) {A2:Option Addr} {c2:Nat} (l2:x.f2.length≤c2) (g2:Kd.F jl W ok A2 x.f2.length x.f2):Kd.FK lG W ok x [.int .i64 x.f0,.slice A1 x.f1.length c1,.slice A2 x.f2.length c2]:=fun W2 hW=>Dp W2 x l1 (g1 W2 hW) l2 (g2 W2 hW)
def fB (xs:List fD) (i:Int):fD:=xs.getD i.toNat z42
theorem vQ {w:World} {A:Option Addr} {n:Nat} {xs:List fD} (h:Kd.C lG w A n xs) (i:Int) (h0:0≤i) (h1:i<n):∃ad A1 c1 A2 c2,A=some ad∧w.cell? (ad.add (i.toNat*3))=some (.int .i64 (fB xs i).f0)∧w.cell? ⟨(ad.add (i.toNat*3)).block,(ad.add (i.toNat*3)).off+1,none⟩=some (.slice A1 (fB xs i).f1.length c1)∧w.cell? ⟨(ad.add (i.toNat*3)).block,(ad.add (i.toNat*3)).off+2,none⟩=some (.slice A2 (fB xs i).f2.length c2)∧(fB xs i).f1.length≤c1∧jk.C w A1 (fB xs i).f1.length (fB xs i).f1∧(fB xs i).f2.length≤c2∧jl.C w A2 (fB xs i).f2.length (fB xs i).f2:=by
 obtain⟨ad,c,e,_,hK,hc0⟩:=Kd.kW h z42 i h0 h1;have hc:∀j u,c[j]? =some u→w.cell? (ad.add (i.toNat*3+j))=some u:=hc0;obtain⟨A1,c1,A2,c2,rfl,l1,g1,l2,g2⟩:=uI hK;exact⟨ad,A1,c1,A2,c2,e,hc 0 _ rfl,by rw[←lq _ _ 1 (by omega)];exact hc 1 _ rfl,by rw[←lq _ _ 2 (by omega)];exact hc 2 _ rfl,l1,g1,l2,g2⟩
structure aM where
 f0:Int
 f1:Int
 f2:(List Int)
def jd:aM:=⟨(0:Int),(0:Int),([]:List Int)⟩
def bM:Kd aM:=Kd.oI (Kd.pair (Kd.int .i64) (Kd.pair (Kd.int .i64) (Kd.slice 2 (Kd.int .i64)))) (fun x:aM=>(x.f0,x.f1,x.f2))
theorem wC {w:World} {x:aM} {cs:List Value} (h:bM.K w x cs):∃A2 c2,cs=[.int .i64 x.f0,.int .i64 x.f1,.slice A2 x.f2.length c2]∧x.f2.length≤c2∧(Kd.int .i64).C w A2 x.f2.length x.f2:=by
 obtain⟨_,_,rfl,rfl,⟨_,_,rfl,rfl,⟨A2,c2,rfl,l2,g2⟩⟩⟩:=h;exact⟨A2,c2,rfl,l2,g2⟩
theorem rX {w:World} {base:Nat} {ok:Nat→Prop} {x:aM} {cs:List Value} (h:bM.M w base ok x cs):∃v2,cs=[.int .i64 x.f0,.int .i64 x.f1,v2]∧(Kd.int .i64).R 2 w base ok v2 x.f2:=by
 obtain⟨_,_,rfl,rfl,⟨_,_,rfl,rfl,⟨v2,rfl,g2⟩⟩⟩:=h;exact⟨v2,rfl,g2⟩
theorem yN (w:World) (x:aM) {A2:Option Addr} {c2:Nat} (l2:x.f2.length≤c2) (g2:(Kd.int .i64).C w A2 x.f2.length x.f2):bM.K w x [.int .i64 x.f0,.int .i64 x.f1,.slice A2 x.f2.length c2]:=⟨[.int .i64 x.f0],[.int .i64 x.f1,.slice A2 x.f2.length c2],rfl,rfl,⟨[.int .i64 x.f1],[.slice A2 x.f2.length c2],rfl,rfl,⟨A2,c2,rfl,l2,g2⟩⟩⟩
theorem pX (w:World) (base:Nat) (ok:Nat→Prop) (x:aM) {v2:Value} (g2:(Kd.int .i64).R 2 w base ok v2 x.f2):bM.M w base ok x [.int .i64 x.f0,.int .i64 x.f1,v2]:=⟨[.int .i64 x.f0],[.int .i64 x.f1,v2],rfl,rfl,⟨[.int .i64 x.f1],[v2],rfl,rfl,⟨v2,rfl,g2⟩⟩⟩
theorem IC {W:World} {ok:Nat→Prop} {x:aM} {cs:List Value} (h:Kd.FK bM W ok x cs):∃A2 c2,cs=[.int .i64 x.f0,.int .i64 x.f1,.slice A2 x.f2.length c2]∧x.f2.length≤c2∧Kd.F (Kd.int .i64) W ok A2 x.f2.length x.f2:=by
 obtain⟨A2,c2,rfl,l2,_⟩:=wC (Kd.nK h);exact⟨A2,c2,rfl,l2,(fun W' hW=>by obtain⟨aL,aP,he,wm,aS⟩:=wC (h W' hW);injection(sj (show some (Value.slice A2 x.f2.length c2)=some (Value.slice aL x.f2.length aP)from congrArg (fun l=>l[2]?) he))with aB _ _;rw[aB];exact aS)⟩
theorem IB (W:World) (ok:Nat→Prop) (x:aM) {A2:Option Addr} {c2:Nat} (l2:x.f2.length≤c2) (g2:Kd.F (Kd.int .i64) W ok A2 x.f2.length x.f2):Kd.FK bM W ok x [.int .i64 x.f0,.int .i64 x.f1,.slice A2 x.f2.length c2]:=fun W2 hW=>yN W2 x l2 (g2 W2 hW)
def aD (xs:List aM) (i:Int):aM:=xs.getD i.toNat jd
theorem dI {w:World} {A:Option Addr} {n:Nat} {xs:List aM} (h:Kd.C bM w A n xs) (i:Int) (h0:0≤i) (h1:i<n):∃ad A2 c2,A=some ad∧w.cell? (ad.add (i.toNat*3))=some (.int .i64 (aD xs i).f0)∧w.cell? ⟨(ad.add (i.toNat*3)).block,(ad.add (i.toNat*3)).off+1,none⟩=some (.int .i64 (aD xs i).f1)∧w.cell? ⟨(ad.add (i.toNat*3)).block,(ad.add (i.toNat*3)).off+2,none⟩=some (.slice A2 (aD xs i).f2.length c2)∧(aD xs i).f2.length≤c2∧(Kd.int .i64).C w A2 (aD xs i).f2.length (aD xs i).f2:=by
 obtain⟨ad,c,e,_,hK,hc0⟩:=Kd.kW h jd i h0 h1;have hc:∀j u,c[j]? =some u→w.cell? (ad.add (i.toNat*3+j))=some u:=hc0;obtain⟨A2,c2,rfl,l2,g2⟩:=wC hK;exact⟨ad,A2,c2,e,hc 0 _ rfl,by rw[←lq _ _ 1 (by omega)];exact hc 1 _ rfl,by rw[←lq _ _ 2 (by omega)];exact hc 2 _ rfl,l2,g2⟩
structure aT where
 f0:Int
 f1:(List Int)
def z130:aT:=⟨(0:Int),([]:List Int)⟩
def bY:Kd aT:=Kd.oI (Kd.pair (Kd.int .i64) (Kd.slice 2 (Kd.int .i64))) (fun x:aT=>(x.f0,x.f1))
theorem wD {w:World} {x:aT} {cs:List Value} (h:bY.K w x cs):∃A1 c1,cs=[.int .i64 x.f0,.slice A1 x.f1.length c1]∧x.f1.length≤c1∧(Kd.int .i64).C w A1 x.f1.length x.f1:=by
 obtain⟨_,_,rfl,rfl,⟨A1,c1,rfl,l1,g1⟩⟩:=h;exact⟨A1,c1,rfl,l1,g1⟩
theorem tu {w:World} {base:Nat} {ok:Nat→Prop} {x:aT} {cs:List Value} (h:bY.M w base ok x cs):∃v1,cs=[.int .i64 x.f0,v1]∧(Kd.int .i64).R 2 w base ok v1 x.f1:=by
 obtain⟨_,_,rfl,rfl,⟨v1,rfl,g1⟩⟩:=h;exact⟨v1,rfl,g1⟩
theorem Dn (w:World) (x:aT) {A1:Option Addr} {c1:Nat} (l1:x.f1.length≤c1) (g1:(Kd.int .i64).C w A1 x.f1.length x.f1):bY.K w x [.int .i64 x.f0,.slice A1 x.f1.length c1]:=⟨[.int .i64 x.f0],[.slice A1 x.f1.length c1],rfl,rfl,⟨A1,c1,rfl,l1,g1⟩⟩
theorem rY (w:World) (base:Nat) (ok:Nat→Prop) (x:aT) {v1:Value} (g1:(Kd.int .i64).R 2 w base ok v1 x.f1):bY.M w base ok x [.int .i64 x.f0,v1]:=⟨[.int .i64 x.f0],[v1],rfl,rfl,⟨v1,rfl,g1⟩⟩
theorem IG {W:World} {ok:Nat→Prop} {x:aT} {cs:List Value} (h:Kd.FK bY W ok x cs):∃A1 c1,cs=[.int .i64 x.f0,.slice A1 x.f1.length c1]∧x.f1.length≤c1∧Kd.F (Kd.int .i64) W ok A1 x.f1.length x.f1:=by
 obtain⟨A1,c1,rfl,l1,_⟩:=wD (Kd.nK h);exact⟨A1,c1,rfl,l1,(fun W' hW=>by obtain⟨aF,aO,he,mg,aR⟩:=wD (h W' hW);injection(sj (show some (Value.slice A1 x.f1.length c1)=some (Value.slice aF x.f1.length aO)from congrArg (fun l=>l[1]?) he))with aB _ _;rw[aB];exact aR)⟩
theorem IE (W:World) (ok:Nat→Prop) (x:aT) {A1:Option Addr} {c1:Nat} (l1:x.f1.length≤c1) (g1:Kd.F (Kd.int .i64) W ok A1 x.f1.length x.f1):Kd.FK bY W ok x [.int .i64 x.f0,.slice A1 x.f1.length c1]:=fun W2 hW=>Dn W2 x l1 (g1 W2 hW)
def aX (xs:List aT) (i:Int):aT:=xs.getD i.toNat z130
theorem iY {w:World} {A:Option Addr} {n:Nat} {xs:List aT} (h:Kd.C bY w A n xs) (i:Int) (h0:0≤i) (h1:i<n):∃ad A1 c1,A=some ad∧w.cell? (ad.add (i.toNat*2))=some (.int .i64 (aX xs i).f0)∧w.cell? ⟨(ad.add (i.toNat*2)).block,(ad.add (i.toNat*2)).off+1,none⟩=some (.slice A1 (aX xs i).f1.length c1)∧(aX xs i).f1.length≤c1∧(Kd.int .i64).C w A1 (aX xs i).f1.length (aX xs i).f1:=by
 obtain⟨ad,c,e,_,hK,hc0⟩:=Kd.kW h z130 i h0 h1;have hc:∀j u,c[j]? =some u→w.cell? (ad.add (i.toNat*2+j))=some u:=hc0;obtain⟨A1,c1,rfl,l1,g1⟩:=wD hK;exact⟨ad,A1,c1,e,hc 0 _ rfl,by rw[←lq _ _ 1 (by omega)];exact hc 1 _ rfl,l1,g1⟩
def uV (xs:List (List aM)) (i:Int):(List aM):=xs.getD i.toNat ([]:List aM)
theorem Ie {w:World} {A:Option Addr} {n:Nat} {xs:List (List aM)} (h:Kd.C (Kd.slice 128 bM) w A n xs) (i:Int) (h0:0≤i) (h1:i<n):∃ad A0 c0,A=some ad∧w.cell? (ad.add i.toNat)=some (.slice A0 (uV xs i).length c0)∧(uV xs i).length≤c0∧bM.C w A0 (uV xs i).length (uV xs i):=by
 obtain⟨ad,c,e,_,hK,hc0⟩:=Kd.kW h ([]:List aM) i h0 h1;have hc:∀j u,c[j]? =some u→w.cell? (ad.add (i.toNat*1+j))=some u:=hc0;obtain⟨A0,c0,rfl,l0,g0⟩:=hK;exact⟨ad,A0,c0,e,by have hq:=hc 0 _ rfl;rwa [Nat.mul_one,Nat.add_zero]at hq,l0,g0⟩
def uR (xs:List (List aT)) (i:Int):(List aT):=xs.getD i.toNat ([]:List aT)
theorem HZ {w:World} {A:Option Addr} {n:Nat} {xs:List (List aT)} (h:Kd.C (Kd.slice 130 bY) w A n xs) (i:Int) (h0:0≤i) (h1:i<n):∃ad A0 c0,A=some ad∧w.cell? (ad.add i.toNat)=some (.slice A0 (uR xs i).length c0)∧(uR xs i).length≤c0∧bY.C w A0 (uR xs i).length (uR xs i):=by
 obtain⟨ad,c,e,_,hK,hc0⟩:=Kd.kW h ([]:List aT) i h0 h1;have hc:∀j u,c[j]? =some u→w.cell? (ad.add (i.toNat*1+j))=some u:=hc0;obtain⟨A0,c0,rfl,l0,g0⟩:=hK;exact⟨ad,A0,c0,e,by have hq:=hc 0 _ rfl;rwa [Nat.mul_one,Nat.add_zero]at hq,l0,g0⟩
structure aJ where
 f0:Int
 f1:(List aM)
 f2:(List aT)
def z53:aJ:=⟨(0:Int),([]:List aM),([]:List aT)⟩
def dF:Kd aJ:=Kd.oI (Kd.pair (Kd.int .i64) (Kd.pair (Kd.slice 128 bM) (Kd.slice 130 bY))) (fun x:aJ=>(x.f0,x.f1,x.f2))
theorem uK {w:World} {x:aJ} {cs:List Value} (h:dF.K w x cs):∃A1 c1 A2 c2,cs=[.int .i64 x.f0,.slice A1 x.f1.length c1,.slice A2 x.f2.length c2]∧x.f1.length≤c1∧bM.C w A1 x.f1.length x.f1∧x.f2.length≤c2∧bY.C w A2 x.f2.length x.f2:=by
 obtain⟨_,_,rfl,rfl,⟨_,_,rfl,⟨A1,c1,rfl,l1,g1⟩,⟨A2,c2,rfl,l2,g2⟩⟩⟩:=h;exact⟨A1,c1,A2,c2,rfl,l1,g1,l2,g2⟩
theorem IZ {w:World} {base:Nat} {ok:Nat→Prop} {x:aJ} {cs:List Value} (h:dF.M w base ok x cs):∃v1 v2,cs=[.int .i64 x.f0,v1,v2]∧bM.R 128 w base ok v1 x.f1∧bY.R 130 w base ok v2 x.f2:=by
 obtain⟨_,_,rfl,rfl,⟨_,_,rfl,⟨v1,rfl,g1⟩,⟨v2,rfl,g2⟩⟩⟩:=h;exact⟨v1,v2,rfl,g1,g2⟩
theorem uJ (w:World) (x:aJ) {A1:Option Addr} {c1:Nat} (l1:x.f1.length≤c1) (g1:bM.C w A1 x.f1.length x.f1) {A2:Option Addr} {c2:Nat} (l2:x.f2.length≤c2) (g2:bY.C w A2 x.f2.length x.f2):dF.K w x [.int .i64 x.f0,.slice A1 x.f1.length c1,.slice A2 x.f2.length c2]:=⟨[.int .i64 x.f0],[.slice A1 x.f1.length c1,.slice A2 x.f2.length c2],rfl,rfl,⟨[.slice A1 x.f1.length c1],[.slice A2 x.f2.length c2],rfl,⟨A1,c1,rfl,l1,g1⟩,⟨A2,c2,rfl,l2,g2⟩⟩⟩
theorem Dq (w:World) (base:Nat) (ok:Nat→Prop) (x:aJ) {v1:Value} (g1:bM.R 128 w base ok v1 x.f1) {v2:Value} (g2:bY.R 130 w base ok v2 x.f2):dF.M w base ok x [.int .i64 x.f0,v1,v2]:=⟨[.int .i64 x.f0],[v1,v2],rfl,rfl,⟨[v1],[v2],rfl,⟨v1,rfl,g1⟩,⟨v2,rfl,g2⟩⟩⟩
theorem IY {W:World} {ok:Nat→Prop} {x:aJ} {cs:List Value} (h:Kd.FK dF W ok x cs):∃A1 c1 A2 c2,cs=[.int .i64 x.f0,.slice A1 x.f1.length c1,.slice A2 x.f2.length c2]∧x.f1.length≤c1∧Kd.F bM W ok A1 x.f1.length x.f1∧x.f2.length≤c2∧Kd.F bY W ok A2 x.f2.length x.f2:=by
 obtain⟨A1,c1,A2,c2,rfl,l1,_,l2,_⟩:=uK (Kd.nK h);exact⟨A1,c1,A2,c2,rfl,l1,(fun W' hW=>by obtain⟨aF,aO,aL,aP,he,mg,aR,wm,aS⟩:=uK (h W' hW);injection(sj (show some (Value.slice A1 x.f1.length c1)=some (Value.slice aF x.f1.length aO)from congrArg (fun l=>l[1]?) he))with aB _ _;rw[aB];exact aR),l2,(fun W' hW=>by obtain⟨aF,aO,aL,aP,he,mg,aR,wm,aS⟩:=uK (h W' hW);injection(sj (show some (Value.slice A2 x.f2.length c2)=some (Value.slice aL x.f2.length aP)from congrArg (fun l=>l[2]?) he))with aB _ _;rw[aB];exact aS)⟩
theorem IX (W:World) (ok:Nat→Prop) (x:aJ) {A1:Option Addr} {c1:Nat} (l1:x.f1.length≤c1) (g1:Kd.F bM W ok A1 x.f1.length x.f1) {A2:Option Addr} {c2:Nat} (l2:x.f2.length≤c2) (g2:Kd.F bY W ok A2 x.f2.length x.f2):Kd.FK dF W ok x [.int .i64 x.f0,.slice A1 x.f1.length c1,.slice A2 x.f2.length c2]:=fun W2 hW=>uJ W2 x l1 (g1 W2 hW) l2 (g2 W2 hW)
def aI (xs:List aJ) (i:Int):aJ:=xs.getD i.toNat z53
theorem dM {w:World} {A:Option Addr} {n:Nat} {xs:List aJ} (h:Kd.C dF w A n xs) (i:Int) (h0:0≤i) (h1:i<n):∃ad A1 c1 A2 c2,A=some ad∧w.cell? (ad.add (i.toNat*3))=some (.int .i64 (aI xs i).f0)∧w.cell? ⟨(ad.add (i.toNat*3)).block,(ad.add (i.toNat*3)).off+1,none⟩=some (.slice A1 (aI xs i).f1.length c1)∧w.cell? ⟨(ad.add (i.toNat*3)).block,(ad.add (i.toNat*3)).off+2,none⟩=some (.slice A2 (aI xs i).f2.length c2)∧(aI xs i).f1.length≤c1∧bM.C w A1 (aI xs i).f1.length (aI xs i).f1∧(aI xs i).f2.length≤c2∧bY.C w A2 (aI xs i).f2.length (aI xs i).f2:=by
 obtain⟨ad,c,e,_,hK,hc0⟩:=Kd.kW h z53 i h0 h1;have hc:∀j u,c[j]? =some u→w.cell? (ad.add (i.toNat*3+j))=some u:=hc0;obtain⟨A1,c1,A2,c2,rfl,l1,g1,l2,g2⟩:=uK hK;exact⟨ad,A1,c1,A2,c2,e,hc 0 _ rfl,by rw[←lq _ _ 1 (by omega)];exact hc 1 _ rfl,by rw[←lq _ _ 2 (by omega)];exact hc 2 _ rfl,l1,g1,l2,g2⟩
def uS (xs:List (List aJ)) (i:Int):(List aJ):=xs.getD i.toNat ([]:List aJ)
theorem Ia {w:World} {A:Option Addr} {n:Nat} {xs:List (List aJ)} (h:Kd.C (Kd.slice 53 dF) w A n xs) (i:Int) (h0:0≤i) (h1:i<n):∃ad A0 c0,A=some ad∧w.cell? (ad.add i.toNat)=some (.slice A0 (uS xs i).length c0)∧(uS xs i).length≤c0∧dF.C w A0 (uS xs i).length (uS xs i):=by
 obtain⟨ad,c,e,_,hK,hc0⟩:=Kd.kW h ([]:List aJ) i h0 h1;have hc:∀j u,c[j]? =some u→w.cell? (ad.add (i.toNat*1+j))=some u:=hc0;obtain⟨A0,c0,rfl,l0,g0⟩:=hK;exact⟨ad,A0,c0,e,by have hq:=hc 0 _ rfl;rwa [Nat.mul_one,Nat.add_zero]at hq,l0,g0⟩
structure bN where
 f0:Int
 f1:Int
 f2:Int
 f3:Int
 f4:(List aJ)
def z28:bN:=⟨(0:Int),(0:Int),(0:Int),(0:Int),([]:List aJ)⟩
def k28:Kd bN:=Kd.oI (Kd.pair (Kd.int .i64) (Kd.pair (Kd.int .i64) (Kd.pair (Kd.int .i64) (Kd.pair (Kd.int .i64) (Kd.slice 53 dF))))) (fun x:bN=>(x.f0,x.f1,x.f2,x.f3,x.f4))
theorem wE {w:World} {x:bN} {cs:List Value} (h:k28.K w x cs):∃A4 c4,cs=[.int .i64 x.f0,.int .i64 x.f1,.int .i64 x.f2,.int .i64 x.f3,.slice A4 x.f4.length c4]∧x.f4.length≤c4∧dF.C w A4 x.f4.length x.f4:=by
 obtain⟨_,_,rfl,rfl,⟨_,_,rfl,rfl,⟨_,_,rfl,rfl,⟨_,_,rfl,rfl,⟨A4,c4,rfl,l4,g4⟩⟩⟩⟩⟩:=h;exact⟨A4,c4,rfl,l4,g4⟩
theorem IL {w:World} {base:Nat} {ok:Nat→Prop} {x:bN} {cs:List Value} (h:k28.M w base ok x cs):∃v4,cs=[.int .i64 x.f0,.int .i64 x.f1,.int .i64 x.f2,.int .i64 x.f3,v4]∧dF.R 53 w base ok v4 x.f4:=by
 obtain⟨_,_,rfl,rfl,⟨_,_,rfl,rfl,⟨_,_,rfl,rfl,⟨_,_,rfl,rfl,⟨v4,rfl,g4⟩⟩⟩⟩⟩:=h;exact⟨v4,rfl,g4⟩
theorem tC (w:World) (x:bN) {A4:Option Addr} {c4:Nat} (l4:x.f4.length≤c4) (g4:dF.C w A4 x.f4.length x.f4):k28.K w x [.int .i64 x.f0,.int .i64 x.f1,.int .i64 x.f2,.int .i64 x.f3,.slice A4 x.f4.length c4]:=⟨[.int .i64 x.f0],[.int .i64 x.f1,.int .i64 x.f2,.int .i64 x.f3,.slice A4 x.f4.length c4],rfl,rfl,⟨[.int .i64 x.f1],[.int .i64 x.f2,.int .i64 x.f3,.slice A4 x.f4.length c4],rfl,rfl,⟨[.int .i64 x.f2],[.int .i64 x.f3,.slice A4 x.f4.length c4],rfl,rfl,⟨[.int .i64 x.f3],[.slice A4 x.f4.length c4],rfl,rfl,⟨A4,c4,rfl,l4,g4⟩⟩⟩⟩⟩
theorem IJ (w:World) (base:Nat) (ok:Nat→Prop) (x:bN) {v4:Value} (g4:dF.R 53 w base ok v4 x.f4):k28.M w base ok x [.int .i64 x.f0,.int .i64 x.f1,.int .i64 x.f2,.int .i64 x.f3,v4]:=⟨[.int .i64 x.f0],[.int .i64 x.f1,.int .i64 x.f2,.int .i64 x.f3,v4],rfl,rfl,⟨[.int .i64 x.f1],[.int .i64 x.f2,.int .i64 x.f3,v4],rfl,rfl,⟨[.int .i64 x.f2],[.int .i64 x.f3,v4],rfl,rfl,⟨[.int .i64 x.f3],[v4],rfl,rfl,⟨v4,rfl,g4⟩⟩⟩⟩⟩
theorem IK {W:World} {ok:Nat→Prop} {x:bN} {cs:List Value} (h:Kd.FK k28 W ok x cs):∃A4 c4,cs=[.int .i64 x.f0,.int .i64 x.f1,.int .i64 x.f2,.int .i64 x.f3,.slice A4 x.f4.length c4]∧x.f4.length≤c4∧Kd.F dF W ok A4 x.f4.length x.f4:=by
 obtain⟨A4,c4,rfl,l4,_⟩:=wE (Kd.nK h);exact⟨A4,c4,rfl,l4,(fun W' hW=>by obtain⟨Ay,Az,he,Jk,Jj⟩:=wE (h W' hW);injection(sj (show some (Value.slice A4 x.f4.length c4)=some (Value.slice Ay x.f4.length Az)from congrArg (fun l=>l[4]?) he))with aB _ _;rw[aB];exact Jj)⟩
theorem II (W:World) (ok:Nat→Prop) (x:bN) {A4:Option Addr} {c4:Nat} (l4:x.f4.length≤c4) (g4:Kd.F dF W ok A4 x.f4.length x.f4):Kd.FK k28 W ok x [.int .i64 x.f0,.int .i64 x.f1,.int .i64 x.f2,.int .i64 x.f3,.slice A4 x.f4.length c4]:=fun W2 hW=>tC W2 x l4 (g4 W2 hW)
def aU (xs:List bN) (i:Int):bN:=xs.getD i.toNat z28
theorem iO {w:World} {A:Option Addr} {n:Nat} {xs:List bN} (h:Kd.C k28 w A n xs) (i:Int) (h0:0≤i) (h1:i<n):∃ad A4 c4,A=some ad∧w.cell? (ad.add (i.toNat*5))=some (.int .i64 (aU xs i).f0)∧w.cell? ⟨(ad.add (i.toNat*5)).block,(ad.add (i.toNat*5)).off+1,none⟩=some (.int .i64 (aU xs i).f1)∧w.cell? ⟨(ad.add (i.toNat*5)).block,(ad.add (i.toNat*5)).off+2,none⟩=some (.int .i64 (aU xs i).f2)∧w.cell? ⟨(ad.add (i.toNat*5)).block,(ad.add (i.toNat*5)).off+3,none⟩=some (.int .i64 (aU xs i).f3)∧w.cell? ⟨(ad.add (i.toNat*5)).block,(ad.add (i.toNat*5)).off+4,none⟩=some (.slice A4 (aU xs i).f4.length c4)∧(aU xs i).f4.length≤c4∧dF.C w A4 (aU xs i).f4.length (aU xs i).f4:=by
 obtain⟨ad,c,e,_,hK,hc0⟩:=Kd.kW h z28 i h0 h1;have hc:∀j u,c[j]? =some u→w.cell? (ad.add (i.toNat*5+j))=some u:=hc0;obtain⟨A4,c4,rfl,l4,g4⟩:=wE hK;exact⟨ad,A4,c4,e,hc 0 _ rfl,by rw[←lq _ _ 1 (by omega)];exact hc 1 _ rfl,by rw[←lq _ _ 2 (by omega)];exact hc 2 _ rfl,by rw[←lq _ _ 3 (by omega)];exact hc 3 _ rfl,by rw[←lq _ _ 4 (by omega)];exact hc 4 _ rfl,l4,g4⟩
def kE (xs:List (List Int)) (i:Int):(List Int):=xs.getD i.toNat ([]:List Int)
theorem xR {w:World} {A:Option Addr} {n:Nat} {xs:List (List Int)} (h:Kd.C (Kd.slice 5 (Kd.int .u8)) w A n xs) (i:Int) (h0:0≤i) (h1:i<n):∃ad A0 c0,A=some ad∧w.cell? (ad.add i.toNat)=some (.slice A0 (kE xs i).length c0)∧(kE xs i).length≤c0∧(Kd.int .u8).C w A0 (kE xs i).length (kE xs i):=by
 obtain⟨ad,c,e,_,hK,hc0⟩:=Kd.kW h ([]:List Int) i h0 h1;have hc:∀j u,c[j]? =some u→w.cell? (ad.add (i.toNat*1+j))=some u:=hc0;obtain⟨A0,c0,rfl,l0,g0⟩:=hK;exact⟨ad,A0,c0,e,by have hq:=hc 0 _ rfl;rwa [Nat.mul_one,Nat.add_zero]at hq,l0,g0⟩
section
variable {P:Program} {ops:Array Oper} {rest:List Oper} {o:Oper} {a:Act} {Q:Exit→Act→World→Prop} {W:World}
theorem pI {x:Operand} {aa:Array Operand} {ts:Array TypeId} (uy:o.op= .call { callee:=.value x,args:=aa,argTypes:=ts}) (h:wpList P ops Q (o::rest) a W):wpList P ops Q (o::rest) a W:=h
theorem rJ {rest:List Oper} {oi:Oper} {a:Act} {w:World} (N:Option Tmp) (hd:oi.dst=N) (hg:oi.guard=none) {f:FuncId} {fn:Func} {x:Operand} {aa:Array Operand} {ts:Array TypeId} (hf:P.funcs[f]? =some fn) (hname:(fn.name== "runtime.NumGoroutine")=false) (hb:fn.body.isSome=true) (hx:a.eval x= .func (.func f) #[] #[]) (args:Array Value)
 (hop:oi.op= .call { callee:=.value x,args:=aa,argTypes:=ts}) (hargs:aa.map a.eval=args)
 (h:Calls P f args w fun e w'=>∃v,e= .returned v∧wpList P ops Q rest (a.put N v) w'):wpList P ops Q (oi::rest) a w:=by
 refine wpList_plain hg fun K hK=>?_;have he:=uF hf hname hb args w;have hrun:(execOp a.eval oi).run P w= .ok (.enter f args) w:=by
  unfold execOp;simp[hop,resolve,Deferred.ofValue,invoke,hx,hargs,he]
 unfold Oper.wp;rw[hrun,Oper.upon_enter];refine h.mono fun e w'' hh=>?_;obtain⟨v,rfl,hk⟩:=hh;subst hd;exact hK _ _ hk
theorem yw {rest:List Oper} {oi:Oper} {a:Act} {w:World} (N:Option Tmp) (hd:oi.dst=N) (hg:oi.guard=none) {f:FuncId} {fn:Func} {x:Operand} {aa:Array Operand} {ts:Array TypeId} {caps:Array Value} (hf:P.funcs[f]? =some fn) (hname:(fn.name== "runtime.NumGoroutine")=false) (hb:fn.body.isSome=true) (hx:a.eval x= .func (.func f) #[] caps) (args:Array Value)
 (hop:oi.op= .call { callee:=.value x,args:=aa,argTypes:=ts}) (hargs:aa.map a.eval++caps=args)
 (h:Calls P f args w fun e w'=>∃v,e= .returned v∧wpList P ops Q rest (a.put N v) w'):wpList P ops Q (oi::rest) a w:=by
 refine wpList_plain hg fun K hK=>?_;have he:=uF hf hname hb args w;have hrun:(execOp a.eval oi).run P w= .ok (.enter f args) w:=by
  unfold execOp;simp[hop,resolve,Deferred.ofValue,invoke,hx,hargs,he]
 unfold Oper.wp;rw[hrun,Oper.upon_enter];refine h.mono fun e w'' hh=>?_;obtain⟨v,rfl,hk⟩:=hh;subst hd;exact hK _ _ hk
end
def deep {α:Type} (e:Nat) (d:Kd α):Kd (List α) where
 sz:=1
 E:=e::d.E
 K:=(Kd.slice e d).K
 M:=fun w base ok xs cs=>∃v,cs=[v]∧Kd.S d e w base ok v xs
 iW:=(Kd.slice e d).iW
 iA:=(Kd.slice e d).iA
 jD:=(Kd.slice e d).jD
 fJ:=by
  rintro w base ok x cs ⟨v,rfl,h⟩
  exact(Kd.slice e d).fJ ⟨v,rfl,Kd.kg h⟩
 dQ:=by
  rintro w base ok ok' x cs hok ⟨v,rfl,h⟩
  exact⟨v,rfl,Kd.bU h hok⟩
 iL:=by
  rintro w base ok x cs ⟨v,rfl,h⟩
  exact⟨v,rfl,Kd.nO h⟩
 iM:=by
  rintro w w1 base ok x cs hm ⟨v,rfl,h⟩
  exact⟨v,rfl,Kd.xK h hm⟩
 jE:=by
  rintro w base base' ok x cs hb ⟨v,rfl,h⟩
  exact⟨v,rfl,Kd.ko h hb⟩
def two {α β:Type} (a:Kd α) (b:Kd β):Kd (α×β) where
 sz:=a.sz+b.sz
 E:=a.E++b.E
 K:=(Kd.pair a b).K
 M:=fun w base ok x cs=>∃(t:Nat→Prop) (c0 c1:List Value),cs=c0++c1∧a.M w base (fun k=>ok k∧t k) x.1 c0∧b.M w base (fun k=>ok k∧¬t k) x.2 c1
 iW:=(Kd.pair a b).iW
 iA:=(Kd.pair a b).iA
 jD:=(Kd.pair a b).jD
 fJ:=by
  rintro w base ok x cs ⟨t,c0,c1,rfl,h0,h1⟩
  exact⟨c0,c1,rfl,a.fJ h0,b.fJ h1⟩
 dQ:=by
  rintro w base ok ok' x cs hok ⟨t,c0,c1,rfl,h0,h1⟩
  exact⟨t,c0,c1,rfl,a.dQ (fun k hk=>⟨hok k hk.1,hk.2⟩) h0,b.dQ (fun k hk=>⟨hok k hk.1,hk.2⟩) h1⟩
 iL:=by
  rintro w base ok x cs ⟨t,c0,c1,rfl,h0,h1⟩
  refine⟨t,c0,c1,rfl,a.dQ ?_ (a.iL h0),b.dQ ?_ (b.iL h1)⟩
  ·rintro k ⟨⟨h2,ht⟩,h3,h4,q,hq,hc⟩
   exact⟨⟨h2,h3,h4,q,List.mem_append_left _ hq,hc⟩,ht⟩
  ·rintro k ⟨⟨h2,ht⟩,h3,h4,q,hq,hc⟩
   exact⟨⟨h2,h3,h4,q,List.mem_append_right _ hq,hc⟩,ht⟩
 iM:=by
  rintro w w1 base ok x cs hm ⟨t,c0,c1,rfl,h0,h1⟩
  exact⟨t,c0,c1,rfl,a.iM (fun k hk=>hm k hk.1) h0,b.iM (fun k hk=>hm k hk.1) h1⟩
 jE:=by
  rintro w base base' ok x cs hb ⟨t,c0,c1,rfl,h0,h1⟩
  exact⟨t,c0,c1,rfl,a.jE hb h0,b.jE hb h1⟩
def fu:Kd aJ:=Kd.oI (Kd.pair (Kd.int .i64) (two (deep 128 bM) (deep 130 bY))) (fun x:aJ=>(x.f0,x.f1,x.f2))
theorem tF {w:World} {base:Nat} {ok:Nat→Prop} {x:aJ} {cs:List Value} (h:fu.M w base ok x cs):∃(t:Nat→Prop) (v1 v2:Value),cs=[.int .i64 x.f0,v1,v2]∧Kd.S bM 128 w base (fun k=>ok k∧t k) v1 x.f1∧Kd.S bY 130 w base (fun k=>ok k∧¬t k) v2 x.f2:=by
 obtain⟨_,_,rfl,rfl,⟨t,_,_,rfl,⟨v1,rfl,g1⟩,⟨v2,rfl,g2⟩⟩⟩:=h;exact⟨t,v1,v2,rfl,g1,g2⟩
theorem wG (w:World) (base:Nat) (ok:Nat→Prop) (x:aJ) (t:Nat→Prop) {v1:Value} (g1:Kd.S bM 128 w base (fun k=>ok k∧t k) v1 x.f1) {v2:Value} (g2:Kd.S bY 130 w base (fun k=>ok k∧¬t k) v2 x.f2):fu.M w base ok x [.int .i64 x.f0,v1,v2]:=⟨[.int .i64 x.f0],[v1,v2],rfl,rfl,⟨t,[v1],[v2],rfl,⟨v1,rfl,g1⟩,⟨v2,rfl,g2⟩⟩⟩
theorem wF (w:World) (base:Nat) (ok:Nat→Prop) (x:aJ) (N:Nat) {v1:Value} (g1:Kd.S bM 128 w base (fun k=>ok k∧k<N) v1 x.f1) {v2:Value} (g2:Kd.S bY 130 w base (fun k=>ok k∧N≤k) v2 x.f2):fu.M w base ok x [.int .i64 x.f0,v1,v2]:=
 wG w base ok x (fun k=>k<N) g1 (Kd.bU g2 (fun k hk=>⟨hk.1,Nat.not_lt.2 hk.2⟩))
theorem old_new {α β γ:Type} {a:Kd α} {b:Kd β} {c:Kd γ} {ea eb ec B:Nat} {W w1:World} {Ah Ab Ag:Nat→Prop} {u v z:Value} {xs:List α} {ys:List β} {zs:List γ} (h:Kd.S a ea w1 B (fun k=>Ah k∧k<W.heap.size) u xs) (h0:Kd.S b eb w1 W.heap.size Ab v ys) (h1:Kd.S c ec w1 W.heap.size Ag z zs) (hl:B≤W.heap.size):
 ∃M:Nat,Kd.S a ea w1 B (fun k=>Ah k∧k<M) u xs∧Kd.S b eb w1 B (fun k=>Ab k∧M≤k) v ys∧Kd.S c ec w1 B (fun k=>Ag k∧M≤k) z zs:=
 ⟨W.heap.size,h,Kd.ko (Kd.bU (Kd.nO h0) (fun _ hk=>⟨hk.1,hk.2.1⟩)) hl,Kd.ko (Kd.bU (Kd.nO h1) (fun _ hk=>⟨hk.1,hk.2.1⟩)) hl⟩
theorem GZ {β γ:Type} {b:Kd β} {c:Kd γ} {eb ec B:Nat} {W w1:World} {Ab Ag:Nat→Prop} {v z:Value} {ys:List β} {zs:List γ} (h:Kd.S b eb W B Ab v ys) (hb:Below W.heap.size W w1) (h1:Kd.S c ec w1 W.heap.size Ag z zs) (hl:B≤W.heap.size):
 ∃M:Nat,Kd.S b eb w1 B (fun k=>k<M) v ys∧Kd.S c ec w1 B (fun k=>M≤k) z zs:=
 ⟨W.heap.size,Kd.bU (Kd.vM h hb) (fun _ hk=>hk.2),Kd.ko (Kd.bU (Kd.nO h1) (fun _ hk=>hk.2.1)) hl⟩
end Go.Proofs.YtjmdfghljlmfmaaGreat.QFnExactMineBlock
