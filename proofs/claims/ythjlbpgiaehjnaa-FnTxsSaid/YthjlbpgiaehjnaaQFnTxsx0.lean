-- written by this session's program (wip/tools/myprint.py)
import Derived.Test.YthjlbpgiaehjnaaProg
import Derived.StillTailTactics
import Derived.Test.YthjlbpgiaehjnaaVFnTxs
-- squeezed
namespace Go.Proofs.Ythjlbpgiaehjnaa.QFnTxs
open Go.RowKit Go.Proofs.YthjlbpgiaehjnaaW.PrintWords Go.Proofs.YthjlbpgiaehjnaaW.PrintLast Go.Proofs.YthjlbpgiaehjnaaW.PrintMore
attribute [local go_sem] kT kX kW lg kV kZ kU kY
set_option linter.unusedVariables false
set_option linter.unusedSimpArgs false
set_option maxHeartbeats 8000000
set_option maxRecDepth 100000
def DL:Option Int→Value
 |none=>.nilIface
 |some c=>.iface 0 (.int .i64 c)
theorem pG:DL none= .nilIface:=rfl
theorem pI (c:Int):DL (some c)= .iface 0 (.int .i64 c):=rfl
theorem sM:(Try.prog.info? 2).map (fun i=>(i.zero,i.size,i.bytes))=some (some (.int .i64 0),1,8):=by kernel_rfl
theorem info5:(Try.prog.info? 5).map (fun i=>(i.zero,i.size,i.bytes))=some (some (.int .u8 0),1,1):=by kernel_rfl
theorem Ma:(Try.prog.info? 22).map (fun i=>(i.zero,i.size,i.bytes))=some (some (.slice none 0 0),1,24):=by kernel_rfl
theorem vF:(Try.prog.info? 34).map (fun i=>(i.zero,i.size,i.bytes))=some (some (.agg #[(.int .i64 0),(.int .i64 0),(.slice none 0 0)]),3,40):=by kernel_rfl
theorem Ai:(Try.prog.info? 86).map (fun i=>(i.zero,i.size,i.bytes))=some (some (.agg #[(.int .i64 0),(.slice none 0 0)]),2,32):=by kernel_rfl
def yX (xs:List (List Int)) (i:Int):(List Int):=xs.getD i.toNat ([]:List Int)
theorem LK {w:World} {A:Option Addr} {n:Nat} {xs:List (List Int)} (h:Kd.C (Kd.slice 2 (Kd.int .i64)) w A n xs) (i:Int) (h0:0≤i) (h1:i<n):∃ad A0 c0,A=some ad∧w.cell? (ad.add i.toNat)=some (.slice A0 (yX xs i).length c0)∧(yX xs i).length≤c0∧(Kd.int .i64).C w A0 (yX xs i).length (yX xs i):=by
 obtain⟨ad,c,e,_,hK,hc0⟩:=Kd.tF h ([]:List Int) i h0 h1;have hc:∀j u,c[j]? =some u→w.cell? (ad.add (i.toNat*1+j))=some u:=hc0;obtain⟨A0,c0,rfl,l0,g0⟩:=hK;exact⟨ad,A0,c0,e,by have hq:=hc 0 _ rfl;rwa [Nat.mul_one,Nat.add_zero]at hq,l0,g0⟩
structure bf where
 f0:Int
 f1:Int
 f2:(List Int)
def z34:bf:=⟨(0:Int),(0:Int),([]:List Int)⟩
def bZ:Kd bf:=Kd.Ak (Kd.pair (Kd.int .i64) (Kd.pair (Kd.int .i64) (Kd.slice 2 (Kd.int .i64)))) (fun x:bf=>(x.f0,x.f1,x.f2))
theorem Ap {w:World} {x:bf} {cs:List Value} (h:bZ.K w x cs):∃A2 c2,cs=[.int .i64 x.f0,.int .i64 x.f1,.slice A2 x.f2.length c2]∧x.f2.length≤c2∧(Kd.int .i64).C w A2 x.f2.length x.f2:=by
 obtain⟨_,_,rfl,rfl,⟨_,_,rfl,rfl,⟨A2,c2,rfl,l2,g2⟩⟩⟩:=h;exact⟨A2,c2,rfl,l2,g2⟩
theorem Mh {w:World} {base:Nat} {ok:Nat→Prop} {x:bf} {cs:List Value} (h:bZ.M w base ok x cs):∃v2,cs=[.int .i64 x.f0,.int .i64 x.f1,v2]∧(Kd.int .i64).R 2 w base ok v2 x.f2:=by
 obtain⟨_,_,rfl,rfl,⟨_,_,rfl,rfl,⟨v2,rfl,g2⟩⟩⟩:=h;exact⟨v2,rfl,g2⟩
theorem El (w:World) (x:bf) {A2:Option Addr} {c2:Nat} (l2:x.f2.length≤c2) (g2:(Kd.int .i64).C w A2 x.f2.length x.f2):bZ.K w x [.int .i64 x.f0,.int .i64 x.f1,.slice A2 x.f2.length c2]:=⟨[.int .i64 x.f0],[.int .i64 x.f1,.slice A2 x.f2.length c2],rfl,rfl,⟨[.int .i64 x.f1],[.slice A2 x.f2.length c2],rfl,rfl,⟨A2,c2,rfl,l2,g2⟩⟩⟩
theorem Ao (w:World) (base:Nat) (ok:Nat→Prop) (x:bf) {v2:Value} (g2:(Kd.int .i64).R 2 w base ok v2 x.f2):bZ.M w base ok x [.int .i64 x.f0,.int .i64 x.f1,v2]:=⟨[.int .i64 x.f0],[.int .i64 x.f1,v2],rfl,rfl,⟨[.int .i64 x.f1],[v2],rfl,rfl,⟨v2,rfl,g2⟩⟩⟩
theorem Mg {W:World} {ok:Nat→Prop} {x:bf} {cs:List Value} (h:Kd.FK bZ W ok x cs):∃A2 c2,cs=[.int .i64 x.f0,.int .i64 x.f1,.slice A2 x.f2.length c2]∧x.f2.length≤c2∧Kd.F (Kd.int .i64) W ok A2 x.f2.length x.f2:=by
 obtain⟨A2,c2,rfl,l2,_⟩:=Ap (Kd.qd h);exact⟨A2,c2,rfl,l2,(fun W' hW=>by obtain⟨aL,aP,he,HV,aS⟩:=Ap (h W' hW);injection(sj (show some (Value.slice A2 x.f2.length c2)=some (Value.slice aL x.f2.length aP)from congrArg (fun l=>l[2]?) he))with aB _ _;rw[aB];exact aS)⟩
theorem Em (W:World) (ok:Nat→Prop) (x:bf) {A2:Option Addr} {c2:Nat} (l2:x.f2.length≤c2) (g2:Kd.F (Kd.int .i64) W ok A2 x.f2.length x.f2):Kd.FK bZ W ok x [.int .i64 x.f0,.int .i64 x.f1,.slice A2 x.f2.length c2]:=fun W2 hW=>El W2 x l2 (g2 W2 hW)
def aQ (xs:List bf) (i:Int):bf:=xs.getD i.toNat z34
theorem iI {w:World} {A:Option Addr} {n:Nat} {xs:List bf} (h:Kd.C bZ w A n xs) (i:Int) (h0:0≤i) (h1:i<n):∃ad A2 c2,A=some ad∧w.cell? (ad.add (i.toNat*3))=some (.int .i64 (aQ xs i).f0)∧w.cell? ⟨(ad.add (i.toNat*3)).block,(ad.add (i.toNat*3)).off+1,none⟩=some (.int .i64 (aQ xs i).f1)∧w.cell? ⟨(ad.add (i.toNat*3)).block,(ad.add (i.toNat*3)).off+2,none⟩=some (.slice A2 (aQ xs i).f2.length c2)∧(aQ xs i).f2.length≤c2∧(Kd.int .i64).C w A2 (aQ xs i).f2.length (aQ xs i).f2:=by
 obtain⟨ad,c,e,_,hK,hc0⟩:=Kd.tF h z34 i h0 h1;have hc:∀j u,c[j]? =some u→w.cell? (ad.add (i.toNat*3+j))=some u:=hc0;obtain⟨A2,c2,rfl,l2,g2⟩:=Ap hK;exact⟨ad,A2,c2,e,hc 0 _ rfl,by rw[←wT _ _ 1 (by omega)];exact hc 1 _ rfl,by rw[←wT _ _ 2 (by omega)];exact hc 2 _ rfl,l2,g2⟩
structure bH where
 f0:Int
 f1:(List Int)
def z86:bH:=⟨(0:Int),([]:List Int)⟩
def dF:Kd bH:=Kd.Ak (Kd.pair (Kd.int .i64) (Kd.slice 2 (Kd.int .i64))) (fun x:bH=>(x.f0,x.f1))
theorem Ar {w:World} {x:bH} {cs:List Value} (h:dF.K w x cs):∃A1 c1,cs=[.int .i64 x.f0,.slice A1 x.f1.length c1]∧x.f1.length≤c1∧(Kd.int .i64).C w A1 x.f1.length x.f1:=by
 obtain⟨_,_,rfl,rfl,⟨A1,c1,rfl,l1,g1⟩⟩:=h;exact⟨A1,c1,rfl,l1,g1⟩
theorem Mi {w:World} {base:Nat} {ok:Nat→Prop} {x:bH} {cs:List Value} (h:dF.M w base ok x cs):∃v1,cs=[.int .i64 x.f0,v1]∧(Kd.int .i64).R 2 w base ok v1 x.f1:=by
 obtain⟨_,_,rfl,rfl,⟨v1,rfl,g1⟩⟩:=h;exact⟨v1,rfl,g1⟩
theorem JH (w:World) (x:bH) {A1:Option Addr} {c1:Nat} (l1:x.f1.length≤c1) (g1:(Kd.int .i64).C w A1 x.f1.length x.f1):dF.K w x [.int .i64 x.f0,.slice A1 x.f1.length c1]:=⟨[.int .i64 x.f0],[.slice A1 x.f1.length c1],rfl,rfl,⟨A1,c1,rfl,l1,g1⟩⟩
theorem Aq (w:World) (base:Nat) (ok:Nat→Prop) (x:bH) {v1:Value} (g1:(Kd.int .i64).R 2 w base ok v1 x.f1):dF.M w base ok x [.int .i64 x.f0,v1]:=⟨[.int .i64 x.f0],[v1],rfl,rfl,⟨v1,rfl,g1⟩⟩
theorem yO {W:World} {ok:Nat→Prop} {x:bH} {cs:List Value} (h:Kd.FK dF W ok x cs):∃A1 c1,cs=[.int .i64 x.f0,.slice A1 x.f1.length c1]∧x.f1.length≤c1∧Kd.F (Kd.int .i64) W ok A1 x.f1.length x.f1:=by
 obtain⟨A1,c1,rfl,l1,_⟩:=Ar (Kd.qd h);exact⟨A1,c1,rfl,l1,(fun W' hW=>by obtain⟨aF,aO,he,Al,aR⟩:=Ar (h W' hW);injection(sj (show some (Value.slice A1 x.f1.length c1)=some (Value.slice aF x.f1.length aO)from congrArg (fun l=>l[1]?) he))with aB _ _;rw[aB];exact aR)⟩
theorem En (W:World) (ok:Nat→Prop) (x:bH) {A1:Option Addr} {c1:Nat} (l1:x.f1.length≤c1) (g1:Kd.F (Kd.int .i64) W ok A1 x.f1.length x.f1):Kd.FK dF W ok x [.int .i64 x.f0,.slice A1 x.f1.length c1]:=fun W2 hW=>JH W2 x l1 (g1 W2 hW)
def bM (xs:List bH) (i:Int):bH:=xs.getD i.toNat z86
theorem ql {w:World} {A:Option Addr} {n:Nat} {xs:List bH} (h:Kd.C dF w A n xs) (i:Int) (h0:0≤i) (h1:i<n):∃ad A1 c1,A=some ad∧w.cell? (ad.add (i.toNat*2))=some (.int .i64 (bM xs i).f0)∧w.cell? ⟨(ad.add (i.toNat*2)).block,(ad.add (i.toNat*2)).off+1,none⟩=some (.slice A1 (bM xs i).f1.length c1)∧(bM xs i).f1.length≤c1∧(Kd.int .i64).C w A1 (bM xs i).f1.length (bM xs i).f1:=by
 obtain⟨ad,c,e,_,hK,hc0⟩:=Kd.tF h z86 i h0 h1;have hc:∀j u,c[j]? =some u→w.cell? (ad.add (i.toNat*2+j))=some u:=hc0;obtain⟨A1,c1,rfl,l1,g1⟩:=Ar hK;exact⟨ad,A1,c1,e,hc 0 _ rfl,by rw[←wT _ _ 1 (by omega)];exact hc 1 _ rfl,l1,g1⟩
def nM (xs:List (List Int)) (i:Int):(List Int):=xs.getD i.toNat ([]:List Int)
theorem Du {w:World} {A:Option Addr} {n:Nat} {xs:List (List Int)} (h:Kd.C (Kd.slice 5 (Kd.int .u8)) w A n xs) (i:Int) (h0:0≤i) (h1:i<n):∃ad A0 c0,A=some ad∧w.cell? (ad.add i.toNat)=some (.slice A0 (nM xs i).length c0)∧(nM xs i).length≤c0∧(Kd.int .u8).C w A0 (nM xs i).length (nM xs i):=by
 obtain⟨ad,c,e,_,hK,hc0⟩:=Kd.tF h ([]:List Int) i h0 h1;have hc:∀j u,c[j]? =some u→w.cell? (ad.add (i.toNat*1+j))=some u:=hc0;obtain⟨A0,c0,rfl,l0,g0⟩:=hK;exact⟨ad,A0,c0,e,by have hq:=hc 0 _ rfl;rwa [Nat.mul_one,Nat.add_zero]at hq,l0,g0⟩
def yY (xs:List (List bf)) (i:Int):(List bf):=xs.getD i.toNat ([]:List bf)
theorem LM {w:World} {A:Option Addr} {n:Nat} {xs:List (List bf)} (h:Kd.C (Kd.slice 34 bZ) w A n xs) (i:Int) (h0:0≤i) (h1:i<n):∃ad A0 c0,A=some ad∧w.cell? (ad.add i.toNat)=some (.slice A0 (yY xs i).length c0)∧(yY xs i).length≤c0∧bZ.C w A0 (yY xs i).length (yY xs i):=by
 obtain⟨ad,c,e,_,hK,hc0⟩:=Kd.tF h ([]:List bf) i h0 h1;have hc:∀j u,c[j]? =some u→w.cell? (ad.add (i.toNat*1+j))=some u:=hc0;obtain⟨A0,c0,rfl,l0,g0⟩:=hK;exact⟨ad,A0,c0,e,by have hq:=hc 0 _ rfl;rwa [Nat.mul_one,Nat.add_zero]at hq,l0,g0⟩
def yZ (xs:List (List bH)) (i:Int):(List bH):=xs.getD i.toNat ([]:List bH)
theorem LP {w:World} {A:Option Addr} {n:Nat} {xs:List (List bH)} (h:Kd.C (Kd.slice 86 dF) w A n xs) (i:Int) (h0:0≤i) (h1:i<n):∃ad A0 c0,A=some ad∧w.cell? (ad.add i.toNat)=some (.slice A0 (yZ xs i).length c0)∧(yZ xs i).length≤c0∧dF.C w A0 (yZ xs i).length (yZ xs i):=by
 obtain⟨ad,c,e,_,hK,hc0⟩:=Kd.tF h ([]:List bH) i h0 h1;have hc:∀j u,c[j]? =some u→w.cell? (ad.add (i.toNat*1+j))=some u:=hc0;obtain⟨A0,c0,rfl,l0,g0⟩:=hK;exact⟨ad,A0,c0,e,by have hq:=hc 0 _ rfl;rwa [Nat.mul_one,Nat.add_zero]at hq,l0,g0⟩
structure eU where
 f0:Int
 f1:(List bf)
 f2:(List bH)
def z27:eU:=⟨(0:Int),([]:List bf),([]:List bH)⟩
def k27:Kd eU:=Kd.Ak (Kd.pair (Kd.int .i64) (Kd.pair (Kd.slice 34 bZ) (Kd.slice 86 dF))) (fun x:eU=>(x.f0,x.f1,x.f2))
theorem yN {w:World} {x:eU} {cs:List Value} (h:k27.K w x cs):∃A1 c1 A2 c2,cs=[.int .i64 x.f0,.slice A1 x.f1.length c1,.slice A2 x.f2.length c2]∧x.f1.length≤c1∧bZ.C w A1 x.f1.length x.f1∧x.f2.length≤c2∧dF.C w A2 x.f2.length x.f2:=by
 obtain⟨_,_,rfl,rfl,⟨_,_,rfl,⟨A1,c1,rfl,l1,g1⟩,⟨A2,c2,rfl,l2,g2⟩⟩⟩:=h;exact⟨A1,c1,A2,c2,rfl,l1,g1,l2,g2⟩
theorem Mf {w:World} {base:Nat} {ok:Nat→Prop} {x:eU} {cs:List Value} (h:k27.M w base ok x cs):∃v1 v2,cs=[.int .i64 x.f0,v1,v2]∧bZ.R 34 w base ok v1 x.f1∧dF.R 86 w base ok v2 x.f2:=by
 obtain⟨_,_,rfl,rfl,⟨_,_,rfl,⟨v1,rfl,g1⟩,⟨v2,rfl,g2⟩⟩⟩:=h;exact⟨v1,v2,rfl,g1,g2⟩
theorem Am (w:World) (x:eU) {A1:Option Addr} {c1:Nat} (l1:x.f1.length≤c1) (g1:bZ.C w A1 x.f1.length x.f1) {A2:Option Addr} {c2:Nat} (l2:x.f2.length≤c2) (g2:dF.C w A2 x.f2.length x.f2):k27.K w x [.int .i64 x.f0,.slice A1 x.f1.length c1,.slice A2 x.f2.length c2]:=⟨[.int .i64 x.f0],[.slice A1 x.f1.length c1,.slice A2 x.f2.length c2],rfl,rfl,⟨[.slice A1 x.f1.length c1],[.slice A2 x.f2.length c2],rfl,⟨A1,c1,rfl,l1,g1⟩,⟨A2,c2,rfl,l2,g2⟩⟩⟩
theorem Md (w:World) (base:Nat) (ok:Nat→Prop) (x:eU) {v1:Value} (g1:bZ.R 34 w base ok v1 x.f1) {v2:Value} (g2:dF.R 86 w base ok v2 x.f2):k27.M w base ok x [.int .i64 x.f0,v1,v2]:=⟨[.int .i64 x.f0],[v1,v2],rfl,rfl,⟨[v1],[v2],rfl,⟨v1,rfl,g1⟩,⟨v2,rfl,g2⟩⟩⟩
theorem Me {W:World} {ok:Nat→Prop} {x:eU} {cs:List Value} (h:Kd.FK k27 W ok x cs):∃A1 c1 A2 c2,cs=[.int .i64 x.f0,.slice A1 x.f1.length c1,.slice A2 x.f2.length c2]∧x.f1.length≤c1∧Kd.F bZ W ok A1 x.f1.length x.f1∧x.f2.length≤c2∧Kd.F dF W ok A2 x.f2.length x.f2:=by
 obtain⟨A1,c1,A2,c2,rfl,l1,_,l2,_⟩:=yN (Kd.qd h);exact⟨A1,c1,A2,c2,rfl,l1,(fun W' hW=>by obtain⟨aF,aO,aL,aP,he,Al,aR,HV,aS⟩:=yN (h W' hW);injection(sj (show some (Value.slice A1 x.f1.length c1)=some (Value.slice aF x.f1.length aO)from congrArg (fun l=>l[1]?) he))with aB _ _;rw[aB];exact aR),l2,(fun W' hW=>by obtain⟨aF,aO,aL,aP,he,Al,aR,HV,aS⟩:=yN (h W' hW);injection(sj (show some (Value.slice A2 x.f2.length c2)=some (Value.slice aL x.f2.length aP)from congrArg (fun l=>l[2]?) he))with aB _ _;rw[aB];exact aS)⟩
theorem Mc (W:World) (ok:Nat→Prop) (x:eU) {A1:Option Addr} {c1:Nat} (l1:x.f1.length≤c1) (g1:Kd.F bZ W ok A1 x.f1.length x.f1) {A2:Option Addr} {c2:Nat} (l2:x.f2.length≤c2) (g2:Kd.F dF W ok A2 x.f2.length x.f2):Kd.FK k27 W ok x [.int .i64 x.f0,.slice A1 x.f1.length c1,.slice A2 x.f2.length c2]:=fun W2 hW=>Am W2 x l1 (g1 W2 hW) l2 (g2 W2 hW)
def bW (xs:List eU) (i:Int):eU:=xs.getD i.toNat z27
theorem lS {w:World} {A:Option Addr} {n:Nat} {xs:List eU} (h:Kd.C k27 w A n xs) (i:Int) (h0:0≤i) (h1:i<n):∃ad A1 c1 A2 c2,A=some ad∧w.cell? (ad.add (i.toNat*3))=some (.int .i64 (bW xs i).f0)∧w.cell? ⟨(ad.add (i.toNat*3)).block,(ad.add (i.toNat*3)).off+1,none⟩=some (.slice A1 (bW xs i).f1.length c1)∧w.cell? ⟨(ad.add (i.toNat*3)).block,(ad.add (i.toNat*3)).off+2,none⟩=some (.slice A2 (bW xs i).f2.length c2)∧(bW xs i).f1.length≤c1∧bZ.C w A1 (bW xs i).f1.length (bW xs i).f1∧(bW xs i).f2.length≤c2∧dF.C w A2 (bW xs i).f2.length (bW xs i).f2:=by
 obtain⟨ad,c,e,_,hK,hc0⟩:=Kd.tF h z27 i h0 h1;have hc:∀j u,c[j]? =some u→w.cell? (ad.add (i.toNat*3+j))=some u:=hc0;obtain⟨A1,c1,A2,c2,rfl,l1,g1,l2,g2⟩:=yN hK;exact⟨ad,A1,c1,A2,c2,e,hc 0 _ rfl,by rw[←wT _ _ 1 (by omega)];exact hc 1 _ rfl,by rw[←wT _ _ 2 (by omega)];exact hc 2 _ rfl,l1,g1,l2,g2⟩
section
variable {P:Program} {ops:Array Oper} {rest:List Oper} {o:Oper} {a:Act} {Q:Exit→Act→World→Prop} {W:World}
theorem qw {x:Operand} {aa:Array Operand} {ts:Array TypeId} (yC:o.op= .call { callee:=.value x,args:=aa,argTypes:=ts}) (h:wpList P ops Q (o::rest) a W):wpList P ops Q (o::rest) a W:=h
theorem su {rest:List Oper} {oi:Oper} {a:Act} {w:World} (N:Option Tmp) (hd:oi.dst=N) (hg:oi.guard=none) {f:FuncId} {fn:Func} {x:Operand} {aa:Array Operand} {ts:Array TypeId} (hf:P.funcs[f]? =some fn) (hname:(fn.name== "runtime.NumGoroutine")=false) (hb:fn.body.isSome=true) (hx:a.eval x= .func (.func f) #[] #[]) (args:Array Value)
 (hop:oi.op= .call { callee:=.value x,args:=aa,argTypes:=ts}) (hargs:aa.map a.eval=args)
 (h:Calls P f args w fun e w'=>∃v,e= .returned v∧wpList P ops Q rest (a.put N v) w'):wpList P ops Q (oi::rest) a w:=by
 refine wpList_plain hg fun K hK=>?_;have he:=yI hf hname hb args w;have hrun:(execOp a.eval oi).run P w= .ok (.enter f args) w:=by
  unfold execOp;simp[hop,resolve,Deferred.ofValue,invoke,hx,hargs,he]
 unfold Oper.wp;rw[hrun,Oper.upon_enter];refine h.mono fun e w'' hh=>?_;obtain⟨v,rfl,hk⟩:=hh;subst hd;exact hK _ _ hk
theorem DV {rest:List Oper} {oi:Oper} {a:Act} {w:World} (N:Option Tmp) (hd:oi.dst=N) (hg:oi.guard=none) {f:FuncId} {fn:Func} {x:Operand} {aa:Array Operand} {ts:Array TypeId} {caps:Array Value} (hf:P.funcs[f]? =some fn) (hname:(fn.name== "runtime.NumGoroutine")=false) (hb:fn.body.isSome=true) (hx:a.eval x= .func (.func f) #[] caps) (args:Array Value)
 (hop:oi.op= .call { callee:=.value x,args:=aa,argTypes:=ts}) (hargs:aa.map a.eval++caps=args)
 (h:Calls P f args w fun e w'=>∃v,e= .returned v∧wpList P ops Q rest (a.put N v) w'):wpList P ops Q (oi::rest) a w:=by
 refine wpList_plain hg fun K hK=>?_;have he:=yI hf hname hb args w;have hrun:(execOp a.eval oi).run P w= .ok (.enter f args) w:=by
  unfold execOp;simp[hop,resolve,Deferred.ofValue,invoke,hx,hargs,he]
 unfold Oper.wp;rw[hrun,Oper.upon_enter];refine h.mono fun e w'' hh=>?_;obtain⟨v,rfl,hk⟩:=hh;subst hd;exact hK _ _ hk
end
end Go.Proofs.Ythjlbpgiaehjnaa.QFnTxs
