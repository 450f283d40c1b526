/- numbers and transactions are decoded from their encodings, which are unique. -/
import Derived.Test.YthjlbpgiaehjnaaQFnTxsx1
import Derived.Test.YthjlbpgiaehjnaaQFnTxsx2
import Derived.Test.YthjlbpgiaehjnaaQFnTxsx3
import Derived.Test.YthjlbpgiaehjnaaQFnTxsx4
import Derived.Test.YthjlbpgiaehjnaaQFnTxsx5
import Derived.Test.YthjlbpgiaehjnaaQFnTxsx6
import Derived.Test.YthjlbpgiaehjnaaQFnTxsx7
import Derived.Test.YthjlbpgiaehjnaaQFnTxsx8
import Derived.Test.YthjlbpgiaehjnaaQFnTxsx9
import Derived.Test.YthjlbpgiaehjnaaQFnTxsx10
import Derived.Test.YthjlbpgiaehjnaaQFnTxsx11
import Derived.Test.YthjlbpgiaehjnaaQFnTxsx12
import Derived.Test.YthjlbpgiaehjnaaQFnTxsx13
import Derived.Test.YthjlbpgiaehjnaaQFnTxsx14
import Derived.Test.YthjlbpgiaehjnaaQFnTxsx15
import Derived.Test.YthjlbpgiaehjnaaQFnTxsx16
import Derived.Test.YthjlbpgiaehjnaaQFnTxsx17
import Derived.Test.YthjlbpgiaehjnaaQFnTxsx18
import Derived.Test.YthjlbpgiaehjnaaQFnTxsx19
namespace Go.Proofs.Ythjlbpgiaehjnaa.Pure
open Go.RowKit Go.Proofs.Ythjlbpgiaehjnaa.QFnTxs Go.Proofs.YthjlbpgiaehjnaaW.PrintWords Go.Proofs.YthjlbpgiaehjnaaW.PrintLast
set_option linter.unusedVariables false
set_option linter.unusedSimpArgs false
theorem dB {x:Int} (h1: -9223372036854775808≤x) (h2:x≤9223372036854775807):wrap64 x=x:=by
 unfold wrap64;omega
theorem Mv {x:Int} (h:(Lit.int .i64 x).wf=true): -9223372036854775808≤x∧x≤9223372036854775807:=by
 simpa[Lit.wf,IntKind.min,IntKind.max,IntKind.signed,IntKind.bits]using h
theorem Ls {x:Int} (h:(Lit.int .u8 x).wf=true):0≤x∧x≤255:=by
 simpa[Lit.wf,IntKind.min,IntKind.max,IntKind.signed,IntKind.bits]using h
theorem LY {α:Type} {g:Nat→Option α} {r:α} (h:∀k,g k=some r):Ev g r:=⟨0,fun k _=>h k⟩
theorem fZ {α:Type} {g:Nat→Option α} {r:α} (h:∀k,g (k+1)=some r):Ev g r:=Ev.step h (Ev.now r)
theorem bJ {α β:Type} {g:Nat→Option α} {f:α→Nat→Option β} {a:α} {r:β} (h:Ev g a) (k:Ev (f a) r):Ev (fun n=>(g n).bind fun t=>f t n) r:=
 Ev.bind (f:=fun n t=>f t n) h k
theorem bN {α:Type} {p:Prop} [Decidable p] {g f:Nat→Option α} {r:α} (hp:p) (k:Ev g r):Ev (fun n=>if p then g n else f n) r:=
 Ev.congr (fun n=>if_pos hp) k
theorem dJ {α:Type} {p:Prop} [Decidable p] {g f:Nat→Option α} {r:α} (hp:¬p) (k:Ev f r):Ev (fun n=>if p then g n else f n) r:=
 Ev.congr (fun n=>if_neg hp) k
theorem bU {α β:Type} {g:Option α} {f:α→Nat→Option β} {a:α} {r:β} (h:g=some a) (k:Ev (f a) r):Ev (fun n=>g.bind fun t=>f t n) r:=by
 subst h;exact k
theorem og (pre:List Int) (b:Int) (suf:List Int):rd (pre++b::suf) (pre.length:Int)=b:=by
 unfold rd;simp
theorem Kn {l:List Int} {i:Int} (h0:0≤i) (h1:i<l.length):rd l i=l[i.toNat]'(by omega):=by
 unfold rd;rw[List.getD_eq_getElem?_getD,List.getElem?_eq_getElem (by omega)];rfl
theorem Mq {α:Type} (l:List α) (n:Nat) (h:n≤l.length):∃pre suf,l=pre++suf∧pre.length=n:=
 ⟨l.take n,l.drop n,(List.take_append_drop n l).symm,by simp;omega⟩
def dG:List Int→Int×Int×Int
 |[]=>(5,0,0)
 |a::r=>if a<253 then(0,a,1)else if a=253 then match r with
  |b::c::_=>if b+256*c<253 then(5,0,0)else(0,b+256*c,3)
  |_=>(5,0,0)
  else(5,0,0)
theorem xD {a:Int} (h1:¬a<253):∀r:List Int,r.length<2→dG (a::r)=(5,0,0)
 |[],_=>by simp[dG,h1]
 |[b],_=>by simp[dG,h1]
 |_::_::_,h=>by simp at h;omega
theorem za {a:Int} (h1:¬a<253) (h2:¬a=253):∀r:List Int,dG (a::r)=(5,0,0)
 |[]=>by simp[dG,h1]
 |[b]=>by simp[dG,h1]
 |_::_::_=>by simp[dG,h1,h2]
theorem wZ {l:List Int} (hb:∀x∈l,0≤x∧x≤255):Ev (fun k=>eO.f k l) (dG l):=by
 have bad:Ev (fun k=>eO.j1 k l true) (5,0,0):=fZ (fun k=>by rw[eO.j1,if_pos rfl]);unfold eO.f
 match l,hb,bad with
 |[],_,bad=>refine dJ (by simp) ?_;exact Ev.step (f:=fun k=>eO.j1 k [] true) (fun k=>by rw[eO.j0,if_neg (by decide),if_pos (by simp)]) bad
 |a::r,hb,bad=>
  have ha:=hb a (by simp);have hr0:rd (a::r) 0=a:=rfl;refine bN (by simp<;>omega) (bN (by simp<;>omega) ?_);rw[hr0];by_cases h1:a<253
  ·rw[decide_eq_true h1];refine fZ (fun k=>?_);rw[eO.j0,if_pos rfl,if_pos (by simp<;>omega),hr0,dB (by omega) (by omega)];simp[dG,h1]
  ·rw[decide_eq_false h1];by_cases h3:r.length<2
   ·have e:=xD h1 r h3;rw[e];exact Ev.step (f:=fun k=>eO.j1 k (a::r) true) (fun k=>by rw[eO.j0,if_neg (by decide),if_pos (by simp<;>omega)]) bad
   ·refine Ev.step (f:=fun k=>eO.j1 k (a::r) (a != 253)) (fun k=>by rw[eO.j0,if_neg (by decide),if_neg (by simp<;>omega),if_pos (by simp<;>omega),hr0]) ?_;by_cases h2:a=253
    ·obtain⟨b,c,s,rfl⟩:∃b c s,r=b::c::s:=by
      cases r with
      |nil=>simp at h3
      |cons b r=>cases r with
       |nil=>simp at h3
       |cons c s=>exact⟨b,c,s,rfl⟩
     ·skip;have hbb:=hb b (by simp);have hbc:=hb c (by simp);have hr1:rd (a::b::c::s) 1=b:=rfl;have hr2:rd (a::b::c::s) 2=c:=rfl;rw[show(a != 253)=false from bne_eq_false_iff_eq.2 h2];refine fZ (fun k=>?_);have e3:wrap64 (wrap64 b+wrap64 (wrap64 c*256))=b+256*c:=by
       rw[dB (x:=b) (by omega) (by omega),dB (x:=c) (by omega) (by omega),dB (x:=c*256) (by omega) (by omega),Int.mul_comm c 256];exact dB (by omega) (by omega)
      rw[eO.j1,if_neg (by decide),if_pos (by simp<;>omega),if_pos (by simp<;>omega),hr1,hr2,e3];by_cases h4:b+256*c<253
      ·rw[if_pos h4];simp[dG,h2,h4]
      ·rw[if_neg h4];simp[dG,h2,h4]
    ·rw[show(a != 253)=true from bne_iff_ne.2 h2];have e:=za h1 h2 r;rw[e];exact bad
theorem drop_tail {l r:List Int} {a:Int} {p:Nat} (e:l.drop p=a::r):l.drop (p+1)=r:=by
 have h:=congrArg List.tail e
 rwa [List.tail_drop]at h
theorem yG {l r:List Int} {a:Int} {p:Nat} (e:l.drop p=a::r):p<l.length:=by
 have h:=congrArg List.length e;rw[List.length_drop,List.length_cons]at h;omega
theorem yH {l r:List Int} {a:Int} {p:Nat} (e:l.drop p=a::r):a∈l:=List.mem_of_mem_drop (i:=p) (by rw[e];simp)
theorem IL {l r:List Int} {a:Int} {p:Nat} (e:l.drop p=a::r):rd l (p:Int)=a:=by
 have h:(l.drop p)[0]? =some a:=by rw[e];rfl
 rw[List.getElem?_drop,Nat.add_zero]at h;unfold rd;rw[Int.toNat_natCast,List.getD_eq_getElem?_getD,h];rfl
def V (l:List Int) (p:Nat):Option (Int×Nat):=if(dG (l.drop p)).1=0 then some ((dG (l.drop p)).2.1,p+(dG (l.drop p)).2.2.toNat)else none
def Vm (b:Bool) (most:Int) (l:List Int) (p:Nat):Option (Int×Nat):=(V l p).bind fun r=>if b=true∧r.1>most then none else some r
def Big (l:List Int) (p:Nat):Option (Int×Nat):=(V l p).bind fun a=>(V l a.2).bind fun c=>some (a.1+65536*c.1,c.2)
def jH (l:List Int):Nat→Nat→Option (List Int×Nat)
 |0,p=>some ([],p)
 |n+1,p=>(V l p).bind fun a=>(jH l n a.2).bind fun r=>some (a.1::r.1,r.2)
def kQ (b:Bool) (most:Int) (l:List Int) (p:Nat):Option (List Int×Nat):=(Vm b most l p).bind fun c=>jH l c.1.toNat c.2
def nQ (b:Bool) (l:List Int) (p:Nat):Option (bf×Nat):=(Big l p).bind fun a=>(V l a.2).bind fun o=>(kQ b 8 l o.2).bind fun r=>some (⟨a.1,o.1,r.1⟩,r.2)
def iB (b:Bool) (l:List Int):Nat→Nat→Option (List bf×Nat)
 |0,p=>some ([],p)
 |n+1,p=>(nQ b l p).bind fun x=>(iB b l n x.2).bind fun r=>some (x.1::r.1,r.2)
def nU (b:Bool) (l:List Int) (p:Nat):Option (bH×Nat):=(Big l p).bind fun a=>(kQ b 12 l a.2).bind fun r=>some (⟨a.1,r.1⟩,r.2)
def iO (b:Bool) (l:List Int):Nat→Nat→Option (List bH×Nat)
 |0,p=>some ([],p)
 |n+1,p=>(nU b l p).bind fun x=>(iO b l n x.2).bind fun r=>some (x.1::r.1,r.2)
def jP (b:Bool) (l:List Int) (p:Nat):Option (eU×Nat):=(V l p).bind fun n=>(Vm b 4 l n.2).bind fun c=>(iB b l c.1.toNat c.2).bind fun xs=>(Vm b 4 l xs.2).bind fun d=>(iO b l d.1.toNat d.2).bind fun ys=>some (⟨n.1,xs.1,ys.1⟩,ys.2)
def dZ (l:List Int):Prop:=(∀x∈l,0≤x∧x≤255)∧l.length≤1048576
theorem EL {l:List Int} (hb:dZ l) (p:Nat):(dG (l.drop p)).1=0→0≤(dG (l.drop p)).2.1∧(dG (l.drop p)).2.1≤65535∧1≤(dG (l.drop p)).2.2∧(dG (l.drop p)).2.2≤((l.drop p).length:Int):=by
 intro h;have hm:∀x∈l.drop p,0≤x∧x≤255:=fun x hx=>hb.1 x (List.mem_of_mem_drop hx);generalize l.drop p=d at h hm ⊢;cases d with
 |nil=>simp[dG]at h
 |cons a r=>
  have ha:=hm a (by simp);by_cases h1:a<253
  ·(have e:dG (a::r)=(0,a,1):=by simp[dG,h1]);rw[e];simp only[List.length_cons];omega
  ·by_cases h3:r.length<2
   ·rw[xD h1 r h3]at h;simp at h
   ·by_cases h2:a=253
    ·obtain⟨c,e,s,rfl⟩:∃c e s,r=c::e::s:=by
      cases r with
      |nil=>simp at h3
      |cons c r=>cases r with
       |nil=>simp at h3
       |cons e s=>exact⟨c,e,s,rfl⟩
     have hc:=hm c (by simp);have he:=hm e (by simp);by_cases h4:c+256*e<253
     ·(have e2:dG (a::c::e::s)=(5,0,0):=by simp[dG,h2,h4]);rw[e2]at h;simp at h
     ·(have e2:dG (a::c::e::s)=(0,c+256*e,3):=by simp[dG,h2,h4]);rw[e2];simp only[List.length_cons];omega
    ·rw[za h1 h2 r]at h;simp at h
theorem gU {l:List Int} (hb:dZ l) {p:Nat} {v:Int} {q:Nat} (h:V l p=some (v,q)):(0≤v∧v≤65535)∧p<q∧q≤l.length∧dG (l.drop p)=(0,v,(q:Int)-p):=by
 unfold V at h;by_cases h1:(dG (l.drop p)).1=0
 ·rw[if_pos h1]at h;obtain⟨a1,a2,a3,a4⟩:=EL hb p h1;simp only[Option.some.injEq,Prod.mk.injEq]at h;obtain⟨rfl,rfl⟩:=h;rw[List.length_drop]at a4;refine⟨⟨a1,a2⟩,by omega,by omega,?_⟩;(have e:((p+(dG (l.drop p)).2.2.toNat:Nat):Int)-p=(dG (l.drop p)).2.2:=by omega);rw[e];generalize dG (l.drop p)=t at h1;obtain⟨x,y,z⟩:=t;simp only at h1;rw[h1]
 ·rw[if_neg h1]at h;cases h
theorem lJ {b:Bool} {most:Int} {l:List Int} {p:Nat} {r:Int×Nat} (h:Vm b most l p=some r):V l p=some r∧(b=true→r.1≤most):=by
 unfold Vm at h;obtain⟨x,hx,h⟩:=Option.bind_eq_some_iff.mp h;by_cases c:b=true∧x.1>most
 ·rw[if_pos c]at h;cases h
 ·rw[if_neg c]at h;cases h;exact⟨hx,fun hb=>Int.not_lt.1 (fun h=>c ⟨hb,h⟩)⟩
theorem nI {b:Bool} {most:Int} {l:List Int} {p:Nat} {r:Int×Nat} (h:V l p=some r) (hm:b=true→r.1≤most):Vm b most l p=some r:=by
 unfold Vm;rw[h,Option.bind_some,if_neg (fun c=>by have:=hm c.1;omega)]
theorem Cq {l:List Int}:∀(n p:Nat) (r:List Int×Nat),jH l n p=some r→r.1.length=n
 |0,p,r,h=>by cases h;rfl
 |n+1,p,r,h=>by
  unfold jH at h
  obtain⟨a,_,h⟩:=Option.bind_eq_some_iff.mp h
  obtain⟨s,hs,h⟩:=Option.bind_eq_some_iff.mp h
  cases h
  simp[Cq n _ _ hs]
theorem Co {l:List Int} (hb:dZ l):∀(n p:Nat) (r:List Int×Nat),p≤l.length→jH l n p=some r→p≤r.2∧r.2≤l.length
 |0,p,r,hp,h=>by cases h;exact⟨Nat.le_refl _,hp⟩
 |n+1,p,r,hp,h=>by
  unfold jH at h
  obtain⟨a,ha,h⟩:=Option.bind_eq_some_iff.mp h
  obtain⟨s,hs,h⟩:=Option.bind_eq_some_iff.mp h
  cases h
  have h1:=gU hb ha
  have h2:=Co hb n _ _ h1.2.2.1 hs
  exact⟨by show p≤s.2;omega,h2.2⟩
theorem tN {b:Bool} {most:Int} {l:List Int} (hb:dZ l) {p:Nat} {r:List Int×Nat} (h:kQ b most l p=some r):p≤r.2∧r.2≤l.length∧r.1.length≤65535∧∃c q,V l p=some (c,q)∧jH l c.toNat q=some r∧(r.1.length:Int)=c∧(b=true→c≤most):=by
 obtain⟨⟨c,q⟩,hc,h⟩:=Option.bind_eq_some_iff.mp h;obtain⟨hv,hm⟩:=lJ hc;have h1:=gU hb hv;have h2:=Co hb _ _ _ h1.2.2.1 h;have h3:=Cq _ _ _ h;simp only at hm h3;exact⟨by omega,h2.2,by omega,c,q,hv,h,by omega,hm⟩
theorem xX {l:List Int} (hb:dZ l) {p:Nat} {r:Int×Nat} (h:Big l p=some r):p≤r.2∧r.2≤l.length:=by
 obtain⟨a,ha,h⟩:=Option.bind_eq_some_iff.mp h;obtain⟨c,hc,h⟩:=Option.bind_eq_some_iff.mp h;cases h;have h1:=gU hb ha;have h2:=gU hb hc;exact⟨by show p≤c.2;omega,h2.2.2.1⟩
theorem Cg {b:Bool} {l:List Int} (hb:dZ l) {p:Nat} {r:bf×Nat} (h:nQ b l p=some r):r.2≤l.length∧r.1.f2.length≤65535:=by
 obtain⟨a,ha,h⟩:=Option.bind_eq_some_iff.mp h;obtain⟨o,ho,h⟩:=Option.bind_eq_some_iff.mp h;obtain⟨s,hs,h⟩:=Option.bind_eq_some_iff.mp h;cases h;have h1:=tN hb hs;exact⟨h1.2.1,h1.2.2.1⟩
theorem CK {b:Bool} {l:List Int} (hb:dZ l) {p:Nat} {r:bH×Nat} (h:nU b l p=some r):r.2≤l.length∧r.1.f1.length≤65535:=by
 obtain⟨a,ha,h⟩:=Option.bind_eq_some_iff.mp h;obtain⟨s,hs,h⟩:=Option.bind_eq_some_iff.mp h;cases h;have h1:=tN hb hs;exact⟨h1.2.1,h1.2.2.1⟩
theorem zK {b:Bool} {l:List Int} (hb:dZ l):∀(n p:Nat) (r:List bf×Nat),p≤l.length→iB b l n p=some r→r.2≤l.length∧r.1.length=n∧∀x∈r.1,x.f2.length≤65535
 |0,p,r,hp,h=>by cases h;exact⟨hp,rfl,by simp⟩
 |n+1,p,r,hp,h=>by
  unfold iB at h
  obtain⟨a,ha,h⟩:=Option.bind_eq_some_iff.mp h
  obtain⟨s,hs,h⟩:=Option.bind_eq_some_iff.mp h
  cases h
  have h1:=Cg hb ha
  have h2:=zK hb n _ _ h1.1 hs
  refine⟨h2.1,by simp[h2.2.1],fun x hx=>?_⟩
  rcases List.mem_cons.1 hx with rfl|hx
  ·exact h1.2
  ·exact h2.2.2 x hx
theorem zL {b:Bool} {l:List Int} (hb:dZ l):∀(n p:Nat) (r:List bH×Nat),p≤l.length→iO b l n p=some r→r.2≤l.length∧r.1.length=n∧∀x∈r.1,x.f1.length≤65535
 |0,p,r,hp,h=>by cases h;exact⟨hp,rfl,by simp⟩
 |n+1,p,r,hp,h=>by
  unfold iO at h
  obtain⟨a,ha,h⟩:=Option.bind_eq_some_iff.mp h
  obtain⟨s,hs,h⟩:=Option.bind_eq_some_iff.mp h
  cases h
  have h1:=CK hb ha
  have h2:=zL hb n _ _ h1.1 hs
  refine⟨h2.1,by simp[h2.2.1],fun x hx=>?_⟩
  rcases List.mem_cons.1 hx with rfl|hx
  ·exact h1.2
  ·exact h2.2.2 x hx
theorem CJ {most:Int} {l:List Int} {p:Nat} {r:List Int×Nat} (h:kQ true most l p=some r):kQ false most l p=some r:=by
 obtain⟨c,hc,h⟩:=Option.bind_eq_some_iff.mp h;exact Option.bind_eq_some_iff.mpr ⟨c,nI (lJ hc).1 (fun h=>by cases h),h⟩
theorem CG {most:Int} {l:List Int} (hb:dZ l) {p:Nat} {r:List Int×Nat} (h:kQ false most l p=some r):kQ true most l p=some r∨most<(r.1.length:Int):=by
 obtain⟨_,_,_,c,q,hv,hl,hc,_⟩:=tN hb h;by_cases hm:c≤most
 ·exact .inl (Option.bind_eq_some_iff.mpr ⟨(c,q),nI hv (fun _=>hm),hl⟩)
 ·exact .inr (by omega)
theorem Gt {l:List Int} {p:Nat} {r:bf×Nat} (h:nQ true l p=some r):nQ false l p=some r:=by
 obtain⟨a,ha,h⟩:=Option.bind_eq_some_iff.mp h;obtain⟨o,ho,h⟩:=Option.bind_eq_some_iff.mp h;obtain⟨s,hs,h⟩:=Option.bind_eq_some_iff.mp h;exact Option.bind_eq_some_iff.mpr ⟨a,ha,Option.bind_eq_some_iff.mpr ⟨o,ho,Option.bind_eq_some_iff.mpr ⟨s,CJ hs,h⟩⟩⟩
theorem Gs {l:List Int} (hb:dZ l) {p:Nat} {r:bf×Nat} (h:nQ false l p=some r):nQ true l p=some r∨8<r.1.f2.length:=by
 obtain⟨a,ha,h⟩:=Option.bind_eq_some_iff.mp h;obtain⟨o,ho,h⟩:=Option.bind_eq_some_iff.mp h;obtain⟨s,hs,h⟩:=Option.bind_eq_some_iff.mp h;rcases CG hb hs with h1|h1
 ·exact .inl (Option.bind_eq_some_iff.mpr ⟨a,ha,Option.bind_eq_some_iff.mpr ⟨o,ho,Option.bind_eq_some_iff.mpr ⟨s,h1,h⟩⟩⟩)
 ·cases h;exact .inr (by show 8<s.1.length;omega)
theorem GJ {l:List Int} {p:Nat} {r:bH×Nat} (h:nU true l p=some r):nU false l p=some r:=by
 obtain⟨a,ha,h⟩:=Option.bind_eq_some_iff.mp h;obtain⟨s,hs,h⟩:=Option.bind_eq_some_iff.mp h;exact Option.bind_eq_some_iff.mpr ⟨a,ha,Option.bind_eq_some_iff.mpr ⟨s,CJ hs,h⟩⟩
theorem GI {l:List Int} (hb:dZ l) {p:Nat} {r:bH×Nat} (h:nU false l p=some r):nU true l p=some r∨12<r.1.f1.length:=by
 obtain⟨a,ha,h⟩:=Option.bind_eq_some_iff.mp h;obtain⟨s,hs,h⟩:=Option.bind_eq_some_iff.mp h;rcases CG hb hs with h1|h1
 ·exact .inl (Option.bind_eq_some_iff.mpr ⟨a,ha,Option.bind_eq_some_iff.mpr ⟨s,h1,h⟩⟩)
 ·cases h;exact .inr (by show 12<s.1.length;omega)
theorem Ck {l:List Int}:∀(n p:Nat) (r:List bf×Nat),iB true l n p=some r→iB false l n p=some r
 |0,_,_,h=>h
 |n+1,p,r,h=>by
  unfold iB at h ⊢
  obtain⟨a,ha,h⟩:=Option.bind_eq_some_iff.mp h
  obtain⟨s,hs,h⟩:=Option.bind_eq_some_iff.mp h
  exact Option.bind_eq_some_iff.mpr ⟨a,Gt ha,Option.bind_eq_some_iff.mpr ⟨s,Ck n _ _ hs,h⟩⟩
theorem Cj {l:List Int} (hb:dZ l):∀(n p:Nat) (r:List bf×Nat),iB false l n p=some r→iB true l n p=some r∨∃x∈r.1,8<x.f2.length
 |0,_,_,h=>.inl h
 |n+1,p,r,h=>by
  unfold iB at h ⊢
  obtain⟨a,ha,h⟩:=Option.bind_eq_some_iff.mp h
  obtain⟨s,hs,h⟩:=Option.bind_eq_some_iff.mp h
  rcases Gs hb ha with h1|h1
  ·rcases Cj hb n _ _ hs with h2|⟨x,hx,h2⟩
   ·exact .inl (Option.bind_eq_some_iff.mpr ⟨a,h1,Option.bind_eq_some_iff.mpr ⟨s,h2,h⟩⟩)
   ·cases h;exact .inr ⟨x,List.mem_cons_of_mem _ hx,h2⟩
  ·cases h;exact .inr ⟨a.1,by simp,h1⟩
theorem CR {l:List Int}:∀(n p:Nat) (r:List bH×Nat),iO true l n p=some r→iO false l n p=some r
 |0,_,_,h=>h
 |n+1,p,r,h=>by
  unfold iO at h ⊢
  obtain⟨a,ha,h⟩:=Option.bind_eq_some_iff.mp h
  obtain⟨s,hs,h⟩:=Option.bind_eq_some_iff.mp h
  exact Option.bind_eq_some_iff.mpr ⟨a,GJ ha,Option.bind_eq_some_iff.mpr ⟨s,CR n _ _ hs,h⟩⟩
theorem CQ {l:List Int} (hb:dZ l):∀(n p:Nat) (r:List bH×Nat),iO false l n p=some r→iO true l n p=some r∨∃x∈r.1,12<x.f1.length
 |0,_,_,h=>.inl h
 |n+1,p,r,h=>by
  unfold iO at h ⊢
  obtain⟨a,ha,h⟩:=Option.bind_eq_some_iff.mp h
  obtain⟨s,hs,h⟩:=Option.bind_eq_some_iff.mp h
  rcases GI hb ha with h1|h1
  ·rcases CQ hb n _ _ hs with h2|⟨x,hx,h2⟩
   ·exact .inl (Option.bind_eq_some_iff.mpr ⟨a,h1,Option.bind_eq_some_iff.mpr ⟨s,h2,h⟩⟩)
   ·cases h;exact .inr ⟨x,List.mem_cons_of_mem _ hx,h2⟩
  ·cases h;exact .inr ⟨a.1,by simp,h1⟩
theorem Hy {l:List Int} {p:Nat} {r:eU×Nat} (h:jP true l p=some r):jP false l p=some r:=by
 obtain⟨n,hn,h⟩:=Option.bind_eq_some_iff.mp h;obtain⟨c,hc,h⟩:=Option.bind_eq_some_iff.mp h;obtain⟨xs,hx,h⟩:=Option.bind_eq_some_iff.mp h;obtain⟨d,hd,h⟩:=Option.bind_eq_some_iff.mp h;obtain⟨ys,hy,h⟩:=Option.bind_eq_some_iff.mp h;exact Option.bind_eq_some_iff.mpr ⟨n,hn,Option.bind_eq_some_iff.mpr ⟨c,nI (lJ hc).1 (fun h=>by cases h),Option.bind_eq_some_iff.mpr ⟨xs,Ck _ _ _ hx,Option.bind_eq_some_iff.mpr ⟨d,nI (lJ hd).1 (fun h=>by cases h),Option.bind_eq_some_iff.mpr ⟨ys,CR _ _ _ hy,h⟩⟩⟩⟩⟩
theorem Hw {l:List Int} (hb:dZ l) {p:Nat} {r:eU×Nat} (h:jP false l p=some r) (h1:r.1.f1.length≤4) (h2:r.1.f2.length≤4) (h3:∀x∈r.1.f1,x.f2.length≤8) (h4:∀x∈r.1.f2,x.f1.length≤12):jP true l p=some r:=by
 obtain⟨n,hn,h⟩:=Option.bind_eq_some_iff.mp h;obtain⟨c,hc,h⟩:=Option.bind_eq_some_iff.mp h;obtain⟨xs,hx,h⟩:=Option.bind_eq_some_iff.mp h;obtain⟨d,hd,h⟩:=Option.bind_eq_some_iff.mp h;obtain⟨ys,hy,h⟩:=Option.bind_eq_some_iff.mp h;cases h;have a0:=gU hb hn;have a1:=gU hb (lJ hc).1;have a2:=zK hb _ _ _ a1.2.2.1 hx;have a3:=gU hb (lJ hd).1;have a4:=zL hb _ _ _ a3.2.2.1 hy;simp only at h1 h2 h3 h4;have c1:iB true l c.1.toNat c.2=some xs:=(Cj hb _ _ _ hx).resolve_right (fun⟨x,hx,h⟩=>by have:=h3 x hx;omega);have c2:iO true l d.1.toNat d.2=some ys:=(CQ hb _ _ _ hy).resolve_right (fun⟨x,hx,h⟩=>by have:=h4 x hx;omega);exact Option.bind_eq_some_iff.mpr ⟨n,hn,Option.bind_eq_some_iff.mpr ⟨c,nI (lJ hc).1 (fun _=>by omega),Option.bind_eq_some_iff.mpr ⟨xs,c1,Option.bind_eq_some_iff.mpr ⟨d,nI (lJ hd).1 (fun _=>by omega),Option.bind_eq_some_iff.mpr ⟨ys,c2,rfl⟩⟩⟩⟩⟩
def jC (l:List Int) (lo hi:Int):Prop:=∀x∈l,lo≤x∧x≤hi
instance (l:List Int) (lo hi:Int):Decidable (jC l lo hi):=by unfold jC;infer_instance
theorem zF {b:Int} {l:List Int} {lo hi:Int}:jC (b::l) lo hi↔(lo≤b∧b≤hi)∧jC l lo hi:=by simp[jC]
theorem qA (a b c:Int):fT.f a b c=some (decide (b≤a∧a≤c)):=by
 unfold fT.f;by_cases h:a≥b
 ·rw[if_pos h];congr 1;rw[Bool.eq_iff_iff];simp;omega
 ·rw[if_neg h];congr 1;symm;simp;omega
theorem sI (a b c:Int):gW.f a b c=some (decide (b≤a∧a≤c)):=by
 unfold gW.f;by_cases h:a≥b
 ·rw[if_pos h];congr 1;rw[Bool.eq_iff_iff];simp;omega
 ·rw[if_neg h];congr 1;symm;simp;omega
theorem KN (lo hi:Int) (suf:List Int):∀(pre:List Int),(pre.length:Int)+suf.length≤9223372036854775806→
 Ev (fun k=>gN.l0 k (pre++suf) lo hi pre.length) (decide (jC suf lo hi)):=by
 induction suf with
 |nil=>intro pre _;exact fZ (fun k=>by rw[gN.l0,if_neg (by simp)];simp[jC])
 |cons b suf ih=>
  intro pre hl;simp only[List.length_cons,Int.natCast_add,Int.natCast_one]at hl;have h:=ih (pre++[b]) (by simp;omega);by_cases hb:lo≤b∧b≤hi
  ·(have e:decide (jC (b::suf) lo hi)=decide (jC suf lo hi):=by simp[zF,hb]);rw[e];refine Ev.step (fun k=>?_) h;rw[gN.l0,if_pos (by simp;omega),if_pos (by omega),og,qA,dB (by omega) (by omega)];simp[hb]
  ·(have e:decide (jC (b::suf) lo hi)=false:=by simp[zF,hb]);rw[e];refine fZ (fun k=>?_);rw[gN.l0,if_pos (by simp;omega),if_pos (by omega),og,qA];simp[hb]
theorem KM {l:List Int} (lo hi:Int) (hl:(l.length:Int)≤9223372036854775806):Ev (fun k=>gN.f k l lo hi) (decide (jC l lo hi)):=by
 unfold gN.f;exact KN lo hi l [] (by simpa using hl)
theorem AV (a:Int):qz.f a=some (decide (0≤a∧a≤1000000)):=by
 unfold qz.f;rw[qA];rfl
theorem Ah (a:Int):pO.f a=some (decide (0≤a∧a≤1000000)):=by
 unfold pO.f;rw[sI];rfl
theorem KG (p:Int→Bool) (hp:∀x,qI.f x=some (p x)) (suf:List Int):∀(pre:List Int),(pre.length:Int)+suf.length≤9223372036854775806→
 ∃r:Int,Ev (fun k=>je.l0 k (pre++suf) ((pre++suf).length:Int) pre.length) r∧decide (r≥0)=suf.any p:=by
 induction suf with
 |nil=>intro pre _;exact⟨-1,fZ (fun k=>by rw[je.l0,if_neg (by simp)]),by simp⟩
 |cons b suf ih=>
  intro pre hl;simp only[List.length_cons,Int.natCast_add,Int.natCast_one]at hl;cases hb:p b with
  |true=>refine⟨pre.length,fZ (fun k=>?_),by simp[hb]⟩;rw[je.l0,if_pos (by simp;omega),if_pos (by omega),if_pos (by simp;omega),og,hp,hb];rfl
  |false=>obtain⟨r,h,hr⟩:=ih (pre++[b]) (by simp;omega);refine⟨r,Ev.step (fun k=>?_) h,by simp[hb,hr]⟩;rw[je.l0,if_pos (by simp;omega),if_pos (by omega),if_pos (by simp;omega),og,hp,hb,dB (by omega) (by omega)];simp
theorem KD (p:Int→Bool) (hp:∀x,qI.f x=some (p x)) {l:List Int} (hl:(l.length:Int)≤9223372036854775806):
 Ev (fun k=>oh.f k l) (l.any p):=by
 obtain⟨r,h,hr⟩:=KG p hp l [] (by simpa using hl);rw[←hr];unfold oh.f je.f;exact bJ (by simpa using h) (Ev.now _)
def nL (x:Int):Bool:= !(decide (1≤x∧x≤9)||decide (100≤x∧x≤1099))
def pJ (l:List Int):Int:=if l.length>12 then 2 else if l.any nL then 1 else 0
theorem Fg (x:Int):uF.f x=some (!nL x):=by
 unfold uF.f nL;simp only[qA,Option.bind_some];by_cases h:1≤x∧x≤9<;>simp[h]
theorem Jf (x:Int):qI.f x=some (nL x):=by
 unfold qI.f nL;simp only[sI,Option.bind_some];by_cases h:1≤x∧x≤9<;>simp[h]
theorem KR (suf:List Int):∀(pre:List Int),(pre.length:Int)+suf.length≤9223372036854775806→
 Ev (fun k=>iL.l0 k (pre++suf) pre.length) (if suf.any nL then 1 else 0):=by
 induction suf with
 |nil=>intro pre _;exact fZ (fun k=>by rw[iL.l0,if_neg (by simp)];simp)
 |cons b suf ih=>
  intro pre hl;simp only[List.length_cons,Int.natCast_add,Int.natCast_one]at hl;cases hb:nL b with
  |true=>refine fZ (fun k=>?_);rw[iL.l0,if_pos (by simp;omega),if_pos (by omega),og,Fg,hb];simp[hb]
  |false=>have h:=ih (pre++[b]) (by simp;omega);(have e:(b::suf).any nL=suf.any nL:=by simp[hb]);rw[e];refine Ev.step (fun k=>?_) h;rw[iL.l0,if_pos (by simp;omega),if_pos (by omega),og,Fg,hb,dB (by omega) (by omega)];simp
theorem KQ {l:List Int} (hl:(l.length:Int)≤9223372036854775806):Ev (fun k=>iL.f k l) (pJ l):=by
 unfold iL.f pJ;by_cases h:l.length>12
 ·rw[if_pos h];exact bN (by omega) (Ev.now _)
 ·rw[if_neg h];exact dJ (by omega) (KR l [] (by simpa using hl))
theorem Jg {l:List Int} (hl:(l.length:Int)≤9223372036854775806):Ev (fun k=>nJ.f k l) (pJ l):=by
 unfold nJ.f pJ;by_cases h:l.length>12
 ·rw[if_pos h];exact bN (by omega) (Ev.now _)
 ·rw[if_neg h];refine dJ (by omega) (bJ (KD nL Jf hl) ?_);cases l.any nL with
  |true=>exact bN rfl (Ev.now _)
  |false=>exact dJ (by decide) (Ev.now _)
theorem KH (p:Int→Bool) (hp:∀x,qJ.f x=some (p x)) (suf:List Int):∀(pre:List Int),(pre.length:Int)+suf.length≤9223372036854775806→
 ∃r:Int,Ev (fun k=>jf.l0 k (pre++suf) ((pre++suf).length:Int) pre.length) r∧decide (r≥0)=suf.any p:=by
 induction suf with
 |nil=>intro pre _;exact⟨-1,fZ (fun k=>by rw[jf.l0,if_neg (by simp)]),by simp⟩
 |cons b suf ih=>
  intro pre hl;simp only[List.length_cons,Int.natCast_add,Int.natCast_one]at hl;cases hb:p b with
  |true=>refine⟨pre.length,fZ (fun k=>?_),by simp[hb]⟩;rw[jf.l0,if_pos (by simp;omega),if_pos (by omega),if_pos (by simp;omega),og,hp,hb];rfl
  |false=>obtain⟨r,h,hr⟩:=ih (pre++[b]) (by simp;omega);refine⟨r,Ev.step (fun k=>?_) h,by simp[hb,hr]⟩;rw[jf.l0,if_pos (by simp;omega),if_pos (by omega),if_pos (by simp;omega),og,hp,hb,dB (by omega) (by omega)];simp
theorem KE (p:Int→Bool) (hp:∀x,qJ.f x=some (p x)) {l:List Int} (hl:(l.length:Int)≤9223372036854775806):
 Ev (fun k=>om.f k l) (l.any p):=by
 obtain⟨r,h,hr⟩:=KH p hp l [] (by simpa using hl);rw[←hr];unfold om.f jf.f;exact bJ (by simpa using h) (Ev.now _)
theorem Jp (a:Int):sJ.f a=some (decide (0≤a∧a≤2147483646)):=by
 unfold sJ.f;rw[sI];rfl
def sK (x:bf):Bool:= !(decide (0≤x.f0∧x.f0≤2147483646)&&decide (0≤x.f1∧x.f1≤3))
def mP (x y:bf):Bool:=decide (x.f0=y.f0)&&(x.f1==y.f1)
def pQ (ahead:List bf) (x:bf):Int:=if sK x=true then 3 else if(x.f2.length:Int)>8 then 2 else if decide (jC x.f2 0 9999)=true then(if ahead.any (mP x)=true then 6 else 0)else 3
def qL:List bf→List bf→Int→Int
 |_,[],e=>e
 |p,x::xs,e=>if pQ p x=0 then qL (p++[x]) xs e else pQ p x
def oL:Int→List bH→Int
 |a,[]=>a
 |a,x::xs=>oL (wrap64 (a+x.f0)) xs
def vC (a:Int):Int:=if 0≤a∧a≤1000000 then 0 else 7
def pV:List bH→Int→Int
 |[],e=>e
 |y::ys,e=>if 0≤y.f0∧y.f0≤1000000 then(if pJ y.f1=0 then pV ys e else pJ y.f1)else 3
def kF (t:eU):Int:=if 0≤t.f0∧t.f0≤65535 then(if(t.f1.length:Int)>4∨(t.f2.length:Int)<1∨(t.f2.length:Int)>4 then 2 else qL [] t.f1 (pV t.f2 (vC (oL 0 t.f2))))else 3
theorem qU (pre:List bf) (b:bf) (suf:List bf):aQ (pre++b::suf) (pre.length:Int)=b:=by unfold aQ;simp
theorem uw (pre:List bH) (b:bH) (suf:List bH):bM (pre++b::suf) (pre.length:Int)=b:=by unfold bM;simp
theorem KW (x:bf) (suf:List bf) (p2:List bf):∀(p1:List bf),(p1.length:Int)+p2.length+suf.length≤1048576→
 Ev (fun k=>fD.l0 k (p1++(p2++x::suf)) ((p1.length:Int)+p2.length) p1.length) (if p2.any (mP x)=true then 6 else 0):=by
 induction p2 with
 |nil=>intro p1 _;exact fZ (fun k=>by rw[fD.l0,if_neg (by simp)];simp)
 |cons b p2 ih=>
  intro p1 hl;simp only[List.length_cons,Int.natCast_add,Int.natCast_one]at hl ⊢;have h:=ih (p1++[b]) (by simp;omega);have e1:aQ (p1++(b::p2++x::suf)) (p1.length:Int)=b:=qU p1 b _;have e2:aQ (p1++(b::p2++x::suf)) ((p1.length:Int)+(p2.length+1))=x:=by
   have:=qU (p1++b::p2) x suf;simpa using this
  have hstep:∀k,fD.l0 (k+1) (p1++(b::p2++x::suf)) ((p1.length:Int)+(p2.length+1)) p1.length=(if b.f0=x.f0 then(if b.f1=x.f1 then some 6 else fD.l0 k (p1++(b::p2++x::suf)) ((p1.length:Int)+(p2.length+1)) ((p1.length:Int)+1))else fD.l0 k (p1++(b::p2++x::suf)) ((p1.length:Int)+(p2.length+1)) ((p1.length:Int)+1)):=by
   intro k;rw[fD.l0,if_pos (by omega),if_pos (by omega),if_pos (by simp;omega),if_pos (by omega),if_pos (by simp;omega),e1,e2,dB (by omega) (by omega)]
  have h':Ev (fun k=>fD.l0 k (p1++(b::p2++x::suf)) ((p1.length:Int)+(p2.length+1)) ((p1.length:Int)+1)) (if p2.any (mP x)=true then 6 else 0):=by
   (have q:((p1++[b]).length:Int)=(p1.length:Int)+1:=by simp);rw[q]at h;(have q2:(p1.length:Int)+1+(p2.length:Int)=(p1.length:Int)+((p2.length:Int)+1):=by omega);rw[q2]at h;simpa using h
  by_cases h0:b.f0=x.f0
  ·by_cases h1:b.f1=x.f1
   ·refine fZ (fun k=>?_);rw[hstep,if_pos h0,if_pos h1];simp[mP,h0,h1]
   ·refine Ev.step (fun k=>by rw[hstep,if_pos h0,if_neg h1]) ?_;(have e:(b::p2).any (mP x)=p2.any (mP x):=by simp[mP,h0,Ne.symm h1]);rw[e];exact h'
  ·refine Ev.step (fun k=>by rw[hstep,if_neg h0]) ?_;(have e:(b::p2).any (mP x)=p2.any (mP x):=by simp[mP,Ne.symm h0]);rw[e];exact h'
theorem KV (pre:List bf) (x:bf) (suf:List bf) (hx:(x.f2.length:Int)≤1048576) (hl:(pre.length:Int)+suf.length+1≤1048576):
 Ev (fun k=>fD.f k (pre++x::suf) pre.length) (pQ pre x):=by
 unfold fD.f;refine bN (by omega) (bN (by simp;omega) ?_);refine Ev.congr (f:=fun k=>fD.j0 k (pre++x::suf) pre.length (sK x)) (fun k=>?_) ?_
 ·rw[qU,qA,qA];simp only[Option.bind_some,sK];cases decide (0≤x.f0∧x.f0≤2147483646)<;>cases decide (0≤x.f1∧x.f1≤3)<;>simp
 ·unfold pQ;cases hb:sK x with
  |true=>exact fZ (fun k=>by rw[fD.j0];simp)
  |false=>
   rw[if_neg (by decide)];refine Ev.step (f:=fun k=>if(x.f2.length:Int)>8 then some 2 else(gN.f k x.f2 0 9999).bind fun t=>if t=true then fD.l0 k (pre++x::suf) pre.length 0 else some 3) (fun k=>?_) ?_
   ·rw[fD.j0,if_neg (by decide),if_pos (by omega),if_pos (by simp;omega),qU]
   ·by_cases h8:(x.f2.length:Int)>8
    ·rw[if_pos h8];exact bN h8 (Ev.now _)
    ·rw[if_neg h8];refine dJ h8 (bJ (KM 0 9999 (by omega)) ?_);by_cases ha:decide (jC x.f2 0 9999)=true
     ·rw[if_pos ha];refine bN ha ?_;have:=KW x suf pre [] (by simp;omega);simpa using this
     ·rw[if_neg ha];exact dJ ha (Ev.now _)
theorem KY (suf:List bH):∀(pre:List bH) (a:Int),(∀x∈suf,(x.f1.length:Int)≤1048576)→(pre.length:Int)+suf.length≤1048576→
 Ev (fun k=>iG.l0 k (pre++suf) a pre.length) (pV suf (vC (oL a suf))):=by
 induction suf with
 |nil=>intro pre a _ _;simp only[pV,oL,vC];refine fZ (fun k=>?_);rw[iG.l0,if_neg (by simp),AV];simp only[Option.bind_some,decide_eq_true_eq];by_cases hh:0≤a∧a≤1000000<;>simp[hh]
 |cons b suf ih=>
  intro pre a hs hl;simp only[List.length_cons,Int.natCast_add,Int.natCast_one]at hl;have h:=ih (pre++[b]) (wrap64 (a+b.f0)) (fun x hx=>hs x (by simp[hx])) (by simp;omega);rw[show((pre++[b]).length:Int)=(pre.length:Int)+1 from by simp,show pre++[b]++suf=pre++b::suf from by simp]at h;simp only[pV,oL];by_cases hb:0≤b.f0∧b.f0≤1000000
  ·rw[if_pos hb];refine Ev.step (f:=fun k=>(iL.f k b.f1).bind fun t=>if t=0 then iG.l0 k (pre++b::suf) (wrap64 (a+b.f0)) ((pre.length:Int)+1)else some t) (fun k=>?_) (bJ (KQ (by have:=hs b (by simp);omega)) ?_)
   ·rw[iG.l0,if_pos (by simp;omega),if_pos (by omega),uw,AV,dB (x:=(pre.length:Int)+1) (by omega) (by omega)];simp[hb]
   ·by_cases hf:pJ b.f1=0
    ·rw[if_pos hf];exact bN hf h
    ·rw[if_neg hf];exact dJ hf (Ev.now _)
  ·rw[if_neg hb];refine fZ (fun k=>?_);rw[iG.l0,if_pos (by simp;omega),if_pos (by omega),uw,AV];simp[hb]
theorem KU (t:eU) (e:Int) (he:Ev (fun k=>iG.f k t.f2) e) (suf:List bf):∀(pre:List bf),t.f1=pre++suf→(∀x∈suf,(x.f2.length:Int)≤1048576)→(pre.length:Int)+suf.length≤1048576→
 Ev (fun k=>fU.l0 k [t] pre.length) (qL pre suf e):=by
 have hrd:bW [t] 0=t:=rfl
 induction suf with
 |nil=>intro pre ht _ _;refine Ev.step (f:=fun k=>(iG.f k t.f2).bind fun t9=>some t9) (fun k=>?_) (bJ he (Ev.now _));rw[fU.l0,if_pos (by simp),hrd,if_neg (by rw[ht];simp)]
 |cons b suf ih=>
  intro pre ht hs hl;simp only[List.length_cons,Int.natCast_add,Int.natCast_one]at hl;have h:=ih (pre++[b]) (by rw[ht];simp) (fun x hx=>hs x (by simp[hx])) (by simp;omega);rw[show((pre++[b]).length:Int)=(pre.length:Int)+1 from by simp]at h;refine Ev.step (f:=fun k=>(fD.f k (pre++b::suf) pre.length).bind fun t7=>if t7=0 then fU.l0 k [t] ((pre.length:Int)+1)else some t7) (fun k=>?_) (bJ (KV pre b suf (hs b (by simp)) (by omega)) ?_)
  ·rw[fU.l0,if_pos (by simp),hrd,if_pos (by rw[ht];simp;omega),ht,dB (x:=(pre.length:Int)+1) (by omega) (by omega)]
  ·unfold qL;by_cases hf:pQ pre b=0
   ·rw[if_pos hf];exact bN hf h
   ·rw[if_neg hf];exact dJ hf (Ev.now _)
theorem Fu {t:eU} (h1:t.f1.length≤1048576∧∀x∈t.f1,(x.f2.length:Int)≤1048576) (h2:t.f2.length≤1048576∧∀x∈t.f2,(x.f1.length:Int)≤1048576):Ev (fun k=>lu.f k t.f0 t.f1 t.f2) (kF t):=by
 unfold lu.f fU.f kF;have hrd:bW [t] 0=t:=rfl;have ht:(⟨t.f0,t.f1,t.f2⟩:eU)=t:=rfl;rw[ht];refine bN (by simp) ?_;rw[hrd];refine bU (qA _ _ _) ?_;by_cases hn:0≤t.f0∧t.f0≤65535
 ·rw[if_pos hn];refine bN (by simpa using hn) ?_;have go:Ev (fun k=>fU.l0 k [t] 0) (qL [] t.f1 (pV t.f2 (vC (oL 0 t.f2)))):=by
   have:=KU t _ (by unfold iG.f;exact KY t.f2 [] 0 h2.2 (by simp;omega)) t.f1 [] (by simp) h1.2 (by simp;omega);simpa using this
  have bad:Ev (fun k=>fU.j0 k [t] true) 2:=fZ (fun k=>by rw[fU.j0];simp);by_cases c1:(t.f1.length:Int)>4
  ·rw[if_pos (.inl c1)];exact bN c1 bad
  ·refine dJ c1 ?_;by_cases c2:(t.f2.length:Int)<1
   ·rw[if_pos (.inr (.inl c2))];exact bN c2 bad
   ·refine dJ c2 ?_;by_cases c3:(t.f2.length:Int)>4
    ·rw[if_pos (.inr (.inr c3)),decide_eq_true c3];exact bad
    ·rw[if_neg (by omega),decide_eq_false c3];exact Ev.step (fun k=>by rw[fU.j0,if_neg (by decide)]) go
 ·rw[if_neg hn];exact dJ (by simpa using hn) (Ev.now _)
def dO (n:Int):List Int:=if n<253 then[n%256]else[253,n%256,n / 256%256]
theorem jK (n:Int):(dO n).length≤3:=by unfold dO;split<;>simp
def sW (a b:Int):Int:=(33*a+b+1)%2147483647
def Bb (l:List Int):Int:=l.foldl sW 5381
def Bytes (l:List Int):Prop:=∀x∈l,0≤x∧x≤255
theorem Fy (a b:Int):0≤sW a b∧sW a b<2147483647:=by unfold sW;omega
theorem Lf (l:List Int):∀a:Int,0≤a→a<2147483647→0≤l.foldl sW a∧l.foldl sW a<2147483647:=by
 induction l with
 |nil=>intro a h0 h1;exact⟨h0,h1⟩
 |cons b l ih=>intro a _ _;exact ih _ (Fy a b).1 (Fy a b).2
theorem Ms (l:List Int):0≤Bb l∧Bb l≤2147483646:=by
 have:=Lf l 5381 (by omega) (by omega);unfold Bb;omega
theorem Mr {a b:Int} (h0:0≤a) (h1:a<2147483647) (hb:0≤b∧b≤255):
 Int.tmod (wrap64 ((wrap64 ((wrap64 (a*33))+(wrap64 b)))+1)) 2147483647=sW a b:=by
 rw[dB (x:=a*33) (by omega) (by omega),dB (x:=b) (by omega) (by omega),dB (x:=a*33+b) (by omega) (by omega),dB (x:=a*33+b+1) (by omega) (by omega),Int.tmod_eq_emod_of_nonneg (by omega)];unfold sW;rw[Int.mul_comm a 33]
def iP (n:Int):List Int:=dO (n%65536)++dO (n / 65536)
def lK (l:List Int):List Int:=dO l.length++(l.map dO).flatten
def kM (p:Bool) (x:bf):List Int:=iP x.f0++(dO x.f1++(if p=true then lK x.f2 else[0]))
def kN (y:bH):List Int:=iP y.f0++lK y.f1
def jA (p:Bool) (t:eU):List Int:=dO t.f0++(dO t.f1.length++((t.f1.map (kM p)).flatten++(dO t.f2.length++(t.f2.map kN).flatten)))
def qg (x:bf):Prop:=(0≤x.f0∧x.f0≤2147483646)∧(0≤x.f1∧x.f1≤3)∧x.f2.length≤8∧jC x.f2 0 9999
def oC (y:bH):Prop:=(0≤y.f0∧y.f0≤1000000)∧y.f1.length≤12∧jC y.f1 0 9999
def uY (t:eU):Prop:=(0≤t.f0∧t.f0≤65535)∧t.f1.length≤4∧(1≤t.f2.length∧t.f2.length≤4)∧(∀x∈t.f1,qg x)∧∀y∈t.f2,oC y
theorem Jz {p:List bf} {x:bf} (h:pQ p x=0):qg x:=by
 unfold pQ at h;split at h
 ·omega
 ·rename_i h0;split at h
  ·omega
  ·split at h
   ·rename_i h8 ha;refine⟨?_,?_,by omega,of_decide_eq_true ha⟩<;>(unfold sK at h0;simp at h0;omega)
   ·omega
theorem JC (s:List bf):∀(p:List bf) (e:Int),qL p s e=0→(∀x∈s,qg x)∧e=0:=by
 induction s with
 |nil=>intro p e h;exact⟨by simp,h⟩
 |cons x s ih=>
  intro p e h;unfold qL at h;by_cases hx:pQ p x=0
  ·rw[if_pos hx]at h;obtain⟨h1,h2⟩:=ih _ _ h;refine⟨fun y hy=>?_,h2⟩;rcases List.mem_cons.1 hy with rfl|hy
   ·exact Jz hx
   ·exact h1 y hy
  ·rw[if_neg hx]at h;exact absurd h hx
theorem IW {l:List Int} (h:pJ l=0):l.length≤12∧jC l 0 9999:=by
 unfold pJ at h;split at h
 ·omega
 ·rename_i h12;split at h
  ·omega
  ·rename_i hb;refine⟨by omega,fun x hx=>?_⟩;have:nL x=false:=by
    cases ho:nL x with
    |false=>rfl
    |true=>exact absurd (List.any_eq_true.2 ⟨x,hx,ho⟩) hb
   unfold nL at this;simp at this;omega
theorem JO (s:List bH):∀(e:Int),pV s e=0→∀y∈s,oC y:=by
 induction s with
 |nil=>intro e _;simp
 |cons x s ih=>
  intro e h y hy;unfold pV at h;split at h
  ·rename_i hx;by_cases hf:pJ x.f1=0
   ·rw[if_pos hf]at h;rcases List.mem_cons.1 hy with rfl|hy
    ·exact⟨hx,IW hf⟩
    ·exact ih e h y hy
   ·rw[if_neg hf]at h;exact absurd h hf
  ·omega
theorem xL {t:eU} (h:kF t=0):uY t:=by
 unfold kF at h;split at h
 ·rename_i hn;split at h
  ·omega
  ·rename_i hc;obtain⟨h1,h2⟩:=JC _ _ _ h;exact⟨hn,by omega,by omega,h1,JO _ _ h2⟩
 ·omega
theorem qC (n:Int):Bytes (dO n):=by
 unfold dO;split<;>(intro x hx;simp at hx;rcases hx with rfl|rfl|rfl)<;>omega
theorem qc {a b:List Int} (ha:Bytes a) (hb:Bytes b):Bytes (a++b):=by
 intro x hx;rcases List.mem_append.1 hx with h|h
 ·exact ha x h
 ·exact hb x h
theorem zH {α:Type} {f:α→List Int} {l:List α} (h:∀x∈l,Bytes (f x)):Bytes (l.map f).flatten:=by
 intro x hx;obtain⟨y,hy,hx⟩:=List.mem_flatten.1 hx;obtain⟨z,hz,rfl⟩:=List.mem_map.1 hy;exact h z hz x hx
theorem yK {α:Type} {f:α→List Int} {n:Nat}:∀{l:List α},(∀x∈l,(f x).length≤n)→(l.map f).flatten.length≤n*l.length
 |[],_=>by simp
 |x::l,h=>by
  have h1:=h x (by simp)
  have h2:=yK (f:=f) (n:=n) (l:=l) (fun y hy=>h y (by simp[hy]))
  simp only[List.map_cons,List.flatten_cons,List.length_append,List.length_cons,Nat.mul_add,Nat.mul_one]
  omega
theorem vJ {l:List Int} {n:Nat} (h:l.length≤n):(lK l).length≤3+3*n:=by
 unfold lK;have h1:=jK l.length;have h2:=yK (f:=dO) (n:=3) (l:=l) (fun x _=>jK x);simp only[List.length_append];omega
theorem vv (n:Int):(iP n).length≤6:=by
 unfold iP;have h1:=jK (n%65536);have h2:=jK (n / 65536);simp only[List.length_append];omega
theorem Jy {p:Bool} {x:bf} (h:qg x):(kM p x).length≤36:=by
 unfold kM;have h1:=vv x.f0;have h2:=jK x.f1;have h3:=vJ h.2.2.1;cases p<;>simp<;>omega
theorem JN {y:bH} (h:oC y):(kN y).length≤45:=by
 unfold kN;have h1:=vv y.f0;have h3:=vJ h.2.1;simp only[List.length_append];omega
theorem DF (n:Int):Bytes (iP n):=qc (qC _) (qC _)
theorem Et (l:List Int):Bytes (lK l):=qc (qC _) (zH (fun x _=>qC x))
theorem EC (p:Bool) (t:eU):Bytes (jA p t):=by
 unfold jA;refine qc (qC _) (qc (qC _) (qc (zH (fun x _=>?_)) (qc (qC _) (zH (fun y _=>?_)))))
 ·unfold kM;refine qc (DF _) (qc (qC _) ?_);cases p
  ·intro x hx;simp at hx;omega
  ·exact Et _
 ·exact qc (DF _) (Et _)
def At (l:List Int) (p:Nat) (s:List Int):Prop:=∃t,l.drop p=s++t
theorem jL {l a b:List Int} {p:Nat}:At l p (a++b)↔At l p a∧At l (p+a.length) b:=by
 constructor
 ·rintro⟨t,h⟩;rw[List.append_assoc]at h;exact⟨⟨_,h⟩,t,by rw[←List.drop_drop,h];simp⟩
 ·rintro⟨⟨t,h⟩,u,g⟩;rw[←List.drop_drop,h]at g;simp at g;exact⟨u,by rw[h,g,List.append_assoc]⟩
theorem zG {l:List Int} {p:Nat}:At l p []:=⟨_,rfl⟩
theorem BJ {l s:List Int} (h:At l 0 s):l.take s.length=s:=by
 obtain⟨t,h⟩:=h;rw[List.drop_zero]at h;rw[h];simp
theorem EN {d:List Int} (hm:∀x∈d,0≤x∧x≤255) {v u:Int} (h:dG d=(0,v,u)):(∃t,d=dO v++t)∧u=(dO v).length:=by
 cases d with
 |nil=>simp[dG]at h
 |cons a r=>
  have ha:=hm a (by simp);by_cases h1:a<253
  ·(have e:dG (a::r)=(0,a,1):=by simp[dG,h1]);rw[e]at h;simp only[Prod.mk.injEq,true_and]at h;obtain⟨rfl,rfl⟩:=h;(have e2:dO a=[a]:=by unfold dO;rw[if_pos h1,Int.emod_eq_of_lt (by omega) (by omega)]);rw[e2];exact⟨⟨r,rfl⟩,rfl⟩
  ·by_cases h3:r.length<2
   ·rw[xD h1 r h3]at h;simp at h
   ·by_cases h2:a=253
    ·obtain⟨c,e,s,rfl⟩:∃c e s,r=c::e::s:=by
      cases r with
      |nil=>simp at h3
      |cons c r=>cases r with
       |nil=>simp at h3
       |cons e s=>exact⟨c,e,s,rfl⟩
     have hc:=hm c (by simp);have he:=hm e (by simp);by_cases h4:c+256*e<253
     ·(have e2:dG (a::c::e::s)=(5,0,0):=by simp[dG,h2,h4]);rw[e2]at h;simp at h
     ·(have e2:dG (a::c::e::s)=(0,c+256*e,3):=by simp[dG,h2,h4]);rw[e2]at h;simp only[Prod.mk.injEq,true_and]at h;obtain⟨rfl,rfl⟩:=h;have e3:dO (c+256*e)=[253,c,e]:=by
       unfold dO;rw[if_neg h4,show(c+256*e)%256=c by omega,show(c+256*e) / 256%256=e by omega]
      rw[e3,h2];exact⟨⟨s,rfl⟩,rfl⟩
    ·rw[za h1 h2 r]at h;simp at h
theorem EM {v:Int} (h0:0≤v) (h1:v≤65535) (t:List Int):dG (dO v++t)=(0,v,((dO v).length:Int)):=by
 unfold dO;by_cases h:v<253
 ·rw[if_pos h,Int.emod_eq_of_lt (by omega) (by omega)];simp[dG,h]
 ·rw[if_neg h];(have e:v%256+256*(v / 256%256)=v:=by omega);simp[dG,e,h]
theorem tX {l:List Int} (hb:dZ l) {p:Nat} {r:Int×Nat} (h:V l p=some r):At l p (dO r.1)∧r.2=p+(dO r.1).length:=by
 obtain⟨v,q⟩:=r;obtain⟨_,a2,_,a4⟩:=gU hb h;obtain⟨e1,e2⟩:=EN (fun x hx=>hb.1 x (List.mem_of_mem_drop hx)) a4;exact⟨e1,by simp only;omega⟩
theorem rO {l:List Int} {p:Nat} {v:Int} (h0:0≤v) (h1:v≤65535) (h:At l p (dO v)):V l p=some (v,p+(dO v).length):=by
 obtain⟨t,h⟩:=h;unfold V;rw[h,EM h0 h1];simp
theorem Dp {l:List Int} (hb:dZ l) {b:Bool} {most:Int} {p:Nat} {r:Int×Nat} (h:Vm b most l p=some r):At l p (dO r.1)∧r.2=p+(dO r.1).length:=tX hb (lJ h).1
theorem BK {l:List Int} (hb:dZ l) {p:Nat} {r:Int×Nat} (h:Big l p=some r):At l p (iP r.1)∧r.2=p+(iP r.1).length:=by
 obtain⟨a,ha,h⟩:=Option.bind_eq_some_iff.mp h;obtain⟨c,hc,h⟩:=Option.bind_eq_some_iff.mp h;cases h;have v1:=gU hb (v:=a.1) (q:=a.2) ha;have v2:=gU hb (v:=c.1) (q:=c.2) hc;obtain⟨d1,d2⟩:=tX hb ha;obtain⟨d3,d4⟩:=tX hb hc;unfold iP;simp only;rw[show(a.1+65536*c.1)%65536=a.1 by omega,show(a.1+65536*c.1) / 65536=c.1 by omega];rw[d2]at d3 d4;exact⟨jL.2 ⟨d1,d3⟩,by rw[d4,List.length_append];omega⟩
theorem BL {l:List Int} {p:Nat} {v:Int} (h0:0≤v) (h1:v≤4294967295) (h:At l p (iP v)):Big l p=some (v,p+(iP v).length):=by
 obtain⟨a1,a2⟩:=jL.1 h;unfold Big;rw[rO (by omega) (by omega) a1];simp only[Option.bind_some];rw[rO (by omega) (by omega) a2];simp only[Option.bind_some,iP,List.length_append];rw[show v%65536+65536*(v / 65536)=v by omega,Nat.add_assoc]
theorem Cm {l:List Int} (hb:dZ l):∀(n p:Nat) (r:List Int×Nat),jH l n p=some r→At l p (r.1.map dO).flatten∧r.2=p+(r.1.map dO).flatten.length
 |0,p,r,h=>by cases h;exact⟨zG,rfl⟩
 |n+1,p,r,h=>by
  unfold jH at h
  obtain⟨a,ha,h⟩:=Option.bind_eq_some_iff.mp h
  obtain⟨s,hs,h⟩:=Option.bind_eq_some_iff.mp h
  cases h
  obtain⟨d1,d2⟩:=tX hb ha
  obtain⟨d3,d4⟩:=Cm hb n _ _ hs
  simp only[List.map_cons,List.flatten_cons]
  rw[d2]at d3 d4
  exact⟨jL.2 ⟨d1,d3⟩,by rw[d4,List.length_append];omega⟩
theorem Cn {l:List Int}:∀(s:List Int) (p:Nat),jC s 0 65535→At l p (s.map dO).flatten→jH l s.length p=some (s,p+(s.map dO).flatten.length)
 |[],p,_,_=>rfl
 |a::s,p,hs,h=>by
  simp only[List.map_cons,List.flatten_cons]at h
  obtain⟨a1,a2⟩:=jL.1 h
  have h1:=hs a (by simp)
  rw[List.length_cons,jH,rO h1.1 h1.2 a1]
  simp only[Option.bind_some]
  rw[Cn s _ (fun x hx=>hs x (by simp[hx])) a2]
  simp only[Option.bind_some,List.map_cons,List.flatten_cons,List.length_append]
  rw[Nat.add_assoc]
theorem CB {b:Bool} {most:Int} {l:List Int} (hb:dZ l) {p:Nat} {r:List Int×Nat} (h:kQ b most l p=some r):At l p (lK r.1)∧r.2=p+(lK r.1).length:=by
 obtain⟨_,_,_,c,q,hv,hl,hc,_⟩:=tN hb h;obtain⟨d1,d2⟩:=tX hb hv;obtain⟨d3,d4⟩:=Cm hb _ _ _ hl;unfold lK;rw[hc];simp only at d1 d2;rw[d2]at d3 d4;exact⟨jL.2 ⟨d1,d3⟩,by rw[d4,List.length_append];omega⟩
theorem CF {b:Bool} {most:Int} {l:List Int} {p:Nat} {s:List Int} (hs:jC s 0 65535) (hm:(s.length:Int)≤most) (hl:s.length≤65535) (h:At l p (lK s)):kQ b most l p=some (s,p+(lK s).length):=by
 obtain⟨a1,a2⟩:=jL.1 h;unfold kQ;rw[nI (rO (by omega) (by omega) a1) (fun _=>hm)];simp only[Option.bind_some,Int.toNat_natCast];rw[Cn s _ hs a2,lK,List.length_append,Nat.add_assoc]
theorem Gq {l:List Int} (hb:dZ l) {b:Bool} {p:Nat} {r:bf×Nat} (h:nQ b l p=some r):At l p (kM true r.1)∧r.2=p+(kM true r.1).length:=by
 obtain⟨a,ha,h⟩:=Option.bind_eq_some_iff.mp h;obtain⟨o,ho,h⟩:=Option.bind_eq_some_iff.mp h;obtain⟨s,hs,h⟩:=Option.bind_eq_some_iff.mp h;cases h;obtain⟨d1,d2⟩:=BK hb ha;obtain⟨d3,d4⟩:=tX hb ho;obtain⟨d5,d6⟩:=CB hb hs;unfold kM;simp only[if_true];rw[d4,d2]at d5 d6;rw[d2]at d3;exact⟨jL.2 ⟨d1,jL.2 ⟨d3,d5⟩⟩,by rw[d6,List.length_append,List.length_append];omega⟩
theorem Gr {l:List Int} {b:Bool} {p:Nat} {x:bf} (hx:qg x) (h:At l p (kM true x)):nQ b l p=some (x,p+(kM true x).length):=by
 unfold kM at h;simp only[if_true]at h;obtain⟨a1,h⟩:=jL.1 h;obtain⟨a2,a3⟩:=jL.1 h;obtain⟨⟨x1,x2⟩,⟨x3,x4⟩,x5,x6⟩:=hx;unfold nQ;rw[BL x1 (by omega) a1];simp only[Option.bind_some];rw[rO x3 (by omega) a2];simp only[Option.bind_some];rw[CF (fun y hy=>by have:=x6 y hy;omega) (by omega) (by omega) a3];simp only[Option.bind_some,kM,if_true,List.length_append];rw[Nat.add_assoc,Nat.add_assoc]
theorem GD {l:List Int} (hb:dZ l) {b:Bool} {p:Nat} {r:bH×Nat} (h:nU b l p=some r):At l p (kN r.1)∧r.2=p+(kN r.1).length:=by
 obtain⟨a,ha,h⟩:=Option.bind_eq_some_iff.mp h;obtain⟨s,hs,h⟩:=Option.bind_eq_some_iff.mp h;cases h;obtain⟨d1,d2⟩:=BK hb ha;obtain⟨d5,d6⟩:=CB hb hs;unfold kN;simp only;rw[d2]at d5 d6;exact⟨jL.2 ⟨d1,d5⟩,by rw[d6,List.length_append];omega⟩
theorem GH {l:List Int} {b:Bool} {p:Nat} {x:bH} (hx:oC x) (h:At l p (kN x)):nU b l p=some (x,p+(kN x).length):=by
 unfold kN at h;obtain⟨a1,a3⟩:=jL.1 h;obtain⟨⟨x1,x2⟩,x5,x6⟩:=hx;unfold nU;rw[BL x1 (by omega) a1];simp only[Option.bind_some];rw[CF (fun y hy=>by have:=x6 y hy;omega) (by omega) (by omega) a3];simp only[Option.bind_some,kN,List.length_append];rw[Nat.add_assoc]
theorem Ch {l:List Int} (hb:dZ l) {b:Bool}:∀(n p:Nat) (r:List bf×Nat),iB b l n p=some r→r.1.length=n∧At l p (r.1.map (kM true)).flatten∧r.2=p+(r.1.map (kM true)).flatten.length
 |0,p,r,h=>by cases h;exact⟨rfl,zG,rfl⟩
 |n+1,p,r,h=>by
  unfold iB at h
  obtain⟨a,ha,h⟩:=Option.bind_eq_some_iff.mp h
  obtain⟨s,hs,h⟩:=Option.bind_eq_some_iff.mp h
  cases h
  obtain⟨d1,d2⟩:=Gq hb ha
  obtain⟨d0,d3,d4⟩:=Ch hb n _ _ hs
  simp only[List.map_cons,List.flatten_cons]
  rw[d2]at d3 d4
  exact⟨by rw[List.length_cons,d0],jL.2 ⟨d1,d3⟩,by rw[d4,List.length_append];omega⟩
theorem Ci {l:List Int} {b:Bool}:∀(s:List bf) (p:Nat),(∀x∈s,qg x)→At l p (s.map (kM true)).flatten→iB b l s.length p=some (s,p+(s.map (kM true)).flatten.length)
 |[],p,_,_=>rfl
 |a::s,p,hs,h=>by
  simp only[List.map_cons,List.flatten_cons]at h
  obtain⟨a1,a2⟩:=jL.1 h
  rw[List.length_cons,iB,Gr (hs a (by simp)) a1]
  simp only[Option.bind_some]
  rw[Ci s _ (fun x hx=>hs x (by simp[hx])) a2]
  simp only[Option.bind_some,List.map_cons,List.flatten_cons,List.length_append]
  rw[Nat.add_assoc]
theorem CO {l:List Int} (hb:dZ l) {b:Bool}:∀(n p:Nat) (r:List bH×Nat),iO b l n p=some r→r.1.length=n∧At l p (r.1.map kN).flatten∧r.2=p+(r.1.map kN).flatten.length
 |0,p,r,h=>by cases h;exact⟨rfl,zG,rfl⟩
 |n+1,p,r,h=>by
  unfold iO at h
  obtain⟨a,ha,h⟩:=Option.bind_eq_some_iff.mp h
  obtain⟨s,hs,h⟩:=Option.bind_eq_some_iff.mp h
  cases h
  obtain⟨d1,d2⟩:=GD hb ha
  obtain⟨d0,d3,d4⟩:=CO hb n _ _ hs
  simp only[List.map_cons,List.flatten_cons]
  rw[d2]at d3 d4
  exact⟨by rw[List.length_cons,d0],jL.2 ⟨d1,d3⟩,by rw[d4,List.length_append];omega⟩
theorem CP {l:List Int} {b:Bool}:∀(s:List bH) (p:Nat),(∀x∈s,oC x)→At l p (s.map kN).flatten→iO b l s.length p=some (s,p+(s.map kN).flatten.length)
 |[],p,_,_=>rfl
 |a::s,p,hs,h=>by
  simp only[List.map_cons,List.flatten_cons]at h
  obtain⟨a1,a2⟩:=jL.1 h
  rw[List.length_cons,iO,GH (hs a (by simp)) a1]
  simp only[Option.bind_some]
  rw[CP s _ (fun x hx=>hs x (by simp[hx])) a2]
  simp only[Option.bind_some,List.map_cons,List.flatten_cons,List.length_append]
  rw[Nat.add_assoc]
theorem Ht {l:List Int} (hb:dZ l) {b:Bool} {p:Nat} {r:eU×Nat} (h:jP b l p=some r):At l p (jA true r.1)∧r.2=p+(jA true r.1).length:=by
 obtain⟨n,hn,h⟩:=Option.bind_eq_some_iff.mp h;obtain⟨c,hc,h⟩:=Option.bind_eq_some_iff.mp h;obtain⟨xs,hx,h⟩:=Option.bind_eq_some_iff.mp h;obtain⟨d,hd,h⟩:=Option.bind_eq_some_iff.mp h;obtain⟨ys,hy,h⟩:=Option.bind_eq_some_iff.mp h;cases h;have c0:=(gU hb (v:=c.1) (q:=c.2) (lJ hc).1).1.1;have d0:=(gU hb (v:=d.1) (q:=d.2) (lJ hd).1).1.1;obtain⟨n1,n2⟩:=tX hb hn;obtain⟨c1,c2⟩:=Dp hb hc;obtain⟨x0,x1,x2⟩:=Ch hb _ _ _ hx;obtain⟨d1,d2⟩:=Dp hb hd;obtain⟨y0,y1,y2⟩:=CO hb _ _ _ hy;unfold jA;simp only;rw[show(xs.1.length:Int)=c.1 by omega,show(ys.1.length:Int)=d.1 by omega];rw[d2,x2,c2,n2]at y1 y2;rw[x2,c2,n2]at d1;rw[c2,n2]at x1;rw[n2]at c1;exact⟨jL.2 ⟨n1,jL.2 ⟨c1,jL.2 ⟨x1,jL.2 ⟨d1,y1⟩⟩⟩⟩,by rw[y2];simp only[List.length_append];omega⟩
theorem Hu {l:List Int} {b:Bool} {p:Nat} {t:eU} (ht:uY t) (h:At l p (jA true t)):jP b l p=some (t,p+(jA true t).length):=by
 obtain⟨⟨n0,n1⟩,h4,⟨o0,o4⟩,hi,ho⟩:=ht;unfold jA at h;obtain⟨a1,h⟩:=jL.1 h;obtain⟨a2,h⟩:=jL.1 h;obtain⟨a3,h⟩:=jL.1 h;obtain⟨a4,a5⟩:=jL.1 h;unfold jP;rw[rO n0 n1 a1];simp only[Option.bind_some];rw[nI (rO (by omega) (by omega) a2) (fun _=>by simp only;omega)];simp only[Option.bind_some,Int.toNat_natCast];rw[Ci _ _ hi a3];simp only[Option.bind_some];rw[nI (rO (by omega) (by omega) a4) (fun _=>by simp only;omega)];simp only[Option.bind_some,Int.toNat_natCast];rw[CP _ _ ho a5];simp only[Option.bind_some,jA,List.length_append];simp only[Nat.add_assoc]
theorem EH {c:List Int} (hb:Bytes c) (i:Int):0≤rd c i∧rd c i≤255:=by
 unfold rd;rw[List.getD_eq_getElem?_getD];cases h:c[i.toNat]? with
 |none=>simp
 |some x=>exact hb x (List.mem_of_getElem? h)
theorem mU {c:List Int} (hb:Bytes c) (hc:c.length≤140737488351232) (n m:Int) (h0:0≤n) (h1:n≤1000000) (hm:m≤1000000):
 ∃v,eP.f c n m=some (v,n+1)∧0≤v∧(1≤m→v<m)∧(m<1→v=0):=by
 unfold eP.f;rw[dB (x:=n+1) (by omega) (by omega),dB (x:=n+1-1) (by omega) (by omega),show n+1-1=n by omega];by_cases hm1:m<1
 ·rw[if_pos hm1];exact⟨0,rfl,by omega,by omega,fun _=>rfl⟩
 rw[if_neg hm1];by_cases hk:(c.length:Int)=0
 ·rw[if_pos hk,if_neg (by omega),dB (x:=n*7) (by omega) (by omega),Int.tmod_eq_emod_of_nonneg (by omega)];exact⟨_,rfl,Int.emod_nonneg _ (by omega),fun _=>Int.emod_lt_of_pos _ (by omega),fun h=>absurd h hm1⟩
 rw[if_neg hk];have hkp:(0:Int)<c.length:=by omega
 have e1:Int.tmod n (c.length:Int)=n%(c.length:Int):=Int.tmod_eq_emod_of_nonneg h0;have e2:Int.tdiv n (c.length:Int)=n / (c.length:Int):=Int.tdiv_eq_ediv_of_nonneg h0;have b1:=Int.emod_nonneg n (b:=(c.length:Int)) (by omega);have b2:=Int.emod_lt_of_pos n hkp;have b3:0≤n / (c.length:Int):=Int.ediv_nonneg h0 (by omega);have b4:n / (c.length:Int)≤n:=Int.ediv_le_self _ h0;have r1:=EH hb (n%(c.length:Int));rw[e1,e2,if_pos b1,if_pos b2];rw[dB (x:=rd c (n%(c.length:Int))) (by omega) (by omega),dB (x:=n / (c.length:Int)) (by omega) (by omega),dB (x:=n / (c.length:Int)*37) (by omega) (by omega),dB (x:=rd c (n%(c.length:Int))+n / (c.length:Int)*37) (by omega) (by omega)];by_cases aR:m>200
 ·rw[if_pos aR];rw[dB (x:=n+1) (by omega) (by omega)];have e3:Int.tmod (n+1) (c.length:Int)=(n+1)%(c.length:Int):=Int.tmod_eq_emod_of_nonneg (by omega);have b5:=Int.emod_nonneg (n+1) (b:=(c.length:Int)) (by omega);have b6:=Int.emod_lt_of_pos (n+1) hkp;have r2:=EH hb ((n+1)%(c.length:Int));rw[e3,if_pos b5,if_pos b6,if_neg (by omega)];generalize rd c (n%(c.length:Int))=x at*;generalize rd c ((n+1)%(c.length:Int))=y at*;generalize n / (c.length:Int)=z at*;rw[dB (x:=(x+z*37)*251) (by omega) (by omega),dB (x:=y) (by omega) (by omega),dB (x:=y*13) (by omega) (by omega),dB (x:=(x+z*37)*251+y*13) (by omega) (by omega),dB (x:=(x+z*37)*251+y*13+n) (by omega) (by omega),Int.tmod_eq_emod_of_nonneg (by omega)];exact⟨_,rfl,Int.emod_nonneg _ (by omega),fun _=>Int.emod_lt_of_pos _ (by omega),fun h=>absurd h hm1⟩
 ·rw[if_neg aR,if_neg (by omega),Int.tmod_eq_emod_of_nonneg (by omega)];exact⟨_,rfl,Int.emod_nonneg _ (by omega),fun _=>Int.emod_lt_of_pos _ (by omega),fun h=>absurd h hm1⟩
theorem Ko {l:List Int} {i:Int} (h0:0≤i) (h1:i<l.length):rd l i∈l:=by
 rw[Kn h0 h1];exact List.getElem_mem _
theorem mV {c:List Int} (hb:Bytes c) (hc:c.length≤140737488351232) (n:Int) (h0:0≤n) (h1:n≤1000000) (l:List Int) (hl:1≤l.length) (hl2:l.length≤1000):
 ∃v,v∈l∧dM.f c n l=some (v,n+1):=by
 unfold dM.f;obtain⟨j,hj,j0,j1,_⟩:=mU hb hc n (l.length:Int) h0 h1 (by omega);rw[hj];simp only[Option.bind_some];rw[if_pos j0,if_pos (j1 (by omega))];exact⟨_,Ko j0 (j1 (by omega)),rfl⟩
theorem AX (a:Int):nk.f a=some (decide (0≤a∧a≤899)):=by
 unfold nk.f;rw[qA];rfl
theorem DJ {c:List Int} (hb:Bytes c) (hc:c.length≤140737488351232) (n:Int) (h0:0≤n) (h1:n≤1000000):∃v,0≤v∧v≤899∧oN.f c n=some (v,n+1):=by
 unfold oN.f;obtain⟨v,hm,hv⟩:=mV hb hc n h0 h1 [1,2,3,899] (by simp) (by simp);simp only[List.mem_cons,List.not_mem_nil,or_false]at hm;exact⟨v,by omega,by omega,by rw[hv];rfl⟩
theorem IG {a b:Int} (ha:0≤a∧a≤899) (hb:0≤b∧b≤899):Ev (fun k=>jg.f k a b) (0,[100+a,8,6,100+b,8]):=by
 unfold jg.f;refine bU (AX _) (bN (by simpa using ha) (bU (AX _) ?_));refine fZ (fun k=>?_);rw[jg.j0,if_neg (by simpa using hb)];unfold nu.f;rw[dB (by omega) (by omega),dB (by omega) (by omega)];simp
theorem IE {a b:Int} (ha:0≤a∧a≤899) (hb:0≤b∧b≤999):vO.f a b=some (0,[100+b,9,100+a,8]):=by
 unfold vO.f nu.f;rw[AX];simp only[Option.bind_some,decide_eq_true_eq];rw[if_pos ha,qA];simp only[Option.bind_some,decide_eq_true_eq];rw[if_pos hb,dB (by omega) (by omega),dB (by omega) (by omega)];simp
theorem Fe {c:List Int} (hb:Bytes c) (hc:c.length≤140737488351232):∀(d:Nat) (out:List Int) (n:Int),0≤n→n+d≤900020→out.length+d≤12→jC out 0 9999→
 ∃r,Ev (fun k=>fA.l0 k out d c n) (r,n+d)∧r.length≤12∧jC r 0 9999
 |0,out,n,h0,h1,h2,h3=>⟨out,fZ (fun k=>by rw[fA.l0,if_neg (by omega)];simp),by omega,h3⟩
 |d+1,out,n,h0,h1,h2,h3=>by
  obtain⟨v,hm,hv⟩:=mV hb hc n h0 (by omega) [1,2,3,4,5,6,7,8,9,100,101,103,1099] (by simp) (by simp)
  obtain⟨r,hr,hl⟩:=Fe hb hc d (out++[v]) (n+1) (by omega) (by omega) (by simp;omega) (fun x hx=>by
   rcases List.mem_append.1 hx with hx|hx
   ·exact h3 x hx
   ·simp only[List.mem_cons,List.not_mem_nil,or_false]at hm hx;omega)
  rw[show n+1+(d:Int)=n+((d+1:Nat):Int) by omega]at hr
  refine⟨r,Ev.step (fun k=>?_) hr,hl⟩
  rw[fA.l0,if_pos (by omega),hv]
  simp only[Option.bind_some]
  rw[if_pos (by omega),dB (by omega) (by omega)]
  congr 1
  omega
theorem Fb {c:List Int} (hb:Bytes c) (hc:c.length≤140737488351232) (x:Int) (b:Bool) (n:Int) (h0:0≤n) (h1:n≤900000):
 ∃r n',Ev (fun k=>fA.j0 k x b c n) (r,n')∧(r.length≤12∧jC r 0 9999)∧0≤n'∧n'≤n+12:=by
 obtain⟨v,v0,v1,hv⟩:=DJ hb hc n h0 (by omega);cases b with
 |true=>refine⟨[wrap64 (100+v),8],n+1,Ev.step (fun k=>by rw[fA.j0]) (bN rfl (bU hv (bU rfl (Ev.now _)))),⟨by simp,by rw[dB (by omega) (by omega)];exact(by intro y hy;simp only[List.mem_cons,List.not_mem_nil,or_false]at hy;omega)⟩,by omega,by omega⟩
 |false=>
  by_cases h2:x=2
  ·obtain⟨u,u0,u1,hu⟩:=DJ hb hc (n+1) (by omega) (by omega);exact⟨[100+v,8,6,100+u,8],n+1+1,Ev.step (fun k=>by rw[fA.j0]) (dJ (by decide) (bN h2 (bU hv (bU hu (bJ (IG ⟨v0,v1⟩ ⟨u0,u1⟩) (Ev.now _)))))),⟨by simp,(by intro y hy;simp only[List.mem_cons,List.not_mem_nil,or_false]at hy;omega)⟩,by omega,by omega⟩
  by_cases h3:x=3
  ·obtain⟨u,hu,u0,u1,_⟩:=mU hb hc (n+1) 6 (by omega) (by omega) (by omega);have u2:=u1 (by omega);exact⟨[100+u,9,100+v,8],n+1+1,Ev.step (fun k=>by rw[fA.j0]) (dJ (by decide) (dJ h2 (bN h3 (bU hv (bU hu (bU (IE ⟨v0,v1⟩ ⟨u0,by omega⟩) (Ev.now _))))))),⟨by simp,(by intro y hy;simp only[List.mem_cons,List.not_mem_nil,or_false]at hy;omega)⟩,by omega,by omega⟩
  ·obtain⟨u,hu,u0,u1,_⟩:=mU hb hc n 8 (by omega) (by omega) (by omega);have u2:=u1 (by omega);obtain⟨r,hr,hl⟩:=Fe hb hc u.toNat [] (n+1) (by omega) (by omega) (by simp;omega) (by intro y hy;simp at hy);rw[Int.toNat_of_nonneg (by omega)]at hr;exact⟨r,n+1+u,Ev.step (fun k=>by rw[fA.j0]) (dJ (by decide) (dJ h2 (dJ h3 (bU hu hr)))),hl,by omega,by omega⟩
theorem Fa {c:List Int} (hb:Bytes c) (hc:c.length≤140737488351232) (n:Int) (h0:0≤n) (h1:n≤800000):
 ∃r n',Ev (fun k=>fA.f k c n) (r,n')∧(r.length≤12∧jC r 0 9999)∧0≤n'∧n'≤n+13:=by
 obtain⟨x,hx,x0,x1,_⟩:=mU hb hc n 5 h0 (by omega) (by omega);unfold fA.f;by_cases hx0:x=0
 ·obtain⟨r,n',hr,hl,hn,hn'⟩:=Fb hb hc x (x==0) (n+1) (by omega) (by omega);exact⟨r,n',bU hx (bN hx0 hr),hl,hn,by omega⟩
 ·obtain⟨r,n',hr,hl,hn,hn'⟩:=Fb hb hc x (x==1) (n+1) (by omega) (by omega);exact⟨r,n',bU hx (dJ hx0 hr),hl,hn,by omega⟩
theorem KP {c:List Int} (hb:Bytes c) (hc:c.length≤140737488351232) (n:Int) (h0:0≤n) (h1:n≤800000):
 ∃r n',Ev (fun k=>fA.f k c n) (r,n')∧r.length≤12∧0≤n'∧n'≤n+13:=by
 obtain⟨r,n',h,hl,h2⟩:=Fa hb hc n h0 h1;exact⟨r,n',h,hl.1,h2⟩
theorem KO {c:List Int} (hb:Bytes c) (hc:c.length≤140737488351232) (n:Int) (h0:0≤n) (h1:n≤700000):
 ∃r n',Ev (fun k=>oM.f k c n) (r,n')∧r.length≤13∧0≤n'∧n'≤n+20:=by
 unfold oM.f;obtain⟨r,n1,hr,hl,hn,hn'⟩:=KP hb hc n h0 (by omega);obtain⟨x,hx,x0,x1,_⟩:=mU hb hc n1 12 hn (by omega) (by omega);by_cases e0:x=0
 ·obtain⟨v,_,hv⟩:=mV hb hc (n1+1) (by omega) (by omega) [0,10,99,1100] (by simp) (by simp);exact⟨r++[v],n1+1+1,bJ hr (bU hx (bN e0 (bU hv (bN (show r.length<17592186044416 by omega) (Ev.now _))))),by simp;omega,by omega,by omega⟩
 by_cases e1:x=1
 ·exact⟨List.replicate 13 0,n1+1,bJ hr (bU hx (dJ e0 (bN e1 (bN (by omega) (Ev.now _))))),by simp,by omega,by omega⟩
 ·exact⟨r,n1+1,bJ hr (bU hx (dJ e0 (dJ e1 (Ev.now _)))),by omega,by omega,by omega⟩
def Hz (t:eU):Prop:=(t.f1.length≤1048576∧∀x∈t.f1,(x.f2.length:Int)≤1048576)∧(t.f2.length≤1048576∧∀x∈t.f2,(x.f1.length:Int)≤1048576)
theorem Fq {c:List Int} (hb:Bytes c) (hc:c.length≤140737488351232) (a:Int) (is:List bf):∀(d:Nat) (os:List bH) (n:Int),0≤n→n+20*d≤600000→os.length+d≤100→(∀y∈os,oC y)→
 ∃r n',Ev (fun k=>dN.l1 k d c n a is os) (a,is,r,n')∧(∀y∈r,oC y)∧r.length=os.length+d∧0≤n'∧n'≤n+20*d
 |0,os,n,h0,h1,h2,h3=>⟨os,n,fZ (fun k=>by rw[dN.l1,if_neg (by omega)]),h3,by omega,by omega,by omega⟩
 |d+1,os,n,h0,h1,h2,h3=>by
  obtain⟨v,hm,hv⟩:=mV hb hc n h0 (by omega) [1,50,70000] (by simp) (by simp)
  obtain⟨l,n1,hl,hl12,hn,hn'⟩:=Fa hb hc (n+1) (by omega) (by omega)
  obtain⟨r,n',hr,hr1,hr2,hr3,hr4⟩:=Fq hb hc a is d (os++[⟨v,l⟩]) n1 hn (by omega) (by simp;omega) (fun y hy=>by
   rcases List.mem_append.1 hy with hy|hy
   ·exact h3 y hy
   ·simp only[List.mem_cons,List.not_mem_nil,or_false]at hm hy;subst hy;exact⟨by simp only;omega,hl12⟩)
  refine⟨r,n',Ev.step (fun k=>by rw[dN.l1]) (bN (by omega) (bU hv (bJ hl (bN (show os.length<4398046511104 by omega) ?_)))),hr1,by rw[hr2];simp;omega,hr3,by omega⟩
  simp only[]
  rw[dB (by omega) (by omega),show((d+1:Nat):Int)-1=d by omega]
  exact hr
theorem Fp {c:List Int} (hb:Bytes c) (hc:c.length≤140737488351232) (a:Int):∀(d:Nat) (is:List bf) (n:Int),0≤n→n+20*d≤500000→is.length+d≤4→(∀y∈is,qg y)→
 ∃r o n',Ev (fun k=>dN.l0 k d c n a is) (a,r,o,n')∧(∀y∈r,qg y)∧r.length≤4∧(∀y∈o,oC y)∧(1≤o.length∧o.length≤4)∧0≤n'∧n'≤n+20*d+100
 |0,is,n,h0,h1,h2,h3=>by
  obtain⟨x,hx,x0,x1,_⟩:=mU hb hc n 3 h0 (by omega) (by omega)
  have x2:=x1 (by omega)
  obtain⟨r,n',hr,hr1,hr2,hr3,hr4⟩:=Fq hb hc a is (1+x).toNat [] (n+1) (by omega) (by omega) (by simp;omega) (by simp)
  rw[Int.toNat_of_nonneg (by omega)]at hr
  simp only[List.length_nil]at hr2
  refine⟨is,r,n',Ev.step (fun k=>by rw[dN.l0]) (dJ (by omega) (bU hx ?_)),h3,by omega,hr1,by omega,hr3,by omega⟩
  simp only[]
  rw[dB (by omega) (by omega)]
  exact hr
 |d+1,is,n,h0,h1,h2,h3=>by
  obtain⟨v,hm,hv⟩:=mV hb hc n h0 (by omega) [7,70000,2147483646] (by simp) (by simp)
  obtain⟨x,hx,x0,x1,_⟩:=mU hb hc (n+1) 1000 (by omega) (by omega) (by omega)
  obtain⟨r,o,n',hr,hr1,hr2,hr3,hr4,aP,Mw⟩:=Fp hb hc a d (is++[⟨v,is.length,[x]⟩]) (n+1+1) (by omega) (by omega) (by simp;omega) (fun y hy=>by
   rcases List.mem_append.1 hy with hy|hy
   ·exact h3 y hy
   ·simp only[List.mem_cons,List.not_mem_nil,or_false]at hm hy;subst hy;exact⟨by simp only;omega,by simp only;omega,by simp,by intro z hz;simp only[List.mem_cons,List.not_mem_nil,or_false]at hz;have:=x1 (by omega);omega⟩)
  refine⟨r,o,n',Ev.step (fun k=>by rw[dN.l0]) (bN (by omega) (bU hv (bU hx (bN (show is.length<3518437208883 by omega) ?_)))),hr1,hr2,hr3,hr4,aP,by omega⟩
  simp only[]
  rw[dB (by omega) (by omega),show((d+1:Nat):Int)-1=d by omega]
  exact hr
theorem Fj {c:List Int} (hb:Bytes c) (hc:c.length≤140737488351232) (n:Int) (h0:0≤n) (h1:n≤400000):
 ∃a r o n',Ev (fun k=>dN.f k c n) (a,r,o,n')∧uY ⟨a,r,o⟩∧0≤n'∧n'≤n+200:=by
 unfold dN.f;obtain⟨v,hm,hv⟩:=mV hb hc n h0 (by omega) [0,5,300,65535] (by simp) (by simp);obtain⟨x,hx,x0,x1,_⟩:=mU hb hc (n+1) 3 (by omega) (by omega) (by omega);have x2:=x1 (by omega);obtain⟨r,o,n',hr,hr1,hr2,hr3,hr4,aP,Mw⟩:=Fp hb hc v x.toNat [] (n+1+1) (by omega) (by omega) (by simp;omega) (by simp);rw[Int.toNat_of_nonneg (by omega)]at hr;exact⟨v,r,o,n',bU hv (bU hx hr),⟨by simp only[List.mem_cons,List.not_mem_nil,or_false]at hm;simp only;omega,hr2,hr4,hr1,hr3⟩,aP,by omega⟩
theorem KT {c:List Int} (hb:Bytes c) (hc:c.length≤140737488351232) (n:Int) (h0:0≤n) (h1:n≤400000):
 ∃a r o n',Ev (fun k=>dN.f k c n) (a,r,o,n')∧(∀y∈r,y.f2.length≤13)∧r.length≤100∧(∀y∈o,y.f1.length≤13)∧(1≤o.length∧o.length≤4)∧0≤n'∧n'≤n+200:=by
 obtain⟨a,r,o,n',h,ht,h2⟩:=Fj hb hc n h0 h1;exact⟨a,r,o,n',h,fun y hy=>by have:=(ht.2.2.2.1 y hy).2.2.1;omega,by have:=ht.2.1;simp only at this;omega,fun y hy=>by have:=(ht.2.2.2.2 y hy).2.1;omega,ht.2.2.1,h2⟩
theorem KS {c:List Int} (hb:Bytes c) (hc:c.length≤140737488351232) (n:Int) (h0:0≤n) (h1:n≤400000):
 ∃a r o n',Ev (fun k=>iX.f k c n) (a,r,o,n')∧Hz ⟨a,r,o⟩:=by
 unfold iX.f;obtain⟨a,r,o,n1,hd,hr,hrl,ho,hol,hn,hn'⟩:=KT hb hc n h0 h1;have R:r.length≤1048576∧∀x∈r,(x.f2.length:Int)≤1048576:=⟨by omega,fun x hx=>by have:=hr x hx;omega⟩;have O:o.length≤1048576∧∀x∈o,(x.f1.length:Int)≤1048576:=⟨by omega,fun x hx=>by have:=ho x hx;omega⟩;obtain⟨x,hx,x0,x1,_⟩:=mU hb hc n1 14 hn (by omega) (by omega);have x2:=x1 (by omega);have o0:(bM o 0).f1.length≤13:=by
  cases o with
  |nil=>simp at hol
  |cons y ys=>exact ho y (by simp)
 have set0:∀y:bH,y.f1.length≤13→(o.set (0:Int).toNat y).length≤1048576∧∀z∈o.set (0:Int).toNat y,(z.f1.length:Int)≤1048576:=fun y hy=>⟨by rw[List.length_set];omega,fun z hz=>by
  rcases List.mem_or_eq_of_mem_set hz with h|h
  ·have:=ho z h;omega
  ·subst h;omega⟩
 by_cases e0:x=0
 ·obtain⟨v,_,hv⟩:=mV hb hc (n1+1) (by omega) (by omega) [-1,65536] (by simp) (by simp);exact⟨v,r,o,_,bJ hd (bU hx (bN e0 (bU hv (Ev.now _)))),R,O⟩
 by_cases e1:x=1
 ·obtain⟨v,_,hv⟩:=mV hb hc (n1+1) (by omega) (by omega) [-1,1000000,1000001] (by simp) (by simp);exact⟨a,r,_,_,bJ hd (bU hx (dJ e0 (bN e1 (bU hv (bN (show 0<(o.length:Int) by omega) (Ev.now _)))))),R,set0 _ o0⟩
 by_cases e2:x=2
 ·obtain⟨l,n2,hl,Al,_,_⟩:=KO hb hc (n1+1) (by omega) (by omega);exact⟨a,r,_,_,bJ hd (bU hx (dJ e0 (dJ e1 (bN e2 (bJ hl (bN (show 0<(o.length:Int) by omega) (Ev.now _))))))),R,set0 _ Al⟩
 by_cases e3:x=3
 ·obtain⟨u,_,hu⟩:=mV hb hc (n1+1) (by omega) (by omega) [7, -1] (by simp) (by simp);obtain⟨v,_,hv⟩:=mV hb hc (n1+1+1) (by omega) (by omega) [0,4] (by simp) (by simp);obtain⟨w,_,hw⟩:=mV hb hc (n1+1+1+1) (by omega) (by omega) [0,10000] (by simp) (by simp);refine⟨a,r++[⟨u,v,[w]⟩],o,_,bJ hd (bU hx (dJ e0 (dJ e1 (dJ e2 (bN e3 (bU hu (bU hv (bU hw (bN (show r.length<3518437208883 by omega) (Ev.now _)))))))))),⟨by simp;omega,fun y hy=>?_⟩,O⟩;rcases List.mem_append.1 hy with hy|hy
  ·exact R.2 y hy
  ·simp at hy;subst hy;simp
 by_cases e4:x=4
 ·exact⟨a,r,[],_,bJ hd (bU hx (dJ e0 (dJ e1 (dJ e2 (dJ e3 (bN e4 (Ev.now _))))))),R,by simp⟩
 by_cases e5:x=5
 ·obtain⟨v,ME,hv⟩:=mV hb hc (n1+1) (by omega) (by omega) [2,5] (by simp) (by simp);simp only[List.mem_cons,List.not_mem_nil,or_false]at ME;refine⟨a,List.replicate v.toNat z34,o,_,bJ hd (bU hx (dJ e0 (dJ e1 (dJ e2 (dJ e3 (dJ e4 (bN e5 (bU hv (bN (show 0≤v by omega) (bN (show v.toNat≤7036874417766 by omega) (Ev.now _))))))))))),⟨by rw[List.length_replicate];omega,fun y hy=>?_⟩,O⟩;obtain⟨_,rfl⟩:=List.mem_replicate.1 hy;simp[z34]
 ·exact⟨a,r,o,_,bJ hd (bU hx (dJ e0 (dJ e1 (dJ e2 (dJ e3 (dJ e4 (dJ e5 (Ev.now _)))))))),R,O⟩
theorem AO {l r:List Int} {a:Int} {p:Nat} (hb:dZ l) (e:l.drop p=a::r) (w:Bool):jR.f l (p:Int) w=some (a,((p+1:Nat):Int),w):=by
 have hp:=yG e;have ha:=hb.1 a (yH e);have hl:=hb.2;have e1:wrap64 ((p:Int)+1)=(p:Int)+1:=dB (by omega) (by omega);have e2:wrap64 ((p:Int)+1-1)=(p:Int):=by rw[show(p:Int)+1-1=p by omega];exact dB (by omega) (by omega)
 unfold jR.f;rw[if_neg (by omega),e1,e2,if_pos (by omega),if_pos (by omega),IL e,dB (x:=a) (by omega) (by omega)];rfl
theorem zi {l:List Int} {p:Nat} (e:l.drop p=[]) (w:Bool):jR.f l (p:Int) w=some (0,(p:Int),true):=by
 have h:=List.drop_eq_nil_iff.1 e;unfold jR.f;rw[if_pos (by omega)]
theorem Dn {l:List Int} {p:Nat} {v u:Int} (h:dG (l.drop p)=(0,v,u)):V l p=some (v,p+u.toNat):=by unfold V;rw[h,if_pos rfl]
theorem wS {l:List Int} {p:Nat} (h:dG (l.drop p)=(5,0,0)):V l p=none:=by unfold V;rw[h,if_neg (by decide)]
theorem Ba {l:List Int} (hb:dZ l) {p:Nat} (hp:p≤l.length) (w:Bool):∃(v:Int) (q:Nat),q≤l.length∧gL.f l (p:Int) w=some (v,(q:Int),w|| !(V l p).isSome)∧∀a,V l p=some a→a=(v,q):=by
 unfold gL.f;cases e:l.drop p with
 |nil=>have hV:V l p=none:=wS (by rw[e];simp[dG]);rw[zi e,hV];exact⟨0,p,hp,by simp,fun a h=>by cases h⟩
 |cons a r=>
  have ha:=hb.1 a (yH e);have hp1:=yG e;have e1:=drop_tail e;rw[AO hb e];simp only[Option.bind_some];by_cases h1:a<253
  ·have hV:V l p=some (a,p+1):=Dn (u:=1) (by rw[e];simp[dG,h1]);rw[if_pos h1,hV];exact⟨a,p+1,by omega,by simp,fun x h=>by cases h;rfl⟩
  ·rw[if_neg h1];cases r with
   |nil=>
    have hV:V l p=none:=wS (by rw[e];exact xD h1 [] (by simp));rw[zi e1,Option.bind_some,zi e1,Option.bind_some,hV];refine⟨wrap64 (0+wrap64 (256*0)),p+1,by omega,?_,fun x h=>by cases h⟩;by_cases h2:a=253
    ·rw[if_pos h2];by_cases h3:wrap64 (0+wrap64 (256*0))<253
     ·rw[if_pos h3];simp
     ·rw[if_neg h3];simp
    ·rw[if_neg h2];simp
   |cons c r=>
    have hc:=hb.1 c (yH e1);have hp2:=yG e1;have e2:=drop_tail e1;rw[AO hb e1];simp only[Option.bind_some];cases r with
    |nil=>
     have hV:V l p=none:=wS (by rw[e];exact xD h1 [c] (by simp));rw[zi e2,Option.bind_some,hV];refine⟨wrap64 (c+wrap64 (256*0)),p+1+1,by omega,?_,fun x h=>by cases h⟩;by_cases h2:a=253
     ·rw[if_pos h2];by_cases h3:wrap64 (c+wrap64 (256*0))<253
      ·rw[if_pos h3];simp
      ·rw[if_neg h3];simp
     ·rw[if_neg h2];simp
    |cons d s=>
     have hd:=hb.1 d (yH e2);have hp3:=yG e2;have e3:wrap64 (c+wrap64 (256*d))=c+256*d:=by
      rw[dB (x:=256*d) (by omega) (by omega)];exact dB (by omega) (by omega)
     rw[AO hb e2];simp only[Option.bind_some];rw[e3];by_cases h2:a=253
     ·rw[if_pos h2];by_cases h3:c+256*d<253
      ·have hV:V l p=none:=wS (by rw[e];simp[dG,h2,h3]);rw[if_pos h3,hV];exact⟨c+256*d,p+1+1+1,by omega,by simp,fun x h=>by cases h⟩
      ·have hV:V l p=some (c+256*d,p+3):=Dn (u:=3) (by rw[e];simp[dG,h2,h3]);rw[if_neg h3,hV];exact⟨c+256*d,p+1+1+1,by omega,by simp,fun x h=>by cases h;rfl⟩
     ·have hV:V l p=none:=wS (by rw[e];exact za h1 h2 _);rw[if_neg h2,hV];exact⟨c+256*d,p+1+1+1,by omega,by simp,fun x h=>by cases h⟩
theorem mq {l:List Int} (hb:dZ l) {p:Nat} (hp:p≤l.length) {v:Int} {q:Nat} (h:V l p=some (v,q)):gL.f l (p:Int) false=some (v,(q:Int),false):=by
 obtain⟨v',q',_,h1,h2⟩:=Ba hb hp false;obtain⟨rfl,rfl⟩:=Prod.mk.inj (h2 _ h);rw[h1,h];rfl
theorem sV {l:List Int} (hb:dZ l) {p:Nat} (hp:p≤l.length) (h:V l p=none):∃(v:Int) (q:Nat),q≤l.length∧gL.f l (p:Int) false=some (v,(q:Int),true):=by
 obtain⟨v',q',hq,h1,h2⟩:=Ba hb hp false;exact⟨v',q',hq,by rw[h1,h];rfl⟩
theorem uG {l:List Int} (hb:dZ l) {p:Nat} (hp:p≤l.length):∃(v:Int) (q:Nat),q≤l.length∧gL.f l (p:Int) true=some (v,(q:Int),true):=by
 obtain⟨v',q',hq,h1,h2⟩:=Ba hb hp true;exact⟨v',q',hq,by rw[h1];simp⟩
theorem uE {l:List Int} (hb:dZ l) {p:Nat} (hp:p≤l.length) {v:Int} {q:Nat} (h:Big l p=some (v,q)):nO.f l (p:Int) false=some (v,(q:Int),false):=by
 obtain⟨⟨a,p1⟩,ha,h⟩:=Option.bind_eq_some_iff.mp h;obtain⟨⟨c,p2⟩,hc,h⟩:=Option.bind_eq_some_iff.mp h;cases h;have h1:=gU hb ha;have h2:=gU hb hc;unfold nO.f;rw[mq hb hp ha,Option.bind_some,mq hb h1.2.2.1 hc,Option.bind_some];simp only;rw[dB (x:=65536*c) (by omega) (by omega),dB (by omega) (by omega)]
theorem Ml {l:List Int} (hb:dZ l) {p:Nat} (hp:p≤l.length):∃(v:Int) (q:Nat),q≤l.length∧nO.f l (p:Int) true=some (v,(q:Int),true):=by
 obtain⟨a,p1,hp1,ha⟩:=uG hb hp;obtain⟨c,p2,hp2,hc⟩:=uG hb hp1;unfold nO.f;rw[ha,Option.bind_some,hc,Option.bind_some];exact⟨_,p2,hp2,rfl⟩
theorem EY {l:List Int} (hb:dZ l) {p:Nat} (hp:p≤l.length) (h:Big l p=none):∃(v:Int) (q:Nat),q≤l.length∧nO.f l (p:Int) false=some (v,(q:Int),true):=by
 unfold nO.f;cases ha:V l p with
 |none=>obtain⟨a,p1,hp1,ha⟩:=sV hb hp ha;obtain⟨c,p2,hp2,hc⟩:=uG hb hp1;rw[ha,Option.bind_some,hc,Option.bind_some];exact⟨_,p2,hp2,rfl⟩
 |some a=>
  have h1:=gU hb ha;have hn:V l a.2=none:=by
   cases hc:V l a.2 with
   |none=>rfl
   |some c=>unfold Big at h;rw[ha,Option.bind_some,hc]at h;cases h
  obtain⟨c,p2,hp2,hc⟩:=sV hb h1.2.2.1 hn;rw[mq hb hp ha,Option.bind_some,hc,Option.bind_some];exact⟨_,p2,hp2,rfl⟩
theorem zl {l:List Int} (hb:dZ l):∀(n p:Nat) (acc:List Int),p≤l.length→acc.length+n≤1000000→
 (∀r,jH l n p=some r→Ev (fun k=>fI.l0 k acc (n:Int) l (p:Int) false) (acc++r.1,(r.2:Int),false))∧
 (jH l n p=none→∃(ys:List Int) (q:Nat),q≤l.length∧Ev (fun k=>fI.l0 k acc (n:Int) l (p:Int) false) (ys,(q:Int),true))
 |0,p,acc,hp,ha=>by
  refine⟨fun r h=>?_,fun h=>by cases h⟩
  cases h
  exact fZ fun k=>by rw[fI.l0,if_neg (by omega),List.append_nil]
 |n+1,p,acc,hp,ha=>by
  have hw:wrap64 (((n+1:Nat):Int)-1)=(n:Int):=by rw[show((n+1:Nat):Int)-1=n by omega];exact dB (by omega) (by omega)
  have hstep:∀k,fI.l0 (k+1) acc ((n+1:Nat):Int) l (p:Int) false=(gL.f l (p:Int) false).bind fun t=>if acc.length<17592186044416 then fI.l0 k (acc++[t.1]) (n:Int) l t.2.1 t.2.2 else none:=by
   intro k
   rw[fI.l0,if_pos (by omega),if_neg (by decide),hw]
  refine⟨fun r h=>?_,fun h=>?_⟩
  ·unfold jH at h
   obtain⟨⟨a,p1⟩,hv,h⟩:=Option.bind_eq_some_iff.mp h
   obtain⟨s,hs,h⟩:=Option.bind_eq_some_iff.mp h
   cases h
   have h1:=gU hb hv
   have ih:=(zl hb n p1 (acc++[a]) h1.2.2.1 (by simp;omega)).1 s hs
   refine Ev.step hstep (bU (mq hb hp hv) (bN (by omega) ?_))
   simpa using ih
  ·cases hv:V l p with
   |none=>
    obtain⟨a,q,hq,hx⟩:=sV hb hp hv
    refine⟨acc++[a],q,hq,Ev.step hstep (bU hx (bN (by omega) (fZ fun k=>?_)))⟩
    rw[fI.l0]
    by_cases hn:(n:Int)>0
    ·rw[if_pos hn,if_pos rfl]
    ·rw[if_neg hn]
   |some a=>
    have h1:=gU hb hv
    have hn:jH l n a.2=none:=by
     cases hc:jH l n a.2 with
     |none=>rfl
     |some c=>unfold jH at h;rw[hv,Option.bind_some,hc]at h;cases h
    obtain⟨ys,q,hq,ih⟩:=(zl hb n a.2 (acc++[a.1]) h1.2.2.1 (by simp;omega)).2 hn
    exact⟨ys,q,hq,Ev.step hstep (bU (mq hb hp hv) (bN (by omega) ih))⟩
theorem zn {most:Int} {l:List Int} (hb:dZ l) {p:Nat} (hp:p≤l.length) {r:List Int×Nat} (h:kQ false most l p=some r):Ev (fun k=>fI.f k l (p:Int) false) (r.1,(r.2:Int),false):=by
 obtain⟨_,_,_,c,q,hv,hl,_,_⟩:=tN hb h;have h1:=gU hb hv;unfold fI.f;refine bU (mq hb hp hv) ?_;have:=(zl hb c.toNat q [] h1.2.2.1 (by simp;omega)).1 r hl;rw[Int.toNat_of_nonneg h1.1.1]at this;exact this
theorem AY {l:List Int} (hb:dZ l) {p:Nat} (hp:p≤l.length):∃(ys:List Int) (q:Nat),q≤l.length∧Ev (fun k=>fI.f k l (p:Int) true) (ys,(q:Int),true):=by
 obtain⟨a,q,hq,hx⟩:=uG hb hp;unfold fI.f;refine⟨[],q,hq,bU hx (fZ fun k=>?_)⟩;rw[fI.l0];by_cases hn:a>0
 ·rw[if_pos hn,if_pos rfl]
 ·rw[if_neg hn]
theorem Fx {most:Int} {l:List Int} (hb:dZ l) {p:Nat} (hp:p≤l.length) (h:kQ false most l p=none):∃(ys:List Int) (q:Nat),q≤l.length∧Ev (fun k=>fI.f k l (p:Int) false) (ys,(q:Int),true):=by
 unfold fI.f;cases hv:V l p with
 |none=>
  obtain⟨a,q,hq,hx⟩:=sV hb hp hv;refine⟨[],q,hq,bU hx (fZ fun k=>?_)⟩;rw[fI.l0];by_cases hn:a>0
  ·rw[if_pos hn,if_pos rfl]
  ·rw[if_neg hn]
 |some a=>
  have h1:=gU hb hv;have hn:jH l a.1.toNat a.2=none:=by
   unfold kQ at h;rw[nI hv (fun h=>by cases h)]at h;exact h
  obtain⟨ys,q,hq,ih⟩:=(zl hb a.1.toNat a.2 [] h1.2.2.1 (by simp;omega)).2 hn;rw[Int.toNat_of_nonneg h1.1.1]at ih;exact⟨ys,q,hq,bU (mq hb hp hv) ih⟩
theorem zk {l:List Int} (x6:Int) (p:Int) (note:Int) (ins:List bf) (outs:List bH):Ev (fun k=>cu.l1 k x6 l p true note ins outs) (note,ins,outs,p,true):=by
 refine Ev.step (f:=fun k=>cu.j3 k x6 false l p true note ins outs) (fun k=>?_) (fZ fun k=>?_)
 ·rw[cu.l1];by_cases h:x6>0
  ·rw[if_pos h];rfl
  ·rw[if_neg h]
 ·rw[cu.j3,if_neg (by decide),if_pos rfl]
theorem xH {l:List Int} (hb:dZ l) (x4:Int) {p:Nat} (hp:p≤l.length) (note:Int) (ins:List bf):∃r,Ev (fun k=>cu.l0 k x4 l (p:Int) true note ins) r∧r.2.2.2.2=true:=by
 obtain⟨a,q,hq,hx⟩:=uG hb hp;refine⟨_,Ev.step (f:=fun k=>cu.j1 k x4 false l (p:Int) true note ins) (fun k=>?_) (Ev.step (f:=fun k=>(gL.f l (p:Int) true).bind fun t=>cu.l1 k t.1 l t.2.1 t.2.2 note ins []) (fun k=>?_) (bU hx (zk _ _ _ _ _))),rfl⟩
 ·rw[cu.l0];by_cases h:x4>0
  ·rw[if_pos h];rfl
  ·rw[if_neg h]
 ·rw[cu.j1,if_neg (by decide)]
def uj (l:List bf):Prop:=l.length≤1000000∧∀x∈l,x.f2.length≤65535
def xw (l:List bH):Prop:=l.length≤1000000∧∀x∈l,x.f1.length≤65535
theorem AZ {l:List Int} (hb:dZ l) (note:Int) (ins:List bf) (hi:uj ins):∀(n p:Nat) (acc:List bH),p≤l.length→acc.length+n≤1000000→(∀x∈acc,x.f1.length≤65535)→
 (∀r,iO false l n p=some r→Ev (fun k=>cu.l1 k (n:Int) l (p:Int) false note ins acc) (note,ins,acc++r.1,(r.2:Int),(kF ⟨note,ins,acc++r.1⟩ != 0)))∧
 (iO false l n p=none→∃r,Ev (fun k=>cu.l1 k (n:Int) l (p:Int) false note ins acc) r∧r.2.2.2.2=true)
 |0,p,acc,hp,ha,hx=>by
  refine⟨fun r h=>?_,fun h=>by cases h⟩
  cases h
  have hF:=Fu (t:=⟨note,ins,acc⟩) ⟨by show ins.length≤1048576;have:=hi.1;omega,fun x hx=>by have:=hi.2 x hx;omega⟩ ⟨by show acc.length≤1048576;omega,fun x h=>by have:=hx x h;omega⟩
  refine Ev.step (f:=fun k=>cu.j3 k 0 false l (p:Int) false note ins acc) (fun k=>?_) (Ev.step (f:=fun k=>(lu.f k note ins acc).bind fun t=>some (note,ins,acc,(p:Int),(t != 0))) (fun k=>?_) (bJ hF ?_))
  ·rw[cu.l1,if_neg (by omega)];rfl
  ·rw[cu.j3,if_neg (by decide),if_neg (by decide)]
  ·rw[List.append_nil];exact Ev.now _
 |n+1,p,acc,hp,ha,hx=>by
  have hw:wrap64 (((n+1:Nat):Int)-1)=(n:Int):=by rw[show((n+1:Nat):Int)-1=n by omega];exact dB (by omega) (by omega)
  have h0:∀k,cu.l1 (k+1) ((n+1:Nat):Int) l (p:Int) false note ins acc=cu.j3 k ((n+1:Nat):Int) true l (p:Int) false note ins acc:=by
   intro k
   rw[cu.l1,if_pos (by omega)];rfl
  have h1:∀k,cu.j3 (k+1) ((n+1:Nat):Int) true l (p:Int) false note ins acc=(nO.f l (p:Int) false).bind fun a=>(fI.f k l a.2.1 a.2.2).bind fun b=>if acc.length<4398046511104 then cu.l1 k (n:Int) l b.2.1 b.2.2 note ins (acc++[⟨a.1,b.1⟩])else none:=by
   intro k
   rw[cu.j3,if_pos rfl,hw]
  refine⟨fun r h=>?_,fun h=>?_⟩
  ·unfold iO at h
   obtain⟨x,aL,h⟩:=Option.bind_eq_some_iff.mp h
   obtain⟨s,hs,h⟩:=Option.bind_eq_some_iff.mp h
   cases h
   have hO:=CK hb aL
   obtain⟨⟨a,p1⟩,h3,h4⟩:=Option.bind_eq_some_iff.mp aL
   obtain⟨b,h5,h6⟩:=Option.bind_eq_some_iff.mp h4
   cases h6
   have hB:=xX hb h3
   have ih:=(AZ hb note ins hi n b.2 (acc++[⟨a,b.1⟩]) hO.1 (by simp;omega) (fun y hy=>by
    rcases List.mem_append.1 hy with hy|hy
    ·exact hx y hy
    ·rw[List.mem_singleton.1 hy];exact hO.2)).1 s hs
   refine Ev.step h0 (Ev.step h1 (bU (uE hb hp h3) (bJ (zn hb hB.2 h5) (bN (by omega) ?_))))
   simpa using ih
  ·cases h3:Big l p with
   |none=>
    obtain⟨a,p1,hp1,ha1⟩:=EY hb hp h3
    obtain⟨ys,q,hq,hy⟩:=AY hb hp1
    exact⟨_,Ev.step h0 (Ev.step h1 (bU ha1 (bJ hy (bN (by omega) (zk _ _ _ _ _))))),rfl⟩
   |some a=>
    have hB:=xX hb h3
    cases h5:kQ false 12 l a.2 with
    |none=>
     obtain⟨ys,q,hq,hy⟩:=Fx hb hB.2 h5
     exact⟨_,Ev.step h0 (Ev.step h1 (bU (uE hb hp h3) (bJ hy (bN (by omega) (zk _ _ _ _ _))))),rfl⟩
    |some b=>
     have hN:=tN hb h5
     have hn:iO false l n b.2=none:=by
      cases hc:iO false l n b.2 with
      |none=>rfl
      |some c=>
       have e:nU false l p=some (⟨a.1,b.1⟩,b.2):=by unfold nU;rw[h3,Option.bind_some,h5];rfl
       unfold iO at h;rw[e,Option.bind_some,hc]at h;cases h
     obtain⟨r,hr,hr1⟩:=(AZ hb note ins hi n b.2 (acc++[⟨a.1,b.1⟩]) hN.2.1 (by simp;omega) (fun y hy=>by
      rcases List.mem_append.1 hy with hy|hy
      ·exact hx y hy
      ·rw[List.mem_singleton.1 hy];exact hN.2.2.1)).2 hn
     exact⟨r,Ev.step h0 (Ev.step h1 (bU (uE hb hp h3) (bJ (zn hb hB.2 h5) (bN (by omega) hr)))),hr1⟩
def oG (b:Bool) (l:List Int) (p:Nat):Option (List bH×Nat):=(Vm b 4 l p).bind fun d=>iO b l d.1.toNat d.2
theorem Lc {l:List Int} (hb:dZ l) (note:Int) (ins:List bf) (hi:uj ins) {p:Nat} (hp:p≤l.length):
 (∀r,oG false l p=some r→Ev (fun k=>cu.l0 k 0 l (p:Int) false note ins) (note,ins,r.1,(r.2:Int),(kF ⟨note,ins,r.1⟩ != 0)))∧
 (oG false l p=none→∃r,Ev (fun k=>cu.l0 k 0 l (p:Int) false note ins) r∧r.2.2.2.2=true):=by
 have h0:∀k,cu.l0 (k+1) 0 l (p:Int) false note ins=cu.j1 k 0 false l (p:Int) false note ins:=by
  intro k;rw[cu.l0,if_neg (by omega)]
 have h1:∀k,cu.j1 (k+1) 0 false l (p:Int) false note ins=(gL.f l (p:Int) false).bind fun t=>cu.l1 k t.1 l t.2.1 t.2.2 note ins []:=by
  intro k;rw[cu.j1,if_neg (by decide)]
 cases hv:V l p with
 |none=>
  refine⟨fun r h=>?_,fun _=>?_⟩
  ·unfold oG Vm at h;rw[hv]at h;cases h
  ·obtain⟨a,q,hq,hx⟩:=sV hb hp hv;exact⟨_,Ev.step h0 (Ev.step h1 (bU hx (zk _ _ _ _ _))),rfl⟩
 |some d=>
  have hd:=gU hb hv;have e:oG false l p=iO false l d.1.toNat d.2:=by unfold oG;rw[nI hv (fun h=>by cases h)];rfl
  have ho:=AZ hb note ins hi d.1.toNat d.2 [] hd.2.2.1 (by simp;omega) (by simp);rw[Int.toNat_of_nonneg hd.1.1]at ho;rw[e];refine⟨fun r h=>?_,fun h=>?_⟩
  ·exact Ev.step h0 (Ev.step h1 (bU (mq hb hp hv) (ho.1 r h)))
  ·obtain⟨r,hr,hr1⟩:=ho.2 h;exact⟨r,Ev.step h0 (Ev.step h1 (bU (mq hb hp hv) hr)),hr1⟩
theorem AU {l:List Int} (hb:dZ l) (note:Int):∀(n p:Nat) (acc:List bf),p≤l.length→acc.length+n≤1000000→(∀x∈acc,x.f2.length≤65535)→
 (∀xs r,iB false l n p=some xs→oG false l xs.2=some r→Ev (fun k=>cu.l0 k (n:Int) l (p:Int) false note acc) (note,acc++xs.1,r.1,(r.2:Int),(kF ⟨note,acc++xs.1,r.1⟩ != 0)))∧
 (((iB false l n p).bind fun xs=>oG false l xs.2)=none→∃r,Ev (fun k=>cu.l0 k (n:Int) l (p:Int) false note acc) r∧r.2.2.2.2=true)
 |0,p,acc,hp,ha,hx=>by
  have h:=Lc hb note acc ⟨by omega,hx⟩ hp
  refine⟨fun xs r h1 h2=>?_,fun h1=>?_⟩
  ·cases h1
   rw[List.append_nil]
   exact h.1 r h2
  ·exact h.2 h1
 |n+1,p,acc,hp,ha,hx=>by
  have hw:wrap64 (((n+1:Nat):Int)-1)=(n:Int):=by rw[show((n+1:Nat):Int)-1=n by omega];exact dB (by omega) (by omega)
  have h0:∀k,cu.l0 (k+1) ((n+1:Nat):Int) l (p:Int) false note acc=cu.j1 k ((n+1:Nat):Int) true l (p:Int) false note acc:=by
   intro k
   rw[cu.l0,if_pos (by omega)];rfl
  have h1:∀k,cu.j1 (k+1) ((n+1:Nat):Int) true l (p:Int) false note acc=(nO.f l (p:Int) false).bind fun a=>(gL.f l a.2.1 a.2.2).bind fun o=>(fI.f k l o.2.1 o.2.2).bind fun b=>if acc.length<3518437208883 then cu.l0 k (n:Int) l b.2.1 b.2.2 note (acc++[⟨a.1,o.1,b.1⟩])else none:=by
   intro k
   rw[cu.j1,if_pos rfl,hw]
  refine⟨fun xs r h h2=>?_,fun h=>?_⟩
  ·unfold iB at h
   obtain⟨x,aL,h⟩:=Option.bind_eq_some_iff.mp h
   obtain⟨s,hs,h⟩:=Option.bind_eq_some_iff.mp h
   cases h
   have hO:=Cg hb aL
   obtain⟨⟨a,p1⟩,h3,h4⟩:=Option.bind_eq_some_iff.mp aL
   obtain⟨⟨o,p2⟩,h5,h4⟩:=Option.bind_eq_some_iff.mp h4
   obtain⟨b,h7,h6⟩:=Option.bind_eq_some_iff.mp h4
   cases h6
   have hB:=xX hb h3
   have hV:=gU hb h5
   have ih:=(AU hb note n b.2 (acc++[⟨a,o,b.1⟩]) hO.1 (by simp;omega) (fun y hy=>by
    rcases List.mem_append.1 hy with hy|hy
    ·exact hx y hy
    ·rw[List.mem_singleton.1 hy];exact hO.2)).1 s r hs h2
   refine Ev.step h0 (Ev.step h1 (bU (uE hb hp h3) (bU (mq hb hB.2 h5) (bJ (zn hb hV.2.2.1 h7) (bN (by omega) ?_)))))
   simpa using ih
  ·cases h3:Big l p with
   |none=>
    obtain⟨a,p1,hp1,ha1⟩:=EY hb hp h3
    obtain⟨o,p2,hp2,ho1⟩:=uG hb hp1
    obtain⟨ys,q,hq,hy⟩:=AY hb hp2
    obtain⟨r,hr,hr1⟩:=xH hb (n:Int) hq note (acc++[⟨a,o,ys⟩])
    exact⟨r,Ev.step h0 (Ev.step h1 (bU ha1 (bU ho1 (bJ hy (bN (by omega) hr))))),hr1⟩
   |some a=>
    have hB:=xX hb h3
    cases h5:V l a.2 with
    |none=>
     obtain⟨o,p2,hp2,ho1⟩:=sV hb hB.2 h5
     obtain⟨ys,q,hq,hy⟩:=AY hb hp2
     obtain⟨r,hr,hr1⟩:=xH hb (n:Int) hq note (acc++[⟨a.1,o,ys⟩])
     exact⟨r,Ev.step h0 (Ev.step h1 (bU (uE hb hp h3) (bU ho1 (bJ hy (bN (by omega) hr))))),hr1⟩
    |some o=>
     have hV:=gU hb h5
     cases h7:kQ false 8 l o.2 with
     |none=>
      obtain⟨ys,q,hq,hy⟩:=Fx hb hV.2.2.1 h7
      obtain⟨r,hr,hr1⟩:=xH hb (n:Int) hq note (acc++[⟨a.1,o.1,ys⟩])
      exact⟨r,Ev.step h0 (Ev.step h1 (bU (uE hb hp h3) (bU (mq hb hB.2 h5) (bJ hy (bN (by omega) hr))))),hr1⟩
     |some b=>
      have hN:=tN hb h7
      have e:nQ false l p=some (⟨a.1,o.1,b.1⟩,b.2):=by unfold nQ;rw[h3,Option.bind_some,h5,Option.bind_some,h7];rfl
      have hn:((iB false l n b.2).bind fun xs=>oG false l xs.2)=none:=by
       cases hc:iB false l n b.2 with
       |none=>rfl
       |some c=>unfold iB at h;rw[e,Option.bind_some,hc]at h;exact h
      obtain⟨r,hr,hr1⟩:=(AU hb note n b.2 (acc++[⟨a.1,o.1,b.1⟩]) hN.2.1 (by simp;omega) (fun y hy=>by
       rcases List.mem_append.1 hy with hy|hy
       ·exact hx y hy
       ·rw[List.mem_singleton.1 hy];exact hN.2.2.1)).2 hn
      exact⟨r,Ev.step h0 (Ev.step h1 (bU (uE hb hp h3) (bU (mq hb hB.2 h5) (bJ (zn hb hV.2.2.1 h7) (bN (by omega) hr))))),hr1⟩
theorem Lb {l:List Int} (hb:dZ l):(∀r,jP false l 0=some r→Ev (fun k=>cu.f k l 0 false) (r.1.f0,r.1.f1,r.1.f2,(r.2:Int),(kF r.1 != 0)))∧(jP false l 0=none→∃r,Ev (fun k=>cu.f k l 0 false) r∧r.2.2.2.2=true):=by
 unfold cu.f;cases hn:V l 0 with
 |none=>
  refine⟨fun r h=>?_,fun _=>?_⟩
  ·unfold jP at h;rw[hn]at h;cases h
  ·obtain⟨a,p1,hp1,ha1⟩:=sV hb (Nat.zero_le _) hn;obtain⟨c,p2,hp2,hc1⟩:=uG hb hp1;obtain⟨r,hr,hr1⟩:=xH hb c hp2 a [];exact⟨r,bU ha1 (bU hc1 hr),hr1⟩
 |some a=>
  have h1:=gU hb hn;cases hc:V l a.2 with
  |none=>
   refine⟨fun r h=>?_,fun _=>?_⟩
   ·unfold jP Vm at h;rw[hn,Option.bind_some,hc]at h;cases h
   ·obtain⟨c,p2,hp2,hc1⟩:=sV hb h1.2.2.1 hc;obtain⟨r,hr,hr1⟩:=xH hb c hp2 a.1 [];exact⟨r,bU (mq hb (Nat.zero_le _) hn) (bU hc1 hr),hr1⟩
  |some c=>
   have h2:=gU hb hc;have hi:=AU hb a.1 c.1.toNat c.2 [] h2.2.2.1 (by simp;omega) (by simp);rw[Int.toNat_of_nonneg h2.1.1]at hi;have e:jP false l 0=(iB false l c.1.toNat c.2).bind fun xs=>(oG false l xs.2).bind fun ys=>some (⟨a.1,xs.1,ys.1⟩,ys.2):=by
    unfold jP oG;rw[hn,Option.bind_some,nI hc (fun h=>by cases h),Option.bind_some];congr 1;funext xs;rw[Option.bind_assoc]
   refine⟨fun r h=>?_,fun h=>?_⟩
   ·rw[e]at h;obtain⟨xs,hx,h⟩:=Option.bind_eq_some_iff.mp h;obtain⟨ys,hy,h⟩:=Option.bind_eq_some_iff.mp h;cases h;exact bU (mq hb (Nat.zero_le _) hn) (bU (mq hb h1.2.2.1 hc) (hi.1 xs ys hx hy))
   ·have hn2:((iB false l c.1.toNat c.2).bind fun xs=>oG false l xs.2)=none:=by
     rw[e]at h;cases hx:iB false l c.1.toNat c.2 with
     |none=>rfl
     |some xs=>
      rw[hx,Option.bind_some]at h;cases hy:oG false l xs.2 with
      |none=>exact hy
      |some ys=>rw[hy]at h;cases h
    obtain⟨r,hr,hr1⟩:=hi.2 hn2;exact⟨r,bU (mq hb (Nat.zero_le _) hn) (bU (mq hb h1.2.2.1 hc) hr),hr1⟩
theorem Jm (x:Int):qJ.f x=some (!decide (0≤x∧x≤9999)):=by
 unfold qJ.f;rw[sI];rfl
theorem Ee (x y:bf):ug.f y.f0 y.f1 y.f2 [x]=some (mP x y):=by
 have hrd:aQ [x] 0=x:=rfl;unfold ug.f mP;rw[if_pos (by simp),hrd];by_cases h:x.f0=y.f0<;>simp[h]
theorem JB (x:bf) (suf:List bf):∀(pre:List bf) (n:Int),n=(pre.length:Int)+suf.length→n≤1048576→
 ∃r:Int,Ev (fun k=>jd.l0 k (pre++suf) [x] n pre.length) r∧decide (r≥0)=suf.any (mP x):=by
 induction suf with
 |nil=>intro pre n hn _;subst hn;exact⟨-1,fZ (fun k=>by rw[jd.l0,if_neg (by simp)]),by simp⟩
 |cons b suf ih=>
  intro pre n hn hl;simp only[List.length_cons,Int.natCast_add,Int.natCast_one]at hn;cases hb:mP x b with
  |true=>refine⟨pre.length,fZ (fun k=>?_),by simp[hb]⟩;rw[jd.l0,if_pos (by omega),if_pos (by omega),if_pos (by simp;omega),qU,Ee,hb];rfl
  |false=>obtain⟨r,h,hr⟩:=ih (pre++[b]) n (by simp;omega) hl;refine⟨r,Ev.step (fun k=>?_) h,by simp[hb,hr]⟩;rw[jd.l0,if_pos (by omega),if_pos (by omega),if_pos (by simp;omega),qU,Ee,hb,dB (by omega) (by omega)];simp
theorem JA (x:bf) {l:List bf} (hl:(l.length:Int)≤1048576):Ev (fun k=>oK.f k l x.f0 x.f1 x.f2) (l.any (mP x)):=by
 obtain⟨r,h,hr⟩:=JB x l [] l.length (by simp) hl;rw[←hr];unfold oK.f qx.f jd.f;exact bJ (by simpa using h) (Ev.now _)
theorem Ih (l:List Int):l.any (fun x=> !decide (0≤x∧x≤9999))= !decide (jC l 0 9999):=by
 induction l with
 |nil=>simp[jC]
 |cons b l ih=>rw[List.any_cons,ih];by_cases hb:0≤b∧b≤9999<;>simp[zF,hb]
theorem Jo (pre:List bf) (x:bf) (hx:(x.f2.length:Int)≤1048576) (hl:(pre.length:Int)≤1048576):Ev (fun k=>iF.f k x.f0 x.f1 x.f2 pre) (pQ pre x):=by
 unfold iF.f;refine Ev.congr (f:=fun k=>iF.j0 k pre (sK x) x.f0 x.f1 x.f2) (fun k=>?_) ?_
 ·rw[Jp,sI];simp only[Option.bind_some,sK];cases decide (0≤x.f0∧x.f0≤2147483646)<;>cases decide (0≤x.f1∧x.f1≤3)<;>simp
 ·unfold pQ;cases hb:sK x with
  |true=>exact fZ (fun k=>by rw[iF.j0];simp)
  |false=>
   rw[if_neg (by decide)];refine Ev.step (fun k=>by rw[iF.j0,if_neg (by decide)]) ?_;by_cases h8:(x.f2.length:Int)>8
   ·rw[if_pos h8];exact bN h8 (Ev.now _)
   ·rw[if_neg h8];refine dJ h8 (bJ (KE _ Jm (by omega)) ?_);rw[Ih];by_cases ha:decide (jC x.f2 0 9999)=true
    ·rw[if_pos ha,ha];refine dJ (by decide) (bJ (JA x hl) ?_);by_cases hh:pre.any (mP x)=true
     ·rw[if_pos hh,if_pos hh];exact Ev.now _
     ·rw[if_neg hh,if_neg hh];exact Ev.now _
    ·rw[if_neg ha];exact bN (by simpa using ha) (Ev.now _)
theorem Js (suf:List bH):∀(pre:List bH) (a:Int) (n:Int),n=(pre.length:Int)+suf.length→n≤1048576→
 Ev (fun k=>iQ.l0 k a (pre++suf) n pre.length) (oL a suf):=by
 induction suf with
 |nil=>intro pre a n hn _;subst hn;exact fZ (fun k=>by rw[iQ.l0,if_neg (by simp)];rfl)
 |cons b suf ih=>intro pre a n hn hl;simp only[List.length_cons,Int.natCast_add,Int.natCast_one]at hn;have h:=ih (pre++[b]) (wrap64 (a+b.f0)) n (by simp;omega) hl;refine Ev.step (fun k=>?_) (by simpa[oL]using h);rw[iQ.l0,if_pos (by omega),if_pos (by omega),if_pos (by simp;omega),uw,dB (x:=(pre.length:Int)+1) (by omega) (by omega)]
theorem Jr {l:List bH} (hl:l.length≤1048576):Ev (fun k=>iQ.f k l) (oL 0 l):=by
 unfold iQ.f;exact Js l [] 0 l.length (by simp) (by omega)
theorem Jl (t:eU) (h2:t.f2.length≤1048576) (suf:List bH):∀(pre:List bH) (n:Int),n=(pre.length:Int)+suf.length→(∀x∈suf,(x.f1.length:Int)≤1048576)→n≤1048576→
 Ev (fun k=>eZ.l1 k (pre++suf) n pre.length t.f0 t.f1 t.f2) (pV suf (vC (oL 0 t.f2))):=by
 induction suf with
 |nil=>
  intro pre n hn _ _;simp only[List.length_nil,Int.natCast_zero,Int.add_zero]at hn;simp only[pV,vC];refine Ev.step (f:=fun k=>(iQ.f k t.f2).bind fun s=>(pO.f s).bind fun c=>if c=true then some 0 else some 7) (fun k=>?_) (bJ (Jr h2) (bU (Ah _) ?_))
  ·rw[eZ.l1,if_neg (by omega)]
  ·by_cases h:0≤oL 0 t.f2∧oL 0 t.f2≤1000000
   ·rw[if_pos h];exact bN (by simpa using h) (Ev.now _)
   ·rw[if_neg h];exact dJ (by simpa using h) (Ev.now _)
 |cons b suf ih=>
  intro pre n hn hs hl;simp only[List.length_cons,Int.natCast_add,Int.natCast_one]at hn;have h:=ih (pre++[b]) n (by simp;omega) (fun x hx=>hs x (by simp[hx])) hl;rw[show((pre++[b]).length:Int)=(pre.length:Int)+1 from by simp,show pre++[b]++suf=pre++b::suf from by simp]at h;simp only[pV];by_cases hb:0≤b.f0∧b.f0≤1000000
  ·rw[if_pos hb];refine Ev.step (f:=fun k=>(nJ.f k b.f1).bind fun t1=>if t1=0 then eZ.l1 k (pre++b::suf) n ((pre.length:Int)+1) t.f0 t.f1 t.f2 else some t1) (fun k=>?_) (bJ (Jg (by have:=hs b (by simp);omega)) ?_)
   ·rw[eZ.l1,if_pos (by omega),if_pos (by omega),if_pos (by simp;omega),uw,Ah,dB (x:=(pre.length:Int)+1) (by omega) (by omega)];simp[hb]
   ·by_cases hf:pJ b.f1=0
    ·rw[if_pos hf];exact bN hf h
    ·rw[if_neg hf];exact dJ hf (Ev.now _)
  ·rw[if_neg hb];refine fZ (fun k=>?_);rw[eZ.l1,if_pos (by omega),if_pos (by omega),if_pos (by simp;omega),uw,Ah];simp[hb]
theorem Jk (t:eU) (e:Int) (he:Ev (fun k=>eZ.l1 k t.f2 (t.f2.length:Int) 0 t.f0 t.f1 t.f2) e) (suf:List bf):∀(pre:List bf),t.f1=pre++suf→(∀x∈suf,(x.f2.length:Int)≤1048576)→(pre.length:Int)+suf.length≤1048576→
 Ev (fun k=>eZ.l0 k t.f1 (t.f1.length:Int) pre.length t.f0 t.f1 t.f2) (qL pre suf e):=by
 induction suf with
 |nil=>intro pre ht _ _;refine Ev.step (fun k=>?_) he;rw[eZ.l0,if_neg (by rw[ht];simp)]
 |cons b suf ih=>
  intro pre ht hs hl;simp only[List.length_cons,Int.natCast_add,Int.natCast_one]at hl;have h:=ih (pre++[b]) (by rw[ht];simp) (fun x hx=>hs x (by simp[hx])) (by simp;omega);rw[show((pre++[b]).length:Int)=(pre.length:Int)+1 from by simp]at h;have hlen:(t.f1.length:Int)=(pre.length:Int)+(suf.length+1):=by rw[ht];simp
  have e1:aQ t.f1 (pre.length:Int)=b:=by rw[ht];exact qU pre b suf
  have e2:t.f1.take ((pre.length:Int)).toNat=pre:=by rw[ht];simp
  refine Ev.step (f:=fun k=>(iF.f k b.f0 b.f1 b.f2 pre).bind fun t7=>if t7=0 then eZ.l0 k t.f1 (t.f1.length:Int) ((pre.length:Int)+1) t.f0 t.f1 t.f2 else some t7) (fun k=>?_) (bJ (Jo pre b (hs b (by simp)) (by omega)) ?_)
  ·rw[eZ.l0,if_pos (by omega),if_pos (by omega),if_pos (by omega),if_pos (by omega),e1,e2,dB (x:=(pre.length:Int)+1) (by omega) (by omega)]
  ·unfold qL;by_cases hf:pQ pre b=0
   ·rw[if_pos hf];exact bN hf h
   ·rw[if_neg hf];exact dJ hf (Ev.now _)
theorem Ag {t:eU} (h1:t.f1.length≤1048576∧∀x∈t.f1,(x.f2.length:Int)≤1048576) (h2:t.f2.length≤1048576∧∀x∈t.f2,(x.f1.length:Int)≤1048576):Ev (fun k=>eZ.f k t.f0 t.f1 t.f2) (kF t):=by
 unfold eZ.f kF;refine bU (sI _ _ _) ?_;by_cases hn:0≤t.f0∧t.f0≤65535
 ·rw[if_pos hn];refine bN (by simpa using hn) ?_;by_cases c1:(t.f1.length:Int)>4
  ·rw[if_pos (.inl c1)];exact bN c1 (Ev.now _)
  ·refine dJ c1 (bU (sI _ _ _) ?_);by_cases c2:1≤(t.f2.length:Int)∧(t.f2.length:Int)≤4
   ·rw[if_neg (by omega)];refine bN (by simpa using c2) ?_;have l1:=Jl t h2.1 t.f2 [] t.f2.length (by simp) h2.2 (by omega);have:=Jk t _ (by simpa using l1) t.f1 [] (by simp) h1.2 (by simp;omega);simpa using this
   ·rw[if_pos (by omega)];exact dJ (by simpa using c2) (Ev.now _)
 ·rw[if_neg hn];exact dJ (by simpa using hn) (Ev.now _)
theorem zU {l:List Int} (hb:dZ l) (p:Nat):∀x∈l.drop p,0≤x∧x≤255:=fun x hx=>hb.1 x (List.mem_of_mem_drop hx)
theorem mZ {l:List Int} (hb:dZ l) {p:Nat} {most v:Int} {q:Nat} (h:Vm true most l p=some (v,q)):Ev (fun k=>fO.f k (l.drop p) false most) (v,l.drop q,false):=by
 obtain⟨hv,hm⟩:=lJ h;obtain⟨h1,h2,h3,h4⟩:=gU hb hv;have hm:=hm rfl;simp only at hm;have hr:=wZ (zU hb p);rw[h4]at hr;unfold fO.f;refine bJ hr (dJ (by simp;omega) (bN (by simp;omega) ?_));have e:(l.drop p).drop ((q:Int)-p).toNat=l.drop q:=by rw[List.drop_drop];congr 1;omega
 rw[e];exact Ev.now _
theorem sN {l:List Int} (hb:dZ l) {p:Nat} {most:Int} (h:Vm true most l p=none):Ev (fun k=>fO.f k (l.drop p) false most) (0,l.drop p,true):=by
 have hr:=wZ (zU hb p);unfold fO.f;refine bJ hr (bN ?_ (Ev.now _));by_cases h1:(dG (l.drop p)).1=0
 ·right;right;(have hV:V l p=some ((dG (l.drop p)).2.1,p+(dG (l.drop p)).2.2.toNat):=by unfold V;rw[if_pos h1]);apply Classical.byContradiction;intro hc;rw[nI hV (fun _=>Int.not_lt.1 hc)]at h;cases h
 ·exact .inr (.inl h1)
theorem qQ {l:List Int} (hb:dZ l) (p:Nat) (most:Int):Ev (fun k=>fO.f k (l.drop p) true most) (0,l.drop p,true):=by
 have hr:=wZ (zU hb p);unfold fO.f;exact bJ hr (bN (.inl rfl) (Ev.now _))
theorem pz {l:List Int} (hb:dZ l) {p:Nat}:Vm true 65535 l p=V l p:=by
 cases h:V l p with
 |none=>unfold Vm;rw[h];rfl
 |some r=>exact nI h (fun _=>(gU hb (v:=r.1) (q:=r.2) h).1.2)
theorem tZ {l:List Int} (hb:dZ l) {p:Nat} {v:Int} {q:Nat} (h:Big l p=some (v,q)):Ev (fun k=>jZ.f k (l.drop p) false) (v,l.drop q,false):=by
 obtain⟨⟨a,p1⟩,ha,h⟩:=Option.bind_eq_some_iff.mp h;obtain⟨⟨c,p2⟩,hc,h⟩:=Option.bind_eq_some_iff.mp h;cases h;have h1:=gU hb ha;have h2:=gU hb hc;rw[←pz hb]at ha hc;unfold jZ.f;refine bJ (mZ hb ha) (bJ (mZ hb hc) ?_);simp only;rw[dB (x:=65536*c) (by omega) (by omega),dB (by omega) (by omega)];exact Ev.now _
theorem DX {l:List Int} (hb:dZ l) (p:Nat):Ev (fun k=>jZ.f k (l.drop p) true) (0,l.drop p,true):=by
 unfold jZ.f;refine bJ (qQ hb p _) (bJ (qQ hb p _) ?_);simp only;rw[dB (x:=65536*0) (by omega) (by omega),dB (by omega) (by omega)];exact Ev.now _
theorem DW {l:List Int} (hb:dZ l) {p:Nat} (h:Big l p=none):∃(v:Int) (q:Nat),Ev (fun k=>jZ.f k (l.drop p) false) (v,l.drop q,true):=by
 unfold jZ.f;cases ha:V l p with
 |none=>rw[←pz hb]at ha;exact⟨_,p,bJ (sN hb ha) (bJ (qQ hb p _) (Ev.now _))⟩
 |some a=>
  have hn:V l a.2=none:=by
   cases hc:V l a.2 with
   |none=>rfl
   |some c=>unfold Big at h;rw[ha,Option.bind_some,hc]at h;cases h
  rw[←pz hb]at ha hn;exact⟨_,a.2,bJ (mZ hb (v:=a.1) (q:=a.2) ha) (bJ (sN hb hn) (Ev.now _))⟩
theorem yS {l:List Int} (hb:dZ l) (p:Nat):∀(c i:Nat) (n:Int) (acc:List Int),(i:Int)+c=n→n≤100000→acc.length+c≤1000000→∃ys,Ev (fun k=>fG.l0 k acc n (i:Int) (l.drop p) true) (ys,l.drop p,true)
 |0,i,n,acc,hc,hn,ha=>⟨acc,fZ fun k=>by rw[fG.l0,if_neg (by omega)]⟩
 |c+1,i,n,acc,hc,hn,ha=>by
  obtain⟨ys,h⟩:=yS hb p c (i+1) n (acc++[0]) (by omega) hn (by simp;omega)
  refine⟨ys,Ev.step (f:=fun k=>(fO.f k (l.drop p) true 65535).bind fun t=>if acc.length<17592186044416 then fG.l0 k (acc++[t.1]) n ((i+1:Nat):Int) t.2.1 t.2.2 else none) (fun k=>?_) (bJ (qQ hb p _) (bN (by omega) h))⟩
  rw[fG.l0,if_pos (by omega),dB (x:=(i:Int)+1) (by omega) (by omega)];rfl
theorem yR {l:List Int} (hb:dZ l):∀(c p i:Nat) (n:Int) (acc:List Int),(i:Int)+c=n→n≤100000→acc.length+c≤1000000→
 (∀r,jH l c p=some r→Ev (fun k=>fG.l0 k acc n (i:Int) (l.drop p) false) (acc++r.1,l.drop r.2,false))∧
 (jH l c p=none→∃(ys:List Int) (q:Nat),Ev (fun k=>fG.l0 k acc n (i:Int) (l.drop p) false) (ys,l.drop q,true))
 |0,p,i,n,acc,hc,hn,ha=>by
  refine⟨fun r h=>?_,fun h=>by cases h⟩
  cases h
  exact fZ fun k=>by rw[fG.l0,if_neg (by omega),List.append_nil]
 |c+1,p,i,n,acc,hc,hn,ha=>by
  have hstep:∀k,fG.l0 (k+1) acc n (i:Int) (l.drop p) false=(fO.f k (l.drop p) false 65535).bind fun t=>if acc.length<17592186044416 then fG.l0 k (acc++[t.1]) n ((i+1:Nat):Int) t.2.1 t.2.2 else none:=by
   intro k
   rw[fG.l0,if_pos (by omega),dB (x:=(i:Int)+1) (by omega) (by omega)];rfl
  refine⟨fun r h=>?_,fun h=>?_⟩
  ·unfold jH at h
   obtain⟨⟨a,p1⟩,hv,h⟩:=Option.bind_eq_some_iff.mp h
   obtain⟨s,hs,h⟩:=Option.bind_eq_some_iff.mp h
   cases h
   have ih:=(yR hb c p1 (i+1) n (acc++[a]) (by omega) hn (by simp;omega)).1 s hs
   rw[←pz hb]at hv
   refine Ev.step hstep (bJ (mZ hb hv) (bN (by omega) ?_))
   simpa using ih
  ·cases hv:V l p with
   |none=>
    rw[←pz hb]at hv
    obtain⟨ys,hw⟩:=yS hb p c (i+1) n (acc++[0]) (by omega) hn (by simp;omega)
    exact⟨ys,p,Ev.step hstep (bJ (sN hb hv) (bN (by omega) hw))⟩
   |some a=>
    have hn2:jH l c a.2=none:=by
     cases hc:jH l c a.2 with
     |none=>rfl
     |some r=>unfold jH at h;rw[hv,Option.bind_some,hc]at h;cases h
    obtain⟨ys,q,ih⟩:=(yR hb c a.2 (i+1) n (acc++[a.1]) (by omega) hn (by simp;omega)).2 hn2
    rw[←pz hb]at hv
    exact⟨ys,q,Ev.step hstep (bJ (mZ hb (v:=a.1) (q:=a.2) hv) (bN (by omega) ih))⟩
theorem yQ {most:Int} {l:List Int} (hb:dZ l) {p:Nat} {r:List Int×Nat} (h:kQ true most l p=some r):Ev (fun k=>fG.f k (l.drop p) false most) (r.1,l.drop r.2,false):=by
 obtain⟨⟨c,q⟩,hv,hl⟩:=Option.bind_eq_some_iff.mp h;have h1:=gU hb (lJ hv).1;simp only at hl;unfold fG.f;have ih:=(yR hb c.toNat q 0 c [] (by omega) (by omega) (by simp;omega)).1 r hl;exact bJ (mZ hb hv) ih
theorem xA {l:List Int} (hb:dZ l) (p:Nat) (most:Int):∃ys,Ev (fun k=>fG.f k (l.drop p) true most) (ys,l.drop p,true):=by
 unfold fG.f;obtain⟨ys,h⟩:=yS hb p 0 0 0 [] (by omega) (by omega) (by simp);exact⟨ys,bJ (qQ hb p _) h⟩
theorem Ew {most:Int} {l:List Int} (hb:dZ l) {p:Nat} (h:kQ true most l p=none):∃(ys:List Int) (q:Nat),Ev (fun k=>fG.f k (l.drop p) false most) (ys,l.drop q,true):=by
 unfold fG.f;cases hv:Vm true most l p with
 |none=>obtain⟨ys,h⟩:=yS hb p 0 0 0 [] (by omega) (by omega) (by simp);exact⟨ys,p,bJ (sN hb hv) h⟩
 |some a=>
  have h1:=gU hb (v:=a.1) (q:=a.2) (lJ hv).1;have hn:jH l a.1.toNat a.2=none:=by unfold kQ at h;rw[hv]at h;exact h
  obtain⟨ys,q,ih⟩:=(yR hb a.1.toNat a.2 0 a.1 [] (by omega) (by omega) (by simp;omega)).2 hn;exact⟨ys,q,bJ (mZ hb (v:=a.1) (q:=a.2) hv) ih⟩
theorem xM {l:List Int} (hb:dZ l) (p:Nat) (note:Int) (ins:List bf):∀(c i:Nat) (n:Int) (acc:List bH),(i:Int)+c=n→n≤100→acc.length+c≤1000000→∃r,Ev (fun k=>eY.l1 k n (i:Int) (l.drop p) true note ins acc) r∧r.2.2.2.2=true
 |0,i,n,acc,hc,hn,ha=>⟨_,fZ fun k=>by rw[eY.l1,if_neg (by omega)],rfl⟩
 |c+1,i,n,acc,hc,hn,ha=>by
  obtain⟨ys,hy⟩:=xA hb p 12
  obtain⟨r,h,hr⟩:=xM hb p note ins c (i+1) n (acc++[⟨0,ys⟩]) (by omega) hn (by simp;omega)
  refine⟨r,Ev.step (f:=fun k=>(jZ.f k (l.drop p) true).bind fun a=>(fG.f k a.2.1 a.2.2 12).bind fun b=>if acc.length<4398046511104 then eY.l1 k n ((i+1:Nat):Int) b.2.1 b.2.2 note ins (acc++[⟨a.1,b.1⟩])else none) (fun k=>?_) (bJ (DX hb p) (bJ hy (bN (by omega) h))),hr⟩
  rw[eY.l1,if_pos (by omega),dB (x:=(i:Int)+1) (by omega) (by omega)];rfl
theorem vS {l:List Int} (hb:dZ l) (p:Nat) (note:Int):∀(c i:Nat) (n:Int) (acc:List bf),(i:Int)+c=n→n≤100→acc.length+c≤1000000→∃r,Ev (fun k=>eY.l0 k n (i:Int) (l.drop p) true note acc) r∧r.2.2.2.2=true
 |0,i,n,acc,hc,hn,ha=>by
  obtain⟨r,h,hr⟩:=xM hb p note acc 0 0 0 [] (by omega) (by omega) (by simp)
  refine⟨r,Ev.step (f:=fun k=>(fO.f k (l.drop p) true 4).bind fun t=>eY.l1 k t.1 0 t.2.1 t.2.2 note acc []) (fun k=>?_) (bJ (qQ hb p _) h),hr⟩
  rw[eY.l0,if_neg (by omega)]
 |c+1,i,n,acc,hc,hn,ha=>by
  obtain⟨ys,hy⟩:=xA hb p 8
  obtain⟨r,h,hr⟩:=vS hb p note c (i+1) n (acc++[⟨0,0,ys⟩]) (by omega) hn (by simp;omega)
  refine⟨r,Ev.step (f:=fun k=>(jZ.f k (l.drop p) true).bind fun a=>(fO.f k a.2.1 a.2.2 65535).bind fun o=>(fG.f k o.2.1 o.2.2 8).bind fun b=>if acc.length<3518437208883 then eY.l0 k n ((i+1:Nat):Int) b.2.1 b.2.2 note (acc++[⟨a.1,o.1,b.1⟩])else none) (fun k=>?_) (bJ (DX hb p) (bJ (qQ hb p _) (bJ hy (bN (by omega) h)))),hr⟩
  rw[eY.l0,if_pos (by omega),dB (x:=(i:Int)+1) (by omega) (by omega)];rfl
theorem zq {l:List Int} (hb:dZ l) (note:Int) (ins:List bf):∀(c p i:Nat) (n:Int) (acc:List bH),(i:Int)+c=n→n≤100→acc.length+c≤1000000→
 (∀r,iO true l c p=some r→Ev (fun k=>eY.l1 k n (i:Int) (l.drop p) false note ins acc) (note,ins,acc++r.1,l.drop r.2,false))∧
 (iO true l c p=none→∃r,Ev (fun k=>eY.l1 k n (i:Int) (l.drop p) false note ins acc) r∧r.2.2.2.2=true)
 |0,p,i,n,acc,hc,hn,ha=>by
  refine⟨fun r h=>?_,fun h=>by cases h⟩
  cases h
  exact fZ fun k=>by rw[eY.l1,if_neg (by omega),List.append_nil]
 |c+1,p,i,n,acc,hc,hn,ha=>by
  have h0:∀k,eY.l1 (k+1) n (i:Int) (l.drop p) false note ins acc=(jZ.f k (l.drop p) false).bind fun a=>(fG.f k a.2.1 a.2.2 12).bind fun b=>if acc.length<4398046511104 then eY.l1 k n ((i+1:Nat):Int) b.2.1 b.2.2 note ins (acc++[⟨a.1,b.1⟩])else none:=by
   intro k
   rw[eY.l1,if_pos (by omega),dB (x:=(i:Int)+1) (by omega) (by omega)];rfl
  refine⟨fun r h=>?_,fun h=>?_⟩
  ·unfold iO at h
   obtain⟨x,aL,h⟩:=Option.bind_eq_some_iff.mp h
   obtain⟨s,hs,h⟩:=Option.bind_eq_some_iff.mp h
   cases h
   obtain⟨⟨a,p1⟩,h3,h4⟩:=Option.bind_eq_some_iff.mp aL
   obtain⟨b,h5,h6⟩:=Option.bind_eq_some_iff.mp h4
   cases h6
   have ih:=(zq hb note ins c b.2 (i+1) n (acc++[⟨a,b.1⟩]) (by omega) hn (by simp;omega)).1 s hs
   refine Ev.step h0 (bJ (tZ hb h3) (bJ (yQ hb h5) (bN (by omega) ?_)))
   simpa using ih
  ·cases h3:Big l p with
   |none=>
    obtain⟨a,q,ha1⟩:=DW hb h3
    obtain⟨ys,hy⟩:=xA hb q 12
    obtain⟨r,hr,hr1⟩:=xM hb q note ins c (i+1) n (acc++[⟨a,ys⟩]) (by omega) hn (by simp;omega)
    exact⟨r,Ev.step h0 (bJ ha1 (bJ hy (bN (by omega) hr))),hr1⟩
   |some a=>
    cases h5:kQ true 12 l a.2 with
    |none=>
     obtain⟨ys,q,hy⟩:=Ew hb h5
     obtain⟨r,hr,hr1⟩:=xM hb q note ins c (i+1) n (acc++[⟨a.1,ys⟩]) (by omega) hn (by simp;omega)
     exact⟨r,Ev.step h0 (bJ (tZ hb (v:=a.1) (q:=a.2) h3) (bJ hy (bN (by omega) hr))),hr1⟩
    |some b=>
     have hn2:iO true l c b.2=none:=by
      cases hc2:iO true l c b.2 with
      |none=>rfl
      |some z=>
       have e:nU true l p=some (⟨a.1,b.1⟩,b.2):=by unfold nU;rw[h3,Option.bind_some,h5];rfl
       unfold iO at h;rw[e,Option.bind_some,hc2]at h;cases h
     obtain⟨r,hr,hr1⟩:=(zq hb note ins c b.2 (i+1) n (acc++[⟨a.1,b.1⟩]) (by omega) hn (by simp;omega)).2 hn2
     exact⟨r,Ev.step h0 (bJ (tZ hb (v:=a.1) (q:=a.2) h3) (bJ (yQ hb h5) (bN (by omega) hr))),hr1⟩
def qG (l:List Int) (p:Nat):Option (List bH×Nat):=(Vm true 4 l p).bind fun d=>iO true l d.1.toNat d.2
theorem Bf {l:List Int} (hb:dZ l) (note:Int):∀(c p i:Nat) (n:Int) (acc:List bf),(i:Int)+c=n→n≤100→acc.length+c≤1000000→
 (∀xs r,iB true l c p=some xs→qG l xs.2=some r→Ev (fun k=>eY.l0 k n (i:Int) (l.drop p) false note acc) (note,acc++xs.1,r.1,l.drop r.2,false))∧
 (((iB true l c p).bind fun xs=>qG l xs.2)=none→∃r,Ev (fun k=>eY.l0 k n (i:Int) (l.drop p) false note acc) r∧r.2.2.2.2=true)
 |0,p,i,n,acc,hc,hn,ha=>by
  have h0:∀k,eY.l0 (k+1) n (i:Int) (l.drop p) false note acc=(fO.f k (l.drop p) false 4).bind fun t=>eY.l1 k t.1 0 t.2.1 t.2.2 note acc []:=by
   intro k
   rw[eY.l0,if_neg (by omega)]
  refine⟨fun xs r h h2=>?_,fun h=>?_⟩
  ·cases h
   obtain⟨d,hd,ho⟩:=Option.bind_eq_some_iff.mp h2
   obtain⟨hv,hm⟩:=lJ hd
   have h1:=gU hb (v:=d.1) (q:=d.2) hv
   have hm:=hm rfl
   have h3:=(zq hb note acc d.1.toNat d.2 0 d.1 [] (by omega) (by omega) (by simp;omega)).1 r ho
   rw[List.append_nil]
   exact Ev.step h0 (bJ (mZ hb (v:=d.1) (q:=d.2) hd) h3)
  ·have h:qG l p=none:=h
   cases hd:Vm true 4 l p with
   |none=>
    obtain⟨r,hr,hr1⟩:=xM hb p note acc 0 0 0 [] (by omega) (by omega) (by simp)
    exact⟨r,Ev.step h0 (bJ (sN hb hd) hr),hr1⟩
   |some d=>
    obtain⟨hv,hm⟩:=lJ hd
    have h1:=gU hb (v:=d.1) (q:=d.2) hv
    have hm:=hm rfl
    have hn2:iO true l d.1.toNat d.2=none:=by unfold qG at h;rw[hd]at h;exact h
    obtain⟨r,hr,hr1⟩:=(zq hb note acc d.1.toNat d.2 0 d.1 [] (by omega) (by omega) (by simp;omega)).2 hn2
    exact⟨r,Ev.step h0 (bJ (mZ hb (v:=d.1) (q:=d.2) hd) hr),hr1⟩
 |c+1,p,i,n,acc,hc,hn,ha=>by
  have h0:∀k,eY.l0 (k+1) n (i:Int) (l.drop p) false note acc=(jZ.f k (l.drop p) false).bind fun a=>(fO.f k a.2.1 a.2.2 65535).bind fun o=>(fG.f k o.2.1 o.2.2 8).bind fun b=>if acc.length<3518437208883 then eY.l0 k n ((i+1:Nat):Int) b.2.1 b.2.2 note (acc++[⟨a.1,o.1,b.1⟩])else none:=by
   intro k
   rw[eY.l0,if_pos (by omega),dB (x:=(i:Int)+1) (by omega) (by omega)];rfl
  refine⟨fun xs r h h2=>?_,fun h=>?_⟩
  ·unfold iB at h
   obtain⟨x,aL,h⟩:=Option.bind_eq_some_iff.mp h
   obtain⟨s,hs,h⟩:=Option.bind_eq_some_iff.mp h
   cases h
   obtain⟨⟨a,p1⟩,h3,h4⟩:=Option.bind_eq_some_iff.mp aL
   obtain⟨⟨o,p2⟩,h5,h4⟩:=Option.bind_eq_some_iff.mp h4
   obtain⟨b,h7,h6⟩:=Option.bind_eq_some_iff.mp h4
   cases h6
   rw[←pz hb]at h5
   have ih:=(Bf hb note c b.2 (i+1) n (acc++[⟨a,o,b.1⟩]) (by omega) hn (by simp;omega)).1 s r hs h2
   refine Ev.step h0 (bJ (tZ hb h3) (bJ (mZ hb h5) (bJ (yQ hb h7) (bN (by omega) ?_))))
   simpa using ih
  ·cases h3:Big l p with
   |none=>
    obtain⟨a,q,ha1⟩:=DW hb h3
    obtain⟨ys,hy⟩:=xA hb q 8
    obtain⟨r,hr,hr1⟩:=vS hb q note c (i+1) n (acc++[⟨a,0,ys⟩]) (by omega) hn (by simp;omega)
    exact⟨r,Ev.step h0 (bJ ha1 (bJ (qQ hb q _) (bJ hy (bN (by omega) hr)))),hr1⟩
   |some a=>
    cases h5:V l a.2 with
    |none=>
     rw[←pz hb]at h5
     obtain⟨ys,hy⟩:=xA hb a.2 8
     obtain⟨r,hr,hr1⟩:=vS hb a.2 note c (i+1) n (acc++[⟨a.1,0,ys⟩]) (by omega) hn (by simp;omega)
     exact⟨r,Ev.step h0 (bJ (tZ hb (v:=a.1) (q:=a.2) h3) (bJ (sN hb h5) (bJ hy (bN (by omega) hr)))),hr1⟩
    |some o=>
     have h5':=h5
     rw[←pz hb]at h5'
     cases h7:kQ true 8 l o.2 with
     |none=>
      obtain⟨ys,q,hy⟩:=Ew hb h7
      obtain⟨r,hr,hr1⟩:=vS hb q note c (i+1) n (acc++[⟨a.1,o.1,ys⟩]) (by omega) hn (by simp;omega)
      exact⟨r,Ev.step h0 (bJ (tZ hb (v:=a.1) (q:=a.2) h3) (bJ (mZ hb (v:=o.1) (q:=o.2) h5') (bJ hy (bN (by omega) hr)))),hr1⟩
     |some b=>
      have e:nQ true l p=some (⟨a.1,o.1,b.1⟩,b.2):=by unfold nQ;rw[h3,Option.bind_some,h5,Option.bind_some,h7];rfl
      have hn2:((iB true l c b.2).bind fun xs=>qG l xs.2)=none:=by
       cases hc2:iB true l c b.2 with
       |none=>rfl
       |some z=>unfold iB at h;rw[e,Option.bind_some,hc2]at h;exact h
      obtain⟨r,hr,hr1⟩:=(Bf hb note c b.2 (i+1) n (acc++[⟨a.1,o.1,b.1⟩]) (by omega) hn (by simp;omega)).2 hn2
      exact⟨r,Ev.step h0 (bJ (tZ hb (v:=a.1) (q:=a.2) h3) (bJ (mZ hb (v:=o.1) (q:=o.2) h5') (bJ (yQ hb h7) (bN (by omega) hr)))),hr1⟩
theorem Jw {l:List Int} (hb:dZ l):(∀r,jP true l 0=some r→Ev (fun k=>eY.f k l false) (r.1.f0,r.1.f1,r.1.f2,l.drop r.2,false))∧(jP true l 0=none→∃r,Ev (fun k=>eY.f k l false) r∧r.2.2.2.2=true):=by
 unfold eY.f;have e0:l=l.drop 0:=rfl;cases hn:V l 0 with
 |none=>
  refine⟨fun r h=>?_,fun _=>?_⟩
  ·unfold jP at h;rw[hn]at h;cases h
  ·rw[←pz hb]at hn;obtain⟨r,hr,hr1⟩:=vS hb 0 0 0 0 0 [] (by omega) (by omega) (by simp);exact⟨r,bJ (sN hb hn) (bJ (qQ hb 0 _) hr),hr1⟩
 |some a=>
  have hn':=hn;rw[←pz hb]at hn';have hG:=mZ hb (p:=0) (v:=a.1) (q:=a.2) hn';cases hc:Vm true 4 l a.2 with
  |none=>
   refine⟨fun r h=>?_,fun _=>?_⟩
   ·unfold jP at h;rw[hn,Option.bind_some,hc]at h;cases h
   ·obtain⟨r,hr,hr1⟩:=vS hb a.2 a.1 0 0 0 [] (by omega) (by omega) (by simp);exact⟨r,bJ hG (bJ (sN hb hc) hr),hr1⟩
  |some c=>
   obtain⟨hv,hm⟩:=lJ hc;have h2:=gU hb (v:=c.1) (q:=c.2) hv;have hm:=hm rfl;have hi:=Bf hb a.1 c.1.toNat c.2 0 c.1 [] (by omega) (by omega) (by simp;omega);have e:jP true l 0=(iB true l c.1.toNat c.2).bind fun xs=>(qG l xs.2).bind fun ys=>some (⟨a.1,xs.1,ys.1⟩,ys.2):=by
    unfold jP qG;rw[hn,Option.bind_some,hc,Option.bind_some];congr 1;funext xs;rw[Option.bind_assoc]
   refine⟨fun r h=>?_,fun h=>?_⟩
   ·rw[e]at h;obtain⟨xs,hx,h⟩:=Option.bind_eq_some_iff.mp h;obtain⟨ys,hy,h⟩:=Option.bind_eq_some_iff.mp h;cases h;exact bJ hG (bJ (mZ hb (v:=c.1) (q:=c.2) hc) (hi.1 xs ys hx hy))
   ·have hn2:((iB true l c.1.toNat c.2).bind fun xs=>qG l xs.2)=none:=by
     rw[e]at h;cases hx:iB true l c.1.toNat c.2 with
     |none=>rfl
     |some xs=>
      rw[hx,Option.bind_some]at h;cases hy:qG l xs.2 with
      |none=>exact hy
      |some ys=>rw[hy]at h;cases h
    obtain⟨r,hr,hr1⟩:=hi.2 hn2;exact⟨r,bJ hG (bJ (mZ hb (v:=c.1) (q:=c.2) hc) hr),hr1⟩
theorem Dm {b:Bool} {l:List Int} (hb:dZ l) {p:Nat} {r:eU×Nat} (h:jP b l p=some r):r.2≤l.length∧uj r.1.f1∧xw r.1.f2:=by
 obtain⟨n,hn,h⟩:=Option.bind_eq_some_iff.mp h;obtain⟨c,hc,h⟩:=Option.bind_eq_some_iff.mp h;obtain⟨xs,hx,h⟩:=Option.bind_eq_some_iff.mp h;obtain⟨d,hd,h⟩:=Option.bind_eq_some_iff.mp h;obtain⟨ys,hy,h⟩:=Option.bind_eq_some_iff.mp h;cases h;have a1:=gU hb (v:=c.1) (q:=c.2) (lJ hc).1;have a2:=zK hb _ _ _ a1.2.2.1 hx;have a3:=gU hb (v:=d.1) (q:=d.2) (lJ hd).1;have a4:=zL hb _ _ _ a3.2.2.1 hy;exact⟨a4.1,⟨by show xs.1.length≤_;omega,a2.2.2⟩,⟨by show ys.1.length≤_;omega,a4.2.2⟩⟩
theorem Er {l:List bf} (h:uj l):l.length≤1048576∧∀x∈l,(x.f2.length:Int)≤1048576:=⟨by have:=h.1;omega,fun x hx=>by have:=h.2 x hx;omega⟩
theorem Es {l:List bH} (h:xw l):l.length≤1048576∧∀x∈l,(x.f1.length:Int)≤1048576:=⟨by have:=h.1;omega,fun x hx=>by have:=h.2 x hx;omega⟩
theorem AB {l:List Int} (hb:dZ l):∃(c n:Int) (xs:List bf) (ys:List bH) (u:Int),Ev (fun k=>lq.f k l) (c,n,xs,ys,u)∧Ev (fun k=>iV.f k l) (c,n,xs,ys,u)∧uj xs∧xw ys∧(c=0→∃r,jP true l 0=some r∧kF r.1=0∧n=r.1.f0∧xs=r.1.f1∧ys=r.1.f2∧u=(r.2:Int))∧∀r,jP true l 0=some r→kF r.1=0→c=0∧n=r.1.f0∧xs=r.1.f1∧ys=r.1.f2∧u=(r.2:Int):=by
 have hbad:uj []∧xw []:=⟨⟨by simp,by simp⟩,⟨by simp,by simp⟩⟩;have hS:=Lb hb;have hI:=Jw hb;unfold lq.f iV.f;cases h:jP true l 0 with
 |some r=>
  obtain⟨hr,h1,h2⟩:=Dm hb h;have s1:=hS.1 r (Hy h);have i1:=hI.1 r h;have hF:=Ag (t:=r.1) (Er h1) (Es h2);by_cases h0:kF r.1=0
  ·rw[h0]at s1 hF;refine⟨0,r.1.f0,r.1.f1,r.1.f2,(r.2:Int),bJ s1 (dJ (by simp) (Ev.now _)),bJ i1 (dJ (by simp) (bJ hF (bN rfl (bN ⟨by simp,by have:=hb.2;omega⟩ ?_)))),h1,h2,fun _=>⟨r,rfl,h0,rfl,rfl,rfl,rfl⟩,fun s hs _=>by cases hs;exact⟨rfl,rfl,rfl,rfl,rfl⟩⟩;(have e:(l.length:Int)-((l.drop r.2).length:Int)=(r.2:Int):=by rw[List.length_drop];omega);show Ev (fun _=>some (0,r.1.f0,r.1.f1,r.1.f2,(l.length:Int)-((l.drop r.2).length:Int))) _;rw[e];exact Ev.now _
  ·have hne:(kF r.1 != 0)=true:=bne_iff_ne.2 h0;rw[hne]at s1;exact⟨5,0,[],[],0,bJ s1 (bN rfl (Ev.now _)),bJ i1 (dJ (by simp) (bJ hF (dJ h0 (Ev.now _)))),hbad.1,hbad.2,fun h5=>(by cases h5),fun s hs hs0=>by cases hs;exact absurd hs0 h0⟩
 |none=>
  obtain⟨ri,Mx,MB⟩:=hI.2 h;refine⟨5,0,[],[],0,?_,bJ Mx (bN MB (Ev.now _)),hbad.1,hbad.2,fun h5=>(by cases h5),fun s hs=>by cases hs⟩;cases h':jP false l 0 with
  |none=>obtain⟨rs,hrs,MC⟩:=hS.2 h';exact bJ hrs (bN MC (Ev.now _))
  |some r=>
   have s1:=hS.1 r h';have h0:kF r.1≠0:=by
    intro h0;have hok:=xL h0;rw[Hw hb h' hok.2.1 hok.2.2.1.2 (fun x hx=>(hok.2.2.2.1 x hx).2.2.1) (fun x hx=>(hok.2.2.2.2 x hx).2.1)]at h;cases h
   have hne:(kF r.1 != 0)=true:=bne_iff_ne.2 h0;rw[hne]at s1;exact bJ s1 (bN rfl (Ev.now _))
theorem Mk {l:List Int} (hb:dZ l):∃(c n:Int) (xs:List bf) (ys:List bH) (u:Int),Ev (fun k=>lq.f k l) (c,n,xs,ys,u)∧Ev (fun k=>iV.f k l) (c,n,xs,ys,u)∧uj xs∧xw ys:=by
 obtain⟨c,n,xs,ys,u,h1,h2,h3,h4,_⟩:=AB hb;exact⟨c,n,xs,ys,u,h1,h2,h3,h4⟩
theorem qB {n:Int} (h1:n≤9223372036854775807):iy.f n=some (dO n):=by
 unfold iy.f dO;by_cases h:n<253
 ·rw[if_pos h,if_pos h]
 ·rw[if_neg h,if_neg h,Int.tmod_eq_emod_of_nonneg (by omega),Int.tdiv_eq_ediv_of_nonneg (by omega),dB (by omega) (by omega)];(have:n%256%256=n%256:=by omega);rw[this]
theorem Fh {n:Int} (h0:0≤n) (h1:n≤9223372036854775807):sU.f n=some (iP n):=by
 unfold sU.f iP;rw[Int.tmod_eq_emod_of_nonneg h0,Int.tdiv_eq_ediv_of_nonneg h0,dB (by omega) (by omega),qB (by omega),qB (by omega)];simp only[Option.bind_some];have a:=jK (n%65536);have b:=jK (n / 65536);rw[if_pos (by omega)]
theorem KX (suf:List Int):∀(pre acc:List Int),(∀x∈suf,x≤9223372036854775807)→pre.length+suf.length≤1000→acc.length+3*suf.length≤100000→
 Ev (fun k=>gK.l0 k (pre++suf) acc pre.length) (acc++(suf.map dO).flatten):=by
 induction suf with
 |nil=>intro pre acc _ _ _;exact fZ (fun k=>by rw[gK.l0,if_neg (by simp)];simp)
 |cons b suf ih=>intro pre acc hs hp hl;simp only[List.length_cons]at hp hl;have hv:=jK b;have h:=ih (pre++[b]) (acc++dO b) (fun x hx=>hs x (by simp[hx])) (by simp;omega) (by simp only[List.length_append];omega);rw[show((pre++[b]).length:Int)=(pre.length:Int)+1 from by simp,show pre++[b]++suf=pre++b::suf from by simp]at h;refine Ev.step (fun k=>?_) (by simpa using h);rw[gK.l0,if_pos (by simp;omega),if_pos (by omega),og,qB (hs b (by simp))];simp only[Option.bind_some];rw[if_pos (by omega),dB (by omega) (by omega)]
theorem Fv {l:List Int} (hs:∀x∈l,x≤9223372036854775807) (hl:l.length≤1000):Ev (fun k=>gK.f k l) (lK l):=by
 unfold gK.f lK;have hv:=jK (l.length:Int);refine bU (qB (by omega)) ?_;have:=KX l [] (dO l.length) hs (by simp;omega) (by omega);simpa using this
theorem Ep {l:List Int} {lo hi:Int} (h:jC l lo hi) (hh:hi≤9223372036854775807):∀x∈l,x≤9223372036854775807:=fun x hx=>by have:=(h x hx).2;omega
theorem La (t:eU) (suf:List bH):∀(pre:List bH) (acc:List Int),t.f2=pre++suf→(∀y∈suf,oC y)→pre.length+suf.length≤4→acc.length+45*suf.length≤100000→
 Ev (fun k=>dh.l1 k [t] acc pre.length) (acc++(suf.map kN).flatten):=by
 have hrd:bW [t] 0=t:=rfl
 induction suf with
 |nil=>intro pre acc ht _ _ _;exact fZ (fun k=>by rw[dh.l1,if_pos (by simp),hrd,if_neg (by rw[ht];simp)];simp)
 |cons b suf ih=>intro pre acc ht hs hp hl;simp only[List.length_cons]at hp hl;have hb:=hs b (by simp);have l1:=vv b.f0;have l2:=vJ hb.2.1;have h:=ih (pre++[b]) (acc++iP b.f0++lK b.f1) (by rw[ht];simp) (fun y hy=>hs y (by simp[hy])) (by simp;omega) (by simp only[List.length_append];omega);rw[show((pre++[b]).length:Int)=(pre.length:Int)+1 from by simp]at h;refine Ev.step (f:=fun k=>(gK.f k b.f1).bind fun aS=>if(acc++iP b.f0).length+aS.length<140737488355328 then dh.l1 k [t] (acc++iP b.f0++aS) ((pre.length:Int)+1)else none) (fun k=>?_) (bJ (Fv (Ep hb.2.2 (by omega)) (by have:=hb.2.1;omega)) (bN (by simp only[List.length_append];omega) (by simpa[kN]using h)));rw[dh.l1,if_pos (by simp),hrd,if_pos (by rw[ht];simp;omega),if_pos (by omega),ht,uw,Fh (by have:=hb.1;omega) (by have:=hb.1;omega)];simp only[Option.bind_some];rw[if_pos (by omega),dB (by omega) (by omega)]
theorem KZ (p:Bool) (t:eU) (ho:∀y∈t.f2,oC y) (h2:t.f2.length≤4) (suf:List bf):∀(pre:List bf) (acc:List Int),t.f1=pre++suf→(∀x∈suf,qg x)→pre.length+suf.length≤4→acc.length+36*suf.length≤10000→
 Ev (fun k=>dh.l0 k [t] p acc pre.length) (acc++((suf.map (kM p)).flatten++(dO t.f2.length++(t.f2.map kN).flatten))):=by
 have hrd:bW [t] 0=t:=rfl
 induction suf with
 |nil=>intro pre acc ht _ _ hl;have hv:=jK (t.f2.length:Int);have h:=La t t.f2 [] (acc++dO t.f2.length) (by simp) ho (by simpa using h2) (by simp only[List.length_append];omega);refine Ev.step (f:=fun k=>dh.l1 k [t] (acc++dO t.f2.length) 0) (fun k=>?_) (by simpa using h);rw[dh.l0,if_pos (by simp),hrd,if_neg (by rw[ht];simp),qB (by omega)];simp only[Option.bind_some];rw[if_pos (by omega)]
 |cons b suf ih=>
  intro pre acc ht hs hp hl;simp only[List.length_cons]at hp hl;have hb:=hs b (by simp);have l1:=vv b.f0;have l2:=vJ hb.2.2.1;have l3:=jK b.f1;have h:=ih (pre++[b]) (acc++iP b.f0++dO b.f1++(if p=true then lK b.f2 else[0])) (by rw[ht];simp) (fun y hy=>hs y (by simp[hy])) (by simp;omega) (by cases p<;>simp<;>omega);rw[show((pre++[b]).length:Int)=(pre.length:Int)+1 from by simp]at h;have hstep:∀k,dh.l0 (k+1) [t] p acc pre.length=(if p=true then((gK.f k b.f2).bind fun aO=>(if(acc++iP b.f0++dO b.f1).length+aO.length<140737488355328 then(dh.l0 k [t] p ((acc++iP b.f0++dO b.f1)++aO) ((pre.length:Int)+1))else(none)))else(if(acc++iP b.f0++dO b.f1).length<140737488355328 then(dh.l0 k [t] p ((acc++iP b.f0++dO b.f1)++[0]) ((pre.length:Int)+1))else(none))):=by
   intro k;rw[dh.l0,if_pos (by simp),hrd,if_pos (by rw[ht];simp;omega),if_pos (by omega),ht,qU,Fh (by have:=hb.1;omega) (by have:=hb.1;omega)];simp only[Option.bind_some];rw[if_pos (by omega),qB (by have:=hb.2.1;omega)];simp only[Option.bind_some];rw[if_pos (by simp only[List.length_append];omega),dB (by omega) (by omega)]
  cases p with
  |true=>refine Ev.step (f:=fun k=>(gK.f k b.f2).bind fun aO=>(if(acc++iP b.f0++dO b.f1).length+aO.length<140737488355328 then(dh.l0 k [t] true ((acc++iP b.f0++dO b.f1)++aO) ((pre.length:Int)+1))else(none))) (fun k=>by rw[hstep,if_pos rfl]) ?_;refine bJ (Fv (Ep hb.2.2.2 (by omega)) (by have:=hb.2.2.1;omega)) (bN (by simp only[List.length_append];omega) ?_);simpa[kM]using h
  |false=>refine Ev.step (f:=fun k=>if(acc++iP b.f0++dO b.f1).length<140737488355328 then(dh.l0 k [t] false ((acc++iP b.f0++dO b.f1)++[0]) ((pre.length:Int)+1))else(none)) (fun k=>by rw[hstep,if_neg (by decide)]) ?_;refine bN (by simp only[List.length_append];omega) ?_;simpa[kM]using h
theorem Fw (p:Bool) {t:eU} (h:uY t):Ev (fun k=>ny.f k t.f0 t.f1 t.f2 p) (jA p t):=by
 unfold ny.f dh.f jA;have hrd:bW [t] 0=t:=rfl;have ht:(⟨t.f0,t.f1,t.f2⟩:eU)=t:=rfl;obtain⟨h0,h1,h2,hi,ho⟩:=h;have v1:=jK t.f0;have v2:=jK (t.f1.length:Int);rw[ht];refine bN (by simp) ?_;rw[hrd];refine bU (qB (by omega)) (bU (qB (by omega)) (bN (by omega) ?_));have:=KZ p t ho h2.2 t.f1 [] (dO t.f0++dO t.f1.length) (by simp) hi (by simpa using h1) (by simp only[List.length_append];omega);simpa using this
theorem Ay (p:Bool) {t:eU} (h:uY t):(jA p t).length≤1000:=by
 unfold jA;obtain⟨h0,h1,h2,hi,ho⟩:=h;have v1:=jK t.f0;have v2:=jK (t.f1.length:Int);have v3:=jK (t.f2.length:Int);have f1:=yK (f:=kM p) (n:=36) (l:=t.f1) (fun x hx=>Jy (hi x hx));have f2:=yK (f:=kN) (n:=45) (l:=t.f2) (fun x hx=>JN (ho x hx));simp only[List.length_append];omega
theorem qK (n:Int):jk.f n=some (dO n):=by
 unfold jk.f dO;split<;>rfl
theorem EU (pre:List (List Int)) (b:List Int) (suf:List (List Int)):nM (pre++b::suf) (pre.length:Int)=b:=by
 unfold nM;simp
theorem KC (suf:List (List Int)):∀(pre:List (List Int)) (acc:List Int),pre.length+suf.length≤100000→acc.length+suf.flatten.length≤1000000000→
 Ev (fun k=>fF.l1 k acc (pre++suf) ((pre++suf).length:Int) pre.length) (acc++suf.flatten):=by
 induction suf with
 |nil=>intro pre acc _ _;exact fZ (fun k=>by rw[fF.l1,if_neg (by simp)];simp)
 |cons b suf ih=>intro pre acc h1 h2;simp only[List.length_cons,List.flatten_cons,List.length_append]at h1 h2;have h:=ih (pre++[b]) (acc++b) (by simp;omega) (by simp only[List.length_append];omega);refine Ev.step (fun k=>?_) (by simpa using h);rw[fF.l1,if_pos (by simp;omega),if_pos (by omega),if_pos (by simp;omega),EU,if_pos (by omega),dB (by omega) (by omega)];simp
theorem KA (suf:List (List Int)):∀(pre:List (List Int)) (n:Int),0≤n→n+suf.flatten.length≤1000000000→pre.length+suf.length≤100000→(pre++suf).flatten.length≤1000000000→
 Ev (fun k=>fF.l0 k (pre++suf) n (pre++suf) ((pre++suf).length:Int) pre.length) (pre++suf).flatten:=by
 induction suf with
 |nil=>intro pre n h0 h1 h2 h3;refine Ev.step (f:=fun k=>(uz.f n).bind fun t=>fF.l1 k t (pre++[]) ((pre++[]).length:Int) 0) (fun k=>by rw[fF.l0,if_neg (by simp)]) ?_;refine bU (a:=[]) (by unfold uz.f;rw[if_pos h0,if_pos (by simp at h1;omega)]) ?_;have:=KC (pre++[]) [] [] (by simpa using h2) (by simpa using h3);simpa using this
 |cons b suf ih=>intro pre n h0 h1 h2 h3;simp only[List.length_cons,List.flatten_cons,List.length_append]at h1 h2;have h:=ih (pre++[b]) (n+b.length) (by omega) (by omega) (by simp;omega) (by simpa using h3);refine Ev.step (fun k=>?_) (by simpa using h);rw[fF.l0,if_pos (by simp;omega),if_pos (by omega),if_pos (by simp;omega),EU,dB (x:=n+(b.length:Int)) (by omega) (by omega),if_neg (by omega),dB (by omega) (by omega)];simp
theorem ET {x:List (List Int)} (h1:x.length≤100000) (h2:x.flatten.length≤1000000000):Ev (fun k=>fF.f k x) x.flatten:=by
 have:=KA x [] 0 (by omega) (by omega) (by simpa using h1) (by simpa using h2);unfold fF.f;simpa using this
theorem Ec {n:Int} (h0:0≤n) (h1:n≤9223372036854775807):sH.f n=some (iP n):=by
 unfold sH.f iP;rw[Int.tmod_eq_emod_of_nonneg h0,Int.tdiv_eq_ediv_of_nonneg h0,dB (by omega) (by omega),qK,qK];simp only[Option.bind_some];have a:=jK (n%65536);have b:=jK (n / 65536);rw[if_pos (by omega)]
theorem Jq (suf:List Int):∀(pre acc:List Int) (n:Int),n=(pre.length:Int)+suf.length→n≤1000→acc.length+3*suf.length≤100000→
 Ev (fun k=>gX.l0 k acc (pre++suf) n pre.length) (acc++(suf.map dO).flatten):=by
 induction suf with
 |nil=>intro pre acc n hn _ _;subst hn;exact fZ (fun k=>by rw[gX.l0,if_neg (by simp)];simp)
 |cons b suf ih=>intro pre acc n hn hp hl;simp only[List.length_cons,Int.natCast_add,Int.natCast_one]at hn hl;have hv:=jK b;have h:=ih (pre++[b]) (acc++dO b) n (by simp;omega) hp (by simp only[List.length_append];omega);rw[show((pre++[b]).length:Int)=(pre.length:Int)+1 from by simp,show pre++[b]++suf=pre++b::suf from by simp]at h;refine Ev.step (fun k=>?_) (by simpa using h);rw[gX.l0,if_pos (by omega),if_pos (by omega),if_pos (by simp;omega),og,qK];simp only[Option.bind_some];rw[if_pos (by omega),dB (by omega) (by omega)]
theorem Ed {l:List Int} (hl:l.length≤1000):Ev (fun k=>gX.f k l) (lK l):=by
 unfold gX.f lK;have hv:=jK (l.length:Int);refine bU (qK _) ?_;have:=Jq l [] (dO l.length) l.length (by simp) (by omega) (by omega);simpa using this
theorem Jv (suf:List bH):∀(pre:List bH) (acc:List Int) (n:Int),n=(pre.length:Int)+suf.length→n≤4→(∀y∈suf,oC y)→acc.length+45*suf.length≤100000→
 Ev (fun k=>dK.l1 k acc (pre++suf) n pre.length) (acc++(suf.map kN).flatten):=by
 induction suf with
 |nil=>intro pre acc n hn _ _ _;subst hn;exact fZ (fun k=>by rw[dK.l1,if_neg (by simp)];simp)
 |cons b suf ih=>intro pre acc n hn hp hs hl;simp only[List.length_cons,Int.natCast_add,Int.natCast_one]at hn hl;have hb:=hs b (by simp);have l1:=vv b.f0;have l2:=vJ hb.2.1;have h:=ih (pre++[b]) (acc++(iP b.f0++lK b.f1)) n (by simp;omega) hp (fun y hy=>hs y (by simp[hy])) (by simp only[List.length_append];omega);rw[show((pre++[b]).length:Int)=(pre.length:Int)+1 from by simp,show pre++[b]++suf=pre++b::suf from by simp]at h;refine Ev.step (f:=fun k=>(gX.f k b.f1).bind fun MG=>(fF.f k (([acc,iP b.f0,MG]:List (List Int)))).bind fun MH=>dK.l1 k MH (pre++b::suf) n ((pre.length:Int)+1)) (fun k=>?_) (bJ (Ed (by have:=hb.2.1;omega)) (bJ (ET (by simp) (by simp;omega)) (by simpa[kN]using h)));rw[dK.l1,if_pos (by omega),if_pos (by omega),if_pos (by simp;omega),uw,Ec (by have:=hb.1;omega) (by have:=hb.1;omega),dB (by omega) (by omega)];simp only[Option.bind_some]
theorem Ju (a0:Int) (i1:List bf) (o:List bH) (ho:∀y∈o,oC y) (h2:o.length≤4) (suf:List bf):∀(pre:List bf) (acc:List Int) (n:Int),n=(pre.length:Int)+suf.length→n≤4→(∀x∈suf,qg x)→acc.length+36*suf.length≤10000→
 Ev (fun k=>dK.l0 k acc (pre++suf) n pre.length a0 i1 o) (acc++((suf.map (kM true)).flatten++(dO o.length++(o.map kN).flatten))):=by
 induction suf with
 |nil=>intro pre acc n hn _ _ hl;subst hn;have hv:=jK (o.length:Int);have h:=Jv o [] (acc++dO o.length) o.length (by simp) (by omega) ho (by simp only[List.length_append];omega);refine Ev.step (f:=fun k=>dK.l1 k (acc++dO o.length) o o.length 0) (fun k=>?_) (by simpa using h);rw[dK.l0,if_neg (by simp),qK];simp only[Option.bind_some];rw[if_pos (by omega)]
 |cons b suf ih=>intro pre acc n hn hp hs hl;simp only[List.length_cons,Int.natCast_add,Int.natCast_one]at hn hl;have hb:=hs b (by simp);have l1:=vv b.f0;have l2:=vJ hb.2.2.1;have l3:=jK b.f1;have h:=ih (pre++[b]) (acc++(iP b.f0++(dO b.f1++lK b.f2))) n (by simp;omega) hp (fun y hy=>hs y (by simp[hy])) (by simp only[List.length_append];omega);rw[show((pre++[b]).length:Int)=(pre.length:Int)+1 from by simp,show pre++[b]++suf=pre++b::suf from by simp]at h;refine Ev.step (f:=fun k=>(gX.f k b.f2).bind fun MF=>(fF.f k (([acc,iP b.f0,dO b.f1,MF]:List (List Int)))).bind fun t201=>dK.l0 k t201 (pre++b::suf) n ((pre.length:Int)+1) a0 i1 o) (fun k=>?_) (bJ (Ed (by have:=hb.2.2.1;omega)) (bJ (ET (by simp) (by simp;omega)) (by simpa[kM]using h)));rw[dK.l0,if_pos (by omega),if_pos (by omega),if_pos (by simp;omega),qU,Ec (by have:=hb.1;omega) (by have:=hb.1;omega),dB (by omega) (by omega),qK];simp only[Option.bind_some]
theorem Jt {t:eU} (h:uY t):Ev (fun k=>dK.f k t.f0 t.f1 t.f2) (jA true t):=by
 unfold dK.f jA;obtain⟨h0,h1,h2,hi,ho⟩:=h;have v1:=jK t.f0;have v2:=jK (t.f1.length:Int);refine bU (qK _) (bU (qK _) (bN (by omega) ?_));have:=Ju t.f0 t.f1 t.f2 ho h2.2 t.f1 [] (dO t.f0++dO t.f1.length) t.f1.length (by simp) (by omega) hi (by simp only[List.length_append];omega);simpa using this
def sP (t:eU):Int×List Int:=if kF t=0 then(0,jA true t)else(kF t,[])
theorem KI {t:eU} (h1:t.f1.length≤1048576∧∀x∈t.f1,(x.f2.length:Int)≤1048576) (h2:t.f2.length≤1048576∧∀x∈t.f2,(x.f1.length:Int)≤1048576):Ev (fun k=>jl.f k t.f0 t.f1 t.f2) (sP t):=by
 unfold jl.f sP;refine bJ (Fu h1 h2) ?_;by_cases h0:kF t=0
 ·rw[if_pos h0];exact bN h0 (bJ (Fw true (xL h0)) (Ev.now _))
 ·rw[if_neg h0];exact dJ h0 (Ev.now _)
theorem Ea {t:eU} (h1:t.f1.length≤1048576∧∀x∈t.f1,(x.f2.length:Int)≤1048576) (h2:t.f2.length≤1048576∧∀x∈t.f2,(x.f1.length:Int)≤1048576):Ev (fun k=>jQ.f k t.f0 t.f1 t.f2) (sP t):=by
 unfold jQ.f sP;refine bJ (Ag h1 h2) ?_;by_cases h0:kF t=0
 ·rw[if_pos h0];exact bN h0 (bJ (Jt (xL h0)) (Ev.now _))
 ·rw[if_neg h0];exact dJ h0 (Ev.now _)
theorem Mj (t:eU):(sP t).2.length≤140737488351232:=by
 unfold sP;by_cases h0:kF t=0
 ·rw[if_pos h0];have:=Ay true (xL h0);dsimp only;omega
 ·rw[if_neg h0];simp
theorem yD {l:List Int} {i:Int} {a:Int} (h0:0≤i) (h1:i<l.length) (hi:i≤4) (hr:rd l i=a) (ha:0≤a∧a≤255) (b:Bool):jR.f l i b=some (a,i+1,b):=by
 have e1:wrap64 (i+1)=i+1:=dB (by omega) (by omega);have e2:wrap64 (i+1-1)=i:=by rw[show i+1-1=i by omega];exact dB (by omega) (by omega)
 have e3:wrap64 a=a:=dB (by omega) (by omega);unfold jR.f;rw[if_neg (by omega),e1,e2,if_pos h0,if_pos h1,hr,e3]
theorem yE {l:List Int} {i:Int} (h:(l.length:Int)≤i) (b:Bool):jR.f l i b=some (0,i,true):=by
 unfold jR.f;rw[if_pos (by omega)]
theorem KL:∀(l:List Int),(∀x∈l,0≤x∧x≤255)→jJ.f l=some (dG l)
 |[],_=>by
  unfold jJ.f gL.f
  rw[yE (by simp)]
  simp[dG]
 |a::r,hb=>by
  have ha:=hb a (by simp)
  have h0:jR.f (a::r) 0 false=some (a,1,false):=yD (a:=a) (i:=0) (by omega) (by simp<;>omega) (by omega) rfl ha _
  unfold jJ.f gL.f
  rw[h0]
  simp only[Option.bind_some]
  by_cases h1:a<253
  ·rw[if_pos h1];simp[dG,h1]
  ·rw[if_neg h1]
   match r,hb with
   |[],_=>
    rw[yE (l:=[a]) (i:=1) (by simp)]
    simp only[Option.bind_some]
    rw[yE (l:=[a]) (i:=1) (by simp)]
    simp only[Option.bind_some]
    by_cases h2:a=253
    ·rw[if_pos h2];by_cases h3:wrap64 (0+wrap64 (256*0))<253
     ·rw[if_pos h3];simp[dG,h1]
     ·rw[if_neg h3];simp[dG,h1]
    ·rw[if_neg h2];simp[dG,h1]
   |[b],hb=>
    have hbb:=hb b (by simp)
    have e1:jR.f [a,b] 1 false=some (b,2,false):=yD (a:=b) (i:=1) (by omega) (by simp) (by omega) rfl hbb _
    rw[e1]
    simp only[Option.bind_some]
    rw[yE (l:=[a,b]) (i:=2) (by simp)]
    simp only[Option.bind_some]
    by_cases h2:a=253
    ·rw[if_pos h2];by_cases h3:wrap64 (b+wrap64 (256*0))<253
     ·rw[if_pos h3];simp[dG,h1]
     ·rw[if_neg h3];simp[dG,h1]
    ·rw[if_neg h2];simp[dG,h1]
   |b::c::s,hb=>
    have hbb:=hb b (by simp)
    have hbc:=hb c (by simp)
    have e1:jR.f (a::b::c::s) 1 false=some (b,2,false):=yD (a:=b) (i:=1) (by omega) (by simp<;>omega) (by omega) rfl hbb _
    have e2:jR.f (a::b::c::s) 2 false=some (c,3,false):=yD (a:=c) (i:=2) (by omega) (by simp<;>omega) (by omega) rfl hbc _
    have e3:wrap64 (b+wrap64 (256*c))=b+256*c:=by
     rw[dB (x:=256*c) (by omega) (by omega)];exact dB (by omega) (by omega)
    rw[e1]
    simp only[Option.bind_some]
    rw[e2]
    simp only[Option.bind_some]
    rw[e3]
    by_cases h2:a=253
    ·rw[if_pos h2];by_cases h3:b+256*c<253
     ·rw[if_pos h3];simp[dG,h2,h3]
     ·rw[if_neg h3];simp[dG,h2,h3]
    ·rw[if_neg h2];simp[dG,h1,h2]
theorem EZ {c:List Int} (hb:Bytes c) (hc:c.length≤140737488351232):∀(d:Nat) (out:List Int) (n:Int),0≤n→n+d≤5000→out.length+d≤5000→Bytes out→
 ∃r n',Ev (fun k=>gZ.l0 k d out c n) (r,n')∧r.length=out.length+d∧Bytes r∧n'=n+d
 |0,out,n,h0,h1,h2,h3=>⟨out,n,fZ (fun k=>by rw[gZ.l0,if_neg (by omega)]),by omega,h3,by omega⟩
 |d+1,out,n,h0,h1,h2,h3=>by
  obtain⟨x,hx,x0,x1,_⟩:=mU hb hc n 256 h0 (by omega) (by omega)
  have hx1:=x1 (by omega)
  obtain⟨r,n',hr,hl,hbr,hn⟩:=EZ hb hc d (out++[x%256]) (n+1) (by omega) (by omega) (by simp;omega) (by
   intro y hy
   rcases List.mem_append.1 hy with h|h
   ·exact h3 y h
   ·simp only[List.mem_cons,List.not_mem_nil,or_false]at h;omega)
  refine⟨r,n',Ev.step (fun k=>?_) hr,by simp at hl;omega,hbr,by omega⟩
  rw[gZ.l0,if_pos (by omega),hx]
  simp only[Option.bind_some]
  rw[if_pos (by omega),dB (by omega) (by omega)]
  congr 1
  omega
def qV (x y:bf):Bool:=decide (x.f0=y.f0)&&(decide (x.f1=y.f1)&&decide (x.f2=y.f2))
def qW (x y:bH):Bool:=decide (x.f0=y.f0)&&decide (x.f1=y.f1)
theorem yJ {p:Prop} [Decidable p] {g:Nat→Option Bool} {b:Bool} (h:p→Ev g b):Ev (fun k=>if p then g k else some false) (decide p&&b):=by
 by_cases hp:p
 ·rw[decide_eq_true hp,Bool.true_and];exact bN hp (h hp)
 ·rw[decide_eq_false hp,Bool.false_and];exact dJ hp (Ev.now _)
theorem DN {f g:Nat→Option Bool} {a b:Bool} (hf:Ev f a) (h:a=true→Ev g b):Ev (fun k=>(f k).bind fun t=>if t=true then g k else some false) (a&&b):=by
 refine bJ (f:=fun t k=>if t=true then g k else some false) hf ?_;cases a with
 |true=>rw[Bool.true_and];exact bN rfl (h rfl)
 |false=>rw[Bool.false_and];exact dJ (by decide) (Ev.now _)
theorem Au {α:Type} {b:α} {s:List α} {l:List α} (h:(b::s).length=l.length):∃c s',l=c::s'∧s.length=s'.length:=by
 cases l with
 |nil=>simp at h
 |cons c s'=>exact⟨c,s',rfl,by simpa using h⟩
theorem EI (pre aF:List Int) (b:Int) (suf:List Int) (h:pre.length=aF.length):rd (aF++b::suf) (pre.length:Int)=b:=by rw[h];exact og _ _ _
theorem KF (s1:List Int):∀(s2 aB aF:List Int) (n:Int),n=(aB.length:Int)+s1.length→aB.length=aF.length→s1.length=s2.length→n≤9223372036854775806→
 Ev (fun k=>iw.l0 k (aB++s1) (aF++s2) n aB.length) (decide (s1=s2)):=by
 induction s1 with
 |nil=>intro s2 aB aF n hn hp hs _;obtain rfl:s2=[]:=List.eq_nil_of_length_eq_zero (by simpa using hs.symm);subst hn;exact fZ (fun k=>by rw[iw.l0,if_neg (by simp)];simp)
 |cons b s1 ih=>
  intro s2 aB aF n hn hp hs hl;obtain⟨c,s2,rfl,hs'⟩:=Au hs;simp only[List.length_cons,Int.natCast_add,Int.natCast_one]at hn;by_cases hb:b=c
  ·subst hb;have h:=ih s2 (aB++[b]) (aF++[b]) n (by simp;omega) (by simp[hp]) hs' hl;(have e:decide (b::s1=b::s2)=decide (s1=s2):=by simp);rw[e];refine Ev.step (fun k=>?_) (by simpa using h);rw[iw.l0,if_pos (by omega),if_pos (by omega),if_pos (by simp;omega),if_pos (by simp;omega),og,EI _ _ _ _ hp,if_pos rfl,dB (by omega) (by omega)]
  ·refine fZ (fun k=>?_);rw[iw.l0,if_pos (by omega),if_pos (by omega),if_pos (by simp;omega),if_pos (by simp;omega),og,EI _ _ _ _ hp,if_neg hb];simp[hb]
theorem EW {l m:List Int} (hl:(l.length:Int)≤9223372036854775806):Ev (fun k=>iw.f k l m) (decide (l=m)):=by
 unfold iw.f;by_cases h:(l.length:Int)=(m.length:Int)
 ·exact bN h (KF l m [] [] l.length (by simp) rfl (by omega) hl)
 ·rw[decide_eq_false (fun e=>h (by rw[e]))];exact dJ h (Ev.now _)
def mY {α:Type} (p:α→α→Bool):List α→List α→Bool
 |[],[]=>true
 |x::xs,y::ys=>p x y&&mY p xs ys
 |_,_=>false
theorem Av {α:Type} {p:α→α→Bool}:∀{l m:List α},l.length≠m.length→mY p l m=false
 |[],[],h=>absurd rfl h
 |[],_::_,_=>rfl
 |_::_,[],_=>rfl
 |x::xs,y::ys,h=>by simp only[mY];rw[Av (l:=xs) (m:=ys) (by simpa using h)];simp
theorem Jc (s1:List bf) (hin:∀x y:bf,(x.f2.length:Int)≤1048576→Ev (fun k=>mM.f k x.f0 x.f1 x.f2 y.f0 y.f1 y.f2) (qV x y)):∀(s2 aB aF:List bf) (n:Int),n=(aB.length:Int)+s1.length→aB.length=aF.length→s1.length=s2.length→n≤1048576→(∀x∈s1,(x.f2.length:Int)≤1048576)→
 Ev (fun k=>iE.l0 k (aF++s2) (aB++s1) n aB.length) (mY qV s1 s2):=by
 induction s1 with
 |nil=>intro s2 aB aF n hn hp hs _ _;obtain rfl:s2=[]:=List.eq_nil_of_length_eq_zero (by simpa using hs.symm);subst hn;exact fZ (fun k=>by rw[iE.l0,if_neg (by simp)];simp[mY])
 |cons x s1 ih=>
  intro s2 aB aF n hn hp hs hl ho;obtain⟨y,s2,rfl,hs'⟩:=Au hs;simp only[List.length_cons,Int.natCast_add,Int.natCast_one]at hn;have e1:aQ (aB++x::s1) (aB.length:Int)=x:=by unfold aQ;simp
  have e2:aQ (aF++y::s2) (aB.length:Int)=y:=by rw[hp];unfold aQ;simp
  have h:=ih s2 (aB++[x]) (aF++[y]) n (by simp;omega) (by simp[hp]) hs' hl (fun z hz=>ho z (by simp[hz]));have h':Ev (fun k=>iE.l0 k (aF++y::s2) (aB++x::s1) n ((aB.length:Int)+1)) (mY qV s1 s2):=by simpa using h
  refine Ev.step (f:=fun k=>(mM.f k x.f0 x.f1 x.f2 y.f0 y.f1 y.f2).bind fun t=>if t=true then iE.l0 k (aF++y::s2) (aB++x::s1) n ((aB.length:Int)+1)else some false) (fun k=>?_) (DN (hin x y (ho x (by simp))) (fun _=>h'));rw[iE.l0,if_pos (by omega),if_pos (by omega),if_pos (by simp;omega),if_pos (by simp;omega),e1,e2,dB (by omega) (by omega)]
theorem Jb (hin:∀x y:bf,(x.f2.length:Int)≤1048576→Ev (fun k=>mM.f k x.f0 x.f1 x.f2 y.f0 y.f1 y.f2) (qV x y)) {l m:List bf} (hl:l.length≤1048576∧∀x∈l,(x.f2.length:Int)≤1048576):Ev (fun k=>iE.f k l m) (mY qV l m):=by
 unfold iE.f;by_cases h:(l.length:Int)=(m.length:Int)
 ·exact bN h (Jc l hin m [] [] l.length (by simp) rfl (by omega) (by omega) hl.2)
 ·rw[Av (by omega)];exact dJ h (Ev.now _)
theorem Je (s1:List bH) (hin:∀x y:bH,(x.f1.length:Int)≤1048576→Ev (fun k=>mO.f k x.f0 x.f1 y.f0 y.f1) (qW x y)):∀(s2 aB aF:List bH) (n:Int),n=(aB.length:Int)+s1.length→aB.length=aF.length→s1.length=s2.length→n≤1048576→(∀x∈s1,(x.f1.length:Int)≤1048576)→
 Ev (fun k=>iK.l0 k (aF++s2) (aB++s1) n aB.length) (mY qW s1 s2):=by
 induction s1 with
 |nil=>intro s2 aB aF n hn hp hs _ _;obtain rfl:s2=[]:=List.eq_nil_of_length_eq_zero (by simpa using hs.symm);subst hn;exact fZ (fun k=>by rw[iK.l0,if_neg (by simp)];simp[mY])
 |cons x s1 ih=>
  intro s2 aB aF n hn hp hs hl ho;obtain⟨y,s2,rfl,hs'⟩:=Au hs;simp only[List.length_cons,Int.natCast_add,Int.natCast_one]at hn;have e1:bM (aB++x::s1) (aB.length:Int)=x:=by unfold bM;simp
  have e2:bM (aF++y::s2) (aB.length:Int)=y:=by rw[hp];unfold bM;simp
  have h:=ih s2 (aB++[x]) (aF++[y]) n (by simp;omega) (by simp[hp]) hs' hl (fun z hz=>ho z (by simp[hz]));have h':Ev (fun k=>iK.l0 k (aF++y::s2) (aB++x::s1) n ((aB.length:Int)+1)) (mY qW s1 s2):=by simpa using h
  refine Ev.step (f:=fun k=>(mO.f k x.f0 x.f1 y.f0 y.f1).bind fun t=>if t=true then iK.l0 k (aF++y::s2) (aB++x::s1) n ((aB.length:Int)+1)else some false) (fun k=>?_) (DN (hin x y (ho x (by simp))) (fun _=>h'));rw[iK.l0,if_pos (by omega),if_pos (by omega),if_pos (by simp;omega),if_pos (by simp;omega),e1,e2,dB (by omega) (by omega)]
theorem Jd (hin:∀x y:bH,(x.f1.length:Int)≤1048576→Ev (fun k=>mO.f k x.f0 x.f1 y.f0 y.f1) (qW x y)) {l m:List bH} (hl:l.length≤1048576∧∀x∈l,(x.f1.length:Int)≤1048576):Ev (fun k=>iK.f k l m) (mY qW l m):=by
 unfold iK.f;by_cases h:(l.length:Int)=(m.length:Int)
 ·exact bN h (Je l hin m [] [] l.length (by simp) rfl (by omega) (by omega) hl.2)
 ·rw[Av (by omega)];exact dJ h (Ev.now _)
def zo (t u:eU):Bool:=decide (t.f0=u.f0)&&(mY qV t.f1 u.f1&&mY qW t.f2 u.f2)
theorem Jh (x y:bf) (hx:(x.f2.length:Int)≤1048576):Ev (fun k=>mM.f k x.f0 x.f1 x.f2 y.f0 y.f1 y.f2) (qV x y):=by
 unfold mM.f qV;exact yJ (fun _=>yJ (fun _=>bJ (EW (by omega)) (Ev.now _)))
theorem Ji (x y:bH) (hx:(x.f1.length:Int)≤1048576):Ev (fun k=>mO.f k x.f0 x.f1 y.f0 y.f1) (qW x y):=by
 unfold mO.f qW;exact yJ (fun _=>bJ (EW (by omega)) (Ev.now _))
theorem IU (a b:Bool):Ev (fun _=>if a=true then some b else some false) (a&&b):=by
 cases a with
 |true=>exact bN rfl (Ev.now _)
 |false=>exact dJ (by decide) (Ev.now _)
theorem Jj {t u:eU} (h1:t.f1.length≤1048576∧∀x∈t.f1,(x.f2.length:Int)≤1048576) (h2:t.f2.length≤1048576∧∀x∈t.f2,(x.f1.length:Int)≤1048576):Ev (fun k=>kL.f k t.f0 t.f1 t.f2 u.f0 u.f1 u.f2) (zo t u):=by
 unfold kL.f zo;refine bJ (Jb Jh h1) (bJ (Jd Ji h2) ?_);exact yJ (fun _=>IU _ _)
theorem FE (n:Int):1≤(dO n).length:=by unfold dO;split<;>simp
theorem zT {a b:List Int} (ha:Bytes a) (hb:Bytes b) (h:a.length+b.length≤1048576):dZ (a++b):=⟨qc ha hb,by rw[List.length_append];omega⟩
theorem EX {c:List Int} (hb:Bytes c) (hc:c.length≤140737488351232) {x:Int} (x0:0≤x) (x3:x<3) (n:Int) (h0:0≤n) (h1:n≤4000):∃r n',Ev (fun k=>gZ.f k c n x) (r,n')∧(r.length≤2∧Bytes r)∧0≤n'∧n'≤n+2:=by
 obtain⟨r,n',hr,hl,hbr,hn⟩:=EZ hb hc x.toNat [] n h0 (by omega) (by simp;omega) (by intro y hy;cases hy);rw[Int.toNat_of_nonneg x0]at hr;simp only[List.length_nil]at hl;exact⟨r,n',hr,⟨by omega,hbr⟩,by omega,by omega⟩
theorem IJ {c:List Int} (hb:Bytes c) (hc:c.length≤140737488351232):∃d,Ev (fun k=>mQ.f k c) d∧dZ d:=by
 unfold mQ.f;obtain⟨a,r,o,n1,hd,ht,hn,hn'⟩:=Fj hb hc 0 (by omega) (by omega);have hp:=Fw true ht;have hpl:=Ay true ht;have hpb:=EC true ⟨a,r,o⟩;have hp1:1≤(jA true ⟨a,r,o⟩).length:=by
  have:=FE a;unfold jA;rw[List.length_append];simp only;omega
 obtain⟨x,hx,x0,x1,_⟩:=mU hb hc n1 3 (by omega) (by omega) (by omega);have x2:=x1 (by omega);obtain⟨s,n2,hs,⟨hsl,hsb⟩,hn2,HV⟩:=EX hb hc x0 x2 (n1+1) (by omega) (by omega);generalize jA true ⟨a,r,o⟩=y0 at hp hpl hpb hp1;have hyb:=zT hpb hsb (by omega);have hyl:(y0++s).length≤1002:=by rw[List.length_append];omega
 have hy1:1≤(y0++s).length:=by rw[List.length_append];omega
 obtain⟨z,hz,z0,z1,_⟩:=mU hb hc n2 5 (by omega) (by omega) (by omega);obtain⟨i,hi,i0,i1,_⟩:=mU hb hc (n2+1) ((y0++s).length:Int) (by omega) (by omega) (by omega);have i2:=i1 (by omega);have step:∀{d:List Int} {g:Nat→Option (List Int)},Ev g d→Ev g d:=fun h=>h;by_cases e0:z=0
 ·obtain⟨v,_,hv⟩:=mV hb hc (n2+1+1) (by omega) (by omega) [0,253,255,7] (by simp) (by simp);refine⟨(y0++s).set i.toNat (v%256),bU rfl (bJ hd (bJ hp (bU hx (bJ hs (bN (show y0.length+s.length<140737488355328 by omega) (bU rfl (bU hz (bN e0 (bU hi (bU hv (bN i0 (bN i2 (Ev.now _))))))))))))),?_,by rw[List.length_set];omega⟩;intro w hw;rcases List.mem_or_eq_of_mem_set hw with h|h
  ·exact hyb.1 w h
  ·omega
 by_cases e1:z=1
 ·exact⟨(y0++s).take i.toNat,bU rfl (bJ hd (bJ hp (bU hx (bJ hs (bN (show y0.length+s.length<140737488355328 by omega) (bU rfl (bU hz (dJ e0 (bN e1 (bU hi (bN i0 (bN (show i≤((y0++s).length:Int) by omega) (Ev.now _))))))))))))),fun w hw=>hyb.1 w (List.mem_of_mem_take hw),by rw[List.length_take];omega⟩
 ·exact⟨y0++s,bU rfl (bJ hd (bJ hp (bU hx (bJ hs (bN (show y0.length+s.length<140737488355328 by omega) (bU rfl (bU hz (dJ e0 (dJ e1 (Ev.now _)))))))))),hyb⟩
theorem II {c:List Int} (hb:Bytes c) (hc:c.length≤140737488351232):∃n,uD.f c=some n∧n≤65536:=by
 obtain⟨x,hx,x0,x1,_⟩:=mU hb hc 0 300 (by omega) (by omega) (by omega);have x2:=x1 (by omega);obtain⟨v,hm,hv⟩:=mV hb hc (0+1) (by omega) (by omega) [x,252,253,65535,65536, -1] (by simp) (by simp);refine⟨v,?_,by simp only[List.mem_cons,List.not_mem_nil,or_false]at hm;omega⟩;unfold uD.f ni.f;simp only[Option.bind_some];rw[hx];simp only[Option.bind_some];rw[hv];rfl
theorem IK {c:List Int} (hb:Bytes c) (hc:c.length≤140737488351232):∃d,Ev (fun k=>mR.f k c) d∧dZ d:=by
 unfold mR.f;obtain⟨x,hx,x0,x1,_⟩:=mU hb hc 0 300 (by omega) (by omega) (by omega);have x2:=x1 (by omega);obtain⟨v,hm,hv⟩:=mV hb hc (0+1) (by omega) (by omega) [x,65535,252] (by simp) (by simp);simp only[List.mem_cons,List.not_mem_nil,or_false]at hm;have hp:iy.f v=some (dO v):=qB (by omega);have h3:=jK v;have h4:=FE v;obtain⟨y,hy,y0,y1,_⟩:=mU hb hc (0+1+1) 3 (by omega) (by omega) (by omega);obtain⟨s,n2,hs,⟨hsl,hsb⟩,hn2,HV⟩:=EX hb hc y0 (y1 (by omega)) (0+1+1+1) (by omega) (by omega);have hyb:=zT (qC v) hsb (by omega);obtain⟨d,hm2,hd⟩:=mV hb hc n2 (by omega) (by omega) [0,0,0,1] (by simp) (by simp);simp only[List.mem_cons,List.not_mem_nil,or_false]at hm2;exact⟨(dO v++s).drop d.toNat,bU rfl (bU hx (bU hv (bU hp (bU hy (bJ hs (bN (show(dO v).length+s.length<140737488355328 by omega) (bU rfl (bU hd (bN (by omega) (bN (by rw[List.length_append];omega) (Ev.now _))))))))))),fun w hw=>hyb.1 w (List.mem_of_mem_drop hw),by rw[List.length_drop];have:=hyb.2;omega⟩
def qR (n:Int):Int×List Int:=if 0≤n∧n≤65535 then(0,dO n)else(3,[])
theorem Eb (n:Int):ji.f n=some (qR n):=by
 unfold ji.f qR;rw[sI];simp only[Option.bind_some,qK];by_cases h:0≤n∧n≤65535
 ·rw[if_pos h,if_pos (by simpa using h)]
 ·rw[if_neg h,if_neg (by simpa using h)]
theorem KJ {n:Int} (h1:n≤9223372036854775807):nN.f n=some (qR n):=by
 unfold nN.f qR;rw[qA,qB h1];simp only[Option.bind_some];by_cases h:0≤n∧n≤65535
 ·rw[if_pos h,if_pos (by simpa using h)]
 ·rw[if_neg h,if_neg (by simpa using h)]
theorem Aw {α:Type} {p:α→α→Bool} (h:∀x,p x x=true):∀l:List α,mY p l l=true
 |[]=>rfl
 |x::r=>by simp only[mY,h x,Aw h r,Bool.and_self]
theorem Lr (t:eU):zo t t=true:=by
 unfold zo;rw[Aw (fun x=>by simp[qV]),Aw (fun x=>by simp[qW])];simp
theorem JG {c:List Int} (hb:Bytes c) (hc:c.length≤140737488351232):Ev (fun k=>bK.j1 k c false) true:=by
 obtain⟨a,r,o,n',hd,ht⟩:=KS hb hc 0 (by omega) (by omega);have hdr:Ev (fun k=>ng.f k c) (a,r,o):=by
  unfold ng.f;exact bU rfl (bJ hd (Ev.now _))
 have i1:=Ea (t:=⟨a,r,o⟩) ht.1 ht.2;have s1:=KI (t:=⟨a,r,o⟩) ht.1 ht.2;have f1:=Ag (t:=⟨a,r,o⟩) ht.1 ht.2;unfold sP at i1 s1;by_cases h0:kF ⟨a,r,o⟩=0
 ·rw[if_pos h0]at i1 s1;have hok:=xL h0;have hl:=Ay true hok;have hbd:dZ (jA true ⟨a,r,o⟩++[1,2,3]):=zT (EC _ _) (by intro x hx;simp only[List.mem_cons,List.not_mem_nil,or_false]at hx;omega) (by simp;omega);have hat:At (jA true ⟨a,r,o⟩++[1,2,3]) 0 (jA true ⟨a,r,o⟩):=⟨_,rfl⟩;obtain⟨e,n,xs,ys,u,hS,hI,g1,g2,_,hE⟩:=AB hbd;obtain⟨q1,q2,q3,q4,q5⟩:=hE _ (Hu hok hat) h0;simp only at q1 q2 q3 q4 q5;rw[q1,q2,q3,q4,q5]at hI;have hsame:=Jj (t:=⟨a,r,o⟩) (u:=⟨a,r,o⟩) ht.1 ht.2;rw[Lr]at hsame;refine Ev.step (fun k=>by rw[bK.j1]) (dJ (by decide) (bJ hdr (bJ i1 (bN rfl (bU rfl (bN (show([]:List Int).length+(jA true ⟨a,r,o⟩).length<140737488355328 by simp;omega) (bU rfl (bU rfl (bN (show([]++(jA true ⟨a,r,o⟩)).length+[1,2,3].length<140737488355328 by simp;omega) (bJ hI (bN rfl (bJ hsame (bN rfl (bN (show(((0+(jA true ⟨a,r,o⟩).length:Nat)):Int)=((jA true ⟨a,r,o⟩).length:Int) by simp) (bJ s1 ?_)))))))))))))));simp only[beq_self_eq_true];exact Ev.now _
 ·rw[if_neg h0]at i1 s1;refine Ev.step (fun k=>by rw[bK.j1]) (dJ (by decide) (bJ hdr (bJ i1 (dJ h0 (bJ s1 (bN rfl (bJ f1 ?_)))))));simp only[beq_self_eq_true];exact Ev.now _
theorem Kq {d:List Int} (hb:dZ d) (h:(dG d).1=0):0≤(dG d).2.1∧(dG d).2.1≤65535∧(dG d).2.2=(dO (dG d).2.1).length∧∃t,d=dO (dG d).2.1++t:=by
 have h1:=EL hb 0;rw[List.drop_zero]at h1;obtain⟨a1,a2,_,_⟩:=h1 h;generalize hr:dG d=q at h a1 a2;obtain⟨x,y,z⟩:=q;simp only at h a1 a2;subst h;obtain⟨b1,b2⟩:=EN hb.1 hr;exact⟨a1,a2,b2,b1⟩
theorem JF {c more:List Int} (hm:dZ more) (hj:Ev (fun k=>bK.j1 k c false) true):
 Ev (fun k=>(jJ.f more).bind fun b=>if(dG more).1=b.1 then(if(dG more).1=0 then(if(dG more).2.2<0 then none else(if(dG more).2.2>(more.length:Int)then none else((ji.f (dG more).2.1).bind fun p=>(if 0≤(dG more).2.2 then(if(dG more).2.2≤(more.length:Int)then(bK.j1 k c ((strOfNums p.2).toList != (strOfNums (more.take ((dG more).2.2:Int).toNat)).toList))else none)else none))))else bK.j1 k c false)else none) true:=by
 refine bU (KL more hm.1) (bN rfl ?_);by_cases h0:(dG more).1=0
 ·obtain⟨a1,a2,a3,t,a4⟩:=Kq hm h0;have hl:(dO (dG more).2.1).length≤more.length:=by
   have:=congrArg List.length a4;rw[List.length_append]at this;omega
  refine bN h0 (dJ (by omega) (dJ (by omega) (bU (Eb _) (bN (by omega) (bN (by omega) ?_)))));have e:more.take ((dG more).2.2:Int).toNat=dO (dG more).2.1:=by
   rw[a3,Int.toNat_natCast];exact BJ ⟨t,by rw[List.drop_zero];exact a4⟩
  rw[e];unfold qR;rw[if_pos ⟨a1,a2⟩,bne_self_eq_false];exact hj
 ·exact dJ h0 hj
theorem JE {c:List Int} (hb:Bytes c) (hc:c.length≤140737488351232):Ev (fun k=>bK.j0 k c false) true:=by
 obtain⟨n,hn,hn1⟩:=II hb hc;obtain⟨more,hmr,hm⟩:=IK hb hc;have T:=JF hm (JG hb hc);refine Ev.step (fun k=>by rw[bK.j0]) (dJ (by decide) (bU hn (bU (Eb n) (bJ hmr (bJ (wZ hm.1) (bU (KJ (n:=n) (by omega)) (bN rfl ?_)))))));by_cases h:0≤n∧n≤65535
 ·(have e:qR n=(0,dO n):=by unfold qR;rw[if_pos h]);rw[e];have hr:=wZ (qC n);have e2:=EM h.1 h.2 [];rw[List.append_nil]at e2;rw[e2]at hr;exact bN rfl (bJ hr (bN rfl T))
 ·(have e:qR n=(3,[]):=by unfold qR;rw[if_neg h]);rw[e];exact dJ (by decide) T
theorem FnTxs:bK.Pure:=by
 intro c hm hl hw;have hb:Bytes c:=fun x hx=>Ls (hw x hx);refine Ev.rounds (g:=fun k=>bK.f k c) ?_;unfold bK.f;by_cases hbig:(c.length:Int)>1048576
 ·exact bU rfl (bN (by simpa using hbig) (Ev.now _))
 have hc:c.length≤140737488351232:=by omega
 obtain⟨data,hdata,hbd⟩:=IJ hb hc;obtain⟨e,n,xs,ys,u,hS,hI,h1,h2,hD,_⟩:=AB hbd;have T:=JE hb hc;refine bU rfl (dJ (by simpa using hbig) (bJ hdata (bJ hI (bJ hS (bN rfl ?_)))));by_cases h0:e=0
 ·obtain⟨r,hr,hf,rfl,rfl,rfl,rfl⟩:=hD h0;obtain⟨d1,d2⟩:=Ht hbd hr;have hle:=(Dm hbd hr).1;have hp:=Ea (t:=r.1) (Er h1) (Es h2);unfold sP at hp;rw[if_pos hf]at hp;refine bN h0 (dJ (by simp only;omega) (dJ (by simp only;omega) (bJ hp (bN (by simp only;omega) (bN (by simp only;omega) ?_)))));have e2:data.take ((r.2:Int)).toNat=jA true r.1:=by
   rw[Int.toNat_natCast,d2,Nat.zero_add];exact BJ d1
  simp only;rw[e2,bne_self_eq_false];exact T
 ·exact dJ h0 T
end Go.Proofs.Ythjlbpgiaehjnaa.Pure
