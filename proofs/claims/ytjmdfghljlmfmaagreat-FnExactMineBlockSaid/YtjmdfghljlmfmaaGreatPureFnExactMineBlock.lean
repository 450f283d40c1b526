/- for every block that is not too long and all tries, MineBlock answers as the reference does, leaves its argument as it was, and gives back memory of its own. -/
import Derived.Test.YtjmdfghljlmfmaaGreatQFnExactMineBlockx1
import Derived.Test.YtjmdfghljlmfmaaGreatQFnExactMineBlockx2
import Derived.Test.YtjmdfghljlmfmaaGreatQFnExactMineBlockx3
import Derived.Test.YtjmdfghljlmfmaaGreatQFnExactMineBlockx4
import Derived.Test.YtjmdfghljlmfmaaGreatQFnExactMineBlockx5
import Derived.Test.YtjmdfghljlmfmaaGreatQFnExactMineBlockx6
import Derived.Test.YtjmdfghljlmfmaaGreatQFnExactMineBlockx7
import Derived.Test.YtjmdfghljlmfmaaGreatQFnExactMineBlockx8
import Derived.Test.YtjmdfghljlmfmaaGreatQFnExactMineBlockx9
import Derived.Test.YtjmdfghljlmfmaaGreatQFnExactMineBlockx10
import Derived.Test.YtjmdfghljlmfmaaGreatQFnExactMineBlockx11
import Derived.Test.YtjmdfghljlmfmaaGreatQFnExactMineBlockx12
import Derived.Test.YtjmdfghljlmfmaaGreatQFnExactMineBlockx13
import Derived.Test.YtjmdfghljlmfmaaGreatQFnExactMineBlockx14
import Derived.Test.YtjmdfghljlmfmaaGreatQFnExactMineBlockx15
import Derived.Test.YtjmdfghljlmfmaaGreatQFnExactMineBlockx16
import Derived.Test.YtjmdfghljlmfmaaGreatQFnExactMineBlockx17
import Derived.Test.YtjmdfghljlmfmaaGreatQFnExactMineBlockx18
import Derived.Test.YtjmdfghljlmfmaaGreatQFnExactMineBlockx19
import Derived.Test.YtjmdfghljlmfmaaGreatQFnExactMineBlockx20
import Derived.Test.YtjmdfghljlmfmaaGreatQFnExactMineBlockx21
import Derived.Test.YtjmdfghljlmfmaaGreatQFnExactMineBlockx22
import Derived.Test.YtjmdfghljlmfmaaGreatQFnExactMineBlockx23
import Derived.Test.YtjmdfghljlmfmaaGreatQFnExactMineBlockx24
import Derived.Test.YtjmdfghljlmfmaaGreatQFnExactMineBlockx25
import Derived.Test.YtjmdfghljlmfmaaGreatQFnExactMineBlockx26
import Derived.Test.YtjmdfghljlmfmaaGreatQFnExactMineBlockx27
import Derived.Test.YtjmdfghljlmfmaaGreatRFnExactMineBlock
namespace Go.Proofs.YtjmdfghljlmfmaaGreat.Pure
open Go.RowKit Go.Proofs.YtjmdfghljlmfmaaGreat.QFnExactMineBlock Go.Proofs.YtjmdfghljlmfmaaGreatW.PrintWords Go.Proofs.YtjmdfghljlmfmaaGreatW.PrintLast
set_option linter.unusedVariables false
set_option linter.unusedSimpArgs false
theorem bE {x:Int} (h1: -9223372036854775808≤x) (h2:x≤9223372036854775807):wrap64 x=x:=by
 unfold wrap64;omega
theorem Jh {x:Int} (h:(Lit.int .i64 x).wf=true): -9223372036854775808≤x∧x≤9223372036854775807:=by
 simpa[Lit.wf,IntKind.min,IntKind.max,IntKind.signed,IntKind.bits]using h
theorem Ji {x:Int} (h:(Lit.int .u8 x).wf=true):0≤x∧x≤255:=by
 simpa[Lit.wf,IntKind.min,IntKind.max,IntKind.signed,IntKind.bits]using h
theorem Ii {α:Type} {g:Nat→Option α} {r:α} (h:∀k,g k=some r):Ev g r:=⟨0,fun k _=>h k⟩
theorem bP {α:Type} {g:Nat→Option α} {r:α} (h:∀k,g (k+1)=some r):Ev g r:=Ev.step h (Ev.now r)
theorem bB {α β:Type} {g:Nat→Option α} {f:α→Nat→Option β} {a:α} {r:β} (h:Ev g a) (k:Ev (f a) r):Ev (fun n=>(g n).bind fun t=>f t n) r:=
 Ev.bind (f:=fun n t=>f t n) h k
theorem bD {α:Type} {p:Prop} [Decidable p] {g f:Nat→Option α} {r:α} (hp:p) (k:Ev g r):Ev (fun n=>if p then g n else f n) r:=
 Ev.congr (fun n=>if_pos hp) k
theorem dD {α:Type} {p:Prop} [Decidable p] {g f:Nat→Option α} {r:α} (hp:¬p) (k:Ev f r):Ev (fun n=>if p then g n else f n) r:=
 Ev.congr (fun n=>if_neg hp) k
theorem jv {α β:Type} {g:Option α} {f:α→Nat→Option β} {a:α} {r:β} (h:g=some a) (k:Ev (f a) r):Ev (fun n=>g.bind fun t=>f t n) r:=by
 subst h;exact k
theorem iK (pre:List Int) (b:Int) (suf:List Int):rd (pre++b::suf) (pre.length:Int)=b:=by
 unfold rd;simp
theorem Jc {l:List Int} {i:Int} (h0:0≤i) (h1:i<l.length):rd l i=l[i.toNat]'(by omega):=by
 unfold rd;rw[List.getD_eq_getElem?_getD,List.getElem?_eq_getElem (by omega)];rfl
theorem Je {α:Type} (l:List α) (n:Nat) (h:n≤l.length):∃pre suf,l=pre++suf∧pre.length=n:=
 ⟨l.take n,l.drop n,(List.take_append_drop n l).symm,by simp;omega⟩
theorem yX (l:List Int) (q:Int) (h0:0≤q) (h1:q≤1048576) (hl:l.length≤maxLen):∃r,mQ.f l q=some r∧r≤q∧(0≤r→(l.length:Int)≤q):=by
 unfold mQ.f;unfold maxLen at hl;rw[bE (by omega) (by omega)];by_cases h:q-(l.length:Int)<0
 ·rw[if_pos h];exact⟨-1,rfl,by omega,by omega⟩
 ·rw[if_neg h];exact⟨_,rfl,by omega,by omega⟩
theorem Ef (b:eu) (q:Int) (h0:0≤q) (h1:q≤1048576) (hl:b.f2.length≤maxLen):∃r,qJ.f b.f0 b.f1 b.f2 q=some r∧r≤q∧(0≤r→(b.f2.length:Int)≤q):=by
 unfold qJ.f;obtain⟨r,hr,h2,h3⟩:=yX b.f2 q h0 h1 hl;rw[hr];simp only[Option.bind_some];by_cases h:r<0
 ·rw[if_pos h];exact⟨-1,rfl,by omega,by omega⟩
 ·rw[if_neg h];exact⟨r,rfl,h2,h3⟩
theorem Ee (suf:List eu):∀(pre:List eu) (q:Int),0≤q→q≤1048576→(∀x∈suf,x.f2.length≤maxLen)→(pre.length:Int)+suf.length≤1048576→
 ∃r,Ev (fun k=>gD.l0 k (pre++suf) q pre.length) r∧r≤q∧(0≤r→∀x∈suf,(x.f2.length:Int)≤1048576):=by
 induction suf with
 |nil=>intro pre q h0 h1 _ _;exact⟨q,bP (fun k=>by rw[gD.l0,if_neg (by simp)]),by omega,by simp⟩
 |cons b suf ih=>
  intro pre q h0 h1 hs hl;simp only[List.length_cons,Int.natCast_add,Int.natCast_one]at hl;have hrd:gu (pre++b::suf) (pre.length:Int)=b:=by unfold gu;simp
  obtain⟨r,hr,hr1,hr2⟩:=Ef b q h0 h1 (hs b (by simp));by_cases hneg:r<0
  ·refine⟨-1,bP (fun k=>?_),by omega,by omega⟩;rw[gD.l0,if_pos (by simp;omega),if_pos (by omega),hrd,hr];simp only[Option.bind_some];rw[if_pos hneg]
  ·obtain⟨r',h',h1',h2'⟩:=ih (pre++[b]) r (by omega) (by omega) (fun x hx=>hs x (by simp[hx])) (by simp;omega);refine⟨r',Ev.step (fun k=>?_) h',by omega,fun h x hx=>?_⟩
   ·rw[gD.l0,if_pos (by simp;omega),if_pos (by omega),hrd,hr];simp only[Option.bind_some];rw[if_neg hneg,bE (by omega) (by omega)];simp
   ·rcases List.mem_cons.1 hx with rfl|hx
    ·have:=hr2 (by omega);omega
    ·exact h2' h x hx
theorem Ed {l:List eu} (hl:l.length≤maxLen) (hs:∀x∈l,x.f2.length≤maxLen) (q:Int) (h0:0≤q) (h1:q≤1048576):
 ∃r,Ev (fun k=>gD.f k l q) r∧r≤q∧(0≤r→l.length≤1048576∧∀x∈l,(x.f2.length:Int)≤1048576):=by
 unfold maxLen at hl;unfold gD.f;rw[bE (by omega) (by omega)];by_cases h:q-(l.length:Int)<0
 ·exact⟨-1,bD h (Ev.now _),by omega,by omega⟩
 ·obtain⟨r,hr,h2,h3⟩:=Ee l [] (q-(l.length:Int)) (by omega) (by omega) hs (by simp;omega);exact⟨r,dD h (by simpa using hr),by omega,fun hh=>⟨by omega,h3 hh⟩⟩
theorem Ej (b:eB) (q:Int) (h0:0≤q) (h1:q≤1048576) (hl:b.f1.length≤maxLen):∃r,qK.f b.f0 b.f1 q=some r∧r≤q∧(0≤r→(b.f1.length:Int)≤q):=by
 unfold qK.f;obtain⟨r,hr,h2,h3⟩:=yX b.f1 q h0 h1 hl;rw[hr];simp only[Option.bind_some];by_cases h:r<0
 ·rw[if_pos h];exact⟨-1,rfl,by omega,by omega⟩
 ·rw[if_neg h];exact⟨r,rfl,h2,h3⟩
theorem Ei (suf:List eB):∀(pre:List eB) (q:Int),0≤q→q≤1048576→(∀x∈suf,x.f1.length≤maxLen)→(pre.length:Int)+suf.length≤1048576→
 ∃r,Ev (fun k=>gF.l0 k (pre++suf) q pre.length) r∧r≤q∧(0≤r→∀x∈suf,(x.f1.length:Int)≤1048576):=by
 induction suf with
 |nil=>intro pre q h0 h1 _ _;exact⟨q,bP (fun k=>by rw[gF.l0,if_neg (by simp)]),by omega,by simp⟩
 |cons b suf ih=>
  intro pre q h0 h1 hs hl;simp only[List.length_cons,Int.natCast_add,Int.natCast_one]at hl;have hrd:jc (pre++b::suf) (pre.length:Int)=b:=by unfold jc;simp
  obtain⟨r,hr,hr1,hr2⟩:=Ej b q h0 h1 (hs b (by simp));by_cases hneg:r<0
  ·refine⟨-1,bP (fun k=>?_),by omega,by omega⟩;rw[gF.l0,if_pos (by simp;omega),if_pos (by omega),hrd,hr];simp only[Option.bind_some];rw[if_pos hneg]
  ·obtain⟨r',h',h1',h2'⟩:=ih (pre++[b]) r (by omega) (by omega) (fun x hx=>hs x (by simp[hx])) (by simp;omega);refine⟨r',Ev.step (fun k=>?_) h',by omega,fun h x hx=>?_⟩
   ·rw[gF.l0,if_pos (by simp;omega),if_pos (by omega),hrd,hr];simp only[Option.bind_some];rw[if_neg hneg,bE (by omega) (by omega)];simp
   ·rcases List.mem_cons.1 hx with rfl|hx
    ·have:=hr2 (by omega);omega
    ·exact h2' h x hx
theorem Eh {l:List eB} (hl:l.length≤maxLen) (hs:∀x∈l,x.f1.length≤maxLen) (q:Int) (h0:0≤q) (h1:q≤1048576):
 ∃r,Ev (fun k=>gF.f k l q) r∧r≤q∧(0≤r→l.length≤1048576∧∀x∈l,(x.f1.length:Int)≤1048576):=by
 unfold maxLen at hl;unfold gF.f;rw[bE (by omega) (by omega)];by_cases h:q-(l.length:Int)<0
 ·exact⟨-1,bD h (Ev.now _),by omega,by omega⟩
 ·obtain⟨r,hr,h2,h3⟩:=Ei l [] (q-(l.length:Int)) (by omega) (by omega) hs (by simp;omega);exact⟨r,dD h (by simpa using hr),by omega,fun hh=>⟨by omega,h3 hh⟩⟩
theorem Es (suf:List Int):∀(pre:List Int) (z:List Int),z.length=suf.length→(pre.length:Int)+suf.length≤9223372036854775806→
 Ev (fun k=>fQ.l0 k (pre++suf) (pre++z) pre.length) (pre++suf):=by
 induction suf with
 |nil=>intro pre z hz _;obtain rfl:z=[]:=List.eq_nil_of_length_eq_zero (by simpa using hz);exact bP (fun k=>by simp[fQ.l0])
 |cons b suf ih=>
  intro pre z hz hl;obtain⟨c,z,rfl⟩:∃c z',z=c::z':=by cases z with|nil=>simp at hz|cons c z=>exact⟨c,z,rfl⟩
  simp only[List.length_cons,Int.natCast_add,Int.natCast_one]at hl hz;have h:=ih (pre++[b]) z (by omega) (by simp;omega);refine Ev.step (fun k=>?_) (by simpa using h);rw[fQ.l0];rw[if_pos (by simp;omega),if_pos (by omega),if_pos (by simp;omega),iK,bE (by omega) (by omega)];simp
theorem yY {l:List Int} (hl:l.length≤17592186043904):Ev (fun k=>fQ.f k l) l:=by
 have h:=Es l [] (List.replicate l.length 0) (by simp) (by simp;omega);unfold fQ.f;refine bD (by omega) (bD (by simp;omega) ?_);simpa using h
def mH (x:eu):aM:=⟨x.f0,x.f1,x.f2⟩
theorem Er (b:eu) (hl:(b.f2.length:Int)≤1048576):Ev (fun k=>lW.f k b.f0 b.f1 b.f2) (b.f0,b.f1,b.f2):=by
 unfold lW.f;exact bB (yY (by omega)) (Ev.now _)
theorem Ep (suf:List eu):∀(pre:List eu) (z:List aM),z.length=suf.length→(∀x∈suf,(x.f2.length:Int)≤1048576)→(pre.length:Int)+suf.length≤1048576→
 Ev (fun k=>gG.l0 k (pre++suf) (pre.map mH++z) pre.length) ((pre++suf).map mH):=by
 induction suf with
 |nil=>intro pre z hz _ _;obtain rfl:z=[]:=List.eq_nil_of_length_eq_zero (by simpa using hz);exact bP (fun k=>by rw[gG.l0,if_neg (by simp)];simp)
 |cons b suf ih=>
  intro pre z hz hs hl;obtain⟨c,z,rfl⟩:∃c z',z=c::z':=by cases z with|nil=>simp at hz|cons c z=>exact⟨c,z,rfl⟩
  simp only[List.length_cons,Int.natCast_add,Int.natCast_one]at hl hz;have hrd:gu (pre++b::suf) (pre.length:Int)=b:=by unfold gu;simp
  have h:=ih (pre++[b]) z (by omega) (fun x hx=>hs x (by simp[hx])) (by simp;omega);refine Ev.step (f:=fun k=>(lW.f k b.f0 b.f1 b.f2).bind fun bt=>gG.l0 k (pre++b::suf) ((pre.map mH++c::z).set pre.length (⟨bt.1,bt.2.1,bt.2.2⟩:aM)) ((pre.length:Int)+1)) (fun k=>?_) (bB (Er b (hs b (by simp))) ?_)
  ·rw[gG.l0,if_pos (by simp;omega),if_pos (by omega),hrd];refine congrArg _ (funext fun bt=>?_);rw[if_pos (by simp;omega),bE (by omega) (by omega)];simp
  ·have e:(pre.map mH++c::z).set pre.length (⟨b.f0,b.f1,b.f2⟩:aM)=(pre++[b]).map mH++z:=by
    rw[List.set_append_right _ _ (by simp)];simp[mH]
   simp only[e];simpa using h
theorem Eo {l:List eu} (hl:l.length≤1048576) (hs:∀x∈l,(x.f2.length:Int)≤1048576):Ev (fun k=>gG.f k l) (l.map mH):=by
 have h:=Ep l [] (List.replicate l.length jd) (by simp) hs (by simp;omega);unfold gG.f;refine bD (by omega) (bD (by simp;omega) ?_);simpa using h
def cOut (x:eB):aT:=⟨x.f0,x.f1⟩
theorem Ew (b:eB) (hl:(b.f1.length:Int)≤1048576):Ev (fun k=>lX.f k b.f0 b.f1) (b.f0,b.f1):=by
 unfold lX.f;exact bB (yY (by omega)) (Ev.now _)
theorem Eu (suf:List eB):∀(pre:List eB) (z:List aT),z.length=suf.length→(∀x∈suf,(x.f1.length:Int)≤1048576)→(pre.length:Int)+suf.length≤1048576→
 Ev (fun k=>gq.l0 k (pre++suf) (pre.map cOut++z) pre.length) ((pre++suf).map cOut):=by
 induction suf with
 |nil=>intro pre z hz _ _;obtain rfl:z=[]:=List.eq_nil_of_length_eq_zero (by simpa using hz);exact bP (fun k=>by rw[gq.l0,if_neg (by simp)];simp)
 |cons b suf ih=>
  intro pre z hz hs hl;obtain⟨c,z,rfl⟩:∃c z',z=c::z':=by cases z with|nil=>simp at hz|cons c z=>exact⟨c,z,rfl⟩
  simp only[List.length_cons,Int.natCast_add,Int.natCast_one]at hl hz;have hrd:jc (pre++b::suf) (pre.length:Int)=b:=by unfold jc;simp
  have h:=ih (pre++[b]) z (by omega) (fun x hx=>hs x (by simp[hx])) (by simp;omega);refine Ev.step (f:=fun k=>(lX.f k b.f0 b.f1).bind fun bt=>gq.l0 k (pre++b::suf) ((pre.map cOut++c::z).set pre.length (⟨bt.1,bt.2⟩:aT)) ((pre.length:Int)+1)) (fun k=>?_) (bB (Ew b (hs b (by simp))) ?_)
  ·rw[gq.l0,if_pos (by simp;omega),if_pos (by omega),hrd];refine congrArg _ (funext fun bt=>?_);rw[if_pos (by simp;omega),bE (by omega) (by omega)];simp
  ·have e:(pre.map cOut++c::z).set pre.length (⟨b.f0,b.f1⟩:aT)=(pre++[b]).map cOut++z:=by
    rw[List.set_append_right _ _ (by simp)];simp[cOut]
   simp only[e];simpa using h
theorem Et {l:List eB} (hl:l.length≤1048576) (hs:∀x∈l,(x.f1.length:Int)≤1048576):Ev (fun k=>gq.f k l) (l.map cOut):=by
 have h:=Eu l [] (List.replicate l.length z130) (by simp) hs (by simp;omega);unfold gq.f;refine bD (by omega) (bD (by simp;omega) ?_);simpa using h
theorem Dx (suf:List Int):∀(pre:List Int),(pre.length:Int)+suf.length≤9223372036854775806→
 Ev (fun k=>fO.l0 k (pre++suf) (pre++suf) pre.length) true:=by
 induction suf with
 |nil=>intro pre _;exact bP (fun k=>by simp[fO.l0])
 |cons b suf ih=>intro pre hl;simp only[List.length_cons,Int.natCast_add,Int.natCast_one]at hl;have h:=ih (pre++[b]) (by simp;omega);refine Ev.step (fun k=>?_) (by simpa using h);rw[fO.l0];rw[if_pos (by simp;omega),if_pos (by omega),if_pos (by simp;omega),if_pos rfl,bE (by omega) (by omega)]
theorem yR {l:List Int} (hl:l.length≤140737488351232):Ev (fun k=>fO.f k l l) true:=by
 unfold fO.f;exact bD rfl (Dx l [] (by simp;omega))
theorem Dw (b:aM) (hl:(b.f2.length:Int)≤1048576):Ev (fun k=>lI.f k b.f0 b.f1 b.f2 b.f0 b.f1 b.f2) true:=by
 unfold lI.f;exact bD rfl (bD rfl (bB (yR (by omega)) (bD rfl (Ev.now _))))
theorem Du (suf:List aM):∀(pre:List aM),(∀x∈suf,(x.f2.length:Int)≤1048576)→(pre.length:Int)+suf.length≤1048576→
 Ev (fun k=>dR.l0 k (pre++suf) (pre++suf) pre.length) true:=by
 induction suf with
 |nil=>intro pre _ _;exact bP (fun k=>by rw[dR.l0,if_neg (by simp)])
 |cons b suf ih=>
  intro pre hs hl;simp only[List.length_cons,Int.natCast_add,Int.natCast_one]at hl;have hrd:aD (pre++b::suf) (pre.length:Int)=b:=by unfold aD;simp
  have h:=ih (pre++[b]) (fun x hx=>hs x (by simp[hx])) (by simp;omega);refine Ev.step (f:=fun k=>(lI.f k b.f0 b.f1 b.f2 b.f0 b.f1 b.f2).bind fun t=>if t=true then dR.l0 k (pre++b::suf) (pre++b::suf) ((pre.length:Int)+1)else some false) (fun k=>?_) (bB (Dw b (hs b (by simp))) (bD rfl ?_))
  ·rw[dR.l0,if_pos (by simp;omega),if_pos (by omega),if_pos (by simp;omega),hrd,bE (by omega) (by omega)]
  ·simpa using h
theorem Dv {l:List aM} (hl:l.length≤1048576) (hs:∀x∈l,(x.f2.length:Int)≤1048576):Ev (fun k=>dR.f k l l) true:=by
 unfold dR.f;exact bD rfl (Du l [] hs (by simp;omega))
theorem DC (b:aT) (hl:(b.f1.length:Int)≤1048576):Ev (fun k=>lJ.f k b.f0 b.f1 b.f0 b.f1) true:=by
 unfold lJ.f;exact bD rfl (bB (yR (by omega)) (bD rfl (Ev.now _)))
theorem Dy (suf:List aT):∀(pre:List aT),(∀x∈suf,(x.f1.length:Int)≤1048576)→(pre.length:Int)+suf.length≤1048576→
 Ev (fun k=>dP.l0 k (pre++suf) (pre++suf) pre.length) true:=by
 induction suf with
 |nil=>intro pre _ _;exact bP (fun k=>by rw[dP.l0,if_neg (by simp)])
 |cons b suf ih=>
  intro pre hs hl;simp only[List.length_cons,Int.natCast_add,Int.natCast_one]at hl;have hrd:aX (pre++b::suf) (pre.length:Int)=b:=by unfold aX;simp
  have h:=ih (pre++[b]) (fun x hx=>hs x (by simp[hx])) (by simp;omega);refine Ev.step (f:=fun k=>(lJ.f k b.f0 b.f1 b.f0 b.f1).bind fun t=>if t=true then dP.l0 k (pre++b::suf) (pre++b::suf) ((pre.length:Int)+1)else some false) (fun k=>?_) (bB (DC b (hs b (by simp))) (bD rfl ?_))
  ·rw[dP.l0,if_pos (by simp;omega),if_pos (by omega),if_pos (by simp;omega),hrd,bE (by omega) (by omega)]
  ·simpa using h
theorem Dz {l:List aT} (hl:l.length≤1048576) (hs:∀x∈l,(x.f1.length:Int)≤1048576):Ev (fun k=>dP.f k l l) true:=by
 unfold dP.f;exact bD rfl (Dy l [] hs (by simp;omega))
theorem DI {a:Int} {l1:List aM} {l2:List aT} (h1:l1.length≤1048576∧∀x∈l1,(x.f2.length:Int)≤1048576) (h2:l2.length≤1048576∧∀x∈l2,(x.f1.length:Int)≤1048576):
 Ev (fun k=>lK.f k a l1 l2 a l1 l2) true:=by
 unfold lK.f;exact bD rfl (bB (Dv h1.1 h1.2) (bD rfl (bB (Dz h2.1 h2.2) (bD rfl (Ev.now _)))))
theorem Em {a:Int} {l1:List eu} {l2:List eB} (h1:l1.length≤maxLen) (s1:∀x∈l1,x.f2.length≤maxLen) (h2:l2.length≤maxLen) (s2:∀x∈l2,x.f1.length≤maxLen) (q:Int) (q0:0≤q) (q1:q≤1048576):
 ∃r,Ev (fun k=>lM.f k a l1 l2 q) r∧r≤q∧(0≤r→(l1.length≤1048576∧∀x∈l1,(x.f2.length:Int)≤1048576)∧(l2.length≤1048576∧∀x∈l2,(x.f1.length:Int)≤1048576)):=by
 unfold lM.f;obtain⟨r,hr,hr1,hr2⟩:=Ed h1 s1 q q0 q1;by_cases h:r<0
 ·exact⟨-1,bB hr (bD h (Ev.now _)),by omega,by omega⟩
 ·obtain⟨r',hr',hr1',hr2'⟩:=Eh h2 s2 r (by omega) (by omega);by_cases h':r'<0
  ·exact⟨-1,bB hr (dD h (bB hr' (bD h' (Ev.now _)))),by omega,by omega⟩
  ·exact⟨r',bB hr (dD h (bB hr' (dD h' (Ev.now _)))),by omega,fun _=>⟨hr2 (by omega),hr2' (by omega)⟩⟩
theorem Ez {a:Int} {l1:List eu} {l2:List eB} (h1:l1.length≤1048576∧∀x∈l1,(x.f2.length:Int)≤1048576) (h2:l2.length≤1048576∧∀x∈l2,(x.f1.length:Int)≤1048576):
 Ev (fun k=>lY.f k a l1 l2) (a,l1.map mH,l2.map cOut):=by
 unfold lY.f;exact bB (Eo h1.1 h1.2) (bB (Et h2.1 h2.2) (Ev.now _))
theorem BL {l:List eu} (h:l.length≤1048576∧∀x∈l,(x.f2.length:Int)≤1048576):(l.map mH).length≤1048576∧∀x∈l.map mH,(x.f2.length:Int)≤1048576:=by
 refine⟨by simpa using h.1,fun x hx=>?_⟩;obtain⟨y,hy,rfl⟩:=List.mem_map.1 hx;exact h.2 y hy
theorem BM {l:List eB} (h:l.length≤1048576∧∀x∈l,(x.f1.length:Int)≤1048576):(l.map cOut).length≤1048576∧∀x∈l.map cOut,(x.f1.length:Int)≤1048576:=by
 refine⟨by simpa using h.1,fun x hx=>?_⟩;obtain⟨y,hy,rfl⟩:=List.mem_map.1 hx;exact h.2 y hy
def kM (t:fD):aJ:=⟨t.f0,t.f1.map mH,t.f2.map cOut⟩
def qZ (t:fD):Prop:=(t.f1.length≤1048576∧∀x∈t.f1,(x.f2.length:Int)≤1048576)∧(t.f2.length≤1048576∧∀x∈t.f2,(x.f1.length:Int)≤1048576)
def TB (t:aJ):Prop:=(t.f1.length≤1048576∧∀x∈t.f1,(x.f2.length:Int)≤1048576)∧(t.f2.length≤1048576∧∀x∈t.f2,(x.f1.length:Int)≤1048576)
theorem BN {t:fD} (h:qZ t):TB (kM t):=⟨BL h.1,BM h.2⟩
theorem El (suf:List fD):∀(pre:List fD) (q:Int),0≤q→q≤1048576→(∀x∈suf,uM x)→(pre.length:Int)+suf.length≤1048576→
 ∃r,Ev (fun k=>gM.l0 k (pre++suf) q pre.length) r∧r≤q∧(0≤r→∀x∈suf,qZ x):=by
 induction suf with
 |nil=>intro pre q h0 h1 _ _;exact⟨q,bP (fun k=>by rw[gM.l0,if_neg (by simp)]),by omega,by simp⟩
 |cons b suf ih=>
  intro pre q h0 h1 hs hl;simp only[List.length_cons,Int.natCast_add,Int.natCast_one]at hl;have hrd:fB (pre++b::suf) (pre.length:Int)=b:=by unfold fB;simp
  have o:=hs b (by simp);obtain⟨r,hr,hr1,hr2⟩:=Em (a:=b.f0) o.2.1.1 (fun y hy=>(o.2.1.2 y hy).2.2.1) o.2.2.1 (fun y hy=>(o.2.2.2 y hy).2.1) q h0 h1;have hstep:∀k,gM.l0 (k+1) (pre++b::suf) q pre.length=(lM.f k b.f0 b.f1 b.f2 q).bind fun t=>if t<0 then some (-1)else gM.l0 k (pre++b::suf) t ((pre.length:Int)+1):=by
   intro k;rw[gM.l0,if_pos (by simp;omega),if_pos (by omega),hrd,bE (by omega) (by omega)]
  by_cases hneg:r<0
  ·exact⟨-1,Ev.step hstep (bB hr (bD hneg (Ev.now _))),by omega,by omega⟩
  ·obtain⟨r',h',h1',h2'⟩:=ih (pre++[b]) r (by omega) (by omega) (fun x hx=>hs x (by simp[hx])) (by simp;omega);rw[show((pre++[b]).length:Int)=(pre.length:Int)+1 from by simp,show pre++[b]++suf=pre++b::suf from by simp]at h';refine⟨r',Ev.step hstep (bB hr (dD hneg h')),by omega,fun h x hx=>?_⟩;rcases List.mem_cons.1 hx with rfl|hx
   ·exact hr2 (by omega)
   ·exact h2' h x hx
theorem Ec {a b c d:Int} {l:List fD} (hl:l.length≤maxLen) (hs:∀x∈l,uM x) (q:Int) (h0:0≤q) (h1:q≤1048576):
 ∃r,Ev (fun k=>nC.f k a b c d l q) r∧r≤q∧(0≤r→l.length≤1048576∧∀x∈l,qZ x):=by
 unfold maxLen at hl;unfold nC.f gM.f;rw[bE (by omega) (by omega)];by_cases h:q-(l.length:Int)<0
 ·exact⟨-1,bB (a:= -1) (bD h (Ev.now _)) (bD (by omega) (Ev.now _)),by omega,by omega⟩
 ·obtain⟨r,hr,h2,h3⟩:=El l [] (q-(l.length:Int)) (by omega) (by omega) hs (by simp;omega);by_cases hn:r<0
  ·exact⟨-1,bB (dD h (by simpa using hr)) (bD hn (Ev.now _)),by omega,by omega⟩
  ·exact⟨r,bB (dD h (by simpa using hr)) (dD hn (Ev.now _)),by omega,fun hh=>⟨by omega,h3 hh⟩⟩
theorem Ey (suf:List fD):∀(pre:List fD) (z:List aJ),z.length=suf.length→(∀x∈suf,qZ x)→(pre.length:Int)+suf.length≤1048576→
 Ev (fun k=>gN.l0 k (pre++suf) (pre.map kM++z) pre.length) ((pre++suf).map kM):=by
 induction suf with
 |nil=>intro pre z hz _ _;obtain rfl:z=[]:=List.eq_nil_of_length_eq_zero (by simpa using hz);exact bP (fun k=>by rw[gN.l0,if_neg (by simp)];simp)
 |cons b suf ih=>
  intro pre z hz hs hl;obtain⟨c,z,rfl⟩:∃c z',z=c::z':=by cases z with|nil=>simp at hz|cons c z=>exact⟨c,z,rfl⟩
  simp only[List.length_cons,Int.natCast_add,Int.natCast_one]at hl hz;have hrd:fB (pre++b::suf) (pre.length:Int)=b:=by unfold fB;simp
  have h:=ih (pre++[b]) z (by omega) (fun x hx=>hs x (by simp[hx])) (by simp;omega);have hb:=hs b (by simp);refine Ev.step (f:=fun k=>(lY.f k b.f0 b.f1 b.f2).bind fun bt=>gN.l0 k (pre++b::suf) ((pre.map kM++c::z).set pre.length (⟨bt.1,bt.2.1,bt.2.2⟩:aJ)) ((pre.length:Int)+1)) (fun k=>?_) (bB (Ez hb.1 hb.2) ?_)
  ·rw[gN.l0,if_pos (by simp;omega),if_pos (by omega),hrd];refine congrArg _ (funext fun bt=>?_);rw[if_pos (by simp;omega),bE (by omega) (by omega)];simp
  ·have e:(pre.map kM++c::z).set pre.length (kM b)=(pre++[b]).map kM++z:=by
    rw[List.set_append_right _ _ (by simp)];simp
   have e2:(⟨b.f0,b.f1.map mH,b.f2.map cOut⟩:aJ)=kM b:=rfl;simp only[e2,e];simpa using h
theorem En {a b c d:Int} {l:List fD} (hl:l.length≤1048576) (hs:∀x∈l,qZ x):Ev (fun k=>kD.f k a b c d l) (a,b,c,d,l.map kM):=by
 have h:=Ey l [] (List.replicate l.length z53) (by simp) hs (by simp;omega);unfold kD.f gN.f;exact bB (bD (by omega) (bD (by simp;omega) (by simpa using h))) (Ev.now _)
theorem DF (suf:List aJ):∀(pre:List aJ),(∀x∈suf,TB x)→(pre.length:Int)+suf.length≤1048576→
 Ev (fun k=>dY.l0 k (pre++suf) (pre++suf) pre.length) true:=by
 induction suf with
 |nil=>intro pre _ _;exact bP (fun k=>by rw[dY.l0,if_neg (by simp)])
 |cons b suf ih=>
  intro pre hs hl;simp only[List.length_cons,Int.natCast_add,Int.natCast_one]at hl;have hrd:aI (pre++b::suf) (pre.length:Int)=b:=by unfold aI;simp
  have h:=ih (pre++[b]) (fun x hx=>hs x (by simp[hx])) (by simp;omega);have hb:=hs b (by simp);refine Ev.step (f:=fun k=>(lK.f k b.f0 b.f1 b.f2 b.f0 b.f1 b.f2).bind fun t=>if t=true then dY.l0 k (pre++b::suf) (pre++b::suf) ((pre.length:Int)+1)else some false) (fun k=>?_) (bB (DI hb.1 hb.2) (bD rfl ?_))
  ·rw[dY.l0,if_pos (by simp;omega),if_pos (by omega),if_pos (by simp;omega),hrd,bE (by omega) (by omega)]
  ·simpa using h
theorem yQ {a b c d:Int} {l:List aJ} (hl:l.length≤1048576) (hs:∀x∈l,TB x):Ev (fun k=>kP.f k a b c d l a b c d l) true:=by
 unfold kP.f dY.f;exact bD rfl (bD rfl (bD rfl (bD rfl (bB (bD rfl (by simpa using DF l [] hs (by simp;omega))) (bD rfl (Ev.now _))))))
theorem EG {l:List fD} (hl:l.length≤1048576) (hs:∀x∈l,qZ x):(l.map kM).length≤1048576∧∀x∈l.map kM,TB x:=by
 refine⟨by simpa using hl,fun x hx=>?_⟩;obtain⟨y,hy,rfl⟩:=List.mem_map.1 hx;exact BN (hs y hy)
def iw (l:List Int) (lo hi:Int):Prop:=∀x∈l,lo≤x∧x≤hi
instance (l:List Int) (lo hi:Int):Decidable (iw l lo hi):=by unfold iw;infer_instance
theorem tT {b:Int} {l:List Int} {lo hi:Int}:iw (b::l) lo hi↔(lo≤b∧b≤hi)∧iw l lo hi:=by simp[iw]
theorem mX (a b c:Int):bW.f a b c=some (decide (b≤a∧a≤c)):=by
 unfold bW.f;by_cases h:a≥b
 ·rw[if_pos h];congr 1;rw[Bool.eq_iff_iff];simp;omega
 ·rw[if_neg h];congr 1;symm;simp;omega
theorem lU (a b c:Int):bQ.f a b c=some (decide (b≤a∧a≤c)):=by
 unfold bQ.f;by_cases h:a≥b
 ·rw[if_pos h];congr 1;rw[Bool.eq_iff_iff];simp;omega
 ·rw[if_neg h];congr 1;symm;simp;omega
theorem FV (lo hi:Int) (suf:List Int):∀(pre:List Int),(pre.length:Int)+suf.length≤9223372036854775806→
 Ev (fun k=>eP.l0 k (pre++suf) lo hi pre.length) (decide (iw suf lo hi)):=by
 induction suf with
 |nil=>intro pre _;exact bP (fun k=>by rw[eP.l0,if_neg (by simp)];simp[iw])
 |cons b suf ih=>
  intro pre hl;simp only[List.length_cons,Int.natCast_add,Int.natCast_one]at hl;have h:=ih (pre++[b]) (by simp;omega);by_cases hb:lo≤b∧b≤hi
  ·(have e:decide (iw (b::suf) lo hi)=decide (iw suf lo hi):=by simp[tT,hb]);rw[e];refine Ev.step (fun k=>?_) h;rw[eP.l0,if_pos (by simp;omega),if_pos (by omega),iK,mX,bE (by omega) (by omega)];simp[hb]
  ·(have e:decide (iw (b::suf) lo hi)=false:=by simp[tT,hb]);rw[e];refine bP (fun k=>?_);rw[eP.l0,if_pos (by simp;omega),if_pos (by omega),iK,mX];simp[hb]
theorem FU {l:List Int} (lo hi:Int) (hl:(l.length:Int)≤9223372036854775806):Ev (fun k=>eP.f k l lo hi) (decide (iw l lo hi)):=by
 unfold eP.f;exact FV lo hi l [] (by simpa using hl)
theorem wQ (a:Int):nI.f a=some (decide (0≤a∧a≤1000000)):=by
 unfold nI.f;rw[mX];rfl
theorem vY (a:Int):lV.f a=some (decide (0≤a∧a≤1000000)):=by
 unfold lV.f;rw[lU];rfl
theorem FN (p:Int→Bool) (hp:∀x,oD.f x=some (p x)) (suf:List Int):∀(pre:List Int),(pre.length:Int)+suf.length≤9223372036854775806→
 ∃r:Int,Ev (fun k=>gY.l0 k (pre++suf) ((pre++suf).length:Int) pre.length) r∧decide (r≥0)=suf.any p:=by
 induction suf with
 |nil=>intro pre _;exact⟨-1,bP (fun k=>by rw[gY.l0,if_neg (by simp)]),by simp⟩
 |cons b suf ih=>
  intro pre hl;simp only[List.length_cons,Int.natCast_add,Int.natCast_one]at hl;cases hb:p b with
  |true=>refine⟨pre.length,bP (fun k=>?_),by simp[hb]⟩;rw[gY.l0,if_pos (by simp;omega),if_pos (by omega),if_pos (by simp;omega),iK,hp,hb];rfl
  |false=>obtain⟨r,h,hr⟩:=ih (pre++[b]) (by simp;omega);refine⟨r,Ev.step (fun k=>?_) h,by simp[hb,hr]⟩;rw[gY.l0,if_pos (by simp;omega),if_pos (by omega),if_pos (by simp;omega),iK,hp,hb,bE (by omega) (by omega)];simp
theorem FJ (p:Int→Bool) (hp:∀x,oD.f x=some (p x)) {l:List Int} (hl:(l.length:Int)≤9223372036854775806):
 Ev (fun k=>mh.f k l) (l.any p):=by
 obtain⟨r,h,hr⟩:=FN p hp l [] (by simpa using hl);rw[←hr];unfold mh.f gY.f;exact bB (by simpa using h) (Ev.now _)
def lN (x:Int):Bool:= !(decide (1≤x∧x≤9)||decide (100≤x∧x≤1099))
def ny (l:List Int):Int:=if l.length>12 then 2 else if l.any lN then 1 else 0
theorem zN (x:Int):qN.f x=some (!lN x):=by
 unfold qN.f lN;simp only[mX,Option.bind_some];by_cases h:1≤x∧x≤9<;>simp[h]
theorem Cn (x:Int):oD.f x=some (lN x):=by
 unfold oD.f lN;simp only[lU,Option.bind_some];by_cases h:1≤x∧x≤9<;>simp[h]
theorem Gc (suf:List Int):∀(pre:List Int),(pre.length:Int)+suf.length≤9223372036854775806→
 Ev (fun k=>fG.l0 k (pre++suf) pre.length) (if suf.any lN then 1 else 0):=by
 induction suf with
 |nil=>intro pre _;exact bP (fun k=>by rw[fG.l0,if_neg (by simp)];simp)
 |cons b suf ih=>
  intro pre hl;simp only[List.length_cons,Int.natCast_add,Int.natCast_one]at hl;cases hb:lN b with
  |true=>refine bP (fun k=>?_);rw[fG.l0,if_pos (by simp;omega),if_pos (by omega),iK,zN,hb];simp[hb]
  |false=>have h:=ih (pre++[b]) (by simp;omega);(have e:(b::suf).any lN=suf.any lN:=by simp[hb]);rw[e];refine Ev.step (fun k=>?_) h;rw[fG.l0,if_pos (by simp;omega),if_pos (by omega),iK,zN,hb,bE (by omega) (by omega)];simp
theorem Gb {l:List Int} (hl:(l.length:Int)≤9223372036854775806):Ev (fun k=>fG.f k l) (ny l):=by
 unfold fG.f ny;by_cases h:l.length>12
 ·rw[if_pos h];exact bD (by omega) (Ev.now _)
 ·rw[if_neg h];exact dD (by omega) (Gc l [] (by simpa using hl))
theorem Co {l:List Int} (hl:(l.length:Int)≤9223372036854775806):Ev (fun k=>jU.f k l) (ny l):=by
 unfold jU.f ny;by_cases h:l.length>12
 ·rw[if_pos h];exact bD (by omega) (Ev.now _)
 ·rw[if_neg h];refine dD (by omega) (bB (FJ lN Cn hl) ?_);cases l.any lN with
  |true=>exact bD rfl (Ev.now _)
  |false=>exact dD (by decide) (Ev.now _)
theorem FP (p:Int→Bool) (hp:∀x,oF.f x=some (p x)) (suf:List Int):∀(pre:List Int),(pre.length:Int)+suf.length≤9223372036854775806→
 ∃r:Int,Ev (fun k=>gZ.l0 k (pre++suf) ((pre++suf).length:Int) pre.length) r∧decide (r≥0)=suf.any p:=by
 induction suf with
 |nil=>intro pre _;exact⟨-1,bP (fun k=>by rw[gZ.l0,if_neg (by simp)]),by simp⟩
 |cons b suf ih=>
  intro pre hl;simp only[List.length_cons,Int.natCast_add,Int.natCast_one]at hl;cases hb:p b with
  |true=>refine⟨pre.length,bP (fun k=>?_),by simp[hb]⟩;rw[gZ.l0,if_pos (by simp;omega),if_pos (by omega),if_pos (by simp;omega),iK,hp,hb];rfl
  |false=>obtain⟨r,h,hr⟩:=ih (pre++[b]) (by simp;omega);refine⟨r,Ev.step (fun k=>?_) h,by simp[hb,hr]⟩;rw[gZ.l0,if_pos (by simp;omega),if_pos (by omega),if_pos (by simp;omega),iK,hp,hb,bE (by omega) (by omega)];simp
theorem FL (p:Int→Bool) (hp:∀x,oF.f x=some (p x)) {l:List Int} (hl:(l.length:Int)≤9223372036854775806):
 Ev (fun k=>kR.f k l) (l.any p):=by
 obtain⟨r,h,hr⟩:=FP p hp l [] (by simpa using hl);rw[←hr];unfold kR.f gZ.f;exact bB (by simpa using h) (Ev.now _)
theorem vZ (a:Int):jV.f a=some (decide (0≤a∧a≤2147483646)):=by
 unfold jV.f;rw[lU];rfl
def pV (x:aM):Bool:= !(decide (0≤x.f0∧x.f0≤2147483646)&&decide (0≤x.f1∧x.f1≤3))
def kF (x y:aM):Bool:=decide (x.f0=y.f0)&&(x.f1==y.f1)
def nA (ahead:List aM) (x:aM):Int:=if pV x=true then 3 else if(x.f2.length:Int)>8 then 2 else if decide (iw x.f2 0 9999)=true then(if ahead.any (kF x)=true then 6 else 0)else 3
def oH:List aM→List aM→Int→Int
 |_,[],e=>e
 |p,x::xs,e=>if nA p x=0 then oH (p++[x]) xs e else nA p x
def mV:Int→List aT→Int
 |a,[]=>a
 |a,x::xs=>mV (wrap64 (a+x.f0)) xs
def rG (a:Int):Int:=if 0≤a∧a≤1000000 then 0 else 7
def nG:List aT→Int→Int
 |[],e=>e
 |y::ys,e=>if 0≤y.f0∧y.f0≤1000000 then(if ny y.f1=0 then nG ys e else ny y.f1)else 3
def kG (t:aJ):Int:=if 0≤t.f0∧t.f0≤65535 then(if(t.f1.length:Int)>4∨(t.f2.length:Int)<1∨(t.f2.length:Int)>4 then 2 else oH [] t.f1 (nG t.f2 (rG (mV 0 t.f2))))else 3
theorem nZ (pre:List aM) (b:aM) (suf:List aM):aD (pre++b::suf) (pre.length:Int)=b:=by unfold aD;simp
theorem qL (pre:List aT) (b:aT) (suf:List aT):aX (pre++b::suf) (pre.length:Int)=b:=by unfold aX;simp
theorem Gl (x:aM) (suf:List aM) (p2:List aM):∀(p1:List aM),(p1.length:Int)+p2.length+suf.length≤1048576→
 Ev (fun k=>cZ.l0 k (p1++(p2++x::suf)) ((p1.length:Int)+p2.length) p1.length) (if p2.any (kF x)=true then 6 else 0):=by
 induction p2 with
 |nil=>intro p1 _;exact bP (fun k=>by rw[cZ.l0,if_neg (by simp)];simp)
 |cons b p2 ih=>
  intro p1 hl;simp only[List.length_cons,Int.natCast_add,Int.natCast_one]at hl ⊢;have h:=ih (p1++[b]) (by simp;omega);have e1:aD (p1++(b::p2++x::suf)) (p1.length:Int)=b:=nZ p1 b _;have e2:aD (p1++(b::p2++x::suf)) ((p1.length:Int)+(p2.length+1))=x:=by
   have:=nZ (p1++b::p2) x suf;simpa using this
  have hstep:∀k,cZ.l0 (k+1) (p1++(b::p2++x::suf)) ((p1.length:Int)+(p2.length+1)) p1.length=(if b.f0=x.f0 then(if b.f1=x.f1 then some 6 else cZ.l0 k (p1++(b::p2++x::suf)) ((p1.length:Int)+(p2.length+1)) ((p1.length:Int)+1))else cZ.l0 k (p1++(b::p2++x::suf)) ((p1.length:Int)+(p2.length+1)) ((p1.length:Int)+1)):=by
   intro k;rw[cZ.l0,if_pos (by omega),if_pos (by omega),if_pos (by simp;omega),if_pos (by omega),if_pos (by simp;omega),e1,e2,bE (by omega) (by omega)]
  have h':Ev (fun k=>cZ.l0 k (p1++(b::p2++x::suf)) ((p1.length:Int)+(p2.length+1)) ((p1.length:Int)+1)) (if p2.any (kF x)=true then 6 else 0):=by
   (have q:((p1++[b]).length:Int)=(p1.length:Int)+1:=by simp);rw[q]at h;(have q2:(p1.length:Int)+1+(p2.length:Int)=(p1.length:Int)+((p2.length:Int)+1):=by omega);rw[q2]at h;simpa using h
  by_cases h0:b.f0=x.f0
  ·by_cases h1:b.f1=x.f1
   ·refine bP (fun k=>?_);rw[hstep,if_pos h0,if_pos h1];simp[kF,h0,h1]
   ·refine Ev.step (fun k=>by rw[hstep,if_pos h0,if_neg h1]) ?_;(have e:(b::p2).any (kF x)=p2.any (kF x):=by simp[kF,h0,Ne.symm h1]);rw[e];exact h'
  ·refine Ev.step (fun k=>by rw[hstep,if_neg h0]) ?_;(have e:(b::p2).any (kF x)=p2.any (kF x):=by simp[kF,Ne.symm h0]);rw[e];exact h'
theorem Gj (pre:List aM) (x:aM) (suf:List aM) (hx:(x.f2.length:Int)≤1048576) (hl:(pre.length:Int)+suf.length+1≤1048576):
 Ev (fun k=>cZ.f k (pre++x::suf) pre.length) (nA pre x):=by
 unfold cZ.f;refine bD (by omega) (bD (by simp;omega) ?_);refine Ev.congr (f:=fun k=>cZ.j0 k (pre++x::suf) pre.length (pV x)) (fun k=>?_) ?_
 ·rw[nZ,mX,mX];simp only[Option.bind_some,pV];cases decide (0≤x.f0∧x.f0≤2147483646)<;>cases decide (0≤x.f1∧x.f1≤3)<;>simp
 ·unfold nA;cases hb:pV x with
  |true=>exact bP (fun k=>by rw[cZ.j0];simp)
  |false=>
   rw[if_neg (by decide)];refine Ev.step (f:=fun k=>if(x.f2.length:Int)>8 then some 2 else(eP.f k x.f2 0 9999).bind fun t=>if t=true then cZ.l0 k (pre++x::suf) pre.length 0 else some 3) (fun k=>?_) ?_
   ·rw[cZ.j0,if_neg (by decide),if_pos (by omega),if_pos (by simp;omega),nZ]
   ·by_cases h8:(x.f2.length:Int)>8
    ·rw[if_pos h8];exact bD h8 (Ev.now _)
    ·rw[if_neg h8];refine dD h8 (bB (FU 0 9999 (by omega)) ?_);by_cases ha:decide (iw x.f2 0 9999)=true
     ·rw[if_pos ha];refine bD ha ?_;have:=Gl x suf pre [] (by simp;omega);simpa using this
     ·rw[if_neg ha];exact dD ha (Ev.now _)
theorem Gn (suf:List aT):∀(pre:List aT) (a:Int),(∀x∈suf,(x.f1.length:Int)≤1048576)→(pre.length:Int)+suf.length≤1048576→
 Ev (fun k=>fH.l0 k (pre++suf) a pre.length) (nG suf (rG (mV a suf))):=by
 induction suf with
 |nil=>intro pre a _ _;simp only[nG,mV,rG];refine bP (fun k=>?_);rw[fH.l0,if_neg (by simp),wQ];simp only[Option.bind_some,decide_eq_true_eq];by_cases hh:0≤a∧a≤1000000<;>simp[hh]
 |cons b suf ih=>
  intro pre a hs hl;simp only[List.length_cons,Int.natCast_add,Int.natCast_one]at hl;have h:=ih (pre++[b]) (wrap64 (a+b.f0)) (fun x hx=>hs x (by simp[hx])) (by simp;omega);rw[show((pre++[b]).length:Int)=(pre.length:Int)+1 from by simp,show pre++[b]++suf=pre++b::suf from by simp]at h;simp only[nG,mV];by_cases hb:0≤b.f0∧b.f0≤1000000
  ·rw[if_pos hb];refine Ev.step (f:=fun k=>(fG.f k b.f1).bind fun t=>if t=0 then fH.l0 k (pre++b::suf) (wrap64 (a+b.f0)) ((pre.length:Int)+1)else some t) (fun k=>?_) (bB (Gb (by have:=hs b (by simp);omega)) ?_)
   ·rw[fH.l0,if_pos (by simp;omega),if_pos (by omega),qL,wQ,bE (x:=(pre.length:Int)+1) (by omega) (by omega)];simp[hb]
   ·by_cases hf:ny b.f1=0
    ·rw[if_pos hf];exact bD hf h
    ·rw[if_neg hf];exact dD hf (Ev.now _)
  ·rw[if_neg hb];refine bP (fun k=>?_);rw[fH.l0,if_pos (by simp;omega),if_pos (by omega),qL,wQ];simp[hb]
theorem Gi (t:aJ) (e:Int) (he:Ev (fun k=>fH.f k t.f2) e) (suf:List aM):∀(pre:List aM),t.f1=pre++suf→(∀x∈suf,(x.f2.length:Int)≤1048576)→(pre.length:Int)+suf.length≤1048576→
 Ev (fun k=>dG.l0 k [t] pre.length) (oH pre suf e):=by
 have hrd:aI [t] 0=t:=rfl
 induction suf with
 |nil=>intro pre ht _ _;refine Ev.step (f:=fun k=>(fH.f k t.f2).bind fun t9=>some t9) (fun k=>?_) (bB he (Ev.now _));rw[dG.l0,if_pos (by simp),hrd,if_neg (by rw[ht];simp)]
 |cons b suf ih=>
  intro pre ht hs hl;simp only[List.length_cons,Int.natCast_add,Int.natCast_one]at hl;have h:=ih (pre++[b]) (by rw[ht];simp) (fun x hx=>hs x (by simp[hx])) (by simp;omega);rw[show((pre++[b]).length:Int)=(pre.length:Int)+1 from by simp]at h;refine Ev.step (f:=fun k=>(cZ.f k (pre++b::suf) pre.length).bind fun t7=>if t7=0 then dG.l0 k [t] ((pre.length:Int)+1)else some t7) (fun k=>?_) (bB (Gj pre b suf (hs b (by simp)) (by omega)) ?_)
  ·rw[dG.l0,if_pos (by simp),hrd,if_pos (by rw[ht];simp;omega),ht,bE (x:=(pre.length:Int)+1) (by omega) (by omega)]
  ·unfold oH;by_cases hf:nA pre b=0
   ·rw[if_pos hf];exact bD hf h
   ·rw[if_neg hf];exact dD hf (Ev.now _)
theorem Gh {t:aJ} (h1:t.f1.length≤1048576∧∀x∈t.f1,(x.f2.length:Int)≤1048576) (h2:t.f2.length≤1048576∧∀x∈t.f2,(x.f1.length:Int)≤1048576):Ev (fun k=>kS.f k t.f0 t.f1 t.f2) (kG t):=by
 unfold kS.f dG.f kG;have hrd:aI [t] 0=t:=rfl;have ht:(⟨t.f0,t.f1,t.f2⟩:aJ)=t:=rfl;rw[ht];refine bD (by simp) ?_;rw[hrd];refine jv (mX _ _ _) ?_;by_cases hn:0≤t.f0∧t.f0≤65535
 ·rw[if_pos hn];refine bD (by simpa using hn) ?_;have go:Ev (fun k=>dG.l0 k [t] 0) (oH [] t.f1 (nG t.f2 (rG (mV 0 t.f2)))):=by
   have:=Gi t _ (by unfold fH.f;exact Gn t.f2 [] 0 h2.2 (by simp;omega)) t.f1 [] (by simp) h1.2 (by simp;omega);simpa using this
  have bad:Ev (fun k=>dG.j0 k [t] true) 2:=bP (fun k=>by rw[dG.j0];simp);by_cases c1:(t.f1.length:Int)>4
  ·rw[if_pos (.inl c1)];exact bD c1 bad
  ·refine dD c1 ?_;by_cases c2:(t.f2.length:Int)<1
   ·rw[if_pos (.inr (.inl c2))];exact bD c2 bad
   ·refine dD c2 ?_;by_cases c3:(t.f2.length:Int)>4
    ·rw[if_pos (.inr (.inr c3)),decide_eq_true c3];exact bad
    ·rw[if_neg (by omega),decide_eq_false c3];exact Ev.step (fun k=>by rw[dG.j0,if_neg (by decide)]) go
 ·rw[if_neg hn];exact dD (by simpa using hn) (Ev.now _)
def dU (n:Int):List Int:=if n<253 then[n%256]else[253,n%256,n / 256%256]
theorem iV (n:Int):(dU n).length≤3:=by unfold dU;split<;>simp
def mZ (a b:Int):Int:=(33*a+b+1)%2147483647
def ni (l:List Int):Int:=l.foldl mZ 5381
def Bytes (l:List Int):Prop:=∀x∈l,0≤x∧x≤255
theorem sI (a b:Int):0≤mZ a b∧mZ a b<2147483647:=by unfold mZ;omega
theorem GJ (l:List Int):∀a:Int,0≤a→a<2147483647→0≤l.foldl mZ a∧l.foldl mZ a<2147483647:=by
 induction l with
 |nil=>intro a h0 h1;exact⟨h0,h1⟩
 |cons b l ih=>intro a _ _;exact ih _ (sI a b).1 (sI a b).2
theorem zZ (l:List Int):0≤ni l∧ni l≤2147483646:=by
 have:=GJ l 5381 (by omega) (by omega);unfold ni;omega
theorem zY {a b:Int} (h0:0≤a) (h1:a<2147483647) (hb:0≤b∧b≤255):
 Int.tmod (wrap64 ((wrap64 ((wrap64 (a*33))+(wrap64 b)))+1)) 2147483647=mZ a b:=by
 rw[bE (x:=a*33) (by omega) (by omega),bE (x:=b) (by omega) (by omega),bE (x:=a*33+b) (by omega) (by omega),bE (x:=a*33+b+1) (by omega) (by omega),Int.tmod_eq_emod_of_nonneg (by omega)];unfold mZ;rw[Int.mul_comm a 33]
def iZ (n:Int):List Int:=dU (n%65536)++dU (n / 65536)
def kQ (l:List Int):List Int:=dU l.length++(l.map dU).flatten
def lF (p:Bool) (x:aM):List Int:=iZ x.f0++(dU x.f1++(if p=true then kQ x.f2 else[0]))
def nE (y:aT):List Int:=iZ y.f0++kQ y.f1
def jW (p:Bool) (t:aJ):List Int:=dU t.f0++(dU t.f1.length++((t.f1.map (lF p)).flatten++(dU t.f2.length++(t.f2.map nE).flatten)))
def oL (x:aM):Prop:=(0≤x.f0∧x.f0≤2147483646)∧(0≤x.f1∧x.f1≤3)∧x.f2.length≤8∧iw x.f2 0 9999
def qz (y:aT):Prop:=(0≤y.f0∧y.f0≤1000000)∧y.f1.length≤12∧iw y.f1 0 9999
def lg (t:aJ):Prop:=(0≤t.f0∧t.f0≤65535)∧t.f1.length≤4∧(1≤t.f2.length∧t.f2.length≤4)∧(∀x∈t.f1,oL x)∧∀y∈t.f2,qz y
theorem Dh {p:List aM} {x:aM} (h:nA p x=0):oL x:=by
 unfold nA at h;split at h
 ·omega
 ·rename_i h0;split at h
  ·omega
  ·split at h
   ·rename_i h8 ha;refine⟨?_,?_,by omega,of_decide_eq_true ha⟩<;>(unfold pV at h0;simp at h0;omega)
   ·omega
theorem Dk (s:List aM):∀(p:List aM) (e:Int),oH p s e=0→(∀x∈s,oL x)∧e=0:=by
 induction s with
 |nil=>intro p e h;exact⟨by simp,h⟩
 |cons x s ih=>
  intro p e h;unfold oH at h;by_cases hx:nA p x=0
  ·rw[if_pos hx]at h;obtain⟨h1,h2⟩:=ih _ _ h;refine⟨fun y hy=>?_,h2⟩;rcases List.mem_cons.1 hy with rfl|hy
   ·exact Dh hx
   ·exact h1 y hy
  ·rw[if_neg hx]at h;exact absurd h hx
theorem BX {l:List Int} (h:ny l=0):l.length≤12∧iw l 0 9999:=by
 unfold ny at h;split at h
 ·omega
 ·rename_i h12;split at h
  ·omega
  ·rename_i hb;refine⟨by omega,fun x hx=>?_⟩;have:lN x=false:=by
    cases ho:lN x with
    |false=>rfl
    |true=>exact absurd (List.any_eq_true.2 ⟨x,hx,ho⟩) hb
   unfold lN at this;simp at this;omega
theorem EU (s:List aT):∀(e:Int),nG s e=0→∀y∈s,qz y:=by
 induction s with
 |nil=>intro e _;simp
 |cons x s ih=>
  intro e h y hy;unfold nG at h;split at h
  ·rename_i hx;by_cases hf:ny x.f1=0
   ·rw[if_pos hf]at h;rcases List.mem_cons.1 hy with rfl|hy
    ·exact⟨hx,BX hf⟩
    ·exact ih e h y hy
   ·rw[if_neg hf]at h;exact absurd h hf
  ·omega
theorem wS {t:aJ} (h:kG t=0):lg t:=by
 unfold kG at h;split at h
 ·rename_i hn;split at h
  ·omega
  ·rename_i hc;obtain⟨h1,h2⟩:=Dk _ _ _ h;exact⟨hn,by omega,by omega,h1,EU _ _ h2⟩
 ·omega
theorem qo (n:Int):Bytes (dU n):=by
 unfold dU;split<;>(intro x hx;simp at hx;rcases hx with rfl|rfl|rfl)<;>omega
theorem ow {a b:List Int} (ha:Bytes a) (hb:Bytes b):Bytes (a++b):=by
 intro x hx;rcases List.mem_append.1 hx with h|h
 ·exact ha x h
 ·exact hb x h
theorem vv {α:Type} {f:α→List Int} {l:List α} (h:∀x∈l,Bytes (f x)):Bytes (l.map f).flatten:=by
 intro x hx;obtain⟨y,hy,hx⟩:=List.mem_flatten.1 hx;obtain⟨z,hz,rfl⟩:=List.mem_map.1 hy;exact h z hz x hx
theorem rH {α:Type} {f:α→List Int} {n:Nat}:∀{l:List α},(∀x∈l,(f x).length≤n)→(l.map f).flatten.length≤n*l.length
 |[],_=>by simp
 |x::l,h=>by
  have h1:=h x (by simp)
  have h2:=rH (f:=f) (n:=n) (l:=l) (fun y hy=>h y (by simp[hy]))
  simp only[List.map_cons,List.flatten_cons,List.length_append,List.length_cons,Nat.mul_add,Nat.mul_one]
  omega
theorem rZ {l:List Int} {n:Nat} (h:l.length≤n):(kQ l).length≤3+3*n:=by
 unfold kQ;have h1:=iV l.length;have h2:=rH (f:=dU) (n:=3) (l:=l) (fun x _=>iV x);simp only[List.length_append];omega
theorem rz (n:Int):(iZ n).length≤6:=by
 unfold iZ;have h1:=iV (n%65536);have h2:=iV (n / 65536);simp only[List.length_append];omega
theorem yJ {p:Bool} {x:aM} (h:oL x):(lF p x).length≤36:=by
 unfold lF;have h1:=rz x.f0;have h2:=iV x.f1;have h3:=rZ h.2.2.1;cases p<;>simp<;>omega
theorem zw {y:aT} (h:qz y):(nE y).length≤45:=by
 unfold nE;have h1:=rz y.f0;have h3:=rZ h.2.1;simp only[List.length_append];omega
theorem xW (n:Int):Bytes (iZ n):=ow (qo _) (qo _)
theorem za (l:List Int):Bytes (kQ l):=ow (qo _) (vv (fun x _=>qo x))
theorem zA (p:Bool) (t:aJ):Bytes (jW p t):=by
 unfold jW;refine ow (qo _) (ow (qo _) (ow (vv (fun x _=>?_)) (ow (qo _) (vv (fun y _=>?_)))))
 ·unfold lF;refine ow (xW _) (ow (qo _) ?_);cases p
  ·intro x hx;simp at hx;omega
  ·exact za _
 ·exact ow (xW _) (za _)
theorem FY (suf:List Int):∀(pre:List Int) (a:Int),0≤a→a<2147483647→Bytes suf→(pre.length:Int)+suf.length≤9223372036854775806→
 Ev (fun k=>gy.l0 k (pre++suf) a pre.length) (suf.foldl mZ a):=by
 induction suf with
 |nil=>intro pre a _ _ _ _;exact bP (fun k=>by simp[gy.l0])
 |cons b suf ih=>intro pre a h0 h1 hb hl;have hb0:=hb b List.mem_cons_self;simp only[List.length_cons,Int.natCast_add,Int.natCast_one]at hl;have h:=ih (pre++[b]) (mZ a b) (sI a b).1 (sI a b).2 (fun x hx=>hb x (List.mem_cons_of_mem _ hx)) (by simp;omega);refine Ev.step (fun k=>?_) h;rw[gy.l0];rw[if_pos (by simp;omega),if_pos (by omega),iK,zY h0 h1 hb0,bE (by omega) (by omega)];simp
theorem zM {l:List Int} (hb:Bytes l) (hl:(l.length:Int)≤9223372036854775806):Ev (fun k=>gy.f k l) (ni l):=
 FY l [] 5381 (by omega) (by omega) hb (by simpa using hl)
theorem CW (suf:List Int):∀(pre:List Int) (a:Int),0≤a→a<2147483647→Bytes suf→(pre.length:Int)+suf.length≤9223372036854775806→
 Ev (fun k=>fM.l0 k a (pre++suf) ((pre++suf).length:Int) pre.length) (suf.foldl mZ a):=by
 induction suf with
 |nil=>intro pre a _ _ _ _;exact bP (fun k=>by simp[fM.l0])
 |cons b suf ih=>intro pre a h0 h1 hb hl;have hb0:=hb b List.mem_cons_self;simp only[List.length_cons,Int.natCast_add,Int.natCast_one]at hl;have h:=ih (pre++[b]) (mZ a b) (sI a b).1 (sI a b).2 (fun x hx=>hb x (List.mem_cons_of_mem _ hx)) (by simp;omega);refine Ev.step (fun k=>?_) h;rw[fM.l0];rw[if_pos (by simp;omega),if_pos (by omega),if_pos (by simp;omega),iK,Int.mul_comm 33 a,zY h0 h1 hb0,bE (by omega) (by omega)];simp
theorem yH {l:List Int} (hb:Bytes l) (hl:(l.length:Int)≤9223372036854775806):Ev (fun k=>fM.f k l) (ni l):=
 CW l [] 5381 (by omega) (by omega) hb (by simpa using hl)
def lT (n:Int):List Int:=[n / 16777216%256,n / 65536%256,n / 256%256,n%256]
theorem xS (n:Int):Bytes (lT n):=by
 intro x hx;simp only[lT,List.mem_cons,List.not_mem_nil,or_false]at hx;rcases hx with rfl|rfl|rfl|rfl<;>omega
theorem Bytes.app {a b:List Int} (ha:Bytes a) (hb:Bytes b):Bytes (a++b):=by
 intro x hx;rcases List.mem_append.1 hx with h|h
 ·exact ha x h
 ·exact hb x h
def nk (l:List Int):Int:=ni (l.flatMap lT)
theorem Jf (l:List Int):0≤nk l∧nk l≤2147483646:=zZ _
theorem FX (suf:List Int):∀(pre acc:List Int),Bytes acc→(acc.length:Int)+4*suf.length<140737488355328→(pre.length:Int)+suf.length≤9223372036854775806→
 Ev (fun k=>eX.l0 k (pre++suf) acc pre.length) (ni (acc++suf.flatMap lT)):=by
 induction suf with
 |nil=>intro pre acc hb hl _;simp only[List.append_nil,List.flatMap_nil];refine Ev.step (f:=fun k=>(gy.f k acc).bind fun t=>some t) (fun k=>by rw[eX.l0];rw[if_neg (by omega)]) ?_;exact bB (zM hb (by simp at hl;omega)) (Ev.now _)
 |cons b suf ih=>intro pre acc hb hl hp;simp only[List.length_cons,Int.natCast_add,Int.natCast_one]at hl hp;have h:=ih (pre++[b]) (acc++lT b) (hb.app (xS b)) (by simp[lT];omega) (by simp;omega);refine Ev.step (fun k=>?_) (by simpa using h);rw[eX.l0];rw[if_pos (by simp;omega),if_pos (by omega),iK];simp only[tO.f,Option.bind_some];rw[if_pos (by simp;omega),bE (by omega) (by omega)];simp[lT]
theorem zL {l:List Int} (hl:l.length≤1000):Ev (fun k=>eX.f k l) (nk l):=
 FX l [] [] (by intro x hx;cases hx) (by simp;omega) (by simp;omega)
theorem CG (a:Int):Ev (fun k=>gU.f k a 4) (lT a):=by
 refine Ev.of (gU.mono a 4) (k:=5) ?_;have w3:wrap64 (3)=3:=bE (by omega) (by omega);have w2:wrap64 (2)=2:=bE (by omega) (by omega);have w1:wrap64 (1)=1:=bE (by omega) (by omega);have w0:wrap64 (0)=0:=bE (by omega) (by omega);have wm:wrap64 (-1)= -1:=bE (by omega) (by omega);have d1:a / 256 / 256=a / 65536:=by omega
 have d2:a / 65536 / 256=a / 16777216:=by omega
 simp[gU.f,gU.l0,w3,w2,w1,w0,wm,lT,List.replicate,d1,d2]
theorem CV (suf:List Int):∀(pre acc:List Int),Bytes acc→(acc.length:Int)+4*suf.length<140737488355328→(pre.length:Int)+suf.length≤9223372036854775806→
 Ev (fun k=>dX.l0 k acc (pre++suf) ((pre++suf).length:Int) pre.length) (ni (acc++suf.flatMap lT)):=by
 induction suf with
 |nil=>intro pre acc hb hl _;simp only[List.append_nil,List.flatMap_nil];refine Ev.step (f:=fun k=>(fM.f k acc).bind fun t=>some t) (fun k=>by rw[dX.l0];rw[if_neg (by omega)]) ?_;exact bB (yH hb (by simp at hl;omega)) (Ev.now _)
 |cons b suf ih=>
  intro pre acc hb hl hp;simp only[List.length_cons,Int.natCast_add,Int.natCast_one]at hl hp;have h:=ih (pre++[b]) (acc++lT b) (hb.app (xS b)) (by simp[lT];omega) (by simp;omega);refine Ev.step (f:=fun k=>(gU.f k b 4).bind fun t=>if acc.length+t.length<140737488355328 then dX.l0 k (acc++t) (pre++b::suf) ((pre++b::suf).length:Int) ((pre.length:Int)+1)else none) (fun k=>?_) ?_
  ·rw[dX.l0];rw[if_pos (by simp;omega),if_pos (by omega),if_pos (by simp;omega),iK,bE (by omega) (by omega)]
  ·refine bB (CG b) (bD (by simp[lT];omega) ?_);simpa using h
theorem wh {l:List Int} (hl:l.length≤1000):Ev (fun k=>dX.f k l) (nk l):=
 CV l [] [] (by intro x hx;cases hx) (by simp;omega) (by simp;omega)
def pY (l:List Int) (i:Nat):Int:=if i%2=1 then l.getD (i-1) 0 else if i+1<l.length then l.getD (i+1) 0 else l.getD i 0
def jq:List Int→List Int
 |[]=>[]
 |[a]=>[nk [a,a]]
 |a::b::t=>nk [a,b]::jq t
theorem sQ:∀l:List Int,(jq l).length=(l.length+1) / 2
 |[]=>by simp[jq]
 |[_]=>by simp[jq]
 |_::_::t=>by simp only[jq,List.length_cons,sQ t];omega
def nH:Nat→List Int→Int
 |0,l=>l.getD 0 0
 |n+1,l=>if l.length>1 then nH n (jq l)else l.getD 0 0
theorem og (l:List Int) (i:Nat):rd l (i:Int)=l.getD i 0:=by unfold rd;simp
theorem Ij (pre suf:List Int) (i:Nat):(pre++suf).getD (pre.length+i) 0=suf.getD i 0:=by
 simp[List.getD_eq_getElem?_getD,List.getElem?_append_right]
theorem zf (pre:List Int) (h:pre.length%2=0) (a b:Int) (t:List Int):pY (pre++a::b::t) pre.length=b:=by
 unfold pY;rw[if_neg (by omega),if_pos (by simp)];simp
theorem zh (pre:List Int) (h:pre.length%2=0) (a:Int):pY (pre++[a]) pre.length=a:=by
 unfold pY;rw[if_neg (by omega),if_neg (by simp)];simp
def nV (l:List Int):Int:=if 1≤l.length∧l.length≤8 then(if iw l 0 2147483646 then 0 else 3)else 2
theorem EA {l:List Int} (h:nV l=0):1≤l.length∧l.length≤8∧iw l 0 2147483646:=by
 unfold nV at h;by_cases h1:1≤l.length∧l.length≤8
 ·rw[if_pos h1]at h;by_cases h2:iw l 0 2147483646
  ·exact⟨h1.1,h1.2,h2⟩
  ·rw[if_neg h2]at h;omega
 ·rw[if_neg h1]at h;omega
def lZ:List Int→Bool
 |a::b::t=>a==b||lZ t
 |_=>false
def jy:Nat→List Int→Bool
 |0,l=>if l.length>1 then lZ l else false
 |n+1,l=>if l.length>1 then lZ l||jy n (jq l)else false
def vk (l:List Int):Bool:=if nV l=0 then jy 7 l else false
def Jd (l:List Int):Int×Int:=if nV l=0 then(0,nH 7 l)else(nV l,0)
def tQ (t:aJ):Int:=ni (jW false t)
def dZ (l:List aJ):List Int:=l.map tQ
def lu:Bool→List aJ→Bool
 |_,[]=>true
 |b,t::s=>if((t.f1.length:Int)==0)=b then lu false s else false
def qm:List aJ→Int→Int
 |[],e=>e
 |t::s,e=>if kG t=0 then qm s e else kG t
def lC (b:bN):Bool:=decide (0≤b.f0∧b.f0≤2147483646)&&(decide (1≤b.f1∧b.f1≤99999)&&(decide (1≤b.f2∧b.f2≤1023∧Int.tmod b.f2 256>0)&&decide (0≤b.f3∧b.f3≤65535)))
def rF (b:bN):Int:=if lu true b.f4=true then(if jy 7 (dZ b.f4)=true then 6 else 0)else 1
def jR (b:bN):Int:=if lC b=true then(if(b.f4.length:Int)<1∨(b.f4.length:Int)>4 then 2 else qm b.f4 (rF b))else 3
theorem He (t:aJ):0≤tQ t∧tQ t≤2147483646:=zZ _
theorem GK {l:List aJ} (h1:1≤(l.length:Int)) (h4:(l.length:Int)≤4):nV (dZ l)=0:=by
 unfold nV dZ;rw[if_pos (by simp;omega),if_pos];intro x hx;obtain⟨t,_,rfl⟩:=List.mem_map.1 hx;exact He t
theorem Hf (l:List aJ) (e:Int) (h:qm l e=0):∀t∈l,kG t=0:=by
 induction l with
 |nil=>simp
 |cons t l ih=>
  unfold qm at h;by_cases h0:kG t=0
  ·rw[if_pos h0]at h;intro x hx;rcases List.mem_cons.1 hx with rfl|hx
   ·exact h0
   ·exact ih h x hx
  ·rw[if_neg h0]at h;exact absurd h h0
theorem qE {b:bN} (h:jR b=0):(∀t∈b.f4,lg t)∧1≤(b.f4.length:Int)∧(b.f4.length:Int)≤4∧lC b=true:=by
 unfold jR at h;by_cases h1:lC b=true
 ·rw[if_pos h1]at h;by_cases h2:(b.f4.length:Int)<1∨(b.f4.length:Int)>4
  ·rw[if_pos h2]at h;omega
  ·rw[if_neg h2]at h;exact⟨fun t ht=>wS (Hf _ _ h t ht),by omega,by omega,h1⟩
 ·rw[if_neg h1]at h;omega
theorem qc (pre:List aJ) (b:aJ) (suf:List aJ):aI (pre++b::suf) (pre.length:Int)=b:=by unfold aI;simp
theorem qh {n:Int} (h1:n≤9223372036854775807):iq.f n=some (dU n):=by
 unfold iq.f dU;by_cases h:n<253
 ·rw[if_pos h,if_pos h]
 ·rw[if_neg h,if_neg h,Int.tmod_eq_emod_of_nonneg (by omega),Int.tdiv_eq_ediv_of_nonneg (by omega),bE (by omega) (by omega)];(have:n%256%256=n%256:=by omega);rw[this]
theorem zO {n:Int} (h0:0≤n) (h1:n≤9223372036854775807):oK.f n=some (iZ n):=by
 unfold oK.f iZ;rw[Int.tmod_eq_emod_of_nonneg h0,Int.tdiv_eq_ediv_of_nonneg h0,bE (by omega) (by omega),qh (by omega),qh (by omega)];simp only[Option.bind_some];have a:=iV (n%65536);have b:=iV (n / 65536);rw[if_pos (by omega)]
theorem Gm (suf:List Int):∀(pre acc:List Int),(∀x∈suf,x≤9223372036854775807)→pre.length+suf.length≤1000→acc.length+3*suf.length≤100000→
 Ev (fun k=>dS.l0 k (pre++suf) acc pre.length) (acc++(suf.map dU).flatten):=by
 induction suf with
 |nil=>intro pre acc _ _ _;exact bP (fun k=>by rw[dS.l0,if_neg (by simp)];simp)
 |cons b suf ih=>intro pre acc hs hp hl;simp only[List.length_cons]at hp hl;have hv:=iV b;have h:=ih (pre++[b]) (acc++dU b) (fun x hx=>hs x (by simp[hx])) (by simp;omega) (by simp only[List.length_append];omega);rw[show((pre++[b]).length:Int)=(pre.length:Int)+1 from by simp,show pre++[b]++suf=pre++b::suf from by simp]at h;refine Ev.step (fun k=>?_) (by simpa using h);rw[dS.l0,if_pos (by simp;omega),if_pos (by omega),iK,qh (hs b (by simp))];simp only[Option.bind_some];rw[if_pos (by omega),bE (by omega) (by omega)]
theorem zP {l:List Int} (hs:∀x∈l,x≤9223372036854775807) (hl:l.length≤1000):Ev (fun k=>dS.f k l) (kQ l):=by
 unfold dS.f kQ;have hv:=iV (l.length:Int);refine jv (qh (by omega)) ?_;have:=Gm l [] (dU l.length) hs (by simp;omega) (by omega);simpa using this
theorem yZ {l:List Int} {lo hi:Int} (h:iw l lo hi) (hh:hi≤9223372036854775807):∀x∈l,x≤9223372036854775807:=fun x hx=>by have:=(h x hx).2;omega
theorem Gr (t:aJ) (suf:List aT):∀(pre:List aT) (acc:List Int),t.f2=pre++suf→(∀y∈suf,qz y)→pre.length+suf.length≤4→acc.length+45*suf.length≤100000→
 Ev (fun k=>bF.l1 k [t] acc pre.length) (acc++(suf.map nE).flatten):=by
 have hrd:aI [t] 0=t:=rfl
 induction suf with
 |nil=>intro pre acc ht _ _ _;exact bP (fun k=>by rw[bF.l1,if_pos (by simp),hrd,if_neg (by rw[ht];simp)];simp)
 |cons b suf ih=>intro pre acc ht hs hp hl;simp only[List.length_cons]at hp hl;have hb:=hs b (by simp);have l1:=rz b.f0;have l2:=rZ hb.2.1;have h:=ih (pre++[b]) (acc++iZ b.f0++kQ b.f1) (by rw[ht];simp) (fun y hy=>hs y (by simp[hy])) (by simp;omega) (by simp only[List.length_append];omega);rw[show((pre++[b]).length:Int)=(pre.length:Int)+1 from by simp]at h;refine Ev.step (f:=fun k=>(dS.f k b.f1).bind fun aR=>if(acc++iZ b.f0).length+aR.length<140737488355328 then bF.l1 k [t] (acc++iZ b.f0++aR) ((pre.length:Int)+1)else none) (fun k=>?_) (bB (zP (yZ hb.2.2 (by omega)) (by have:=hb.2.1;omega)) (bD (by simp only[List.length_append];omega) (by simpa[nE]using h)));rw[bF.l1,if_pos (by simp),hrd,if_pos (by rw[ht];simp;omega),if_pos (by omega),ht,qL,zO (by have:=hb.1;omega) (by have:=hb.1;omega)];simp only[Option.bind_some];rw[if_pos (by omega),bE (by omega) (by omega)]
theorem Gq (p:Bool) (t:aJ) (ho:∀y∈t.f2,qz y) (h2:t.f2.length≤4) (suf:List aM):∀(pre:List aM) (acc:List Int),t.f1=pre++suf→(∀x∈suf,oL x)→pre.length+suf.length≤4→acc.length+36*suf.length≤10000→
 Ev (fun k=>bF.l0 k [t] p acc pre.length) (acc++((suf.map (lF p)).flatten++(dU t.f2.length++(t.f2.map nE).flatten))):=by
 have hrd:aI [t] 0=t:=rfl
 induction suf with
 |nil=>intro pre acc ht _ _ hl;have hv:=iV (t.f2.length:Int);have h:=Gr t t.f2 [] (acc++dU t.f2.length) (by simp) ho (by simpa using h2) (by simp only[List.length_append];omega);refine Ev.step (f:=fun k=>bF.l1 k [t] (acc++dU t.f2.length) 0) (fun k=>?_) (by simpa using h);rw[bF.l0,if_pos (by simp),hrd,if_neg (by rw[ht];simp),qh (by omega)];simp only[Option.bind_some];rw[if_pos (by omega)]
 |cons b suf ih=>
  intro pre acc ht hs hp hl;simp only[List.length_cons]at hp hl;have hb:=hs b (by simp);have l1:=rz b.f0;have l2:=rZ hb.2.2.1;have l3:=iV b.f1;have h:=ih (pre++[b]) (acc++iZ b.f0++dU b.f1++(if p=true then kQ b.f2 else[0])) (by rw[ht];simp) (fun y hy=>hs y (by simp[hy])) (by simp;omega) (by cases p<;>simp<;>omega);rw[show((pre++[b]).length:Int)=(pre.length:Int)+1 from by simp]at h;have hstep:∀k,bF.l0 (k+1) [t] p acc pre.length=(if p=true then((dS.f k b.f2).bind fun aB=>(if(acc++iZ b.f0++dU b.f1).length+aB.length<140737488355328 then(bF.l0 k [t] p ((acc++iZ b.f0++dU b.f1)++aB) ((pre.length:Int)+1))else(none)))else(if(acc++iZ b.f0++dU b.f1).length<140737488355328 then(bF.l0 k [t] p ((acc++iZ b.f0++dU b.f1)++[0]) ((pre.length:Int)+1))else(none))):=by
   intro k;rw[bF.l0,if_pos (by simp),hrd,if_pos (by rw[ht];simp;omega),if_pos (by omega),ht,nZ,zO (by have:=hb.1;omega) (by have:=hb.1;omega)];simp only[Option.bind_some];rw[if_pos (by omega),qh (by have:=hb.2.1;omega)];simp only[Option.bind_some];rw[if_pos (by simp only[List.length_append];omega),bE (by omega) (by omega)]
  cases p with
  |true=>refine Ev.step (f:=fun k=>(dS.f k b.f2).bind fun aB=>(if(acc++iZ b.f0++dU b.f1).length+aB.length<140737488355328 then(bF.l0 k [t] true ((acc++iZ b.f0++dU b.f1)++aB) ((pre.length:Int)+1))else(none))) (fun k=>by rw[hstep,if_pos rfl]) ?_;refine bB (zP (yZ hb.2.2.2 (by omega)) (by have:=hb.2.2.1;omega)) (bD (by simp only[List.length_append];omega) ?_);simpa[lF]using h
  |false=>refine Ev.step (f:=fun k=>if(acc++iZ b.f0++dU b.f1).length<140737488355328 then(bF.l0 k [t] false ((acc++iZ b.f0++dU b.f1)++[0]) ((pre.length:Int)+1))else(none)) (fun k=>by rw[hstep,if_neg (by decide)]) ?_;refine bD (by simp only[List.length_append];omega) ?_;simpa[lF]using h
theorem Gp (p:Bool) {t:aJ} (h:lg t):Ev (fun k=>nJ.f k t.f0 t.f1 t.f2 p) (jW p t):=by
 unfold nJ.f bF.f jW;have hrd:aI [t] 0=t:=rfl;have ht:(⟨t.f0,t.f1,t.f2⟩:aJ)=t:=rfl;obtain⟨h0,h1,h2,hi,ho⟩:=h;have v1:=iV t.f0;have v2:=iV (t.f1.length:Int);rw[ht];refine bD (by simp) ?_;rw[hrd];refine jv (qh (by omega)) (jv (qh (by omega)) (bD (by omega) ?_));have:=Gq p t ho h2.2 t.f1 [] (dU t.f0++dU t.f1.length) (by simp) hi (by simpa using h1) (by simp only[List.length_append];omega);simpa using this
theorem Fp (p:Bool) {t:aJ} (h:lg t):(jW p t).length≤1000:=by
 unfold jW;obtain⟨h0,h1,h2,hi,ho⟩:=h;have v1:=iV t.f0;have v2:=iV (t.f1.length:Int);have v3:=iV (t.f2.length:Int);have f1:=rH (f:=lF p) (n:=36) (l:=t.f1) (fun x hx=>yJ (hi x hx));have f2:=rH (f:=nE) (n:=45) (l:=t.f2) (fun x hx=>zw (ho x hx));simp only[List.length_append];omega
theorem Gs {t:aJ} (h:lg t):Ev (fun k=>mY.f k t.f0 t.f1 t.f2) (ni (jW false t)):=by
 unfold mY.f om.f;have hrd:aI [t] 0=t:=rfl;have ht:(⟨t.f0,t.f1,t.f2⟩:aJ)=t:=rfl;have hl:=Fp false h;rw[ht];refine bD (by simp) ?_;rw[hrd];exact bB (Gp false h) (bB (zM (zA _ _) (by omega)) (Ev.now _))
theorem zS (a b:Int):Ev (fun k=>kT.f k a b) (nk [a,b]):=by
 unfold kT.f;exact bB (zL (by simp)) (Ev.now _)
theorem zT (l:List Int) (i:Nat) (hi:i<l.length) (hl:l.length≤1000):qj.f l i=some (pY l i):=by
 unfold qj.f pY;have hm:Int.tmod (i:Int) 2=((i%2:Nat):Int):=by rw[Int.tmod_eq_emod_of_nonneg (by omega)];omega
 rw[hm];by_cases h:i%2=1
 ·rw[if_pos (by omega),bE (by omega) (by omega),if_neg (by omega),if_pos (by omega),if_pos (by omega),if_pos h];(have:(i:Int)-1=((i-1:Nat):Int):=by omega);rw[this,og]
 ·rw[if_neg (by omega),bE (by omega) (by omega),if_neg h];by_cases h2:i+1<l.length
  ·rw[if_neg (by omega),if_pos (by omega),if_pos (by omega),if_pos h2];(have:(i:Int)+1=((i+1:Nat):Int):=by omega);rw[this,og]
  ·rw[if_pos (by omega),if_pos (by omega),if_pos (by omega),if_neg h2,og]
theorem zR:∀(suf pre out:List Int),pre.length%2=0→pre.length+suf.length≤1000→out.length+suf.length≤2000→
 Ev (fun k=>dz.l0 k (pre++suf) out pre.length) (out++jq suf)
 |[],pre,out,_,_,_=>bP (fun k=>by rw[dz.l0,if_neg (by simp)];simp[jq])
 |[a],pre,out,he,hl,ho=>by
  simp only[List.length_cons,List.length_nil]at hl ho
  refine Ev.step (f:=fun k=>(qj.f (pre++[a]) (pre.length:Int)).bind fun t=>(kT.f k a t).bind fun q=>if out.length<17592186044416 then dz.l0 k (pre++[a]) (out++[q]) ((pre.length:Int)+2)else none) (fun k=>?_) ?_
  ·rw[dz.l0,if_pos (by simp;omega),if_pos (by omega),iK,bE (by omega) (by omega)]
  ·refine jv (zT _ _ (by simp) (by simp;omega)) ?_
   rw[zh pre he]
   refine bB (zS a a) (bD (by omega) ?_)
   exact bP (fun k=>by rw[dz.l0,if_neg (by simp)];simp[jq])
 |a::b::t,pre,out,he,hl,ho=>by
  simp only[List.length_cons]at hl ho
  have ih:=zR t (pre++[a,b]) (out++[nk [a,b]]) (by simp;omega) (by simp;omega) (by simp;omega)
  refine Ev.step (f:=fun k=>(qj.f (pre++a::b::t) (pre.length:Int)).bind fun u=>(kT.f k a u).bind fun q=>if out.length<17592186044416 then dz.l0 k (pre++a::b::t) (out++[q]) ((pre.length:Int)+2)else none) (fun k=>?_) ?_
  ·rw[dz.l0,if_pos (by simp;omega),if_pos (by omega),iK,bE (by omega) (by omega)]
  ·refine jv (zT _ _ (by simp) (by simp;omega)) ?_
   rw[zf pre he]
   refine bB (zS a b) (bD (by omega) ?_)
   simpa[jq]using ih
theorem zQ {l:List Int} (hl:l.length≤1000):Ev (fun k=>dz.f k l) (jq l):=by
 unfold dz.f;exact zR l [] [] rfl (by simpa using hl) (by simp;omega)
theorem zW (n:Nat) (r:Bool):∀(suf pre:List Int),pre.length%2=0→pre.length+suf.length≤1000→
 (lZ suf=false→Ev (fun k=>(dz.f k (pre++suf)).bind fun t=>dA.l0 k t) r)→(lZ suf=true→r=true)→Ev (fun k=>dA.l1 k (pre++suf) pre.length) r
 |[],pre,he,hl,h1,h2=>by
  refine Ev.step (fun k=>?_) (h1 rfl)
  rw[dA.l1,bE (by omega) (by omega),if_neg (by simp;omega)]
 |[a],pre,he,hl,h1,h2=>by
  simp only[List.length_cons,List.length_nil]at hl
  refine Ev.step (fun k=>?_) (h1 rfl)
  rw[dA.l1,bE (by omega) (by omega),if_neg (by simp)]
 |a::b::t,pre,he,hl,h1,h2=>by
  simp only[List.length_cons]at hl
  have hb:rd (pre++a::b::t) ((pre.length:Int)+1)=b:=by
   have:=iK (pre++[a]) b t
   simpa using this
  by_cases hab:a=b
  ·have hr:r=true:=h2 (by simp[lZ,hab])
   subst hr
   refine bP (fun k=>?_)
   rw[dA.l1,bE (by omega) (by omega),if_pos (by simp;omega),if_pos (by omega),if_pos (by simp;omega),if_pos (by omega),iK,hb,if_pos hab]
  ·have ih:=zW n r t (pre++[a,b]) (by simp;omega) (by simp;omega) (fun h=>by simpa using h1 (by simp[lZ,hab,h])) (fun h=>h2 (by simp[lZ,h]))
   refine Ev.step (fun k=>?_) ih
   rw[dA.l1,bE (x:=(pre.length:Int)+1) (by omega) (by omega),bE (by omega) (by omega),if_pos (by simp;omega),if_pos (by omega),if_pos (by simp;omega),if_pos (by omega),iK,hb,if_neg hab]
   simp
theorem zV:∀(n:Nat) (l:List Int),l.length≤n+1→l.length≤1000→Ev (fun k=>dA.l0 k l) (jy n l)
 |n,l,h1,h2=>by
  by_cases h:l.length>1
  ·obtain⟨m,rfl⟩:∃m,n=m+1:=⟨n-1,by omega⟩
   refine Ev.step (f:=fun k=>dA.l1 k l 0) (fun k=>by rw[dA.l0,if_pos (by omega)]) ?_
   have hlen:=sQ l
   unfold jy
   rw[if_pos h]
   refine zW m _ l [] rfl (by simpa using h2) (fun hp=>?_) (fun hp=>by rw[hp];rfl)
   rw[hp]
   exact bB (zQ h2) (zV m (jq l) (by omega) (by omega))
  ·have e:jy n l=false:=by cases n<;>(unfold jy;rw[if_neg h])
   rw[e]
   exact bP (fun k=>by rw[dA.l0,if_neg (by omega)])
theorem FW (a:Int):mW.f a=some (decide (1≤a∧a≤1023∧Int.tmod a 256>0)):=by
 unfold mW.f;rw[mX];by_cases h:1≤a∧a≤1023
 ·simp[h]
 ·simp only[Option.bind_some,h,decide_false,Bool.false_eq_true,if_false];congr 1;symm;simp;omega
theorem Gu (a:Int):oo.f a=some (decide (0≤a∧a≤2147483646)):=by
 unfold oo.f;rw[mX];rfl
theorem GH (b:bN) (suf:List aJ):∀(pre:List aJ),b.f4=pre++suf→(∀t∈suf,lg t)→pre.length+suf.length≤100→
 Ev (fun k=>fI.l0 k [b] (dZ pre) pre.length) (dZ (pre++suf)):=by
 have hrd:aU [b] 0=b:=rfl
 induction suf with
 |nil=>intro pre hb _ _;exact bP (fun k=>by rw[fI.l0,if_pos (by simp),hrd,if_neg (by rw[hb];simp)];simp)
 |cons t suf ih=>
  intro pre hb hs hl;simp only[List.length_cons]at hl;have h:=ih (pre++[t]) (by rw[hb];simp) (fun x hx=>hs x (by simp[hx])) (by simp;omega);rw[show((pre++[t]).length:Int)=(pre.length:Int)+1 from by simp,show pre++[t]++suf=pre++t::suf from by simp]at h;refine Ev.step (f:=fun k=>(mY.f k t.f0 t.f1 t.f2).bind fun u=>if(dZ pre).length<17592186044416 then fI.l0 k [b] (dZ pre++[u]) ((pre.length:Int)+1)else none) (fun k=>?_) (bB (Gs (hs t (by simp))) (bD (by simp[dZ];omega) ?_))
  ·rw[fI.l0,if_pos (by simp),hrd,if_pos (by rw[hb];simp;omega),if_pos (by omega),hb,qc,bE (by omega) (by omega)]
  ·simpa[dZ,tQ]using h
theorem zX {b:bN} (hs:∀t∈b.f4,lg t) (hl:b.f4.length≤100):Ev (fun k=>jO.f k b.f0 b.f1 b.f2 b.f3 b.f4) (dZ b.f4):=by
 unfold jO.f fI.f;have:=GH b b.f4 [] (by simp) hs (by simpa using hl);simpa[dZ]using this
theorem Gw (b:bN) (suf:List aJ):∀(pre:List aJ),b.f4=pre++suf→pre.length+suf.length≤1048576→
 Ev (fun k=>iy.l0 k [b] pre.length) (lu ((pre.length:Int)==0) suf):=by
 have hrd:aU [b] 0=b:=rfl
 induction suf with
 |nil=>intro pre hb _;exact bP (fun k=>by rw[iy.l0,if_pos (by simp),hrd,if_neg (by rw[hb];simp)];simp[lu])
 |cons t suf ih=>
  intro pre hb hl;simp only[List.length_cons]at hl;have h:=ih (pre++[t]) (by rw[hb];simp) (by simp;omega);rw[show((pre++[t]).length:Int)=(pre.length:Int)+1 from by simp,show((pre.length:Int)+1==0)=false from by rw[beq_eq_false_iff_ne];omega]at h;have hstep:∀k,iy.l0 (k+1) [b] pre.length=if(((t.f1.length:Int)==0) != ((pre.length:Int)==0))=true then some false else iy.l0 k [b] ((pre.length:Int)+1):=by
   intro k;rw[iy.l0,if_pos (by simp),hrd,if_pos (by rw[hb];simp;omega),if_pos (by omega),hb,qc,bE (by omega) (by omega)]
  unfold lu;by_cases hq:((t.f1.length:Int)==0)=((pre.length:Int)==0)
  ·rw[if_pos hq];exact Ev.step (fun k=>by rw[hstep,if_neg (by rw[hq];simp)]) h
  ·rw[if_neg hq];exact bP (fun k=>by rw[hstep,if_pos (by rw[bne_iff_ne];exact hq)])
theorem Gv {b:bN} (hl:b.f4.length≤1048576):Ev (fun k=>jX.f k b.f0 b.f1 b.f2 b.f3 b.f4) (lu true b.f4):=by
 unfold jX.f iy.f;have:=Gw b b.f4 [] (by simp) (by simpa using hl);simpa using this
theorem Gy {b:bN} (hs:∀t∈b.f4,kG t=0) (h4:(b.f4.length:Int)≤4):
 Ev (fun k=>(jX.f k b.f0 b.f1 b.f2 b.f3 b.f4).bind fun aF=>(if aF=true then((jO.f k b.f0 b.f1 b.f2 b.f3 b.f4).bind fun aL=>((dA.f k aL).bind fun aO=>(if aO=true then(some 6)else(some 0))))else(some 1))) (rF b):=by
 unfold rF;refine bB (Gv (by omega)) ?_;by_cases hb:lu true b.f4=true
 ·rw[if_pos hb];refine bD hb (bB (zX (fun t ht=>wS (hs t ht)) (by omega)) ?_);(have hlen:(dZ b.f4).length=b.f4.length:=by simp[dZ]);refine bB (by unfold dA.f;exact zV 7 _ (by omega) (by omega)) ?_;by_cases ht:jy 7 (dZ b.f4)=true
  ·rw[show(if jy 7 (dZ b.f4)=true then(6:Int)else 0)=6 from if_pos ht];exact bD ht (Ev.now _)
  ·rw[show(if jy 7 (dZ b.f4)=true then(6:Int)else 0)=0 from if_neg ht];exact dD ht (Ev.now _)
 ·rw[if_neg hb];exact dD hb (Ev.now _)
theorem GA (b:bN) (e:Int) (suf:List aJ):∀(pre:List aJ),b.f4=pre++suf→(∀t∈suf,TB t)→pre.length+suf.length≤1048576→
 ((∀t∈suf,kG t=0)→Ev (fun k=>(jX.f k b.f0 b.f1 b.f2 b.f3 b.f4).bind fun aF=>(if aF=true then((jO.f k b.f0 b.f1 b.f2 b.f3 b.f4).bind fun aL=>((dA.f k aL).bind fun aO=>(if aO=true then(some 6)else(some 0))))else(some 1))) e)→
 Ev (fun k=>bL.l0 k [b] pre.length) (qm suf e):=by
 have hrd:aU [b] 0=b:=rfl
 induction suf with
 |nil=>intro pre hb _ _ he;refine Ev.step (fun k=>?_) (he (by simp));rw[bL.l0,if_pos (by simp),hrd,if_neg (by rw[hb];simp)]
 |cons t suf ih=>
  intro pre hb hs hl he;simp only[List.length_cons]at hl;have ht:=hs t (by simp);unfold qm;refine Ev.step (f:=fun k=>(kS.f k t.f0 t.f1 t.f2).bind fun aP=>if aP=0 then bL.l0 k [b] ((pre.length:Int)+1)else some aP) (fun k=>?_) (bB (Gh ht.1 ht.2) ?_)
  ·rw[bL.l0,if_pos (by simp),hrd,if_pos (by rw[hb];simp;omega),if_pos (by omega),hb,qc,bE (by omega) (by omega)]
  ·by_cases h0:kG t=0
   ·rw[if_pos h0];have h:=ih (pre++[t]) (by rw[hb];simp) (fun x hx=>hs x (by simp[hx])) (by simp;omega) (fun hx=>he (fun y hy=>by rcases List.mem_cons.1 hy with rfl|hy;exact h0;exact hx y hy));rw[show((pre++[t]).length:Int)=(pre.length:Int)+1 from by simp]at h;exact bD h0 h
   ·rw[if_neg h0];exact dD h0 (Ev.now _)
theorem Gz {b:bN} (hl:b.f4.length≤1048576) (hs:∀t∈b.f4,TB t):Ev (fun k=>kU.f k b.f0 b.f1 b.f2 b.f3 b.f4) (jR b):=by
 unfold kU.f bL.f;have hrd:aU [b] 0=b:=rfl;have hb:(⟨b.f0,b.f1,b.f2,b.f3,b.f4⟩:bN)=b:=rfl;rw[hb];refine bD (by simp) ?_;rw[hrd];refine Ev.congr (f:=fun k=>bL.j0 k [b] (!lC b)) (fun k=>?_) ?_
 ·rw[Gu,mX,FW,mX];simp only[Option.bind_some,lC];cases decide (0≤b.f0∧b.f0≤2147483646)<;>cases decide (1≤b.f1∧b.f1≤99999)<;>cases decide (1≤b.f2∧b.f2≤1023∧Int.tmod b.f2 256>0)<;>simp
 ·unfold jR;cases hh:lC b with
  |false=>exact bP (fun k=>by rw[bL.j0];simp)
  |true=>
   rw[if_pos rfl];have bad:Ev (fun k=>bL.j1 k [b] true) 2:=bP (fun k=>by rw[bL.j1,if_pos rfl]);by_cases h1:(b.f4.length:Int)<1
   ·rw[if_pos (.inl h1)];exact Ev.step (fun k=>by rw[bL.j0,if_neg (by decide),if_pos (by simp),hrd,if_pos h1]) bad
   ·by_cases h4:(b.f4.length:Int)>4
    ·rw[if_pos (.inr h4)];exact Ev.step (fun k=>by rw[bL.j0,if_neg (by decide),if_pos (by simp),hrd,if_neg h1,decide_eq_true h4]) bad
    ·rw[if_neg (by omega)];have h:=GA b (rF b) b.f4 [] (by simp) hs (by simpa using hl) (fun hx=>Gy hx (by omega));refine Ev.step (f:=fun k=>bL.j1 k [b] false) (fun k=>by rw[bL.j0,if_neg (by decide),if_pos (by simp),hrd,if_neg h1,decide_eq_false h4]) ?_;exact Ev.step (fun k=>by rw[bL.j1,if_neg (by decide)]) (by simpa using h)
theorem Cu (x:Int):oF.f x=some (!decide (0≤x∧x≤9999)):=by
 unfold oF.f;rw[lU];rfl
theorem yK (x y:aM):qG.f y.f0 y.f1 y.f2 [x]=some (kF x y):=by
 have hrd:aD [x] 0=x:=rfl;unfold qG.f kF;rw[if_pos (by simp),hrd];by_cases h:x.f0=y.f0<;>simp[h]
theorem Dj (x:aM) (suf:List aM):∀(pre:List aM) (n:Int),n=(pre.length:Int)+suf.length→n≤1048576→
 ∃r:Int,Ev (fun k=>gT.l0 k (pre++suf) [x] n pre.length) r∧decide (r≥0)=suf.any (kF x):=by
 induction suf with
 |nil=>intro pre n hn _;subst hn;exact⟨-1,bP (fun k=>by rw[gT.l0,if_neg (by simp)]),by simp⟩
 |cons b suf ih=>
  intro pre n hn hl;simp only[List.length_cons,Int.natCast_add,Int.natCast_one]at hn;cases hb:kF x b with
  |true=>refine⟨pre.length,bP (fun k=>?_),by simp[hb]⟩;rw[gT.l0,if_pos (by omega),if_pos (by omega),if_pos (by simp;omega),nZ,yK,hb];rfl
  |false=>obtain⟨r,h,hr⟩:=ih (pre++[b]) n (by simp;omega) hl;refine⟨r,Ev.step (fun k=>?_) h,by simp[hb,hr]⟩;rw[gT.l0,if_pos (by omega),if_pos (by omega),if_pos (by simp;omega),nZ,yK,hb,bE (by omega) (by omega)];simp
theorem Di (x:aM) {l:List aM} (hl:(l.length:Int)≤1048576):Ev (fun k=>kN.f k l x.f0 x.f1 x.f2) (l.any (kF x)):=by
 obtain⟨r,h,hr⟩:=Dj x l [] l.length (by simp) hl;rw[←hr];unfold kN.f nT.f gT.f;exact bB (by simpa using h) (Ev.now _)
theorem Bw (l:List Int):l.any (fun x=> !decide (0≤x∧x≤9999))= !decide (iw l 0 9999):=by
 induction l with
 |nil=>simp[iw]
 |cons b l ih=>rw[List.any_cons,ih];by_cases hb:0≤b∧b≤9999<;>simp[tT,hb]
theorem CJ (pre:List aM) (x:aM) (hx:(x.f2.length:Int)≤1048576) (hl:(pre.length:Int)≤1048576):Ev (fun k=>eT.f k x.f0 x.f1 x.f2 pre) (nA pre x):=by
 unfold eT.f;refine Ev.congr (f:=fun k=>eT.j0 k pre (pV x) x.f0 x.f1 x.f2) (fun k=>?_) ?_
 ·rw[vZ,lU];simp only[Option.bind_some,pV];cases decide (0≤x.f0∧x.f0≤2147483646)<;>cases decide (0≤x.f1∧x.f1≤3)<;>simp
 ·unfold nA;cases hb:pV x with
  |true=>exact bP (fun k=>by rw[eT.j0];simp)
  |false=>
   rw[if_neg (by decide)];refine Ev.step (fun k=>by rw[eT.j0,if_neg (by decide)]) ?_;by_cases h8:(x.f2.length:Int)>8
   ·rw[if_pos h8];exact bD h8 (Ev.now _)
   ·rw[if_neg h8];refine dD h8 (bB (FL _ Cu (by omega)) ?_);rw[Bw];by_cases ha:decide (iw x.f2 0 9999)=true
    ·rw[if_pos ha,ha];refine dD (by decide) (bB (Di x hl) ?_);by_cases hh:pre.any (kF x)=true
     ·rw[if_pos hh,if_pos hh];exact Ev.now _
     ·rw[if_neg hh,if_neg hh];exact Ev.now _
    ·rw[if_neg ha];exact bD (by simpa using ha) (Ev.now _)
theorem CQ (suf:List aT):∀(pre:List aT) (a:Int) (n:Int),n=(pre.length:Int)+suf.length→n≤1048576→
 Ev (fun k=>gJ.l0 k a (pre++suf) n pre.length) (mV a suf):=by
 induction suf with
 |nil=>intro pre a n hn _;subst hn;exact bP (fun k=>by rw[gJ.l0,if_neg (by simp)];rfl)
 |cons b suf ih=>intro pre a n hn hl;simp only[List.length_cons,Int.natCast_add,Int.natCast_one]at hn;have h:=ih (pre++[b]) (wrap64 (a+b.f0)) n (by simp;omega) hl;refine Ev.step (fun k=>?_) (by simpa[mV]using h);rw[gJ.l0,if_pos (by omega),if_pos (by omega),if_pos (by simp;omega),qL,bE (x:=(pre.length:Int)+1) (by omega) (by omega)]
theorem CP {l:List aT} (hl:l.length≤1048576):Ev (fun k=>gJ.f k l) (mV 0 l):=by
 unfold gJ.f;exact CQ l [] 0 l.length (by simp) (by omega)
theorem Ct (t:aJ) (h2:t.f2.length≤1048576) (suf:List aT):∀(pre:List aT) (n:Int),n=(pre.length:Int)+suf.length→(∀x∈suf,(x.f1.length:Int)≤1048576)→n≤1048576→
 Ev (fun k=>dh.l1 k (pre++suf) n pre.length t.f0 t.f1 t.f2) (nG suf (rG (mV 0 t.f2))):=by
 induction suf with
 |nil=>
  intro pre n hn _ _;simp only[List.length_nil,Int.natCast_zero,Int.add_zero]at hn;simp only[nG,rG];refine Ev.step (f:=fun k=>(gJ.f k t.f2).bind fun s=>(lV.f s).bind fun c=>if c=true then some 0 else some 7) (fun k=>?_) (bB (CP h2) (jv (vY _) ?_))
  ·rw[dh.l1,if_neg (by omega)]
  ·by_cases h:0≤mV 0 t.f2∧mV 0 t.f2≤1000000
   ·rw[if_pos h];exact bD (by simpa using h) (Ev.now _)
   ·rw[if_neg h];exact dD (by simpa using h) (Ev.now _)
 |cons b suf ih=>
  intro pre n hn hs hl;simp only[List.length_cons,Int.natCast_add,Int.natCast_one]at hn;have h:=ih (pre++[b]) n (by simp;omega) (fun x hx=>hs x (by simp[hx])) hl;rw[show((pre++[b]).length:Int)=(pre.length:Int)+1 from by simp,show pre++[b]++suf=pre++b::suf from by simp]at h;simp only[nG];by_cases hb:0≤b.f0∧b.f0≤1000000
  ·rw[if_pos hb];refine Ev.step (f:=fun k=>(jU.f k b.f1).bind fun t1=>if t1=0 then dh.l1 k (pre++b::suf) n ((pre.length:Int)+1) t.f0 t.f1 t.f2 else some t1) (fun k=>?_) (bB (Co (by have:=hs b (by simp);omega)) ?_)
   ·rw[dh.l1,if_pos (by omega),if_pos (by omega),if_pos (by simp;omega),qL,vY,bE (x:=(pre.length:Int)+1) (by omega) (by omega)];simp[hb]
   ·by_cases hf:ny b.f1=0
    ·rw[if_pos hf];exact bD hf h
    ·rw[if_neg hf];exact dD hf (Ev.now _)
  ·rw[if_neg hb];refine bP (fun k=>?_);rw[dh.l1,if_pos (by omega),if_pos (by omega),if_pos (by simp;omega),qL,vY];simp[hb]
theorem Cr (t:aJ) (e:Int) (he:Ev (fun k=>dh.l1 k t.f2 (t.f2.length:Int) 0 t.f0 t.f1 t.f2) e) (suf:List aM):∀(pre:List aM),t.f1=pre++suf→(∀x∈suf,(x.f2.length:Int)≤1048576)→(pre.length:Int)+suf.length≤1048576→
 Ev (fun k=>dh.l0 k t.f1 (t.f1.length:Int) pre.length t.f0 t.f1 t.f2) (oH pre suf e):=by
 induction suf with
 |nil=>intro pre ht _ _;refine Ev.step (fun k=>?_) he;rw[dh.l0,if_neg (by rw[ht];simp)]
 |cons b suf ih=>
  intro pre ht hs hl;simp only[List.length_cons,Int.natCast_add,Int.natCast_one]at hl;have h:=ih (pre++[b]) (by rw[ht];simp) (fun x hx=>hs x (by simp[hx])) (by simp;omega);rw[show((pre++[b]).length:Int)=(pre.length:Int)+1 from by simp]at h;have hlen:(t.f1.length:Int)=(pre.length:Int)+(suf.length+1):=by rw[ht];simp
  have e1:aD t.f1 (pre.length:Int)=b:=by rw[ht];exact nZ pre b suf
  have e2:t.f1.take ((pre.length:Int)).toNat=pre:=by rw[ht];simp
  refine Ev.step (f:=fun k=>(eT.f k b.f0 b.f1 b.f2 pre).bind fun t7=>if t7=0 then dh.l0 k t.f1 (t.f1.length:Int) ((pre.length:Int)+1) t.f0 t.f1 t.f2 else some t7) (fun k=>?_) (bB (CJ pre b (hs b (by simp)) (by omega)) ?_)
  ·rw[dh.l0,if_pos (by omega),if_pos (by omega),if_pos (by omega),if_pos (by omega),e1,e2,bE (x:=(pre.length:Int)+1) (by omega) (by omega)]
  ·unfold oH;by_cases hf:nA pre b=0
   ·rw[if_pos hf];exact bD hf h
   ·rw[if_neg hf];exact dD hf (Ev.now _)
theorem Cq {t:aJ} (h1:t.f1.length≤1048576∧∀x∈t.f1,(x.f2.length:Int)≤1048576) (h2:t.f2.length≤1048576∧∀x∈t.f2,(x.f1.length:Int)≤1048576):Ev (fun k=>dh.f k t.f0 t.f1 t.f2) (kG t):=by
 unfold dh.f kG;refine jv (lU _ _ _) ?_;by_cases hn:0≤t.f0∧t.f0≤65535
 ·rw[if_pos hn];refine bD (by simpa using hn) ?_;by_cases c1:(t.f1.length:Int)>4
  ·rw[if_pos (.inl c1)];exact bD c1 (Ev.now _)
  ·refine dD c1 (jv (lU _ _ _) ?_);by_cases c2:1≤(t.f2.length:Int)∧(t.f2.length:Int)≤4
   ·rw[if_neg (by omega)];refine bD (by simpa using c2) ?_;have l1:=Ct t h2.1 t.f2 [] t.f2.length (by simp) h2.2 (by omega);have:=Cr t _ (by simpa using l1) t.f1 [] (by simp) h1.2 (by simp;omega);simpa using this
   ·rw[if_pos (by omega)];exact dD (by simpa using c2) (Ev.now _)
 ·rw[if_neg hn];exact dD (by simpa using hn) (Ev.now _)
theorem pU (n:Int):iB.f n=some (dU n):=by
 unfold iB.f dU;split<;>rfl
theorem zK (pre:List (List Int)) (b:List Int) (suf:List (List Int)):kE (pre++b::suf) (pre.length:Int)=b:=by
 unfold kE;simp
theorem FI (suf:List (List Int)):∀(pre:List (List Int)) (acc:List Int),pre.length+suf.length≤100000→acc.length+suf.flatten.length≤1000000000→
 Ev (fun k=>dw.l1 k acc (pre++suf) ((pre++suf).length:Int) pre.length) (acc++suf.flatten):=by
 induction suf with
 |nil=>intro pre acc _ _;exact bP (fun k=>by rw[dw.l1,if_neg (by simp)];simp)
 |cons b suf ih=>intro pre acc h1 h2;simp only[List.length_cons,List.flatten_cons,List.length_append]at h1 h2;have h:=ih (pre++[b]) (acc++b) (by simp;omega) (by simp only[List.length_append];omega);refine Ev.step (fun k=>?_) (by simpa using h);rw[dw.l1,if_pos (by simp;omega),if_pos (by omega),if_pos (by simp;omega),zK,if_pos (by omega),bE (by omega) (by omega)];simp
theorem FH (suf:List (List Int)):∀(pre:List (List Int)) (n:Int),0≤n→n+suf.flatten.length≤1000000000→pre.length+suf.length≤100000→(pre++suf).flatten.length≤1000000000→
 Ev (fun k=>dw.l0 k (pre++suf) n (pre++suf) ((pre++suf).length:Int) pre.length) (pre++suf).flatten:=by
 induction suf with
 |nil=>intro pre n h0 h1 h2 h3;refine Ev.step (f:=fun k=>(qM.f n).bind fun t=>dw.l1 k t (pre++[]) ((pre++[]).length:Int) 0) (fun k=>by rw[dw.l0,if_neg (by simp)]) ?_;refine jv (a:=[]) (by unfold qM.f;rw[if_pos h0,if_pos (by simp at h1;omega)]) ?_;have:=FI (pre++[]) [] [] (by simpa using h2) (by simpa using h3);simpa using this
 |cons b suf ih=>intro pre n h0 h1 h2 h3;simp only[List.length_cons,List.flatten_cons,List.length_append]at h1 h2;have h:=ih (pre++[b]) (n+b.length) (by omega) (by omega) (by simp;omega) (by simpa using h3);refine Ev.step (fun k=>?_) (by simpa using h);rw[dw.l0,if_pos (by simp;omega),if_pos (by omega),if_pos (by simp;omega),zK,bE (x:=n+(b.length:Int)) (by omega) (by omega),if_neg (by omega),bE (by omega) (by omega)];simp
theorem zJ {x:List (List Int)} (h1:x.length≤100000) (h2:x.flatten.length≤1000000000):Ev (fun k=>dw.f k x) x.flatten:=by
 have:=FH x [] 0 (by omega) (by omega) (by simpa using h1) (by simpa using h2);unfold dw.f;simpa using this
theorem yD {n:Int} (h0:0≤n) (h1:n≤9223372036854775807):pO.f n=some (iZ n):=by
 unfold pO.f iZ;rw[Int.tmod_eq_emod_of_nonneg h0,Int.tdiv_eq_ediv_of_nonneg h0,bE (by omega) (by omega),pU,pU];simp only[Option.bind_some];have a:=iV (n%65536);have b:=iV (n / 65536);rw[if_pos (by omega)]
theorem CO (suf:List Int):∀(pre acc:List Int) (n:Int),n=(pre.length:Int)+suf.length→n≤1000→acc.length+3*suf.length≤100000→
 Ev (fun k=>eO.l0 k acc (pre++suf) n pre.length) (acc++(suf.map dU).flatten):=by
 induction suf with
 |nil=>intro pre acc n hn _ _;subst hn;exact bP (fun k=>by rw[eO.l0,if_neg (by simp)];simp)
 |cons b suf ih=>intro pre acc n hn hp hl;simp only[List.length_cons,Int.natCast_add,Int.natCast_one]at hn hl;have hv:=iV b;have h:=ih (pre++[b]) (acc++dU b) n (by simp;omega) hp (by simp only[List.length_append];omega);rw[show((pre++[b]).length:Int)=(pre.length:Int)+1 from by simp,show pre++[b]++suf=pre++b::suf from by simp]at h;refine Ev.step (fun k=>?_) (by simpa using h);rw[eO.l0,if_pos (by omega),if_pos (by omega),if_pos (by simp;omega),iK,pU];simp only[Option.bind_some];rw[if_pos (by omega),bE (by omega) (by omega)]
theorem yE {l:List Int} (hl:l.length≤1000):Ev (fun k=>eO.f k l) (kQ l):=by
 unfold eO.f kQ;have hv:=iV (l.length:Int);refine jv (pU _) ?_;have:=CO l [] (dU l.length) l.length (by simp) (by omega) (by omega);simpa using this
theorem CU (suf:List aT):∀(pre:List aT) (acc:List Int) (n:Int),n=(pre.length:Int)+suf.length→n≤4→(∀y∈suf,qz y)→acc.length+45*suf.length≤100000→
 Ev (fun k=>bJ.l1 k acc (pre++suf) n pre.length) (acc++(suf.map nE).flatten):=by
 induction suf with
 |nil=>intro pre acc n hn _ _ _;subst hn;exact bP (fun k=>by rw[bJ.l1,if_neg (by simp)];simp)
 |cons b suf ih=>intro pre acc n hn hp hs hl;simp only[List.length_cons,Int.natCast_add,Int.natCast_one]at hn hl;have hb:=hs b (by simp);have l1:=rz b.f0;have l2:=rZ hb.2.1;have h:=ih (pre++[b]) (acc++(iZ b.f0++kQ b.f1)) n (by simp;omega) hp (fun y hy=>hs y (by simp[hy])) (by simp only[List.length_append];omega);rw[show((pre++[b]).length:Int)=(pre.length:Int)+1 from by simp,show pre++[b]++suf=pre++b::suf from by simp]at h;refine Ev.step (f:=fun k=>(eO.f k b.f1).bind fun Ab=>(dw.f k (([acc,iZ b.f0,Ab]:List (List Int)))).bind fun Ag=>bJ.l1 k Ag (pre++b::suf) n ((pre.length:Int)+1)) (fun k=>?_) (bB (yE (by have:=hb.2.1;omega)) (bB (zJ (by simp) (by simp;omega)) (by simpa[nE]using h)));rw[bJ.l1,if_pos (by omega),if_pos (by omega),if_pos (by simp;omega),qL,yD (by have:=hb.1;omega) (by have:=hb.1;omega),bE (by omega) (by omega)];simp only[Option.bind_some]
theorem CS (a0:Int) (i1:List aM) (o:List aT) (ho:∀y∈o,qz y) (h2:o.length≤4) (suf:List aM):∀(pre:List aM) (acc:List Int) (n:Int),n=(pre.length:Int)+suf.length→n≤4→(∀x∈suf,oL x)→acc.length+36*suf.length≤10000→
 Ev (fun k=>bJ.l0 k acc (pre++suf) n pre.length a0 i1 o) (acc++((suf.map (lF true)).flatten++(dU o.length++(o.map nE).flatten))):=by
 induction suf with
 |nil=>intro pre acc n hn _ _ hl;subst hn;have hv:=iV (o.length:Int);have h:=CU o [] (acc++dU o.length) o.length (by simp) (by omega) ho (by simp only[List.length_append];omega);refine Ev.step (f:=fun k=>bJ.l1 k (acc++dU o.length) o o.length 0) (fun k=>?_) (by simpa using h);rw[bJ.l0,if_neg (by simp),pU];simp only[Option.bind_some];rw[if_pos (by omega)]
 |cons b suf ih=>intro pre acc n hn hp hs hl;simp only[List.length_cons,Int.natCast_add,Int.natCast_one]at hn hl;have hb:=hs b (by simp);have l1:=rz b.f0;have l2:=rZ hb.2.2.1;have l3:=iV b.f1;have h:=ih (pre++[b]) (acc++(iZ b.f0++(dU b.f1++kQ b.f2))) n (by simp;omega) hp (fun y hy=>hs y (by simp[hy])) (by simp only[List.length_append];omega);rw[show((pre++[b]).length:Int)=(pre.length:Int)+1 from by simp,show pre++[b]++suf=pre++b::suf from by simp]at h;refine Ev.step (f:=fun k=>(eO.f k b.f2).bind fun mg=>(dw.f k (([acc,iZ b.f0,dU b.f1,mg]:List (List Int)))).bind fun t201=>bJ.l0 k t201 (pre++b::suf) n ((pre.length:Int)+1) a0 i1 o) (fun k=>?_) (bB (yE (by have:=hb.2.2.1;omega)) (bB (zJ (by simp) (by simp;omega)) (by simpa[lF]using h)));rw[bJ.l0,if_pos (by omega),if_pos (by omega),if_pos (by simp;omega),nZ,yD (by have:=hb.1;omega) (by have:=hb.1;omega),bE (by omega) (by omega),pU];simp only[Option.bind_some]
theorem CR {t:aJ} (h:lg t):Ev (fun k=>bJ.f k t.f0 t.f1 t.f2) (jW true t):=by
 unfold bJ.f jW;obtain⟨h0,h1,h2,hi,ho⟩:=h;have v1:=iV t.f0;have v2:=iV (t.f1.length:Int);refine jv (pU _) (jv (pU _) (bD (by omega) ?_));have:=CS t.f0 t.f1 t.f2 ho h2.2 t.f1 [] (dU t.f0++dU t.f1.length) t.f1.length (by simp) (by omega) hi (by simp only[List.length_append];omega);simpa using this
def nu (x:aM):aM:=⟨x.f0,x.f1,[]⟩
def uz (t:aJ):aJ:=⟨t.f0,t.f1.map nu,t.f2⟩
theorem BD {x:aM} (h:oL x):oL (nu x):=⟨h.1,h.2.1,by simp[nu],by simp[nu,iw]⟩
theorem BF {t:aJ} (h:lg t):lg (uz t):=by
 obtain⟨h0,h1,h2,hi,ho⟩:=h;refine⟨h0,by simpa[uz]using h1,h2,fun x hx=>?_,ho⟩;obtain⟨y,hy,rfl⟩:=List.mem_map.1 hx;exact BD (hi y hy)
theorem EB:kQ []=[0]:=by simp[kQ,dU]
theorem Fj (t:aJ):jW true (uz t)=jW false t:=by
 unfold jW uz;simp only[List.length_map,List.map_map];have:(lF true ∘ nu)=lF false:=by funext x;simp[lF,nu,EB]
 rw[this]
theorem Dc {t:aJ} (ht:lg t) (suf:List aM):∀(pre:List aM) (n:Int),t.f1=pre++suf→n=(pre.length:Int)+suf.length→n≤4→
 Ev (fun k=>gV.l0 k (pre++suf) n pre.length t.f0 (pre.map nu) t.f2) (ni (jW false t)):=by
 induction suf with
 |nil=>
  intro pre n he hn _;subst hn;have hp:t.f1.map nu=pre.map nu:=by rw[he];simp
  have h:=CR (BF ht);rw[Fj]at h;have hl:(jW false t).length≤1000:=by
   unfold jW;obtain⟨h0,h1,h2,hi,ho⟩:=ht;have v1:=iV t.f0;have v2:=iV (t.f1.length:Int);have v3:=iV (t.f2.length:Int);have f1:=rH (f:=lF false) (n:=36) (l:=t.f1) (fun x hx=>yJ (hi x hx));have f2:=rH (f:=nE) (n:=45) (l:=t.f2) (fun x hx=>zw (ho x hx));simp only[List.length_append];omega
  refine Ev.step (f:=fun k=>(bJ.f k t.f0 (pre.map nu) t.f2).bind fun Ah=>(fM.f k Ah).bind fun t234=>some t234) (fun k=>by rw[gV.l0,if_neg (by simp)]) ?_;rw[←hp];exact bB h (bB (yH (zA _ _) (by omega)) (Ev.now _))
 |cons b suf ih=>intro pre n he hn hp;simp only[List.length_cons,Int.natCast_add,Int.natCast_one]at hn;have h:=ih (pre++[b]) n (by rw[he];simp) (by simp;omega) hp;rw[show((pre++[b]).length:Int)=(pre.length:Int)+1 from by simp,show pre++[b]++suf=pre++b::suf from by simp]at h;refine Ev.step (fun k=>?_) h;rw[gV.l0,if_pos (by omega),if_pos (by omega),if_pos (by simp;omega),if_pos (by simp;omega),nZ,bE (by omega) (by omega)];simp[nu]
theorem Db {t:aJ} (h:lg t):Ev (fun k=>gV.f k t.f0 t.f1 t.f2) (ni (jW false t)):=by
 unfold gV.f;have h1:=h.2.1;have:=Dc h t.f1 [] t.f1.length (by simp) (by simp) (by omega);simpa using this
theorem Im:True:=trivial
theorem FQ (p:Int→Bool) (hp:∀x,oG.f x=some (p x)) (suf:List Int):∀(pre:List Int),(pre.length:Int)+suf.length≤9223372036854775806→
 ∃r:Int,Ev (fun k=>ig.l0 k (pre++suf) ((pre++suf).length:Int) pre.length) r∧decide (r≥0)=suf.any p:=by
 induction suf with
 |nil=>intro pre _;exact⟨-1,bP (fun k=>by rw[ig.l0,if_neg (by simp)]),by simp⟩
 |cons b suf ih=>
  intro pre hl;simp only[List.length_cons,Int.natCast_add,Int.natCast_one]at hl;cases hb:p b with
  |true=>refine⟨pre.length,bP (fun k=>?_),by simp[hb]⟩;rw[ig.l0,if_pos (by simp;omega),if_pos (by omega),if_pos (by simp;omega),iK,hp,hb];rfl
  |false=>obtain⟨r,h,hr⟩:=ih (pre++[b]) (by simp;omega);refine⟨r,Ev.step (fun k=>?_) h,by simp[hb,hr]⟩;rw[ig.l0,if_pos (by simp;omega),if_pos (by omega),if_pos (by simp;omega),iK,hp,hb,bE (by omega) (by omega)];simp
theorem FM (p:Int→Bool) (hp:∀x,oG.f x=some (p x)) {l:List Int} (hl:(l.length:Int)≤9223372036854775806):
 Ev (fun k=>mo.f k l) (l.any p):=by
 obtain⟨r,h,hr⟩:=FQ p hp l [] (by simpa using hl);rw[←hr];unfold mo.f ig.f;exact bB (by simpa using h) (Ev.now _)
def sS (x:Int):Bool:= !decide (0≤x∧x≤2147483646)
theorem CX (x:Int):oG.f x=some (sS x):=by
 unfold oG.f sS;rw[vZ];rfl
theorem Bv (l:List Int):l.any sS= !decide (iw l 0 2147483646):=by
 induction l with
 |nil=>simp[iw]
 |cons b l ih=>simp only[List.any_cons,ih,sS];by_cases h:0≤b∧b≤2147483646<;>by_cases h2:iw l 0 2147483646<;>simp[tT,h,h2]
theorem CY {l:List Int} (hl:(l.length:Int)≤9223372036854775806):Ev (fun k=>lD.f k l) (if iw l 0 2147483646 then 0 else 3):=by
 unfold lD.f;refine bB (FM sS CX hl) ?_;rw[Bv];by_cases h:iw l 0 2147483646
 ·rw[if_pos h];exact dD (by simp[h]) (Ev.now _)
 ·rw[if_neg h];exact bD (by simp[h]) (Ev.now _)
theorem Dg:∀n:Nat,n<1024→Go.bits .xor .i64 (n:Int) 1=if n%2=1 then(n:Int)-1 else n+1:=by decide+kernel
theorem yF (l:List Int) (i:Nat) (hi:i<l.length) (hl:l.length≤1000):pQ.f l i=some (pY l i):=by
 unfold pQ.f pY;rw[Dg i (by omega)];by_cases h:i%2=1
 ·rw[if_pos h,if_pos (by omega),if_pos (by omega),if_pos h];(have:(i:Int)-1=((i-1:Nat):Int):=by omega);rw[this,og]
 ·rw[if_neg h,if_neg h];by_cases h2:i+1<l.length
  ·rw[if_pos (by omega),if_pos (by omega),if_pos h2];(have:(i:Int)+1=((i+1:Nat):Int):=by omega);rw[this,og]
  ·rw[if_neg (by omega),if_pos (by omega),if_pos (by omega),if_neg h2,og]
theorem yC:∀(suf pre out:List Int),pre.length%2=0→pre.length+suf.length≤1000→out.length+suf.length≤2000→
 Ev (fun k=>dx.l0 k (pre++suf) out pre.length) (out++jq suf)
 |[],pre,out,_,_,_=>bP (fun k=>by rw[dx.l0,if_neg (by simp)];simp[jq])
 |[a],pre,out,he,hl,ho=>by
  simp only[List.length_cons,List.length_nil]at hl ho
  refine Ev.step (f:=fun k=>(pQ.f (pre++[a]) (pre.length:Int)).bind fun t=>(dX.f k [a,t]).bind fun q=>if out.length<17592186044416 then dx.l0 k (pre++[a]) (out++[q]) ((pre.length:Int)+2)else none) (fun k=>?_) ?_
  ·rw[dx.l0,if_pos (by simp;omega),if_pos (by omega),iK,bE (by omega) (by omega)]
  ·refine jv (yF _ _ (by simp) (by simp;omega)) ?_
   rw[zh pre he]
   refine bB (wh (by simp)) (bD (by omega) ?_)
   exact bP (fun k=>by rw[dx.l0,if_neg (by simp)];simp[jq])
 |a::b::t,pre,out,he,hl,ho=>by
  simp only[List.length_cons]at hl ho
  have ih:=yC t (pre++[a,b]) (out++[nk [a,b]]) (by simp;omega) (by simp;omega) (by simp;omega)
  refine Ev.step (f:=fun k=>(pQ.f (pre++a::b::t) (pre.length:Int)).bind fun u=>(dX.f k [a,u]).bind fun q=>if out.length<17592186044416 then dx.l0 k (pre++a::b::t) (out++[q]) ((pre.length:Int)+2)else none) (fun k=>?_) ?_
  ·rw[dx.l0,if_pos (by simp;omega),if_pos (by omega),iK,bE (by omega) (by omega)]
  ·refine jv (yF _ _ (by simp) (by simp;omega)) ?_
   rw[zf pre he]
   refine bB (wh (by simp)) (bD (by omega) ?_)
   simpa[jq]using ih
theorem yB {l:List Int} (hl:l.length≤1000):Ev (fun k=>dx.f k l) (jq l):=by
 unfold dx.f;exact yC l [] [] rfl (by simpa using hl) (by simp;omega)
theorem CK {l:List Int} (hl:l.length≤140737488351232):Ev (fun k=>jH.f k l) (nV l):=by
 unfold jH.f nV;refine jv (lU _ _ _) ?_;by_cases h:1≤l.length∧l.length≤8
 ·rw[if_pos h];refine bD (by simp;omega) (bB (CY (by omega)) (Ev.now _))
 ·rw[if_neg h];exact dD (by simp;omega) (Ev.now _)
theorem yA (n:Nat) (r:Bool):∀(suf pre:List Int),pre.length%2=0→pre.length+suf.length≤1000→
 (lZ suf=false→Ev (fun k=>(dx.f k (pre++suf)).bind fun t=>dB.l0 k t) r)→(lZ suf=true→r=true)→Ev (fun k=>dB.l1 k (pre++suf) ((pre.length:Int)+1)) r
 |[],pre,he,hl,h1,h2=>by
  refine Ev.step (fun k=>?_) (h1 rfl)
  rw[dB.l1,if_neg (by simp;omega)]
 |[a],pre,he,hl,h1,h2=>by
  refine Ev.step (fun k=>?_) (h1 rfl)
  rw[dB.l1,if_neg (by simp)]
 |a::b::t,pre,he,hl,h1,h2=>by
  simp only[List.length_cons]at hl
  have hb:rd (pre++a::b::t) ((pre.length:Int)+1)=b:=by
   have:=iK (pre++[a]) b t
   simpa using this
  have hw:wrap64 ((pre.length:Int)+1-1)=(pre.length:Int):=by rw[bE (by omega) (by omega)];omega
  by_cases hab:a=b
  ·have hr:r=true:=h2 (by simp[lZ,hab])
   subst hr
   refine bP (fun k=>?_)
   rw[dB.l1,hw,if_pos (by simp;omega),if_pos (by omega),if_pos (by simp;omega),if_pos (by omega),iK,hb,if_pos hab]
  ·have ih:=yA n r t (pre++[a,b]) (by simp;omega) (by simp;omega) (fun h=>by simpa using h1 (by simp[lZ,hab,h])) (fun h=>h2 (by simp[lZ,h]))
   refine Ev.step (fun k=>?_) ih
   rw[dB.l1,hw,bE (by omega) (by omega),if_pos (by simp;omega),if_pos (by omega),if_pos (by simp;omega),if_pos (by omega),iK,hb,if_neg hab]
   have:(pre.length:Int)+1+2=((pre++[a,b]).length:Int)+1:=by simp;omega
   rw[this]
   simp
theorem yx:∀(n:Nat) (l:List Int),l.length≤n+1→l.length≤1000→Ev (fun k=>dB.l0 k l) (jy n l)
 |n,l,h1,h2=>by
  by_cases h:l.length>1
  ·obtain⟨m,rfl⟩:∃m,n=m+1:=⟨n-1,by omega⟩
   refine Ev.step (f:=fun k=>dB.l1 k l 1) (fun k=>by rw[dB.l0,if_pos (by omega)]) ?_
   have hlen:=sQ l
   unfold jy
   rw[if_pos h]
   refine yA m _ l [] rfl (by simpa using h2) (fun hp=>?_) (fun hp=>by rw[hp];rfl)
   rw[hp]
   exact bB (yB h2) (yx m (jq l) (by omega) (by omega))
  ·have e:jy n l=false:=by cases n<;>(unfold jy;rw[if_neg h])
   rw[e]
   exact bP (fun k=>by rw[dB.l0,if_neg (by omega)])
theorem Cj {l:List Int} (hl:l.length≤140737488351232):Ev (fun k=>dB.f k l) (vk l):=by
 unfold dB.f vk;refine bB (CK hl) ?_;by_cases h:nV l=0
 ·have hh:=EA h;rw[if_pos h];exact bD h (yx 7 l (by omega) (by omega))
 ·rw[if_neg h];exact dD h (Ev.now _)
theorem Cv (a:Int):mM.f a=some (decide (1≤a∧a≤1023∧Int.tmod a 256>0)):=by
 unfold mM.f;rw[lU];by_cases h:1≤a∧a≤1023
 ·simp[h]
 ·simp only[Option.bind_some,h,decide_false,Bool.false_eq_true,if_false];congr 1;symm;simp;omega
theorem Df (suf:List aJ):∀(pre:List aJ) (n:Int),n=(pre.length:Int)+suf.length→(∀t∈suf,lg t)→n≤100→
 Ev (fun k=>eH.l0 k (dZ pre) (pre++suf) n pre.length) (dZ (pre++suf)):=by
 induction suf with
 |nil=>intro pre n hn _ _;subst hn;exact bP (fun k=>by rw[eH.l0,if_neg (by simp)];simp)
 |cons t suf ih=>
  intro pre n hn hs hl;simp only[List.length_cons,Int.natCast_add,Int.natCast_one]at hn;have h:=ih (pre++[t]) n (by simp;omega) (fun x hx=>hs x (by simp[hx])) hl;rw[show((pre++[t]).length:Int)=(pre.length:Int)+1 from by simp,show pre++[t]++suf=pre++t::suf from by simp]at h;refine Ev.step (f:=fun k=>(gV.f k t.f0 t.f1 t.f2).bind fun u=>if(dZ pre).length<17592186044416 then eH.l0 k (dZ pre++[u]) (pre++t::suf) n ((pre.length:Int)+1)else none) (fun k=>?_) (bB (Db (hs t (by simp))) (bD (by simp[dZ];omega) ?_))
  ·rw[eH.l0,if_pos (by omega),if_pos (by omega),if_pos (by simp;omega),qc,bE (by omega) (by omega)]
  ·simpa[dZ,tQ]using h
theorem yI {b:bN} (hs:∀t∈b.f4,lg t) (hl:(b.f4.length:Int)≤100):Ev (fun k=>eH.f k b.f0 b.f1 b.f2 b.f3 b.f4) (dZ b.f4):=by
 unfold eH.f;have:=Df b.f4 [] b.f4.length (by simp) hs hl;simpa[dZ]using this
theorem Ci (b:bN) (hall:∀t∈b.f4,kG t=0) (h1:1≤(b.f4.length:Int)) (h4:(b.f4.length:Int)≤4) (suf:List aJ):∀(pre:List aJ) (n:Int),n=(pre.length:Int)+suf.length→n≤1048576→
 Ev (fun k=>bI.l1 k (pre++suf) n pre.length b.f0 b.f1 b.f2 b.f3 b.f4) (if lu ((pre.length:Int)==0) suf=true then(if jy 7 (dZ b.f4)=true then 6 else 0)else 1):=by
 induction suf with
 |nil=>
  intro pre n hn _;subst hn;refine Ev.step (f:=fun k=>(eH.f k b.f0 b.f1 b.f2 b.f3 b.f4).bind fun Jk=>((dB.f k Jk).bind fun Jl=>(if Jl=true then(some 6)else(some 0)))) (fun k=>by rw[bI.l1,if_neg (by simp)]) ?_;have hv:vk (dZ b.f4)=jy 7 (dZ b.f4):=by unfold vk;rw[if_pos (GK h1 h4)]
  have hlen:(dZ b.f4).length=b.f4.length:=by simp[dZ]
  have ht:=Cj (l:=dZ b.f4) (by omega);rw[hv]at ht;refine bB (yI (fun t ht=>wS (hall t ht)) (by omega)) (bB ht ?_);rw[show(if lu ((pre.length:Int)==0) []=true then(if jy 7 (dZ b.f4)=true then(6:Int)else 0)else 1)=(if jy 7 (dZ b.f4)=true then(6:Int)else 0)from if_pos rfl];by_cases ht:jy 7 (dZ b.f4)=true
  ·rw[show(if jy 7 (dZ b.f4)=true then(6:Int)else 0)=6 from if_pos ht];exact bD ht (Ev.now _)
  ·rw[show(if jy 7 (dZ b.f4)=true then(6:Int)else 0)=0 from if_neg ht];exact dD ht (Ev.now _)
 |cons t suf ih=>
  intro pre n hn hl;simp only[List.length_cons,Int.natCast_add,Int.natCast_one]at hn;have h:=ih (pre++[t]) n (by simp;omega) hl;rw[show((pre++[t]).length:Int)=(pre.length:Int)+1 from by simp,show pre++[t]++suf=pre++t::suf from by simp,show((pre.length:Int)+1==0)=false from by rw[beq_eq_false_iff_ne];omega]at h;have hstep:∀k,bI.l1 (k+1) (pre++t::suf) n pre.length b.f0 b.f1 b.f2 b.f3 b.f4=if(((t.f1.length:Int)==0) != ((pre.length:Int)==0))=true then some 1 else bI.l1 k (pre++t::suf) n ((pre.length:Int)+1) b.f0 b.f1 b.f2 b.f3 b.f4:=by
   intro k;rw[bI.l1,if_pos (by omega),if_pos (by omega),if_pos (by simp;omega),qc,bE (by omega) (by omega)];rfl
  by_cases hq:((t.f1.length:Int)==0)=((pre.length:Int)==0)
  ·rw[show lu ((pre.length:Int)==0) (t::suf)=lu false suf from by rw[lu,if_pos hq]];exact Ev.step (fun k=>by rw[hstep,if_neg (by rw[hq];simp)]) h
  ·rw[show lu ((pre.length:Int)==0) (t::suf)=false from by rw[lu,if_neg hq],if_neg (by decide)];exact bP (fun k=>by rw[hstep,if_pos (by rw[bne_iff_ne];exact hq)])
theorem Ch (b:bN) (e:Int) (suf:List aJ):∀(pre:List aJ) (n:Int),n=(pre.length:Int)+suf.length→(∀t∈suf,TB t)→n≤1048576→
 ((∀t∈suf,kG t=0)→Ev (fun k=>bI.l1 k b.f4 b.f4.length 0 b.f0 b.f1 b.f2 b.f3 b.f4) e)→
 Ev (fun k=>bI.l0 k (pre++suf) n pre.length b.f0 b.f1 b.f2 b.f3 b.f4) (qm suf e):=by
 induction suf with
 |nil=>intro pre n hn _ _ he;subst hn;exact Ev.step (fun k=>by rw[bI.l0,if_neg (by simp)]) (he (by simp))
 |cons t suf ih=>
  intro pre n hn hs hl he;simp only[List.length_cons,Int.natCast_add,Int.natCast_one]at hn;have ht:=hs t (by simp);unfold qm;refine Ev.step (f:=fun k=>(dh.f k t.f0 t.f1 t.f2).bind fun aS=>if aS=0 then bI.l0 k (pre++t::suf) n ((pre.length:Int)+1) b.f0 b.f1 b.f2 b.f3 b.f4 else some aS) (fun k=>?_) (bB (Cq ht.1 ht.2) ?_)
  ·rw[bI.l0,if_pos (by omega),if_pos (by omega),if_pos (by simp;omega),qc,bE (by omega) (by omega)]
  ·by_cases h0:kG t=0
   ·rw[if_pos h0];have h:=ih (pre++[t]) n (by simp;omega) (fun x hx=>hs x (by simp[hx])) hl (fun hx=>he (fun y hy=>by rcases List.mem_cons.1 hy with rfl|hy;exact h0;exact hx y hy));rw[show((pre++[t]).length:Int)=(pre.length:Int)+1 from by simp,show pre++[t]++suf=pre++t::suf from by simp]at h;exact bD h0 h
   ·rw[if_neg h0];exact dD h0 (Ev.now _)
theorem Cg {b:bN} (hl:b.f4.length≤1048576) (hs:∀t∈b.f4,TB t):Ev (fun k=>bI.f k b.f0 b.f1 b.f2 b.f3 b.f4) (jR b):=by
 unfold bI.f;refine Ev.congr (f:=fun k=>bI.j0 k (!lC b) b.f0 b.f1 b.f2 b.f3 b.f4) (fun k=>?_) ?_
 ·rw[vZ,lU,Cv,lU];simp only[Option.bind_some,lC];cases decide (0≤b.f0∧b.f0≤2147483646)<;>cases decide (1≤b.f1∧b.f1≤99999)<;>cases decide (1≤b.f2∧b.f2≤1023∧Int.tmod b.f2 256>0)<;>simp
 ·unfold jR;cases hh:lC b with
  |false=>exact bP (fun k=>by rw[bI.j0];simp)
  |true=>
   rw[if_pos rfl];refine Ev.step (f:=fun k=>(bQ.f (b.f4.length:Int) 1 4).bind fun Jj=>(if Jj=true then(bI.l0 k b.f4 (b.f4.length:Int) 0 b.f0 b.f1 b.f2 b.f3 b.f4)else(some 2))) (fun k=>by rw[bI.j0];simp) ?_;refine jv (lU _ _ _) ?_;by_cases h2:1≤(b.f4.length:Int)∧(b.f4.length:Int)≤4
   ·rw[if_neg (by omega)];refine bD (by simpa using h2) ?_;have h:=Ch b (rF b) b.f4 [] b.f4.length (by simp) hs (by omega) (fun hx=>by
     have:=Ci b hx h2.1 h2.2 b.f4 [] b.f4.length (by simp) (by omega);simpa[rF]using this)
    simpa using h
   ·rw[if_pos (by omega)];exact dD (by simpa using h2) (Ev.now _)
theorem zU:∀(n:Nat) (l:List Int),1≤l.length→l.length≤n+1→l.length≤1000→Ev (fun k=>gQ.l0 k l) (nH n l)
 |0,l,h1,h2,_=>bP (fun k=>by rw[gQ.l0,if_neg (by omega),if_pos (by omega)];have:=og l 0;simp at this;simp[nH,this])
 |n+1,l,h1,h2,h3=>by
  unfold nH
  by_cases h:l.length>1
  ·rw[if_pos h]
   have hlen:=sQ l
   have ih:=zU n (jq l) (by omega) (by omega) (by omega)
   exact Ev.step (f:=fun k=>(dz.f k l).bind fun t=>gQ.l0 k t) (fun k=>by rw[gQ.l0,if_pos (by omega)]) (bB (zQ h3) ih)
  ·rw[if_neg h]
   exact bP (fun k=>by rw[gQ.l0,if_neg (by omega),if_pos (by omega)];have:=og l 0;simp at this;simp[this])
theorem yG:∀(n:Nat) (l:List Int),1≤l.length→l.length≤n+1→l.length≤1000→Ev (fun k=>gK.l0 k l) (nH n l)
 |0,l,h1,h2,_=>bP (fun k=>by rw[gK.l0,if_neg (by omega),if_pos (by omega)];have:=og l 0;simp at this;simp[nH,this])
 |n+1,l,h1,h2,h3=>by
  unfold nH
  by_cases h:l.length>1
  ·rw[if_pos h]
   have hlen:=sQ l
   have ih:=yG n (jq l) (by omega) (by omega) (by omega)
   exact Ev.step (f:=fun k=>(dx.f k l).bind fun t=>gK.l0 k t) (fun k=>by rw[gK.l0,if_pos (by omega)]) (bB (yB h3) ih)
  ·rw[if_neg h]
   exact bP (fun k=>by rw[gK.l0,if_neg (by omega),if_pos (by omega)];have:=og l 0;simp at this;simp[this])
def tgt (b:Int):Int:=(b%256+1)*2 ^ (7*(b / 256)).toNat-1
theorem FZ:∀n:Nat,n<1024→oh.f (n:Int)=some (tgt n):=by decide+kernel
theorem CZ:∀n:Nat,n<1024→nU.f (n:Int)=some (tgt n):=by decide+kernel
theorem Ga {a:Int} (h0:0≤a) (h1:a≤1023):oh.f a=some (tgt a):=by
 have e:=FZ a.toNat (by omega)
 rwa [Int.toNat_of_nonneg h0]at e
theorem Da {a:Int} (h0:0≤a) (h1:a≤1023):nU.f a=some (tgt a):=by
 have e:=CZ a.toNat (by omega)
 rwa [Int.toNat_of_nonneg h0]at e
def marks (k:Int):Nat→List Int
 |0=>[]
 |n+1=>k::marks (k+1) n
theorem EH (k:Int) (n:Nat):(marks k n).length=n:=by
 induction n generalizing k with
 |zero=>rfl
 |succ n ih=>simp[marks,ih]
theorem DY (suf:List Int):∀(pre:List Int) (q:Int),0≤q→q+suf.length≤9223372036854775806→(pre.length:Int)+suf.length≤9223372036854775806→
 Ev (fun k=>fP.l0 k (pre++suf) q pre.length) (q+suf.length,pre++marks q suf.length):=by
 induction suf with
 |nil=>intro pre q _ _ _;exact bP (fun k=>by simp[fP.l0,marks])
 |cons b suf ih=>
  intro pre q h0 hq hl;simp only[List.length_cons,Int.natCast_add,Int.natCast_one]at hl hq;have h:=ih (pre++[q]) (q+1) (by omega) (by omega) (by simp;omega);refine Ev.step (f:=fun k=>fP.l0 k (pre++[q]++suf) (q+1) ((pre++[q]).length:Int)) (fun k=>?_) ?_
  ·rw[fP.l0];rw[if_pos (by simp;omega),if_pos (by omega),bE (x:=q+1) (by omega) (by omega),bE (by omega) (by omega)];simp
  ·have e:((q+((b::suf).length:Int),pre++marks q (b::suf).length):Int×List Int)=(q+1+(suf.length:Int),pre++[q]++marks (q+1) suf.length):=by
    simp[marks];omega
   rw[e];exact h
theorem yU {l:List Int} {q:Int} (h0:0≤q) (hq:q≤4611686018427387904) (hl:l.length≤140737488351232):Ev (fun k=>fP.f k l q) (q+l.length,marks q l.length):=by
 have h:=DY l [] q h0 (by omega) (by simp;omega);unfold fP.f;simpa using h
theorem DN (n:Nat):∀(pre:List Int) (q:Int),0≤q→q+n≤9223372036854775806→(pre.length:Int)+n≤9223372036854775806→
 Ev (fun k=>fq.l0 k (pre++marks q n) q pre.length) (q+n):=by
 induction n with
 |zero=>intro pre q _ _ _;exact bP (fun k=>by simp[fq.l0,marks])
 |succ n ih=>
  intro pre q h0 hq hl;simp only[Int.natCast_add,Int.natCast_one]at hl hq;have h:=ih (pre++[q]) (q+1) (by omega) (by omega) (by simp;omega);refine Ev.step (f:=fun k=>fq.l0 k (pre++[q]++marks (q+1) n) (q+1) ((pre++[q]).length:Int)) (fun k=>?_) ?_
  ·rw[fq.l0,marks];rw[if_pos (by simp[EH];omega),if_pos (by omega),iK,if_pos rfl,bE (x:=q+1) (by omega) (by omega),bE (by omega) (by omega)];simp
  ·(have e:q+((n+1:Nat):Int)=q+1+(n:Int):=by omega);rw[e];exact h
theorem yS {q:Int} {n:Nat} (h0:0≤q) (hq:q≤4611686018427387904) (hl:n≤140737488351232):Ev (fun k=>fq.f k (marks q n) q) (q+n):=by
 have h:=DN n [] q h0 (by omega) (by simp;omega);unfold fq.f;simpa using h
def gW (q:Int):List aM→List aM
 |[]=>[]
 |x::r=>⟨q,q+1,marks (q+2) x.f2.length⟩::gW (q+2+x.f2.length) r
def dH:List aM→Nat
 |[]=>0
 |x::r=>2+x.f2.length+dH r
theorem DX (suf:List aM):∀(pre:List aM) (q:Int),0≤q→q+dH suf≤4611686018427387904→(pre.length:Int)+suf.length≤1048576→(∀x∈suf,(x.f2.length:Int)≤1048576)→
 Ev (fun k=>eU.l0 k (pre++suf) q pre.length) (q+dH suf,pre++gW q suf):=by
 induction suf with
 |nil=>intro pre q _ _ _ _;exact bP (fun k=>by simp[eU.l0,gW,dH])
 |cons b suf ih=>
  intro pre q h0 hq hl hs;have hb:=hs b (by simp);have hsz:(dH (b::suf):Int)=2+b.f2.length+dH suf:=by simp[dH]
  simp only[List.length_cons,Int.natCast_add,Int.natCast_one]at hl;have h:=ih (pre++[(⟨q,q+1,marks (q+2) b.f2.length⟩:aM)]) (q+2+b.f2.length) (by omega) (by omega) (by simp;omega) (fun x hx=>hs x (by simp[hx]));have hrd:(pre++b::suf).getD ((pre.length:Int)).toNat jd=b:=by simp
  have hm:=yU (l:=b.f2) (q:=q+2) (by omega) (by omega) (by omega);have hset:(pre++b::suf).set ((pre.length:Int)).toNat (⟨q,q+1,marks (q+2) b.f2.length⟩:aM)=pre++(⟨q,q+1,marks (q+2) b.f2.length⟩:aM)::suf:=by simp
  refine Ev.step (f:=fun k=>(fP.f k b.f2 (q+2)).bind fun t=>eU.l0 k ((pre++b::suf).set ((pre.length:Int)).toNat (⟨q,q+1,t.2⟩:aM)) t.1 ((pre.length:Int)+1)) (fun k=>?_) (bB hm ?_)
  ·rw[eU.l0,if_pos (by simp;omega),if_pos (by omega),hrd,bE (x:=q+1) (by omega) (by omega),bE (x:=q+1+1) (by omega) (by omega),bE (x:=(pre.length:Int)+1) (by omega) (by omega)];rw[show q+1+1=q+2 by omega]
  ·show Ev (fun k=>eU.l0 k ((pre++b::suf).set ((pre.length:Int)).toNat (⟨q,q+1,marks (q+2) b.f2.length⟩:aM)) (q+2+b.f2.length) ((pre.length:Int)+1)) _;rw[hset,hsz];(have e1:pre++[(⟨q,q+1,marks (q+2) b.f2.length⟩:aM)]++suf=pre++(⟨q,q+1,marks (q+2) b.f2.length⟩:aM)::suf:=by simp);(have e2:pre++[(⟨q,q+1,marks (q+2) b.f2.length⟩:aM)]++gW (q+2+b.f2.length) suf=pre++gW q (b::suf):=by simp[gW]);(have e3:((pre++[(⟨q,q+1,marks (q+2) b.f2.length⟩:aM)]).length:Int)=(pre.length:Int)+1:=by simp);rw[e1,e2,e3]at h;(have e4:q+2+(b.f2.length:Int)+(dH suf:Int)=q+(2+(b.f2.length:Int)+(dH suf:Int)):=by omega);rw[e4]at h;exact h
theorem DW {l:List aM} {q:Int} (h0:0≤q) (hq:q+dH l≤4611686018427387904) (hl:l.length≤1048576∧∀x∈l,(x.f2.length:Int)≤1048576):Ev (fun k=>eU.f k l q) (q+dH l,gW q l):=by
 unfold eU.f;exact DX l [] q h0 hq (by simp;omega) hl.2
theorem DL (suf:List aM):∀(pre:List aM) (q:Int),0≤q→q+dH suf≤4611686018427387904→(pre.length:Int)+suf.length≤1048576→(∀x∈suf,(x.f2.length:Int)≤1048576)→
 Ev (fun k=>fV.l0 k (pre++gW q suf) q pre.length) (q+dH suf):=by
 induction suf with
 |nil=>intro pre q _ _ _ _;exact bP (fun k=>by simp[fV.l0,gW,dH])
 |cons b suf ih=>
  intro pre q h0 hq hl hs;have hb:=hs b (by simp);have hsz:(dH (b::suf):Int)=2+b.f2.length+dH suf:=by simp[dH]
  simp only[List.length_cons,Int.natCast_add,Int.natCast_one]at hl;have h:=ih (pre++[(⟨q,q+1,marks (q+2) b.f2.length⟩:aM)]) (q+2+b.f2.length) (by omega) (by omega) (by simp;omega) (fun x hx=>hs x (by simp[hx]));have hrd:aD (pre++gW q (b::suf)) (pre.length:Int)=(⟨q,q+1,marks (q+2) b.f2.length⟩:aM):=by unfold aD;simp[gW]
  have hm:=yS (n:=b.f2.length) (q:=q+2) (by omega) (by omega) (by omega);refine Ev.step (f:=fun k=>(fq.f k (marks (q+2) b.f2.length) (q+2)).bind fun t=>if t<0 then some (-1)else fV.l0 k (pre++gW q (b::suf)) t ((pre.length:Int)+1)) (fun k=>?_) (bB hm (dD (by omega) ?_))
  ·rw[fV.l0,if_pos (by simp[gW];omega),if_pos (by omega),hrd,if_pos rfl,bE (x:=q+1) (by omega) (by omega),if_pos rfl,bE (x:=q+1+1) (by omega) (by omega),bE (x:=(pre.length:Int)+1) (by omega) (by omega)];rw[show q+1+1=q+2 by omega]
  ·rw[hsz];(have e2:pre++[(⟨q,q+1,marks (q+2) b.f2.length⟩:aM)]++gW (q+2+b.f2.length) suf=pre++gW q (b::suf):=by simp[gW]);(have e3:((pre++[(⟨q,q+1,marks (q+2) b.f2.length⟩:aM)]).length:Int)=(pre.length:Int)+1:=by simp);rw[e2,e3]at h;(have e4:q+2+(b.f2.length:Int)+(dH suf:Int)=q+(2+(b.f2.length:Int)+(dH suf:Int)):=by omega);rw[e4]at h;exact h
theorem DK {l:List aM} {q:Int} (h0:0≤q) (hq:q+dH l≤4611686018427387904) (hl:l.length≤1048576∧∀x∈l,(x.f2.length:Int)≤1048576):Ev (fun k=>fV.f k (gW q l) q) (q+dH l):=by
 unfold fV.f;exact DL l [] q h0 hq (by simp;omega) hl.2
def gX (q:Int):List aT→List aT
 |[]=>[]
 |x::r=>⟨q,marks (q+1) x.f1.length⟩::gX (q+1+x.f1.length) r
def fC:List aT→Nat
 |[]=>0
 |x::r=>1+x.f1.length+fC r
theorem Ea (suf:List aT):∀(pre:List aT) (q:Int),0≤q→q+fC suf≤4611686018427387904→(pre.length:Int)+suf.length≤1048576→(∀x∈suf,(x.f1.length:Int)≤1048576)→
 Ev (fun k=>fF.l0 k (pre++suf) q pre.length) (q+fC suf,pre++gX q suf):=by
 induction suf with
 |nil=>intro pre q _ _ _ _;exact bP (fun k=>by simp[fF.l0,gX,fC])
 |cons b suf ih=>
  intro pre q h0 hq hl hs;have hb:=hs b (by simp);have hsz:(fC (b::suf):Int)=1+b.f1.length+fC suf:=by simp[fC]
  simp only[List.length_cons,Int.natCast_add,Int.natCast_one]at hl;have h:=ih (pre++[(⟨q,marks (q+1) b.f1.length⟩:aT)]) (q+1+b.f1.length) (by omega) (by omega) (by simp;omega) (fun x hx=>hs x (by simp[hx]));have hrd:(pre++b::suf).getD ((pre.length:Int)).toNat z130=b:=by simp
  have hm:=yU (l:=b.f1) (q:=q+1) (by omega) (by omega) (by omega);have hset:(pre++b::suf).set ((pre.length:Int)).toNat (⟨q,marks (q+1) b.f1.length⟩:aT)=pre++(⟨q,marks (q+1) b.f1.length⟩:aT)::suf:=by simp
  refine Ev.step (f:=fun k=>(fP.f k b.f1 (q+1)).bind fun t=>fF.l0 k ((pre++b::suf).set ((pre.length:Int)).toNat (⟨q,t.2⟩:aT)) t.1 ((pre.length:Int)+1)) (fun k=>?_) (bB hm ?_)
  ·rw[fF.l0,if_pos (by simp;omega),if_pos (by omega),hrd,bE (x:=q+1) (by omega) (by omega),bE (x:=(pre.length:Int)+1) (by omega) (by omega)]
  ·show Ev (fun k=>fF.l0 k ((pre++b::suf).set ((pre.length:Int)).toNat (⟨q,marks (q+1) b.f1.length⟩:aT)) (q+1+b.f1.length) ((pre.length:Int)+1)) _;rw[hset,hsz];(have e1:pre++[(⟨q,marks (q+1) b.f1.length⟩:aT)]++suf=pre++(⟨q,marks (q+1) b.f1.length⟩:aT)::suf:=by simp);(have e2:pre++[(⟨q,marks (q+1) b.f1.length⟩:aT)]++gX (q+1+b.f1.length) suf=pre++gX q (b::suf):=by simp[gX]);(have e3:((pre++[(⟨q,marks (q+1) b.f1.length⟩:aT)]).length:Int)=(pre.length:Int)+1:=by simp);rw[e1,e2,e3]at h;(have e4:q+1+(b.f1.length:Int)+(fC suf:Int)=q+(1+(b.f1.length:Int)+(fC suf:Int)):=by omega);rw[e4]at h;exact h
theorem DZ {l:List aT} {q:Int} (h0:0≤q) (hq:q+fC l≤4611686018427387904) (hl:l.length≤1048576∧∀x∈l,(x.f1.length:Int)≤1048576):Ev (fun k=>fF.f k l q) (q+fC l,gX q l):=by
 unfold fF.f;exact Ea l [] q h0 hq (by simp;omega) hl.2
theorem DT (suf:List aT):∀(pre:List aT) (q:Int),0≤q→q+fC suf≤4611686018427387904→(pre.length:Int)+suf.length≤1048576→(∀x∈suf,(x.f1.length:Int)≤1048576)→
 Ev (fun k=>fZ.l0 k (pre++gX q suf) q pre.length) (q+fC suf):=by
 induction suf with
 |nil=>intro pre q _ _ _ _;exact bP (fun k=>by simp[fZ.l0,gX,fC])
 |cons b suf ih=>
  intro pre q h0 hq hl hs;have hb:=hs b (by simp);have hsz:(fC (b::suf):Int)=1+b.f1.length+fC suf:=by simp[fC]
  simp only[List.length_cons,Int.natCast_add,Int.natCast_one]at hl;have h:=ih (pre++[(⟨q,marks (q+1) b.f1.length⟩:aT)]) (q+1+b.f1.length) (by omega) (by omega) (by simp;omega) (fun x hx=>hs x (by simp[hx]));have hrd:aX (pre++gX q (b::suf)) (pre.length:Int)=(⟨q,marks (q+1) b.f1.length⟩:aT):=by unfold aX;simp[gX]
  have hm:=yS (n:=b.f1.length) (q:=q+1) (by omega) (by omega) (by omega);refine Ev.step (f:=fun k=>(fq.f k (marks (q+1) b.f1.length) (q+1)).bind fun t=>if t<0 then some (-1)else fZ.l0 k (pre++gX q (b::suf)) t ((pre.length:Int)+1)) (fun k=>?_) (bB hm (dD (by omega) ?_))
  ·rw[fZ.l0,if_pos (by simp[gX];omega),if_pos (by omega),hrd,if_pos rfl,bE (x:=q+1) (by omega) (by omega),bE (x:=(pre.length:Int)+1) (by omega) (by omega)]
  ·rw[hsz];(have e2:pre++[(⟨q,marks (q+1) b.f1.length⟩:aT)]++gX (q+1+b.f1.length) suf=pre++gX q (b::suf):=by simp[gX]);(have e3:((pre++[(⟨q,marks (q+1) b.f1.length⟩:aT)]).length:Int)=(pre.length:Int)+1:=by simp);rw[e2,e3]at h;(have e4:q+1+(b.f1.length:Int)+(fC suf:Int)=q+(1+(b.f1.length:Int)+(fC suf:Int)):=by omega);rw[e4]at h;exact h
theorem DR {l:List aT} {q:Int} (h0:0≤q) (hq:q+fC l≤4611686018427387904) (hl:l.length≤1048576∧∀x∈l,(x.f1.length:Int)≤1048576):Ev (fun k=>fZ.f k (gX q l) q) (q+fC l):=by
 unfold fZ.f;exact DT l [] q h0 hq (by simp;omega) hl.2
def jm:List aJ→Nat
 |[]=>0
 |x::r=>1+dH x.f1+fC x.f2+jm r
def mkT (q:Int):List aJ→List aJ
 |[]=>[]
 |x::r=>⟨q,gW (q+1) x.f1,gX (q+1+dH x.f1) x.f2⟩::mkT (q+1+dH x.f1+fC x.f2) r
theorem GL {l:List aM} (h:∀x∈l,(x.f2.length:Int)≤1048576):dH l≤l.length*1048578:=by
 induction l with
 |nil=>simp[dH]
 |cons x r ih=>have:=h x (by simp);have:=ih (fun y hy=>h y (by simp[hy]));simp only[dH,List.length_cons];omega
theorem GN {l:List aT} (h:∀x∈l,(x.f1.length:Int)≤1048576):fC l≤l.length*1048577:=by
 induction l with
 |nil=>simp[fC]
 |cons x r ih=>have:=h x (by simp);have:=ih (fun y hy=>h y (by simp[hy]));simp only[fC,List.length_cons];omega
theorem Aa {l:List aJ} (h:∀x∈l,TB x):jm l≤l.length*2199026401281:=by
 induction l with
 |nil=>simp[jm]
 |cons x r ih=>have h1:=h x (by simp);have h2:=GL h1.1.2;have h3:=GN h1.2.2;have:=ih (fun y hy=>h y (by simp[hy]));have:=h1.1.1;have:=h1.2.1;simp only[jm,List.length_cons];omega
theorem Eb (suf:List aJ):∀(pre:List aJ) (q:Int),0≤q→q+jm suf≤4611686018427387904→(pre.length:Int)+suf.length≤1048576→(∀x∈suf,TB x)→
 Ev (fun k=>fA.l0 k (pre++suf) q pre.length) (q+jm suf,pre++mkT q suf):=by
 induction suf with
 |nil=>intro pre q _ _ _ _;exact bP (fun k=>by simp[fA.l0,mkT,jm])
 |cons b suf ih=>
  intro pre q h0 hq hl hs;have hb:=hs b (by simp);have hsz:(jm (b::suf):Int)=1+dH b.f1+fC b.f2+jm suf:=by simp[jm]
  simp only[List.length_cons,Int.natCast_add,Int.natCast_one]at hl;have h:=ih (pre++[(⟨q,gW (q+1) b.f1,gX (q+1+dH b.f1) b.f2⟩:aJ)]) (q+1+dH b.f1+fC b.f2) (by omega) (by omega) (by simp;omega) (fun x hx=>hs x (by simp[hx]));have hrd:(pre++b::suf).getD ((pre.length:Int)).toNat z53=b:=by simp
  have hm:=DW (l:=b.f1) (q:=q+1) (by omega) (by omega) hb.1;have ho:=DZ (l:=b.f2) (q:=q+1+dH b.f1) (by omega) (by omega) hb.2;have hset:(pre++b::suf).set ((pre.length:Int)).toNat (⟨q,gW (q+1) b.f1,gX (q+1+dH b.f1) b.f2⟩:aJ)=pre++(⟨q,gW (q+1) b.f1,gX (q+1+dH b.f1) b.f2⟩:aJ)::suf:=by simp
  refine Ev.step (f:=fun k=>(eU.f k b.f1 (q+1)).bind fun t=>(fF.f k b.f2 t.1).bind fun u=>fA.l0 k ((pre++b::suf).set ((pre.length:Int)).toNat (⟨q,t.2,u.2⟩:aJ)) u.1 ((pre.length:Int)+1)) (fun k=>?_) (bB hm (bB ho ?_))
  ·rw[fA.l0,if_pos (by simp;omega),if_pos (by omega),hrd,bE (x:=q+1) (by omega) (by omega),bE (x:=(pre.length:Int)+1) (by omega) (by omega)]
  ·show Ev (fun k=>fA.l0 k ((pre++b::suf).set ((pre.length:Int)).toNat (⟨q,gW (q+1) b.f1,gX (q+1+dH b.f1) b.f2⟩:aJ)) (q+1+dH b.f1+fC b.f2) ((pre.length:Int)+1)) _;rw[hset,hsz];(have e1:pre++[(⟨q,gW (q+1) b.f1,gX (q+1+dH b.f1) b.f2⟩:aJ)]++suf=pre++(⟨q,gW (q+1) b.f1,gX (q+1+dH b.f1) b.f2⟩:aJ)::suf:=by simp);(have e2:pre++[(⟨q,gW (q+1) b.f1,gX (q+1+dH b.f1) b.f2⟩:aJ)]++mkT (q+1+dH b.f1+fC b.f2) suf=pre++mkT q (b::suf):=by simp[mkT]);(have e3:((pre++[(⟨q,gW (q+1) b.f1,gX (q+1+dH b.f1) b.f2⟩:aJ)]).length:Int)=(pre.length:Int)+1:=by simp);rw[e1,e2,e3]at h;(have e4:q+1+(dH b.f1:Int)+(fC b.f2:Int)+(jm suf:Int)=q+(1+(dH b.f1:Int)+(fC b.f2:Int)+(jm suf:Int)):=by omega);rw[e4]at h;exact h
theorem yV {l:List aJ} (hl:l.length≤1048576) (hs:∀x∈l,TB x):Ev (fun k=>fA.f k l 1) (1+jm l,mkT 1 l):=by
 unfold fA.f;have:=Aa hs;exact Eb l [] 1 (by omega) (by omega) (by simp;omega) hs
theorem DU (suf:List aJ):∀(pre:List aJ) (q:Int),0≤q→q+jm suf≤4611686018427387904→(pre.length:Int)+suf.length≤1048576→(∀x∈suf,TB x)→
 Ev (fun k=>gL.l0 k (pre++mkT q suf) q pre.length) (q+jm suf):=by
 induction suf with
 |nil=>intro pre q _ _ _ _;exact bP (fun k=>by simp[gL.l0,mkT,jm])
 |cons b suf ih=>
  intro pre q h0 hq hl hs;have hb:=hs b (by simp);have hsz:(jm (b::suf):Int)=1+dH b.f1+fC b.f2+jm suf:=by simp[jm]
  simp only[List.length_cons,Int.natCast_add,Int.natCast_one]at hl;have h:=ih (pre++[(⟨q,gW (q+1) b.f1,gX (q+1+dH b.f1) b.f2⟩:aJ)]) (q+1+dH b.f1+fC b.f2) (by omega) (by omega) (by simp;omega) (fun x hx=>hs x (by simp[hx]));have hrd:aI (pre++mkT q (b::suf)) (pre.length:Int)=(⟨q,gW (q+1) b.f1,gX (q+1+dH b.f1) b.f2⟩:aJ):=by unfold aI;simp[mkT]
  have hm:=DK (l:=b.f1) (q:=q+1) (by omega) (by omega) hb.1;have ho:=DR (l:=b.f2) (q:=q+1+dH b.f1) (by omega) (by omega) hb.2;refine Ev.step (f:=fun k=>(fV.f k (gW (q+1) b.f1) (q+1)).bind fun t=>if t<0 then some (-1)else(fZ.f k (gX (q+1+dH b.f1) b.f2) t).bind fun u=>if u<0 then some (-1)else gL.l0 k (pre++mkT q (b::suf)) u ((pre.length:Int)+1)) (fun k=>?_) (bB hm (dD (by omega) (bB ho (dD (by omega) ?_))))
  ·rw[gL.l0,if_pos (by simp[mkT];omega),if_pos (by omega),hrd,if_pos rfl,bE (x:=q+1) (by omega) (by omega),bE (x:=(pre.length:Int)+1) (by omega) (by omega)]
  ·rw[hsz];(have e2:pre++[(⟨q,gW (q+1) b.f1,gX (q+1+dH b.f1) b.f2⟩:aJ)]++mkT (q+1+dH b.f1+fC b.f2) suf=pre++mkT q (b::suf):=by simp[mkT]);(have e3:((pre++[(⟨q,gW (q+1) b.f1,gX (q+1+dH b.f1) b.f2⟩:aJ)]).length:Int)=(pre.length:Int)+1:=by simp);rw[e2,e3]at h;(have e4:q+1+(dH b.f1:Int)+(fC b.f2:Int)+(jm suf:Int)=q+(1+(dH b.f1:Int)+(fC b.f2:Int)+(jm suf:Int)):=by omega);rw[e4]at h;exact h
theorem DJ {c a0 a1 a2 a3:Int} {l:List aJ} (hl:l.length≤1048576) (hs:∀x∈l,TB x):Ev (fun k=>mP.f k c a0 a1 a2 a3 (mkT 1 l) 1) (1+jm l):=by
 unfold mP.f mO.f gL.f;have:=Aa hs;exact bB (bB (DU l [] 1 (by omega) (by omega) (by simp;omega) hs) (dD (by omega) (Ev.now _))) (dD (by omega) (Ev.now _))
theorem xZ {l:List Int} (h:(l.length:Int)≤1048576):oJ.f l=some l:=by
 unfold oJ.f;exact if_pos (by omega)
theorem yM {l:List Int} (h:(l.length:Int)≤1048576):qg.f l=some l:=by
 unfold qg.f;simp only[Option.bind_some,List.length_nil,List.nil_append];exact if_pos (by omega)
theorem Cz (a:Int) (xs:List aM) (suf:List aT):∀(pre:List aT) (n:Int),n=(pre.length:Int)+suf.length→n≤1048576→(∀x∈suf,(x.f1.length:Int)≤1048576)→
 Ev (fun k=>dO.l1 k (pre++suf) n pre.length a xs pre) (a,xs,pre++suf):=by
 induction suf with
 |nil=>intro pre n hn _ _;exact bP (fun k=>by rw[dO.l1,if_neg (by simp at hn;omega)];simp)
 |cons b suf ih=>
  intro pre n hn hl hs;simp only[List.length_cons,Int.natCast_add,Int.natCast_one]at hn;have h:=ih (pre++[b]) n (by simp;omega) hl (fun x hx=>hs x (by simp[hx]));have hrd:aX (pre++b::suf) (pre.length:Int)=b:=by unfold aX;simp
  rw[show((pre++[b]).length:Int)=(pre.length:Int)+1 from by simp,show pre++[b]++suf=pre++b::suf from by simp]at h;refine Ev.step (fun k=>?_) h;rw[dO.l1,if_pos (by omega),if_pos (by omega),if_pos (by simp;omega),hrd,xZ (hs b (by simp)),Option.bind_some,if_pos (by omega),bE (x:=(pre.length:Int)+1) (by omega) (by omega)]
theorem Cy (a:Int) (ys:List aT) (hy:ys.length≤1048576∧∀x∈ys,(x.f1.length:Int)≤1048576) (suf:List aM):∀(pre:List aM) (n c:Int) (zs:List aM),n=(pre.length:Int)+suf.length→n≤1048576→(∀x∈suf,(x.f2.length:Int)≤1048576)→
 Ev (fun k=>dO.l0 k (pre++suf) n pre.length c zs ys a pre) (a,pre++suf,ys):=by
 induction suf with
 |nil=>intro pre n c zs hn _ _;refine Ev.step (fun k=>by rw[dO.l0,if_neg (by simp at hn;omega)]) ?_;have h:=Cz a pre ys [] (ys.length:Int) (by simp) (by have:=hy.1;omega) hy.2;simpa using h
 |cons b suf ih=>
  intro pre n c zs hn hl hs;simp only[List.length_cons,Int.natCast_add,Int.natCast_one]at hn;have h:=ih (pre++[b]) n c zs (by simp;omega) hl (fun x hx=>hs x (by simp[hx]));have hrd:aD (pre++b::suf) (pre.length:Int)=b:=by unfold aD;simp
  rw[show((pre++[b]).length:Int)=(pre.length:Int)+1 from by simp,show pre++[b]++suf=pre++b::suf from by simp]at h;refine Ev.step (fun k=>?_) h;rw[dO.l0,if_pos (by omega),if_pos (by omega),if_pos (by simp;omega),hrd,xZ (hs b (by simp)),Option.bind_some,if_pos (by omega),bE (x:=(pre.length:Int)+1) (by omega) (by omega)]
theorem Cx {t:aJ} (h:TB t):Ev (fun k=>dO.f k t.f0 t.f1 t.f2) (t.f0,t.f1,t.f2):=by
 unfold dO.f;have:=h.1.1;exact Cy t.f0 t.f2 h.2 t.f1 [] (t.f1.length:Int) t.f0 t.f1 (by simp) (by omega) h.1.2
theorem CB (suf:List aJ):∀(pre:List aJ) (n:Int),n=(pre.length:Int)+suf.length→n≤1048576→(∀x∈suf,TB x)→
 Ev (fun k=>gI.l0 k pre (pre++suf) n pre.length) (pre++suf):=by
 induction suf with
 |nil=>intro pre n hn _ _;exact bP (fun k=>by rw[gI.l0,if_neg (by simp at hn;omega)];simp)
 |cons b suf ih=>intro pre n hn hl hs;simp only[List.length_cons,Int.natCast_add,Int.natCast_one]at hn;have h:=ih (pre++[b]) n (by simp;omega) hl (fun x hx=>hs x (by simp[hx]));have hrd:=qc pre b suf;rw[show((pre++[b]).length:Int)=(pre.length:Int)+1 from by simp,show pre++[b]++suf=pre++b::suf from by simp]at h;refine Ev.step (f:=fun k=>(dO.f k b.f0 b.f1 b.f2).bind fun t=>if pre.length<2513169434916 then gI.l0 k (pre++[(⟨t.1,t.2.1,t.2.2⟩:aJ)]) (pre++b::suf) n ((pre.length:Int)+1)else none) (fun k=>?_) (bB (Cx (hs b (by simp))) (bD (by omega) h));rw[gI.l0,if_pos (by omega),if_pos (by omega),if_pos (by simp;omega),hrd,bE (x:=(pre.length:Int)+1) (by omega) (by omega)]
theorem Cw {a b c d:Int} {l:List aJ} (hl:l.length≤1048576) (hs:∀x∈l,TB x):Ev (fun k=>kC.f k a b c d l) (a,b,c,d,l):=by
 unfold kC.f gI.f;exact bB (CB l [] (l.length:Int) (by simp) (by omega) hs) (Ev.now _)
theorem Gg (a0:Int) (ws:List aM) (a:Int) (xs:List aM) (suf:List aT):∀(pre:List aT),(pre.length:Int)+suf.length≤1048576→(∀x∈suf,(x.f1.length:Int)≤1048576)→
 Ev (fun k=>bZ.l1 k pre.length a0 ws (pre++suf) a xs pre) (a,xs,pre++suf):=by
 induction suf with
 |nil=>intro pre _ _;exact bP (fun k=>by rw[bZ.l1,if_neg (by simp)];simp)
 |cons b suf ih=>
  intro pre hl hs;simp only[List.length_cons,Int.natCast_add,Int.natCast_one]at hl;have h:=ih (pre++[b]) (by simp;omega) (fun x hx=>hs x (by simp[hx]));have hrd:aX (pre++b::suf) (pre.length:Int)=b:=by unfold aX;simp
  rw[show((pre++[b]).length:Int)=(pre.length:Int)+1 from by simp,show pre++[b]++suf=pre++b::suf from by simp]at h;refine Ev.step (fun k=>?_) h;rw[bZ.l1,if_pos (by simp;omega),if_pos (by omega),hrd,yM (hs b (by simp)),Option.bind_some,if_pos (by omega),bE (x:=(pre.length:Int)+1) (by omega) (by omega)]
theorem Gf (a0 a:Int) (ys:List aT) (hy:ys.length≤1048576∧∀x∈ys,(x.f1.length:Int)≤1048576) (suf:List aM):∀(pre:List aM),(pre.length:Int)+suf.length≤1048576→(∀x∈suf,(x.f2.length:Int)≤1048576)→
 Ev (fun k=>bZ.l0 k pre.length a0 (pre++suf) ys a pre) (a,pre++suf,ys):=by
 induction suf with
 |nil=>intro pre _ _;refine Ev.step (fun k=>by rw[bZ.l0,if_neg (by simp)]) ?_;have h:=Gg a0 (pre++[]) a pre ys [] (by have:=hy.1;simp;omega) hy.2;simpa using h
 |cons b suf ih=>
  intro pre hl hs;simp only[List.length_cons,Int.natCast_add,Int.natCast_one]at hl;have h:=ih (pre++[b]) (by simp;omega) (fun x hx=>hs x (by simp[hx]));have hrd:aD (pre++b::suf) (pre.length:Int)=b:=by unfold aD;simp
  rw[show((pre++[b]).length:Int)=(pre.length:Int)+1 from by simp,show pre++[b]++suf=pre++b::suf from by simp]at h;refine Ev.step (fun k=>?_) h;rw[bZ.l0,if_pos (by simp;omega),if_pos (by omega),hrd,yM (hs b (by simp)),Option.bind_some,if_pos (by omega),bE (x:=(pre.length:Int)+1) (by omega) (by omega)]
theorem Gd {t:aJ} (h:TB t):Ev (fun k=>bZ.f k t.f0 t.f1 t.f2) (t.f0,t.f1,t.f2):=by
 unfold bZ.f;have:=h.1.1;exact Gf t.f0 t.f0 t.f2 h.2 t.f1 [] (by simp;omega) h.1.2
theorem Gt (suf:List aJ):∀(pre:List aJ),(pre.length:Int)+suf.length≤1048576→(∀x∈suf,TB x)→
 Ev (fun k=>gP.l0 k (pre++suf) pre pre.length) (pre++suf):=by
 induction suf with
 |nil=>intro pre _ _;exact bP (fun k=>by rw[gP.l0,if_neg (by simp)];simp)
 |cons b suf ih=>intro pre hl hs;simp only[List.length_cons,Int.natCast_add,Int.natCast_one]at hl;have h:=ih (pre++[b]) (by simp;omega) (fun x hx=>hs x (by simp[hx]));have hrd:=qc pre b suf;rw[show((pre++[b]).length:Int)=(pre.length:Int)+1 from by simp,show pre++[b]++suf=pre++b::suf from by simp]at h;refine Ev.step (f:=fun k=>(bZ.f k b.f0 b.f1 b.f2).bind fun t=>if pre.length<2513169434916 then gP.l0 k (pre++b::suf) (pre++[(⟨t.1,t.2.1,t.2.2⟩:aJ)]) ((pre.length:Int)+1)else none) (fun k=>?_) (bB (Gd (hs b (by simp))) (bD (by omega) h));rw[gP.l0,if_pos (by simp;omega),if_pos (by omega),hrd,bE (x:=(pre.length:Int)+1) (by omega) (by omega)]
theorem Gx {a b c d:Int} {l:List aJ} (hl:l.length≤1048576) (hs:∀x∈l,TB x):Ev (fun k=>jY.f k a b c d l) (a,b,c,d,l):=by
 unfold jY.f gP.f;exact bB (Gt l [] (by simp;omega) hs) (Ev.now _)
theorem GD {b:bN} (h:jR b=0):Ev (fun k=>kV.f k b.f0 b.f1 b.f2 b.f3 b.f4) (nk [b.f0,nH 7 (dZ b.f4),b.f1,b.f2,b.f3]):=by
 unfold kV.f jI.f;have hrd:aU [b] 0=b:=rfl;have hb:(⟨b.f0,b.f1,b.f2,b.f3,b.f4⟩:bN)=b:=rfl;obtain⟨h1,h2,h3,_⟩:=qE h;have hlen:(dZ b.f4).length=b.f4.length:=by simp[dZ]
 rw[hb];refine bD (by simp) ?_;rw[hrd];have hsum:Ev (fun k=>fI.f k [b]) (dZ b.f4):=zX h1 (by omega);refine bB hsum (bB (by unfold gQ.f;exact zU 7 _ (by omega) (by omega) (by omega)) (bB (zL (by simp)) (Ev.now _)))
theorem CF {b:bN} (h:jR b=0):Ev (fun k=>je.f k b.f0 b.f1 b.f2 b.f3 b.f4) (nk [b.f0,nH 7 (dZ b.f4),b.f1,b.f2,b.f3]):=by
 unfold je.f;obtain⟨h1,h2,h3,_⟩:=qE h;have hlen:(dZ b.f4).length=b.f4.length:=by simp[dZ]
 refine bB (yI h1 (by omega)) (bB (by unfold gK.f;exact yG 7 _ (by omega) (by omega) (by omega)) (bB (wh (by simp)) (Ev.now _)))
def tH (b:bN) (m:Int):bN:=⟨b.f0,b.f1,b.f2,m,b.f4⟩
theorem uG {b:bN} (h:lC b=true):0≤b.f3∧b.f3≤65535∧0≤b.f2∧b.f2≤1023:=by
 unfold lC at h;simp only[Bool.and_eq_true,decide_eq_true_eq]at h;omega
theorem xY {b:bN} (h:jR b=0) {m:Int} (h0:0≤m) (h1:m≤65535):jR (tH b m)=0:=by
 obtain⟨_,_,_,hh⟩:=qE h;have h2:lC (tH b m)=true:=by
  unfold lC at hh;unfold lC tH;simp only[Bool.and_eq_true,decide_eq_true_eq]at hh ⊢;exact⟨hh.1,hh.2.1,hh.2.2.1,h0,h1⟩
 unfold jR at h ⊢;rw[if_pos hh]at h;rw[if_pos h2];exact h
def rM (b:bN) (m:Int):Int:=nk [b.f0,nH 7 (dZ b.f4),b.f1,b.f2,m]
def uL:Int×Int×Int×Int×Int×List aJ:=(8,0,0,0,0,[])
def nD (b:bN):Nat→Int→Int×Int×Int×Int×Int×List aJ
 |0,_=>uL
 |n+1,m=>if m≤65535 then(if rM b m≤tgt b.f2 then(0,b.f0,b.f1,b.f2,m,b.f4)else nD b n (m+1))else uL
theorem zi (b:bN) (n:Nat) {m:Int} (h:65535<m):nD b n m=uL:=by
 cases n with
 |zero=>rfl
 |succ n=>unfold nD;rw[if_neg (by omega)]
theorem Cm {b:bN} (h:jR b=0) (n:Nat):∀(x t m:Int),t-x=n→0≤x→t≤200→0≤m→m≤65535→Ev (fun k=>fE.l0 k t x b.f0 b.f1 b.f2 m b.f4) (nD b n m):=by
 obtain⟨_,_,_,hh⟩:=qE h;obtain⟨_,_,h2,h3⟩:=uG hh
 induction n with
 |zero=>intro x t m hx _ _ _ _;exact bP (fun k=>by rw[fE.l0,if_neg (by omega)];rfl)
 |succ n ih=>
  intro x t m hx hx0 ht h0 h1;have hs:=CF (b:=tH b m) (xY h h0 h1);refine Ev.step (f:=fun k=>(je.f k b.f0 b.f1 b.f2 m b.f4).bind fun Jm=>((nU.f b.f2).bind fun Jo=>(if Jm≤Jo then(some (0,b.f0,b.f1,b.f2,m,b.f4))else(if m+1>65535 then(some uL)else(fE.l0 k t (x+1) b.f0 b.f1 b.f2 (m+1) b.f4))))) (fun k=>?_) (bB hs (jv (Da h2 h3) ?_))
  ·rw[fE.l0,if_pos (by omega),bE (x:=m+1) (by omega) (by omega),bE (x:=x+1) (by omega) (by omega)];rfl
  ·show Ev (fun k=>if rM b m≤_ then _ else _) _;unfold nD;rw[if_pos h1];by_cases hc:rM b m≤tgt b.f2
   ·rw[if_pos hc];exact bD hc (Ev.now _)
   ·rw[if_neg hc];refine dD hc ?_;by_cases hm:m+1>65535
    ·rw[zi b n hm];exact bD hm (Ev.now _)
    ·exact dD hm (ih (x+1) t (m+1) (by omega) (by omega) ht (by omega) (by omega))
theorem FT {b:bN} (h:jR b=0) (n:Nat):∀(x t m:Int),t-x=n→0≤x→t≤200→0≤m→m≤65536→Ev (fun k=>dL.l0 k t x b.f0 b.f1 b.f2 m b.f4) (nD b n m):=by
 obtain⟨_,_,_,hh⟩:=qE h;obtain⟨_,_,h2,h3⟩:=uG hh
 induction n with
 |zero=>intro x t m hx _ _ _ _;exact Ev.step (fun k=>by rw[dL.l0,if_neg (by omega)]) (bP (fun k=>by rw[dL.j1,if_neg (by decide)];rfl))
 |succ n ih=>
  intro x t m hx hx0 ht h0 h1;by_cases hm:m≤65535
  ·have hs:=GD (b:=tH b m) (xY h h0 hm);refine Ev.step (fun k=>by rw[dL.l0,if_pos (by omega)]) ?_;refine Ev.step (f:=fun k=>(kV.f k b.f0 b.f1 b.f2 m b.f4).bind fun Ay=>((oh.f b.f2).bind fun Az=>(if Ay≤Az then(some (0,b.f0,b.f1,b.f2,m,b.f4))else(dL.l0 k t (x+1) b.f0 b.f1 b.f2 (m+1) b.f4)))) (fun k=>?_) (bB hs (jv (Ga h2 h3) ?_))
   ·rw[dL.j1,if_pos (by simpa using hm),bE (x:=m+1) (by omega) (by omega),bE (x:=x+1) (by omega) (by omega)]
   ·show Ev (fun k=>if rM b m≤_ then _ else _) _;unfold nD;rw[if_pos hm];by_cases hc:rM b m≤tgt b.f2
    ·rw[if_pos hc];exact bD hc (Ev.now _)
    ·rw[if_neg hc];exact dD hc (ih (x+1) t (m+1) (by omega) (by omega) ht (by omega) (by omega))
  ·rw[zi b _ (by omega)];refine Ev.step (fun k=>by rw[dL.l0,if_pos (by omega)]) (bP (fun k=>by rw[dL.j1,if_neg (by simpa using hm)];rfl))
def qb (b:bN) (n:Int):Int×Int×Int×Int×Int×List aJ:=if jR b=0 then(if 1≤n∧n≤200 then nD b n.toNat b.f3 else(3,0,0,0,0,[]))else(jR b,0,0,0,0,[])
theorem EJ (b:bN) (n:Nat):∀m,(nD b n m).2.2.2.2.2=b.f4∨(nD b n m).2.2.2.2.2=[]:=by
 induction n with
 |zero=>intro m;exact .inr rfl
 |succ n ih=>
  intro m;unfold nD;by_cases h:m≤65535
  ·rw[if_pos h];by_cases h2:rM b m≤tgt b.f2
   ·rw[if_pos h2];exact .inl rfl
   ·rw[if_neg h2];exact ih _
  ·rw[if_neg h];exact .inr rfl
theorem EI (b:bN) (n:Int):(qb b n).2.2.2.2.2=b.f4∨(qb b n).2.2.2.2.2=[]:=by
 unfold qb;split
 ·split
  ·exact EJ b _ _
  ·exact .inr rfl
 ·exact .inr rfl
theorem Ck {b:bN} (n:Int) (hl:b.f4.length≤1048576) (hs:∀t∈b.f4,TB t):Ev (fun k=>fE.f k b.f0 b.f1 b.f2 b.f3 b.f4 n) (qb b n):=by
 unfold fE.f qb;refine bB (Cg hl hs) ?_;by_cases h0:jR b=0
 ·rw[if_pos h0];refine bD h0 (jv (lU _ _ _) ?_);obtain⟨_,_,_,hh⟩:=qE h0;obtain⟨h1,h2,_,_⟩:=uG hh;by_cases hn:1≤n∧n≤200
  ·rw[if_pos hn];exact bD (by simpa using hn) (bB (Cw hl hs) (Cm h0 n.toNat 0 n b.f3 (by omega) (by omega) (by omega) h1 h2))
  ·rw[if_neg hn];exact dD (by simpa using hn) (Ev.now _)
 ·rw[if_neg h0];exact dD h0 (Ev.now _)
theorem FR {b:bN} (n:Int) (hl:b.f4.length≤1048576) (hs:∀t∈b.f4,TB t):Ev (fun k=>dL.f k b.f0 b.f1 b.f2 b.f3 b.f4 n) (qb b n):=by
 unfold dL.f qb;refine bB (Gz hl hs) ?_;by_cases h0:jR b=0
 ·rw[if_pos h0];refine bD h0 (jv (mX _ _ _) ?_);obtain⟨_,_,_,hh⟩:=qE h0;obtain⟨h1,h2,_,_⟩:=uG hh;by_cases hn:1≤n∧n≤200
  ·rw[if_pos hn];exact bD (by simpa using hn) (bB (Gx hl hs) (FT h0 n.toNat 0 n b.f3 (by omega) (by omega) (by omega) h1 (by omega)))
  ·rw[if_neg hn];exact dD (by simpa using hn) (Ev.now _)
 ·rw[if_neg h0];exact dD h0 (Ev.now _)
theorem Dt {c a0 a1 a2 a3:Int} {l:List aJ} (hl:l.length≤1048576) (hs:∀x∈l,TB x):Ev (fun k=>lH.f k c a0 a1 a2 a3 l c a0 a1 a2 a3 l) true:=by
 unfold lH.f;exact bD rfl (bB (yQ hl hs) (bD rfl (Ev.now _)))
theorem FnExactMineBlock (x0:uj) (a1:Int) (o0:wH x0) (Jp:mR .i64 a1):∃k,qI.f k x0.f0 x0.f1 x0.f2 x0.f3 x0.f4 a1=some true:=by
 refine Ev.rounds (g:=fun k=>qI.f k x0.f0 x0.f1 x0.f2 x0.f3 x0.f4 a1) ?_;unfold qI.f;obtain⟨r,hr,hr1,hr2⟩:=Ec (a:=x0.f0) (b:=x0.f1) (c:=x0.f2) (d:=x0.f3) o0.2.2.2.2.1 o0.2.2.2.2.2 1048576 (by omega) (by omega);refine bB hr ?_;by_cases h:r<0
 ·exact bD h (Ev.now _)
 refine dD h ?_;obtain⟨b1,b2⟩:=hr2 (by omega);have m:=EG b1 b2;have hs:=FR (b:=⟨x0.f0,x0.f1,x0.f2,x0.f3,x0.f4.map kM⟩) a1 m.1 m.2;have hi:=Ck (b:=⟨x0.f0,x0.f1,x0.f2,x0.f3,x0.f4.map kM⟩) a1 m.1 m.2;have hv:=EI ⟨x0.f0,x0.f1,x0.f2,x0.f3,x0.f4.map kM⟩ a1;generalize qb ⟨x0.f0,x0.f1,x0.f2,x0.f3,x0.f4.map kM⟩ a1=v at hs hi hv;have hv1:v.2.2.2.2.2.length≤1048576:=by
  rcases hv with e|e
  ·rw[e];exact m.1
  ·rw[e];simp
 have hv2:∀x∈v.2.2.2.2.2,TB x:=by
  rcases hv with e|e
  ·rw[e];exact m.2
  ·rw[e];intro x hx;cases hx
 have ht:=En (a:=x0.f0) (b:=x0.f1) (c:=x0.f2) (d:=x0.f3) b1 b2;have he:=Dt (c:=v.1) (a0:=v.2.1) (a1:=v.2.2.1) (a2:=v.2.2.2.1) (a3:=v.2.2.2.2.1) hv1 hv2;have hh:=DJ (c:=v.1) (a0:=v.2.1) (a1:=v.2.2.1) (a2:=v.2.2.2.1) (a3:=v.2.2.2.2.1) hv1 hv2;refine bB ht (bB hs (bB ht (bB hi (bB he (bD rfl (bB ht (bB (yQ m.1 m.2) (bD rfl (bB (yV m.1 m.2) (dD (by simp only[];omega) (bB he (bD rfl (bB (yV hv1 hv2) (bB hh (dD (by omega) (bD rfl (bB ht (bB hi (bB he (bD rfl (bB hh (dD (by omega) (bD rfl (Ev.now _))))))))))))))))))))))))
end Go.Proofs.YtjmdfghljlmfmaaGreat.Pure
