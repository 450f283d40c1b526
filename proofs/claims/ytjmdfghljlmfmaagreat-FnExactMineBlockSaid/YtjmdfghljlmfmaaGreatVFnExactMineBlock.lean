/- Words that the texts of FnExactMineBlock lean on: a part of those that were laid for it. -/
import Derived.Below
import Derived.Deep.Draws
import Derived.Deep.AppendLies
import Derived.Maps.AppendAt
import Derived.OwnWalk
import Derived.Laws.BytesArg
import Derived.Laws.MakeOwn
import Derived.Laws.OwnMore
import Derived.Deep.OwnRows
import Derived.Tactics
import Derived.Lib.ConvBytes
import Derived.Laws.Slices
import Derived.WalkKit
import Derived.KernelRfl
import Derived.RowKit3
import Derived.Deep.LoopGhost
import Derived.Deep.QuietTactic
import Derived.BigQuiet
import Derived.WideLaws
import Derived.Deep.DeepCutAuto
import Derived.Deep.CutBlock
import Derived.Deep.RegionHeld3
import Derived.Laws.Rows
import Derived.Lib.AppendStr
import Derived.ArgAppend
import Derived.Laws.IdiomCopy
import Derived.RowKit
import Derived.OrdersHeld
import Derived.Laws.BitsLemmas
import Derived.Laws.StructEq
import Derived.SizedLaws
import Derived.ChangeSlices
set_option linter.unusedVariables false
set_option linter.unusedSimpArgs false
namespace Go.Proofs.YtjmdfghljlmfmaaGreatW.PrintWords
open Go.RowKit
structure ay (p:Prop):Prop where mk::(out:p)
structure bX (w w':World):Prop where mk::(out:∃n,w'=w.drewN n)
theorem bX.refl (w:World):bX w w:=⟨⟨0,rfl⟩⟩
theorem bX.step {w w':World} (h:bX w w') (n:Nat):bX w (w'.drewN n):=by
 obtain⟨m,rfl⟩:=h;exact⟨⟨m+n,World.drewN_drewN ..⟩⟩
theorem bX.grown {w w':World} (h:bX w w'):Grown w w':=by
 obtain⟨n,rfl⟩:=h
 induction n with
 |zero=>exact Grown.refl _
 |succ n ih=>rw[←World.drew_drewN];exact Grown.drew ih
theorem bX.below {w w':World} (h:bX w w'):Below w.heap.size w w':=by
 obtain⟨n,rfl⟩:=h
 induction n with
 |zero=>exact Below.refl _ _
 |succ n ih=>rw[←World.drew_drewN];exact ih.drew
def rd (xs:List Int) (i:Int):Int:=xs.getD i.toNat 0
def bt (s:ByteArray) (i:Int):Int:=if h:i.toNat<s.size then((s[i.toNat]'h).toNat:Int)else 0
theorem jh {w W:World} (h:Below w.heap.size w W) (o:Obj):Below w.heap.size w (W.alloc o):=h.alloc h.size o
theorem sU {B:Nat} {w W:World} (h:Below B w W):Below B w W.drew:=⟨h.os,h.tape,h.output,h.size,h.block⟩
theorem nY {B:Nat} {w W:World} (h:Below B w W) (n:Nat):Below B w (W.drewN n):=⟨h.os,h.tape,h.output,h.size,h.block⟩
theorem BG {B:Nat} {w w1 w2:World} (h:Below B w w1) (hB:B≤w1.heap.size) (k:Below w1.heap.size w1 w2):Below B w w2:=
 h.trans ⟨k.os,k.tape,k.output,k.size,fun i hi=>k.block i (Nat.lt_of_lt_of_le hi hB)⟩
theorem Ca {w w1:World} (h:Below w.heap.size w w1) (row:Option Nat):w.grownBy w1 row:=⟨h.os,h.tape,h.output,h.size,fun i hi _=>h.block i hi⟩
theorem uO {w w1:World} (h:Below w.heap.size w w1) {a:Addr} {v:Value} (hc:w.cell? a=some v):w1.cell? a=some v:=(h.cell (World.block_lt_of_cell? w a hc)).trans hc
theorem add_plain (g j:Nat):(⟨g,0,none⟩:Addr).add j=⟨g,j,none⟩:=by unfold Addr.add;split<;>simp_all
def lS (w:World) (k:IntKind) (A:Option Addr) (n:Nat) (xs:List Int):Prop:=
 xs.length=n∧n≤9223372036854775807∧(0<n→∃ad,A=some ad∧∀j,j<n→w.cell? (ad.add j)=some (.int k (xs.getD j 0)))
theorem lS.at_ {w:World} {k:IntKind} {A:Option Addr} {n:Nat} {xs:List Int} (h:lS w k A n xs) (i:Int) (h0:0≤i) (h1:i<n):∃ad,A=some ad∧w.cell? (ad.add i.toNat)=some (.int k (rd xs i)):=by
 obtain⟨ad,e,hc⟩:=h.2.2 (by omega);exact⟨ad,e,hc _ (by omega)⟩
theorem lS.below {w w1:World} {k:IntKind} {A:Option Addr} {n:Nat} {xs:List Int} (h:lS w k A n xs) (hb:Below w.heap.size w w1):lS w1 k A n xs:=
 ⟨h.1,h.2.1,fun hn=>by
  obtain⟨ad,e,hc⟩:=h.2.2 hn
  exact⟨ad,e,fun j hj=>uO hb (hc j hj)⟩⟩
theorem EZ (W:World) (base:Nat) (e:TypeId) (size:Nat):W.ownsRow base e size (.slice none 0 0) 0 []:=⟨by simp,.inl ⟨rfl,rfl⟩⟩
theorem sF {w:World} {base:Nat} {e:TypeId} {size n:Nat} {v:Value} {xs:List Value} (h:w.ownsRow base e size v n xs) (k:Nat) (hk:v.ownBlock=some k):base≤k:=by
 rcases h.2 with⟨rfl,_⟩|⟨g,cap,cur,rfl,hb,_⟩
 ·simp[Value.ownBlock]at hk
 ·(have:g=k:=by simpa[Value.ownBlock]using hk);omega
theorem zx {w:World} {base:Nat} {e:TypeId} {size n:Nat} {v:Value} {xs:List Value} (h:w.ownsRow base e size v n xs) (k:Nat) (hk:v.ownBlock=some k):k<w.heap.size:=by
 rcases h.2 with⟨rfl,_⟩|⟨g,cap,cur,rfl,hb,hh,_⟩
 ·simp[Value.ownBlock]at hk
 ·(have:g=k:=by simpa[Value.ownBlock]using hk);subst this;exact(Array.getElem?_eq_some_iff.1 hh).1
theorem Fu {w w1:World} {base:Nat} {e:TypeId} {size n:Nat} {v:Value} {xs:List Value} (h:w.ownsRow base e size v n xs) (hb:Below w.heap.size w w1):w1.ownsRow base e size v n xs:=
 h.kept (Ca hb none) (by cases v.ownBlock<;>simp)
theorem Fb {w:World} {base n:Nat} {e:TypeId} {size:Nat} {v:Value} {xs:List Value} (h:w.ownsRow base e size v n xs):∃A c,v= .slice A n c:=by
 rcases h.2 with⟨rfl,rfl⟩|⟨g,cap,cur,rfl,_⟩
 ·exact⟨none,0,rfl⟩
 ·exact⟨_,cap,rfl⟩
theorem lS.uZ {w:World} {k:IntKind} {A:Option Addr} {n:Nat} {xs:List Int} (h:lS w k A n xs) (i:Nat) (hi:i≤n):lS w k A i (xs.take i):=by
 refine⟨by rw[List.length_take,h.1];omega,by have:=h.2.1;omega,fun hp=>?_⟩;obtain⟨ad,e,hc⟩:=h.2.2 (by omega);refine⟨ad,e,fun j hj=>?_⟩;rw[hc j (by omega)];simp[List.getD_eq_getElem?_getD,hj]
def aj {α:Type} (a b:Option α):Prop:=∀r,a=some r→b=some r
theorem aj.refl {α:Type} (a:Option α):aj a a:=fun _ h=>h
theorem aj.none {α:Type} (b:Option α):aj Option.none b:=fun _ h=>by cases h
theorem aj.trans {α:Type} {a b c:Option α} (h:aj a b) (k:aj b c):aj a c:=fun r hr=>k r (h r hr)
theorem aj.ite {α:Type} {c:Prop} [Decidable c] {a a' b b':Option α} (h:aj a a') (k:aj b b'):aj (if c then a else b) (if c then a' else b'):=by
 split
 ·exact h
 ·exact k
theorem aj.bind {α β:Type} {a a':Option α} {f f':α→Option β} (h:aj a a') (k:∀x,aj (f x) (f' x)):aj (a.bind f) (a'.bind f'):=by
 intro r hr;obtain⟨x,hx,hf⟩:=Option.bind_eq_some_iff.1 hr;exact Option.bind_eq_some_iff.2 ⟨x,h x hx,k x r hf⟩
theorem aj.map {α β:Type} {a a':Option α} (f:α→β) (h:aj a a'):aj (a.map f) (a'.map f):=by
 intro r hr;obtain⟨x,hx,hf⟩:=Option.map_eq_some_iff.1 hr;exact Option.map_eq_some_iff.2 ⟨x,h x hx,hf⟩
theorem zk {α:Type} {g:Nat→Option α} (h:∀k,aj (g k) (g (k+1))) (k:Nat):∀j,aj (g k) (g (k+j))
 |0=>aj.refl _
 |j+1=>(zk h k j).trans (h (k+j))
theorem BA {α:Type} {g:Nat→Option α} (h:∀k,aj (g k) (g (k+1))) {k k':Nat} (hk:k≤k') {r:α} (hr:g k=some r):g k'=some r:=by
 have:=zk h k (k'-k) r hr
 rwa [Nat.add_sub_cancel' hk]at this
def bn {α:Type} (R:α→List Value→Prop) (size:Nat) (ps:List α) (cs:List Value):Prop:=
 cs.length=ps.length*size∧∀j p,ps[j]? =some p→R p ((cs.drop (j*size)).take size)
theorem bn.none {α:Type} (R:α→List Value→Prop) (size:Nat):bn R size [] []:=⟨by simp,fun j p h=>by simp at h⟩
theorem bn.snoc {α:Type} {R:α→List Value→Prop} {size:Nat} {ps:List α} {cs c:List Value} {p:α} (h:bn R size ps cs) (hp:R p c) (hc:c.length=size):bn R size (ps++[p]) (cs++c):=by
 refine⟨by rw[List.length_append,h.1,hc,List.length_append,List.length_singleton,Nat.add_mul,Nat.one_mul],fun j q hq=>?_⟩;rcases Nat.lt_or_ge j ps.length with hj|hj
 ·rw[List.getElem?_append_left hj]at hq;(have h1:j*size+size≤cs.length:=by rw[h.1,←Nat.succ_mul];exact Nat.mul_le_mul_right _ hj);have h2:=h.2 j q hq;rw[List.drop_append_of_le_length (by omega),List.take_append_of_le_length (by rw[List.length_drop];omega)];exact h2
 ·have hj':j=ps.length:=by
   have:=(List.getElem?_eq_some_iff.1 hq).1;rw[List.length_append,List.length_singleton]at this;omega
  subst hj';(have hq':p=q:=by simpa using hq);subst hq';rw[←h.1,List.drop_left,←hc,List.take_length];exact hp
theorem bn.jw {α:Type} {R R':α→List Value→Prop} {size:Nat} {ps:List α} {cs:List Value} (h:bn R size ps cs) (hR:∀p c,R p c→R' p c):bn R' size ps cs:=⟨h.1,fun j p hj=>hR _ _ (h.2 j p hj)⟩
def jZ {α:Type} (R:α→List Value→Prop) (size:Nat) (w:World) (A:Option Addr) (n:Nat) (ps:List α):Prop:=
 ps.length=n∧n≤9223372036854775807∧(0<n→∃ad,A=some ad∧∀j p,ps[j]? =some p→∃c,c.length=size∧R p c∧∀i u,c[i]? =some u→w.cell? (ad.add (j*size+i))=some u)
theorem jZ.BZ {α:Type} {R:α→List Value→Prop} {size:Nat} {w:World} {A:Option Addr} {n:Nat} {ps:List α} (h:jZ R size w A n ps) (d:α) (i:Int) (h0:0≤i) (h1:i<n):
 ∃ad c,A=some ad∧c.length=size∧R (ps.getD i.toNat d) c∧∀j u,c[j]? =some u→w.cell? (ad.add (i.toNat*size+j))=some u:=by
 obtain⟨ad,e,hc⟩:=h.2.2 (by omega);have hl:i.toNat<ps.length:=by have:=h.1;omega
 obtain⟨c,hs,hr,hcell⟩:=hc i.toNat _ (List.getElem?_eq_getElem hl);refine⟨ad,c,e,hs,?_,hcell⟩;rw[List.getD_eq_getElem?_getD,List.getElem?_eq_getElem hl];exact hr
theorem jZ.jw {α:Type} {R R':α→List Value→Prop} {size:Nat} {w w1:World} {A:Option Addr} {n:Nat} {ps:List α} (h:jZ R size w A n ps) (hb:Below w.heap.size w w1) (hR:∀p c,R p c→R' p c):jZ R' size w1 A n ps:=
 ⟨h.1,h.2.1,fun hn=>by
  obtain⟨ad,e,hc⟩:=h.2.2 hn
  refine⟨ad,e,fun j p hj=>?_⟩
  obtain⟨c,hs,hr,hcell⟩:=hc j p hj
  exact⟨c,hs,hR _ _ hr,fun i u hu=>uO hb (hcell i u hu)⟩⟩
theorem Fa {α:Type} {R:α→List Value→Prop} {w:World} {base n size:Nat} {e:TypeId} {v:Value} {ps:List α} {cs:List Value} (h:w.ownsRow base e size v n cs) (hR:bn R size ps cs) (hn:ps.length=n):
 ∃A c,v= .slice A n c∧jZ R size w A n ps:=by
 rcases Nat.eq_zero_or_pos n with h0|h0
 ·rcases h.2 with⟨rfl,rfl⟩|⟨g,cap,cur,rfl,_⟩
  ·exact⟨none,0,rfl,hn,by omega,fun hp=>absurd hp (by omega)⟩
  ·exact⟨_,cap,rfl,hn,by omega,fun hp=>absurd hp (by omega)⟩
 ·obtain⟨g,cap,rfl,_,_⟩:=h.form h0;have hm:n≤9223372036854775807:=by
   rcases h.2 with⟨_,h1⟩|⟨g',cap',cur,he,_,_,h1,h2,_⟩
   ·omega
   ·simp only[maxLen]at h2;omega
  refine⟨_,cap,rfl,hn,hm,fun _=>⟨_,rfl,fun j p hj=>⟨(cs.drop (j*size)).take size,?_,hR.2 j p hj,fun i u hu=>?_⟩⟩⟩
  ·have hjl:=(List.getElem?_eq_some_iff.1 hj).1;(have h1:j*size+size≤cs.length:=by rw[hR.1,←Nat.succ_mul];exact Nat.mul_le_mul_right _ hjl);rw[List.length_take,List.length_drop];omega
  ·refine h.cells (g:=g) rfl _ u ?_;rw[List.getElem?_take]at hu;split at hu
   ·rw[List.getElem?_drop]at hu;exact hu
   ·cases hu
theorem lq (ad:Addr) (m j:Nat) (hj:0<j):ad.add (m+j)=⟨(ad.add m).block,(ad.add m).off+j,none⟩:=by
 unfold Addr.add;by_cases hm:m=0
 ·subst hm;simp[Nat.ne_of_gt hj]
 ·simp[hm,Nat.add_assoc]
section
variable {P:Program} {ops:Array Oper} {rest:List Oper} {o:Oper} {a:Act} {Q:Exit→Act→World→Prop}
theorem zB {w0 W:World} (base:Nat) (hgd:o.guard=none) (s x:Operand) (t e:TypeId) (z:Value) (size bytes:Nat)
 (ho:o.op= .call { callee:=.builtin .append,args:=#[s,x],argTypes:=#[t,t]})
 (ht:P.underlying t=some (.slice e)) (hinfo:(P.info? e).map (fun i=>(i.zero,i.size,i.bytes))=some (some z,size,bytes)) (hz:z.cells.size=size) (hs0:0<size) (hb0:0<bytes)
 (v:Value) (n:Nat) (xs ys:List Value) (hs:a.eval s=v) (hx:a.eval x= .slice (some ⟨W.heap.size,0,none⟩) 1 1) (hys:ys.length=size) (h1:∀u∈ys,u.oneCell'=true)
 (HO:W.ownsRow base e size v n xs) (HB:Below base w0 W) (hbase:base≤W.heap.size) (hl:(n+1)*bytes≤140737488355328)
 (h:∀v1 w1,w1.ownsRow base e size v1 (n+1) (xs++ys)→Below base w0 w1→W.grownBy w1 v.ownBlock→(v1.ownBlock=v.ownBlock∨∃b,v1.ownBlock=some b∧W.heap.size≤b)→wpList P ops Q rest (a.put o.dst v1) w1):
 wpList P ops Q (o::rest) a (W.alloc (.cells ys.toArray e)):=by
 obtain⟨i0,hi,hzz⟩:=Option.map_eq_some_iff.1 hinfo
 simp only[Prod.mk.injEq]at hzz
 obtain⟨hz0,hz1,hz2⟩:=hzz
 have hlen:n+1≤140737488355328:=Nat.le_trans (Nat.le_mul_of_pos_right _ hb0) hl
 refine wpList_append_own_at (W.alloc (.cells ys.toArray e)) hgd s x t ho base e i0 z size bytes ht hi hz0 hz1 hz2 hz hs0 v n xs hs (HO.alloc _) ⟨W.heap.size,0,none⟩ 1 1 ys hx (by rw[hys];simp)
  (by simpa using World.news_of_block (cs:=ys.toArray) (t:=e) (fr:=(0,0)) (heap_alloc_new W (.cells ys.toArray e))) h1 (by simp only[maxLen];omega) hl (by simp;omega) ?_
 intro v1 w1 hown hg _ hat
 refine h v1 w1 hown ((HB.alloc hbase _).grown hg (by simp;omega) (sF HO)) (World.grownBy.trans (World.grownBy_alloc W _ _) hg) ?_
 rcases hat with hat|hat
 ·exact .inl hat
 ·exact .inr ⟨_,hat,by simp⟩
end
theorem own_ne {w:World} {base:Nat} {e t:TypeId} {size n g:Nat} {v:Value} {xs:List Value} {cs:Array Value} (h:w.ownsRow base e size v n xs) (hg:w.heap[g]? =some (.cells cs t (0,0))) (hne:e≠t):some g≠v.ownBlock:=by
 rcases h.2 with⟨rfl,_⟩|⟨g',cap,cur,rfl,_,hh,_⟩
 ·simp[Value.ownBlock]
 ·intro he;(have:g=g':=by simpa[Value.ownBlock]using he);subst this;rw[hg]at hh;(injection hh with hh);(injection hh with _ ht);exact hne ht.symm
theorem xX {w:World} {g:Nat} {t:TypeId} {cs:Array Value} (h:w.heap[g]? =some (.cells cs t (0,0))) (i:Nat) (u:Value):(w.setCell ⟨g,i,none⟩ u).heap[g]? =some (.cells (cs.setIfInBounds i u) t (0,0)):=by
 simp[World.setCell,Array.getElem?_modify,h]
theorem bq {w:World} {g:Nat} {t:TypeId} {cs:Array Value} (h:w.heap[g]? =some (.cells cs t (0,0))) {p:Addr} (hp:g≠p.block) (u:Value):(w.setCell p u).heap[g]? =some (.cells cs t (0,0)):=(Below.heap_setCell w p u g hp).trans h
theorem aZ {w:World} {g:Nat} {o:Obj} (h:w.heap[g]? =some o):g<w.heap.size:=(Array.getElem?_eq_some_iff.1 h).1
theorem ah {w:World} {g:Nat} {t:TypeId} {cs:Array Value} (h:w.heap[g]? =some (.cells cs t (0,0))) (i:Nat):w.cell? ⟨g,i,none⟩=cs[i]? :=cell_of_row w g i cs t (0,0) h
theorem au {w:World} {g:Nat} {t:TypeId} {cs:Array Value} (h:w.heap[g]? =some (.cells cs t (0,0))) (i:Nat):w.frozen? ⟨g,i,none⟩=false:=by simp[World.frozen?,h]
theorem ji {w w1:World} {g:Nat} {o:Obj} {row:Option Nat} (h:w.heap[g]? =some o) (hg:w.grownBy w1 row) (hne:some g≠row):w1.heap[g]? =some o:=(hg.block g (aZ h) hne).trans h
def kX (w w':World) (g:Nat) (row:Option Nat):Prop:=w.heap.size≤w'.heap.size∧∀i,i<w.heap.size→i≠g→some i≠row→w'.heap[i]? =w.heap[i]?
theorem kX.refl (w:World) (g:Nat) (row:Option Nat):kX w w g row:=⟨Nat.le_refl _,fun _ _ _ _=>rfl⟩
theorem kX.zn {w w1:World} {row:Option Nat} (h:w.grownBy w1 row) (g:Nat):kX w w1 g row:=⟨h.size,fun i hi _ hr=>h.block i hi hr⟩
theorem kX.of_below {w w1:World} (h:Below w.heap.size w w1) (g:Nat) (row:Option Nat):kX w w1 g row:=⟨h.size,fun i hi _ _=>h.block i hi⟩
theorem kX.trans {w w1 w2:World} {g:Nat} {row wK:Option Nat} (h:kX w w1 g row) (k:kX w1 w2 g wK) (hr:wK=row∨∃b,wK=some b∧w.heap.size≤b):kX w w2 g row:=
 ⟨Nat.le_trans h.1 k.1,fun i hi hg hn=>by
  refine(k.2 i (Nat.lt_of_lt_of_le hi h.1) hg ?_).trans (h.2 i hi hg hn)
  rcases hr with rfl|⟨b,rfl,hb⟩
  ·exact hn
  ·intro e
   injection e with e
   omega⟩
theorem kX.blk {w w1:World} {g g':Nat} {row:Option Nat} {o:Obj} (h:kX w w1 g row) (hb:w.heap[g']? =some o) (hg:g'≠g) (hr:some g'≠row):w1.heap[g']? =some o:=(h.2 g' (aZ hb) hg hr).trans hb
theorem kX.own {w w1:World} {g:Nat} {row:Option Nat} {base:Nat} {e:TypeId} {size n:Nat} {v:Value} {xs:List Value} (h:kX w w1 g row) (ho:w.ownsRow base e size v n xs) (hg:v.ownBlock≠some g) (hr:v.ownBlock=none∨v.ownBlock≠row):w1.ownsRow base e size v n xs:=by
 obtain⟨h1,h2⟩:=ho;refine⟨h1,?_⟩;rcases h2 with h2|⟨b,cap,cur,rfl,hb,hh,r⟩
 ·exact .inl h2
 ·refine .inr ⟨b,cap,cur,rfl,hb,h.blk hh ?_ ?_,r⟩
  ·intro e;exact hg (by rw[←e];rfl)
  ·rcases hr with hr|hr
   ·simp[Value.ownBlock]at hr
   ·exact hr
def Ev {α:Type} (g:Nat→Option α) (r:α):Prop:=∃K,∀k,K≤k→g k=some r
theorem Ev.of {α:Type} {g:Nat→Option α} {r:α} (hg:∀k,aj (g k) (g (k+1))) {k:Nat} (h:g k=some r):Ev g r:=⟨k,fun _ hk=>BA hg hk h⟩
theorem Ev.now {α:Type} (r:α):Ev (fun _=>some r) r:=⟨0,fun _ _=>rfl⟩
theorem Ev.rounds {α:Type} {g:Nat→Option α} {r:α} (h:Ev g r):∃k,g k=some r:=by
 obtain⟨K,h⟩:=h;exact⟨K,h K (Nat.le_refl _)⟩
theorem Ev.bind {α β:Type} {g:Nat→Option α} {f:Nat→α→Option β} {a:α} {r:β} (h:Ev g a) (k:Ev (fun n=>f n a) r):Ev (fun n=>(g n).bind (f n)) r:=by
 obtain⟨K,h⟩:=h;obtain⟨K',k⟩:=k;refine⟨max K K',fun n hn=>?_⟩;have h1:=h n (by omega);have h2:=k n (by omega);simp only[h1,Option.bind_some];exact h2
theorem Ev.step {α:Type} {g f:Nat→Option α} {r:α} (h:∀k,g (k+1)=f k) (k:Ev f r):Ev g r:=by
 obtain⟨K,k⟩:=k;refine⟨K+1,fun n hn=>?_⟩;obtain⟨m,rfl⟩:∃m,n=m+1:=⟨n-1,by omega⟩;rw[h];exact k m (by omega)
theorem Ev.congr {α:Type} {g f:Nat→Option α} {r:α} (h:∀k,g k=f k) (k:Ev f r):Ev g r:=by
 obtain⟨K,k⟩:=k;exact⟨K,fun n hn=>(h n).trans (k n hn)⟩
section
variable {P:Program} {ops:Array Oper} {o:Oper} {a:Act} {Q:Exit→Act→World→Prop} {K:Act→World→Prop}
theorem GI {w0 W:World} (base:Nat) (hw:Region.wanted o (yielded ops a.tmps)=true) (s x:Operand) (t e:TypeId) (z:Value) (size bytes:Nat)
 (ho:o.op= .call { callee:=.builtin .append,args:=#[s,x],argTypes:=#[t,t]})
 (ht:P.underlying t=some (.slice e)) (hinfo:(P.info? e).map (fun i=>(i.zero,i.size,i.bytes))=some (some z,size,bytes)) (hz:z.cells.size=size) (hs0:0<size) (hb0:0<bytes)
 (v:Value) (n:Nat) (xs ys:List Value) (hs:a.eval s=v) (hx:a.eval x= .slice (some ⟨W.heap.size,0,none⟩) 1 1) (hys:ys.length=size) (h1:∀u∈ys,u.oneCell'=true)
 (HO:W.ownsRow base e size v n xs) (HB:Below base w0 W) (hbase:base≤W.heap.size) (hl:(n+1)*bytes≤140737488355328)
 (h:∀v1 w1,w1.ownsRow base e size v1 (n+1) (xs++ys)→Below base w0 w1→W.grownBy w1 v.ownBlock→(v1.ownBlock=v.ownBlock∨∃b,v1.ownBlock=some b∧W.heap.size≤b)→K (a.put o.dst v1) w1):
 if Region.wanted o (yielded ops a.tmps)=true then Oper.wp P o a (W.alloc (.cells ys.toArray e)) K Q else K (a.put o.dst undef) (W.alloc (.cells ys.toArray e)):=by
 obtain⟨i0,hi,hzz⟩:=Option.map_eq_some_iff.1 hinfo
 simp only[Prod.mk.injEq]at hzz
 obtain⟨hz0,hz1,hz2⟩:=hzz
 have hlen:n+1≤140737488355328:=Nat.le_trans (Nat.le_mul_of_pos_right _ hb0) hl
 rw[if_pos hw]
 obtain⟨v1,w1,hr,hown,hg,_,hat⟩:=run_append_own_at (P:=P) (W.alloc (.cells ys.toArray e)) base t o.type e i0 z size bytes ht hi hz0 hz1 hz2 hz hs0 v n xs (HO.alloc _) ⟨W.heap.size,0,none⟩ 1 1 ys (by rw[hys];simp)
  (by simpa using World.news_of_block (cs:=ys.toArray) (t:=e) (fr:=(0,0)) (heap_alloc_new W (.cells ys.toArray e))) h1 (by simp only[maxLen];omega) hl (by simp;omega)
 unfold Oper.wp execOp
 simp only[ho,resolve,invoke,builtin,Sem.run_bind,Sem.run_pure,Result.andThen_ok,List.map_toArray,List.map_cons,List.map_nil,hs,hx,hr]
 refine h v1 w1 hown ((HB.alloc hbase _).grown hg (by simp;omega) (sF HO)) (World.grownBy.trans (World.grownBy_alloc W _ _) hg) ?_
 rcases hat with hat|hat
 ·exact .inl hat
 ·exact .inr ⟨_,hat,by simp⟩
end
theorem Fh {w:World} {base base':Nat} {e:TypeId} {size n:Nat} {v:Value} {xs:List Value} (h:w.ownsRow base e size v n xs) (hb:base'≤base):w.ownsRow base' e size v n xs:=by
 obtain⟨h1,h2⟩:=h;refine⟨h1,?_⟩;rcases h2 with h2|⟨g,cap,cur,rfl,hg,r⟩
 ·exact .inl h2
 ·exact .inr ⟨g,cap,cur,rfl,Nat.le_trans hb hg,r⟩
section
variable {α:Type} {enc:α→Value} {d:α}
def encs (enc:α→Value) (xs:List α):List Value:=xs.map enc
def uP (d:α) (xs:List α) (i:Int):α:=xs.getD i.toNat d
theorem yg (xs:List α):(encs enc xs).length=xs.length:=by simp[encs]
theorem BS (xs:List α) (j:Nat) (h:j<xs.length):(encs enc xs)[j]? =some (enc (xs.getD j d)):=by
 simp[encs,List.getElem?_eq_getElem h,List.getD_eq_getElem?_getD]
def kJ (enc:α→Value) (d:α) (w:World) (A:Option Addr) (n:Nat) (xs:List α):Prop:=
 xs.length=n∧n≤9223372036854775807∧(0<n→∃ad,A=some ad∧∀j,j<n→w.cell? (ad.add j)=some (enc (xs.getD j d)))
theorem kJ.at_ {w:World} {A:Option Addr} {n:Nat} {xs:List α} (h:kJ enc d w A n xs) (i:Int) (h0:0≤i) (h1:i<n):∃ad,A=some ad∧w.cell? (ad.add i.toNat)=some (enc (uP d xs i)):=by
 obtain⟨ad,e,hc⟩:=h.2.2 (by omega);exact⟨ad,e,hc _ (by omega)⟩
theorem kJ.below {w w1:World} {A:Option Addr} {n:Nat} {xs:List α} (h:kJ enc d w A n xs) (hb:Below w.heap.size w w1):kJ enc d w1 A n xs:=
 ⟨h.1,h.2.1,fun hn=>by
  obtain⟨ad,e,hc⟩:=h.2.2 hn
  exact⟨ad,e,fun j hj=>uO hb (hc j hj)⟩⟩
theorem kJ.uZ {w:World} {A:Option Addr} {n:Nat} {xs:List α} (h:kJ enc d w A n xs) (i:Nat) (hi:i≤n):kJ enc d w A i (xs.take i):=by
 refine⟨by rw[List.length_take,h.1];omega,by have:=h.2.1;omega,fun hp=>?_⟩;obtain⟨ad,e,hc⟩:=h.2.2 (by omega);refine⟨ad,e,fun j hj=>?_⟩;rw[hc j (by omega)];simp[List.getD_eq_getElem?_getD,hj]
theorem EW {W:World} {base g n cap:Nat} {e:TypeId} {xs:List α} (h:W.ownsRow base e 1 (.slice (some ⟨g,0,none⟩) n cap) n (encs enc xs)) (i:Int) (h0:0≤i) (h1:i<n):
 W.cell? ⟨g,i.toNat,none⟩=some (enc (uP d xs i))∧W.frozen? ⟨g,i.toNat,none⟩=false:=by
 have hl:xs.length=n:=by have:=h.1;simp[encs]at this;exact this
 constructor
 ·have hc:=h.cells (g:=g) rfl i.toNat _ (BS (d:=d) xs i.toNat (by omega))
  rwa [add_plain]at hc
 ·rcases h.2 with⟨h',_⟩|⟨g',cap',cur,h',_,hh,_⟩
  ·cases h'
  ·(have:g=g':=by injection h' with h';injection h' with h';injection h' with h');subst this;simp[World.frozen?,hh]
theorem Fe {W:World} {base g n cap:Nat} {e:TypeId} {xs:List α} (h:W.ownsRow base e 1 (.slice (some ⟨g,0,none⟩) n cap) n (encs enc xs)) (i:Int) (x:α):
 (W.setCell ⟨g,i.toNat,none⟩ (enc x)).ownsRow base e 1 (.slice (some ⟨g,0,none⟩) n cap) n (encs enc (xs.set i.toNat x))∧W.grownBy (W.setCell ⟨g,i.toNat,none⟩ (enc x)) (some g):=by
 have hs:=h.stored i.toNat (enc x);have he:(encs enc xs).set i.toNat (enc x)=encs enc (xs.set i.toNat x):=by simp[encs,List.map_set]
 rwa [he]at hs
end
theorem aC {w:World} {g:Nat} {o:Obj} (h:w.heap[g]? =some o) (o':Obj):(w.alloc o').heap[g]? =some o:=(Below.heap_alloc w o' g (aZ h)).trans h
theorem aA {w:World} {g:Nat} {o:Obj} (h:w.heap[g]? =some o):w.drew.heap[g]? =some o:=h
theorem aG {w:World} {g:Nat} {o:Obj} (h:w.heap[g]? =some o) (n:Nat):(w.drewN n).heap[g]? =some o:=h
theorem aQ {w w1:World} {g:Nat} {o:Obj} (h:w.heap[g]? =some o) (hb:Below w.heap.size w w1):w1.heap[g]? =some o:=(hb.block g (aZ h)).trans h
theorem BK (w:World) (o:Obj):(w.alloc o).heap[w.heap.size]? =some o:=heap_alloc_new w o
theorem EX {w:World} {base n m c size:Nat} {e:TypeId} {A:Option Addr} {xs:List Value} (h:w.ownsRow base e size (.slice A m c) n xs):m≤c:=by
 rcases h.2 with⟨he,_⟩|⟨g,cap,cur,he,_,_,hnc,_⟩
 ·(injection he with _ h2 h3);omega
 ·(injection he with _ h2 h3);omega
def jF {α:Type} (R:α→List Value→Prop) (e:TypeId) (size:Nat) (w:World) (base:Nat) (v:Value) (ps:List α):Prop:=
 ∃inner,w.ownsRow base e size v ps.length inner∧bn R size ps inner
section
variable {α:Type} {R R':α→List Value→Prop} {e:TypeId} {size:Nat} {w w1:World} {base:Nat} {v:Value} {ps:List α}
theorem jF.none_ (R:α→List Value→Prop) (e:TypeId) (size:Nat) (w:World) (base:Nat):jF R e size w base (.slice none 0 0) []:=⟨[],EZ _ _ _ _,bn.none _ _⟩
theorem jF.jw (h:jF R e size w base v ps) (hR:∀p c,R p c→R' p c):jF R' e size w base v ps:=by
 obtain⟨inner,ho,hr⟩:=h;exact⟨inner,ho,hr.jw hR⟩
theorem jF.below (h:jF R e size w base v ps) (hb:Below w.heap.size w w1):jF R e size w1 base v ps:=by
 obtain⟨inner,ho,hr⟩:=h;exact⟨inner,Fu ho hb,hr⟩
theorem jF.reads (h:jF R e size w base v ps):∃A c,v= .slice A ps.length c∧ps.length≤c∧jZ R size w A ps.length ps:=by
 obtain⟨inner,ho,hr⟩:=h;obtain⟨A,c,rfl,hrow⟩:=Fa ho hr rfl;exact⟨A,c,rfl,EX ho,hrow⟩
theorem jF.EK (h:jF R e size w base v ps) {g:Nat} {t:TypeId} {cells:Array Value} (hb:w.heap[g]? =some (.cells cells t (0,0))) (ht:e≠t):some g≠v.ownBlock:=by
 obtain⟨inner,ho,hr⟩:=h;exact own_ne ho hb ht
end
section
variable {P:Program} {ops:Array Oper} {rest:List Oper} {o:Oper} {a:Act} {Q:Exit→Act→World→Prop} {α:Type} {R:α→List Value→Prop}
theorem jF.append {w0 W:World} (base:Nat) (hgd:o.guard=none) (s x:Operand) (t e:TypeId) (z:Value) (size bytes:Nat)
 (ho:o.op= .call { callee:=.builtin .append,args:=#[s,x],argTypes:=#[t,t]})
 (ht:P.underlying t=some (.slice e)) (hinfo:(P.info? e).map (fun i=>(i.zero,i.size,i.bytes))=some (some z,size,bytes)) (hz:z.cells.size=size) (hs0:0<size) (hb0:0<bytes)
 (v:Value) (ps:List α) (p:α) (cs:List Value) (hs:a.eval s=v) (hx:a.eval x= .slice (some ⟨W.heap.size,0,none⟩) 1 1) (hp:R p cs) (hcs:cs.length=size) (h1:∀u∈cs,u.oneCell'=true)
 (HO:jF R e size W base v ps) (HB:Below base w0 W) (hbase:base≤W.heap.size) (hl:(ps.length+1)*bytes≤140737488355328)
 (h:∀v1 w1,jF R e size w1 base v1 (ps++[p])→Below base w0 w1→W.grownBy w1 v.ownBlock→(v1.ownBlock=v.ownBlock∨∃b,v1.ownBlock=some b∧W.heap.size≤b)→wpList P ops Q rest (a.put o.dst v1) w1):
 wpList P ops Q (o::rest) a (W.alloc (.cells cs.toArray e)):=by
 obtain⟨inner,hown,hr⟩:=HO
 refine zB base hgd s x t e z size bytes ho ht hinfo hz hs0 hb0 v ps.length inner cs hs hx hcs h1 hown HB hbase hl ?_
 intro v1 w1 hown1 hb1 hg1 qF
 exact h v1 w1 ⟨inner++cs,by rw[List.length_append,List.length_singleton];exact hown1,hr.snoc hp hcs⟩ hb1 hg1 qF
end
theorem jZ.yL {α:Type} {R:α→List Value→Prop} {size:Nat} {w:World} {ad:Addr} {n:Nat} {ps:List α} (h:jZ R size w (some ad) n ps):
 ∃inner,bn R size ps inner∧∀j u,inner[j]? =some u→w.cell? (ad.add j)=some u:=by
 have key:∀m,m≤ps.length→∃inner,bn R size (ps.take m) inner∧∀j u,inner[j]? =some u→w.cell? (ad.add j)=some u:=by
  intro m
  induction m with
  |zero=>exact fun _=>⟨[],bn.none _ _,fun j u hu=>by simp at hu⟩
  |succ m ih=>
   intro hm;obtain⟨inner,hr,hc⟩:=ih (by omega);obtain⟨HV,he,hcell⟩:=h.2.2 (by have:=h.1;omega);(injection he with he);subst he;obtain⟨c,hcl,hp,hcc⟩:=hcell m _ (List.getElem?_eq_getElem (show m<ps.length by omega));refine⟨inner++c,?_,fun j u hu=>?_⟩
   ·rw[List.take_succ_eq_append_getElem (show m<ps.length by omega)];exact hr.snoc hp hcl
   ·(have hil:inner.length=m*size:=by rw[hr.1,List.length_take,Nat.min_eq_left (by omega)]);rcases Nat.lt_or_ge j inner.length with hj|hj
    ·rw[List.getElem?_append_left hj]at hu;exact hc j u hu
    ·rw[List.getElem?_append_right hj]at hu;have:=hcc (j-inner.length) u hu
     rwa [hil,Nat.add_sub_cancel' (by omega)]at this
 obtain⟨inner,hr,hc⟩:=key ps.length (Nat.le_refl _);rw[List.take_length]at hr;exact⟨inner,hr,hc⟩
structure Kd (α:Type) where
 sz:Nat
 E:List Nat
 K:World→α→List Value→Prop
 M:World→Nat→(Nat→Prop)→α→List Value→Prop
 iW:∀{w x cs},K w x cs→cs.length=sz
 iA:∀{w x cs},K w x cs→∀u∈cs,u.oneCell'=true
 jD:∀{w w1:World} {x cs},Below w.heap.size w w1→K w x cs→K w1 x cs
 fJ:∀{w base ok x cs},M w base ok x cs→K w x cs
 dQ:∀{w base ok ok' x cs},(∀k,ok k→ok' k)→M w base ok x cs→M w base ok' x cs
 iL:∀{w:World} {base ok x cs},M w base ok x cs→M w base (fun k=>ok k∧base≤k∧k<w.heap.size∧∃q,q∈E∧∃cells,w.heap[k]? =some (.cells cells q (0,0))) x cs
 iM:∀{w w1:World} {base ok x cs},(∀k,ok k→w1.heap[k]? =w.heap[k]?)→M w base ok x cs→M w1 base ok x cs
 jE:∀{w base base' ok x cs},base'≤base→M w base ok x cs→M w base' ok x cs
theorem EY {w w1:World} {base:Nat} {e:TypeId} {size n:Nat} {v:Value} {xs:List Value} (h:w.ownsRow base e size v n xs) (hm:∀k,v.ownBlock=some k→w1.heap[k]? =w.heap[k]?):w1.ownsRow base e size v n xs:=by
 obtain⟨h1,h2⟩:=h;refine⟨h1,?_⟩;rcases h2 with h2|⟨g,cap,cur,rfl,hg,hh,r⟩
 ·exact .inl h2
 ·exact .inr ⟨g,cap,cur,rfl,hg,(hm g (by simp[Value.ownBlock])).trans hh,r⟩
theorem uN {w:World} {base:Nat} {e:TypeId} {size n:Nat} {v:Value} {xs:List Value} (h:w.ownsRow base e size v n xs) (k:Nat) (hk:v.ownBlock=some k):∃cells,w.heap[k]? =some (.cells cells e (0,0)):=by
 rcases h.2 with⟨rfl,_⟩|⟨g,cap,cur,rfl,hg,hh,r⟩
 ·simp[Value.ownBlock]at hk
 ·(have:g=k:=by simpa[Value.ownBlock]using hk);subst this;exact⟨cur,hh⟩
namespace Kd
def C {α:Type} (d:Kd α) (w:World) (A:Option Addr) (n:Nat) (xs:List α):Prop:=jZ (d.K w) d.sz w A n xs
def R {α:Type} (d:Kd α) (e:Nat) (w:World) (base:Nat) (ok:Nat→Prop) (v:Value) (xs:List α):Prop:=
 (∀k,v.ownBlock=some k→ok k)∧jF (d.M w base (fun k=>ok k∧some k≠v.ownBlock)) e d.sz w base v xs
section
variable {α:Type} {d:Kd α} {e:Nat} {w w1:World} {base:Nat} {ok ok':Nat→Prop} {v:Value} {xs:List α}
theorem aY {A:Option Addr} {n:Nat} (h:d.C w A n xs) (hb:Below w.heap.size w w1):d.C w1 A n xs:=jZ.jw h hb (fun _ _ hp=>d.jD hb hp)
theorem jQ (d:Kd α) (e:Nat) (w:World) (base:Nat) (ok:Nat→Prop):d.R e w base ok (.slice none 0 0) []:=⟨fun k hk=>by simp[Value.ownBlock]at hk,jF.none_ _ _ _ _ _⟩
theorem bC (h:d.R e w base ok v xs) (hok:∀k,ok k→ok' k):d.R e w base ok' v xs:=⟨fun k hk=>hok k (h.1 k hk),h.2.jw (fun _ _ hp=>d.dQ (fun k hk=>⟨hok k hk.1,hk.2⟩) hp)⟩
theorem kY (h:d.R e w base ok v xs):d.R e w base (fun k=>ok k∧base≤k∧k<w.heap.size∧∃q,q∈e::d.E∧∃cells,w.heap[k]? =some (.cells cells q (0,0))) v xs:=by
 obtain⟨h0,inner,ho,hr⟩:=h;refine⟨fun k hk=>?_,inner,ho,hr.jw (fun _ _ hp=>d.dQ (fun k hk=>?_) (d.iL hp))⟩
 ·obtain⟨cells,hc⟩:=uN ho k hk;exact⟨h0 k hk,sF ho k hk,zx ho k hk,e,List.mem_cons_self,cells,hc⟩
 ·obtain⟨⟨h1,h2⟩,h3,h4,q,hq,hc⟩:=hk;exact⟨⟨h1,h3,h4,q,List.mem_cons_of_mem _ hq,hc⟩,h2⟩
theorem qX (h:d.R e w base ok v xs) (hm:∀k,ok k→w1.heap[k]? =w.heap[k]?):d.R e w1 base ok v xs:=by
 obtain⟨h0,inner,ho,hr⟩:=h;exact⟨h0,inner,EY ho (fun k hk=>hm k (h0 k hk)),hr.jw (fun _ _ hp=>d.iM (fun k hk=>hm k hk.1) hp)⟩
theorem sK {base':Nat} (h:d.R e w base ok v xs) (hb:base'≤base):d.R e w base' ok v xs:=by
 obtain⟨h0,inner,ho,hr⟩:=h;exact⟨h0,inner,Fh ho hb,hr.jw (fun _ _ hp=>d.jE hb hp)⟩
theorem qA (h:d.R e w base ok v xs) (hm:∀k,ok k→k<w.heap.size→w1.heap[k]? =w.heap[k]?):d.R e w1 base ok v xs:=
 bC (qX (kY h) (fun k hk=>hm k hk.1 hk.2.2.1)) (fun _ hk=>hk.1)
theorem vD {x:α} {cs:List Value} (h:d.M w base ok x cs) (hm:∀k,ok k→k<w.heap.size→w1.heap[k]? =w.heap[k]?):d.M w1 base ok x cs:=
 d.dQ (fun _ hk=>hk.1) (d.iM (fun k hk=>hm k hk.1 hk.2.2.1) (d.iL h))
theorem dW (h:d.R e w base ok v xs) (hb:Below w.heap.size w w1):d.R e w1 base ok v xs:=qA h (fun k _ hk=>hb.block k hk)
theorem wY {x:α} {cs:List Value} (h:d.M w base ok x cs) (hb:Below w.heap.size w w1):d.M w1 base ok x cs:=vD h (fun k _ hk=>hb.block k hk)
theorem fK (h:d.R e w base ok v xs) {p:Addr} (hok:∀k,ok k→k≠p.block) (u:Value):d.R e (w.setCell p u) base ok v xs:=qA h (fun k ho _=>Below.heap_setCell w p u k (hok k ho))
theorem dJ (h:d.R e w base ok v xs) {g t:Nat} {cells:Array Value} (hb:w.heap[g]? =some (.cells cells t (0,0))) (ht:∀q,q∈e::d.E→q≠t):d.R e w base (fun k=>ok k∧k≠g) v xs:=
 bC (kY h) (fun k hk=>⟨hk.1,by
  obtain⟨_,_,_,q,hq,cells',hc⟩:=hk
  rintro rfl
  rw[hc]at hb
  injection hb with hb
  injection hb with _ hb
  exact ht q hq hb⟩)
theorem vJ (h:d.R e w base ok v xs):∃A c,v= .slice A xs.length c∧xs.length≤c∧d.C w A xs.length xs:=by
 obtain⟨A,c,he,hl,hr⟩:=jF.reads h.2;exact⟨A,c,he,hl,hr.jw (Below.refl _ _) (fun _ _ hp=>d.fJ hp)⟩
theorem sN (h:d.R e w base ok v xs):∃A c,v= .slice A xs.length c:=by
 obtain⟨A,c,he,_⟩:=vJ h;exact⟨A,c,he⟩
theorem uh (h:d.R e w base ok v xs):∃inner,w.ownsRow base e d.sz v xs.length inner:=by
 obtain⟨_,inner,ho,_⟩:=h;exact⟨inner,ho⟩
theorem sM (h:d.R e w base ok v xs) {g t:Nat} {cells:Array Value} (hb:w.heap[g]? =some (.cells cells t (0,0))) (ht:e≠t):some g≠v.ownBlock:=jF.EK h.2 hb ht
end
def scalar {α:Type} (enc:α→Value) (h1:∀x,(enc x).oneCell'=true):Kd α where
 sz:=1
 E:=[]
 K:=fun _ x cs=>cs=[enc x]
 M:=fun _ _ _ x cs=>cs=[enc x]
 iW:=fun h=>by rw[h];rfl
 iA:=fun h u hu=>by
  rw[h]at hu
  rw[List.mem_singleton.1 hu]
  exact h1 _
 jD:=fun _ h=>h
 fJ:=fun h=>h
 dQ:=fun _ h=>h
 iL:=fun h=>h
 iM:=fun _ h=>h
 jE:=fun _ h=>h
def int (k:IntKind):Kd Int:=scalar (Value.int k) (fun _=>rfl)
def bool:Kd Bool:=scalar Value.bool (fun _=>rfl)
def string:Kd ByteArray:=scalar Value.string (fun _=>rfl)
def slice {α:Type} (e:Nat) (d:Kd α):Kd (List α) where
 sz:=1
 E:=e::d.E
 K:=fun w xs cs=>∃A c,cs=[.slice A xs.length c]∧xs.length≤c∧d.C w A xs.length xs
 M:=fun w base ok xs cs=>∃v,cs=[v]∧d.R e w base ok v xs
 iW:=by
  rintro w x cs ⟨A,c,rfl,_⟩
  rfl
 iA:=by
  rintro w x cs ⟨A,c,rfl,_⟩ u hu
  rw[List.mem_singleton.1 hu]
  rfl
 jD:=by
  rintro w w1 x cs hb ⟨A,c,rfl,hl,hr⟩
  exact⟨A,c,rfl,hl,aY hr hb⟩
 fJ:=by
  rintro w base ok x cs ⟨v,rfl,h⟩
  obtain⟨A,c,rfl,hl,hr⟩:=vJ h
  exact⟨A,c,rfl,hl,hr⟩
 dQ:=by
  rintro w base ok ok' x cs hok ⟨v,rfl,h⟩
  exact⟨v,rfl,bC h hok⟩
 iL:=by
  rintro w base ok x cs ⟨v,rfl,h⟩
  exact⟨v,rfl,kY h⟩
 iM:=by
  rintro w w1 base ok x cs hm ⟨v,rfl,h⟩
  exact⟨v,rfl,qX h hm⟩
 jE:=by
  rintro w base base' ok x cs hb ⟨v,rfl,h⟩
  exact⟨v,rfl,sK h hb⟩
def pair {α β:Type} (a:Kd α) (b:Kd β):Kd (α×β) where
 sz:=a.sz+b.sz
 E:=a.E++b.E
 K:=fun w x cs=>∃c0 c1,cs=c0++c1∧a.K w x.1 c0∧b.K w x.2 c1
 M:=fun w base ok x cs=>∃c0 c1,cs=c0++c1∧a.M w base ok x.1 c0∧b.M w base ok x.2 c1
 iW:=by
  rintro w x cs ⟨c0,c1,rfl,h0,h1⟩
  rw[List.length_append,a.iW h0,b.iW h1]
 iA:=by
  rintro w x cs ⟨c0,c1,rfl,h0,h1⟩ u hu
  rcases List.mem_append.1 hu with hu|hu
  ·exact a.iA h0 u hu
  ·exact b.iA h1 u hu
 jD:=by
  rintro w w1 x cs hb ⟨c0,c1,rfl,h0,h1⟩
  exact⟨c0,c1,rfl,a.jD hb h0,b.jD hb h1⟩
 fJ:=by
  rintro w base ok x cs ⟨c0,c1,rfl,h0,h1⟩
  exact⟨c0,c1,rfl,a.fJ h0,b.fJ h1⟩
 dQ:=by
  rintro w base ok ok' x cs hok ⟨c0,c1,rfl,h0,h1⟩
  exact⟨c0,c1,rfl,a.dQ hok h0,b.dQ hok h1⟩
 iL:=by
  rintro w base ok x cs ⟨c0,c1,rfl,h0,h1⟩
  refine⟨c0,c1,rfl,a.dQ ?_ (a.iL h0),b.dQ ?_ (b.iL h1)⟩
  ·rintro k ⟨h2,h3,h4,q,hq,hc⟩
   exact⟨h2,h3,h4,q,List.mem_append_left _ hq,hc⟩
  ·rintro k ⟨h2,h3,h4,q,hq,hc⟩
   exact⟨h2,h3,h4,q,List.mem_append_right _ hq,hc⟩
 iM:=by
  rintro w w1 base ok x cs hm ⟨c0,c1,rfl,h0,h1⟩
  exact⟨c0,c1,rfl,a.iM hm h0,b.iM hm h1⟩
 jE:=by
  rintro w base base' ok x cs hb ⟨c0,c1,rfl,h0,h1⟩
  exact⟨c0,c1,rfl,a.jE hb h0,b.jE hb h1⟩
def oI {α β:Type} (d:Kd α) (f:β→α):Kd β where
 sz:=d.sz
 E:=d.E
 K:=fun w x cs=>d.K w (f x) cs
 M:=fun w base ok x cs=>d.M w base ok (f x) cs
 iW:=d.iW
 iA:=d.iA
 jD:=d.jD
 fJ:=d.fJ
 dQ:=d.dQ
 iL:=d.iL
 iM:=d.iM
 jE:=d.jE
theorem kW {α:Type} {d:Kd α} {w:World} {A:Option Addr} {n:Nat} {xs:List α} (h:d.C w A n xs) (z:α) (i:Int) (h0:0≤i) (h1:i<n):
 ∃ad c,A=some ad∧c.length=d.sz∧d.K w (xs.getD i.toNat z) c∧∀j u,c[j]? =some u→w.cell? (ad.add (i.toNat*d.sz+j))=some u:=jZ.BZ h z i h0 h1
theorem xC {α:Type} {d:Kd α} {e base:Nat} {ok bH:Nat→Prop} {W w1:World} {v v1:Value} {xs:List α} {p:α} {inner cs:List Value} (h0:∀k,v.ownBlock=some k→ok k) (hr:bn (d.M W base (fun k=>ok k∧some k≠v.ownBlock)) d.sz xs inner) (hp:d.M W base bH p cs) (jB:∀k,bH k→ok k∧some k≠v.ownBlock) (hfresh:∀k,W.heap.size≤k→ok k)
 (hown:w1.ownsRow base e d.sz v1 (xs.length+1) (inner++cs)) (hg:W.grownBy w1 v.ownBlock) (hat:v1.ownBlock=v.ownBlock∨∃b,v1.ownBlock=some b∧W.heap.size≤b):d.R e w1 base ok v1 (xs++[p]):=by
 have hne:∀k,some k≠v.ownBlock→k<W.heap.size→some k≠v1.ownBlock:=by
  intro k hk hlt;rcases hat with hat|⟨b,hb,hle⟩
  ·rw[hat];exact hk
  ·rw[hb];intro he;(injection he with he);omega
 have step:∀{q:α} {c:List Value} {o:Nat→Prop},d.M W base o q c→(∀k,o k→ok k∧some k≠v.ownBlock)→d.M w1 base (fun k=>ok k∧some k≠v1.ownBlock) q c:=by
  intro q c o hq ho;have h1:=d.iM (w1:=w1) (fun k hk=>hg.block k hk.2.2.1 (ho k hk.1).2) (d.iL hq);exact d.dQ (fun k hk=>⟨(ho k hk.1).1,hne k (ho k hk.1).2 hk.2.2.1⟩) h1
 refine⟨fun k hk=>?_,inner++cs,by rw[List.length_append,List.length_singleton];exact hown,?_⟩
 ·rcases hat with hat|⟨b,hb,hle⟩
  ·exact h0 k (hat ▸ hk)
  ·rw[hb]at hk;(injection hk with hk);exact hfresh k (by omega)
 ·exact(hr.jw (fun _ _ hq=>step hq (fun _ hk=>hk))).snoc (step hp jB) (d.iW (d.fJ hp))
section
variable {P:Program} {ops:Array Oper} {rest:List Oper} {o:Oper} {a:Act} {Q:Exit→Act→World→Prop} {α:Type}
theorem sJ (d:Kd α) {w0 W:World} (base:Nat) (hgd:o.guard=none) (s x:Operand) (t e:TypeId) (z:Value) (bytes:Nat)
 (ho:o.op= .call { callee:=.builtin .append,args:=#[s,x],argTypes:=#[t,t]})
 (ht:P.underlying t=some (.slice e)) (hinfo:(P.info? e).map (fun i=>(i.zero,i.size,i.bytes))=some (some z,d.sz,bytes)) (hz:z.cells.size=d.sz) (hs0:0<d.sz) (hb0:0<bytes)
 (v:Value) (xs:List α) (p:α) (cs:List Value) (ok bH:Nat→Prop) (hs:a.eval s=v) (hx:a.eval x= .slice (some ⟨W.heap.size,0,none⟩) 1 1) (hp:d.M W base bH p cs) (jB:∀k,bH k→ok k∧some k≠v.ownBlock) (hfresh:∀k,W.heap.size≤k→ok k)
 (HO:d.R e W base ok v xs) (HB:Below base w0 W) (hbase:base≤W.heap.size) (hl:(xs.length+1)*bytes≤140737488355328)
 (h:∀v1 w1,d.R e w1 base ok v1 (xs++[p])→Below base w0 w1→W.grownBy w1 v.ownBlock→(v1.ownBlock=v.ownBlock∨∃b,v1.ownBlock=some b∧W.heap.size≤b)→wpList P ops Q rest (a.put o.dst v1) w1):
 wpList P ops Q (o::rest) a (W.alloc (.cells cs.toArray e)):=by
 obtain⟨h0,inner,hown,hr⟩:=HO
 refine zB base hgd s x t e z d.sz bytes ho ht hinfo hz hs0 hb0 v xs.length inner cs hs hx (d.iW (d.fJ hp)) (d.iA (d.fJ hp)) hown HB hbase hl ?_
 intro v1 w1 hown1 hb1 hg1 qF
 exact h v1 w1 (xC h0 hr hp jB hfresh hown1 hg1 qF) hb1 hg1 qF
end
section
variable {P:Program} {ops:Array Oper} {o:Oper} {a:Act} {Q:Exit→Act→World→Prop} {Kc:Act→World→Prop} {α:Type}
theorem vE (d:Kd α) {w0 W:World} (base:Nat) (hw:Region.wanted o (yielded ops a.tmps)=true) (s x:Operand) (t e:TypeId) (z:Value) (bytes:Nat)
 (ho:o.op= .call { callee:=.builtin .append,args:=#[s,x],argTypes:=#[t,t]})
 (ht:P.underlying t=some (.slice e)) (hinfo:(P.info? e).map (fun i=>(i.zero,i.size,i.bytes))=some (some z,d.sz,bytes)) (hz:z.cells.size=d.sz) (hs0:0<d.sz) (hb0:0<bytes)
 (v:Value) (xs:List α) (p:α) (cs:List Value) (ok bH:Nat→Prop) (hs:a.eval s=v) (hx:a.eval x= .slice (some ⟨W.heap.size,0,none⟩) 1 1) (hp:d.M W base bH p cs) (jB:∀k,bH k→ok k∧some k≠v.ownBlock) (hfresh:∀k,W.heap.size≤k→ok k)
 (HO:d.R e W base ok v xs) (HB:Below base w0 W) (hbase:base≤W.heap.size) (hl:(xs.length+1)*bytes≤140737488355328)
 (h:∀v1 w1,d.R e w1 base ok v1 (xs++[p])→Below base w0 w1→W.grownBy w1 v.ownBlock→(v1.ownBlock=v.ownBlock∨∃b,v1.ownBlock=some b∧W.heap.size≤b)→Kc (a.put o.dst v1) w1):
 if Region.wanted o (yielded ops a.tmps)=true then Oper.wp P o a (W.alloc (.cells cs.toArray e)) Kc Q else Kc (a.put o.dst undef) (W.alloc (.cells cs.toArray e)):=by
 obtain⟨h0,inner,hown,hr⟩:=HO
 refine GI base hw s x t e z d.sz bytes ho ht hinfo hz hs0 hb0 v xs.length inner cs hs hx (d.iW (d.fJ hp)) (d.iA (d.fJ hp)) hown HB hbase hl ?_
 intro v1 w1 hown1 hb1 hg1 qF
 exact h v1 w1 (xC h0 hr hp jB hfresh hown1 hg1 qF) hb1 hg1 qF
end
theorem FB {α:Type} {enc:α→Value} (xs:List α):bn (fun(x:α) (cs:List Value)=>cs=[enc x]) 1 xs (encs enc xs):=by
 refine⟨by simp[encs],fun j p hj=>?_⟩;obtain⟨hl,hp⟩:=List.getElem?_eq_some_iff.1 hj;have hl':j<(encs enc xs).length:=by rw[yg];exact hl
 rw[Nat.mul_one,List.drop_eq_getElem_cons hl'];simp[encs,hp]
theorem Bg {α:Type} {enc:α→Value} {h1:∀x,(enc x).oneCell'=true} {e:Nat} {w:World} {base:Nat} {ok:Nat→Prop} {v:Value} {xs:List α} (ho:w.ownsRow base e 1 v xs.length (encs enc xs)) (hok:∀k,v.ownBlock=some k→ok k):(scalar enc h1).R e w base ok v xs:=⟨hok,encs enc xs,ho,FB xs⟩
theorem zy {α:Type} {enc:α→Value} {h1:∀x,(enc x).oneCell'=true} {e:Nat} {w:World} {base:Nat} {ok:Nat→Prop} {v:Value} {xs:List α} (h:(scalar enc h1).R e w base ok v xs):w.ownsRow base e 1 v xs.length (encs enc xs):=by
 obtain⟨_,inner,ho,hr⟩:=h;have:inner=encs enc xs:=by
  apply List.ext_getElem?;intro j;rcases Nat.lt_or_ge j xs.length with hj|hj
  ·have h2:=hr.2 j _ (List.getElem?_eq_getElem hj);(have hl:j<inner.length:=by have:=hr.1;simp[scalar]at this;omega);have h3:(inner.drop (j*1)).take 1=[enc xs[j]]:=h2;rw[Nat.mul_one,List.drop_eq_getElem_cons hl]at h3;have h4:inner[j]=enc xs[j]:=by
    have h5:=congrArg List.head? h3;rw[List.take_succ_cons]at h5;exact Option.some.inj h5
   rw[List.getElem?_eq_getElem hl,h4];simp[encs,List.getElem?_eq_getElem hj]
  ·(have h3:inner.length=xs.length:=by have:=hr.1;simp[scalar]at this;omega);rw[List.getElem?_eq_none (by omega),List.getElem?_eq_none (by rw[yg];omega)]
 rw[←this];exact ho
theorem Fx {α:Type} {enc:α→Value} {d:α} {h1:∀x,(enc x).oneCell'=true} {w:World} {A:Option Addr} {n:Nat} {xs:List α} (h:(scalar enc h1).C w A n xs):kJ enc d w A n xs:=by
 refine⟨h.1,h.2.1,fun hn=>?_⟩;obtain⟨ad,e,hc⟩:=h.2.2 hn;refine⟨ad,e,fun j hj=>?_⟩;have hl:j<xs.length:=by have:=h.1;omega
 obtain⟨c,_,hK,hcell⟩:=hc j _ (List.getElem?_eq_getElem hl);have hK':c=[enc xs[j]]:=hK;subst hK';have:=hcell 0 _ rfl;simpa[scalar,List.getD_eq_getElem?_getD,List.getElem?_eq_getElem hl]using this
end Kd
namespace Kd
theorem iX {α:Type} {d:Kd α} {e base:Nat} {ok:Nat→Prop} {W w1:World} {u v v1:Value} {xs:List α} (h:d.R e W base (fun k=>ok k∧some k≠v.ownBlock) u xs) (hg:W.grownBy w1 v.ownBlock) (hat:v1.ownBlock=v.ownBlock∨∃b,v1.ownBlock=some b∧W.heap.size≤b):d.R e w1 base (fun k=>ok k∧some k≠v1.ownBlock) u xs:=by
 refine bC (qX (kY h) (fun k hk=>hg.block k hk.2.2.1 hk.1.2)) (fun k hk=>⟨hk.1.1,?_⟩);rcases hat with hat|⟨b,hb,hle⟩
 ·rw[hat];exact hk.1.2
 ·rw[hb];intro he;(injection he with he);have:=hk.2.2.1;omega
end Kd
namespace Kd
section
variable {α β:Type} {d:Kd α} {d':Kd β} {e e':Nat} {w w1 W:World} {base b b':Nat} {ok ok' sD zu:Nat→Prop} {v u:Value} {xs:List α} {ys:List β}
theorem nM (h:d.R e w base ok v xs) (o:Obj):d.R e (w.alloc o) base ok v xs:=dW h (jh (Below.refl _ _) o)
theorem jA (h:d.R e w base ok v xs):d.R e w.drew base ok v xs:=dW h (sU (Below.refl _ _))
theorem nN (h:d.R e w base ok v xs) (m:Nat):d.R e (w.drewN m) base ok v xs:=dW h (nY (Below.refl _ _) m)
theorem Hu {A:Option Addr} {n:Nat} (h:d.C w A n xs) (o:Obj):d.C (w.alloc o) A n xs:=aY h (jh (Below.refl _ _) o)
theorem Hw {A:Option Addr} {n:Nat} (h:d.C w A n xs):d.C w.drew A n xs:=aY h (sU (Below.refl _ _))
theorem Hy {A:Option Addr} {n:Nat} (h:d.C w A n xs) (m:Nat):d.C (w.drewN m) A n xs:=aY h (nY (Below.refl _ _) m)
theorem wT (d:Kd α) (w:World):d.C w none ([]:List α).length []:=⟨rfl,by simp,fun h=>absurd h (Nat.lt_irrefl 0)⟩
theorem mF {A:Option Addr} {n c:Nat} (h:d.R e w base ok (.slice A n c) xs):n=xs.length∧n≤c∧d.C w A xs.length xs:=by
 obtain⟨A',c',he,hl,hr⟩:=vJ h;injection he with h1 h2 h3
 subst h1;exact⟨h2,by omega,hr⟩
theorem cO (h:d.R e w base ok v xs):∀k,v.ownBlock=some k→k<w.heap.size:=by
 obtain⟨inner,ho⟩:=uh h;exact zx ho
theorem tZ (h:d.R e w base ok v xs):∀k,v.ownBlock=some k→base≤k:=by
 obtain⟨inner,ho⟩:=uh h;exact sF ho
theorem Bd (h:d.R e w base ok v xs) {g:Nat} (hok:∀k,ok k→k≠g):some g≠v.ownBlock:=fun e=>hok g (h.1 g e.symm) rfl
theorem uf (h:d.R e w base ok v xs) (hp:0<xs.length):∃g cap,v= .slice (some ⟨g,0,none⟩) xs.length cap∧base≤g∧g<w.heap.size∧∃cells,w.heap[g]? =some (.cells cells e (0,0)):=by
 obtain⟨inner,ho⟩:=uh h;obtain⟨g,cap,he,hb,hl⟩:=ho.form hp;obtain⟨cells,hc⟩:=uN ho g (by rw[he];simp[Value.ownBlock]);exact⟨g,cap,he,hb,hl,cells,hc⟩
end
section
variable {w W:World} {A:Option Addr} {n:Nat}
theorem eG {k:IntKind} {xs:List Int} (h:(Kd.int k).C w A n xs) (i:Int) (h0:0≤i) (h1:i<n):∃ad,A=some ad∧w.cell? (ad.add i.toNat)=some (.int k (rd xs i)):=
 kJ.at_ (Fx (enc:=Value.int k) (d:=(0:Int)) (h1:=fun _=>rfl) h) i h0 h1
variable {α:Type} {enc:α→Value} {h1:∀x,(enc x).oneCell'=true} {e base g cap:Nat} {ok:Nat→Prop} {xs:List α}
theorem Bf (d:α) (h:(scalar enc h1).R e W base ok (.slice (some ⟨g,0,none⟩) xs.length cap) xs) (i:Int) (h0:0≤i) (hi:i<xs.length):W.cell? ⟨g,i.toNat,none⟩=some (enc (uP d xs i))∧W.frozen? ⟨g,i.toNat,none⟩=false:=EW (zy h) i h0 hi
theorem Bl (h:(scalar enc h1).R e W base ok (.slice (some ⟨g,0,none⟩) xs.length cap) xs) (i:Int) (x:α):(scalar enc h1).R e (W.setCell ⟨g,i.toNat,none⟩ (enc x)) base ok (.slice (some ⟨g,0,none⟩) xs.length cap) (xs.set i.toNat x)∧W.grownBy (W.setCell ⟨g,i.toNat,none⟩ (enc x)) (some g):=by
 obtain⟨ho,hg⟩:=Fe (zy h) i x;exact⟨Bg (by rw[List.length_set];exact ho) h.1,hg⟩
end
section
variable {P:Program} {ops:Array Oper} {rest:List Oper} {o:Oper} {a:Act} {Q:Exit→Act→World→Prop}
theorem yj {W w1:World} {v:Value} (hgd:o.guard=none) (hrun:(execOp a.eval o).run P W= .ok (.value v) w1) (h:wpList P ops Q rest (a.put o.dst v) w1):wpList P ops Q (o::rest) a W:=by
 refine wpList_plain hgd fun K hK=>?_;unfold Oper.wp;rw[hrun];exact hK _ _ h
variable {α:Type}
theorem jP (d:Kd α) {w0 W:World} (base e:Nat) (hgd:o.guard=none) {N:Tmp} (ru:o.dst=some N) {xs:List α} {inner:List Value} {ok bH:Nat→Prop}
 (hrun:(execOp a.eval o).run P W= .ok (.value (.slice (some ⟨W.heap.size,0,none⟩) xs.length xs.length)) (W.alloc (.cells inner.toArray e)))
 (hrep:bn (d.M W base bH) d.sz xs inner) (hok:∀k,bH k→ok k) (hfresh:ok W.heap.size) (HB:Below base w0 W) (hbase:base≤W.heap.size) (hm:xs.length≤9223372036854775807)
 (h:∀v1 w1,d.R e w1 base ok v1 xs→Below base w0 w1→W.grownBy w1 none→(∃b,v1.ownBlock=some b∧W.heap.size≤b)→wpList P ops Q rest (a.put o.dst v1) w1):wpList P ops Q (o::rest) a W:=by
 refine yj hgd hrun (h _ _ ⟨fun k hk=>?_,inner,?_,?_⟩ (HB.alloc hbase _) (World.grownBy_alloc W _ none) ⟨W.heap.size,by simp[Value.ownBlock],Nat.le_refl _⟩)
 ·(have:W.heap.size=k:=by simpa[Value.ownBlock]using hk);subst this;exact hfresh
 ·have h2:=World.ownsRow_lit (base:=base) (e:=e) (size:=d.sz) W inner.toArray xs.length hbase (by simpa[maxLen]using hm) (by simpa using hrep.1);simpa using h2
 ·refine hrep.jw (fun p c hp=>d.dQ (fun k hk=>⟨hok k hk.1,fun he=>?_⟩) (wY (d.iL hp) (jh (Below.refl _ _) _)));(have h3:k=W.heap.size:=by simpa[Value.ownBlock]using he);have:=hk.2.2.1;omega
theorem zG {α:Type} {R:α→List Value→Prop} {z:Value} {size:Nat} {z0:α} (hz:z.cells.size=size) (hs:0<size) (h0:R z0 z.cells.toList) (m:Nat):bn R size (List.replicate m z0) (madeCells z.cells (m*size)).toList:=by
 refine⟨by simp[size_madeCells],fun j p hj=>?_⟩;obtain⟨hjl,hp⟩:=List.getElem?_eq_some_iff.1 hj;have hjm:j<m:=by simpa using hjl
 have hp':z0=p:=by simpa using hp
 subst hp';have hle:j*size+size≤m*size:=by rw[←Nat.succ_mul];exact Nat.mul_le_mul_right _ hjm
 have:((madeCells z.cells (m*size)).toList.drop (j*size)).take size=z.cells.toList:=by
  apply List.ext_getElem
  ·simp[size_madeCells,hz];omega
  ·intro i h1 h2;(have hi:i<size:=by rw[Array.length_toList,hz]at h2;exact h2);have hmod:(j*size+i)%size=i:=by
    rw[Nat.mul_comm,Nat.mul_add_mod];exact Nat.mod_eq_of_lt hi
   simp[madeCells,hz,hmod];rw[getElem!_pos z.cells i (by omega)]
 rw[this];exact h0
theorem vH (d:Kd α) {w0 W:World} (base e:Nat) (hgd:o.guard=none) {N:Tmp} (hd:o.dst=some N) (t:TypeId) (x y:Operand) (ho:o.op= .makeSlice t x y) (n:Int) (hx:a.eval x= .int .i64 n) (hy:a.eval y= .int .i64 n)
 (ht:P.underlying t=some (.slice e)) (z:Value) (bytes:Nat) (hinfo:(P.info? e).map (fun i=>(i.zero,i.size,i.bytes))=some (some z,d.sz,bytes)) (hz:z.cells.size=d.sz) (hs0:0<d.sz) (hb0:0<bytes)
 (z0:α) {ok bH:Nat→Prop} (hzero:d.M W base bH z0 z.cells.toList) (hok:∀k,bH k→ok k) (hfresh:ok W.heap.size) (h0:0≤n) (hl:n.toNat*bytes≤281474976710656) (HB:Below base w0 W) (hbase:base≤W.heap.size)
 (h:∀v1 w1,d.R e w1 base ok v1 (List.replicate n.toNat z0)→Below base w0 w1→W.grownBy w1 none→(∃b,v1.ownBlock=some b∧W.heap.size≤b)→wpList P ops Q rest (a.put o.dst v1) w1):wpList P ops Q (o::rest) a W:=by
 obtain⟨m,rfl⟩:=Int.eq_ofNat_of_zero_le h0;simp only[Int.toNat_natCast]at hl h;obtain⟨i0,hi,hzz⟩:=Option.map_eq_some_iff.1 hinfo;simp only[Prod.mk.injEq]at hzz;obtain⟨hz0,hz1,hz2⟩:=hzz;have hm:m≤281474976710656:=Nat.le_trans (Nat.le_mul_of_pos_right _ hb0) hl;have hr:=run_make (P:=P) W t e i0 z ht hi hz0 .i64 .i64 (m:Int) (m:Int) (by omega) (by omega)
  (by
   have h3:((i0.bytes*m:Nat):Int)≤281474976710656:=by rw[hz2,Nat.mul_comm];omega
   rwa [Int.natCast_mul]at h3) (by omega)
 simp only[Int.toNat_natCast]at hr;rw[hz1]at hr;refine jP d base e hgd hd (xs:=List.replicate m z0) (inner:=(madeCells z.cells (m*d.sz)).toList) (bH:=bH) (ok:=ok) ?_ (zG hz hs0 hzero m) hok hfresh HB hbase (by simp;omega) h;simp[execOp,ho,hx,hy,hr]
end
end Kd
theorem Fg {w:World} {base n m c size:Nat} {e:TypeId} {A:Option Addr} {xs:List Value} (h:w.ownsRow base e size (.slice A n c) n xs) (hm:m≤n):w.ownsRow base e size (.slice A m c) m (xs.take (m*size)):=by
 obtain⟨h1,h2⟩:=h;refine⟨by rw[List.length_take,h1];exact Nat.min_eq_left (Nat.mul_le_mul_right _ hm),?_⟩;rcases h2 with⟨he,h0⟩|⟨g,cap,cur,he,hb,hh,hnc,hcm,hcs,ht⟩
 ·(injection he with ha _ hc);subst ha;subst hc;exact .inl ⟨by rw[show m=0 by omega],by omega⟩
 ·(injection he with ha _ hc);subst ha;subst hc;refine .inr ⟨g,c,cur,rfl,hb,hh,by omega,hcm,hcs,?_⟩;rw[←ht,List.take_take,Nat.min_eq_left (Nat.mul_le_mul_right _ hm)]
section
variable {P:Program}
theorem yc (t e:TypeId) (kh:IntKind) {i:TypeInfo} (ht:P.underlying t=some (.slice e)) (hi:P.info? e=some i) (A:Option Addr) (n c:Nat) (j:Int) (h0:0≤j) (hm:j≤n) (hc:n≤c):
 ∀W:World,(Instr.slice t (.slice A n c) none (some (.int kh j)) none).run P W= .ok (.slice A j.toNat c) W:=by
 intro W;have hel:P.elem t=e:=by simp[Program.elem,ht]
 have hu:P.underlying t=some (.slice (P.elem t)):=by rw[hel];exact ht
 have ha:(A.map fun x=>x.add 0)=A:=by cases A<;>simp[Addr.add]
 rw[run_slice_h W t A n c hu kh j h0 (by omega),hel];simp[sizeOf,typeInfo,hi,sliced,Result.andThen,ha]
end
def xB (w:World) (base:Nat) (e:TypeId) (size:Nat) (v:Value) (n:Nat) (xs:List Value):Prop:=
 xs.length=n*size∧
 ((n=0∧∃A,v= .slice A 0 0∧∀a,A=some a→base≤a.block∧∃cur,w.heap[a.block]? =some (.cells cur e (0,0)))∨
  ∃g off cap cur,v= .slice (some ⟨g,off*size,none⟩) n cap∧base≤g∧w.heap[g]? =some (.cells cur e (0,0))∧n≤cap∧off+cap≤maxLen∧cur.size=(off+cap)*size∧(cur.toList.drop (off*size)).take (n*size)=xs)
section
variable {w w1:World} {base n size:Nat} {e:TypeId} {v:Value} {xs:List Value}
theorem Fv (h:w.ownsRow base e size v n xs):xB w base e size v n xs:=by
 obtain⟨h1,h2⟩:=h;refine⟨h1,?_⟩;rcases h2 with⟨rfl,h0⟩|⟨g,cap,cur,rfl,hb,hh,hnc,hcm,hcs,ht⟩
 ·exact .inl ⟨h0,none,rfl,fun a ha=>by cases ha⟩
 ·exact .inr ⟨g,0,cap,cur,by rw[Nat.zero_mul],hb,hh,hnc,by rw[Nat.zero_add];exact hcm,by rw[Nat.zero_add];exact hcs,by rw[Nat.zero_mul,List.drop_zero];exact ht⟩
theorem wL {g:Nat}:∀(vs:List Value) (o:Nat) {w:World} (k:Nat),k≠g→(w.setCells g o vs).heap[k]? =w.heap[k]?
 |[],_,_,_,_=>rfl
 |v::r,o,w,k,hk=>by
  rw[World.setCells,wL r (o+1) k hk]
  exact Below.heap_setCell w ⟨g,o,none⟩ v k hk
theorem wN (g:Nat):∀(vs:List Value) (o:Nat) (w:World),(w.setCells g o vs).os=w.os∧(w.setCells g o vs).tape=w.tape∧(w.setCells g o vs).output=w.output∧(w.setCells g o vs).heap.size=w.heap.size
 |[],_,_=>⟨rfl,rfl,rfl,rfl⟩
 |v::r,o,w=>by
  obtain⟨h1,h2,h3,h4⟩:=wN g r (o+1) (w.setCell ⟨g,o,none⟩ v)
  rw[World.setCells]
  exact⟨h1,h2,h3,by rw[h4];simp[World.setCell]⟩
theorem wM {g:Nat} {e:TypeId}:∀(vs:List Value) (o:Nat) (w:World) (cur:Array Value),w.heap[g]? =some (.cells cur e (0,0))→o+vs.length≤cur.size→
 ∃cur',(w.setCells g o vs).heap[g]? =some (.cells cur' e (0,0))∧cur'.size=cur.size∧cur'.toList=cur.toList.take o++vs++cur.toList.drop (o+vs.length)
 |[],o,w,cur,h,_=>⟨cur,h,rfl,by simp⟩
 |v::r,o,w,cur,h,hl=>by
  have h2:=xX h o v
  simp only[List.length_cons]at hl
  obtain⟨cur',h3,h4,h5⟩:=wM r (o+1) (w.setCell ⟨g,o,none⟩ v) _ h2 (by simp;omega)
  refine⟨cur',h3,by rw[h4];simp,?_⟩
  rw[h5,Array.toList_setIfInBounds]
  have ho:o<cur.toList.length:=by rw[Array.length_toList];omega
  rw[List.take_set,List.drop_set_of_lt (by omega)]
  simp only[List.length_cons]
  rw[show o+1+r.length=o+(r.length+1) by omega]
  congr 1
  rw[List.take_succ_eq_append_getElem ho,List.set_append_right _ _ (by rw[List.length_take];omega)]
  have ho':o<cur.size:=by omega
  simp[Nat.min_eq_left (Nat.le_of_lt ho')]
end
namespace Kd
theorem FC {α:Type} {R:α→List Value→Prop} {size m:Nat} {ps:List α} {cs:List Value} (h:bn R size ps cs) (hm:m≤ps.length):bn R size (ps.take m) (cs.take (m*size)):=by
 refine⟨by rw[List.length_take,List.length_take,h.1,Nat.min_eq_left hm,Nat.min_eq_left (Nat.mul_le_mul_right _ hm)],fun j p hj=>?_⟩;rw[List.getElem?_take]at hj;split at hj
 ·rename_i hjm;have:=h.2 j p hj;(have hle:j*size+size≤m*size:=by rw[←Nat.succ_mul];exact Nat.mul_le_mul_right _ hjm);rw[List.drop_take,List.take_take,Nat.min_eq_left (by omega)];exact this
 ·cases hj
theorem Bp {α:Type} {d:Kd α} {e m n c:Nat} {w:World} {base:Nat} {ok:Nat→Prop} {A:Option Addr} {xs:List α} (h:d.R e w base ok (.slice A n c) xs) (hm:m≤xs.length):d.R e w base ok (.slice A m c) (xs.take m):=by
 obtain⟨h0,inner,ho,hr⟩:=h;have hn:n=xs.length:=by
  obtain⟨A',c',he⟩:=Fb ho;injection he
 subst hn;have hb:∀x y:Nat,(Value.slice A x c).ownBlock=(Value.slice A y c).ownBlock:=by
  intro x y;cases A<;>rfl
 refine⟨fun k hk=>h0 k (by rw[hb _ m];exact hk),inner.take (m*d.sz),?_,?_⟩
 ·rw[List.length_take,Nat.min_eq_left hm];exact Fg ho hm
 ·rw[hb m xs.length];exact FC hr hm
def Q {α:Type} (d:Kd α) (e:Nat) (w:World) (base:Nat) (ok:Nat→Prop) (v:Value) (xs:List α):Prop:=
 (∀k,v.ownBlock=some k→ok k)∧∃inner,xB w base e d.sz v xs.length inner∧bn (d.M w base (fun k=>ok k∧some k≠v.ownBlock)) d.sz xs inner
section
variable {α:Type} {d:Kd α} {e:Nat} {w w1 W:World} {base:Nat} {ok ok':Nat→Prop} {v:Value} {xs:List α}
theorem Ba (h:d.R e w base ok v xs):d.Q e w base ok v xs:=by
 obtain⟨h0,inner,ho,hr⟩:=h;exact⟨h0,inner,Fv ho,hr⟩
theorem mD (d:Kd α) (e:Nat) (w:World) (base:Nat) (ok:Nat→Prop):d.Q e w base ok (.slice none 0 0) []:=Ba (jQ d e w base ok)
end
end Kd
namespace Kd
section
variable {α:Type} {d:Kd α} {e e':Nat} {w w1 W:World} {base:Nat} {ok:Nat→Prop} {u v:Value} {xs:List α}
theorem vK (h:d.R e w base ok v xs):∀k,v.ownBlock=some k→∃cells,w.heap[k]? =some (.cells cells e (0,0)):=by
 obtain⟨inner,ho⟩:=uh h;exact fun k hk=>uN ho k hk
theorem Bj (h:d.R e W base ok u xs) (hty:∀k,v.ownBlock=some k→∃cells,W.heap[k]? =some (.cells cells e' (0,0))) (ht:∀q,q∈e::d.E→q≠e') (hg:W.grownBy w1 v.ownBlock):d.R e w1 base ok u xs:=by
 refine bC (qX (kY h) (fun k hk=>hg.block k hk.2.2.1 (fun he=>?_))) (fun _ hk=>hk.1);obtain⟨_,_,_,q,hq,cells,hc⟩:=hk;obtain⟨cells',hc'⟩:=hty k he.symm;rw[hc]at hc';injection hc' with hc'
 injection hc' with _ hc'
 exact ht q hq hc'
theorem kH (h:d.R e W base ok u xs) (hty:∀k,v.ownBlock=some k→∃cells,W.heap[k]? =some (.cells cells e' (0,0))) (ht:∀q,q∈e::d.E→q≠e'):d.R e W base (fun k=>ok k∧some k≠v.ownBlock) u xs:=by
 refine bC (kY h) (fun k hk=>⟨hk.1,fun he=>?_⟩);obtain⟨_,_,_,q,hq,cells,hc⟩:=hk;obtain⟨cells',hc'⟩:=hty k he.symm;rw[hc]at hc';injection hc' with hc'
 injection hc' with _ hc'
 exact ht q hq hc'
theorem vG (hu:d.R e W base ok u xs) (hbase:∀k,v.ownBlock=some k→W.heap.size≤k) (hb:Below W.heap.size W w1):d.R e w1 base (fun k=>ok k∧some k≠v.ownBlock) u xs:=
 bC (qX (kY hu) (fun k hk=>hb.block k hk.2.2.1)) (fun k hk=>⟨hk.1,fun he=>by have:=hbase k he.symm;have:=hk.2.2.1;omega⟩)
theorem xE (h:d.R e w1 W.heap.size ok v xs) (hlt:∀k,u.ownBlock=some k→k<W.heap.size):d.R e w1 W.heap.size (fun k=>ok k∧some k≠u.ownBlock) v xs:=
 bC (kY h) (fun k hk=>⟨hk.1,fun he=>by have:=hlt k he.symm;have:=hk.2.1;omega⟩)
theorem fresh' (hlt:∀k,u.ownBlock=some k→k<W.heap.size):∀k,W.heap.size≤k→some k≠u.ownBlock:=fun k hk he=>by have:=hlt k he.symm;omega
end
end Kd
theorem tN {α:Type} (a seg:List α) (o:Nat) (h:o+seg.length≤a.length) (q:Nat):
 (a.take o++seg++a.drop (o+seg.length))[q]? =if q<o then a[q]? else if q<o+seg.length then seg[q-o]? else a[q]? :=by
 have hl:(a.take o).length=o:=by rw[List.length_take];omega
 rw[List.append_assoc];by_cases h1:q<o
 ·rw[if_pos h1,List.getElem?_append_left (by omega),List.getElem?_take,if_pos h1]
 ·rw[if_neg h1,List.getElem?_append_right (by omega),hl];by_cases h2:q<o+seg.length
  ·rw[if_pos h2,List.getElem?_append_left (by omega)]
  ·rw[if_neg h2,List.getElem?_append_right (by omega),List.getElem?_drop];congr 1;omega
namespace Kd
section
variable {α:Type} {d:Kd α} {e base g n cap:Nat} {ok bH:Nat→Prop} {W:World} {xs:List α}
theorem xD (h:d.R e W base ok (.slice (some ⟨g,0,none⟩) n cap) xs) (z:α) (i:Int) (h0:0≤i) (h1:i<n):
 ∃c,c.length=d.sz∧d.M W base (fun k=>ok k∧k≠g) (xs.getD i.toNat z) c∧(∀j u,c[j]? =some u→W.cell? ⟨g,i.toNat*d.sz+j,none⟩=some u)∧∀j,W.frozen? ⟨g,i.toNat*d.sz+j,none⟩=false:=by
 obtain⟨hn,hnc,hC⟩:=mF h;obtain⟨_,inner,ho,hr⟩:=h;have hil:i.toNat<xs.length:=by omega
 have hseg:i.toNat*d.sz+d.sz≤inner.length:=by rw[hr.1,←Nat.succ_mul];exact Nat.mul_le_mul_right _ hil
 have hM:=hr.2 i.toNat _ (List.getElem?_eq_getElem hil);refine⟨(inner.drop (i.toNat*d.sz)).take d.sz,by rw[List.length_take,List.length_drop];omega,?_,fun j u hu=>?_,fun j=>?_⟩
 ·rw[List.getD_eq_getElem?_getD,List.getElem?_eq_getElem hil];exact d.dQ (fun k hk=>⟨hk.1,fun he=>hk.2 (by rw[he];simp[Value.ownBlock])⟩) hM
 ·rw[List.getElem?_take]at hu;split at hu
  ·rw[List.getElem?_drop]at hu;have:=ho.cells (g:=g) (by simp[Value.ownBlock]) _ u hu
   rwa [add_plain]at this
  ·cases hu
 ·obtain⟨cells,hc⟩:=uN ho g (by simp[Value.ownBlock]);exact au hc _
theorem Bn (h:d.R e W base ok (.slice (some ⟨g,0,none⟩) n cap) xs) (i:Int) (h0:0≤i) (h1:i<n) {c seg:List Value} {j:Nat} (hcl:c.length=d.sz) (hcc:∀j u,c[j]? =some u→W.cell? ⟨g,i.toNat*d.sz+j,none⟩=some u)
 (hj:j+seg.length≤d.sz) {x':α} (hM:d.M W base bH x' (c.take j++seg++c.drop (j+seg.length))) (jB:∀k,bH k→ok k∧k≠g):
 d.R e (W.setCells g (i.toNat*d.sz+j) seg) base ok (.slice (some ⟨g,0,none⟩) n cap) (xs.set i.toNat x')∧W.grownBy (W.setCells g (i.toNat*d.sz+j) seg) (some g):=by
 obtain⟨hn,hnc,_⟩:=mF h;obtain⟨hok,inner,ho,hr⟩:=h;have hil:i.toNat<xs.length:=by omega
 have hseg:i.toNat*d.sz+d.sz≤inner.length:=by rw[hr.1,←Nat.succ_mul];exact Nat.mul_le_mul_right _ hil
 have hin:inner.length=n*d.sz:=by rw[hr.1,hn]
 obtain⟨ho1,ho2⟩:=ho;rcases ho2 with⟨hv,_⟩|⟨g',cap',cur,hv,hb,hh,hnc',hcm,hcs,ht⟩
 ·cases hv
 injection hv with ha _ hc
 injection ha with ha
 injection ha with hg
 subst hg;subst hc;have hfit:i.toNat*d.sz+j+seg.length≤cur.size:=by
  have:n*d.sz≤cap*d.sz:=Nat.mul_le_mul_right _ hnc;omega
 obtain⟨cur',h3,h4,h5⟩:=wM seg (i.toNat*d.sz+j) W cur hh hfit;obtain⟨s1,s2,s3,s4⟩:=wN g seg (i.toNat*d.sz+j) W;have vU:∀k,k≠g→(W.setCells g (i.toNat*d.sz+j) seg).heap[k]? =W.heap[k]? :=fun k hk=>wL seg _ k hk;have hcin:∀q,q<d.sz→c[q]? =inner[i.toNat*d.sz+q]? :=by
  intro q hq;have hq':q<c.length:=by omega
  have h6:=hcc q _ (List.getElem?_eq_getElem hq');rw[cell_of_row W g _ cur e (0,0) hh]at h6;rw[List.getElem?_eq_getElem hq',←h6,←ht,List.getElem?_take,if_pos (by rw[←hn];omega),Array.getElem?_toList]
 refine⟨⟨hok,inner.take (i.toNat*d.sz+j)++seg++inner.drop (i.toNat*d.sz+j+seg.length),⟨?_,.inr ⟨g,cap,cur',by rw[List.length_set,hn],hb,h3,by rw[List.length_set,←hn];exact hnc,hcm,by rw[h4,hcs],?_⟩⟩,?_⟩,
  ⟨s1,s2,s3,by rw[s4];exact Nat.le_refl _,fun k _ hk=>vU k (fun he=>hk (by rw[he]))⟩⟩
 ·rw[List.length_set];simp only[List.length_append,List.length_take,List.length_drop];rw[hr.1]at hseg ⊢;omega
 ·rw[List.length_set,←hn];apply List.ext_getElem?;intro q;rw[List.getElem?_take,h5];rw[tN cur.toList seg (i.toNat*d.sz+j) (by rw[Array.length_toList];omega) q,tN inner seg (i.toNat*d.sz+j) (by omega) q];have hcur:∀q,q<n*d.sz→cur.toList[q]? =inner[q]? :=by
   intro q hq;rw[←ht,List.getElem?_take,if_pos (by rw[←hn];exact hq)]
  by_cases hq:q<n*d.sz
  ·rw[if_pos hq,hcur q hq]
  ·rw[if_neg hq,if_neg (by omega),if_neg (by omega),List.getElem?_eq_none (by omega)]
 ·refine⟨?_,fun m p hm=>?_⟩
  ·rw[List.length_set];simp only[List.length_append,List.length_take,List.length_drop];rw[hr.1]at hseg ⊢;omega
  ·have hml:m<xs.length:=by
    have:=(List.getElem?_eq_some_iff.1 hm).1
    rwa [List.length_set]at this
   (have Ik:m*d.sz+d.sz≤inner.length:=by rw[hr.1,←Nat.succ_mul];exact Nat.mul_le_mul_right _ hml);(have hgo:some g=(Value.slice (some ⟨g,0,none⟩) n cap).ownBlock:=by simp[Value.ownBlock]);by_cases pJ:m=i.toNat
   ·subst pJ;rw[List.getElem?_set_self (by omega)]at hm;(injection hm with hm);subst hm;have hcells:((inner.take (i.toNat*d.sz+j)++seg++inner.drop (i.toNat*d.sz+j+seg.length)).drop (i.toNat*d.sz)).take d.sz=c.take j++seg++c.drop (j+seg.length):=by
     apply List.ext_getElem?;intro q;rw[List.getElem?_take,List.getElem?_drop,tN inner seg _ (by omega),tN c seg j (by omega) q];by_cases hq:q<d.sz
     ·rw[if_pos hq,hcin q hq];by_cases hq1:q<j
      ·rw[if_pos (by omega),if_pos hq1]
      ·rw[if_neg (by omega),if_neg hq1];by_cases hq2:q<j+seg.length
       ·rw[if_pos (by omega),if_pos hq2];congr 1;omega
       ·rw[if_neg (by omega),if_neg hq2]
     ·rw[if_neg hq,if_neg (by omega),if_neg (by omega),List.getElem?_eq_none (by omega)]
    rw[hcells];refine d.dQ (fun k hk=>?_) (d.iM (w1:=W.setCells g (i.toNat*d.sz+j) seg) (fun k hk=>vU k (jB k hk).2) hM);exact⟨(jB k hk).1,fun he=>(jB k hk).2 (by rw[←hgo]at he;injection he)⟩
   ·rw[List.getElem?_set_ne (by omega)]at hm;have hold:=hr.2 m p hm;have hcells:((inner.take (i.toNat*d.sz+j)++seg++inner.drop (i.toNat*d.sz+j+seg.length)).drop (m*d.sz)).take d.sz=(inner.drop (m*d.sz)).take d.sz:=by
     apply List.ext_getElem?;intro q;rw[List.getElem?_take,List.getElem?_take,List.getElem?_drop,List.getElem?_drop,tN inner seg _ (by omega)];by_cases hq:q<d.sz
     ·rw[if_pos hq,if_pos hq];rcases Nat.lt_or_gt_of_ne pJ with hlt|hgt
      ·(have:m*d.sz+d.sz≤i.toNat*d.sz:=by rw[←Nat.succ_mul];exact Nat.mul_le_mul_right _ hlt);rw[if_pos (by omega)]
      ·(have:i.toNat*d.sz+d.sz≤m*d.sz:=by rw[←Nat.succ_mul];exact Nat.mul_le_mul_right _ hgt);rw[if_neg (by omega),if_neg (by omega)]
     ·rw[if_neg hq,if_neg hq]
    rw[hcells];refine d.iM (fun k hk=>vU k (fun he=>hk.2 (by rw[he];exact hgo))) hold
end
end Kd
namespace Kd
theorem wJ {α:Type} {R:α→List Value→Prop} {size:Nat} {ps qs:List α} {cs ds:List Value} (h:bn R size ps cs) (h':bn R size qs ds):bn R size (ps++qs) (cs++ds):=by
 refine⟨by rw[List.length_append,List.length_append,h.1,h'.1,Nat.add_mul],fun j p hj=>?_⟩;rcases Nat.lt_or_ge j ps.length with hlt|hge
 ·rw[List.getElem?_append_left hlt]at hj;(have hle:j*size+size≤cs.length:=by rw[h.1,←Nat.succ_mul];exact Nat.mul_le_mul_right _ hlt);rw[List.drop_append_of_le_length (by omega),List.take_append_of_le_length (by rw[List.length_drop];omega)];exact h.2 j p hj
 ·rw[List.getElem?_append_right hge]at hj;have h2:=h'.2 (j-ps.length) p hj;have hle:ps.length*size≤j*size:=Nat.mul_le_mul_right _ hge;rw[List.drop_append,List.drop_eq_nil_of_le (by rw[h.1];exact hle),List.nil_append,h.1,←Nat.sub_mul];exact h2
section
variable {P:Program} {ops:Array Oper} {rest:List Oper} {o:Oper} {a:Act} {Q:Exit→Act→World→Prop} {α:Type}
theorem mE (d:Kd α) {Rr:α→List Value→Prop} {w0 W:World} (base:Nat) (hgd:o.guard=none) (s x:Operand) (t e:TypeId) (z:Value) (bytes:Nat)
 (ho:o.op= .call { callee:=.builtin .append,args:=#[s,x],argTypes:=#[t,t]})
 (ht:P.underlying t=some (.slice e)) (hinfo:(P.info? e).map (fun i=>(i.zero,i.size,i.bytes))=some (some z,d.sz,bytes)) (hz:z.cells.size=d.sz) (hs0:0<d.sz) (hb0:0<bytes)
 (v:Value) (xs ys:List α) (A:Option Addr) (m c:Nat) (ok bH:Nat→Prop) (hs:a.eval s=v) (hx:a.eval x= .slice A m c)
 (HO:d.R e W base ok v xs) (HR:jZ Rr d.sz W A m ys) (vT:∀x cs,Rr x cs→d.M W base bH x cs) (jB:∀k,bH k→ok k∧some k≠v.ownBlock) (hfresh:∀k,W.heap.size≤k→ok k)
 (HB:Below base w0 W) (hbase:base≤W.heap.size) (hl:(xs.length+m)*bytes≤140737488355328)
 (h:∀v1 w1,d.R e w1 base ok v1 (xs++ys)→Below base w0 w1→W.grownBy w1 v.ownBlock→(v1.ownBlock=v.ownBlock∨∃b,v1.ownBlock=some b∧W.heap.size≤b)→wpList P ops Q rest (a.put o.dst v1) w1):
 wpList P ops Q (o::rest) a W:=by
 obtain⟨i0,hi,hzz⟩:=Option.map_eq_some_iff.1 hinfo
 simp only[Prod.mk.injEq]at hzz
 obtain⟨hz0,hz1,hz2⟩:=hzz
 have hm:ys.length=m:=HR.1
 have hlen:xs.length+m≤140737488355328:=Nat.le_trans (Nat.le_mul_of_pos_right _ hb0) hl
 obtain⟨hok,inner,hown,hr⟩:=HO
 have hrun:∃v1 w1,(Builtin.append_ #[t,t] o.type #[v,.slice A m c]).run P W= .ok v1 w1∧d.R e w1 base ok v1 (xs++ys)∧W.grownBy w1 v.ownBlock∧(v1.ownBlock=v.ownBlock∨∃b,v1.ownBlock=some b∧W.heap.size≤b):=by
  rcases A with _|ad
  ·have h0:m=0:=by
    rcases Nat.eq_zero_or_pos m with h0|h0
    ·exact h0
    ·obtain⟨ad,h,_⟩:=HR.2.2 h0
     cases h
   subst h0
   obtain rfl:ys=[]:=List.eq_nil_of_length_eq_zero hm
   refine⟨v,W,?_,by rw[List.append_nil];exact⟨hok,inner,hown,hr⟩,World.grownBy.refl W _,.inl rfl⟩
   rcases hown.2 with⟨rfl,hn⟩|⟨g,cap,cur,rfl,_,_,hnc,_⟩
   ·simp[Builtin.append_,run_underlying ht,sizeOf,typeInfo,hi,Builtin.lenOf,Builtin.firstCells]
   ·simp[Builtin.append_,run_underlying ht,sizeOf,typeInfo,hi,Builtin.lenOf,Builtin.firstCells,hnc,storeCells]
  ·obtain⟨news,hnr,hnc⟩:=jZ.yL HR
   have mJ:bn (d.M W base bH) d.sz ys news:=hnr.jw (fun p c hp=>vT p c hp)
   have hone:∀u∈news,u.oneCell'=true:=by
    intro u hu
    obtain⟨q,hq,rfl⟩:=List.mem_iff_getElem.1 hu
    have sZ:q / d.sz<ys.length:=by
     rw[Nat.div_lt_iff_lt_mul hs0]
     rw[←mJ.1]
     exact hq
    have hc:=mJ.2 (q / d.sz) _ (List.getElem?_eq_getElem sZ)
    refine d.iA (d.fJ hc) _ ?_
    rw[List.mem_iff_getElem?]
    refine⟨q%d.sz,?_⟩
    rw[List.getElem?_take,if_pos (Nat.mod_lt _ hs0),List.getElem?_drop,Nat.mul_comm,Nat.div_add_mod,List.getElem?_eq_getElem hq]
   obtain⟨v1,w1,hrun,h2,hg,_,hat⟩:=run_append_own_at (P:=P) W base t o.type e i0 z d.sz bytes ht hi hz0 hz1 hz2 hz hs0 v xs.length inner hown ad m c news (by rw[mJ.1,hm]) hnc hone (by simp only[maxLen];omega) hl hbase
   have hat':v1.ownBlock=v.ownBlock∨∃b,v1.ownBlock=some b∧W.heap.size≤b:=by
    rcases hat with hat|hat
    ·exact .inl hat
    ·exact .inr ⟨_,hat,Nat.le_refl _⟩
   have hne:∀k,some k≠v.ownBlock→k<W.heap.size→some k≠v1.ownBlock:=by
    intro k hk hlt
    rcases hat' with hat|⟨b,hb,hle⟩
    ·rw[hat];exact hk
    ·rw[hb]
     intro he
     injection he with he
     omega
   have step:∀{q:α} {c:List Value} {o:Nat→Prop},d.M W base o q c→(∀k,o k→ok k∧some k≠v.ownBlock)→d.M w1 base (fun k=>ok k∧some k≠v1.ownBlock) q c:=by
    intro q c o hq ho
    have h1:=d.iM (w1:=w1) (fun k hk=>hg.block k hk.2.2.1 (ho k hk.1).2) (d.iL hq)
    exact d.dQ (fun k hk=>⟨(ho k hk.1).1,hne k (ho k hk.1).2 hk.2.2.1⟩) h1
   refine⟨v1,w1,hrun,⟨fun k hk=>?_,inner++news,by rw[List.length_append,hm];exact h2,wJ (hr.jw (fun _ _ hq=>step hq (fun _ hk=>hk))) (mJ.jw (fun _ _ hq=>step hq jB))⟩,hg,hat'⟩
   rcases hat' with hat|⟨b,hb,hle⟩
   ·exact hok k (hat ▸ hk)
   ·rw[hb]at hk
    injection hk with hk
    exact hfresh k (by omega)
 obtain⟨v1,w1,hr1,h1,hg,hat⟩:=hrun
 refine wpList_plain hgd fun K hK=>?_
 unfold Oper.wp execOp
 simp only[ho,resolve,invoke,builtin,Sem.run_bind,Sem.run_pure,Result.andThen_ok,List.map_toArray,List.map_cons,List.map_nil,hs,hx,hr1]
 exact hK _ _ (h v1 w1 h1 (HB.grown hg hbase (sF hown)) hg hat)
end
end Kd
theorem add_add (a:Addr) (i j:Nat):(a.add i).add j=a.add (i+j):=by
 unfold Addr.add;by_cases h1:i=0<;>by_cases h2:j=0<;>simp[h1,h2,Nat.add_assoc]
namespace Kd
section
variable {α:Type} {k:Kd α} {w:World} {A:Option Addr} {xs:List α} {m c:Nat}
theorem wU (h:k.C w A xs.length xs) (hm:m≤xs.length):k.C w A (xs.take m).length (xs.take m):=by
 have hl:(xs.take m).length=m:=by rw[List.length_take];omega
 refine⟨rfl,by rw[hl];have:=h.2.1;omega,fun hp=>?_⟩;obtain⟨ad,e,hc⟩:=h.2.2 (by omega);refine⟨ad,e,fun j p hj=>hc j p ?_⟩;rw[List.getElem?_take]at hj;split at hj
 ·exact hj
 ·cases hj
end
end Kd
theorem xU {w W:World} (h:Below w.heap.size w W):w.heap.size≤W.heap.size:=h.size
theorem xV {w W w2:World} (h:Below w.heap.size w W) (k:Below W.heap.size W w2):Below w.heap.size w w2:=BG h h.size k
theorem lS.nil (W:World) (k:IntKind):lS W k none ([]:List Int).length []:=⟨rfl,by simp,fun h=>absurd h (Nat.lt_irrefl 0)⟩
theorem lS.drewN {W:World} {k:IntKind} {A:Option Addr} {n:Nat} {xs:List Int} (h:lS W k A n xs) (m:Nat):lS (W.drewN m) k A n xs:=h
theorem ku {w W:World} {g j:Nat} {v:Value} (h:Below w.heap.size w W) (hg:w.heap.size≤g):Below w.heap.size w (W.setCell ⟨g,j,none⟩ v):=h.setCell hg _
theorem kJ.nil {α:Type} (enc:α→Value) (d:α) (W:World):kJ enc d W none ([]:List α).length []:=⟨rfl,by simp,fun h=>absurd h (Nat.lt_irrefl 0)⟩
theorem kJ.drewN {α:Type} {enc:α→Value} {d:α} {W:World} {A:Option Addr} {n:Nat} {xs:List α} (h:kJ enc d W A n xs) (m:Nat):kJ enc d (W.drewN m) A n xs:=h
theorem bf {w:World} {g:Nat} {t:TypeId} {cs cs':Array Value} (h:w.heap[g]? =some (.cells cs t (0,0))) (i:Nat) (u:Value) (e:cs.setIfInBounds i u=cs'):(w.setCell ⟨g,i,none⟩ u).heap[g]? =some (.cells cs' t (0,0)):=e ▸ xX h i u
theorem gH {base:Nat} {w W:World} (h:Below base w W):Below base w W.drew:=h.drew
namespace Kd
section
variable {α:Type} {d:Kd α} {e base g:Nat} {ok:Nat→Prop} {w w1:World} {v:Value} {xs:List α} {o:Obj}
theorem pG (hb:w.heap[g]? =some o):∀k,w.heap.size≤k→k≠g:=fun k hk=>by have:=aZ hb;omega
end
end Kd
section
variable {P:Program} {ops:Array Oper} {rest:List Oper} {o:Oper} {a:Act} {Q:Exit→Act→World→Prop}
theorem bA {W:World} (hgd:o.guard=none) {N:Tmp} (ru:o.dst=some N) {cs:Array Value} {t:TypeId}
 (hrun:(execOp a.eval o).run P W= .ok (.value (.pointer (some ⟨W.heap.size,0,none⟩))) (W.alloc (.cells cs t (0,0))))
 (h:∀g,g=W.heap.size→∀w1,w1.heap[g]? =some (.cells cs t (0,0))→Below W.heap.size W w1→wpList P ops Q rest (a.put o.dst (.pointer (some ⟨g,0,none⟩))) w1):wpList P ops Q (o::rest) a W:=
 Kd.yj hgd hrun (h _ rfl _ (BK W _) (jh (Below.refl _ _) _))
end
namespace Kd
section
variable {α:Type} {enc:α→Value} {h1:∀x,(enc x).oneCell'=true} {e base g n cap:Nat} {ok:Nat→Prop} {W:World} {xs:List α}
theorem vF (d:α) (h:(scalar enc h1).R e W base ok (.slice (some ⟨g,0,none⟩) n cap) xs) (i:Int) (h0:0≤i) (hi:i<n):W.cell? ⟨g,i.toNat,none⟩=some (enc (uP d xs i))∧W.frozen? ⟨g,i.toNat,none⟩=false:=by
 obtain⟨rfl,_⟩:=mF h;exact Bf d h i h0 hi
end
end Kd
section
variable {P:Program} {ops:Array Oper} {rest:List Oper} {o:Oper} {a:Act} {Q:Exit→Act→World→Prop}
theorem ng {W w1:World} (hgd:o.guard=none) {t:TypeId} {p:Tmp} {v:Operand} (uy:o.op= .store t (.tmp p) v) (hN:o.dst=none)
 (hrun:(execOp a.eval o).run P W= .ok .skip w1) (h:∀w',w'=w1→wpList P ops Q rest a w'):wpList P ops Q (o::rest) a W:=by
 refine wpList_plain hgd fun K hK=>?_;unfold Oper.wp;rw[hrun];show K (a.put o.dst undef) w1;rw[hN];exact hK _ _ (h _ rfl)
end
namespace Kd
section
variable {α:Type} {enc:α→Value} {h1:∀x,(enc x).oneCell'=true} {e base g n cap:Nat} {ok:Nat→Prop} {W:World} {xs:List α}
theorem vI (h:(scalar enc h1).R e W base ok (.slice (some ⟨g,0,none⟩) n cap) xs) (i:Int) (x:α):(scalar enc h1).R e (W.setCell ⟨g,i.toNat,none⟩ (enc x)) base ok (.slice (some ⟨g,0,none⟩) n cap) (xs.set i.toNat x)∧W.grownBy (W.setCell ⟨g,i.toNat,none⟩ (enc x)) (some g):=by
 obtain⟨rfl,_⟩:=mF h;exact Bl h i x
end
end Kd
section
variable {P:Program} {ops:Array Oper} {rest:List Oper} {o:Oper} {a:Act} {Q:Exit→Act→World→Prop} {W:World}
theorem bg {N:Tmp} (Hz:o.dst=some N) (h:wpList P ops Q (o::rest) a W):wpList P ops Q (o::rest) a W:=h
theorem mI {t:TypeId} {p:Tmp} {v:Operand} (uy:o.op= .store t (.tmp p) v) (h:wpList P ops Q (o::rest) a W):wpList P ops Q (o::rest) a W:=h
end
section
variable {P:Program} {ops:Array Oper} {o:Oper} {a:Act} {Q:Exit→Act→World→Prop} {Kc:Act→World→Prop}
theorem BU {W w1:World} {v:Value} (hw:Region.wanted o (yielded ops a.tmps)=true) (hrun:(execOp a.eval o).run P W= .ok (.value v) w1) (h:Kc (a.put o.dst v) w1):if Region.wanted o (yielded ops a.tmps)=true then Oper.wp P o a W Kc Q else Kc (a.put o.dst undef) W:=by
 rw[if_pos hw];unfold Oper.wp;rw[hrun];exact h
namespace Kd
variable {α:Type}
theorem ug (d:Kd α) {w0 W:World} (base e:Nat) (hw:Region.wanted o (yielded ops a.tmps)=true) {N:Tmp} (ru:o.dst=some N) {xs:List α} {inner:List Value} {ok bH:Nat→Prop}
 (hrun:(execOp a.eval o).run P W= .ok (.value (.slice (some ⟨W.heap.size,0,none⟩) xs.length xs.length)) (W.alloc (.cells inner.toArray e)))
 (hrep:bn (d.M W base bH) d.sz xs inner) (hok:∀k,bH k→ok k) (hfresh:ok W.heap.size) (HB:Below base w0 W) (hbase:base≤W.heap.size) (hm:xs.length≤9223372036854775807)
 (h:∀v1 w1,d.R e w1 base ok v1 xs→Below base w0 w1→W.grownBy w1 none→(∃b,v1.ownBlock=some b∧W.heap.size≤b)→Kc (a.put o.dst v1) w1):if Region.wanted o (yielded ops a.tmps)=true then Oper.wp P o a W Kc Q else Kc (a.put o.dst undef) W:=by
 refine BU hw hrun (h _ _ ⟨fun k hk=>?_,inner,?_,?_⟩ (HB.alloc hbase _) (World.grownBy_alloc W _ none) ⟨W.heap.size,by simp[Value.ownBlock],Nat.le_refl _⟩)
 ·(have:W.heap.size=k:=by simpa[Value.ownBlock]using hk);subst this;exact hfresh
 ·have h2:=World.ownsRow_lit (base:=base) (e:=e) (size:=d.sz) W inner.toArray xs.length hbase (by simpa[maxLen]using hm) (by simpa using hrep.1);simpa using h2
 ·refine hrep.jw (fun p c hp=>d.dQ (fun k hk=>⟨hok k hk.1,fun he=>?_⟩) (wY (d.iL hp) (jh (Below.refl _ _) _)));(have h3:k=W.heap.size:=by simpa[Value.ownBlock]using he);have:=hk.2.2.1;omega
theorem oN (d:Kd α) {Rr:α→List Value→Prop} {w0 W:World} (base:Nat) (hw:Region.wanted o (yielded ops a.tmps)=true) (s x:Operand) (t e:TypeId) (z:Value) (bytes:Nat)
 (ho:o.op= .call { callee:=.builtin .append,args:=#[s,x],argTypes:=#[t,t]})
 (ht:P.underlying t=some (.slice e)) (hinfo:(P.info? e).map (fun i=>(i.zero,i.size,i.bytes))=some (some z,d.sz,bytes)) (hz:z.cells.size=d.sz) (hs0:0<d.sz) (hb0:0<bytes)
 (v:Value) (xs ys:List α) (A:Option Addr) (m c:Nat) (ok bH:Nat→Prop) (hs:a.eval s=v) (hx:a.eval x= .slice A m c)
 (HO:d.R e W base ok v xs) (HR:jZ Rr d.sz W A m ys) (vT:∀x cs,Rr x cs→d.M W base bH x cs) (jB:∀k,bH k→ok k∧some k≠v.ownBlock) (hfresh:∀k,W.heap.size≤k→ok k)
 (HB:Below base w0 W) (hbase:base≤W.heap.size) (hl:(xs.length+m)*bytes≤140737488355328)
 (h:∀v1 w1,d.R e w1 base ok v1 (xs++ys)→Below base w0 w1→W.grownBy w1 v.ownBlock→(v1.ownBlock=v.ownBlock∨∃b,v1.ownBlock=some b∧W.heap.size≤b)→Kc (a.put o.dst v1) w1):
 if Region.wanted o (yielded ops a.tmps)=true then Oper.wp P o a W Kc Q else Kc (a.put o.dst undef) W:=by
 obtain⟨i0,hi,hzz⟩:=Option.map_eq_some_iff.1 hinfo
 simp only[Prod.mk.injEq]at hzz
 obtain⟨hz0,hz1,hz2⟩:=hzz
 have hm:ys.length=m:=HR.1
 have hlen:xs.length+m≤140737488355328:=Nat.le_trans (Nat.le_mul_of_pos_right _ hb0) hl
 obtain⟨hok,inner,hown,hr⟩:=HO
 have hrun:∃v1 w1,(Builtin.append_ #[t,t] o.type #[v,.slice A m c]).run P W= .ok v1 w1∧d.R e w1 base ok v1 (xs++ys)∧W.grownBy w1 v.ownBlock∧(v1.ownBlock=v.ownBlock∨∃b,v1.ownBlock=some b∧W.heap.size≤b):=by
  rcases A with _|ad
  ·have h0:m=0:=by
    rcases Nat.eq_zero_or_pos m with h0|h0
    ·exact h0
    ·obtain⟨ad,h,_⟩:=HR.2.2 h0
     cases h
   subst h0
   obtain rfl:ys=[]:=List.eq_nil_of_length_eq_zero hm
   refine⟨v,W,?_,by rw[List.append_nil];exact⟨hok,inner,hown,hr⟩,World.grownBy.refl W _,.inl rfl⟩
   rcases hown.2 with⟨rfl,hn⟩|⟨g,cap,cur,rfl,_,_,hnc,_⟩
   ·simp[Builtin.append_,run_underlying ht,sizeOf,typeInfo,hi,Builtin.lenOf,Builtin.firstCells]
   ·simp[Builtin.append_,run_underlying ht,sizeOf,typeInfo,hi,Builtin.lenOf,Builtin.firstCells,hnc,storeCells]
  ·obtain⟨news,hnr,hnc⟩:=jZ.yL HR
   have mJ:bn (d.M W base bH) d.sz ys news:=hnr.jw (fun p c hp=>vT p c hp)
   have hone:∀u∈news,u.oneCell'=true:=by
    intro u hu
    obtain⟨q,hq,rfl⟩:=List.mem_iff_getElem.1 hu
    have sZ:q / d.sz<ys.length:=by
     rw[Nat.div_lt_iff_lt_mul hs0]
     rw[←mJ.1]
     exact hq
    have hc:=mJ.2 (q / d.sz) _ (List.getElem?_eq_getElem sZ)
    refine d.iA (d.fJ hc) _ ?_
    rw[List.mem_iff_getElem?]
    refine⟨q%d.sz,?_⟩
    rw[List.getElem?_take,if_pos (Nat.mod_lt _ hs0),List.getElem?_drop,Nat.mul_comm,Nat.div_add_mod,List.getElem?_eq_getElem hq]
   obtain⟨v1,w1,hrun,h2,hg,_,hat⟩:=run_append_own_at (P:=P) W base t o.type e i0 z d.sz bytes ht hi hz0 hz1 hz2 hz hs0 v xs.length inner hown ad m c news (by rw[mJ.1,hm]) hnc hone (by simp only[maxLen];omega) hl hbase
   have hat':v1.ownBlock=v.ownBlock∨∃b,v1.ownBlock=some b∧W.heap.size≤b:=by
    rcases hat with hat|hat
    ·exact .inl hat
    ·exact .inr ⟨_,hat,Nat.le_refl _⟩
   have hne:∀k,some k≠v.ownBlock→k<W.heap.size→some k≠v1.ownBlock:=by
    intro k hk hlt
    rcases hat' with hat|⟨b,hb,hle⟩
    ·rw[hat];exact hk
    ·rw[hb]
     intro he
     injection he with he
     omega
   have step:∀{q:α} {c:List Value} {o:Nat→Prop},d.M W base o q c→(∀k,o k→ok k∧some k≠v.ownBlock)→d.M w1 base (fun k=>ok k∧some k≠v1.ownBlock) q c:=by
    intro q c o hq ho
    have h1:=d.iM (w1:=w1) (fun k hk=>hg.block k hk.2.2.1 (ho k hk.1).2) (d.iL hq)
    exact d.dQ (fun k hk=>⟨(ho k hk.1).1,hne k (ho k hk.1).2 hk.2.2.1⟩) h1
   refine⟨v1,w1,hrun,⟨fun k hk=>?_,inner++news,by rw[List.length_append,hm];exact h2,wJ (hr.jw (fun _ _ hq=>step hq (fun _ hk=>hk))) (mJ.jw (fun _ _ hq=>step hq jB))⟩,hg,hat'⟩
   rcases hat' with hat|⟨b,hb,hle⟩
   ·exact hok k (hat ▸ hk)
   ·rw[hb]at hk
    injection hk with hk
    exact hfresh k (by omega)
 obtain⟨v1,w1,hr1,h1,hg,hat⟩:=hrun
 rw[if_pos hw]
 unfold Oper.wp execOp
 simp only[ho,resolve,invoke,builtin,Sem.run_bind,Sem.run_pure,Result.andThen_ok,List.map_toArray,List.map_cons,List.map_nil,hs,hx,hr1]
 exact h v1 w1 h1 (HB.grown hg hbase (sF hown)) hg hat
end Kd
end
end Go.Proofs.YtjmdfghljlmfmaaGreatW.PrintWords
namespace Go.Proofs.YtjmdfghljlmfmaaGreatW.PrintLast
section
variable {P:Program} {ops:Array Oper} {Q:Exit→Act→World→Prop} {md:Region.Mode} {S:World→Prop} {ds:List Nat}
def Region.reachB (md:Region.Mode) (ops:Array Oper) (i:Nat):Nat→Nat→Bool
 |0,_=>false
 |fuel+1,d=>match ops[d]? with
  |some o=>o.after.any fun e=>Region.binds md e&&(e.on==i||Region.reachB md ops i fuel e.on)
  |none=>false
def Region.closedB (md:Region.Mode) (ops:Array Oper) (listed:Array Bool):Bool:=
 (List.range ops.size).all fun j=> !listed.getD j false||match ops[j]? with
  |some o=>o.after.all fun e=> !Region.binds md e||listed.getD e.on false
  |none=>true
def Region.lastB (md:Region.Mode) (ops:Array Oper) (listed:Array Bool) (ds:List Nat) (i:Nat):Bool:=
 ds.all fun d=>listed.getD d true||Region.reachB md ops i ops.size d
def qy (md:Region.Mode) (ops:Array Oper) (listed:Array Bool):Prop:=
 ∀j oj,ops[j]? =some oj→listed.getD j false=true→∀e∈oj.after,Region.binds md e=true→listed.getD e.on false=true
theorem Region.closedB_spec {listed:Array Bool} (h:Region.closedB md ops listed=true):qy md ops listed:=by
 intro j oj hj hl e he hb;have hlt:j<ops.size:=(Array.getElem?_eq_some_iff.1 hj).1;have h1:=List.all_eq_true.1 h j (List.mem_range.2 hlt);simp only[hl,hj,Bool.not_true,Bool.false_or]at h1;have h2:=Array.all_eq_true_iff_forall_mem.1 h1 e he;simpa[hb]using h2
theorem qy.set {listed:Array Bool} {i:Nat} (h:qy md ops listed) (hi:i∈Region.ready md ops listed):qy md ops (listed.setIfInBounds i true):=by
 obtain⟨_,oi,hoi,hall⟩:=mem_ready.1 hi;intro j oj hj hl e he hb;by_cases hij:i=j
 ·subst hij;have:oj=oi:=Option.some.inj (hj.symm.trans hoi);subst this;exact getD_set_true (hall e he hb)
 ·rw[getD_set_ne false hij]at hl;exact getD_set_true (h j oj hj hl e he hb)
theorem Region.reach_listed {listed:Array Bool} {i:Nat} (hc:qy md ops listed):∀(fuel d:Nat),Region.reachB md ops i fuel d=true→listed.getD d false=true→listed.getD i false=true
 |0,_,h,_=>by simp[Region.reachB]at h
 |fuel+1,d,h,hl=>by
  unfold Region.reachB at h
  cases ho:ops[d]? with
  |none=>rw[ho]at h;simp at h
  |some o=>
   rw[ho]at h
   obtain⟨e,he,h1⟩:=Array.any_eq_true'.1 h
   simp only[Bool.and_eq_true,Bool.or_eq_true,beq_iff_eq]at h1
   have hle:=hc d o ho hl e he h1.1
   rcases h1.2 with h2|h2
   ·rw[←h2];exact hle
   ·exact Region.reach_listed hc fuel e.on h2 hle
theorem Region.reach_not_ready {listed:Array Bool} {i d fuel:Nat} (hc:qy md ops listed) (hr:Region.reachB md ops i fuel d=true) (hun:listed.getD i true=false):d∉Region.ready md ops listed:=by
 intro hd;obtain⟨_,o,ho,hall⟩:=mem_ready.1 hd;have hi:listed.getD i false=true:=by
  cases fuel with
  |zero=>simp[Region.reachB]at hr
  |succ n=>
   unfold Region.reachB at hr;rw[ho]at hr;obtain⟨e,he,h1⟩:=Array.any_eq_true'.1 hr;simp only[Bool.and_eq_true,Bool.or_eq_true,beq_iff_eq]at h1;have hle:=hall e he h1.1;rcases h1.2 with h2|h2
   ·rw[←h2];exact hle
   ·exact Region.reach_listed hc n e.on h2 hle
 rcases Nat.lt_or_ge i listed.size with h'|h'
 ·simp[h']at hun hi;rw[hun]at hi;cases hi
 ·simp[Array.getElem?_eq_none h']at hun
def eF (P:Program) (md:Region.Mode) (ops:Array Oper) (Q:Exit→Act→World→Prop) (S:World→Prop) (ds:List Nat):Nat→Array Bool→Act→World→Prop
 |0,listed,a,w=>Region.ready md ops listed=[]∧Q .normal a w
 |fuel+1,listed,a,w=>
  (Region.ready md ops listed=[]→Q .normal a w)∧
  ∀i∈Region.ready md ops listed,wpOp P ops Q i (fun a' w'=>(i∉ds→S w→S w')∧eF P md ops Q S ds fuel (listed.setIfInBounds i true) a' w') a w
theorem Af:∀(fuel:Nat) (listed:Array Bool) (a:Act) (w:World),eF P md ops Q S ds fuel listed a w→wpAny P md ops Q fuel listed a w
 |0,_,_,_,h=>h
 |fuel+1,_,_,_,h=>⟨h.1,fun i hi=>wpOp_mono (fun a' w' h'=>Af fuel _ a' w' h'.2) (h.2 i hi)⟩
theorem Hq {i:Nat} {oi:Oper} {v:Value} (hi:ops[i]? =some oi) (hsel:∀(j:Nat) (o:Oper) cs b,ops[j]? =some o→o.op≠.select cs b)
 (hQ:∀c a w,Q (.panic c) (a.put oi.dst v) w→Q (.panic c) a w) (n:Nat):
 ∀(fuel:Nat) (listed:Array Bool) (a:Act) (w:World),
  (∀j oj,ops[j]? =some oj→j≠i→listed.getD j true=false→(∀e∈oj.after,Region.binds md e=true→e.on≠i)→oi.apart ops oj=true)→
  qy md ops listed→(∀d∈ds,listed.getD d true=false→Region.reachB md ops i n d=true)→
  i∈Region.ready md ops listed→YieldsIf P ops S oi v a→S w→
  eF P md ops Q S ds fuel (listed.setIfInBounds i true) (a.put oi.dst v) w→eF P md ops Q S ds (fuel+1) listed a w:=by
 intro fuel
 induction fuel with
 |zero=>
  intro listed a w _ _ _ hr hy hS H
  refine⟨fun h=>(by rw[h]at hr;cases hr),fun j hj=>?_⟩
  by_cases hji:j=i
  ·subst hji;exact hy.wpOp hi hS ⟨fun _ h=>h,H⟩
  ·have:=ready_mono hj hji
   rw[H.1]at this
   cases this
 |succ fuel ih=>
  intro listed a w hfree hc hd hr hy hS H
  refine⟨fun h=>(by rw[h]at hr;cases hr),fun j hj=>?_⟩
  by_cases hji:j=i
  ·subst hji;exact hy.wpOp hi hS ⟨fun _ h=>h,H⟩
  ·have h1:=H.2 j (ready_mono hj hji)
   obtain⟨hjun,oj,hoj,hall⟩:=mem_ready.1 hj
   have rO:=(mem_ready.1 hr).1
   have hnot:∀e∈oj.after,Region.binds md e=true→e.on≠i:=fun e he hb heq=>by
    have h1:=hall e he hb
    rw[heq]at h1
    rcases Nat.lt_or_ge i listed.size with h'|h'
    ·simp[h']at rO h1;rw[rO]at h1;cases h1
    ·simp[Array.getElem?_eq_none h']at h1
   have hjd:j∉ds:=fun hm=>Region.reach_not_ready hc (hd j hm hjun) rO hj
   have h2:=wpOp_putIf hoj (hfree j oj hoj hji hjun hnot) (fun cs b=>hsel i oi cs b hi) (fun cs b=>hsel j oj cs b hoj) hQ hy h1
   have hfree':∀k ok,ops[k]? =some ok→k≠i→(listed.setIfInBounds j true).getD k true=false→
    (∀e∈ok.after,Region.binds md e=true→e.on≠i)→oi.apart ops ok=true:=fun k ok hk hki hun hno=>by
    refine hfree k ok hk hki ?_ hno
    by_cases hjk:j=k
    ·subst hjk;exact hjun
    ·rw[getD_set_ne true hjk]at hun;exact hun
   have hd':∀d∈ds,(listed.setIfInBounds j true).getD d true=false→Region.reachB md ops i n d=true:=fun d hm hun=>by
    refine hd d hm ?_
    by_cases hjk:j=d
    ·subst hjk;exact hjun
    ·rw[getD_set_ne true hjk]at hun;exact hun
   refine wpOp_mono (fun a' w' h3=>⟨h3.2.1,ih (listed.setIfInBounds j true) a' w' hfree' (hc.set hj) hd' (ready_mono hr (Ne.symm hji)) h3.1 (h3.2.1 hjd hS) ?_⟩) h2
   rw[Array.setIfInBounds_comm _ _ hji]
   exact h3.2.2
theorem Hl {i:Nat} {oi:Oper} {v:Value} (hi:ops[i]? =some oi) (hsel:∀(j:Nat) (o:Oper) cs b,ops[j]? =some o→o.op≠.select cs b)
 (hQ:∀c a w,Q (.panic c) (a.put oi.dst v) w→Q (.panic c) a w):
 ∀(fuel:Nat) (listed:Array Bool) (a:Act) (w:World),
  (∀j oj,ops[j]? =some oj→j≠i→listed.getD j true=false→(∀e∈oj.after,Region.binds md e=true→e.on≠i)→oi.apart ops oj=true)→
  i∈Region.ready md ops listed→Yields P ops oi v a→
  eF P md ops Q S ds fuel (listed.setIfInBounds i true) (a.put oi.dst v) w→eF P md ops Q S ds (fuel+1) listed a w:=by
 intro fuel
 induction fuel with
 |zero=>
  intro listed a w _ hr hy H
  refine⟨fun h=>(by rw[h]at hr;cases hr),fun j hj=>?_⟩
  by_cases hji:j=i
  ·subst hji;exact(hy.yieldsIf (S:=fun _=>True)).wpOp hi trivial ⟨fun _ h=>h,H⟩
  ·have:=ready_mono hj hji
   rw[H.1]at this
   cases this
 |succ fuel ih=>
  intro listed a w hfree hr hy H
  refine⟨fun h=>(by rw[h]at hr;cases hr),fun j hj=>?_⟩
  by_cases hji:j=i
  ·subst hji;exact(hy.yieldsIf (S:=fun _=>True)).wpOp hi trivial ⟨fun _ h=>h,H⟩
  ·have h1:=H.2 j (ready_mono hj hji)
   obtain⟨hjun,oj,hoj,hall⟩:=mem_ready.1 hj
   have rO:=(mem_ready.1 hr).1
   have hnot:∀e∈oj.after,Region.binds md e=true→e.on≠i:=fun e he hb heq=>by
    have h1:=hall e he hb
    rw[heq]at h1
    rcases Nat.lt_or_ge i listed.size with h'|h'
    ·simp[h']at rO h1;rw[rO]at h1;cases h1
    ·simp[Array.getElem?_eq_none h']at h1
   have h2:=wpOp_put hoj (hfree j oj hoj hji hjun hnot) (fun cs b=>hsel i oi cs b hi) (fun cs b=>hsel j oj cs b hoj) hQ hy h1
   have hfree':∀k ok,ops[k]? =some ok→k≠i→(listed.setIfInBounds j true).getD k true=false→
    (∀e∈ok.after,Region.binds md e=true→e.on≠i)→oi.apart ops ok=true:=fun k ok hk hki hun hno=>by
    refine hfree k ok hk hki ?_ hno
    by_cases hjk:j=k
    ·subst hjk;exact hjun
    ·rw[getD_set_ne true hjk]at hun;exact hun
   refine wpOp_mono (fun a' w' h3=>⟨h3.2.1,ih (listed.setIfInBounds j true) a' w' hfree' (ready_mono hr (Ne.symm hji)) h3.1 ?_⟩) h2
   rw[Array.setIfInBounds_comm _ _ hji]
   exact h3.2.2
theorem Hr {i:Nat} {oi:Oper} {v:Value} {fuel:Nat} {listed:Array Bool} {a:Act} {w:World} (hi:ops[i]? =some oi)
 (hs:Region.noSelect ops=true) (hf:Region.free md ops listed i=true) (hr:(Region.ready md ops listed).contains i=true)
 (hc:Region.closedB md ops listed=true) (hl:Region.lastB md ops listed ds i=true)
 (hQ:∀c a w,Q (.panic c) (a.put oi.dst v) w→Q (.panic c) a w) (hy:YieldsIf P ops S oi v a) (hS:S w)
 (h:eF P md ops Q S ds fuel (listed.setIfInBounds i true) (a.put oi.dst v) w):eF P md ops Q S ds (fuel+1) listed a w:=
 Hq hi (Region.noSelect_spec hs) hQ ops.size fuel listed a w (Region.free_spec hi hf) (Region.closedB_spec hc)
  (fun d hm hun=>by have:=List.all_eq_true.1 hl d hm;rw[hun]at this;simpa using this) (by simpa using hr) hy hS h
theorem Hg {rs:List Nat} {fuel:Nat} {listed:Array Bool} {a:Act} {w:World} (hr:Region.ready md ops listed=rs) (hne:rs≠[])
 (h:∀i∈rs,wpOp P ops Q i (fun a' w'=>(i∉ds→S w→S w')∧eF P md ops Q S ds fuel (listed.setIfInBounds i true) a' w') a w):eF P md ops Q S ds (fuel+1) listed a w:=
 ⟨fun h0=>absurd (hr ▸ h0) hne,hr ▸ h⟩
theorem Ho {listed:Array Bool} {a:Act} {w:World} (hr:Region.ready md ops listed=[]) (h:Q .normal a w):
 ∀fuel,eF P md ops Q S ds fuel listed a w
 |0=>⟨hr,h⟩
 |_+1=>⟨fun _=>h,by rw[hr];simp⟩
theorem Ht {id:Nat} {a:Act} {w:World} (hm:P.follows .mixedOrders=true)
 (h:eF P .any ops Q S ds ops.size (Array.replicate ops.size false) a { w with drawn:=w.drawn+1}):(Code.region id ops true).wp P Q a w:=
 wp_region_any hm (Af _ _ _ _ h)
end
section
variable {P:Program} {ops:Array Oper} {Q:Exit→Act→World→Prop} {md:Region.Mode} {S:World→Prop} {ds:List Nat}
def lQ (P:Program) (md:Region.Mode) (ops:Array Oper) (Q:Exit→Act→World→Prop) (S:World→Prop) (ds:List Nat) (fuel:Nat) (listed:Array Bool) (a:Act) (w:World) (rs:List Nat):Prop:=
 ∀i∈rs,wpOp P ops Q i (fun a' w'=>(i∉ds→S w→S w')∧eF P md ops Q S ds fuel (listed.setIfInBounds i true) a' w') a w
theorem lQ.nil {fuel:Nat} {listed:Array Bool} {a:Act} {w:World}:lQ P md ops Q S ds fuel listed a w []:=fun _ h=>by cases h
theorem lQ.cons {fuel:Nat} {listed:Array Bool} {a:Act} {w:World} {i:Nat} {o:Oper} {rs:List Nat} (ho:ops[i]? =some o) (hd:i∉ds)
 (h:∀K':Act→World→Prop,Shut (∀a w,S w→(S w→eF P md ops Q S ds fuel (listed.setIfInBounds i true) a w)→K' a w)→if Region.wanted o (yielded ops a.tmps)=true then Oper.wp P o a w K' Q else K' (a.put o.dst undef) w)
 (hs:lQ P md ops Q S ds fuel listed a w rs):lQ P md ops Q S ds fuel listed a w (i::rs):=fun j hj=>by
 rcases List.mem_cons.1 hj with rfl|hj
 ·exact wpOp_step ho (fun K' hK=>h K' (fun a w hS hW=>hK a w ⟨fun _ _=>hS,hW hS⟩))
 ·exact hs j hj
theorem lQ.BR {fuel:Nat} {listed:Array Bool} {a:Act} {w:World} {i:Nat} {o:Oper} {rs:List Nat} (ho:ops[i]? =some o) (hd:i∈ds)
 (h:∀K':Act→World→Prop,Shut (∀a w,eF P md ops Q S ds fuel (listed.setIfInBounds i true) a w→K' a w)→if Region.wanted o (yielded ops a.tmps)=true then Oper.wp P o a w K' Q else K' (a.put o.dst undef) w)
 (hs:lQ P md ops Q S ds fuel listed a w rs):lQ P md ops Q S ds fuel listed a w (i::rs):=fun j hj=>by
 rcases List.mem_cons.1 hj with rfl|hj
 ·exact wpOp_step ho (fun K' hK=>h K' (fun a w hW=>hK a w ⟨fun hn=>absurd hd hn,hW⟩))
 ·exact hs j hj
theorem Ae {rs:List Nat} {fuel:Nat} {listed:Array Bool} {a:Act} {w:World} (hr:Region.ready md ops listed=rs) (hne:rs≠[])
 (h:lQ P md ops Q S ds fuel listed a w rs):eF P md ops Q S ds (fuel+1) listed a w:=Hg hr hne h
theorem iU {id n:Nat} {a:Act} {w:World} (l:Array Bool) (hm:P.follows .mixedOrders=true) (hn:ops.size=n) (hl:Array.replicate n false=l) (hS:S w.drew)
 (h:S w.drew→eF P .any ops Q S ds n l a w.drew):(Code.region id ops true).wp P Q a w:=by
 subst hn;subst hl;exact Ht hm (h hS)
def takeB (md:Region.Mode) (ops:Array Oper) (ds:List Nat) (l l':Array Bool) (i:Nat):Bool:=
 Region.noSelect ops&&Region.free md ops l i&&(Region.ready md ops l).contains i&&Region.closedB md ops l&&Region.lastB md ops l ds i&&(l.setIfInBounds i true==l')
theorem uZ {i:Nat} {N:Option Tmp} {oi:Oper} {v:Value} {fuel:Nat} {l:Array Bool} {a:Act} {w:World} (l':Array Bool) (hi:ops[i]? =some oi) (hN:oi.dst=N) (hc:takeB md ops ds l l' i=true)
 (hQ:∀c a w,Q (.panic c) (a.put oi.dst v) w→Q (.panic c) a w) (hy:YieldsIf P ops S oi v a) (hS:S w) {a':Act} (ha:a.put N v=a')
 (h:eF P md ops Q S ds fuel l' a' w):eF P md ops Q S ds (fuel+1) l a w:=by
 subst ha;subst hN;simp only[takeB,Bool.and_eq_true,beq_iff_eq]at hc;obtain⟨⟨⟨⟨⟨h1,h2⟩,h3⟩,h4⟩,h5⟩,h6⟩:=hc;subst h6;exact Hr hi h1 h2 h3 h4 h5 hQ hy hS h
def qC (md:Region.Mode) (ops:Array Oper) (l l':Array Bool) (i:Nat):Bool:=
 Region.noSelect ops&&Region.free md ops l i&&(Region.ready md ops l).contains i&&(l.setIfInBounds i true==l')
theorem wI {i:Nat} {N:Option Tmp} {oi:Oper} {v:Value} {fuel:Nat} {l:Array Bool} {a:Act} {w:World} (l':Array Bool) (hi:ops[i]? =some oi) (hN:oi.dst=N) (hc:qC md ops l l' i=true)
 (hQ:∀c a w,Q (.panic c) (a.put oi.dst v) w→Q (.panic c) a w) (hy:Yields P ops oi v a) {a':Act} (ha:a.put N v=a')
 (h:eF P md ops Q S ds fuel l' a' w):eF P md ops Q S ds (fuel+1) l a w:=by
 subst ha;subst hN;simp only[qC,Bool.and_eq_true,beq_iff_eq]at hc;obtain⟨⟨⟨h1,h2⟩,h3⟩,h6⟩:=hc;subst h6;exact Hl hi (Region.noSelect_spec h1) hQ fuel l a w (Region.free_spec hi h2) (by simpa using h3) hy h
def sH (md:Region.Mode) (ops:Array Oper) (l l':Array Bool) (i:Nat):Bool:=(Region.ready md ops l==[i])&&(l.setIfInBounds i true==l')
theorem bR {i:Nat} {N:Option Tmp} {oi:Oper} {fuel:Nat} {l:Array Bool} {a:Act} {w:World} (l':Array Bool) (hi:ops[i]? =some oi) (hN:oi.dst=N) (hc:sH md ops l l' i=true) (hd:i∉ds)
 (h:∀K:Act→World→Prop,Shut (∀a' w',S w'→(S w'→eF P md ops Q S ds fuel l' a' w')→K a' w')→if Region.wanted oi (yielded ops a.tmps)=true then Oper.wp P oi a w K Q else K (a.put N undef) w):
 eF P md ops Q S ds (fuel+1) l a w:=by
 subst hN;simp only[sH,Bool.and_eq_true,beq_iff_eq]at hc;obtain⟨h1,h2⟩:=hc;subst h2;exact Ae h1 (by simp) (lQ.cons hi hd (fun K hK=>h K hK) lQ.nil)
theorem yP {i:Nat} {N:Option Tmp} {oi:Oper} {fuel:Nat} {l:Array Bool} {a:Act} {w:World} (l':Array Bool) (hi:ops[i]? =some oi) (hN:oi.dst=N) (hc:sH md ops l l' i=true) (hd:i∈ds)
 (h:∀K:Act→World→Prop,Shut (∀a' w',eF P md ops Q S ds fuel l' a' w'→K a' w')→if Region.wanted oi (yielded ops a.tmps)=true then Oper.wp P oi a w K Q else K (a.put N undef) w):
 eF P md ops Q S ds (fuel+1) l a w:=by
 subst hN;simp only[sH,Bool.and_eq_true,beq_iff_eq]at hc;obtain⟨h1,h2⟩:=hc;subst h2;exact Ae h1 (by simp) (lQ.BR hi hd (fun K hK=>h K hK) lQ.nil)
theorem iP {l:Array Bool} {a:Act} {w:World} {n:Nat} (hr:(Region.ready md ops l==[])=true) (h:Q .normal a w):eF P md ops Q S ds n l a w:=Ho (by simpa using hr) h n
theorem EM {fuel:Nat} {l:Array Bool} {a a':Act} {w:World} (ha:a=a') (h:eF P md ops Q S ds fuel l a' w):eF P md ops Q S ds fuel l a w:=by
 subst ha;exact h
theorem call_ {oi:Oper} {N:Option Tmp} {a:Act} {w:World} {K:Act→World→Prop} (f:FuncId) (args:Array Value) (hw:Region.wanted oi (yielded ops a.tmps)=true) (hN:oi.dst=N) (hrun:(execOp a.eval oi).run P w= .ok (.enter f args) w)
 (h:Calls P f args w fun e w'=>∃v,e= .returned v∧K (a.put N v) w'):if Region.wanted oi (yielded ops a.tmps)=true then Oper.wp P oi a w K Q else K (a.put N undef) w:=by
 rw[if_pos hw];subst hN;unfold Oper.wp;rw[hrun,Oper.upon_enter];refine h.mono fun e w'' hh=>?_;obtain⟨v,rfl,hk⟩:=hh;exact hk
theorem uF {f:FuncId} {fn:Func} (hf:P.funcs[f]? =some fn) (hname:(fn.name== "runtime.NumGoroutine")=false) (hb:fn.body.isSome=true) (args:Array Value) (w:World):(callFunc f args).run P w= .ok (.enter f args) w:=by
 have h1:fn.name≠ "runtime.NumGoroutine" :=by simpa using hname
 obtain⟨c,hc⟩:=Option.isSome_iff_exists.1 hb;simp[callFunc,hf,h1,hc]
theorem dK {oi:Oper} {N:Option Tmp} {a:Act} {w:World} {K:Act→World→Prop} {f:FuncId} {fn:Func} {as:Array Operand} {ts:Array TypeId} (hf:P.funcs[f]? =some fn) (hname:(fn.name== "runtime.NumGoroutine")=false) (hb:fn.body.isSome=true) (args:Array Value)
 (hw:Region.wanted oi (yielded ops a.tmps)=true) (hN:oi.dst=N) (hop:oi.op= .call { callee:=.value (.func f),args:=as,argTypes:=ts}) (hargs:as.map a.eval=args)
 (h:Calls P f args w fun e w'=>∃v,e= .returned v∧K (a.put N v) w'):if Region.wanted oi (yielded ops a.tmps)=true then Oper.wp P oi a w K Q else K (a.put N undef) w:=by
 refine call_ f args hw hN ?_ h;have he:=uF hf hname hb args w;unfold execOp;simp[hop,resolve,Deferred.ofValue,invoke,Act.eval,hargs,he]
theorem aV {rest:List Oper} {oi:Oper} {a:Act} {w:World} (N:Option Tmp) (hd:oi.dst=N) (hg:oi.guard=none) {f:FuncId} {fn:Func} {as:Array Operand} {ts:Array TypeId} (hf:P.funcs[f]? =some fn) (hname:(fn.name== "runtime.NumGoroutine")=false) (hb:fn.body.isSome=true) (args:Array Value)
 (hop:oi.op= .call { callee:=.value (.func f),args:=as,argTypes:=ts}) (hargs:as.map a.eval=args)
 (h:Calls P f args w fun e w'=>∃v,e= .returned v∧wpList P ops Q rest (a.put N v) w'):wpList P ops Q (oi::rest) a w:=by
 refine wpList_plain hg fun K hK=>?_;have he:=uF hf hname hb args w;have hrun:(execOp a.eval oi).run P w= .ok (.enter f args) w:=by
  unfold execOp;simp[hop,resolve,Deferred.ofValue,invoke,Act.eval,hargs,he]
 unfold Oper.wp;rw[hrun,Oper.upon_enter];refine h.mono fun e w'' hh=>?_;obtain⟨v,rfl,hk⟩:=hh;subst hd;exact hK _ _ hk
theorem vo {oi:Oper} {N:Option Tmp} {a:Act} {w w1:World} {v:Value} {K:Act→World→Prop} (hw:Region.wanted oi (yielded ops a.tmps)=true) (hN:oi.dst=N) (hrun:(execOp a.eval oi).run P w= .ok (.value v) w1)
 (h:K (a.put N v) w1):if Region.wanted oi (yielded ops a.tmps)=true then Oper.wp P oi a w K Q else K (a.put N undef) w:=by
 rw[if_pos hw];subst hN;unfold Oper.wp;rw[hrun];exact h
theorem zI {oi:Oper} {a:Act} {w w1:World} {K:Act→World→Prop} (hw:Region.wanted oi (yielded ops a.tmps)=true) (hN:oi.dst=none) (hrun:(execOp a.eval oi).run P w= .ok .skip w1)
 (h:K a w1):if Region.wanted oi (yielded ops a.tmps)=true then Oper.wp P oi a w K Q else K (a.put none undef) w:=by
 rw[if_pos hw];unfold Oper.wp;rw[hrun];show K (a.put oi.dst undef) w1;rw[hN];exact h
theorem jg (n:Int):IntKind.i64.wrap n=Go.RowKit.wrap64 n:=by unfold Go.RowKit.wrap64;exact IntKind.wrap_i64 n
theorem mK (n:Int):IntKind.i32.wrap n=Go.RowKit.wrap32 n:=by unfold Go.RowKit.wrap32;exact IntKind.wrap_i32 n
end
end Go.Proofs.YtjmdfghljlmfmaaGreatW.PrintLast
namespace Go.Proofs.YtjmdfghljlmfmaaGreatW.PrintLast
open Go.Proofs.YtjmdfghljlmfmaaGreatW.PrintWords (ay)
def su (md:Region.Mode) (o:Oper):List Nat:=(o.after.toList.filter (fun e=>Region.binds md e)).map (fun e=>e.on)
def vS (md:Region.Mode) (ops:Array Oper) (i:Nat) (oi:Oper):List Nat:=(List.range ops.size).filter fun j=> !(j==i)&&match ops[j]? with
 |some oj=> !(oj.after.any (fun e=>Region.binds md e&&e.on==i)||oi.apart ops oj)
 |none=>false
def fT (md:Region.Mode) (ops:Array Oper):Bool×List (List Nat×List Nat):=(Region.noSelect ops,(List.range ops.size).map fun i=>match ops[i]? with
 |some o=>(su md o,vS md ops i o)
 |none=>([],[]))
def qd (T:List (List Nat×List Nat)) (l:List Bool) (i:Nat):Bool:= !l.getD i true&&match T[i]? with
 |some r=>r.1.all (fun j=>l.getD j false)
 |none=>false
def tL (T:List (List Nat×List Nat)) (l:List Bool):List Nat:=(List.range T.length).filter (qd T l)
def sW (T:List (List Nat×List Nat)) (l:List Bool) (i:Nat):Bool:=match T[i]? with
 |some r=>r.2.all (fun j=>l.getD j true)
 |none=>false
def uD (T:List (List Nat×List Nat)) (l:List Bool):Bool:=(List.range T.length).all fun j=> !l.getD j false||match T[j]? with
 |some r=>r.1.all (fun k=>l.getD k false)
 |none=>true
def sG (T:List (List Nat×List Nat)) (i:Nat):Nat→Nat→Bool
 |0,_=>false
 |fuel+1,d=>match T[d]? with
  |some r=>r.1.any fun j=>j==i||sG T i fuel j
  |none=>false
def lastT (T:List (List Nat×List Nat)) (l:List Bool) (ds:List Nat) (i:Nat):Bool:=ds.all fun d=>l.getD d true||sG T i T.length d
section
variable {md:Region.Mode} {ops:Array Oper} {T:Bool×List (List Nat×List Nat)} {l l' li lj lk:Array Bool} {ds:List Nat} {i j k:Nat}
theorem gd (l:Array Bool) (j:Nat) (b:Bool):l.getD j b=l.toList.getD j b:=by simp[Array.getD_eq_getD_getElem?,List.getD_eq_getElem?_getD]
theorem zl (o:Oper) (p:Nat→Bool):o.after.all (fun e=> !Region.binds md e||p e.on)=(su md o).all p:=by
 unfold su;rw[←Array.all_toList]
 induction o.after.toList with
 |nil=>rfl
 |cons e r ih=>rw[List.all_cons,ih,List.filter_cons];cases h:Region.binds md e<;>simp
theorem EL (o:Oper) (p:Nat→Bool):o.after.any (fun e=>Region.binds md e&&p e.on)=(su md o).any p:=by
 unfold su;rw[←Array.any_toList]
 induction o.after.toList with
 |nil=>rfl
 |cons e r ih=>rw[List.any_cons,ih,List.filter_cons];cases h:Region.binds md e<;>simp
theorem uW:(fT md ops).2.length=ops.size:=by simp[fT]
theorem uY {o:Oper} (h:ops[i]? =some o):(fT md ops).2[i]? =some (su md o,vS md ops i o):=by
 have hi:=(Array.getElem?_eq_some_iff.1 h).1;unfold fT;rw[List.getElem?_map,List.getElem?_range hi,Option.map_some,h]
theorem uX (h:ops[i]? =none):(fT md ops).2[i]? =none:=by
 have hi:ops.size≤i:=Array.getElem?_eq_none_iff.1 h;exact List.getElem?_eq_none (by rw[uW];exact hi)
theorem Fy:qd (fT md ops).2 l.toList i=(!l.getD i true&&((ops[i]?).map (·.after.all fun e=> !Region.binds md e||l.getD e.on false)).getD false):=by
 unfold qd;rw[gd];cases h:ops[i]? with
 |none=>rw[uX h];rfl
 |some o=>rw[uY h];simp only[Option.map_some,Option.getD_some];rw[←zl];simp only[gd]
theorem ready_eq:Region.ready md ops l=tL (fT md ops).2 l.toList:=by
 unfold Region.ready tL;rw[uW];refine List.filter_congr (fun i _=>?_);rw[Fy]
theorem free_eq:Region.free md ops l i=sW (fT md ops).2 l.toList i:=by
 unfold Region.free sW;cases h:ops[i]? with
 |none=>rw[uX h]
 |some oi=>
  rw[uY h];simp only[vS];rw[List.all_filter];congr 1;funext j;rw[gd];cases hj:ops[j]? with
  |none=>cases(j==i)<;>cases(l.toList.getD j true)<;>simp
  |some oj=>
   cases(j==i)<;>cases(l.toList.getD j true)<;>cases(oj.after.any (fun e=>Region.binds md e&&e.on==i)||oi.apart ops oj)<;>simp_all
theorem BQ:Region.closedB md ops l=uD (fT md ops).2 l.toList:=by
 unfold Region.closedB uD;rw[uW];congr 1;funext j;rw[gd];cases h:ops[j]? with
 |none=>rw[uX h]
 |some o=>rw[uY h];simp only;rw[←zl];simp only[gd]
theorem zD:∀(fuel d:Nat),Region.reachB md ops i fuel d=sG (fT md ops).2 i fuel d
 |0,_=>rfl
 |fuel+1,d=>by
  unfold Region.reachB sG
  cases h:ops[d]? with
  |none=>rw[uX h]
  |some o=>
   rw[uY h]
   simp only
   rw[←EL]
   congr 1
   funext e
   rw[zD fuel]
theorem Dr:Region.lastB md ops l ds i=lastT (fT md ops).2 l.toList ds i:=by
 unfold Region.lastB lastT;rw[uW];congr 1;funext d;rw[gd,zD]
theorem zF (h:qd T.2 l.toList i=true) (hT:fT md ops=T):(Region.ready md ops l).contains i=true:=by
 subst hT;rw[ready_eq];unfold tL;rw[List.contains_iff_mem,List.mem_filter,List.mem_range];refine⟨?_,h⟩;unfold qd at h;rw[Bool.and_eq_true]at h;cases hq:(fT md ops).2[i]? with
 |none=>rw[hq]at h;simp at h
 |some r=>exact(List.getElem?_eq_some_iff.1 hq).1
theorem wO (h:(l.toList.set i true==l'.toList)=true):(l.setIfInBounds i true==l')=true:=by
 rw[beq_iff_eq]at h ⊢;apply Array.ext';rw[Array.toList_setIfInBounds];exact h
def xQ (T:Bool×List (List Nat×List Nat)) (l l':List Bool) (i:Nat):Bool:=T.1&&sW T.2 l i&&qd T.2 l i&&(l.set i true==l')
theorem Bz (hT:fT md ops=T) (h:xQ T l.toList l'.toList i=true):qC md ops l l' i=true:=by
 simp only[xQ,Bool.and_eq_true]at h;obtain⟨⟨⟨h1,h2⟩,h3⟩,h4⟩:=h;have h5:=zF h3 hT;have h6:=wO h4;subst hT;simp only[qC,Bool.and_eq_true];exact⟨⟨⟨h1,by rw[free_eq];exact h2⟩,h5⟩,h6⟩
def wR (T:Bool×List (List Nat×List Nat)) (ds:List Nat) (l l':List Bool) (i:Nat):Bool:=T.1&&sW T.2 l i&&qd T.2 l i&&uD T.2 l&&lastT T.2 l ds i&&(l.set i true==l')
theorem GX (hT:fT md ops=T) (h:wR T ds l.toList l'.toList i=true):takeB md ops ds l l' i=true:=by
 simp only[wR,Bool.and_eq_true]at h;obtain⟨⟨⟨⟨⟨h1,h2⟩,h3⟩,h4⟩,h5⟩,h6⟩:=h;have h7:=zF h3 hT;have h8:=wO h6;subst hT;simp only[takeB,Bool.and_eq_true];exact⟨⟨⟨⟨⟨h1,by rw[free_eq];exact h2⟩,h7⟩,by rw[BQ];exact h4⟩,by rw[Dr];exact h5⟩,h8⟩
theorem dn (hT:fT md ops=T) (h:(tL T.2 l.toList==[i]&&l.toList.set i true==l'.toList)=true):sH md ops l l' i=true:=by
 simp only[Bool.and_eq_true]at h;obtain⟨h1,h2⟩:=h;subst hT;simp only[sH,Bool.and_eq_true];exact⟨by rw[ready_eq];exact h1,wO h2⟩
theorem jG (hT:fT md ops=T) (h:(tL T.2 l.toList==[])=true):(Region.ready md ops l==[])=true:=by
 subst hT;rw[ready_eq];exact h
def qP (B:List Nat) (d:Nat):List Nat→Nat
 |[]=>0
 |n::r=>(2 ^ n|||(if n<d then B.getD n 0 else 0))|||qP B d r
def jJ (T:List (List Nat×List Nat)) (B:List Nat):Bool:=(List.range T.length).all fun d=>match T[d]? with
 |some r=>(B.getD d 0|||qP B d r.1)==qP B d r.1
 |none=>false
theorem Ad {B:List Nat} {d i:Nat}:∀{ns:List Nat},(qP B d ns).testBit i=true→∃n∈ns,n=i∨(n<d∧(B.getD n 0).testBit i=true)
 |[],h=>by simp[qP]at h
 |n::r,h=>by
  unfold qP at h
  rw[Nat.testBit_or,Nat.testBit_or,Bool.or_eq_true,Bool.or_eq_true]at h
  rcases h with(h|h)|h
  ·rw[Nat.testBit_two_pow]at h
   exact⟨n,List.mem_cons_self,.inl (by simpa using h)⟩
  ·by_cases hn:n<d
   ·rw[if_pos hn]at h
    exact⟨n,List.mem_cons_self,.inr ⟨hn,h⟩⟩
   ·rw[if_neg hn]at h
    simp at h
  ·obtain⟨m,hm,h2⟩:=Ad h
   exact⟨m,List.mem_cons_of_mem _ hm,h2⟩
theorem zC {T:List (List Nat×List Nat)} {B:List Nat} (hB:jJ T B=true):∀(fuel d:Nat),d<fuel→d<T.length→(B.getD d 0).testBit i=true→sG T i fuel d=true
 |0,d,h,_,_=>by omega
 |fuel+1,d,h,hd,hb=>by
  have h1:=List.all_eq_true.1 hB d (List.mem_range.2 hd)
  cases hr:T[d]? with
  |none=>rw[hr]at h1;simp at h1
  |some r=>
   rw[hr]at h1
   simp only[beq_iff_eq]at h1
   have h2:(qP B d r.1).testBit i=true:=by rw[←h1,Nat.testBit_or,hb,Bool.true_or]
   obtain⟨n,hn,h3⟩:=Ad h2
   unfold sG
   rw[hr]
   simp only
   rw[List.any_eq_true]
   refine⟨n,hn,?_⟩
   rcases h3 with rfl|⟨h4,h5⟩
   ·simp
   ·rw[zC hB fuel n (by omega) (by omega) h5,Bool.or_true]
def yO (T:List (List Nat×List Nat)) (B:List Nat) (l:List Bool) (ds:List Nat) (i:Nat):Bool:=ds.all fun d=>l.getD d true||(decide (d<T.length)&&(B.getD d 0).testBit i)
def Ac (T:Bool×List (List Nat×List Nat)) (B:List Nat) (ds:List Nat) (l l':List Bool) (i:Nat):Bool:=T.1&&sW T.2 l i&&qd T.2 l i&&uD T.2 l&&yO T.2 B l ds i&&(l.set i true==l')
theorem GY {B:List Nat} (hT:fT md ops=T) (hB:jJ T.2 B=true) (h:Ac T B ds l.toList l'.toList i=true):takeB md ops ds l l' i=true:=by
 refine GX hT ?_;simp only[Ac,wR,Bool.and_eq_true]at h ⊢;obtain⟨⟨⟨⟨⟨h1,h2⟩,h3⟩,h4⟩,h5⟩,h6⟩:=h;refine⟨⟨⟨⟨⟨h1,h2⟩,h3⟩,h4⟩,?_⟩,h6⟩;unfold yO at h5;unfold lastT;rw[List.all_eq_true]at h5 ⊢;intro d hd;have h7:=h5 d hd;rw[Bool.or_eq_true,Bool.and_eq_true,decide_eq_true_eq]at h7;rcases h7 with h7|⟨h8,h9⟩
 ·rw[h7,Bool.true_or]
 ·rw[zC hB _ d h8 h8 h9,Bool.or_true]
theorem jK {P:Program} {Q:Exit→Act→World→Prop} {S:World→Prop} {n:Nat} {a:Act} {w:World} {B:List Nat} (hT:fT md ops=T) (hB:jJ T.2 B=true) (h:ay (fT md ops=T)→ay (jJ T.2 B=true)→eF P md ops Q S ds n l a w):eF P md ops Q S ds n l a w:=h ⟨hT⟩ ⟨hB⟩
end
def nX:Code→Nat→Option (Array Oper)
 |.region id ops _,k=>if id==k then some ops else none
 |.seq a b,k=>match nX a k with
  |some o=>some o
  |none=>nX b k
 |.cond _ a b,k=>match nX a k with
  |some o=>some o
  |none=>nX b k
 |.block _ c,k=>nX c k
 |.loop c,k=>nX c k
 |.scope c,k=>nX c k
 |.rangeFunc _ _ a b,k=>match nX a k with
  |some o=>some o
  |none=>nX b k
 |_,_=>none
def opsOf (f:Func) (k:Nat):Array Oper:=((f.body.bind fun c=>nX c k)).getD #[]
end Go.Proofs.YtjmdfghljlmfmaaGreatW.PrintLast
namespace Go.Proofs.YtjmdfghljlmfmaaGreatW.PrintWords
open Go.RowKit
namespace Kd
def tag {α:Type} (f:Nat→Nat) (d:Kd α):Kd (α×Nat) where
 sz:=d.sz
 E:=d.E
 K:=fun w x cs=>d.K w x.1 cs
 M:=fun w base ok x cs=>d.M w base (fun k=>ok k∧f k=x.2) x.1 cs
 iW:=fun h=>d.iW h
 iA:=fun h=>d.iA h
 jD:=fun hb h=>d.jD hb h
 fJ:=fun h=>d.fJ h
 dQ:=fun hok h=>d.dQ (fun k hk=>⟨hok k hk.1,hk.2⟩) h
 iL:=fun h=>d.dQ (fun _ hk=>⟨⟨hk.1.1,hk.2⟩,hk.1.2⟩) (d.iL h)
 iM:=fun hm h=>d.iM (fun k hk=>hm k hk.1) h
 jE:=fun hb h=>d.jE hb h
def bare {α:Type} (d:Kd α):Kd α where
 sz:=d.sz
 E:=d.E
 K:=d.K
 M:=fun w base _ x cs=>d.M w base (fun _=>False) x cs
 iW:=fun h=>d.iW h
 iA:=fun h=>d.iA h
 jD:=fun hb h=>d.jD hb h
 fJ:=fun h=>d.fJ h
 dQ:=fun _ h=>h
 iL:=fun h=>h
 iM:=fun _ h=>d.iM (fun _ hk=>hk.elim) h
 jE:=fun hb h=>d.jE hb h
def raw (sz:Nat):Kd (List Value) where
 sz:=sz
 E:=[]
 K:=fun _ x cs=>cs=x∧cs.length=sz∧∀u∈cs,u.oneCell'=true
 M:=fun _ _ _ x cs=>cs=x∧cs.length=sz∧∀u∈cs,u.oneCell'=true
 iW:=fun h=>h.2.1
 iA:=fun h=>h.2.2
 jD:=fun _ h=>h
 fJ:=fun h=>h
 dQ:=fun _ h=>h
 iL:=fun h=>h
 iM:=fun _ h=>h
 jE:=fun _ h=>h
def S {α:Type} (d:Kd α) (e:Nat) (w:World) (base:Nat) (ok:Nat→Prop) (v:Value) (xs:List α):Prop:=∃f,(tag f d).R e w base ok v xs.zipIdx
section
variable {α β:Type} {d:Kd α} {d':Kd β} {e e':Nat} {w w1 W:World} {base b:Nat} {ok ok' sD zu:Nat→Prop} {u v:Value} {xs:List α} {ys:List β}
theorem qw {xs:List α} {j:Nat} {p:α} (h:xs[j]? =some p):xs.zipIdx[j]? =some (p,j):=by rw[List.getElem?_zipIdx,h,Nat.zero_add];rfl
theorem kg (h:S d e w base ok v xs):d.R e w base ok v xs:=by
 obtain⟨f,h0,inner,ho,hr⟩:=h;rw[List.length_zipIdx]at ho;exact⟨h0,inner,ho,by have:=hr.1;rw[List.length_zipIdx]at this;exact this,fun j p hj=>d.dQ (fun _ hk=>hk.1) (hr.2 j (p,j) (qw hj))⟩
theorem kI (hE:d.E=[]) (h:d.R e w base ok v xs):d.R e w base (fun k=>some k=v.ownBlock) v xs:=by
 obtain⟨h0,inner,ho,hr⟩:=h;refine⟨fun k hk=>hk.symm,inner,ho,hr.jw (fun p c hp=>d.dQ (fun k hk=>?_) (d.iL hp))⟩;obtain⟨_,_,_,q,hq,_⟩:=hk;rw[hE]at hq;cases hq
theorem jN (d:Kd α) (e:Nat) (w:World) (base:Nat) (ok:Nat→Prop):S d e w base ok (.slice none 0 0) []:=⟨fun _=>0,jQ _ _ _ _ _⟩
theorem bU (h:S d e w base ok v xs) (hok:∀k,ok k→ok' k):S d e w base ok' v xs:=by
 obtain⟨f,h⟩:=h;exact⟨f,bC h hok⟩
theorem nO (h:S d e w base ok v xs):S d e w base (fun k=>ok k∧base≤k∧k<w.heap.size∧∃q,q∈e::d.E∧∃cells,w.heap[k]? =some (.cells cells q (0,0))) v xs:=by
 obtain⟨f,h⟩:=h;exact⟨f,kY h⟩
theorem xK (h:S d e w base ok v xs) (hm:∀k,ok k→w1.heap[k]? =w.heap[k]?):S d e w1 base ok v xs:=by
 obtain⟨f,h⟩:=h;exact⟨f,qX h hm⟩
theorem ko {base':Nat} (h:S d e w base ok v xs) (hb:base'≤base):S d e w base' ok v xs:=by
 obtain⟨f,h⟩:=h;exact⟨f,sK h hb⟩
theorem sO (h:S d e w base ok v xs) (hm:∀k,ok k→k<w.heap.size→w1.heap[k]? =w.heap[k]?):S d e w1 base ok v xs:=
 bU (xK (nO h) (fun k hk=>hm k hk.1 hk.2.2.1)) (fun _ hk=>hk.1)
theorem fU (h:S d e w base ok v xs) (hb:Below w.heap.size w w1):S d e w1 base ok v xs:=sO h (fun k _ hk=>hb.block k hk)
theorem cB (h:S d e w base ok v xs) (o:Obj):S d e (w.alloc o) base ok v xs:=fU h (jh (Below.refl _ _) o)
theorem bS (h:S d e w base ok v xs):S d e w.drew base ok v xs:=fU h (sU (Below.refl _ _))
theorem cK (h:S d e w base ok v xs) (m:Nat):S d e (w.drewN m) base ok v xs:=fU h (nY (Below.refl _ _) m)
theorem bT (h:S d e w base ok v xs) {p:Addr} (hok:∀k,ok k→k≠p.block) (u:Value):S d e (w.setCell p u) base ok v xs:=sO h (fun k ho _=>Below.heap_setCell w p u k (hok k ho))
theorem iN (h:S d e w base ok v xs) {g t:Nat} {cells:Array Value} (hb:w.heap[g]? =some (.cells cells t (0,0))) (ht:∀q,q∈e::d.E→q≠t):S d e w base (fun k=>ok k∧k≠g) v xs:=by
 obtain⟨f,h⟩:=h;exact⟨f,dJ h hb ht⟩
theorem kr (h:S d e w base ok v xs):∀k,v.ownBlock=some k→∃cells,w.heap[k]? =some (.cells cells e (0,0)):=vK (kg h)
theorem oz (h:S d e w base ok v xs):∀k,v.ownBlock=some k→base≤k:=tZ (kg h)
theorem xL (h:S d e W base ok u xs) (hty:∀k,v.ownBlock=some k→∃cells,W.heap[k]? =some (.cells cells e' (0,0))) (ht:∀q,q∈e::d.E→q≠e') (hg:W.grownBy w1 v.ownBlock):S d e w1 base ok u xs:=by
 obtain⟨f,h⟩:=h;exact⟨f,Bj h hty ht hg⟩
theorem xH (h:S d e W base ok u xs) (hty:∀k,v.ownBlock=some k→∃cells,W.heap[k]? =some (.cells cells e' (0,0))) (ht:∀q,q∈e::d.E→q≠e'):S d e W base (fun k=>ok k∧some k≠v.ownBlock) u xs:=by
 obtain⟨f,h⟩:=h;exact⟨f,kH h hty ht⟩
theorem oP (h:S d e W base ok u xs) (hbase:∀k,v.ownBlock=some k→W.heap.size≤k) (hb:Below W.heap.size W w1):S d e w1 base (fun k=>ok k∧some k≠v.ownBlock) u xs:=by
 obtain⟨f,h⟩:=h;exact⟨f,vG h hbase hb⟩
theorem vM (h:S d e W base ok u xs) (hb:Below W.heap.size W w1):S d e w1 base (fun k=>ok k∧k<W.heap.size) u xs:=
 bU (fU (nO h) hb) (fun _ hk=>⟨hk.1,hk.2.2.1⟩)
theorem xJ (h:(bare d).R e w base ok v xs):S d e w base ok v xs:=by
 obtain⟨h0,inner,ho,hr⟩:=h;refine⟨fun _=>0,h0,inner,by rw[List.length_zipIdx];exact ho,by rw[List.length_zipIdx];exact hr.1,fun j p hj=>?_⟩;rw[List.getElem?_zipIdx,Nat.zero_add]at hj;obtain⟨x,hx,rfl⟩:=Option.map_eq_some_iff.1 hj;exact d.dQ (fun _ hk=>hk.elim) (hr.2 j x hx)
theorem Bo {f f':Nat→Nat} {zs:List (α×Nat)} (h:(tag f d).R e w base ok v zs) (hf:∀k,ok k→k<w.heap.size→f' k=f k):(tag f' d).R e w base ok v zs:=by
 obtain⟨h0,inner,ho,hr⟩:=kY h;exact⟨fun k hk=>(h0 k hk).1,inner,ho,hr.1,fun j p hj=>d.dQ (fun k hk=>⟨⟨hk.1.1.1,hk.1.2⟩,(hf k hk.1.1.1 hk.1.1.2.2.1).trans hk.2⟩) (hr.2 j p hj)⟩
end
section
variable {α β:Type} {d:Kd α} {d':Kd β} {e e' g:Nat} {w w1 W:World} {base b:Nat} {ok ok' sD zu:Nat→Prop} {u v:Value} {xs:List α} {ys:List β}
theorem kZ (h:S d e w base ok v xs) {t:Nat} {cells:Array Value} (hb:w.heap[g]? =some (.cells cells t (0,0))) (ht:e≠t):some g≠v.ownBlock:=sM (kg h) hb ht
theorem uo (h:S d e w base ok v xs) (hok:∀k,ok k→k≠g):some g≠v.ownBlock:=Bd (kg h) hok
theorem qY (h:S d e w base ok v xs) (hp:0<xs.length):∃g cap,v= .slice (some ⟨g,0,none⟩) xs.length cap∧base≤g∧g<w.heap.size∧∃cells,w.heap[g]? =some (.cells cells e (0,0)):=uf (kg h) hp
theorem dV (h:S d e w base ok v xs):∃A c,v= .slice A xs.length c:=sN (kg h)
theorem eD {A:Option Addr} {n c:Nat} (h:S d e w base ok (.slice A n c) xs):n=xs.length∧n≤c∧d.C w A xs.length xs:=mF (kg h)
theorem uq (h:S d e w base ok v xs) (a:Nat) (ha:w.heap.size≤a):S d e w base (fun k=>ok k∧k≠a) v xs:=bU (nO h) (fun k hk=>⟨hk.1,by have:=hk.2.2.1;omega⟩)
theorem uw {N:Nat} (h:S d e w1 base (fun k=>ok k∧k<N) u xs) (hbase:∀k,v.ownBlock=some k→N≤k):S d e w1 base (fun k=>(ok k∧some k≠v.ownBlock)∧k<N) u xs:=
 bU h (fun k hk=>⟨⟨hk.1,fun e=>Nat.lt_irrefl _ (Nat.lt_of_lt_of_le hk.2 (hbase k e.symm))⟩,hk.2⟩)
theorem Aq (xs:List α) (p:α):(xs++[p]).zipIdx=xs.zipIdx++[(p,xs.length)]:=by rw[List.zipIdx_append];simp
end
section
open Classical in
theorem xM {α:Type} {d:Kd α} {e base:Nat} {sD:Nat→Prop} {w:World} {v:Value} {xs:List α} (h:S d e w base sD v xs) (m:Nat) (bH:Nat→Prop) (hap:∀k,bH k→¬sD k):∃f,(∀k,bH k→f k=m)∧(tag f d).R e w base sD v xs.zipIdx:=by
 obtain⟨f,h⟩:=h;exact⟨fun k=>if bH k then m else f k,fun k hk=>if_pos hk,Bo h (fun k hk _=>if_neg (fun h2=>hap k h2 hk))⟩
variable {P:Program} {ops:Array Oper} {rest:List Oper} {o:Oper} {a:Act} {Q:Exit→Act→World→Prop} {Kc:Act→World→Prop} {α:Type}
theorem um (d:Kd α) {w0 W:World} (base:Nat) (hgd:o.guard=none) (s x:Operand) (t e:TypeId) (z:Value) (bytes:Nat)
 (ho:o.op= .call { callee:=.builtin .append,args:=#[s,x],argTypes:=#[t,t]})
 (ht:P.underlying t=some (.slice e)) (hinfo:(P.info? e).map (fun i=>(i.zero,i.size,i.bytes))=some (some z,d.sz,bytes)) (hz:z.cells.size=d.sz) (hs0:0<d.sz) (hb0:0<bytes)
 (v:Value) (xs:List α) (p:α) (cs:List Value) (ok bH:Nat→Prop) (hs:a.eval s=v) (hx:a.eval x= .slice (some ⟨W.heap.size,0,none⟩) 1 1) (hp:d.M W base bH p cs) (jB:∀k,bH k→ok k∧some k≠v.ownBlock) (hfresh:∀k,W.heap.size≤k→ok k)
 (HO:S d e W base (fun k=>ok k∧¬bH k) v xs) (HB:Below base w0 W) (hbase:base≤W.heap.size) (hl:(xs.length+1)*bytes≤140737488355328)
 (h:∀v1 w1,S d e w1 base ok v1 (xs++[p])→Below base w0 w1→W.grownBy w1 v.ownBlock→(v1.ownBlock=v.ownBlock∨∃b,v1.ownBlock=some b∧W.heap.size≤b)→wpList P ops Q rest (a.put o.dst v1) w1):
 wpList P ops Q (o::rest) a (W.alloc (.cells cs.toArray e)):=by
 obtain⟨f,hf,hR⟩:=xM HO xs.length bH (fun _ hk h2=>h2.2 hk)
 refine sJ (tag f d) base hgd s x t e z bytes ho ht hinfo hz hs0 hb0 v xs.zipIdx (p,xs.length) cs ok bH hs hx (d.dQ (fun k hk=>⟨hk,hf k hk⟩) hp) jB hfresh (bC hR (fun _ hk=>hk.1)) HB hbase (by rw[List.length_zipIdx];exact hl) ?_
 intro v1 w1 hr
 rw[←Aq]at hr
 exact h v1 w1 ⟨f,hr⟩
theorem xI (d:Kd α) {w0 W:World} (base:Nat) (hw:Region.wanted o (yielded ops a.tmps)=true) (s x:Operand) (t e:TypeId) (z:Value) (bytes:Nat)
 (ho:o.op= .call { callee:=.builtin .append,args:=#[s,x],argTypes:=#[t,t]})
 (ht:P.underlying t=some (.slice e)) (hinfo:(P.info? e).map (fun i=>(i.zero,i.size,i.bytes))=some (some z,d.sz,bytes)) (hz:z.cells.size=d.sz) (hs0:0<d.sz) (hb0:0<bytes)
 (v:Value) (xs:List α) (p:α) (cs:List Value) (ok bH:Nat→Prop) (hs:a.eval s=v) (hx:a.eval x= .slice (some ⟨W.heap.size,0,none⟩) 1 1) (hp:d.M W base bH p cs) (jB:∀k,bH k→ok k∧some k≠v.ownBlock) (hfresh:∀k,W.heap.size≤k→ok k)
 (HO:S d e W base (fun k=>ok k∧¬bH k) v xs) (HB:Below base w0 W) (hbase:base≤W.heap.size) (hl:(xs.length+1)*bytes≤140737488355328)
 (h:∀v1 w1,S d e w1 base ok v1 (xs++[p])→Below base w0 w1→W.grownBy w1 v.ownBlock→(v1.ownBlock=v.ownBlock∨∃b,v1.ownBlock=some b∧W.heap.size≤b)→Kc (a.put o.dst v1) w1):
 if Region.wanted o (yielded ops a.tmps)=true then Oper.wp P o a (W.alloc (.cells cs.toArray e)) Kc Q else Kc (a.put o.dst undef) (W.alloc (.cells cs.toArray e)):=by
 obtain⟨f,hf,hR⟩:=xM HO xs.length bH (fun _ hk h2=>h2.2 hk)
 refine vE (tag f d) base hw s x t e z bytes ho ht hinfo hz hs0 hb0 v xs.zipIdx (p,xs.length) cs ok bH hs hx (d.dQ (fun k hk=>⟨hk,hf k hk⟩) hp) jB hfresh (bC hR (fun _ hk=>hk.1)) HB hbase (by rw[List.length_zipIdx];exact hl) ?_
 intro v1 w1 hr
 rw[←Aq]at hr
 exact h v1 w1 ⟨f,hr⟩
theorem Bt (d:Kd α) {w0 W:World} (base e:Nat) (hgd:o.guard=none) {N:Tmp} (ru:o.dst=some N) {xs:List α} {inner:List Value} {ok bH:Nat→Prop}
 (hrun:(execOp a.eval o).run P W= .ok (.value (.slice (some ⟨W.heap.size,0,none⟩) xs.length xs.length)) (W.alloc (.cells inner.toArray e)))
 (hrep:bn (d.M W base (fun _=>False)) d.sz xs inner) (Bu:∀k,bH k→ok k) (hfresh:ok W.heap.size) (HB:Below base w0 W) (hbase:base≤W.heap.size) (hm:xs.length≤9223372036854775807)
 (h:∀v1 w1,S d e w1 base ok v1 xs→Below base w0 w1→W.grownBy w1 none→(∃b,v1.ownBlock=some b∧W.heap.size≤b)→wpList P ops Q rest (a.put o.dst v1) w1):wpList P ops Q (o::rest) a W:=
 jP (bare d) base e hgd ru (ok:=ok) (bH:=ok) hrun hrep (fun _ hk=>hk) hfresh HB hbase hm (fun v1 w1 hr=>h v1 w1 (xJ hr))
theorem vL (d:Kd α) {w0 W:World} (base e:Nat) (hgd:o.guard=none) {N:Tmp} (hd:o.dst=some N) (t:TypeId) (x y:Operand) (ho:o.op= .makeSlice t x y) (n:Int) (hx:a.eval x= .int .i64 n) (hy:a.eval y= .int .i64 n)
 (ht:P.underlying t=some (.slice e)) (z:Value) (bytes:Nat) (hinfo:(P.info? e).map (fun i=>(i.zero,i.size,i.bytes))=some (some z,d.sz,bytes)) (hz:z.cells.size=d.sz) (hs0:0<d.sz) (hb0:0<bytes)
 (z0:α) {ok bH:Nat→Prop} (hzero:d.M W base (fun _=>False) z0 z.cells.toList) (Bu:∀k,bH k→ok k) (hfresh:ok W.heap.size) (h0:0≤n) (hl:n.toNat*bytes≤281474976710656) (HB:Below base w0 W) (hbase:base≤W.heap.size)
 (h:∀v1 w1,S d e w1 base ok v1 (List.replicate n.toNat z0)→Below base w0 w1→W.grownBy w1 none→(∃b,v1.ownBlock=some b∧W.heap.size≤b)→wpList P ops Q rest (a.put o.dst v1) w1):wpList P ops Q (o::rest) a W:=
 vH (bare d) base e hgd hd t x y ho n hx hy ht z bytes hinfo hz hs0 hb0 z0 (ok:=ok) (bH:=ok) hzero (fun _ hk=>hk) hfresh h0 hl HB hbase (fun v1 w1 hr=>h v1 w1 (xJ hr))
end
def gap {α:Type} (f:Nat→Nat) (d:Kd α) (i:Nat) (c:List Value):Kd (α×Nat) where
 sz:=d.sz
 E:=d.E
 K:=fun w x cs=>(x.2=i→cs=c∧cs.length=d.sz∧∀u∈cs,u.oneCell'=true)∧(x.2≠i→d.K w x.1 cs)
 M:=fun w base ok x cs=>(x.2=i→cs=c∧cs.length=d.sz∧∀u∈cs,u.oneCell'=true)∧(x.2≠i→d.M w base (fun k=>ok k∧f k=x.2) x.1 cs)
 iW:=fun{w x cs} h=>by
  by_cases hx:x.2=i
  ·exact(h.1 hx).2.1
  ·exact d.iW (h.2 hx)
 iA:=fun{w x cs} h=>by
  by_cases hx:x.2=i
  ·exact(h.1 hx).2.2
  ·exact d.iA (h.2 hx)
 jD:=fun hb h=>⟨h.1,fun hx=>d.jD hb (h.2 hx)⟩
 fJ:=fun h=>⟨h.1,fun hx=>d.fJ (h.2 hx)⟩
 dQ:=fun hok h=>⟨h.1,fun hx=>d.dQ (fun k hk=>⟨hok k hk.1,hk.2⟩) (h.2 hx)⟩
 iL:=fun h=>⟨h.1,fun hx=>d.dQ (fun _ hk=>⟨⟨hk.1.1,hk.2⟩,hk.1.2⟩) (d.iL (h.2 hx))⟩
 iM:=fun hm h=>⟨h.1,fun hx=>d.iM (fun k hk=>hm k hk.1) (h.2 hx)⟩
 jE:=fun hb h=>⟨h.1,fun hx=>d.jE hb (h.2 hx)⟩
def H {α:Type} (d:Kd α) (e:Nat) (w:World) (base:Nat) (ok:Nat→Prop) (v:Value) (xs:List α) (i:Int) (bV:Nat→Prop) (c:List Value):Prop:=
 (∀k,bV k→ok k)∧∃f,(gap f d i.toNat c).R e w base (fun k=>ok k∧¬bV k) v xs.zipIdx
section
variable {α β:Type} {d:Kd α} {e e' g n cap:Nat} {w w1 W:World} {base:Nat} {ok ok' bV bH:Nat→Prop} {u v:Value} {xs:List α} {i:Int} {c:List Value}
theorem Br (h:S d e W base ok (.slice (some ⟨g,0,none⟩) n cap) xs) (z:α) (i:Int) (h0:0≤i) (h1:i<n):
 ∃(bV:Nat→Prop) (c:List Value),c.length=d.sz∧d.M W base bV (xs.getD i.toNat z) c∧(∀j u,c[j]? =some u→W.cell? ⟨g,i.toNat*d.sz+j,none⟩=some u)∧(∀k,bV k→ok k∧k≠g)∧H d e W base ok (.slice (some ⟨g,0,none⟩) n cap) xs i bV c:=by
 obtain⟨f,hR⟩:=h;have hn:=(mF hR).1;rw[List.length_zipIdx]at hn;have hgo:some g=(Value.slice (some ⟨g,0,none⟩) n cap).ownBlock:=by simp[Value.ownBlock]
 obtain⟨hok0,inner,ho,hr⟩:=hR;have hil:i.toNat<xs.length:=by omega
 have hlen:inner.length=xs.length*d.sz:=by have:=hr.1;rw[List.length_zipIdx]at this;exact this
 have hseg:i.toNat*d.sz+d.sz≤inner.length:=by rw[hlen,←Nat.succ_mul];exact Nat.mul_le_mul_right _ hil
 have hM:=hr.2 i.toNat _ (qw (List.getElem?_eq_getElem hil));have hkg:∀k,some k≠(Value.slice (some ⟨g,0,none⟩) n cap).ownBlock→k≠g:=fun k hk he=>hk (by rw[he];exact hgo);refine⟨fun k=>(ok k∧k≠g)∧f k=i.toNat,(inner.drop (i.toNat*d.sz)).take d.sz,by rw[List.length_take,List.length_drop];omega,?_,fun j u hu=>?_,fun k hk=>hk.1,fun k hk=>hk.1.1,f,fun k hk=>⟨hok0 k hk,fun h2=>h2.1.2 ?_⟩,inner,ho,hr.1,fun m p hm=>?_⟩
 ·rw[List.getD_eq_getElem?_getD,List.getElem?_eq_getElem hil];exact d.dQ (fun k hk=>⟨⟨hk.1.1,hkg k hk.1.2⟩,hk.2⟩) hM
 ·rw[List.getElem?_take]at hu;split at hu
  ·rw[List.getElem?_drop]at hu;have:=ho.cells (g:=g) hgo.symm _ u hu
   rwa [add_plain]at this
  ·cases hu
 ·rw[←hgo]at hk;injection hk with hk;exact hk.symm
 ·have hold:=hr.2 m p hm;have hp2:p.2=m:=by
   rw[List.getElem?_zipIdx,Nat.zero_add]at hm;obtain⟨q,_,rfl⟩:=Option.map_eq_some_iff.1 hm;rfl
  refine⟨fun hx=>?_,fun hx=>d.dQ (fun k hk=>⟨⟨⟨hk.1.1,fun h2=>hx ?_⟩,hk.1.2⟩,hk.2⟩) hold⟩
  ·(have pJ:m=i.toNat:=by omega);subst pJ;exact⟨rfl,d.iW (d.fJ hM),d.iA (d.fJ hM)⟩
  ·rw[←hk.2];exact h2.2
open Classical in
theorem tV (h:H d e w base ok v xs i bV c) {x':α} (hM:d.M w base bH x' c) (hok:∀k,bH k→bV k):S d e w base ok v (xs.set i.toNat x'):=by
 obtain⟨ho,f,h0,inner,hown,hr⟩:=h;refine⟨fun k=>if bV k then i.toNat else f k,fun k hk=>(h0 k hk).1,inner,by rw[List.length_zipIdx,List.length_set];rw[List.length_zipIdx]at hown;exact hown,by have:=hr.1;rw[List.length_zipIdx]at this;rw[List.length_zipIdx,List.length_set];exact this,fun m p hm=>?_⟩;rw[List.getElem?_zipIdx,Nat.zero_add]at hm;obtain⟨q,hq,rfl⟩:=Option.map_eq_some_iff.1 hm;have hml:m<xs.length:=by
  have:=(List.getElem?_eq_some_iff.1 hq).1
  rwa [List.length_set]at this
 by_cases pJ:m=i.toNat
 ·subst pJ;rw[List.getElem?_set_self hml]at hq;(injection hq with hq);subst hq;have hc:=((hr.2 i.toNat _ (qw (List.getElem?_eq_getElem hml))).1 rfl).1;show d.M w base _ x' ((inner.drop (i.toNat*d.sz)).take d.sz);rw[show(inner.drop (i.toNat*d.sz)).take d.sz=c from hc];exact d.dQ (fun k hk=>⟨⟨ho k (hok k hk),fun he=>(h0 k he.symm).2 (hok k hk)⟩,if_pos (hok k hk)⟩) hM
 ·rw[List.getElem?_set_ne (Ne.symm pJ)]at hq;exact d.dQ (fun k hk=>⟨⟨hk.1.1.1,hk.1.2⟩,(if_neg hk.1.1.2).trans hk.2⟩) ((hr.2 m (q,m) (qw hq)).2 pJ)
theorem vC (h:H d e w base ok v xs i bV c) (hm:∀k,ok k→¬bV k→k<w.heap.size→w1.heap[k]? =w.heap[k]?):H d e w1 base ok v xs i bV c:=by
 obtain⟨ho,f,h⟩:=h;exact⟨ho,f,qA h (fun k hk hlt=>hm k hk.1 hk.2 hlt)⟩
theorem AP {mU:Nat→Prop} (h:H d e w base (fun k=>ok k∧¬mU k) v xs i bV c) (hg:∀k,mU k→ok k):H d e w base ok v xs i (fun k=>bV k∨mU k) c:=by
 obtain⟨ho,f,h⟩:=h;exact⟨fun k hk=>hk.elim (fun h2=>(ho k h2).1) (hg k),f,bC h (fun k hk=>⟨hk.1.1,fun h2=>h2.elim hk.2 hk.1.2⟩)⟩
theorem kK (h:S d e W base ok (.slice (some ⟨g,0,none⟩) n cap) xs) (z:α) (i:Int) (h0:0≤i) (h1:i<n):
 ∃(bV:Nat→Prop) (c:List Value),c.length=d.sz∧d.M W base bV (xs.getD i.toNat z) c∧(∀j u,c[j]? =some u→W.cell? ⟨g,i.toNat*d.sz+j,none⟩=some u)∧(∀j,W.frozen? ⟨g,i.toNat*d.sz+j,none⟩=false)∧(∀k,bV k→ok k∧k≠g)∧H d e W base ok (.slice (some ⟨g,0,none⟩) n cap) xs i bV c:=by
 obtain⟨_,_,_,_,hfr⟩:=xD (kg h) z i h0 h1;obtain⟨bV,c,hcl,hM,hcc,jf,hH⟩:=Br h z i h0 h1;exact⟨bV,c,hcl,hM,hcc,hfr,jf,hH⟩
theorem AQ (h:H d e W base ok (.slice (some ⟨g,0,none⟩) n cap) xs i bV c) (h0:0≤i) (h1:i<n):
 ∃rows:List (List Value),rows.length=xs.length∧(raw d.sz).R e W base (fun _=>True) (.slice (some ⟨g,0,none⟩) n cap) rows∧c.length=d.sz∧(∀u∈c,u.oneCell'=true)∧(∀j u,c[j]? =some u→W.cell? ⟨g,i.toNat*d.sz+j,none⟩=some u)∧
  ∀w1 c',W.grownBy w1 (some g)→(raw d.sz).R e w1 base (fun _=>True) (.slice (some ⟨g,0,none⟩) n cap) (rows.set i.toNat c')→H d e w1 base ok (.slice (some ⟨g,0,none⟩) n cap) xs i bV c':=by
 obtain⟨Ce,f,hR⟩:=h;have hn:=(mF hR).1;rw[List.length_zipIdx]at hn;have hgo:some g=(Value.slice (some ⟨g,0,none⟩) n cap).ownBlock:=by simp[Value.ownBlock]
 obtain⟨hok0,inner,ho,hr⟩:=hR;have hil:i.toNat<xs.length:=by omega
 have hlen:inner.length=xs.length*d.sz:=by have:=hr.1;rw[List.length_zipIdx]at this;exact this
 have hkg:∀k,some k≠(Value.slice (some ⟨g,0,none⟩) n cap).ownBlock→k≠g:=fun k hk he=>hk (by rw[he];exact hgo);have hci:=(hr.2 i.toNat _ (qw (List.getElem?_eq_getElem hil))).1 rfl;rw[hci.1]at hci;have hc:=((hr.2 i.toNat _ (qw (List.getElem?_eq_getElem hil))).1 rfl).1;refine⟨(List.range xs.length).map fun j=>(inner.drop (j*d.sz)).take d.sz,by rw[List.length_map,List.length_range],⟨fun _ _=>trivial,inner,?_,?_,fun j p hj=>?_⟩,hci.2.1,hci.2.2,fun j u hu=>?_,fun w1 c' hg hraw=>?_⟩
 ·rw[List.length_map,List.length_range];rw[List.length_zipIdx]at ho;exact ho
 ·rw[List.length_map,List.length_range];exact hlen
 ·rw[List.getElem?_map]at hj;obtain⟨j',hj',rfl⟩:=Option.map_eq_some_iff.1 hj;obtain⟨hl,he⟩:=List.getElem?_eq_some_iff.1 hj';rw[List.getElem_range]at he;subst he;rw[List.length_range]at hl;have hm:=(gap f d i.toNat c).fJ (hr.2 j _ (qw (List.getElem?_eq_getElem hl)));exact⟨rfl,(gap f d i.toNat c).iW hm,(gap f d i.toNat c).iA hm⟩
 ·rw[←hc,List.getElem?_take]at hu;split at hu
  ·rw[List.getElem?_drop]at hu;have:=ho.cells (g:=g) hgo.symm _ u hu
   rwa [add_plain]at this
  ·cases hu
 ·obtain⟨_,uH,ho',hr'⟩:=hraw;(have hl':uH.length=xs.length*d.sz:=by have:=hr'.1;rw[List.length_set,List.length_map,List.length_range]at this;exact this);rw[List.length_set,List.length_map,List.length_range]at ho';refine⟨Ce,f,hok0,uH,by rw[List.length_zipIdx];exact ho',by rw[List.length_zipIdx];exact hl',fun m p hm=>?_⟩;rw[List.getElem?_zipIdx,Nat.zero_add]at hm;obtain⟨q,hq,rfl⟩:=Option.map_eq_some_iff.1 hm;have hml:m<xs.length:=(List.getElem?_eq_some_iff.1 hq).1;have hold:=hr.2 m (q,m) (qw hq);refine⟨fun hx=>?_,fun hx=>?_⟩
  ·have hx':m=i.toNat:=hx;subst hx';exact hr'.2 i.toNat c' (List.getElem?_set_self (by rw[List.length_map,List.length_range];exact hml))
  ·have hx':m≠i.toNat:=hx;have hcm:=(hr'.2 m ((inner.drop (m*d.sz)).take d.sz) (by
    rw[List.getElem?_set_ne (Ne.symm hx'),List.getElem?_map,List.getElem?_eq_getElem (by rw[List.length_range];exact hml),List.getElem_range];rfl)).1
   show d.M w1 base _ q ((uH.drop (m*d.sz)).take d.sz);rw[show(uH.drop (m*d.sz)).take d.sz=_ from hcm];exact d.dQ (fun k hk=>hk.1) (d.iM (w1:=w1) (fun k hk=>hg.block k hk.2.2.1 (fun he=>hkg k hk.1.1.2 (by injection he))) (d.iL (hold.2 hx)))
theorem AR (h:H d e W base ok (.slice (some ⟨g,0,none⟩) n cap) xs i bV c) (h0:0≤i) (h1:i<n) {seg:List Value} {j:Nat} (hj:j+seg.length≤d.sz) (hone:∀q∈seg,q.oneCell'=true):
 H d e (W.setCells g (i.toNat*d.sz+j) seg) base ok (.slice (some ⟨g,0,none⟩) n cap) xs i bV (c.take j++seg++c.drop (j+seg.length))∧W.grownBy (W.setCells g (i.toNat*d.sz+j) seg) (some g):=by
 obtain⟨rows,_,hraw,hcl,hco,hcc,hback⟩:=AQ h h0 h1;obtain⟨h2,h3⟩:=Bn hraw i h0 h1 (c:=c) (seg:=seg) (j:=j) (x':=c.take j++seg++c.drop (j+seg.length)) (bH:=fun _=>False) hcl hcc hj
  ⟨rfl,by
   show(c.take j++seg++c.drop (j+seg.length)).length=d.sz;simp only[List.length_append,List.length_take,List.length_drop];omega,fun u hu=>by
   rcases List.mem_append.1 hu with hu|hu
   ·rcases List.mem_append.1 hu with hu|hu
    ·exact hco u (List.mem_of_mem_take hu)
    ·exact hone u hu
   ·exact hco u (List.mem_of_mem_drop hu)⟩ (fun _ hk=>hk.elim)
 exact⟨hback _ _ h3 h2,h3⟩
theorem qB {mU:Nat→Prop} (hH:H d e W base (fun k=>ok k∧¬mU k) (.slice (some ⟨g,0,none⟩) n cap) xs i bV c) (h0:0≤i) (h1:i<n) {seg:List Value} {j:Nat} (hj:j+seg.length≤d.sz)
 {x':α} (hM:d.M W base bH x' (c.take j++seg++c.drop (j+seg.length))) (jB:∀k,bH k→bV k∨mU k) (hg:∀k,mU k→ok k∧k≠g):
 S d e (W.setCells g (i.toNat*d.sz+j) seg) base ok (.slice (some ⟨g,0,none⟩) n cap) (xs.set i.toNat x')∧W.grownBy (W.setCells g (i.toNat*d.sz+j) seg) (some g):=by
 have hne:∀k,bV k∨mU k→k≠g:=by
  intro k hk he;subst he;rcases hk with hk|hk
  ·obtain⟨_,f,hR⟩:=hH;exact(hR.1 k (by simp[Value.ownBlock])).2 hk
  ·exact(hg k hk).2 rfl
 obtain⟨h2,h3⟩:=AR (AP hH (fun k hk=>(hg k hk).1)) h0 h1 hj (fun q hq=>d.iA (d.fJ hM) q (List.mem_append_left _ (List.mem_append_right _ hq)));exact⟨tV h2 (vD hM (fun k hk hlt=>h3.block k hlt (fun he=>hne k (jB k hk) (by injection he)))) jB,h3⟩
end
end Kd
end Go.Proofs.YtjmdfghljlmfmaaGreatW.PrintWords
namespace Go.Proofs.YtjmdfghljlmfmaaGreatW.PrintWords
open Go.RowKit
namespace Kd
theorem Fz {α:Type} {R:α→List Value→Prop} {size:Nat} {ps:List α} {cs:List Value} (h:bn R size ps cs) (hs0:0<size) (hR:∀p c,R p c→∀u∈c,u.oneCell'=true):∀u∈cs,u.oneCell'=true:=by
 intro u hu;obtain⟨q,hq,rfl⟩:=List.mem_iff_getElem.1 hu;have sZ:q / size<ps.length:=by
  rw[Nat.div_lt_iff_lt_mul hs0,←h.1];exact hq
 refine hR _ _ (h.2 (q / size) _ (List.getElem?_eq_getElem sZ)) _ ?_;rw[List.mem_iff_getElem?];refine⟨q%size,?_⟩;rw[List.getElem?_take,if_pos (Nat.mod_lt _ hs0),List.getElem?_drop,Nat.mul_comm,Nat.div_add_mod,List.getElem?_eq_getElem hq]
end Kd
end Go.Proofs.YtjmdfghljlmfmaaGreatW.PrintWords
namespace Go.Proofs.YtjmdfghljlmfmaaGreatW.PrintWords
open Go.RowKit
section
variable {P:Program}
theorem FE (w:World) (base:Nat) (t ti ty e:TypeId) (i:TypeInfo) (z:Value) (size bytes:Nat) (ht:P.underlying t=some (.slice e)) {k:IntKind} (hti:P.underlying ti=some (.int k)) (hi:P.info? e=some i) (hz:i.zero=some z)
 (hsize:i.size=size) (hby:i.bytes=bytes) (hzs:z.cells.size=size) (hsz:0<size) (hb0:0<bytes)
 (v:Value) (n:Nat) (xs:List Value) (hown:w.ownsRow base e size v n xs) (kx:IntKind) (m:Nat) (h1:∀u∈(Builtin.zeroCells z.cells m).toList,u.oneCell'=true)
 (hbytes:(n+m)*bytes≤140737488355328) (hbase:base≤w.heap.size):
 ∃v' w',(Builtin.append_ #[t,ti] ty #[v,.int kx m]).run P w= .ok v' w'∧w'.ownsRow base e size v' (n+m) (xs++(Builtin.zeroCells z.cells m).toList)∧w.grownBy w' v.ownBlock∧
  (v'.ownBlock=v.ownBlock∨v'.ownBlock=some w.heap.size):=by
 subst hsize
 subst hby
 have hle:n+m≤140737488355328:=Nat.le_trans (Nat.le_mul_of_pos_right _ hb0) hbytes
 have h63:n+m≤maxLen:=by simp only[maxLen];omega
 have hw:IntKind.i64.wrap (m:Int)=m:=by rw[IntKind.wrap_i64];omega
 have hw0:IntKind.i64.wrap 0=0:=by rw[IntKind.wrap_i64];rfl
 have hneg:¬((m:Int)<0):=by omega
 have hmb:m*i.bytes≤140737488355328:=Nat.le_trans (Nat.mul_le_mul_right _ (Nat.le_add_left m n)) hbytes
 have hbig:¬(281474976710656<(m:Int)*(i.bytes:Int)):=by
  rw[←Int.natCast_mul]
  omega
 have hsn:i.size≠0:=by omega
 obtain⟨news,hnews⟩:∃news,news=(Builtin.zeroCells z.cells m).toList:=⟨_,rfl⟩
 rw[←hnews]at h1 ⊢
 have hl:news.length=m*i.size:=by rw[hnews,Array.length_toList,size_zeroCells,hzs]
 have hna:Builtin.zeroCells z.cells m=news.toArray:=by rw[hnews]
 have hlen:(xs++news).length=(n+m)*i.size:=by rw[List.length_append,hown.1,hl,Nat.add_mul]
 have hnil:m=0→news=[]:=fun h=>List.eq_nil_of_length_eq_zero (by rw[hl,h,Nat.zero_mul])
 have grown:∀(old:Nat),old<n+m→∀(row:Option Nat),
  (w.drew.alloc (.cells (xs.toArray++news.toArray++Builtin.zeroCells z.cells (grownCap w (n+m) old e-(n+m))) e)).ownsRow base e i.size
   (.slice (some ⟨w.heap.size,0,none⟩) (n+m) (grownCap w (n+m) old e)) (n+m) (xs++news)∧
  w.grownBy (w.drew.alloc (.cells (xs.toArray++news.toArray++Builtin.zeroCells z.cells (grownCap w (n+m) old e-(n+m))) e)) row:=by
  intro old ho row
  have hge:=grownCap_ge w (n+m) old e
  have hcm:grownCap w (n+m) old e≤maxLen:=grownCap_le_maxLen w (n+m) old e h63
  refine⟨⟨hlen,.inr ⟨w.heap.size,_,_,rfl,hbase,heap_alloc_new w.drew _,hge,hcm,?_,?_⟩⟩,⟨rfl,rfl,rfl,by simp,fun k hk _=>heap_alloc_old w.drew _ hk⟩⟩
  ·simp only[Array.size_append,List.size_toArray,size_zeroCells,hzs,hown.1,hl,←Nat.add_mul]
   congr 1
   omega
  ·simp only[Array.toList_append,List.append_assoc]
   rw[←List.append_assoc,←hlen]
   exact List.take_left
 have runs:∀(A:Option Addr) (cap:Nat),cap<n+m→(Builtin.firstCells i.size n (.slice A n cap)).run P w.drew= .ok xs.toArray w.drew→(Builtin.append_ #[t,ti] ty #[.slice A n cap,.int kx m]).run P w=
  .ok (.slice (some ⟨w.heap.size,0,none⟩) (n+m) (grownCap w (n+m) cap e)) (w.drew.alloc (.cells (xs.toArray++news.toArray++Builtin.zeroCells z.cells (grownCap w (n+m) cap e-(n+m))) e)):=by
  intro A cap hcap hfo
  have hn:¬(n+m≤cap):=by omega
  have h63':¬(9223372036854775807<((n:Int)+(m:Int))):=by omega
  have hfit:=growslice_fits hcap hbytes
  have h48':¬(281474976710656<Builtin.nextslicecap (n+m) cap*i.bytes):=by omega
  by_cases hm:m=0
  ·have hnl:=hnil hm
   subst hm
   rw[hnl]
   simp only[Nat.add_zero]at hn h63' h48' ⊢
   have Cb:¬(9223372036854775807<(n:Int)):=by omega
   simp[Builtin.append_,run_underlying ht,run_underlying hti,sizeOf,typeInfo,zeroValue,hi,hz,asInt,asIntOf,hw0,hn,Cb,h48',Question.forced,hfo,newRow,grownCap]
  ·have hmz:¬(m*i.size=0):=Nat.mul_ne_zero hm hsn
   simp[Builtin.append_,run_underlying ht,run_underlying hti,sizeOf,typeInfo,zeroValue,hi,hz,asInt,asIntOf,hw,hneg,hbig,hn,h63',h48',Question.forced,hfo,newRow,grownCap,hmz,hna]
   congr 2
   apply Array.ext'
   simp[List.append_assoc]
 rcases hown.2 with⟨rfl,rfl⟩|⟨g,cap,cur,rfl,hbg,hg,hnc,hcm,hcs,htake⟩
 ·have hx:xs=[]:=List.eq_nil_of_length_eq_zero (by simpa using hown.1)
  subst hx
  by_cases hm:m=0
  ·have hnl:=hnil hm
   subst hm
   rw[hnl]
   refine⟨.slice none 0 0,w,?_,World.ownsRow_nil w base e i.size,⟨rfl,rfl,rfl,Nat.le_refl _,fun _ _ _=>rfl⟩,Or.inl rfl⟩
   simp[Builtin.append_,run_underlying ht,run_underlying hti,sizeOf,typeInfo,hi,asInt,asIntOf,hw0]
  ·have hgr:=grown 0 (by omega) (Value.ownBlock (.slice none 0 0))
   exact⟨_,_,runs none 0 (by omega) (by simp[Builtin.firstCells]),hgr.1,hgr.2,Or.inr rfl⟩
 ·by_cases hroom:n+m≤cap
  ·have hfit:n*i.size+news.length≤cur.size:=by rw[hl,hcs,←Nat.add_mul];exact Nat.mul_le_mul_right _ hroom
   obtain⟨cur',h3,h4,h5⟩:=wM news (n*i.size) w cur hg hfit
   obtain⟨s1,s2,s3,s4⟩:=wN g news (n*i.size) w
   have hst:=run_storeCells_cells (P:=P) g (n*i.size) news 0 w (fun j hj=>by rw[cell_of_row w g _ cur e (0,0) hg];simp;omega) (fun j _=>au hg _) h1
   simp only[Nat.add_zero]at hst
   refine⟨.slice (some ⟨g,0,none⟩) (n+m) cap,w.setCells g (n*i.size) news,?_,⟨hlen,.inr ⟨g,cap,cur',rfl,hbg,h3,hroom,hcm,by rw[h4,hcs],?_⟩⟩,⟨s1,s2,s3,by rw[s4];exact Nat.le_refl _,fun k _ hk=>wL news _ k (fun e=>hk (by simp[Value.ownBlock,e]))⟩,Or.inl rfl⟩
   ·by_cases hm:m=0
    ·have hnl:=hnil hm
     subst hm
     rw[hnl]at hst ⊢
     simp[Builtin.append_,run_underlying ht,run_underlying hti,sizeOf,typeInfo,hi,asInt,asIntOf,hw0,hnc,add_plain,hst]
    ·have hmz:¬(m*i.size=0):=Nat.mul_ne_zero hm hsn
     simp[Builtin.append_,run_underlying ht,run_underlying hti,sizeOf,typeInfo,zeroValue,hi,hz,asInt,asIntOf,hw,hneg,hbig,hroom,hmz,hna,add_plain,hst]
   ·rw[h5]
    have h6:cur.toList.take (n*i.size)=xs:=htake
    rw[h6,←hlen]
    exact List.take_left
  ·have holds:∀j u,xs[j]? =some u→w.cell? ((⟨g,0,none⟩:Addr).add j)=some u:=hown.cells (g:=g) rfl
   have hgr:=grown cap (by omega) (Value.ownBlock (.slice (some ⟨g,0,none⟩) n cap))
   exact⟨_,_,runs (some ⟨g,0,none⟩) cap (by omega) (run_firstCells_some (P:=P) w.drew i.size n _ n cap xs hown.1 (by simpa using holds)),hgr.1,hgr.2,Or.inr rfl⟩
end
namespace Kd
theorem FD {α:Type} {R:α→List Value→Prop} {z:Value} {size:Nat} {z0:α} (hz:z.cells.size=size) (hs:0<size) (h0:R z0 z.cells.toList) (m:Nat):bn R size (List.replicate m z0) (Builtin.zeroCells z.cells m).toList:=by
 have h:=zG hz hs h0 m;rw[show Builtin.zeroCells z.cells m=madeCells z.cells (m*size) by unfold Builtin.zeroCells madeCells;rw[hz]];exact h
section
variable {P:Program} {ops:Array Oper} {rest:List Oper} {o:Oper} {a:Act} {Q:Exit→Act→World→Prop} {Kc:Act→World→Prop} {α:Type}
theorem Bq (d:Kd α) {W:World} (base:Nat) (t ti ty e:TypeId) (z:Value) (bytes:Nat) (ht:P.underlying t=some (.slice e)) {k:IntKind} (hti:P.underlying ti=some (.int k)) (hinfo:(P.info? e).map (fun i=>(i.zero,i.size,i.bytes))=some (some z,d.sz,bytes)) (hz:z.cells.size=d.sz) (hs0:0<d.sz) (hb0:0<bytes)
 (v:Value) (xs:List α) (z0:α) {ok:Nat→Prop} (hzero:d.M W base (fun _=>False) z0 z.cells.toList) (hfresh:∀k,W.heap.size≤k→ok k) (HO:d.R e W base ok v xs) (kx:IntKind) (n:Int) (h0:0≤n) (hl:(xs.length+n.toNat)*bytes≤140737488355328) (hbase:base≤W.heap.size):
 ∃v1 w1,(Builtin.append_ #[t,ti] ty #[v,.int kx n]).run P W= .ok v1 w1∧d.R e w1 base ok v1 (xs++List.replicate n.toNat z0)∧W.grownBy w1 v.ownBlock∧(v1.ownBlock=v.ownBlock∨∃b,v1.ownBlock=some b∧W.heap.size≤b):=by
 obtain⟨m,rfl⟩:=Int.eq_ofNat_of_zero_le h0;simp only[Int.toNat_natCast]at hl ⊢;obtain⟨i0,hi,hzz⟩:=Option.map_eq_some_iff.1 hinfo;simp only[Prod.mk.injEq]at hzz;obtain⟨hz0,hz1,hz2⟩:=hzz;obtain⟨hok,inner,hown,hr⟩:=HO;have mJ:bn (d.M W base (fun _=>False)) d.sz (List.replicate m z0) (Builtin.zeroCells z.cells m).toList:=FD hz hs0 hzero m;obtain⟨v1,w1,hrun,h2,hg,hat⟩:=FE (P:=P) W base t ti ty e i0 z d.sz bytes ht hti hi hz0 hz1 hz2 hz hs0 hb0 v xs.length inner hown kx m (Fz mJ hs0 (fun _ _ hp=>d.iA (d.fJ hp))) hl hbase;have hat':v1.ownBlock=v.ownBlock∨∃b,v1.ownBlock=some b∧W.heap.size≤b:=by
  rcases hat with hat|hat
  ·exact .inl hat
  ·exact .inr ⟨_,hat,Nat.le_refl _⟩
 have hne:∀k,some k≠v.ownBlock→k<W.heap.size→some k≠v1.ownBlock:=by
  intro k hk hlt;rcases hat' with hat|⟨b,hb,hle⟩
  ·rw[hat];exact hk
  ·rw[hb];intro he;(injection he with he);omega
 have step:∀{q:α} {c:List Value} {o:Nat→Prop},d.M W base o q c→(∀k,o k→ok k∧some k≠v.ownBlock)→d.M w1 base (fun k=>ok k∧some k≠v1.ownBlock) q c:=by
  intro q c o hq ho;have h1:=d.iM (w1:=w1) (fun k hk=>hg.block k hk.2.2.1 (ho k hk.1).2) (d.iL hq);exact d.dQ (fun k hk=>⟨(ho k hk.1).1,hne k (ho k hk.1).2 hk.2.2.1⟩) h1
 refine⟨v1,w1,hrun,⟨fun k hk=>?_,inner++(Builtin.zeroCells z.cells m).toList,by rw[List.length_append,List.length_replicate];exact h2,wJ (hr.jw (fun _ _ hq=>step hq (fun _ hk=>hk))) (mJ.jw (fun _ _ hq=>step hq (fun _ hk=>hk.elim)))⟩,hg,hat'⟩;rcases hat' with hat|⟨b,hb,hle⟩
 ·exact hok k (hat ▸ hk)
 ·rw[hb]at hk;(injection hk with hk);exact hfresh k (by omega)
theorem Bc (d:Kd α) {w0 W:World} (base:Nat) (hgd:o.guard=none) (s x:Operand) (t ti e:TypeId) (z:Value) (bytes:Nat)
 (ho:o.op= .call { callee:=.builtin .append,args:=#[s,x],argTypes:=#[t,ti]})
 (ht:P.underlying t=some (.slice e)) {k:IntKind} (hti:P.underlying ti=some (.int k)) (hinfo:(P.info? e).map (fun i=>(i.zero,i.size,i.bytes))=some (some z,d.sz,bytes)) (hz:z.cells.size=d.sz) (hs0:0<d.sz) (hb0:0<bytes)
 (v:Value) (xs:List α) (z0:α) {kx:IntKind} (n:Int) (ok:Nat→Prop) (hs:a.eval s=v) (hx:a.eval x= .int kx n) (hzero:d.M W base (fun _=>False) z0 z.cells.toList) (hfresh:∀k,W.heap.size≤k→ok k)
 (HO:d.R e W base ok v xs) (h0:0≤n) (HB:Below base w0 W) (hbase:base≤W.heap.size) (hl:(xs.length+n.toNat)*bytes≤140737488355328)
 (h:∀v1 w1,d.R e w1 base ok v1 (xs++List.replicate n.toNat z0)→Below base w0 w1→W.grownBy w1 v.ownBlock→(v1.ownBlock=v.ownBlock∨∃b,v1.ownBlock=some b∧W.heap.size≤b)→wpList P ops Q rest (a.put o.dst v1) w1):
 wpList P ops Q (o::rest) a W:=by
 obtain⟨v1,w1,hr1,h1,hg,hat⟩:=Bq (P:=P) d base t ti o.type e z bytes ht hti hinfo hz hs0 hb0 v xs z0 hzero hfresh HO kx n h0 hl hbase
 refine wpList_plain hgd fun K hK=>?_
 unfold Oper.wp execOp
 simp only[ho,resolve,invoke,builtin,Sem.run_bind,Sem.run_pure,Result.andThen_ok,List.map_toArray,List.map_cons,List.map_nil,hs,hx,hr1]
 exact hK _ _ (h v1 w1 h1 (HB.grown hg hbase (tZ HO)) hg hat)
end
end Kd
end Go.Proofs.YtjmdfghljlmfmaaGreatW.PrintWords
namespace Go.Proofs.YtjmdfghljlmfmaaGreatW.PrintWords
open Go.RowKit
namespace Kd
structure Heap {α:Type} (d:Kd α):Prop where
 K:∀{w w1:World} {x:α} {cs:List Value},(∀k,k<w.heap.size→w1.heap[k]? =w.heap[k]?)→d.K w x cs→d.K w1 x cs
theorem BO {w w1:World} (hb:∀k,k<w.heap.size→w1.heap[k]? =w.heap[k]?) {a:Addr} {v:Value} (h:w.cell? a=some v):w1.cell? a=some v:=by
 have:=hb a.block (World.block_lt_of_cell? w a h);simpa[World.cell?,this]using h
theorem Heap.C {α:Type} {d:Kd α} (hd:Heap d) {w w1:World} {A:Option Addr} {n:Nat} {xs:List α} (hb:∀k,k<w.heap.size→w1.heap[k]? =w.heap[k]?) (h:d.C w A n xs):d.C w1 A n xs:=
 ⟨h.1,h.2.1,fun hn=>by
  obtain⟨ad,e,hc⟩:=h.2.2 hn
  refine⟨ad,e,fun j p hj=>?_⟩
  obtain⟨c,hs,hr,hcell⟩:=hc j p hj
  exact⟨c,hs,hd.K hb hr,fun i u hu=>BO hb (hcell i u hu)⟩⟩
end Kd
end Go.Proofs.YtjmdfghljlmfmaaGreatW.PrintWords
namespace Go.Proofs.YtjmdfghljlmfmaaGreatW.PrintWords
open Go.RowKit
def Kept (w W:World) (S:Nat→Prop):Prop:=w.heap.size≤W.heap.size∧∀i,i<w.heap.size→¬S i→W.heap[i]? =w.heap[i]?
section
variable {w W W2:World} {S S2 S':Nat→Prop}
theorem Kept.refl (w:World) (S:Nat→Prop):Kept w w S:=⟨Nat.le_refl _,fun _ _ _=>rfl⟩
theorem Kept.of_below (h:Below w.heap.size w W) (S:Nat→Prop):Kept w W S:=⟨h.size,fun i hi _=>h.block i hi⟩
theorem Kept.mono (h:Kept w W S) (hs:∀k,S k→S' k):Kept w W S':=⟨h.1,fun i hi hn=>h.2 i hi (fun hk=>hn (hs i hk))⟩
theorem Kept.then_ (h:Kept w W S) (k:Kept W W2 S2) (hs:∀k,S2 k→S k∨w.heap.size≤k):Kept w W2 S:=
 ⟨Nat.le_trans h.1 k.1,fun i hi hn=>(k.2 i (Nat.lt_of_lt_of_le hi h.1) (fun h2=>(hs i h2).elim hn (fun h3=>by omega))).trans (h.2 i hi hn)⟩
theorem Kept.zn {row:Option Nat} (hg:W.grownBy W2 row) (h:Kept w W S) (hr:∀k,row=some k→S k∨w.heap.size≤k):Kept w W2 S:=
 h.then_ (S2:=fun k=>row=some k) ⟨hg.size,fun i hi hn=>hg.block i hi (fun he=>hn he.symm)⟩ hr
theorem Kept.below (h:Kept w W S) (hb:Below W.heap.size W W2):Kept w W2 S:=h.then_ (Kept.of_below hb (fun _=>False)) (fun _ hk=>hk.elim)
theorem Kept.alloc (h:Kept w W S) (o:Obj):Kept w (W.alloc o) S:=h.below (jh (Below.refl _ _) o)
theorem Kept.drew (h:Kept w W S):Kept w W.drew S:=h
theorem Kept.drewN (h:Kept w W S) (m:Nat):Kept w (W.drewN m) S:=h
theorem Kept.setCell (h:Kept w W S) {p:Addr} (hp:S p.block∨w.heap.size≤p.block) (u:Value):Kept w (W.setCell p u) S:=
 h.then_ (S2:=fun k=>k=p.block) ⟨by simp[World.setCell],fun i _ hn=>Below.heap_setCell W p u i hn⟩ (fun k hk=>by rw[hk];exact hp)
theorem rA {g:Nat} {o:Obj} (hb:W.heap[g]? =some o) (hk:Kept W W2 S) (hne:¬S g):W2.heap[g]? =some o:=(hk.2 g (aZ hb) hne).trans hb
end
end Go.Proofs.YtjmdfghljlmfmaaGreatW.PrintWords
namespace Go.Proofs.YtjmdfghljlmfmaaGreatW.PrintWords
open Go.RowKit
def jo (P:World→Prop) (W:World) (ok:Nat→Prop):Prop:=∀W':World,(∀k,ok k→k<W.heap.size→W'.heap[k]? =W.heap[k]?)→P W'
theorem Cc {W W1:World} {k:Nat} (h:W1.heap[k]? =W.heap[k]?) (hlt:k<W.heap.size):k<W1.heap.size:=by
 rw[Array.getElem?_eq_getElem hlt]at h;exact(Array.getElem?_eq_some_iff.1 h).1
namespace jo
variable {P Q:World→Prop} {W W1:World} {ok ok':Nat→Prop}
theorem now (h:jo P W ok):P W:=h W (fun _ _ _=>rfl)
theorem mono (h:jo P W ok) (hok:∀k,ok k→ok' k):jo P W ok':=fun W' hW=>h W' (fun k hk hlt=>hW k (hok k hk) hlt)
theorem bound (h:jo P W ok):jo P W (fun k=>ok k∧k<W.heap.size):=fun W' hW=>h W' (fun k hk hlt=>hW k ⟨hk,hlt⟩ hlt)
theorem step (h:jo P W ok) (hm:∀k,ok k→k<W.heap.size→W1.heap[k]? =W.heap[k]?):jo P W1 ok:=fun W' hW=>h W' (fun k hk hlt=>(hW k hk (Cc (hm k hk hlt) hlt)).trans (hm k hk hlt))
theorem old (h:jo P W ok) (hb:Below W.heap.size W W1):jo P W1 (fun k=>ok k∧k<W.heap.size):=(h.bound).step (fun k _ hlt=>hb.block k hlt)
end jo
namespace Kd
def F {α:Type} (d:Kd α) (W:World) (ok:Nat→Prop) (A:Option Addr) (n:Nat) (xs:List α):Prop:=jo (fun W=>d.C W A n xs) W ok
def FK {α:Type} (d:Kd α) (W:World) (ok:Nat→Prop) (x:α) (c:List Value):Prop:=jo (fun W=>d.K W x c) W ok
section
variable {α β:Type} {d:Kd α} {e base n n' cc g N:Nat} {ok ok' bH S:Nat→Prop} {w w0 w1 W W1:World} {A A':Option Addr} {u v v1:Value} {xs:List α} {xs':List β} {d':Kd β} {x:α} {c:List Value}
theorem AL (h:F d W ok A n xs):d.C W A n xs:=jo.now h
theorem wX (h:F d W ok A n xs) (hok:∀k,ok k→ok' k):F d W ok' A n xs:=jo.mono h hok
theorem AO (h:F d W ok A n xs) (hm:∀k,ok k→k<W.heap.size→W1.heap[k]? =W.heap[k]?):F d W1 ok A n xs:=jo.step h hm
theorem vB (h:F d W ok A n xs) (hb:Below W.heap.size W W1):F d W1 ok A n xs:=AO h (fun k _ hlt=>hb.block k hlt)
theorem Av (h:F d W ok A n xs) (o:Obj):F d (W.alloc o) ok A n xs:=vB h (jh (Below.refl _ _) o)
theorem Aw (h:F d W ok A n xs):F d W.drew ok A n xs:=vB h (sU (Below.refl _ _))
theorem AA (h:F d W ok A n xs) (m:Nat):F d (W.drewN m) ok A n xs:=vB h (nY (Below.refl _ _) m)
theorem AJ (d:Kd α) (W:World) (ok:Nat→Prop):F d W ok none ([]:List α).length []:=fun W' _=>wT d W'
theorem AB (h:F d W ok A n xs) (hbase:∀k,v.ownBlock=some k→W.heap.size≤k) (hb:Below W.heap.size W W1):F d W1 (fun k=>ok k∧some k≠v.ownBlock) A n xs:=
 wX (jo.old h hb) (fun k hk=>⟨hk.1,fun he=>by have:=hbase k he.symm;have:=hk.2;omega⟩)
theorem oM (h:d.R e W base ok (.slice A n cc) xs):F d W ok A n xs:=fun W' hW=>by
 have h2:=mF (qA h hW)
 rw[h2.1]
 exact h2.2.2
theorem nK (h:FK d W ok x c):d.K W x c:=jo.now h
theorem vw (h:FK d W ok x c) (hok:∀k,ok k→ok' k):FK d W ok' x c:=jo.mono h hok
theorem wV (h:FK d W ok x c):FK d W (fun k=>ok k∧k<W.heap.size) x c:=jo.bound h
theorem wW (h:FK d W ok x c) (hm:∀k,ok k→k<W.heap.size→W1.heap[k]? =W.heap[k]?):FK d W1 ok x c:=jo.step h hm
theorem Au (h:d.M W base ok x c):FK d W ok x c:=fun _ hW=>d.fJ (vD h hW)
end
end Kd
end Go.Proofs.YtjmdfghljlmfmaaGreatW.PrintWords
namespace Go.Proofs.YtjmdfghljlmfmaaGreatW.PrintWords
open Go.RowKit
namespace Kd
def chunks (sz:Nat) (n:Nat) (inner:List Value):List (List Value):=(List.range n).map fun j=>(inner.drop (j*sz)).take sz
theorem oZ (sz n:Nat) (inner:List Value):(chunks sz n inner).length=n:=by simp[chunks]
theorem BP {sz n:Nat} {inner:List Value} {j:Nat} (hj:j<n):(chunks sz n inner)[j]? =some ((inner.drop (j*sz)).take sz):=by simp[chunks,hj]
theorem vR {sz n:Nat} {inner:List Value} {j:Nat} {c:List Value} (h:(chunks sz n inner)[j]? =some c):c=(inner.drop (j*sz)).take sz:=by
 have hj:j<n:=by have:=(List.getElem?_eq_some_iff.1 h).1;rwa [oZ]at this
 rw[BP hj]at h;injection h with h
 exact h.symm
theorem zH {α:Type} {Rr:α→List Value→Prop} {sz:Nat} {xs:List α} {inner:List Value} (h:bn Rr sz xs inner) (hR:∀x c,Rr x c→c.length=sz∧∀u∈c,u.oneCell'=true):bn (fun x cs=>cs=x∧cs.length=sz∧∀u∈cs,u.oneCell'=true) sz (chunks sz xs.length inner) inner:=by
 refine⟨by rw[oZ];exact h.1,fun j p hj=>?_⟩;have hjl:j<xs.length:=by have:=(List.getElem?_eq_some_iff.1 hj).1;rwa [oZ]at this
 have hp:=vR hj;exact⟨hp.symm,hR _ _ (h.2 j _ (List.getElem?_eq_getElem hjl))⟩
section
variable {α:Type} {d:Kd α} {e base n cc g:Nat} {ok ok' bH S:Nat→Prop} {w w1 W W1:World} {A:Option Addr} {u v v1:Value} {xs:List α} {x:α} {c:List Value}
def N {α:Type} (d:Kd α) (e:Nat) (w:World) (base:Nat) (ok:Nat→Prop) (v:Value) (xs:List α):Prop:=
 (∀k,v.ownBlock=some k→ok k)∧∃rows:List (List Value),rows.length=xs.length∧(raw d.sz).R e w base (fun k=>some k=v.ownBlock) v rows∧∀(j:Nat) (x:α) (c:List Value),xs[j]? =some x→rows[j]? =some c→FK d w (fun k=>ok k∧some k≠v.ownBlock) x c
theorem Fw {sz:Nat} {rows:List (List Value)} (h:(raw sz).R e w base ok v rows):(raw sz).R e w base (fun k=>some k=v.ownBlock) v rows:=kI rfl h
theorem Bb (h:d.R e w base ok v xs):N d e w base ok v xs:=by
 obtain⟨h0,inner,ho,hr⟩:=h;refine⟨h0,chunks d.sz xs.length inner,oZ _ _ _,⟨fun k hk=>hk.symm,inner,by rw[oZ];exact ho,zH hr (fun x c hp=>⟨d.iW (d.fJ hp),d.iA (d.fJ hp)⟩)⟩,fun j x c hx hc=>?_⟩;rw[vR hc];exact Au (hr.2 j x hx)
theorem mq (d:Kd α) (e:Nat) (w:World) (base:Nat) (ok:Nat→Prop):N d e w base ok (.slice none 0 0) []:=Bb (jQ _ _ _ _ _)
theorem AY (h:N d e w base ok v xs) (hok:∀k,ok k→ok' k):N d e w base ok' v xs:=by
 obtain⟨h0,rows,hl,hR,hf⟩:=h;exact⟨fun k hk=>hok k (h0 k hk),rows,hl,hR,fun j x c hx hc=>vw (hf j x c hx hc) (fun k hk=>⟨hok k hk.1,hk.2⟩)⟩
theorem AV (h:N d e w base ok v xs):∀k,v.ownBlock=some k→k<w.heap.size:=by
 obtain⟨_,rows,_,hR,_⟩:=h;exact cO hR
theorem AU (h:N d e w base ok v xs):N d e w base (fun k=>ok k∧k<w.heap.size) v xs:=by
 have hlt:=AV h;obtain⟨h0,rows,hl,hR,hf⟩:=h;exact⟨fun k hk=>⟨h0 k hk,hlt k hk⟩,rows,hl,hR,fun j x c hx hc=>vw (wV (hf j x c hx hc)) (fun k hk=>⟨⟨hk.1.1,hk.2⟩,hk.1.2⟩)⟩
theorem xw {base':Nat} (h:N d e w base ok v xs) (hb:base'≤base):N d e w base' ok v xs:=by
 obtain⟨h0,rows,hl,hR,hf⟩:=h;exact⟨h0,rows,hl,sK hR hb,hf⟩
theorem AZ (h:N d e w base ok v xs) (hm:∀k,ok k→k<w.heap.size→w1.heap[k]? =w.heap[k]?):N d e w1 base ok v xs:=by
 obtain⟨h0,rows,hl,hR,hf⟩:=h;exact⟨h0,rows,hl,qA hR (fun k hk hlt=>hm k (h0 k hk.symm) hlt),fun j x c hx hc=>wW (hf j x c hx hc) (fun k hk hlt=>hm k hk.1 hlt)⟩
theorem tX (h:N d e w base ok v xs) (hb:Below w.heap.size w w1):N d e w1 base ok v xs:=AZ h (fun k _ hk=>hb.block k hk)
theorem wZ (h:N d e w base ok v xs) (o:Obj):N d e (w.alloc o) base ok v xs:=tX h (jh (Below.refl _ _) o)
theorem xg (h:N d e w base ok v xs):N d e w.drew base ok v xs:=tX h (sU (Below.refl _ _))
theorem xk (h:N d e w base ok v xs) (m:Nat):N d e (w.drewN m) base ok v xs:=tX h (nY (Below.refl _ _) m)
theorem xq (h:N d e W base ok v xs) (hbase:∀k,u.ownBlock=some k→W.heap.size≤k) (hb:Below W.heap.size W w1):N d e w1 base (fun k=>ok k∧some k≠u.ownBlock) v xs:=
 AY (tX (AU h) hb) (fun k hk=>⟨hk.1,fun he=>by have:=hbase k he.symm;have:=hk.2;omega⟩)
theorem xA (h:N d e w base ok v xs):∃A c,v= .slice A xs.length c:=by
 obtain⟨_,rows,hl,hR,_⟩:=h;obtain⟨A,c,he⟩:=sN hR;exact⟨A,c,by rw[he,hl]⟩
theorem tY {n c:Nat} (h:N d e w base ok (.slice A n c) xs):n=xs.length∧n≤c∧d.C w A xs.length xs:=by
 obtain⟨_,rows,hl,hR,hf⟩:=h;obtain⟨hn,hc,hC⟩:=mF hR;refine⟨by omega,hc,?_⟩;rw[hl]at hC;refine⟨rfl,hC.2.1,fun hp=>?_⟩;obtain⟨ad,he,hcell⟩:=hC.2.2 hp;refine⟨ad,he,fun j p hj=>?_⟩;have hjl:j<rows.length:=by have:=(List.getElem?_eq_some_iff.1 hj).1;omega
 obtain⟨c',hcl,hK,hcc⟩:=hcell j _ (List.getElem?_eq_getElem hjl);have hk:=nK (hf j p _ hj (List.getElem?_eq_getElem hjl));refine⟨c',hcl,?_,hcc⟩;rw[show c'=rows[j]from hK.1];exact hk
end
end Kd
end Go.Proofs.YtjmdfghljlmfmaaGreatW.PrintWords
namespace Go.Proofs.YtjmdfghljlmfmaaGreatW.PrintWords
theorem bn.one {α:Type} {R:α→List Value→Prop} {ps:List α} {cs:List Value} {p:α} {v:Value} (hp:R p [v]) (h:bn R 1 ps cs):bn R 1 (p::ps) (v::cs):=by
 refine⟨by simp[h.1],fun j q hq=>?_⟩;cases j with
 |zero=>simp only[List.getElem?_cons_zero,Option.some.injEq]at hq;subst hq;simpa using hp
 |succ j=>simp only[List.getElem?_cons_succ]at hq;have h1:=h.2 j q hq;simpa[Nat.mul_one]using h1
theorem bn.front {α:Type} {R:α→List Value→Prop} {size:Nat} {ps:List α} {cs c all:List Value} {p:α} (hp:R p c) (hc:c.length=size) (h:bn R size ps cs) (ha:c++cs=all):bn R size (p::ps) all:=by
 subst ha;refine⟨by rw[List.length_append,hc,h.1,List.length_cons,Nat.succ_mul,Nat.add_comm],fun j q hq=>?_⟩;cases j with
 |zero=>simp only[List.getElem?_cons_zero,Option.some.injEq]at hq;subst hq;rw[Nat.zero_mul,List.drop_zero,List.take_append_of_le_length (by omega),List.take_of_length_le (by omega)];exact hp
 |succ j=>simp only[List.getElem?_cons_succ]at hq;have h1:=h.2 j q hq;rw[Nat.succ_mul,List.drop_append,List.drop_of_length_le (by rw[hc];exact Nat.le_add_left _ _),List.nil_append,hc,Nat.add_sub_cancel];exact h1
theorem bn.c2 {α:Type} {R:α→List Value→Prop} {ps:List α} {cs:List Value} {p:α} {va vb:Value} (hp:R p [va,vb]) (h:bn R 2 ps cs):bn R 2 (p::ps) (va::vb::cs):=bn.front hp rfl h rfl
theorem bn.c3 {α:Type} {R:α→List Value→Prop} {ps:List α} {cs:List Value} {p:α} {va vb vc:Value} (hp:R p [va,vb,vc]) (h:bn R 3 ps cs):bn R 3 (p::ps) (va::vb::vc::cs):=bn.front hp rfl h rfl
theorem bn.c4 {α:Type} {R:α→List Value→Prop} {ps:List α} {cs:List Value} {p:α} {va vb vc vd:Value} (hp:R p [va,vb,vc,vd]) (h:bn R 4 ps cs):bn R 4 (p::ps) (va::vb::vc::vd::cs):=bn.front hp rfl h rfl
theorem bn.c5 {α:Type} {R:α→List Value→Prop} {ps:List α} {cs:List Value} {p:α} {va vb vc vd ve:Value} (hp:R p [va,vb,vc,vd,ve]) (h:bn R 5 ps cs):bn R 5 (p::ps) (va::vb::vc::vd::ve::cs):=bn.front hp rfl h rfl
theorem bn.c6 {α:Type} {R:α→List Value→Prop} {ps:List α} {cs:List Value} {p:α} {va vb vc vd ve vf:Value} (hp:R p [va,vb,vc,vd,ve,vf]) (h:bn R 6 ps cs):bn R 6 (p::ps) (va::vb::vc::vd::ve::vf::cs):=bn.front hp rfl h rfl
theorem bn.c7 {α:Type} {R:α→List Value→Prop} {ps:List α} {cs:List Value} {p:α} {va vb vc vd ve vf vg:Value} (hp:R p [va,vb,vc,vd,ve,vf,vg]) (h:bn R 7 ps cs):bn R 7 (p::ps) (va::vb::vc::vd::ve::vf::vg::cs):=bn.front hp rfl h rfl
theorem bn.c8 {α:Type} {R:α→List Value→Prop} {ps:List α} {cs:List Value} {p:α} {va vb vc vd ve vf vg vh:Value} (hp:R p [va,vb,vc,vd,ve,vf,vg,vh]) (h:bn R 8 ps cs):bn R 8 (p::ps) (va::vb::vc::vd::ve::vf::vg::vh::cs):=bn.front hp rfl h rfl
theorem bn.c9 {α:Type} {R:α→List Value→Prop} {ps:List α} {cs:List Value} {p:α} {va vb vc vd ve vf vg vh vi:Value} (hp:R p [va,vb,vc,vd,ve,vf,vg,vh,vi]) (h:bn R 9 ps cs):bn R 9 (p::ps) (va::vb::vc::vd::ve::vf::vg::vh::vi::cs):=bn.front hp rfl h rfl
theorem bn.c10 {α:Type} {R:α→List Value→Prop} {ps:List α} {cs:List Value} {p:α} {va vb vc vd ve vf vg vh vi vj:Value} (hp:R p [va,vb,vc,vd,ve,vf,vg,vh,vi,vj]) (h:bn R 10 ps cs):bn R 10 (p::ps) (va::vb::vc::vd::ve::vf::vg::vh::vi::vj::cs):=bn.front hp rfl h rfl
end Go.Proofs.YtjmdfghljlmfmaaGreatW.PrintWords
namespace Go.Proofs.YtjmdfghljlmfmaaGreatW.PrintWords
open Go.RowKit
section
variable {P:Program} {ops:Array Oper} {rest:List Oper} {o:Oper} {a:Act} {Q:Exit→Act→World→Prop} {W:World}
theorem oC (hw:Region.wanted o (yielded ops a.tmps)=true) (h:wpList P ops Q ({ o with guard:=none}::rest) a W):wpList P ops Q (o::rest) a W:=by
 have h1:Region.wanted { o with guard:=none} (yielded ops a.tmps)=true:=rfl;unfold wpList at h ⊢;rw[if_pos h1]at h;rw[if_pos hw];exact h
end
end Go.Proofs.YtjmdfghljlmfmaaGreatW.PrintWords
namespace Go.Proofs.YtjmdfghljlmfmaaGreatW.PrintWords
open Go.RowKit
namespace Kd
section
variable {α:Type} {d:Kd α} {e base n cap g:Nat} {ok ok' bH:Nat→Prop} {w w1 W:World} {v v1:Value} {xs ys:List α}
theorem AX {rows:List (List Value)} (hR:(raw d.sz).R e w1 base (fun k=>k=W.heap.size) v1 rows) (hg:W.grownBy w1 none) (hat:∃b,v1.ownBlock=some b∧W.heap.size≤b) (hl:rows.length=xs.length) (hf:∀(j:Nat) (x:α) (c:List Value),xs[j]? =some x→rows[j]? =some c→FK d W bH x c)
 (hok:∀k,bH k→ok k) (hfresh:ok W.heap.size):N d e w1 base ok v1 xs:=by
 obtain⟨b,hb,hle⟩:=hat;refine⟨fun k hk=>by rw[hR.1 k hk];exact hfresh,rows,hl,Fw hR,fun j x c hx hc=>?_⟩;refine vw (wW (wV (hf j x c hx hc)) (fun k hk hlt=>hg.block k hlt (by simp))) (fun k hk=>⟨hok k hk.1,fun he=>?_⟩);rw[hb]at he;injection he with he
 have:=hk.2;omega
end
section
variable {P:Program} {ops:Array Oper} {rest:List Oper} {o:Oper} {a:Act} {Q:Exit→Act→World→Prop} {Kc:Act→World→Prop} {α:Type}
theorem xu (d:Kd α) {w0 W:World} (base e:Nat) (hw:Region.wanted o (yielded ops a.tmps)=true) {N':Tmp} (ru:o.dst=some N') {xs:List α} {inner:List Value} {ok bH:Nat→Prop}
 (hrun:(execOp a.eval o).run P W= .ok (.value (.slice (some ⟨W.heap.size,0,none⟩) xs.length xs.length)) (W.alloc (.cells inner.toArray e)))
 (hrep:bn (FK d W bH) d.sz xs inner) (hok:∀k,bH k→ok k) (hfresh:ok W.heap.size) (HB:Below base w0 W) (hbase:base≤W.heap.size) (hm:xs.length≤9223372036854775807)
 (h:∀v1 w1,N d e w1 base ok v1 xs→Below base w0 w1→W.grownBy w1 none→(∃b,v1.ownBlock=some b∧W.heap.size≤b)→Kc (a.put o.dst v1) w1):
 if Region.wanted o (yielded ops a.tmps)=true then Oper.wp P o a W Kc Q else Kc (a.put o.dst undef) W:=by
 refine ug (raw d.sz) base e hw ru (xs:=chunks d.sz xs.length inner) (inner:=inner) (ok:=fun k=>k=W.heap.size) (bH:=fun _=>False) (by rw[oZ];exact hrun) (zH hrep (fun y c hk=>⟨d.iW (nK hk),d.iA (nK hk)⟩)) (fun _ hk=>hk.elim) rfl HB hbase (by rw[oZ];exact hm) ?_
 intro v1 w1 hr hb hg hat
 exact h v1 w1 (AX hr hg hat (oZ _ _ _) (fun j y c hy hc=>by rw[vR hc];exact hrep.2 j y hy) hok hfresh) hb hg hat
end
end Kd
end Go.Proofs.YtjmdfghljlmfmaaGreatW.PrintWords
namespace Go.Proofs.YtjmdfghljlmfmaaGreatW.PrintMore
open Go.RowKit Go.Proofs.YtjmdfghljlmfmaaGreatW.PrintWords
namespace Kd
open Go.Proofs.YtjmdfghljlmfmaaGreatW.PrintWords.Kd
section
variable {α:Type} {d:Kd α} {e base g N:Nat} {ok:Nat→Prop} {W w1:World} {u v:Value} {xs:List α}
theorem Bh (hu:d.R e W base ok u xs) (hb:Below W.heap.size W w1):d.R e w1 base (fun k=>ok k∧k<W.heap.size) u xs:=
 bC (dW (kY hu) hb) (fun _ h=>⟨h.1,h.2.2.1⟩)
theorem xG (h:d.R e w1 base (fun k=>ok k∧k<N) u xs) (hbase:∀k,v.ownBlock=some k→N≤k):d.R e w1 base (fun k=>(ok k∧some k≠v.ownBlock)∧k<N) u xs:=
 bC h (fun k hk=>⟨⟨hk.1,fun e=>Nat.lt_irrefl _ (Nat.lt_of_lt_of_le hk.2 (hbase k e.symm))⟩,hk.2⟩)
end
end Kd
theorem iC (k k':IntKind) (x y:Int):Builtin.max2 (.int k x) (.int k' y)=pure (.int k (if x<y then y else x)):=by simp only[Builtin.max2,gt_iff_lt]
theorem iG (k k':IntKind) (x y:Int):Builtin.min2 (.int k x) (.int k' y)=pure (.int k (if y<x then y else x)):=by simp only[Builtin.min2]
theorem iF (ats:Array TypeId) (ty:TypeId) (a b:Value):Builtin.max_ ats ty #[a,b]=(Builtin.max2 a b>>=fun s=>pure s):=by simp only[Builtin.max_,List.foldlM_cons,List.foldlM_nil]
theorem iJ (ats:Array TypeId) (ty:TypeId) (a b:Value):Builtin.min_ ats ty #[a,b]=(Builtin.min2 a b>>=fun s=>pure s):=by simp only[Builtin.min_,List.foldlM_cons,List.foldlM_nil]
theorem iE (ats:Array TypeId) (ty:TypeId) (a b c:Value):Builtin.max_ ats ty #[a,b,c]=(Builtin.max2 a b>>=fun s=>Builtin.max2 s c>>=fun s=>pure s):=by simp only[Builtin.max_,List.foldlM_cons,List.foldlM_nil]
theorem iI (ats:Array TypeId) (ty:TypeId) (a b c:Value):Builtin.min_ ats ty #[a,b,c]=(Builtin.min2 a b>>=fun s=>Builtin.min2 s c>>=fun s=>pure s):=by simp only[Builtin.min_,List.foldlM_cons,List.foldlM_nil]
theorem iD (ats:Array TypeId) (ty:TypeId) (a b c d:Value):Builtin.max_ ats ty #[a,b,c,d]=(Builtin.max2 a b>>=fun s=>Builtin.max2 s c>>=fun s=>Builtin.max2 s d>>=fun s=>pure s):=by simp only[Builtin.max_,List.foldlM_cons,List.foldlM_nil]
theorem iH (ats:Array TypeId) (ty:TypeId) (a b c d:Value):Builtin.min_ ats ty #[a,b,c,d]=(Builtin.min2 a b>>=fun s=>Builtin.min2 s c>>=fun s=>Builtin.min2 s d>>=fun s=>pure s):=by simp only[Builtin.min_,List.foldlM_cons,List.foldlM_nil]
end Go.Proofs.YtjmdfghljlmfmaaGreatW.PrintMore
namespace Go.Proofs.YtjmdfghljlmfmaaGreatW.PrintWords
open Go.RowKit
section
variable {P:Program} {ops:Array Oper} {rest:List Oper} {o:Oper} {a:Act} {Q:Exit→Act→World→Prop} {W:World}
theorem yu {f:FuncId} {as:Array Operand} {ts:Array TypeId} (uy:o.op= .call { callee:=.value (.func f),args:=as,argTypes:=ts}) (h:wpList P ops Q (o::rest) a W):wpList P ops Q (o::rest) a W:=h
theorem yt {b:Builtin} {xs:Array Operand} {ts:Array TypeId} (uy:o.op= .call { callee:=.builtin b,args:=xs,argTypes:=ts}) (h:wpList P ops Q (o::rest) a W):wpList P ops Q (o::rest) a W:=h
end
def shl (k:IntKind) (x y:Int):Int:=k.wrap (x*2 ^ min y.toNat k.bits)
theorem wP {k:IntKind} {x y j:Int} (h:shl k x y=j) (hy:y≤k.bits):k.wrap (x*2 ^ y.toNat)=j:=by rw[←h];unfold shl;rw[Nat.min_eq_left (by omega)]
theorem uE (w:World) (n:Nat):w.drewN n=w.drewN n:=rfl
end Go.Proofs.YtjmdfghljlmfmaaGreatW.PrintWords
namespace Go.Proofs.YtjmdfghljlmfmaaGreatW.PrintWords
open Go.RowKit
namespace Kd
def V {α:Type} (d:Kd α) (_e:Nat) (W:World) (_base:Nat) (ok:Nat→Prop) (v:Value) (xs:List α):Prop:=∃A c,v= .slice A xs.length c∧xs.length≤c∧F d W ok A xs.length xs
section
variable {α β:Type} {d:Kd α} {e base base' n m c g N' lo hi:Nat} {ok ok' S:Nat→Prop} {w W w1:World} {A:Option Addr} {ad:Addr} {u v v1:Value} {xs:List α}
theorem sP (h:V d e W base ok v xs) (hF:∀A,F d W ok A xs.length xs→F d w1 ok' A xs.length xs):V d e w1 base' ok' v xs:=by
 obtain⟨A,c,hv,hl,hf⟩:=h;exact⟨A,c,hv,hl,hF A hf⟩
theorem oV (h:V d e W base ok v xs):∃A c,v= .slice A xs.length c:=by
 obtain⟨A,c,hv,_⟩:=h;exact⟨A,c,hv⟩
theorem vN (h:V d e W base ok (.slice A n c) xs):n=xs.length∧n≤c∧F d W ok A xs.length xs:=by
 obtain⟨A',c',hv,hl,hf⟩:=h;injection hv with ha hn hc
 subst ha;subst hc;exact⟨hn,by rw[hn];exact hl,hf⟩
theorem eZ (h:V d e W base ok (.slice A n c) xs):n=xs.length∧n≤c∧d.C W A xs.length xs:=⟨(vN h).1,(vN h).2.1,AL (vN h).2.2⟩
theorem mG (d:Kd α) (e:Nat) (W:World) (base:Nat) (ok:Nat→Prop):V d e W base ok (.slice none 0 0) []:=⟨none,0,rfl,Nat.le_refl _,AJ d W ok⟩
theorem nL (h:d.R e W base ok v xs):V d e W base' ok v xs:=by
 obtain⟨A,c,rfl⟩:=sN h;exact⟨A,c,rfl,(mF h).2.1,oM h⟩
theorem oU (h:V d e W base ok v xs) (hok:∀k,ok k→ok' k):V d e W base ok' v xs:=sP h (fun _ hf=>wX hf hok)
theorem nP (h:V d e W base ok v xs) (o:Obj):V d e (W.alloc o) base ok v xs:=sP h (fun _ hf=>Av hf o)
theorem nQ (h:V d e W base ok v xs):V d e W.drew base ok v xs:=sP h (fun _ hf=>Aw hf)
theorem nR (h:V d e W base ok v xs) (m:Nat):V d e (W.drewN m) base ok v xs:=sP h (fun _ hf=>AA hf m)
theorem oQ (h:V d e W base ok v xs) (hbase:∀k,u.ownBlock=some k→W.heap.size≤k) (hb:Below W.heap.size W w1):V d e w1 base (fun k=>ok k∧some k≠u.ownBlock) v xs:=sP h (fun _ hf=>AB hf hbase hb)
theorem qx {l:List α} (hl:l.length≤c) (hf:F d W ok A l.length l):FK (Kd.slice e d) W ok l [.slice A l.length c]:=fun W' hW=>⟨A,c,rfl,hl,hf W' hW⟩
theorem oO {M:Nat→Prop} (h:d.R e w1 W.heap.size ok v xs) (hle:w.heap.size≤W.heap.size) (hM:∀k,w.heap.size≤k→M k):d.R e w1 W.heap.size (fun k=>M k∧ok k) v xs:=bC (kY h) (fun k hk=>⟨hM k (Nat.le_trans hle hk.2.1),hk.1⟩)
end
end Kd
end Go.Proofs.YtjmdfghljlmfmaaGreatW.PrintWords
namespace Go.Proofs.YtjmdfghljlmfmaaGreatW.PrintLast
open Go.RowKit Go.Proofs.YtjmdfghljlmfmaaGreatW.PrintWords
theorem pB {B:Nat} {w W:World} (h:Below B w W:=by repeat(first|(with_reducible first|exact HB.out|apply jh|apply nY|apply gH|refine ku ?_ (ay.out (by with_reducible assumption)))|exact HB.out)):Below B w W:=h
theorem pT {α:Type} {d:Kd α} {e:Nat} {w w1:World} {base:Nat} {ok:Nat→Prop} {v:Value} {xs:List α} (H:d.R e w base ok v xs) (b:Below w.heap.size w w1:=by repeat(first|(with_reducible first|exact Below.refl _ _|apply jh|apply nY|apply gH)|exact Below.refl _ _)):d.R e w1 base ok v xs:=Kd.dW H b
theorem pR {α:Type} {d:Kd α} {e:Nat} {w w1:World} {base:Nat} {ok:Nat→Prop} {v:Value} {xs:List α} (H:ay (d.R e w base ok v xs)) (b:Below w.heap.size w w1:=by repeat(first|(with_reducible first|exact Below.refl _ _|apply jh|apply nY|apply gH)|exact Below.refl _ _)):d.R e w1 base ok v xs:=Kd.dW H.out b
theorem pK {w w1:World} {g:Nat} {o:Obj} (H:ay (w.heap[g]? =some o)) (b:Below w.heap.size w w1:=by repeat(first|(with_reducible first|exact Below.refl _ _|apply jh|apply nY|apply gH)|exact Below.refl _ _)):w1.heap[g]? =some o:=aQ H.out b
theorem pC {α:Type} {d:Kd α} {w w1:World} {A:Option Addr} {n:Nat} {xs:List α} (H:d.C w A n xs) (b:Below w.heap.size w w1:=by repeat(first|(with_reducible first|exact Below.refl _ _|apply jh|apply nY|apply gH)|exact Below.refl _ _)):d.C w1 A n xs:=Kd.aY H b
theorem pA {α:Type} {a b:α} (h:a=b:=by(try simp only[List.map_toArray,List.map_cons,List.map_nil]);first|done|rfl|(simp only[List.length_drop,List.length_take];rfl)):a=b:=h
theorem pD {p:Prop} [Decidable p] (h:decide p=true:=by first|(with_reducible assumption)|assumption):p:=of_decide_eq_true h
theorem pW {w w':World} (h:bX w w':=by repeat(first|exact bX.refl _|apply bX.step)):bX w w':=h
theorem cb {w w1:World} (H:ay (Below w.heap.size w w1)) {a:Addr} {v:Value} (hc:w.cell? a=some v):w1.cell? a=some v:=uO H.out hc
theorem pE {α:Type} {a b:α} (h:a=b:=by first|rfl|(simp[pq,pz]<;>rfl)|(simp[*,pq,pz]<;>rfl)):a=b:=h
theorem pF {α:Type} {a b:α} (h:a=b:=by first|rfl|(simp;done)|(simp[*];done)):a=b:=h
theorem am {p:Prop} (h:p):ay p:=⟨h⟩
theorem t2 {p q:Prop} (a:p) (b:q):ay p∧ay q:=⟨⟨a⟩,⟨b⟩⟩
theorem t3 {p q r:Prop} (a:p) (b:q) (c:r):ay p∧ay q∧ay r:=⟨⟨a⟩,⟨b⟩,⟨c⟩⟩
theorem t4 {p q r s:Prop} (a:p) (b:q) (c:r) (d:s):ay p∧ay q∧ay r∧ay s:=⟨⟨a⟩,⟨b⟩,⟨c⟩,⟨d⟩⟩
theorem t5 {p q r s t:Prop} (a:p) (b:q) (c:r) (d:s) (e:t):ay p∧ay q∧ay r∧ay s∧ay t:=⟨⟨a⟩,⟨b⟩,⟨c⟩,⟨d⟩,⟨e⟩⟩
theorem t6 {p q r s t u:Prop} (a:p) (b:q) (c:r) (d:s) (e:t) (f:u):ay p∧ay q∧ay r∧ay s∧ay t∧ay u:=⟨⟨a⟩,⟨b⟩,⟨c⟩,⟨d⟩,⟨e⟩,⟨f⟩⟩
theorem t7 {p q r s t u x:Prop} (a:p) (b:q) (c:r) (d:s) (e:t) (f:u) (g:x):ay p∧ay q∧ay r∧ay s∧ay t∧ay u∧ay x:=⟨⟨a⟩,⟨b⟩,⟨c⟩,⟨d⟩,⟨e⟩,⟨f⟩,⟨g⟩⟩
theorem t8 {p q r s t u x y:Prop} (a:p) (b:q) (c:r) (d:s) (e:t) (f:u) (g:x) (h:y):ay p∧ay q∧ay r∧ay s∧ay t∧ay u∧ay x∧ay y:=⟨⟨a⟩,⟨b⟩,⟨c⟩,⟨d⟩,⟨e⟩,⟨f⟩,⟨g⟩,⟨h⟩⟩
theorem t9 {p q r s t u x y z:Prop} (a:p) (b:q) (c:r) (d:s) (e:t) (f:u) (g:x) (h:y) (i:z):ay p∧ay q∧ay r∧ay s∧ay t∧ay u∧ay x∧ay y∧ay z:=⟨⟨a⟩,⟨b⟩,⟨c⟩,⟨d⟩,⟨e⟩,⟨f⟩,⟨g⟩,⟨h⟩,⟨i⟩⟩
theorem t10 {p q r s t u x y z p1:Prop} (a:p) (b:q) (c:r) (d:s) (e:t) (f:u) (g:x) (h:y) (i:z) (j:p1):ay p∧ay q∧ay r∧ay s∧ay t∧ay u∧ay x∧ay y∧ay z∧ay p1:=⟨⟨a⟩,⟨b⟩,⟨c⟩,⟨d⟩,⟨e⟩,⟨f⟩,⟨g⟩,⟨h⟩,⟨i⟩,⟨j⟩⟩
theorem t11 {p q r s t u x y z p1 p2:Prop} (a:p) (b:q) (c:r) (d:s) (e:t) (f:u) (g:x) (h:y) (i:z) (j:p1) (k:p2):ay p∧ay q∧ay r∧ay s∧ay t∧ay u∧ay x∧ay y∧ay z∧ay p1∧ay p2:=⟨⟨a⟩,⟨b⟩,⟨c⟩,⟨d⟩,⟨e⟩,⟨f⟩,⟨g⟩,⟨h⟩,⟨i⟩,⟨j⟩,⟨k⟩⟩
theorem t12 {p q r s t u x y z p1 p2 p3:Prop} (a:p) (b:q) (c:r) (d:s) (e:t) (f:u) (g:x) (h:y) (i:z) (j:p1) (k:p2) (l:p3):ay p∧ay q∧ay r∧ay s∧ay t∧ay u∧ay x∧ay y∧ay z∧ay p1∧ay p2∧ay p3:=⟨⟨a⟩,⟨b⟩,⟨c⟩,⟨d⟩,⟨e⟩,⟨f⟩,⟨g⟩,⟨h⟩,⟨i⟩,⟨j⟩,⟨k⟩,⟨l⟩⟩
theorem Jg {p q r s t u x y z p1 p2 p3 p4:Prop} (a:p) (b:q) (c:r) (d:s) (e:t) (f:u) (g:x) (h:y) (i:z) (j:p1) (k:p2) (l:p3) (m:p4):ay p∧ay q∧ay r∧ay s∧ay t∧ay u∧ay x∧ay y∧ay z∧ay p1∧ay p2∧ay p3∧ay p4:=⟨⟨a⟩,⟨b⟩,⟨c⟩,⟨d⟩,⟨e⟩,⟨f⟩,⟨g⟩,⟨h⟩,⟨i⟩,⟨j⟩,⟨k⟩,⟨l⟩,⟨m⟩⟩
theorem GQ {p q r s t u x y z p1 p2 p3 p4 p5:Prop} (a:p) (b:q) (c:r) (d:s) (e:t) (f:u) (g:x) (h:y) (i:z) (j:p1) (k:p2) (l:p3) (m:p4) (n:p5):ay p∧ay q∧ay r∧ay s∧ay t∧ay u∧ay x∧ay y∧ay z∧ay p1∧ay p2∧ay p3∧ay p4∧ay p5:=⟨⟨a⟩,⟨b⟩,⟨c⟩,⟨d⟩,⟨e⟩,⟨f⟩,⟨g⟩,⟨h⟩,⟨i⟩,⟨j⟩,⟨k⟩,⟨l⟩,⟨m⟩,⟨n⟩⟩
theorem bx1 {w:World} {g T:Nat} {a0:Value} (H:ay (w.heap[g]? =some (.cells #[a0] T (0,0)))):w.cell? ⟨g,0,none⟩=some a0∧w.frozen? ⟨g,0,none⟩=false:=⟨(ah H.out 0).trans rfl,au H.out 0⟩
theorem Ig {w:World} {g T:Nat} {a0 a1:Value} (H:ay (w.heap[g]? =some (.cells #[a0,a1] T (0,0)))):w.cell? ⟨g,0,none⟩=some a0∧w.cell? ⟨g,1,none⟩=some a1∧w.frozen? ⟨g,0,none⟩=false∧w.frozen? ⟨g,1,none⟩=false:=⟨(ah H.out 0).trans rfl,(ah H.out 1).trans rfl,au H.out 0,au H.out 1⟩
theorem jr {w:World} {g T:Nat} {a0 a1 a2:Value} (H:ay (w.heap[g]? =some (.cells #[a0,a1,a2] T (0,0)))):w.cell? ⟨g,0,none⟩=some a0∧w.cell? ⟨g,1,none⟩=some a1∧w.cell? ⟨g,2,none⟩=some a2∧w.frozen? ⟨g,0,none⟩=false∧w.frozen? ⟨g,1,none⟩=false∧w.frozen? ⟨g,2,none⟩=false:=⟨(ah H.out 0).trans rfl,(ah H.out 1).trans rfl,(ah H.out 2).trans rfl,au H.out 0,au H.out 1,au H.out 2⟩
theorem Ih {w:World} {g T:Nat} {a0 a1 a2 a3:Value} (H:ay (w.heap[g]? =some (.cells #[a0,a1,a2,a3] T (0,0)))):w.cell? ⟨g,0,none⟩=some a0∧w.cell? ⟨g,1,none⟩=some a1∧w.cell? ⟨g,2,none⟩=some a2∧w.cell? ⟨g,3,none⟩=some a3∧w.frozen? ⟨g,0,none⟩=false∧w.frozen? ⟨g,1,none⟩=false∧w.frozen? ⟨g,2,none⟩=false∧w.frozen? ⟨g,3,none⟩=false:=⟨(ah H.out 0).trans rfl,(ah H.out 1).trans rfl,(ah H.out 2).trans rfl,(ah H.out 3).trans rfl,au H.out 0,au H.out 1,au H.out 2,au H.out 3⟩
theorem kL {w:World} {g T:Nat} {a0 a1 a2 a3 a4:Value} (H:ay (w.heap[g]? =some (.cells #[a0,a1,a2,a3,a4] T (0,0)))):w.cell? ⟨g,0,none⟩=some a0∧w.cell? ⟨g,1,none⟩=some a1∧w.cell? ⟨g,2,none⟩=some a2∧w.cell? ⟨g,3,none⟩=some a3∧w.cell? ⟨g,4,none⟩=some a4∧w.frozen? ⟨g,0,none⟩=false∧w.frozen? ⟨g,1,none⟩=false∧w.frozen? ⟨g,2,none⟩=false∧w.frozen? ⟨g,3,none⟩=false∧w.frozen? ⟨g,4,none⟩=false:=⟨(ah H.out 0).trans rfl,(ah H.out 1).trans rfl,(ah H.out 2).trans rfl,(ah H.out 3).trans rfl,(ah H.out 4).trans rfl,au H.out 0,au H.out 1,au H.out 2,au H.out 3,au H.out 4⟩
theorem sV {w:World} {g T:Nat} {a0 a1 a2 a3 a4 a5:Value} (H:ay (w.heap[g]? =some (.cells #[a0,a1,a2,a3,a4,a5] T (0,0)))):w.cell? ⟨g,0,none⟩=some a0∧w.cell? ⟨g,1,none⟩=some a1∧w.cell? ⟨g,2,none⟩=some a2∧w.cell? ⟨g,3,none⟩=some a3∧w.cell? ⟨g,4,none⟩=some a4∧w.cell? ⟨g,5,none⟩=some a5∧w.frozen? ⟨g,0,none⟩=false∧w.frozen? ⟨g,1,none⟩=false∧w.frozen? ⟨g,2,none⟩=false∧w.frozen? ⟨g,3,none⟩=false∧w.frozen? ⟨g,4,none⟩=false∧w.frozen? ⟨g,5,none⟩=false:=⟨(ah H.out 0).trans rfl,(ah H.out 1).trans rfl,(ah H.out 2).trans rfl,(ah H.out 3).trans rfl,(ah H.out 4).trans rfl,(ah H.out 5).trans rfl,au H.out 0,au H.out 1,au H.out 2,au H.out 3,au H.out 4,au H.out 5⟩
theorem bO {α β:Type} {x:Option α} {f:α→Option β} {r:β} (h:x.bind f=some r):∃a,x=some a∧f a=some r:=Option.bind_eq_some_iff.mp h
theorem gC:type_of% @yu:= @yu
theorem gB:type_of% @yt:= @yt
theorem aH:type_of% @xU:= @xU
theorem aK:type_of% @xV:= @xV
theorem sj:type_of% @Option.some.inj:= @Option.some.inj
theorem dt:type_of% @decide_eq_true:= @decide_eq_true
theorem rE:type_of% @Kd.vG:= @Kd.vG
theorem rL:type_of% @Kd.sK:= @Kd.sK
theorem rW:type_of% @Kd.xE:= @Kd.xE
theorem rB:type_of% @Kd.tZ:= @Kd.tZ
theorem rr:type_of% @Kd.mF:= @Kd.mF
theorem rS:type_of% @Kd.sN:= @Kd.sN
theorem zm (n:Nat):0*n=0:=Nat.zero_mul n
theorem az (a:Addr):a.add 0=a:=Addr.add_zero' a
theorem z0:((0:Int)).toNat=0:=rfl
section
variable {P:Program} {ops:Array Oper} {Q:Exit→Act→World→Prop} {md:Region.Mode} {S:World→Prop} {ds:List Nat} {oi:Oper} {v:Value} {fuel:Nat} {l:Array Bool} {a a':Act} {w:World}
theorem rP (i:Nat) (N:Option Tmp) (l':Array Bool) (hc:qC md ops l l' i=true) (h:eF P md ops Q S ds fuel l' a' w) (hi:ops[i]? =some oi:=by rfl) (hN:oi.dst=N:=by rfl) (hQ:∀c a w,Q (.panic c) (a.put oi.dst v) w→Q (.panic c) a w:=by exact fun _ _ _ h=>h)
 (hw:Region.wanted oi (yielded ops a.tmps)=true:=by rfl) (hy:∀w,(execOp a.eval oi).run P w= .ok (.value v) w:=by intro w';go_simp;with_reducible rfl) (ha:a.put N v=a':=by first|(simp only[Act.put,List.setIfInBounds_toArray,List.set_cons_zero,List.set_cons_succ,jg,mK];rfl)|rfl):eF P md ops Q S ds (fuel+1) l a w:=
 wI l' hi hN hc hQ (.inl ⟨hw,hy⟩) ha h
theorem rU (i:Nat) (N:Option Tmp) (l':Array Bool) (hc:qC md ops l l' i=true) (h:eF P md ops Q S ds fuel l' a' w) (hi:ops[i]? =some oi:=by rfl) (hN:oi.dst=N:=by rfl) (hQ:∀c a w,Q (.panic c) (a.put oi.dst undef) w→Q (.panic c) a w:=by exact fun _ _ _ h=>h)
 (hw:Region.wanted oi (yielded ops a.tmps)=false:=by rfl) (ha:a.put N undef=a':=by first|(simp only[Act.put,List.setIfInBounds_toArray,List.set_cons_zero,List.set_cons_succ,jg,mK];rfl)|rfl):eF P md ops Q S ds (fuel+1) l a w:=
 wI l' hi hN hc hQ (.inr ⟨hw,rfl⟩) ha h
theorem rT (i:Nat) (N:Option Tmp) (l':Array Bool) (hc:takeB md ops ds l l' i=true) (hS:S w) (h:eF P md ops Q S ds fuel l' a' w) (hi:ops[i]? =some oi:=by rfl) (hN:oi.dst=N:=by rfl) (hQ:∀c a w,Q (.panic c) (a.put oi.dst v) w→Q (.panic c) a w:=by exact fun _ _ _ h=>h)
 (hw:Region.wanted oi (yielded ops a.tmps)=true:=by rfl) (hy:∀w,S w→(execOp a.eval oi).run P w= .ok (.value v) w:=by intro w' s_;(repeat(have s':=And.left s_;replace s_:=And.right s_));go_simp;with_reducible rfl) (ha:a.put N v=a':=by first|(simp only[Act.put,List.setIfInBounds_toArray,List.set_cons_zero,List.set_cons_succ,jg,mK];rfl)|rfl):eF P md ops Q S ds (fuel+1) l a w:=
 uZ l' hi hN hc hQ (.inl ⟨hw,hy⟩) hS ha h
theorem rQ (i N:Nat) (h:eF P md ops Q S ds fuel (l.setIfInBounds i true) a' w) (hi:ops[i]? =some oi:=by rfl) (hN:oi.dst=some N:=by rfl) (hQ:∀c a w,Q (.panic c) (a.put oi.dst v) w→Q (.panic c) a w:=by exact fun _ _ _ h=>h)
 (hw:Region.wanted oi (yielded ops a.tmps)=true:=by rfl) (hy:∀w,(execOp a.eval oi).run P w= .ok (.value v) w:=by intro w';go_simp;with_reducible rfl) (ha:a.put (some N) v=a':=by first|(simp only[Act.put,List.setIfInBounds_toArray,List.set_cons_zero,List.set_cons_succ,jg,mK];rfl)|rfl) (hc:qC md ops l (l.setIfInBounds i true) i=true:=by exact Bz bG.out (by kernel_rfl)):eF P md ops Q S ds (fuel+1) l a w:=
 wI _ hi hN hc hQ (.inl ⟨hw,hy⟩) ha h
theorem rV (i N:Nat) (h:eF P md ops Q S ds fuel (l.setIfInBounds i true) a' w) (hi:ops[i]? =some oi:=by rfl) (hN:oi.dst=some N:=by rfl) (hQ:∀c a w,Q (.panic c) (a.put oi.dst v) w→Q (.panic c) a w:=by exact fun _ _ _ h=>h)
 (hw:Region.wanted oi (yielded ops a.tmps)=true:=by rfl) (hy:∀w,S w→(execOp a.eval oi).run P w= .ok (.value v) w:=by intro w' s_;(repeat(have s':=And.left s_;replace s_:=And.right s_));go_simp;with_reducible rfl) (ha:a.put (some N) v=a':=by first|(simp only[Act.put,List.setIfInBounds_toArray,List.set_cons_zero,List.set_cons_succ,jg,mK];rfl)|rfl) (hc:takeB md ops ds l (l.setIfInBounds i true) i=true:=by exact GY bG.out jC.out (by kernel_rfl)) (hS:S w:=by exact hHeld):eF P md ops Q S ds (fuel+1) l a w:=
 uZ _ hi hN hc hQ (.inl ⟨hw,hy⟩) hS ha h
theorem rN {l:Array Bool} (h:eF P md ops Q S ds fuel l a' w) (ha:a=a':=by(try show Act.put _ (some _) _=_);simp only[Act.put,List.setIfInBounds_toArray,List.set_cons_zero,List.set_cons_succ,jg,mK];rfl):eF P md ops Q S ds fuel l a w:=EM ha h
end
theorem Ak {p:Prop} (h:p:=by(with_reducible repeat(first|refine aG ?_ _|refine aA ?_|refine aC ?_ _));refine bf (cs:=#[.int .i64 ((aI av dN).f0),.slice qU ((aI av dN).f1).length rD,.slice none 0 0]) ?_ 2 _ rfl;(with_reducible repeat(first|refine aG ?_ _|refine aA ?_|refine aC ?_ _));refine bf (cs:=#[.int .i64 ((aI av dN).f0),.slice none 0 0,.slice none 0 0]) ?_ 1 _ rfl;(with_reducible repeat(first|refine aG ?_ _|refine aA ?_|refine aC ?_ _));refine bf (cs:=#[.int .i64 0,.slice none 0 0,.slice none 0 0]) ?_ 0 _ rfl;(with_reducible repeat(first|refine aG ?_ _|refine aA ?_|refine aC ?_ _));exact jM.out):p:=h
theorem Al {p:Prop} (h:p:=by(with_reducible repeat(first|refine aG ?_ _|refine aA ?_|refine aC ?_ _));refine bf (cs:=#[.int .i64 ((aI av eY).f0),.slice qR ((aI av eY).f1).length rC,.slice none 0 0]) ?_ 2 _ rfl;(with_reducible repeat(first|refine aG ?_ _|refine aA ?_|refine aC ?_ _));refine bf (cs:=#[.int .i64 ((aI av eY).f0),.slice none 0 0,.slice none 0 0]) ?_ 1 _ rfl;(with_reducible repeat(first|refine aG ?_ _|refine aA ?_|refine aC ?_ _));refine bf (cs:=#[.int .i64 0,.slice none 0 0,.slice none 0 0]) ?_ 0 _ rfl;(with_reducible repeat(first|refine aG ?_ _|refine aA ?_|refine aC ?_ _));exact jL.out):p:=h
theorem Am {p:Prop} (h:p:=by(with_reducible repeat(first|refine aG ?_ _|refine aA ?_|refine aC ?_ _));refine bf (cs:=#[.int .i64 ((aD ak bK).f0),.int .i64 ((aD ak bK).f1),.slice none 0 0]) ?_ 2 _ rfl;(with_reducible repeat(first|refine aG ?_ _|refine aA ?_|refine aC ?_ _));refine bf (cs:=#[.int .i64 ((aD ak bK).f0),.int .i64 0,.slice none 0 0]) ?_ 1 _ rfl;(with_reducible repeat(first|refine aG ?_ _|refine aA ?_|refine aC ?_ _));refine bf (cs:=#[.int .i64 0,.int .i64 0,.slice none 0 0]) ?_ 0 _ rfl;(with_reducible repeat(first|refine aG ?_ _|refine aA ?_|refine aC ?_ _));exact ou.out):p:=h
theorem qQ {p:Prop} (h:p:=by(with_reducible repeat(first|apply Kd.nP|apply Kd.nR|apply Kd.nQ));exact aN.out):p:=h
theorem Ao {p:Prop} (h:p:=by(with_reducible repeat(first|refine aG ?_ _|refine aA ?_|refine aC ?_ _));refine bq ?_ qW.out _;(with_reducible repeat(first|refine aG ?_ _|refine aA ?_|refine aC ?_ _));refine bq ?_ qW.out _;(with_reducible repeat(first|refine aG ?_ _|refine aA ?_|refine aC ?_ _));refine bq ?_ qW.out _;(with_reducible repeat(first|refine aG ?_ _|refine aA ?_|refine aC ?_ _));exact cu.out):p:=h
theorem Ap {p:Prop} (h:p:=by(with_reducible repeat(first|refine aG ?_ _|refine aA ?_|refine aC ?_ _));refine bq ?_ qV.out _;(with_reducible repeat(first|refine aG ?_ _|refine aA ?_|refine aC ?_ _));refine bq ?_ qV.out _;(with_reducible repeat(first|refine aG ?_ _|refine aA ?_|refine aC ?_ _));refine bq ?_ qV.out _;(with_reducible repeat(first|refine aG ?_ _|refine aA ?_|refine aC ?_ _));exact cu.out):p:=h
theorem qp {p:Prop} (h:p:=by(with_reducible repeat(first|apply Kd.cB|apply Kd.cK|apply Kd.bS));exact aN.out):p:=h
end Go.Proofs.YtjmdfghljlmfmaaGreatW.PrintLast
