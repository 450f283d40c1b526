-- written by this session's program (wip/tools/myprint.py)
import Derived.Test.YthjlbpgiaehjnaaQFnTxsx0
-- squeezed
namespace Go.Proofs.Ythjlbpgiaehjnaa.QFnTxs
open Go.RowKit Go.Proofs.YthjlbpgiaehjnaaW.PrintWords Go.Proofs.YthjlbpgiaehjnaaW.PrintLast Go.Proofs.YthjlbpgiaehjnaaW.PrintMore
attribute [local go_sem] kT kX kW lg kV kZ kU kY
set_option linter.unusedVariables false
set_option linter.unusedSimpArgs false
set_option maxHeartbeats 8000000
set_option maxRecDepth 100000
theorem vG {p:Prop} [Decidable p] {α:Type} {x:Option α} {r:α} (h:(if p then x else none)=some r):p∧x=some r:=by
 by_cases c:p
 ·rw[if_pos c]at h;exact⟨c,h⟩
 ·rw[if_neg c]at h;cases h
theorem Dv (p:Prop) [Decidable p] {q:Prop} (a:p→q) (b:¬p→q):q:=if h:p then a h else b h
mutual
def eO.j0:Nat→List Int→Bool→Option (Int×Int×Int)
 |0,_,_=>none
 |k+1,x0,x4=>if x4=true then(if 0<(x0.length:Int)then(some (0,wrap64 (rd x0 0),1))else(none))else(if(x0.length:Int)<3 then(eO.j1 k x0 true)else(if 0<(x0.length:Int)then(eO.j1 k x0 ((rd x0 0) != 253))else(none)))
def eO.j1:Nat→List Int→Bool→Option (Int×Int×Int)
 |0,_,_=>none
 |k+1,x0,OZ=>if OZ=true then(some (5,0,0))else(if 1<(x0.length:Int)then(if 2<(x0.length:Int)then(if(wrap64 ((wrap64 (rd x0 1))+(wrap64 ((wrap64 (rd x0 2))*256))))<253 then(some (5,0,0))else(some (0,wrap64 ((wrap64 (rd x0 1))+(wrap64 ((wrap64 (rd x0 2))*256))),3)))else(none))else(none))
end
def eO.f (k:Nat) (l0:List Int):Option (Int×Int×Int):=if(l0.length:Int)>0 then(if 0<(l0.length:Int)then(eO.j0 k l0 (decide ((rd l0 0)<253)))else(none))else(eO.j0 k l0 false)
theorem eO.cO:∀k,(∀y0 y1,aD (eO.j0 k y0 y1) (eO.j0 (k+1) y0 y1))∧(∀y0 y1,aD (eO.j1 k y0 y1) (eO.j1 (k+1) y0 y1))
 |0=>⟨fun _ _ r h=>by simp[eO.j0]at h,fun _ _ r h=>by simp[eO.j1]at h⟩
 |k+1=>by
  obtain⟨MC,ih1⟩:=eO.cO k
  refine⟨?_,?_⟩
  ·intro y0 y1
   unfold eO.j0
   repeat' with_reducible first|exact MC _ _|exact ih1 _ _|exact aD.refl _|exact aD.none _|refine aD.ite ?_ ?_|refine aD.bind ?_ (fun _=>?_)
  ·intro y0 y1
   unfold eO.j1
   repeat' with_reducible first|exact MC _ _|exact ih1 _ _|exact aD.refl _|exact aD.none _|refine aD.ite ?_ ?_|refine aD.bind ?_ (fun _=>?_)
theorem eO.mono:∀a0 k,aD (eO.f k a0) (eO.f (k+1) a0):=by
 intro a0 k;obtain⟨MC,ih1⟩:=eO.cO k;unfold eO.f;repeat' with_reducible first|exact MC _ _|exact ih1 _ _|exact aD.refl _|exact aD.none _|refine aD.ite ?_ ?_|refine aD.bind ?_ (fun _=>?_)
theorem eO.calls (k:Nat) (A0:Option Addr) (c0:Nat) (l0:List Int) (r1:Int) (r2:Int) (r3:Int) (w:World) (hr0:Kd.C (Kd.int .u8) w A0 l0.length l0) (hc0:l0.length≤c0) (h:eO.f k l0=some (r1,r2,r3)):
 Calls Try.prog 38 #[.slice A0 l0.length c0] w fun e w'=>e= .returned (.agg #[.int .i64 r1,.int .i64 r2,.int .i64 r3])∧Below w.heap.size w w':=by
 have OP:=Try.underlying63;have MU:=am hr0;have Pb:=am hc0;clear hr0 hc0;have HB:=am (Below.refl w.heap.size w);have H:(if(l0.length:Int)>0 then(if 0<(l0.length:Int)then(eO.j0 k l0 (decide ((rd l0 0)<253)))else(none))else(eO.j0 k l0 false))=some (r1,r2,r3):=h;clear h;have Nz:=am H;clear H;go_enter Try.func38,Try.ntmps38;go_upto_region 1 with(first|((with_reducible refine cB (N:=2) rfl ?_);refine eB ?hg (N:=2) ?hd (cs:=#[.int .i64 0,.int .i64 0,.int .i64 0]) (t:=63) ?hr ?_;(case hd=>rfl);(case hg=>rfl);(case hr=>first|(go_simp;done)|(go_simp;rfl));intro av hg Ot MB hb;have n_:=t4 (bq pB hb) (MB) ((by rw[hg];exact(bE pB):w.heap.size≤av)) ((by rw[hg];exact(bE pB):w.heap.size≤av));clear HB;obtain⟨HB,ak,iR,jF⟩:=n_;clear hb MB hg))
 repeat(go_quiet (first|((with_reducible refine cB (N:=2) rfl ?_);refine eB ?hg (N:=2) ?hd (cs:=#[.int .i64 0,.int .i64 0,.int .i64 0]) (t:=63) ?hr ?_;(case hd=>rfl);(case hg=>rfl);(case hr=>first|(go_simp;done)|(go_simp;rfl));intro av hg Ot MB hb;have n_:=t4 (bq pB hb) (MB) ((by rw[hg];exact(bE pB):w.heap.size≤av)) ((by rw[hg];exact(bE pB):w.heap.size≤av));clear HB;obtain⟨HB,ak,iR,jF⟩:=n_;clear hb MB hg));go_upto_region 1 with(first|((with_reducible refine cB (N:=2) rfl ?_);refine eB ?hg (N:=2) ?hd (cs:=#[.int .i64 0,.int .i64 0,.int .i64 0]) (t:=63) ?hr ?_;(case hd=>rfl);(case hg=>rfl);(case hr=>first|(go_simp;done)|(go_simp;rfl));intro av hg Ot MB hb;have n_:=t4 (bq pB hb) (MB) ((by rw[hg];exact(bE pB):w.heap.size≤av)) ((by rw[hg];exact(bE pB):w.heap.size≤av));clear HB;obtain⟨HB,ak,iR,jF⟩:=n_;clear hb MB hg)))
 (try simp only[Act.put,List.setIfInBounds_toArray,List.set_cons_zero,List.set_cons_succ]);go_cut [4] (fun v4 wc=>∃(kq:Nat) (aZ:Bool),v4= .bool aZ∧au (eO.j0 kq l0 aZ=some (r1,r2,r3))∧au (kq≤k)∧au (wc.heap[av]? =some (.cells #[.int .i64 0,.int .i64 0,.int .i64 0] 63 (0,0)))∧au (Below w.heap.size w wc))
 case first=>
  have H:=Nz.out;clear Nz;by_cases c20:(l0.length:Int)>0
  ·rw[if_pos c20]at H;have MX:decide (0<(l0.length:Int))=true:=dt c20;have OE:decide (0<l0.length)=true:=dt (by omega);clear c20;(first|rw[MX]|(simp only[jy,jE];rw[MX])|skip);replace H:=vG H;obtain⟨c21,H⟩:=H;have Pe:=dt c21;have Pf:decide (0<l0.length)=true:=dt (by omega);clear c21;have H':=am H;clear H;have NI:0≤(0:Int):=(by omega);have NM:0<(l0.length:Int):=pD;obtain⟨Nr,e20,Ns⟩:=Kd.kK MU.out 0 NI NM;cases e20;have NP:(0<l0.length)=True:=eq_true (by omega);(try rw[show((0:Int)).toNat=0 from rfl]at Ns);(try rw[Addr.add_zero']at Ns);replace Ns:=cb HB Ns;replace NI:=eq_true NI;replace NM:=eq_true NM;go_wp2;(repeat(go_quiet (fail);try go_wp2));go_meet
   case rel=>exact⟨_,(decide ((rd l0 0)<253)),pF,H',⟨by first|omega|exact Nat.le_refl _⟩,⟨(pK ak)⟩,⟨pB⟩⟩
  ·rw[if_neg c20]at H;have MX:decide (0<(l0.length:Int))=false:=decide_eq_false c20;have OE:decide (0<l0.length)=false:=decide_eq_false (by omega);clear c20;(first|rw[MX]|(simp only[jy,jE];rw[MX])|skip);have H':=am H;clear H;go_wp2;(repeat(go_quiet (fail);try go_wp2));go_meet
   case rel=>exact⟨_,(false),pF,H',⟨by first|omega|exact Nat.le_refl _⟩,⟨(pK ak)⟩,⟨pB⟩⟩
 case rest=>
  clear Nz;obtain⟨kq,aZ,rfl,HA,NV,ak,HB⟩:=hcut;cases kq with
  |zero=>exact absurd HA.out (by simp[eO.j0])
  |succ OQ=>
   have H:=HA.out;clear HA;simp only[eO.j0]at H;by_cases MZ:aZ=true
   ·subst MZ;rw[if_pos rfl]at H;replace H:=vG H;obtain⟨c23,H⟩:=H;have MP:=dt c23;have Og:decide (0<l0.length)=true:=dt (by omega);clear c23;simp only[Option.some.injEq,Prod.mk.injEq]at H;obtain⟨rfl,rfl,rfl⟩:=H;have MJ:0≤(0:Int):=(by omega);have MK:0<(l0.length:Int):=pD;obtain⟨Nr,e20,fE⟩:=Kd.kK MU.out 0 MJ MK;cases e20;have NP:(0<l0.length)=True:=eq_true (by omega);(try rw[show((0:Int)).toNat=0 from rfl]at fE);(try rw[Addr.add_zero']at fE);replace fE:=cb HB fE;replace MJ:=eq_true MJ;replace MK:=eq_true MK;obtain⟨Po,Pp,Pq,Px,Py,Pz⟩:=kE ak;go_wp2;(repeat(go_quiet (fail);try go_wp2));refine bodyPost_ret (results_cell_row rfl _ _ av 63 #[.int .i64 0,.int .i64 (wrap64 (rd l0 0)),.int .i64 1] (0,0) _ rfl (by(with_reducible repeat(first|refine aK ?_ _|refine aH ?_|refine aJ ?_ _));refine bD (cs:=#[.int .i64 0,.int .i64 (wrap64 (rd l0 0)),.int .i64 0]) ?_ 2 _ rfl;(with_reducible repeat(first|refine aK ?_ _|refine aH ?_|refine aJ ?_ _));refine bD (cs:=#[.int .i64 0,.int .i64 0,.int .i64 0]) ?_ 1 _ rfl;(with_reducible repeat(first|refine aK ?_ _|refine aH ?_|refine aJ ?_ _));refine bD (cs:=#[.int .i64 0,.int .i64 0,.int .i64 0]) ?_ 0 _ rfl;(with_reducible repeat(first|refine aK ?_ _|refine aH ?_|refine aJ ?_ _));exact ak.out) Try.underlying63 rfl (by kernel_rfl)) rfl ?_;exact⟨pE,pB⟩
   ·replace MZ:=Bool.eq_false_iff.mpr MZ;subst MZ;rw[if_neg (show ¬(false=true) by decide)]at H;have NA:=am H;clear H;(go_upto_region 3 with(fail));(repeat(go_quiet (fail);go_upto_region 3 with(fail)));go_cut [19] (fun v19 wc=>∃(kq:Nat) (Ny:Bool),v19= .bool Ny∧au (eO.j1 kq l0 Ny=some (r1,r2,r3))∧au (kq≤OQ)∧au (wc.heap[av]? =some (.cells #[.int .i64 0,.int .i64 0,.int .i64 0] 63 (0,0)))∧au (Below w.heap.size w wc))
    case first=>
     have H:=NA.out;clear NA;by_cases c23:(l0.length:Int)<3
     ·rw[if_pos c23]at H;have MP:=dt c23;have Og:decide (l0.length<3)=true:=dt (by omega);clear c23;(first|rw[MP]|(simp only[jy,jE];rw[MP])|skip);have H':=am H;clear H;go_wp2;(repeat(go_quiet (fail);try go_wp2));go_meet
      case rel=>exact⟨_,(true),pF,H',⟨by have:=NV.out;first|omega|exact Nat.le_refl _⟩,⟨(pK ak)⟩,⟨pB⟩⟩
     ·rw[if_neg c23]at H;have MP:=decide_eq_false c23;have Og:decide (l0.length<3)=false:=decide_eq_false (by omega);clear c23;(first|rw[MP]|(simp only[jy,jE];rw[MP])|skip);replace H:=vG H;obtain⟨c24,H⟩:=H;have Pg:=dt c24;have Ph:decide (0<l0.length)=true:=dt (by omega);clear c24;have H':=am H;clear H;have MJ:0≤(0:Int):=(by omega);have MK:0<(l0.length:Int):=pD;obtain⟨Nr,e20,fE⟩:=Kd.kK MU.out 0 MJ MK;cases e20;have NP:(0<l0.length)=True:=eq_true (by omega);(try rw[show((0:Int)).toNat=0 from rfl]at fE);(try rw[Addr.add_zero']at fE);replace fE:=cb HB fE;replace MJ:=eq_true MJ;replace MK:=eq_true MK;go_wp2;(repeat(go_quiet (fail);try go_wp2));go_meet
      case rel=>exact⟨_,(((rd l0 0) != 253)),pF,H',⟨by have:=NV.out;first|omega|exact Nat.le_refl _⟩,⟨(pK ak)⟩,⟨pB⟩⟩
    case rest=>
     clear NA;(try clear MZ);obtain⟨kq,Ny,rfl,HA,Pd,ak,HB⟩:=hcut;cases kq with
     |zero=>exact absurd HA.out (by simp[eO.j1])
     |succ PI=>
      have H:=HA.out;clear HA;simp only[eO.j1]at H;refine Dv (Ny=true) ?pc26 ?OT
      case' OT=>
       intro Na;replace Na:=Bool.eq_false_iff.mpr Na;subst Na;rw[if_neg (show ¬(false=true) by decide)]at H;replace H:=vG H;obtain⟨Oh,H⟩:=H;have Pj:=dt Oh;have Pk:decide (1<l0.length)=true:=dt (by omega);clear Oh;replace H:=vG H;obtain⟨c28,H⟩:=H;have Pm:=dt c28;have Pn:decide (2<l0.length)=true:=dt (by omega);clear c28;refine Dv ((wrap64 ((wrap64 (rd l0 1))+(wrap64 ((wrap64 (rd l0 2))*256))))<253) ?pc29 ?OU
       case' OU=>intro MI;rw[if_neg MI]at H;have OG:=decide_eq_false MI;clear MI;simp only[Option.some.injEq,Prod.mk.injEq]at H;obtain⟨rfl,rfl,rfl⟩:=H;have Ob:=trivial
       case' pc29=>intro MI;rw[if_pos MI]at H;have OG:=dt MI;clear MI;simp only[Option.some.injEq,Prod.mk.injEq]at H;obtain⟨rfl,rfl,rfl⟩:=H;have Oa:=trivial
      case' pc26=>intro Na;subst Na;rw[if_pos rfl]at H;simp only[Option.some.injEq,Prod.mk.injEq]at H;obtain⟨rfl,rfl,rfl⟩:=H;have OA:=trivial
      all_goals
       first
       |(first|(have _:=Oa)|(have _:=Ob));have NJ:0≤(1:Int):=(by omega);have NN:1<(l0.length:Int):=pD;obtain⟨Nr,e20,Nt⟩:=Kd.kK MU.out 1 NJ NN;cases e20;(try simp only[show(1:Int).toNat=1 from rfl,Nat.reduceMul,Nat.reduceEqDiff,Go.Addr.add,↓reduceIte]at Nt);have NP:(1<l0.length)=True:=eq_true (by omega);(try rw[show((1:Int)).toNat=1 from rfl]at Nt);replace Nt:=cb HB Nt;replace NJ:=eq_true NJ;replace NN:=eq_true NN;have NK:0≤(2:Int):=(by omega);have q24:2<(l0.length:Int):=pD;obtain⟨OD,e21,Nu⟩:=Kd.kK MU.out 2 NK q24;obtain rfl:Nr=OD:=(by injection e21);(try simp only[show(2:Int).toNat=2 from rfl,Nat.reduceMul,Nat.reduceEqDiff,Go.Addr.add,↓reduceIte]at Nu);have PK:(2<l0.length)=True:=eq_true (by omega);(try rw[show((2:Int)).toNat=2 from rfl]at Nu);replace Nu:=cb HB Nu;replace NK:=eq_true NK;replace q24:=eq_true q24
       |skip
       obtain⟨Pt,Pv,Pw,PD,PE,PG⟩:=kE ak;go_wp2;(repeat(go_quiet (fail);try go_wp2));first
       |(first|(have _:=OA)|(have _:=Oa));refine bodyPost_ret (results_cell_row rfl _ _ av 63 #[.int .i64 5,.int .i64 0,.int .i64 0] (0,0) _ rfl (by(with_reducible repeat(first|refine aK ?_ _|refine aH ?_|refine aJ ?_ _));refine bD (cs:=#[.int .i64 5,.int .i64 0,.int .i64 0]) ?_ 2 _ rfl;(with_reducible repeat(first|refine aK ?_ _|refine aH ?_|refine aJ ?_ _));refine bD (cs:=#[.int .i64 5,.int .i64 0,.int .i64 0]) ?_ 1 _ rfl;(with_reducible repeat(first|refine aK ?_ _|refine aH ?_|refine aJ ?_ _));refine bD (cs:=#[.int .i64 0,.int .i64 0,.int .i64 0]) ?_ 0 _ rfl;(with_reducible repeat(first|refine aK ?_ _|refine aH ?_|refine aJ ?_ _));exact ak.out) Try.underlying63 rfl (by kernel_rfl)) rfl ?_
       |have _:=Ob;refine bodyPost_ret (results_cell_row rfl _ _ av 63 #[.int .i64 0,.int .i64 (wrap64 ((wrap64 (rd l0 1))+(wrap64 ((wrap64 (rd l0 2))*256)))),.int .i64 3] (0,0) _ rfl (by(with_reducible repeat(first|refine aK ?_ _|refine aH ?_|refine aJ ?_ _));refine bD (cs:=#[.int .i64 0,.int .i64 (wrap64 ((wrap64 (rd l0 1))+(wrap64 ((wrap64 (rd l0 2))*256)))),.int .i64 0]) ?_ 2 _ rfl;(with_reducible repeat(first|refine aK ?_ _|refine aH ?_|refine aJ ?_ _));refine bD (cs:=#[.int .i64 0,.int .i64 0,.int .i64 0]) ?_ 1 _ rfl;(with_reducible repeat(first|refine aK ?_ _|refine aH ?_|refine aJ ?_ _));refine bD (cs:=#[.int .i64 0,.int .i64 0,.int .i64 0]) ?_ 0 _ rfl;(with_reducible repeat(first|refine aK ?_ _|refine aH ?_|refine aJ ?_ _));exact ak.out) Try.underlying63 rfl (by kernel_rfl)) rfl ?_
       exact⟨pE,pB⟩
def aN (w0 W:World) (g:Nat) (f0:List Int) (f1:Bool):Prop:=∃A0 c0,W.heap[g]? =some (.cells #[.slice A0 f0.length c0,.bool f1] 102 (0,0))∧w0.heap.size≤g∧(Kd.C (Kd.int .u8) w0 A0 f0.length f0∧f0.length≤c0)
theorem aN.grown {w0 W:World} {g:Nat} {f0:List Int} {f1:Bool} {W1:World} {row:Option Nat} (h:aN w0 W g f0 f1) (hw:W.grownBy W1 row) (hne:some g≠row):aN w0 W1 g f0 f1:=by
 obtain⟨A0,c0,hb,hg,hr0⟩:=h;exact⟨A0,c0,iJ hb hw hne,hg,hr0⟩
theorem aN.xB {w0 W:World} {g:Nat} {f0:List Int} {f1:Bool} {α:Type} {d:Kd α} {e:Nat} {base:Nat} {ok:Nat→Prop} {v:Value} {xs:List α} (h:aN w0 W g f0 f1) (ho:Kd.N d e W base ok v xs) (ht:e≠102):some g≠v.ownBlock:=by
 obtain⟨A0,c0,hb,hg,hr0⟩:=h;exact Kd.wL ho hb ht
theorem aN.fresh {w0 W:World} {g:Nat} {f0:List Int} {f1:Bool} (h:aN w0 W g f0 f1):∀k,W.heap.size≤k→k≠g:=by
 obtain⟨A0,c0,hb,hg,hr0⟩:=h;exact Kd.gV hb
theorem aN.kept {w0 W:World} {g:Nat} {f0:List Int} {f1:Bool} {W1:World} {S:Nat→Prop} (h:aN w0 W g f0 f1) (hk:Kept W W1 S) (hne:¬S g):aN w0 W1 g f0 f1:=by
 obtain⟨A0,c0,hb,hg,hr0⟩:=h;exact⟨A0,c0,zS hb hk hne,hg,hr0⟩
theorem aN.below {w0 W:World} {g:Nat} {f0:List Int} {f1:Bool} {W1:World} (h:aN w0 W g f0 f1) (hw:Below W.heap.size W W1):aN w0 W1 g f0 f1:=h.grown (yL hw none) (by simp)
theorem aN.alloc {w0 W:World} {g:Nat} {f0:List Int} {f1:Bool} (h:aN w0 W g f0 f1) (o:Obj):aN w0 (W.alloc o) g f0 f1:=h.below (dn (Below.refl _ _) o)
theorem aN.drewN {w0 W:World} {g:Nat} {f0:List Int} {f1:Bool} (h:aN w0 W g f0 f1) (m:Nat):aN w0 (W.drewN m) g f0 f1:=h
theorem aN.drew {w0 W:World} {g:Nat} {f0:List Int} {f1:Bool} (h:aN w0 W g f0 f1):aN w0 W.drew g f0 f1:=h
theorem aN.at_ {w0 W:World} {g:Nat} {f0:List Int} {f1:Bool} {w':World} {m:Nat} (hq:W.drewN m=w') (h:aN w0 W g f0 f1):aN w0 w' g f0 f1:=by subst hq;exact aN.drewN h m
theorem aN.apart {w0 W:World} {g:Nat} {f0:List Int} {f1:Bool} {α:Type} {d:Kd α} {e:Nat} {base:Nat} {ok:Nat→Prop} {v:Value} {xs:List α} (h:aN w0 W g f0 f1) (ho:d.R e W base ok v xs) (ht:∀q,q∈e::d.E→q≠102):d.R e W base (fun k=>ok k∧k≠g) v xs:=by
 obtain⟨A0,c0,hb,hg,hr0⟩:=h;exact Kd.dL ho hb ht
theorem aN.own_ne {w0 W:World} {g:Nat} {f0:List Int} {f1:Bool} {α:Type} {d:Kd α} {e:Nat} {base:Nat} {ok:Nat→Prop} {v:Value} {xs:List α} (h:aN w0 W g f0 f1) (ho:d.R e W base ok v xs) (ht:e≠102):some g≠v.ownBlock:=by
 obtain⟨A0,c0,hb,hg,hr0⟩:=h;exact Kd.mH ho hb ht
theorem aN.Dt {w0 W:World} {g:Nat} {f0:List Int} {f1:Bool} {α:Type} {d:Kd α} {e:Nat} {base:Nat} {ok:Nat→Prop} {v:Value} {xs:List α} (h:aN w0 W g f0 f1) (ho:d.Q e W base ok v xs) (ht:∀q,q∈e::d.E→q≠102):d.Q e W base (fun k=>ok k∧k≠g) v xs:=by
 obtain⟨A0,c0,hb,hg,hr0⟩:=h;exact Kd.tO ho hb ht
theorem aN.EB {w0 W:World} {g:Nat} {f0:List Int} {f1:Bool} {α:Type} {d:Kd α} {e:Nat} {base:Nat} {ok:Nat→Prop} {v:Value} {xs:List α} (h:aN w0 W g f0 f1) (ho:d.Q e W base ok v xs) (ht:e≠102):some g≠v.ownBlock:=by
 obtain⟨A0,c0,hb,hg,hr0⟩:=h;exact Kd.zM ho hb ht
theorem aN.gq {w0 W:World} {g:Nat} {f0:List Int} {f1:Bool} {α:Type} {d:Kd α} {e:Nat} {base:Nat} {ok:Nat→Prop} {v:Value} {xs:List α} (h:aN w0 W g f0 f1) (ho:d.S e W base ok v xs) (ht:∀q,q∈e::d.E→q≠102):d.S e W base (fun k=>ok k∧k≠g) v xs:=by
 obtain⟨A0,c0,hb,hg,hr0⟩:=h;exact Kd.iU ho hb ht
theorem aN.sO {w0 W:World} {g:Nat} {f0:List Int} {f1:Bool} {α:Type} {d:Kd α} {e:Nat} {base:Nat} {ok:Nat→Prop} {v:Value} {xs:List α} (h:aN w0 W g f0 f1) (ho:d.S e W base ok v xs) (ht:e≠102):some g≠v.ownBlock:=by
 obtain⟨A0,c0,hb,hg,hr0⟩:=h;exact Kd.mX ho hb ht
theorem aN.lt {w0 W:World} {g:Nat} {f0:List Int} {f1:Bool} (h:aN w0 W g f0 f1):g<W.heap.size:=by
 obtain⟨A0,c0,hb,hg,hr0⟩:=h;exact dI hb
theorem aN.ge {w0 W:World} {g:Nat} {f0:List Int} {f1:Bool} (h:aN w0 W g f0 f1):w0.heap.size≤g:=by
 obtain⟨A0,c0,hb,hg,hr0⟩:=h;exact hg
theorem aN.yP {w0 W:World} {g:Nat} {f0:List Int} {f1:Bool} {a:Nat} {cs:Array Value} {t:TypeId} {fr:Nat×Nat} (h:aN w0 W g f0 f1) (hb2:W.heap[a]? =some (.cells cs t fr)) (ht:t≠102):g≠a:=by
 obtain⟨A0,c0,hb,hg,hr0⟩:=h;rintro rfl;rw[hb]at hb2;injection hb2 with hb2
 injection hb2 with _ ht2
 exact ht ht2.symm
theorem aN.far {w0 W:World} {g:Nat} {f0:List Int} {f1:Bool} {p:Addr} (h:aN w0 W g f0 f1) (hne:g≠p.block) (u:Value):aN w0 (W.setCell p u) g f0 f1:=by
 obtain⟨A0,c0,hb,hg,hr0⟩:=h;exact⟨A0,c0,bT hb hne u,hg,hr0⟩
theorem LW {W:World} {g:Nat} {A0:Option Addr} {c0:Nat} {f0:List Int} {f1:Bool} (h:W.heap[g]? =some (.cells #[.slice A0 f0.length c0,.bool f1] 102 (0,0))):W.cell? ⟨g,0,none⟩=some (.slice A0 f0.length c0):=(aj h 0).trans rfl
theorem LX {W:World} {g:Nat} {A0:Option Addr} {c0:Nat} {f0:List Int} {f1:Bool} (h:W.heap[g]? =some (.cells #[.slice A0 f0.length c0,.bool f1] 102 (0,0))):W.cell? ⟨g,1,none⟩=some (.bool f1):=(aj h 1).trans rfl
theorem aN.bF {w0 W:World} {g:Nat} {f0:List Int} {f1:Bool} (h:aN w0 W g f0 f1) (x:Bool):aN w0 (W.setCell ⟨g,1,none⟩ (.bool x)) g f0 x:=by
 obtain⟨A0,c0,hb,hg,hr0⟩:=h;exact⟨A0,c0,by simpa using vB hb 1 (.bool x),hg,hr0⟩
theorem aN.new (w0 W:World) (A0:Option Addr) (c0:Nat) (f0:List Int) (f1:Bool) (hB:Below w0.heap.size w0 W) (hr0:(Kd.C (Kd.int .u8) w0 A0 f0.length f0∧f0.length≤c0)):aN w0 (W.alloc (.cells #[.slice A0 f0.length c0,.bool f1] 102)) W.heap.size f0 f1:=⟨A0,c0,by simpa using heap_alloc_new W _,hB.size,hr0⟩
theorem aN.iW:True:=trivial
def fO.f (k:Nat) (aB:List Int) (aR:Bool) (a1:Int):Option (Int×List Int×Bool):=(eO.f k aB).bind fun v=>if aR=true∨v.1≠0∨v.2.1>a1 then some (0,aB,true)else if 0≤v.2.2∧v.2.2≤(aB.length:Int)then some (v.2.1,aB.drop v.2.2.toNat,false)else none
theorem fO.mono:∀a0 a1 a2 k,aD (fO.f k a0 a1 a2) (fO.f (k+1) a0 a1 a2):=by
 intro a0 a1 a2 k;unfold fO.f;exact aD.bind (eO.mono _ _) (fun _=>aD.refl _)
set_option maxHeartbeats 2000000 in
set_option maxRecDepth 100000 in
theorem fO.calls (k:Nat) (g:Nat) (aB:List Int) (aR:Bool) (a1:Int) (r1:Int) (r2:List Int) (r3:Bool) (w0 w:World) (hI:aN w0 w g aB aR) (hB:Below w0.heap.size w0 w) (h:fO.f k aB aR a1=some (r1,r2,r3)):
 Calls Try.prog 120 #[.pointer (some ⟨g,0,none⟩),.int .i64 a1] w fun e w'=>e= .returned (.int .i64 r1)∧aN w0 w' g r2 r3∧Below w0.heap.size w0 w'∧aC w w' g none:=by
 have OP:=Try.underlying63;have hut:=Try.underlying102;obtain⟨A,c,hb,hg,hr,hc⟩:=hI;obtain⟨⟨t1,t2,t3⟩,hv,h2⟩:=Option.bind_eq_some_iff.mp h;clear h;have h:=h2;clear h2;have HV:=am hv;have HB:=am hB;have HR:=am (Kd.dV hr hB);have HC:=am hc;have HX:=am hb;have HG:=am hg;have NZ:=am hr;have hc0:w.cell? ⟨g,0,none⟩=some (.slice A aB.length c):=(aj hb 0).trans rfl;have hgl:g<w.heap.size:=dI hb;have HW:=am (Below.refl w.heap.size w);dsimp only at h;clear hv hB hr hc hb hg;go_enter Try.func120,Try.ntmps120;go_upto_region 2 with(first|(go_at_call 38;refine(eO.calls k A c aB t1 t2 t3 w HR.out HC.out HV.out).mono ?_;rintro e w4 ⟨rfl,hd⟩;have NC:=am hd;clear hd))
 have Mx:(w4.alloc (.cells #[.int .i64 t1,.int .i64 t2,.int .i64 t3] 63 (0,0))).heap[g]? =some (.cells #[.slice A aB.length c,.bool aR] 102 (0,0)):=aJ (bB HX.out NC.out) _;have MF:(w4.alloc (.cells #[.int .i64 t1,.int .i64 t2,.int .i64 t3] 63 (0,0))).heap[w4.heap.size]? =some (.cells #[.int .i64 t1,.int .i64 t2,.int .i64 t3] 63 (0,0)):=by rw[World.alloc];exact Array.getElem?_push_size
 have hgv:g≠w4.heap.size:=Nat.ne_of_lt (Nat.lt_of_lt_of_le hgl NC.out.size);have MS:=am (show Below w.heap.size w (w4.alloc (.cells #[.int .i64 t1,.int .i64 t2,.int .i64 t3] 63 (0,0)))from dn NC.out _);generalize(w4.alloc (.cells #[.int .i64 t1,.int .i64 t2,.int .i64 t3] 63 (0,0)))=w5 at Mx MF MS ⊢;generalize w4.heap.size=gv at MF hgv ⊢;have hg0:w5.cell? ⟨g,0,none⟩=some (.slice A aB.length c):=(aj Mx 0).trans rfl;have hg1:w5.cell? ⟨g,1,none⟩=some (.bool aR):=(aj Mx 1).trans rfl;have Nb:=aM Mx 0;have OM:=aM Mx 1;have hv0:w5.cell? ⟨gv,0,none⟩=some (.int .i64 t1):=(aj MF 0).trans rfl;have hv1:w5.cell? ⟨gv,1,none⟩=some (.int .i64 t2):=(aj MF 1).trans rfl;have hv2:w5.cell? ⟨gv,2,none⟩=some (.int .i64 t3):=(aj MF 2).trans rfl;clear hc0;by_cases cA:aR=true∨t1≠0∨t2>a1
 ·rw[if_pos cA]at h;simp only[Option.some.injEq,Prod.mk.injEq]at h;obtain⟨rfl,rfl,rfl⟩:=h;have HE:aN w0 (w5.setCell ⟨g,1,none⟩ (.bool true)) g aB true∧Below w0.heap.size w0 (w5.setCell ⟨g,1,none⟩ (.bool true))∧aC w (w5.setCell ⟨g,1,none⟩ (.bool true)) g none:=
   ⟨⟨A,c,bD (cs:=#[.slice A aB.length c,.bool aR]) Mx 1 _ rfl,HG.out,NZ.out,HC.out⟩,bI (bq HB.out MS.out) HG.out,aC.fQ (aC.of_below MS.out g none) _ _⟩
  have MO:=am HE;clear HE;by_cases c1:aR=true
  ·subst c1;clear cA;go_wp2;go_ret;exact⟨rfl,MO.out⟩
  ·have c1':=Bool.eq_false_iff.mpr c1;subst c1';by_cases c2:t1=0
   ·(have c3:t2>a1:=by rcases cA with h|h|h;exact absurd h c1;exact absurd c2 h;exact h);have Oi:(t1 != 0)=false:=bne_eq_false_iff_eq.2 c2;have OH:decide (t2>a1)=true:=dt c3;have OI:decide (a1<t2)=true:=dt c3;clear cA c1 c2 c3;go_wp2;go_ret;exact⟨rfl,MO.out⟩
   ·have Oi:(t1 != 0)=true:=bne_iff_ne.2 c2;clear cA c1 c2;go_wp2;go_ret;exact⟨rfl,MO.out⟩
 ·rw[if_neg cA]at h;have c1:aR=false:=Bool.eq_false_iff.mpr (fun h=>cA (.inl h));have c2:t1=0:=Classical.byContradiction fun h=>cA (.inr (.inl h));have c3:¬t2>a1:=fun h=>cA (.inr (.inr h));have Oi:(t1 != 0)=false:=bne_eq_false_iff_eq.2 c2;have OH:decide (t2>a1)=false:=decide_eq_false c3;have OI:decide (a1<t2)=false:=decide_eq_false c3;subst c1;clear cA c2 c3;by_cases c4:0≤t3∧t3≤(aB.length:Int)
  ·rw[if_pos c4]at h;simp only[Option.some.injEq,Prod.mk.injEq]at h;obtain⟨rfl,rfl,rfl⟩:=h;obtain⟨i5,hi5,hs5⟩:∃i,Try.prog.info? 5=some i∧i.size=1:=⟨_,rfl,rfl⟩;have hcut:=DI (P:=Try.prog) 22 5 .i64 Try.underlying22 hi5 1 hs5 A aB.length c t3 c4.1 (by omega);(go_upto_region 5 with fail);have MV:=bD (cs:=#[.slice A aB.length c,.bool false]) Mx 1 (.bool false) rfl;have Nq:=bT (p:=⟨g,1,none⟩) MF (Ne.symm hgv) (.bool false);have hb6:Below w0.heap.size w0 (w5.setCell ⟨g,1,none⟩ (.bool false)):=bI (bq HB.out MS.out) HG.out;have NH:aC w (w5.setCell ⟨g,1,none⟩ (.bool false)) g none:=aC.fQ (aC.of_below MS.out g none) 1 _;clear Mx MF hg0 hg1 Nb OM hv0 hv1 hv2;generalize(w5.setCell ⟨g,1,none⟩ (.bool false))=w6 at MV Nq hb6 NH ⊢;have hg0:w6.cell? ⟨g,0,none⟩=some (.slice A aB.length c):=(aj MV 0).trans rfl;have Nb:=aM MV 0;have hv2:w6.cell? ⟨gv,2,none⟩=some (.int .i64 t3):=(aj Nq 2).trans rfl;have Ox:=am hb6;have Oy:=am NH;have HR1:=am (Kd.Gb (m:=t3.toNat) NZ.out (by omega) HC.out);obtain⟨A1,hA1⟩:∃A1,A1=(if c=t3.toNat then A else A.map (·.add (t3.toNat*1))):=⟨_,rfl⟩;rw[←hA1]at hcut;have HA1:=am hA1;clear hA1 hb6 NH;go_still_tail 10,(by kernel_rfl);change wpList _ _ _ _ _ w6.drew;have MW:w6.drew.heap[g]? =_:=MV;have ND:w6.drew.heap[gv]? =_:=Nq;have NU:=am (show Below w0.heap.size w0 w6.drew from Ox.out.drew);have NY:=am (show aC w w6.drew g none from fK Oy.out);clear hg0 Nb hv2 MV Nq;generalize w6.drew=w7 at MW ND NU NY ⊢;have hg0:w7.cell? ⟨g,0,none⟩=some (.slice A aB.length c):=(aj MW 0).trans rfl;have Nb:=aM MW 0;(go_upto_region 6 with fail);have Od:=bD (cs:=#[.slice A aB.length c,.bool false]) MW 0 (.slice A1 (aB.length-t3.toNat) (c-t3.toNat)) rfl;have Oe:=bT (p:=⟨g,0,none⟩) ND (Ne.symm hgv) (.slice A1 (aB.length-t3.toNat) (c-t3.toNat));have HE:aN w0 (w7.setCell ⟨g,0,none⟩ (.slice A1 (aB.length-t3.toNat) (c-t3.toNat))) g (aB.drop t3.toNat) false∧Below w0.heap.size w0 (w7.setCell ⟨g,0,none⟩ (.slice A1 (aB.length-t3.toNat) (c-t3.toNat)))∧aC w (w7.setCell ⟨g,0,none⟩ (.slice A1 (aB.length-t3.toNat) (c-t3.toNat))) g none:=by
    refine⟨⟨A1,c-t3.toNat,?_,HG.out,?_,?_⟩,bI NU.out HG.out,aC.fQ NY.out _ _⟩
    ·rw[List.length_drop];exact Od
    ·rw[HA1.out];exact HR1.out
    ·rw[List.length_drop];have:=HC.out;omega
   have MO:=am HE;clear HE hg0 Nb MW ND Od;generalize(w7.setCell ⟨g,0,none⟩ (.slice A1 (aB.length-t3.toNat) (c-t3.toNat)))=w8 at Oe MO ⊢;have hv1:w8.cell? ⟨gv,1,none⟩=some (.int .i64 t2):=(aj Oe 1).trans rfl;go_wp2;go_ret;exact⟨rfl,MO.out⟩
  ·rw[if_neg c4]at h;cases h
def jZ.f (k:Nat) (aB:List Int) (aR:Bool):Option (Int×List Int×Bool):=(fO.f k aB aR 65535).bind fun MG=>((fO.f k MG.2.1 MG.2.2 65535).bind fun MH=>(some (wrap64 (MG.1+(wrap64 (65536*MH.1))),MH.2.1,MH.2.2)))
theorem jZ.mono:∀a0 a1 k,aD (jZ.f k a0 a1) (jZ.f (k+1) a0 a1):=by
 intro a0 a1 k;unfold jZ.f;repeat' with_reducible first|exact fO.mono _ _ _ _|exact aD.refl _|exact aD.none _|refine aD.ite ?_ ?_|refine aD.bind ?_ (fun _=>?_)
theorem jZ.calls (k:Nat) (g:Nat) (aB:List Int) (aR:Bool) (r1:Int) (r2:List Int) (r3:Bool) (w0 w:World) (hI:aN w0 w g aB aR) (hB:Below w0.heap.size w0 w) (h:jZ.f k aB aR=some (r1,r2,r3)):
 Calls Try.prog 121 #[.pointer (some ⟨g,0,none⟩)] w fun e w'=>e= .returned (.int .i64 r1)∧aN w0 w' g r2 r3∧Below w0.heap.size w0 w'∧aC w w' g none:=by
 have HI0:=am hI;have HK:=am (aC.refl w g none);have HL:=am hB.size;clear hI;have HW0:=am hB.size;have HB:=am hB;clear hB;have H:((fO.f k aB aR 65535).bind fun MG=>((fO.f k MG.2.1 MG.2.2 65535).bind fun MH=>(some (wrap64 (MG.1+(wrap64 (65536*MH.1))),MH.2.1,MH.2.2))))=some (r1,r2,r3):=h;clear h;replace H:=bO H;obtain⟨⟨OV,Oj,Ol⟩,NS,H⟩:=H;try dsimp only at H
 have A2:=am NS;clear NS;replace H:=bO H;obtain⟨⟨OW,OX,OY⟩,MR,H⟩:=H;try dsimp only at H
 have A3:=am MR;clear MR;simp only[Option.some.injEq,Prod.mk.injEq]at H;obtain⟨rfl,rfl,rfl⟩:=H;go_enter Try.func121,Try.ntmps121;go_wp2_with (first|((with_reducible refine gC (f:=120) rfl ?_);refine bG (some 5) rfl rfl Try.func120 (by kernel_rfl) rfl #[.pointer (some ⟨g,0,none⟩),.int .i64 65535] rfl pA ?_;(with_reducible refine(fO.calls k g aB aR 65535 OV Oj Ol w0 _ ?ML ?MN A2.out).mono ?_);(case ML=>exact qZ);(case MN=>exact ru);rintro e w4 ⟨rfl,hi,hb,hk⟩;refine⟨_,rfl,?_⟩;have n_:=t3 (aC.trans bV hk (.inl rfl)) (hb) (hi);clear HK HB HI0;obtain⟨HK,HB,HI0⟩:=n_;(try clear hb);(try clear hk);(try clear hi))|((with_reducible refine gC (f:=120) rfl ?_);refine bG (some 8) rfl rfl Try.func120 (by kernel_rfl) rfl #[.pointer (some ⟨g,0,none⟩),.int .i64 65535] rfl pA ?_;(with_reducible refine(fO.calls k g Oj Ol 65535 OW OX OY w0 _ ?ML ?MN A3.out).mono ?_);(case ML=>exact qZ);(case MN=>exact ru);rintro e w5 ⟨rfl,hi,hb,hk⟩;refine⟨_,rfl,?_⟩;have n_:=t3 (aC.trans bV hk (.inl rfl)) (hb) (hi);clear HK HB HI0;obtain⟨HK,HB,HI0⟩:=n_;(try clear hb);(try clear hk);(try clear hi)))
 go_ret;exact⟨pE,qZ,ru,bV⟩
def fG.l0:Nat→List Int→Int→Int→List Int→Bool→Option (List Int×List Int×Bool)
 |0,_,_,_,_,_=>none
 |k+1,x5,x9,x10,x1000,Ou=>if x10<x9 then((fO.f k x1000 Ou 65535).bind fun NG=>(if x5.length<17592186044416 then(fG.l0 k (x5++[NG.1]) x9 (wrap64 (x10+1)) NG.2.1 NG.2.2)else(none)))else(some (x5,x1000,Ou))
def fG.f (k:Nat) (aB:List Int) (aR:Bool) (a1:Int):Option (List Int×List Int×Bool):=(fO.f k aB aR a1).bind fun Al=>(fG.l0 k (([]:List Int)) Al.1 0 Al.2.1 Al.2.2)
theorem fG.cO:∀k,(∀y0 y1 y2 y3 y4,aD (fG.l0 k y0 y1 y2 y3 y4) (fG.l0 (k+1) y0 y1 y2 y3 y4))
 |0=>fun _ _ _ _ _ r h=>by simp[fG.l0]at h
 |k+1=>by
  have MC:=fG.cO k
  ·intro y0 y1 y2 y3 y4
   unfold fG.l0
   repeat' with_reducible first|exact MC _ _ _ _ _|exact fO.mono _ _ _ _|exact aD.refl _|exact aD.none _|refine aD.ite ?_ ?_|refine aD.bind ?_ (fun _=>?_)
theorem fG.mono:∀a0 a1 a2 k,aD (fG.f k a0 a1 a2) (fG.f (k+1) a0 a1 a2):=by
 intro a0 a1 a2 k;have MC:=fG.cO k;unfold fG.f;repeat' with_reducible first|exact MC _ _ _ _ _|exact fO.mono _ _ _ _|exact aD.refl _|exact aD.none _|refine aD.ite ?_ ?_|refine aD.bind ?_ (fun _=>?_)
theorem fG.calls (k:Nat) (g:Nat) (aB:List Int) (aR:Bool) (a1:Int) (r1:List Int) (r2:List Int) (r3:Bool) (w0 w:World) (hI:aN w0 w g aB aR) (hB:Below w0.heap.size w0 w) (h:fG.f k aB aR a1=some (r1,r2,r3)):
 Calls Try.prog 122 #[.pointer (some ⟨g,0,none⟩),.int .i64 a1] w fun e w'=>∃Oq:Value,e= .returned (Oq)∧Kd.R (Kd.int .i64) 2 w' w.heap.size (fun _=>True) Oq r1∧aN w0 w' g r2 r3∧Below w0.heap.size w0 w'∧aC w w' g none:=by
 have HI0:=am hI;have HK:=am (aC.refl w g none);have HL:=am hB.size;clear hI;have HW0:=am hB.size;have HB:=am hB;clear hB;have H:((fO.f k aB aR a1).bind fun Al=>(fG.l0 k (([]:List Int)) Al.1 0 Al.2.1 Al.2.2))=some (r1,r2,r3):=h;clear h;obtain⟨Ov,Nf⟩:∃y_:List Int,y_=(([]:List Int)):=⟨_,rfl⟩;replace H:((fO.f k aB aR a1).bind fun Al=>(fG.l0 k Ov Al.1 0 Al.2.1 Al.2.2))=some (r1,r2,r3):=by first|(rw[Nf];with_reducible exact H)|(have ME:=(Option.bind_some _ _).symm.trans H;rw[Nf];with_reducible exact ME)|(have ME:=(Option.bind_some _ _).symm.trans H;with_reducible exact ME)|with_reducible exact H|(rw[Nf];exact H)|exact H
 have Oc:=am Nf;clear Nf;replace H:=bO H;obtain⟨⟨Nv,Om,Oo⟩,MR,H⟩:=H;try dsimp only at H
 have A3:=am MR;clear MR;have H':=am H;clear H;go_enter Try.func122,Try.ntmps122;go_wp2_with (first|((with_reducible refine cB (N:=6) rfl ?_);refine Kd.jW (Kd.int .i64) _ 2 ?hg (N:=6) ?hd (xs:=([]:List Int)) (inner:=[]) (ok:=fun _=>True) (bS:=fun _=>True) ?hr ?hp (fun _ hk=>hk) trivial (Below.refl _ _) (Nat.le_refl _) (by simp) ?_;(case hd=>rfl);(case hg=>rfl);(case hr=>first|(go_simp;done)|(go_simp;rfl));(case hp=>exact(aX.none _ _));intro PL w4 Nc hb OL OO;clear OL OO;(first|rw[←Oc.out]at Nc|(simp only[Int.reduceToNat]at Nc;rw[←Oc.out]at Nc));have n_:=t4 (rL Nc (bL (w:=w) (g:=g) (row:=none) bV)) (aN.below qZ hb) (aC.trans bV (aC.of_below hb g none) (.inl rfl)) (bq ru hb);clear HI0 HK HB;obtain⟨Np,HI0,HK,HB⟩:=n_;clear hb Nc)|((with_reducible refine gC (f:=120) rfl ?_);refine bG (some 9) rfl rfl Try.func120 (by kernel_rfl) rfl #[.pointer (some ⟨g,0,none⟩),.int .i64 a1] rfl pA ?_;(with_reducible refine(fO.calls k g aB aR a1 Nv Om Oo w0 _ ?ML ?MN A3.out).mono ?_);(case ML=>exact qZ);(case MN=>exact ru);rintro e w6 ⟨rfl,hi,hb,hk⟩;refine⟨_,rfl,?_⟩;have n_:=t4 (Kd.bn (Kd.fq (aN.apart (show aN w0 _ g aB aR from by repeat(first|(with_reducible first|exact HI0.out|apply aN.alloc|apply aN.drewN|apply aN.drew|apply aN.iW|apply aN.bF)|exact HI0.out)) (pR Np) (by decide)) hk (fun _ h=>h.2)) (fun _ h=>h.1)) (aC.trans bV hk (.inl rfl)) (hb) (hi);clear Np HK HB HI0;obtain⟨Np,HK,HB,HI0⟩:=n_;(try clear hb);(try clear hk);(try clear hi)))
 go_loopg [5,10] k (fun kq v5 v10 w'=>∃(Nn:List Int) (MQ:Int) (Nh:List Int) (Nl:Bool),v10= .int .i64 MQ∧au (fG.l0 kq Nn Nv MQ Nh Nl=some (r1,r2,r3))∧au (kq≤k)∧au (Kd.R (Kd.int .i64) 2 w' w.heap.size (fun _=>True) v5 Nn)∧au (aN w0 w' g Nh Nl)∧au (aC w w' g none)∧au (Below w0.heap.size w0 w'))
 case atStart=>exact⟨(Ov),(0),(Om),(Oo),pF,H',⟨Nat.le_refl _⟩,⟨(pR Np)⟩,⟨by repeat(first|(with_reducible first|exact HI0.out|apply aN.alloc|apply aN.drewN|apply aN.drew|apply aN.iW|apply aN.bF)|exact HI0.out)⟩,⟨by repeat(first|(with_reducible first|exact HK.out|apply aC.fQ|apply gH|apply fK|apply gG)|exact HK.out)⟩,⟨by repeat(first|(with_reducible first|exact HB.out|apply dn|apply eu|apply dz|refine bI ?_ (aN.ge HI0.out))|exact HB.out)⟩⟩
 case round=>
  clear H';obtain⟨Nn,MQ,Nh,Nl,rfl,HA,NW,Mw,HI0,HK,HB⟩:=hrel;cases gk with
  |zero=>exact absurd HA.out (by simp[fG.l0])
  |succ k1=>
   have H:=HA.out;clear HA;simp only[fG.l0]at H;by_cases c7:MQ<Nv
   ·rw[if_pos c7]at H;have OJ:=dt c7;clear c7;replace H:=bO H;obtain⟨⟨Nw,NQ,NR⟩,NT,H⟩:=H;(try dsimp only at H);have A8:=am NT;clear NT;replace H:=vG H;obtain⟨c9,H⟩:=H;have OB:=am c9;clear c9;obtain⟨Ow,Ng⟩:∃y_:List Int,y_=(Nn++[Nw]):=⟨_,rfl⟩;(replace H:(fG.l0 k1 Ow Nv (wrap64 (MQ+1)) NQ NR)=some (r1,r2,r3):=by first|(rw[Ng];with_reducible exact H)|(have ME:=(Option.bind_some _ _).symm.trans H;rw[Ng];with_reducible exact ME)|(have ME:=(Option.bind_some _ _).symm.trans H;with_reducible exact ME)|with_reducible exact H|(rw[Ng];exact H)|exact H);have OC:=am Ng;clear Ng;have H':=am H;clear H;(go_wp2_with (first|((with_reducible refine gC (f:=120) rfl ?_);refine bG (some 14) rfl rfl Try.func120 (by kernel_rfl) rfl #[.pointer (some ⟨g,0,none⟩),.int .i64 65535] rfl pA ?_;(with_reducible refine(fO.calls k1 g Nh Nl 65535 Nw NQ NR w0 _ ?ML ?MN A8.out).mono ?_);(case ML=>exact qZ);(case MN=>exact ru);rintro e PO ⟨rfl,hi,hb,hk⟩;refine⟨_,rfl,?_⟩;have n_:=t4 (Kd.bn (Kd.fq (aN.apart (show aN w0 _ g Nh Nl from by repeat(first|(with_reducible first|exact HI0.out|apply aN.alloc|apply aN.drewN|apply aN.drew|apply aN.iW|apply aN.bF)|exact HI0.out)) (pR Mw) (by decide)) hk (fun _ h=>h.2)) (fun _ h=>h.1)) (aC.trans bV hk (.inl rfl)) (hb) (hi);clear Mw HK HB HI0;obtain⟨Mw,HK,HB,HI0⟩:=n_;(try clear hb);(try clear hk);(try clear hi))|((with_reducible refine gB (b:=.append) (xs:=#[.tmp 12,.tmp 15]) rfl ?_);at_builtin;refine Kd.rC (Kd.int .i64) w.heap.size rfl (.tmp 12) (.tmp 15) 32 2 (.int .i64 0) 8 rfl Try.underlying32 sM rfl (by decide) (by omega) u5 Nn Nw [.int .i64 Nw] (fun _=>True) (fun _=>False) rfl rfl ?aP (fun _ hk=>hk.elim) ?aF ?aO (Below.refl _ _) ?aS ?aL ?_;(case aP=>exact rfl);(case aF=>exact(fun _ _=>trivial));(case aO=>exact(pR Mw));(case aS=>exact(bL (w:=w) (g:=g) (row:=none) bV));(case aL=>have:=OB.out;omega);intro PN PS ho hb hg hat;rw[←OC.out]at ho;have n_:=t4 (aN.grown qZ hg (aN.own_ne HI0.out Mw.out (by decide))) (oI ru HL.out hb) (aC.trans bV (aC.nK hg g) (Kd.tQ Mw.out)) (ho);clear HI0 HB HK Mw;obtain⟨HI0,HB,HK,Oz⟩:=n_;clear ho hb hg hat)));go_roundg k1
    case measure=>have:=NW.out;omega
    case rel=>exact⟨(Ow),(wrap64 (MQ+1)),(NQ),(NR),pF,H',⟨by have:=NW.out;omega⟩,⟨(pR Oz)⟩,⟨by repeat(first|(with_reducible first|exact HI0.out|apply aN.alloc|apply aN.drewN|apply aN.drew|apply aN.iW|apply aN.bF)|exact HI0.out)⟩,⟨by repeat(first|(with_reducible first|exact HK.out|apply aC.fQ|apply gH|apply fK|apply gG)|exact HK.out)⟩,⟨by repeat(first|(with_reducible first|exact HB.out|apply dn|apply eu|apply dz|refine bI ?_ (aN.ge HI0.out))|exact HB.out)⟩⟩
   ·rw[if_neg c7]at H;have OJ:=decide_eq_false c7;clear c7;simp only[Option.some.injEq,Prod.mk.injEq]at H;obtain⟨rfl,rfl,rfl⟩:=H;go_wp2;go_ret;exact⟨_,pE,(pR Mw),qZ,ru,bV⟩
end Go.Proofs.Ythjlbpgiaehjnaa.QFnTxs
