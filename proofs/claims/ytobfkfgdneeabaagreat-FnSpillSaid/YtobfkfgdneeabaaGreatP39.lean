/-
  Parts of the proofs for this seat: FD LZ.
-/
import Derived.Test.YtobfkfgdneeabaaGreatP38
set_option linter.all false
set_option maxRecDepth 100000
set_option maxHeartbeats 4000000
namespace Go.Proofs.YtobfkfgdneeabaaGreat
open Go.AM
def Rm(R:Rs):Prop:=∃(c:Zo) (b:Box),R=some (.agg (b.c.map .t),[cB c])/\GC c/\b.Low.length<=17/\b.High.length<=17
def Rm.of{R R':Rs}(h:Rm R')(k:∀r,R'=some r->R=some r):Rm R:=by
 obtain⟨n,x,e,l⟩:=h;exact⟨n,x,k _ e,l⟩
def wV(q:Zc)(hq:AW q)(M:Nat)(hM:ZU q.Zi q.Atoms+1=M):∀i,i<=M->∀c x x1 x2,GC c->x.length<=i->x1.length<=i->x1≠[]->Rm (Qi c q x x1 x2 i):=by
 have f:=bD q.Zi q.Atoms;refine down _ ?_ ?_
 .intro c x x1 x2 g hx hx1 hn;obtain⟨c1,b,e1,g1⟩:=Vh g 20;rcases tf b with hb|hb
  .subst hb;refine⟨c1,⟨x,x1⟩,ZY.2.2.2.2.2 _ _ _ _ _ _ _ ⟨_,W5 q hq,?_⟩,g1,by show x.length<=_;omega,by show x1.length<=_;omega⟩;rw[Ao];exact⟨c1,false,e1,by rw[Yb Z];rfl⟩
  .subst hb;obtain⟨c2,k,e2,g2,_⟩:=QO g1 [-1,7,8] Z Z;have h0:0<x1.length:=CE.2 hn;refine⟨c2,⟨x,x1.set 0 k⟩,ZY.2.2.2.2.2 _ _ _ _ _ _ _ ⟨_,W5 q hq,?_⟩,g2,by show x.length<=_;omega,by show(x1.set 0 k).length<=_;simp;omega⟩;rw[Ao];exact⟨c1,true,e1,by rw[Ya rfl];exact⟨c2,_,k,e2,x1[0],by simp[h0],rfl⟩⟩
 .intro i hi ih c x x1 x2 g hx hx1 hn;by_cases hp:(Ai ((i:Nat):Int) (w (((i:Nat):Int)-1)))=0
  .by_cases h0:0<((i:Nat):Int)
   .obtain⟨c1,n,e1,g1,_⟩:=XI g 3;refine(ih c1 (x++[n]) (x1++[n]) x2 g1 (by simp;omega) (by simp;omega) Z).of λr e=>ZY.2.2.2.2.2 _ _ _ _ _ _ _ ⟨_,W5 q hq,?_⟩
    grind [wN]
   .simp_all
  .by_cases h0:0<((i:Nat):Int)
   .rcases tf (WW q.Zi q.Atoms ((i:Nat):Int))with hc|hc
    .refine(ih c (x++[0]) (x1++[0]) x2 g (by simp;omega) (by simp;omega) Z).of λr e=>ZY.2.2.2.2.2 _ _ _ _ _ _ _ ⟨_,W5 q hq,?_⟩
     rw[An,Yb hp,Ya h0];refine⟨_,QM q hq _,?_⟩
     grind [wN]
    .obtain⟨c1,n,e1,g1,_⟩:=XI g 3;by_cases h3:x2<3
     .obtain⟨c2,b,e2,g2⟩:=Vh g1 4;rcases tf b with hb|hb
      .subst hb;obtain⟨c3,k,e3,g3,_⟩:=XI g2 3;refine(ih c3 (x++[n]) (x1++[(w ((w (n+1))+k))]) (w (x2+1)) g3 (by simp;omega) (by simp;omega) Z).of λr e=>ZY.2.2.2.2.2 _ _ _ _ _ _ _ ⟨_,W5 q hq,?_⟩
       grind [QM,wN]
      .subst hb;refine(ih c2 (x++[n]) (x1++[n]) x2 g2 (by simp;omega) (by simp;omega) Z).of λr e=>ZY.2.2.2.2.2 _ _ _ _ _ _ _ ⟨_,W5 q hq,?_⟩
       grind [QM,wN]
     .refine(ih c1 (x++[n]) (x1++[n]) x2 g1 (by simp;omega) (by simp;omega) Z).of λr e=>ZY.2.2.2.2.2 _ _ _ _ _ _ _ ⟨_,W5 q hq,?_⟩
      rw[An,Yb hp,Ya h0];refine⟨_,QM q hq _,?_⟩
      grind [wN]
   .simp_all
def ZU9{c:Zo}(g:GC c)(q:Zc)(hq:AW q):Rm (Zpf c q):=by
 have f:=bD q.Zi q.Atoms;have hM:ZU q.Zi q.Atoms+1=((ZU q.Zi q.Atoms+1).toNat:Int):=by omega
 refine(?_:Rm (lV c q 0 ((0:Nat):Int))).of λr e=>ZCn.1 _ _ _ e
 have ih:∀c x x1 x2,GC c->x.length<=1->x1.length<=1->x1≠[]->Rm (Qi c q x x1 x2 ((1:Nat):Int)):=wV q hq _ hM 1 E;refine(ih c [0] [0] 0 g Z Z Z).of λr e=>ZY.2.2.2.2.1 _ _ _ _ _ ⟨_,W5 q hq,?_⟩
 rw[An,Ya Om,Yb Om];exact e
def ZUA{c:Zo}(g:GC c)(l:List KI)(h0:l≠[])(hl:l.length<=256):∃c' e,ZnY c l=some (.t (.str e),[cB c'])/\GC c'/\e∈l:=by
 have hp:=CE.2 h0;obtain⟨c1,n,e,g1,n0,n1⟩:=XI g l.length;obtain⟨e',he,hm⟩:=bL (l:=l) n0 (n1 E)
 grind [XG.1.2.1.2]
def GQ(R:Rs):Prop:=∃(c:Zo) (q:Zc),R=some (.agg (q.c.map .t),[cB c])/\GC c/\AW q
def ZUB{c:Zo}(g:GC c):GQ (ZnZ c):=by
 obtain⟨c1,n,x,e1,g1,hx⟩:=ZSo g;by_cases h3:3<(x.length:Int)
 .obtain⟨c2,b,e2,g2⟩:=Vh g1 8;rcases tf b with hb|hb
  .subst hb;obtain⟨c3,s,e3,g3,hs⟩:=ZUA g2 [(⟨#[114,40,88,89,41,32,115,40,89,90,41]⟩:KI),(⟨#[114,40,88,89,41,32,115,40,89,90,41,32,116,40,90,88,41]⟩:KI),(⟨#[114,40,88,89,41,32,115,40,89,90,41,32,118,40,89,41]⟩:KI),(⟨#[114,40,88,89,41,32,114,40,89,90,41]⟩:KI)] Z Z;have hz:UQ s:=by
    grind [pq1,pq3,pq5,pq9]
   obtain⟨n',x',e4,hx'⟩:=hz;exact⟨c3,⟨n',x'⟩,XG.1.2.2.1 _ _ ⟨c1,x,n,e1,by rw[Ya h3];exact⟨c2,false,e2,by rw[Yb Z];exact⟨c3,s,e3,x',n',true,e4,rfl⟩⟩⟩,g3,Zr6 hx'⟩
  .subst hb;exact⟨c2,⟨n,x⟩,XG.1.2.2.1 _ _ ⟨c1,x,n,e1,by rw[Ya h3];exact⟨c2,true,e2,by rw[Ya rfl];rfl⟩⟩,g2,Zr6 hx⟩
 .exact⟨c1,⟨n,x⟩,XG.1.2.2.1 _ _ ⟨c1,x,n,e1,by rw[Yb h3];rfl⟩,g1,Zr6 hx⟩
def ZUC{c:Zo}(g:GC c):GQ (jF c):=by
 obtain⟨c1,q,e1,g1,hq⟩:=ZUB g;rcases tf (WW q.Zi q.Atoms (ZU q.Zi q.Atoms))with hc|hc
 .obtain⟨n,x,e4,hx⟩:=pq1;exact⟨c1,⟨n,x⟩,XG.2.2.2.2.2 _ _ ⟨c1,q,e1,_,W5 q hq,_,QM q hq _,by rw[hc,Yb Z];exact⟨x,n,true,e4,rfl⟩⟩,g1,Zr6 hx⟩
 .exact⟨c1,q,XG.2.2.2.2.2 _ _ ⟨c1,q,e1,_,W5 q hq,_,QM q hq _,by rw[hc,Ya rfl]⟩,g1,hq⟩
def cM(R:Rs):Prop:=∃(c:Zo) (f:Z9),R=some (.agg (f.c.map .t),[cB c])/\GC c/\f.From.length<=10
def cM.of{R R':Rs}(h:cM R')(q:∀r,R'=some r->R=some r):cM R:=by
 obtain⟨c,x,e,l⟩:=h;exact⟨c,x,q _ e,l⟩
def wW(a:KI)(b:Int)(nm:KI)(to:Int)(m:Nat)(hm:m<=3):∀i,i<=m->∀c x,GC c->x.length<=i->cM (Sp c a b nm to x m i):=by
 refine down _ ?_ ?_
 .intro c x g hx;obtain⟨c2,v,e2,g2⟩:=Vh g 14;rcases tf v with hv|hv<;>subst hv
  .obtain⟨c4,u,e4,g4⟩:=Vh g2 16;rcases tf u with hu|hu<;>subst hu
   .exact⟨c4,⟨nm,x,to⟩,Xg.1.1.2.1 _ _ _ _ _ _ _ _ _ (by rw[Ao];exact⟨c2,false,e2,by rw[Yb Z];exact⟨c4,false,e4,by rw[Yb Z];rfl⟩⟩),g4,by show x.length<=_;omega⟩
   .obtain⟨c5,n,e5,g5,_⟩:=QO g4 [-1,0,3,9223372036854775807] Z Z;exact⟨c5,⟨nm,x++[n],to⟩,Xg.1.1.2.1 _ _ _ _ _ _ _ _ _ (by rw[Ao];exact⟨c2,false,e2,by rw[Yb Z];exact⟨c4,true,e4,by rw[Ya rfl];exact⟨c5,_,n,e5,E,rfl⟩⟩⟩),g5,by show(x++[n]).length<=_;simp;omega⟩
  .obtain⟨c3,k,e3,g3,_⟩:=QO g2 [-1,3,0] Z Z;obtain⟨c4,u,e4,g4⟩:=Vh g3 16;rcases tf u with hu|hu<;>subst hu
   .exact⟨c4,⟨nm,x,k⟩,Xg.1.1.2.1 _ _ _ _ _ _ _ _ _ (by rw[Ao];exact⟨c2,true,e2,by rw[Ya rfl];exact⟨c3,_,k,e3,c4,false,e4,by rw[Yb Z];rfl⟩⟩),g4,by show x.length<=_;omega⟩
   .obtain⟨c5,n,e5,g5,_⟩:=QO g4 [-1,0,3,9223372036854775807] Z Z;exact⟨c5,⟨nm,x++[n],k⟩,Xg.1.1.2.1 _ _ _ _ _ _ _ _ _ (by rw[Ao];exact⟨c2,true,e2,by rw[Ya rfl];exact⟨c3,_,k,e3,c4,true,e4,by rw[Ya rfl];exact⟨c5,_,n,e5,E,rfl⟩⟩⟩),g5,by show(x++[n]).length<=_;simp;omega⟩
 .intro i hi ih c x g hx;by_cases h:(i:Int)=to
  .refine(ih c x g E).of λr e=>Xg.1.1.2.1 _ _ _ _ _ _ _ _ _ ?_
   grind [wN]
  .obtain⟨c1,v,e1,g1⟩:=Vh g 2;rcases tf v with hv|hv<;>subst hv
   .refine(ih c1 x g1 E).of λr e=>Xg.1.1.2.1 _ _ _ _ _ _ _ _ _ ?_
    grind [wN]
   .refine(ih c1 (x++[(i:Int)]) g1 (by simp;omega)).of λr e=>Xg.1.1.2.1 _ _ _ _ _ _ _ _ _ ?_
    grind [wN]
def AbK(a:KI)(b:Int)(nm:KI)(to:Int)(m:Nat)(hm:m<=3):∀i,i<=m->∀c,GC c->cM (Mu c a b nm to m i):=by
 refine down _ ?_ ?_
 .intro c g;obtain⟨c2,v,e2,g2⟩:=Vh g 14;rcases tf v with hv|hv<;>subst hv
  .obtain⟨c4,u,e4,g4⟩:=Vh g2 16;rcases tf u with hu|hu<;>subst hu
   .exact⟨c4,⟨nm,[],to⟩,Xg.1.1.1.2 _ _ _ _ _ _ _ _ (by rw[Ao];exact⟨c2,false,e2,by rw[Yb Z];exact⟨c4,false,e4,by rw[Yb Z];rfl⟩⟩),g4,Z⟩
   .obtain⟨c5,n,e5,g5,_⟩:=QO g4 [-1,0,3,9223372036854775807] Z Z;exact⟨c5,⟨nm,[n],to⟩,Xg.1.1.1.2 _ _ _ _ _ _ _ _ (by rw[Ao];exact⟨c2,false,e2,by rw[Yb Z];exact⟨c4,true,e4,by rw[Ya rfl];exact⟨c5,_,n,e5,rfl⟩⟩⟩),g5,Z⟩
  .obtain⟨c3,k,e3,g3,_⟩:=QO g2 [-1,3,0] Z Z;obtain⟨c4,u,e4,g4⟩:=Vh g3 16;rcases tf u with hu|hu<;>subst hu
   .exact⟨c4,⟨nm,[],k⟩,Xg.1.1.1.2 _ _ _ _ _ _ _ _ (by rw[Ao];exact⟨c2,true,e2,by rw[Ya rfl];exact⟨c3,_,k,e3,c4,false,e4,by rw[Yb Z];rfl⟩⟩),g4,Z⟩
   .obtain⟨c5,n,e5,g5,_⟩:=QO g4 [-1,0,3,9223372036854775807] Z Z;exact⟨c5,⟨nm,[n],k⟩,Xg.1.1.1.2 _ _ _ _ _ _ _ _ (by rw[Ao];exact⟨c2,true,e2,by rw[Ya rfl];exact⟨c3,_,k,e3,c4,true,e4,by rw[Ya rfl];exact⟨c5,_,n,e5,rfl⟩⟩⟩),g5,Z⟩
 .intro i hi ih c g;by_cases h:(i:Int)=to
  .refine(ih c g).of λr e=>Xg.1.1.1.2 _ _ _ _ _ _ _ _ ?_
   grind [wN]
  .obtain⟨c1,v,e1,g1⟩:=Vh g 2;rcases tf v with hv|hv<;>subst hv
   .refine(ih c1 g1).of λr e=>Xg.1.1.1.2 _ _ _ _ _ _ _ _ ?_
    grind [wN]
   .refine(wW a b nm to m hm (i+1) E c1 [(i:Int)] g1 Z).of λr e=>Xg.1.1.1.2 _ _ _ _ _ _ _ _ ?_
    grind [wN]
def ZUD{c:Zo}(g:GC c):cM (gW c):=by
 obtain⟨c1,k,e1,g1,k0,k1⟩:=XI g 5;obtain⟨⟨nm,h1⟩,m,h2,hm⟩:=Pg k0 (k1 E);obtain⟨c2,to,e2,g2,_⟩:=XI g1 m;exact(AbK ⟨#[]⟩ 0 nm to m hm 0 E c2 g2).of λr e=>ZNe _ _ ⟨c1,k,e1,k0,_,h2,_,h1,c2,to,e2,e⟩
def GIn(R:Rs):Prop:=∃(c:Zo) (x:Z2),R=some (.agg (x.c.map .t),[cB c])/\GC c
def ZUE{c:Zo}(g:GC c):GIn (Sz c):=by
 obtain⟨c1,s,e1,g1,_⟩:=Z3u g QQ Z Z;obtain⟨c2,k,e2,g2,_⟩:=XI g1 2;obtain⟨c3,t,e3,g3,_⟩:=Z3u g2 QQ Z Z;obtain⟨c4,j,e4,g4,_⟩:=XI g3 2;obtain⟨c5,v,e5,g5⟩:=Vh g4 14;obtain⟨c6,n,e6,g6,_⟩:=QO g5 [-1,3] Z Z;have go:∀r,_->Sz c=some r:=λr h=>ZNh _ r ⟨c1,_,s,e1,c2,k,e2,c3,_,t,e3,c4,j,e4,h⟩
 by_cases hs:s=(⟨#[118]⟩:KI)<;>by_cases ht:t=(⟨#[118]⟩:KI)<;>rcases tf v with hv|hv<;>subst hv
 .exact⟨c5,⟨s,0,t,0⟩,go _ (by rw[Ya hs,Ya ht];exact⟨c5,false,e5,by rw[Yb Z];rfl⟩),g5⟩
 .exact⟨c6,⟨s,n,t,0⟩,go _ (by rw[Ya hs,Ya ht];exact⟨c5,true,e5,by rw[Ya rfl];exact⟨c6,_,n,e6,rfl⟩⟩),g6⟩
 .exact⟨c5,⟨s,0,t,j⟩,go _ (by rw[Ya hs,Yb ht];exact⟨c5,false,e5,by rw[Yb Z];rfl⟩),g5⟩
 .exact⟨c6,⟨s,n,t,j⟩,go _ (by rw[Ya hs,Yb ht];exact⟨c5,true,e5,by rw[Ya rfl];exact⟨c6,_,n,e6,rfl⟩⟩),g6⟩
 .exact⟨c5,⟨s,k,t,0⟩,go _ (by rw[Yb hs,Ya ht];exact⟨c5,false,e5,by rw[Yb Z];rfl⟩),g5⟩
 .exact⟨c6,⟨s,n,t,0⟩,go _ (by rw[Yb hs,Ya ht];exact⟨c5,true,e5,by rw[Ya rfl];exact⟨c6,_,n,e6,rfl⟩⟩),g6⟩
 .exact⟨c5,⟨s,k,t,j⟩,go _ (by rw[Yb hs,Yb ht];exact⟨c5,false,e5,by rw[Yb Z];rfl⟩),g5⟩
 .exact⟨c6,⟨s,n,t,j⟩,go _ (by rw[Yb hs,Yb ht];exact⟨c5,true,e5,by rw[Ya rfl];exact⟨c6,_,n,e6,rfl⟩⟩),g6⟩
def ZUF(fs:List Z9)(hf:cD fs)(hl:fs.length<=1000):∀i,i<=fs.length->iU (fs.take i) fs i=some (.own 0,[.arr 152 3 true (fs.map Z9.c)]):=by
 refine down _ ?_ ?_
 .apply XK.2.1.2.2;simp
 .intro i hi ih;apply XK.2.1.2.2
  grind [wS,Lr,gE,List.getElem_mem,List.length_take]
def ZUG(fs:List Z9)(hf:cD fs)(hl:fs.length<=1000):ZnP fs=some (.own 0,[.arr 152 3 true (fs.map Z9.c)]) :=
 XK.2.2.1.1 _ _ (by simpa using ZUF fs hf hl 0 (Yc _))
open Classical in
def ZUH{d:Zj}(h5:d.Tables.length<=5)(ht:∀t∈d.Tables,Hm t){fs:List Z9}(hf:cD fs)(hl:fs.length<=1000){xs:List Z2}(hx:xs.length<=4):∃(s:Zs) (b:Bool),ZnQ d fs xs=some (.tup [.agg (s.c.map .t),Bo b],[])/\Qt s:=by
 have hd:=Hm.le h5 ht;have hX:Le xs:=by omega
 have hb:=ZGb hd 1;have z:Qt ⟨⟨[]⟩,⟨0,[]⟩,[],[]⟩:=⟨⟨Z,Z⟩,⟨Z,Z⟩,⟨Z,Z⟩,Z⟩;rcases tf (WC d && Am 1 1 999)with e|e
 .exact⟨_,_,XK.2.2.1.2 _ _ _ _ ⟨_,_,hb,by rw[e,Yb Om];rfl⟩,z⟩
 .have hv:WC d=true:=by simp only[Yf]at e;exact e.1
  rcases tf (ZrT d fs xs)with k|k
  .exact⟨_,_,XK.2.2.1.2 _ _ _ _ ⟨_,_,hb,by rw[e,Ya rfl];exact⟨_,Z3L hd hf hX,by rw[k,Yb Om];rfl⟩⟩,z⟩
  .have hc:bZ d 1=⟨1,d.Tables.map ZJ⟩:=by unfold bZ;rw[Ya e]
   have hT:LfD d:=⟨E,λt h=>⟨by have:=(ht t h).1;omega,λr hr=>by have:=(ht t h).2 r hr;omega⟩⟩;exact⟨⟨d,⟨1,d.Tables.map ZJ⟩,fs,xs⟩,true,XK.2.2.1.2 _ _ _ _ ⟨_,_,hb,by rw[e,Ya rfl];exact⟨_,Z3L hd hf hX,by rw[k,Ya rfl];exact⟨d.Tables,ZT7 d hT,fs,ZUG fs hf hl,E,by rw[hc];rfl⟩⟩⟩,⟨hd,ZGj hv,hf,hX⟩⟩
def cN(R:Rs):Prop:=∃(c:Zo) (s:Zs),R=some (.agg (s.c.map .t),[cB c])/\GC c/\Qt s
def cN.of{R R':Rs}(h:cN R')(q:∀r,R'=some r->R=some r):cN R:=by
 obtain⟨c,x,e,l⟩:=h;exact⟨c,x,q _ e,l⟩
section
variable{d:Zj}(h5:d.Tables.length<=5)(ht:∀t∈d.Tables,Hm t)(V:Int)
include h5 ht
theorem Zsb{fs:List Z9}(hf:cD fs)(hl:fs.length<=1000):∀n:Nat,n<=100->∀c fr (xs:List Z2),GC c->xs.length<=4->cN (iW c V d fr fs xs n)
 |0,_,c,fr,xs,g,hx=>by
  obtain⟨s,b,e,hs⟩:=ZUH h5 ht hf hl (xs:=xs) hx
  exact⟨c,s,XK.2.2.2.2.1 _ _ _ _ _ _ _ _ (by rw[Ao];exact⟨_,_,e,rfl⟩),g,hs⟩
 |n+1,hn,c,fr,xs,g,hx=>by
  obtain⟨c1,x,e1,g1⟩:=ZUE g;have hw:w (((n+1:Nat):Int)-1)=(n:Int):=by rw[WX E E];omega
  have hI:=ZGi (Hm.le h5 ht) x;rcases tf (cC d x)with k|k
  .refine(Zsb hf hl n E c1 fr xs g1 hx).of λr e=>XK.2.2.2.2.1 _ _ _ _ _ _ _ _ ?_
   grind
  .by_cases h4:(xs.length:Int)<4
   .refine(Zsb hf hl n E c1 fr (xs++[x]) g1 (by simp;omega)).of λr e=>XK.2.2.2.2.1 _ _ _ _ _ _ _ _ ?_
    grind
   .refine(Zsb hf hl n E c1 fr xs g1 hx).of λr e=>XK.2.2.2.2.1 _ _ _ _ _ _ _ _ ?_
    grind
theorem Rn:∀n:Nat,n<=100->∀c fr (fs:List Z9),GC c->fs.length+n<=100->(∀f∈fs,f.From.length<=10)->cN (SK c V d fr fs n)
 |0,_,c,fr,fs,g,hl,hf=>by
  obtain⟨c1,k,e1,g1,k0,k1⟩:=XI g 12;obtain⟨n,rfl⟩:∃n:Nat,k=n:=⟨k.toNat,E⟩;have:=k1 E;refine(Zsb h5 ht V (fs:=fs) ⟨E,λf h=>by have:=hf f h;omega⟩ E n E c1 fr [] g1 Z).of λr e=>XK.2.2.2.1 _ _ _ _ _ _ _ ?_
  grind
 |n+1,hn,c,fr,fs,g,hl,hf=>by
  obtain⟨c1,x,e1,g1,hx⟩:=ZUD g;have hw:w (((n+1:Nat):Int)-1)=(n:Int):=by rw[WX E E];omega
  have hI:=ZGf (Hm.le h5 ht) x E;rcases tf (uQ d x)with k|k
  .refine(Rn n E c1 fr fs g1 E hf).of λr e=>XK.2.2.2.1 _ _ _ _ _ _ _ ?_
   grind
  .refine(Rn n E c1 false (fs++[x]) g1 (by simp;omega) (λf h=>?_)).of λr e=>XK.2.2.2.1 _ _ _ _ _ _ _ ?_
   .grind
   .grind
end
def ZUI{c:Zo}(g:GC c):cN (iV c):=by
 obtain⟨c1,d,e1,g1,h5,ht⟩:=Pi g;obtain⟨c2,k,e2,g2,k0,k1⟩:=XI g1 6;obtain⟨n,rfl⟩:∃n:Nat,k=n:=⟨k.toNat,E⟩;have:=k1 E;exact(Rn h5 ht 0 n E c2 true [] g2 (by simp;omega) Z).of λr e=>XK.2.2.2.2.2 _ _ ⟨c1,d,e1,c2,_,e2,e⟩
def ZUJ{c:Zo}(g:GC c):∃(c':Zo) (n:Int),Zpg c=some (I n,[cB c'])/\GC c':=by
 obtain⟨c1,v,e1,g1⟩:=Vh g 12;rcases tf v with hv|hv<;>subst hv
 .obtain⟨c2,n,e2,g2,_⟩:=QO g1 [5,20,60,200,1000] Z Z;obtain⟨c3,k,e3,g3,_⟩:=XI g2 40;exact⟨c3,_,Wy.1.1.1.1 _ _ ⟨c1,false,e1,by rw[Yb Z];exact⟨c2,_,n,e2,c3,k,e3,rfl⟩⟩,g3⟩
 .obtain⟨c2,n,e2,g2,_⟩:=QO g1 [-1,0,1000000000000,1000000000001,9223372036854775807] Z Z
  grind [Wy.1.1.1.1]
def ZUK(a:V2)(ha:a.length<=1048576):∃(c:Zo) (m:Zt) (d:Zj) (q:Zc) (p:Zr) (b:Box),TL a=some (.tup [.ptr 0 0,.agg (m.c.map .t),.agg (d.c.map .t),.agg (q.c.map .t),.agg (p.c.map .t),.agg (b.c.map .t)],[cB c])/\GC c/\Ci m/\BA d/\AW q/\b.Low.length<=17/\b.High.length<=17:=by
 obtain⟨c,e,g⟩:=ZSj a ha;obtain⟨c1,m,e1,g1,hm⟩:=ZSk g;obtain⟨c2,s,e2,g2,hs⟩:=ZUI g1;obtain⟨c3,q,e3,g3,hq⟩:=ZUC g2;have f:=bD q.Zi q.Atoms;obtain⟨k,hk⟩:∃k:Nat,ZU q.Zi q.Atoms=k:=⟨(ZU q.Zi q.Atoms).toNat,E⟩;obtain⟨c4,p,e4,g4,p1,_⟩:=ZSs q hq k E c3 g3;obtain⟨bb1,bb2,bb3⟩:=ZU8 hs hq;obtain⟨c5,v,e5,g5⟩:=Vh g4 6;have go:∀r,_->TL a=some r:=λr h=>ZCn.2 _ r ⟨c,e,c1,m,e1,c2,s,e2,c3,q,e3,_,W5 q hq,c4,p,by rw[hk];exact e4,_,_,bb1,c5,v,e5,h⟩
 rcases tf v with hv|hv<;>subst hv
 .obtain⟨c6,u,e6,g6⟩:=Vh g5 12;rcases tf u with hu|hu<;>subst hu
  .exact⟨c6,m,s.Zj,q,⟨p⟩,_,go _ (by rw[Yb Z];exact⟨c6,false,e6,by rw[Yb Z];rfl⟩),g6,hm.le,hs.d,hq,bb2,bb3⟩
  .exact⟨c6,m,s.Zj,q,⟨p.drop 1⟩,_,go _ (by rw[Yb Z];exact⟨c6,true,e6,by rw[Ya rfl];exact⟨p1,rfl⟩⟩),g6,hm.le,hs.d,hq,bb2,bb3⟩
 .obtain⟨c6,b,e6,g6,b1,b2⟩:=ZU9 g5 q hq;obtain⟨c7,u,e7,g7⟩:=Vh g6 12;rcases tf u with hu|hu<;>subst hu
  .exact⟨c7,m,s.Zj,q,⟨p⟩,b,go _ (by rw[Ya rfl];exact⟨c6,b,e6,c7,false,e7,by rw[Yb Z];rfl⟩),g7,hm.le,hs.d,hq,b1,b2⟩
  .exact⟨c7,m,s.Zj,q,⟨p.drop 1⟩,b,go _ (by rw[Ya rfl];exact⟨c6,b,e6,c7,true,e7,by rw[Ya rfl];exact⟨p1,rfl⟩⟩),g7,hm.le,hs.d,hq,b1,b2⟩
def Ro(a:V2)(ha:a.length<=1048576):∃(m:Zt) (d:Zj) (q:Zc) (p:Zr) (b:Box) (n:Int),lW a=some (.tup [.agg (m.c.map .t),.agg (d.c.map .t),.agg (q.c.map .t),.agg (p.c.map .t),.agg (b.c.map .t),I n],[])/\Ci m/\BA d/\AW q/\b.Low.length<=17/\b.High.length<=17:=by
 obtain⟨c,m,d,q,p,b,e,g,h⟩:=ZUK a ha;obtain⟨c1,n,e1,_⟩:=ZUJ g;exact⟨m,d,q,p,b,n,Wy.1.1.1.2 _ _ ⟨c,m,d,q,p,b,e,c1,n,e1,rfl⟩,h⟩
def ZUL(a:V2){m:Zt}{d:Zj}{q:Zc}{p:Zr}{b x:Box}{n k t:Int}{is cc cut i1:Bool}{r:Run}{sub:Zr}{l:V2}
  (h0:Mr a=some (Bo false,[])) (h1:lW a=some (.tup [.agg (m.c.map .t),.agg (d.c.map .t),.agg (q.c.map .t),.agg (p.c.map .t),.agg (b.c.map .t),I n],[]))
  (h2:nJ m d q p b n=some (.tup [.agg (x.c.map .t),I k,Bo is],[])) (h3:oM m d q p b n=some (.tup [.agg (x.c.map .t),I k,Bo is],[]))
  (h4:oQ x x=some (Bo true,[])) (h5:M8 q p b=some (I t,[])) (h6:NA q p b=some (I t,[]))
  (h7:YA m d q p t n=some (.tup [.agg (r.c.map .t),Bo cc],[])) (h8:NO m d q p t n=some (.tup [.agg (r.c.map .t),Bo cc],[]))
  (h9:Iv q p t=some (.tup [.agg (sub.c.map .t),Bo cut],[])) (cn:YX r r=some (Bo true,[]))
  (cd:cut=false\/cut=true/\NP q sub=some (I t,[]))
  (cl:is=false/\k=0\/is=true/\k<=w (n*4)/\oX d q=some (.own 0,[.arr 3 1 true (l.map ic)])/\aF b l=some (Bo i1,[])/\
   (i1=false/\(cc=false\/cc=true/\r.Done=false\/cc=true/\r.Done=true)\/i1=true/\aF x l=some (Bo true,[])/\(cc=false\/cc=true/\r.Done=false\/cc=true/\r.Done=true/\0<=t/\∃e,x.Low[t.toNat]?=some e/\l[t.toNat]?=some e/\x.High[t.toNat]?=some e))) :
  o7 a=some (Bo true,[]):=by
 obtain⟨dn,co,st,se,an⟩:=r;unfold o7;refine run ZCj rfl ?_;simp only[Mr,lW,nJ,oM,oQ,M8,NA,YA,NO,Iv,YX,NP,oX,aF,XC.c_def,Box.c_def,Zj.c_def,Zt.c_def,Zy.c_def,Zr.c_def,Zc.c_def,Run.c_def,A7,AY,Y2]at *
 rcases cd with cd|⟨cd,h13⟩<;>subst cd<;>rcases cl with⟨cl,h14⟩|⟨cl,h14,h15,h16,h17⟩<;>subst cl
 case inl.inl=>simp +decide[*,kk,tI,Ax,oZ]
 case inr.inl=>simp +decide[*,kk,tI,Ax,oZ]
 all_goals rcases h17 with⟨h17,h18|⟨h18,h19⟩|⟨h18,h19⟩⟩|⟨h17,h20,h18|⟨h18,h19⟩|⟨h18,h19,h21,e,⟨g1,h22⟩,⟨g2,h23⟩,⟨g3,h24⟩⟩⟩<;>subst h17<;>subst h18<;>(try subst h19)
 all_goals simp +decide[*,kk,tI,Ax,oZ]
def ZUM(a:V2)(h0:Mr a=some (Bo true,[])):o7 a=some (Bo true,[]):=by
 unfold o7;refine run ZCj rfl ?_;simp only[Mr]at h0;simp +decide[*,kk,tI,Ax,oZ]
