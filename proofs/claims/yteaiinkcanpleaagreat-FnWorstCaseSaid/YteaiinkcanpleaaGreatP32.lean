/-
  Parts of the proofs for this seat: FD PC PC2 PD.
-/
import Derived.Test.YteaiinkcanpleaaGreatP31
set_option linter.all false
set_option maxRecDepth 100000
set_option maxHeartbeats 4000000
namespace Go.Proofs.YteaiinkcanpleaaGreat
open Go.AM
def Oa(n:Int)(qa:List Zg):0<=Z3 n qa/\Z3 n qa<=15:=by
 unfold Z3
 grind [KR]
def GBx(R:Rs):Prop:=∃(c:Zo) (b:Box),R=some (.agg (b.c.map .t),[cB c])/\GC c/\b.Low.length<=17/\b.High.length<=17
def GBx.of{R R':Rs}(h:GBx R')(k:∀r,R'=some r->R=some r):GBx R:=by
 obtain⟨n,x,e,l⟩:=h;exact⟨n,x,k _ e,l⟩
def ZPk{c:Zo}(g:GC c)(l:List V6)(h0:l≠[])(hl:l.length<=256):∃c' e,wM c l=some (.t (.str e),[cB c'])/\GC c'/\e∈l:=by
 have hp:=Y5.2 h0;obtain⟨c1,n,e,g1,n0,n1⟩:=W2 g l.length;obtain⟨e',he,hm⟩:=Zqn (l:=l) n0 (n1 Z)
 grind [XT.1.2.1.2]
def GQ(R:Rs):Prop:=∃(c:Zo) (q:Zc),R=some (.agg (q.c.map .t),[cB c])/\GC c/\AI q
def ZPl{c:Zo}(g:GC c):GQ (wO c):=by
 obtain⟨c1,n,x,e1,g1,hx⟩:=ZME g;by_cases h3:3<(x.length:Int)
 .obtain⟨c2,b,e2,g2⟩:=UV g1 8;rcases tf b with hb|hb
  .subst hb;obtain⟨c3,s,e3,g3,hs⟩:=ZPk g2 [(⟨#[114,40,88,89,41,32,115,40,89,90,41]⟩:V6),(⟨#[114,40,88,89,41,32,115,40,89,90,41,32,116,40,90,88,41]⟩:V6),(⟨#[114,40,88,89,41,32,115,40,89,90,41,32,118,40,89,41]⟩:V6),(⟨#[114,40,88,89,41,32,114,40,89,90,41]⟩:V6)] Om Om;have hz:UW s:=by
    grind [pq1,pq3,pq5,pq9]
   obtain⟨n',x',e4,hx'⟩:=hz;exact⟨c3,⟨n',x'⟩,XT.1.2.2.1 _ _ ⟨c1,x,n,e1,by rw[Ya h3];exact⟨c2,false,e2,by rw[Yb Om];exact⟨c3,s,e3,x',n',true,e4,rfl⟩⟩⟩,g3,Zqp hx'⟩
  .subst hb;exact⟨c2,⟨n,x⟩,XT.1.2.2.1 _ _ ⟨c1,x,n,e1,by rw[Ya h3];exact⟨c2,true,e2,by rw[Ya rfl];rfl⟩⟩,g2,Zqp hx⟩
 .exact⟨c1,⟨n,x⟩,XT.1.2.2.1 _ _ ⟨c1,x,n,e1,by rw[Yb h3];rfl⟩,g1,Zqp hx⟩
def ZPm{c:Zo}(g:GC c):GQ (cO c):=by
 obtain⟨c1,q,e1,g1,hq⟩:=ZPl g;rcases tf (XM q.Zh q.Atoms (Z3 q.Zh q.Atoms))with hc|hc
 .obtain⟨n,x,e4,hx⟩:=pq1;exact⟨c1,⟨n,x⟩,XT.2.2.2.2.2 _ _ ⟨c1,q,e1,_,VN q hq,_,Gm q hq _,by rw[hc,Yb Om];exact⟨x,n,true,e4,rfl⟩⟩,g1,Zqp hx⟩
 .exact⟨c1,q,XT.2.2.2.2.2 _ _ ⟨c1,q,e1,_,VN q hq,_,Gm q hq _,by rw[hc,Ya rfl]⟩,g1,hq⟩
def Th(R:Rs):Prop:=∃(c:Zo) (f:ZD),R=some (.agg (f.c.map .t),[cB c])/\GC c/\f.From.length<=10
def Th.of{R R':Rs}(h:Th R')(q:∀r,R'=some r->R=some r):Th R:=by
 obtain⟨c,x,e,l⟩:=h;exact⟨c,x,q _ e,l⟩
def pO(a:V6)(b:Int)(nm:V6)(to:Int)(m:Nat)(hm:m<=3):∀i,i<=m->∀c x,GC c->x.length<=i->Th (Pm c a b nm to x m i):=by
 refine down _ ?_ ?_
 .intro c x g hx;obtain⟨c2,v,e2,g2⟩:=UV g 14;rcases tf v with hv|hv<;>subst hv
  .obtain⟨c4,u,e4,g4⟩:=UV g2 16;rcases tf u with hu|hu<;>subst hu
   .exact⟨c4,⟨nm,x,to⟩,Xp.1.1.2.1 _ _ _ _ _ _ _ _ _ (by rw[Ao];exact⟨c2,false,e2,by rw[Yb Om];exact⟨c4,false,e4,by rw[Yb Om];rfl⟩⟩),g4,by show x.length<=_;omega⟩
   .obtain⟨c5,n,e5,g5,_⟩:=U0 g4 [-1,0,3,9223372036854775807] Om Om;exact⟨c5,⟨nm,x++[n],to⟩,Xp.1.1.2.1 _ _ _ _ _ _ _ _ _ (by rw[Ao];exact⟨c2,false,e2,by rw[Yb Om];exact⟨c4,true,e4,by rw[Ya rfl];exact⟨c5,_,n,e5,Z,rfl⟩⟩⟩),g5,by show(x++[n]).length<=_;simp;omega⟩
  .obtain⟨c3,k,e3,g3,_⟩:=U0 g2 [-1,3,0] Om Om;obtain⟨c4,u,e4,g4⟩:=UV g3 16;rcases tf u with hu|hu<;>subst hu
   .exact⟨c4,⟨nm,x,k⟩,Xp.1.1.2.1 _ _ _ _ _ _ _ _ _ (by rw[Ao];exact⟨c2,true,e2,by rw[Ya rfl];exact⟨c3,_,k,e3,c4,false,e4,by rw[Yb Om];rfl⟩⟩),g4,by show x.length<=_;omega⟩
   .obtain⟨c5,n,e5,g5,_⟩:=U0 g4 [-1,0,3,9223372036854775807] Om Om;exact⟨c5,⟨nm,x++[n],k⟩,Xp.1.1.2.1 _ _ _ _ _ _ _ _ _ (by rw[Ao];exact⟨c2,true,e2,by rw[Ya rfl];exact⟨c3,_,k,e3,c4,true,e4,by rw[Ya rfl];exact⟨c5,_,n,e5,Z,rfl⟩⟩⟩),g5,by show(x++[n]).length<=_;simp;omega⟩
 .intro i hi ih c x g hx;by_cases h:(i:Int)=to
  .refine(ih c x g Z).of λr e=>Xp.1.1.2.1 _ _ _ _ _ _ _ _ _ ?_
   grind [wN]
  .obtain⟨c1,v,e1,g1⟩:=UV g 2;rcases tf v with hv|hv<;>subst hv
   .refine(ih c1 x g1 Z).of λr e=>Xp.1.1.2.1 _ _ _ _ _ _ _ _ _ ?_
    grind [wN]
   .refine(ih c1 (x++[(i:Int)]) g1 (by simp;omega)).of λr e=>Xp.1.1.2.1 _ _ _ _ _ _ _ _ _ ?_
    grind [wN]
def Abv(a:V6)(b:Int)(nm:V6)(to:Int)(m:Nat)(hm:m<=3):∀i,i<=m->∀c,GC c->Th (Lm c a b nm to m i):=by
 refine down _ ?_ ?_
 .intro c g;obtain⟨c2,v,e2,g2⟩:=UV g 14;rcases tf v with hv|hv<;>subst hv
  .obtain⟨c4,u,e4,g4⟩:=UV g2 16;rcases tf u with hu|hu<;>subst hu
   .exact⟨c4,⟨nm,[],to⟩,Xp.1.1.1.2 _ _ _ _ _ _ _ _ (by rw[Ao];exact⟨c2,false,e2,by rw[Yb Om];exact⟨c4,false,e4,by rw[Yb Om];rfl⟩⟩),g4,Om⟩
   .obtain⟨c5,n,e5,g5,_⟩:=U0 g4 [-1,0,3,9223372036854775807] Om Om;exact⟨c5,⟨nm,[n],to⟩,Xp.1.1.1.2 _ _ _ _ _ _ _ _ (by rw[Ao];exact⟨c2,false,e2,by rw[Yb Om];exact⟨c4,true,e4,by rw[Ya rfl];exact⟨c5,_,n,e5,rfl⟩⟩⟩),g5,Om⟩
  .obtain⟨c3,k,e3,g3,_⟩:=U0 g2 [-1,3,0] Om Om;obtain⟨c4,u,e4,g4⟩:=UV g3 16;rcases tf u with hu|hu<;>subst hu
   .exact⟨c4,⟨nm,[],k⟩,Xp.1.1.1.2 _ _ _ _ _ _ _ _ (by rw[Ao];exact⟨c2,true,e2,by rw[Ya rfl];exact⟨c3,_,k,e3,c4,false,e4,by rw[Yb Om];rfl⟩⟩),g4,Om⟩
   .obtain⟨c5,n,e5,g5,_⟩:=U0 g4 [-1,0,3,9223372036854775807] Om Om;exact⟨c5,⟨nm,[n],k⟩,Xp.1.1.1.2 _ _ _ _ _ _ _ _ (by rw[Ao];exact⟨c2,true,e2,by rw[Ya rfl];exact⟨c3,_,k,e3,c4,true,e4,by rw[Ya rfl];exact⟨c5,_,n,e5,rfl⟩⟩⟩),g5,Om⟩
 .intro i hi ih c g;by_cases h:(i:Int)=to
  .refine(ih c g).of λr e=>Xp.1.1.1.2 _ _ _ _ _ _ _ _ ?_
   grind [wN]
  .obtain⟨c1,v,e1,g1⟩:=UV g 2;rcases tf v with hv|hv<;>subst hv
   .refine(ih c1 g1).of λr e=>Xp.1.1.1.2 _ _ _ _ _ _ _ _ ?_
    grind [wN]
   .refine(pO a b nm to m hm (i+1) Z c1 [(i:Int)] g1 Om).of λr e=>Xp.1.1.1.2 _ _ _ _ _ _ _ _ ?_
    grind [wN]
def ZPn{c:Zo}(g:GC c):Th (aZ c):=by
 obtain⟨c1,k,e1,g1,k0,k1⟩:=W2 g 5;obtain⟨⟨nm,h1⟩,m,h2,hm⟩:=M5 k0 (k1 Z);obtain⟨c2,to,e2,g2,_⟩:=W2 g1 m;exact(Abv ⟨#[]⟩ 0 nm to m hm 0 Z c2 g2).of λr e=>ZKf _ _ ⟨c1,k,e1,k0,_,h2,_,h1,c2,to,e2,e⟩
def GIn(R:Rs):Prop:=∃(c:Zo) (x:Z8),R=some (.agg (x.c.map .t),[cB c])/\GC c
def ZPo{c:Zo}(g:GC c):GIn (Pv c):=by
 obtain⟨c1,s,e1,g1,_⟩:=Z1j g QN Om Om;obtain⟨c2,k,e2,g2,_⟩:=W2 g1 2;obtain⟨c3,t,e3,g3,_⟩:=Z1j g2 QN Om Om;obtain⟨c4,j,e4,g4,_⟩:=W2 g3 2;obtain⟨c5,v,e5,g5⟩:=UV g4 14;obtain⟨c6,n,e6,g6,_⟩:=U0 g5 [-1,3] Om Om;have go:∀r,_->Pv c=some r:=λr h=>ZKi _ r ⟨c1,_,s,e1,c2,k,e2,c3,_,t,e3,c4,j,e4,h⟩
 by_cases hs:s=(⟨#[118]⟩:V6)<;>by_cases ht:t=(⟨#[118]⟩:V6)<;>rcases tf v with hv|hv<;>subst hv
 .exact⟨c5,⟨s,0,t,0⟩,go _ (by rw[Ya hs,Ya ht];exact⟨c5,false,e5,by rw[Yb Om];rfl⟩),g5⟩
 .exact⟨c6,⟨s,n,t,0⟩,go _ (by rw[Ya hs,Ya ht];exact⟨c5,true,e5,by rw[Ya rfl];exact⟨c6,_,n,e6,rfl⟩⟩),g6⟩
 .exact⟨c5,⟨s,0,t,j⟩,go _ (by rw[Ya hs,Yb ht];exact⟨c5,false,e5,by rw[Yb Om];rfl⟩),g5⟩
 .exact⟨c6,⟨s,n,t,j⟩,go _ (by rw[Ya hs,Yb ht];exact⟨c5,true,e5,by rw[Ya rfl];exact⟨c6,_,n,e6,rfl⟩⟩),g6⟩
 .exact⟨c5,⟨s,k,t,0⟩,go _ (by rw[Yb hs,Ya ht];exact⟨c5,false,e5,by rw[Yb Om];rfl⟩),g5⟩
 .exact⟨c6,⟨s,n,t,0⟩,go _ (by rw[Yb hs,Ya ht];exact⟨c5,true,e5,by rw[Ya rfl];exact⟨c6,_,n,e6,rfl⟩⟩),g6⟩
 .exact⟨c5,⟨s,k,t,j⟩,go _ (by rw[Yb hs,Yb ht];exact⟨c5,false,e5,by rw[Yb Om];rfl⟩),g5⟩
 .exact⟨c6,⟨s,n,t,j⟩,go _ (by rw[Yb hs,Yb ht];exact⟨c5,true,e5,by rw[Ya rfl];exact⟨c6,_,n,e6,rfl⟩⟩),g6⟩
def ZPp(fs:List ZD)(hf:Ta fs)(hl:fs.length<=1000):∀i,i<=fs.length->bY (fs.take i) fs i=some (.own 0,[.arr 159 3 true (fs.map ZD.c)]):=by
 refine down _ ?_ ?_
 .apply XR.2.1.2.2;simp
 .intro i hi ih;apply XR.2.1.2.2
  grind [wS,ET,gE,List.getElem_mem,List.length_take]
def ZPq(fs:List ZD)(hf:Ta fs)(hl:fs.length<=1000):wD fs=some (.own 0,[.arr 159 3 true (fs.map ZD.c)]) :=
 XR.2.2.1.1 _ _ (by simpa using ZPp fs hf hl 0 (Yc _))
open Classical in
def ZPr{d:Zt}(h5:d.Tables.length<=5)(ht:∀t∈d.Tables,Gs t){fs:List ZD}(hf:Ta fs)(hl:fs.length<=1000){xs:List Z8}(hx:xs.length<=4):∃(s:Zq) (b:Bool),wE d fs xs=some (.tup [.agg (s.c.map .t),Bo b],[])/\U5 s:=by
 have hd:=Gs.le h5 ht;have hX:Le xs:=by omega
 have hb:=ZCe hd 1;have z:U5 ⟨⟨[]⟩,⟨0,[]⟩,[],[]⟩:=⟨⟨Om,Om⟩,⟨Om,Om⟩,⟨Om,Om⟩,Om⟩;rcases tf (Vk d && Al 1 1 999)with e|e
 .exact⟨_,_,XR.2.2.1.2 _ _ _ _ ⟨_,_,hb,by rw[e,Yb Sm];rfl⟩,z⟩
 .have hv:Vk d=true:=by simp only[Yg]at e;exact e.1
  rcases tf (ZqH d fs xs)with k|k
  .exact⟨_,_,XR.2.2.1.2 _ _ _ _ ⟨_,_,hb,by rw[e,Ya rfl];exact⟨_,Z18 hd hf hX,by rw[k,Yb Sm];rfl⟩⟩,z⟩
  .have hc:S5 d 1=⟨1,d.Tables.map ZO⟩:=by unfold S5;rw[Ya e]
   have hT:LfD d:=⟨Z,λt h=>⟨by have:=(ht t h).1;omega,λr hr=>by have:=(ht t h).2 r hr;omega⟩⟩;exact⟨⟨d,⟨1,d.Tables.map ZO⟩,fs,xs⟩,true,XR.2.2.1.2 _ _ _ _ ⟨_,_,hb,by rw[e,Ya rfl];exact⟨_,Z18 hd hf hX,by rw[k,Ya rfl];exact⟨d.Tables,ZOi d hT,fs,ZPq fs hf hl,Z,by rw[hc];rfl⟩⟩⟩,⟨hd,ZCm hv,hf,hX⟩⟩
def Ti(R:Rs):Prop:=∃(c:Zo) (s:Zq),R=some (.agg (s.c.map .t),[cB c])/\GC c/\U5 s
def Ti.of{R R':Rs}(h:Ti R')(q:∀r,R'=some r->R=some r):Ti R:=by
 obtain⟨c,x,e,l⟩:=h;exact⟨c,x,q _ e,l⟩
section
variable{d:Zt}(h5:d.Tables.length<=5)(ht:∀t∈d.Tables,Gs t)(V:Int)
include h5 ht
theorem ZqQ{fs:List ZD}(hf:Ta fs)(hl:fs.length<=1000):∀n:Nat,n<=100->∀c fr (xs:List Z8),GC c->xs.length<=4->Ti (cA c V d fr fs xs n)
 |0,_,c,fr,xs,g,hx=>by
  obtain⟨s,b,e,hs⟩:=ZPr h5 ht hf hl (xs:=xs) hx
  exact⟨c,s,XR.2.2.2.2.1 _ _ _ _ _ _ _ _ (by rw[Ao];exact⟨_,_,e,rfl⟩),g,hs⟩
 |n+1,hn,c,fr,xs,g,hx=>by
  obtain⟨c1,x,e1,g1⟩:=ZPo g;have hw:w (((n+1:Nat):Int)-1)=(n:Int):=by rw[Xn Z Z];omega
  have hI:=ZCl (Gs.le h5 ht) x;rcases tf (S9 d x)with k|k
  .refine(ZqQ hf hl n Z c1 fr xs g1 hx).of λr e=>XR.2.2.2.2.1 _ _ _ _ _ _ _ _ ?_
   grind
  .by_cases h4:(xs.length:Int)<4
   .refine(ZqQ hf hl n Z c1 fr (xs++[x]) g1 (by simp;omega)).of λr e=>XR.2.2.2.2.1 _ _ _ _ _ _ _ _ ?_
    grind
   .refine(ZqQ hf hl n Z c1 fr xs g1 hx).of λr e=>XR.2.2.2.2.1 _ _ _ _ _ _ _ _ ?_
    grind
theorem Ob:∀n:Nat,n<=100->∀c fr (fs:List ZD),GC c->fs.length+n<=100->(∀f∈fs,f.From.length<=10)->Ti (PG c V d fr fs n)
 |0,_,c,fr,fs,g,hl,hf=>by
  obtain⟨c1,k,e1,g1,k0,k1⟩:=W2 g 12;obtain⟨n,rfl⟩:∃n:Nat,k=n:=⟨k.toNat,Z⟩;have:=k1 Z;refine(ZqQ h5 ht V (fs:=fs) ⟨Z,λf h=>by have:=hf f h;omega⟩ Z n Z c1 fr [] g1 Om).of λr e=>XR.2.2.2.1 _ _ _ _ _ _ _ ?_
  grind
 |n+1,hn,c,fr,fs,g,hl,hf=>by
  obtain⟨c1,x,e1,g1,hx⟩:=ZPn g;have hw:w (((n+1:Nat):Int)-1)=(n:Int):=by rw[Xn Z Z];omega
  have hI:=ZCi (Gs.le h5 ht) x Z;rcases tf (nQ d x)with k|k
  .refine(Ob n Z c1 fr fs g1 Z hf).of λr e=>XR.2.2.2.1 _ _ _ _ _ _ _ ?_
   grind
  .refine(Ob n Z c1 false (fs++[x]) g1 (by simp;omega) (λf h=>?_)).of λr e=>XR.2.2.2.1 _ _ _ _ _ _ _ ?_
   .grind
   .grind
end
def ZPs{c:Zo}(g:GC c):Ti (bZ c):=by
 obtain⟨c1,d,e1,g1,h5,ht⟩:=Nb g;obtain⟨c2,k,e2,g2,k0,k1⟩:=W2 g1 6;obtain⟨n,rfl⟩:∃n:Nat,k=n:=⟨k.toNat,Z⟩;have:=k1 Z;exact(Ob h5 ht 0 n Z c2 true [] g2 (by simp;omega) Om).of λr e=>XR.2.2.2.2.2 _ _ ⟨c1,d,e1,c2,_,e2,e⟩
structure Oc (n:Nat) (x:Zk) (y:Zp):Prop where
 kind:1<=x.Kind/\x.Kind<=5
 refs:(y.Left=-1/\y.Right=-1)\/((0<=y.Left/\y.Left.toNat<n)/\(y.Right=-1\/(0<=y.Right/\y.Right.toNat<n)))
def Oc.mono{n k:Nat}{x:Zk}{y:Zp}(h:Oc n x y)(hk:n<=k):Oc k x y:=by
 refine⟨h.kind,h.refs.imp id λ⟨⟨a,b⟩,c⟩=>⟨⟨a,Z⟩,c.imp id λ⟨d,e⟩=>⟨d,Z⟩⟩⟩
theorem ZCL{qa:List Zg}{x:Zk}{info:List Zp}{st:WL}{y:Zp}(hs:UT info st)(h:Ue qa x info st=some y):Oc info.length x y:=by
 unfold Ue at h;split at h
 .rename_i k1;split at h
  .cases h;exact⟨Z,.inl ⟨rfl,rfl⟩⟩
  .cases h
 .rename_i k1;split at h
  .cases h
  .split at h
   .rename_i k2;split at h
    .rename_i s y' ht;split at h
     .cases h;obtain⟨_,t2,t3,_⟩:=Gh hs (Yj 1) ht;exact⟨Z,.inr ⟨⟨t2,t3⟩,.inl rfl⟩⟩
     .cases h
    .cases h
   .rename_i k2;split at h
    .rename_i s y' t z ht hu;split at h
     .obtain⟨_,t2,t3,_⟩:=Gh hs (Z:1<=2) ht;obtain⟨_,u2,u3,_⟩:=Gh hs (Z:1<=1) hu;obtain⟨o,ho,rfl⟩:=Yr.1 h;have hk:x.Kind=3\/x.Kind=4\/x.Kind=5:=by
       unfold Vy at ho
       grind
      exact⟨Z,.inr ⟨⟨t2,t3⟩,.inr ⟨u2,u3⟩⟩⟩
     .cases h
    .cases h
def ZCM{qa:List Zg}:∀{xs:List Zk} {i:Nat} {info:List Zp} {st:WL} {c:List Zp} {cc:WL},WQ qa xs i info st=some (c,cc)->
  UT info st->info.length=i->∃tail,c=info++tail/\tail.length=xs.length/\∀(j:Nat) (y:Zp) (x:Zk),tail[j]?=some y->xs[j]?=some x->Oc (i+j) x y
 |[],i,info,st,c,cc,h,hs,hi=>by
  simp[WQ]at h
  simp_all
 |x::xs,i,info,st,c,cc,h,hs,hi=>by
  rw[WQ]at h;split at h
  .cases h
  .rename_i y hy;have hn:=kP hs y (st.length-Wg y);rw[hi]at hn;obtain⟨tail,g2,g3,g4⟩:=ZCM h hn (by simp[hi])
   grind [ZCL]
def ZCN{n:Int}{qa:List Zg}{steps:List Zk}{info:List Zp}(h:Wh n qa steps=some info):∀(j:Nat) (y:Zp) (x:Zk),info[j]?=some y->steps[j]?=some x->Oc j x y:=by
 unfold Wh at h;split at h
 .split at h
  .rename_i Br st hg;split at h
   .cases h;obtain⟨tail,g2,g3,g4⟩:=ZCM hg (λs hs=>by cases hs) rfl
    simp_all
   .cases h
  .cases h
 .cases h
def In(xs:WL):Bool:=xs.all (λx=>Al x 0 4096)
def WT(n:Int)(qa:List Zg)(xs:WL):Bool:=Zx n qa && decide ((xs.length:Int)=Z3 n qa+1) && In xs
def ZPt(q:Zc)(hq:AI q)(xs:WL)(hx:Le xs):∀i,i<=xs.length->iO q xs xs xs.length i=some (Bo (In (xs.drop i) && (Zx q.Zh q.Atoms && decide ((xs.length:Int)=Z3 q.Zh q.Atoms+1))),[]):=by
 refine down _ ?_ ?_
 .apply Wf.2.1.1.2;rw[Ao];refine⟨_,kT q hq,?_⟩;rcases tf (Zx q.Zh q.Atoms)with e|e
  .rw[e];simp
  .rw[e,Ya rfl];refine⟨_,H4 q hq,?_⟩;rw[show w (Z3 q.Zh q.Atoms+1)=Z3 q.Zh q.Atoms+1 from ZpW _ _];simp[In]
 .intro i hi ih;have h4:=Z7 (i:=i) Z;apply Wf.2.1.1.2;rw[An];refine⟨Z,xs[i],by rw[Yh];exact Yd hi,_,Qp _ _ _,?_⟩;unfold In at ih|-;rw[Gf _ hi]
  simp_all
def ZCO(q:Zc)(hq:AI q)(xs:WL)(hx:Le xs):Me q xs=some (Bo (WT q.Zh q.Atoms xs),[]):=by
 have b:=ZPt q hq xs hx 0 (Yc _);refine Wf.2.1.2.1 _ _ _ (Ye b ?_);rw[Yo,WT,Bool.and_comm]
def ZPu(xs:WL)(hx:Le xs):∀i,i<=xs.length->gL xs i=some (Bo (In (xs.drop i)),[]):=by
 refine down _ ?_ ?_
 .apply X6.2.1.1.1;rw[Ao];simp[In]
 .intro i hi ih;have h4:=Z7 (i:=i) Z;apply X6.2.1.1.1;rw[An];refine⟨Z,xs[i],by rw[Yh];exact Yd hi,_,ZM _ _ _,?_⟩;unfold In at ih|-;rw[Gf _ hi]
  simp_all
def ZCP(q:Zc)(hq:AI q)(xs:WL)(hx:Le xs):RW q xs=some (Bo (WT q.Zh q.Atoms xs),[]):=by
 have b:=ZPu xs hx 0 (Yc _);refine X6.2.1.1.2 _ _ _ ⟨_,kV q hq,?_⟩;unfold WT
 simp_all [tf,VN,ZpW]
def Z6(sizes:WL)(m:Int):Int:=(sizes[m.toNat]?).getD 0
def Vr(info:List Zp)(i:Int):Int:=match info[i.toNat]? with|some y=>y.Mask|none=>0
def Vs(m:Zf)(info:List Zp)(sizes:WL)(x:Zk)(y:Zp):Int :=
 XL (BI m x.Kind) (if y.Left<0 then Z6 sizes y.Mask else Z6 sizes (Vr info y.Left)) (if y.Right<0 then 0 else Z6 sizes (Vr info y.Right)) (Z6 sizes y.Mask)
def VT(m:Zf)(info:List Zp)(sizes:WL):List Zk->List Zp->WL
 |x::xs,y::ys=>Vs m info sizes x y::VT m info sizes xs ys
 |_,_=>[]
def ZCQ(m:Zf)(info:List Zp)(sizes:WL){xs:List Zk}{ys:List Zp}{i:Nat}(hx:i<xs.length)(hy:i<ys.length) :
  VT m info sizes (xs.drop i) (ys.drop i)=Vs m info sizes xs[i] ys[i]::VT m info sizes (xs.drop (i+1)) (ys.drop (i+1)):=by
 rw[Yi hx,Yi hy,VT]
def Tj{qa:List Zg}{n:Int}{sizes:WL}(hs:WT n qa sizes=true){y:Zp}(hm:MM qa.length y):sizes[y.Mask.toNat]?=some (Z6 sizes y.Mask):=by
 simp only[WT,Yg,decide_eq_true_eq]at hs;have hf:=Qs hs.1.1;have hlt:y.Mask.toNat<sizes.length:=by have:=hm.1;have:=hm.2;omega
 simp[Z6,Yd hlt]
def ZqR{info:List Zp}{i:Int}{n:Nat}(h:0<=i/\i.toNat<n)(hn:n<=info.length):∃y,info[i.toNat]?=some y/\y∈info/\Vr info i=y.Mask:=by
 have hlt:i.toNat<info.length:=by omega
 exact⟨info[i.toNat],Yd hlt,Yf hlt,by simp[Vr,Yd hlt]⟩
def Qe(m:Zf)(n:Int)(qa:List Zg)(steps:List Zk)(sizes:WL):WL:=match Wh n qa steps with
 |some info=>if WT n qa sizes=true then VT m info sizes steps info else[]
 |none=>[]
def ZCR(m:Zf):J6 m=some (.bsl 1 5,[.box (m.c.map .t),.box [.ptr 0 0,.ptr 0 6,.ptr 0 12,.ptr 0 18,.ptr 0 24]]):=Wp.1.2.1.2 _ _ rfl
def kinds{k:Int}(h:1<=k/\k<=5):k=1\/k=2\/k=3\/k=4\/k=5:=by omega
def Abw(m:Zf)(hm:Ba m)(info:List Zp)(out:WL)(ho:out.length<=100)(x:Zk)(hk:1<=x.Kind/\x.Kind<=5)(sizes:WL)(i:Nat)(y:Zp)(hy:info[i]?=some y)(c:0<=y.Mask)(hs:sizes[y.Mask.toNat]?=some (Z6 sizes y.Mask))(l r:Int)(x1:List Zk)(x2 x3:Int)(res:XS)
  (h:VL m info (out++[XL (BI m x.Kind) l r (Z6 sizes y.Mask)]) sizes x1 x2 (w (x3+1))=some res):iV m info out x sizes i l r x1 x2 x3=some res:=by
 refine ZLb _ _ _ _ _ _ _ _ _ _ _ _ ⟨ZCR m,?_⟩;have ho':out.length+1<=68719476736:=by omega
 obtain⟨m1,m2,m3,m4,m5⟩:=hm;have hi:info[((i:Nat):Int).toNat]?=some y:=by rw[Yh];exact hy
 have hi0:(0:Int)<=(i:Int):=by omega
 rcases kinds hk with e|e|e|e|e<;>rw[e]at h|-
 .rw[Ya Sm];exact⟨hi0,y,hi,c,_,hs,_,JF _ m1 _ _ _,ho',h⟩
 .rw[Yb Sm,Ya Sm];exact⟨hi0,y,hi,c,_,hs,_,JF _ m2 _ _ _,ho',h⟩
 .rw[Yb Sm,Yb Sm,Ya Sm];exact⟨hi0,y,hi,c,_,hs,_,JF _ m3 _ _ _,ho',h⟩
 .rw[Yb Sm,Yb Sm,Yb Sm,Ya Sm];exact⟨hi0,y,hi,c,_,hs,_,JF _ m4 _ _ _,ho',h⟩
 .rw[Yb Sm,Yb Sm,Yb Sm,Yb Sm,Ya Sm];exact⟨hi0,y,hi,c,_,hs,_,JF _ m5 _ _ _,ho',h⟩
def ZCS(m:Zf)(hm:Ba m)(info:List Zp)(out:WL)(ho:out.length<=100)(x:Zk)(hk:1<=x.Kind/\x.Kind<=5)(sizes:WL)(i:Nat)(y:Zp)(hy:info[i]?=some y)(c:0<=y.Mask)(hs:sizes[y.Mask.toNat]?=some (Z6 sizes y.Mask))(l r:Int)(x1:List Zk)(x2 x3:Int)(f:Bool)(res:XS)
  (h:VL m info (out++[XL (BI m x.Kind) l r (Z6 sizes y.Mask)]) sizes x1 x2 (w (x3+1))=some res):iW m info out x sizes i l r x1 x2 x3 f=some res:=by
 refine ZLd _ _ _ _ _ _ _ _ _ _ _ _ _ ⟨ZCR m,?_⟩;have ho':out.length+1<=68719476736:=by omega
 obtain⟨m1,m2,m3,m4,m5⟩:=hm;have hi:info[((i:Nat):Int).toNat]?=some y:=by rw[Yh];exact hy
 have hi0:(0:Int)<=(i:Int):=by omega
 rcases kinds hk with e|e|e|e|e<;>rw[e]at h|-
 .rw[Ya Sm];exact⟨hi0,y,hi,c,_,hs,_,JF _ m1 _ _ _,ho',h⟩
 .rw[Yb Sm,Ya Sm];exact⟨hi0,y,hi,c,_,hs,_,JF _ m2 _ _ _,ho',h⟩
 .rw[Yb Sm,Yb Sm,Ya Sm];exact⟨hi0,y,hi,c,_,hs,_,JF _ m3 _ _ _,ho',h⟩
 .rw[Yb Sm,Yb Sm,Yb Sm,Ya Sm];exact⟨hi0,y,hi,c,_,hs,_,JF _ m4 _ _ _,ho',h⟩
 .rw[Yb Sm,Yb Sm,Yb Sm,Yb Sm,Ya Sm];exact⟨hi0,y,hi,c,_,hs,_,JF _ m5 _ _ _,ho',h⟩
def ZPv{m:Zf}(hm:Ba m){n:Int}{qa:List Zg}{steps:List Zk}{info:List Zp}{sizes:WL}(hi:Wh n qa steps=some info)(hs:WT n qa sizes=true):∀i,i<=steps.length->∀out:WL,out.length=i->
  VL m info out sizes steps steps.length i=some (.own 0,[.arr Z9 1 true ((out++VT m info sizes (steps.drop i) (info.drop i)).map ic)]):=by
 obtain⟨l1,l2,l3,l4⟩:=MK hi;obtain⟨p1,_⟩:=ZA3 hi;refine down _ ?_ ?_
 .intro out _;apply H0.1.1;rw[Ao,Ym];simp[VT]
 .intro i h' ih out ho;have h4:=Z7 (i:=i) Z;have h:i<info.length:=by omega
  have ok:=ZCN hi i info[i] steps[i] (Yd h) (Yd h');have s0:=Tj hs (p1 _ (Yf h));have hm0:=(p1 _ (Yf h)).1;have ih:=ih (out++[Vs m info sizes steps[i] info[i]]) (by simp[ho]);simp only[Ys,Yt,EX,List.singleton_append]at ih;rw[<-ZCQ m info sizes h' h,<-show w ((i:Int)+1)=(i:Int)+1 from h4]at ih;unfold Vs at ih;apply H0.1.1;rw[An];refine⟨Z,steps[i],by rw[Yh];exact Yd h',info[i],by rw[Yh];exact Yd h,hm0,_,s0,?_⟩;rcases ok.refs with⟨a,b⟩|⟨a,b⟩
  .have c1:info[i].Left<0:=by omega
   have c2:info[i].Right<0:=by omega
   have d1:¬0<=info[i].Left:=by omega
   have d2:¬0<=info[i].Right:=by omega
   simp only[Ya c1,Ya c2]at ih;simp only[Yb d1,Yb d2];exact ZCS m hm info out Z _ ok.kind sizes i info[i] (Yd h) hm0 s0 _ _ _ _ _ _ _ ih
  .obtain⟨y1,y2,y3,y4⟩:=ZqR a (Z:i<=info.length);have s1:=Tj hs (p1 _ y3);have hm1:=(p1 _ y3).1;have c1:¬info[i].Left<0:=by omega
   simp only[Yb c1,y4]at ih;rw[Ya a.1];refine⟨y1,y2,hm1,_,s1,?_⟩;rcases b with b|b
   .have c2:info[i].Right<0:=by omega
    have d2:¬0<=info[i].Right:=by omega
    simp only[Ya c2]at ih;rw[Yb d2];exact ZCS m hm info out Z _ ok.kind sizes i info[i] (Yd h) hm0 s0 _ _ _ _ _ _ _ ih
   .obtain⟨z1,z2,z3,z4⟩:=ZqR b (Z:i<=info.length);have s2:=Tj hs (p1 _ z3);have hm2:=(p1 _ z3).1;have c2:¬info[i].Right<0:=by omega
    simp only[Yb c2,z4]at ih;rw[Ya b.1];refine⟨z1,z2,hm2,_,s2,?_⟩;exact Abw m hm info out Z _ ok.kind sizes i info[i] (Yd h) hm0 s0 _ _ _ _ _ _ ih
theorem Z1W{m:Zf}{info:List Zp}{sizes:WL}:∀{xs:List Zk} {ys:List Zp},xs.length=ys.length->(VT m info sizes xs ys).length=xs.length
 |[],[],_=>rfl
 |[],_::_,h=>by simp at h
 |_::_,[],h=>by simp at h
 |x::xs,y::ys,h=>by rw[VT,Yx,Z1W (by simpa using h)];rfl
def Jb(n:Int)(qa:List Zg)(steps:List Zk)(sizes:WL):Bool:=(Wh n qa steps).isSome && WT n qa sizes
theorem ZqS{m:Zf}{n:Int}{qa:List Zg}{steps:List Zk}{sizes:WL}:Qe m n qa steps sizes≠[]↔Jb n qa steps sizes=true:=by
 unfold Qe Jb
 cases hi:Wh n qa steps with
 |none=>simp
 |some info =>
  obtain⟨l1,l2,l3,l4⟩:=MK hi;rcases tf (WT n qa sizes)with e|e
  .simp[e]
  .grind [Z1W,Option.isSome_some,Bool.and_self]
def ZPw(m:Zf)(hm:Ba m)(q:Zc)(hq:AI q)(p:Ze)(sizes:WL)(hs:Le sizes) :
  Mf m q p sizes=if Jb q.Zh q.Atoms p.Steps sizes=true then some (.own 0,[.arr Z9 1 true ((Qe m q.Zh q.Atoms p.Steps sizes).map ic)])else some (.t .nil,[]):=by
 have q1:=ZAA q p hq;unfold Qe Jb
 cases hi:Wh q.Zh q.Atoms p.Steps with
 |none=>rw[hi]at q1;simp only[Option.isSome_none,E2,rS,if_false];exact H0.1.2 _ _ _ _ _ (.inl ⟨q1,rfl⟩)
 |some info =>
  rw[hi]at q1;have hv:=ZCO q hq sizes hs;rcases tf (WT q.Zh q.Atoms sizes)with e|e
  .simp_all [Option.isSome_some,Bool.and_false,rS,H0.1.2]
  .simp only[e,Option.isSome_some,Bool.and_self,if_true];refine H0.1.2 _ _ _ _ _ (.inr ⟨info,q1,true,by rw[hv,e],?_⟩);rw[Ya rfl];have b:=ZPv hm hi e 0 (Yc _) [] rfl;simpa using b
def VU(xs:WL)(n:Int):Int:=xs.foldl (λa b=>w (a+b)) n
def pP(xs:WL)(hx:Le xs):∀i,i<=xs.length->∀n,iY n xs xs.length i=some (I (VU (xs.drop i) n),[]):=by
 refine down _ ?_ ?_
 .intro n;apply H0.2.1;simp[VU]
 .intro i hi ih n;have h4:=Z7 (i:=i) Z;apply H0.2.1;simp only[Ys,Yt]at ih;rw[Yi hi,VU,Yv];simp[hi,h4,ih,VU]
theorem pQ(xs:WL)(hx:Le xs):iX xs=some (I (VU xs 0),[]):=H0.2.2 _ _ (pP xs hx 0 (Yc _) 0)
def Vt(m:Zf)(n:Int)(qa:List Zg)(steps:List Zk)(sizes:WL):Int:=if Jb n qa steps sizes=true then VU (Qe m n qa steps sizes) 0 else -1
theorem Z1X{m:Zf}{n:Int}{qa:List Zg}{steps:List Zk}{sizes:WL}:(Qe m n qa steps sizes).length<=14:=by
 unfold Qe
 cases hi:Wh n qa steps with
 |none=>simp
 |some info =>
  obtain⟨l1,l2,l3,l4⟩:=MK hi
  grind [Z1W]
def Z1Y(m:Zf)(hm:Ba m)(q:Zc)(hq:AI q)(p:Ze)(sizes:WL)(hs:Le sizes):F6 m q p sizes=some (I (Vt m q.Zh q.Atoms p.Steps sizes),[]):=by
 have h1:=ZPw m hm q hq p sizes hs;apply ZLf;unfold Vt;rcases tf (Jb q.Zh q.Atoms p.Steps sizes)with e|e
 .simp_all
 .grind [ZqS,pQ,Z1X]
def ZPx{m:Zf}(hm:Ba m){n:Int}{qa:List Zg}{steps:List Zk}{info:List Zp}{sizes:WL}(hi:Wh n qa steps=some info)(hs:WT n qa sizes=true){i:Nat}(h:i<info.length)(h':i<steps.length) :
  zX m steps[i].Kind info i sizes=some (I (Vs m info sizes steps[i] info[i]),[]):=by
 obtain⟨p1,_⟩:=ZA3 hi;have ok:=ZCN hi i info[i] steps[i] (Yd h) (Yd h');have s0:=Tj hs (p1 _ (Yf h));have hm0:=(p1 _ (Yf h)).1;refine X6.2.1.2.1 _ _ _ _ _ _ ⟨Z,info[i],by rw[Yh];exact Yd h,_,SN m _,?_⟩;have hl:=hm.op steps[i].Kind;unfold Vs;rcases ok.refs with⟨a,b⟩|⟨a,b⟩
 .have c1:info[i].Left<0:=by omega
  have c2:info[i].Right<0:=by omega
  simp only[Ya c1,Ya c2];exact⟨hm0,_,s0,_,KS _ hl _ _ _,rfl⟩
 .obtain⟨y1,y2,y3,y4⟩:=ZqR a (Z:i<=info.length);have s1:=Tj hs (p1 _ y3);have hm1:=(p1 _ y3).1;have c1:¬info[i].Left<0:=by omega
  simp only[Yb c1,y4];rcases b with b|b
  .have c2:info[i].Right<0:=by omega
   simp only[Ya c2];exact⟨a.1,y1,y2,hm1,_,s1,hm0,_,s0,_,KS _ hl _ _ _,rfl⟩
  .obtain⟨z1,z2,z3,z4⟩:=ZqR b (Z:i<=info.length);have s2:=Tj hs (p1 _ z3);have hm2:=(p1 _ z3).1;have c2:¬info[i].Right<0:=by omega
   simp only[Yb c2,z4];exact⟨a.1,y1,y2,hm1,_,s1,b.1,z1,z2,hm2,_,s2,hm0,_,s0,_,KS _ hl _ _ _,rfl⟩
def ZPy{m:Zf}(hm:Ba m){n:Int}{qa:List Zg}{p:Ze}{info:List Zp}{sizes:WL}(hi:Wh n qa p.Steps=some info)(hs:WT n qa sizes=true):∀i,i<=info.length->∀out:WL,out.length=i->
  gM m p out info sizes i=some (.own 0,[.arr Z9 1 true ((out++VT m info sizes (p.Steps.drop i) (info.drop i)).map ic)]):=by
 obtain⟨l1,l2,l3,l4⟩:=MK hi;refine down _ ?_ ?_
 .intro out _;apply X6.2.1.2.2;rw[Ao,Ym];cases p.Steps.drop info.length<;>simp[VT]
 .intro i h ih out ho;have h4:=Z7 (i:=i) Z;have h':i<p.Steps.length:=by omega
  apply X6.2.1.2.2;rw[An];refine⟨Z,p.Steps[i],by rw[Yh];exact Yd h',_,ZPx hm hi hs h h',Z,?_⟩;have ih:=ih (out++[Vs m info sizes p.Steps[i] info[i]]) (by simp[ho]);rw[ZCQ m info sizes h' h,show w ((i:Int)+1)=(i:Int)+1 from h4];simpa using ih
def ZPz(m:Zf)(hm:Ba m)(q:Zc)(hq:AI q)(p:Ze)(sizes:WL)(hs:Le sizes):zY m q p sizes=some (.own 0,[.arr Z9 1 true ((Qe m q.Zh q.Atoms p.Steps sizes).map ic)]):=by
 have q1:=ZA9 q p hq;apply X6.2.2.1.1;unfold Qe
 cases hi:Wh q.Zh q.Atoms p.Steps with
 |none=>rw[hi]at q1;exact⟨[],false,q1,by rw[Yb Om]⟩
 |some info =>
  rw[hi]at q1;refine⟨info,true,q1,?_⟩;rw[Ya rfl];refine⟨_,ZCP q hq sizes hs,?_⟩;simp only;rcases tf (WT q.Zh q.Atoms sizes)with e|e
  .rw[e,Yb Om,Yb Om]
  .rw[e,Ya rfl,Ya rfl];have b:=ZPy hm hi e 0 (Yc _) [] rfl;simpa using b
def ZP0(xs:WL)(hx:Le xs):∀i,i<=xs.length->∀n,gN xs n i=some (I (VU (xs.drop i) n),[]):=by
 refine down _ ?_ ?_
 .intro n;apply X6.2.2.1.2;simp[VU]
 .intro i hi ih n;have h4:=Z7 (i:=i) Z;apply X6.2.2.1.2;simp only[Ys,Yt]at ih;rw[Yi hi,VU,Yv];simp[hi,h4,ih,VU]
def ZP1(m:Zf)(hm:Ba m)(q:Zc)(hq:AI q)(p:Ze)(sizes:WL)(hs:Le sizes):zZ m q p sizes=some (I (Vt m q.Zh q.Atoms p.Steps sizes),[]):=by
 refine X6.2.2.2.1 _ _ _ _ _ ⟨_,ZPz m hm q hq p sizes hs,?_⟩;unfold Vt;by_cases e:Qe m q.Zh q.Atoms p.Steps sizes=[]
 .have e2:Jb q.Zh q.Atoms p.Steps sizes=false:=by
   rcases tf (Jb q.Zh q.Atoms p.Steps sizes)with h|h
   .exact h
   .exact absurd e (ZqS.2 h)
  rw[e2,e];simp
 .have e2:=ZqS.1 e;have e3:¬((Qe m q.Zh q.Atoms p.Steps sizes).length:Int)=0:=λhc=>e (TD.1 Z)
  rw[Yb e3,e2,Ya rfl];exact ZP0 _ (by have:=Z1X (m:=m) (n:=q.Zh) (qa:=q.Atoms) (steps:=p.Steps) (sizes:=sizes);omega) 0 (Yc _) 0
def ZCT(m:Zf)(hm:Ba m)(q:Zc)(hq:AI q)(p:Ze)(l:WL)(hl:l.length<=4294967296)(h:Xl l=true):Sr m q p l=some (I (Vt m q.Zh q.Atoms p.Steps (ZG l)),[]):=by
 have b:=ZAV l hl;rw[h,Ya rfl]at b;exact W8.2.1.1.2 _ _ _ _ _ (.inl ⟨_,b,_,Z1Y m hm q hq p (ZG l) (by simp[ZG];omega),rfl⟩)
def Z1Z(m:Zf)(hm:Ba m)(q:Zc)(hq:AI q)(p:Ze)(l:WL)(hl:l.length<=4294967296)(h:Xl l=true):HA m q p l=some (I (Vt m q.Zh q.Atoms p.Steps (ZG l)),[]):=by
 have b:=Zql l hl;rw[h,Ya rfl]at b;exact X6.2.2.2.2.1 _ _ _ _ _ ⟨_,b,_,ZP1 m hm q hq p (ZG l) (by simp[ZG];omega),rfl⟩
