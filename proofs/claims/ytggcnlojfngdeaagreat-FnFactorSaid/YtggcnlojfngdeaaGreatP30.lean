/-
  Parts of the proofs for this seat: FD XV PD.
-/
import Derived.Test.YtggcnlojfngdeaaGreatP29
set_option linter.all false
set_option maxRecDepth 100000
set_option maxHeartbeats 4000000
namespace Go.Proofs.YtggcnlojfngdeaaGreat
open Go.AM
def Og(n:Int)(qa:List Zd):0<=Z7 n qa/\Z7 n qa<=15:=by
 unfold Z7
 grind [Jc]
def GBx(R:Rs):Prop:=∃(c:Zl) (b:Box),R=some (.agg (b.c.map .t),[cB c])/\GC c/\b.Low.length<=17/\b.High.length<=17
def GBx.of{R R':Rs}(h:GBx R')(k:∀r,R'=some r->R=some r):GBx R:=by
 obtain⟨n,x,e,l⟩:=h;exact⟨n,x,k _ e,l⟩
def ZM3{c:Zl}(g:GC c)(l:List V5)(h0:l≠[])(hl:l.length<=256):∃c' e,PV c l=some (.t (.str e),[cB c'])/\GC c'/\e∈l:=by
 have hp:=Y4.2 h0;obtain⟨c1,n,e,g1,n0,n1⟩:=X2 g l.length;obtain⟨e',he,hm⟩:=M8 (l:=l) n0 (n1 Z)
 grind [Wz.1.1.1.1]
def GQ(R:Rs):Prop:=∃(c:Zl) (q:Zc),R=some (.agg (q.c.map .t),[cB c])/\GC c/\AS q
def ZM4{c:Zl}(g:GC c):GQ (wT c):=by
 obtain⟨c1,n,x,e1,g1,hx⟩:=Z8K g;by_cases h3:3<(x.length:Int)
 .obtain⟨c2,b,e2,g2⟩:=VN g1 8;rcases tf b with hb|hb
  .subst hb;obtain⟨c3,s,e3,g3,hs⟩:=ZM3 g2 [(⟨#[114,40,88,89,41,32,115,40,89,90,41]⟩:V5),(⟨#[114,40,88,89,41,32,115,40,89,90,41,32,116,40,90,88,41]⟩:V5),(⟨#[114,40,88,89,41,32,115,40,89,90,41,32,118,40,89,41]⟩:V5),(⟨#[114,40,88,89,41,32,114,40,89,90,41]⟩:V5)] Om Om;have hz:UV s:=by
    grind [pq1,pq3,pq5,pq9]
   obtain⟨n',x',e4,hx'⟩:=hz;exact⟨c3,⟨n',x'⟩,Wz.1.1.1.2 _ _ ⟨c1,x,n,e1,by rw[Ya h3];exact⟨c2,false,e2,by rw[Yb Om];exact⟨c3,s,e3,x',n',true,e4,rfl⟩⟩⟩,g3,SK hx'⟩
  .subst hb;exact⟨c2,⟨n,x⟩,Wz.1.1.1.2 _ _ ⟨c1,x,n,e1,by rw[Ya h3];exact⟨c2,true,e2,by rw[Ya rfl];rfl⟩⟩,g2,SK hx⟩
 .exact⟨c1,⟨n,x⟩,Wz.1.1.1.2 _ _ ⟨c1,x,n,e1,by rw[Yb h3];rfl⟩,g1,SK hx⟩
def ZM5{c:Zl}(g:GC c):GQ (c8 c):=by
 obtain⟨c1,q,e1,g1,hq⟩:=ZM4 g;rcases tf (Wm q.Zg q.Atoms (Z7 q.Zg q.Atoms))with hc|hc
 .obtain⟨n,x,e4,hx⟩:=pq1;exact⟨c1,⟨n,x⟩,Wz.2.2.1.1 _ _ ⟨c1,q,e1,_,Ue q hq,_,HS q hq _,by rw[hc,Yb Om];exact⟨x,n,true,e4,rfl⟩⟩,g1,SK hx⟩
 .exact⟨c1,q,Wz.2.2.1.1 _ _ ⟨c1,q,e1,_,Ue q hq,_,HS q hq _,by rw[hc,Ya rfl]⟩,g1,hq⟩
def Te(R:Rs):Prop:=∃(c:Zl) (f:Zx),R=some (.agg (f.c.map .t),[cB c])/\GC c/\f.From.length<=10
def Te.of{R R':Rs}(h:Te R')(q:∀r,R'=some r->R=some r):Te R:=by
 obtain⟨c,x,e,l⟩:=h;exact⟨c,x,q _ e,l⟩
def pH(a:V5)(b:Int)(nm:V5)(to:Int)(m:Nat)(hm:m<=3):∀i,i<=m->∀c x,GC c->x.length<=i->Te (Pz c a b nm to x m i):=by
 refine down _ ?_ ?_
 .intro c x g hx;obtain⟨c2,v,e2,g2⟩:=VN g 14;rcases tf v with hv|hv<;>subst hv
  .obtain⟨c4,u,e4,g4⟩:=VN g2 16;rcases tf u with hu|hu<;>subst hu
   .exact⟨c4,⟨nm,x,to⟩,Xn.1.1.2.1 _ _ _ _ _ _ _ _ _ (by rw[Ap];exact⟨c2,false,e2,by rw[Yb Om];exact⟨c4,false,e4,by rw[Yb Om];rfl⟩⟩),g4,by show x.length<=_;omega⟩
   .obtain⟨c5,n,e5,g5,_⟩:=UU g4 [-1,0,3,9223372036854775807] Om Om;exact⟨c5,⟨nm,x++[n],to⟩,Xn.1.1.2.1 _ _ _ _ _ _ _ _ _ (by rw[Ap];exact⟨c2,false,e2,by rw[Yb Om];exact⟨c4,true,e4,by rw[Ya rfl];exact⟨c5,_,n,e5,Z,rfl⟩⟩⟩),g5,by show(x++[n]).length<=_;simp;omega⟩
  .obtain⟨c3,k,e3,g3,_⟩:=UU g2 [-1,3,0] Om Om;obtain⟨c4,u,e4,g4⟩:=VN g3 16;rcases tf u with hu|hu<;>subst hu
   .exact⟨c4,⟨nm,x,k⟩,Xn.1.1.2.1 _ _ _ _ _ _ _ _ _ (by rw[Ap];exact⟨c2,true,e2,by rw[Ya rfl];exact⟨c3,_,k,e3,c4,false,e4,by rw[Yb Om];rfl⟩⟩),g4,by show x.length<=_;omega⟩
   .obtain⟨c5,n,e5,g5,_⟩:=UU g4 [-1,0,3,9223372036854775807] Om Om;exact⟨c5,⟨nm,x++[n],k⟩,Xn.1.1.2.1 _ _ _ _ _ _ _ _ _ (by rw[Ap];exact⟨c2,true,e2,by rw[Ya rfl];exact⟨c3,_,k,e3,c4,true,e4,by rw[Ya rfl];exact⟨c5,_,n,e5,Z,rfl⟩⟩⟩),g5,by show(x++[n]).length<=_;simp;omega⟩
 .intro i hi ih c x g hx;by_cases h:(i:Int)=to
  .refine(ih c x g Z).of λr e=>Xn.1.1.2.1 _ _ _ _ _ _ _ _ _ ?_
   grind [wN]
  .obtain⟨c1,v,e1,g1⟩:=VN g 2;rcases tf v with hv|hv<;>subst hv
   .refine(ih c1 x g1 Z).of λr e=>Xn.1.1.2.1 _ _ _ _ _ _ _ _ _ ?_
    grind [wN]
   .refine(ih c1 (x++[(i:Int)]) g1 (by simp;omega)).of λr e=>Xn.1.1.2.1 _ _ _ _ _ _ _ _ _ ?_
    grind [wN]
def AbC(a:V5)(b:Int)(nm:V5)(to:Int)(m:Nat)(hm:m<=3):∀i,i<=m->∀c,GC c->Te (Lt c a b nm to m i):=by
 refine down _ ?_ ?_
 .intro c g;obtain⟨c2,v,e2,g2⟩:=VN g 14;rcases tf v with hv|hv<;>subst hv
  .obtain⟨c4,u,e4,g4⟩:=VN g2 16;rcases tf u with hu|hu<;>subst hu
   .exact⟨c4,⟨nm,[],to⟩,Xn.1.1.1.2 _ _ _ _ _ _ _ _ (by rw[Ap];exact⟨c2,false,e2,by rw[Yb Om];exact⟨c4,false,e4,by rw[Yb Om];rfl⟩⟩),g4,Om⟩
   .obtain⟨c5,n,e5,g5,_⟩:=UU g4 [-1,0,3,9223372036854775807] Om Om;exact⟨c5,⟨nm,[n],to⟩,Xn.1.1.1.2 _ _ _ _ _ _ _ _ (by rw[Ap];exact⟨c2,false,e2,by rw[Yb Om];exact⟨c4,true,e4,by rw[Ya rfl];exact⟨c5,_,n,e5,rfl⟩⟩⟩),g5,Om⟩
  .obtain⟨c3,k,e3,g3,_⟩:=UU g2 [-1,3,0] Om Om;obtain⟨c4,u,e4,g4⟩:=VN g3 16;rcases tf u with hu|hu<;>subst hu
   .exact⟨c4,⟨nm,[],k⟩,Xn.1.1.1.2 _ _ _ _ _ _ _ _ (by rw[Ap];exact⟨c2,true,e2,by rw[Ya rfl];exact⟨c3,_,k,e3,c4,false,e4,by rw[Yb Om];rfl⟩⟩),g4,Om⟩
   .obtain⟨c5,n,e5,g5,_⟩:=UU g4 [-1,0,3,9223372036854775807] Om Om;exact⟨c5,⟨nm,[n],k⟩,Xn.1.1.1.2 _ _ _ _ _ _ _ _ (by rw[Ap];exact⟨c2,true,e2,by rw[Ya rfl];exact⟨c3,_,k,e3,c4,true,e4,by rw[Ya rfl];exact⟨c5,_,n,e5,rfl⟩⟩⟩),g5,Om⟩
 .intro i hi ih c g;by_cases h:(i:Int)=to
  .refine(ih c g).of λr e=>Xn.1.1.1.2 _ _ _ _ _ _ _ _ ?_
   grind [wN]
  .obtain⟨c1,v,e1,g1⟩:=VN g 2;rcases tf v with hv|hv<;>subst hv
   .refine(ih c1 g1).of λr e=>Xn.1.1.1.2 _ _ _ _ _ _ _ _ ?_
    grind [wN]
   .refine(pH a b nm to m hm (i+1) Z c1 [(i:Int)] g1 Om).of λr e=>Xn.1.1.1.2 _ _ _ _ _ _ _ _ ?_
    grind [wN]
def Z0j{c:Zl}(g:GC c):Te (JT c):=by
 obtain⟨c1,k,e1,g1,k0,k1⟩:=X2 g 5;obtain⟨⟨nm,h1⟩,m,h2,hm⟩:=Na k0 (k1 Z);obtain⟨c2,to,e2,g2,_⟩:=X2 g1 m;exact(AbC ⟨#[]⟩ 0 nm to m hm 0 Z c2 g2).of λr e=>ZH3 _ _ ⟨c1,k,e1,k0,_,h2,_,h1,c2,to,e2,e⟩
def GIn(R:Rs):Prop:=∃(c:Zl) (x:Zw),R=some (.agg (x.c.map .t),[cB c])/\GC c
def Z0k{c:Zl}(g:GC c):GIn (K2 c):=by
 obtain⟨c1,s,e1,g1,_⟩:=SJ g QC Om Om;obtain⟨c2,k,e2,g2,_⟩:=X2 g1 2;obtain⟨c3,t,e3,g3,_⟩:=SJ g2 QC Om Om;obtain⟨c4,j,e4,g4,_⟩:=X2 g3 2;obtain⟨c5,v,e5,g5⟩:=VN g4 14;obtain⟨c6,n,e6,g6,_⟩:=UU g5 [-1,3] Om Om;have go:∀r,_->K2 c=some r:=λr h=>ZH6 _ r ⟨c1,_,s,e1,c2,k,e2,c3,_,t,e3,c4,j,e4,h⟩
 by_cases hs:s=(⟨#[118]⟩:V5)<;>by_cases ht:t=(⟨#[118]⟩:V5)<;>rcases tf v with hv|hv<;>subst hv
 .exact⟨c5,⟨s,0,t,0⟩,go _ (by rw[Ya hs,Ya ht];exact⟨c5,false,e5,by rw[Yb Om];rfl⟩),g5⟩
 .exact⟨c6,⟨s,n,t,0⟩,go _ (by rw[Ya hs,Ya ht];exact⟨c5,true,e5,by rw[Ya rfl];exact⟨c6,_,n,e6,rfl⟩⟩),g6⟩
 .exact⟨c5,⟨s,0,t,j⟩,go _ (by rw[Ya hs,Yb ht];exact⟨c5,false,e5,by rw[Yb Om];rfl⟩),g5⟩
 .exact⟨c6,⟨s,n,t,j⟩,go _ (by rw[Ya hs,Yb ht];exact⟨c5,true,e5,by rw[Ya rfl];exact⟨c6,_,n,e6,rfl⟩⟩),g6⟩
 .exact⟨c5,⟨s,k,t,0⟩,go _ (by rw[Yb hs,Ya ht];exact⟨c5,false,e5,by rw[Yb Om];rfl⟩),g5⟩
 .exact⟨c6,⟨s,n,t,0⟩,go _ (by rw[Yb hs,Ya ht];exact⟨c5,true,e5,by rw[Ya rfl];exact⟨c6,_,n,e6,rfl⟩⟩),g6⟩
 .exact⟨c5,⟨s,k,t,j⟩,go _ (by rw[Yb hs,Yb ht];exact⟨c5,false,e5,by rw[Yb Om];rfl⟩),g5⟩
 .exact⟨c6,⟨s,n,t,j⟩,go _ (by rw[Yb hs,Yb ht];exact⟨c5,true,e5,by rw[Ya rfl];exact⟨c6,_,n,e6,rfl⟩⟩),g6⟩
def ZM6(fs:List Zx)(hf:NN fs)(hl:fs.length<=1000):∀i,i<=fs.length->cL (fs.take i) fs i=some (.own 0,[.arr 93 3 true (fs.map Zx.c)]):=by
 refine down _ ?_ ?_
 .apply X1.2.1.2.2;simp
 .intro i hi ih;apply X1.2.1.2.2
  grind [wS,Gp,gE,List.getElem_mem,List.length_take]
def ZA6(fs:List Zx)(hf:NN fs)(hl:fs.length<=1000):cK fs=some (.own 0,[.arr 93 3 true (fs.map Zx.c)]) :=
 X1.2.2.1.1 _ _ (by simpa using ZM6 fs hf hl 0 (Yc _))
abbrev stA(s:Zr)(k:Nat):AV:=.agg [.own k,I s.Z2.Version,.own (k+1),.own (k+2),.own (k+3)]
abbrev stH(s:Zr)(fr:Bool):WM:=[.arr 150 3 true (s.Zq.Tables.map Zm.c),.arr 100 4 fr (s.Z2.Tables.map Zu.c),.arr 93 3 true (s.Dependencies.map Zx.c),.arr 96 4 true (s.Inclusions.map Zw.c)]
def AbD:Vq ⟨⟨[]⟩,⟨0,[]⟩,[],[]⟩:=⟨⟨Om,Om⟩,⟨Om,Om⟩,⟨Om,Om⟩,Om⟩
open Classical in
def ZA7{d:Zq}(h5:d.Tables.length<=5)(ht:∀t∈d.Tables,KF t){fs:List Zx}(hf:NN fs)(hl:fs.length<=1000){xs:List Zw}(hx:xs.length<=4):∃(s:Zr) (b fr:Bool),Hg d fs xs=some (.tup [stA s 0,Bo b],stH s fr)/\Vq s/\(fr=false->b=true)/\s.Z2.Tables.length<=100/\s.Dependencies.length<=1000/\s.Inclusions.length<=100:=by
 have hd:=KF.le h5 ht;have hX:Le xs:=by omega
 have hb:=Z9Q hd 1;unfold ZpM at hb;have hT:LfD d:=⟨Z,λt h=>⟨by have:=(ht t h).1;omega,λr hr=>by have:=(ht t h).2 r hr;omega⟩⟩;have zz:∀R:Rs,R=some (.tup [.agg [.own 0,I 0,.own 1,.own 2,.own 3],Bo false],[.arr 150 3 true (([]:List Zm).map Zm.c),.arr 100 4 true (([]:List Zu).map Zu.c),.arr 93 3 true (([]:List Zx).map Zx.c),.arr 96 4 true (([]:List Zw).map Zw.c)])->∃(s:Zr) (b fr:Bool),R=some (.tup [stA s 0,Bo b],stH s fr)/\Vq s/\(fr=false->b=true)/\s.Z2.Tables.length<=100/\s.Dependencies.length<=1000/\s.Inclusions.length<=100:=λR e=>⟨⟨⟨[]⟩,⟨0,[]⟩,[],[]⟩,false,true,e,AbD,Om,Om,Om,Om⟩
 have ok:∀e:(Wu d && Ak 1 1 999)=true,KK d 1=⟨1,d.Tables.map ZJ⟩/\Vq ⟨d,⟨1,d.Tables.map ZJ⟩,fs,xs⟩:=λe=>by
  have hv:Wu d=true:=by simp only[Yd]at e;exact e.1
  exact⟨by unfold KK;rw[Ya e],⟨hd,Z9W hv,hf,hX⟩⟩
 rcases tf (S2 d 1)with ef|ef
 .have e:=Z9P ef;obtain⟨hc,hs⟩:=ok e;rw[ef,e,hc]at hb;rcases tf (NM d fs xs)with k|k
  .exact zz _ (X1.2.2.1.2 _ _ _ _ (.inr ⟨_,_,_,hb,_,nQ hd hf hX,by rw[k,Yb Sm]⟩))
  .exact⟨⟨d,⟨1,d.Tables.map ZJ⟩,fs,xs⟩,true,false,X1.2.2.1.2 _ _ _ _ (.inr ⟨_,_,_,hb,_,nQ hd hf hX,by rw[k,Ya rfl];exact⟨d.Tables,Z9X d hT,fs,ZA6 fs hf hl,Z,rfl⟩⟩),hs,λ_=>rfl,by simp;omega,hl,by show xs.length<=100;omega⟩
 .rw[ef]at hb;rcases tf (Wu d && Ak 1 1 999)with e|e
  .exact zz _ (X1.2.2.1.2 _ _ _ _ (.inl ⟨_,_,_,hb,by rw[e,Yb Sm]⟩))
  .obtain⟨hc,hs⟩:=ok e;rw[e,hc]at hb;rcases tf (NM d fs xs)with k|k
   .exact zz _ (X1.2.2.1.2 _ _ _ _ (.inl ⟨_,_,_,hb,by rw[Ya rfl];exact⟨_,nQ hd hf hX,by rw[k,Yb Sm]⟩⟩))
   .exact⟨⟨d,⟨1,d.Tables.map ZJ⟩,fs,xs⟩,true,true,X1.2.2.1.2 _ _ _ _ (.inl ⟨_,_,_,hb,by rw[Ya rfl];exact⟨_,nQ hd hf hX,by rw[k,Ya rfl];exact⟨d.Tables,Z9X d hT,fs,ZA6 fs hf hl,Z,rfl⟩⟩⟩),hs,λ_=>rfl,by simp;omega,hl,by show xs.length<=100;omega⟩
def Ie(R:Rs):Prop:=∃(c:Zl) (s:Zr) (fr:Bool),R=some (stA s 1,cB c::stH s fr)/\GC c/\Vq s/\s.Z2.Tables.length<=100/\s.Dependencies.length<=1000/\s.Inclusions.length<=100
def Ie.of{R R':Rs}(h:Ie R')(q:∀r,R'=some r->R=some r):Ie R:=by
 obtain⟨c,x,fr,e,l⟩:=h;exact⟨c,x,fr,q _ e,l⟩
section
variable{d:Zq}(h5:d.Tables.length<=5)(ht:∀t∈d.Tables,KF t)(V:Int)
include h5 ht
theorem Tf{fs:List Zx}(hf:NN fs)(hl:fs.length<=1000):∀n:Nat,n<=100->∀c fr (xs:List Zw),GC c->xs.length<=4->Ie (LD c V d fr fs xs n)
 |0,_,c,fr,xs,g,hx=>by
  obtain⟨s,b,f,e,hs,hb,l1⟩:=ZA7 h5 ht hf hl (xs:=xs) hx
  cases f with
  |true=>exact⟨c,s,true,Sr.1 _ _ _ _ _ _ _ _ (by rw[Ap];exact .inl ⟨_,_,_,_,_,_,e,rfl⟩),g,hs,l1⟩
  |false=>rw[hb rfl]at e;exact⟨c,s,false,Sr.1 _ _ _ _ _ _ _ _ (by rw[Ap];exact .inr ⟨_,_,_,_,_,_,e,rfl⟩),g,hs,l1⟩
 |n+1,hn,c,fr,xs,g,hx=>by
  obtain⟨c1,x,e1,g1⟩:=Z0k g;have hw:w (((n+1:Nat):Int)-1)=(n:Int):=by rw[ZO Z Z];omega
  have hI:=ZzL (KF.le h5 ht) x;rcases tf (NK d x)with k|k
  .refine(Tf hf hl n Z c1 fr xs g1 hx).of λr e=>Sr.1 _ _ _ _ _ _ _ _ ?_
   grind
  .by_cases h4:(xs.length:Int)<4
   .refine(Tf hf hl n Z c1 fr (xs++[x]) g1 (by simp;omega)).of λr e=>Sr.1 _ _ _ _ _ _ _ _ ?_
    grind
   .refine(Tf hf hl n Z c1 fr xs g1 hx).of λr e=>Sr.1 _ _ _ _ _ _ _ _ ?_
    grind
theorem pI{fs:List Zx}(hf:NN fs)(hl:fs.length<=1000):∀n:Nat,n<=100->∀c fr,GC c->Ie (wM c V fr d.Tables fs [] n)
 |0,_,c,fr,g=>by
  obtain⟨s,b,f,e,hs,hb,l1⟩:=ZA7 h5 ht hf hl (xs:=[]) Om
  cases f with
  |true=>exact⟨c,s,true,X1.2.2.2.2.2 _ _ _ _ _ _ _ _ (by rw[Ap];exact .inl ⟨_,_,_,_,_,_,e,rfl⟩),g,hs,l1⟩
  |false=>rw[hb rfl]at e;exact⟨c,s,false,X1.2.2.2.2.2 _ _ _ _ _ _ _ _ (by rw[Ap];exact .inr ⟨_,_,_,_,_,_,e,rfl⟩),g,hs,l1⟩
 |n+1,hn,c,fr,g=>by
  obtain⟨c1,x,e1,g1⟩:=Z0k g;have hw:w (((n+1:Nat):Int)-1)=(n:Int):=by rw[ZO Z Z];omega
  have hI:=ZzL (KF.le h5 ht) x;rcases tf (NK d x)with k|k
  .refine(Tf h5 ht V hf hl n Z c1 true [] g1 Om).of λr e=>X1.2.2.2.2.2 _ _ _ _ _ _ _ _ ?_
   rw[Ao,hw];exact⟨c1,x,e1,_,hI,by rw[k,Yb Om];exact e⟩
  .refine(Tf h5 ht V hf hl n Z c1 true ([]++[x]) g1 Om).of λr e=>X1.2.2.2.2.2 _ _ _ _ _ _ _ _ ?_
   rw[Ao,hw];exact⟨c1,x,e1,_,hI,by rw[k,Ya rfl,Ya Om];exact⟨Om,e⟩⟩
theorem ZpY:∀n:Nat,n<=100->∀c fr (fs:List Zx),GC c->fs.length+n<=100->(∀f∈fs,f.From.length<=10)->Ie (LC c V d fr fs n)
 |0,_,c,fr,fs,g,hl,hf=>by
  obtain⟨c1,k,e1,g1,k0,k1⟩:=X2 g 12;obtain⟨n,rfl⟩:∃n:Nat,k=n:=⟨k.toNat,Z⟩;have:=k1 Z;refine(Tf h5 ht V (fs:=fs) ⟨Z,λf h=>by have:=hf f h;omega⟩ Z n Z c1 fr [] g1 Om).of λr e=>X1.2.2.2.2.1 _ _ _ _ _ _ _ ?_
  grind
 |n+1,hn,c,fr,fs,g,hl,hf=>by
  obtain⟨c1,x,e1,g1,hx⟩:=Z0j g;have hw:w (((n+1:Nat):Int)-1)=(n:Int):=by rw[ZO Z Z];omega
  have hI:=ZzK (KF.le h5 ht) x Z;rcases tf (S5 d x)with k|k
  .refine(ZpY n Z c1 fr fs g1 Z hf).of λr e=>X1.2.2.2.2.1 _ _ _ _ _ _ _ ?_
   grind
  .refine(ZpY n Z c1 false (fs++[x]) g1 (by simp;omega) (λf h=>?_)).of λr e=>X1.2.2.2.2.1 _ _ _ _ _ _ _ ?_
   .grind
   .grind
theorem pJ:∀n:Nat,n<=99->∀c fr,GC c->Ie (cO c V fr d.Tables [] n)
 |0,_,c,fr,g=>by
  obtain⟨c1,k,e1,g1,k0,k1⟩:=X2 g 12;obtain⟨n,rfl⟩:∃n:Nat,k=n:=⟨k.toNat,Z⟩;have:=k1 Z;refine(pI h5 ht V (fs:=[]) ⟨Om,Om⟩ Om n Z c1 fr g1).of λr e=>X1.2.2.2.1 _ _ _ _ _ _ _ ?_
  grind
 |n+1,hn,c,fr,g=>by
  obtain⟨c1,x,e1,g1,hx⟩:=Z0j g;have hw:w (((n+1:Nat):Int)-1)=(n:Int):=by rw[ZO Z Z];omega
  have hI:=ZzK (KF.le h5 ht) x Z;rcases tf (S5 d x)with k|k
  .refine(ZpY h5 ht V n Z c1 true [] g1 (by simp;omega) Om).of λr e=>X1.2.2.2.1 _ _ _ _ _ _ _ ?_
   rw[Ao,hw];exact⟨c1,x,e1,_,hI,by rw[k,Yb Om];exact e⟩
  .refine(ZpY h5 ht V n Z c1 false ([]++[x]) g1 (by simp;omega) (by simpa using hx)).of λr e=>X1.2.2.2.1 _ _ _ _ _ _ _ ?_
   rw[Ao,hw];exact⟨c1,x,e1,_,hI,by rw[k,Ya rfl];exact⟨Om,e⟩⟩
end
def ZA8{c:Zl}(g:GC c):Ie (JV c):=by
 obtain⟨c1,d,e1,g1,h5,ht⟩:=Z8S g;obtain⟨c2,k,e2,g2,k0,k1⟩:=X2 g1 6;obtain⟨n,rfl⟩:∃n:Nat,k=n:=⟨k.toNat,Z⟩;have:=k1 Z;exact(pJ Z ht 0 n Z c2 true g2).of λr e=>Sr.2 _ _ ⟨c1,d.Tables,e1,c2,_,e2,e⟩
def ZM7{c:Zl}(g:GC c)(l:List V5)(h0:l≠[])(hl:l.length<=256):∃c' e,PV c l=some (.t (.str e),[cB c'])/\GC c'/\e∈l:=by
 have hp:0<l.length:=Y4.2 h0;obtain⟨c',n,e,g',h1,h2⟩:=X2 g l.length;obtain⟨y,hy,hm⟩:=M8 h1 (h2 Z)
 grind [Wz.1.1.1.1]
def ZM8{c:Zl}(g:GC c)(l:WL)(h0:l≠[])(hl:l.length<=256):∃c' e,PZ c l=some (I e,[cB c'])/\GC c'/\e∈l:=by
 have hp:0<l.length:=Y4.2 h0;obtain⟨c',n,e,g',h1,h2⟩:=X2 g l.length;obtain⟨y,hy,hm⟩:=M8 h1 (h2 Z)
 grind [Wz.2.2.2.1]
def GTb(R:Rs):Prop:=∃(c:Zl) (t:Zm),R=some (.agg [.t (.str t.Name),I t.Arity,.own 1],[cB c,.arr 44 1 true (t.Rows.map AA)])/\GC c/\t.Rows.length<=1000/\∀r∈t.Rows,r.length<=10
def ZpZ{c:Zl}(g:GC c)(nm:V5)(m:Nat)(hm:m<=3)(val most:Int)(h0:0<=most)(h1:most<=100):GTb (Vx c nm m most val):=by
 obtain⟨c1,y,e,g1,hl,h3⟩:=lS g nm m hm most val h0 h1;exact⟨c1,⟨nm,m,y⟩,e,g1,by show y.length<=1000;omega,λr hr=>by have:=h3 r hr;omega⟩
def ZM9{c:Zl}(g:GC c):GTb (Zip c):=by
 obtain⟨c1,nm,e1,g1,_⟩:=SJ g [(⟨#[114]⟩:V5),(⟨#[115]⟩:V5),(⟨#[116]⟩:V5)] Om Om;obtain⟨c2,k,e2,g2,k0,k1⟩:=X2 g1 3;have k3:=k1 Z;obtain⟨n,rfl⟩:∃n:Nat,k=n:=⟨k.toNat,Z⟩;have hw:w (1+(n:Int))=((n+1:Nat):Int):=by rw[ZO Z Z];omega
 obtain⟨c3,t,e3,g3,hl,h3⟩:=ZpZ g2 nm (n+1) Z 4 6 Z Z;rw[<-hw]at e3;obtain⟨c4,j,e4,g4,_⟩:=X2 g3 12;have go:∀r,_->Zip c=some r:=λr h=>Wz.2.2.2.2.1 _ r ⟨c1,_,nm,e1,c2,_,e2,c3,t.Rows,t.Name,t.Arity,e3,c4,j,e4,h⟩
 by_cases j0:j=0
 .obtain⟨c5,v,e5,g5,_⟩:=SJ g4 [(⟨#[]⟩:V5),(⟨#[82]⟩:V5),(⟨#[114,115]⟩:V5),(⟨#[122]⟩:V5)] Om Om;exact⟨c5,⟨v,t.Arity,t.Rows⟩,go _ (by rw[Ya j0];exact⟨c5,_,v,e5,rfl⟩),g5,hl,h3⟩
 by_cases j1:j=1
 .obtain⟨c5,v,e5,g5,_⟩:=UU g4 [0,4,-1] Om Om;exact⟨c5,⟨t.Name,v,t.Rows⟩,go _ (by rw[Yb j0,Ya j1];exact⟨c5,_,v,e5,rfl⟩),g5,hl,h3⟩
 by_cases j2:j=2
 .have:=t
  exact⟨c4,⟨t.Name,t.Arity,t.Rows++[[0]]⟩,go _ (by rw[Yb j0,Yb j1,Ya j2];exact⟨Z,rfl⟩),g4,by
   obtain⟨c1,y,e,g1,hl',h3'⟩:=lS g2 nm (n+1) Z 6 4 Z Z;rw[<-hw]at e;have e9:=e3.symm.trans e;simp only[Y7,CW,Tv,Ax.arr.injEq]at e9;have e8:=congrArg List.length e9.2.2.1.2.2.2;simp only[Dy]at e8;show(t.Rows++[[0]]).length<=1000;simp;omega,λr hr=>by
   rcases Yi.1 hr with h|h
   .exact h3 r h
   .simp at h;subst h;simp⟩
 by_cases j3:j=3
 .exact⟨c4,⟨t.Name,t.Arity,t.Rows++[[9,9,10]]⟩,go _ (by rw[Yb j0,Yb j1,Yb j2,Ya j3];exact⟨Z,rfl⟩),g4,by
   obtain⟨c1,y,e,g1,hl',h3'⟩:=lS g2 nm (n+1) Z 6 4 Z Z;rw[<-hw]at e;have e9:=e3.symm.trans e;simp only[Y7,CW,Tv,Ax.arr.injEq]at e9;have e8:=congrArg List.length e9.2.2.1.2.2.2;simp only[Dy]at e8;show(t.Rows++[[9,9,10]]).length<=1000;simp;omega,λr hr=>by
   rcases Yi.1 hr with h|h
   .exact h3 r h
   .simp at h;subst h;simp⟩
 .exact⟨c4,t,go _ (by rw[Yb j0,Yb j1,Yb j2,Yb j3]),g4,hl,h3⟩
def GDa(R:Rs):Prop:=∃(c:Zl) (d:Zq),R=some (.agg (d.c.map .t),[cB c])/\GC c/\Cy d
def ZMA{c:Zl}(g:GC c):GDa (LF c):=by
 obtain⟨c1,d,e1,g1,h5,ht⟩:=Z8S g;obtain⟨c2,k,e2,g2,_⟩:=X2 g1 10;have go:∀r,_->LF c=some r:=λr h=>Wz.2.2.2.2.2 _ r ⟨c1,d.Tables,e1,c2,k,e2,h⟩
 have hd:∀t∈d.Tables,Cn t:=λt h=>⟨by have:=(ht t h).1;omega,λr hr=>by have:=(ht t h).2 r hr;omega⟩
 have hT:∀{t:Zm},t.Rows.length<=1000->(∀r∈t.Rows,r.length<=10)->Cn t:=λh1 h2=>⟨Z,λr hr=>by have:=h2 r hr;omega⟩
 by_cases k0:k=0
 .obtain⟨c3,t,e3,g3,l3,r3⟩:=ZM9 g2;obtain⟨c4,j,e4,g4,j0,j1⟩:=X2 g3 5;obtain⟨y,hy,_⟩:=M8 (l:=d.Tables) j0 (by have:=j1 Z;omega);refine⟨c4,⟨d.Tables.set j.toNat t⟩,go _ (by rw[Ya k0];exact⟨c3,t.Rows,t.Name,t.Arity,e3,c4,j,e4,j0,y,hy,rfl⟩),g4,by show(d.Tables.set _ _).length<=_;rw[CD];omega,λu hu=>?_⟩;rcases DV hu with h|h
  .exact hd u h
  .subst h;exact hT l3 r3
 by_cases k1:k=1
 .obtain⟨c3,nm,e3,g3,_⟩:=ZM7 g2 [(⟨#[97]⟩:V5),(⟨#[119]⟩:V5),(⟨#[122]⟩:V5)] Om Om;obtain⟨c4,t,e4,g4,l4,r4⟩:=ZpZ g3 nm 2 Z 3 4 Z Z;refine⟨c4,⟨d.Tables++[t]⟩,go _ (by rw[Yb k0,Ya k1];exact⟨c3,nm,e3,c4,t.Rows,t.Name,t.Arity,e4,Z,rfl⟩),g4,by show(d.Tables++[t]).length<=_;simp;omega,λu hu=>?_⟩;rcases Yi.1 hu with h|h
  .exact hd u h
  .rw[List.mem_singleton]at h;subst h;exact hT l4 r4
 by_cases k2:k=2
 .obtain⟨c3,j,e3,g3,j0,j1⟩:=X2 g2 5;have:=j1 Z;exact⟨c3,⟨d.Tables.drop j.toNat⟩,go _ (by rw[Yb k0,Yb k1,Ya k2];exact⟨c3,j,e3,j0,Z,rfl⟩),g3,by show(d.Tables.drop _).length<=_;rw[Tw];omega,λu hu=>hd u (Is hu)⟩
 by_cases k3:k=3
 .obtain⟨c3,t,e3,g3,l3,r3⟩:=ZpZ g2 (⟨#[119]⟩:V5) 1 Z 3 2 Z Z;obtain⟨c4,u,e4,g4,l4,r4⟩:=ZpZ g3 (⟨#[120]⟩:V5) 1 Z 3 2 Z Z;refine⟨c4,⟨d.Tables++[t,u]⟩,go _ (by rw[Yb k0,Yb k1,Yb k2,Ya k3];exact⟨c3,t.Rows,t.Name,t.Arity,e3,c4,u.Rows,u.Name,u.Arity,e4,Z,rfl⟩),g4,by show(d.Tables++[t,u]).length<=_;simp;omega,λx hx=>?_⟩;rcases Yi.1 hx with h|h
  .exact hd x h
  .simp at h;rcases h with rfl|rfl
   .exact hT l3 r3
   .exact hT l4 r4
 .exact⟨c2,d,go _ (by rw[Yb k0,Yb k1,Yb k2,Yb k3];rfl),g2,Z,hd⟩
def GSa(R:Rs):Prop:=∃(c:Zl) (s:Zr),R=some (.agg (s.c.map .t),[cB c])/\GC c/\Vq s
def ZMB{c:Zl}(g:GC c):GSa (dA c):=by
 obtain⟨c1,s,fr,e1,g1,hs,t1,t2,t3⟩:=ZA8 g;obtain⟨c2,k,e2,g2,_⟩:=X2 g1 14;have go:∀r,_->dA c=some r:=λr h=>XZ.1.1.1.1 _ r (.inr ⟨c1,s.Zq.Tables,fr,s.Z2.Tables,s.Dependencies,s.Inclusions,s.Z2.Version,e1,c2,k,e2,h⟩)
 by_cases k0:k=0
 .obtain⟨c3,v,e3,g3,_⟩:=ZM8 g2 [0,999,1000,998] Om Om;exact⟨c3,⟨s.Zq,⟨v,s.Z2.Tables⟩,s.Dependencies,s.Inclusions⟩,go _ (by rw[Ya k0];exact⟨c3,v,e3,rfl⟩),g3,⟨hs.d,⟨hs.k.1,hs.k.2⟩,hs.f,hs.x⟩⟩
 by_cases k1:k=1
 .obtain⟨c3,v,e3,g3,l3⟩:=Z0j g2
  exact⟨c3,⟨s.Zq,s.Z2,s.Dependencies++[v],s.Inclusions⟩,go _ (by rw[Yb k0,Ya k1];exact⟨c3,v,e3,Z,rfl⟩),g3,⟨hs.d,hs.k,⟨by simp;omega,λf hf=>by
   rcases Yi.1 hf with h|h
   .exact hs.f.2 f h
   .rw[List.mem_singleton]at h;subst h;omega⟩,hs.x⟩⟩
 by_cases k2:k=2
 .obtain⟨c3,v,e3,g3⟩:=Z0k g2;exact⟨c3,⟨s.Zq,s.Z2,s.Dependencies,s.Inclusions++[v]⟩,go _ (by rw[Yb k0,Yb k1,Ya k2];exact⟨c3,v,e3,Z,rfl⟩),g3,⟨hs.d,hs.k,hs.f,by simp;omega⟩⟩
 by_cases k3:k=3
 .by_cases h0:0<(s.Z2.Tables.length:Int)
  .have hp:0<s.Z2.Tables.length:=by omega
   have hm:=Ye hp;refine⟨c2,⟨s.Zq,⟨s.Z2.Version,s.Z2.Tables.set 0 ⟨s.Z2.Tables[0].Name,s.Z2.Tables[0].Arity,w (s.Z2.Tables[0].RowCount+1),s.Z2.Tables[0].Groups⟩⟩,s.Dependencies,s.Inclusions⟩,go _ (by rw[Yb k0,Yb k1,Yb k2,Ya k3,Ya h0];exact⟨_,Yf hp,rfl⟩),g2,⟨hs.d,⟨?_,λu hu=>?_⟩,hs.f,hs.x⟩⟩
   .show(s.Z2.Tables.set 0 _).length<=4294967296;rw[CD];exact hs.k.1
   .rcases DV hu with h|h
    .exact hs.k.2 u h
    .subst h;exact⟨(hs.k.2 _ hm).1,(hs.k.2 _ hm).2⟩
  .exact⟨c2,s,go _ (by rw[Yb k0,Yb k1,Yb k2,Ya k3,Yb h0];rfl),g2,hs⟩
 by_cases k4:k=4
 .obtain⟨c3,d,e3,g3,l3⟩:=ZMA g2;exact⟨c3,⟨d,s.Z2,s.Dependencies,s.Inclusions⟩,go _ (by rw[Yb k0,Yb k1,Yb k2,Yb k3,Ya k4];exact⟨c3,d,e3,rfl⟩),g3,⟨l3,hs.k,hs.f,hs.x⟩⟩
 .exact⟨c2,s,go _ (by rw[Yb k0,Yb k1,Yb k2,Yb k3,Yb k4];rfl),g2,hs⟩
def Oh{c:Zl}(g:GC c):∃(c':Zl) (m:Zf) (s:Zr) (q:Zc) (cd cc:Int),c9 c=some (.tup [.agg (m.c.map .t),.agg (s.c.map .t),.agg (q.c.map .t),I cd,I cc],[cB c'])/\GC c'/\Be m/\Vq s/\AS q/\(cd=2\/cd=3\/cd=4)/\(cc=0\/cc=20\/cc=50\/cc=100):=by
 obtain⟨c1,m,e1,g1,h1⟩:=ZJY g;obtain⟨c2,s,fr,e2,g2,h2,_⟩:=ZA8 g1;obtain⟨c3,q,e3,g3,h3⟩:=ZM5 g2;obtain⟨c4,r,e4,g4,h4⟩:=UU g3 [2,2,3,4] Om Om;obtain⟨c5,l,e5,g5,h5⟩:=UU g4 [0,20,50,100] Om Om;exact⟨c5,m,s,q,r,l,Wz.2.2.1.2 _ _ ⟨_,_,e1,.inr ⟨_,s.Zq.Tables,fr,s.Z2.Tables,s.Dependencies,s.Inclusions,s.Z2.Version,e2,_,_,e3,_,_,_,e4,_,_,_,e5,rfl⟩⟩,g5,h1.le,h2,h3,by simp at h4;omega,by simp at h5;omega⟩
def Oi(a:WL)(ha:a.length<=1048576):∃(m:Zf) (s:Zr) (q:Zc) (cd cc:Int),P0 a=some (.tup [.agg (m.c.map .t),.agg (s.c.map .t),.agg (q.c.map .t),I cd,I cc],[])/\Be m/\Vq s/\AS q/\(cd=2\/cd=3\/cd=4)/\(cc=0\/cc=20\/cc=50\/cc=100):=by
 obtain⟨c,e,g⟩:=ZJX a ha;obtain⟨c1,m,s,q,r,l,e1,g1,hm,hs,hq,hr,hl⟩:=Oh g;obtain⟨c2,b,e2,g2⟩:=VN g1 10;have go:∀z,_->P0 a=some z:=λz h=>XZ.1.1.2.1 _ z ⟨_,e,_,_,_,_,_,_,e1,_,_,e2,h⟩
 rcases tf b with hb|hb<;>subst hb
 .obtain⟨c4,b4,e4,g4⟩:=VN g2 10;rcases tf b4 with hb|hb<;>subst hb
  .exact⟨m,s,q,r,l,go _ (by rw[Yb Om];exact⟨_,_,e4,by rw[Yb Om]⟩),hm,hs,hq,hr,hl⟩
  .obtain⟨c5,n,x,e5,g5,hx⟩:=Z8L g4;exact⟨m,s,⟨n,x⟩,r,l,go _ (by rw[Yb Om];exact⟨_,_,e4,by rw[Ya rfl];exact⟨_,_,_,e5,rfl⟩⟩),hm,hs,hx,hr,hl⟩
 .obtain⟨c3,s',e3,g3,hs'⟩:=ZMB g2;obtain⟨c4,b4,e4,g4⟩:=VN g3 10;rcases tf b4 with hb|hb<;>subst hb
  .exact⟨m,s',q,r,l,go _ (by rw[Ya rfl];exact⟨_,_,e3,_,_,e4,by rw[Yb Om]⟩),hm,hs',hq,hr,hl⟩
  .obtain⟨c5,n,x,e5,g5,hx⟩:=Z8L g4;exact⟨m,s',⟨n,x⟩,r,l,go _ (by rw[Ya rfl];exact⟨_,_,e3,_,_,e4,by rw[Ya rfl];exact⟨_,_,_,e5,rfl⟩⟩),hm,hs',hx,hr,hl⟩
def ZMC{m:Zf}(hm:Be m){n:Int}{qa:List Zd}{steps:List Zn}{info:List Zp}{sizes:WL}(hi:XL n qa steps=some info)(hs:WK n qa sizes=true){i:Nat}(h:i<info.length)(h':i<steps.length) :
  Zo7 m steps[i].Kind info i sizes=some (I (WN m info sizes steps[i] info[i]),[]):=by
 obtain⟨p1,_⟩:=Z23 hi;have ok:=Z8y hi i info[i] steps[i] (Yf h) (Yf h');have s0:=SG hs (p1 _ (Ye h));have hm0:=(p1 _ (Ye h)).1;refine X5.2.1.2.1 _ _ _ _ _ _ ⟨Z,info[i],by rw[Yj];exact Yf h,_,SD m _,?_⟩;have hl:=hm.op steps[i].Kind;unfold WN;rcases ok.refs with⟨a,b⟩|⟨a,b⟩
 .have c1:info[i].Left<0:=by omega
  have c2:info[i].Right<0:=by omega
  simp only[Ya c1,Ya c2];exact⟨hm0,_,s0,_,KD _ hl _ _ _,rfl⟩
 .obtain⟨y1,y2,y3,y4⟩:=Zps a (Z:i<=info.length);have s1:=SG hs (p1 _ y3);have hm1:=(p1 _ y3).1;have c1:¬info[i].Left<0:=by omega
  simp only[Yb c1,y4];rcases b with b|b
  .have c2:info[i].Right<0:=by omega
   simp only[Ya c2];exact⟨a.1,y1,y2,hm1,_,s1,hm0,_,s0,_,KD _ hl _ _ _,rfl⟩
  .obtain⟨z1,z2,z3,z4⟩:=Zps b (Z:i<=info.length);have s2:=SG hs (p1 _ z3);have hm2:=(p1 _ z3).1;have c2:¬info[i].Right<0:=by omega
   simp only[Yb c2,z4];exact⟨a.1,y1,y2,hm1,_,s1,b.1,z1,z2,hm2,_,s2,hm0,_,s0,_,KD _ hl _ _ _,rfl⟩
def ZMD{m:Zf}(hm:Be m){n:Int}{qa:List Zd}{p:Zj}{info:List Zp}{sizes:WL}(hi:XL n qa p.Steps=some info)(hs:WK n qa sizes=true):∀i,i<=info.length->∀out:WL,out.length=i->
  g9 m p out info sizes i=some (.own 0,[.arr ZV 1 true ((out++XO m info sizes (p.Steps.drop i) (info.drop i)).map ic)]):=by
 obtain⟨l1,l2,l3,l4⟩:=G5 hi;refine down _ ?_ ?_
 .intro out _;apply X5.2.1.2.2;rw[Ap,Ym];cases p.Steps.drop info.length<;>simp[XO]
 .intro i h ih out ho;have h4:=ZK (i:=i) Z;have h':i<p.Steps.length:=by omega
  apply X5.2.1.2.2;rw[Ao];refine⟨Z,p.Steps[i],by rw[Yj];exact Yf h',_,ZMC hm hi hs h h',Z,?_⟩;have ih:=ih (out++[WN m info sizes p.Steps[i] info[i]]) (by simp[ho]);rw[Z80 m info sizes h' h,show w ((i:Int)+1)=(i:Int)+1 from h4];simpa using ih
def ZME(m:Zf)(hm:Be m)(q:Zc)(hq:AS q)(p:Zj)(sizes:WL)(hs:Le sizes):Zo8 m q p sizes=some (.own 0,[.arr ZV 1 true ((Uz m q.Zg q.Atoms p.Steps sizes).map ic)]):=by
 have q1:=Z8k q p hq;apply X5.2.2.1.1;unfold Uz
 cases hi:XL q.Zg q.Atoms p.Steps with
 |none=>rw[hi]at q1;exact⟨[],false,q1,by rw[Yb Om]⟩
 |some info =>
  rw[hi]at q1;refine⟨info,true,q1,?_⟩;rw[Ya rfl];refine⟨_,Z8z q hq sizes hs,?_⟩;simp only;rcases tf (WK q.Zg q.Atoms sizes)with e|e
  .rw[e,Yb Om,Yb Om]
  .rw[e,Ya rfl,Ya rfl];have b:=ZMD hm hi e 0 (Yc _) [] rfl;simpa using b
def ZMF(xs:WL)(hx:Le xs):∀i,i<=xs.length->∀n,hH xs n i=some (I (Wb (xs.drop i) n),[]):=by
 refine down _ ?_ ?_
 .intro n;apply X5.2.2.1.2;simp[Wb]
 .intro i hi ih n;have h4:=ZK (i:=i) Z;apply X5.2.2.1.2;simp only[Ys,Yt]at ih;rw[Yh hi,Wb,Y6];simp[hi,h4,ih,Wb]
def ZMG(m:Zf)(hm:Be m)(q:Zc)(hq:AS q)(p:Zj)(sizes:WL)(hs:Le sizes):Zo9 m q p sizes=some (I (W1 m q.Zg q.Atoms p.Steps sizes),[]):=by
 refine X5.2.2.2.1 _ _ _ _ _ ⟨_,ZME m hm q hq p sizes hs,?_⟩;unfold W1;by_cases e:Uz m q.Zg q.Atoms p.Steps sizes=[]
 .have e2:Kj q.Zg q.Atoms p.Steps sizes=false:=by
   rcases tf (Kj q.Zg q.Atoms p.Steps sizes)with h|h
   .exact h
   .exact absurd e (Zpt.2 h)
  rw[e2,e];simp
 .have e2:=Zpt.1 e;have e3:¬((Uz m q.Zg q.Atoms p.Steps sizes).length:Int)=0:=λhc=>e (Tz.1 Z)
  rw[Yb e3,e2,Ya rfl];exact ZMF _ (by have:=Zzu (m:=m) (n:=q.Zg) (qa:=q.Atoms) (steps:=p.Steps) (sizes:=sizes);omega) 0 (Yc _) 0
def ZMH(m:Zf)(hm:Be m)(q:Zc)(hq:AS q)(p:Zj)(l:WL)(hl:l.length<=4294967296)(h:Xs l=true):Zpa m q p l=some (I (W1 m q.Zg q.Atoms p.Steps (Xa l)),[]):=by
 have b:=ZJ7 l hl;rw[h,Ya rfl]at b;exact Uv.1.1.1 _ _ _ _ _ (.inl ⟨_,b,_,ZJF m hm q hq p (Xa l) (by simp[Xa];omega),rfl⟩)
def ZMI(m:Zf)(hm:Be m)(q:Zc)(hq:AS q)(p:Zj)(l:WL)(hl:l.length<=4294967296)(h:Xs l=true):ZoA m q p l=some (I (W1 m q.Zg q.Atoms p.Steps (Xa l)),[]):=by
 have b:=Zzr l hl;rw[h,Ya rfl]at b;exact X5.2.2.2.2.1 _ _ _ _ _ ⟨_,b,_,ZMG m hm q hq p (Xa l) (by simp[Xa];omega),rfl⟩
