/-
  Parts of the proofs for this seat: PC PC2.
-/
import Derived.Test.YthpdbpfamhcgiaaGreatP30
set_option linter.all false
set_option maxRecDepth 100000
set_option maxHeartbeats 4000000
namespace Go.Proofs.YthpdbpfamhcgiaaGreat
open Go.AM
structure Zep (n:Nat) (x:Zj) (y:Zo):Prop where
 kind:1<=x.Zs/\x.Zs<=5
 refs:(y.Left=-1/\y.Right=-1)\/((0<=y.Left/\y.Left.toNat<n)/\(y.Right=-1\/(0<=y.Right/\y.Right.toNat<n)))
def Zep.mono{n k:Nat}{x:Zj}{y:Zo}(h:Zep n x y)(hk:n<=k):Zep k x y:=by
 refine⟨h.kind,h.refs.imp id λ⟨⟨a,b⟩,c⟩=>⟨⟨a,by omega⟩,c.imp id λ⟨d,e⟩=>⟨d,by omega⟩⟩⟩
theorem ZBm{qa:List Ze}{x:Zj}{info:List Zo}{st:V6}{y:Zo}(hs:Um info st)(h:VE qa x info st=some y):Zep info.length x y:=by
 unfold VE at h;split at h
 .rename_i k1;split at h
  .cases h;exact⟨by omega,.inl ⟨rfl,rfl⟩⟩
  .cases h
 .rename_i k1;split at h
  .cases h
  .split at h
   .rename_i k2;split at h
    .rename_i s y' ht;split at h
     .cases h;obtain⟨_,t2,t3,_⟩:=Kh hs (Yj 1) ht;exact⟨by omega,.inr ⟨⟨t2,t3⟩,.inl rfl⟩⟩
     .cases h
    .cases h
   .rename_i k2;split at h
    .rename_i s y' t z ht hu;split at h
     .obtain⟨_,t2,t3,_⟩:=Kh hs (by omega:1<=2) ht;obtain⟨_,u2,u3,_⟩:=Kh hs (by omega:1<=1) hu;obtain⟨o,ho,rfl⟩:=Ys.1 h;have hk:x.Zs=3\/x.Zs=4\/x.Zs=5:=by
       unfold V0 at ho
       grind
      exact⟨by omega,.inr ⟨⟨t2,t3⟩,.inr ⟨u2,u3⟩⟩⟩
     .cases h
    .cases h
def ZBn{qa:List Ze}:∀{xs:List Zj} {i:Nat} {info:List Zo} {st:V6} {c:List Zo} {cc:V6},WM qa xs i info st=some (c,cc)->
  Um info st->info.length=i->∃tail,c=info++tail/\tail.length=xs.length/\∀(j:Nat) (y:Zo) (x:Zj),tail[j]?=some y->xs[j]?=some x->Zep (i+j) x y
 |[],i,info,st,c,cc,h,hs,hi=>by
  simp[WM]at h
  simp_all
 |x::xs,i,info,st,c,cc,h,hs,hi=>by
  rw[WM]at h;split at h
  .cases h
  .rename_i y hy;have hn:=ZeN hs y (st.length-Wu y);rw[hi]at hn;obtain⟨tail,g2,g3,g4⟩:=ZBn h hn (by simp[hi])
   grind [ZBm]
def ZOY{n:Int}{qa:List Ze}{steps:List Zj}{info:List Zo}(h:Wv n qa steps=some info):∀(j:Nat) (y:Zo) (x:Zj),info[j]?=some y->steps[j]?=some x->Zep j x y:=by
 unfold Wv at h;split at h
 .split at h
  .rename_i info' st hg;split at h
   .cases h;obtain⟨tail,g2,g3,g4⟩:=ZBn hg (λs hs=>by cases hs) rfl
    simp_all
   .cases h
  .cases h
 .cases h
def Zch(xs:V6):Bool:=xs.all (λx=>inR x 0 4096)
def VM(n:Int)(qa:List Ze)(xs:V6):Bool:=Z9 n qa && decide ((xs.length:Int)=ZX n qa+1) && Zch xs
def ZOZ(q:Zf)(hq:LeQ q)(xs:V6)(hx:Le xs):∀i,i<=xs.length->Zj2 q xs xs xs.length i=some (Bo (Zch (xs.drop i) && (Z9 q.Zk q.Zb && decide ((xs.length:Int)=ZX q.Zk q.Zb+1))),[]):=by
 refine down _ ?_ ?_
 .apply Vv.2.1.2.2;rw[Ynx];refine⟨_,ZgX q hq,?_⟩;rcases tf (Z9 q.Zk q.Zb)with e|e
  .rw[e];simp
  .rw[e,Ya rfl];refine⟨_,Je q hq,?_⟩;rw[show w (ZX q.Zk q.Zb+1)=ZX q.Zk q.Zb+1 from ZmK _ _];simp[Zch]
 .intro i hi ih;have h4:=Xd (i:=i) (by omega);apply Vv.2.1.2.2;rw[Ypx];refine⟨by omega,xs[i],by rw[Yh];exact Yf hi,_,X0 _ _ _,?_⟩;unfold Zch at ih|-;rw[Zag _ hi]
  simp_all
def ZBo(q:Zf)(hq:LeQ q)(xs:V6)(hx:Le xs):Zds q xs=some (Bo (VM q.Zk q.Zb xs),[]):=by
 have b:=ZOZ q hq xs hx 0 (Yc _);refine Vv.2.2.1.1 _ _ _ (Yd b ?_);rw[Ym,VM,Bool.and_comm]
def ZPa(xs:V6)(hx:Le xs):∀i,i<=xs.length->Zll xs i=some (Bo (Zch (xs.drop i)),[]):=by
 refine down _ ?_ ?_
 .apply Wn.1.2.2.2.2;rw[Ynx];simp[Zch]
 .intro i hi ih;have h4:=Xd (i:=i) (by omega);apply Wn.1.2.2.2.2;rw[Ypx];refine⟨by omega,xs[i],by rw[Yh];exact Yf hi,_,Xx _ _ _,?_⟩;unfold Zch at ih|-;rw[Zag _ hi]
  simp_all
def ZPb(q:Zf)(hq:LeQ q)(xs:V6)(hx:Le xs):Zlk q xs=some (Bo (VM q.Zk q.Zb xs),[]):=by
 have b:=ZPa xs hx 0 (Yc _);refine Wn.2.1.1.1 _ _ _ ⟨_,ZgY q hq,?_⟩;unfold VM
 simp_all [tf,Qu,ZmK]
def ZU(sizes:V6)(m:Int):Int:=(sizes[m.toNat]?).getD 0
def Ug(info:List Zo)(i:Int):Int:=match info[i.toNat]? with|some y=>y.Mask|none=>0
def Q1(m:Zn)(info:List Zo)(sizes:V6)(x:Zj)(y:Zo):Int :=
 XQ (mOp m x.Zs) (if y.Left<0 then ZU sizes y.Mask else ZU sizes (Ug info y.Left)) (if y.Right<0 then 0 else ZU sizes (Ug info y.Right)) (ZU sizes y.Mask)
def Kz(m:Zn)(info:List Zo)(sizes:V6):List Zj->List Zo->V6
 |x::xs,y::ys=>Q1 m info sizes x y::Kz m info sizes xs ys
 |_,_=>[]
def ZPc(m:Zn)(info:List Zo)(sizes:V6){xs:List Zj}{ys:List Zo}{i:Nat}(hx:i<xs.length)(hy:i<ys.length) :
  Kz m info sizes (xs.drop i) (ys.drop i)=Q1 m info sizes xs[i] ys[i]::Kz m info sizes (xs.drop (i+1)) (ys.drop (i+1)):=by
 rw[Yi hx,Yi hy,Kz]
def Z0W{qa:List Ze}{n:Int}{sizes:V6}(hs:VM n qa sizes=true){y:Zo}(hm:Zbm qa.length y):sizes[y.Mask.toNat]?=some (ZU sizes y.Mask):=by
 simp only[VM,Yg,decide_eq_true_eq]at hs;have hf:=QT hs.1.1;have hlt:y.Mask.toNat<sizes.length:=by have:=hm.1;have:=hm.2;omega
 simp[ZU,Yf hlt]
def ZBp{info:List Zo}{i:Int}{n:Nat}(h:0<=i/\i.toNat<n)(hn:n<=info.length):∃y,info[i.toNat]?=some y/\y∈info/\Ug info i=y.Mask:=by
 have hlt:i.toNat<info.length:=by omega
 exact⟨info[i.toNat],Yf hlt,Ye hlt,by simp[Ug,Yf hlt]⟩
def Zci(m:Zn)(n:Int)(qa:List Ze)(c:List Zj)(sizes:V6):V6:=match Wv n qa c with
 |some info=>if VM n qa sizes=true then Kz m info sizes c info else[]
 |none=>[]
def ZBq(m:Zn):Un m=some (.bsl 1 5,[.box (m.c.map .t),.box [.ptr 0 0,.ptr 0 6,.ptr 0 12,.ptr 0 18,.ptr 0 24]]):=W5.2.2.2.1 _ _ rfl
def ZBr{k:Int}(h:1<=k/\k<=5):k=1\/k=2\/k=3\/k=4\/k=5:=by omega
def j_SC(m:Zn)(hm:LeM m)(info:List Zo)(out:V6)(ho:out.length<=100)(x:Zj)(hk:1<=x.Zs/\x.Zs<=5)(sizes:V6)(i:Nat)(y:Zo)(hy:info[i]?=some y)(c:0<=y.Mask)(hs:sizes[y.Mask.toNat]?=some (ZU sizes y.Mask))(l r:Int)(x1:List Zj)(x2 x3:Int)(res:V3)
  (h:WG m info (out++[XQ (mOp m x.Zs) l r (ZU sizes y.Mask)]) sizes x1 x2 (w (x3+1))=some res):Zj8 m info out x sizes i l r x1 x2 x3=some res:=by
 refine ZLy ⟨ZBq m,?_⟩;have ho':out.length+1<=68719476736:=by omega
 obtain⟨m1,m2,m3,m4,m5⟩:=hm;have hi:info[((i:Nat):Int).toNat]?=some y:=by rw[Yh];exact hy
 have hi0:(0:Int)<=(i:Int):=by omega
 rcases ZBr hk with e|e|e|e|e<;>rw[e]at h|-
 .rw[Ya (by decide)];exact⟨hi0,y,hi,c,_,hs,_,Jg _ m1 _ _ _,ho',h⟩
 .rw[Yb (by decide),Ya (by decide)];exact⟨hi0,y,hi,c,_,hs,_,Jg _ m2 _ _ _,ho',h⟩
 .rw[Yb (by decide),Yb (by decide),Ya (by decide)];exact⟨hi0,y,hi,c,_,hs,_,Jg _ m3 _ _ _,ho',h⟩
 .rw[Yb (by decide),Yb (by decide),Yb (by decide),Ya (by decide)];exact⟨hi0,y,hi,c,_,hs,_,Jg _ m4 _ _ _,ho',h⟩
 .rw[Yb (by decide),Yb (by decide),Yb (by decide),Yb (by decide),Ya (by decide)];exact⟨hi0,y,hi,c,_,hs,_,Jg _ m5 _ _ _,ho',h⟩
def ZBs(m:Zn)(hm:LeM m)(info:List Zo)(out:V6)(ho:out.length<=100)(x:Zj)(hk:1<=x.Zs/\x.Zs<=5)(sizes:V6)(i:Nat)(y:Zo)(hy:info[i]?=some y)(c:0<=y.Mask)(hs:sizes[y.Mask.toNat]?=some (ZU sizes y.Mask))(l r:Int)(x1:List Zj)(x2 x3:Int)(f:Bool)(res:V3)
  (h:WG m info (out++[XQ (mOp m x.Zs) l r (ZU sizes y.Mask)]) sizes x1 x2 (w (x3+1))=some res):Zj9 m info out x sizes i l r x1 x2 x3 f=some res:=by
 refine ZLz ⟨ZBq m,?_⟩;have ho':out.length+1<=68719476736:=by omega
 obtain⟨m1,m2,m3,m4,m5⟩:=hm;have hi:info[((i:Nat):Int).toNat]?=some y:=by rw[Yh];exact hy
 have hi0:(0:Int)<=(i:Int):=by omega
 rcases ZBr hk with e|e|e|e|e<;>rw[e]at h|-
 .rw[Ya (by decide)];exact⟨hi0,y,hi,c,_,hs,_,Jg _ m1 _ _ _,ho',h⟩
 .rw[Yb (by decide),Ya (by decide)];exact⟨hi0,y,hi,c,_,hs,_,Jg _ m2 _ _ _,ho',h⟩
 .rw[Yb (by decide),Yb (by decide),Ya (by decide)];exact⟨hi0,y,hi,c,_,hs,_,Jg _ m3 _ _ _,ho',h⟩
 .rw[Yb (by decide),Yb (by decide),Yb (by decide),Ya (by decide)];exact⟨hi0,y,hi,c,_,hs,_,Jg _ m4 _ _ _,ho',h⟩
 .rw[Yb (by decide),Yb (by decide),Yb (by decide),Yb (by decide),Ya (by decide)];exact⟨hi0,y,hi,c,_,hs,_,Jg _ m5 _ _ _,ho',h⟩
def ZPd{m:Zn}(hm:LeM m){n:Int}{qa:List Ze}{steps:List Zj}{info:List Zo}{sizes:V6}(hi:Wv n qa steps=some info)(hs:VM n qa sizes=true):∀i,i<=steps.length->∀out:V6,out.length=i->
  WG m info out sizes steps steps.length i=some (.own 0,[.arr Xm 1 true ((out++Kz m info sizes (steps.drop i) (info.drop i)).map ic)]):=by
 obtain⟨l1,l2,l3,l4⟩:=Zc7 hi;obtain⟨p1,_⟩:=Z3p hi;refine down _ ?_ ?_
 .intro out _;apply ZbN.1.1;rw[Ynx,Yk];simp[Kz]
 .intro i h' ih out ho;have h4:=Xd (i:=i) (by omega);have h:i<info.length:=by omega
  have ok:=ZOY hi i info[i] steps[i] (Yf h) (Yf h');have s0:=Z0W hs (p1 _ (Ye h));have hm0:=(p1 _ (Ye h)).1;have ih:=ih (out++[Q1 m info sizes steps[i] info[i]]) (by simp[ho]);simp only[Yx,Yy,Y6,List.singleton_append]at ih;rw[<-ZPc m info sizes h' h,<-show w ((i:Int)+1)=(i:Int)+1 from h4]at ih;unfold Q1 at ih;apply ZbN.1.1;rw[Ypx];refine⟨by omega,steps[i],by rw[Yh];exact Yf h',info[i],by rw[Yh];exact Yf h,hm0,_,s0,?_⟩;rcases ok.refs with⟨a,b⟩|⟨a,b⟩
  .have c1:info[i].Left<0:=by omega
   have c2:info[i].Right<0:=by omega
   have d1:¬0<=info[i].Left:=by omega
   have d2:¬0<=info[i].Right:=by omega
   simp only[Ya c1,Ya c2]at ih;simp only[Yb d1,Yb d2];exact ZBs m hm info out (by omega) _ ok.kind sizes i info[i] (Yf h) hm0 s0 _ _ _ _ _ _ _ ih
  .obtain⟨y1,y2,y3,y4⟩:=ZBp a (by omega:i<=info.length);have s1:=Z0W hs (p1 _ y3);have hm1:=(p1 _ y3).1;have c1:¬info[i].Left<0:=by omega
   simp only[Yb c1,y4]at ih;rw[Ya a.1];refine⟨y1,y2,hm1,_,s1,?_⟩;rcases b with b|b
   .have c2:info[i].Right<0:=by omega
    have d2:¬0<=info[i].Right:=by omega
    simp only[Ya c2]at ih;rw[Yb d2];exact ZBs m hm info out (by omega) _ ok.kind sizes i info[i] (Yf h) hm0 s0 _ _ _ _ _ _ _ ih
   .obtain⟨z1,z2,z3,z4⟩:=ZBp b (by omega:i<=info.length);have s2:=Z0W hs (p1 _ z3);have hm2:=(p1 _ z3).1;have c2:¬info[i].Right<0:=by omega
    simp only[Yb c2,z4]at ih;rw[Ya b.1];refine⟨z1,z2,hm2,_,s2,?_⟩;exact j_SC m hm info out (by omega) _ ok.kind sizes i info[i] (Yf h) hm0 s0 _ _ _ _ _ _ ih
theorem Z0X{m:Zn}{info:List Zo}{sizes:V6}:∀{xs:List Zj} {ys:List Zo},xs.length=ys.length->(Kz m info sizes xs ys).length=xs.length
 |[],[],_=>rfl
 |[],_::_,h=>by simp at h
 |_::_,[],h=>by simp at h
 |x::xs,y::ys,h=>by rw[Kz,Yw,Z0X (by simpa using h)];rfl
def Zeq(n:Int)(qa:List Ze)(c:List Zj)(sizes:V6):Bool:=(Wv n qa c).isSome && VM n qa sizes
theorem ZPe{m:Zn}{n:Int}{qa:List Ze}{steps:List Zj}{sizes:V6}:Zci m n qa steps sizes≠[]↔Zeq n qa steps sizes=true:=by
 unfold Zci Zeq
 cases hi:Wv n qa steps with
 |none=>simp
 |some info =>
  obtain⟨l1,l2,l3,l4⟩:=Zc7 hi;rcases tf (VM n qa sizes)with e|e
  .simp[e]
  .grind [Z0X,Option.isSome_some,Bool.and_self]
def ZPf(m:Zn)(hm:LeM m)(q:Zf)(hq:LeQ q)(p:Zg)(sizes:V6)(hs:Le sizes) :
  Zdt m q p sizes=if Zeq q.Zk q.Zb p.Steps sizes=true then some (.own 0,[.arr Xm 1 true ((Zci m q.Zk q.Zb p.Steps sizes).map ic)])else some (.t .nil,[]):=by
 have q1:=Zpr q p hq;unfold Zci Zeq
 cases hi:Wv q.Zk q.Zb p.Steps with
 |none=>rw[hi]at q1;simp only[Option.isSome_none,Yc4,Yby,if_false];exact ZbN.1.2 _ _ _ _ _ (.inl ⟨q1,rfl⟩)
 |some info =>
  rw[hi]at q1;have hv:=ZBo q hq sizes hs;rcases tf (VM q.Zk q.Zb sizes)with e|e
  .simp_all [Option.isSome_some,Bool.and_false,Yby,ZbN.1.2]
  .simp only[e,Option.isSome_some,Bool.and_self,if_true];refine ZbN.1.2 _ _ _ _ _ (.inr ⟨info,q1,true,by rw[hv,e],?_⟩);rw[Ya rfl];have b:=ZPd hm hi e 0 (Yc _) [] rfl;simpa using b
def ZaS(xs:V6)(n:Int):Int:=xs.foldl (λa b=>w (a+b)) n
def l_sum(xs:V6)(hx:Le xs):∀i,i<=xs.length->∀n,ZjB n xs xs.length i=some (I (ZaS (xs.drop i) n),[]):=by
 refine down _ ?_ ?_
 .intro n;apply ZbN.2.1;simp[ZaS]
 .intro i hi ih n;have h4:=Xd (i:=i) (by omega);apply ZbN.2.1;simp only[Yx,Yy]at ih;rw[Yi hi,ZaS,Y7];simp[hi,h4,ih,ZaS]
theorem x_sum(xs:V6)(hx:Le xs):ZjA xs=some (I (ZaS xs 0),[]):=ZbN.2.2 _ _ (l_sum xs hx 0 (Yc _) 0)
def ZaT(m:Zn)(n:Int)(qa:List Ze)(c:List Zj)(sizes:V6):Int:=if Zeq n qa c sizes=true then ZaS (Zci m n qa c sizes) 0 else -1
theorem ZPg{m:Zn}{n:Int}{qa:List Ze}{steps:List Zj}{sizes:V6}:(Zci m n qa steps sizes).length<=14:=by
 unfold Zci
 cases hi:Wv n qa steps with
 |none=>simp
 |some info =>
  obtain⟨l1,l2,l3,l4⟩:=Zc7 hi
  grind [Z0X]
def ZBt(m:Zn)(hm:LeM m)(q:Zf)(hq:LeQ q)(p:Zg)(sizes:V6)(hs:Le sizes):Zdu m q p sizes=some (I (ZaT m q.Zk q.Zb p.Steps sizes),[]):=by
 have h1:=ZPf m hm q hq p sizes hs;refine ZL0 ?_;unfold ZaT;rcases tf (Zeq q.Zk q.Zb p.Steps sizes)with e|e
 .simp_all
 .grind [ZPe,x_sum,ZPg]
