/-
  Parts of the proofs for this seat: PC PC2 LS ID.
-/
import Derived.Test.YthdihnbeifcppaaGreatP27
set_option linter.all false
set_option maxRecDepth 100000
set_option maxHeartbeats 4000000
namespace Go.Proofs.YthdihnbeifcppaaGreat
open Go.AM
structure Zck (n:Nat) (x:Zh) (y:Zt):Prop where
 kind:1<=x.Kind/\x.Kind<=5
 refs:(y.Left=-1/\y.Right=-1)\/((0<=y.Left/\y.Left.toNat<n)/\(y.Right=-1\/(0<=y.Right/\y.Right.toNat<n)))
def Zck.mono{n k:Nat}{x:Zh}{y:Zt}(h:Zck n x y)(hk:n<=k):Zck k x y:=by
 refine⟨h.kind,h.refs.imp id λ⟨⟨a,b⟩,c⟩=>⟨⟨a,by omega⟩,c.imp id λ⟨d,e⟩=>⟨d,by omega⟩⟩⟩
def Z3F{qa:List Ze}{x:Zh}{info:List Zt}{st:V6}{y:Zt}(hs:Ug info st)(h:Vz qa x info st=some y):Zck info.length x y:=by
 unfold Vz at h;split at h
 .rename_i k1;split at h
  .cases h;exact⟨by omega,.inl ⟨rfl,rfl⟩⟩
  .cases h
 .rename_i k1;split at h
  .cases h
  .split at h
   .rename_i k2;split at h
    .rename_i s y' ht;split at h
     .cases h;obtain⟨_,t2,t3,_⟩:=Jr hs (Yh 1) ht;exact⟨by omega,.inr ⟨⟨t2,t3⟩,.inl rfl⟩⟩
     .cases h
    .cases h
   .rename_i k2;split at h
    .rename_i s y' t z ht hu;split at h
     .obtain⟨_,t2,t3,_⟩:=Jr hs (by omega:1<=2) ht;obtain⟨_,u2,u3,_⟩:=Jr hs (by omega:1<=1) hu;obtain⟨o,ho,rfl⟩:=Yq.1 h;have hk:x.Kind=3\/x.Kind=4\/x.Kind=5:=by
       unfold WX at ho;split at ho
       .omega
       .split at ho
        .omega
        .split at ho
         .omega
         .cases ho
      exact⟨by omega,.inr ⟨⟨t2,t3⟩,.inr ⟨u2,u3⟩⟩⟩
     .cases h
    .cases h
def Z3G{qa:List Ze}:∀{xs:List Zh} {i:Nat} {info:List Zt} {st:V6} {c:List Zt} {cc:V6},Wt qa xs i info st=some (c,cc)->
  Ug info st->info.length=i->∃tail,c=info++tail/\tail.length=xs.length/\∀(j:Nat) (y:Zt) (x:Zh),tail[j]?=some y->xs[j]?=some x->Zck (i+j) x y
 |[],i,info,st,c,cc,h,hs,hi=>by
  simp[Wt]at h;obtain⟨rfl,rfl⟩:=h
  exact⟨[],by simp,rfl,by intro j y x hj;simp at hj⟩
 |x::xs,i,info,st,c,cc,h,hs,hi=>by
  rw[Wt]at h;split at h
  .cases h
  .rename_i y hy;have hn:=Zfo hs y (st.length-XQ y);rw[hi]at hn;obtain⟨tail,g2,g3,g4⟩:=Z3G h hn (by simp[hi]);refine⟨y::tail,by simp[g2],by simp[g3],?_⟩;intro j y' x' hj hx
   cases j with
   |zero=>simp at hj hx;subst hj;subst hx;have:=Z3F hs hy;rw[hi]at this;exact this
   |succ j=>exact(g4 j y' x' (by simpa using hj) (by simpa using hx)).mono (by omega)
def Z3H{n:Int}{qa:List Ze}{steps:List Zh}{info:List Zt}(h:Wu n qa steps=some info):∀(j:Nat) (y:Zt) (x:Zh),info[j]?=some y->steps[j]?=some x->Zck j x y:=by
 unfold Wu at h;split at h
 .split at h
  .rename_i info' st hg;split at h
   .cases h;obtain⟨tail,g2,g3,g4⟩:=Z3G hg (λs hs=>by cases hs) rfl;simp at g2;subst g2;intro j y x a b;have:=g4 j y x a b;simpa using this
   .cases h
  .cases h
 .cases h
def ZaA(xs:V6):Bool:=xs.all (λx=>inR x 0 4096)
def WC(n:Int)(qa:List Ze)(xs:V6):Bool:=Z6 n qa && decide ((xs.length:Int)=ZW n qa+1) && ZaA xs
def ZHH(q:Zj)(hq:LeQ q)(xs:V6)(hx:Le xs):∀i,i<=xs.length->Zge q xs xs xs.length i=some (Bo (ZaA (xs.drop i) && (Z6 q.Zm q.Atoms && decide ((xs.length:Int)=ZW q.Zm q.Atoms+1))),[]):=by
 refine down _ ?_ ?_
 .apply Qh.1.1.1;rw[Ynx];refine⟨_,ZhV q hq,?_⟩;rcases tf (Z6 q.Zm q.Atoms)with e|e
  .rw[e];simp
  .rw[e,Ya rfl];refine⟨_,Za4 q hq,?_⟩;rw[show w (ZW q.Zm q.Atoms+1)=ZW q.Zm q.Atoms+1 from Zj9 _ _];simp[ZaA]
 .intro i hi ih;have h4:=ZL (i:=i) (by omega);apply Qh.1.1.1;rw[Ypx];refine⟨by omega,xs[i],by rw[Yk];exact Yf hi,_,XX _ _ _,?_⟩;unfold ZaA at ih|-;rw[Zfm _ hi];simp only[Yz,Y0]at ih;rcases tf (inR xs[i] 0 4096)with e|e
  .rw[e];simp
  .rw[e,Ya rfl,show w ((i:Int)+1)=(i:Int)+1 from h4,ih];simp
def Z3I(q:Zj)(hq:LeQ q)(xs:V6)(hx:Le xs):Zdh q xs=some (Bo (WC q.Zm q.Atoms xs),[]):=by
 have b:=ZHH q hq xs hx 0 (Yd _);refine Qh.1.1.2 _ _ _ (Ye b ?_);rw[Ys,WC,Bool.and_comm]
def ZHI(xs:V6)(hx:Le xs):∀i,i<=xs.length->ZhE xs i=some (Bo (ZaA (xs.drop i)),[]):=by
 refine down _ ?_ ?_
 .apply WN.2.2.2.1;rw[Ynx];simp[ZaA]
 .intro i hi ih;have h4:=ZL (i:=i) (by omega);apply WN.2.2.2.1;rw[Ypx];refine⟨by omega,xs[i],by rw[Yk];exact Yf hi,_,Wo _ _ _,?_⟩;unfold ZaA at ih|-;rw[Zfm _ hi];simp only[Yz,Y0]at ih;rcases tf (inR xs[i] 0 4096)with e|e
  .rw[e];simp
  .rw[e,Ya rfl,show w ((i:Int)+1)=(i:Int)+1 from h4,ih];simp
def ZHJ(q:Zj)(hq:LeQ q)(xs:V6)(hx:Le xs):ZhD q xs=some (Bo (WC q.Zm q.Atoms xs),[]):=by
 have b:=ZHI xs hx 0 (Yd _);refine WN.2.2.2.2 _ _ _ ⟨_,ZlI q hq,?_⟩;unfold WC;rcases tf (Z6 q.Zm q.Atoms)with e|e
 .rw[e];simp
 rw[e,Ya rfl];refine⟨_,ZhX q hq,?_⟩;rw[show w (ZW q.Zm q.Atoms+1)=ZW q.Zm q.Atoms+1 from Zj9 _ _];by_cases e2:(xs.length:Int)=ZW q.Zm q.Atoms+1
 .rw[Ya e2,decide_eq_true e2];refine Ye b ?_;simp
 .rw[Yb e2,decide_eq_false e2];simp
def ZE(sizes:V6)(m:Int):Int:=(sizes[m.toNat]?).getD 0
def Vm(info:List Zt)(i:Int):Int:=match info[i.toNat]? with|some y=>y.Mask|none=>0
def VB(m:Za)(info:List Zt)(sizes:V6)(x:Zh)(y:Zt):Int :=
 XB (mOp m x.Kind) (if y.Left<0 then ZE sizes y.Mask else ZE sizes (Vm info y.Left)) (if y.Right<0 then 0 else ZE sizes (Vm info y.Right)) (ZE sizes y.Mask)
def U4(m:Za)(info:List Zt)(sizes:V6):List Zh->List Zt->V6
 |x::xs,y::ys=>VB m info sizes x y::U4 m info sizes xs ys
 |_,_=>[]
def Z3J(m:Za)(info:List Zt)(sizes:V6){xs:List Zh}{ys:List Zt}{i:Nat}(hx:i<xs.length)(hy:i<ys.length) :
  U4 m info sizes (xs.drop i) (ys.drop i)=VB m info sizes xs[i] ys[i]::U4 m info sizes (xs.drop (i+1)) (ys.drop (i+1)):=by
 rw[Yi hx,Yi hy,U4]
def Ze3{qa:List Ze}{n:Int}{sizes:V6}(hs:WC n qa sizes=true){y:Zt}(hm:Zbt qa.length y):sizes[y.Mask.toNat]?=some (ZE sizes y.Mask):=by
 simp only[WC,Yg,decide_eq_true_eq]at hs;have hf:=Kp hs.1.1;have hlt:y.Mask.toNat<sizes.length:=by have:=hm.1;have:=hm.2;omega
 simp[ZE,Yf hlt]
def Zmd{info:List Zt}{i:Int}{n:Nat}(h:0<=i/\i.toNat<n)(hn:n<=info.length):∃y,info[i.toNat]?=some y/\y∈info/\Vm info i=y.Mask:=by
 have hlt:i.toNat<info.length:=by omega
 exact⟨info[i.toNat],Yf hlt,Yc hlt,by simp[Vm,Yf hlt]⟩
def ZHK{m:Za}(hm:LeM m){n:Int}{qa:List Ze}{steps:List Zh}{info:List Zt}{sizes:V6}(hi:Wu n qa steps=some info)(hs:WC n qa sizes=true){i:Nat}(h:i<info.length)(h':i<steps.length) :
  Zlz m steps[i].Kind info i sizes=some (I (VB m info sizes steps[i] info[i]),[]):=by
 obtain⟨p1,_⟩:=ZxN hi;have ok:=Z3H hi i info[i] steps[i] (Yf h) (Yf h');have s0:=Ze3 hs (p1 _ (Yc h));have hm0:=(p1 _ (Yc h)).1;refine Ww.1.1.1.1 _ _ _ _ _ _ ⟨by omega,info[i],by rw[Yk];exact Yf h,_,Zev m _,?_⟩;have hl:=hm.op steps[i].Kind;unfold VB;rcases ok.refs with⟨a,b⟩|⟨a,b⟩
 .have c1:info[i].Left<0:=by omega
  have c2:info[i].Right<0:=by omega
  simp only[Ya c1,Ya c2];exact⟨hm0,_,s0,_,Kl _ hl _ _ _,rfl⟩
 .obtain⟨y1,y2,y3,y4⟩:=Zmd a (by omega:i<=info.length);have s1:=Ze3 hs (p1 _ y3);have hm1:=(p1 _ y3).1;have c1:¬info[i].Left<0:=by omega
  simp only[Yb c1,y4];rcases b with b|b
  .have c2:info[i].Right<0:=by omega
   simp only[Ya c2];exact⟨a.1,y1,y2,hm1,_,s1,hm0,_,s0,_,Kl _ hl _ _ _,rfl⟩
  .obtain⟨z1,z2,z3,z4⟩:=Zmd b (by omega:i<=info.length);have s2:=Ze3 hs (p1 _ z3);have hm2:=(p1 _ z3).1;have c2:¬info[i].Right<0:=by omega
   simp only[Yb c2,z4];exact⟨a.1,y1,y2,hm1,_,s1,b.1,z1,z2,hm2,_,s2,hm0,_,s0,_,Kl _ hl _ _ _,rfl⟩
def ZHL{m:Za}(hm:LeM m){n:Int}{qa:List Ze}{p:Zg}{info:List Zt}{sizes:V6}(hi:Wu n qa p.Steps=some info)(hs:WC n qa sizes=true):∀i,i<=info.length->∀out:V6,out.length=i->
  ZhF m p out info sizes i=some (.own 0,[.arr ZU 1 true ((out++U4 m info sizes (p.Steps.drop i) (info.drop i)).map ic)]):=by
 obtain⟨l1,l2,l3,l4⟩:=Zbs hi;refine down _ ?_ ?_
 .intro out _;apply Ww.1.1.1.2;rw[Ynx,Yo];cases p.Steps.drop info.length<;>simp[U4]
 .intro i h ih out ho;have h4:=ZL (i:=i) (by omega);have h':i<p.Steps.length:=by omega
  apply Ww.1.1.1.2;rw[Ypx];refine⟨by omega,p.Steps[i],by rw[Yk];exact Yf h',_,ZHK hm hi hs h h',by omega,?_⟩;have ih:=ih (out++[VB m info sizes p.Steps[i] info[i]]) (by simp[ho]);rw[Z3J m info sizes h' h,show w ((i:Int)+1)=(i:Int)+1 from h4];simpa using ih
def QK(m:Za)(n:Int)(qa:List Ze)(steps:List Zh)(sizes:V6):V6:=match Wu n qa steps with
 |some info=>if WC n qa sizes=true then U4 m info sizes steps info else[]
 |none=>[]
def ZHM(m:Za)(hm:LeM m)(q:Zj)(hq:LeQ q)(p:Zg)(sizes:V6)(hs:Le sizes):Zl0 m q p sizes=some (.own 0,[.arr ZU 1 true ((QK m q.Zm q.Atoms p.Steps sizes).map ic)]):=by
 have q1:=Z27 q p hq;apply Ww.1.1.2.1;unfold QK
 cases hi:Wu q.Zm q.Atoms p.Steps with
 |none=>rw[hi]at q1;exact⟨[],false,q1,by rw[Yb (by simp)]⟩
 |some info =>
  rw[hi]at q1;refine⟨info,true,q1,?_⟩;rw[Ya rfl];refine⟨_,ZHJ q hq sizes hs,?_⟩;simp only;rcases tf (WC q.Zm q.Atoms sizes)with e|e
  .rw[e,Yb (by simp),Yb (by simp)]
  .rw[e,Ya rfl,Ya rfl];have b:=ZHL hm hi e 0 (Yd _) [] rfl;simpa using b
def Z3K(m:Za):Q5 m=some (.bsl 1 5,[.box (m.c.map .t),.box [.ptr 0 0,.ptr 0 6,.ptr 0 12,.ptr 0 18,.ptr 0 24]]):=XS.1.2.2.2.2 _ _ rfl
def kinds{k:Int}(h:1<=k/\k<=5):k=1\/k=2\/k=3\/k=4\/k=5:=by omega
def j_SC(m:Za)(hm:LeM m)(info:List Zt)(out:V6)(ho:out.length<=100)(x:Zh)(hk:1<=x.Kind/\x.Kind<=5)(sizes:V6)(i:Nat)(y:Zt)(hy:info[i]?=some y)(c:0<=y.Mask)(hs:sizes[y.Mask.toNat]?=some (ZE sizes y.Mask))(l r:Int)(x1:List Zh)(x2 x3:Int)(res:V3)
  (h:Wg m info (out++[XB (mOp m x.Kind) l r (ZE sizes y.Mask)]) sizes x1 x2 (w (x3+1))=some res):Zgj m info out x sizes i l r x1 x2 x3=some res:=by
 refine ZFn ⟨Z3K m,?_⟩;have ho':out.length+1<=68719476736:=by omega
 obtain⟨m1,m2,m3,m4,m5⟩:=hm;have hi:info[((i:Nat):Int).toNat]?=some y:=by rw[Yk];exact hy
 have hi0:(0:Int)<=(i:Int):=by omega
 rcases kinds hk with e|e|e|e|e<;>rw[e]at h|-
 .rw[Ya (by decide)];exact⟨hi0,y,hi,c,_,hs,_,KN _ m1 _ _ _,ho',h⟩
 .rw[Yb (by decide),Ya (by decide)];exact⟨hi0,y,hi,c,_,hs,_,KN _ m2 _ _ _,ho',h⟩
 .rw[Yb (by decide),Yb (by decide),Ya (by decide)];exact⟨hi0,y,hi,c,_,hs,_,KN _ m3 _ _ _,ho',h⟩
 .rw[Yb (by decide),Yb (by decide),Yb (by decide),Ya (by decide)];exact⟨hi0,y,hi,c,_,hs,_,KN _ m4 _ _ _,ho',h⟩
 .rw[Yb (by decide),Yb (by decide),Yb (by decide),Yb (by decide),Ya (by decide)];exact⟨hi0,y,hi,c,_,hs,_,KN _ m5 _ _ _,ho',h⟩
def Z3L(m:Za)(hm:LeM m)(info:List Zt)(out:V6)(ho:out.length<=100)(x:Zh)(hk:1<=x.Kind/\x.Kind<=5)(sizes:V6)(i:Nat)(y:Zt)(hy:info[i]?=some y)(c:0<=y.Mask)(hs:sizes[y.Mask.toNat]?=some (ZE sizes y.Mask))(l r:Int)(x1:List Zh)(x2 x3:Int)(f:Bool)(res:V3)
  (h:Wg m info (out++[XB (mOp m x.Kind) l r (ZE sizes y.Mask)]) sizes x1 x2 (w (x3+1))=some res):Zgk m info out x sizes i l r x1 x2 x3 f=some res:=by
 refine ZFo ⟨Z3K m,?_⟩;have ho':out.length+1<=68719476736:=by omega
 obtain⟨m1,m2,m3,m4,m5⟩:=hm;have hi:info[((i:Nat):Int).toNat]?=some y:=by rw[Yk];exact hy
 have hi0:(0:Int)<=(i:Int):=by omega
 rcases kinds hk with e|e|e|e|e<;>rw[e]at h|-
 .rw[Ya (by decide)];exact⟨hi0,y,hi,c,_,hs,_,KN _ m1 _ _ _,ho',h⟩
 .rw[Yb (by decide),Ya (by decide)];exact⟨hi0,y,hi,c,_,hs,_,KN _ m2 _ _ _,ho',h⟩
 .rw[Yb (by decide),Yb (by decide),Ya (by decide)];exact⟨hi0,y,hi,c,_,hs,_,KN _ m3 _ _ _,ho',h⟩
 .rw[Yb (by decide),Yb (by decide),Yb (by decide),Ya (by decide)];exact⟨hi0,y,hi,c,_,hs,_,KN _ m4 _ _ _,ho',h⟩
 .rw[Yb (by decide),Yb (by decide),Yb (by decide),Yb (by decide),Ya (by decide)];exact⟨hi0,y,hi,c,_,hs,_,KN _ m5 _ _ _,ho',h⟩
def ZHN{m:Za}(hm:LeM m){n:Int}{qa:List Ze}{steps:List Zh}{info:List Zt}{sizes:V6}(hi:Wu n qa steps=some info)(hs:WC n qa sizes=true):∀i,i<=steps.length->∀out:V6,out.length=i->
  Wg m info out sizes steps steps.length i=some (.own 0,[.arr ZU 1 true ((out++U4 m info sizes (steps.drop i) (info.drop i)).map ic)]):=by
 obtain⟨l1,l2,l3,l4⟩:=Zbs hi;obtain⟨p1,_⟩:=ZxN hi;refine down _ ?_ ?_
 .intro out _;apply Qh.1.2.2;rw[Ynx,Yo];simp[U4]
 .intro i h' ih out ho;have h4:=ZL (i:=i) (by omega);have h:i<info.length:=by omega
  have ok:=Z3H hi i info[i] steps[i] (Yf h) (Yf h');have s0:=Ze3 hs (p1 _ (Yc h));have hm0:=(p1 _ (Yc h)).1;have ih:=ih (out++[VB m info sizes steps[i] info[i]]) (by simp[ho]);simp only[Yz,Y0,Ybo,List.singleton_append]at ih;rw[<-Z3J m info sizes h' h,<-show w ((i:Int)+1)=(i:Int)+1 from h4]at ih;unfold VB at ih;apply Qh.1.2.2;rw[Ypx];refine⟨by omega,steps[i],by rw[Yk];exact Yf h',info[i],by rw[Yk];exact Yf h,hm0,_,s0,?_⟩;rcases ok.refs with⟨a,b⟩|⟨a,b⟩
  .have c1:info[i].Left<0:=by omega
   have c2:info[i].Right<0:=by omega
   have d1:¬0<=info[i].Left:=by omega
   have d2:¬0<=info[i].Right:=by omega
   simp only[Ya c1,Ya c2]at ih;simp only[Yb d1,Yb d2];exact Z3L m hm info out (by omega) _ ok.kind sizes i info[i] (Yf h) hm0 s0 _ _ _ _ _ _ _ ih
  .obtain⟨y1,y2,y3,y4⟩:=Zmd a (by omega:i<=info.length);have s1:=Ze3 hs (p1 _ y3);have hm1:=(p1 _ y3).1;have c1:¬info[i].Left<0:=by omega
   simp only[Yb c1,y4]at ih;rw[Ya a.1];refine⟨y1,y2,hm1,_,s1,?_⟩;rcases b with b|b
   .have c2:info[i].Right<0:=by omega
    have d2:¬0<=info[i].Right:=by omega
    simp only[Ya c2]at ih;rw[Yb d2];exact Z3L m hm info out (by omega) _ ok.kind sizes i info[i] (Yf h) hm0 s0 _ _ _ _ _ _ _ ih
   .obtain⟨z1,z2,z3,z4⟩:=Zmd b (by omega:i<=info.length);have s2:=Ze3 hs (p1 _ z3);have hm2:=(p1 _ z3).1;have c2:¬info[i].Right<0:=by omega
    simp only[Yb c2,z4]at ih;rw[Ya b.1];refine⟨z1,z2,hm2,_,s2,?_⟩;exact j_SC m hm info out (by omega) _ ok.kind sizes i info[i] (Yf h) hm0 s0 _ _ _ _ _ _ ih
def ZuH{m:Za}{info:List Zt}{sizes:V6}:∀{xs:List Zh} {ys:List Zt},xs.length=ys.length->(U4 m info sizes xs ys).length=xs.length
 |[],[],_=>rfl
 |[],_::_,h=>by simp at h
 |_::_,[],h=>by simp at h
 |x::xs,y::ys,h=>by rw[U4,Ym,ZuH (by simpa using h)];rfl
def JE(n:Int)(qa:List Ze)(steps:List Zh)(sizes:V6):Bool:=(Wu n qa steps).isSome && WC n qa sizes
def ZuI{m:Za}{n:Int}{qa:List Ze}{steps:List Zh}{sizes:V6}:QK m n qa steps sizes≠[]↔JE n qa steps sizes=true:=by
 unfold QK JE
 cases hi:Wu n qa steps with
 |none=>simp
 |some info =>
  obtain⟨l1,l2,l3,l4⟩:=Zbs hi;rcases tf (WC n qa sizes)with e|e
  .simp[e]
  .have:=ZuH (m:=m) (info:=info) (sizes:=sizes) (xs:=steps) (ys:=info) l2.symm;simp only[e,if_true,Option.isSome_some,Bool.and_self,iff_true];intro hc;rw[hc]at this;simp at this;omega
def ZHO(m:Za)(hm:LeM m)(q:Zj)(hq:LeQ q)(p:Zg)(sizes:V6)(hs:Le sizes) :
  Zb9 m q p sizes=if JE q.Zm q.Atoms p.Steps sizes=true then some (.own 0,[.arr ZU 1 true ((QK m q.Zm q.Atoms p.Steps sizes).map ic)])else some (.t .nil,[]):=by
 have q1:=Z28 q p hq;unfold QK JE
 cases hi:Wu q.Zm q.Atoms p.Steps with
 |none=>rw[hi]at q1;simp only[Option.isSome_none,Ycq,Ybl,if_false];exact Qh.2.1.1 _ _ _ _ _ (.inl ⟨q1,rfl⟩)
 |some info =>
  rw[hi]at q1;have hv:=Z3I q hq sizes hs;rcases tf (WC q.Zm q.Atoms sizes)with e|e
  .simp only[e,Option.isSome_some,Bool.and_false,Ybl,if_false];exact Qh.2.1.1 _ _ _ _ _ (.inr ⟨info,q1,false,by rw[hv,e],by rw[Yb (by simp)]⟩)
  .simp only[e,Option.isSome_some,Bool.and_self,if_true];refine Qh.2.1.1 _ _ _ _ _ (.inr ⟨info,q1,true,by rw[hv,e],?_⟩);rw[Ya rfl];have b:=ZHN hm hi e 0 (Yd _) [] rfl;simpa using b
def Qr(xs:V6)(n:Int):Int:=xs.foldl (λa b=>w (a+b)) n
def l_sum(xs:V6)(hx:Le xs):∀i,i<=xs.length->∀n,Zgm n xs xs.length i=some (I (Qr (xs.drop i) n),[]):=by
 refine down _ ?_ ?_
 .intro n;apply Qh.2.1.2;simp[Qr]
 .intro i hi ih n;have h4:=ZL (i:=i) (by omega);apply Qh.2.1.2;simp only[Yz,Y0]at ih;rw[Yi hi,Qr,Y8];simp[hi,h4,ih,Qr]
def x_sum(xs:V6)(hx:Le xs):Zgl xs=some (I (Qr xs 0),[]):=Qh.2.2.1 _ _ (l_sum xs hx 0 (Yd _) 0)
def ZHP(xs:V6)(hx:Le xs):∀i,i<=xs.length->∀n,ZhG xs n i=some (I (Qr (xs.drop i) n),[]):=by
 refine down _ ?_ ?_
 .intro n;apply Ww.1.1.2.2;simp[Qr]
 .intro i hi ih n;have h4:=ZL (i:=i) (by omega);apply Ww.1.1.2.2;simp only[Yz,Y0]at ih;rw[Yi hi,Qr,Y8];simp[hi,h4,ih,Qr]
def U5(m:Za)(n:Int)(qa:List Ze)(steps:List Zh)(sizes:V6):Int:=if JE n qa steps sizes=true then Qr (QK m n qa steps sizes) 0 else -1
def Z3M{m:Za}{n:Int}{qa:List Ze}{steps:List Zh}{sizes:V6}:(QK m n qa steps sizes).length<=14:=by
 unfold QK
 cases hi:Wu n qa steps with
 |none=>simp
 |some info =>
  obtain⟨l1,l2,l3,l4⟩:=Zbs hi;simp only;split
  .rw[ZuH l2.symm];omega
  .simp
def ZuJ(m:Za)(hm:LeM m)(q:Zj)(hq:LeQ q)(p:Zg)(sizes:V6)(hs:Le sizes):Jx m q p sizes=some (I (U5 m q.Zm q.Atoms p.Steps sizes),[]):=by
 have h1:=ZHO m hm q hq p sizes hs;refine ZFp ?_;unfold U5;rcases tf (JE q.Zm q.Atoms p.Steps sizes)with e|e
 .rw[e,Yb (by simp)]at h1;rw[e];exact .inl ⟨h1,by simp⟩
 .rw[e,Ya rfl]at h1;rw[e];exact .inr ⟨_,h1,ZuI.2 e,_,x_sum _ (by have:=Z3M (m:=m) (n:=q.Zm) (qa:=q.Atoms) (steps:=p.Steps) (sizes:=sizes);omega),by simp⟩
def ZHQ(m:Za)(hm:LeM m)(q:Zj)(hq:LeQ q)(p:Zg)(sizes:V6)(hs:Le sizes):Zl1 m q p sizes=some (I (U5 m q.Zm q.Atoms p.Steps sizes),[]):=by
 refine Ww.1.2.1.1 _ _ _ _ _ ⟨_,ZHM m hm q hq p sizes hs,?_⟩;unfold U5;by_cases e:QK m q.Zm q.Atoms p.Steps sizes=[]
 .have e2:JE q.Zm q.Atoms p.Steps sizes=false:=by
   rcases tf (JE q.Zm q.Atoms p.Steps sizes)with h|h
   .exact h
   .exact absurd e (ZuI.2 h)
  rw[e2,e];simp
 .have e2:=ZuI.1 e;have e3:¬((QK m q.Zm q.Atoms p.Steps sizes).length:Int)=0:=λhc=>e (Ycn.1 (by omega))
  rw[Yb e3,e2,Ya rfl];exact ZHP _ (by have:=Z3M (m:=m) (n:=q.Zm) (qa:=q.Atoms) (steps:=p.Steps) (sizes:=sizes);omega) 0 (Yd _) 0
def ZHR(l:V6)(hl:l.length<=4294967296):∀i,i<=l.length->∀out:V6,out.length<=i->Zb8 out l l l.length i=if XP l=true then some (.own 0,[.arr ZU 1 true ((out++(l.drop i).map W5).map ic)])else some (.t .nil,[]):=by
 refine down _ ?_ ?_
 .intro out _;rcases tf (XP l)with e|e
  .rw[e];apply U0.2.2.1;rw[Ynx];exact⟨_,ZlK l (by omega),by rw[e,Yb (by simp)]⟩
  .rw[e,Ya rfl];apply U0.2.2.1;rw[Ynx];exact⟨_,ZlK l (by omega),by rw[e,Ya rfl];simp⟩
 .intro i hi ih out ho;have h4:=ZL (i:=i) (by omega);have ih:=ih (out++[W5 l[i]]) (by simp;omega);simp only[Yz,Y0]at ih;have go:∀r,Zb8 (out++[W5 l[i]]) l l l.length ((i:Int)+1)=some r->Zb8 out l l l.length i=some r:=by
   intro r hr;apply U0.2.2.1;rw[Ypx];refine⟨by omega,l[i],by rw[Yk];exact Yf hi,_,ZGo _,by omega,?_⟩;rw[show w ((i:Int)+1)=(i:Int)+1 from h4];exact hr
  rw[Yi hi,Yx];rcases tf (XP l)with e|e
  .rw[e]at ih|-;exact go _ (by simpa using ih)
  .rw[e,Ya rfl]at ih|-;exact go _ (by simpa using ih)
def WP(l:V6):V6:=l.map W5
def Z3N(l:V6)(hl:l.length<=4294967296):Jw l=if XP l=true then some (.own 0,[.arr ZU 1 true ((WP l).map ic)])else some (.t .nil,[]):=by
 have b:=ZHR l hl 0 (Yd _) [] (by simp);rcases tf (XP l)with e|e
 .rw[e]at b|-;exact U0.2.2.2 _ _ b
 .rw[e,Ya rfl]at b|-;exact U0.2.2.2 _ _ (by simpa[WP]using b)
def ZHS(l:V6)(hl:l.length<=4294967296)(h:XP l=true):∀i,i<=l.length->∀out:V6,out.length<=i->Zh2 out l i=some (.own 0,[.arr ZU 1 true ((out++(l.drop i).map W5).map ic)]):=by
 refine down _ ?_ ?_
 .intro out _;apply Wj.1.2.1.1;rw[Ynx];simp
 .intro i hi ih out ho;have h4:=ZL (i:=i) (by omega);have ih:=ih (out++[W5 l[i]]) (by simp;omega);simp only[Yz,Y0]at ih;apply Wj.1.2.1.1;rw[Ypx];refine⟨_,ZlJ l (by omega),?_⟩;rw[h,Ya rfl];refine⟨by omega,l[i],by rw[Yk];exact Yf hi,_,ZGp _,by omega,?_⟩;rw[show w ((i:Int)+1)=(i:Int)+1 from h4,Yi hi,Yx];simpa using ih
def Z3O(l:V6)(hl:l.length<=4294967296):ZdW l=some (.own 0,[.arr ZU 1 true ((if XP l=true then WP l else[]).map ic)]):=by
 rcases tf (XP l)with e|e
 .rw[e];refine Wj.1.2.1.2 _ _ (Wj.1.2.1.1 _ _ _ _ ?_);by_cases h:(0:Int)<l.length
  .rw[Ya h];exact⟨_,ZlJ l (by omega),by rw[e,Yb (by simp)];rfl⟩
  .rw[Yb h];rfl
 .have b:=ZHS l hl e 0 (Yd _) [] (by simp);rw[e,Ya rfl];exact Wj.1.2.1.2 _ _ (by simpa[WP]using b)
def ZHT(m:Za)(hm:LeM m)(q:Zj)(hq:LeQ q)(p:Zg)(l:V6)(hl:l.length<=4294967296)(h:XP l=true):Zgn m q p l=some (I (U5 m q.Zm q.Atoms p.Steps (WP l)),[]):=by
 have b:=Z3N l hl;rw[h,Ya rfl]at b;exact Qh.2.2.2 _ _ _ _ _ (.inl ⟨_,b,_,ZuJ m hm q hq p (WP l) (by simp[WP];omega),rfl⟩)
def ZHU(m:Za)(hm:LeM m)(q:Zj)(hq:LeQ q)(p:Zg)(l:V6)(hl:l.length<=4294967296)(h:XP l=true):Zl2 m q p l=some (I (U5 m q.Zm q.Atoms p.Steps (WP l)),[]):=by
 have b:=Z3O l hl;rw[h,Ya rfl]at b;exact Ww.1.2.1.2 _ _ _ _ _ ⟨_,b,_,ZHQ m hm q hq p (WP l) (by simp[WP];omega),rfl⟩
abbrev U6(q:Zj)(m:Int):V6:=Xx m q.Atoms q.Zm.toNat
def Z3P(q:Zj)(hq:LeQ q)(hv:Z6 q.Zm q.Atoms=true)(m:Int)(hm:MQ q.Atoms m):Jz q m=some (.own 0,[.arr ZU 1 true ((U6 q m).map ic)]):=by
 refine U1.2.1.1 _ _ _ ⟨_,Z37 q hq m,?_⟩
 have:inR m 0 (ZW q.Zm q.Atoms)=true:=by rw[Kp hv];simp[inR];have:=hm.1;have:=hm.2;omega
 rw[hv,this,Ya (by rfl)];exact⟨_,ZhY q m hq hv,rfl⟩
def Kr(q:Zj)(a b:Int):V6:=(U6 q a).filter (has (U6 q b))
def Zii(q:Zj)(hv:Z6 q.Zm q.Atoms=true)(m:Int):(U6 q m).length<=4:=by
 have:=ZcM m q.Atoms q.Zm.toNat;have:=Q2 hv;unfold U6;omega
def ZHV(q:Zj)(hq:LeQ q)(hv:Z6 q.Zm q.Atoms=true)(a b:Int)(ha:MQ q.Atoms a)(hb:MQ q.Atoms b):ZbC q a b=some (.own 0,[.arr ZU 1 true ((Kr q a b).map ic)]):=by
 have l1:=Zii q hv a;have l2:=Zii q hv b;exact U1.2.1.2 _ _ _ _ (.inl ⟨_,Z3P q hq hv a ha,.inl ⟨_,Z3P q hq hv b hb,_,Zuz _ _ (by omega) (by omega),rfl⟩⟩)
def ZHW(p:Nat->Bool):∀k:Nat,k<=4->∀out:V6,out.length<=k->ZdT out (Xq p) k=some (.own 0,[.arr ZU 1 true ((out++((List.range' k (4-k)).filter p).map (λu:Nat=>(u:Int))).map ic)]):=by
 refine down _ ?_ ?_
 .intro out _;apply X6.2.2.1.1;rw[Ynx];simp
 .intro k hk ih out ho;have wk':w ((k:Int)+1)=(k:Int)+1:=Z1 (by omega) (by omega);have hb:=Zn8 p (v:=(k:Int)) (by simp[inR];omega);rw[Yk]at hb;apply X6.2.2.1.1;rw[Ypx,show 4-k=(4-(k+1))+1 by omega,Yc8,Yb5,wk'];refine⟨by omega,?_⟩;rcases tf (p k)with e|e
  .have ih:=ih out (by omega);rw[Yb (λhc=>by rw[hb.1 hc]at e;cases e),e,Yb (by simp)];simpa using ih
  .have ih:=ih (out++[(k:Int)]) (by simp;omega);rw[Ya (hb.2 e),e,Ya rfl];exact⟨by omega,by simpa using ih⟩
def vars4(q:Zj)(hv:Z6 q.Zm q.Atoms=true)(m:Int):((List.range' 0 4).filter (pV m q.Atoms)).map (λu:Nat=>(u:Int))=U6 q m:=by
 have hn:=Q2 hv;have e:List.range' 0 4=List.range q.Zm.toNat++List.range' q.Zm.toNat (4-q.Zm.toNat):=by
  have h:=List.range'_append_1 (s:=0) (m:=q.Zm.toNat) (n:=4-q.Zm.toNat);rw[Yu]at h;rw[List.range_eq_range',h];congr 1;omega
 unfold U6 Xx;rw[e,Yc7];have e2:(List.range' q.Zm.toNat (4-q.Zm.toNat)).filter (pV m q.Atoms)=[]:=by
  rw[Ycp];intro u hu hp;have:=ZnD hv hp;rw[List.mem_range'_1]at hu;omega
 rw[e2];simp
def Z3Q(q:Zj)(hq:LeQ q)(hv:Z6 q.Zm q.Atoms=true)(m:Int)(hm:MQ q.Atoms m):Zhz q m=some (.own 0,[.arr ZU 1 true ((U6 q m).map ic)]):=by
 have b:=ZHW (pV m q.Atoms) 0 (by omega) [] (by simp);rw[show 4-0=4 from rfl,vars4 q hv m]at b;refine X6.2.2.2.1 _ _ _ ⟨_,Z38 q hq m,?_⟩
 have:inR m 0 (ZW q.Zm q.Atoms)=true:=by rw[Kp hv];simp[inR];have:=hm.1;have:=hm.2;omega
 rw[hv,this,Ya (by rfl)];exact⟨_,Zem q m hq (Zbp hv),_,X6.2.2.1.2 _ _ (by simpa using b),rfl⟩
def ZHX(x y:V6)(hy:Le y)(hx:x.length<=1000):∀i,i<=x.length->ZdU ((x.take i).filter (has y)) x y i=some (.own 0,[.arr ZU 1 true ((x.filter (has y)).map ic)]):=by
 refine down _ ?_ ?_
 .apply X6.2.2.2.2.1;rw[Ynx];simp
 .intro i hi ih;have h4:=ZL (i:=i) (by omega);have e4:((x.take i).filter (has y)).length+1<=68719476736:=by
   have:=Ybs (has y) (x.take i);simp at this;omega
  rw[ZnC _ hi]at ih;apply X6.2.2.2.2.1;rw[Ypx];refine⟨by omega,x[i],by rw[Yk];exact Yf hi,_,Zuy y x[i] hy,?_⟩;rw[show w ((i:Int)+1)=(i:Int)+1 from h4];rcases tf (has y x[i])with e|e
  .rw[e,Yb (by simp)];rw[e]at ih;simpa using ih
  .rw[e,Ya rfl];rw[e]at ih;exact⟨e4,by simpa using ih⟩
def ZHY(q:Zj)(hq:LeQ q)(hv:Z6 q.Zm q.Atoms=true)(a b:Int)(ha:MQ q.Atoms a)(hb:MQ q.Atoms b):ZbU q a b=some (.own 0,[.arr ZU 1 true ((Kr q a b).map ic)]):=by
 have l1:=Zii q hv a;have l2:=Zii q hv b;have c:=ZHX (U6 q a) (U6 q b) (by omega) (by omega) 0 (Yd _);exact X6.2.2.2.2.2 _ _ _ _ ⟨_,Z3Q q hq hv a ha,_,Z3Q q hq hv b hb,by simpa[Kr]using c⟩
abbrev B4:=Bool×Bool×Bool×Bool
structure Ed where
 a:Bool
 b:Bool
 c:Bool
 d:Bool
 e:Bool
 f:Bool
def ZuK(g:Ed)(x:B4):B4:=match x with
 |(x0,x1,x2,x3)=>(!x0 && ((x1 && g.a) || (x2 && g.b) || (x3 && g.c)),!x1 && ((x0 && g.a) || (x2 && g.d) || (x3 && g.e)),!x2 && ((x0 && g.b) || (x1 && g.d) || (x3 && g.f)),!x3 && ((x0 && g.c) || (x1 && g.e) || (x2 && g.f)))
def orB(x y:B4):B4:=match x,y with
 |(x0,x1,x2,x3),(y0,y1,y2,y3)=>(x0 || y0,x1 || y1,x2 || y2,x3 || y3)
def XM(x y:B4):B4:=match x,y with
 |(x0,x1,x2,x3),(y0,y1,y2,y3)=>(x0 && y0,x1 && y1,x2 && y2,x3 && y3)
def Vb(x y:B4):B4:=match x,y with
 |(x0,x1,x2,x3),(y0,y1,y2,y3)=>(x0 && !y0,x1 && !y1,x2 && !y2,x3 && !y3)
def ZuL(g:Ed)(p x:B4):B4:=orB x (XM (ZuK g x) p)
def Zme(g:Ed)(p:B4):Nat->B4->B4
 |0,x=>x
 |n+1,x=>Zme g p n (ZuL g p x)
def lowB:B4->B4
 |(p0,p1,p2,p3)=>(p0,!p0 && p1,!p0 && !p1 && p2,!p0 && !p1 && !p2 && p3)
def Vc(g:Ed)(n:Nat)(p:B4):Bool:=Zme g p n (lowB p) == p
def ZuM(g:Ed)(x y:B4):Bool:=match x,y with
 |(x0,x1,x2,x3),(y0,y1,y2,y3)=>(x0 && ((y1 && g.a) || (y2 && g.b) || (y3 && g.c))) || (x1 && ((y0 && g.a) || (y2 && g.d) || (y3 && g.e))) || (x2 && ((y0 && g.b) || (y1 && g.d) || (y3 && g.f))) || (x3 && ((y0 && g.c) || (y1 && g.e) || (y2 && g.f)))
def toI(x:B4):Int:=match x with|(a,b,c,d)=>Xw a b c d
def inN(n:Nat)(p:B4):Bool:=match p with|(p0,p1,p2,p3)=>(decide (1<=n) || !p0) && (decide (2<=n) || !p1) && (decide (3<=n) || !p2) && (decide (4<=n) || !p3)
def QL(p:B4):Bool:=p == (true,false,false,false) || p == (false,true,false,false) || p == (false,false,true,false) || p == (false,false,false,true)
def Ze4(g:Ed)(n:Nat)(p:B4):Bool:=!inN n p || !Vc g n p || QL p || p == (false,false,false,false) ||
 (XM p (true,false,false,false) != (false,false,false,false) && Vc g n (Vb p (true,false,false,false))) || (XM p (false,true,false,false) != (false,false,false,false) && Vc g n (Vb p (false,true,false,false))) ||
 (XM p (false,false,true,false) != (false,false,false,false) && Vc g n (Vb p (false,false,true,false))) || (XM p (false,false,false,true) != (false,false,false,false) && Vc g n (Vb p (false,false,false,true)))
def Ze5(g:Ed)(n:Nat)(p x:B4):Bool:=XM x p != x || x == (false,false,false,false) || x == p || ZuM g x (Vb p x) || !inN n p || !Vc g n p
set_option maxRecDepth 100000 in
def f1:∀a b c d e f:Bool,∀p0 p1 p2 p3:Bool,Ze4 ⟨a,b,c,d,e,f⟩ 1 (p0,p1,p2,p3)=true/\Ze4 ⟨a,b,c,d,e,f⟩ 2 (p0,p1,p2,p3)=true/\Ze4 ⟨a,b,c,d,e,f⟩ 3 (p0,p1,p2,p3)=true/\Ze4 ⟨a,b,c,d,e,f⟩ 4 (p0,p1,p2,p3)=true:=by decide +kernel
set_option maxRecDepth 100000 in
def f2:∀a b c d e f:Bool,∀p0 p1 p2 p3 x0 x1 x2 x3:Bool,Ze5 ⟨a,b,c,d,e,f⟩ 1 (p0,p1,p2,p3) (x0,x1,x2,x3)=true/\Ze5 ⟨a,b,c,d,e,f⟩ 2 (p0,p1,p2,p3) (x0,x1,x2,x3)=true/\Ze5 ⟨a,b,c,d,e,f⟩ 3 (p0,p1,p2,p3) (x0,x1,x2,x3)=true/\Ze5 ⟨a,b,c,d,e,f⟩ 4 (p0,p1,p2,p3) (x0,x1,x2,x3)=true:=by decide +kernel
def ofI(m:Int):B4:=(ZP m 0,ZP m 1,ZP m 2,ZP m 3)
set_option maxRecDepth 100000 in
def to_of:∀a:Fin 16,toI (ofI (a.1:Int))=(a.1:Int):=by decide
def ZuN{m:Int}(h:M16 m):toI (ofI m)=m:=by obtain⟨a,rfl⟩:=m16 h;exact to_of a
def Z3R:∀a b c d:Bool,ofI (Xw a b c d)=(a,b,c,d)/\M16 (Xw a b c d):=by decide
def Zij(x:B4):ofI (toI x)=x:=(Z3R x.1 x.2.1 x.2.2.1 x.2.2.2).1
def toI_16(x:B4):M16 (toI x):=(Z3R x.1 x.2.1 x.2.2.1 x.2.2.2).2
def ZuO{x y:B4}(h:toI x=toI y):x=y:=by rw[<-Zij x,h,Zij]
set_option maxRecDepth 100000 in
def Z3S:∀a b c d e f g h:Bool,orI (Xw a b c d) (Xw e f g h)=Xw (a || e) (b || f) (c || g) (d || h)/\andI (Xw a b c d) (Xw e f g h)=Xw (a && e) (b && f) (c && g) (d && h):=by decide
def Z3T(x y:B4):orI (toI x) (toI y)=toI (orB x y):=(Z3S x.1 x.2.1 x.2.2.1 x.2.2.2 y.1 y.2.1 y.2.2.1 y.2.2.2).1
def Zmf(x y:B4):andI (toI x) (toI y)=toI (XM x y):=(Z3S x.1 x.2.1 x.2.2.1 x.2.2.2 y.1 y.2.1 y.2.2.1 y.2.2.2).2
def ZHZ:∀a b c d:Bool,andI (Xw a b c d) (w (0-Xw a b c d))=toI (lowB (a,b,c,d)):=by decide
def ZIa:∀a b c d e f g h:Bool,XM (e,f,g,h) (a,b,c,d)=(e,f,g,h)->Xw a b c d-Xw e f g h=toI (Vb (a,b,c,d) (e,f,g,h)):=by decide
def Z3U{x y:B4}(h:XM y x=y):toI x-toI y=toI (Vb x y):=ZIa x.1 x.2.1 x.2.2.1 x.2.2.2 y.1 y.2.1 y.2.2.1 y.2.2.2 h
def shl4:∀i j:Fin 4,ZP (shlI 1 i.1) j.1=decide (i=j):=by decide
def pV_any(qa:List Ze)(h4:qa.length<=4)(m:Int)(u:Nat):pV m qa u=((ZP m 0 && pV (shlI 1 (0:Nat)) qa u) || (ZP m 1 && pV (shlI 1 (1:Nat)) qa u) || (ZP m 2 && pV (shlI 1 (2:Nat)) qa u) || (ZP m 3 && pV (shlI 1 (3:Nat)) qa u)):=by
 have s:∀i j:Nat,i<4->j<4->ZP (shlI 1 (i:Nat)) j=decide (i=j):=λi j hi hj=>by
  have:=shl4 ⟨i,hi⟩ ⟨j,hj⟩;simpa[Fin.ext_iff]using this
 have s00:=s 0 0 (by omega) (by omega);have s01:=s 0 1 (by omega) (by omega);have s02:=s 0 2 (by omega) (by omega);have s03:=s 0 3 (by omega) (by omega);have s10:=s 1 0 (by omega) (by omega);have s11:=s 1 1 (by omega) (by omega);have s12:=s 1 2 (by omega) (by omega);have s13:=s 1 3 (by omega) (by omega);have s20:=s 2 0 (by omega) (by omega);have s21:=s 2 1 (by omega) (by omega);have s22:=s 2 2 (by omega) (by omega);have s23:=s 2 3 (by omega) (by omega);have s30:=s 3 0 (by omega) (by omega);have s31:=s 3 1 (by omega) (by omega);have s32:=s 3 2 (by omega) (by omega);have s33:=s 3 3 (by omega) (by omega);simp only[Nat.reduceEqDiff,decide_true,decide_false]at s00 s01 s02 s03 s10 s11 s12 s13 s20 s21 s22 s23 s30 s31 s32 s33
 match qa,h4 with
 |[],_=>simp[pV,Wx]
 |[a],_=>simp only[pV,Wx,s00,s10,s20,s30];cases ZP m 0<;>cases ZP m 1<;>cases ZP m 2<;>cases ZP m 3<;>simp
 |[a,b],_=>simp only[pV,Wx,s00,s10,s20,s30,s01,s11,s21,s31,Yu];cases ZP m 0<;>cases ZP m 1<;>cases ZP m 2<;>cases ZP m 3<;>simp
 |[a,b,c],_=>simp only[pV,Wx,s00,s10,s20,s30,s01,s11,s21,s31,s02,s12,s22,s32,Yu,Nat.reduceAdd];cases ZP m 0<;>cases ZP m 1<;>cases ZP m 2<;>cases ZP m 3<;>simp[Bool.or_assoc]
 |[a,b,c,d],_=>simp only[pV,Wx,s00,s10,s20,s30,s01,s11,s21,s31,s02,s12,s22,s32,s03,s13,s23,s33,Yu,Nat.reduceAdd];cases ZP m 0<;>cases ZP m 1<;>cases ZP m 2<;>cases ZP m 3<;>simp[Bool.or_assoc]
 |_::_::_::_::_::_,h=>simp at h
def adj(qa:List Ze)(i j:Nat):Bool:=shr qa (shlI 1 i) (shlI 1 j)
def QM(qa:List Ze)(i j:Nat):adj qa i j=adj qa j i:=by
 unfold adj shr;simp only[Bool.and_comm]
def ats(m:Int)(f:Nat->Bool):Bool:=(ZP m 0 && f 0) || (ZP m 1 && f 1) || (ZP m 2 && f 2) || (ZP m 3 && f 3)
def ZaB{m:Int}{f:Nat->Bool}:ats m f=true↔∃i,i<4/\ZP m i=true/\f i=true:=by
 unfold ats;constructor
 .intro h;simp only[Yc3,Yg]at h;rcases h with((h|h)|h)|h
  .exact⟨0,by omega,h⟩
  .exact⟨1,by omega,h⟩
  .exact⟨2,by omega,h⟩
  .exact⟨3,by omega,h⟩
 .rintro⟨i,hi,h1,h2⟩;simp only[Yc3,Yg]
  match i,hi with
  |0,_=>exact .inl (.inl (.inl ⟨h1,h2⟩))
  |1,_=>exact .inl (.inl (.inr ⟨h1,h2⟩))
  |2,_=>exact .inl (.inr ⟨h1,h2⟩)
  |3,_=>exact .inr ⟨h1,h2⟩
def Z3V(qa:List Ze)(h4:qa.length<=4)(x y:Int):shr qa x y=ats x λi=>ats y λj=>adj qa i j:=by
 have pv:∀m u,pV m qa u=ats m λi=>pV (shlI 1 (i:Nat)) qa u:=λm u=>pV_any qa h4 m u
 rw[Ybv,ZaB];unfold shr;rw[List.any_eq_true];constructor
 .rintro⟨u,hu,h⟩;rw[Yg,pv x u,pv y u,ZaB,ZaB]at h;obtain⟨⟨i,i1,i2,i3⟩,⟨j,j1,j2,j3⟩⟩:=h;refine⟨i,i1,i2,ZaB.2 ⟨j,j1,j2,?_⟩⟩;unfold adj shr;rw[List.any_eq_true];exact⟨u,hu,by rw[Yg];exact⟨i3,j3⟩⟩
 .rintro⟨i,i1,i2,h⟩;obtain⟨j,j1,j2,h⟩:=ZaB.1 h;unfold adj shr at h;rw[List.any_eq_true]at h;obtain⟨u,hu,h⟩:=h;rw[Yg]at h;refine⟨u,hu,?_⟩;rw[Yg,pv x u,pv y u,ZaB,ZaB];exact⟨⟨i,i1,i2,h.1⟩,⟨j,j1,j2,h.2⟩⟩
def QN(qa:List Ze):Ed:=⟨adj qa 0 1,adj qa 0 2,adj qa 0 3,adj qa 1 2,adj qa 1 3,adj qa 2 3⟩
def Zmg{qa:List Ze}(h4:qa.length<=4){i:Nat}(hi:i<4)(hl:qa.length<=i)(j:Nat):adj qa i j=false:=by
 have:∀u,pV (shlI 1 (i:Nat)) qa u=false:=by
  intro u;unfold pV;have key:∀(as':List Ze) (k:Nat),k+as'.length<=i->Wx (shlI 1 (i:Nat)) as' k u=false:=by
   intro as'
   induction as' with
   |nil=>intro k _;rfl
   |cons a as' ih =>
    intro k hk;simp only[Ym]at hk;have:=shl4 ⟨i,hi⟩ ⟨k,by omega⟩;simp only[Fin.mk.injEq]at this;rw[Wx,ih (k+1) (by omega),this,decide_eq_false (by omega)];rfl
  exact key qa 0 (by omega)
 unfold adj shr;rw[Yde];intro u _;simp[this u]
def shl_in(i:Nat)(hi:i<4)(f:Nat->Bool):ats (shlI 1 (i:Nat)) f=f i:=by
 have s:∀j:Nat,j<4->ZP (shlI 1 (i:Nat)) j=decide (i=j):=λj hj=>by
  have:=shl4 ⟨i,hi⟩ ⟨j,hj⟩;simpa[Fin.ext_iff]using this
 rw[Ybv,ZaB];constructor
 .rintro⟨j,j1,j2,j3⟩;rw[s j j1]at j2
  have:i=j:=of_decide_eq_true j2
  rw[this];exact j3
 .intro h;exact⟨i,hi,by rw[s i hi];simp,h⟩
def ZIb{n:Int}{qa:List Ze}(hv:Z6 n qa=true)(x:B4):Ko qa (toI x)=toI (ZuK (QN qa) x):=by
 have h4:=(WH hv).2;obtain⟨x0,x1,x2,x3⟩:=x;have hin:=Zij (x0,x1,x2,x3);simp only[ofI,Ybw]at hin;obtain⟨i0,i1,i2,i3⟩:=hin;have key:∀i,i<4->Vl qa (toI (x0,x1,x2,x3)) i=(!ZP (toI (x0,x1,x2,x3)) i && ((x0 && adj qa i 0) || (x1 && adj qa i 1) || (x2 && adj qa i 2) || (x3 && adj qa i 3))):=by
  intro i hi;unfold Vl;rw[Z3V qa h4,shl_in i hi];unfold ats;rw[i0,i1,i2,i3];by_cases hl:i<qa.length
  .simp[hl]
  .have a0:=Zmg h4 hi (by omega) 0;have a1:=Zmg h4 hi (by omega) 1;have a2:=Zmg h4 hi (by omega) 2;have a3:=Zmg h4 hi (by omega) 3;simp[hl,a0,a1,a2,a3]
 unfold Ko Xq;rw[key 0 (by omega),key 1 (by omega),key 2 (by omega),key 3 (by omega),i0,i1,i2,i3];unfold ZuK QN toI;rw[QM qa 1 0,QM qa 2 0,QM qa 3 0,QM qa 2 1,QM qa 3 1,QM qa 3 2];cases x0<;>cases x1<;>cases x2<;>cases x3<;>simp
def ZIc{n:Int}{qa:List Ze}(hv:Z6 n qa=true)(p x:B4):QI qa (toI p) (toI x)=toI (ZuL (QN qa) p x):=by
 unfold QI ZuL;rw[ZIb hv,Zmf,Z3T]
def Z3W{n:Int}{qa:List Ze}(hv:Z6 n qa=true)(p:B4):∀(k:Nat) (x:B4),JD qa (toI p) k (toI x)=toI (Zme (QN qa) p k x)
 |0,x=>rfl
 |k+1,x=>by rw[JD,Zme,ZIc hv,Z3W hv p k]
def Zik{n:Int}{qa:List Ze}(hv:Z6 n qa=true)(p:B4):Wp qa (toI p)=Vc (QN qa) qa.length p:=by
 unfold Wp Vc;rw[show andI (toI p) (w (0-toI p))=toI (lowB p)from ZHZ p.1 p.2.1 p.2.2.1 p.2.2.2,Z3W hv,Ybv,decide_eq_true_eq,beq_iff_eq];exact⟨ZuO,λh=>by rw[h]⟩
def ZId{qa:List Ze}(h4:qa.length<=4)(x y:B4)(hd:XM x y=(false,false,false,false)):shr qa (toI x) (toI y)=ZuM (QN qa) x y:=by
 obtain⟨x0,x1,x2,x3⟩:=x;obtain⟨y0,y1,y2,y3⟩:=y;have hx:=Zij (x0,x1,x2,x3);have hy:=Zij (y0,y1,y2,y3);simp only[ofI,Prod.mk.injEq]at hx hy;obtain⟨i0,i1,i2,i3⟩:=hx;obtain⟨j0,j1,j2,j3⟩:=hy;simp only[XM,Prod.mk.injEq]at hd;rw[Z3V qa h4];unfold ats;rw[i0,i1,i2,i3,j0,j1,j2,j3];unfold ZuM QN;dsimp only;rw[QM qa 1 0,QM qa 2 0,QM qa 3 0,QM qa 2 1,QM qa 3 1,QM qa 3 2];obtain⟨h0,h1,h2,h3⟩:=hd;cases x0<;>cases y0<;>simp at h0<;>cases x1<;>cases y1<;>simp at h1<;>cases x2<;>cases y2<;>simp at h2<;>cases x3<;>cases y3<;>simp at h3<;>simp
