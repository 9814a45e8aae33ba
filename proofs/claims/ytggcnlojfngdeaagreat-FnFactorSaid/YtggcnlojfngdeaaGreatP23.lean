/-
  Parts of the proofs for this seat: LS PC PC2.
-/
import Derived.Test.YtggcnlojfngdeaaGreatP22
set_option linter.all false
set_option maxRecDepth 100000
set_option maxHeartbeats 4000000
namespace Go.Proofs.YtggcnlojfngdeaaGreat
open Go.AM
def ZJ6(l:WL)(hl:l.length<=4294967296):∀i,i<=l.length->∀out:WL,out.length<=i->Mm out l l l.length i=if Xs l=true then some (.own 0,[.arr ZV 1 true ((out++(l.drop i).map Xi).map ic)])else some (.t .nil,[]):=by
 refine down _ ?_ ?_
 .intro out _;rcases tf (Xs l)with e|e
  .rw[e];apply Ud.1.1.1;rw[Ap];exact⟨_,Zpl l Z,by rw[e,Yb Om]⟩
  .rw[e,Ya rfl];apply Ud.1.1.1;rw[Ap];exact⟨_,Zpl l Z,by rw[e,Ya rfl];simp⟩
 .intro i hi ih out ho;have h4:=ZK (i:=i) Z;have ih:=ih (out++[Xi l[i]]) (by simp;omega);simp only[Ys,Yt]at ih;have go:∀r,Mm (out++[Xi l[i]]) l l l.length ((i:Int)+1)=some r->Mm out l l l.length i=some r:=by
   intro r hr;apply Ud.1.1.1;rw[Ao];refine⟨Z,l[i],by rw[Yj];exact Yf hi,_,ZJi _,Z,?_⟩;rw[show w ((i:Int)+1)=(i:Int)+1 from h4];exact hr
  rw[Yh hi,Yx];rcases tf (Xs l)with e|e
  .rw[e]at ih|-;exact go _ (by simpa using ih)
  .rw[e,Ya rfl]at ih|-;exact go _ (by simpa using ih)
def Xa(l:WL):WL:=l.map Xi
def ZJ7(l:WL)(hl:l.length<=4294967296):Sp l=if Xs l=true then some (.own 0,[.arr ZV 1 true ((Xa l).map ic)])else some (.t .nil,[]):=by
 have b:=ZJ6 l hl 0 (Yc _) [] Om;rcases tf (Xs l)with e|e
 .rw[e]at b|-;exact Ud.1.1.2 _ _ b
 .rw[e,Ya rfl]at b|-;exact Ud.1.1.2 _ _ (by simpa[Xa]using b)
def ZJ8(l:WL)(hl:l.length<=4294967296)(h:Xs l=true):∀i,i<=l.length->∀out:WL,out.length<=i->f0 out l i=some (.own 0,[.arr ZV 1 true ((out++(l.drop i).map Xi).map ic)]):=by
 refine down _ ?_ ?_
 .intro out _;apply WU.2.1.2.1;rw[Ap];simp
 .intro i hi ih out ho;have h4:=ZK (i:=i) Z;have ih:=ih (out++[Xi l[i]]) (by simp;omega);simp only[Ys,Yt]at ih;apply WU.2.1.2.1;rw[Ao];refine⟨_,Zpk l Z,?_⟩;rw[h,Ya rfl];refine⟨Z,l[i],by rw[Yj];exact Yf hi,_,Gb _,Z,?_⟩;rw[show w ((i:Int)+1)=(i:Int)+1 from h4,Yh hi,Yx];simpa using ih
def Zzr(l:WL)(hl:l.length<=4294967296):K8 l=some (.own 0,[.arr ZV 1 true ((if Xs l=true then Xa l else[]).map ic)]):=by
 rcases tf (Xs l)with e|e
 .rw[e];refine WU.2.1.2.2 _ _ (WU.2.1.2.1 _ _ _ _ ?_);by_cases h:(0:Int)<l.length
  .rw[Ya h];exact⟨_,Zpk l Z,by rw[e,Yb Om];rfl⟩
  .rw[Yb h];rfl
 .have b:=ZJ8 l hl e 0 (Yc _) [] Om;rw[e,Ya rfl];exact WU.2.1.2.2 _ _ (by simpa[Xa]using b)
abbrev XH(q:Zc)(m:Int):WL:=XC m q.Atoms q.Zg.toNat
def Vd(q:Zc)(a b:Int):WL:=(XH q a).filter (has (XH q b))
def MY(q:Zc)(hv:Z3 q.Zg q.Atoms=true)(m:Int):(XH q m).length<=4:=by
 have:=aW m q.Atoms q.Zg.toNat;have:=K0 hv;unfold XH;omega
def Z8u(p:Nat->Bool):∀k:Nat,k<=4->∀out:WL,out.length<=k->P6 out (Xt p) k=some (.own 0,[.arr ZV 1 true ((out++((List.range' k (4-k)).filter p).map (λu:Nat=>(u:Int))).map ic)]):=by
 refine down _ ?_ ?_
 .simp[XZ.2.2.1.1]
 .intro k hk ih out ho;have DH:w ((k:Int)+1)=(k:Int)+1:=ZF Z Z;have hb:=Zrc p (v:=(k:Int)) (by simp[Ak];omega);rw[Yj]at hb;apply XZ.2.2.1.1;rw[Ao,show 4-k=(4-(k+1))+1 by omega,Ycp,List.filter_cons,DH]
  grind
def Z8v(q:Zc)(hv:Z3 q.Zg q.Atoms=true)(m:Int):((List.range' 0 4).filter (pV m q.Atoms)).map (λu:Nat=>(u:Int))=XH q m:=by
 have hn:=K0 hv;have e:List.range' 0 4=List.range q.Zg.toNat++List.range' q.Zg.toNat (4-q.Zg.toNat):=by
  have h:=List.range'_append_1 (s:=0) (m:=q.Zg.toNat) (n:=4-q.Zg.toNat)
  simp_all [Yv,List.range_eq_range']
 unfold XH XC;rw[e,List.filter_append];have e2:(List.range' q.Zg.toNat (4-q.Zg.toNat)).filter (pV m q.Atoms)=[]:=by
  rw[OL];intro u hu hp;have:=Zrh hv hp
  grind
 rw[e2];simp
def Zpr(q:Zc)(hq:AS q)(hv:Z3 q.Zg q.Atoms=true)(m:Int)(hm:MQ q.Atoms m):LG q m=some (.own 0,[.arr ZV 1 true ((XH q m).map ic)]):=by
 have b:=Z8u (pV m q.Atoms) 0 Z [] Om;rw[show 4-0=4 from rfl,Z8v q hv m]at b;refine XZ.2.2.2.1 _ _ _ ⟨_,Z8r q hq m,?_⟩
 have:Ak m 0 (Z7 q.Zg q.Atoms)=true:=by rw[Jt hv];simp[Ak];have:=hm.1;have:=hm.2;omega
 rw[hv,this,Ya (by rfl)];exact⟨_,MF q m hq (Li hv),_,XZ.2.2.1.2 _ _ (by simpa using b),rfl⟩
def ZJ9(x y:WL)(hy:Le y)(hx:x.length<=1000):∀i,i<=x.length->P7 ((x.take i).filter (has y)) x y i=some (.own 0,[.arr ZV 1 true ((x.filter (has y)).map ic)]):=by
 refine down _ ?_ ?_
 .simp[XZ.2.2.2.2.1]
 .intro i hi ih;have h4:=ZK (i:=i) Z;have e4:((x.take i).filter (has y)).length+1<=68719476736:=by
   grind
  rw[Zrg _ hi]at ih;apply XZ.2.2.2.2.1;rw[Ao];refine⟨Z,x[i],by rw[Yj];exact Yf hi,_,Qn y x[i] hy,?_⟩
  grind
theorem Zzs(q:Zc)(hq:AS q)(hv:Z3 q.Zg q.Atoms=true)(a b:Int)(ha:MQ q.Atoms a)(hb:MQ q.Atoms b):K7 q a b=some (.own 0,[.arr ZV 1 true ((Vd q a b).map ic)]):=by
 have l1:=MY q hv a;have l2:=MY q hv b;have c:=ZJ9 (XH q a) (XH q b) Z Z 0 (Yc _);exact XZ.2.2.2.2.2 _ _ _ _ ⟨_,Zpr q hq hv a ha,_,Zpr q hq hv b hb,by simpa[Vd]using c⟩
structure MZ (n:Nat) (x:Zn) (y:Zp):Prop where
 kind:1<=x.Kind/\x.Kind<=5
 refs:(y.Left=-1/\y.Right=-1)\/((0<=y.Left/\y.Left.toNat<n)/\(y.Right=-1\/(0<=y.Right/\y.Right.toNat<n)))
def MZ.mono{n k:Nat}{x:Zn}{y:Zp}(h:MZ n x y)(hk:n<=k):MZ k x y:=by
 refine⟨h.kind,h.refs.imp id λ⟨⟨a,b⟩,c⟩=>⟨⟨a,Z⟩,c.imp id λ⟨d,e⟩=>⟨d,Z⟩⟩⟩
theorem Z8w{qa:List Zd}{x:Zn}{info:List Zp}{st:WL}{y:Zp}(hs:UN info st)(h:Ub qa x info st=some y):MZ info.length x y:=by
 unfold Ub at h;split at h
 .rename_i k1;split at h
  .cases h;exact⟨Z,.inl ⟨rfl,rfl⟩⟩
  .cases h
 .rename_i k1;split at h
  .cases h
  .split at h
   .rename_i k2;split at h
    .rename_i s y' ht;split at h
     .cases h;obtain⟨_,t2,t3,_⟩:=JR hs (Yk 1) ht;exact⟨Z,.inr ⟨⟨t2,t3⟩,.inl rfl⟩⟩
     .cases h
    .cases h
   .rename_i k2;split at h
    .rename_i s y' t z ht hu;split at h
     .obtain⟨_,t2,t3,_⟩:=JR hs (Z:1<=2) ht;obtain⟨_,u2,u3,_⟩:=JR hs (Z:1<=1) hu;obtain⟨o,ho,rfl⟩:=Yo.1 h;have hk:x.Kind=3\/x.Kind=4\/x.Kind=5:=by
       unfold Vu at ho
       grind
      exact⟨Z,.inr ⟨⟨t2,t3⟩,.inr ⟨u2,u3⟩⟩⟩
     .cases h
    .cases h
def Z8x{qa:List Zd}:∀{xs:List Zn} {i:Nat} {info:List Zp} {st:WL} {c:List Zp} {cc:WL},WG qa xs i info st=some (c,cc)->
  UN info st->info.length=i->∃tail,c=info++tail/\tail.length=xs.length/\∀(j:Nat) (y:Zp) (x:Zn),tail[j]?=some y->xs[j]?=some x->MZ (i+j) x y
 |[],i,info,st,c,cc,h,hs,hi=>by
  simp[WG]at h
  simp_all
 |x::xs,i,info,st,c,cc,h,hs,hi=>by
  rw[WG]at h;split at h
  .cases h
  .rename_i y hy;have hn:=aY hs y (st.length-XX y);rw[hi]at hn;obtain⟨tail,g2,g3,g4⟩:=Z8x h hn (by simp[hi])
   grind [Z8w]
def Z8y{n:Int}{qa:List Zd}{steps:List Zn}{info:List Zp}(h:XL n qa steps=some info):∀(j:Nat) (y:Zp) (x:Zn),info[j]?=some y->steps[j]?=some x->MZ j x y:=by
 unfold XL at h;split at h
 .split at h
  .rename_i Bh st hg;split at h
   .cases h;obtain⟨tail,g2,g3,g4⟩:=Z8x hg (λs hs=>by cases hs) rfl
    simp_all
   .cases h
  .cases h
 .cases h
def HU(xs:WL):Bool:=xs.all (λx=>Ak x 0 4096)
def WK(n:Int)(qa:List Zd)(xs:WL):Bool:=Z3 n qa && decide ((xs.length:Int)=Z7 n qa+1) && HU xs
def ZJA(q:Zc)(hq:AS q)(xs:WL)(hx:Le xs):∀i,i<=xs.length->jC q xs xs xs.length i=some (Bo (HU (xs.drop i) && (Z3 q.Zg q.Atoms && decide ((xs.length:Int)=Z7 q.Zg q.Atoms+1))),[]):=by
 refine down _ ?_ ?_
 .apply Ud.1.2.1;rw[Ap];refine⟨_,Zpj q hq,?_⟩;rcases tf (Z3 q.Zg q.Atoms)with e|e
  .rw[e];simp
  .rw[e,Ya rfl];refine⟨_,Zzg q hq,?_⟩;rw[show w (Z7 q.Zg q.Atoms+1)=Z7 q.Zg q.Atoms+1 from vN _ _];simp[HU]
 .intro i hi ih;have h4:=ZK (i:=i) Z;apply Ud.1.2.1;rw[Ao];refine⟨Z,xs[i],by rw[Yj];exact Yf hi,_,Vy _ _ _,?_⟩;unfold HU at ih|-;rw[JO _ hi]
  simp_all
def ZJB(q:Zc)(hq:AS q)(xs:WL)(hx:Le xs):ZoZ q xs=some (Bo (WK q.Zg q.Atoms xs),[]):=by
 have b:=ZJA q hq xs hx 0 (Yc _);refine Ud.1.2.2 _ _ _ (Yg b ?_);rw[Yq,WK,Bool.and_comm]
def ZJC(xs:WL)(hx:Le xs):∀i,i<=xs.length->g8 xs i=some (Bo (HU (xs.drop i)),[]):=by
 refine down _ ?_ ?_
 .apply X5.2.1.1.1;rw[Ap];simp[HU]
 .intro i hi ih;have h4:=ZK (i:=i) Z;apply X5.2.1.1.1;rw[Ao];refine⟨Z,xs[i],by rw[Yj];exact Yf hi,_,ZH _ _ _,?_⟩;unfold HU at ih|-;rw[JO _ hi]
  simp_all
def Z8z(q:Zc)(hq:AS q)(xs:WL)(hx:Le xs):R8 q xs=some (Bo (WK q.Zg q.Atoms xs),[]):=by
 have b:=ZJC xs hx 0 (Yc _);refine X5.2.1.1.2 _ _ _ ⟨_,MC q hq,?_⟩;unfold WK
 simp_all [tf,Ue,vN]
def Z5(sizes:WL)(m:Int):Int:=(sizes[m.toNat]?).getD 0
def Vo(info:List Zp)(i:Int):Int:=match info[i.toNat]? with|some y=>y.Mask|none=>0
def WN(m:Zf)(info:List Zp)(sizes:WL)(x:Zn)(y:Zp):Int :=
 Xo (BC m x.Kind) (if y.Left<0 then Z5 sizes y.Mask else Z5 sizes (Vo info y.Left)) (if y.Right<0 then 0 else Z5 sizes (Vo info y.Right)) (Z5 sizes y.Mask)
def XO(m:Zf)(info:List Zp)(sizes:WL):List Zn->List Zp->WL
 |x::xs,y::ys=>WN m info sizes x y::XO m info sizes xs ys
 |_,_=>[]
def Z80(m:Zf)(info:List Zp)(sizes:WL){xs:List Zn}{ys:List Zp}{i:Nat}(hx:i<xs.length)(hy:i<ys.length) :
  XO m info sizes (xs.drop i) (ys.drop i)=WN m info sizes xs[i] ys[i]::XO m info sizes (xs.drop (i+1)) (ys.drop (i+1)):=by
 rw[Yh hx,Yh hy,XO]
def SG{qa:List Zd}{n:Int}{sizes:WL}(hs:WK n qa sizes=true){y:Zp}(hm:Lm qa.length y):sizes[y.Mask.toNat]?=some (Z5 sizes y.Mask):=by
 simp only[WK,Yd,decide_eq_true_eq]at hs;have hf:=Jt hs.1.1;have hlt:y.Mask.toNat<sizes.length:=by have:=hm.1;have:=hm.2;omega
 simp[Z5,Yf hlt]
def Zps{info:List Zp}{i:Int}{n:Nat}(h:0<=i/\i.toNat<n)(hn:n<=info.length):∃y,info[i.toNat]?=some y/\y∈info/\Vo info i=y.Mask:=by
 have hlt:i.toNat<info.length:=by omega
 exact⟨info[i.toNat],Yf hlt,Ye hlt,by simp[Vo,Yf hlt]⟩
def Uz(m:Zf)(n:Int)(qa:List Zd)(steps:List Zn)(sizes:WL):WL:=match XL n qa steps with
 |some info=>if WK n qa sizes=true then XO m info sizes steps info else[]
 |none=>[]
def Z81(m:Zf):Jm m=some (.bsl 1 5,[.box (m.c.map .t),.box [.ptr 0 0,.ptr 0 6,.ptr 0 12,.ptr 0 18,.ptr 0 24]]):=Ws.1.2.2.2.1 _ _ rfl
def kinds{k:Int}(h:1<=k/\k<=5):k=1\/k=2\/k=3\/k=4\/k=5:=by omega
def Abc(m:Zf)(hm:Be m)(info:List Zp)(out:WL)(ho:out.length<=100)(x:Zn)(hk:1<=x.Kind/\x.Kind<=5)(sizes:WL)(i:Nat)(y:Zp)(hy:info[i]?=some y)(c:0<=y.Mask)(hs:sizes[y.Mask.toNat]?=some (Z5 sizes y.Mask))(l r:Int)(x1:List Zn)(x2 x3:Int)(res:XS)
  (h:VM m info (out++[Xo (BC m x.Kind) l r (Z5 sizes y.Mask)]) sizes x1 x2 (w (x3+1))=some res):jH m info out x sizes i l r x1 x2 x3=some res:=by
 refine ZIz _ _ _ _ _ _ _ _ _ _ _ _ ⟨Z81 m,?_⟩;have ho':out.length+1<=68719476736:=by omega
 obtain⟨m1,m2,m3,m4,m5⟩:=hm;have hi:info[((i:Nat):Int).toNat]?=some y:=by rw[Yj];exact hy
 have hi0:(0:Int)<=(i:Int):=by omega
 rcases kinds hk with e|e|e|e|e<;>rw[e]at h|-
 .rw[Ya Sm];exact⟨hi0,y,hi,c,_,hs,_,Jr _ m1 _ _ _,ho',h⟩
 .rw[Yb Sm,Ya Sm];exact⟨hi0,y,hi,c,_,hs,_,Jr _ m2 _ _ _,ho',h⟩
 .rw[Yb Sm,Yb Sm,Ya Sm];exact⟨hi0,y,hi,c,_,hs,_,Jr _ m3 _ _ _,ho',h⟩
 .rw[Yb Sm,Yb Sm,Yb Sm,Ya Sm];exact⟨hi0,y,hi,c,_,hs,_,Jr _ m4 _ _ _,ho',h⟩
 .rw[Yb Sm,Yb Sm,Yb Sm,Yb Sm,Ya Sm];exact⟨hi0,y,hi,c,_,hs,_,Jr _ m5 _ _ _,ho',h⟩
def Z82(m:Zf)(hm:Be m)(info:List Zp)(out:WL)(ho:out.length<=100)(x:Zn)(hk:1<=x.Kind/\x.Kind<=5)(sizes:WL)(i:Nat)(y:Zp)(hy:info[i]?=some y)(c:0<=y.Mask)(hs:sizes[y.Mask.toNat]?=some (Z5 sizes y.Mask))(l r:Int)(x1:List Zn)(x2 x3:Int)(f:Bool)(res:XS)
  (h:VM m info (out++[Xo (BC m x.Kind) l r (Z5 sizes y.Mask)]) sizes x1 x2 (w (x3+1))=some res):jI m info out x sizes i l r x1 x2 x3 f=some res:=by
 refine ZI1 _ _ _ _ _ _ _ _ _ _ _ _ _ ⟨Z81 m,?_⟩;have ho':out.length+1<=68719476736:=by omega
 obtain⟨m1,m2,m3,m4,m5⟩:=hm;have hi:info[((i:Nat):Int).toNat]?=some y:=by rw[Yj];exact hy
 have hi0:(0:Int)<=(i:Int):=by omega
 rcases kinds hk with e|e|e|e|e<;>rw[e]at h|-
 .rw[Ya Sm];exact⟨hi0,y,hi,c,_,hs,_,Jr _ m1 _ _ _,ho',h⟩
 .rw[Yb Sm,Ya Sm];exact⟨hi0,y,hi,c,_,hs,_,Jr _ m2 _ _ _,ho',h⟩
 .rw[Yb Sm,Yb Sm,Ya Sm];exact⟨hi0,y,hi,c,_,hs,_,Jr _ m3 _ _ _,ho',h⟩
 .rw[Yb Sm,Yb Sm,Yb Sm,Ya Sm];exact⟨hi0,y,hi,c,_,hs,_,Jr _ m4 _ _ _,ho',h⟩
 .rw[Yb Sm,Yb Sm,Yb Sm,Yb Sm,Ya Sm];exact⟨hi0,y,hi,c,_,hs,_,Jr _ m5 _ _ _,ho',h⟩
def ZJD{m:Zf}(hm:Be m){n:Int}{qa:List Zd}{steps:List Zn}{info:List Zp}{sizes:WL}(hi:XL n qa steps=some info)(hs:WK n qa sizes=true):∀i,i<=steps.length->∀out:WL,out.length=i->
  VM m info out sizes steps steps.length i=some (.own 0,[.arr ZV 1 true ((out++XO m info sizes (steps.drop i) (info.drop i)).map ic)]):=by
 obtain⟨l1,l2,l3,l4⟩:=G5 hi;obtain⟨p1,_⟩:=Z23 hi;refine down _ ?_ ?_
 .intro out _;apply Ud.2.1.2;rw[Ap,Ym];simp[XO]
 .intro i h' ih out ho;have h4:=ZK (i:=i) Z;have h:i<info.length:=by omega
  have ok:=Z8y hi i info[i] steps[i] (Yf h) (Yf h');have s0:=SG hs (p1 _ (Ye h));have hm0:=(p1 _ (Ye h)).1;have ih:=ih (out++[WN m info sizes steps[i] info[i]]) (by simp[ho]);simp only[Ys,Yt,DT,List.singleton_append]at ih;rw[<-Z80 m info sizes h' h,<-show w ((i:Int)+1)=(i:Int)+1 from h4]at ih;unfold WN at ih;apply Ud.2.1.2;rw[Ao];refine⟨Z,steps[i],by rw[Yj];exact Yf h',info[i],by rw[Yj];exact Yf h,hm0,_,s0,?_⟩;rcases ok.refs with⟨a,b⟩|⟨a,b⟩
  .have c1:info[i].Left<0:=by omega
   have c2:info[i].Right<0:=by omega
   have d1:¬0<=info[i].Left:=by omega
   have d2:¬0<=info[i].Right:=by omega
   simp only[Ya c1,Ya c2]at ih;simp only[Yb d1,Yb d2];exact Z82 m hm info out Z _ ok.kind sizes i info[i] (Yf h) hm0 s0 _ _ _ _ _ _ _ ih
  .obtain⟨y1,y2,y3,y4⟩:=Zps a (Z:i<=info.length);have s1:=SG hs (p1 _ y3);have hm1:=(p1 _ y3).1;have c1:¬info[i].Left<0:=by omega
   simp only[Yb c1,y4]at ih;rw[Ya a.1];refine⟨y1,y2,hm1,_,s1,?_⟩;rcases b with b|b
   .have c2:info[i].Right<0:=by omega
    have d2:¬0<=info[i].Right:=by omega
    simp only[Ya c2]at ih;rw[Yb d2];exact Z82 m hm info out Z _ ok.kind sizes i info[i] (Yf h) hm0 s0 _ _ _ _ _ _ _ ih
   .obtain⟨z1,z2,z3,z4⟩:=Zps b (Z:i<=info.length);have s2:=SG hs (p1 _ z3);have hm2:=(p1 _ z3).1;have c2:¬info[i].Right<0:=by omega
    simp only[Yb c2,z4]at ih;rw[Ya b.1];refine⟨z1,z2,hm2,_,s2,?_⟩;exact Abc m hm info out Z _ ok.kind sizes i info[i] (Yf h) hm0 s0 _ _ _ _ _ _ ih
theorem Zzt{m:Zf}{info:List Zp}{sizes:WL}:∀{xs:List Zn} {ys:List Zp},xs.length=ys.length->(XO m info sizes xs ys).length=xs.length
 |[],[],_=>rfl
 |[],_::_,h=>by simp at h
 |_::_,[],h=>by simp at h
 |x::xs,y::ys,h=>by rw[XO,Yy,Zzt (by simpa using h)];rfl
def Kj(n:Int)(qa:List Zd)(steps:List Zn)(sizes:WL):Bool:=(XL n qa steps).isSome && WK n qa sizes
theorem Zpt{m:Zf}{n:Int}{qa:List Zd}{steps:List Zn}{sizes:WL}:Uz m n qa steps sizes≠[]↔Kj n qa steps sizes=true:=by
 unfold Uz Kj
 cases hi:XL n qa steps with
 |none=>simp
 |some info =>
  obtain⟨l1,l2,l3,l4⟩:=G5 hi;rcases tf (WK n qa sizes)with e|e
  .simp[e]
  .grind [Zzt,Option.isSome_some,Bool.and_self]
def ZJE(m:Zf)(hm:Be m)(q:Zc)(hq:AS q)(p:Zj)(sizes:WL)(hs:Le sizes) :
  Mn m q p sizes=if Kj q.Zg q.Atoms p.Steps sizes=true then some (.own 0,[.arr ZV 1 true ((Uz m q.Zg q.Atoms p.Steps sizes).map ic)])else some (.t .nil,[]):=by
 have q1:=Z8l q p hq;unfold Uz Kj
 cases hi:XL q.Zg q.Atoms p.Steps with
 |none=>rw[hi]at q1;simp only[Option.isSome_none,Gy,rG,if_false];exact Ud.2.2.1 _ _ _ _ _ (.inl ⟨q1,rfl⟩)
 |some info =>
  rw[hi]at q1;have hv:=ZJB q hq sizes hs;rcases tf (WK q.Zg q.Atoms sizes)with e|e
  .simp_all [Option.isSome_some,Bool.and_false,rG,Ud.2.2.1]
  .simp only[e,Option.isSome_some,Bool.and_self,if_true];refine Ud.2.2.1 _ _ _ _ _ (.inr ⟨info,q1,true,by rw[hv,e],?_⟩);rw[Ya rfl];have b:=ZJD hm hi e 0 (Yc _) [] rfl;simpa using b
def Wb(xs:WL)(n:Int):Int:=xs.foldl (λa b=>w (a+b)) n
def kZ(xs:WL)(hx:Le xs):∀i,i<=xs.length->∀n,jK n xs xs.length i=some (I (Wb (xs.drop i) n),[]):=by
 refine down _ ?_ ?_
 .intro n;apply Ud.2.2.2.1;simp[Wb]
 .intro i hi ih n;have h4:=ZK (i:=i) Z;apply Ud.2.2.2.1;simp only[Ys,Yt]at ih;rw[Yh hi,Wb,Y6];simp[hi,h4,ih,Wb]
theorem lA(xs:WL)(hx:Le xs):jJ xs=some (I (Wb xs 0),[]):=Ud.2.2.2.2 _ _ (kZ xs hx 0 (Yc _) 0)
def W1(m:Zf)(n:Int)(qa:List Zd)(steps:List Zn)(sizes:WL):Int:=if Kj n qa steps sizes=true then Wb (Uz m n qa steps sizes) 0 else -1
theorem Zzu{m:Zf}{n:Int}{qa:List Zd}{steps:List Zn}{sizes:WL}:(Uz m n qa steps sizes).length<=14:=by
 unfold Uz
 cases hi:XL n qa steps with
 |none=>simp
 |some info =>
  obtain⟨l1,l2,l3,l4⟩:=G5 hi
  grind [Zzt]
def ZJF(m:Zf)(hm:Be m)(q:Zc)(hq:AS q)(p:Zj)(sizes:WL)(hs:Le sizes):jL m q p sizes=some (I (W1 m q.Zg q.Atoms p.Steps sizes),[]):=by
 have h1:=ZJE m hm q hq p sizes hs;apply ZI3;unfold W1;rcases tf (Kj q.Zg q.Atoms p.Steps sizes)with e|e
 .simp_all
 .grind [Zpt,lA,Zzu]
