/-
  Parts of the proofs for this seat: SG SH SU XT SV SW EZ EP.
-/
import Derived.Test.YtgbipcfdgfjplaaGreatP24
import Derived.Test.YtgbipcfdgfjplaaGreatP28
set_option linter.unusedSectionVars false
set_option linter.unusedSimpArgs false
set_option linter.unusedVariables false
set_option maxRecDepth 100000
set_option maxHeartbeats 4000000
namespace Go.Proofs.YtgbipcfdgfjplaaGreat
open Go.AM
def ruS(l:List Zb)(i:Int):Int:=XI ((l.getD i.toNat ⟨[],[]⟩).Rows.length:Int)
def lfC(l:List Zb)(y:Za)(i:Nat):Int:=if 0<=y.Left then ruS l y.Left else ruS l i
def rtC(l:List Zb)(y:Za):Int:=if 0<=y.Right then ruS l y.Right else 0
def stC(m:Zm)(l:List Zb)(x:Zj)(y:Za)(i:Nat):Int:=X7 (mOp m x.Kind) (lfC l y i) (rtC l y) (ruS l i)
def Jw(o:Zr)(l r b:Int)(k:Nat):Int:=match(List.range' k (8-k)).find? (λj:Nat=>decide (b<X7 o l r (Z5 j)))with
 |some j=>(j:Int)
 |none=>8
def WD(m:Zm)(l:List Zb)(x:Zj)(y:Za)(b:Int):Zg:=⟨y.Mask,Jw (mOp m x.Kind) (ruS l y.Left) (ruS l y.Right) b 0,false⟩
def Jx(l:List Zb)(y:Za)(i:Nat):Zg:=⟨y.Mask,X0 ((l.getD i ⟨[],[]⟩).Rows.length:Int),true⟩
def runF(m:Zm)(l:List Zb)(bud:Int):List Zj->List Za->Nat->Int->Int->List Zg->Bool×Int×Int×List Zg
 |x::xs,y::ys,i,c,st,seen =>
  if w (bud-c)<stC m l x y i then(false,bud,st,if 3<=x.Kind then seen++[WD m l x y (w (bud-c))]else seen)
  else runF m l bud xs ys (i+1) (w (c+stC m l x y i)) (w (st+1)) (if 3<=x.Kind then seen++[Jx l y i]else seen)
 |_,_,_,c,st,seen=>(true,c,st,seen)
def Ug(nl:Bool)(s:Zb):Bool×Int×Int×List Zg->XR
 |(false,c,st,seen)=>(.tup [.agg [Bo false,I c,I st,L 3 (seen.map Zg.c),L 1 (([]:WA).map ic),L 1 (([]:XS).map isc)],Bo true],[])
 |(true,c,st,seen)=>(.tup [.agg [Bo true,I c,I st,L 3 (seen.map Zg.c),L 1 (s.Vars.map ic),L 1 ((W9 s.Rows).map isc)],Bo true],[])
theorem Vf:W9 []=[]:=by simp[W9,VW,Wj]
theorem Zd7{m:Zm}(hm:LeM m)(k:Int):Le (mOp m k).Steps:=by
 obtain⟨h1,h2,h3,h4,h5⟩:=hm;unfold mOp;split
 .exact h1
 .split
  .exact h2
  .split
   .exact h3
   .split
    .exact h4
    .exact h5
theorem Z18{m:Zm}(h:X8 m)(k:Int):Xi (mOp m k)=true:=by
 obtain⟨h1,h2,h3,h4,h5⟩:=h;unfold mOp;split
 .exact h1.1
 .split
  .exact h2.1
  .split
   .exact h3.1
   .split
    .exact h4.1
    .exact h5.1
theorem ru_in{n:Nat}(h:n<=4096):inR (XI (n:Int)) 0 4096=true:=by
 unfold XI X0;rw[Yb (by omega)]
 repeat' split
 all_goals first|decide|omega
theorem cls_in{k:Nat}(h:k<=7):inR (Z5 (k:Int)) 0 4096=true:=by
 have:∀k:Fin 8,inR (Z5 (k.1:Int)) 0 4096=true:=by decide
 exact this ⟨k,by omega⟩
theorem opc_eq{o:Zr}(h:Xi o=true){l r n:Int}(hl:inR l 0 4096=true)(hr:inR r 0 4096=true)(hn:inR n 0 4096=true):Zdi o l r n=X7 o l r n:=by
 unfold X7;rw[Ya (by rw[h,hl,hr,hn];rfl)]
theorem Z19{o:Zr}{l r b:Int}{k:Nat}(h:k<8):Jw o l r b k=if b<X7 o l r (Z5 k)then(k:Int)else Jw o l r b (k+1):=by
 unfold Jw;rw[show 8-k=(8-(k+1))+1 by omega,Ycl,List.find?_cons];by_cases e:b<X7 o l r (Z5 k)
 .rw[Ya e];simp[e]
 .rw[Yb e];simp[e]
theorem ZC0{o:Zr}(hs:Le o.Steps)(hv:Xi o=true){l r b:Int}(hl:inR l 0 4096=true)(hr:inR r 0 4096=true):∀k:Nat,k<=8->Zf0 o l r b k=some (I (Jw o l r b k),[]):=by
 refine down 8 ?_ ?_
 .refine Zy2 _ _ _ _ _ _ ?_;rw[Yb (by decide)];rfl
 .intro k hk ih;refine Zy2 _ _ _ _ _ _ ?_;rw[Ya (by omega),wS hk (by omega),Z19 hk];refine⟨_,Qx _,_,Z9H o hs _ _ _,?_⟩;rw[opc_eq hv hl hr (cls_in (by omega))];by_cases e:b<X7 o l r (Z5 k)
  .rw[Yb (by omega),Ya e]
  .rw[Ya (by omega),Yb e];exact ih
theorem Z1A{o:Zr}(hs:Le o.Steps)(hv:Xi o=true){l r b:Int}(hl:inR l 0 4096=true)(hr:inR r 0 4096=true):X1 o l r b=some (I (Jw o l r b 0),[]) :=
 Z82 _ _ _ _ _ (ZC0 hs hv hl hr 0 (by omega))
theorem ZC1{m:Zm}(hm:LeM m)(kd:Int){l r b:Int}:∀k:Nat,k<=8->ZfP m kd l r b k=some (I (Jw (mOp m kd) l r b k),[]):=by
 refine down 8 ?_ ?_
 .refine Zzh _ _ _ _ _ _ _ ?_;rw[Yb (by decide)];rfl
 .intro k hk ih;refine Zzh _ _ _ _ _ _ _ ?_;rw[Ya (by omega),wS hk (by omega),Z19 hk];refine⟨_,Zjn m kd,_,Qy _,_,Zdj _ (Zd7 hm kd) _ _ _,?_⟩;by_cases e:b<X7 (mOp m kd) l r (Z5 k)
  .rw[Yb (by omega),Ya e]
  .rw[Ya (by omega),Yb e];exact ih
theorem ZjX{m:Zm}(hm:LeM m)(ha:X8 m){kd:Int}(hk:inR kd 1 5=true){l r b:Int}(hl:inR l 0 4096=true)(hr:inR r 0 4096=true):UU m kd l r b=some (I (Jw (mOp m kd) l r b 0),[]):=by
 refine Z9i _ _ _ _ _ _ ⟨_,Zjo m hm,?_⟩;rw[Ya (by simpa using ha)];refine⟨_,XD _ _ _,?_⟩;rw[hk,Ya rfl];refine⟨_,XD _ _ _,?_⟩;rw[hl,Ya rfl];refine⟨_,XD _ _ _,?_⟩;rw[hr,Ya rfl];exact ZC1 hm kd 0 (by omega)
structure VN (q:Ze) (p:Zo) (info:List Za) (l:List Zb):Prop where
 P:PI q p info
 G:GSs q info l
 len:l.length=p.Steps.length
section
variable{q:Ze}{p:Zo}{info:List Za}{l:List Zb}(R:VN q p info l)
include R
theorem VN.n4096(i:Int):(l.getD i.toNat ⟨[],[]⟩).Rows.length<=4096:=by
 by_cases h:i.toNat<l.length
 .obtain⟨y,_,g⟩:=R.G _ _ (U5 h);have:=g.len;have:=Zj4 y.Mask;omega
 .rw[Y5,Yb2 (by omega)];simp
theorem VN.ru(i:Int):inR (ruS l i) 0 4096=true:=ru_in (R.n4096 i)
theorem VN.at_{i:Nat}(hi:i<p.Steps.length):∃x y,p.Steps[i]?=some x/\info[i]?=some y/\p.Steps[i]=x/\(1<=x.Kind/\x.Kind<=5)/\(0<=y.Right↔3<=x.Kind)/\(0<=y.Right->0<=y.Left)/\(0<=y.Left->y.Left.toNat<i)/\(0<=y.Right->y.Right.toNat<i):=by
 have hl:=R.P.val.2.1;have hx:p.Steps[i]?=some p.Steps[i]:=Yi hi;have hy:info[i]?=some info[i]:=Yi (by omega);have F:=Zd0 R.P.eq i _ _ hy hx;refine⟨_,_,hx,hy,rfl,?_⟩;generalize p.Steps[i]=x at *
 generalize info[i]=y at *
 have hlt:∀{s:Int} {u:Za},(info.take i)[s.toNat]?=some u->s.toNat<i:=by
  intro s u h;rw[Ybh]at h;split at h
  .assumption
  .cases h
 by_cases k1:x.Kind=1
 .obtain⟨-,rfl⟩:=F.scan k1;refine⟨by omega,?_,?_,?_,?_⟩<;>simp<;>omega
 .by_cases k2:x.Kind=2
  .obtain⟨s,u,f1,f2,-,rfl⟩:=F.sort k2;have:=hlt f2;refine⟨by omega,?_,?_,?_,?_⟩<;>simp<;>omega
  .obtain⟨s,u,t,z,o,f1,f2,f3,f4,-,rfl,f6⟩:=F.join k1 k2;have h1:=hlt f2;have h2:=hlt f4;have k3:3<=x.Kind/\x.Kind<=5:=by rcases f6 with⟨k,_⟩|⟨k,_⟩|⟨k,_⟩<;>omega
   refine⟨by omega,?_,?_,?_,?_⟩<;>simp<;>omega
theorem VN.lf{y:Za}(i:Nat):inR (lfC l y i) 0 4096=true:=by unfold lfC;split<;>exact R.ru _
theorem VN.rt{y:Za}:inR (rtC l y) 0 4096=true:=by
 unfold rtC;split
 .exact R.ru _
 .decide
theorem ZqE{i:Nat}{x:Zj}{y:Za}(hi:i<p.Steps.length)(hy:info[i]?=some y)(hL:0<=y.Left->y.Left.toNat<i)(hR:0<=y.Right->y.Right.toNat<i)(c:0<=y.Right->0<=y.Left):QV info l i=some (.tup [I (lfC l y i),I (rtC l y),I (ruS l i)],[]):=by
 have hl:=R.len;have h0:l[(i:Int).toNat]?=some (l.getD (i:Int).toNat ⟨[],[]⟩):=U5 (by omega);refine Z8y _ _ _ _ ⟨by omega,_,h0,_,Zbj _,y,by rw[Yf];exact hy,?_⟩;unfold lfC rtC;by_cases h1:0<=y.Left
 .rw[Ya h1,Ya h1];refine⟨_,U5 (by have:=hL h1;omega),_,Zbj _,?_⟩;by_cases h2:0<=y.Right
  .rw[Ya h2,Ya h2];exact⟨_,U5 (by have:=hR h2;omega),_,Zbj _,rfl⟩
  .rw[Yb h2,Yb h2];rfl
 .have h2:¬0<=y.Right:=λh=>h1 (c h)
  rw[Yb h1,Yb h1,Yb h2,Yb h2];rfl
theorem Z1B{m:Zm}(hm:LeM m){i:Nat}{x:Zj}{y:Za}(hi:i<p.Steps.length)(hx:p.Steps[i]?=some x)(hy:info[i]?=some y)(hk:1<=x.Kind/\x.Kind<=5)(hL:0<=y.Left->y.Left.toNat<i)(hR:0<=y.Right->y.Right.toNat<i)(c:0<=y.Right->0<=y.Left):Za6 m p info l i=some (I (stC m l x y i),[]):=by
 refine Z83 ⟨_,_,_,ZqE R (x:=x) hi hy hL hR c,ZjW m,by omega,x,by rw[Yf];exact hx,?_⟩;unfold stC mOp;rw[wA (by omega) (by omega)];obtain⟨a1,a2,a3,a4,a5⟩:=hm;by_cases h1:x.Kind=1
 .rw[Ya (by omega),Ya h1];exact⟨_,ZaX _ a1 _ _ _,rfl⟩
 .rw[Yb (by omega),Yb h1];by_cases h2:x.Kind=2
  .rw[Ya (by omega),Ya h2];exact⟨_,ZaX _ a2 _ _ _,rfl⟩
  .rw[Yb (by omega),Yb h2];by_cases h3:x.Kind=3
   .rw[Ya (by omega),Ya h3];exact⟨_,ZaX _ a3 _ _ _,rfl⟩
   .rw[Yb (by omega),Yb h3];by_cases h4:x.Kind=4
    .rw[Ya (by omega),Ya h4];exact⟨_,ZaX _ a4 _ _ _,rfl⟩
    .rw[Yb (by omega),Yb h4,Ya (by omega)];exact⟨_,ZaX _ a5 _ _ _,rfl⟩
theorem Z1C{m:Zm}{bud:Int}{i:Nat}{x:Zj}{y:Za}(hi:i<p.Steps.length)(hx:p.Steps[i]?=some x)(hy:info[i]?=some y)(c st:Int)(cc:List Zg) :
  runF m l bud (p.Steps.drop i) (info.drop i) i c st cc=if w (bud-c)<stC m l x y i then(false,bud,st,if 3<=x.Kind then cc++[WD m l x y (w (bud-c))]else cc)else runF m l bud (p.Steps.drop (i+1)) (info.drop (i+1)) (i+1) (w (c+stC m l x y i)) (w (st+1)) (if 3<=x.Kind then cc++[Jx l y i]else cc):=by
 have hl:=R.P.val.2.1;have hx':p.Steps[i]=x:=by rw[Yi hi]at hx;exact Yb8 hx
 have hy':info[i]'(by omega)=y:=by rw[Yi (by omega)]at hy;exact Yb8 hy
 rw[Yj hi,Yj (show i<info.length by omega),hx',hy',runF]
omit R in
theorem Z1D{m:Zm}{bud:Int}(c st:Int)(cc:List Zg):runF m l bud (p.Steps.drop p.Steps.length) (info.drop p.Steps.length) p.Steps.length c st cc=(true,c,st,cc):=by rw[Yp];rfl
theorem VN.last:l[((p.Steps.length-1:Nat):Int).toNat]?=some (l.getD (p.Steps.length-1) ⟨[],[]⟩)/\VS (l.getD (p.Steps.length-1) ⟨[],[]⟩):=by
 have h:=R.P.val;have hl:=R.len;have h1:l[((p.Steps.length-1:Nat):Int).toNat]?=some (l.getD ((p.Steps.length-1:Nat):Int).toNat ⟨[],[]⟩):=U5 (by omega);rw[Yf]at h1|-;obtain⟨y,_,g⟩:=R.G _ _ h1;exact⟨h1,g.vs h.1⟩
end
section
variable{q:Ze}{p:Zo}{info:List Za}{l:List Zb}(R:VN q p info l){m:Zm}(hm:LeM m)(ha:X8 m)(fr:Bool)(bud:Int)
include R hm ha
omit R hm ha in
theorem Vg{i:Nat}{k:Int}(hi:i<l.length)(h0:0<=k)(hk:k.toNat<=i):((l.take i).map (λs:Zb=>(s.Rows.length:Int))++[((l.getD i ⟨[],[]⟩).Rows.length:Int)])[k.toNat]?=some ((l.getD k.toNat ⟨[],[]⟩).Rows.length:Int):=by
 have e:(l.take i).map (λs:Zb=>(s.Rows.length:Int))++[((l.getD i ⟨[],[]⟩).Rows.length:Int)]=(l.take (i+1)).map λs:Zb=>(s.Rows.length:Int):=by
  rw[Yb0 hi,Ybn,Y5,Yi hi];rfl
 rw[e,Ych,Ybh,Ya (by omega),U5 (by omega)];rfl
omit ha in
theorem ZjY{i:Nat}{x:Zj}{y:Za}(hi:i<p.Steps.length)(hx:p.Steps[i]?=some x)(hy:info[i]?=some y)(hL:0<=y.Left->y.Left.toNat<i)(hR:0<=y.Right->y.Right.toNat<i)(c:0<=y.Right->0<=y.Left):UT m p info ((l.take i).map (λs:Zb=>(s.Rows.length:Int))++[((l.getD i ⟨[],[]⟩).Rows.length:Int)]) i=some (I (stC m l x y i),[]):=by
 have hl:=R.len;have ru:∀k:Int,Xm ((l.getD k.toNat ⟨[],[]⟩).Rows.length:Int)=some (I (ruS l k),[]):=λk=>Zbl _ (by have:=R.n4096 k;omega)
 have h0:=Vg (l:=l) (i:=i) (k:=(i:Int)) (by omega) (by omega) (by omega);refine Z9h _ _ _ _ _ _ ⟨by omega,x,by rw[Yf];exact hx,_,Zjn m x.Kind,y,by rw[Yf];exact hy,?_⟩;unfold stC lfC rtC;by_cases h1:0<=y.Left
 .rw[Yb (by omega),Ya h1];have hk:=hL h1;by_cases h2:0<=y.Right
  .have hk2:=hR h2;rw[Yb (by omega),Ya h2];exact⟨h1,_,Vg (l:=l) (by omega) h1 (by omega),_,ru y.Left,h2,_,Vg (l:=l) (by omega) h2 (by omega),_,ru y.Right,_,h0,_,ru i,_,Zdj _ (Zd7 hm x.Kind) _ _ _,rfl⟩
  .rw[Ya (by omega),Yb h2];exact⟨h1,_,Vg (l:=l) (by omega) h1 (by omega),_,ru y.Left,_,h0,_,ru i,_,Zdj _ (Zd7 hm x.Kind) _ _ _,rfl⟩
 .have h2:¬0<=y.Right:=λh=>h1 (c h)
  rw[Ya (by omega),Yb h1,Yb h2];exact⟨_,h0,_,ru i,_,Zdj _ (Zd7 hm x.Kind) _ _ _,rfl⟩
omit R hm ha in
theorem Zd8{i:Nat}(hi:i<l.length):(l.take i).map (λs:Zb=>(s.Rows.length:Int))++[((l.getD i ⟨[],[]⟩).Rows.length:Int)]=(l.take (i+1)).map λs:Zb=>(s.Rows.length:Int):=by
 rw[Yb0 hi,Ybn,Y5,Yi hi];rfl
theorem ZC2:∀i,i<=p.Steps.length->∀(c st:Int) (cc:List Zg),cc≠[]->cc.length<=i->KY m p false 0 0 l info ((l.take i).map λs:Zb=>(s.Rows.length:Int)) false c st cc bud i=some (Ug true (l.getD (p.Steps.length-1) ⟨[],[]⟩) (runF m l bud (p.Steps.drop i) (info.drop i) i c st cc)):=by
 have hv:=R.P.val;have hl:=R.len;refine down _ ?_ ?_
 .intro c st cc h0 hs;obtain⟨e1,e2⟩:=R.last;have hA:=ZjV e2;refine Zzr ?_;rw[Yb (by omega),Z1D,hl,show w ((p.Steps.length:Int)-1)=((p.Steps.length-1:Nat):Int) by rw[wA (by omega) (by omega)];omega];refine⟨by omega,_,e1,?_⟩;unfold Zd5 at hA;by_cases e:(l.getD (p.Steps.length-1) ⟨[],[]⟩).Rows=[]
  .rw[Ya e]at hA;refine .inr (.inl ⟨_,hA,?_⟩);simp[Ug,e,Vf,Vf,h0,-List.getD_eq_getElem?_getD]
  .rw[Yb e]at hA;refine .inr (.inr ⟨_,_,hA,?_⟩);simp[Ug,e,Vf,Vf,h0,-List.getD_eq_getElem?_getD]
 .intro i hi ih c st cc h0 hs;obtain⟨x,y,hx,hy,hxi,k15,kr,krl,hL,hR⟩:=R.at_ hi;have hnl:((l.take i).map λs:Zb=>(s.Rows.length:Int)).length<=14:=by simp;omega
  have ru:∀k:Int,Xm ((l.getD k.toNat ⟨[],[]⟩).Rows.length:Int)=some (I (ruS l k),[]):=λk=>Zbl _ (by have:=R.n4096 k;omega)
  refine Zzr ?_;rw[Ya (by omega),Z1C R hi hx hy,wS hi (by omega)];refine⟨by omega,_,U5 (by omega),by omega,?_⟩;rw[Yf];refine⟨_,ZjY R hm hi hx hy hL hR krl,?_⟩;by_cases hc:w (bud-c)<stC m l x y i
  .rw[Ya hc,Ya hc];refine⟨y,hy,?_⟩;by_cases h3:3<=x.Kind
   .have h5:0<=y.Right:=kr.2 h3;have h6:=krl h5;rw[Ya h5,Ya h3];refine⟨x,hx,h6,_,Vg (l:=l) (by omega) h6 (by have:=hL h6;omega),_,ru y.Left,_,Vg (l:=l) (by omega) h5 (by have:=hR h5;omega),_,ru y.Right,_,ZjX hm ha (by simp[inR];omega) (R.ru _) (R.ru _),by omega,?_⟩;simp[Ug,WD]
   .rw[Yb (λh=>h3 (kr.1 h)),Yb h3];simp[Ug,h0]
  .rw[Yb hc,Yb hc];refine⟨y,hy,?_⟩;rw[Zd8 (by omega)];by_cases h3:3<=x.Kind
   .rw[Ya (kr.2 h3),Ya h3];have hg:=Vg (l:=l) (i:=i) (k:=(i:Int)) (by omega) (by omega) (by omega);rw[Yf,Zd8 (by omega)]at hg;refine⟨_,hg,_,Zbk _ (by have:=R.n4096 i;rw[Yf]at this;omega),by omega,?_⟩;exact ih _ _ (cc++[Jx l y i]) (by simp) (by simp;omega)
   .rw[Yb (λh=>h3 (kr.1 h)),Yb h3];exact ih _ _ cc h0 (by omega)
theorem ZC3:∀i,i<=p.Steps.length->∀(c st:Int),ZaR m p false 0 0 l info ((l.take i).map λs:Zb=>(s.Rows.length:Int)) false c st bud i=some (Ug true (l.getD (p.Steps.length-1) ⟨[],[]⟩) (runF m l bud (p.Steps.drop i) (info.drop i) i c st [])):=by
 have hv:=R.P.val;have hl:=R.len;refine down _ ?_ ?_
 .intro c st;obtain⟨e1,e2⟩:=R.last;have hA:=ZjV e2;refine Zzq ?_;rw[Yb (by omega),Z1D,hl,show w ((p.Steps.length:Int)-1)=((p.Steps.length-1:Nat):Int) by rw[wA (by omega) (by omega)];omega];refine⟨by omega,_,e1,?_⟩;unfold Zd5 at hA;by_cases e:(l.getD (p.Steps.length-1) ⟨[],[]⟩).Rows=[]
  .rw[Ya e]at hA;refine .inr (.inl ⟨_,hA,?_⟩);simp[Ug,e,Vf,Vf,-List.getD_eq_getElem?_getD]
  .rw[Yb e]at hA;refine .inr (.inr ⟨_,_,hA,?_⟩);simp[Ug,e,Vf,Vf,-List.getD_eq_getElem?_getD]
 .intro i hi ih c st;obtain⟨x,y,hx,hy,hxi,k15,kr,krl,hL,hR⟩:=R.at_ hi;have hnl:((l.take i).map λs:Zb=>(s.Rows.length:Int)).length<=14:=by simp;omega
  have ru:∀k:Int,Xm ((l.getD k.toNat ⟨[],[]⟩).Rows.length:Int)=some (I (ruS l k),[]):=λk=>Zbl _ (by have:=R.n4096 k;omega)
  refine Zzq ?_;rw[Ya (by omega),Z1C R hi hx hy,wS hi (by omega)];refine⟨by omega,_,U5 (by omega),by omega,?_⟩;rw[Yf];refine⟨_,ZjY R hm hi hx hy hL hR krl,?_⟩;by_cases hc:w (bud-c)<stC m l x y i
  .rw[Ya hc,Ya hc];refine⟨y,hy,?_⟩;by_cases h3:3<=x.Kind
   .have h5:0<=y.Right:=kr.2 h3;have h6:=krl h5;rw[Ya h5,Ya h3];refine⟨x,hx,h6,_,Vg (l:=l) (by omega) h6 (by have:=hL h6;omega),_,ru y.Left,_,Vg (l:=l) (by omega) h5 (by have:=hR h5;omega),_,ru y.Right,_,ZjX hm ha (by simp[inR];omega) (R.ru _) (R.ru _),?_⟩;simp[Ug,WD]
   .rw[Yb (λh=>h3 (kr.1 h)),Yb h3];simp[Ug]
  .rw[Yb hc,Yb hc];refine⟨y,hy,?_⟩;rw[Zd8 (by omega)];by_cases h3:3<=x.Kind
   .rw[Ya (kr.2 h3),Ya h3];have hg:=Vg (l:=l) (i:=i) (k:=(i:Int)) (by omega) (by omega) (by omega);rw[Yf,Zd8 (by omega)]at hg;refine⟨_,hg,_,Zbk _ (by have:=R.n4096 i;rw[Yf]at this;omega),?_⟩;exact ZC2 R hm ha bud (i+1) hi _ _ [Jx l y i] (by simp) (by simp)
   .rw[Yb (λh=>h3 (kr.1 h)),Yb h3];exact ih _ _
end
open Classical in
noncomputable def rwbF(m:Zm)(d:Zn)(q:Ze)(p:Zo)(bud:Int):Option (Zb×(Bool×Int×Int×List Zg)) :=
 match Xr q.Zk q.Atoms p.Steps with
 |none=>none
 |some info=>if Z6 d q=true/\X8 m/\inR bud 0 1000000000000=true then some ((XN d q p.Steps info).getD (p.Steps.length-1) ⟨[],[]⟩,runF m (XN d q p.Steps info) bud p.Steps info 0 0 0 [])else none
def noRun:XR:=(.tup [.agg [Bo false,I 0,I 0,L 3 (([]:List Zg).map Zg.c),L 1 (([]:WA).map ic),L 1 (([]:XS).map isc)],Bo false],[])
def rwbR(nl:Bool):Option (Zb×(Bool×Int×Int×List Zg))->XR
 |none=>noRun
 |some (s,r)=>Ug nl s r
theorem ZC4{m:Zm}(hm:LeM m){d:Zn}(hd:LeD d){q:Ze}(hq:LeQ q)(p:Zo)(bud:Int):Zgb m d q p bud=some (rwbR true (rwbF m d q p bud)):=by
 unfold rwbF
 cases e:Xr q.Zk q.Atoms p.Steps with
 |none =>
  obtain⟨info,hx⟩:=ZjS hd hq (p:=p) (.inl e);refine ZpC _ _ _ _ _ _ ⟨_,_,_,hx,?_⟩
  rw[Yb (by decide)];rfl
 |some info =>
  dsimp only;have P:PI q p info:=⟨e⟩;by_cases h:Z6 d q=true
  .have hx:=Z1q hd hq h P;have hg:=Zd4 h P;have R:VN q p info (XN d q p.Steps info):=⟨P,hg.1,hg.2⟩;refine ZpC _ _ _ _ _ _ ⟨_,_,_,hx,?_⟩;rw[Ya rfl];refine⟨_,Zjo m hm,?_⟩;by_cases ha:X8 m
   .rw[Ya (by simpa using ha)];refine⟨_,XD _ _ _,?_⟩;rcases tf (inR bud 0 1000000000000)with hb|hb
    .rw[hb,Yb (by decide),Yb (by simp)];rfl
    .rw[hb,Ya rfl,Ya ⟨h,ha,rfl⟩];have:=ZC3 R hm ha bud 0 (Yd _) 0 0;simpa[rwbR]using this
   .rw[Yb (by simpa using ha),Yb (λhh=>ha hh.2.1)];rfl
  .obtain⟨info',hx⟩:=ZjS hd hq (p:=p) (.inr (by simpa using h));rw[Yb (λhh=>h hh.1)];refine ZpC _ _ _ _ _ _ ⟨_,_,_,hx,?_⟩;rw[Yb (by decide)];rfl
def kpF(x:Zd):Bool->List Zd->List Zd
 |true,[]=>[]
 |false,[]=>[x]
 |true,e::es=>if e.Mask=x.Mask then kpF x true es else e::kpF x true es
 |false,e::es=>if x.Mask<=e.Mask then(if e.Mask=x.Mask then x::kpF x true es else x::e::kpF x true es)else(if e.Mask=x.Mask then kpF x false es else e::kpF x false es)
def kp(x:Zd)(l:List Zd):List Zd:=kpF x false l
theorem ZqF(x:Zd):∀(b:Bool) (l:List Zd),(kpF x b l).length<=l.length+1
 |true,[]=>by simp[kpF]
 |false,[]=>by simp[kpF]
 |true,e::es=>by
  have:=ZqF x true es;have h2:(kpF x true es).length<=es.length:=by
   clear this
   induction es with
   |nil=>simp[kpF]
   |cons e es ih=>unfold kpF;split<;>simp<;>omega
  unfold kpF;split<;>simp<;>omega
 |false,e::es=>by
  have h1:=ZqF x false es;have h2:(kpF x true es).length<=es.length:=by
   clear h1
   induction es with
   |nil=>simp[kpF]
   |cons e es ih=>unfold kpF;split<;>simp<;>omega
  unfold kpF;split<;>split<;>simp<;>omega
theorem Z1E(x:Zd)(b:Bool){l:List Zd}{i:Nat}(hi:i<l.length):kpF x b (l.drop i)=match b with
  |true=>if l[i].Mask=x.Mask then kpF x true (l.drop (i+1))else l[i]::kpF x true (l.drop (i+1))
  |false=>if x.Mask<=l[i].Mask then(if l[i].Mask=x.Mask then x::kpF x true (l.drop (i+1))else x::l[i]::kpF x true (l.drop (i+1)))else(if l[i].Mask=x.Mask then kpF x false (l.drop (i+1))else l[i]::kpF x false (l.drop (i+1))):=by
 rw[Yj hi];cases b<;>rw[kpF]
theorem Q3{α:Type}(a:List α)(x:α)(b:List α):a++x::b=(a++[x])++b:=by simp
theorem ZC5(x:Zd)(l:List Zd)(hl:l.length<=1000):∀i,i<=l.length->∀(cc:List Zd) (b:Bool),cc.length<=2*i->Qr x cc b l l.length i=some (.own 0,[.arr 52 2 true ((cc++kpF x b (l.drop i)).map Zd.c)]):=by
 refine down _ ?_ ?_
 .intro cc b ho;refine Zy3 _ _ _ _ _ _ _ ?_;rw[Yb (by omega),Yp];cases b
  .rw[Yb (by simp)];exact⟨by omega,by simp[kpF]⟩
  .rw[Ya rfl];simp[kpF]
 .intro i hi ih cc b ho;refine Zy3 _ _ _ _ _ _ _ ?_;rw[Ya (by omega),wS hi (by omega)];refine⟨by omega,_,Yi (by rw[Yf];exact hi),?_⟩;simp only[Yf];rw[Z1E x b hi];cases b
  .rw[if_neg (by simp)];dsimp only;by_cases h1:x.Mask<=l[i].Mask
   .rw[Ya h1,Ya h1];refine⟨by omega,?_⟩;by_cases h2:l[i].Mask=x.Mask
    .rw[Ya h2,Ya h2,Q3 cc x (kpF _ _ _)];exact ih _ _ (by simp;omega)
    .rw[Yb h2,Yb h2,Q3 cc x (l[i]::kpF _ _ _),Q3 (cc++[x]) l[i] (kpF _ _ _)];exact⟨by omega,ih _ _ (by simp;omega)⟩
   .rw[Yb h1,Yb h1];by_cases h2:l[i].Mask=x.Mask
    .rw[Ya h2,Ya h2];exact ih _ _ (by omega)
    .rw[Yb h2,Yb h2,Q3 cc l[i] (kpF _ _ _)];exact⟨by omega,ih _ _ (by simp;omega)⟩
  .rw[if_pos rfl];dsimp only;by_cases h2:l[i].Mask=x.Mask
   .rw[Ya h2,Ya h2];exact ih _ _ (by omega)
   .rw[Yb h2,Yb h2,Q3 cc l[i] (kpF _ _ _)];exact⟨by omega,ih _ _ (by simp;omega)⟩
theorem ZC6(x:Zd)(l:List Zd)(hl:l.length<=1000):∀i,i<=l.length->∀(cc:List Zd) (b:Bool),cc.length<=2*i->Qo x cc l b i=some (.own 0,[.arr 52 2 true ((cc++kpF x b (l.drop i)).map Zd.c)]):=by
 refine down _ ?_ ?_
 .intro cc b ho;refine Zx1 _ _ _ _ _ _ ?_;rw[Yb (by omega),Yp];cases b
  .rw[Yb (by simp)];exact⟨by omega,by simp[kpF]⟩
  .rw[Ya rfl];simp[kpF]
 .intro i hi ih cc b ho;refine Zx1 _ _ _ _ _ _ ?_;rw[Ya (by omega),wS hi (by omega),Z1E x b hi];cases b
  .rw[Yb (by simp)];refine⟨by omega,_,Yi (by rw[Yf];exact hi),?_⟩;simp only[Yf];by_cases h1:x.Mask<=l[i].Mask
   .rw[Ya h1,Ya h1];refine⟨by omega,?_⟩;by_cases h2:l[i].Mask=x.Mask
    .rw[Ya h2,Ya h2,Q3 cc x (kpF _ _ _)];exact ih _ _ (by simp;omega)
    .rw[Yb h2,Yb h2,Q3 cc x (l[i]::kpF _ _ _),Q3 (cc++[x]) l[i] (kpF _ _ _)];exact⟨by omega,ih _ _ (by simp;omega)⟩
   .rw[Yb h1,Yb h1];by_cases h2:l[i].Mask=x.Mask
    .rw[Ya h2,Ya h2];exact ih _ _ (by omega)
    .rw[Yb h2,Yb h2,Q3 cc l[i] (kpF _ _ _)];exact⟨by omega,ih _ _ (by simp;omega)⟩
  .rw[Ya rfl];refine⟨by omega,_,Yi (by rw[Yf];exact hi),?_⟩;simp only[Yf];by_cases h2:l[i].Mask=x.Mask
   .rw[Ya h2,Ya h2];exact ih _ _ (by omega)
   .rw[Yb h2,Yb h2,Q3 cc l[i] (kpF _ _ _)];exact⟨by omega,ih _ _ (by simp;omega)⟩
theorem ZjZ(l:List Zd)(x:Zd)(hl:l.length<=1000):UL l x=some (.own 0,[.arr 52 2 true ((kp x l).map Zd.c)]) :=
 Z84 _ _ _ (ZC5 x l hl 0 (Yd _) [] false (Yd _))
theorem Zd9(l:List Zd)(x:Zd)(hl:l.length<=1000):UG l x=some (.own 0,[.arr 52 2 true ((kp x l).map Zd.c)]) :=
 Z7o _ _ _ (ZC6 x l hl 0 (Yd _) [] false (Yd _))
theorem ZC7{info:List Za}(h:lw info)(js:WA)(hj:inI info js)(hl:js.length<=1000)(i:Int):∀n,n<=js.length->Zfz js info i js.length n=some (I (ZM (XG info i) (js.drop n) n),[]):=by
 refine down _ ?_ ?_
 .refine Zy1 _ _ _ _ _ _ ?_;rw[Yb (by omega),Yp];rfl
 .intro n hn ih;have h5:=ZL (i:=n) (by omega);obtain⟨g1,g2⟩:=hj _ (Yh hn);refine Zy1 _ _ _ _ _ _ ?_;rw[Ya (by omega)];refine⟨by omega,_,Yi hn,_,Z8z _ _ _ _ ⟨_,Z14 h i g1 g2,rfl⟩,?_⟩;rw[Kz _ hn];split
  .rfl
  .rw[show w ((n:Int)+1)=((n+1:Nat):Int)from h5];exact ih
theorem Z1F{info:List Za}(h:lw info)(js:WA)(hj:inI info js)(hl:js.length<=1000)(i:Int):Za7 js info i=some (Bo (js.any (XG info i)),[]):=by
 have q:=ZC7 h js hj hl i 0 (Yd _);refine Z81 _ _ _ _ ⟨_,Z80 _ _ _ _ q,?_⟩;rw[Yo];rcases tf (js.any (XG info i))with e|e
 .rw[Zef _ _ _ e,e];rfl
 .have:=Zhk _ _ 0 e;rw[e];simp[this]
theorem ZC8{info:List Za}(h:lw info)(hi:info.length<=1000)(js:WA)(hj:inI info js)(hl:js.length<=1000)(i:Int):∀n,n<=js.length->ZfO info js i n=some (Bo ((js.drop n).any (XG info i)),[]):=by
 refine down _ ?_ ?_
 .refine Zzg _ _ _ _ _ ?_;rw[Yb (by omega),Yp];rfl
 .intro n hn ih;obtain⟨g1,g2⟩:=hj _ (Yh hn);refine Zzg _ _ _ _ _ ?_;rw[Ya (by omega),wS hn (by omega)];refine⟨by omega,_,Yi hn,_,Z13 h g1 g2,_,XD _ _ _,?_⟩;rw[wA (by omega) (by omega),Yj hn,Ydk];have e:inR i (first info js[n]) (js[n]-1)=XG info i js[n]:=by
   unfold inR XG;by_cases a:i<js[n]<;>by_cases b:first info js[n]<=i<;>simp[a,b]<;>omega
  rw[e];cases XG info i js[n]
  .rw[Yb (by simp)];simpa using ih
  .rw[Ya rfl];rfl
theorem Z1G{info:List Za}(h:lw info)(hi:info.length<=1000)(js:WA)(hj:inI info js)(hl:js.length<=1000)(i:Int):ZaO info js i=some (Bo (js.any (XG info i)),[]) :=
 Z9g _ _ _ _ (by have:=ZC8 h hi js hj hl i 0 (Yd _);rwa [Yo]at this)
def ZdA(l:List Zd):Prop:=l.Pairwise λa b=>a.Mask<b.Mask
theorem kpT(x:Zd):∀l:List Zd,kpF x true l=l.filter λe=>decide (e.Mask≠x.Mask)
 |[]=>rfl
 |e::es=>by
  unfold kpF;rw[Ycc,kpT x es];by_cases h:e.Mask=x.Mask<;>simp[h]
theorem ZqG(x:Zd):∀l:List Zd,ZdA l->ZdA (kpF x false l)/\(∀y:Int,y<x.Mask->(∀e∈l,y<e.Mask)->∀e∈kpF x false l,y<e.Mask)/\x∈kpF x false l
 |[],_=>by
  unfold kpF
  exact⟨List.pairwise_singleton _ _,λy h _ e he=>by simp at he;rw[he];exact h,by simp⟩
 |e::es,h=>by
  obtain⟨h1,h2⟩:=Y4.1 h;have hf:ZdA (es.filter λe=>decide (e.Mask≠x.Mask)):=h2.filter _;unfold kpF;by_cases c:x.Mask<=e.Mask
  .rw[Ya c];by_cases d:e.Mask=x.Mask
   .rw[Ya d,kpT];refine⟨Y4.2 ⟨λy hy=>by have:=h1 y (Y0.1 hy).1;omega,hf⟩,?_,by simp⟩;intro y hy hl z hz;rcases Yl.1 hz with hz|hz
    .rw[hz];exact hy
    .exact hl z (by simp[(Y0.1 hz).1])
   .rw[Yb d,kpT];refine⟨Y4.2 ⟨?_,Y4.2 ⟨λy hy=>h1 y (Y0.1 hy).1,hf⟩⟩,?_,by simp⟩
    .intro y hy;rcases Yl.1 hy with hy|hy
     .rw[hy];omega
     .have:=h1 y (Y0.1 hy).1;omega
    .intro y hy hl z hz;simp only[Yl]at hz;rcases hz with hz|hz|hz
     .rw[hz];exact hy
     .exact hl z (by simp[hz])
     .exact hl z (by simp[(Y0.1 hz).1])
  .rw[Yb c,Yb (by omega)];obtain⟨k1,k2,k3⟩:=ZqG x es h2;refine⟨Y4.2 ⟨λy hy=>k2 e.Mask (by omega) h1 y hy,k1⟩,?_,by simp[k3]⟩;intro y hy hl z hz;rcases Yl.1 hz with hz|hz
   .exact hl z (by simp[hz])
   .exact k2 y hy (λe he=>hl e (by simp[he])) z hz
theorem ZC9(a:WA)(ha:a.length<=1048576):∃(c:Zf) (m:Zm) (d:Zn) (q:Ze) (p:Zo),Ze9 a=some (.tup [.ptr 0 0,.agg (m.c.map .t),.agg (d.c.map .t),.agg (q.c.map .t),.agg (p.c.map .t)],[cB c])/\GC c/\SmM m/\(d.Tables.length<=5/\∀t∈d.Tables,Zbb t)/\LeQ q/\p.Steps.length<=57:=by
 obtain⟨c,e,g⟩:=ZAc a ha;obtain⟨c1,m,e1,g1,hm⟩:=Zz8 g;obtain⟨c2,b,e2,g2⟩:=U1 g1 10;rcases tf b with hb|hb
 .subst hb;obtain⟨c3,d,e3,g3,hd⟩:=ZzW g2;obtain⟨c4,q,p,e4,g4,hq,hp⟩:=ZzU g3;exact⟨c4,m,d,q,p,Zxm _ _ ⟨c,e,c1,m,e1,c2,false,e2,by rw[Yb (by simp)];exact⟨c3,d,e3,c4,q,p,e4,rfl⟩⟩,g4,hm,hd,hq,hp⟩
 .subst hb;obtain⟨c2',m',e2',g2',hm'⟩:=ZAr g2;obtain⟨c3,d,e3,g3,hd⟩:=ZzW g2';obtain⟨c4,q,p,e4,g4,hq,hp⟩:=ZzU g3;exact⟨c4,m',d,q,p,Zxm _ _ ⟨c,e,c1,m,e1,c2,true,e2,by rw[Ya rfl];exact⟨c2',m',e2',c3,d,e3,c4,q,p,e4,rfl⟩⟩,g4,hm',hd,hq,hp⟩
theorem ZqH(d:Zn)(hd:LeD d)(q:Ze)(hq:LeQ q):∀k:Nat,k<=100->∀c (l:List Zd),GC c->ZdA l->l.length+k<=100->∃(c':Zf) (l':List Zd),Zcd c d q l k=some (L 2 (l'.map Zd.c),[cB c'])/\GC c'/\ZdA l'/\l'.length<=100
 |0,_,c,l,g,h,hl=>⟨c,l,Zpw _ _ _ _ _ _ (by rw[Yb (by omega)]),g,h,by omega⟩
 |k+1,hk,c,l,g,h,hl=>by
  obtain⟨c1,m,e1,g1⟩:=ZAK g q;obtain⟨n,e2⟩:=ZzX d hd q hq m;obtain⟨c2,b,e3,g2⟩:=U1 g1 8;have hw:w (((k+1:Nat):Int)-1)=(k:Int):=by rw[XL (by omega) (by omega)];omega
  have hx:∀x:Zd,(kp x l).length<=l.length+1:=λx=>ZqF x false l
  rcases tf b with hb|hb
  .subst hb;obtain⟨c4,l',e4,g4,r⟩:=ZqH d hd q hq k (by omega) c2 (kp ⟨m,n⟩ l) g2 (ZqG _ l h).1 (by have:=hx ⟨m,n⟩;omega);exact⟨c4,l',Zpw _ _ _ _ _ _ (by rw[Ya (by omega)];exact⟨c1,m,e1,n,e2,c2,false,e3,by rw[Yb (by simp),hw];exact⟨_,Zd9 l _ (by omega),e4⟩⟩),g4,r⟩
  .subst hb;obtain⟨c3,n',e3',g3,_⟩:=ZAd g2 [(-1),0,3,4097] (by simp) (by simp);obtain⟨c4,l',e4,g4,r⟩:=ZqH d hd q hq k (by omega) c3 (kp ⟨m,n'⟩ l) g3 (ZqG _ l h).1 (by have:=hx ⟨m,n'⟩;omega);exact⟨c4,l',Zpw _ _ _ _ _ _ (by rw[Ya (by omega)];exact⟨c1,m,e1,n,e2,c2,true,e3,by rw[Ya rfl,hw];exact⟨c3,n',e3',_,Zd9 l _ (by omega),e4⟩⟩),g4,r⟩
theorem ZCA{c:Zf}(g:GC c)(d:Zn)(hd:LeD d)(q:Ze)(hq:LeQ q):∃(c':Zf) (l:List Zd),ZhL c d q=some (L 2 (l.map Zd.c),[cB c'])/\GC c'/\ZdA l/\l.length<=100:=by
 obtain⟨c1,k,e1,g1,k0,k1⟩:=ZZ g 4;have:=k1 (by omega);obtain⟨j,rfl⟩:∃j:Nat,k=j:=⟨k.toNat,by omega⟩;obtain⟨c2,l,e2,g2,r⟩:=ZqH d hd q hq j (by omega) c1 [] g1 .nil (by simp;omega);exact⟨c2,l,Z7p _ _ _ _ ⟨c1,j,e1,e2⟩,g2,r⟩
def Zz(l:List Zb)(i:Nat):Int:=((l.getD i ⟨[],[]⟩).Rows.length:Int)
def kpU(x:Zd)(l:List Zd):List Zd:=if((kp x l).length:Int)<=8 then kp x l else l
theorem Kn(x:Zd){l:List Zd}(h:l.length<=8):(kpU x l).length<=8:=by
 unfold kpU;split<;>omega
def coK(m:Zm)(l:List Zb)(rs:WA)(x:Zj)(y:Za)(i:Nat):Int:=if has rs i=true then WB m (Zz l i)else stC m l x y i
def Xf(m:Zm)(l:List Zb)(info:List Za)(rs:WA)(bud:Int):List Zj->List Za->Nat->Int->Int->List Zg->List Zd->Bool×Int×Int×List Zg×List Zd
 |x::xs,y::ys,i,c,st,seen,kl =>
  if rs.any (XG info i)=true then Xf m l info rs bud xs ys (i+1) c st seen kl
  else if w (bud-c)<coK m l rs x y i then(false,bud,st,(if 3<=x.Kind then(if has rs i=true then seen else seen++[WD m l x y (w (bud-c))])else seen),kl)
  else if 3<=x.Kind then Xf m l info rs bud xs ys (i+1) (w (c+coK m l rs x y i)) (w (st+1)) (seen++[Jx l y i]) (kpU ⟨y.Mask,Zz l i⟩ kl)
  else Xf m l info rs bud xs ys (i+1) (w (c+coK m l rs x y i)) (w (st+1)) seen kl
 |_,_,_,c,st,seen,kl=>(true,c,st,seen,kl)
def Xa(nl:Bool)(s:Zb):Bool×Int×Int×List Zg×List Zd->XR
 |(false,c,st,seen,kl)=>(.tup [.agg [Bo false,I c,I st,L 3 (seen.map Zg.c),L 1 (([]:WA).map ic),L 1 (([]:XS).map isc)],L 2 (kl.map Zd.c),Bo true],[])
 |(true,c,st,seen,kl)=>(.tup [.agg [Bo true,I c,I st,L 3 (seen.map Zg.c),L 1 (s.Vars.map ic),L 1 ((W9 s.Rows).map isc)],L 2 (kl.map Zd.c),Bo true],[])
section
variable{q:Ze}{p:Zo}{info:List Za}{l:List Zb}(R:VN q p info l){m:Zm}(hm:LeM m)(ha:X8 m)(fr:Bool)(bud:Int){rs:WA}(hr:inI info rs)(hrl:rs.length<=14)
include R
theorem Zka{i:Nat}{x:Zj}{y:Za}(hi:i<p.Steps.length)(hx:p.Steps[i]?=some x)(hy:info[i]?=some y)(c st:Int)(cc:List Zg)(kl:List Zd) :
  Xf m l info rs bud (p.Steps.drop i) (info.drop i) i c st cc kl=if rs.any (XG info i)=true then Xf m l info rs bud (p.Steps.drop (i+1)) (info.drop (i+1)) (i+1) c st cc kl
   else if w (bud-c)<coK m l rs x y i then(false,bud,st,(if 3<=x.Kind then(if has rs i=true then cc else cc++[WD m l x y (w (bud-c))])else cc),kl)
   else if 3<=x.Kind then Xf m l info rs bud (p.Steps.drop (i+1)) (info.drop (i+1)) (i+1) (w (c+coK m l rs x y i)) (w (st+1)) (cc++[Jx l y i]) (kpU ⟨y.Mask,Zz l i⟩ kl)
   else Xf m l info rs bud (p.Steps.drop (i+1)) (info.drop (i+1)) (i+1) (w (c+coK m l rs x y i)) (w (st+1)) cc kl:=by
 have hl:=R.P.val.2.1;have hx':p.Steps[i]=x:=by rw[Yi hi]at hx;exact Yb8 hx
 have hy':info[i]'(by omega)=y:=by rw[Yi (by omega)]at hy;exact Yb8 hy
 rw[Yj hi,Yj (show i<info.length by omega),hx',hy',Xf]
omit R in
theorem Zkb(c st:Int)(cc:List Zg)(kl:List Zd):Xf m l info rs bud (p.Steps.drop p.Steps.length) (info.drop p.Steps.length) p.Steps.length c st cc kl=(true,c,st,cc,kl):=by rw[Yp];rfl
include hm ha hr hrl
theorem Zkc:∀i,i<=p.Steps.length->∀(c st:Int) (cc:List Zg) (kl:List Zd),cc≠[]->cc.length<=i->kl.length<=8->X2 m p false 0 0 kl info fr l rs false c st cc bud p.Steps p.Steps.length i=some (Xa false (l.getD (p.Steps.length-1) ⟨[],[]⟩) (Xf m l info rs bud (p.Steps.drop i) (info.drop i) i c st cc kl)):=by
 have hv:=R.P.val;have hl:=R.len;have lf:=(Zd6 R.P.eq).1;refine down _ ?_ ?_
 .intro c st cc kl h0 hs hk;obtain⟨e1,e2⟩:=R.last;refine Zy5 ?_;rw[Yb (by omega),Zkb,hl,show w ((p.Steps.length:Int)-1)=((p.Steps.length-1:Nat):Int) by rw[wA (by omega) (by omega)];omega];refine⟨by omega,_,e1,.inl ⟨_,_,Z1t e2,?_⟩⟩;simp[Xa,h0]
 .intro i hi ih c st cc kl h0 hs hk;obtain⟨x,y,hx,hy,hxi,k15,kr,krl,hL,hR⟩:=R.at_ hi;refine Zy5 ?_;rw[Ya (by omega),Zka R bud hi hx hy,wS hi (by omega)];refine⟨by omega,x,by rw[Yf];exact hx,_,Z1F lf rs hr (by omega) _,?_⟩;by_cases hs1:rs.any (XG info i)=true
  .rw[Ya hs1,Ya hs1];exact ih _ _ cc kl h0 (by omega) hk
  rw[Yb hs1,Yb hs1];refine⟨_,ZaT _ _ (by omega),_,U5 (by omega),_,_,_,ZqE R (x:=x) hi hy hL hR krl,_,Z1B R hm hi hx hy k15 hL hR krl,?_⟩;have hy2:info[(i:Int).toNat]?=some y:=by rw[Yf];exact hy
  by_cases hh:has rs i=true
  .have ec:coK m l rs x y i=WB m ((l.getD (i:Int).toNat ⟨[],[]⟩).Rows.length:Int):=by unfold coK;rw[Ya hh];rfl
   rw[Ya hh];refine⟨_,ZqA m hm _,?_⟩;rw[ec];by_cases hc:w (bud-c)<WB m ((l.getD (i:Int).toNat ⟨[],[]⟩).Rows.length:Int)
   .rw[Ya hc,Ya hc];by_cases h3:3<=x.Kind
    .rw[Ya h3,Ya h3,Ya hh];simp[Xa,h0]
    .rw[Yb h3,Yb h3];simp[Xa,h0]
   .rw[Yb hc,Yb hc];by_cases h3:3<=x.Kind
    .rw[Ya h3,Ya h3];refine⟨y,hy2,_,Zgy _,(by omega),_,ZjZ _ _ (by omega),?_⟩;have hK:=Kn ⟨y.Mask,Zz l i⟩ hk;have e0:(⟨y.Mask,((l.getD (i:Int).toNat ⟨[],[]⟩).Rows.length:Int)⟩:Zd)=⟨y.Mask,Zz l i⟩:=rfl;rw[e0];by_cases h8:((kp ⟨y.Mask,Zz l i⟩ kl).length:Int)<=8
     .have e9:kpU ⟨y.Mask,Zz l i⟩ kl=kp ⟨y.Mask,Zz l i⟩ kl:=by unfold kpU;rw[Ya h8]
      rw[Ya h8,e9];exact ih _ _ _ _ (by simp) (by simp;omega) (by omega)
     .have e9:kpU ⟨y.Mask,Zz l i⟩ kl=kl:=by unfold kpU;rw[Yb h8]
      rw[Yb h8,e9];exact ih _ _ _ _ (by simp) (by simp;omega) hk
    .rw[Yb h3,Yb h3];exact ih _ _ cc kl h0 (by omega) hk
  .have ec:coK m l rs x y i=stC m l x y i:=by unfold coK;rw[Yb hh]
   rw[Yb hh,ec];by_cases hc:w (bud-c)<stC m l x y i
   .rw[Ya hc,Ya hc];by_cases h3:3<=x.Kind
    .rw[Ya h3,Ya h3,Yb hh];have h5:0<=y.Right:=kr.2 h3;have e1:lfC l y i=ruS l y.Left:=by unfold lfC;rw[Ya (krl h5)]
     have e2:rtC l y=ruS l y.Right:=by unfold rtC;rw[Ya h5]
     rw[e1,e2];have hA:∀o,mOp m x.Kind=o->X1 o (ruS l y.Left) (ruS l y.Right) (w (bud-c))=some (I (WD m l x y (w (bud-c))).Class,[]):=by
      intro o ho;have:=Z1A (Zd7 hm x.Kind) (Z18 ha x.Kind) (b:=w (bud-c)) (R.ru y.Left) (R.ru y.Right);rw[ho]at this;rw[this];simp only[WD,ho]
     have res:Xa false (l.getD (p.Steps.length-1) ⟨[],[]⟩) (false,bud,st,cc++[WD m l x y (w (bud-c))],kl)=(.tup [.agg [Bo false,I bud,I st,L 3 ((cc++[(⟨y.Mask,(WD m l x y (w (bud-c))).Class,false⟩:Zg)]).map Zg.c),L 1 (([]:WA).map ic),L 1 (([]:XS).map isc)],L 2 (kl.map Zd.c),Bo true],[]):=by
      simp[Xa,WD]
     rw[res];refine⟨ZjW m,?_⟩;rw[wA (by omega) (by omega),Yb (by omega),Yb (by omega)];by_cases g3:x.Kind=3
     .rw[Ya (by omega)];exact⟨_,hA m.Hash (by simp[mOp,g3]),y,hy2,(by omega),rfl⟩
     .rw[Yb (by omega)];by_cases g4:x.Kind=4
      .rw[Ya (by omega)];exact⟨_,hA m.Merge (by simp[mOp,g4]),y,hy2,(by omega),rfl⟩
      .rw[Yb (by omega),Ya (by omega)];exact⟨_,hA m.Nested (by simp[mOp,show x.Kind=5 by omega]),y,hy2,(by omega),rfl⟩
    .rw[Yb h3,Yb h3];simp[Xa,h0]
   .rw[Yb hc,Yb hc];by_cases h3:3<=x.Kind
    .rw[Ya h3,Ya h3];refine⟨y,hy2,_,Zgy _,(by omega),_,ZjZ _ _ (by omega),?_⟩;have hK:=Kn ⟨y.Mask,Zz l i⟩ hk;have e0:(⟨y.Mask,((l.getD (i:Int).toNat ⟨[],[]⟩).Rows.length:Int)⟩:Zd)=⟨y.Mask,Zz l i⟩:=rfl;rw[e0];by_cases h8:((kp ⟨y.Mask,Zz l i⟩ kl).length:Int)<=8
     .have e9:kpU ⟨y.Mask,Zz l i⟩ kl=kp ⟨y.Mask,Zz l i⟩ kl:=by unfold kpU;rw[Ya h8]
      rw[Ya h8,e9];exact ih _ _ _ _ (by simp) (by simp;omega) (by omega)
     .have e9:kpU ⟨y.Mask,Zz l i⟩ kl=kl:=by unfold kpU;rw[Yb h8]
      rw[Yb h8,e9];exact ih _ _ _ _ (by simp) (by simp;omega) hk
    .rw[Yb h3,Yb h3];exact ih _ _ cc kl h0 (by omega) hk
theorem ZCB:∀i,i<=p.Steps.length->∀(c st:Int) (kl:List Zd),kl.length<=8->UN m p false 0 0 kl info fr l rs false c st bud p.Steps p.Steps.length i=some (Xa false (l.getD (p.Steps.length-1) ⟨[],[]⟩) (Xf m l info rs bud (p.Steps.drop i) (info.drop i) i c st [] kl)):=by
 have hv:=R.P.val;have hl:=R.len;have lf:=(Zd6 R.P.eq).1;refine down _ ?_ ?_
 .intro c st kl hk;obtain⟨e1,e2⟩:=R.last;refine Zy4 ?_;rw[Yb (by omega),Zkb,hl,show w ((p.Steps.length:Int)-1)=((p.Steps.length-1:Nat):Int) by rw[wA (by omega) (by omega)];omega];refine⟨by omega,_,e1,.inl ⟨_,_,Z1t e2,?_⟩⟩;simp[Xa]
 .intro i hi ih c st kl hk;obtain⟨x,y,hx,hy,hxi,k15,kr,krl,hL,hR⟩:=R.at_ hi;refine Zy4 ?_;rw[Ya (by omega),Zka R bud hi hx hy,wS hi (by omega)];refine⟨by omega,x,by rw[Yf];exact hx,_,Z1F lf rs hr (by omega) _,?_⟩;by_cases hs1:rs.any (XG info i)=true
  .rw[Ya hs1,Ya hs1];exact ih _ _ kl hk
  rw[Yb hs1,Yb hs1];refine⟨_,ZaT _ _ (by omega),_,U5 (by omega),_,_,_,ZqE R (x:=x) hi hy hL hR krl,_,Z1B R hm hi hx hy k15 hL hR krl,?_⟩;have hy2:info[(i:Int).toNat]?=some y:=by rw[Yf];exact hy
  by_cases hh:has rs i=true
  .have ec:coK m l rs x y i=WB m ((l.getD (i:Int).toNat ⟨[],[]⟩).Rows.length:Int):=by unfold coK;rw[Ya hh];rfl
   rw[Ya hh];refine⟨_,ZqA m hm _,?_⟩;rw[ec];by_cases hc:w (bud-c)<WB m ((l.getD (i:Int).toNat ⟨[],[]⟩).Rows.length:Int)
   .rw[Ya hc,Ya hc];by_cases h3:3<=x.Kind
    .rw[Ya h3,Ya h3,Ya hh];simp[Xa]
    .rw[Yb h3,Yb h3];simp[Xa]
   .rw[Yb hc,Yb hc];by_cases h3:3<=x.Kind
    .rw[Ya h3,Ya h3];refine⟨y,hy2,_,Zgy _,_,ZjZ _ _ (by omega),?_⟩;have hK:=Kn ⟨y.Mask,Zz l i⟩ hk;have e0:(⟨y.Mask,((l.getD (i:Int).toNat ⟨[],[]⟩).Rows.length:Int)⟩:Zd)=⟨y.Mask,Zz l i⟩:=rfl;rw[e0];by_cases h8:((kp ⟨y.Mask,Zz l i⟩ kl).length:Int)<=8
     .have e9:kpU ⟨y.Mask,Zz l i⟩ kl=kp ⟨y.Mask,Zz l i⟩ kl:=by unfold kpU;rw[Ya h8]
      rw[Ya h8,e9];exact Zkc R hm ha fr bud hr hrl (i+1) hi _ _ _ _ (by simp) (by simp) (by omega)
     .have e9:kpU ⟨y.Mask,Zz l i⟩ kl=kl:=by unfold kpU;rw[Yb h8]
      rw[Yb h8,e9];exact Zkc R hm ha fr bud hr hrl (i+1) hi _ _ _ _ (by simp) (by simp) hk
    .rw[Yb h3,Yb h3];exact ih _ _ kl hk
  .have ec:coK m l rs x y i=stC m l x y i:=by unfold coK;rw[Yb hh]
   rw[Yb hh,ec];by_cases hc:w (bud-c)<stC m l x y i
   .rw[Ya hc,Ya hc];by_cases h3:3<=x.Kind
    .rw[Ya h3,Ya h3,Yb hh];have h5:0<=y.Right:=kr.2 h3;have e1:lfC l y i=ruS l y.Left:=by unfold lfC;rw[Ya (krl h5)]
     have e2:rtC l y=ruS l y.Right:=by unfold rtC;rw[Ya h5]
     rw[e1,e2];have hA:∀o,mOp m x.Kind=o->X1 o (ruS l y.Left) (ruS l y.Right) (w (bud-c))=some (I (WD m l x y (w (bud-c))).Class,[]):=by
      intro o ho;have:=Z1A (Zd7 hm x.Kind) (Z18 ha x.Kind) (b:=w (bud-c)) (R.ru y.Left) (R.ru y.Right);rw[ho]at this;rw[this];simp only[WD,ho]
     have res:Xa false (l.getD (p.Steps.length-1) ⟨[],[]⟩) (false,bud,st,[]++[WD m l x y (w (bud-c))],kl)=(.tup [.agg [Bo false,I bud,I st,L 3 (([(⟨y.Mask,(WD m l x y (w (bud-c))).Class,false⟩:Zg)]).map Zg.c),L 1 (([]:WA).map ic),L 1 (([]:XS).map isc)],L 2 (kl.map Zd.c),Bo true],[]):=by
      simp[Xa,WD]
     rw[res];refine⟨ZjW m,?_⟩;rw[wA (by omega) (by omega),Yb (by omega),Yb (by omega)];by_cases g3:x.Kind=3
     .rw[Ya (by omega)];exact⟨_,hA m.Hash (by simp[mOp,g3]),y,hy2,rfl⟩
     .rw[Yb (by omega)];by_cases g4:x.Kind=4
      .rw[Ya (by omega)];exact⟨_,hA m.Merge (by simp[mOp,g4]),y,hy2,rfl⟩
      .rw[Yb (by omega),Ya (by omega)];exact⟨_,hA m.Nested (by simp[mOp,show x.Kind=5 by omega]),y,hy2,rfl⟩
    .rw[Yb h3,Yb h3];simp[Xa]
   .rw[Yb hc,Yb hc];by_cases h3:3<=x.Kind
    .rw[Ya h3,Ya h3];refine⟨y,hy2,_,Zgy _,_,ZjZ _ _ (by omega),?_⟩;have hK:=Kn ⟨y.Mask,Zz l i⟩ hk;have e0:(⟨y.Mask,((l.getD (i:Int).toNat ⟨[],[]⟩).Rows.length:Int)⟩:Zd)=⟨y.Mask,Zz l i⟩:=rfl;rw[e0];by_cases h8:((kp ⟨y.Mask,Zz l i⟩ kl).length:Int)<=8
     .have e9:kpU ⟨y.Mask,Zz l i⟩ kl=kp ⟨y.Mask,Zz l i⟩ kl:=by unfold kpU;rw[Ya h8]
      rw[Ya h8,e9];exact Zkc R hm ha fr bud hr hrl (i+1) hi _ _ _ _ (by simp) (by simp) (by omega)
     .have e9:kpU ⟨y.Mask,Zz l i⟩ kl=kl:=by unfold kpU;rw[Yb h8]
      rw[Yb h8,e9];exact Zkc R hm ha fr bud hr hrl (i+1) hi _ _ _ _ (by simp) (by simp) hk
    .rw[Yb h3,Yb h3];exact ih _ _ kl hk
theorem Zkd:∀i,i<=p.Steps.length->∀(c st:Int) (cc:List Zg) (kl:List Zd),cc≠[]->cc.length<=i->kl.length<=8->Va m p false 0 0 l info kl rs ((l.take i).map λs:Zb=>(s.Rows.length:Int)) false c st cc bud i=some (Xa true (l.getD (p.Steps.length-1) ⟨[],[]⟩) (Xf m l info rs bud (p.Steps.drop i) (info.drop i) i c st cc kl)):=by
 have hv:=R.P.val;have hl:=R.len;have lf:=(Zd6 R.P.eq).1;refine down _ ?_ ?_
 .intro c st cc kl h0 hs hk;obtain⟨e1,e2⟩:=R.last;have hA:=ZjV e2;refine Zzk ?_;rw[Yb (by omega),Zkb,hl,show w ((p.Steps.length:Int)-1)=((p.Steps.length-1:Nat):Int) by rw[wA (by omega) (by omega)];omega];refine⟨by omega,_,e1,?_⟩;unfold Zd5 at hA;by_cases e:(l.getD (p.Steps.length-1) ⟨[],[]⟩).Rows=[]
  .rw[Ya e]at hA;refine .inr (.inl ⟨_,hA,?_⟩);simp[Xa,e,Vf,Vf,h0,-List.getD_eq_getElem?_getD]
  .rw[Yb e]at hA;refine .inr (.inr ⟨_,_,hA,?_⟩);simp[Xa,e,Vf,Vf,h0,-List.getD_eq_getElem?_getD]
 .intro i hi ih c st cc kl h0 hs hk;obtain⟨x,y,hx,hy,hxi,k15,kr,krl,hL,hR⟩:=R.at_ hi;have hnl:((l.take i).map λs:Zb=>(s.Rows.length:Int)).length<=14:=by simp;omega
  have h46:((l.getD (i:Int).toNat ⟨[],[]⟩).Rows.length:Int)<=4096:=by have:=R.n4096 i;omega
  have ru:∀k:Int,Xm ((l.getD k.toNat ⟨[],[]⟩).Rows.length:Int)=some (I (ruS l k),[]):=λk=>Zbl _ (by have:=R.n4096 k;omega)
  refine Zzk ?_;rw[Ya (by omega),Zka R bud hi hx hy,wS hi (by omega)];refine⟨by omega,_,U5 (by omega),by omega,_,Z1G lf (by omega) rs hr (by omega) _,?_⟩;have hg:=Vg (l:=l) (i:=i) (k:=(i:Int)) (by omega) (by omega) (by omega);have hn:=Zd8 (l:=l) (i:=i) (by omega);have hy2:info[(i:Int).toNat]?=some y:=by rw[Yf];exact hy
  by_cases hs1:rs.any (XG info i)=true
  .rw[Ya hs1,Ya hs1];simp only[Yf];rw[hn];exact ih _ _ cc kl h0 (by omega) hk
  rw[Yb hs1,Yb hs1];refine⟨_,ZjY R hm hi hx hy hL hR krl,_,Zdg _ _ (by omega),?_⟩;by_cases hh:has rs i=true
  .have ec:coK m l rs x y i=WB m ((l.getD (i:Int).toNat ⟨[],[]⟩).Rows.length:Int):=by unfold coK;rw[Ya hh];rfl
   rw[Ya hh];refine⟨_,hg,_,ZqB m hm _,?_⟩;rw[ec];by_cases hc:w (bud-c)<WB m ((l.getD (i:Int).toNat ⟨[],[]⟩).Rows.length:Int)
   .rw[Ya hc,Ya hc];refine⟨y,hy2,?_⟩;by_cases h3:3<=x.Kind
    .rw[Ya (kr.2 h3),Ya h3,Ya hh];simp[Xa,h0]
    .rw[Yb (λh=>h3 (kr.1 h)),Yb h3];simp[Xa,h0]
   .rw[Yb hc,Yb hc];refine⟨y,hy2,?_⟩;by_cases h3:3<=x.Kind
    .rw[Ya (kr.2 h3),Ya h3];simp only[Yf]at hn|-;rw[hn];refine⟨_,Zbk _ h46,(by omega),_,Zd9 _ _ (by omega),?_⟩;have hK:=Kn ⟨y.Mask,Zz l i⟩ hk;have e0:(⟨y.Mask,((l.getD i ⟨[],[]⟩).Rows.length:Int)⟩:Zd)=⟨y.Mask,Zz l i⟩:=rfl;rw[e0];by_cases h8:((kp ⟨y.Mask,Zz l i⟩ kl).length:Int)<=8
     .have e9:kpU ⟨y.Mask,Zz l i⟩ kl=kp ⟨y.Mask,Zz l i⟩ kl:=by unfold kpU;rw[Ya h8]
      rw[Ya h8,e9];exact ih _ _ _ _ (by simp) (by simp;omega) (by omega)
     .have e9:kpU ⟨y.Mask,Zz l i⟩ kl=kl:=by unfold kpU;rw[Yb h8]
      rw[Yb h8,e9];exact ih _ _ _ _ (by simp) (by simp;omega) hk
    .rw[Yb (λh=>h3 (kr.1 h)),Yb h3];simp only[Yf];rw[hn];exact ih _ _ cc kl h0 (by omega) hk
  .have ec:coK m l rs x y i=stC m l x y i:=by unfold coK;rw[Yb hh]
   rw[Yb hh,ec];by_cases hc:w (bud-c)<stC m l x y i
   .rw[Ya hc,Ya hc];refine⟨y,hy2,?_⟩;by_cases h3:3<=x.Kind
    .have h5:0<=y.Right:=kr.2 h3;have h6:=krl h5;rw[Ya h5,Ya h3,Yb hh];refine⟨x,by rw[Yf];exact hx,h6,_,Vg (l:=l) (by omega) h6 (by have:=hL h6;omega),_,ru y.Left,_,Vg (l:=l) (by omega) h5 (by have:=hR h5;omega),_,ru y.Right,_,ZjX hm ha (by simp[inR];omega) (R.ru _) (R.ru _),(by omega),?_⟩;simp[Xa,WD]
    .rw[Yb (λh=>h3 (kr.1 h)),Yb h3];simp[Xa,h0]
   .rw[Yb hc,Yb hc];refine⟨y,hy2,?_⟩;by_cases h3:3<=x.Kind
    .rw[Ya (kr.2 h3),Ya h3];refine⟨_,hg,?_⟩;simp only[Yf]at hn|-;rw[hn];refine⟨_,Zbk _ h46,(by omega),_,Zd9 _ _ (by omega),?_⟩;have hK:=Kn ⟨y.Mask,Zz l i⟩ hk;have e0:(⟨y.Mask,((l.getD i ⟨[],[]⟩).Rows.length:Int)⟩:Zd)=⟨y.Mask,Zz l i⟩:=rfl;rw[e0];by_cases h8:((kp ⟨y.Mask,Zz l i⟩ kl).length:Int)<=8
     .have e9:kpU ⟨y.Mask,Zz l i⟩ kl=kp ⟨y.Mask,Zz l i⟩ kl:=by unfold kpU;rw[Ya h8]
      rw[Ya h8,e9];exact ih _ _ _ _ (by simp) (by simp;omega) (by omega)
     .have e9:kpU ⟨y.Mask,Zz l i⟩ kl=kl:=by unfold kpU;rw[Yb h8]
      rw[Yb h8,e9];exact ih _ _ _ _ (by simp) (by simp;omega) hk
    .rw[Yb (λh=>h3 (kr.1 h)),Yb h3];simp only[Yf];rw[hn];exact ih _ _ cc kl h0 (by omega) hk
theorem ZCC:∀i,i<=p.Steps.length->∀(c st:Int) (kl:List Zd),kl.length<=8->Ka m p false 0 0 l info kl rs ((l.take i).map λs:Zb=>(s.Rows.length:Int)) false c st bud i=some (Xa true (l.getD (p.Steps.length-1) ⟨[],[]⟩) (Xf m l info rs bud (p.Steps.drop i) (info.drop i) i c st [] kl)):=by
 have hv:=R.P.val;have hl:=R.len;have lf:=(Zd6 R.P.eq).1;refine down _ ?_ ?_
 .intro c st kl hk;obtain⟨e1,e2⟩:=R.last;have hA:=ZjV e2;refine Zzj ?_;rw[Yb (by omega),Zkb,hl,show w ((p.Steps.length:Int)-1)=((p.Steps.length-1:Nat):Int) by rw[wA (by omega) (by omega)];omega];refine⟨by omega,_,e1,?_⟩;unfold Zd5 at hA;by_cases e:(l.getD (p.Steps.length-1) ⟨[],[]⟩).Rows=[]
  .rw[Ya e]at hA;refine .inr (.inl ⟨_,hA,?_⟩);simp[Xa,e,Vf,Vf,-List.getD_eq_getElem?_getD]
  .rw[Yb e]at hA;refine .inr (.inr ⟨_,_,hA,?_⟩);simp[Xa,e,Vf,Vf,-List.getD_eq_getElem?_getD]
 .intro i hi ih c st kl hk;obtain⟨x,y,hx,hy,hxi,k15,kr,krl,hL,hR⟩:=R.at_ hi;have hnl:((l.take i).map λs:Zb=>(s.Rows.length:Int)).length<=14:=by simp;omega
  have h46:((l.getD (i:Int).toNat ⟨[],[]⟩).Rows.length:Int)<=4096:=by have:=R.n4096 i;omega
  have ru:∀k:Int,Xm ((l.getD k.toNat ⟨[],[]⟩).Rows.length:Int)=some (I (ruS l k),[]):=λk=>Zbl _ (by have:=R.n4096 k;omega)
  refine Zzj ?_;rw[Ya (by omega),Zka R bud hi hx hy,wS hi (by omega)];refine⟨by omega,_,U5 (by omega),by omega,_,Z1G lf (by omega) rs hr (by omega) _,?_⟩;have hg:=Vg (l:=l) (i:=i) (k:=(i:Int)) (by omega) (by omega) (by omega);have hn:=Zd8 (l:=l) (i:=i) (by omega);have hy2:info[(i:Int).toNat]?=some y:=by rw[Yf];exact hy
  by_cases hs1:rs.any (XG info i)=true
  .rw[Ya hs1,Ya hs1];simp only[Yf];rw[hn];exact ih _ _ kl hk
  rw[Yb hs1,Yb hs1];refine⟨_,ZjY R hm hi hx hy hL hR krl,_,Zdg _ _ (by omega),?_⟩;by_cases hh:has rs i=true
  .have ec:coK m l rs x y i=WB m ((l.getD (i:Int).toNat ⟨[],[]⟩).Rows.length:Int):=by unfold coK;rw[Ya hh];rfl
   rw[Ya hh];refine⟨_,hg,_,ZqB m hm _,?_⟩;rw[ec];by_cases hc:w (bud-c)<WB m ((l.getD (i:Int).toNat ⟨[],[]⟩).Rows.length:Int)
   .rw[Ya hc,Ya hc];refine⟨y,hy2,?_⟩;by_cases h3:3<=x.Kind
    .rw[Ya (kr.2 h3),Ya h3,Ya hh];simp[Xa]
    .rw[Yb (λh=>h3 (kr.1 h)),Yb h3];simp[Xa]
   .rw[Yb hc,Yb hc];refine⟨y,hy2,?_⟩;by_cases h3:3<=x.Kind
    .rw[Ya (kr.2 h3),Ya h3];simp only[Yf]at hn|-;rw[hn];refine⟨_,Zbk _ h46,_,Zd9 _ _ (by omega),?_⟩;have hK:=Kn ⟨y.Mask,Zz l i⟩ hk;have e0:(⟨y.Mask,((l.getD i ⟨[],[]⟩).Rows.length:Int)⟩:Zd)=⟨y.Mask,Zz l i⟩:=rfl;rw[e0];by_cases h8:((kp ⟨y.Mask,Zz l i⟩ kl).length:Int)<=8
     .have e9:kpU ⟨y.Mask,Zz l i⟩ kl=kp ⟨y.Mask,Zz l i⟩ kl:=by unfold kpU;rw[Ya h8]
      rw[Ya h8,e9];exact Zkd R hm ha bud hr hrl (i+1) hi _ _ _ _ (by simp) (by simp) (by omega)
     .have e9:kpU ⟨y.Mask,Zz l i⟩ kl=kl:=by unfold kpU;rw[Yb h8]
      rw[Yb h8,e9];exact Zkd R hm ha bud hr hrl (i+1) hi _ _ _ _ (by simp) (by simp) hk
    .rw[Yb (λh=>h3 (kr.1 h)),Yb h3];simp only[Yf];rw[hn];exact ih _ _ kl hk
  .have ec:coK m l rs x y i=stC m l x y i:=by unfold coK;rw[Yb hh]
   rw[Yb hh,ec];by_cases hc:w (bud-c)<stC m l x y i
   .rw[Ya hc,Ya hc];refine⟨y,hy2,?_⟩;by_cases h3:3<=x.Kind
    .have h5:0<=y.Right:=kr.2 h3;have h6:=krl h5;rw[Ya h5,Ya h3,Yb hh];refine⟨x,by rw[Yf];exact hx,h6,_,Vg (l:=l) (by omega) h6 (by have:=hL h6;omega),_,ru y.Left,_,Vg (l:=l) (by omega) h5 (by have:=hR h5;omega),_,ru y.Right,_,ZjX hm ha (by simp[inR];omega) (R.ru _) (R.ru _),?_⟩;simp[Xa,WD]
    .rw[Yb (λh=>h3 (kr.1 h)),Yb h3];simp[Xa]
   .rw[Yb hc,Yb hc];refine⟨y,hy2,?_⟩;by_cases h3:3<=x.Kind
    .rw[Ya (kr.2 h3),Ya h3];refine⟨_,hg,?_⟩;simp only[Yf]at hn|-;rw[hn];refine⟨_,Zbk _ h46,_,Zd9 _ _ (by omega),?_⟩;have hK:=Kn ⟨y.Mask,Zz l i⟩ hk;have e0:(⟨y.Mask,((l.getD i ⟨[],[]⟩).Rows.length:Int)⟩:Zd)=⟨y.Mask,Zz l i⟩:=rfl;rw[e0];by_cases h8:((kp ⟨y.Mask,Zz l i⟩ kl).length:Int)<=8
     .have e9:kpU ⟨y.Mask,Zz l i⟩ kl=kp ⟨y.Mask,Zz l i⟩ kl:=by unfold kpU;rw[Ya h8]
      rw[Ya h8,e9];exact Zkd R hm ha bud hr hrl (i+1) hi _ _ _ _ (by simp) (by simp) (by omega)
     .have e9:kpU ⟨y.Mask,Zz l i⟩ kl=kl:=by unfold kpU;rw[Yb h8]
      rw[Yb h8,e9];exact Zkd R hm ha bud hr hrl (i+1) hi _ _ _ _ (by simp) (by simp) hk
    .rw[Yb (λh=>h3 (kr.1 h)),Yb h3];simp only[Yf];rw[hn];exact ih _ _ kl hk
end
open Classical in
noncomputable def rrF(m:Zm)(d:Zn)(q:Ze)(p:Zo)(bud:Int)(c:List Zd):Option (Zb×(Bool×Int×Int×List Zg×List Zd)) :=
 match Xr q.Zk q.Atoms p.Steps with
 |none=>none
 |some info=>if Z6 d q=true/\X8 m/\inR bud 0 1000000000000=true/\c.length<=8 then some ((XN d q p.Steps info).getD (p.Steps.length-1) ⟨[],[]⟩,Xf m (XN d q p.Steps info) info ((WC m q p c).getD []) bud p.Steps info 0 0 0 [] c)else none
def noKR(cc:List Zd):XR:=(.tup [.agg [Bo false,I 0,I 0,L 3 (([]:List Zg).map Zg.c),L 1 (([]:WA).map ic),L 1 (([]:XS).map isc)],L 2 (cc.map Zd.c),Bo false],[])
def rrR(nl:Bool)(c:List Zd):Option (Zb×(Bool×Int×Int×List Zg×List Zd))->XR
 |none=>noKR c
 |some (s,r)=>Xa nl s r
open Classical in
theorem Z1H{m:Zm}(ha:X8 m){q:Ze}{p:Zo}{info:List Za}(P:PI q p info)(c:List Zd):∃rs,WC m q p c=some rs/\inI info rs/\rs.length<=14:=by
 have hv:=P.val;have e:WC m q p c=some (U6 (first info) (rdL m p.Steps info c 0)):=by
  unfold WC;rw[P.eq];simp[ha]
 refine⟨_,e,?_,?_⟩
 .intro j hj;unfold U6 rdL at hj;have:=JD (Y0.1 (Y0.1 hj).1).1;simp only[Yo]at this;omega
 .unfold U6;have h1:=Ybz (λi=>!((rdL m p.Steps info c 0).any λk=>decide (i<k) && decide (first info k<=i))) (rdL m p.Steps info c 0);have h2:(rdL m p.Steps info c 0).length<=p.Steps.length:=by
   unfold rdL;have:=Ybz (rdB m p.Steps info c) (jst (p.Steps.drop 0) 0);have:=Zei (p.Steps.drop 0) 0;simp only[Yo]at *
   omega
  omega
theorem ZCD{m:Zm}(hm:LeM m){d:Zn}(hd:LeD d){q:Ze}(hq:LeQ q)(p:Zo)(bud:Int)(kept:List Zd)(hk:kept.length<=4294967296):Za8 m d q p bud kept=some (rrR false kept (rrF m d q p bud kept)):=by
 unfold rrF
 cases e:Xr q.Zk q.Atoms p.Steps with
 |none=>exact Zp5 _ _ _ _ _ _ _ ⟨by omega,.inl ⟨Z1p hd hq (.inl e),rfl⟩⟩
 |some info =>
  dsimp only;have P:PI q p info:=⟨e⟩;by_cases h:Z6 d q=true
  .obtain⟨fr,hx⟩:=ZCd hd hq h P;have hg:=Zd4 h P;have R:VN q p info (XN d q p.Steps info):=⟨P,hg.1,hg.2⟩;refine Zp5 _ _ _ _ _ _ _ ⟨by omega,.inr ⟨_,_,_,hx,_,ZpK m hm,?_⟩⟩;by_cases ha:X8 m
   .rw[Ya (by simpa using ha)];refine⟨_,WN _ _ _,?_⟩;rcases tf (inR bud 0 1000000000000)with hb|hb
    .rw[hb,Yb (by decide),Yb (by simp)];rfl
    .rw[hb,Ya rfl];by_cases h8:kept.length<=8
     .obtain⟨rs,r1,r2,r3⟩:=Z1H ha P kept;have hr:=Z16 m hm q hq p kept (by omega);rw[r1]at hr|-;rw[Yb (by omega),Ya ⟨h,ha,rfl,h8⟩];refine .inr ⟨rs,hr,?_⟩;have:=ZCB R hm ha fr bud r2 r3 0 (Yd _) 0 0 kept h8;simpa[rrR]using this
     .rw[Ya (by omega),Yb (λhh=>h8 hh.2.2.2)];rfl
   .rw[Yb (by simpa using ha),Yb (λhh=>ha hh.2.1)];rfl
  .rw[Yb (λhh=>h hh.1)];exact Zp5 _ _ _ _ _ _ _ ⟨by omega,.inl ⟨Z1p hd hq (.inr (by simpa using h)),rfl⟩⟩
theorem ZCE{m:Zm}(hm:LeM m){d:Zn}(hd:LeD d){q:Ze}(hq:LeQ q)(p:Zo)(bud:Int)(kept:List Zd)(hk:kept.length<=4294967296):ZaP m d q p bud kept=some (rrR true kept (rrF m d q p bud kept)):=by
 unfold rrF
 cases e:Xr q.Zk q.Atoms p.Steps with
 |none =>
  obtain⟨info,hx⟩:=ZjS hd hq (p:=p) (.inl e);refine ZpB _ _ _ _ _ _ _ ⟨_,_,_,hx,by omega,?_⟩
  rw[Yb (by decide)];rfl
 |some info =>
  dsimp only;have P:PI q p info:=⟨e⟩;by_cases h:Z6 d q=true
  .have hx:=Z1q hd hq h P;have hg:=Zd4 h P;have R:VN q p info (XN d q p.Steps info):=⟨P,hg.1,hg.2⟩;refine ZpB _ _ _ _ _ _ _ ⟨_,_,_,hx,by omega,?_⟩;rw[Ya rfl];refine⟨_,Zjo m hm,?_⟩;by_cases ha:X8 m
   .rw[Ya (by simpa using ha)];refine⟨_,XD _ _ _,?_⟩;rcases tf (inR bud 0 1000000000000)with hb|hb
    .rw[hb,Yb (by decide),Yb (by simp)];rfl
    .rw[hb,Ya rfl];by_cases h8:kept.length<=8
     .obtain⟨rs,r1,r2,r3⟩:=Z1H ha P kept;have hr:=Z17 m hm q hq p kept (by omega);rw[r1]at hr|-;rw[Yb (by omega),Ya ⟨h,ha,rfl,h8⟩];refine⟨rs,hr,?_⟩;have:=ZCC R hm ha bud r2 r3 0 (Yd _) 0 0 kept h8;simpa[rrR]using this
     .rw[Ya (by omega),Yb (λhh=>h8 hh.2.2.2)];rfl
   .rw[Yb (by simpa using ha),Yb (λhh=>ha hh.2.1)];rfl
  .obtain⟨info',hx⟩:=ZjS hd hq (p:=p) (.inr (by simpa using h));rw[Yb (λhh=>h hh.1)];refine ZpB _ _ _ _ _ _ _ ⟨_,_,_,hx,by omega,?_⟩;rw[Yb (by decide)];rfl
abbrev gi(x:WA)(v:Int):Int:=x.getD v.toNat 0
theorem Zgz{x:WA}{v u y:Int}(hv:0<=v/\v<x.length)(hu:0<=u):gi (x.set v.toNat y) u=if u=v then y else gi x u:=by
 unfold gi;rw[Y5,Y5,List.getElem?_set];by_cases e:u=v
 .subst e;rw[Ya rfl,Ya rfl,Ya (by omega)];rfl
 .rw[Yb e,Yb (by omega)]
def Z1I(vs ys x:WA):Prop:=∀p∈vs.zip ys,gi x p.1=p.2
theorem ZqI:∀(vs ys:WA) (ok:Bool) (x x':WA),ys.length=vs.length->(∀v∈vs,0<=v/\v<x.length)->(∀y∈ys,y≠-1)->x'.length=x.length->
  ((Kh vs ys ok x=(true,x'))↔ok=true/\(∀u:Int,0<=u->u<x.length->gi x u≠-1->gi x' u=gi x u)/\Z1I vs ys x'/\(∀u:Int,0<=u->u<x.length->u ∉ vs->gi x' u=gi x u))
 |[],[],ok,x,x',_,_,_,hl=>by
  simp only[Kh,Ybr];constructor
  .rintro⟨rfl,rfl⟩;exact⟨rfl,λ_ _ _ _=>rfl,λp hp=>by simp at hp,λ_ _ _ _=>rfl⟩
  .rintro⟨h1,_,_,h2⟩;refine⟨h1,Yca hl.symm λi h3 h4=>?_⟩;have:=h2 i (by omega) (by omega) (by simp);unfold gi at this
   simpa[h3,h4]using this.symm
 |v::vs,y::ys,ok,x,x',hy,hv,hy1,hl=>by
  have hv0:=hv v (by simp);rw[Kh,ZqI vs ys _ _ x' (by simpa using hy) (by rw[Ybq];exact λu hu=>hv u (by simp[hu])) (λu hu=>hy1 u (by simp[hu])) (by rw[Ybq];exact hl),Ybq];simp only[Ye,Yb6,decide_eq_true_eq];have hy0:=hy1 y (by simp);constructor
  .rintro⟨⟨h1,h2⟩,h3,h4,h5⟩;have hxv:gi x' v=y:=by have:=h3 v hv0.1 hv0.2;rw[Zgz hv0 hv0.1,Ya rfl]at this;exact this hy0
   refine⟨h1,λu hu0 hu1 hu2=>?_,?_,λu hu0 hu1 hu2=>?_⟩
   .by_cases e:u=v
    .subst e;rcases h2 with h2|h2
     .exact absurd h2 hu2
     .rw[hxv];exact h2.symm
    .have:=h3 u hu0 hu1;rw[Zgz hv0 hu0,Yb e]at this;exact this hu2
   .intro p hp;rw[List.zip_cons_cons]at hp;rcases Yl.1 hp with e|e
    .rw[e];exact hxv
    .exact h4 p e
   .have hne:u≠v:=λe=>hu2 (by simp[e])
    have:=h5 u hu0 hu1 (λe=>hu2 (by simp[e]));rw[Zgz hv0 hu0,Yb hne]at this;exact this
  .rintro⟨h1,h3,h4,h5⟩;have hxv:gi x' v=y:=h4 (v,y) (by simp);refine⟨⟨h1,?_⟩,λu hu0 hu1 hu2=>?_,λp hp=>h4 p (by rw[List.zip_cons_cons];exact List.mem_cons_of_mem _ hp),λu hu0 hu1 hu2=>?_⟩
   .by_cases e:gi x v=-1
    .exact .inl e
    .right;rw[<-hxv];exact(h3 v hv0.1 hv0.2 e).symm
   .rw[Zgz hv0 hu0]at hu2|-;by_cases e:u=v
    .subst e;rw[Ya rfl];exact hxv
    .rw[Yb e]at hu2|-;exact h3 u hu0 hu1 hu2
   .rw[Zgz hv0 hu0];by_cases e:u=v
    .subst e;rw[Ya rfl];exact hxv
    .rw[Yb e];exact h5 u hu0 hu1 (by simp[e,hu2])
def sats(p:Zq×Zc)(x:WA):Prop:=∃r∈p.1.Rows,Z1I p.2.Vars r x
def Zbm:List (Zq×Zc)->XS->XS
 |[],l=>l
 |p::ps,l=>Zbm ps (l.flatMap (Ki p.2.Vars p.1.Rows))
def Z1J(n:Nat)(p:Zq×Zc):Prop:=(∀r∈p.1.Rows,r.length=p.2.Vars.length/\∀y∈r,0<=y/\y<=9)/\∀v∈p.2.Vars,0<=v/\v<n
theorem Z1K{vs:WA}{rows:XS}{x y:WA}:y∈Ki vs rows x↔∃r∈rows,Kh vs r true x=(true,y):=by
 unfold Ki;rw[Yb7];constructor
 .rintro⟨r,hr,h⟩;refine⟨r,hr,?_⟩;unfold Zjy at h;split at h
  .rename_i e;cases h;exact Prod.ext e rfl
  .cases h
 .rintro⟨r,hr,h⟩;exact⟨r,hr,by unfold Zjy;rw[h];rfl⟩
theorem Z1L{n:Nat}:∀(ps:List (Zq×Zc)) (l:XS) (x':WA),(∀p∈ps,Z1J n p)->(∀x∈l,x.length=n)->x'.length=n->
  (x'∈Zbm ps l↔∃x∈l,(∀u:Int,0<=u->u<n->gi x u≠-1->gi x' u=gi x u)/\(∀p∈ps,sats p x')/\∀u:Int,0<=u->u<n->(∀p∈ps,u ∉ p.2.Vars)->gi x' u=gi x u)
 |[],l,x',_,hl,hx=>by
  unfold Zbm;constructor
  .exact λh=>⟨x',h,λ_ _ _ _=>rfl,by simp,λ_ _ _ _=>rfl⟩
  .rintro⟨x,hx1,_,_,h⟩
   have:x'=x:=by
    refine Yca (by rw[hx,hl x hx1]) λi h3 h4=>?_
    have:=h i (by omega) (by omega) (by simp);unfold gi at this;simpa[h3,h4]using this
   rw[this];exact hx1
 |p::ps,l,x',hp,hl,hx=>by
  obtain⟨hr,hv⟩:=hp p (by simp)
  rw[Zbm,Z1L ps _ x' (λq hq=>hp q (by simp[hq])) (by
   intro y hy;obtain⟨x,hx,hy⟩:=Ybv.1 hy
   rw[Zqc hy];exact hl x hx) hx]
  constructor
  .rintro⟨y,hy,h1,h2,h3⟩;obtain⟨x,hx1,hy⟩:=Ybv.1 hy;obtain⟨r,hr1,hf⟩:=Z1K.1 hy;have hxl:=hl x hx1;have hyl:y.length=x.length:=Zqc hy;obtain⟨_,g1,g2,g3⟩:=(ZqI p.2.Vars r true x y (hr r hr1).1 (by rw[hxl];exact hv) (λc hc=>by have:=(hr r hr1).2 c hc;omega) hyl).1 hf;rw[hxl]at g1 g3;refine⟨x,hx1,λu hu0 hu1 hu2=>?_,λq hq=>?_,λu hu0 hu1 hu2=>?_⟩
   .have:=g1 u hu0 hu1 hu2;rw[<-this];exact h1 u hu0 hu1 (by rw[this];exact hu2)
   .rcases Yl.1 hq with e|e
    .subst e;refine⟨r,hr1,λz hz=>?_⟩;have hz1:=g2 z hz;have hm:=List.of_mem_zip hz;have hz2:=(hr r hr1).2 z.2 hm.2;have hz3:=hv z.1 hm.1;rw[h1 z.1 hz3.1 hz3.2 (by rw[hz1];omega)];exact hz1
    .exact h2 q e
   .rw[h3 u hu0 hu1 (λq hq=>hu2 q (by simp[hq]))];exact g3 u hu0 hu1 (hu2 p (by simp))
  .rintro⟨x,hx1,h1,h2,h3⟩;obtain⟨r,hr1,hf⟩:=h2 p (by simp);have hxl:=hl x hx1
   let y:WA:=(List.range n).map λu:Nat=>if(u:Int)∈p.2.Vars then gi x' u else gi x u
   have hyl:y.length=n:=by simp[y]
   have hyg:∀u:Int,0<=u->u<n->gi y u=if u∈p.2.Vars then gi x' u else gi x u:=by
    intro u hu0 hu1;have e:((u.toNat:Nat):Int)=u:=by omega
    have hu2:u.toNat<n:=by omega
    show y.getD u.toNat 0=_;rw[Y5];simp[y,hu2,e]
   refine⟨y,Ybv.2 ⟨x,hx1,Z1K.2 ⟨r,hr1,?_⟩⟩,λu hu0 hu1 hu2=>?_,λq hq=>h2 q (by simp[hq]),λu hu0 hu1 hu2=>?_⟩
   .refine(ZqI p.2.Vars r true x y (hr r hr1).1 (by rw[hxl];exact hv) (λc hc=>by have:=(hr r hr1).2 c hc;omega) (by rw[hyl,hxl])).2 ⟨rfl,?_,?_,?_⟩
    .intro u hu0 hu1 hu2;rw[hyg u hu0 (by omega)];split
     .exact h1 u hu0 (by omega) hu2
     .rfl
    .intro z hz;have hm:=List.of_mem_zip hz;have hz3:=hv z.1 hm.1;rw[hyg _ hz3.1 hz3.2,Ya hm.1];exact hf z hz
    .intro u hu0 hu1 hu2;rw[hyg u hu0 (by omega),Yb hu2]
   .rw[hyg u hu0 hu1]at hu2|-;split at hu2
    .rename_i e;rw[Ya e]
    .rename_i e;rw[Yb e];exact h1 u hu0 hu1 hu2
   .rw[hyg u hu0 hu1];split
    .rfl
    .rename_i e;refine h3 u hu0 hu1 λq hq=>?_
     rcases Yl.1 hq with e1|e1
     .rw[e1];exact e
     .exact hu2 q e1
theorem Z1M(d:Zn){m:Int}(hm:M16 m):∀(ts:List Zc) (i:Nat) (l:XS),i+ts.length<=4->(∀a∈ts,XY d a=true)->Jm d m ts i l=Zbm (XF d m ts i) l
 |[],_,_,_,_=>rfl
 |a::ts,i,l,h4,hf=>by
  rw[Ys]at h4;have hf1:=hf a (by simp);rw[Jm,XF,Z1M d hm ts (i+1) _ (by omega) (λb hb=>hf b (by simp[hb]))];have hb:=ZpL hm (i:=i) (by omega);unfold Zx at hb
  cases e:X3 d a.Name with
  |none=>unfold XY at hf1;rw[e]at hf1;simp at hf1
  |some t =>
   simp only;by_cases e1:andI (shrI m i) 1=1
   .rw[Ya e1,Yb (by rw[hb];simp[e1]),Zbm];unfold Ve;rw[e]
   .rw[Yb e1,Ya (by rw[hb];simp[e1])]
theorem ZqJ(d:Zn)(m u:Int):∀(ts:List Zc) (i:Nat),(∀a∈ts,XY d a=true)->(ZT m ts i u=true↔∃p∈XF d m ts i,u∈p.2.Vars)
 |[],_,_=>by simp[ZT,XF]
 |a::ts,i,hf=>by
  have hf1:=hf a (by simp);have ih:=ZqJ d m u ts (i+1) (λb hb=>hf b (by simp[hb]));unfold ZT XF
  cases e:X3 d a.Name with
  |none=>unfold XY at hf1;rw[e]at hf1;simp at hf1
  |some t =>
   simp only[Yb6,Ye,ZO];unfold Zx;by_cases e1:andI (shrI m i) 1=1
   .rw[Ya e1];simp[e1,ih]
   .rw[Yb e1];simp[e1,ih]
theorem Z1N(d:Zn)(q:Ze)(hf:∀a∈q.Atoms,XY d a=true)(m u:Int):u∈ZI q m↔(0<=u/\u<q.Zk.toNat)/\∃p∈XF d m q.Atoms 0,u∈p.2.Vars:=by
 unfold ZI Z9 pV;simp only[Y2,Y0,Ybm];constructor
 .rintro⟨v,⟨h1,h2⟩,rfl⟩;exact⟨by omega,(ZqJ d m v q.Atoms 0 hf).1 h2⟩
 .rintro⟨h1,h2⟩;refine⟨u.toNat,⟨by omega,?_⟩,by omega⟩;rw[show((u.toNat:Nat):Int)=u by omega];exact(ZqJ d m u q.Atoms 0 hf).2 h2
theorem Zg0(q:Ze)(m:Int):(ZI q m).Nodup:=by
 unfold ZI Z9;refine List.Pairwise.map _ ?_ ((List.nodup_range).filter _);intro a b h e;exact h (by omega)
def lk:WA->WA->Int->Int
 |v::vs,y::ys,u=>if u=v then y else lk vs ys u
 |_,_,_=>-1
theorem ZqK:∀{vs ys:WA},vs.Nodup->∀z∈vs.zip ys,lk vs ys z.1=z.2
 |[],_,_,z,h=>by simp at h
 |_::_,[],_,z,h=>by simp at h
 |v::vs,y::ys,hn,z,h=>by
  rw[List.zip_cons_cons]at h;unfold lk;rcases Yl.1 h with e|e
  .rw[e];simp
  .have:=(Ycn.1 hn).1;rw[Yb (λe2=>this (by rw[<-e2];exact(List.of_mem_zip e).1))];exact ZqK (Ycn.1 hn).2 z e
theorem Z1O:∀{vs ys:WA} {u:Int},u ∉ vs->lk vs ys u=-1
 |[],_,_,_=>by simp[lk]
 |_::_,[],_,_=>by simp[lk]
 |v::vs,y::ys,u,h=>by
  unfold lk;rw[Yb (λe=>h (by simp[e]))];exact Z1O (λe=>h (by simp[e]))
theorem Z1P{vs ys:WA}(h:ys.length=vs.length){u:Int}(hu:u∈vs):∃z∈vs.zip ys,z.1=u:=by
 obtain⟨i,hi,rfl⟩:=Ycm hu;exact⟨(vs[i],ys[i]),by rw[List.mem_iff_getElem];exact⟨i,by rw[List.length_zip];omega,by simp⟩,rfl⟩
theorem lk_map{vs ys:WA}(hn:vs.Nodup)(h:ys.length=vs.length):vs.map (lk vs ys)=ys:=by
 refine Yca (by simp[h]) λi h1 h2=>?_
 rw[List.getElem_map];exact ZqK hn (vs[i]'(by simpa using h1),ys[i]) (by rw[List.mem_iff_getElem];exact⟨i,by rw[List.length_zip];simp at h1;omega,by simp⟩)
theorem ZCF{vs:WA}{f:Int->Int}:∀z∈vs.zip (vs.map f),z.2=f z.1:=by
 intro z hz;obtain⟨i,h1,rfl⟩:=Ycm hz;simp
theorem ZdB{avs vars y r:WA}:UY avs vars y r=true↔∀p∈avs.zip r,∀z∈vars.zip y,z.1=p.1->z.2=p.2:=by
 unfold UY;simp only[Yn,Yb6,decide_eq_true_eq];constructor
 .intro h p hp z hz e;rcases h p hp z hz with h|h
  .exact absurd e h
  .exact h
 .intro h p hp z hz;by_cases e:z.1=p.1
  .exact .inr (h p hp z hz e)
  .exact .inl e
theorem Zke{ps:List (Zq×Zc)}{vars y:WA}:okP ps vars y=true↔∀p∈ps,∃r∈p.1.Rows,UY p.2.Vars vars y r=true:=by
 unfold okP;simp only[Yn,List.any_eq_true]
theorem ZCG{d:Zn}{a:Zc}{t:Zq}(hf:XY d a=true)(h:X3 d a.Name=some t):∀r∈t.Rows,r.length=a.Vars.length/\∀y∈r,0<=y/\y<=9:=by
 obtain⟨hv,ht,_⟩:=Zjx h;have hT:=ZaZ hv ht;intro row hrow;unfold WO at hT;simp only[Ye]at hT;have:=Yn.1 hT.2.1 row hrow;unfold rwB at this;unfold XY at hf;rw[h]at hf;simp only[Ye,decide_eq_true_eq,Yn,dig,inR]at this hf;exact⟨by omega,λy hy=>this.1 y hy⟩
theorem ZqL{d:Zn}{m:Int}{n:Nat}:∀{ts:List Zc} {i:Nat},(∀a∈ts,(∀v∈a.Vars,0<=v/\v<n)/\XY d a=true)->∀p∈XF d m ts i,Z1J n p
 |[],_,_,p,hp=>by simp[XF]at hp
 |a::ts,i,h,p,hp=>by
  have ih:=ZqL (m:=m) (ts:=ts) (i:=i+1) (λb hb=>h b (by simp[hb])) p;unfold XF at hp
  cases e:X3 d a.Name with
  |none=>rw[e]at hp;exact ih hp
  |some t =>
   rw[e]at hp;simp only at hp;split at hp
   .rcases Yl.1 hp with e1|e1
    .rw[e1];exact⟨ZCG (h a (by simp)).2 e,(h a (by simp)).1⟩
    .exact ih e1
   .exact ih hp
theorem Z1Q(d:Zn)(q:Ze)(hf:Z6 d q=true)(m:Int)(hm:M16 m)(y:WA) :
  y∈Zjz d q m↔y.length=(ZI q m).length/\okP (XF d m q.Atoms 0) (ZI q m) y=true:=by
 unfold Z6 at hf;simp only[Ye,Yn]at hf;obtain⟨hv,hf⟩:=hf;have h4:=Xx hv;have hn:=UC hv
 have hav:∀a∈q.Atoms,(∀v∈a.Vars,0<=v/\v<(q.Zk.toNat:Nat))/\XY d a=true:=λa ha=>⟨λv hv1=>by
  have:=Zeg hv a ha v hv1;simp only[inR,Ye,decide_eq_true_eq]at this
  omega,hf a ha⟩
 have hps:=ZqL (m:=m) (i:=0) hav;have hmem:=Z1N d q hf m;have hnd:=Zg0 q m;have hE:Zqd d q m=Zbm (XF d m q.Atoms 0) [List.replicate q.Zk.toNat (-1)]:=Z1M d hm q.Atoms 0 _ (by omega) hf;have hG:=λx' hx=>Z1L (n:=q.Zk.toNat) (XF d m q.Atoms 0) [List.replicate q.Zk.toNat (-1)] x' hps (by simp) hx
 have hEl:=λx (hx:x∈Zqd d q m)=>(Zqe d m q.Zk.toNat q.Atoms 0 [List.replicate q.Zk.toNat (-1)] hf (by simp)).1 x hx
 have hrep:∀u:Int,0<=u->u<q.Zk.toNat->gi (List.replicate q.Zk.toNat (-1)) u=-1:=by
  intro u h0 h1;unfold gi;rw[Y5,List.getElem?_replicate,Ya (by omega)];rfl
 unfold Zjz;rw[Y2,Zke];constructor
 .rintro⟨x,hx,rfl⟩;have hxl:=hEl x hx;rw[hE,hG x hxl]at hx;obtain⟨x0,hx0,_,h2,_⟩:=hx;refine⟨by simp[selC],λp hp=>?_⟩;obtain⟨r,hr,hl⟩:=h2 p hp;refine⟨r,hr,ZdB.2 λa ha z hz e=>?_⟩;rw[ZCF (f:=λc=>x.getD c.toNat 0) z hz,<-hl a ha,e]
 .rintro⟨hl,ho⟩
  let x:WA:=(List.range q.Zk.toNat).map λu:Nat=>lk (ZI q m) y u
  have hxl:x.length=q.Zk.toNat:=by simp[x]
  have hxg:∀u:Int,0<=u->u<q.Zk.toNat->gi x u=lk (ZI q m) y u:=by
   intro u hu0 hu1;have e:((u.toNat:Nat):Int)=u:=by omega
   have hu2:u.toNat<q.Zk.toNat:=by omega
   show x.getD u.toNat 0=_;rw[Y5];simp[x,hu2,e]
  refine⟨x,?_,?_⟩
  .rw[hE,hG x hxl];refine⟨_,List.mem_singleton.2 rfl,λu h0 h1 h2=>absurd (hrep u h0 h1) h2,λp hp=>?_,λu h0 h1 h2=>?_⟩
   .obtain⟨r,hr,hfit⟩:=ho p hp;refine⟨r,hr,λa ha=>?_⟩;have ha1:=(List.of_mem_zip ha).1;have ha2:=(hps p hp).2 a.1 ha1;have ha3:=(hmem a.1).2 ⟨ha2,p,hp,ha1⟩;obtain⟨z,hz,hz1⟩:=Z1P hl ha3;rw[hxg _ ha2.1 ha2.2,<-hz1,ZqK hnd z hz];exact ZdB.1 hfit a ha z hz hz1
   .rw[hxg u h0 h1,hrep u h0 h1];refine Z1O λhu=>?_
    obtain⟨_,p,hp,hu⟩:=(hmem u).1 hu;exact h2 p hp hu
  .have:selC x (ZI q m)=(ZI q m).map (lk (ZI q m) y):=Ybe λu hu=>hxg u ((hmem u).1 hu).1.1 ((hmem u).1 hu).1.2
   exact this.trans (lk_map hnd hl)
theorem Zg1{ok:WA->Bool}(cc:∀a b,ok (a++b)=true->ok a=true):∀n row y,y∈wlk ok n row↔∃z:WA,z.length=n/\(∀c∈z,0<=c/\c<=9)/\y=row++z/\ok y=true
 |0,row,y=>by
  unfold wlk;constructor
  .intro h;split at h
   .rename_i e;rw[List.mem_singleton.1 h];exact⟨[],rfl,by simp,by simp,e⟩
   .cases h
  .rintro⟨z,hz,_,rfl,ho⟩
   have:z=[]:=Yck.1 hz
   subst this;rw[Ybd]at ho|-
   rw[Ya ho];simp
 |n+1,row,y=>by
  unfold wlk;constructor
  .intro h;split at h
   .obtain⟨v,hv,h⟩:=Ybv.1 h;obtain⟨z,h1,h2,h3,h4⟩:=(Zg1 cc n _ y).1 h;have:=List.mem_range'_1.1 hv;refine⟨(v:Int)::z,by simp[h1],?_,by simp[h3],h4⟩;intro c hc;rcases Yl.1 hc with e|e
    .rw[e];omega
    .exact h2 c e
   .cases h
  .rintro⟨z,hz,hc,rfl,ho⟩;rw[Ya (cc _ _ ho)]
   match z,hz,hc,ho with
   |v::z,hz,hc,ho =>
    have hv:=hc v (by simp);refine Ybv.2 ⟨v.toNat,List.mem_range'_1.2 (by omega),(Zg1 cc n _ _).2 ⟨z,by simpa using hz,λc h=>hc c (by simp[h]),?_,ho⟩⟩;rw[show((v.toNat:Nat):Int)=v by omega];simp
theorem Z1R{ok:WA->Bool}(c:∀a b,ok (a++b)=true->ok a=true):∀n row,(wlk ok n row).Nodup
 |0,row=>by unfold wlk;split<;>simp
 |n+1,row=>by
  unfold wlk;split
  .refine List.pairwise_flatMap.2 ⟨λv _=>Z1R c n _,?_⟩;refine(List.nodup_range' (s:=0) (n:=10) 1 (by decide)).imp ?_;intro a b hab x hx y hy e;obtain⟨z,_,_,h1,_⟩:=(Zg1 c n _ x).1 hx;obtain⟨z2,_,_,h2,_⟩:=(Zg1 c n _ y).1 hy;rw[h1,h2]at e;simp at e;omega
  .simp
theorem ZCH(ps:List (Zq×Zc))(cc:WA):∀a b,okP ps cc (a++b)=true->okP ps cc a=true:=by
 intro a b h;rw[Zke]at h|-;intro p hp;obtain⟨r,hr,h⟩:=h p hp;refine⟨r,hr,ZdB.2 λc hc z hz=>ZdB.1 h c hc z ?_⟩;obtain⟨i,h1,rfl⟩:=Ycm hz;rw[List.length_zip]at h1;rw[List.mem_iff_getElem];exact⟨i,by rw[List.length_zip,Ym];omega,by simp only[List.getElem_zip];rw[List.getElem_append_left]⟩
theorem ZCI(d:Zn)(q:Ze)(hf:Z6 d q=true)(m:Int)(hm:M16 m)(ys:XS)(hy:ys.Nodup)(he:∀y,y∈ys↔y∈Zjz d q m):ys.length=(Zgr d q m).length:=by
 have mono:=ZCH (XF d m q.Atoms 0) (ZI q m);refine List.Perm.length_eq ((List.perm_ext_iff_of_nodup hy (Z1R mono _ _)).2 λy=>?_);rw[he y,Z1Q d q hf m hm];rw[Zg1 mono];constructor
 .rintro⟨hl,ho⟩;refine⟨y,hl,λc hc=>?_,rfl,ho⟩;unfold Z6 at hf;simp only[Ye,Yn]at hf;obtain⟨hv,hf⟩:=hf;obtain⟨j,hj,rfl⟩:=Ycm hc;have hjv:j<(ZI q m).length:=by omega
  obtain⟨_,p,hp,hu⟩:=(Z1N d q hf m _).1 (Yh hjv);obtain⟨r,hr,hfit⟩:=Zke.1 ho p hp
  have hP:=ZqL (n:=q.Zk.toNat) (m:=m) (i:=0) (λa ha=>⟨λv hv1=>by
   have:=Zeg hv a ha v hv1;simp only[inR,Ye,decide_eq_true_eq]at this
   omega,hf a ha⟩) p hp
  obtain⟨a,ha,ha1⟩:=Z1P (hP.1 r hr).1 hu;have:=ZdB.1 hfit a ha ((ZI q m)[j],y[j]) (by rw[List.mem_iff_getElem];exact⟨j,by rw[List.length_zip];omega,by simp⟩) ha1.symm;simp only at this;rw[this];exact(hP.1 r hr).2 _ (List.of_mem_zip ha).2
 .rintro⟨z,h1,_,h2,h3⟩;rw[Ybk]at h2;subst h2;exact⟨h1,h3⟩
end Go.Proofs.YtgbipcfdgfjplaaGreat
