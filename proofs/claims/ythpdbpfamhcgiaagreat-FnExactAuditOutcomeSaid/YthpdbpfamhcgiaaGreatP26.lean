/-
  Parts of the proofs for this seat: DB LQ.
-/
import Derived.Test.YthpdbpfamhcgiaaGreatP25
set_option linter.all false
set_option maxRecDepth 100000
set_option maxHeartbeats 4000000
namespace Go.Proofs.YthpdbpfamhcgiaaGreat
open Go.AM
theorem wS{i n:Nat}(h:i<n)(hn:n<=1099511627776):w ((i:Int)+1)=((i+1:Nat):Int):=by
 grind [ZL]
theorem gE{α:Type}{xs:List α}{i:Nat}(h:i<xs.length):xs[(i:Int).toNat]?=some xs[i]:=by rw[Yh];exact Yf h
abbrev dig(v:Int):Bool:=inR v 0 9
def rwB(n:Int)(r:V6):Bool:=r.all dig && decide ((r.length:Int)=n)
def ZMR(r:V6)(n:Int)(hl:Le r):∀i,i<=r.length->Zi1 r n r r.length i=some (Bo ((r.drop i).all dig && decide ((r.length:Int)=n)),[]):=by
 refine down _ ?_ ?_
 .simp[W9.2.2.1.2]
 .intro i hi ih;apply W9.2.2.1.2;rw[Ypx,Yi hi,Y5,wS hi hl]
  simp_all
@[simp] def Z9m(r:V6)(n:Int)(hl:Le r):ZcO r n=some (Bo (rwB n r),[]):=W9.2.2.2.1 _ _ _ (by simpa[rwB]using ZMR r n hl 0 (Yc _))
def ZMS(r:V6)(n:Int)(hl:Le r):∀i,i<=r.length->ZjR r n i=some (Bo ((r.drop i).all dig && decide ((r.length:Int)=n)),[]):=by
 refine down _ ?_ ?_
 .simp[Wl.1.2.1.1]
 .intro i hi ih;apply Wl.1.2.1.1;rw[Ypx,Yi hi,Y5,wS hi hl]
  simp_all
@[simp] def Z9n(r:V6)(n:Int)(hl:Le r):ZfN r n=some (Bo (rwB n r),[]):=Wl.1.2.1.2 _ _ _ (by simpa[rwB]using ZMS r n hl 0 (Yc _))
def x_cmp(a b:Int):Zi2 a b=some (I (if a<b then -1 else if b<a then 1 else 0),[]):=by
 refine W9.2.2.2.2.2 _ _ _ ⟨_,W9.2.2.2.2.1 _ _ rfl,_,W9.2.2.2.2.1 _ _ rfl,?_⟩
 simp_all
def ZMT(a b:V6)(ha:Le a)(hb:Le b):∀i,i<=a.length->i<=b.length->Zi3 a b a a.length i=some (I (Xv (a.drop i) (b.drop i)),[]):=by
 refine down _ ?_ ?_
 .intro h;apply X9.1.1.1.1;rw[Ynx,Yk];by_cases h2:(a.length:Int)<(b.length:Int)
  .rw[Ya h2,Yi (l:=b) (i:=a.length) (by omega)];rfl
  .rw[Yb h2,show a.length=b.length by omega,Yk];rfl
 .intro i hi ih h;apply X9.1.1.1.1;rw[Ypx,Yi hi,wS hi ha];refine⟨by omega,_,gE hi,?_⟩;by_cases h2:(b.length:Int)<=(i:Int)
  .rw[Ya h2,show b.drop i=[]from Ybk (by omega)];rfl
  .have hj:i<b.length:=by omega
   rw[Yb h2,Yi hj];refine⟨_,gE hj,_,x_cmp _ _,?_⟩;unfold Xv
   grind
@[simp] def ZMU(a b:V6)(ha:Le a)(hb:Le b):Zni a b=some (I (Xv a b),[]) :=
 X9.1.1.2.1 _ _ _ ⟨_,X9.1.1.1.2 _ _ _ (by simpa using ZMT a b ha hb 0 (Yc _) (Yc _)),rfl⟩
theorem Z9o(a b:V6)(i:Nat)(ha:i<=a.length)(hb:i<=b.length)(h:i=a.length\/i=b.length):ZjT a b i false=some (I (Xv (a.drop i) (b.drop i)),[]):=by
 apply Wl.1.2.2.2.1;by_cases h1:(a.length:Int)<(b.length:Int)
 .rw[Ya h1,show a.drop i=[]from Ybk (by omega),Yi (l:=b) (i:=i) (by omega)];rfl
 .rw[Yb h1];by_cases h2:(b.length:Int)<(a.length:Int)
  .rw[Ya h2,show b.drop i=[]from Ybk (by omega),Yi (l:=a) (i:=i) (by omega)];rfl
  .rw[Yb h2,show a.drop i=[]from Ybk (by omega),show b.drop i=[]from Ybk (by omega)];rfl
def ZMV(a b:V6)(ha:Le a)(hb:Le b):∀i,i<=a.length->i<=b.length->ZjS a b i=some (I (Xv (a.drop i) (b.drop i)),[]):=by
 refine down _ ?_ ?_
 .simp_all [Wl.1.2.2.1,Z9o,Yj]
 .intro i hi ih h;apply Wl.1.2.2.1;rw[Ypx];by_cases h2:(i:Int)<(b.length:Int)
  .have hj:i<b.length:=by omega
   rw[Ya h2];refine⟨by omega,_,gE hi,_,gE hj,?_⟩;rw[wS hi ha,Yi hi,Yi hj];unfold Xv
   grind
  .grind [Z9o]
@[simp] def ZaD(a b:V6)(ha:Le a)(hb:Le b):U6 a b=some (I (Xv a b),[]) :=
 Wl.1.2.2.2.2 _ _ _ (by simpa using ZMV a b ha hb 0 (Yc _) (Yc _))
def pvA{α:Type}(xs:List α):Nat->Option α
 |0=>none
 |k+1=>xs[k]?
def nxt{α:Type}(lt:α->α->Bool)(p:Option α)(x:α):Bool:=match p with
 |none=>true
 |some q=>lt q x
def VJ{α:Type}(lt:α->α->Bool):Option α->List α->Bool
 |_,[]=>true
 |p,x::xs=>nxt lt p x && VJ lt (some x) xs
def Zpv{α:Type}(lt:α->α->Bool){xs:List α}{i:Nat}(hi:i<xs.length):VJ lt (pvA xs i) (xs.drop i)=(nxt lt (pvA xs i) xs[i] && VJ lt (pvA xs (i+1)) (xs.drop (i+1))):=by
 rw[Yi hi,VJ,show pvA xs (i+1)=some xs[i]from Yf hi]
def ltR(a b:V6):Bool:=decide (Xv a b<0)
abbrev LeT(t:Zt):Prop:=Le t.Rows/\∀r∈t.Rows,Le r
def wP{i n:Nat}(h0:0<i)(h:i<n)(hn:n<=1099511627776):w ((i:Int)-1)=((i-1:Nat):Int):=by
 grind [ZL]
def ZaE{α:Type}{xs:List α}{i:Nat}(h0:0<i)(h:i-1<xs.length):pvA xs i=some xs[i-1]:=by
 obtain⟨k,rfl⟩:∃k,i=k+1:=⟨i-1,by omega⟩;exact Yf h
def ZMW(rows:V4)(hl:Le rows)(hr:∀r∈rows,Le r):∀i,i<=rows.length->0<i->Zi4 rows i=some (Bo (VJ ltR (pvA rows i) (rows.drop i)),[]):=by
 refine down _ ?_ ?_
 .intro h0;apply X9.1.1.2.2;rw[Ynx];simp[VJ]
 .intro i hi ih h0;have hp:i-1<rows.length:=by omega
  have ih':=ih (by omega);apply X9.1.1.2.2;rw[Ypx,wP h0 hi hl,wS hi hl,Zpv _ hi,ZaE h0 hp];refine⟨by omega,_,gE hp,by omega,_,gE hi,_,ZMU _ _ (hr _ (Ye hp)) (hr _ (Ye hi)),?_⟩;unfold nxt ltR at *
  grind
def ZMX(rows:V4)(hl:Le rows)(hr:∀r∈rows,Le r):Znj rows=some (Bo (VJ ltR none rows),[]):=by
 apply X9.1.2.1.1
 cases rows with
 |nil=>apply X9.1.1.2.2;rw[Yb (by simp)];rfl
 |cons r rs=>exact ZMW (r::rs) hl hr 1 (by simp) (by omega)
def XU(t:Zt):Bool:=UT t.Zq && inR t.Zu 1 3 && decide ((t.Rows.length:Int)<=8) && (t.Rows.all (rwB t.Zu) && VJ ltR none t.Rows)
def ZMY(t:Zt)(h:LeT t):∀i,i<=t.Rows.length->Zi5 t t.Rows t.Rows.length i=some (Bo ((t.Rows.drop i).all (rwB t.Zu) && (UT t.Zq && inR t.Zu 1 3 && decide ((t.Rows.length:Int)<=8) && VJ ltR none t.Rows)),[]):=by
 refine down _ ?_ ?_
 .apply X9.1.2.1.2
  simp_all [ZLW,tf,X0,ZMX]
 .intro i hi ih;apply X9.1.2.1.2;rw[Ypx,Yi hi,Y5,wS hi h.1];refine⟨by omega,_,gE hi,_,Z9m _ _ (h.2 _ (Ye hi)),?_⟩
  simp_all
@[simp] def ZzW(t:Zt)(h:LeT t):Zbv t=some (Bo (XU t),[]):=by
 apply X9.1.2.2.1;rw[show(0:Int)=((0:Nat):Int)from rfl,ZMY t h 0 (Yc _)];unfold XU
 grind
def ZMZ(t:Zt)(h:LeT t):∀i,i<=t.Rows.length->ZfO t i=some (Bo ((t.Rows.drop i).all (rwB t.Zu) && VJ ltR (pvA t.Rows i) (t.Rows.drop i)),[]):=by
 refine down _ ?_ ?_
 .apply Wl.2.1.1.1;rw[Ynx];simp[VJ]
 .intro i hi ih;have hr:=h.2 _ (Ye hi);apply Wl.2.1.1.1;rw[Zpv _ hi,Ypx,Yi hi,Y5,wS hi h.1];refine⟨by omega,_,gE hi,_,Z9n _ _ hr,?_⟩;rcases tf (rwB t.Zu t.Rows[i])with e|e
  .rw[e];simp
  rw[e,Ya rfl];by_cases h0:0<i
  .have hp:i-1<t.Rows.length:=by omega
   rw[Ypx,wP h0 hi h.1,ZaE h0 hp];refine⟨by omega,_,gE hp,_,ZaD _ _ (h.2 _ (Ye hp)) hr,?_⟩;unfold nxt ltR at *
   grind
  .have:i=0:=by omega
   subst this;rw[Ynx,ih];simp[pvA,nxt]
@[simp] def ZzX(t:Zt)(h:LeT t):Zd5 t=some (Bo (XU t),[]):=by
 refine Wl.2.1.1.2 _ _ ⟨_,Z9e _,?_⟩;unfold XU;rcases tf (UT t.Zq)with e1|e1
 .rw[e1];simp
 rw[e1,Ya rfl];refine⟨_,Xx _ _ _,?_⟩;rcases tf (inR t.Zu 1 3)with e2|e2
 .rw[e2];simp
 rw[e2,Ya rfl];by_cases e3:8<(t.Rows.length:Int)
 .grind
 .rw[Yb e3];have:=ZMZ t h 0 (Yc _);refine Yd this ?_;simp[show(t.Rows.length:Int)<=8 by omega,pvA]
def ltN(a b:Zt):Bool:=Op.bytesLess a.Zq.toList b.Zq.toList
abbrev LeD(d:Zp):Prop:=Le d.Z6/\∀t∈d.Z6,LeT t
def WK(d:Zp):Bool:=d.Z6.all XU && VJ ltN none d.Z6 && decide ((d.Z6.length:Int)<=6)
def ZNa(d:Zp)(h:LeD d):∀i,i<=d.Z6.length->Zi6 d d.Z6 d.Z6.length i=some (Bo ((d.Z6.drop i).all XU && VJ ltN (pvA d.Z6 i) (d.Z6.drop i) && decide ((d.Z6.length:Int)<=6)),[]):=by
 refine down _ ?_ ?_
 .apply X9.1.2.2.2.1;rw[Ynx];simp[VJ]
 .intro i hi ih;apply X9.1.2.2.2.1;rw[Zpv _ hi,Ypx,Yi hi,Y5,wS hi h.1];refine⟨by omega,_,gE hi,_,ZzW _ (h.2 _ (Ye hi)),?_⟩;rcases tf (XU d.Z6[i])with e|e
  .rw[e];simp
  rw[e,Ya rfl];by_cases h0:0<i
  .have hp:i-1<d.Z6.length:=by omega
   rw[Ypx,wP h0 hi h.1,ZaE h0 hp];refine⟨by omega,_,gE hp,?_⟩;unfold nxt ltN at *
   simp_all
  .have:i=0:=by omega
   subst this;rw[Ynx,ih];simp[pvA,nxt]
@[simp] def Z9p(d:Zp)(h:LeD d):ZcP d=some (Bo (WK d),[]):=by
 apply X9.1.2.2.2.2;have:=ZNa d h 0 (Yc _);refine Yd this ?_;unfold WK;simp[pvA]
def ZNb(d:Zp)(h:LeD d):∀i,i<=d.Z6.length->ZfQ d i=some (Bo ((d.Z6.drop i).all XU && VJ ltN (pvA d.Z6 i) (d.Z6.drop i) && decide ((d.Z6.length:Int)<=6)),[]):=by
 refine down _ ?_ ?_
 .apply Wl.2.1.2.1;rw[Ynx];simp[VJ]
 .intro i hi ih;apply Wl.2.1.2.1;rw[Zpv _ hi,Ypx,Yi hi,Y5,wS hi h.1];refine⟨by omega,_,gE hi,_,ZzX _ (h.2 _ (Ye hi)),?_⟩;rcases tf (XU d.Z6[i])with e|e
  .rw[e];simp
  rw[e,Ya rfl];by_cases h0:0<i
  .have hp:i-1<d.Z6.length:=by omega
   rw[Ypx,wP h0 hi h.1,ZaE h0 hp];refine⟨by omega,_,gE hp,?_⟩;unfold nxt ltN at *
   simp_all
  .have:i=0:=by omega
   subst this;rw[Ynx,ih];simp[pvA,nxt]
@[simp] def Z9q(d:Zp)(h:LeD d):ZfP d=some (Bo (WK d),[]):=by
 apply Wl.2.1.2.2;have:=ZNb d h 0 (Yc _);refine Yd this ?_;unfold WK;simp[pvA]
def X7(d:Zp)(n:YA):Option Zt:=if WK d=true then d.Z6.find? (λt=>decide (t.Zq=n))else none
def ZNc(xs:V4)(hx:Le xs)(hr:∀r∈xs,r.length<=4)(hl:xs.length<=1000000):∀i,i<=xs.length->Zfe (xs.take i) xs xs.length i=some (.own 0,[.arr 40 1 true (xs.map isc)]):=by
 refine down _ ?_ ?_
 .simp[X9.2.2.2.2.2,Y2]
 .intro i hi ih;apply X9.2.2.2.2.2;rw[Ypx,wS hi hx];have:=hr _ (Ye hi);refine⟨by omega,_,gE hi,_,Zeg _ (by omega),by rw[Ybo];omega,?_⟩
  simp_all
def Zpw(xs:V4)(hr:∀r∈xs,r.length<=4)(hl:xs.length<=1000000):Zbw xs=some (.own 0,[.arr 40 1 true (xs.map isc)]) :=
 Jc.1.1 _ _ (by simpa using ZNc xs (by omega) hr hl 0 (Yc _))
def Z9r{α:Type}(p:α->Bool):∀(xs:List α) (i:Nat),match xs.find? p with
  |none=>XZ p xs i=-1
  |some x=>∃j,XZ p xs i=((i+j:Nat):Int)/\xs[j]?=some x
 |[],i=>by simp[XZ]
 |x::xs,i=>by
  unfold XZ;rw[List.find?_cons];rcases tf (p x)with e|e
  .rw[e,Yb (by simp)];have:=Z9r p xs (i+1);revert this;simp only
   cases xs.find? p with
   |none=>exact id
   |some y=>rintro⟨j,h1,h2⟩;exact⟨j+1,by rw[h1];congr 1;omega,by simpa using h2⟩
  .rw[e,Ya rfl];exact⟨0,rfl,rfl⟩
def l_idxT(s:List Zt)(n:YA)(hs:Le s):∀i,i<=s.length->ZiJ s n s.length i=some (I (XZ (λt=>decide (t.Zq=n)) (s.drop i) i),[]):=by
 refine down _ ?_ ?_
 .apply ZgT.1.1;rw[Ynx];simp[XZ]
 .intro i hi ih;apply ZgT.1.1;rw[Ypx,Zii _ hi,wS hi hs]
  simp_all [gE,Ve.2.2.2.2.2]
def lookR(o:Option Zt):V3:=match o with
 |none=>(.tup [.agg [.t (.str ⟨#[]⟩),I 0,.t .nil],Bo false],[])
 |some t=>(.tup [.agg [.t (.str t.Zq),I t.Zu,.own 0],Bo true],[.arr 40 1 true (t.Rows.map isc)])
def Qx{d:Zp}(hv:WK d=true){t:Zt}(ht:t∈d.Z6):XU t=true:=by
 unfold WK at hv
 simp_all
def Zei{t:Zt}(h:XU t=true):t.Rows.length<=8:=by
 unfold XU at h
 grind
def Z9s{t:Zt}(h:XU t=true):∀r∈t.Rows,r.length<=3:=by
 intro r hr;unfold XU at h;simp only[Yg]at h;have h1:=Yl.1 h.2.1 r hr;have h2:=h.1.1.2;unfold rwB at h1;simp only[inR,Yg,decide_eq_true_eq]at h1 h2;omega
def Zej{d:Zp}{n:YA}{t:Zt}(h:X7 d n=some t):WK d=true/\t∈d.Z6/\t.Zq=n:=by
 unfold X7 at h
 grind
def ZaF(d:Zp)(h:LeD d)(n:YA):Vm d n=some (lookR (X7 d n)):=by
 have hi:=ZgT.1.2 _ _ _ (by simpa using l_idxT d.Z6 n h.1 0 (Yc _));have hf:=Z9r (λt:Zt=>decide (t.Zq=n)) d.Z6 0;refine ZgT.2.2.1 _ _ _ ⟨_,hi,?_⟩;unfold X7
 cases hq:d.Z6.find? (λt=>decide (t.Zq=n))with
 |none =>
  rw[hq]at hf;simp only at hf;rw[hf,Ypx]
  split<;>rfl
 |some t =>
  rw[hq]at hf;obtain⟨j,h1,h2⟩:=hf;rw[Yv]at h1;rw[h1,Ynx];refine⟨_,Z9p d h,?_⟩;rcases tf (WK d)with e|e
  .rw[e];rfl
  .rw[e,Ya rfl,Ya rfl];have hm:=Y8 h2;have hT:=h.2 t hm;have h8:=Zei (Qx e hm);refine⟨by omega,t,by rw[Yh];exact h2,_,_,_,ZgT.2.1 _ _ ⟨_,Zpw t.Rows (λr hr=>by have:=Z9s (Qx e hm) r hr;omega) (by omega),rfl⟩,rfl⟩
def ZNd(t:Zt)(h:LeT t)(h8:t.Rows.length<=8)(h3:∀r∈t.Rows,r.length<=3)(a a':YA)(b b':Int):∀i,i<=t.Rows.length->Zkk t a b a' b' (t.Rows.take i) i=some (.agg [.t (.str a'),I b',.own 0],[.arr 40 1 true (t.Rows.map isc)]):=by
 refine down _ ?_ ?_
 .simp[WI.2.1.1.1,Y2]
 .intro i hi ih;apply WI.2.1.1.1;rw[Ypx,wS hi h.1];have:=h3 _ (Ye hi);rw[Yp hi]at ih
  grind
def ZNe(t:Zt)(h:LeT t)(h8:t.Rows.length<=8)(h3:∀r∈t.Rows,r.length<=3):Zkj t=some (if t.Rows=[]then(.agg [.t (.str t.Zq),I t.Zu,.t .nil],[])else(.agg [.t (.str t.Zq),I t.Zu,.own 0],[.arr 40 1 true (t.Rows.map isc)])):=by
 apply WI.2.1.1.2;apply WI.1.2.2.2.2;by_cases e:t.Rows=[]
 .simp_all
 .have h0:0<t.Rows.length:=Yc5.2 e;have:=h3 _ (Ye h0);rw[Ypx,Yb e];refine⟨by omega,_,gE h0,by omega,?_⟩;have:=ZNd t h h8 h3 ⟨#[]⟩ t.Zq 0 t.Zu 1 (by omega);rw[Yp h0]at this;rw[show w (0+1)=1 from by decide];simpa using this
def QQ(o:Option Zt):V3:=match o with
 |none=>(.tup [.agg [.t (.str ⟨#[]⟩),I 0,.t .nil],Bo false],[])
 |some t=>if t.Rows=[]then(.tup [.agg [.t (.str t.Zq),I t.Zu,.t .nil],Bo true],[])else(.tup [.agg [.t (.str t.Zq),I t.Zu,.own 0],Bo true],[.arr 40 1 true (t.Rows.map isc)])
def ZNf(d:Zp)(h:LeD d)(n:YA):∀i,i<=d.Z6.length->Zkl d ⟨#[]⟩ 0 n i=some (QQ (if WK d=true then(d.Z6.drop i).find? (λt=>decide (t.Zq=n))else none)):=by
 refine down _ ?_ ?_
 .apply WI.2.1.2.1;rw[Ynx,Yk];split<;>rfl
 .intro i hi ih;apply WI.2.1.2.1;rw[Ypx,wS hi h.1];refine⟨_,Z9q d h,?_⟩;rcases tf (WK d)with e|e
  .rw[e];rfl
  rw[e,Ya rfl]at ih|-;rw[Ya rfl,Yi hi,List.find?_cons];have hm:=Ye hi;refine⟨by omega,_,gE hi,?_⟩;by_cases e2:d.Z6[i].Zq=n
  .rw[Ya e2];have hc:=ZNe _ (h.2 _ hm) (Zei (Qx e hm)) (Z9s (Qx e hm));simp only[e2,decide_true,QQ]
   grind
  .simp_all
def ZaG(d:Zp)(h:LeD d)(n:YA):WX d n=some (QQ (X7 d n)) :=
 WI.2.1.2.2 _ _ _ (by simpa[X7]using ZNf d h n 0 (Yc _))
def WZ(d:Zp)(a:Ze):Bool:=match X7 d a.Zq with
 |none=>false
 |some t=>decide (t.Zu=(a.Za.length:Int))
def Xp(d:Zp)(q:Zf):Bool:=Z9 q.Zk q.Zb && q.Zb.all (WZ d)
def ZNg(d:Zp)(h:LeD d)(q:Zf)(hq:LeQ q):∀i,i<=q.Zb.length->ZiV d q.Zb q.Zb.length i=some (Bo ((q.Zb.drop i).all (WZ d)),[]):=by
 refine down _ ?_ ?_
 .simp[WQ.1.1.2.1]
 .intro i hi ih;apply WQ.1.1.2.1;rw[Ypx,Yi hi,Y5,wS hi hq.1];refine⟨by omega,_,gE hi,?_⟩;have hk:=ZaF d h q.Zb[i].Zq;unfold WZ at ih|-
  cases e:X7 d q.Zb[i].Zq with
  |none =>
   rw[e]at hk
   refine .inl ⟨_,_,hk,by simp⟩
  |some t =>
   rw[e]at hk;refine .inr ⟨_,_,_,hk,?_⟩
   simp_all
@[simp] theorem ZbS(d:Zp)(h:LeD d)(q:Zf)(hq:LeQ q):Qr d q=some (Bo (Xp d q),[]):=by
 refine WQ.1.1.2.2 _ _ _ ⟨_,ZgX q hq,?_⟩;unfold Xp;rcases tf (Z9 q.Zk q.Zb)with e|e
 .rw[e];simp
 .rw[e,Ya rfl];have:=ZNg d h q hq 0 (Yc _)
  simp_all
def ZNh(d:Zp)(h:LeD d)(q:Zf)(hq:LeQ q):∀i,i<=q.Zb.length->Zgh d q i=some (Bo ((q.Zb.drop i).all (WZ d)),[]):=by
 refine down _ ?_ ?_
 .simp[W6.1.1.2.2]
 .intro i hi ih;apply W6.1.1.2.2;rw[Ypx,Yi hi,Y5,wS hi hq.1];refine⟨by omega,_,gE hi,?_⟩;have hk:=ZaG d h q.Zb[i].Zq;unfold WZ at ih|-
  cases e:X7 d q.Zb[i].Zq with
  |none =>
   rw[e]at hk
   refine .inl ⟨_,_,_,hk,by simp⟩
  |some t =>
   rw[e]at hk;simp only[QQ]at hk
   grind
@[simp] theorem ZaH(d:Zp)(h:LeD d)(q:Zf)(hq:LeQ q):QN d q=some (Bo (Xp d q),[]):=by
 refine W6.1.2.1.1 _ _ _ ⟨_,ZgY q hq,?_⟩;unfold Xp;rcases tf (Z9 q.Zk q.Zb)with e|e
 .rw[e];simp
 .rw[e,Ya rfl];have:=ZNh d h q hq 0 (Yc _)
  simp_all
def ZbT{α:Type}[DecidableEq α]{xs ys:List α}{i:Nat}(h1:i<xs.length)(h2:i<ys.length):decide (xs.drop i=ys.drop i)=(decide (xs[i]=ys[i]) && decide (xs.drop (i+1)=ys.drop (i+1))):=by
 grind [List.drop_eq_getElem_cons,List.cons.injEq,Bool.decide_and]
def l_slEq(xs ys:V6)(hl:ys.length=xs.length)(hx:xs.length<=4294967296):∀i,i<=xs.length->ZiC xs ys xs.length i=some (Bo (decide (xs.drop i=ys.drop i)),[]):=by
 refine down _ ?_ ?_
 .simp_all [Jc.1.2.2,Yk]
 .intro i hi ih;have hi':i<ys.length:=by omega
  apply Jc.1.2.2;rw[Ypx,wS hi (by omega),ZbT hi hi']
  simp_all
def Zhj(xs ys:V6)(hx:xs.length<=4294967296):Kj xs ys=some (Bo (decide (xs=ys)),[]):=by
 apply Jc.2.1.1;by_cases c:(xs.length:Int)=(ys.length:Int)
 .rw[Ya c];simpa using l_slEq xs ys (by omega) hx 0 (Yc _)
 .rw[Yb c]
  have:¬xs=ys:=λhc=>c (by rw[hc])
  simp[this]
