/-
  Parts of the proofs for this seat: DB CM CE EWx SFx UA.
-/
import Derived.Lib.Walk
import Derived.Sort.Walk0
import Derived.Test.YthdihnbeifcppaaGreatP24
set_option linter.all false
set_option maxRecDepth 100000
set_option maxHeartbeats 4000000
namespace Go.Proofs.YthdihnbeifcppaaGreat
open Go.AM
def wS{i n:Nat}(h:i<n)(hn:n<=1099511627776):w ((i:Int)+1)=((i+1:Nat):Int):=by
 rw[show w ((i:Int)+1)=(i:Int)+1 from Z1 (by omega) (by omega)];simp
def gE{α:Type}{xs:List α}{i:Nat}(h:i<xs.length):xs[(i:Int).toNat]?=some xs[i]:=by rw[Yk];exact Yf h
abbrev dig(v:Int):Bool:=inR v 0 9
def rwB(n:Int)(r:V6):Bool:=r.all dig && decide ((r.length:Int)=n)
def ZGw(r:V6)(n:Int)(hl:Le r):∀i,i<=r.length->Zf0 r n r r.length i=some (Bo ((r.drop i).all dig && decide ((r.length:Int)=n)),[]):=by
 refine down _ ?_ ?_
 .apply VL.2.1.2.2;rw[Ynx];simp
 .intro i hi ih;apply VL.2.1.2.2;rw[Ypx,Yi hi,Ybh,wS hi hl];refine⟨by omega,_,gE hi,_,XX _ _ _,?_⟩;rcases tf (inR r[i] 0 9)with e|e
  .rw[e];simp[dig,e]
  .rw[e,Ya rfl,ih];simp[dig,e]
@[simp] def Z2E(r:V6)(n:Int)(hl:Le r):Zbw r n=some (Bo (rwB n r),[]):=VL.2.2.1 _ _ _ (by simpa[rwB]using ZGw r n hl 0 (Yd _))
def ZGx(r:V6)(n:Int)(hl:Le r):∀i,i<=r.length->ZgL r n i=some (Bo ((r.drop i).all dig && decide ((r.length:Int)=n)),[]):=by
 refine down _ ?_ ?_
 .apply Qi.2.2.2.1;rw[Ynx];simp
 .intro i hi ih;apply Qi.2.2.2.1;rw[Ypx,Yi hi,Ybh,wS hi hl];refine⟨by omega,_,gE hi,_,Wo _ _ _,?_⟩;rcases tf (inR r[i] 0 9)with e|e
  .rw[e];simp[dig,e]
  .rw[e,Ya rfl,ih];simp[dig,e]
@[simp] def Z2F(r:V6)(n:Int)(hl:Le r):ZbH r n=some (Bo (rwB n r),[]):=Qi.2.2.2.2 _ _ _ (by simpa[rwB]using ZGx r n hl 0 (Yd _))
def x_cmp(a b:Int):ZjN a b=some (I (if a<b then -1 else if b<a then 1 else 0),[]):=by
 refine Wh.1.1.1.1 _ _ _ ⟨_,VL.2.2.2.2 _ _ rfl,_,VL.2.2.2.2 _ _ rfl,?_⟩;rw[Yb (by simp),Yb (by simp)];by_cases h1:a<b
 .rw[Ya h1,Ya h1]
 .rw[Yb h1,Yb h1];by_cases h2:b<a
  .rw[Ya h2,Ya h2]
  .rw[Yb h2,Yb h2]
def ZGy(a b:V6)(ha:Le a)(hb:Le b):∀i,i<=a.length->i<=b.length->Zf2 a b a a.length i=some (I (ZT (a.drop i) (b.drop i)),[]):=by
 refine down _ ?_ ?_
 .intro h;apply Wh.1.1.1.2;rw[Ynx,Yo];by_cases h2:(a.length:Int)<(b.length:Int)
  .rw[Ya h2,Yi (l:=b) (i:=a.length) (by omega)];rfl
  .rw[Yb h2,show a.length=b.length by omega,Yo];rfl
 .intro i hi ih h;apply Wh.1.1.1.2;rw[Ypx,Yi hi,wS hi ha];refine⟨by omega,_,gE hi,?_⟩;by_cases h2:(b.length:Int)<=(i:Int)
  .rw[Ya h2,show b.drop i=[]from Yb1 (by omega)];rfl
  .have hj:i<b.length:=by omega
   rw[Yb h2,Yi hj];refine⟨_,gE hj,_,x_cmp _ _,?_⟩;unfold ZT;by_cases e1:a[i]<b[i]
   .rw[Ya e1,Ya e1];rfl
   .rw[Yb e1,Yb e1];by_cases e2:b[i]<a[i]
    .rw[Ya e2,Ya e2];rfl
    .rw[Yb e2,Yb e2,Ya rfl];exact ih (by omega)
@[simp] def ZGz(a b:V6)(ha:Le a)(hb:Le b):ZjO a b=some (I (ZT a b),[]) :=
 Wh.1.1.2.2 _ _ _ ⟨_,Wh.1.1.2.1 _ _ _ (by simpa using ZGy a b ha hb 0 (Yd _) (Yd _)),rfl⟩
def Z2G(a b:V6)(i:Nat)(ha:i<=a.length)(hb:i<=b.length)(h:i=a.length\/i=b.length):ZgN a b i false=some (I (ZT (a.drop i) (b.drop i)),[]):=by
 apply X9.1.1.1.2;by_cases h1:(a.length:Int)<(b.length:Int)
 .rw[Ya h1,show a.drop i=[]from Yb1 (by omega),Yi (l:=b) (i:=i) (by omega)];rfl
 .rw[Yb h1];by_cases h2:(b.length:Int)<(a.length:Int)
  .rw[Ya h2,show b.drop i=[]from Yb1 (by omega),Yi (l:=a) (i:=i) (by omega)];rfl
  .rw[Yb h2,show a.drop i=[]from Yb1 (by omega),show b.drop i=[]from Yb1 (by omega)];rfl
def ZG0(a b:V6)(ha:Le a)(hb:Le b):∀i,i<=a.length->i<=b.length->ZgM a b i=some (I (ZT (a.drop i) (b.drop i)),[]):=by
 refine down _ ?_ ?_
 .intro h;apply X9.1.1.1.1;rw[Ynx];exact Z2G a b _ (Yh _) h (.inl rfl)
 .intro i hi ih h;apply X9.1.1.1.1;rw[Ypx];by_cases h2:(i:Int)<(b.length:Int)
  .have hj:i<b.length:=by omega
   rw[Ya h2];refine⟨by omega,_,gE hi,_,gE hj,?_⟩;rw[wS hi ha,Yi hi,Yi hj];unfold ZT;by_cases e1:a[i]<b[i]
   .rw[Ya e1,Ya e1]
   .rw[Yb e1,Yb e1];by_cases e2:b[i]<a[i]
    .rw[Ya e2,Ya e2]
    .rw[Yb e2,Yb e2];exact ih (by omega)
  .rw[Yb h2];exact Z2G a b _ (by omega) h (.inr (by omega))
@[simp] def JA(a b:V6)(ha:Le a)(hb:Le b):Uj a b=some (I (ZT a b),[]) :=
 X9.1.1.2.1 _ _ _ (by simpa using ZG0 a b ha hb 0 (Yd _) (Yd _))
def pvA{α:Type}(xs:List α):Nat->Option α
 |0=>none
 |k+1=>xs[k]?
def nxt{α:Type}(lt:α->α->Bool)(p:Option α)(x:α):Bool:=match p with
 |none=>true
 |some q=>lt q x
def XU{α:Type}(lt:α->α->Bool):Option α->List α->Bool
 |_,[]=>true
 |p,x::xs=>nxt lt p x && XU lt (some x) xs
def ZlO{α:Type}(lt:α->α->Bool){xs:List α}{i:Nat}(hi:i<xs.length):XU lt (pvA xs i) (xs.drop i)=(nxt lt (pvA xs i) xs[i] && XU lt (pvA xs (i+1)) (xs.drop (i+1))):=by
 rw[Yi hi,XU,show pvA xs (i+1)=some xs[i]from Yf hi]
def ltR(a b:V6):Bool:=decide (ZT a b<0)
abbrev LeT(t:Zc):Prop:=Le t.Rows/\∀r∈t.Rows,Le r
def wP{i n:Nat}(h0:0<i)(h:i<n)(hn:n<=1099511627776):w ((i:Int)-1)=((i-1:Nat):Int):=by
 rw[show w ((i:Int)-1)=(i:Int)-1 from Z1 (by omega) (by omega)];omega
def Zew{α:Type}{xs:List α}{i:Nat}(h0:0<i)(h:i-1<xs.length):pvA xs i=some xs[i-1]:=by
 obtain⟨k,rfl⟩:∃k,i=k+1:=⟨i-1,by omega⟩;exact Yf h
def ZG1(rows:V4)(hl:Le rows)(hr:∀r∈rows,Le r):∀i,i<=rows.length->0<i->Zf3 rows i=some (Bo (XU ltR (pvA rows i) (rows.drop i)),[]):=by
 refine down _ ?_ ?_
 .intro h0;apply Wh.1.2.1.1;rw[Ynx];simp[XU]
 .intro i hi ih h0;have hp:i-1<rows.length:=by omega
  have ih':=ih (by omega);apply Wh.1.2.1.1;rw[Ypx,wP h0 hi hl,wS hi hl,ZlO _ hi,Zew h0 hp];refine⟨by omega,_,gE hp,by omega,_,gE hi,_,ZGz _ _ (hr _ (Yc hp)) (hr _ (Yc hi)),?_⟩;unfold nxt ltR at *
  by_cases e:0<=ZT rows[i-1] rows[i]
  .rw[Ya e];simp[show ¬ZT rows[i-1] rows[i]<0 by omega]
  .rw[Yb e,ih'];simp[show ZT rows[i-1] rows[i]<0 by omega]
def ZG2(rows:V4)(hl:Le rows)(hr:∀r∈rows,Le r):ZjP rows=some (Bo (XU ltR none rows),[]):=by
 apply Wh.1.2.1.2
 cases rows with
 |nil=>apply Wh.1.2.1.1;rw[Yb (by simp)];rfl
 |cons r rs=>exact ZG1 (r::rs) hl hr 1 (by simp) (by omega)
def Xc(t:Zc):Bool:=VH t.Name && inR t.Arity 1 3 && decide ((t.Rows.length:Int)<=8) && (t.Rows.all (rwB t.Arity) && XU ltR none t.Rows)
def ZG3(t:Zc)(h:LeT t):∀i,i<=t.Rows.length->Zf4 t t.Rows t.Rows.length i=some (Bo ((t.Rows.drop i).all (rwB t.Arity) && (VH t.Name && inR t.Arity 1 3 && decide ((t.Rows.length:Int)<=8) && XU ltR none t.Rows)),[]):=by
 refine down _ ?_ ?_
 .apply Wh.1.2.2.1;rw[Ynx];refine⟨_,ZFK _,?_⟩;rcases tf (VH t.Name)with e1|e1
  .rw[e1];simp
  rw[e1,Ya rfl];refine⟨_,XX _ _ _,?_⟩;rcases tf (inR t.Arity 1 3)with e2|e2
  .rw[e2];simp
  rw[e2,Ya rfl];by_cases e3:(t.Rows.length:Int)<=8
  .rw[Ya e3];exact⟨_,ZG2 t.Rows h.1 h.2,by simp[e3]⟩
  .rw[Yb e3];simp[e3]
 .intro i hi ih;apply Wh.1.2.2.1;rw[Ypx,Yi hi,Ybh,wS hi h.1];refine⟨by omega,_,gE hi,_,Z2E _ _ (h.2 _ (Yc hi)),?_⟩;rcases tf (rwB t.Arity t.Rows[i])with e|e
  .rw[e];simp
  .rw[e,Ya rfl,ih];simp
@[simp] def Zex(t:Zc)(h:LeT t):Q4 t=some (Bo (Xc t),[]):=by
 apply Wh.1.2.2.2.1;rw[show(0:Int)=((0:Nat):Int)from rfl,ZG3 t h 0 (Yd _)];unfold Xc;simp only[Ys];congr 3;rw[Ybv];simp only[Yg]
 grind
def ZG4(t:Zc)(h:LeT t):∀i,i<=t.Rows.length->Zdy t i=some (Bo ((t.Rows.drop i).all (rwB t.Arity) && XU ltR (pvA t.Rows i) (t.Rows.drop i)),[]):=by
 refine down _ ?_ ?_
 .apply X9.1.1.2.2;rw[Ynx];simp[XU]
 .intro i hi ih;have hr:=h.2 _ (Yc hi);apply X9.1.1.2.2;rw[ZlO _ hi,Ypx,Yi hi,Ybh,wS hi h.1];refine⟨by omega,_,gE hi,_,Z2F _ _ hr,?_⟩;rcases tf (rwB t.Arity t.Rows[i])with e|e
  .rw[e];simp
  rw[e,Ya rfl];by_cases h0:0<i
  .have hp:i-1<t.Rows.length:=by omega
   rw[Ypx,wP h0 hi h.1,Zew h0 hp];refine⟨by omega,_,gE hp,_,JA _ _ (h.2 _ (Yc hp)) hr,?_⟩;unfold nxt ltR at *
   by_cases e:0<=ZT t.Rows[i-1] t.Rows[i]
   .rw[Ya e];simp[show ¬ZT t.Rows[i-1] t.Rows[i]<0 by omega]
   .rw[Yb e,ih];simp[show ZT t.Rows[i-1] t.Rows[i]<0 by omega]
  .have:i=0:=by omega
   subst this;rw[Ynx,ih];simp[pvA,nxt]
@[simp] def Zey(t:Zc)(h:LeT t):Q6 t=some (Bo (Xc t),[]):=by
 refine X9.1.2.1.1 _ _ ⟨_,ZFL _,?_⟩;unfold Xc;rcases tf (VH t.Name)with e1|e1
 .rw[e1];simp
 rw[e1,Ya rfl];refine⟨_,Wo _ _ _,?_⟩;rcases tf (inR t.Arity 1 3)with e2|e2
 .rw[e2];simp
 rw[e2,Ya rfl];by_cases e3:8<(t.Rows.length:Int)
 .rw[Ya e3];simp[show ¬(t.Rows.length:Int)<=8 by omega]
 .rw[Yb e3];have:=ZG4 t h 0 (Yd _);refine Ye this ?_;simp[show(t.Rows.length:Int)<=8 by omega,pvA]
def ltN(a b:Zc):Bool:=Op.bytesLess a.Name.toList b.Name.toList
abbrev LeD(d:Zl):Prop:=Le d.Tables/\∀t∈d.Tables,LeT t
def Xn(d:Zl):Bool:=d.Tables.all Xc && XU ltN none d.Tables && decide ((d.Tables.length:Int)<=6)
def ZG5(d:Zl)(h:LeD d):∀i,i<=d.Tables.length->Zf5 d d.Tables d.Tables.length i=some (Bo ((d.Tables.drop i).all Xc && XU ltN (pvA d.Tables i) (d.Tables.drop i) && decide ((d.Tables.length:Int)<=6)),[]):=by
 refine down _ ?_ ?_
 .apply Wh.1.2.2.2.2;rw[Ynx];simp[XU]
 .intro i hi ih;apply Wh.1.2.2.2.2;rw[ZlO _ hi,Ypx,Yi hi,Ybh,wS hi h.1];refine⟨by omega,_,gE hi,_,Zex _ (h.2 _ (Yc hi)),?_⟩;rcases tf (Xc d.Tables[i])with e|e
  .rw[e];simp
  rw[e,Ya rfl];by_cases h0:0<i
  .have hp:i-1<d.Tables.length:=by omega
   rw[Ypx,wP h0 hi h.1,Zew h0 hp];refine⟨by omega,_,gE hp,?_⟩;unfold nxt ltN at *
   rcases tf (Op.bytesLess d.Tables[i-1].Name.toList d.Tables[i].Name.toList)with e|e
   .rw[e];simp[e]
   .rw[e,Ya rfl,ih];simp[e]
  .have:i=0:=by omega
   subst this;rw[Ynx,ih];simp[pvA,nxt]
@[simp] def Zu4(d:Zl)(h:LeD d):Zaf d=some (Bo (Xn d),[]):=by
 apply Wh.2.1.1.1;have:=ZG5 d h 0 (Yd _);refine Ye this ?_;unfold Xn;simp[pvA]
def ZG6(d:Zl)(h:LeD d):∀i,i<=d.Tables.length->Zdz d i=some (Bo ((d.Tables.drop i).all Xc && XU ltN (pvA d.Tables i) (d.Tables.drop i) && decide ((d.Tables.length:Int)<=6)),[]):=by
 refine down _ ?_ ?_
 .apply X9.1.2.1.2;rw[Ynx];simp[XU]
 .intro i hi ih;apply X9.1.2.1.2;rw[ZlO _ hi,Ypx,Yi hi,Ybh,wS hi h.1];refine⟨by omega,_,gE hi,_,Zey _ (h.2 _ (Yc hi)),?_⟩;rcases tf (Xc d.Tables[i])with e|e
  .rw[e];simp
  rw[e,Ya rfl];by_cases h0:0<i
  .have hp:i-1<d.Tables.length:=by omega
   rw[Ypx,wP h0 hi h.1,Zew h0 hp];refine⟨by omega,_,gE hp,?_⟩;unfold nxt ltN at *
   rcases tf (Op.bytesLess d.Tables[i-1].Name.toList d.Tables[i].Name.toList)with e|e
   .rw[e];simp[e]
   .rw[e,Ya rfl,ih];simp[e]
  .have:i=0:=by omega
   subst this;rw[Ynx,ih];simp[pvA,nxt]
@[simp] def Zez(d:Zl)(h:LeD d):Q7 d=some (Bo (Xn d),[]):=by
 apply X9.1.2.2.1;have:=ZG6 d h 0 (Yd _);refine Ye this ?_;unfold Xn;simp[pvA]
def X1(d:Zl)(n:UP):Option Zc:=if Xn d=true then d.Tables.find? (λt=>decide (t.Name=n))else none
def ZG7(xs:V4)(hx:Le xs)(hr:∀r∈xs,r.length<=4)(hl:xs.length<=1000000):∀i,i<=xs.length->ZcP (xs.take i) xs xs.length i=some (.own 0,[.arr 42 1 true (xs.map isc)]):=by
 refine down _ ?_ ?_
 .apply XW.1.1.1.2;rw[Ynx,Yp]
 .intro i hi ih;apply XW.1.1.1.2;rw[Ypx,wS hi hx];have:=hr _ (Yc hi);refine⟨by omega,_,gE hi,_,KP _ (by omega),by rw[Yt];omega,?_⟩;rw[Y4 hi]at ih;exact ih
def Z2H(xs:V4)(hr:∀r∈xs,r.length<=4)(hl:xs.length<=1000000):Zae xs=some (.own 0,[.arr 42 1 true (xs.map isc)]) :=
 XW.1.1.2.1 _ _ (by simpa using ZG7 xs (by omega) hr hl 0 (Yd _))
def Z2I{α:Type}(p:α->Bool):∀(xs:List α) (i:Nat),match xs.find? p with
  |none=>WT p xs i=-1
  |some x=>∃j,WT p xs i=((i+j:Nat):Int)/\xs[j]?=some x
 |[],i=>by simp[WT]
 |x::xs,i=>by
  unfold WT;rw[List.find?_cons];rcases tf (p x)with e|e
  .rw[e,Yb (by simp)];have:=Z2I p xs (i+1);revert this;simp only
   cases xs.find? p with
   |none=>exact id
   |some y=>rintro⟨j,h1,h2⟩;exact⟨j+1,by rw[h1];congr 1;omega,by simpa using h2⟩
  .rw[e,Ya rfl];exact⟨0,rfl,rfl⟩
def l_idxT(s:List Zc)(n:UP)(hs:Le s):∀i,i<=s.length->ZfD s n s.length i=some (I (WT (λt=>decide (t.Name=n)) (s.drop i) i),[]):=by
 refine down _ ?_ ?_
 .apply Uz.2.2.2.1;rw[Ynx];simp[WT]
 .intro i hi ih;apply Uz.2.2.2.1;rw[Ypx,Zn9 _ hi,wS hi hs];refine⟨by omega,_,gE hi,_,Uz.2.2.1 _ _ _ rfl,?_⟩;split
  .rfl
  .exact ih
def lookR(o:Option Zc):V3:=match o with
 |none=>(.tup [.agg [.t (.str ⟨#[]⟩),I 0,.t .nil],Bo false],[])
 |some t=>(.tup [.agg [.t (.str t.Name),I t.Arity,.own 0],Bo true],[.arr 42 1 true (t.Rows.map isc)])
def QC{d:Zl}(hv:Xn d=true){t:Zc}(ht:t∈d.Tables):Xc t=true:=by
 unfold Xn at hv;simp only[Yg]at hv;exact Yy.1 hv.1.1 t ht
def Za6{t:Zc}(h:Xc t=true):t.Rows.length<=8:=by
 unfold Xc at h;simp only[Yg,decide_eq_true_eq]at h;omega
def Zid{t:Zc}(h:Xc t=true):∀r∈t.Rows,r.length<=3:=by
 intro r hr;unfold Xc at h;simp only[Yg]at h;have h1:=Yy.1 h.2.1 r hr;have h2:=h.1.1.2;unfold rwB at h1;simp only[inR,Yg,decide_eq_true_eq]at h1 h2;omega
def ZlP{d:Zl}{n:UP}{t:Zc}(h:X1 d n=some t):Xn d=true/\t∈d.Tables/\t.Name=n:=by
 unfold X1 at h;split at h
 .rename_i hv;exact⟨hv,List.mem_of_find?_eq_some h,by simpa using List.find?_some h⟩
 .cases h
def Zcc(d:Zl)(h:LeD d)(n:UP):V0 d n=some (lookR (X1 d n)):=by
 have hi:=Uz.2.2.2.2 _ _ _ (by simpa using l_idxT d.Tables n h.1 0 (Yd _));have hf:=Z2I (λt:Zc=>decide (t.Name=n)) d.Tables 0;refine WY.1.1.1 _ _ _ ⟨_,hi,?_⟩;unfold X1
 cases hq:d.Tables.find? (λt=>decide (t.Name=n))with
 |none =>
  rw[hq]at hf;simp only at hf;rw[hf,Ypx]
  split<;>rfl
 |some t =>
  rw[hq]at hf;obtain⟨j,h1,h2⟩:=hf;rw[Yu]at h1;rw[h1,Ynx];refine⟨_,Zu4 d h,?_⟩;rcases tf (Xn d)with e|e
  .rw[e];rfl
  .rw[e,Ya rfl,Ya rfl];have hm:=Y6 h2;have hT:=h.2 t hm;have h8:=Za6 (QC e hm);refine⟨by omega,t,by rw[Yk];exact h2,_,_,_,XW.1.1.2.2 _ _ ⟨_,Z2H t.Rows (λr hr=>by have:=Zid (QC e hm) r hr;omega) (by omega),rfl⟩,rfl⟩
def ZG8(t:Zc)(h:LeT t)(h8:t.Rows.length<=8)(h3:∀r∈t.Rows,r.length<=3)(a a':UP)(b b':Int):∀i,i<=t.Rows.length->Zdv t a b a' b' (t.Rows.take i) i=some (.agg [.t (.str a'),I b',.own 0],[.arr 42 1 true (t.Rows.map isc)]):=by
 refine down _ ?_ ?_
 .apply WL.2.1.2.2;rw[Ynx,Yp]
 .intro i hi ih;apply WL.2.1.2.2;rw[Ypx,wS hi h.1];have:=h3 _ (Yc hi);rw[Y4 hi]at ih;exact⟨by omega,_,gE hi,by omega,by rw[Yt];omega,ih⟩
def ZG9(t:Zc)(h:LeT t)(h8:t.Rows.length<=8)(h3:∀r∈t.Rows,r.length<=3):W7 t=some (.agg [.t (.str t.Name),I t.Arity,.own 0],[.arr 42 1 true (t.Rows.map isc)]):=by
 apply WL.2.2.1.1;apply WL.2.1.2.1;by_cases e:t.Rows=[]
 .rw[Yb (by rw[e];simp),e]
 .have h0:0<t.Rows.length:=Ybn.2 e;have:=h3 _ (Yc h0);rw[Ypx];refine⟨by omega,_,gE h0,by omega,?_⟩;have:=ZG8 t h h8 h3 ⟨#[]⟩ t.Name 0 t.Arity 1 (by omega);rw[Y4 h0]at this;rw[show w (0+1)=1 from by decide];simpa using this
def ZlQ(o:Option Zc):V3:=match o with
 |none=>(.tup [.agg [.t (.str ⟨#[]⟩),I 0,.t .nil],Bo false],[])
 |some t=>(.tup [.agg [.t (.str t.Name),I t.Arity,.own 0],Bo true],[.arr 42 1 true (t.Rows.map isc)])
def ZGA(d:Zl)(h:LeD d)(n:UP):∀i,i<=d.Tables.length->Zhc d ⟨#[]⟩ 0 n i=some (ZlQ (if Xn d=true then(d.Tables.drop i).find? (λt=>decide (t.Name=n))else none)):=by
 refine down _ ?_ ?_
 .apply W8.1.2.2.1;rw[Ynx,Yo];split<;>rfl
 .intro i hi ih;apply W8.1.2.2.1;rw[Ypx,wS hi h.1];refine⟨_,Zez d h,?_⟩;rcases tf (Xn d)with e|e
  .rw[e];rfl
  rw[e,Ya rfl]at ih|-;rw[Ya rfl,Yi hi,List.find?_cons];have hm:=Yc hi;refine⟨by omega,_,gE hi,?_⟩;by_cases e2:d.Tables[i].Name=n
  .rw[Ya e2];have hc:=ZG9 _ (h.2 _ hm) (Za6 (QC e hm)) (Zid (QC e hm));simp only[e2,decide_true,ZlQ];exact⟨_,_,_,hc,by rw[e2]⟩
  .rw[Yb e2,ih];simp only[e2,decide_false]
def Zcd(d:Zl)(h:LeD d)(n:UP):V7 d n=some (ZlQ (X1 d n)) :=
 W8.1.2.2.2 _ _ _ (by simpa[X1]using ZGA d h n 0 (Yd _))
def VA:∀a b:List Int,ZT b a=- ZT a b
 |[],[]=>rfl
 |[],_::_=>rfl
 |_::_,[]=>rfl
 |x::a,y::b=>by
  have ih:=VA a b;simp only[ZT];by_cases h1:x<y
  .rw[if_neg (by omega),if_pos h1,if_pos h1];rfl
  .by_cases h2:y<x
   .rw[if_pos h2,if_neg h1,if_pos h2]
   .rw[if_neg h2,if_neg h1,if_neg h1,if_neg h2];exact ih
def Ul:∀a b:List Int,ZT a b=0->a=b
 |[],[],_=>rfl
 |[],_::_,h=>by simp[ZT]at h
 |_::_,[],h=>by simp[ZT]at h
 |x::a,y::b,h=>by
  simp only[ZT]at h;by_cases h1:x<y
  .rw[if_pos h1]at h;cases h
  .rw[if_neg h1]at h;by_cases h2:y<x
   .rw[if_pos h2]at h;cases h
   .rw[if_neg h2]at h;rw[Ul a b h,show x=y by omega]
def KQ(a:List Int):ZT a a=0:=by have:=VA a a;omega
def Zce:∀a b c:List Int,ZT a b<=0->ZT b c<=0->ZT a c<=0
 |[],_,[],_,_=>by simp[ZT]
 |[],_,_::_,_,_=>by simp[ZT]
 |_::_,[],_,h,_=>by simp[ZT]at h
 |_::_,_::_,[],_,h=>by simp[ZT]at h
 |x::a,y::b,z::c,h1,h2=>by
  simp only[ZT]at h1 h2|-;by_cases e1:x<y
  .by_cases e2:y<z
   .rw[if_pos (by omega)];decide
   .rw[if_neg e2]at h2;by_cases e3:z<y
    .rw[if_pos e3]at h2;exact absurd h2 (by decide)
    .rw[if_pos (by omega)];decide
  .rw[if_neg e1]at h1;by_cases e2:y<x
   .rw[if_pos e2]at h1;exact absurd h1 (by decide)
   .rw[if_neg e2]at h1
    have:x=y:=by omega
    subst this;by_cases e3:x<z
    .rw[if_pos e3];decide
    .rw[if_neg e3]at h2|-;by_cases e4:z<x
     .rw[if_pos e4]at h2;exact absurd h2 (by decide)
     .rw[if_neg e4]at h2|-;exact Zce a b c h1 h2
def ZGB(a b c:List Int)(h1:leR a b=true)(h2:leR b c=true):leR a c=true:=by
 unfold leR at *
 simp only[decide_eq_true_eq]at *
 exact Zce a b c h1 h2
def ZGC(a b:List Int):(leR a b || leR b a)=true:=by
 unfold leR;have:=VA a b;simp only[Bool.or_eq_true,decide_eq_true_eq];omega
def ZGD(a b:List Int)(h1:leR a b=true)(h2:leR b a=true):a=b:=by
 unfold leR at *
 simp only[decide_eq_true_eq]at *
 have:=VA a b;exact Ul a b (by omega)
def Zie(rows:List (List Int)):(QY rows).Perm rows:=List.mergeSort_perm _ _
def Z2J(rows:List (List Int)):(QY rows).Pairwise λa b=>leR a b=true:=List.pairwise_mergeSort ZGB ZGC rows
def ZGE{rows l:List (List Int)}(hp:l.Perm rows)(hs:l.Pairwise λa b=>leR a b=true):l=QY rows :=
 List.Perm.eq_of_pairwise (λa b _ _=>ZGD a b) hs (Z2J rows) (hp.trans (Zie rows).symm)
def Zu5:∀(l:List (List Int)) (y:List Int),y∈Vk l↔y∈l
 |[],y=>by simp[Vk]
 |[a],y=>by simp[Vk]
 |a::b::l,y=>by
  unfold Vk;have ih:=Zu5 (b::l) y;split
  .rename_i e;subst e;rw[ih];simp
  .rw[List.mem_cons,ih];simp
def Z2K:∀l:List (List Int),(Vk l).length<=l.length
 |[]=>Nat.le_refl _
 |[a]=>Nat.le_refl _
 |a::b::l=>by
  unfold Vk;have:=Z2K (b::l);split
  .exact Nat.le_trans this (Nat.le_succ _)
  .exact Nat.succ_le_succ this
def ZGF{a b:List (List Int)}(h:a.map isc=b.map isc):a=b:=(map_isc a b).1 h
def ic_inj{a b:List Int}(h:a.map ic=b.map ic):a=b:=(List.map_inj_right (f:=ic) (by intro x y hxy;simpa[ic]using hxy)).1 h
def Z2L{rows:List (List Int)}(h1:rows.length<=4096)(h2:∀r∈rows,r.length<=4)(k:List (List Int)->AV×List Blk):ZcN (rows.map isc) k=some (k rows):=by
 have h:∃r,ZxO (rows.map isc) r:=⟨rows,rfl,h1,h2⟩;unfold ZcN;rw[dif_pos h,ZGF h.choose_spec.1.symm]
def Z2M{l:List Int}(h1:l.length<=4096)(k:List Int->AV×List Blk):ZcO (l.map ic) k=some (k l):=by
 have h:∃r,ZxP (l.map ic) r:=⟨l,rfl,h1⟩;unfold ZcO;rw[dif_pos h,ic_inj h.choose_spec.1.symm]
def t274:tbl 274=none:=by kernel_rfl
def t276:tbl 276=none:=by kernel_rfl
def t281:tbl 281=none:=by kernel_rfl
def t282:tbl 282=none:=by kernel_rfl
def c_sort{fr:Bool}{rows:List (List Int)}(h1:rows.length<=4096)(h2:∀r∈rows,r.length<=4):C 274 [.own 0,.fn 275 []] [.arr 42 1 fr (rows.map isc)]=some (.tup [],[.arr 42 1 fr ((QY rows).map isc)]) :=
 ZcA t274 (by simp only[ext,if_pos];exact Z2L h1 h2 _)
def c_cpt{fr:Bool}{rows:List (List Int)}(h1:rows.length<=4096)(h2:∀r∈rows,r.length<=4):C 276 [.own 0,.fn 277 []] [.arr 42 1 fr (rows.map isc)]=some (.own 1,[.dead,.arr 42 1 fr ((Vk rows).map isc)]) :=
 ZcA t276 (by simp only[ext,if_pos];exact Z2L h1 h2 _)
def ZGG{fr:Bool}{l:List Int}(h1:l.length<=4096):C 281 [.own 0] [.arr 3 1 fr (l.map ic)]=some (.tup [],[.arr 3 1 fr ((WI l).map ic)]) :=
 ZcA t281 (by simp only[ext,if_pos];exact Z2M h1 _)
def c_cptI{fr:Bool}{l:List Int}(h1:l.length<=4096):C 282 [.own 0] [.arr 3 1 fr (l.map ic)]=some (.own 1,[.dead,.arr 3 1 fr ((XI l).map ic)]) :=
 ZcA t282 (by unfold ext;simp only[show ¬(282:Nat)=281 by decide,if_false,if_true];exact Z2M h1 _)
def t215:tbl 215=none:=by kernel_rfl
def t76:tbl 76=none:=by kernel_rfl
def ZGH(rows:List (List Int))(i j:Int)(h:0<=i/\i<j/\j<=(rows.length:Int)):ZkC rows i j=some (.own 1,[.dead,.arr 42 1 true ((rows.take i.toNat++rows.drop j.toNat).map isc)]):=by
 unfold ZkC;refine ZcA t215 ?_;show(if 215=215/\0<=i/\i<j/\j<=((rows.map isc).length:Int)then _ else _)=_;rw[if_pos ⟨rfl,by simpa using h⟩,List.map_append,List.map_take,List.map_drop]
def gD{xs:List Int}{i:Nat}(h:i<xs.length):xs[i]?=some (xs.getD i 0):=by
 rw[List.getD_eq_getElem?_getD,List.getElem?_eq_getElem h];rfl
def Xd(row cc:List Int):List Int:=cc.map λc=>row.getD c.toNat 0
def l_Sel(row cols:List Int)(h4:cols.length<=1000)(hr:Le row)(hc:∀c∈cols,0<=c/\c<row.length):∀i,i<=cols.length->ZfH (Xd row (cols.take i)) row cols cols.length i=some (.tup [.own 0,Bo true],[.arr 3 1 true ((Xd row cols).map ic)]):=by
 refine down _ ?_ ?_
 .apply WY.2.1.1;rw[if_neg (by omega),List.take_length]
 .intro i hi ih;obtain⟨h0,h1⟩:=hc _ (List.getElem_mem hi);apply WY.2.1.1;rw[if_pos (by omega),wS hi (by omega)];refine⟨by omega,_,gE hi,_,XX _ _ _,?_⟩;rw[show w ((row.length:Int)-1)=(row.length:Int)-1 from Z1 (by omega) (by omega)];rw[show inR cols[i] 0 ((row.length:Int)-1)=true by simp[inR];omega,if_pos rfl];refine⟨h0,_,gD (by omega),by simp[Xd];omega,?_⟩;rw[show Xd row (cols.take (i+1))=Xd row (cols.take i)++[row.getD cols[i].toNat 0] by unfold Xd;rw[List.take_succ_eq_append_getElem hi,List.map_append];rfl]at ih;exact ih
def ZGI(row cols:List Int)(h4:cols.length<=1000)(hr:Le row)(hc:∀c∈cols,0<=c/\c<row.length):Kb row cols=some (.tup [.own 0,Bo true],[.arr 3 1 true ((Xd row cols).map ic)]) :=
 WY.2.1.2.1 _ _ _ (by simpa[Xd]using l_Sel row cols h4 hr hc 0 (Nat.zero_le _))
def Km(rows:List (List Int)):List (List Int):=Vk (QY rows)
abbrev QD(l:List (List Int)):Prop:=l.Pairwise λa b=>ZT a b<0
def Zu6:∀{a b:List (List Int)},QD a->QD b->(∀x,x∈a↔x∈b)->a=b
 |[],[],_,_,_=>rfl
 |[],y::b,_,_,h=>by have:=(h y).2 (by simp);cases this
 |x::a,[],_,_,h=>by have:=(h x).1 (by simp);cases this
 |x::a,y::b,ha,hb,h=>by
  have ha':=List.pairwise_cons.1 ha;have hb':=List.pairwise_cons.1 hb;have e:x=y:=by
   have h1:=(h x).1 (by simp);have h2:=(h y).2 (by simp);rcases List.mem_cons.1 h1 with e|e
   .exact e
   .rcases List.mem_cons.1 h2 with e2|e2
    .exact e2.symm
    .have h3:=hb'.1 x e;have h4:=ha'.1 y e2;have:=VA x y;omega
  subst e;rw[Zu6 ha'.2 hb'.2 λz=>?_];constructor
  .intro hz;have:=(h z).1 (by simp[hz]);rcases List.mem_cons.1 this with e|e
   .subst e;have:=ha'.1 _ hz;rw[KQ]at this;omega
   .exact e
  .intro hz;have:=(h z).2 (by simp[hz]);rcases List.mem_cons.1 this with e|e
   .subst e;have:=hb'.1 _ hz;rw[KQ]at this;omega
   .exact e
def Z2N:∀{l:List (List Int)},(l.Pairwise λa b=>leR a b=true)->QD (Vk l)
 |[],_=>by simp[Vk]
 |[a],_=>by simp[Vk]
 |a::b::l,h=>by
  have h1:=List.pairwise_cons.1 h;have ih:=Z2N h1.2;unfold Vk;split
  .exact ih
  .rename_i e;refine List.pairwise_cons.2 ⟨λx hx=>?_,ih⟩;rw[Zu5]at hx;have hab:ZT a b<0:=by
    have h3:=h1.1 b (by simp);unfold leR at h3;simp only[decide_eq_true_eq]at h3;rcases Int.lt_or_eq_of_le h3 with h4|h4
    .exact h4
    .exact absurd (Ul _ _ h4) e
   rcases List.mem_cons.1 hx with rfl|hx
   .exact hab
   .have h2:=(List.pairwise_cons.1 h1.2).1 x hx;unfold leR at h2;simp only[decide_eq_true_eq]at h2;have h5:=Zce a b x (by omega) h2;rcases Int.lt_or_eq_of_le h5 with h4|h4
    .exact h4
    .have:=Ul _ _ h4;subst this;have:=VA a b;omega
def Z2O(rows:List (List Int)):QD (Km rows):=Z2N (Z2J rows)
def ZlR(rows:List (List Int))(x:List Int):x∈Km rows↔x∈rows:=by unfold Km;rw[Zu5,(Zie rows).mem_iff]
def Z2P(rows:List (List Int)):(Km rows).length<=rows.length:=by unfold Km;rw[<-(Zie rows).length_eq];exact Z2K _
def Z2Q{rows:List (List Int)}(h1:rows.length<=4096)(h2:∀r∈rows,r.length<=4):Zdt rows=some (.own 0,[.arr 42 1 true ((Km rows).map isc)]):=by
 have hl:=(Zie rows).length_eq;refine WK.2.2.1.2 _ _ ⟨_,Z2H rows h2 (by omega),QY rows,?_,Km rows,?_,rfl⟩
 .unfold ZqK;exact c_sort h1 h2
 .unfold ZqL;exact c_cpt (by omega) λr hr=>h2 r ((Zie rows).mem_iff.1 hr)
def WB:List (List Int)->List Int->Bool->List (List Int)
 |[],row,put=>if put=true then[]else[row]
 |e::es,row,put=>if ZT e row=0 then e::WB es row true else if 0<ZT e row then(if put=true then e::WB es row true else row::e::WB es row true)else e::WB es row put
def ZlS:∀(es:List (List Int)) (row:List Int),WB es row true=es
 |[],_=>rfl
 |e::es,row=>by
  unfold WB;rw[ZlS es row];simp
def Zif:∀(es:List (List Int)) (row x:List Int),x∈WB es row false↔x∈es\/x=row
 |[],row,x=>by simp[WB]
 |e::es,row,x=>by
  have ih:=Zif es row x;unfold WB;rw[ZlS];by_cases h1:ZT e row=0
  .rw[if_pos h1];have:=Ul _ _ h1;subst this;simp;exact λh=>.inl h
  .rw[if_neg h1];by_cases h2:0<ZT e row
   .rw[if_pos h2,if_neg (by decide)];simp only[List.mem_cons];constructor
    .rintro(h|h|h)
     .exact .inr h
     .exact .inl (.inl h)
     .exact .inl (.inr h)
    .rintro((h|h)|h)
     .exact .inr (.inl h)
     .exact .inr (.inr h)
     .exact .inl h
   .rw[if_neg h2,List.mem_cons,ih,List.mem_cons,or_assoc]
def Zu7:∀{es:List (List Int)} (row:List Int),QD es->QD (WB es row false)
 |[],row,_=>by simp[WB]
 |e::es,row,h=>by
  have h':=List.pairwise_cons.1 h;unfold WB;rw[ZlS];by_cases h1:ZT e row=0
  .rw[if_pos h1];exact h
  .rw[if_neg h1];by_cases h2:0<ZT e row
   .rw[if_pos h2,if_neg (by decide)];have h3:ZT row e<0:=by have:=VA e row;omega
    refine List.pairwise_cons.2 ⟨λx hx=>?_,h⟩;rcases List.mem_cons.1 hx with rfl|hx
    .exact h3
    .have h4:=h'.1 x hx;have h5:=Zce row e x (by omega) (by omega);rcases Int.lt_or_eq_of_le h5 with h6|h6
     .exact h6
     .have:=Ul _ _ h6;subst this;have:=VA e row;omega
   .rw[if_neg h2];refine List.pairwise_cons.2 ⟨λx hx=>?_,Zu7 row h'.2⟩;rw[Zif]at hx;rcases hx with hx|rfl
    .exact h'.1 x hx
    .omega
def Z2R:∀(es:List (List Int)) (row:List Int) (put:Bool),(WB es row put).length<=es.length+1
 |[],row,put=>by unfold WB;split<;>simp
 |e::es,row,put=>by
  unfold WB;rw[ZlS];have:=Z2R es row put;split
  .simp
  .split
   .split<;>simp
   .simp only[List.length_cons];omega
def l_put{rows:List (List Int)}{row:List Int}(hl:rows.length<=5000)(h4:∀r∈rows,r.length<=4)(hr:row.length<=4):∀i,i<=rows.length->∀(out:List (List Int)) (put:Bool),out.length+2*(rows.length-i)<=20000->Zd3 out rows row put i=some (.own 0,[.arr 42 1 true ((out++WB (rows.drop i) row put).map isc)]):=by
 refine down _ ?_ ?_
 .intro out put ho;apply X9.2.2.2.1;rw[if_neg (by omega),List.drop_length];rcases tf put with e|e
  .subst e;rw[if_neg (by decide)];exact⟨by omega,by omega,rfl⟩
  .subst e;rw[if_pos rfl];simp[WB]
 .intro i hi ih out put ho;have he:=h4 _ (List.getElem_mem hi);apply X9.2.2.2.1;rw[if_pos (by omega),wS hi (by omega),List.drop_eq_getElem_cons hi];refine⟨by omega,_,gE hi,_,JA _ _ (by omega) (by omega),?_⟩;unfold WB;by_cases h1:ZT rows[i] row=0
  .rw[if_pos h1,if_pos h1,if_neg (by omega)];refine⟨by omega,by omega,?_⟩;rw[ih _ _ (by simp;omega)];simp
  .rw[if_neg h1,if_neg h1];by_cases h2:0<ZT rows[i] row
   .rw[if_pos h2,if_pos h2];rcases tf put with e|e
    .subst e;rw[if_neg (by decide),if_neg (by decide)];refine⟨by omega,by omega,by omega,by omega,?_⟩;rw[ih _ _ (by simp;omega)];simp
    .subst e;rw[if_pos rfl,if_pos rfl];refine⟨by omega,by omega,?_⟩;rw[ih _ _ (by simp;omega)];simp
   .rw[if_neg h2,if_neg h2];refine⟨by omega,by omega,?_⟩;rw[ih _ _ (by simp;omega)];simp
def Z2S{rows:List (List Int)}{row:List Int}(hl:rows.length<=5000)(h4:∀r∈rows,r.length<=4)(hr:row.length<=4):Zd2 rows row=some (.own 0,[.arr 42 1 true ((WB rows row false).map isc)]) :=
 X9.2.2.2.2.1 _ _ _ (by simpa using l_put hl h4 hr 0 (Nat.zero_le _) [] false (by simp;omega))
def Zcf(c rows:List (List Int)):List (List Int):=rows.foldl (λl r=>WB l r false) c
def Z2T:∀(rows c:List (List Int)) (x:List Int),x∈Zcf c rows↔x∈c\/x∈rows
 |[],c,x=>by simp[Zcf]
 |r::rows,c,x=>by
  show x∈Zcf (WB c r false) rows↔_;rw[Z2T rows,Zif,List.mem_cons,or_assoc]
def Z2U:∀{rows c:List (List Int)},QD c->QD (Zcf c rows)
 |[],c,h=>h
 |r::rows,c,h=>Z2U (rows:=rows) (Zu7 r h)
def ZGJ(rows:List (List Int)):Zcf [] rows=Km rows :=
 Zu6 (Z2U .nil) (Z2O rows) λx=>by rw[Z2T,ZlR];simp
def ZGK{es:List (List Int)}(h:QD es)(row:List Int):WB es row false=Km (es++[row]) :=
 Zu6 (Zu7 row h) (Z2O _) λx=>by rw[Zif,ZlR];simp
def Z2V:∀(es:List (List Int)) (k:Nat) (hk:k<es.length),QD es->es.take k++es.drop (k+1)=es.filter (λx=>decide (x≠es[k]))
 |x::es,0,_,h=>by
  have h':=List.pairwise_cons.1 h;simp only[List.take_zero,List.nil_append,List.drop_succ_cons,List.drop_zero,List.getElem_cons_zero]
  rw[List.filter_cons_of_neg (by simp),List.filter_eq_self.2 λy hy=>by
   have:=h'.1 y hy;simp only[decide_eq_true_eq];rintro rfl;have:=VA y y
   omega]
 |x::es,k+1,hk,h=>by
  have h':=List.pairwise_cons.1 h;have hk':k<es.length:=by simpa using hk
  simp only[List.take_succ_cons,List.cons_append,List.drop_succ_cons,List.getElem_cons_succ];rw[Z2V es k hk' h'.2,List.filter_cons_of_pos];have:=h'.1 _ (List.getElem_mem hk');simp only[decide_eq_true_eq];intro e;rw[<-e]at this;have:=VA x x;omega
def Z2W:∀(rows:List (List Int)) (p:Option (List Int)),XU ltR p rows=true->(∀x,p=some x->∀r∈rows,ZT x r<0)/\QD rows
 |[],_,_=>⟨λ_ _ r h=>absurd h (by simp),List.Pairwise.nil⟩
 |r::rows,p,h=>by
  unfold XU at h;rw[Bool.and_eq_true]at h;obtain⟨h1,h2⟩:=h;obtain⟨h3,h4⟩:=Z2W rows (some r) h2;refine⟨?_,List.pairwise_cons.2 ⟨h3 r rfl,h4⟩⟩;rintro x rfl s hs;have h5:ZT x r<0:=by simpa[nxt,ltR]using h1
  rcases List.mem_cons.1 hs with rfl|hs
  .exact h5
  .have h6:=h3 r rfl s hs;have h7:=Zce x r s (by omega) (by omega);rcases Int.lt_or_eq_of_le h7 with h8|h8
   .exact h8
   .have:=Ul _ _ h8;subst this;have:=VA x r;omega
def Zu8(a b:Zc):ltN a b=decide (a.Name.data.toList<b.Name.data.toList):=by
 unfold ltN;rw[Go.Proofs.bytesLess_eq,Lib.toList_data,Lib.toList_data]
def nm_tri{a b:Zc}(h:ltN a b=false)(hn:a.Name≠b.Name):ltN b a=true:=by
 rw[Zu8]at h|-;simp only[decide_eq_false_iff_not,List.not_lt]at h;simp only[decide_eq_true_eq];rcases Decidable.em (b.Name.data.toList<a.Name.data.toList)with h1|h1
 .exact h1
 .exact absurd (ByteArray.ext (Array.toList_inj.1 (List.le_antisymm (List.not_lt.1 h1) h))) hn
def nm_le{a b c:Zc}(h:ltN a b=false)(h2:ltN a c=true):ltN c b=false:=by
 rw[Zu8]at h h2|-;simp only[decide_eq_false_iff_not,decide_eq_true_eq]at h h2|-;exact λh3=>h (List.lt_trans h2 h3)
def nm_eq{a b c:Zc}(h:a.Name=b.Name):ltN a c=ltN b c:=by unfold ltN;rw[h]
def Xy(t:Zc):List Zc->Bool->List Zc
 |[],done=>if done then[]else[t]
 |x::xs,done=>(if !done && !ltN x t then[t]else[])++((if x.Name≠t.Name then[x]else[])++Xy t xs (done || !ltN x t))
def Z2X(t:Zc):∀(ts:List Zc) (q:Zc),XU ltN (some q) ts=true->ltN q t=false->Xy t ts true=ts
 |[],_,_,_=>rfl
 |x::ts,q,h,h1=>by
  unfold XU nxt at h;rw[Bool.and_eq_true]at h;have h2:x.Name≠t.Name:=by
   intro e;have:=h.1;simp only[ltN,e]at this;simp only[ltN]at h1;rw[h1]at this;cases this
  unfold Xy;rw[Bool.true_or,Z2X t ts x h.2 (nm_le h1 h.1)];simp[h2]
def Z2Y(t:Zc):∀(ts:List Zc) (p:Option Zc),XU ltN p ts=true->(∀q,p=some q->ltN q t=true)->XU ltN p (Xy t ts false)=true
 |[],p,_,hp=>by
  cases p with
  |none=>rfl
  |some q=>simpa[Xy,XU,nxt]using hp q rfl
 |x::ts,p,h,hp=>by
  unfold XU at h;rw[Bool.and_eq_true]at h
  have hpt:nxt ltN p t=true:=by cases p with
   |none=>rfl
   |some q=>exact hp q rfl
  unfold Xy
  cases e:ltN x t with
  |true =>
   have h2:x.Name≠t.Name:=by
    intro e2;have e3:=e;rw[Zu8,e2]at e3;simp[List.lt_irrefl]at e3
   have ih:=Z2Y t ts (some x) h.2 (by rintro q ⟨⟩;exact e)
   simp[h2,XU,ih,h.1]
  |false =>
   simp only[Bool.false_or,Bool.not_false,Bool.and_self,if_true];rw[Z2X t ts x h.2 e];by_cases h2:x.Name=t.Name
   .have h3:XU ltN (some t) ts=true:=by
     have:=h.2
     cases ts with
     |nil=>rfl
     |cons y ys=>simpa[XU,nxt,nm_eq h2]using this
    simp[h2,XU,hpt,h3]
   .simp[h2,XU];exact⟨hpt,nm_tri e h2,h.2⟩
def ZlT(t:Zc):∀(ts:List Zc) (b:Bool) (x:Zc),x∈Xy t ts b->x=t\/x∈ts
 |[],b,x,h=>by unfold Xy at h;split at h<;>simp_all
 |y::ts,b,x,h=>by
  unfold Xy at h;simp only[List.mem_append]at h;rcases h with h|h|h
  .split at h<;>simp_all
  .split at h<;>simp_all
  .rcases ZlT t ts _ x h with h|h
   .exact .inl h
   .exact .inr (List.mem_cons_of_mem _ h)
def Zig(t:Zc):∀(ts:List Zc) (b:Bool),(Xy t ts b).length<=ts.length+(if b then 0 else 1)
 |[],b=>by cases b<;>simp[Xy]
 |y::ts,b=>by
  have ih0:=Zig t ts true;have ih1:=Zig t ts false;unfold Xy;cases b<;>cases ltN y t<;>simp at ih0 ih1|-<;>split<;>simp<;>omega
def ZGL{d:Zl}(hd:Xn d=true){t:Zc}(ht:Xc t=true):Xn ⟨Xy t d.Tables false⟩=decide (((Xy t d.Tables false).length:Int)<=6):=by
 unfold Xn at hd|-;simp only[Bool.and_eq_true]at hd
 rw[Z2Y t _ none hd.1.2 (by simp),show(Xy t d.Tables false).all Xc=true from List.all_eq_true.2 λx hx=>by
  rcases ZlT _ _ _ _ hx with rfl|hx
  .exact ht
  .exact List.all_eq_true.1 hd.1.1 x hx]
 simp
