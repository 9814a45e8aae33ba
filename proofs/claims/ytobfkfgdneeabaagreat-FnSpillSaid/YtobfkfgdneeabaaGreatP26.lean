/-
  Parts of the proofs for this seat: DB EV STL STM PS1 PS2 PS3 SS CM CR.
-/
import Derived.Deep.RegionLaw
import Derived.Lib.SlBy
import Derived.Lib.SliceRun
import Derived.Lib.Walk
import Derived.Shelf.RegionOpenPlain
import Derived.Sort.LotA
import Derived.Test.YtobfkfgdneeabaaGreatChecked
import Derived.Test.YtobfkfgdneeabaaGreatP25
set_option linter.all false
set_option maxRecDepth 100000
set_option maxHeartbeats 4000000
namespace Go.Proofs.YtobfkfgdneeabaaGreat
open Go.AM
theorem wS{i n:Nat}(h:i<n)(hn:n<=1099511627776):w ((i:Int)+1)=((i+1:Nat):Int):=by
 grind [ZF]
theorem gE{α:Type}{xs:List α}{i:Nat}(h:i<xs.length):xs[(i:Int).toNat]?=some xs[i]:=by rw[Yj];exact Yh h
abbrev N8(v:Int):Bool:=Am v 0 9
def B3(n:Int)(r:V2):Bool:=r.all N8 && decide ((r.length:Int)=n)
def ZPn(r:V2)(n:Int)(hl:Le r):∀i,i<=r.length->mA r n r r.length i=some (Bo ((r.drop i).all N8 && decide ((r.length:Int)=n)),[]):=by
 refine down _ ?_ ?_
 .simp[Wo.1.1.2.1]
 .intro i hi ih;apply Wo.1.1.2.1;rw[An,Yg hi,Y6,wS hi hl]
  simp_all
@[simp] def ZCA(r:V2)(n:Int)(hl:Le r):TU r n=some (Bo (B3 n r),[]):=Wo.1.1.2.2 _ _ _ (by simpa[B3]using ZPn r n hl 0 (Yc _))
def ZPo(r:V2)(n:Int)(hl:Le r):∀i,i<=r.length->gX r n i=some (Bo ((r.drop i).all N8 && decide ((r.length:Int)=n)),[]):=by
 refine down _ ?_ ?_
 .simp[Xg.1.2.1.2]
 .intro i hi ih;apply Xg.1.2.1.2;rw[An,Yg hi,Y6,wS hi hl]
  simp_all
@[simp] def ZCB(r:V2)(n:Int)(hl:Le r):Sq r n=some (Bo (B3 n r),[]):=Xg.1.2.2.1 _ _ _ (by simpa[B3]using ZPo r n hl 0 (Yc _))
def qE(a b:Int):Zpv a b=some (I (if a<b then -1 else if b<a then 1 else 0),[]):=by
 refine Wo.1.2.1.2 _ _ _ ⟨_,Wo.1.2.1.1 _ _ rfl,_,Wo.1.2.1.1 _ _ rfl,?_⟩
 simp_all
def ZPp(a b:V2)(ha:Le a)(hb:Le b):∀i,i<=a.length->i<=b.length->mB a b a a.length i=some (I (ZH (a.drop i) (b.drop i)),[]):=by
 refine down _ ?_ ?_
 .intro h;apply Wo.1.2.2.1;rw[Ao,Yl];by_cases h2:(a.length:Int)<(b.length:Int)
  .rw[Ya h2,Yg (l:=b) (i:=a.length) E];rfl
  .rw[Yb h2,show a.length=b.length by omega,Yl];rfl
 .intro i hi ih h;apply Wo.1.2.2.1;rw[An,Yg hi,wS hi ha];refine⟨E,_,gE hi,?_⟩;by_cases h2:(b.length:Int)<=(i:Int)
  .rw[Ya h2,show b.drop i=[]from FK E];rfl
  .have hj:i<b.length:=by omega
   rw[Yb h2,Yg hj];refine⟨_,gE hj,_,qE _ _,?_⟩;unfold ZH
   grind
@[simp] def ZPq(a b:V2)(ha:Le a)(hb:Le b):Zpw a b=some (I (ZH a b),[]) :=
 Wo.1.2.2.2.2 _ _ _ ⟨_,Wo.1.2.2.2.1 _ _ _ (by simpa using ZPp a b ha hb 0 (Yc _) (Yc _)),rfl⟩
theorem ZCC(a b:V2)(i:Nat)(ha:i<=a.length)(hb:i<=b.length)(h:i=a.length\/i=b.length):gP a b i false=some (I (ZH (a.drop i) (b.drop i)),[]):=by
 apply Xl.2.2.1.1;by_cases h1:(a.length:Int)<(b.length:Int)
 .rw[Ya h1,show a.drop i=[]from FK E,Yg (l:=b) (i:=i) E];rfl
 .rw[Yb h1];by_cases h2:(b.length:Int)<(a.length:Int)
  .rw[Ya h2,show b.drop i=[]from FK E,Yg (l:=a) (i:=i) E];rfl
  .rw[Yb h2,show a.drop i=[]from FK E,show b.drop i=[]from FK E];rfl
def ZPr(a b:V2)(ha:Le a)(hb:Le b):∀i,i<=a.length->i<=b.length->gO a b i=some (I (ZH (a.drop i) (b.drop i)),[]):=by
 refine down _ ?_ ?_
 .simp_all [Xl.2.1.2.2,ZCC,Yi]
 .intro i hi ih h;apply Xl.2.1.2.2;rw[An];by_cases h2:(i:Int)<(b.length:Int)
  .have hj:i<b.length:=by omega
   rw[Ya h2];refine⟨E,_,gE hi,_,gE hj,?_⟩;rw[wS hi ha,Yg hi,Yg hj];unfold ZH
   grind
  .grind [ZCC]
@[simp] def KV(a b:V2)(ha:Le a)(hb:Le b):Vy a b=some (I (ZH a b),[]) :=
 Xl.2.2.1.2 _ _ _ (by simpa using ZPr a b ha hb 0 (Yc _) (Yc _))
def BS{α:Type}(xs:List α):Nat->Option α
 |0=>none
 |k+1=>xs[k]?
def BD{α:Type}(lt:α->α->Bool)(p:Option α)(x:α):Bool:=match p with
 |none=>true
 |some q=>lt q x
def WJ{α:Type}(lt:α->α->Bool):Option α->List α->Bool
 |_,[]=>true
 |p,x::xs=>BD lt p x && WJ lt (some x) xs
def ZqD{α:Type}(lt:α->α->Bool){xs:List α}{i:Nat}(hi:i<xs.length):WJ lt (BS xs i) (xs.drop i)=(BD lt (BS xs i) xs[i] && WJ lt (BS xs (i+1)) (xs.drop (i+1))):=by
 rw[Yg hi,WJ,show BS xs (i+1)=some xs[i]from Yh hi]
def DF(a b:V2):Bool:=decide (ZH a b<0)
abbrev CC(t:Zl):Prop:=Le t.Rows/\∀r∈t.Rows,Le r
def wP{i n:Nat}(h0:0<i)(h:i<n)(hn:n<=1099511627776):w ((i:Int)-1)=((i-1:Nat):Int):=by
 grind [ZF]
def G5{α:Type}{xs:List α}{i:Nat}(h0:0<i)(h:i-1<xs.length):BS xs i=some xs[i-1]:=by
 obtain⟨k,rfl⟩:∃k,i=k+1:=⟨i-1,E⟩;exact Yh h
def ZPs(rows:XS)(hl:Le rows)(hr:∀r∈rows,Le r):∀i,i<=rows.length->0<i->mC rows i=some (Bo (WJ DF (BS rows i) (rows.drop i)),[]):=by
 refine down _ ?_ ?_
 .intro h0;apply Wo.2.1.1.1;rw[Ao];simp[WJ]
 .intro i hi ih h0;have hp:i-1<rows.length:=by omega
  have ih':=ih E;apply Wo.2.1.1.1;rw[An,wP h0 hi hl,wS hi hl,ZqD _ hi,G5 h0 hp];refine⟨E,_,gE hp,E,_,gE hi,_,ZPq _ _ (hr _ (Ye hp)) (hr _ (Ye hi)),?_⟩;unfold BD DF at *
  grind
def ZPt(rows:XS)(hl:Le rows)(hr:∀r∈rows,Le r):Zpx rows=some (Bo (WJ DF none rows),[]):=by
 apply Wo.2.1.1.2
 cases rows with
 |nil=>apply Wo.2.1.1.1;rw[Yb Z];rfl
 |cons r rs=>exact ZPs (r::rs) hl hr 1 Z E
def ZO(t:Zl):Bool:=UA t.Name && Am t.Arity 1 3 && decide ((t.Rows.length:Int)<=8) && (t.Rows.all (B3 t.Arity) && WJ DF none t.Rows)
def ZPu(t:Zl)(h:CC t):∀i,i<=t.Rows.length->mD t t.Rows t.Rows.length i=some (Bo ((t.Rows.drop i).all (B3 t.Arity) && (UA t.Name && Am t.Arity 1 3 && decide ((t.Rows.length:Int)<=8) && WJ DF none t.Rows)),[]):=by
 refine down _ ?_ ?_
 .apply Wo.2.1.2.1
  simp_all [ZOE,tf,Uu,ZPt]
 .intro i hi ih;apply Wo.2.1.2.1;rw[An,Yg hi,Y6,wS hi h.1];refine⟨E,_,gE hi,_,ZCA _ _ (h.2 _ (Ye hi)),?_⟩
  simp_all
@[simp] def ZPv(t:Zl)(h:CC t):Zpy t=some (Bo (ZO t),[]):=by
 apply Wo.2.1.2.2;rw[show(0:Int)=((0:Nat):Int)from rfl,ZPu t h 0 (Yc _)];unfold ZO
 grind
def ZPw(t:Zl)(h:CC t):∀i,i<=t.Rows.length->Sr t i=some (Bo ((t.Rows.drop i).all (B3 t.Arity) && WJ DF (BS t.Rows i) (t.Rows.drop i)),[]):=by
 refine down _ ?_ ?_
 .apply Xg.1.2.2.2.1;rw[Ao];simp[WJ]
 .intro i hi ih;have hr:=h.2 _ (Ye hi);apply Xg.1.2.2.2.1;rw[ZqD _ hi,An,Yg hi,Y6,wS hi h.1];refine⟨E,_,gE hi,_,ZCB _ _ hr,?_⟩;rcases tf (B3 t.Arity t.Rows[i])with e|e
  .rw[e];simp
  rw[e,Ya rfl];by_cases h0:0<i
  .have hp:i-1<t.Rows.length:=by omega
   rw[An,wP h0 hi h.1,G5 h0 hp];refine⟨E,_,gE hp,_,KV _ _ (h.2 _ (Ye hp)) hr,?_⟩;unfold BD DF at *
   grind
  .have:i=0:=by omega
   subst this;rw[Ao,ih];simp[BS,BD]
@[simp] def ZqE(t:Zl)(h:CC t):Jw t=some (Bo (ZO t),[]):=by
 refine Xg.1.2.2.2.2 _ _ ⟨_,Z2b _,?_⟩;unfold ZO;rcases tf (UA t.Name)with e1|e1
 .rw[e1];simp
 rw[e1,Ya rfl];refine⟨_,ZS _ _ _,?_⟩;rcases tf (Am t.Arity 1 3)with e2|e2
 .rw[e2];simp
 rw[e2,Ya rfl];by_cases e3:8<(t.Rows.length:Int)
 .grind
 .rw[Yb e3];have:=ZPw t h 0 (Yc _);refine Yd this ?_;simp[show(t.Rows.length:Int)<=8 by omega,BS]
def qF(a b:Zl):Bool:=Op.bytesLess a.Name.toList b.Name.toList
abbrev BA(d:Zj):Prop:=Le d.Tables/\∀t∈d.Tables,CC t
def WC(d:Zj):Bool:=d.Tables.all ZO && WJ qF none d.Tables && decide ((d.Tables.length:Int)<=6)
def ZPx(d:Zj)(h:BA d):∀i,i<=d.Tables.length->mF d d.Tables d.Tables.length i=some (Bo ((d.Tables.drop i).all ZO && WJ qF (BS d.Tables i) (d.Tables.drop i) && decide ((d.Tables.length:Int)<=6)),[]):=by
 refine down _ ?_ ?_
 .apply Wo.2.2.1.1;rw[Ao];simp[WJ]
 .intro i hi ih;apply Wo.2.2.1.1;rw[ZqD _ hi,An,Yg hi,Y6,wS hi h.1];refine⟨E,_,gE hi,_,ZPv _ (h.2 _ (Ye hi)),?_⟩;rcases tf (ZO d.Tables[i])with e|e
  .rw[e];simp
  rw[e,Ya rfl];by_cases h0:0<i
  .have hp:i-1<d.Tables.length:=by omega
   rw[An,wP h0 hi h.1,G5 h0 hp];refine⟨E,_,gE hp,?_⟩;unfold BD qF at *
   simp_all
  .have:i=0:=by omega
   subst this;rw[Ao,ih];simp[BS,BD]
@[simp] def ZPy(d:Zj)(h:BA d):mE d=some (Bo (WC d),[]):=by
 apply Wo.2.2.1.2;have:=ZPx d h 0 (Yc _);refine Yd this ?_;unfold WC;simp[BS]
def ZPz(d:Zj)(h:BA d):∀i,i<=d.Tables.length->St d i=some (Bo ((d.Tables.drop i).all ZO && WJ qF (BS d.Tables i) (d.Tables.drop i) && decide ((d.Tables.length:Int)<=6)),[]):=by
 refine down _ ?_ ?_
 .apply Xg.2.1.1.1;rw[Ao];simp[WJ]
 .intro i hi ih;apply Xg.2.1.1.1;rw[ZqD _ hi,An,Yg hi,Y6,wS hi h.1];refine⟨E,_,gE hi,_,ZqE _ (h.2 _ (Ye hi)),?_⟩;rcases tf (ZO d.Tables[i])with e|e
  .rw[e];simp
  rw[e,Ya rfl];by_cases h0:0<i
  .have hp:i-1<d.Tables.length:=by omega
   rw[An,wP h0 hi h.1,G5 h0 hp];refine⟨E,_,gE hp,?_⟩;unfold BD qF at *
   simp_all
  .have:i=0:=by omega
   subst this;rw[Ao,ih];simp[BS,BD]
@[simp] def ZCD(d:Zj)(h:BA d):Ss d=some (Bo (WC d),[]):=by
 apply Xg.2.1.1.2;have:=ZPz d h 0 (Yc _);refine Yd this ?_;unfold WC;simp[BS]
def ZZ(d:Zj)(n:KI):Option Zl:=if WC d=true then d.Tables.find? (λt=>decide (t.Name=n))else none
def ZP0(xs:XS)(hx:Le xs)(hr:∀r∈xs,r.length<=4)(hl:xs.length<=1000000):∀i,i<=xs.length->mG (xs.take i) xs xs.length i=some (.own 0,[.arr 38 1 true (xs.map Ae)]):=by
 refine down _ ?_ ?_
 .simp[Wo.2.2.2.1,Yw]
 .intro i hi ih;apply Wo.2.2.2.1;rw[An,wS hi hx];have:=hr _ (Ye hi);refine⟨E,_,gE hi,_,IX _ E,by rw[Y0];omega,?_⟩
  simp_all
def Z2l(xs:XS)(hr:∀r∈xs,r.length<=4)(hl:xs.length<=1000000):Is xs=some (.own 0,[.arr 38 1 true (xs.map Ae)]) :=
 Wo.2.2.2.2.1 _ _ (by simpa using ZP0 xs E hr hl 0 (Yc _))
def ZCE{α:Type}(p:α->Bool):∀(xs:List α) (i:Nat),match xs.find? p with
  |none=>XD p xs i=-1
  |some x=>∃j,XD p xs i=((i+j:Nat):Int)/\xs[j]?=some x
 |[],i=>by simp[XD]
 |x::xs,i=>by
  unfold XD;rw[List.find?_cons];rcases tf (p x)with e|e
  .rw[e,Yb Z];have:=ZCE p xs (i+1);revert this;simp only
   cases xs.find? p with
   |none=>exact id
   |some y=>rintro⟨j,h1,h2⟩;exact⟨j+1,by rw[h1];congr 1;omega,by simpa using h2⟩
  .rw[e,Ya rfl];exact⟨0,rfl,rfl⟩
def N9(s:List Zl)(n:KI)(hs:Le s):∀i,i<=s.length->l9 s n s.length i=some (I (XD (λt=>decide (t.Name=n)) (s.drop i) i),[]):=by
 refine down _ ?_ ?_
 .apply Wo.1.1.1.1;rw[Ao];simp[XD]
 .intro i hi ih;apply Wo.1.1.1.1;rw[An,Sf _ hi,wS hi hs]
  simp_all [gE,Wz.2.2.2.2.2]
def qJ(o:Option Zl):XR:=match o with
 |none=>(.tup [.agg [.t (.str ⟨#[]⟩),I 0,.t .nil],Bo false],[])
 |some t=>(.tup [.agg [.t (.str t.Name),I t.Arity,.own 0],Bo true],[.arr 38 1 true (t.Rows.map Ae)])
def QJ{d:Zj}(hv:WC d=true){t:Zl}(ht:t∈d.Tables):ZO t=true:=by
 unfold WC at hv
 simp_all
def Qn{t:Zl}(h:ZO t=true):t.Rows.length<=8:=by
 unfold ZO at h
 grind
def ZCF{t:Zl}(h:ZO t=true):∀r∈t.Rows,r.length<=3:=by
 intro r hr;unfold ZO at h;simp only[Yf]at h;have h1:=Ym.1 h.2.1 r hr;have h2:=h.1.1.2;unfold B3 at h1;simp only[Am,Yf,decide_eq_true_eq]at h1 h2;omega
def aT{d:Zj}{n:KI}{t:Zl}(h:ZZ d n=some t):WC d=true/\t∈d.Tables/\t.Name=n:=by
 unfold ZZ at h
 grind
def ZCG(d:Zj)(h:BA d)(n:KI):It d n=some (qJ (ZZ d n)):=by
 have hi:=Wo.1.1.1.2 _ _ _ (by simpa using N9 d.Tables n h.1 0 (Yc _));have hf:=ZCE (λt:Zl=>decide (t.Name=n)) d.Tables 0;refine Vn.1.1.1 _ _ _ ⟨_,hi,?_⟩;unfold ZZ
 cases hq:d.Tables.find? (λt=>decide (t.Name=n))with
 |none =>
  rw[hq]at hf;simp only at hf;rw[hf,An]
  split<;>rfl
 |some t =>
  rw[hq]at hf;obtain⟨j,h1,h2⟩:=hf;rw[Yt]at h1;rw[h1,Ao];refine⟨_,ZPy d h,?_⟩;rcases tf (WC d)with e|e
  .rw[e];rfl
  .rw[e,Ya rfl,Ya rfl];have hm:=Yu h2;have hT:=h.2 t hm;have h8:=Qn (QJ e hm);refine⟨E,t,by rw[Yj];exact h2,_,_,_,Wo.2.2.2.2.2 _ _ ⟨_,Z2l t.Rows (λr hr=>by have:=ZCF (QJ e hm) r hr;omega) E,rfl⟩,rfl⟩
def ZP1(t:Zl)(h:CC t)(h8:t.Rows.length<=8)(h3:∀r∈t.Rows,r.length<=3)(a a':KI)(b b':Int):∀i,i<=t.Rows.length->Su t a b a' b' (t.Rows.take i) i=some (.agg [.t (.str a'),I b',.own 0],[.arr 38 1 true (t.Rows.map Ae)]):=by
 refine down _ ?_ ?_
 .simp[Xg.2.1.2.2,Yw]
 .intro i hi ih;apply Xg.2.1.2.2;rw[An,wS hi h.1];have:=h3 _ (Ye hi);rw[Yx hi]at ih
  grind
def ZP2(t:Zl)(h:CC t)(h8:t.Rows.length<=8)(h3:∀r∈t.Rows,r.length<=3):KF t=some (if t.Rows=[]then(.agg [.t (.str t.Name),I t.Arity,.t .nil],[])else(.agg [.t (.str t.Name),I t.Arity,.own 0],[.arr 38 1 true (t.Rows.map Ae)])):=by
 apply Xg.2.2.1.1;apply Xg.2.1.2.1;by_cases e:t.Rows=[]
 .simp_all
 .have h0:0<t.Rows.length:=CE.2 e;have:=h3 _ (Ye h0);rw[An,Yb e];refine⟨E,_,gE h0,E,?_⟩;have:=ZP1 t h h8 h3 ⟨#[]⟩ t.Name 0 t.Arity 1 E;rw[Yx h0]at this;rw[show w (0+1)=1 from by decide];simpa using this
def QK(o:Option Zl):XR:=match o with
 |none=>(.tup [.agg [.t (.str ⟨#[]⟩),I 0,.t .nil],Bo false],[])
 |some t=>if t.Rows=[]then(.tup [.agg [.t (.str t.Name),I t.Arity,.t .nil],Bo true],[])else(.tup [.agg [.t (.str t.Name),I t.Arity,.own 0],Bo true],[.arr 38 1 true (t.Rows.map Ae)])
def ZP3(d:Zj)(h:BA d)(n:KI):∀i,i<=d.Tables.length->gY d ⟨#[]⟩ 0 n i=some (QK (if WC d=true then(d.Tables.drop i).find? (λt=>decide (t.Name=n))else none)):=by
 refine down _ ?_ ?_
 .apply Xg.2.2.1.2;rw[Ao,Yl];split<;>rfl
 .intro i hi ih;apply Xg.2.2.1.2;rw[An,wS hi h.1];refine⟨_,ZCD d h,?_⟩;rcases tf (WC d)with e|e
  .rw[e];rfl
  rw[e,Ya rfl]at ih|-;rw[Ya rfl,Yg hi,List.find?_cons];have hm:=Ye hi;refine⟨E,_,gE hi,?_⟩;by_cases e2:d.Tables[i].Name=n
  .rw[Ya e2];have hc:=ZP2 _ (h.2 _ hm) (Qn (QJ e hm)) (ZCF (QJ e hm));simp only[e2,decide_true,QK]
   grind
  .simp_all
def G6(d:Zj)(h:BA d)(n:KI):WG d n=some (QK (ZZ d n)) :=
 Xg.2.2.2.1 _ _ _ (by simpa[ZZ]using ZP3 d h n 0 (Yc _))
def WT(d:Zj)(a:Zd):Bool:=match ZZ d a.Name with
 |none=>false
 |some t=>decide (t.Arity=(a.Vars.length:Int))
def ZN(d:Zj)(q:Zc):Bool:=Zx q.Zi q.Atoms && q.Atoms.all (WT d)
def ZP4(d:Zj)(h:BA d)(q:Zc)(hq:AW q):∀i,i<=q.Atoms.length->mH d q.Atoms q.Atoms.length i=some (Bo ((q.Atoms.drop i).all (WT d)),[]):=by
 refine down _ ?_ ?_
 .simp[Vn.1.1.2]
 .intro i hi ih;apply Vn.1.1.2;rw[An,Yg hi,Y6,wS hi hq.1];refine⟨E,_,gE hi,?_⟩;have hk:=ZCG d h q.Atoms[i].Name;unfold WT at ih|-
  cases e:ZZ d q.Atoms[i].Name with
  |none =>
   rw[e]at hk
   refine .inl ⟨_,_,hk,Z⟩
  |some t =>
   rw[e]at hk;refine .inr ⟨_,_,_,hk,?_⟩
   simp_all
@[simp] theorem ZqF(d:Zj)(h:BA d)(q:Zc)(hq:AW q):GK d q=some (Bo (ZN d q),[]):=by
 refine Vn.1.2.1 _ _ _ ⟨_,Z2c q hq,?_⟩;unfold ZN;rcases tf (Zx q.Zi q.Atoms)with e|e
 .rw[e];simp
 .rw[e,Ya rfl];have:=ZP4 d h q hq 0 (Yc _)
  simp_all
def ZP5(d:Zj)(h:BA d)(q:Zc)(hq:AW q):∀i,i<=q.Atoms.length->S5 d q i=some (Bo ((q.Atoms.drop i).all (WT d)),[]):=by
 refine down _ ?_ ?_
 .simp[X8.1.2.2.1]
 .intro i hi ih;apply X8.1.2.2.1;rw[An,Yg hi,Y6,wS hi hq.1];refine⟨E,_,gE hi,?_⟩;have hk:=G6 d h q.Atoms[i].Name;unfold WT at ih|-
  cases e:ZZ d q.Atoms[i].Name with
  |none =>
   rw[e]at hk
   refine .inl ⟨_,_,_,hk,Z⟩
  |some t =>
   rw[e]at hk;simp only[QK]at hk
   grind
@[simp] theorem IY(d:Zj)(h:BA d)(q:Zc)(hq:AW q):QA d q=some (Bo (ZN d q),[]):=by
 refine X8.1.2.2.2.1 _ _ _ ⟨_,pM q hq,?_⟩;unfold ZN;rcases tf (Zx q.Zi q.Atoms)with e|e
 .rw[e];simp
 .rw[e,Ya rfl];have:=ZP5 d h q hq 0 (Yc _)
  simp_all
def G7:V2->V2->Bool->V2->Bool×V2
 |v::vs,y::ys,ok,x=>G7 vs ys (ok && (decide (x.getD v.toNat 0=-1) || decide (x.getD v.toNat 0=y))) (x.set v.toNat y)
 |_,_,ok,x=>(ok,x)
theorem ZCH:∀(vs ys:V2) (ok:Bool) (x:V2),(G7 vs ys ok x).2.length=x.length
 |[],_,_,_=>rfl
 |_::_,[],_,_=>rfl
 |v::vs,y::ys,ok,x=>by unfold G7;rw[ZCH,Y7]
def ZqG(vs x r:V2):Option (V2):=if(G7 vs r true x).1=true then some (G7 vs r true x).2 else none
def G8(vs:V2)(rows:XS)(x:V2):XS:=rows.filterMap (ZqG vs x)
def ZP6(vs:V2)(rows:XS)(x:V2):(G8 vs rows x).length<=rows.length:=List.length_filterMap_le _ _
def Z2m{vs:V2}{rows:XS}{x y:V2}(h:y∈G8 vs rows x):y.length=x.length:=by
 unfold G8 at h;obtain⟨r,_,hr⟩:=Eu.1 h;unfold ZqG at hr
 grind [ZCH]
theorem gD{xs:V2}{i:Nat}(h:i<xs.length):xs[i]?=some (xs.getD i 0):=by
 simp_all
def Ux(d:Zj)(a:Zd):XS:=match ZZ d a.Name with
 |none=>[]
 |some t=>t.Rows
def IZ(d:Zj)(m:Int):List Zd->Nat->XS->XS
 |[],_,l=>l
 |a::ts,i,l=>IZ d m ts (i+1) (if Ai (As m i) 1=0 then l else l.flatMap (G8 a.Vars (Ux d a)))
def qK{α β:Type}(f:α->List β)(k:Nat)(hf:∀x,(f x).length<=k):∀l:List α,(l.flatMap f).length<=k*l.length
 |[]=>by simp
 |x::l=>by rw[Es,Yo,Ys,Ydl];have:=hf x;have:=qK f k hf l;omega
end Go.Proofs.YtobfkfgdneeabaaGreat
namespace Go.Stb
open Go.Sort
open Go.AM (E Z Om)
variable{α:Type}[Inhabited α](k:α->Int)
def ltK(x y:α):Bool:=decide (k x<k y)
def Bp(a b:Nat)(d:Array α):Prop:=∀x y,a<=x->x<y->y<b->k d[x]!<=k d[y]!
structure Stp (a b:Nat) (d e:Array α):Prop where
 size:e.size=d.size
 out:∀x,(x<a\/b<=x)->e[x]! = d[x]!
 pres:∀P:α->Prop,(∀x,a<=x->x<b->P d[x]!)->∀x,a<=x->x<b->P e[x]!
 stab:∀v:Int,e.toList.filter (λx=>decide (k x=v))=d.toList.filter (λx=>decide (k x=v))
variable{k}
omit [Inhabited α] in
theorem swoK:SWO (ltK k) where
 irrefl x:=by simp[ltK]
 trans x y z h1 h2:=by simp only[ltK,decide_eq_true_eq]at *;omega
 ntrans x y z h1 h2:=by simp only[ltK,decide_eq_false_iff_not]at *;omega
theorem Stp.refl(a b:Nat)(d:Array α):Stp k a b d d:=⟨rfl,λ_ _=>rfl,λP h=>h,λ_=>rfl⟩
theorem Stp.trans{a b:Nat}{d e f:Array α}(h:Stp k a b d e)(g:Stp k a b e f):Stp k a b d f :=
 ⟨g.size.trans h.size,λx hx=>(g.out x hx).trans (h.out x hx),λP hp=>g.pres P (h.pres P hp),λv=>(g.stab v).trans (h.stab v)⟩
theorem Stp.mono{a b a' b':Nat}{d e:Array α}(h:Stp k a b d e)(ha:a'<=a)(hb:b<=b'):Stp k a' b' d e where
 size:=h.size
 out x hx:=h.out x E
 pres P hp x h1 h2:=by
  by_cases hx:a<=x/\x<b
  .exact h.pres P (λy y1 y2=>hp y E E) x hx.1 hx.2
  .rw[h.out x E];exact hp x h1 h2
 stab:=h.stab
theorem Bp.out{a b c d:Nat}{x y:Array α}(h:Bp k a b x)(g:Stp k c d x y)(hd:b<=c\/d<=a):Bp k a b y:=by
 intro i j h1 h2 h3;rw[g.out i E,g.out j E];exact h i j h1 h2 h3
theorem Bp.sub{a b a' b':Nat}{x:Array α}(h:Bp k a b x)(ha:a<=a')(hb:b'<=b):Bp k a' b' x :=
 λi j h1 h2 h3=>h i j E h2 E
theorem Bp.le{a b:Nat}{x:Array α}(h:Bp k a b x){i j:Nat}(h1:a<=i)(h2:i<=j)(h3:j<b):k x[i]!<=k x[j]!:=by
 by_cases e:i=j
 .simp_all
 .exact h i j h1 E h3
theorem ZqH(d:Array α)(x:Nat)(h:x<d.size):d.toList[x]?=some d[x]!:=by
 simp_all
theorem Z2n{l:List α}{e:Array α}(hl:l.length=e.size)(h:∀x,x<e.size->l[x]?=some e[x]!):e.toList=l:=by
 apply List.ext_getElem?
 grind
omit [Inhabited α] in
theorem ZCI(p x y s:List α)(v:Int)(h:∀a∈x,∀b∈y,k a≠k b):(p++y++x++s).filter (λa=>decide (k a=v))=(p++x++y++s).filter (λa=>decide (k a=v)):=by
 simp only[List.filter_append];by_cases hx:x.filter (λa=>decide (k a=v))=[]
 .rw[hx];simp
 .by_cases hy:y.filter (λa=>decide (k a=v))=[]
  .rw[hy];simp
  .obtain⟨a,ha⟩:=List.exists_mem_of_ne_nil _ hx;obtain⟨b,hb⟩:=List.exists_mem_of_ne_nil _ hy
   grind
theorem ZP7(d:Array α)(i:Nat)(h:i+1<d.size):(swp d (i+1) i).toList=d.toList.take i++[d[i+1]!]++[d[i]!]++d.toList.drop (i+2):=by
 refine Z2n (by simp[swp_size];omega) λx hx=>?_
 rw[swp_size]at hx;rw[swp_get d h (show i<d.size by omega)];by_cases h1:x<i
 .grind
 .by_cases h2:x=i
  .grind
  .by_cases h3:x=i+1
   .grind
   .rw[if_neg h2,if_neg h3,List.getElem?_append_right (by simp;omega),List.getElem?_drop]
    grind
theorem Z2o(d:Array α)(i:Nat)(h:i+1<d.size):d.toList=d.toList.take i++[d[i]!]++[d[i+1]!]++d.toList.drop (i+2):=by
 refine Z2n (by simp;omega) λx hx=>?_
 by_cases h1:x<i
 .grind
 .by_cases h2:x=i
  .grind
  .by_cases h3:x=i+1
   .grind
   .rw[List.getElem?_append_right (by simp;omega),List.getElem?_drop]
    grind
theorem ZqI(d:Array α)(i:Nat)(h:i+1<d.size)(hk:k d[i+1]!<k d[i]!):Stp k i (i+2) d (swp d (i+1) i):=by
 have g:=swp_get d h (show i<d.size by omega);refine⟨swp_size _ _ _,λx hx=>by rw[g,if_neg E,if_neg E],λP hp x h1 h2=>?_,λv=>?_⟩
 .grind
 .rw[ZP7 d i h,Z2o d i h];have hl:(d.toList.take i++[d[i]!]++[d[i+1]!]++d.toList.drop (i+2)).take i=d.toList.take i:=by rw[<-Z2o d i h]
  have hr:(d.toList.take i++[d[i]!]++[d[i+1]!]++d.toList.drop (i+2)).drop (i+2)=d.toList.drop (i+2):=by rw[<-Z2o d i h]
  rw[hl,hr];exact ZCI _ _ _ _ v (by simp;omega)
theorem ZP8(d:Array α)(i j:Nat)(hi:i<d.size)(hj:j<d.size):swp d i j=swp d j i:=by
 refine Array.ext (by rw[swp_size,swp_size]) λx h1 h2=>?_
 have g1:=swp_get d hi hj x;have g2:=swp_get d hj hi x
 grind
theorem Z2p(a:Nat):∀(j:Nat) (d:Array α) (b:Nat),a<=j->j<b->b<=d.size->Stp k a b d (insInner (ltK k) a j d)
 |0,d,b,_,_,_=>by unfold insInner;exact .refl _ _ _
 |j+1,d,b,haj,hjb,hb=>by
  unfold insInner;split
  .rename_i hc;simp only[Bool.and_eq_true,decide_eq_true_eq,ltK]at hc;exact((ZqI d j E hc.2).mono E E).trans (Z2p a j _ b E E (by rw[swp_size];exact hb))
  .exact .refl _ _ _
theorem ZCJ(a b:Nat):∀(n i:Nat) (d:Array α),b-i=n->a<i->b<=d.size->Stp k a b d (insOuter (ltK k) a b i d)
 |0,i,d,hn,_,_=>by rw[insOuter,if_neg E];exact .refl _ _ _
 |n+1,i,d,hn,hai,hb=>by
  rw[insOuter,if_pos E];have h1:=Z2p (k:=k) a i d b E E hb;exact h1.trans (ZCJ a b n (i+1) _ E E (by rw[h1.size];exact hb))
theorem ZP9(d:Array α)(a b:Nat)(hb:b<=d.size):Stp k a b d (insertionSort (ltK k) d a b):=ZCJ a b _ _ d rfl E hb
theorem ZPA(d:Array α)(a b:Nat)(c:a<=b)(hb:b<=d.size):Bp k a b (insertionSort (ltK k) d a b):=by
 have h:=(insertionSort_holds (lt:=ltK k) swoK d a b c hb).2;intro x y h1 h2 h3;have:=h x y h1 h2 h3;simp only[ltK,decide_eq_false_iff_not]at this;omega
def DG(a b:Nat):Nat->Array α->Array α
 |0,d=>d
 |n+1,d=>swp (DG a b n d) (a+n) (b+n)
theorem J6(a b:Nat):∀(n:Nat) (d:Array α),(DG a b n d).size=d.size
 |0,d=>rfl
 |n+1,d=>by rw[DG,swp_size,J6]
theorem ZCK(a b:Nat):∀(n:Nat) (d:Array α),a+n<=b->b+n<=d.size->∀x,(DG a b n d)[x]! = if a<=x/\x<a+n then d[b+(x-a)]! else if b<=x/\x<b+n then d[a+(x-b)]! else d[x]!
 |0,d,_,_,x=>by rw[if_neg E,if_neg E];rfl
 |n+1,d,h1,h2,x=>by
  have ih:=ZCK a b n d E E;rw[DG,swp_get _ (by rw[J6];omega) (by rw[J6];omega),ih,ih,ih]
  grind
theorem Z2q(d:Array α)(p x m y s:List α)(h:d.toList=p++(x++(m++(y++s))))(c:y.length=x.length){a b n:Nat}(ha:a=p.length)(hb:b=a+x.length+m.length)(hn:n=x.length) :
  (DG a b n d).toList=p++(y++(m++(x++s))):=by
 have hs:d.size=p.length+(x.length+(m.length+(y.length+s.length))):=by
  grind [Array.length_toList]
 have hd:∀i,i<d.size->(p++(x++(m++(y++s))))[i]?=some d[i]!:=λi hi=>by rw[<-h];exact ZqH d i hi
 refine Z2n (by rw[J6,hs];simp;omega) λi hi=>?_
 rw[J6]at hi;rw[ZCK a b n d E E];by_cases e0:i<p.length
 .grind
 .rw[List.getElem?_append_right E];by_cases e1:i-p.length<y.length
  .have:=hd (b+(i-a)) E
   grind
  .rw[List.getElem?_append_right E];by_cases e2:i-p.length-y.length<m.length
   .grind
   .rw[List.getElem?_append_right E];by_cases e3:i-p.length-y.length-m.length<x.length
    .have:=hd (a+(i-b)) E;rw[List.getElem?_append_right E,List.getElem?_append_left E]at this
     grind
    .grind
structure Fk (a m b:Nat) (d:Array α) (i j:Nat) (e:Array α):Prop where
 size:e.size=d.size
 ex:∀P X Y S,d.toList=P++(X++(Y++S))->P.length=a->a+X.length=m->m+Y.length=b->
  ∃p x y s,e.toList=p++(x++(y++s))/\p.length=m-i/\x.length=i/\y.length=j/\p++(y++(x++s))=P++(Y++(X++S))
omit [Inhabited α] in
theorem Fk.start{a m b:Nat}(d:Array α)(h1:a<=m)(h2:m<=b):Fk a m b d (m-a) (b-m) d :=
 ⟨rfl,λP X Y S h p1 p2 p3=>⟨P,X,Y,S,h,E,E,E,rfl⟩⟩
theorem Fk.gt{a m b i j:Nat}{d e:Array α}(R:Fk a m b d i j e)(h:j<i)(hi:i<=m):Fk a m b d (i-j) j (DG (m-i) m j e):=by
 refine⟨(J6 _ _ _ _).trans R.size,λP X Y S h0 p1 p2 p3=>?_⟩;obtain⟨p,x,y,s,he,q1,q2,q3,q4⟩:=R.ex P X Y S h0 p1 p2 p3;refine⟨p++y,x.drop j,x.take j,s,?_,by simp;omega,by simp;omega,by simp;omega,?_⟩
 .grind [Z2q,List.append_assoc,List.take_append_drop]
 .grind [List.append_assoc,List.take_append_drop]
theorem Fk.lt{a m b i j:Nat}{d e:Array α}(R:Fk a m b d i j e)(h:i<j)(hi:i<=m):Fk a m b d i (j-i) (DG (m-i) (m+j-i) i e):=by
 refine⟨(J6 _ _ _ _).trans R.size,λP X Y S h0 p1 p2 p3=>?_⟩;obtain⟨p,x,y,s,he,q1,q2,q3,q4⟩:=R.ex P X Y S h0 p1 p2 p3;refine⟨p,y.drop (j-i),y.take (j-i),x++s,?_,E,by simp;omega,by simp;omega,?_⟩
 .rw[Z2q e p x (y.take (j-i)) (y.drop (j-i)) s (by rw[he,<-List.append_assoc (y.take (j-i)),List.take_append_drop]) (by simp;omega) E (by simp;omega) E]
 .grind [List.append_assoc,List.take_append_drop]
theorem Fk.eq{a m b i:Nat}{d e:Array α}(R:Fk a m b d i i e)(hi:i<=m):∀P X Y S,d.toList=P++(X++(Y++S))->P.length=a->a+X.length=m->m+Y.length=b->(DG (m-i) m i e).toList=P++(Y++(X++S)):=by
 intro P X Y S h0 p1 p2 p3;obtain⟨p,x,y,s,he,q1,q2,q3,q4⟩:=R.ex P X Y S h0 p1 p2 p3;rw[Z2q e p x [] y s he E E (by simp;omega) E,<-q4];rfl
structure I0 (a m b:Nat) (d e:Array α):Prop where
 size:e.size=d.size
 lo:∀x,a<=x->x<a+(b-m)->e[x]! = d[m+(x-a)]!
 hi:∀x,a+(b-m)<=x->x<b->e[x]! = d[a+(x-(a+(b-m)))]!
 out:∀x,(x<a\/b<=x)->e[x]! = d[x]!
 list:e.toList=d.toList.take a++((d.toList.drop m).take (b-m)++((d.toList.drop a).take (m-a)++d.toList.drop b))
omit [Inhabited α] in
theorem Z2r(d:Array α)(a m b:Nat)(h1:a<=m)(h2:m<=b)(h3:b<=d.size):d.toList=d.toList.take a++((d.toList.drop a).take (m-a)++((d.toList.drop m).take (b-m)++d.toList.drop b)):=by
 have e1:d.toList.drop b=(d.toList.drop m).drop (b-m):=by rw[List.drop_drop];congr 1;omega
 have e2:d.toList.drop m=(d.toList.drop a).drop (m-a):=by rw[List.drop_drop];congr 1;omega
 grind [List.take_append_drop]
theorem Oa{a m b:Nat}{d e:Array α}(h1:a<=m)(h2:m<=b)(h3:b<=d.size)(h:∀P X Y S,d.toList=P++(X++(Y++S))->P.length=a->a+X.length=m->m+Y.length=b->e.toList=P++(Y++(X++S))):I0 a m b d e:=by
 have hl:=h _ _ _ _ (Z2r d a m b h1 h2 h3) (by simp;omega) (by simp;omega) (by simp;omega);have hs:e.size=d.size:=by rw[<-Array.length_toList,hl];simp;omega
 have hg:∀x,x<d.size->some e[x]! = (d.toList.take a++((d.toList.drop m).take (b-m)++((d.toList.drop a).take (m-a)++d.toList.drop b)))[x]?:=λx hx=>by rw[<-hl,ZqH e x E]
 refine⟨hs,λx p q=>?_,λx p q=>?_,λx p=>?_,hl⟩
 .grind
 .grind
 .by_cases hx:x<d.size
  .have:=hg x hx;rcases p with p|p
   .grind
   .rw[List.getElem?_append_right (by simp;omega),List.getElem?_append_right (by simp;omega),List.getElem?_append_right (by simp;omega),List.getElem?_drop,ZqH d _ (by simp;omega)]at this;rw[Option.some.inj this];congr 1;simp;omega
  .simp_all
theorem I0.stp{a m b:Nat}{d e:Array α}(R:I0 a m b d e)(h1:a<=m)(h2:m<=b)(h3:b<=d.size)(hk:∀x y,a<=x->x<m->m<=y->y<b->k d[y]!<k d[x]!):Stp k a b d e:=by
 refine⟨R.size,R.out,λP hp x p q=>?_,λv=>?_⟩
 .by_cases hx:x<a+(b-m)
  .rw[R.lo x p hx];exact hp _ E E
  .rw[R.hi x E q];exact hp _ E E
 .have hc:=Z2r d a m b h1 h2 h3;have hl:=R.list;generalize hP:d.toList.take a=P at hc hl;generalize hX:(d.toList.drop a).take (m-a)=X at hc hl;generalize hY:(d.toList.drop m).take (b-m)=Y at hc hl;generalize d.toList.drop b=S at hc hl;rw[hl,hc]
  have:=ZCI (k:=k) P X Y S v (λx hx y hy=>by
   rw[<-hX]at hx;rw[<-hY]at hy;obtain⟨i,hi,ei⟩:=List.getElem_of_mem hx;obtain⟨j,hj,ej⟩:=List.getElem_of_mem hy;simp only[List.length_take,List.length_drop,Array.length_toList]at hi hj;rw[List.getElem_take,List.getElem_drop]at ei ej;have:=hk (a+i) (m+j) E E E E;rw[getElem!_pos d _ E,getElem!_pos d _ E]at this;rw[<-ei,<-ej,Array.getElem_toList,Array.getElem_toList]
   omega)
  simpa only[List.append_assoc]using this
end Go.Stb
namespace Go.Stb
open Go.Sort
open Go.AM (E Z Om)
variable{α:Type}[Inhabited α]{k:α->Int}
structure Shl (a q:Nat) (d e:Array α):Prop where
 size:e.size=d.size
 aq:a<=q
 le:∀x,a<=x->x<q->e[x]! = d[x+1]!
 at_:e[q]! = d[a]!
 out:∀x,(x<a\/q<x)->e[x]! = d[x]!
theorem Shl.start(a:Nat)(d:Array α):Shl a a d d:=⟨rfl,Nat.le_refl _,λx h1 h2=>by omega,rfl,λ_ _=>rfl⟩
theorem Shl.next{a q:Nat}{d e:Array α}(h:Shl a q d e)(hq:q+1<d.size):Shl a (q+1) d (swp e (q+1) q):=by
 have hs:=h.size;have haq:=h.aq;have g:=swp_get e (show q+1<e.size by omega) (show q<e.size by omega);refine⟨(swp_size _ _ _).trans hs,E,λx h1 h2=>?_,?_,λx hx=>?_⟩
 .rw[g];by_cases e1:x=q
  .subst e1;rw[if_pos rfl,h.out _ E]
  .rw[if_neg e1,if_neg E];exact h.le x h1 E
 .rw[g,if_neg E,if_pos rfl,h.at_]
 .rw[g,if_neg E,if_neg E];exact h.out x E
theorem Shl.stp{a q:Nat}{d e:Array α}(h:Shl a q d e)(hq:q+1<d.size)(hk:k d[q+1]!<k d[a]!):Stp k q (q+2) e (swp e (q+1) q) :=
 ZqI e q (by rw[h.size];exact hq) (by rw[h.at_,h.out _ E];exact hk)
theorem Shl.srt{a i b:Nat}{d e:Array α}(h:Shl a i d e)(hs:Bp k (a+1) b d)(h1:i=a\/k d[i]!<k d[a]!)(h2:i+1=b\/k d[a]!<=k d[i+1]!)(c:i<b):Bp k a b e:=by
 have hi:=h.aq;intro x y hx hxy hy;by_cases e1:y<i
 .rw[h.le x hx E,h.le y E e1];exact hs _ _ E E E
 .by_cases e2:y=i
  .subst e2;rw[h.le x hx hxy,h.at_];have:=hs.le (i:=x+1) (j:=y) E E E;omega
  .rw[h.out y E];by_cases e3:x=i
   .subst e3;rw[h.at_];have:=hs.le (i:=x+1) (j:=y) E E hy;omega
   .by_cases e4:x<i
    .rw[h.le x hx e4];exact hs _ _ E E hy
    .rw[h.out x E];exact hs _ _ E hxy hy
structure FB (q m:Nat) (d e:Array α):Prop where
 size:e.size=d.size
 qm:q<=m
 le:∀x,q<x->x<=m->e[x]! = d[x-1]!
 at_:e[q]! = d[m]!
 out:∀x,(x<q\/m<x)->e[x]! = d[x]!
theorem FB.start(m:Nat)(d:Array α):FB m m d d:=⟨rfl,Nat.le_refl _,λx h1 h2=>by omega,rfl,λ_ _=>rfl⟩
theorem FB.next{q m:Nat}{d e:Array α}(h:FB (q+1) m d e)(hm:m<d.size):FB q m d (swp e (q+1) q):=by
 have hs:=h.size;have hqm:=h.qm;have g:=swp_get e (show q+1<e.size by omega) (show q<e.size by omega);refine⟨(swp_size _ _ _).trans hs,E,λx h1 h2=>?_,?_,λx hx=>?_⟩
 .rw[g,if_neg E];by_cases e1:x=q+1
  .subst e1;rw[if_pos rfl,h.out _ E];rfl
  .rw[if_neg e1];exact h.le x E h2
 .rw[g,if_pos rfl,h.at_]
 .rw[g,if_neg E,if_neg E];exact h.out x E
theorem FB.stp{q m:Nat}{d e:Array α}(h:FB (q+1) m d e)(hm:m<d.size)(hk:k d[m]!<k d[q]!):Stp k q (q+2) e (swp e (q+1) q):=by
 have:=h.qm;exact ZqI e q (by rw[h.size];omega) (by rw[h.at_,h.out _ E];exact hk)
theorem FB.srt{a i m:Nat}{d e:Array α}(h:FB i m d e)(hs:Bp k a m d)(h1:i=a\/k d[i-1]!<=k d[m]!)(h2:i=m\/k d[m]!<k d[i]!)(c:a<=i):Bp k a (m+1) e:=by
 have hi:=h.qm;intro x y hx hxy hy;by_cases e1:i<x
 .rw[h.le x e1 E,h.le y E E];exact hs _ _ E E E
 .by_cases e2:x=i
  .subst e2;rw[h.at_,h.le y hxy E];have:=hs.le (i:=x) (j:=y-1) E E E;omega
  .rw[h.out x E];by_cases e3:y=i
   .subst e3;rw[h.at_];have:=hs.le (i:=x) (j:=y-1) E E E;omega
   .by_cases e4:i<y
    .rw[h.le y e4 E];exact hs.le E E E
    .rw[h.out y E];exact hs _ _ E hxy E
structure Cut (k:α->Int) (a m b mid s:Nat) (d:Array α):Prop where
 am:a<m
 mb:m<b
 sz:b<=d.size
 l1:a<mid
 l2:mid<b
 s1:a<=s
 s2:s<=m
 s3:s<=mid
 s4:mid+m<=s+b
 lo:Bp k a m d
 hi:Bp k m b d
 c1:(s=a\/mid+m=s+b)\/k d[s-1]!<=k d[mid+m-s]!
 c2:(s=mid\/s=m)\/k d[mid+m-s-1]!<k d[s]!
theorem ZPB{s m e:Nat}(d:Array α)(h1:s<=m)(h2:m<=e)(h3:e<=d.size)(h:s=m\/e=m):I0 s m e d d:=by
 refine⟨rfl,λx p q=>?_,λx p q=>?_,λ_ _=>rfl,?_⟩
 .congr 1;omega
 .congr 1;omega
 .have hc:=Z2r d s m e h1 h2 h3;rcases h with h|h
  .grind
  .grind
structure ZqJ (k:α->Int) (a b mid s t:Nat) (d e:Array α):Prop where
 stp:Stp k a b d e
 q1:Bp k a s e
 q2:Bp k s mid e
 q3:Bp k mid t e
 q4:Bp k t b e
 cross:∀x y,a<=x->x<mid->mid<=y->y<b->k e[x]!<=k e[y]!
theorem Cut.turn{a m b mid s:Nat}{d e:Array α}(C:Cut k a m b mid s d)(R:I0 s m (mid+m-s) d e):ZqJ k a b mid s (mid+m-s) d e:=by
 obtain⟨am,mb,sz,l1,l2,s1,s2,s3,s4,lo,hi,c1,c2⟩:=C;have hlo:∀x,s<=x->x<mid->e[x]! = d[m+(x-s)]!:=λx p q=>R.lo x p E
 have hhi:∀x,mid<=x->x<mid+m-s->e[x]! = d[s+(x-mid)]!:=λx p q=>by
  rw[R.hi x E q];congr 1;omega
 refine⟨?_,?_,?_,?_,?_,?_⟩
 .refine(R.stp s2 E E λx y p q r t=>?_).mono s1 E;have h1:=lo.le (i:=s) (j:=x) s1 p q;have h2:=hi.le (i:=y) (j:=mid+m-s-1) r E E;omega
 .intro x y p q r;rw[R.out x E,R.out y E];exact lo x y p q E
 .intro x y p q r;rw[hlo x p E,hlo y E r];exact hi _ _ E E E
 .intro x y p q r;rw[hhi x p E,hhi y E r];exact lo _ _ E E E
 .intro x y p q r;rw[R.out x E,R.out y E];exact hi x y E q r
 .intro x y p q r t;by_cases hx:x<s
  .rw[R.out x E];by_cases hy:y<mid+m-s
   .rw[hhi y r hy];exact lo.le p E E
   .rw[R.out y E];have h1:=lo.le (i:=x) (j:=s-1) p E E;have h2:=hi.le (i:=mid+m-s) (j:=y) E E t;omega
  .rw[hlo x E q];by_cases hy:y<mid+m-s
   .rw[hhi y r hy];have h1:=hi.le (i:=m+(x-s)) (j:=mid+m-s-1) E E E;have h2:=lo.le (i:=s) (j:=s+(y-mid)) s1 E E;omega
   .rw[R.out y E];exact hi.le E E t
theorem ZqJ.join{a b mid s t:Nat}{d e f g:Array α}(C:ZqJ k a b mid s t d e)(h1:a<=mid)(h2:mid<=b)(F:Stp k a mid e f)(F':Bp k a mid f)(G:Stp k mid b f g)(G':Bp k mid b g):Stp k a b d g/\Bp k a b g:=by
 refine⟨(C.stp.trans (F.mono (Nat.le_refl _) h2)).trans (G.mono h1 (Nat.le_refl _)),?_⟩;intro x y p q r;by_cases hy:y<mid
 .rw[G.out x E,G.out y E];exact F' x y p q hy
 .by_cases hx:mid<=x
  .exact G' x y hx q r
  .have hf:∀x,a<=x->x<mid->∀z,mid<=z->z<b->k f[x]!<=k e[z]!:=by
    refine F.pres (λv=>∀z,mid<=z->z<b->k v<=k e[z]!) λx p q z r t=>C.cross x z p q r t
   have hg:∀y,mid<=y->y<b->k f[x]!<=k g[y]!:=by
    refine G.pres (λv=>k f[x]!<=k v) λy r t=>?_
    rw[F.out y E]
    simp_all
   rw[G.out x E];exact hg y E r
theorem ZCL{a s b:Nat}{e:Array α}(h1:Bp k a s e)(h2:Bp k s b e)(h:¬(a<s/\s<b))(h3:a<=s)(h4:s<=b):Bp k a b e:=by
 grind
def Oc(k:α->Int)(bs n:Nat)(d:Array α):Prop:=∀c,Bp k (c*bs) (min ((c+1)*bs) n) d
def Mid(k:α->Int)(bs n a:Nat)(d:Array α):Prop:=∃t,a=t*(2*bs)/\(∀c,c<t->Bp k (c*(2*bs)) ((c+1)*(2*bs)) d)/\∀c,2*t<=c->Bp k (c*bs) (min ((c+1)*bs) n) d
theorem Mid.start{bs n:Nat}{d:Array α}(h:Oc k bs n d):Mid k bs n 0 d:=⟨0,E,λc hc=>by omega,λc _=>h c⟩
theorem Mid.two{bs n a:Nat}{d:Array α}(h:Mid k bs n a d):Bp k a (min (a+bs) n) d/\Bp k (a+bs) (min (a+2*bs) n) d:=by
 obtain⟨t,rfl,h1,h2⟩:=h;have g1:=h2 (2*t) E;have g2:=h2 (2*t+1) E
 grind
theorem Mid.next{bs n a:Nat}{d e:Array α}(h:Mid k bs n a d)(S:Stp k a (a+2*bs) d e)(S':Bp k a (a+2*bs) e):Mid k bs n (a+2*bs) e:=by
 obtain⟨t,rfl,h1,h2⟩:=h;refine⟨t+1,by rw[Nat.add_mul];omega,λc hc=>?_,λc hc=>?_⟩
 .by_cases e1:c=t
  .grind
  .refine(h1 c E).out S (.inl ?_);exact Nat.mul_le_mul_right _ E
 .refine(h2 c E).out S (.inr ?_)
  have:(2*(t+1))*bs<=c*bs:=Nat.mul_le_mul_right _ E
  grind
theorem Mid.end_{bs n a:Nat}{d e:Array α}(h:Mid k bs n a d)(hn:n<a+2*bs)(S:Stp k a n d e)(S':Bp k a n e):Oc k (2*bs) n e:=by
 obtain⟨t,rfl,h1,h2⟩:=h;intro c;by_cases e1:c<t
 .have:(c+1)*(2*bs)<=t*(2*bs):=Nat.mul_le_mul_right _ E
  exact((h1 c e1).sub (Nat.le_refl _) (Nat.min_le_left _ _)).out S (.inl E)
 .by_cases e2:c=t
  .grind
  .have:(t+1)*(2*bs)<=c*(2*bs):=Nat.mul_le_mul_right _ E
   rw[Nat.add_mul]at this;intro x y p q r;omega
def I1(k:α->Int)(a:Nat)(d:Array α):Prop:=∃t,a=t*20/\∀c,c<t->Bp k (c*20) ((c+1)*20) d
theorem I1.start(d:Array α):I1 k 0 d:=⟨0,E,λc hc=>by omega⟩
theorem I1.next{a:Nat}{d e:Array α}(h:I1 k a d)(S:Stp k a (a+20) d e)(S':Bp k a (a+20) e):I1 k (a+20) e:=by
 obtain⟨t,rfl,h1⟩:=h;refine⟨t+1,E,λc hc=>?_⟩;by_cases e1:c=t
 .grind
 .exact(h1 c E).out S (.inl E)
theorem I1.end_{a n:Nat}{d e:Array α}(h:I1 k a d)(hn:n<a+20)(S:Stp k a n d e)(S':Bp k a n e):Oc k 20 n e:=by
 obtain⟨t,rfl,h1⟩:=h;intro c;by_cases e1:c<t
 .exact((h1 c e1).sub (Nat.le_refl _) (Nat.min_le_left _ _)).out S (.inl E)
 .by_cases e2:c=t
  .grind
  .intro x y p q r;omega
theorem Oc.whole{bs n:Nat}{d:Array α}(h:Oc k bs n d)(hn:n<=bs):Bp k 0 n d:=by
 have:=h 0
 simp_all
omit [Inhabited α] in
theorem Z2s:∀(n:Nat) (lo:Int) (l:List α),l.Pairwise (λa b=>k a<=k b)->(∀x∈l,lo<=k x/\k x<lo+n)->l=(List.range n).flatMap λi:Nat=>l.filter (λx=>decide (k x=lo+(i:Int)))
 |0,lo,l,_,h=>by
  cases l with
  |nil=>rfl
  |cons x l=>have:=h x Z;omega
 |n+1,lo,l,hp,h=>by
  have ih:=Z2s n lo (l.filter (λx=>decide (k x<lo+n))) (hp.filter _) (λx hx=>by
   have:=List.mem_filter.1 hx
   exact⟨(h x this.1).1,by simpa using this.2⟩)
  rw[List.range_succ,List.flatMap_append];have e1:(List.range n).flatMap (λi:Nat=>(l.filter (λx=>decide (k x<lo+n))).filter (λx=>decide (k x=lo+(i:Int))))=(List.range n).flatMap λi:Nat=>l.filter (λx=>decide (k x=lo+(i:Int))):=by
   simp only[List.flatMap_def];congr 1;refine List.map_congr_left λi hi=>?_
   rw[List.filter_filter];refine List.filter_congr λx hx=>?_
   have:=List.mem_range.1 hi;by_cases e:k x=lo+(i:Int)
   .simp only[e,decide_true,Bool.true_and,decide_eq_true_eq];omega
   .simp[e]
  rw[<-e1,<-ih];simp only[List.flatMap_cons,List.flatMap_nil,List.append_nil];clear ih e1
  induction l with
  |nil=>rfl
  |cons x l ih =>
   have hx:=h x Z;have hp2:=List.pairwise_cons.1 hp;have ih:=ih hp2.2 (λy hy=>h y (by simp[hy]));by_cases hl:k x<lo+n
   .rw[List.filter_cons_of_pos (by simpa using hl),List.filter_cons_of_neg (by simp;omega),List.cons_append,<-ih]
   .have e2:k x=lo+n:=by omega
    have:(x::l).filter (λx=>decide (k x<lo+n))=[]:=by
     refine List.filter_eq_nil_iff.2 λy hy=>?_
     rcases List.mem_cons.1 hy with rfl|hy
     .simpa using hl
     .have:=hp2.1 y hy;simp;omega
    rw[this,List.nil_append];refine(List.filter_eq_self.2 λy hy=>?_).symm;rcases List.mem_cons.1 hy with rfl|hy
    .simpa using e2
    .have:=hp2.1 y hy;have:=h y (by simp[hy]);simp;omega
theorem Stp.classes{d e:Array α}{n:Nat}(S:Stp k 0 d.size d e)(S':Bp k 0 d.size e)(hk:∀x∈d.toList,0<=k x/\k x<n):e.toList=(List.range n).flatMap λi:Nat=>d.toList.filter (λx=>decide (k x=(i:Int))):=by
 have hm:∀x∈e.toList,0<=k x/\k x<n:=by
  have hp:=S.pres (λv=>0<=k v/\k v<n) (λx _ h2=>hk _ (by rw[getElem!_pos d x h2];simp));intro x hx;obtain⟨i,hi,rfl⟩:=List.getElem_of_mem hx;have hi':i<e.size:=by simpa using hi
  have:=hp i (Nat.zero_le _) (by rw[<-S.size];exact hi');rw[getElem!_pos e i hi']at this;simpa using this
 have h1:=Z2s (k:=k) n 0 e.toList (by
  rw[List.pairwise_iff_getElem];intro i j hi hj hij;have hj':j<e.size:=by simpa using hj
  have:=S' i j (Nat.zero_le _) hij (by rw[<-S.size];exact hj');rw[getElem!_pos e i E,getElem!_pos e j hj']at this
  simpa using this) (λx hx=>by have:=hm x hx;omega)
 simp only[Int.zero_add]at h1;rw[h1];congr 1;funext i;exact S.stab i
end Go.Stb
namespace Go.Proofs.YtobfkfgdneeabaaGreat
open Go.AM
def AD(vs:V2)(v:Int):Int:=XD (λx=>decide (v=x)) vs 0
def Xp(r:V2)(i:Int):Int:=r.getD i.toNat 0
def ZCM(v:Int):∀(vs:V2) (i:Nat),has vs v=true->(i:Int)<=XD (λx=>decide (v=x)) vs i/\(XD (λx=>decide (v=x)) vs i).toNat<i+vs.length/\vs[(XD (λx=>decide (v=x)) vs i).toNat-i]?=some v
 |[],i,h=>by simp[has]at h
 |x::vs,i,h=>by
  unfold XD;by_cases e:v=x
  .subst e;simp
  .have h':has vs v=true:=by simpa[has,e]using h
   obtain⟨h1,h2,h3⟩:=ZCM v vs (i+1) h'
   grind
def XT{vs:V2}{v:Int}(h:has vs v=true):0<=AD vs v/\(AD vs v).toNat<vs.length/\vs[(AD vs v).toNat]?=some v:=by
 have:=ZCM v vs 0 h;unfold AD;simpa using this
def ZPC{vs:V2}{v:Int}(h:has vs v=false):AD vs v=-1:=ZsM _ _ _ h
def VK{vs:V2}{v:Int}:0<=AD vs v↔has vs v=true:=by
 constructor
 .intro h;rcases tf (has vs v)with e|e
  .simp_all [ZPC]
  .exact e
 .simp_all [XT]
def XU(vs r:V2)(v:Int):Int:=Xp r (AD vs v)
theorem KW{vs:V2}{v:Int}(h:has vs v=true)(f:Int->Int):XU vs (vs.map f) v=f v:=by
 obtain⟨-,h2,h3⟩:=XT h;unfold XU Xp
 simp_all
abbrev Asc(l:V2):Prop:=l.Pairwise (·<·)
def qP:∀{a b:V2},Asc a->Asc b->(∀x,x∈a↔x∈b)->a=b
 |[],[],_,_,_=>rfl
 |[],y::b,_,_,h=>by have:=(h y).2 Z;cases this
 |x::a,[],_,_,h=>by have:=(h x).1 Z;cases this
 |x::a,y::b,ha,hb,h=>by
  have ha':=Y4.1 ha;have hb':=Y4.1 hb;have e:x=y:=by
   have h1:=(h x).1 Z;have h2:=(h y).2 Z
   grind
  subst e;rw[qP ha'.2 hb'.2 λz=>?_]
  grind
def qQ(l:V2):(ZE l).Perm l:=RH _ _
def ZCN(l:V2):(ZE l).Pairwise (·<=·):=by
 have:=List.pairwise_mergeSort (le:=λx y:Int=>decide (x<=y)) (by simp;omega) (by simp;omega) l;exact this.imp Z
theorem J7(l:V2)(x:Int):x∈ZE l↔x∈l:=(qQ l).mem_iff
def ZPD{l:V2}(h:l.Nodup):Asc (ZE l):=by
 have h1:=ZCN l;have h2:(ZE l).Nodup:=(qQ l).nodup_iff.2 h;exact(h1.and h2).imp (by intro a b h;omega)
def Z2t:∀(l:V2) (x:Int),x∈Wg l↔x∈l
 |[],x=>by simp[Wg]
 |[a],x=>by simp[Wg]
 |a::b::l,x=>by
  unfold Wg;have ih:=Z2t (b::l) x
  grind
def ZCO:∀{l:V2},l.Pairwise (·<=·)->Asc (Wg l)
 |[],_=>by simp[Wg]
 |[a],_=>by simp[Wg]
 |a::b::l,h=>by
  unfold Wg;have h1:=Y4.1 h;have ih:=ZCO h1.2;split
  .exact ih
  .rename_i e;refine Y4.2 ⟨λx hx=>?_,ih⟩;rw[Z2t]at hx;have h2:=Y4.1 h1.2;rcases Yy.1 hx with rfl|hx
   .grind
   .have:=h1.1 b Z;have:=h2.1 x hx;omega
def Ar(a b:V2):V2:=((List.range 4).map λu:Nat=>(u:Int)).filter λv=>has a v || has b v
def ZCP(n:Nat)(p:Nat->Bool):Asc (((List.range n).filter p).map λu:Nat=>(u:Int)):=by
 simp[List.pairwise_map,List.pairwise_lt_range.filter]
def ZCQ(a b:V2):Asc (Ar a b):=by
 have:=ZCP 4 λ_=>true
 rw[List.filter_eq_self.2 Z]at this;exact this.filter _
def qR{a b:V2}(ha:∀x∈a,Am x 0 3=true)(hb:∀x∈b,Am x 0 3=true)(v:Int):v∈Ar a b↔v∈a\/v∈b:=by
 unfold Ar;rw[Ep];simp only[RF,Xj,Yn,Y8];constructor
 .exact λh=>h.2
 .intro h;refine⟨?_,h⟩
  have:Am v 0 3=true:=h.elim (ha v) (hb v)
  simp[Am]at this;exact⟨v.toNat,E,E⟩
def ZPE{a b:V2}(ha:∀x∈a,Am x 0 3=true)(hb:∀x∈b,Am x 0 3=true):Wg (ZE (a++b))=Ar a b :=
 qP (ZCO (ZCN _)) (ZCQ _ _) λx=>by rw[Z2t,J7,qR ha hb,Yp]
def aU(m:Int)(qa:List Zd)(k:Nat):Asc (ZX m qa k):=ZCP _ _
def Od{n:Int}{qa:List Zd}(h:Zx n qa=true)(m v:Int):v∈ZX m qa n.toNat↔Bz qa m v=true:=by rw[<-Ml h,Xj]
def I3{n:Int}{qa:List Zd}(h:Zx n qa=true)(m:Int):∀v∈ZX m qa n.toNat,Am v 0 3=true:=by
 intro v hv;have:=(Od h m v).1 hv;unfold Bz at this
 simp_all
def qT:∀a b:Fin 16,∀j:Fin 4,Zw (Az (a.1:Int) (b.1:Int)) j.1=(Zw (a.1:Int) j.1 || Zw (b.1:Int) j.1):=by decide
theorem ZqK{a b:Int}(ha:0<=a/\a<16)(hb:0<=b/\b<16){j:Nat}(hj:j<4):Zw (Az a b) j=(Zw a j || Zw b j):=by
 have:=qT ⟨a.toNat,E⟩ ⟨b.toNat,E⟩ ⟨j,hj⟩
 grind
theorem ZCR{a b:Int}(ha:0<=a/\a<16)(hb:0<=b/\b<16)(u:Int):∀(l:List Zd) (i:Nat),i+l.length<=4->Xu (Az a b) l i u=(Xu a l i u || Xu b l i u)
 |[],_,_=>rfl
 |x::l,i,h=>by
  simp only[Ys]at h;unfold Xu;rw[ZqK ha hb E,ZCR ha hb u l (i+1) E]
  grind
def Z2u{n:Int}{qa:List Zd}(h:Zx n qa=true){a b:Int}(ha:0<=a/\a<16)(hb:0<=b/\b<16):Ar (ZX a qa n.toNat) (ZX b qa n.toNat)=ZX (Az a b) qa n.toNat:=by
 refine qP (ZCQ _ _) (aU _ _ _) λv=>?_
 rw[qR (I3 h a) (I3 h b),Od h,Od h,Od h];unfold Bz pV
 grind [ZCR,XF]
def qU:∀i j:Fin 4,Zw (Ac 1 (i.1:Int)) j.1=decide (j=i):=by decide
def ZCS{i:Nat}(hi:i<4)(u:Int):∀(l:List Zd) (j:Nat),j+l.length<=4->Xu (Ac 1 (i:Int)) l j u=if j<=i then(match l[i-j]? with|some a=>has a.Vars u|none=>false)else false
 |[],j,_=>by simp[Xu]
 |x::l,j,h=>by
  simp only[Ys]at h;unfold Xu;have hb:=qU ⟨i,hi⟩ ⟨j,E⟩;simp only[Fin.mk.injEq]at hb;rw[hb,ZCS hi u l (j+1) E]
  grind
theorem ZCT{n:Int}:∀{vs c:V2},UB n c vs=true->vs.Nodup/\∀v∈vs,v ∉ c
 |[],c,_=>⟨C2,Z⟩
 |v::vs,c,h=>by
  unfold UB at h;simp only[Yf,Bool.not_eq_true']at h;obtain⟨⟨h1,h2⟩,h3⟩:=h;obtain⟨g1,g2⟩:=ZCT h3
  grind [Xj,List.nodup_cons]
def ZCU{n:Int}{qa:List Zd}(h:Zx n qa=true){a:Zd}(ha:a∈qa):a.Vars.Nodup:=by
 simp only[Zx,Yf]at h;have:=Ym.1 h.1.2 a ha;simp only[WF,Yf]at this
 grind [ZCT]
def Z2v{n:Int}{qa:List Zd}(h:Zx n qa=true){i:Nat}{a:Zd}(hi:qa[i]?=some a):ZE a.Vars=ZX (Ac 1 (i:Int)) qa n.toNat:=by
 have hl:=XF h;have hi':i<qa.length:=(Y2.1 hi).1;have hm:a∈qa:=Yu hi;refine qP (ZPD (ZCU h hm)) (aU _ _ _) λv=>?_
 rw[J7,Od h];unfold Bz pV;rw[ZCS E _ _ 0 E,Ya (Yc _),Hz,hi];simp only[Yf,Xj];constructor
 .intro hv;have h3:=Gp h a hm v hv;refine⟨h3,?_⟩;simp[Am]at h3
  grind
 .rintro⟨h3,hv⟩;simp[Am]at h3
  rwa [show((v.toNat:Nat):Int)=v by omega]at hv
def Eg(m:Int):Nat:=(List.range 4).countP λi=>Zw m i
def Aa4:∀a b:Fin 16,Ai (a.1:Int) (b.1:Int)=0->Eg (Az (a.1:Int) (b.1:Int))=Eg (a.1:Int)+Eg (b.1:Int):=by decide
def Z2w{a b:Int}(ha:0<=a/\a<16)(hb:0<=b/\b<16)(h:Ai a b=0):Eg (Az a b)=Eg a+Eg b:=by
 have:=Aa4 ⟨a.toNat,E⟩ ⟨b.toNat,E⟩
 grind
def pc1:∀i:Fin 4,Eg (Ac 1 (i.1:Int))=1:=by decide
def qW(m:Int):Eg m<=4:=Yz List.countP_le_length Z
theorem ZqL(m:Int):8 ^ Eg m<=4096:=Yz (Nat.pow_le_pow_right Om (qW m)) Om
end Go.Proofs.YtobfkfgdneeabaaGreat
namespace Go.Proofs.YtobfkfgdneeabaaGreat
open Go.AM Go.Stb
def kx(x:Nat)(r:V2):Int:=r[x]!
def UJ(x:Nat)(rows:XS):XS:=(List.range 10).flatMap λi:Nat=>rows.filter λr=>decide (kx x r=(i:Int))
def qX(x:Int)(r:V2):kx x.toNat r=Xp r x:=by
 unfold kx Xp;simp
def ZCV{x:Nat}{rows:XS}(h:∀r∈rows,0<=kx x r/\kx x r<=9)(r:V2):r∈UJ x rows↔r∈rows:=by
 unfold UJ;rw[DV];constructor
 .simp_all
 .intro hr;have:=h r hr;refine⟨(kx x r).toNat,Y8.2 E,Ep.2 ⟨hr,?_⟩⟩
  grind
def ZCW(x:Nat):∀(n:Nat) (rows:XS),((List.range n).flatMap λi:Nat=>rows.filter λr=>decide (kx x r=(i:Int))).length=rows.countP λr=>decide (0<=kx x r/\kx x r<n)
 |0,rows=>by
  grind
 |n+1,rows=>by
  rw[Di,List.flatMap_append,Yo,ZCW x n rows];simp only[Es,List.flatMap_nil,CX];rw[<-List.countP_eq_length_filter]
  induction rows with
  |nil=>rfl
  |cons r rows ih =>
   grind
def ZPF{x:Nat}{rows:XS}(h:∀r∈rows,0<=kx x r/\kx x r<=9):(UJ x rows).length=rows.length:=by
 unfold UJ;rw[ZCW]
 grind [List.countP_eq_length]
def ZPG(x:Nat)(rows:XS):(UJ x rows).Pairwise λa b=>kx x a<=kx x b:=by
 unfold UJ
 grind [List.pairwise_iff_getElem,List.getElem_mem,List.pairwise_lt_range.imp]
def ZPH{x:Nat}{rows:XS}(hs:rows.Pairwise λa b=>kx x a<=kx x b)(h:∀r∈rows,0<=kx x r/\kx x r<=9):UJ x rows=rows:=by
 have:=Z2s (k:=kx x) 10 0 rows hs (λr hr=>by have:=h r hr;omega);simp only[Int.zero_add]at this;exact this.symm
def agr(av x bv y:V2):Bool:=(List.range av.length).all λi=>decide (AD bv (av.getD i 0)<0) || decide (x.getD i 0=Xp y (AD bv (av.getD i 0)))
def BL(av x bv y:V2)(v:Int):Int:=if 0<=AD av v then Xp x (AD av v)else Xp y (AD bv v)
def BB(vs av x bv y:V2):Option (V2):=if agr av x bv y=true then some (vs.map (BL av x bv y))else none
def Wp(vs:V2)(a b:Ze):XS:=a.Rows.flatMap λx=>b.Rows.filterMap λy=>BB vs a.Vars x b.Vars y
def UK(vs:V2)(a b:Ze):XS:=b.Rows.flatMap λy=>a.Rows.filterMap λx=>BB vs a.Vars x b.Vars y
def VL(a b:Ze):Ze:=⟨Ar a.Vars b.Vars,Wp (Ar a.Vars b.Vars) a b⟩
def I4(a b:Ze):Ze:=⟨Ar a.Vars b.Vars,UK (Ar a.Vars b.Vars) a b⟩
def Oe(s:Ze)(v:Int):Ze:=⟨s.Vars,UJ (AD s.Vars v).toNat s.Rows⟩
def UL(d:Zj)(q:Zc)(i:Int):Ze:=match q.Atoms[i.toNat]? with
 |some a=>⟨ZE a.Vars,(Ux d a).map λr=>(ZE a.Vars).map λv=>Xp r (AD a.Vars v)⟩
 |none=>⟨[],[]⟩
def ZCX{α β:Type}(f:α->Option β)(l:List α):(l.filterMap f).length<=l.length:=List.length_filterMap_le _ _
def ZCY(vs:V2)(a b:Ze):(Wp vs a b).length<=b.Rows.length*a.Rows.length:=qK _ _ (λ_=>ZCX _ _) _
def ZCZ(vs:V2)(a b:Ze):(UK vs a b).length<=a.Rows.length*b.Rows.length:=qK _ _ (λ_=>ZCX _ _) _
def ZPI{vs:V2}{a b:Ze}{r:V2}(h:r∈Wp vs a b):∃x∈a.Rows,∃y∈b.Rows,r=vs.map (BL a.Vars x b.Vars y):=by
 obtain⟨x,hx,h⟩:=DV.1 h;obtain⟨y,hy,h⟩:=Eu.1 h;unfold BB at h
 grind
def ZPJ{vs:V2}{a b:Ze}{r:V2}(h:r∈UK vs a b):∃x∈a.Rows,∃y∈b.Rows,r=vs.map (BL a.Vars x b.Vars y):=by
 obtain⟨y,hy,h⟩:=DV.1 h;obtain⟨x,hx,h⟩:=Eu.1 h;unfold BB at h
 grind
def ZPK{vs:V2}{a b:Ze}{x:Nat}(hs:a.Rows.Pairwise λp q=>kx x p<=kx x q)(h:∀r∈a.Rows,0<=kx x r/\kx x r<=9) :
  (List.range 10).flatMap (λi:Nat=>Wp vs ⟨a.Vars,a.Rows.filter λr=>decide (kx x r=(i:Int))⟩ b)=Wp vs a b:=by
 have e:=ZPH hs h;unfold Wp
 conv=>rhs;rw[<-e]
 unfold UJ;rw[List.flatMap_assoc]
def Qo:Option Int->V2->Bool
 |_,[]=>true
 |p,x::xs=>(Am x 0 3 && BD (λa b=>decide (a<b)) p x) && Qo (some x) xs
def ZDa(s:Ze):Bool:=s.Rows.all (B3 s.Vars.length) && (Qo none s.Vars && decide ((s.Rows.length:Int)<=4096))
def Z2x:∀(l:V2) (p:Option Int),Asc l->(∀x∈l,Am x 0 3=true)->(∀q,p=some q->∀x∈l,q<x)->Qo p l=true
 |[],_,_,_,_=>rfl
 |x::l,p,h,hr,hp=>by
  have h':=Y4.1 h;unfold Qo;rw[Z2x l (some x) h'.2 (λy hy=>hr y (by simp[hy])) (λq hq y hy=>by cases hq;exact h'.1 y hy),hr x Z]
  cases p with
  |none=>rfl
  |some q=>simp[BD,hp q rfl x Z]
structure GS (q:Zc) (y:Zf) (s:Ze):Prop where
 vars:s.Vars=ZX y.Mask q.Atoms q.Zi.toNat
 rows:∀r∈s.Rows,B3 s.Vars.length r=true
 len:s.Rows.length<=8 ^ Eg y.Mask
 ord:0<=y.Order->has s.Vars y.Order=true/\s.Rows.Pairwise λa b=>kx (AD s.Vars y.Order).toNat a<=kx (AD s.Vars y.Order).toNat b
def ZqM{n:Nat}{r:V2}(h:B3 n r=true){i:Nat}(hi:i<n):i<r.length/\0<=kx i r/\kx i r<=9:=by
 unfold B3 at h;simp only[Yf,decide_eq_true_eq,Ym]at h;have hl:r.length=n:=by omega
 have h2:=h.1 r[i] (Ye E);unfold kx;rw[getElem!_pos r i E];simp[N8,Am]at h2;omega
theorem G9{n:Nat}{r:V2}(h:B3 n r=true):r.length=n:=by
 unfold B3 at h
 grind
def GS.valid{q:Zc}{y:Zf}{s:Ze}(h:GS q y s)(hq:Zx q.Zi q.Atoms=true):ZDa s=true:=by
 unfold ZDa;simp only[Yf,Ym,decide_eq_true_eq];refine⟨h.rows,?_,by have:=h.len;have:=ZqL y.Mask;omega⟩;rw[h.vars];exact Z2x _ _ (aU _ _ _) (I3 hq _) Z
def GS.ZDb{q:Zc}{y:Zf}{s:Ze}(h:GS q y s):s.Vars.length<=4\/4<q.Zi:=by
 by_cases e:4<q.Zi
 .exact .inr e
 .left;rw[h.vars];have:=Mj y.Mask q.Atoms q.Zi.toNat;omega
theorem Z2y{vs:V2}{f:Int->Int}(h:∀v∈vs,0<=f v/\f v<=9):B3 vs.length (vs.map f)=true:=by
 unfold B3;simp only[Yf,decide_eq_true_eq,Ym,Y1,and_true];intro v hv;obtain⟨u,hu,rfl⟩:=Yn.1 hv;have:=h u hu;simp[N8,Am];omega
def Z2z{vs r:V2}(h:B3 vs.length r=true){v:Int}(hv:has vs v=true):0<=Xp r (AD vs v)/\Xp r (AD vs v)<=9:=by
 obtain⟨h1,h2,h3⟩:=XT hv;have:=ZqM h h2
 simp_all [qX]
end Go.Proofs.YtobfkfgdneeabaaGreat
namespace Go.Proofs.YtobfkfgdneeabaaGreat
open Go.AM Go.Stb
structure QL (qa:List Zd) (x:Zn) (pre:List Zf) (y:Zf):Prop where
 scan:x.Kind=1->Am x.Zd 0 (qa.length-1)=true/\y=⟨Ac 1 x.Zd,(match qa[x.Zd.toNat]? with|some a=>a.Vars.headD 0|none=>0),-1,-1⟩
 sort:x.Kind=2->∃s u,0<=s/\pre[s.toNat]?=some u/\Bz qa u.Mask x.Order=true/\y=⟨u.Mask,x.Order,s,-1⟩
 join:x.Kind≠1->x.Kind≠2->∃s u t z o,0<=s/\pre[s.toNat]?=some u/\0<=t/\pre[t.toNat]?=some z/\Ai u.Mask z.Mask=0/\y=⟨Az u.Mask z.Mask,o,s,t⟩/\
  ((x.Kind=3/\o=-1)\/(x.Kind=5/\o=u.Order)\/(x.Kind=4/\Bz qa u.Mask x.Order=true/\Bz qa z.Mask x.Order=true/\u.Order=x.Order/\z.Order=x.Order/\o=x.Order))
theorem Of{qa:List Zd}{x:Zn}{info:List Zf}{st:V2}{y:Zf}(hs:Vc info st)(h:Wm qa x info st=some y):QL qa x info y:=by
 unfold Wm at h;split at h
 .rename_i k1;split at h
  .rename_i c;cases h;exact⟨λ_=>⟨c.1,rfl⟩,λk=>by omega,λk=>absurd k1 k⟩
  .cases h
 .rename_i k1;split at h
  .cases h
  .split at h
   .rename_i k2;split at h
    .rename_i s y' ht;split at h
     .rename_i c;cases h;obtain⟨_,t2,t3,t4⟩:=VV hs (Yi 1) ht;exact⟨λk=>absurd k k1,λ_=>⟨s,y',t2,t4,c.1,rfl⟩,λ_ k=>absurd k2 k⟩
     .cases h
    .cases h
   .rename_i k2;split at h
    .rename_i s y' t z ht hu;split at h
     .rename_i c;obtain⟨_,t2,t3,t4⟩:=VV hs (E:1<=2) ht;obtain⟨_,u2,u3,u4⟩:=VV hs (E:1<=1) hu;obtain⟨o,ho,rfl⟩:=Yr.1 h;refine⟨λk=>absurd k k1,λk=>absurd k k2,λ_ _=>⟨s,y',t,z,o,t2,t4,u2,u4,c.1,rfl,?_⟩⟩;unfold Vw at ho;split at ho
      .simp_all
      .grind
     .cases h
    .cases h
def Z20{qa:List Zd}:∀{xs:List Zn} {i:Nat} {info:List Zf} {st:V2} {c:List Zf} {cc:V2},Xv qa xs i info st=some (c,cc)->
  Vc info st->info.length=i->c.length=i+xs.length/\c.take i=info/\∀(j:Nat) (y:Zf) (x:Zn),c[i+j]?=some y->xs[j]?=some x->QL qa x (c.take (i+j)) y
 |[],i,info,st,c,cc,h,hs,hi=>by
  simp[Xv]at h
  grind
 |x::xs,i,info,st,c,cc,h,hs,hi=>by
  rw[Xv]at h;split at h
  .cases h
  .rename_i y hy;have hn:=H3 hs y (st.length-Xk y);rw[hi]at hn;obtain⟨g1,g2,g3⟩:=Z20 h hn (by simp[hi]);have e1:c.take i=info:=by
    have:=congrArg (List.take i) g2
    grind
   have e2:c[i]?=some y:=by
    have:=congrArg (λl=>l[i]?) g2
    grind
   refine⟨by simp;omega,e1,?_⟩;intro j y' x' hj hx
   cases j with
   |zero =>
    simp only[D8,List.getElem?_cons_zero,C0]at hj hx|-
    grind [Of]
   |succ j =>
    grind
def qY{n:Int}{qa:List Zd}{steps:List Zn}{info:List Zf}(h:ZG n qa steps=some info):∀(j:Nat) (y:Zf) (x:Zn),info[j]?=some y->steps[j]?=some x->QL qa x (info.take j) y:=by
 unfold ZG at h;split at h
 .split at h
  .rename_i AE st hg;split at h
   .cases h;obtain⟨-,-,g⟩:=Z20 hg (λs hs=>by cases hs) rfl
    simp_all
   .cases h
  .cases h
 .cases h
def ZDc:∀(rows:XS) (p:Option (V2)),WJ DF p rows=true->(∀r∈rows,0<r.length)->(∀r,p=some r->0<r.length)->
  (rows.Pairwise λa b=>kx 0 a<=kx 0 b)/\∀r,p=some r->∀x∈rows,kx 0 r<=kx 0 x
 |[],p,_,_,_=>⟨.nil,Z⟩
 |x::rows,p,h,hl,hp=>by
  unfold WJ at h;simp only[Yf]at h;obtain⟨i1,i2⟩:=ZDc rows (some x) h.2 (λr hr=>hl r (by simp[hr])) (λr hr=>by cases hr;exact hl x Z);refine⟨Y4.2 ⟨i2 x rfl,i1⟩,λr hr y hy=>?_⟩;subst hr;have h1:=h.1;simp only[BD,DF,decide_eq_true_eq]at h1;have hx0:=hl x Z;have hr0:=hp r rfl;have hrx:kx 0 r<=kx 0 x:=by
   match r,x,hr0,hx0 with
   |a::r,b::x,_,_ =>
    simp only[ZH]at h1;show a<=b;omega
  grind
def qZ{d:Zj}{q:Zc}(h:ZN d q=true){a:Zd}(ha:a∈q.Atoms):∃t,ZZ d a.Name=some t/\t.Arity=(a.Vars.length:Int)/\Ux d a=t.Rows/\t.Rows.length<=8/\(∀r∈t.Rows,B3 a.Vars.length r=true)/\WJ DF none t.Rows=true:=by
 unfold ZN at h;simp only[Yf,Ym]at h;have hf:=h.2 a ha;unfold WT at hf;split at hf
 .cases hf
 .rename_i t ht;have har:t.Arity=(a.Vars.length:Int):=by simpa using hf
  obtain⟨h1,h2,h3⟩:=aT ht;unfold WC at h1;simp only[Yf,Ym]at h1;have h4:=h1.1.1 t h2;unfold ZO at h4;simp only[Yf,Ym,decide_eq_true_eq]at h4;refine⟨t,ht,har,by unfold Ux;rw[ht],E,?_,h4.2.2⟩
  simp_all
def ZPL{d:Zj}{q:Zc}(h:ZN d q=true){x:Zn}{c:List Zf}{y:Zf}(F:QL q.Atoms x c y)(hk:x.Kind=1):GS q y (UL d q x.Zd):=by
 have hq:Zx q.Zi q.Atoms=true:=by unfold ZN at h;simp only[Yf]at h;exact h.1
 obtain⟨f1,rfl⟩:=F.scan hk;have hl:=XF hq;simp[Am]at f1;obtain⟨i,hi⟩:∃i:Nat,x.Zd=(i:Int):=⟨x.Zd.toNat,E⟩;rw[hi];have hlt:i<q.Atoms.length:=by omega
 have he:q.Atoms[i]?=some q.Atoms[i]:=Yh hlt;have hm:q.Atoms[i]∈q.Atoms:=Ye hlt;generalize q.Atoms[i]=a at he hm;obtain⟨t,t1,t2,t3,t4,t5,t6⟩:=qZ h hm;have hvl:=Sg hq a hm;have hv:=Z2v hq he;have hsc:UL d q (i:Int)=⟨ZE a.Vars,t.Rows.map λr=>(ZE a.Vars).map λv=>Xp r (AD a.Vars v)⟩:=by
  unfold UL;rw[Yj,he];simp only[t3]
 rw[hsc,Yj,he];have hval:∀r∈t.Rows,∀v∈ZE a.Vars,0<=Xp r (AD a.Vars v)/\Xp r (AD a.Vars v)<=9:=λr hr v hv2=>Z2z (t5 r hr) (Xj.2 ((J7 _ _).1 hv2))
 refine⟨hv,λr hr=>?_,?_,λ_=>?_⟩
 .grind [Z2y]
 .have:=pc1 ⟨i,E⟩
  simp_all
 ·-- the first column of a table is sorted
  obtain⟨v0,vs,hvs⟩:∃v0 vs,a.Vars=v0::vs:=by
   cases hc:a.Vars with
   |nil=>rw[hc]at hvl;simp at hvl
   |cons v0 vs=>exact⟨v0,vs,rfl⟩
  have h0:has (ZE a.Vars) v0=true:=Xj.2 ((J7 _ _).2 (by rw[hvs];simp));simp only[hvs,List.headD_cons];rw[hvs]at h0;refine⟨h0,?_⟩;have hc0:AD a.Vars v0=0:=by rw[hvs];simp[AD,XD]
  have hkey:∀r,kx (AD (ZE a.Vars) v0).toNat ((ZE a.Vars).map λv=>Xp r (AD a.Vars v))=kx 0 r:=by
   intro r;rw[qX];have:=KW (vs:=ZE a.Vars) (v:=v0) (by rw[hvs];exact h0) λv=>Xp r (AD a.Vars v)
   unfold XU at this;rw[this,hc0,<-qX];rfl
  rw[hvs]at hkey;refine List.pairwise_map.2 ?_;have:=(ZDc t.Rows none t6 (λr hr=>by have:=G9 (t5 r hr);omega) Z).1
  simp_all
def Z21{q:Zc}(hq:Zx q.Zi q.Atoms=true){u:Zf}{s:Ze}(G:GS q u s){v:Int}(hv:Bz q.Atoms u.Mask v=true)(l:Int):GS q ⟨u.Mask,v,l,-1⟩ (Oe s v)/\has s.Vars v=true:=by
 have hh:has s.Vars v=true:=by rw[G.vars,Ml hq];exact hv
 obtain⟨c1,c2,c3⟩:=XT hh;have hr:∀r∈s.Rows,0<=kx (AD s.Vars v).toNat r/\kx (AD s.Vars v).toNat r<=9:=λr hr=>(ZqM (G.rows r hr) c2).2
 refine⟨⟨G.vars,λr h=>?_,?_,λ_=>⟨hh,?_⟩⟩,hh⟩
 .exact G.rows r ((ZCV hr r).1 h)
 .show(UJ _ _).length<=_;rw[ZPF hr];exact G.len
 .exact ZPG _ _
def ZDd{av bv x y:V2}(hx:B3 av.length x=true)(hy:B3 bv.length y=true){v:Int}(hv:has av v=true\/has bv v=true):0<=BL av x bv y v/\BL av x bv y v<=9:=by
 unfold BL;split
 .simp_all [Z2z,VK]
 .simp_all [Z2z,VK]
def Z22{a b:V2}{v:Int}(h:v∈Ar a b):has a v=true\/has b v=true:=by
 unfold Ar at h
 simp_all
def ZDe{q:Zc}(hq:Zx q.Zi q.Atoms=true){u z:Zf}{a b:Ze}(A:GS q u a)(B:GS q z b)(hu:0<=u.Mask/\u.Mask<16)(hz:0<=z.Mask/\z.Mask<16)(h0:Ai u.Mask z.Mask=0)(l r:Int):GS q ⟨Az u.Mask z.Mask,u.Order,l,r⟩ (VL a b):=by
 have hvars:Ar a.Vars b.Vars=ZX (Az u.Mask z.Mask) q.Atoms q.Zi.toNat:=by rw[A.vars,B.vars];exact Z2u hq hu hz
 refine⟨hvars,λp hp=>?_,?_,λho=>?_⟩
 .obtain⟨x,hx,y,hy,rfl⟩:=ZPI hp;exact Z2y λv hv=>ZDd (A.rows x hx) (B.rows y hy) (Z22 hv)
 .have:=ZCY (Ar a.Vars b.Vars) a b;show(Wp _ _ _).length<=8 ^ Eg (Az u.Mask z.Mask);rw[Z2w hu hz h0,Nat.pow_add,Nat.mul_comm];exact Yz this (LF B.len A.len)
 .obtain⟨hh,hs⟩:=A.ord ho;have hu2:has (Ar a.Vars b.Vars) u.Order=true:=Xj.2 ((qR (by rw[A.vars];exact I3 hq _) (by rw[B.vars];exact I3 hq _) _).2 (.inl (Xj.1 hh)));refine⟨hu2,?_⟩;have hkey:∀x y:V2,kx (AD (Ar a.Vars b.Vars) u.Order).toNat ((Ar a.Vars b.Vars).map (BL a.Vars x b.Vars y))=kx (AD a.Vars u.Order).toNat x:=by
   intro x y;rw[qX,qX];have:=KW hu2 (BL a.Vars x b.Vars y);unfold XU at this;rw[this];unfold BL
   simp_all [VK]
  have hm:∀x,∀p∈b.Rows.filterMap (λy=>BB (Ar a.Vars b.Vars) a.Vars x b.Vars y),kx (AD (Ar a.Vars b.Vars) u.Order).toNat p=kx (AD a.Vars u.Order).toNat x:=by
   intro x p hp;obtain⟨y,hy,h⟩:=Eu.1 hp;unfold BB at h
   grind
  refine List.pairwise_flatMap.2 ⟨λx _=>?_,?_⟩
  .rw[Lz];intro i j hi hj _;have h1:=hm x _ (Ye hi);have h2:=hm x _ (Ye hj);show kx (AD (Ar a.Vars b.Vars) u.Order).toNat _<=kx (AD (Ar a.Vars b.Vars) u.Order).toNat _;omega
  .refine hs.imp λ{x x'} hxx p hp p' hp'=>?_
   have h1:=hm x p hp;have h2:=hm x' p' hp';show kx (AD (Ar a.Vars b.Vars) u.Order).toNat _<=kx (AD (Ar a.Vars b.Vars) u.Order).toNat _;rw[h1,h2];exact hxx
def ZPM{q:Zc}(hq:Zx q.Zi q.Atoms=true){u z:Zf}{a b:Ze}(A:GS q u a)(B:GS q z b)(hu:0<=u.Mask/\u.Mask<16)(hz:0<=z.Mask/\z.Mask<16)(h0:Ai u.Mask z.Mask=0)(l r:Int):GS q ⟨Az u.Mask z.Mask,-1,l,r⟩ (I4 a b):=by
 have hvars:Ar a.Vars b.Vars=ZX (Az u.Mask z.Mask) q.Atoms q.Zi.toNat:=by rw[A.vars,B.vars];exact Z2u hq hu hz
 refine⟨hvars,λp hp=>?_,?_,λho=>absurd ho (by show ¬(0:Int)<=-1;decide)⟩
 .obtain⟨x,hx,y,hy,rfl⟩:=ZPJ hp;exact Z2y λv hv=>ZDd (A.rows x hx) (B.rows y hy) (Z22 hv)
 .have:=ZCZ (Ar a.Vars b.Vars) a b;show(UK _ _ _).length<=8 ^ Eg (Az u.Mask z.Mask);rw[Z2w hu hz h0,Nat.pow_add];exact Yz this (LF A.len B.len)
def Fl(d:Zj)(q:Zc)(x:Zn)(y:Zf)(c:List Ze):Ze :=
 if x.Kind=1 then UL d q x.Zd
 else if x.Kind=2 then Oe (c.getD y.Left.toNat ⟨[],[]⟩) x.Order
 else if x.Kind=3 then I4 (c.getD y.Left.toNat ⟨[],[]⟩) (c.getD y.Right.toNat ⟨[],[]⟩)
 else VL (c.getD y.Left.toNat ⟨[],[]⟩) (c.getD y.Right.toNat ⟨[],[]⟩)
def V0(d:Zj)(q:Zc):List Zn->List Zf->List Ze->List Ze
 |x::xs,y::ys,out=>V0 d q xs ys (out++[Fl d q x y out])
 |_,_,out=>out
def DS(q:Zc)(info:List Zf)(c:List Ze):Prop:=∀(j:Nat) (s:Ze),c[j]?=some s->∃y,info[j]?=some y/\GS q y s
def Og{q:Zc}{info:List Zf}{out:List Ze}(G:DS q info out){i:Nat}{s:Int}{u:Zf}(hi:out.length=i)(h0:0<=s)(h:(info.take i)[s.toNat]?=some u):s.toNat<out.length/\out[s.toNat]?=some (out.getD s.toNat ⟨[],[]⟩)/\GS q u (out.getD s.toNat ⟨[],[]⟩):=by
 rw[RG]at h;split at h
 .rename_i hlt;have hl:s.toNat<out.length:=by omega
  have e:out[s.toNat]?=some (out.getD s.toNat ⟨[],[]⟩):=by rw[CF,Yh hl];rfl
  obtain⟨y,hy,g⟩:=G _ _ e
  simp_all
 .cases h
def ZqN{d:Zj}{q:Zc}(h:ZN d q=true){info:List Zf}{out:List Ze}(G:DS q info out)(hM:∀y∈info,0<=y.Mask/\y.Mask<16){i:Nat}(hi:out.length=i){x:Zn}{y:Zf}(F:QL q.Atoms x (info.take i) y):GS q y (Fl d q x y out):=by
 have hq:Zx q.Zi q.Atoms=true:=by unfold ZN at h;simp only[Yf]at h;exact h.1
 have hm:∀{s:Nat} {u:Zf},(info.take i)[s]?=some u->0<=u.Mask/\u.Mask<16:=λhs=>hM _ (DK (Yu hs))
 unfold Fl;by_cases k1:x.Kind=1
 .rw[Ya k1];exact ZPL h F k1
 .rw[Yb k1];by_cases k2:x.Kind=2
  .rw[Ya k2];obtain⟨s,u,f1,f2,f3,rfl⟩:=F.sort k2;exact(Z21 hq (Og G hi f1 f2).2.2 f3 s).1
  .rw[Yb k2];obtain⟨s,u,t,z,o,f1,f2,f3,f4,f5,rfl,f6⟩:=F.join k1 k2;have A:=(Og G hi f1 f2).2.2;have B:=(Og G hi f3 f4).2.2;rcases f6 with⟨k,rfl⟩|⟨k,rfl⟩|⟨k,g1,g2,g3,g4,rfl⟩
   .rw[Ya k];exact ZPM hq A B (hm f2) (hm f4) f5 s t
   .rw[Ao];exact ZDe hq A B (hm f2) (hm f4) f5 s t
   .rw[Ao];rw[<-g3];exact ZDe hq A B (hm f2) (hm f4) f5 s t
theorem Z23{q:Zc}{info:List Zf}{out:List Ze}(G:DS q info out){i:Nat}(hi:out.length=i){y:Zf}(hy:info[i]?=some y){s:Ze}(g:GS q y s):DS q info (out++[s]):=by
 intro j s' hs;by_cases hj:j<out.length
 .rw[cQ hj]at hs;exact G j s' hs
 .grind
end Go.Proofs.YtobfkfgdneeabaaGreat
namespace Go.Proofs.YtobfkfgdneeabaaGreat
open Go.AM Go.Sort Go.Stb
abbrev AR:=Array (V2)
def FC(x:Nat)(r:V2):Prop:=x<r.length/\0<=kx x r/\kx x r<=9
structure Cu (x:Nat) (d:AR):Prop where
 sz:d.size<=4096
 at_:∀i,i<d.size->FC x d[i]!
def Cu.stp{x:Nat}{d e:AR}{a b:Nat}(h:Cu x d)(S:Stp (kx x) a b d e)(hb:b<=d.size):Cu x e:=by
 have S':=S.mono (Yc a) hb;refine⟨by rw[S.size];exact h.sz,λi hi=>?_⟩;exact S'.pres (FC x) (λy _ hy=>h.at_ y hy) i (Yc _) (by rw[<-S.size];exact hi)
def gA{d:AR}{i:Nat}(h:i<d.size):d.toList[(i:Int).toNat]?=some d[i]!:=by rw[Yj];exact ZqH d i h
def ZqO(d:AR)(i j:Nat):(d.toList.set i d[j]!).set j d[i]! = (swp d i j).toList:=by simp[swp]
def ZqP{d:AR}{i j:Nat}(v:V2)(h:j<d.size):∃e,(d.toList.set i v)[j]?=some e:=⟨_,Yh (by simpa using h)⟩
theorem wA{n:Int}(h1:-1000000<=n)(h2:n<=1000000):w n=n:=ZF E E
theorem I5{i j:Nat}(h:i+j<=1000000):w (As (IntKind.wrap .u64 (w ((i:Int)+(j:Int)))) 1)=(((i+j) / 2:Nat):Int):=by
 rw[wA (n:=(i:Int)+(j:Int)) E E];have e1:IntKind.wrap .u64 ((i:Int)+(j:Int))=(i:Int)+(j:Int):=by
  simp only[IntKind.wrap,IntKind.signed,IntKind.bits];simp;omega
 rw[e1];have e2:As ((i:Int)+(j:Int)) 1=(((i+j) / 2:Nat):Int):=by
  unfold As
  grind
 grind [wA]
def rA{x:Nat}{p q:V2}(hp:FC x p)(hq:FC x q):KM x p q=some (I (kx x p-kx x q),[.box [I x]]):=by
 obtain⟨p1,p2,p3⟩:=hp;obtain⟨q1,q2,q3⟩:=hq;have e1:p[x]=kx x p:=(getElem!_pos p x p1).symm;have e2:q[x]=kx x q:=(getElem!_pos q x q1).symm;refine Zq5.2.2 _ _ _ _ ⟨E,_,gE p1,_,gE q1,?_⟩
 grind [wA]
def Rz(D:AR)(x:Nat)(v:Rs):Prop:=∃fr,v=some (.tup [],[.arr 38 1 fr (D.toList.map Ae),.box [I x]])
def l_in(x a b i:Nat)(hi:i<=8192)(D:AR):∀(j:Nat) (d:AR) (fr:Bool),Cu x d->a<=j->j<d.size->
  (∀fr',Rz D x (GL fr' (insInner (ltK (kx x)) a j d).toList x a b ((i+1:Nat):Int)))->Rz D x (Nb fr d.toList x a b i j)
 |0,d,fr,hO,haj,hj,h=>by
  obtain⟨f,hf⟩:=h fr;refine⟨f,Zq6 _ _ _ _ _ _ _ _ ?_⟩;rw[Ao,wA E E];unfold insInner at hf
  exact_mod_cast hf
 |j+1,d,fr,hO,haj,hj,h=>by
  unfold insInner at h;have hw:w (((j+1:Nat):Int)-1)=(j:Int):=by have:=hO.sz;rw[wA E E];omega
  have hw2:w ((i:Int)+1)=((i+1:Nat):Int):=by rw[wA E E];omega
  by_cases hc:a<j+1
  .by_cases hl:kx x d[j+1]!<kx x d[j]!
   .rw[Ya (by simp[ltK,hl];omega)]at h;have hS:=ZqI (k:=kx x) d j hj hl;obtain⟨f,hf⟩:=l_in x a b i hi D j (swp d (j+1) j) false (hO.stp hS E) E (by rw[swp_size];omega) h;refine⟨f,Zq6 _ _ _ _ _ _ _ _ ?_⟩;rw[An,hw];refine⟨E,_,gA hj,E,_,gA E,_,_,rA (hO.at_ _ hj) (hO.at_ _ E),?_⟩;rw[An,Yj,Yj,ZqO];obtain⟨e,he⟩:=ZqP (i:=j+1) d[j]! (show j<d.size by omega);exact⟨e,he,hf⟩
   .rw[Yb (by simp[ltK];omega)]at h;obtain⟨f,hf⟩:=h fr;refine⟨f,Zq6 _ _ _ _ _ _ _ _ ?_⟩;rw[An,hw];refine⟨E,_,gA hj,E,_,gA E,_,_,rA (hO.at_ _ hj) (hO.at_ _ E),?_⟩
    grind
  .rw[Yb (by simp;omega)]at h;obtain⟨f,hf⟩:=h fr
   have zq:=@Zq6;grind
def ZDf(x a b:Nat):∀(n i:Nat) (d:AR) (fr:Bool),b-i=n->Cu x d->a<i->b<=d.size->i<=b+1->Rz (insOuter (ltK (kx x)) a b i d) x (GL fr d.toList x a b i)
 |0,i,d,fr,hn,hO,hai,hb,hib=>by
  refine⟨fr,ZCo _ _ _ _ _ _ _ ?_⟩
  rw[Ao,insOuter,Ao]
 |n+1,i,d,fr,hn,hO,hai,hb,hib=>by
  have hsz:=hO.sz;have hS:=Z2p (k:=kx x) a i d b E E hb
  obtain⟨f,hf⟩:=l_in x a b i E (insOuter (ltK (kx x)) a b i d) i d fr hO E E (λfr'=>by
   rw[insOuter,An]
   exact ZDf x a b n (i+1) _ fr' E (hO.stp hS hb) E (by rw[hS.size];exact hb) E)
  refine⟨f,ZCo _ _ _ _ _ _ _ ?_⟩
  grind
def ZDg{x a b:Nat}{d:AR}(fr:Bool)(hO:Cu x d)(c:a<=b)(hb:b<=d.size):∃e,Stp (kx x) a b d e/\Bp (kx x) a b e/\Rz e x (T2 fr d.toList x a b):=by
 have hsz:=hO.sz;refine⟨_,ZP9 d a b hb,ZPA d a b c hb,?_⟩;obtain⟨f,hf⟩:=ZDf x a b _ (a+1) d fr rfl hO E hb E;refine⟨f,ZNU _ _ _ _ _ _ ?_⟩;rw[wA E E]
 exact_mod_cast hf
def rB(x a b n:Nat)(d:AR)(hs:d.size<=4096)(h1:a+n<=b)(h2:b+n<=d.size):∀i,i<=n->∀fr,Rz (DG a b n d) x (Nc fr (DG a b i d).toList x a b n i):=by
 refine down _ ?_ ?_
 .intro fr;refine⟨fr,ZCp _ _ _ _ _ _ _ _ ?_⟩;rw[Ao]
 .intro i hi ih fr;obtain⟨f,hf⟩:=ih false;refine⟨f,ZCp _ _ _ _ _ _ _ _ ?_⟩;have e1:w ((b:Int)+(i:Int))=((b+i:Nat):Int):=by rw[wA E E];omega
  have e2:w ((a:Int)+(i:Int))=((a+i:Nat):Int):=by rw[wA E E];omega
  have e3:w ((i:Int)+1)=((i+1:Nat):Int):=by rw[wA E E];omega
  rw[An,e1,e2,e3];refine⟨E,_,gA (by rw[J6];omega),E,_,gA (by rw[J6];omega),?_⟩;rw[Yj,Yj,ZqO];obtain⟨e,he⟩:=ZqP (d:=DG a b i d) (i:=a+i) (DG a b i d)[b+i]! (show b+i<_ by rw[J6];omega);exact⟨e,he,hf⟩
def Z24{x a b n:Nat}{d:AR}(fr:Bool)(hs:d.size<=4096)(h1:a+n<=b)(h2:b+n<=d.size):Rz (DG a b n d) x (mX fr d.toList x a b n):=by
 obtain⟨f,hf⟩:=rB x a b n d hs h1 h2 0 (Yc _) fr;exact⟨f,ZNX _ _ _ _ _ _ _ hf⟩
def Z25(x a m b:Nat)(d:AR)(hs:d.size<=4096)(h1:a<=m)(h2:m<=b)(h3:b<=d.size):∀(n i j:Nat) (e:AR) (fr:Bool),i+j<=n->0<i->0<j->a+i<=m->m+j<=b->Fk a m b d i j e->
  ∃D,I0 a m b d D/\Rz D x (Iw fr e.toList x m i j)
 |0,i,j,e,fr,hn,hi,hj,_,_,R=>by omega
 |n+1,i,j,e,fr,hn,hi,hj,him,hjb,R=>by
  have hse:e.size<=4096:=by rw[R.size];exact hs
  have hsd:e.size=d.size:=R.size;have e1:w ((m:Int)-(i:Int))=((m-i:Nat):Int):=by rw[wA E E];omega
  have e2:w ((m:Int)+(j:Int))=((m+j:Nat):Int):=by rw[wA E E];omega
  have e3:w (((m+j:Nat):Int)-(i:Int))=((m+j-i:Nat):Int):=by rw[wA E E];omega
  by_cases hij:i=j
  .subst hij;obtain⟨f,hf⟩:=Z24 (x:=x) (a:=m-i) (b:=m) (n:=i) (d:=e) fr hse E E;refine⟨DG (m-i) m i e,Oa h1 h2 h3 (R.eq E),f,Z1X _ _ _ _ _ _ _ ?_⟩
   simp_all
  .by_cases hlt:j<i
   .have e4:w ((i:Int)-(j:Int))=((i-j:Nat):Int):=by rw[wA E E];omega
    obtain⟨f,hf⟩:=Z24 (x:=x) (a:=m-i) (b:=m) (n:=j) (d:=e) fr hse E E;obtain⟨D,hD,g,hg⟩:=Z25 x a m b d hs h1 h2 h3 n (i-j) j _ f E E hj E hjb (R.gt hlt E);refine⟨D,hD,g,Z1X _ _ _ _ _ _ _ ?_⟩
    grind
   .have e4:w ((j:Int)-(i:Int))=((j-i:Nat):Int):=by rw[wA E E];omega
    obtain⟨f,hf⟩:=Z24 (x:=x) (a:=m-i) (b:=m+j-i) (n:=i) (d:=e) fr hse E E;obtain⟨D,hD,g,hg⟩:=Z25 x a m b d hs h1 h2 h3 n i (j-i) _ f E hi E him E (R.lt E E);refine⟨D,hD,g,Z1X _ _ _ _ _ _ _ ?_⟩
    grind
def rC{x a m b:Nat}{d:AR}(fr:Bool)(hs:d.size<=4096)(h1:a<m)(h2:m<b)(h3:b<=d.size):∃D,I0 a m b d D/\Rz D x (mY fr d.toList x a m b):=by
 obtain⟨D,hD,f,hf⟩:=Z25 x a m b d hs E E h3 _ (m-a) (b-m) d fr (Yi _) E E E E (.start d E E);refine⟨D,hD,f,ZOa _ _ _ _ _ _ _ ?_⟩
 grind [wA]
def D3(x a b:Nat)(d:AR)(v:Rs):Prop:=∃e,Stp (kx x) a b d e/\Bp (kx x) a b e/\Rz e x v
def rD(x a b i:Nat)(d:AR)(hO:Cu x d)(hb:b<=d.size)(hs:Bp (kx x) (a+1) b d)(c:a<i)(cc:i<=b)(h1:i=a+1\/kx x d[i-1]!<kx x d[a]!)(h2:i=b\/kx x d[a]!<=kx x d[i]!) :
  ∀(n q:Nat) (e:AR) (fr:Bool),i-1-q=n->q<=i-1->Shl a q d e->Stp (kx x) a b d e->D3 x a b d (Nf fr e.toList x i q)
 |0,q,e,fr,hn,hq,S,T=>by
  have hsz:=hO.sz;obtain rfl:q=i-1:=by omega
  have hI:i-1+1=i:=by omega
  refine⟨e,T,S.srt hs (h1.imp (λh=>by omega) id) (by rw[hI];exact h2) E,fr,ZCq _ _ _ _ _ _ ?_⟩
  grind [wA]
 |n+1,q,e,fr,hn,hq,S,T=>by
  have hsz:=hO.sz;have haq:=S.aq;have hes:e.size=d.size:=S.size;have hk:kx x d[q+1]!<kx x d[a]!:=by
   rcases h1 with h1|h1
   .omega
   .have:=hs.le (i:=q+1) (j:=i-1) E E E;omega
  obtain⟨g,G1,G2,f,hf⟩:=rD x a b i d hO hb hs c cc h1 h2 n (q+1) (swp e (q+1) q) false E E (S.next E) (T.trans ((S.stp E hk).mono haq E));refine⟨g,G1,G2,f,ZCq _ _ _ _ _ _ ?_⟩;have e1:w ((q:Int)+1)=((q+1:Nat):Int):=by rw[wA E E];omega
  rw[wA (n:=(i:Int)-1) E E,An,e1];refine⟨E,_,gA E,E,_,gA E,?_⟩;rw[Yj,Yj,ZqO,ZP8 e q (q+1) E E];obtain⟨v,hv⟩:=ZqP (i:=q) e[q+1]! (show q+1<e.size by omega);exact⟨v,hv,hf⟩
def Oh(x a b:Nat)(d:AR)(hO:Cu x d)(hb:b<=d.size)(hs:Bp (kx x) (a+1) b d):∀(n i j:Nat) (fr:Bool),j-i<=n->a<i->i<=j->j<=b->
  (i=a+1\/kx x d[i-1]!<kx x d[a]!)->(j=b\/kx x d[a]!<=kx x d[j]!)->D3 x a b d (Ix fr d.toList x a i j)
 |n,i,j,fr,hn,hai,hij,hjb,h1,h2=>by
  have hsz:=hO.sz;by_cases h:i<j
  .have hm1:i<=(i+j) / 2:=by omega
   have hm2:(i+j) / 2<j:=by omega
   have hoc:=rA (hO.at_ ((i+j) / 2) E) (hO.at_ a E);by_cases hl:kx x d[(i+j) / 2]!<kx x d[a]!
   .match n,hn with
    |0,hn=>omega
    |n+1,hn =>
    obtain⟨g,G1,G2,f,hf⟩:=Oh x a b d hO hb hs n ((i+j) / 2+1) j fr E E E hjb (.inr hl) h2;refine⟨g,G1,G2,f,Z1Y _ _ _ _ _ _ _ ?_⟩;rw[An,I5 E];refine⟨E,_,gA E,E,_,gA E,_,_,hoc,?_⟩
    grind [wA]
   .match n,hn with
    |0,hn=>omega
    |n+1,hn =>
    obtain⟨g,G1,G2,f,hf⟩:=Oh x a b d hO hb hs n i ((i+j) / 2) fr E E E E h1 (.inr E);refine⟨g,G1,G2,f,Z1Y _ _ _ _ _ _ _ ?_⟩;rw[An,I5 E];refine⟨E,_,gA E,E,_,gA E,_,_,hoc,?_⟩
    grind
  .obtain rfl:i=j:=by omega
   obtain⟨g,G1,G2,f,hf⟩:=rD x a b i d hO hb hs hai hjb h1 h2 _ a d fr rfl E (.start a d) (.refl _ _ _);refine⟨g,G1,G2,f,Z1Y _ _ _ _ _ _ _ ?_⟩
   simp_all
def rE(x a m i:Nat)(d:AR)(hO:Cu x d)(hb:m<d.size)(hs:Bp (kx x) a m d)(c:a<=i)(cc:i<=m)(h1:i=a\/kx x d[i-1]!<=kx x d[m]!)(h2:i=m\/kx x d[m]!<kx x d[i]!) :
  ∀(n q:Nat) (e:AR) (fr:Bool),q-i=n->i<=q->FB q m d e->Stp (kx x) a (m+1) d e->D3 x a (m+1) d (Ng fr e.toList x i q)
 |0,q,e,fr,hn,hq,S,T=>by
  obtain rfl:q=i:=by omega
  refine⟨e,T,S.srt hs h1 h2 c,fr,ZCr _ _ _ _ _ _ ?_⟩
  rw[Ao]
 |n+1,q,e,fr,hn,hq,S,T=>by
  have hsz:=hO.sz;have hqm:=S.qm;have hes:e.size=d.size:=S.size;obtain⟨p,rfl⟩:∃p,q=p+1:=⟨q-1,E⟩;have hk:kx x d[m]!<kx x d[p]!:=by
   rcases h2 with h2|h2
   .omega
   .have:=hs.le (i:=i) (j:=p) c E E;omega
  obtain⟨g,G1,G2,f,hf⟩:=rE x a m i d hO hb hs c cc h1 h2 n p (swp e (p+1) p) false E E (S.next hb) (T.trans ((S.stp hb hk).mono E E));refine⟨g,G1,G2,f,ZCr _ _ _ _ _ _ ?_⟩;have e1:w (((p+1:Nat):Int)-1)=(p:Int):=by rw[wA E E];omega
  rw[An,e1];refine⟨E,_,gA E,E,_,gA E,?_⟩;rw[Yj,Yj,ZqO];obtain⟨v,hv⟩:=ZqP (i:=p+1) e[p]! (show p<e.size by omega);exact⟨v,hv,hf⟩
def Oi(x a m:Nat)(d:AR)(hO:Cu x d)(hb:m<d.size)(hs:Bp (kx x) a m d):∀(n i j:Nat) (fr:Bool),j-i<=n->a<=i->i<=j->j<=m->
  (i=a\/kx x d[i-1]!<=kx x d[m]!)->(j=m\/kx x d[m]!<kx x d[j]!)->D3 x a (m+1) d (Iy fr d.toList x m i j)
 |n,i,j,fr,hn,hai,hij,hjb,h1,h2=>by
  have hsz:=hO.sz;by_cases h:i<j
  .have hm1:i<=(i+j) / 2:=by omega
   have hm2:(i+j) / 2<j:=by omega
   have hoc:=rA (hO.at_ m E) (hO.at_ ((i+j) / 2) E);by_cases hl:kx x d[m]!<kx x d[(i+j) / 2]!
   .match n,hn with
    |0,hn=>omega
    |n+1,hn =>
    obtain⟨g,G1,G2,f,hf⟩:=Oi x a m d hO hb hs n i ((i+j) / 2) fr E E E E h1 (.inr hl);refine⟨g,G1,G2,f,Z1Z _ _ _ _ _ _ _ ?_⟩;rw[An,I5 E];refine⟨E,_,gA E,E,_,gA E,_,_,hoc,?_⟩
    grind
   .match n,hn with
    |0,hn=>omega
    |n+1,hn =>
    obtain⟨g,G1,G2,f,hf⟩:=Oi x a m d hO hb hs n ((i+j) / 2+1) j fr E E E hjb (.inr (by simpa using hl)) h2;refine⟨g,G1,G2,f,Z1Z _ _ _ _ _ _ _ ?_⟩;rw[An,I5 E];refine⟨E,_,gA E,E,_,gA E,_,_,hoc,?_⟩
    grind [wA]
  .obtain rfl:i=j:=by omega
   obtain⟨g,G1,G2,f,hf⟩:=rE x a m i d hO hb hs hai hjb h1 h2 _ m d fr rfl E (.start m d) (.refl _ _ _);refine⟨g,G1,G2,f,Z1Z _ _ _ _ _ _ _ ?_⟩
   simp_all
def IHs(x n:Nat):Prop:=∀(a m b:Nat) (d:AR) (fr:Bool),b-a<=n->Cu x d->a<m->m<b->b<=d.size->Bp (kx x) a m d->Bp (kx x) m b d->D3 x a b d (Uq fr d.toList x a m b)
def rF{x n a b mid s t:Nat}{d e f:AR}(IH:IHs x n)(hn:b-mid<=n)(hO:Cu x f)(hb:b<=d.size)(C:ZqJ (kx x) a b mid s t d e)(h1:a<=mid)(h2:mid<=t)(h3:t<=b)(F:Stp (kx x) a mid e f)(F':Bp (kx x) a mid f)(fr:Bool) :
  D3 x a b d (GM fr f.toList x b mid t)/\∀s':Nat,D3 x a b d (GN fr f.toList x a b mid s' t false):=by
 have hfs:f.size=d.size:=F.size.trans C.stp.size;have q3:=C.q3.out F (.inr (Yi _));have q4:=C.q4.out F (.inr h2);by_cases h:mid<t/\t<b
 .obtain⟨g,G1,G2,r,hr⟩:=IH mid t b f fr hn hO h.1 h.2 E q3 q4;obtain⟨A,B⟩:=C.join h1 E F F' G1 G2;constructor
  .refine⟨g,A,B,r,ZCs _ _ _ _ _ _ _ ?_⟩
   simp_all
  .intro s';refine⟨g,A,B,r,ZCt _ _ _ _ _ _ _ _ _ _ ?_⟩
   simp_all
 .obtain⟨A,B⟩:=C.join h1 E F F' (.refl _ _ _) (ZCL q3 q4 h h2 h3);constructor
  .refine⟨f,A,B,fr,ZCs _ _ _ _ _ _ _ ?_⟩
   grind
  .intro s';refine⟨f,A,B,fr,ZCt _ _ _ _ _ _ _ _ _ _ ?_⟩
   grind
def ZqQ(x n a m b:Nat)(d:AR)(IH:IHs x n)(hn:b-a<=n+1)(hO:Cu x d)(cd:a+1<m)(cl:m+1<b)(hb:b<=d.size)(cc:Bp (kx x) a m d)(c:Bp (kx x) m b d) :
  ∀(k s r:Nat) (fr:Bool),r-s<=k->a<=s->s<=r->r<=m->r<=(a+b) / 2->(a+b) / 2+m<=s+b->
  ((s=a\/(a+b) / 2+m=s+b)\/kx x d[s-1]!<=kx x d[(a+b) / 2+m-s]!)->((r=(a+b) / 2\/r=m)\/kx x d[(a+b) / 2+m-r-1]!<kx x d[r]!)->
  D3 x a b d (Nd fr d.toList x a m b ((a+b) / 2:Nat) ((a+b) / 2+m:Nat) s r ((a+b) / 2+m-1:Nat))
 |k,s,r,fr,hk,hs1,hsr,hr1,hr2,hs4,h1,h2=>by
  have hsz:=hO.sz;by_cases h:s<r
  .have hm1:s<=(s+r) / 2:=by omega
   have hm2:(s+r) / 2<r:=by omega
   have e1:w ((((a+b) / 2+m-1:Nat):Int)-(((s+r) / 2:Nat):Int))=(((a+b) / 2+m-1-(s+r) / 2:Nat):Int):=by rw[wA E E];omega
   have hoc:=rA (hO.at_ ((a+b) / 2+m-1-(s+r) / 2) E) (hO.at_ ((s+r) / 2) E);by_cases hl:kx x d[(a+b) / 2+m-1-(s+r) / 2]!<kx x d[(s+r) / 2]!
   .match k,hk with
    |0,hk=>omega
    |k+1,hk =>
    obtain⟨g,G1,G2,f,hf⟩:=ZqQ x n a m b d IH hn hO cd cl hb cc c k s ((s+r) / 2) fr E hs1 E E E hs4 h1 (.inr (by rw[show(a+b) / 2+m-(s+r) / 2-1=(a+b) / 2+m-1-(s+r) / 2 by omega];exact hl));refine⟨g,G1,G2,f,pJ _ _ _ _ _ _ _ _ _ _ _ _ ?_⟩;rw[An,I5 E,e1];refine⟨E,_,gA E,E,_,gA E,_,_,hoc,?_⟩;rw[An];exact hf
   .match k,hk with
    |0,hk=>omega
    |k+1,hk =>
    obtain⟨g,G1,G2,f,hf⟩:=ZqQ x n a m b d IH hn hO cd cl hb cc c k ((s+r) / 2+1) r fr E E E hr1 hr2 E (.inr (by
     rw[show(s+r) / 2+1-1=(s+r) / 2 by omega,show(a+b) / 2+m-((s+r) / 2+1)=(a+b) / 2+m-1-(s+r) / 2 by omega];omega)) h2
    refine⟨g,G1,G2,f,pJ _ _ _ _ _ _ _ _ _ _ _ _ ?_⟩;rw[An,I5 E,e1];refine⟨E,_,gA E,E,_,gA E,_,_,hoc,?_⟩;rw[Ao,wA E E]
    exact_mod_cast hf
  .obtain rfl:s=r:=by omega
   have e2:w ((((a+b) / 2+m:Nat):Int)-(s:Int))=(((a+b) / 2+m-s:Nat):Int):=by rw[wA E E];omega
   have K:Cut (kx x) a m b ((a+b) / 2) s d:=⟨E,E,hb,E,E,hs1,hr1,hr2,hs4,cc,c,h1,h2⟩;generalize hmid:(a+b) / 2=mid at *
   have main:∀(D:AR) (fr':Bool),I0 s m (mid+m-s) d D->D3 x a b d (m5 fr' D.toList x a m b mid s ((mid+m-s:Nat):Int) false)/\
     (a<s->s<mid->∃v4 v5 v6,Uq fr' D.toList x a s mid=some (.tup [],[.arr 38 1 v4 (v5.map Ae),.box [I v6]])/\D3 x a b d (GM v4 v5 v6 b mid ((mid+m-s:Nat):Int)))/\
     (¬(a<s/\s<mid)->D3 x a b d (GN fr' D.toList x a b mid s ((mid+m-s:Nat):Int) false)):=by
    intro D fr' R;have Cd:=K.turn R;have hOD:Cu x D:=hO.stp Cd.stp hb;have hDs:D.size=d.size:=Cd.stp.size;have k1:mid<b:=K.l2;have k2:a<mid:=K.l1;have I6:a<s->s<mid->∃v4 v5 v6,Uq fr' D.toList x a s mid=some (.tup [],[.arr 38 1 v4 (v5.map Ae),.box [I v6]])/\D3 x a b d (GM v4 v5 v6 b mid ((mid+m-s:Nat):Int)):=by
     intro p1 p2;obtain⟨g,G1,G2,f,hf⟩:=IH a s mid D fr' E hOD p1 p2 E Cd.q1 Cd.q2;exact⟨_,_,_,hf,(rF IH E (hOD.stp G1 E) hb Cd E E E G1 G2 f).1⟩
    have I7:¬(a<s/\s<mid)->D3 x a b d (GN fr' D.toList x a b mid s ((mid+m-s:Nat):Int) false):=by
     intro p;exact(rF IH E hOD hb Cd E E E (.refl _ _ _) (ZCL Cd.q1 Cd.q2 p hs1 hr2) fr').2 s
    refine⟨?_,I6,I7⟩;by_cases p:a<s/\s<mid
    .obtain⟨v4,v5,v6,hX,g,G1,G2,f,hf⟩:=I6 p.1 p.2;refine⟨g,G1,G2,f,ZCu _ _ _ _ _ _ _ _ _ _ _ ?_⟩;rw[An,An];exact⟨_,_,_,hX,hf⟩
    .obtain⟨g,G1,G2,f,hf⟩:=I7 p;refine⟨g,G1,G2,f,ZCu _ _ _ _ _ _ _ _ _ _ _ ?_⟩;by_cases p1:(a:Int)<(s:Int)
     .rw[Ya p1,Ao];exact hf
     .rw[Yb p1];exact hf
   by_cases hc:s<m/\m<mid+m-s
   .obtain⟨D,hD,fD,hfD⟩:=rC (x:=x) (d:=d) fr hsz hc.1 hc.2 E;obtain⟨-,p1,p2⟩:=main D fD hD;by_cases p:a<s/\s<mid
    .obtain⟨v4,v5,v6,hX,g,G1,G2,f,hf⟩:=p1 p.1 p.2;refine⟨g,G1,G2,f,pJ _ _ _ _ _ _ _ _ _ _ _ _ ?_⟩;rw[Ao,e2,An,An];refine⟨_,_,_,hfD,?_⟩;rw[An,An];exact⟨_,_,_,hX,hf⟩
    .obtain⟨g,G1,G2,f,hf⟩:=p2 p;refine⟨g,G1,G2,f,pJ _ _ _ _ _ _ _ _ _ _ _ _ ?_⟩;rw[Ao,e2,An,An];refine⟨_,_,_,hfD,?_⟩;by_cases p1:(a:Int)<(s:Int)
     .rw[Ya p1,Ao];exact hf
     .rw[Yb p1];exact hf
   .obtain⟨⟨g,G1,G2,f,hf⟩,-,-⟩:=main d fr (ZPB d hr1 E E E);refine⟨g,G1,G2,f,pJ _ _ _ _ _ _ _ _ _ _ _ _ ?_⟩;rw[Ao,e2];by_cases p1:(s:Int)<(m:Int)
    .rw[Ya p1,Ao];exact hf
    .rw[Yb p1];exact hf
def ZqR(x:Nat):∀n,IHs x n
 |0,a,m,b,d,fr,hn,hO,ham,hmb,hb,hlo,hhi=>by omega
 |n+1,a,m,b,d,fr,hn,hO,ham,hmb,hb,hlo,hhi=>by
  have hsz:=hO.sz;have e1:w ((m:Int)-(a:Int))=((m-a:Nat):Int):=by rw[wA E E];omega
  have e2:w ((b:Int)-(m:Int))=((b-m:Nat):Int):=by rw[wA E E];omega
  by_cases h1:m=a+1
  .subst h1;obtain⟨g,G1,G2,f,hf⟩:=Oh x a b d hO hb hhi _ (a+1) b fr (Yi _) E E (Yi _) (.inl rfl) (.inl rfl);refine⟨g,G1,G2,f,Zq7 _ _ _ _ _ _ _ ?_⟩
   simp_all
  .by_cases h2:b=m+1
   .subst h2;obtain⟨g,G1,G2,f,hf⟩:=Oi x a m d hO E hlo _ a m fr (Yi _) (Yi _) E (Yi _) (.inl rfl) (.inl rfl);refine⟨g,G1,G2,f,Zq7 _ _ _ _ _ _ _ ?_⟩
    grind
   .have e3:w ((((a+b) / 2:Nat):Int)+(m:Int))=(((a+b) / 2+m:Nat):Int):=by rw[wA E E];omega
    have e4:w ((((a+b) / 2+m:Nat):Int)-1)=(((a+b) / 2+m-1:Nat):Int):=by rw[wA E E];omega
    by_cases h3:(a+b) / 2<m
    .have e5:w ((((a+b) / 2+m:Nat):Int)-(b:Int))=(((a+b) / 2+m-b:Nat):Int):=by rw[wA E E];omega
     obtain⟨g,G1,G2,f,hf⟩:=ZqQ x n a m b d (ZqR x n) hn hO E E hb hlo hhi _ ((a+b) / 2+m-b) ((a+b) / 2) fr (Yi _) E E E (Yi _) E (.inl (.inr E)) (.inl (.inl rfl));refine⟨g,G1,G2,f,Zq7 _ _ _ _ _ _ _ ?_⟩
     grind [I5]
    .obtain⟨g,G1,G2,f,hf⟩:=ZqQ x n a m b d (ZqR x n) hn hO E E hb hlo hhi _ a m fr (Yi _) (Yi _) E (Yi _) E E (.inl (.inl rfl)) (.inl (.inr rfl));refine⟨g,G1,G2,f,Zq7 _ _ _ _ _ _ _ ?_⟩
     grind [I5]
def ZqS(x:Nat)(d0:AR)(v:Rs):Prop:=∃e,Stp (kx x) 0 d0.size d0 e/\Bp (kx x) 0 d0.size e/\Rz e x v
def rG(x bs:Nat)(d0:AR)(cd:0<bs)(c:Cu x d0)(cc:bs<d0.size)(IH:∀(e:AR) (fr:Bool),Cu x e->Stp (kx x) 0 d0.size d0 e->Oc (kx x) (2*bs) d0.size e->ZqS x d0 (GO fr e.toList x d0.size ((2*bs:Nat):Int))) :
  ∀(n a:Nat) (e:AR) (fr:Bool),d0.size-a<=n->a<=d0.size->Cu x e->Stp (kx x) 0 d0.size d0 e->Mid (kx x) bs d0.size a e->ZqS x d0 (Nj fr e.toList x d0.size bs a ((a+2*bs:Nat):Int))
 |n,a,e,fr,hn,han,hO,T,M=>by
  have hsz:=c.sz;have hes:=T.size;obtain⟨t1,t2⟩:=M.two;have e1:w ((a:Int)+(bs:Int))=((a+bs:Nat):Int):=by rw[wA E E];omega
  have e2:w (2*(bs:Int))=((2*bs:Nat):Int):=by rw[wA E E];omega
  have e3:w (((a+2*bs:Nat):Int)+((2*bs:Nat):Int))=((a+2*bs+2*bs:Nat):Int):=by rw[wA E E];omega
  have e4:w ((bs:Int)*2)=((2*bs:Nat):Int):=by rw[wA E E];omega
  by_cases h:a+2*bs<=d0.size
  .match n,hn with
   |0,hn=>omega
   |n+1,hn =>
   obtain⟨g,G1,G2,f,hf⟩:=ZqR x _ a (a+bs) (a+2*bs) e fr (Yi _) hO E E E (by rw[Eo E]at t1;exact t1) (by rw[Eo E]at t2;exact t2);obtain⟨r,R1,R2,f2,hf2⟩:=rG x bs d0 cd c cc IH n (a+2*bs) g f E h (hO.stp G1 E) (T.trans (G1.mono (Yc _) h)) (M.next G1 G2);refine⟨r,R1,R2,f2,Z2a _ _ _ _ _ _ _ _ ?_⟩
   grind
  .by_cases h2:a+bs<d0.size
   .obtain⟨g,G1,G2,f,hf⟩:=ZqR x _ a (a+bs) d0.size e fr (Yi _) hO E E E (by rw[Eo E]at t1;exact t1) (by rw[Nat.min_eq_right E]at t2;exact t2);obtain⟨r,R1,R2,f2,hf2⟩:=IH g f (hO.stp G1 E) (T.trans (G1.mono (Yc _) (Yi _))) (M.end_ E G1 G2);refine⟨r,R1,R2,f2,Z2a _ _ _ _ _ _ _ _ ?_⟩
    grind
   .obtain⟨r,R1,R2,f2,hf2⟩:=IH e fr hO T (M.end_ E (.refl _ _ _) (by rw[Nat.min_eq_right E]at t1;exact t1));refine⟨r,R1,R2,f2,Z2a _ _ _ _ _ _ _ _ ?_⟩
    grind
def rH(x:Nat)(d0:AR)(c:Cu x d0):∀(n bs:Nat) (e:AR) (fr:Bool),d0.size-bs<=n->0<bs->bs<=8192->Cu x e->Stp (kx x) 0 d0.size d0 e->Oc (kx x) bs d0.size e->ZqS x d0 (GO fr e.toList x d0.size bs)
 |n,bs,e,fr,hn,hbs,hb8,hO,T,B=>by
  have hsz:=c.sz;by_cases h:bs<d0.size
  .match n,hn with
   |0,hn=>omega
   |n+1,hn =>
   have e2:w (2*(bs:Int))=((0+2*bs:Nat):Int):=by rw[wA E E];omega
   obtain⟨r,R1,R2,f2,hf2⟩:=rG x bs d0 hbs c h (λe fr hO T B=>rH x d0 c n (2*bs) e fr E E E hO T B) _ 0 e fr (Yi _) (Yc _) hO T (.start B);refine⟨r,R1,R2,f2,ZCw _ _ _ _ _ _ ?_⟩
   simp_all
  .refine⟨e,T,B.whole E,fr,ZCw _ _ _ _ _ _ ?_⟩;rw[Ao]
def rI(x:Nat)(d0:AR)(c:Cu x d0):∀(n a:Nat) (e:AR) (fr:Bool),d0.size-a<=n->a<=d0.size->Cu x e->Stp (kx x) 0 d0.size d0 e->I1 (kx x) a e->ZqS x d0 (Ni fr e.toList x d0.size 20 a ((a+20:Nat):Int))
 |n,a,e,fr,hn,han,hO,T,M=>by
  have hsz:=c.sz;have hes:=T.size;by_cases h:a+20<=d0.size
  .match n,hn with
   |0,hn=>omega
   |n+1,hn =>
   obtain⟨g,G1,G2,f,hf⟩:=ZDg (x:=x) (a:=a) (b:=a+20) (d:=e) fr hO E E;obtain⟨r,R1,R2,f2,hf2⟩:=rI x d0 c n (a+20) g f E h (hO.stp G1 E) (T.trans (G1.mono (Yc _) h)) (M.next G1 G2);refine⟨r,R1,R2,f2,ZCv _ _ _ _ _ _ _ _ ?_⟩
   grind [wA]
  .obtain⟨g,G1,G2,f,hf⟩:=ZDg (x:=x) (a:=a) (b:=d0.size) (d:=e) fr hO han E;obtain⟨r,R1,R2,f2,hf2⟩:=rH x d0 c _ 20 g f (Yi _) E E (hO.stp G1 E) (T.trans (G1.mono (Yc _) (Yi _))) (M.end_ E G1 G2);refine⟨r,R1,R2,f2,ZCv _ _ _ _ _ _ _ _ ?_⟩
   grind
def ZPN{x:Nat}{rows:XS}(hl:rows.length<=4096)(hk:∀r∈rows,FC x r):∃fr,ZpJ rows x=some (.tup [],[.arr 38 1 fr ((UJ x rows).map Ae),.box [I x]]):=by
 have hO:Cu x rows.toArray:=⟨by simpa using hl,λi hi=>by
  have hi':i<rows.length:=by simpa using hi
  rw[getElem!_pos rows.toArray i hi]
  exact hk _ Z⟩
 obtain⟨e,S,T,f,hf⟩:=rI x rows.toArray hO _ 0 rows.toArray true (Yi _) (Yc _) hO (.refl _ _ _) (.start _)
 have hc:=S.classes (n:=10) T (λr hr=>by
  have:=hk r (by simpa using hr);unfold FC at this
  omega)
 rw[hc]at hf;refine⟨f,Wi.1.1.1.1 _ _ _ ⟨_,_,_,ZOn hf,rfl⟩⟩
theorem Kv:∀a b:V2,ZH b a=- ZH a b
 |[],[]=>rfl
 |[],_::_=>rfl
 |_::_,[]=>rfl
 |x::a,y::b=>by
  have ih:=Kv a b;simp only[ZH];omega
theorem UM:∀a b:V2,ZH a b=0->a=b
 |[],[],_=>rfl
 |[],_::_,h=>by simp[ZH]at h
 |_::_,[],h=>by simp[ZH]at h
 |x::a,y::b,h=>by
  simp only[ZH]at h;by_cases h1:x<y
  .omega
  .rw[Yb h1]at h;by_cases h2:y<x
   .omega
   .rw[Yb h2]at h;rw[UM a b h,show x=y by omega]
theorem KX(a:V2):ZH a a=0:=by have:=Kv a a;omega
theorem I8:∀a b c:V2,ZH a b<=0->ZH b c<=0->ZH a c<=0
 |[],_,[],_,_=>by simp[ZH]
 |[],_,_::_,_,_=>by simp[ZH]
 |_::_,[],_,h,_=>by simp[ZH]at h
 |_::_,_::_,[],_,h=>by simp[ZH]at h
 |x::a,y::b,z::c,h1,h2=>by
  simp only[ZH]at h1 h2|-;by_cases e1:x<y
  .omega
  .rw[Yb e1]at h1;by_cases e2:y<x
   .omega
   .rw[Yb e2]at h1
    have:x=y:=by omega
    subst this;by_cases e3:x<z
    .rw[Ya e3];decide
    .rw[Yb e3]at h2|-;by_cases e4:z<x
     .omega
     .rw[Yb e4]at h2|-;exact I8 a b c h1 h2
def ZPO(a b c:V2)(h1:Db a b=true)(h2:Db b c=true):Db a c=true:=by
 unfold Db at *
 grind [I8]
def ZPP(a b:V2):(Db a b || Db b a)=true:=by
 unfold Db;have:=Kv a b
 grind
def ZPQ(a b:V2)(h1:Db a b=true)(h2:Db b a=true):a=b:=by
 unfold Db at *
 grind [Kv,UM]
def rJ(rows:XS):(Kg rows).Perm rows:=RH _ _
def ZDh(rows:XS):(Kg rows).Pairwise λa b=>Db a b=true:=List.pairwise_mergeSort ZPO ZPP rows
def ZPR{rows l:XS}(hp:l.Perm rows)(hs:l.Pairwise λa b=>Db a b=true):l=Kg rows :=
 List.Perm.eq_of_pairwise (λa b _ _=>ZPQ a b) hs (ZDh rows) (hp.trans (rJ rows).symm)
def Z26:∀(l:XS) (y:V2),y∈Vx l↔y∈l
 |[],y=>by simp[Vx]
 |[a],y=>by simp[Vx]
 |a::b::l,y=>by
  unfold Vx;have ih:=Z26 (b::l) y
  grind
def ZDi:∀l:XS,(Vx l).length<=l.length
 |[]=>Yi _
 |[a]=>Yi _
 |a::b::l=>by
  unfold Vx;have:=ZDi (b::l)
  grind
end Go.Proofs.YtobfkfgdneeabaaGreat
namespace Go.Proofs.YtobfkfgdneeabaaGreat
open Go.RowKit Go.Lib
open Go.AM (E Z Om)
def ZDj(x:Int)(w:World):Calls Tryz.prog 274 #[.int .i64 x] w λe w'=>e=.returned (.bool false)/\w'=w:=by
 go_enter Tryz.func274,Tryz.ntmps274
 go_wp2
 go_ret
 exact⟨Z,rfl⟩
def c3(x y:Int):Int:=if x<y then -1 else if y<x then 1 else 0
def ZPS(x y:Int)(w:World):Calls Tryz.prog 257 #[.int .i64 x,.int .i64 y] w λe w'=>e=.returned (.int .i64 (c3 x y))/\w'=w:=by
 have h1:=ZDj x w;have h2:=ZDj y w;by_cases e1:x<y
 .go_enter Tryz.func257,Tryz.ntmps257
  go_wp2_with (first|(refine h1.mono ?_;rintro e w' ⟨rfl,rfl⟩)|(refine h2.mono ?_;rintro e w' ⟨rfl,rfl⟩))
  go_ret
  exact⟨by simp[c3,e1],rfl⟩
 .by_cases e2:y<x
  .go_enter Tryz.func257,Tryz.ntmps257
   go_wp2_with (first|(refine h1.mono ?_;rintro e w' ⟨rfl,rfl⟩)|(refine h2.mono ?_;rintro e w' ⟨rfl,rfl⟩))
   go_ret
   exact⟨by simp[c3,e1,e2],rfl⟩
  .have hc:c3 x y=0:=by unfold c3;rw[if_neg e1,if_neg e2]
   rw[hc];clear hc
   go_enter Tryz.func257,Tryz.ntmps257
   go_wp2_with (first|(refine h1.mono ?_;rintro e w' ⟨rfl,rfl⟩)|(refine h2.mono ?_;rintro e w' ⟨rfl,rfl⟩))
   go_ret
   exact⟨rfl,rfl⟩
def Ha(w:World)(v:Value)(r:List Int):Prop:=∃a c,v=.slice a r.length c/\∀j (h:j<r.length),∃g off,a=some ⟨g,off,none⟩/\w.cell? ⟨g,off+j,none⟩=some (.int .i64 r[j])
def ZPT{a b:List Int}{k:Nat}(h1:k<a.length)(h2:k<b.length):ZH (a.drop k) (b.drop k)=if c3 a[k] b[k]=0 then ZH (a.drop (k+1)) (b.drop (k+1))else c3 a[k] b[k]:=by
 rw[List.drop_eq_getElem_cons h1,List.drop_eq_getElem_cons h2]
 conv=>lhs;unfold ZH
 unfold c3;omega
def ZPU(v1 v2:Value)(a b:List Int)(w:World)(h1:Ha w v1 a)(h2:Ha w v2 b)(c:a.length<2305843009213693952)(cc:b.length<2305843009213693952) :
  Calls Tryz.prog 224 #[v1,v2] w λe w'=>e=.returned (.int .i64 (ZH a b))/\w'=w:=by
 obtain⟨p1,c1,rfl,r1⟩:=h1;obtain⟨p2,c2,rfl,r2⟩:=h2;have mixed:Tryz.prog.follows Departure.mixedOrders=true:=by kernel_rfl
 have hc:=λx y=>ZPS x y w
 generalize hR:ZH a b=R;have HR:Aside (ZH (a.drop 0) (b.drop 0)=R):=hR;clear hR
 go_enter Tryz.func224,Tryz.ntmps224
 go_wp2
 go_loopg [5,6,7,8,11] a.length (λgg _ _ _ _ s11 wr=>∃kk:Nat,kk<=a.length/\a.length-kk<=gg/\s11=.int .i64 kk/\wr=w/\Aside (kk<=b.length)/\Aside (ZH (a.drop kk) (b.drop kk)=R))
 case atStart=>exact⟨0,Nat.zero_le _,E,rfl,rfl,Nat.zero_le _,HR⟩
 case round =>
  obtain⟨kk,hkk,hg,rfl,rfl,A,B⟩:=hrel;by_cases hlt:kk<a.length
  .have hltz:(kk:Int)<(a.length:Int):=by omega
   obtain⟨g1,o1,rfl,d1⟩:=r1 kk hlt;by_cases hlb:kk<b.length
   .have Aa5:¬(b.length:Int)<=(kk:Int):=by omega
    obtain⟨g2,o2,rfl,d2⟩:=r2 kk hlb;have hs:=ZPT hlt hlb;have hcall:=hc a[kk] b[kk];have S:Aside (ZH (a.drop kk) (b.drop kk)=if c3 a[kk] b[kk]=0 then ZH (a.drop (kk+1)) (b.drop (kk+1))else c3 a[kk] b[kk]):=hs;clear hs hc r1 r2;generalize c3 a[kk] b[kk]=z at hcall S;generalize a[kk]=x at hcall d1;generalize b[kk]=y at hcall d2;by_cases hz:z=0
    .subst hz
     go_wp2_with (refine hcall.mono ?_;rintro e w' ⟨rfl,rfl⟩)
     go_roundg (a.length-(kk+1))
     case measure=>omega
     case rel =>
      refine⟨kk+1,E,E,by go_num,rfl,(show Aside _ from by show kk+1<=b.length;omega),(show Aside _ from ?_)⟩;have:=S.out
      simp_all
    .have hr:R=z:=by rw[<-B.out,S.out,if_neg hz]
     go_wp2_with (refine hcall.mono ?_;rintro e w' ⟨rfl,rfl⟩)
     go_ret
     exact⟨by subst hr;rfl,rfl⟩
   .have Aa5:(b.length:Int)<=(kk:Int):=by omega
    have hr:R=1:=by
     rw[<-B.out,List.drop_eq_getElem_cons hlt,show b.drop kk=[]from List.drop_of_length_le E];rfl
    clear hc r2
    go_wp2
    go_ret
    exact⟨by subst hr;rfl,rfl⟩
  .have hltz:¬(kk:Int)<(a.length:Int):=by omega
   have he:kk=a.length:=by omega
   have hA:=A.out;by_cases hlb:(a.length:Int)<(b.length:Int)
   .have hr:R=-1:=by
     rw[<-B.out,he,List.drop_length,List.drop_eq_getElem_cons (l:=b) (i:=a.length) E];rfl
    clear hc r1 r2
    go_wp2
    go_ret
    simp
   .have hr:R=0:=by
     rw[<-B.out,he,List.drop_length,show b.drop a.length=[]from List.drop_of_length_le E];rfl
    clear hc r1 r2
    go_wp2
    go_ret
    simp
def ZPV(v1 v2:Value)(a b:List Int)(w:World)(h1:Ha w v1 a)(h2:Ha w v2 b)(c:a.length<2305843009213693952)(cc:b.length<2305843009213693952) :
  Calls Tryz.prog 194 #[v1,v2] w λe w'=>e=.returned (.int .i64 (ZH a b))/\w'=w:=by
 have hc:=ZPU v1 v2 a b w h1 h2 c cc;generalize ZH a b=R at hc|-;obtain⟨p1,c1,rfl,r1⟩:=h1;obtain⟨p2,c2,rfl,r2⟩:=h2;clear r1 r2
 go_enter Tryz.func194,Tryz.ntmps194
 go_wp2_with (refine hc.mono ?_;rintro e w' ⟨rfl,rfl⟩)
 go_ret
 exact⟨rfl,rfl⟩
