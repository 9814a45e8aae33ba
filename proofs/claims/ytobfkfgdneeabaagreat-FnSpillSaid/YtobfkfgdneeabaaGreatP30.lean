/-
  Parts of the proofs for this seat: SH MK SP LS.
-/
import Derived.Test.YtobfkfgdneeabaaGreatP29
set_option linter.all false
set_option maxRecDepth 100000
set_option maxHeartbeats 4000000
namespace Go.Proofs.YtobfkfgdneeabaaGreat
open Go.AM
section
variable{q:Zc}{p:Zr}{info:List Zf}{l:List Ze}(R:Kw q p info l){m:Zt}(hm:Ci m)(ha:VJ m)(fr:Bool)(Ay:Int)
include R hm ha
theorem ZQH:∀i,i<=p.Steps.length->∀(c st:Int) (cc:List Zu),cc≠[]->cc.length<=i->IC m p false 0 0 info fr l false c st cc Ay p.Steps p.Steps.length i=some (Vf false (l.getD (p.Steps.length-1) ⟨[],[]⟩) (A6 m l Ay (p.Steps.drop i) (info.drop i) i c st cc)):=by
 have hv:=R.P.val;have hl:=R.len;refine down _ ?_ ?_
 .intro c st cc h0 hs;obtain⟨e1,e2⟩:=R.last;apply ZCy;rw[Ao,rZ,hl,show w ((p.Steps.length:Int)-1)=((p.Steps.length-1:Nat):Int) by rw[wA E E];omega];refine⟨E,_,e1,.inl ⟨_,_,ZDP e2,?_⟩⟩;simp[Vf,h0]
 .intro i hi ih c st cc h0 hs;obtain⟨x,y,hx,hy,hxi,k15,kr,D5,hL,hR⟩:=R.at_ hi;apply ZCy;rw[An,rY R hi hx hy,wS hi E];refine⟨E,x,by rw[Yj];exact hx,_,_,_,Z2O R (x:=x) hi hy hL hR D5,_,ZEd R hm hi hx hy k15 hL hR D5,?_⟩;by_cases hc:w (Ay-c)<CN m l x y i
  .rw[Ya hc,Ya hc];by_cases h3:3<=x.Kind
   .rw[Ya h3,Ya h3];have h5:0<=y.Right:=kr.2 h3;have e1:Ei l y i=CD l y.Left:=by unfold Ei;rw[Ya (D5 h5)]
    have e2:Ej l y=CD l y.Right:=by unfold Ej;rw[Ya h5]
    rw[e1,e2];have hA:∀o,BC m x.Kind=o->W8 o (CD l y.Left) (CD l y.Right) (w (Ay-c))=some (I (Qp m l x y (w (Ay-c))).Class,[]):=by
     intro o ho;have:=ZEb (aY hm x.Kind) (ZEa ha x.Kind) (b:=w (Ay-c)) (R.ru y.Left) (R.ru y.Right);rw[ho]at this;rw[this];simp only[Qp,ho]
    have res:Vf false (l.getD (p.Steps.length-1) ⟨[],[]⟩) (false,Ay,st,cc++[Qp m l x y (w (Ay-c))])=(.tup [.agg [Bo false,I Ay,I st,L 3 ((cc++[(⟨y.Mask,(Qp m l x y (w (Ay-c))).Class,false⟩:Zu)]).map Zu.c),L 1 (([]:V2).map ic),L 1 (([]:XS).map Ae)],Bo true],[]):=by
     simp[Vf,Qp]
    rw[res];refine⟨Z2M m,?_⟩;rw[wA E E,Ao,Ao];have hy2:info[(i:Int).toNat]?=some y:=by rw[Yj];exact hy
    by_cases g3:x.Kind=3
    .rw[An];exact⟨_,hA m.Hash (by simp[BC,g3]),y,hy2,E,rfl⟩
    .rw[Ao];by_cases g4:x.Kind=4
     .rw[An];exact⟨_,hA m.Merge (by simp[BC,g4]),y,hy2,E,rfl⟩
     .rw[Ao,An];exact⟨_,hA m.Nested (by simp[BC,show x.Kind=5 by omega]),y,hy2,E,rfl⟩
   .rw[Yb h3,Yb h3];simp[Vf,h0]
  .rw[Yb hc,Yb hc];by_cases h3:3<=x.Kind
   .rw[Ya h3,Ya h3];refine⟨y,by rw[Yj];exact hy,_,Hd E,_,Z2I _,E,?_⟩;rw[Yj];exact ih _ _ (cc++[Hh l y i]) Z (by simp;omega)
   .rw[Yb h3,Yb h3];exact ih _ _ cc h0 E
theorem ZQI:∀i,i<=p.Steps.length->∀(c st:Int),Nu m p false 0 0 info fr l false c st Ay p.Steps p.Steps.length i=some (Vf false (l.getD (p.Steps.length-1) ⟨[],[]⟩) (A6 m l Ay (p.Steps.drop i) (info.drop i) i c st [])):=by
 have hv:=R.P.val;have hl:=R.len;refine down _ ?_ ?_
 .intro c st;obtain⟨e1,e2⟩:=R.last;apply ZCx;rw[Ao,rZ,hl,show w ((p.Steps.length:Int)-1)=((p.Steps.length-1:Nat):Int) by rw[wA E E];omega];refine⟨E,_,e1,.inl ⟨_,_,ZDP e2,?_⟩⟩;simp[Vf]
 .intro i hi ih c st;obtain⟨x,y,hx,hy,hxi,k15,kr,D5,hL,hR⟩:=R.at_ hi;apply ZCx;rw[An,rY R hi hx hy,wS hi E];refine⟨E,x,by rw[Yj];exact hx,_,_,_,Z2O R (x:=x) hi hy hL hR D5,_,ZEd R hm hi hx hy k15 hL hR D5,?_⟩;by_cases hc:w (Ay-c)<CN m l x y i
  .rw[Ya hc,Ya hc];by_cases h3:3<=x.Kind
   .rw[Ya h3,Ya h3];have h5:0<=y.Right:=kr.2 h3;have e1:Ei l y i=CD l y.Left:=by unfold Ei;rw[Ya (D5 h5)]
    have e2:Ej l y=CD l y.Right:=by unfold Ej;rw[Ya h5]
    rw[e1,e2];have hA:∀o,BC m x.Kind=o->W8 o (CD l y.Left) (CD l y.Right) (w (Ay-c))=some (I (Qp m l x y (w (Ay-c))).Class,[]):=by
     intro o ho;have:=ZEb (aY hm x.Kind) (ZEa ha x.Kind) (b:=w (Ay-c)) (R.ru y.Left) (R.ru y.Right);rw[ho]at this;rw[this];simp only[Qp,ho]
    have res:Vf false (l.getD (p.Steps.length-1) ⟨[],[]⟩) (false,Ay,st,[]++[Qp m l x y (w (Ay-c))])=(.tup [.agg [Bo false,I Ay,I st,L 3 (([(⟨y.Mask,(Qp m l x y (w (Ay-c))).Class,false⟩:Zu)]).map Zu.c),L 1 (([]:V2).map ic),L 1 (([]:XS).map Ae)],Bo true],[]):=by
     simp[Vf,Qp]
    rw[res];refine⟨Z2M m,?_⟩;rw[wA E E,Ao,Ao];have hy2:info[(i:Int).toNat]?=some y:=by rw[Yj];exact hy
    by_cases g3:x.Kind=3
    .rw[An];exact⟨_,hA m.Hash (by simp[BC,g3]),y,hy2,rfl⟩
    .rw[Ao];by_cases g4:x.Kind=4
     .rw[An];exact⟨_,hA m.Merge (by simp[BC,g4]),y,hy2,rfl⟩
     .rw[Ao,An];exact⟨_,hA m.Nested (by simp[BC,show x.Kind=5 by omega]),y,hy2,rfl⟩
   .rw[Yb h3,Yb h3];simp[Vf]
  .rw[Yb hc,Yb hc];by_cases h3:3<=x.Kind
   .rw[Ya h3,Ya h3];refine⟨y,by rw[Yj];exact hy,_,Hd E,_,Z2I _,?_⟩;rw[Yj];exact ZQH R hm ha fr Ay (i+1) hi _ _ [Hh l y i] Z Z
   .rw[Yb h3,Yb h3];exact ih _ _
omit R hm ha in
theorem J9{i:Nat}{k:Int}(hi:i<l.length)(h0:0<=k)(hk:k.toNat<=i):((l.take i).map (λs:Ze=>(s.Rows.length:Int))++[((l.getD i ⟨[],[]⟩).Rows.length:Int)])[k.toNat]?=some ((l.getD k.toNat ⟨[],[]⟩).Rows.length:Int):=by
 grind
omit ha in
theorem ZEe{i:Nat}{x:Zn}{y:Zf}(hi:i<p.Steps.length)(hx:p.Steps[i]?=some x)(hy:info[i]?=some y)(hL:0<=y.Left->y.Left.toNat<i)(hR:0<=y.Right->y.Right.toNat<i)(c:0<=y.Right->0<=y.Left):NK m p info ((l.take i).map (λs:Ze=>(s.Rows.length:Int))++[((l.getD i ⟨[],[]⟩).Rows.length:Int)]) i=some (I (CN m l x y i),[]):=by
 have hl:=R.len;have ru:∀k:Int,Vz ((l.getD k.toNat ⟨[],[]⟩).Rows.length:Int)=some (I (CD l k),[]):=λk=>Z2L _ (by have:=R.n4096 k;omega)
 have h0:=J9 (l:=l) (i:=i) (k:=(i:Int)) E E E;refine Us.1.1.1 _ _ _ _ _ _ ⟨E,x,by rw[Yj];exact hx,_,Z2j m x.Kind,y,by rw[Yj];exact hy,?_⟩;unfold CN Ei Ej;by_cases h1:0<=y.Left
 .rw[Ao,Ya h1];have hk:=hL h1;by_cases h2:0<=y.Right
  .have hk2:=hR h2;rw[Ao,Ya h2];exact⟨h1,_,J9 (l:=l) E h1 E,_,ru y.Left,h2,_,J9 (l:=l) E h2 E,_,ru y.Right,_,h0,_,ru i,_,ZqA _ (aY hm x.Kind) _ _ _,rfl⟩
  .grind [J9,ZqA,aY]
 .grind [ZqA,aY]
omit R hm ha in
theorem Zrk{i:Nat}(hi:i<l.length):(l.take i).map (λs:Ze=>(s.Rows.length:Int))++[((l.getD i ⟨[],[]⟩).Rows.length:Int)]=(l.take (i+1)).map λs:Ze=>(s.Rows.length:Int):=by
 grind [List.take_succ_eq_append_getElem,List.getElem?_eq_getElem]
theorem ZQJ:∀i,i<=p.Steps.length->∀(c st:Int) (cc:List Zu),cc≠[]->cc.length<=i->NN m p false 0 0 l info ((l.take i).map λs:Ze=>(s.Rows.length:Int)) false c st cc Ay i=some (Vf true (l.getD (p.Steps.length-1) ⟨[],[]⟩) (A6 m l Ay (p.Steps.drop i) (info.drop i) i c st cc)):=by
 have hv:=R.P.val;have hl:=R.len;refine down _ ?_ ?_
 .intro c st cc h0 hs;obtain⟨e1,e2⟩:=R.last;have hA:=ZDT e2;apply ZC1;rw[Ao,rZ,hl,show w ((p.Steps.length:Int)-1)=((p.Steps.length-1:Nat):Int) by rw[wA E E];omega];refine⟨E,_,e1,?_⟩;unfold Zrg at hA;by_cases e:(l.getD (p.Steps.length-1) ⟨[],[]⟩).Rows=[]
  .rw[Ya e]at hA;refine .inr (.inl ⟨_,hA,?_⟩);simp[Vf,e,Lc,Lc,h0,-List.getD_eq_getElem?_getD]
  .rw[Yb e]at hA;refine .inr (.inr ⟨_,_,hA,?_⟩);simp[Vf,e,Lc,Lc,h0,-List.getD_eq_getElem?_getD]
 .intro i hi ih c st cc h0 hs;obtain⟨x,y,hx,hy,hxi,k15,kr,D5,hL,hR⟩:=R.at_ hi;have hnl:((l.take i).map λs:Ze=>(s.Rows.length:Int)).length<=14:=by simp;omega
  have ru:∀k:Int,Vz ((l.getD k.toNat ⟨[],[]⟩).Rows.length:Int)=some (I (CD l k),[]):=λk=>Z2L _ (by have:=R.n4096 k;omega)
  apply ZC1;rw[An,rY R hi hx hy,wS hi E];refine⟨E,_,Hd E,E,?_⟩;rw[Yj];refine⟨_,ZEe R hm hi hx hy hL hR D5,?_⟩;by_cases hc:w (Ay-c)<CN m l x y i
  .rw[Ya hc,Ya hc];refine⟨y,hy,?_⟩;by_cases h3:3<=x.Kind
   .have h5:0<=y.Right:=kr.2 h3;have h6:=D5 h5;rw[Ya h5,Ya h3];refine⟨x,hx,h6,_,J9 (l:=l) E h6 (by have:=hL h6;omega),_,ru y.Left,_,J9 (l:=l) E h5 (by have:=hR h5;omega),_,ru y.Right,_,ZEc hm ha (by simp[Am];omega) (R.ru _) (R.ru _),E,?_⟩;simp[Vf,Qp]
   .rw[Yb (λh=>h3 (kr.1 h)),Yb h3];simp[Vf,h0]
  .rw[Yb hc,Yb hc];refine⟨y,hy,?_⟩;rw[Zrk E];by_cases h3:3<=x.Kind
   .rw[Ya (kr.2 h3),Ya h3];have hg:=J9 (l:=l) (i:=i) (k:=(i:Int)) E E E;rw[Yj,Zrk E]at hg;refine⟨_,hg,_,Z2K _ (by have:=R.n4096 i;rw[Yj]at this;omega),E,?_⟩;exact ih _ _ (cc++[Hh l y i]) Z (by simp;omega)
   .grind
theorem ZQK:∀i,i<=p.Steps.length->∀(c st:Int),NM m p false 0 0 l info ((l.take i).map λs:Ze=>(s.Rows.length:Int)) false c st Ay i=some (Vf true (l.getD (p.Steps.length-1) ⟨[],[]⟩) (A6 m l Ay (p.Steps.drop i) (info.drop i) i c st [])):=by
 have hv:=R.P.val;have hl:=R.len;refine down _ ?_ ?_
 .intro c st;obtain⟨e1,e2⟩:=R.last;have hA:=ZDT e2;apply ZC0;rw[Ao,rZ,hl,show w ((p.Steps.length:Int)-1)=((p.Steps.length-1:Nat):Int) by rw[wA E E];omega];refine⟨E,_,e1,?_⟩;unfold Zrg at hA;by_cases e:(l.getD (p.Steps.length-1) ⟨[],[]⟩).Rows=[]
  .rw[Ya e]at hA;refine .inr (.inl ⟨_,hA,?_⟩);simp[Vf,e,Lc,Lc,-List.getD_eq_getElem?_getD]
  .rw[Yb e]at hA;refine .inr (.inr ⟨_,_,hA,?_⟩);simp[Vf,e,Lc,Lc,-List.getD_eq_getElem?_getD]
 .intro i hi ih c st;obtain⟨x,y,hx,hy,hxi,k15,kr,D5,hL,hR⟩:=R.at_ hi;have hnl:((l.take i).map λs:Ze=>(s.Rows.length:Int)).length<=14:=by simp;omega
  have ru:∀k:Int,Vz ((l.getD k.toNat ⟨[],[]⟩).Rows.length:Int)=some (I (CD l k),[]):=λk=>Z2L _ (by have:=R.n4096 k;omega)
  apply ZC0;rw[An,rY R hi hx hy,wS hi E];refine⟨E,_,Hd E,E,?_⟩;rw[Yj];refine⟨_,ZEe R hm hi hx hy hL hR D5,?_⟩;by_cases hc:w (Ay-c)<CN m l x y i
  .rw[Ya hc,Ya hc];refine⟨y,hy,?_⟩;by_cases h3:3<=x.Kind
   .have h5:0<=y.Right:=kr.2 h3;have h6:=D5 h5;rw[Ya h5,Ya h3];refine⟨x,hx,h6,_,J9 (l:=l) E h6 (by have:=hL h6;omega),_,ru y.Left,_,J9 (l:=l) E h5 (by have:=hR h5;omega),_,ru y.Right,_,ZEc hm ha (by simp[Am];omega) (R.ru _) (R.ru _),?_⟩;simp[Vf,Qp]
   .rw[Yb (λh=>h3 (kr.1 h)),Yb h3];simp[Vf]
  .rw[Yb hc,Yb hc];refine⟨y,hy,?_⟩;rw[Zrk E];by_cases h3:3<=x.Kind
   .rw[Ya (kr.2 h3),Ya h3];have hg:=J9 (l:=l) (i:=i) (k:=(i:Int)) E E E;rw[Yj,Zrk E]at hg;refine⟨_,hg,_,Z2K _ (by have:=R.n4096 i;rw[Yj]at this;omega),?_⟩;exact ZQJ R hm ha Ay (i+1) hi _ _ [Hh l y i] Z Z
   .grind
end
open Classical in
noncomputable def Ld(m:Zt)(d:Zj)(q:Zc)(p:Zr)(c:Int):Option (Ze×(Bool×Int×Int×List Zu)) :=
 match ZG q.Zi q.Atoms p.Steps with
 |none=>none
 |some info=>if ZN d q=true/\VJ m/\Am c 0 1000000000000=true then some ((Xz d q p.Steps info).getD (p.Steps.length-1) ⟨[],[]⟩,A6 m (Xz d q p.Steps info) c p.Steps info 0 0 0 [])else none
def r5:XR:=(.tup [.agg [Bo false,I 0,I 0,L 3 (([]:List Zu).map Zu.c),L 1 (([]:V2).map ic),L 1 (([]:XS).map Ae)],Bo false],[])
def r6(nl:Bool):Option (Ze×(Bool×Int×Int×List Zu))->XR
 |none=>r5
 |some (s,r)=>Vf nl s r
theorem ZQL{m:Zt}(hm:Ci m){d:Zj}(hd:BA d){q:Zc}(hq:AW q)(p:Zr)(c:Int):nI m d q p c=some (r6 false (Ld m d q p c)):=by
 unfold Ld
 cases e:ZG q.Zi q.Atoms p.Steps with
 |none=>exact IU.2.2.2 _ _ _ _ _ _ (.inl ⟨ZDL hd hq (.inl e),rfl⟩)
 |some info =>
  dsimp only;have P:PI q p info:=⟨e⟩;by_cases h:ZN d q=true
  .obtain⟨fr,hx⟩:=ZQ5 hd hq h P;have hg:=rT h P;have R:Kw q p info (Xz d q p.Steps info):=⟨P,hg.1,hg.2⟩;refine IU.2.2.2 _ _ _ _ _ _ (.inr ⟨_,_,_,hx,_,ZC9 m hm,?_⟩);by_cases ha:VJ m
   .rw[Ya (by simpa using ha)];refine⟨_,Uu _ _ _,?_⟩;rcases tf (Am c 0 1000000000000)with hb|hb
    .rw[hb,Yb Om,Yb Z];rfl
    .rw[hb,Ya rfl,Ya ⟨h,ha,rfl⟩];have:=ZQI R hm ha fr c 0 (Yc _) 0 0;simpa[r6]using this
   .rw[Yb (by simpa using ha),Yb (λhh=>ha hh.2.1)];rfl
  .rw[Yb (λhh=>h hh.1)];exact IU.2.2.2 _ _ _ _ _ _ (.inl ⟨ZDL hd hq (.inr (by simpa using h)),rfl⟩)
def ZQM{m:Zt}(hm:Ci m){d:Zj}(hd:BA d){q:Zc}(hq:AW q)(p:Zr)(c:Int):Zqt m d q p c=some (r6 true (Ld m d q p c)):=by
 unfold Ld
 cases e:ZG q.Zi q.Atoms p.Steps with
 |none =>
  obtain⟨info,hx⟩:=ZDM hd hq (p:=p) (.inl e);refine Us.2.1.2.1 _ _ _ _ _ _ ⟨_,_,_,hx,?_⟩
  rw[Yb Om];rfl
 |some info =>
  dsimp only;have P:PI q p info:=⟨e⟩;by_cases h:ZN d q=true
  .have hx:=ZQ6 hd hq h P;have hg:=rT h P;have R:Kw q p info (Xz d q p.Steps info):=⟨P,hg.1,hg.2⟩;refine Us.2.1.2.1 _ _ _ _ _ _ ⟨_,_,_,hx,?_⟩;rw[Ya rfl];refine⟨_,Z2k m hm,?_⟩;by_cases ha:VJ m
   .rw[Ya (by simpa using ha)];refine⟨_,ZS _ _ _,?_⟩;rcases tf (Am c 0 1000000000000)with hb|hb
    .rw[hb,Yb Om,Yb Z];rfl
    .rw[hb,Ya rfl,Ya ⟨h,ha,rfl⟩];have:=ZQK R hm ha c 0 (Yc _) 0 0;simpa[r6]using this
   .rw[Yb (by simpa using ha),Yb (λhh=>ha hh.2.1)];rfl
  .obtain⟨AE,hx⟩:=ZDM hd hq (p:=p) (.inr (by simpa using h));rw[Yb (λhh=>h hh.1)];refine Us.2.1.2.1 _ _ _ _ _ _ ⟨_,_,_,hx,?_⟩;rw[Yb Om];rfl
def X0(x:Int):Nat:=(if Ai (As x 0) 1=1 then 1 else 0)+(if Ai (As x 1) 1=1 then 1 else 0)+(if Ai (As x 2) 1=1 then 1 else 0)+(if Ai (As x 3) 1=1 then 1 else 0)
abbrev Bf(x:Int):Prop:=0<=x/\x<16
theorem m16{x:Int}(h:Bf x):∃a:Fin 16,x=(a.1:Int):=⟨⟨x.toNat,E⟩,by simp;omega⟩
set_option maxRecDepth 100000 in
def Abg:∀a b:Fin 16,Bf (Az a.1 b.1)/\Ai a.1 (Az a.1 b.1)=a.1/\(Az a.1 b.1=a.1\/X0 a.1+1<=X0 (Az a.1 b.1)):=by decide
set_option maxRecDepth 100000 in
def r7:∀a b:Fin 16,Bf (Ai a.1 b.1)/\Ai (Ai a.1 b.1) b.1=Ai a.1 b.1/\(Ai (a.1:Int) b.1=a.1->X0 a.1<=X0 b.1/\(X0 b.1<=X0 a.1->a.1=b.1)):=by decide
set_option maxRecDepth 1000000 in
theorem r8:∀a b c:Fin 16,Ai (a.1:Int) c.1=a.1->Ai (b.1:Int) c.1=b.1->Ai (Az a.1 b.1) c.1=Az a.1 b.1:=by decide
set_option maxRecDepth 100000 in
def r9:∀(a:Fin 16) (i:Fin 4),(Ai (As a.1 i.1) 1=0↔¬Ai (As a.1 i.1) 1=1):=by decide
set_option maxRecDepth 100000 in
def sA:∀(i j:Fin 4),(Ai (As (Ac 1 i.1) j.1) 1=1↔i=j)/\Bf (Ac 1 i.1):=by decide
set_option maxRecDepth 100000 in
def f_low:∀a:Fin 16,Bf (Ai a.1 (w (0-a.1)))/\Ai (Ai a.1 (w (0-a.1))) a.1=Ai a.1 (w (0-(a.1:Int))):=by decide
set_option maxRecDepth 100000 in
theorem ZEf:∀(a:Fin 16),(a.1<2->X0 a.1<=1)/\(a.1<4->X0 a.1<=2)/\(a.1<8->X0 a.1<=3)/\X0 a.1<=4:=by decide
def OL:∀a b c d:Bool,Bf (Xs a b c d):=by decide
def UO(qa:List Zd)(m:Int):Nat->Bool:=λi=>decide (i<qa.length) && (!Zw m i && shr qa (Ac 1 i) m)
def aZ(qa:List Zd)(m:Int):Int:=Xi (UO qa m)
def ZQN(qa:List Zd)(m:Int):Bf (aZ qa m):=OL _ _ _ _
theorem ZQO{i j:Nat}(hi:i<4)(hj:j<4):Zw (Ac 1 i) j=decide (i=j):=by
 have:=(sA ⟨i,hi⟩ ⟨j,hj⟩).1;simp only[Zw,Fin.mk.injEq]at this|-
 simp_all
theorem JA{m:Int}(hm:Bf m){i:Nat}(hi:i<4):Ai (As m i) 1=0↔Zw m i=false:=by
 obtain⟨a,rfl⟩:=m16 hm;have:=r9 a ⟨i,hi⟩;simp only at this;rw[this,Zw,decide_eq_false_iff_not]
def ZQP(qa:List Zd)(h4:qa.length<=4){i:Nat}(hi:i<qa.length)(u:Int):∀k,k<=qa.length->Xu (Ac 1 i) (qa.drop k) k u=(decide (k<=i) && has qa[i].Vars u):=by
 refine down _ ?_ ?_
 .rw[Yl,Xu,decide_eq_false E];rfl
 .grind [ZsN,ZQO]
def OM(qa:List Zd)(h4:qa.length<=4){i:Nat}(hi:i<qa.length)(u:Nat):pV (Ac 1 i) qa u=has qa[i].Vars u:=by
 have:=ZQP qa h4 hi u 0 (Yc _);simpa[pV]using this
def ZQQ{qa:List Zd}{m:Int}{i:Nat}(hi:i<4)(h:UO qa m i=true):WE (λu=>decide (u<i) && UO qa m u) [(i:Int)]=λu=>decide (u<i+1) && UO qa m u:=by
 funext u;simp only[WE,has]
 grind
theorem ZEg{qa:List Zd}{m:Int}{i:Nat}(h:UO qa m i=false):(λu=>decide (u<i) && UO qa m u)=λu=>decide (u<i+1) && UO qa m u:=by
 grind
def ZQR(qa:List Zd)(m:Int):(λu=>decide (u<qa.length) && UO qa m u)=UO qa m:=by
 funext u;unfold UO;simp
def ON(q:Zc)(hq:AW q)(hv:Zx q.Zi q.Atoms=true)(m:Int)(hm:Bf m):∀i,i<=q.Atoms.length->
  SS q m (Xi λu=>decide (u<i) && UO q.Atoms m u) (Xi (pV m q.Atoms)) i=some (I (aZ q.Atoms m),[]):=by
 have h4:=(XF hv).2;refine down _ ?_ ?_
 .apply XG.2.1.2.2;rw[Ao,ZQR];rfl
 .intro i hi ih;have hi4:i<4:=by omega
  have OO:=Xn (i:=i) E;simp only[Y9,Cy]at ih;apply XG.2.1.2.2;rw[An];refine⟨E,?_⟩;rw[show w ((i:Int)+1)=(i:Int)+1 from OO];have hn:UO q.Atoms m i=(!Zw m i && shr q.Atoms (Ac 1 i) m):=by
   unfold UO;rw[decide_eq_true hi];simp
  rcases tf (Zw m i)with e1|e1
  .rw[Ya ((JA hm hi4).2 e1)];refine⟨_,IV q (Ac 1 i) hq (Gp hv),?_⟩;rcases tf (shr q.Atoms (Ac 1 i) m)with e2|e2
   .simp_all [ZsP,ZEg]
   .rw[Yb (λhc=>by rw[(ZsP q.Atoms (Ac 1 i) m).1 hc]at e2;cases e2),ZsL _ (by simp[Am];omega),ZQQ hi4 (by rw[hn,e1,e2];rfl)];exact ih
  .grind [JA,ZEg]
def OP(q:Zc)(hq:AW q)(hv:Zx q.Zi q.Atoms=true)(m:Int)(hm:Bf m):Zoc q m=some (I (aZ q.Atoms m),[]):=by
 have b:=ON q hq hv m hm 0 (Yc _);refine XG.2.2.1.1 _ _ _ ⟨_,IV q m hq (Gp hv),?_⟩;simpa[Xi,Xs]using b
def Lg(qa:List Zd)(mask x:Int):Int:=Az x (Ai (aZ qa x) mask)
def bA(qa:List Zd)(mask:Int):Nat->Int->Int
 |0,x=>x
 |n+1,x=>bA qa mask n (Lg qa mask x)
def WV(qa:List Zd)(mask:Int):Bool:=decide (bA qa mask qa.length (Ai mask (w (0-mask)))=mask)
abbrev OQ(x mask:Int):Prop:=Ai x mask=x
def ZQS{qa:List Zd}{mask x:Int}(hm:Bf mask)(hx:Bf x)(hs:OQ x mask):Bf (Lg qa mask x)/\OQ (Lg qa mask x) mask/\(Lg qa mask x=x\/X0 x+1<=X0 (Lg qa mask x)):=by
 obtain⟨a,rfl⟩:=m16 hx;obtain⟨b,rfl⟩:=m16 hm;obtain⟨c,hc⟩:=m16 (ZQN qa (a.1:Int));unfold Lg;rw[hc];obtain⟨d1,d2,_⟩:=r7 c b;obtain⟨d,hd⟩:=m16 d1;rw[hd]at d2|-;obtain⟨e1,_,e3⟩:=Abg a d
 grind [r8]
def ZQT(q:Zc)(hq:AW q)(hv:Zx q.Zi q.Atoms=true)(mask:Int)(hm:Bf mask):∀i,i<=q.Atoms.length->∀x,Bf x->OQ x mask->
  jE q mask x i=some (Bo (decide (bA q.Atoms mask (q.Atoms.length-i) x=mask)),[]):=by
 have h4:=(XF hv).2;refine down _ ?_ ?_
 .intro x _ _;apply XG.2.2.1.2;rw[Ao,Et];rfl
 .intro i hi ih x hx hs;obtain⟨s1,s2,s3⟩:=ZQS (qa:=q.Atoms) hm hx hs;have OO:=Xn (i:=i) E;apply XG.2.2.1.2;rw[An];refine⟨_,OP q hq hv x hx,?_⟩;have ih:=ih _ s1 s2;simp only[Y9,Cy]at ih;rw[show w ((i:Int)+1)=(i:Int)+1 from OO,show q.Atoms.length-i=(q.Atoms.length-(i+1))+1 by omega,bA];exact ih
abbrev MQ(qa:List Zd)(m:Int):Prop:=0<=m/\m<2 ^ qa.length
def MQ.m16{n:Int}{qa:List Zd}{m:Int}(hv:Zx n qa=true)(h:MQ qa m):Bf m/\X0 m<=qa.length:=by
 have hl:=XF hv;obtain⟨h1,h2⟩:=h;have e:qa.length=1\/qa.length=2\/qa.length=3\/qa.length=4:=by omega
 have k16:Bf m:=by rcases e with e|e|e|e<;>rw[e]at h2<;>exact⟨h1,E⟩
 refine⟨k16,?_⟩;obtain⟨a,rfl⟩:=Go.Proofs.YtobfkfgdneeabaaGreat.m16 k16
 grind [ZEf]
theorem Z2P(q:Zc)(hq:AW q)(hv:Zx q.Zi q.Atoms=true)(m:Int)(hm:MQ q.Atoms m):MB q m=some (Bo (WV q.Atoms m),[]):=by
 obtain⟨k1,k2⟩:=hm.m16 hv;apply XG.2.2.2.1;obtain⟨a,rfl⟩:=m16 k1;obtain⟨l1,l2⟩:=f_low a;exact ZQT q hq hv _ k1 0 (Yc _) _ l1 l2
def Lh{n:Int}{qa:List Zd}(hv:Zx n qa=true):ZU n qa=2 ^ qa.length-1:=by
 unfold ZU;rw[Ya hv,(Jv hv).2.1]
def ZEh(q:Zc)(hq:AW q)(m:Int):SQ q m=some (Bo (Zx q.Zi q.Atoms && Am m 0 (ZU q.Zi q.Atoms)),[]):=by
 refine XG.1.2.2.2.2 _ _ _ ⟨_,pM q hq,?_⟩;rcases tf (Zx q.Zi q.Atoms)with e|e
 .rw[e];simp
 .rw[e,Ya rfl];refine⟨E,_,ZS _ _ _,?_⟩;rw[show w (Ac 1 (q.Atoms.length:Int)-1)=Ac 1 (q.Atoms.length:Int)-1 from(Jv e).2.2.1];unfold ZU;rw[Ya e];simp
def Zrl{n:Int}{qa:List Zd}(hv:Zx n qa=true){m:Int}(h:Am m 0 (ZU n qa)=true):MQ qa m:=by
 rw[Lh hv]at h;simp[Am]at h;exact⟨h.1,E⟩
def WW(n:Int)(qa:List Zd)(m:Int):Bool:=Zx n qa && Am m 0 (ZU n qa) && decide (m≠0) && WV qa m
theorem QM(q:Zc)(hq:AW q)(m:Int):UD q m=some (Bo (WW q.Zi q.Atoms m),[]):=by
 refine XG.2.2.2.2.1 _ _ _ ⟨_,ZEh q hq m,?_⟩;unfold WW;rcases tf (Zx q.Zi q.Atoms)with e|e
 .rw[e];simp
 rcases tf (Am m 0 (ZU q.Zi q.Atoms))with e1|e1
 .rw[e,e1];simp
 rw[e,e1,Ya (by rfl)];have hm:=Zrl e e1;by_cases h0:m=0
 .simp_all
 .grind [Z2P]
def ZEi(k:Nat):((2 ^ k:Nat):Int)=2 ^ k:=by simp
def JB(qa:List Zd)(mask x:Int):Bool:=decide (Ai x mask=x) && (WV qa x && WV qa (mask-x))
def Hi(qa:List Zd)(mask:Int)(k n:Nat):V2:=((List.range' k n).filter (λm:Nat=>JB qa mask (m:Int))).map (λm:Nat=>(m:Int))
def ZQU{qa:List Zd}{mask:Int}{k n:Nat}:Hi qa mask k (n+1)=(if JB qa mask (k:Int)=true then[(k:Int)]else[])++Hi qa mask (k+1) n:=by
 unfold Hi
 grind [List.range'_succ]
def KZ(qa:List Zd)(mask:Int):V2:=Hi qa mask 1 (mask.toNat-1)
def ZQV(q:Zc)(hq:AW q)(hv:Zx q.Zi q.Atoms=true)(mask:Nat)(hm:MQ q.Atoms mask):∀k:Nat,k<=mask->1<=k->∀out:V2,out.length<=k->
  ME q out mask k=some (.own 0,[.arr X5 1 true ((out++Hi q.Atoms mask k (mask-k)).map ic)]):=by
 have Acp:=(hm.m16 hv).1;refine down _ ?_ ?_
 .intro _ out _;apply Ur.1.1.1;rw[Ao,Et];simp[Hi]
 .intro k hk ih h1 out ho;have Fj:w ((k:Int)+1)=(k:Int)+1:=ZF E E;have wd:w ((mask:Int)-k)=(mask:Int)-k:=ZF E E;apply Ur.1.1.1;rw[An,show mask-k=(mask-(k+1))+1 by omega,ZQU,Fj,wd];have skip:JB q.Atoms mask k=false->ME q out mask ((k:Int)+1)=some (.own 0,[.arr X5 1 true ((out++((if JB q.Atoms mask (k:Int)=true then[(k:Int)]else[])++Hi q.Atoms mask (k+1) (mask-(k+1)))).map ic)]):=by
   grind
  by_cases e1:Ai (k:Int) mask=k
  .rw[Ya e1];refine⟨_,Z2P q hq hv k ⟨E,by have:=hm.2;omega⟩,?_⟩;rcases tf (WV q.Atoms k)with e2|e2
   .rw[e2,Yb Z];exact skip (by simp[JB,e2])
   .rw[e2,Ya rfl];refine⟨_,Z2P q hq hv ((mask:Int)-k) ⟨E,by have:=hm.2;omega⟩,?_⟩;rcases tf (WV q.Atoms ((mask:Int)-k))with e3|e3
    .rw[e3,Yb Z];exact skip (by simp[JB,e3])
    .rw[e3,Ya rfl];have es:JB q.Atoms mask k=true:=by simp[JB,e1,e2,e3]
     grind
  .rw[Yb e1];exact skip (by simp[JB,e1])
def ZEj(q:Zc)(hq:AW q)(m:Int)(hc:WW q.Zi q.Atoms m=true):MD q m=some (.own 0,[.arr X5 1 true ((KZ q.Atoms m).map ic)]):=by
 have hc':=hc;simp only[WW,Yf,decide_eq_true_eq]at hc';obtain⟨⟨⟨hv,hr⟩,h0⟩,_⟩:=hc';have hm:=Zrl hv hr;obtain⟨k,rfl⟩:∃k:Nat,m=k:=⟨m.toNat,by have:=hm.1;omega⟩;refine Ur.1.1.2 _ _ _ ⟨_,QM q hq k,?_⟩;rw[hc,Ya rfl];have b:=ZQV q hq hv k hm 1 E (Yi _) [] Z;simpa[KZ]using b
def OR(m:Int)(k n:Nat):V2:=((List.range' k n).filter (λi:Nat=>Zw m i)).map (λi:Nat=>(i:Int))
def ZEk{m:Int}{k n:Nat}:OR m k (n+1)=(if Zw m k=true then[(k:Int)]else[])++OR m (k+1) n:=by
 unfold OR
 grind [List.range'_succ]
def sB(m:Int):V2:=OR m 0 4
def ZQW(m:Int)(hm:Bf m):∀k:Nat,k<=4->∀out:V2,out.length<=k->ST out m k=some (.own 0,[.arr X5 1 true ((out++OR m k (4-k)).map ic)]):=by
 refine down _ ?_ ?_
 .intro out _;apply Ur.1.2.1;rw[Ao];simp[OR]
 .intro k hk ih out ho;have Fj:w ((k:Int)+1)=(k:Int)+1:=ZF E E;apply Ur.1.2.1;rw[An,show 4-k=(4-(k+1))+1 by omega,ZEk,Fj];refine⟨_,ZS _ _ _,?_⟩;rw[Ya (by simp[Am];omega)];refine⟨E,?_⟩;by_cases e:Ai (As m k) 1=1
  .have ih:=ih (out++[(k:Int)]) (by simp;omega);rw[Ya e,Ya (by simp[Zw,e])]
   grind
  .have ih:=ih out E;rw[Yb e,Yb (by simp[Zw,e])];simpa using ih
theorem Z2Q{m:Int}(hm:Bf m):Ib m=some (.own 0,[.arr X5 1 true ((sB m).map ic)]):=by
 have b:=ZQW m hm 0 E [] Z;exact Ur.1.2.2 _ _ (by simpa[sB]using b)
abbrev ZI(q:Zc)(m:Int):V2:=ZX m q.Atoms q.Zi.toNat
def Ub(q:Zc)(a b:Int):V2:=(ZI q a).filter (has (ZI q b))
def OS(q:Zc)(hv:Zx q.Zi q.Atoms=true)(m:Int):(ZI q m).length<=4:=by
 have:=Mj m q.Atoms q.Zi.toNat;have:=Kf hv;unfold ZI;omega
def ZEl(p:Nat->Bool):∀k:Nat,k<=4->∀out:V2,out.length<=k->MG out (Xi p) k=some (.own 0,[.arr X5 1 true ((out++((List.range' k (4-k)).filter p).map (λu:Nat=>(u:Int))).map ic)]):=by
 refine down _ ?_ ?_
 .simp[Ur.2.2.1]
 .intro k hk ih out ho;have Fj:w ((k:Int)+1)=(k:Int)+1:=ZF E E;have hb:=Zn1 p (v:=(k:Int)) (by simp[Am];omega);rw[Yj]at hb;apply Ur.2.2.1;rw[An,show 4-k=(4-(k+1))+1 by omega,Fs,xH,Fj]
  grind
def ZEm(q:Zc)(hv:Zx q.Zi q.Atoms=true)(m:Int):((List.range' 0 4).filter (pV m q.Atoms)).map (λu:Nat=>(u:Int))=ZI q m:=by
 have hn:=Kf hv;have e:List.range' 0 4=List.range q.Zi.toNat++List.range' q.Zi.toNat (4-q.Zi.toNat):=by
  have h:=List.range'_append_1 (s:=0) (m:=q.Zi.toNat) (n:=4-q.Zi.toNat)
  simp_all [Yt,xF]
 unfold ZI ZX;rw[e,xA];have e2:(List.range' q.Zi.toNat (4-q.Zi.toNat)).filter (pV m q.Atoms)=[]:=by
  rw[cR];intro u hu hp;have:=ZsO hv hp
  grind
 rw[e2];simp
def sC(q:Zc)(hq:AW q)(hv:Zx q.Zi q.Atoms=true)(m:Int)(hm:MQ q.Atoms m):Q9 q m=some (.own 0,[.arr X5 1 true ((ZI q m).map ic)]):=by
 have b:=ZEl (pV m q.Atoms) 0 E [] Z;rw[show 4-0=4 from rfl,ZEm q hv m]at b;refine X6.1.1.1 _ _ _ ⟨_,ZEh q hq m,?_⟩
 have:Am m 0 (ZU q.Zi q.Atoms)=true:=by rw[Lh hv];simp[Am];have:=hm.1;have:=hm.2;omega
 rw[hv,this,Ya (by rfl)];exact⟨_,IV q m hq (Gp hv),_,Ur.2.2.2 _ _ (by simpa using b),rfl⟩
def ZQX(x y:V2)(hy:Le y)(hx:x.length<=1000):∀i,i<=x.length->SV ((x.take i).filter (has y)) x y i=some (.own 0,[.arr X5 1 true ((x.filter (has y)).map ic)]):=by
 refine down _ ?_ ?_
 .simp[X6.1.1.2.1]
 .intro i hi ih;have h4:=Xn (i:=i) E;have e4:((x.take i).filter (has y)).length+1<=68719476736:=by
   grind
  rw[Z5W _ hi]at ih;apply X6.1.1.2.1;rw[An];refine⟨E,x[i],by rw[Yj];exact Yh hi,_,G3 y x[i] hy,?_⟩
  grind
def Z2R(q:Zc)(hq:AW q)(hv:Zx q.Zi q.Atoms=true)(a b:Int)(ha:MQ q.Atoms a)(hb:MQ q.Atoms b):Ic q a b=some (.own 0,[.arr X5 1 true ((Ub q a b).map ic)]):=by
 have l1:=OS q hv a;have l2:=OS q hv b;have c:=ZQX (ZI q a) (ZI q b) E E 0 (Yc _);exact X6.1.1.2.2 _ _ _ _ ⟨_,sC q hq hv a ha,_,sC q hq hv b hb,by simpa[Ub]using c⟩
