/-
  Parts of the proofs for this seat: SH FW EW MK SP LS EY EZ EP ID.
-/
import Derived.Test.YthpdbpfamhcgiaaGreatP29
set_option linter.all false
set_option maxRecDepth 100000
set_option maxHeartbeats 4000000
namespace Go.Proofs.YthpdbpfamhcgiaaGreat
open Go.AM
section
variable{q:Zf}{p:Zg}{info:List Zo}{l:List Zm}(R:ZaO q p info l){m:Zn}(hm:LeM m)(ha:Vf m)(fr:Bool)(bud:Int)
include R hm ha
theorem ZOk:∀i,i<=p.Steps.length->∀(c st:Int) (cc:List ZB),cc≠[]->cc.length<=i->Zay m p false 0 0 info fr l false c st cc bud p.Steps p.Steps.length i=some (Vy false (l.getD (p.Steps.length-1) ⟨[],[]⟩) (runF m l bud (p.Steps.drop i) (info.drop i) i c st cc)):=by
 have hv:=R.P.val;have hl:=R.len;refine down _ ?_ ?_
 .intro c st cc h0 hs;obtain⟨e1,e2⟩:=R.last;refine Z8Y ?_;rw[Ynx,ZpP,hl,show w ((p.Steps.length:Int)-1)=((p.Steps.length-1:Nat):Int) by rw[wA (by omega) (by omega)];omega];refine⟨by omega,_,e1,.inl ⟨_,_,ZA1 e2,?_⟩⟩;simp[Vy,h0]
 .intro i hi ih c st cc h0 hs;obtain⟨x,y,hx,hy,hxi,k15,kr,krl,hL,hR⟩:=R.at_ hi;refine Z8Y ?_;rw[Ypx,ZpO R hi hx hy,wS hi (by omega)];refine⟨by omega,x,by rw[Yh];exact hx,_,_,_,Z09 R (x:=x) hi hy hL hR krl,_,ZAC R hm hi hx hy k15 hL hR krl,?_⟩;by_cases hc:w (bud-c)<stC m l x y i
  .rw[Ya hc,Ya hc];by_cases h3:3<=x.Zs
   .rw[Ya h3,Ya h3];have h5:0<=y.Right:=kr.2 h3;have e1:lfC l y i=ruS l y.Left:=by unfold lfC;rw[Ya (krl h5)]
    have e2:rtC l y=ruS l y.Right:=by unfold rtC;rw[Ya h5]
    rw[e1,e2];have hA:∀o,mOp m x.Zs=o->WN o (ruS l y.Left) (ruS l y.Right) (w (bud-c))=some (I (Q0 m l x y (w (bud-c))).Class,[]):=by
     intro o ho;have:=ZAA (Zhu hm x.Zs) (ZA8 ha x.Zs) (b:=w (bud-c)) (R.ru y.Left) (R.ru y.Right);rw[ho]at this;rw[this];simp only[Q0,ho]
    have res:Vy false (l.getD (p.Steps.length-1) ⟨[],[]⟩) (false,bud,st,cc++[Q0 m l x y (w (bud-c))])=(.tup [.agg [Bo false,I bud,I st,L 3 ((cc++[(⟨y.Mask,(Q0 m l x y (w (bud-c))).Class,false⟩:ZB)]).map ZB.c),L 1 (([]:V6).map ic),L 1 (([]:V4).map isc)],Bo true],[]):=by
     simp[Vy,Q0]
    rw[res];refine⟨Z08 m,?_⟩;rw[wA (by omega) (by omega),Ynx,Ynx];have hy2:info[(i:Int).toNat]?=some y:=by rw[Yh];exact hy
    by_cases g3:x.Zs=3
    .rw[Ypx];exact⟨_,hA m.Z2 (by simp[mOp,g3]),y,hy2,by omega,rfl⟩
    .rw[Ynx];by_cases g4:x.Zs=4
     .rw[Ypx];exact⟨_,hA m.Z3 (by simp[mOp,g4]),y,hy2,by omega,rfl⟩
     .rw[Ynx,Ypx];exact⟨_,hA m.Z4 (by simp[mOp,show x.Zs=5 by omega]),y,hy2,by omega,rfl⟩
   .rw[Yb h3,Yb h3];simp[Vy,h0]
  .rw[Yb hc,Yb hc];by_cases h3:3<=x.Zs
   .rw[Ya h3,Ya h3];refine⟨y,by rw[Yh];exact hy,_,ZaK (by omega),_,ZpN _,by omega,?_⟩;rw[Yh];exact ih _ _ (cc++[Zht l y i]) (by simp) (by simp;omega)
   .rw[Yb h3,Yb h3];exact ih _ _ cc h0 (by omega)
theorem ZOl:∀i,i<=p.Steps.length->∀(c st:Int),Zdp m p false 0 0 info fr l false c st bud p.Steps p.Steps.length i=some (Vy false (l.getD (p.Steps.length-1) ⟨[],[]⟩) (runF m l bud (p.Steps.drop i) (info.drop i) i c st [])):=by
 have hv:=R.P.val;have hl:=R.len;refine down _ ?_ ?_
 .intro c st;obtain⟨e1,e2⟩:=R.last;refine Z8X ?_;rw[Ynx,ZpP,hl,show w ((p.Steps.length:Int)-1)=((p.Steps.length-1:Nat):Int) by rw[wA (by omega) (by omega)];omega];refine⟨by omega,_,e1,.inl ⟨_,_,ZA1 e2,?_⟩⟩;simp[Vy]
 .intro i hi ih c st;obtain⟨x,y,hx,hy,hxi,k15,kr,krl,hL,hR⟩:=R.at_ hi;refine Z8X ?_;rw[Ypx,ZpO R hi hx hy,wS hi (by omega)];refine⟨by omega,x,by rw[Yh];exact hx,_,_,_,Z09 R (x:=x) hi hy hL hR krl,_,ZAC R hm hi hx hy k15 hL hR krl,?_⟩;by_cases hc:w (bud-c)<stC m l x y i
  .rw[Ya hc,Ya hc];by_cases h3:3<=x.Zs
   .rw[Ya h3,Ya h3];have h5:0<=y.Right:=kr.2 h3;have e1:lfC l y i=ruS l y.Left:=by unfold lfC;rw[Ya (krl h5)]
    have e2:rtC l y=ruS l y.Right:=by unfold rtC;rw[Ya h5]
    rw[e1,e2];have hA:∀o,mOp m x.Zs=o->WN o (ruS l y.Left) (ruS l y.Right) (w (bud-c))=some (I (Q0 m l x y (w (bud-c))).Class,[]):=by
     intro o ho;have:=ZAA (Zhu hm x.Zs) (ZA8 ha x.Zs) (b:=w (bud-c)) (R.ru y.Left) (R.ru y.Right);rw[ho]at this;rw[this];simp only[Q0,ho]
    have res:Vy false (l.getD (p.Steps.length-1) ⟨[],[]⟩) (false,bud,st,[]++[Q0 m l x y (w (bud-c))])=(.tup [.agg [Bo false,I bud,I st,L 3 (([(⟨y.Mask,(Q0 m l x y (w (bud-c))).Class,false⟩:ZB)]).map ZB.c),L 1 (([]:V6).map ic),L 1 (([]:V4).map isc)],Bo true],[]):=by
     simp[Vy,Q0]
    rw[res];refine⟨Z08 m,?_⟩;rw[wA (by omega) (by omega),Ynx,Ynx];have hy2:info[(i:Int).toNat]?=some y:=by rw[Yh];exact hy
    by_cases g3:x.Zs=3
    .rw[Ypx];exact⟨_,hA m.Z2 (by simp[mOp,g3]),y,hy2,rfl⟩
    .rw[Ynx];by_cases g4:x.Zs=4
     .rw[Ypx];exact⟨_,hA m.Z3 (by simp[mOp,g4]),y,hy2,rfl⟩
     .rw[Ynx,Ypx];exact⟨_,hA m.Z4 (by simp[mOp,show x.Zs=5 by omega]),y,hy2,rfl⟩
   .rw[Yb h3,Yb h3];simp[Vy]
  .rw[Yb hc,Yb hc];by_cases h3:3<=x.Zs
   .rw[Ya h3,Ya h3];refine⟨y,by rw[Yh];exact hy,_,ZaK (by omega),_,ZpN _,?_⟩;rw[Yh];exact ZOk R hm ha fr bud (i+1) hi _ _ [Zht l y i] (by simp) (by simp)
   .rw[Yb h3,Yb h3];exact ih _ _
omit R hm ha in
theorem JQ{i:Nat}{k:Int}(hi:i<l.length)(h0:0<=k)(hk:k.toNat<=i):((l.take i).map (λs:Zm=>(s.Rows.length:Int))++[((l.getD i ⟨[],[]⟩).Rows.length:Int)])[k.toNat]?=some ((l.getD k.toNat ⟨[],[]⟩).Rows.length:Int):=by
 grind
omit ha in
theorem ZAD{i:Nat}{x:Zj}{y:Zo}(hi:i<p.Steps.length)(hx:p.Steps[i]?=some x)(hy:info[i]?=some y)(hL:0<=y.Left->y.Left.toNat<i)(hR:0<=y.Right->y.Right.toNat<i)(c:0<=y.Right->0<=y.Left):ZdO m p info ((l.take i).map (λs:Zm=>(s.Rows.length:Int))++[((l.getD i ⟨[],[]⟩).Rows.length:Int)]) i=some (I (stC m l x y i),[]):=by
 have hl:=R.len;have ru:∀k:Int,VH ((l.getD k.toNat ⟨[],[]⟩).Rows.length:Int)=some (I (ruS l k),[]):=λk=>Z07 _ (by have:=R.n4096 k;omega)
 have h0:=JQ (l:=l) (i:=i) (k:=(i:Int)) (by omega) (by omega) (by omega);refine WJ.1.1.1.1 _ _ _ _ _ _ ⟨by omega,x,by rw[Yh];exact hx,_,Zeh m x.Zs,y,by rw[Yh];exact hy,?_⟩;unfold stC lfC rtC;by_cases h1:0<=y.Left
 .rw[Ynx,Ya h1];have hk:=hL h1;by_cases h2:0<=y.Right
  .have hk2:=hR h2;rw[Ynx,Ya h2];exact⟨h1,_,JQ (l:=l) (by omega) h1 (by omega),_,ru y.Left,h2,_,JQ (l:=l) (by omega) h2 (by omega),_,ru y.Right,_,h0,_,ru i,_,Kr _ (Zhu hm x.Zs) _ _ _,rfl⟩
  .grind [JQ,Kr,Zhu]
 .grind [Kr,Zhu]
omit R hm ha in
theorem ZpQ{i:Nat}(hi:i<l.length):(l.take i).map (λs:Zm=>(s.Rows.length:Int))++[((l.getD i ⟨[],[]⟩).Rows.length:Int)]=(l.take (i+1)).map λs:Zm=>(s.Rows.length:Int):=by
 grind [List.take_succ_eq_append_getElem,List.getElem?_eq_getElem]
theorem ZOm:∀i,i<=p.Steps.length->∀(c st:Int) (cc:List ZB),cc≠[]->cc.length<=i->ZbI m p false 0 0 l info ((l.take i).map λs:Zm=>(s.Rows.length:Int)) false c st cc bud i=some (Vy true (l.getD (p.Steps.length-1) ⟨[],[]⟩) (runF m l bud (p.Steps.drop i) (info.drop i) i c st cc)):=by
 have hv:=R.P.val;have hl:=R.len;refine down _ ?_ ?_
 .intro c st cc h0 hs;obtain⟨e1,e2⟩:=R.last;have hA:=ZA7 e2;refine Z9b ?_;rw[Ynx,ZpP,hl,show w ((p.Steps.length:Int)-1)=((p.Steps.length-1:Nat):Int) by rw[wA (by omega) (by omega)];omega];refine⟨by omega,_,e1,?_⟩;unfold ZpM at hA;by_cases e:(l.getD (p.Steps.length-1) ⟨[],[]⟩).Rows=[]
  .rw[Ya e]at hA;refine .inr (.inl ⟨_,hA,?_⟩);simp[Vy,e,Zcb,Zcb,h0,-List.getD_eq_getElem?_getD]
  .rw[Yb e]at hA;refine .inr (.inr ⟨_,_,hA,?_⟩);simp[Vy,e,Zcb,Zcb,h0,-List.getD_eq_getElem?_getD]
 .intro i hi ih c st cc h0 hs;obtain⟨x,y,hx,hy,hxi,k15,kr,krl,hL,hR⟩:=R.at_ hi;have hnl:((l.take i).map λs:Zm=>(s.Rows.length:Int)).length<=14:=by simp;omega
  have ru:∀k:Int,VH ((l.getD k.toNat ⟨[],[]⟩).Rows.length:Int)=some (I (ruS l k),[]):=λk=>Z07 _ (by have:=R.n4096 k;omega)
  refine Z9b ?_;rw[Ypx,ZpO R hi hx hy,wS hi (by omega)];refine⟨by omega,_,ZaK (by omega),by omega,?_⟩;rw[Yh];refine⟨_,ZAD R hm hi hx hy hL hR krl,?_⟩;by_cases hc:w (bud-c)<stC m l x y i
  .rw[Ya hc,Ya hc];refine⟨y,hy,?_⟩;by_cases h3:3<=x.Zs
   .have h5:0<=y.Right:=kr.2 h3;have h6:=krl h5;rw[Ya h5,Ya h3];refine⟨x,hx,h6,_,JQ (l:=l) (by omega) h6 (by have:=hL h6;omega),_,ru y.Left,_,JQ (l:=l) (by omega) h5 (by have:=hR h5;omega),_,ru y.Right,_,ZAB hm ha (by simp[inR];omega) (R.ru _) (R.ru _),by omega,?_⟩;simp[Vy,Q0]
   .rw[Yb (λh=>h3 (kr.1 h)),Yb h3];simp[Vy,h0]
  .rw[Yb hc,Yb hc];refine⟨y,hy,?_⟩;rw[ZpQ (by omega)];by_cases h3:3<=x.Zs
   .rw[Ya (kr.2 h3),Ya h3];have hg:=JQ (l:=l) (i:=i) (k:=(i:Int)) (by omega) (by omega) (by omega);rw[Yh,ZpQ (by omega)]at hg;refine⟨_,hg,_,Z06 _ (by have:=R.n4096 i;rw[Yh]at this;omega),by omega,?_⟩;exact ih _ _ (cc++[Zht l y i]) (by simp) (by simp;omega)
   .grind
theorem ZOn:∀i,i<=p.Steps.length->∀(c st:Int),ZdR m p false 0 0 l info ((l.take i).map λs:Zm=>(s.Rows.length:Int)) false c st bud i=some (Vy true (l.getD (p.Steps.length-1) ⟨[],[]⟩) (runF m l bud (p.Steps.drop i) (info.drop i) i c st [])):=by
 have hv:=R.P.val;have hl:=R.len;refine down _ ?_ ?_
 .intro c st;obtain⟨e1,e2⟩:=R.last;have hA:=ZA7 e2;refine Z9a ?_;rw[Ynx,ZpP,hl,show w ((p.Steps.length:Int)-1)=((p.Steps.length-1:Nat):Int) by rw[wA (by omega) (by omega)];omega];refine⟨by omega,_,e1,?_⟩;unfold ZpM at hA;by_cases e:(l.getD (p.Steps.length-1) ⟨[],[]⟩).Rows=[]
  .rw[Ya e]at hA;refine .inr (.inl ⟨_,hA,?_⟩);simp[Vy,e,Zcb,Zcb,-List.getD_eq_getElem?_getD]
  .rw[Yb e]at hA;refine .inr (.inr ⟨_,_,hA,?_⟩);simp[Vy,e,Zcb,Zcb,-List.getD_eq_getElem?_getD]
 .intro i hi ih c st;obtain⟨x,y,hx,hy,hxi,k15,kr,krl,hL,hR⟩:=R.at_ hi;have hnl:((l.take i).map λs:Zm=>(s.Rows.length:Int)).length<=14:=by simp;omega
  have ru:∀k:Int,VH ((l.getD k.toNat ⟨[],[]⟩).Rows.length:Int)=some (I (ruS l k),[]):=λk=>Z07 _ (by have:=R.n4096 k;omega)
  refine Z9a ?_;rw[Ypx,ZpO R hi hx hy,wS hi (by omega)];refine⟨by omega,_,ZaK (by omega),by omega,?_⟩;rw[Yh];refine⟨_,ZAD R hm hi hx hy hL hR krl,?_⟩;by_cases hc:w (bud-c)<stC m l x y i
  .rw[Ya hc,Ya hc];refine⟨y,hy,?_⟩;by_cases h3:3<=x.Zs
   .have h5:0<=y.Right:=kr.2 h3;have h6:=krl h5;rw[Ya h5,Ya h3];refine⟨x,hx,h6,_,JQ (l:=l) (by omega) h6 (by have:=hL h6;omega),_,ru y.Left,_,JQ (l:=l) (by omega) h5 (by have:=hR h5;omega),_,ru y.Right,_,ZAB hm ha (by simp[inR];omega) (R.ru _) (R.ru _),?_⟩;simp[Vy,Q0]
   .rw[Yb (λh=>h3 (kr.1 h)),Yb h3];simp[Vy]
  .rw[Yb hc,Yb hc];refine⟨y,hy,?_⟩;rw[ZpQ (by omega)];by_cases h3:3<=x.Zs
   .rw[Ya (kr.2 h3),Ya h3];have hg:=JQ (l:=l) (i:=i) (k:=(i:Int)) (by omega) (by omega) (by omega);rw[Yh,ZpQ (by omega)]at hg;refine⟨_,hg,_,Z06 _ (by have:=R.n4096 i;rw[Yh]at this;omega),?_⟩;exact ZOm R hm ha bud (i+1) hi _ _ [Zht l y i] (by simp) (by simp)
   .grind
end
open Classical in
noncomputable def QS(m:Zn)(d:Zp)(q:Zf)(p:Zg)(c:Int):Option (Zm×(Bool×Int×Int×List ZB)) :=
 match Wv q.Zk q.Zb p.Steps with
 |none=>none
 |some info=>if Xp d q=true/\Vf m/\inR c 0 1000000000000=true then some ((ZaM d q p.Steps info).getD (p.Steps.length-1) ⟨[],[]⟩,runF m (ZaM d q p.Steps info) c p.Steps info 0 0 0 [])else none
def noRun:V3:=(.tup [.agg [Bo false,I 0,I 0,L 3 (([]:List ZB).map ZB.c),L 1 (([]:V6).map ic),L 1 (([]:V4).map isc)],Bo false],[])
def ZlE(nl:Bool):Option (Zm×(Bool×Int×Int×List ZB))->V3
 |none=>noRun
 |some (s,r)=>Vy nl s r
def ZOo{m:Zn}(hm:LeM m){d:Zp}(hd:LeD d){q:Zf}(hq:LeQ q)(p:Zg)(c:Int):ZnK m d q p c=some (ZlE false (QS m d q p c)):=by
 unfold QS
 cases e:Wv q.Zk q.Zb p.Steps with
 |none=>exact ZdZ.1.1 _ _ _ _ _ _ (.inl ⟨ZAw hd hq (.inl e),rfl⟩)
 |some info =>
  dsimp only;have P:PI q p info:=⟨e⟩;by_cases h:Xp d q=true
  .obtain⟨fr,hx⟩:=ZOa hd hq h P;have hg:=ZAv h P;have R:ZaO q p info (ZaM d q p.Steps info):=⟨P,hg.1,hg.2⟩;refine ZdZ.1.1 _ _ _ _ _ _ (.inr ⟨_,_,_,hx,_,Zpu m hm,?_⟩);by_cases ha:Vf m
   .rw[Ya (by simpa using ha)];refine⟨_,X0 _ _ _,?_⟩;rcases tf (inR c 0 1000000000000)with hb|hb
    .rw[hb,Yb (by decide),Yb (by simp)];rfl
    .rw[hb,Ya rfl,Ya ⟨h,ha,rfl⟩];have:=ZOl R hm ha fr c 0 (Yc _) 0 0;simpa[ZlE]using this
   .rw[Yb (by simpa using ha),Yb (λhh=>ha hh.2.1)];rfl
  .rw[Yb (λhh=>h hh.1)];exact ZdZ.1.1 _ _ _ _ _ _ (.inl ⟨ZAw hd hq (.inr (by simpa using h)),rfl⟩)
def ZOp{m:Zn}(hm:LeM m){d:Zp}(hd:LeD d){q:Zf}(hq:LeQ q)(p:Zg)(c:Int):ZoO m d q p c=some (ZlE true (QS m d q p c)):=by
 unfold QS
 cases e:Wv q.Zk q.Zb p.Steps with
 |none =>
  obtain⟨info,hx⟩:=ZAx hd hq (p:=p) (.inl e);refine WJ.2.1.1.1 _ _ _ _ _ _ ⟨_,_,_,hx,?_⟩
  rw[Yb (by decide)];rfl
 |some info =>
  dsimp only;have P:PI q p info:=⟨e⟩;by_cases h:Xp d q=true
  .have hx:=ZOb hd hq h P;have hg:=ZAv h P;have R:ZaO q p info (ZaM d q p.Steps info):=⟨P,hg.1,hg.2⟩;refine WJ.2.1.1.1 _ _ _ _ _ _ ⟨_,_,_,hx,?_⟩;rw[Ya rfl];refine⟨_,Zhi m hm,?_⟩;by_cases ha:Vf m
   .rw[Ya (by simpa using ha)];refine⟨_,Xx _ _ _,?_⟩;rcases tf (inR c 0 1000000000000)with hb|hb
    .rw[hb,Yb (by decide),Yb (by simp)];rfl
    .rw[hb,Ya rfl,Ya ⟨h,ha,rfl⟩];have:=ZOn R hm ha c 0 (Yc _) 0 0;simpa[ZlE]using this
   .rw[Yb (by simpa using ha),Yb (λhh=>ha hh.2.1)];rfl
  .obtain⟨info',hx⟩:=ZAx hd hq (p:=p) (.inr (by simpa using h));rw[Yb (λhh=>h hh.1)];refine WJ.2.1.1.1 _ _ _ _ _ _ ⟨_,_,_,hx,?_⟩;rw[Yb (by decide)];rfl
def dco:Option (Zm×(Bool×Int×Int×List ZB))->Bool×Int×Bool
 |none=>(false,0,false)
 |some (s,f,c,st,o)=>(f,c,true)
def rw1(nl:Bool)(x:Option (Zm×(Bool×Int×Int×List ZB))):∃r:Run,ZlE nl x=(.tup [.agg (r.c.map .t),Bo (dco x).2.2],[])/\(r.Vi,r.Zv,(dco x).2.2)=dco x:=by
 match x with
 |none=>exact⟨⟨false,0,0,[],⟨[],[]⟩⟩,rfl,rfl⟩
 |some (s,false,c,st,o)=>exact⟨⟨false,c,st,o,⟨[],[]⟩⟩,rfl,rfl⟩
 |some (s,true,c,st,o)=>exact⟨⟨true,c,st,o,⟨s.Za,UC s.Rows⟩⟩,rfl,rfl⟩
def three{f g:Bool}{c:Int}{D:Bool}{K:Int}{A B:Prop}(h:if(f,c,g)=(D,K,true)then A else B):if g=true then(if c=K then(if f=D then A else B)else B)else B:=by
 grind
noncomputable def fwF(m:Zn)(d:Zp)(q:Zf)(b:ZM):List ZR->Nat->Int
 |[],_=>-1
 |x::xs,i=>if inR x.Zg 0 (b.Xl.length-1)=true then
   (match b.Xl[x.Zg.toNat]? with
    |some p=>if dco (QS m d q p x.Vs)=(x.Vi,x.Zv,true)then fwF m d q b xs (i+1)else(i:Int)
    |none=>(i:Int))
  else(i:Int)
section
variable{m:Zn}(hm:LeM m){d:Zp}(hd:LeD d){q:Zf}(hq:LeQ q)(b:ZM)(hb:b.Xl.length<=4294967296)
include hm hd hq hb
theorem ZOq(l:List ZR)(hl:l.length<=4294967296):∀i,i<=l.length->Zf3 m d q b l l.length i=some (I (fwF m d q b (l.drop i) i),[]):=by
 refine down _ ?_ ?_
 .apply ZdZ.1.2;rw[Ynx,Yk];rfl
 .intro i hi ih;obtain⟨x,hx⟩:∃x,l[i]?=some x:=⟨_,Yf hi⟩;have hx':l[i]=x:=by rw[Yf hi]at hx;exact Yc6 hx
  apply ZdZ.1.2;rw[Ypx,wS hi (by omega),Yi hi,hx',fwF];refine⟨by omega,x,by rw[Yh];exact hx,_,X0 _ _ _,?_⟩;rw[show w ((b.Xl.length:Int)-1)=(b.Xl.length:Int)-1 from ZL (by omega) (by omega)];rcases tf (inR x.Zg 0 ((b.Xl.length:Int)-1))with f|f
  .simp_all
  rw[f,if_pos rfl,if_pos rfl];have f':=f;simp only[inR,Bool.and_eq_true,decide_eq_true_eq]at f';obtain⟨p,hp⟩:∃p,b.Xl[x.Zg.toNat]?=some p:=⟨_,List.getElem?_eq_getElem (by omega)⟩;rw[hp];refine⟨f'.1,p,rfl,?_⟩;dsimp only;have hR:=ZOo hm hd hq p x.Vs;have fin:if dco (QS m d q p x.Vs)=(x.Vi,x.Zv,true)then Zf3 m d q b l l.length ((i+1:Nat):Int)=some (I (if dco (QS m d q p x.Vs)=(x.Vi,x.Zv,true)then fwF m d q b (l.drop (i+1)) (i+1)else(i:Int)),[])else(some (I (i:Int),[]):V1)=some (I (if dco (QS m d q p x.Vs)=(x.Vi,x.Zv,true)then fwF m d q b (l.drop (i+1)) (i+1)else(i:Int)),[]):=by
   simp_all
  obtain⟨r,e,f2⟩:=rw1 false (QS m d q p x.Vs)
  grind
theorem ZOr(l:List ZR)(hl:l.length<=4294967296):∀i,i<=l.length->ZgA m d q b l i=some (I (fwF m d q b (l.drop i) i),[]):=by
 refine down _ ?_ ?_
 .apply WJ.2.1.1.2;rw[Ynx,Yk];rfl
 .intro i hi ih;obtain⟨x,hx⟩:∃x,l[i]?=some x:=⟨_,Yf hi⟩;have hx':l[i]=x:=by rw[Yf hi]at hx;exact Yc6 hx
  apply WJ.2.1.1.2;rw[Ypx,wS hi (by omega),Yi hi,hx',fwF];refine⟨by omega,x,by rw[Yh];exact hx,_,Xx _ _ _,?_⟩;rw[show w ((b.Xl.length:Int)-1)=(b.Xl.length:Int)-1 from ZL (by omega) (by omega)];rcases tf (inR x.Zg 0 ((b.Xl.length:Int)-1))with f|f
  .simp_all
  rw[f,if_pos rfl,if_pos rfl];have f':=f;simp only[inR,Bool.and_eq_true,decide_eq_true_eq]at f';obtain⟨p,hp⟩:∃p,b.Xl[x.Zg.toNat]?=some p:=⟨_,List.getElem?_eq_getElem (by omega)⟩;rw[hp];refine⟨f'.1,p,rfl,?_⟩;dsimp only;have hR:=ZOp hm hd hq p x.Vs;have fin:if dco (QS m d q p x.Vs)=(x.Vi,x.Zv,true)then ZgA m d q b l ((i+1:Nat):Int)=some (I (if dco (QS m d q p x.Vs)=(x.Vi,x.Zv,true)then fwF m d q b (l.drop (i+1)) (i+1)else(i:Int)),[])else(some (I (i:Int),[]):V1)=some (I (if dco (QS m d q p x.Vs)=(x.Vi,x.Zv,true)then fwF m d q b (l.drop (i+1)) (i+1)else(i:Int)),[]):=by
   simp_all
  obtain⟨r,e,f2⟩:=rw1 true (QS m d q p x.Vs)
  grind
theorem ZOs(l:List ZR)(hl:l.length<=4294967296):Zf2 m d q b l=some (I (fwF m d q b l 0),[]) :=
 ZdZ.2.1 _ _ _ _ _ _ (ZOq hm hd hq b hb l hl 0 (Yc _))
theorem ZOt(l:List ZR)(hl:l.length<=4294967296):Zg9 m d q b l=some (I (fwF m d q b l 0),[]) :=
 WJ.2.1.2.1 _ _ _ _ _ _ (ZOr hm hd hq b hb l hl 0 (Yc _))
end
def Xq(row cc:V6):V6:=cc.map λc=>row.getD c.toNat 0
def l_Sel(row cols:V6)(h4:cols.length<=1000)(hr:Le row)(hc:∀c∈cols,0<=c/\c<row.length):∀i,i<=cols.length->Zi8 (Xq row (cols.take i)) row cols cols.length i=some (.tup [.own 0,Bo true],[.arr 3 1 true ((Xq row cols).map ic)]):=by
 refine down _ ?_ ?_
 .simp[X9.2.2.2.1,Y2]
 .intro i hi ih;obtain⟨h0,h1⟩:=hc _ (Ye hi);apply X9.2.2.2.1;rw[Ypx,wS hi (by omega)];refine⟨by omega,_,gE hi,_,X0 _ _ _,?_⟩;rw[show w ((row.length:Int)-1)=(row.length:Int)-1 from ZL (by omega) (by omega)];rw[show inR cols[i] 0 ((row.length:Int)-1)=true by simp[inR];omega,Ya rfl];refine⟨h0,_,gD (by omega),by simp[Xq];omega,?_⟩;rw[show Xq row (cols.take (i+1))=Xq row (cols.take i)++[row.getD cols[i].toNat 0] by unfold Xq;rw[Yp hi,Y3];rfl]at ih;exact ih
def Z0A(row cols:V6)(h4:cols.length<=1000)(hr:Le row)(hc:∀c∈cols,0<=c/\c<row.length):Up row cols=some (.tup [.own 0,Bo true],[.arr 3 1 true ((Xq row cols).map ic)]) :=
 X9.2.2.2.2.1 _ _ _ (by simpa[Xq]using l_Sel row cols h4 hr hc 0 (Yc _))
def Z0B(xs ys:V4):Prop:=J8 xs=some (.own 0,[.arr 40 1 true (ys.map isc)])/\(xs=[]->Znx=some (.own 0,[.arr 40 1 true (ys.map isc)]))
def l_ev4a(vars:V6)(list ys:V4)(n:Nat)(h4:vars.length<=1000)(cc:n<=1000)(hc:∀c∈vars,0<=c/\c<n)(hx:∀x∈list,x.length=n)(hL:list.length<=4096)(hs:Z0B (list.map λx=>Xq x vars) ys):∀i,i<=list.length->
  ZcV vars ((list.take i).map λx=>Xq x vars) list list.length i=some (.agg [.own 0,.own 1],[.arr 3 1 true (vars.map ic),.arr 40 1 true (ys.map isc)]):=by
 refine down _ ?_ ?_
 .apply WQ.2.1.2.1;rw[Ynx,Y2];exact⟨_,hs.1,rfl⟩
 .intro i hi ih;apply WQ.2.1.2.1;rw[Ypx,wS hi (by omega)];have e:=hx _ (Ye hi);refine⟨by omega,_,gE hi,.inr ⟨_,Z0A _ _ h4 (by omega) (by rw[e];exact hc),by simp;omega,?_⟩⟩
  grind [List.take_succ_eq_append_getElem]
def x_ev4(vars:V6)(list ys:V4)(n:Nat)(h4:vars.length<=1000)(cc:n<=1000)(hc:∀c∈vars,0<=c/\c<n)(hx:∀x∈list,x.length=n)(hL:list.length<=4096)(hs:Z0B (list.map λx=>Xq x vars) ys) :
  ZiW vars list list.length 0=some (.agg [.own 0,.own 1],[.arr 3 1 true (vars.map ic),.arr 40 1 true (ys.map isc)]):=by
 apply WQ.2.1.1.1;by_cases e0:list=[]
 .subst e0;rw[Yb (by simp)];exact⟨_,hs.2 rfl,rfl⟩
 .have h0:0<list.length:=Yc5.2 e0;have e:=hx _ (Ye h0);rw[Ypx];refine⟨by omega,_,gE (i:=0) h0,.inr ⟨_,Z0A _ _ h4 (by omega) (by rw[e];exact hc),?_⟩⟩;have:=l_ev4a vars list ys n h4 cc hc hx hL hs 1 (by omega);rw[Yp h0]at this;rw[show w (0+1)=1 from by decide];simpa using this
def ZlF(d:Zp)(q:Zf)(m:Int):V4:=Ji d m q.Zb 0 [List.replicate q.Zk.toNat (-1)]
def Zcc(d:Zp)(q:Zf)(m:Int):V4:=(ZlF d q m).map λx=>Xq x (Xo m q.Zb q.Zk.toNat)
def ZpR(d:Zp)(m:Int)(n:Nat):∀(ts:List Ze) (i:Nat) (l:V4),(∀a∈ts,WZ d a=true)->(∀x∈l,x.length=n)->(∀x∈Ji d m ts i l,x.length=n)/\(Ji d m ts i l).length<=8 ^ ts.length*l.length
 |[],_,l,_,h=>⟨h,by simp[Ji]⟩
 |a::ts,i,l,ha,h=>by
  rw[Ji];have hp:=Nat.pow_succ 8 ts.length;by_cases e:andI (shrI m i) 1=0
  .rw[Ya e];obtain⟨h1,h2⟩:=ZpR d m n ts (i+1) l (λb hb=>ha b (by simp[hb])) h;refine⟨h1,Yr h2 (Ybd _ ?_)⟩;rw[Yw];omega
  .rw[Yb e]
   obtain⟨h1,h2⟩:=ZpR d m n ts (i+1) (l.flatMap (UB a.Za (JM d a))) (λb hb=>ha b (by simp[hb])) (by
    intro y hy;obtain⟨x,hx,hy⟩:=Ybw.1 hy
    rw[Zpy hy];exact h x hx)
   refine⟨h1,Yr h2 ?_⟩;have h8:(JM d a).length<=8:=by
    have:=ha a (by simp);unfold JM;unfold WZ at this
    cases e3:X7 d a.Zq with
    |none=>simp
    |some t =>
     obtain⟨hv,ht,_⟩:=Zej e3;exact Zei (Qx hv ht)
   have:=Zhk (UB a.Za (JM d a)) 8 (λx=>Yr (ZzY _ _ _) h8) l;rw[Yw,hp,Nat.mul_assoc];exact Nat.mul_le_mul_left _ this
def XR(x:Int):Nat:=(if andI (shrI x 0) 1=1 then 1 else 0)+(if andI (shrI x 1) 1=1 then 1 else 0)+(if andI (shrI x 2) 1=1 then 1 else 0)+(if andI (shrI x 3) 1=1 then 1 else 0)
abbrev M16(x:Int):Prop:=0<=x/\x<16
theorem m16{x:Int}(h:M16 x):∃a:Fin 16,x=(a.1:Int):=⟨⟨x.toNat,by omega⟩,by simp;omega⟩
set_option maxRecDepth 100000 in
def f_or:∀a b:Fin 16,M16 (orI a.1 b.1)/\andI a.1 (orI a.1 b.1)=a.1/\(orI a.1 b.1=a.1\/XR a.1+1<=XR (orI a.1 b.1)):=by decide
set_option maxRecDepth 100000 in
theorem Z0C:∀a b:Fin 16,M16 (andI a.1 b.1)/\andI (andI a.1 b.1) b.1=andI a.1 b.1/\(andI (a.1:Int) b.1=a.1->XR a.1<=XR b.1/\(XR b.1<=XR a.1->a.1=b.1)):=by decide
set_option maxRecDepth 1000000 in
theorem f_sub:∀a b c:Fin 16,andI (a.1:Int) c.1=a.1->andI (b.1:Int) c.1=b.1->andI (orI a.1 b.1) c.1=orI a.1 b.1:=by decide
set_option maxRecDepth 100000 in
def f_bit:∀(a:Fin 16) (i:Fin 4),(andI (shrI a.1 i.1) 1=0↔¬andI (shrI a.1 i.1) 1=1):=by decide
set_option maxRecDepth 100000 in
def ZAE:∀(i j:Fin 4),(andI (shrI (shlI 1 i.1) j.1) 1=1↔i=j)/\M16 (shlI 1 i.1):=by decide
set_option maxRecDepth 100000 in
def ZAF:∀a:Fin 16,M16 (andI a.1 (w (0-a.1)))/\andI (andI a.1 (w (0-a.1))) a.1=andI a.1 (w (0-(a.1:Int))):=by decide
set_option maxRecDepth 100000 in
theorem ZAG:∀(a:Fin 16),(a.1<2->XR a.1<=1)/\(a.1<4->XR a.1<=2)/\(a.1<8->XR a.1<=3)/\XR a.1<=4:=by decide
def f_bits:∀a b c d:Bool,M16 (XP a b c d):=by decide
def Uf(qa:List Ze)(m:Int):Nat->Bool:=λi=>decide (i<qa.length) && (!Xc m i && shr qa (shlI 1 i) m)
def Jm(qa:List Ze)(m:Int):Int:=XD (Uf qa m)
def ZOu(qa:List Ze)(m:Int):M16 (Jm qa m):=f_bits _ _ _ _
theorem ZOv{i j:Nat}(hi:i<4)(hj:j<4):Xc (shlI 1 i) j=decide (i=j):=by
 have:=(ZAE ⟨i,hi⟩ ⟨j,hj⟩).1;simp only[Xc,Fin.mk.injEq]at this|-
 simp_all
theorem ZlG{m:Int}(hm:M16 m){i:Nat}(hi:i<4):andI (shrI m i) 1=0↔Xc m i=false:=by
 obtain⟨a,rfl⟩:=m16 hm;have:=f_bit a ⟨i,hi⟩;simp only at this;rw[this,Xc,decide_eq_false_iff_not]
def ZOw(qa:List Ze)(h4:qa.length<=4){i:Nat}(hi:i<qa.length)(u:Int):∀k,k<=qa.length->Wa (shlI 1 i) (qa.drop k) k u=(decide (k<=i) && has qa[i].Za u):=by
 refine down _ ?_ ?_
 .rw[Yk,Wa,decide_eq_false (by omega)];rfl
 .grind [Zrf,ZOv]
def pV_one(qa:List Ze)(h4:qa.length<=4){i:Nat}(hi:i<qa.length)(u:Nat):pV (shlI 1 i) qa u=has qa[i].Za u:=by
 have:=ZOw qa h4 hi u 0 (Yc _);simpa[pV]using this
def ZOx{n:Int}{qa:List Ze}(h:Z9 n qa=true){i:Nat}(hi:i<qa.length)(m:Int):shr qa (shlI 1 i) m=qa[i].Za.any (λv=>has (Xo m qa n.toNat) v):=by
 have h4:=(Wg h).2;rw[Ybx,shr,List.any_eq_true,List.any_eq_true];simp only[Zc5 h,pV_one qa h4 hi,Yg,Ybg];constructor
 .rintro⟨u,hu,h1,h2⟩;refine⟨(u:Int),Vj.1 h1,?_⟩;simp only[vin,Yg];exact⟨by simp[inR];omega,by simpa using h2⟩
 .rintro⟨v,hv,h2⟩;have h3:=Zai h _ (Ye hi) v hv;simp[inR]at h3;simp only[vin,Yg]at h2
  grind [Vj,Int.toNat_of_nonneg]
def ZAH{qa:List Ze}{m:Int}{i:Nat}(hi:i<4)(h:Uf qa m i=true):WU (λu=>decide (u<i) && Uf qa m u) [(i:Int)]=λu=>decide (u<i+1) && Uf qa m u:=by
 funext u;simp only[WU,has]
 grind
theorem ZpS{qa:List Ze}{m:Int}{i:Nat}(h:Uf qa m i=false):(λu=>decide (u<i) && Uf qa m u)=λu=>decide (u<i+1) && Uf qa m u:=by
 grind
def ZAI(qa:List Ze)(m:Int):(λu=>decide (u<qa.length) && Uf qa m u)=Uf qa m:=by
 funext u;unfold Uf;simp
def ZOy(q:Zf)(hq:LeQ q)(hv:Z9 q.Zk q.Zb=true)(m:Int)(hm:M16 m):∀i,i<=q.Zb.length->
  ZeW (Xo m q.Zb q.Zk.toNat) m (XD λu=>decide (u<i) && Uf q.Zb m u) q.Zb q.Zb.length i=some (I (Jm q.Zb m),[]):=by
 have h4:=(Wg hv).2;refine down _ ?_ ?_
 .apply W5.2.1.1.2;rw[Ynx,ZAI];rfl
 .intro i hi ih;have hi4:i<4:=by omega
  have hinc:=Xd (i:=i) (by omega);simp only[Yx,Yy]at ih;apply W5.2.1.1.2;rw[Ypx];refine⟨by omega,q.Zb[i],by rw[Yh];exact Yf hi,by omega,?_⟩;rw[show w ((i:Int)+1)=(i:Int)+1 from hinc];have hn:Uf q.Zb m i=(!Xc m i && q.Zb[i].Za.any (λv=>has (Xo m q.Zb q.Zk.toNat) v)):=by
   unfold Uf;rw[decide_eq_true hi,ZOx hv hi];simp
  have hvars:=Zah hv _ (Ye hi);have hvl:=Zbl m q.Zb q.Zk.toNat;have hvn:=U2 hv;rcases tf (Xc m i)with e1|e1
  .rw[Ya ((ZlG hm hi4).2 e1)];refine⟨_,ZzR q.Zb[i].Za (Xo m q.Zb q.Zk.toNat) (by omega) (by omega),?_⟩;rcases tf (q.Zb[i].Za.any (λv=>has (Xo m q.Zb q.Zk.toNat) v))with e2|e2
   .simp_all [Ych,Ydm,ZpS]
   .have e3:0<(q.Zb[i].Za.filter (has (Xo m q.Zb q.Zk.toNat))).length:=by
     simp_all
    rw[Ypx,ZmG _ (by simp[inR];omega),ZAH hi4 (by rw[hn,e1,e2];rfl)];exact ih
  .grind [ZlG,ZpS]
def ZAJ(q:Zf)(hq:LeQ q)(hv:Z9 q.Zk q.Zb=true)(m:Int)(hm:M16 m):Znb q m=some (I (Jm q.Zb m),[]):=by
 have b:=ZOy q hq hv m hm 0 (Yc _);refine W5.2.1.2.1 _ _ _ ⟨_,ZgZ q m hq hv,?_⟩;simpa[XD,XP]using b
def l_near(q:Zf)(hq:LeQ q)(hv:Z9 q.Zk q.Zb=true)(m:Int)(hm:M16 m):∀i,i<=q.Zb.length->
  Zgk q m (XD λu=>decide (u<i) && Uf q.Zb m u) (XD (pV m q.Zb)) i=some (I (Jm q.Zb m),[]):=by
 have h4:=(Wg hv).2;refine down _ ?_ ?_
 .apply W6.2.1.1.2;rw[Ynx,ZAI];rfl
 .intro i hi ih;have hi4:i<4:=by omega
  have hinc:=Xd (i:=i) (by omega);simp only[Yx,Yy]at ih;apply W6.2.1.1.2;rw[Ypx];refine⟨by omega,?_⟩;rw[show w ((i:Int)+1)=(i:Int)+1 from hinc];have hn:Uf q.Zb m i=(!Xc m i && shr q.Zb (shlI 1 i) m):=by
   unfold Uf;rw[decide_eq_true hi];simp
  rcases tf (Xc m i)with e1|e1
  .rw[Ya ((ZlG hm hi4).2 e1)];refine⟨_,Zeb q (shlI 1 i) hq (Zai hv),?_⟩;rcases tf (shr q.Zb (shlI 1 i) m)with e2|e2
   .simp_all [Zri,ZpS]
   .rw[Yb (λhc=>by rw[(Zri q.Zb (shlI 1 i) m).1 hc]at e2;cases e2),ZmG _ (by simp[inR];omega),ZAH hi4 (by rw[hn,e1,e2];rfl)];exact ih
  .grind [ZlG,ZpS]
def x_near(q:Zf)(hq:LeQ q)(hv:Z9 q.Zk q.Zb=true)(m:Int)(hm:M16 m):Zoy q m=some (I (Jm q.Zb m),[]):=by
 have b:=l_near q hq hv m hm 0 (Yc _);refine W6.2.1.2.1 _ _ _ ⟨_,Zeb q m hq (Zai hv),?_⟩;simpa[XD,XP]using b
def Ku(qa:List Ze)(c x:Int):Int:=orI x (andI (Jm qa x) c)
def ZaP(qa:List Ze)(c:Int):Nat->Int->Int
 |0,x=>x
 |n+1,x=>ZaP qa c n (Ku qa c x)
def Va(qa:List Ze)(c:Int):Bool:=decide (ZaP qa c qa.length (andI c (w (0-c)))=c)
abbrev ZpT(x mask:Int):Prop:=andI x mask=x
def Z0D{qa:List Ze}{mask x:Int}(hm:M16 mask)(hx:M16 x)(hs:ZpT x mask):M16 (Ku qa mask x)/\ZpT (Ku qa mask x) mask/\(Ku qa mask x=x\/XR x+1<=XR (Ku qa mask x)):=by
 obtain⟨a,rfl⟩:=m16 hx;obtain⟨b,rfl⟩:=m16 hm;obtain⟨c,hc⟩:=m16 (ZOu qa (a.1:Int));unfold Ku;rw[hc];obtain⟨d1,d2,_⟩:=Z0C c b;obtain⟨d,hd⟩:=m16 d1;rw[hd]at d2|-;obtain⟨e1,_,e3⟩:=f_or a d
 grind [f_sub]
def ZAK{qa:List Ze}{mask x:Int}(h:Ku qa mask x=x):∀n,ZaP qa mask n x=x
 |0=>rfl
 |n+1=>by rw[ZaP,h];exact ZAK h n
def ZOz(q:Zf)(hq:LeQ q)(hv:Z9 q.Zk q.Zb=true)(mask:Int)(hm:M16 mask)(hp:XR mask<=q.Zb.length):∀(f:Nat) (x:Int),M16 x->ZpT x mask->q.Zb.length<=XR x+f->
  Ziw q mask x=some (Bo (decide (ZaP q.Zb mask f x=mask)),[]):=by
 intro f
 induction f with
 |zero =>
  intro x hx hs hf;have hxm:x=mask:=by
   grind [m16,Z0C]
  obtain⟨s1,s2,s3⟩:=Z0D (qa:=q.Zb) hm hx hs;have hfix:Ku q.Zb mask x=x:=by
   grind [m16,Z0C]
  refine W5.2.1.2.2 _ _ _ _ ⟨_,ZAJ q hq hv x hx,?_⟩
  rw[Ya (show orI x (andI (Jm q.Zb x) mask)=x from hfix)];rfl
 |succ f ih =>
  intro x hx hs hf;obtain⟨s1,s2,s3⟩:=Z0D (qa:=q.Zb) hm hx hs;refine W5.2.1.2.2 _ _ _ _ ⟨_,ZAJ q hq hv x hx,?_⟩;by_cases h:Ku q.Zb mask x=x
  .rw[Ya (show orI x (andI (Jm q.Zb x) mask)=x from h),ZAK h]
  .rw[Yb (show ¬orI x (andI (Jm q.Zb x) mask)=x from h)];exact ih (Ku q.Zb mask x) s1 s2 (by rcases s3 with h'|h';exact absurd h' h;omega)
def ZO0(q:Zf)(hq:LeQ q)(hv:Z9 q.Zk q.Zb=true)(c:Int)(hm:M16 c):∀i,i<=q.Zb.length->∀x,M16 x->ZpT x c->
  Zk7 q c x i=some (Bo (decide (ZaP q.Zb c (q.Zb.length-i) x=c)),[]):=by
 have h4:=(Wg hv).2;refine down _ ?_ ?_
 .intro x _ _;apply W6.2.1.2.2;rw[Ynx,Ycc];rfl
 .intro i hi ih x hx hs;obtain⟨s1,s2,s3⟩:=Z0D (qa:=q.Zb) hm hx hs;have hinc:=Xd (i:=i) (by omega);apply W6.2.1.2.2;rw[Ypx];refine⟨_,x_near q hq hv x hx,?_⟩;have ih:=ih _ s1 s2;simp only[Yx,Yy]at ih;rw[show w ((i:Int)+1)=(i:Int)+1 from hinc,show q.Zb.length-i=(q.Zb.length-(i+1))+1 by omega,ZaP];exact ih
abbrev MQ(qa:List Ze)(m:Int):Prop:=0<=m/\m<2 ^ qa.length
def MQ.m16{n:Int}{qa:List Ze}{m:Int}(hv:Z9 n qa=true)(h:MQ qa m):M16 m/\XR m<=qa.length:=by
 have hl:=Wg hv;obtain⟨h1,h2⟩:=h;have e:qa.length=1\/qa.length=2\/qa.length=3\/qa.length=4:=by omega
 have k16:M16 m:=by rcases e with e|e|e|e<;>rw[e]at h2<;>exact⟨h1,by omega⟩
 refine⟨k16,?_⟩;obtain⟨a,rfl⟩:=Go.Proofs.YthpdbpfamhcgiaaGreat.m16 k16
 grind [ZAG]
theorem ZpU(q:Zf)(hq:LeQ q)(hv:Z9 q.Zk q.Zb=true)(m:Int)(hm:MQ q.Zb m)(h0:m≠0):Zak q m=some (Bo (Va q.Zb m),[]):=by
 obtain⟨k1,k2⟩:=hm.m16 hv;apply W5.2.2.1.1;rw[Yb h0];obtain⟨a,rfl⟩:=m16 k1;obtain⟨l1,l2⟩:=ZAF a;exact ZOz q hq hv _ k1 k2 q.Zb.length _ l1 l2 (by omega)
theorem ZpV(q:Zf)(hq:LeQ q)(hv:Z9 q.Zk q.Zb=true)(m:Int)(hm:MQ q.Zb m):ZbC q m=some (Bo (Va q.Zb m),[]):=by
 obtain⟨k1,k2⟩:=hm.m16 hv;apply W6.2.2.1.1;obtain⟨a,rfl⟩:=m16 k1;obtain⟨l1,l2⟩:=ZAF a;exact ZO0 q hq hv _ k1 0 (Yc _) _ l1 l2
def QT{n:Int}{qa:List Ze}(hv:Z9 n qa=true):ZX n qa=2 ^ qa.length-1:=by
 unfold ZX;rw[Ya hv,(Zc2 hv).2.1]
def ZAL(q:Zf)(hq:LeQ q)(m:Int):ZeV q m=some (Bo (Z9 q.Zk q.Zb && inR m 0 (ZX q.Zk q.Zb)),[]):=by
 refine W5.2.1.1.1 _ _ _ ⟨_,ZgX q hq,?_⟩;rcases tf (Z9 q.Zk q.Zb)with e|e
 .rw[e];simp
 .rw[e,Ya rfl];refine⟨by omega,_,X0 _ _ _,?_⟩;rw[show w (shlI 1 (q.Zb.length:Int)-1)=shlI 1 (q.Zb.length:Int)-1 from(Zc2 e).2.2.1];unfold ZX;rw[Ya e];simp
def ZAM(q:Zf)(hq:LeQ q)(m:Int):Zgi q m=some (Bo (Z9 q.Zk q.Zb && inR m 0 (ZX q.Zk q.Zb)),[]):=by
 refine W6.1.2.2.1 _ _ _ ⟨_,ZgY q hq,?_⟩;rcases tf (Z9 q.Zk q.Zb)with e|e
 .rw[e];simp
 .rw[e,Ya rfl];refine⟨by omega,_,Xx _ _ _,?_⟩;rw[show w (shlI 1 (q.Zb.length:Int)-1)=shlI 1 (q.Zb.length:Int)-1 from(Zc2 e).2.2.1];unfold ZX;rw[Ya e];simp
theorem ZpW{n:Int}{qa:List Ze}(hv:Z9 n qa=true){m:Int}(h:inR m 0 (ZX n qa)=true):MQ qa m:=by
 rw[QT hv]at h;simp[inR]at h;exact⟨h.1,by omega⟩
def Wp(n:Int)(qa:List Ze)(m:Int):Bool:=Z9 n qa && inR m 0 (ZX n qa) && decide (m≠0) && Va qa m
def Z0E(q:Zf)(hq:LeQ q)(m:Int):Zal q m=some (Bo (Wp q.Zk q.Zb m),[]):=by
 refine W5.2.2.1.2 _ _ _ ⟨_,ZAL q hq m,?_⟩;unfold Wp;rcases tf (Z9 q.Zk q.Zb)with e|e
 .rw[e];simp
 rcases tf (inR m 0 (ZX q.Zk q.Zb))with e1|e1
 .rw[e,e1];simp
 grind [ZpW,W5.2.2.1.1,ZpU]
def ZpX(q:Zf)(hq:LeQ q)(m:Int):Za7 q m=some (Bo (Wp q.Zk q.Zb m),[]):=by
 refine W6.2.2.1.2 _ _ _ ⟨_,ZAM q hq m,?_⟩;unfold Wp;rcases tf (Z9 q.Zk q.Zb)with e|e
 .rw[e];simp
 rcases tf (inR m 0 (ZX q.Zk q.Zb))with e1|e1
 .rw[e,e1];simp
 rw[e,e1,Ya (by rfl)];have hm:=ZpW e e1;by_cases h0:m=0
 .simp_all
 .grind [ZpV]
def Kv(qa:List Ze)(k n:Nat):V6:=((List.range' k n).filter (λm:Nat=>Va qa (m:Int))).map (λm:Nat=>(m:Int))
def ZAN{qa:List Ze}{k n:Nat}:Kv qa k (n+1)=(if Va qa (k:Int)=true then[(k:Int)]else[])++Kv qa (k+1) n:=by
 unfold Kv
 grind [List.range'_succ]
def ZO1{qa:List Ze}{k n:Nat}:(Kv qa k n).length<=n:=by
 unfold Kv;rw[Y1];exact Yr (Ycn _ _) (by simp)
def Jn(k:Nat):((2 ^ k:Nat):Int)=2 ^ k:=by simp
def ZO2(q:Zf)(hq:LeQ q)(hv:Z9 q.Zk q.Zb=true):∀k:Nat,k<=2 ^ q.Zb.length->1<=k->∀out:V6,out.length<=k->
  Zf4 q out k=some (.own 0,[.arr Xm 1 true ((out++Kv q.Zb k (2 ^ q.Zb.length-k)).map ic)]):=by
 have hf:=QT hv;have hp:=Jn q.Zb.length;have h16:2 ^ q.Zb.length<=16:=Nat.pow_le_pow_right (by omega:0<2) (Wg hv).2;refine down _ ?_ ?_
 .intro _ out _;refine Vv.1.1.1 _ _ _ _ ⟨_,Je q hq,?_⟩;rw[Yb (by rw[hf];omega),Ycc];simp[Kv]
 .intro k hk ih h1 out ho;have wk':w ((k:Int)+1)=(k:Int)+1:=ZL (by omega) (by omega);refine Vv.1.1.1 _ _ _ _ ⟨_,Je q hq,?_⟩;rw[Ya (by rw[hf];omega)];refine⟨_,ZpU q hq hv k ⟨by omega,by omega⟩ (by omega),?_⟩;rw[show 2 ^ q.Zb.length-k=(2 ^ q.Zb.length-(k+1))+1 by omega,ZAN,wk']
  grind
def ZJ(qa:List Ze):V6:=Kv qa 1 (2 ^ qa.length-1)
def ZAO(q:Zf)(hq:LeQ q)(hv:Z9 q.Zk q.Zb=true):Zdq q=some (.own 0,[.arr Xm 1 true ((ZJ q.Zb).map ic)]):=by
 have hpos:1<=2 ^ q.Zb.length:=Nat.one_le_two_pow;have b:=ZO2 q hq hv 1 hpos (Yj _) [] (by simp);exact Vv.1.1.2.1 _ _ (by simpa[ZJ]using b)
def ZO3(q:Zf)(hq:LeQ q)(hv:Z9 q.Zk q.Zb=true):∀k:Nat,k<=2 ^ q.Zb.length->1<=k->∀out:V6,out.length<=k->
  ZgF q out (ZX q.Zk q.Zb) k=some (.own 0,[.arr Xm 1 true ((out++Kv q.Zb k (2 ^ q.Zb.length-k)).map ic)]):=by
 have hf:=QT hv;have hp:=Jn q.Zb.length;have h16:2 ^ q.Zb.length<=16:=Nat.pow_le_pow_right (by omega:0<2) (Wg hv).2;refine down _ ?_ ?_
 .intro _ out _;apply Wn.2.1.1.2;rw[Yb (by rw[hf];omega),Ycc];simp[Kv]
 .intro k hk ih h1 out ho;have wk':w ((k:Int)+1)=(k:Int)+1:=ZL (by omega) (by omega);apply Wn.2.1.1.2;rw[Ya (by rw[hf];omega)];refine⟨_,ZpV q hq hv k ⟨by omega,by omega⟩,?_⟩;rw[show 2 ^ q.Zb.length-k=(2 ^ q.Zb.length-(k+1))+1 by omega,ZAN,wk'];rcases tf (Va q.Zb k)with e|e
  .have ih:=ih (by omega) out (by omega);rw[e,Yb (by simp)];simpa using ih
  .have ih:=ih (by omega) (out++[(k:Int)]) (by simp;omega);rw[e,Ya rfl];refine⟨by omega,?_⟩;simpa using ih
def ZO4(q:Zf)(hq:LeQ q)(hv:Z9 q.Zk q.Zb=true):Zlm q=some (.own 0,[.arr Xm 1 true ((ZJ q.Zb).map ic)]):=by
 have hpos:1<=2 ^ q.Zb.length:=Nat.one_le_two_pow;have b:=ZO3 q hq hv 1 hpos (Yj _) [] (by simp);exact Wn.2.1.2.1 _ _ ⟨_,Qu q hq,by simpa[ZJ]using b⟩
set_option maxRecDepth 100000 in
theorem ZAP:∀a m:Fin 16,andI (a.1:Int) m.1=a.1->J4 (m.1:Int) a.1=(m.1:Int)-a.1/\(a.1:Int)<=m.1/\andI (a.1:Int) ((m.1:Int)-a.1)=0/\orI (a.1:Int) ((m.1:Int)-a.1)=m.1:=by decide
def VK(qa:List Ze)(c x:Int):Bool:=decide (andI x c=x) && (Va qa x && Va qa (c-x))
def QU(qa:List Ze)(c:Int)(k n:Nat):V6:=((List.range' k n).filter (λm:Nat=>VK qa c (m:Int))).map (λm:Nat=>(m:Int))
def ZAQ{qa:List Ze}{mask:Int}{k n:Nat}:QU qa mask k (n+1)=(if VK qa mask (k:Int)=true then[(k:Int)]else[])++QU qa mask (k+1) n:=by
 unfold QU
 grind [List.range'_succ]
def Xf(qa:List Ze)(c:Int):V6:=QU qa c 1 (c.toNat-1)
def ZO5(q:Zf)(hq:LeQ q)(hv:Z9 q.Zk q.Zb=true)(c:Nat)(hm:MQ q.Zb c):∀k:Nat,k<=c->1<=k->∀out:V6,out.length<=k->
  Zdv q out c k=some (.own 0,[.arr Xm 1 true ((out++QU q.Zb c k (c-k)).map ic)]):=by
 have m16':=(hm.m16 hv).1;refine down _ ?_ ?_
 .intro _ out _;apply ZzP.1;rw[Ynx,Ycc];simp[QU]
 .intro k hk ih h1 out ho;have wk':w ((k:Int)+1)=(k:Int)+1:=ZL (by omega) (by omega);apply ZzP.1;rw[Ypx,show c-k=(c-(k+1))+1 by omega,ZAQ,wk'];have skip:VK q.Zb c k=false->Zdv q out c ((k:Int)+1)=some (.own 0,[.arr Xm 1 true ((out++((if VK q.Zb c (k:Int)=true then[(k:Int)]else[])++QU q.Zb c (k+1) (c-(k+1)))).map ic)]):=by
   intro e;have ih:=ih (by omega) out (by omega);rw[e];simpa using ih
  by_cases e1:andI (k:Int) c=k
  .obtain⟨d1,d2,_⟩:=ZAP ⟨k,by omega⟩ ⟨c,by omega⟩ e1;simp only at d1 d2;rw[Ya e1];refine⟨_,ZpU q hq hv k ⟨by omega,by have:=hm.2;omega⟩ (by omega),?_⟩;rcases tf (Va q.Zb k)with e2|e2
   .rw[e2,Yb (by simp)];exact skip (by simp[VK,e2])
   .rw[e2,Ya rfl,d1];refine⟨_,ZpU q hq hv ((c:Int)-k) ⟨by omega,by have:=hm.2;omega⟩ (by omega),?_⟩;rcases tf (Va q.Zb ((c:Int)-k))with e3|e3
    .rw[e3,Yb (by simp)];exact skip (by simp[VK,e3])
    .rw[e3,Ya rfl];have es:VK q.Zb c k=true:=by simp[VK,e1,e2,e3]
     rw[es,Ya rfl];have ih:=ih (by omega) (out++[(k:Int)]) (by simp;omega);exact⟨by omega,by simpa using ih⟩
  .rw[Yb e1];exact skip (by simp[VK,e1])
def Z0F(q:Zf)(hq:LeQ q)(m:Int)(hc:Wp q.Zk q.Zb m=true):ZjC q m=some (.own 0,[.arr Xm 1 true ((Xf q.Zb m).map ic)]):=by
 have hc':=hc;simp only[Wp,Yg,decide_eq_true_eq]at hc';obtain⟨⟨⟨hv,hr⟩,h0⟩,_⟩:=hc';have hm:=ZpW hv hr;obtain⟨k,rfl⟩:∃k:Nat,m=k:=⟨m.toNat,by have:=hm.1;omega⟩;refine ZzP.2 _ _ _ ⟨_,Z0E q hq k,?_⟩;rw[hc,Ya rfl];have b:=ZO5 q hq hv k hm 1 (by omega) (Yj _) [] (by simp);simpa[Xf]using b
def ZO6(q:Zf)(hq:LeQ q)(hv:Z9 q.Zk q.Zb=true)(c:Nat)(hm:MQ q.Zb c):∀k:Nat,k<=c->1<=k->∀out:V6,out.length<=k->
  ZdU q out c k=some (.own 0,[.arr Xm 1 true ((out++QU q.Zb c k (c-k)).map ic)]):=by
 have m16':=(hm.m16 hv).1;refine down _ ?_ ?_
 .intro _ out _;apply Wn.2.1.2.2;rw[Ynx,Ycc];simp[QU]
 .intro k hk ih h1 out ho;have wk':w ((k:Int)+1)=(k:Int)+1:=ZL (by omega) (by omega);have wd:w ((c:Int)-k)=(c:Int)-k:=ZL (by omega) (by omega);apply Wn.2.1.2.2;rw[Ypx,show c-k=(c-(k+1))+1 by omega,ZAQ,wk',wd];have skip:VK q.Zb c k=false->ZdU q out c ((k:Int)+1)=some (.own 0,[.arr Xm 1 true ((out++((if VK q.Zb c (k:Int)=true then[(k:Int)]else[])++QU q.Zb c (k+1) (c-(k+1)))).map ic)]):=by
   grind
  by_cases e1:andI (k:Int) c=k
  .rw[Ya e1];refine⟨_,ZpV q hq hv k ⟨by omega,by have:=hm.2;omega⟩,?_⟩;rcases tf (Va q.Zb k)with e2|e2
   .rw[e2,Yb (by simp)];exact skip (by simp[VK,e2])
   .rw[e2,Ya rfl];refine⟨_,ZpV q hq hv ((c:Int)-k) ⟨by omega,by have:=hm.2;omega⟩,?_⟩;rcases tf (Va q.Zb ((c:Int)-k))with e3|e3
    .rw[e3,Yb (by simp)];exact skip (by simp[VK,e3])
    .rw[e3,Ya rfl];have es:VK q.Zb c k=true:=by simp[VK,e1,e2,e3]
     grind
  .rw[Yb e1];exact skip (by simp[VK,e1])
def ZO7(q:Zf)(hq:LeQ q)(m:Int)(hc:Wp q.Zk q.Zb m=true):ZoU q m=some (.own 0,[.arr Xm 1 true ((Xf q.Zb m).map ic)]):=by
 have hc':=hc;simp only[Wp,Yg,decide_eq_true_eq]at hc';obtain⟨⟨⟨hv,hr⟩,h0⟩,_⟩:=hc';have hm:=ZpW hv hr;obtain⟨k,rfl⟩:∃k:Nat,m=k:=⟨m.toNat,by have:=hm.1;omega⟩;refine Wn.2.2.1.1 _ _ _ ⟨_,ZpX q hq k,?_⟩;rw[hc,Ya rfl];have b:=ZO6 q hq hv k hm 1 (by omega) (Yj _) [] (by simp);simpa[Xf]using b
def Zcd(m:Int)(k n:Nat):V6:=((List.range' k n).filter (λi:Nat=>Xc m i)).map (λi:Nat=>(i:Int))
def ZAR{m:Int}{k n:Nat}:Zcd m k (n+1)=(if Xc m k=true then[(k:Int)]else[])++Zcd m (k+1) n:=by
 unfold Zcd
 grind [List.range'_succ]
def UD(m:Int):V6:=Zcd m 0 4
def ZO8(m:Int):∀k:Nat,k<=4->∀out:V6,out.length<=k->Zf9 out m k=some (.own 0,[.arr Xm 1 true ((out++Zcd m k (4-k)).map ic)]):=by
 refine down _ ?_ ?_
 .intro out _;apply Vv.2.2.1.2;rw[Ynx];simp[Zcd]
 .intro k hk ih out ho;have wk':w ((k:Int)+1)=(k:Int)+1:=ZL (by omega) (by omega);apply Vv.2.2.1.2;rw[Ypx,show 4-k=(4-(k+1))+1 by omega,ZAR,wk'];refine⟨by omega,?_⟩;by_cases e:andI (shrI m k) 1=1
  .have ih:=ih (out++[(k:Int)]) (by simp;omega);rw[Ya e,Ya (by simp[Xc,e])];exact⟨by omega,by simpa using ih⟩
  .have ih:=ih out (by omega);rw[Yb e,Yb (by simp[Xc,e])];simpa using ih
def ZO9{m:Int}(hm:M16 m):Zf8 m=some (.own 0,[.arr Xm 1 true ((UD m).map ic)]):=by
 have b:=ZO8 m 0 (by omega) [] (by simp);refine Vv.2.2.2.1 _ _ ⟨_,X0 _ _ _,?_⟩;rw[Ya (by simp[inR];omega)];simpa[UD]using b
def ZOA(m:Int)(hm:M16 m):∀k:Nat,k<=4->∀out:V6,out.length<=k->ZgJ out m k=some (.own 0,[.arr Xm 1 true ((out++Zcd m k (4-k)).map ic)]):=by
 refine down _ ?_ ?_
 .intro out _;apply Ue.1.1.2.2;rw[Ynx];simp[Zcd]
 .intro k hk ih out ho;have wk':w ((k:Int)+1)=(k:Int)+1:=ZL (by omega) (by omega);apply Ue.1.1.2.2;rw[Ypx,show 4-k=(4-(k+1))+1 by omega,ZAR,wk'];refine⟨_,Xx _ _ _,?_⟩;rw[Ya (by simp[inR];omega)];refine⟨by omega,?_⟩;by_cases e:andI (shrI m k) 1=1
  .have ih:=ih (out++[(k:Int)]) (by simp;omega);rw[Ya e,Ya (by simp[Xc,e])]
   grind
  .have ih:=ih out (by omega);rw[Yb e,Yb (by simp[Xc,e])];simpa using ih
def ZOB{m:Int}(hm:M16 m):Zlo m=some (.own 0,[.arr Xm 1 true ((UD m).map ic)]):=by
 have b:=ZOA m hm 0 (by omega) [] (by simp);exact Ue.1.2.1 _ _ (by simpa[UD]using b)
def ZOC(l:V6)(hl:l.length<=4294967296):∀i,i<=l.length->∀out:V6,out.length<=i->Zdr out l l l.length i=if Wt l=true then some (.own 0,[.arr Xm 1 true ((out++(l.drop i).map Xt).map ic)])else some (.t .nil,[]):=by
 refine down _ ?_ ?_
 .intro out _;rcases tf (Wt l)with e|e
  .rw[e];apply Vv.2.1.1;rw[Ynx];exact⟨_,Zpp l (by omega),by rw[e,Yb (by simp)]⟩
  .rw[e,Ya rfl];apply Vv.2.1.1;rw[Ynx];exact⟨_,Zpp l (by omega),by rw[e,Ya rfl];simp⟩
 .intro i hi ih out ho;have h4:=Xd (i:=i) (by omega);have ih:=ih (out++[Xt l[i]]) (by simp;omega);simp only[Yx,Yy]at ih;have go:∀r,Zdr (out++[Xt l[i]]) l l l.length ((i:Int)+1)=some r->Zdr out l l l.length i=some r:=by
   intro r hr;apply Vv.2.1.1;rw[Ypx];refine⟨by omega,l[i],by rw[Yh];exact Yf hi,_,Jh _,by omega,?_⟩;rw[show w ((i:Int)+1)=(i:Int)+1 from h4];exact hr
  rw[Yi hi,Y0];rcases tf (Wt l)with e|e
  .rw[e]at ih|-;exact go _ (by simpa using ih)
  .rw[e,Ya rfl]at ih|-;exact go _ (by simpa using ih)
def Vo(l:V6):V6:=l.map Xt
def ZOD(l:V6)(hl:l.length<=4294967296):Zf7 l=if Wt l=true then some (.own 0,[.arr Xm 1 true ((Vo l).map ic)])else some (.t .nil,[]):=by
 have b:=ZOC l hl 0 (Yc _) [] (by simp);rcases tf (Wt l)with e|e
 .rw[e]at b|-;exact Vv.2.1.2.1 _ _ b
 .rw[e,Ya rfl]at b|-;exact Vv.2.1.2.1 _ _ (by simpa[Vo]using b)
def ZOE(l:V6)(hl:l.length<=4294967296)(h:Wt l=true):∀i,i<=l.length->∀out:V6,out.length<=i->Zlj out l i=some (.own 0,[.arr Xm 1 true ((out++(l.drop i).map Xt).map ic)]):=by
 refine down _ ?_ ?_
 .intro out _;apply Wn.1.2.2.1;rw[Ynx];simp
 .intro i hi ih out ho;have h4:=Xd (i:=i) (by omega);have ih:=ih (out++[Xt l[i]]) (by simp;omega);simp only[Yx,Yy]at ih;apply Wn.1.2.2.1;rw[Ypx];refine⟨_,Zpo l (by omega),?_⟩;rw[h,Ya rfl];refine⟨by omega,l[i],by rw[Yh];exact Yf hi,_,VI _,by omega,?_⟩;rw[show w ((i:Int)+1)=(i:Int)+1 from h4,Yi hi,Y0];simpa using ih
def ZAS(l:V6)(hl:l.length<=4294967296):Zli l=some (.own 0,[.arr Xm 1 true ((if Wt l=true then Vo l else[]).map ic)]):=by
 rcases tf (Wt l)with e|e
 .rw[e];refine Wn.1.2.2.2.1 _ _ (Wn.1.2.2.1 _ _ _ _ ?_);by_cases h:(0:Int)<l.length
  .rw[Ya h];exact⟨_,Zpo l (by omega),by rw[e,Yb (by simp)];rfl⟩
  .rw[Yb h];rfl
 .have b:=ZOE l hl e 0 (Yc _) [] (by simp);rw[e,Ya rfl];exact Wn.1.2.2.2.1 _ _ (by simpa[Vo]using b)
abbrev XG(q:Zf)(m:Int):V6:=Xo m q.Zb q.Zk.toNat
def ZAT(q:Zf)(hq:LeQ q)(hv:Z9 q.Zk q.Zb=true)(m:Int)(hm:MQ q.Zb m):Za1 q m=some (.own 0,[.arr Xm 1 true ((XG q m).map ic)]):=by
 refine UY.2.1.1 _ _ _ ⟨_,ZAL q hq m,?_⟩
 have:inR m 0 (ZX q.Zk q.Zb)=true:=by rw[QT hv];simp[inR];have:=hm.1;have:=hm.2;omega
 rw[hv,this,Ya (by rfl)];exact⟨_,ZgZ q m hq hv,rfl⟩
def Jo(q:Zf)(a b:Int):V6:=(XG q a).filter (has (XG q b))
def Zce(q:Zf)(hv:Z9 q.Zk q.Zb=true)(m:Int):(XG q m).length<=4:=by
 have:=Zbl m q.Zb q.Zk.toNat;have:=U2 hv;unfold XG;omega
def ZOF(q:Zf)(hq:LeQ q)(hv:Z9 q.Zk q.Zb=true)(a b:Int)(ha:MQ q.Zb a)(hb:MQ q.Zb b):Zdx q a b=some (.own 0,[.arr Xm 1 true ((Jo q a b).map ic)]):=by
 have l1:=Zce q hv a;have l2:=Zce q hv b;exact UY.2.1.2 _ _ _ _ (.inl ⟨_,ZAT q hq hv a ha,.inl ⟨_,ZAT q hq hv b hb,_,ZzR _ _ (by omega) (by omega),rfl⟩⟩)
def ZOG(p:Nat->Bool):∀k:Nat,k<=4->∀out:V6,out.length<=k->ZdE out (XD p) k=some (.own 0,[.arr Xm 1 true ((out++((List.range' k (4-k)).filter p).map (λu:Nat=>(u:Int))).map ic)]):=by
 refine down _ ?_ ?_
 .simp[XB.2.1.2.1]
 .intro k hk ih out ho;have wk':w ((k:Int)+1)=(k:Int)+1:=ZL (by omega) (by omega);have hb:=ZmH p (v:=(k:Int)) (by simp[inR];omega);rw[Yh]at hb;apply XB.2.1.2.1;rw[Ypx,show 4-k=(4-(k+1))+1 by omega,Ybs,Yc7,wk']
  grind
def vars4(q:Zf)(hv:Z9 q.Zk q.Zb=true)(m:Int):((List.range' 0 4).filter (pV m q.Zb)).map (λu:Nat=>(u:Int))=XG q m:=by
 have hn:=U2 hv;have e:List.range' 0 4=List.range q.Zk.toNat++List.range' q.Zk.toNat (4-q.Zk.toNat):=by
  have h:=List.range'_append_1 (s:=0) (m:=q.Zk.toNat) (n:=4-q.Zk.toNat)
  simp_all [Yv,Ydp]
 unfold XG Xo;rw[e,Yc2];have e2:(List.range' q.Zk.toNat (4-q.Zk.toNat)).filter (pV m q.Zb)=[]:=by
  rw[Ych];intro u hu hp;have:=Zrh hv hp
  grind
 rw[e2];simp
def Z0G(q:Zf)(hq:LeQ q)(hv:Z9 q.Zk q.Zb=true)(m:Int)(hm:MQ q.Zb m):Kl q m=some (.own 0,[.arr Xm 1 true ((XG q m).map ic)]):=by
 have b:=ZOG (pV m q.Zb) 0 (by omega) [] (by simp);rw[show 4-0=4 from rfl,vars4 q hv m]at b;refine XB.2.2.1.1 _ _ _ ⟨_,ZAM q hq m,?_⟩
 have:inR m 0 (ZX q.Zk q.Zb)=true:=by rw[QT hv];simp[inR];have:=hm.1;have:=hm.2;omega
 rw[hv,this,Ya (by rfl)];exact⟨_,Zeb q m hq (Zai hv),_,XB.2.1.2.2 _ _ (by simpa using b),rfl⟩
def ZOH(x y:V6)(hy:Le y)(hx:x.length<=1000):∀i,i<=x.length->ZgG ((x.take i).filter (has y)) x y i=some (.own 0,[.arr Xm 1 true ((x.filter (has y)).map ic)]):=by
 refine down _ ?_ ?_
 .simp[Wn.2.2.1.2]
 .intro i hi ih;have h4:=Xd (i:=i) (by omega);have e4:((x.take i).filter (has y)).length+1<=68719476736:=by
   grind
  rw[Zrg _ hi]at ih;apply Wn.2.2.1.2;rw[Ypx];refine⟨by omega,x[i],by rw[Yh];exact Yf hi,_,Zea y x[i] hy,?_⟩
  grind
theorem ZOI(q:Zf)(hq:LeQ q)(hv:Z9 q.Zk q.Zb=true)(a b:Int)(ha:MQ q.Zb a)(hb:MQ q.Zb b):ZdV q a b=some (.own 0,[.arr Xm 1 true ((Jo q a b).map ic)]):=by
 have l1:=Zce q hv a;have l2:=Zce q hv b;have c:=ZOH (XG q a) (XG q b) (by omega) (by omega) 0 (Yc _);exact Wn.2.2.2.1 _ _ _ _ ⟨_,Z0G q hq hv a ha,_,Z0G q hq hv b hb,by simpa[Jo]using c⟩
def ZaQ(cc c row r:V6):Bool:=(cc.zip r).all λp=>(c.zip row).all λz=>decide (z.1≠p.1) || decide (z.2=p.2)
def ZOJ(t:Zt)(a:Ze)(c row r:V6)(i k:Nat)(R:V3)(hi:t.Rows[i]?=some r)(hk:k<a.Za.length)(cc:k<r.length)(cd:row.length<=c.length)(h8:row.length<=1000):∀j,j<=row.length->∀b:Bool,
  Zgr t a c row i (b && ((c.zip row).drop j).all λz=>decide (z.1≠a.Za[k]) || decide (z.2=r[k])) (w ((k:Int)+1))=some R->
  ZkD t a c row i b k j=some R:=by
 have hz:(c.zip row).length=row.length:=by rw[List.length_zip];omega
 refine down _ ?_ ?_
 .simp_all [XB.2.2.2.2.1,Ybk]
 .intro j hj ih b h;apply XB.2.2.2.2.1;rw[Ypx,wS hj (by omega)];rw[Yi (l:=c.zip row) (i:=j) (by omega),Y5,List.getElem_zip]at h;rcases tf b with e|e
  .simp_all
  .subst e;rw[Ya rfl];have hjv:j<c.length:=by omega
   refine⟨by omega,_,gE hjv,by omega,_,gE hk,?_⟩;by_cases e2:c[j]=a.Za[k]
   .rw[Ya e2];refine⟨_,gE hj,by omega,_,by rw[Yh];exact hi,_,gE cc,ih _ ?_⟩;simpa[e2]using h
   .simp_all
def ZOK(t:Zt)(a:Ze)(c row r:V6)(i:Nat)(R:V3)(hi:t.Rows[i]?=some r)(hr:r.length=a.Za.length)(hl:Le a.Za)(cc:row.length<=c.length)(h8:row.length<=1000):∀k,k<=a.Za.length->∀b:Bool,
  (if(b && ((a.Za.zip r).drop k).all λp=>(c.zip row).all λz=>decide (z.1≠p.1) || decide (z.2=p.2))=true then some (Bo true,[])=some R else Zgq t a c row (w ((i:Int)+1))=some R)->
  Zgr t a c row i b k=some R:=by
 have hz:(a.Za.zip r).length=a.Za.length:=by rw[List.length_zip];omega
 refine down _ ?_ ?_
 .simp_all [XB.2.2.2.1,Ybk]
 .intro k hk ih b h;apply XB.2.2.2.1;rw[Ypx];have hkr:k<r.length:=by omega
  refine ZOJ t a c row r i k R hi hk hkr cc h8 0 (Yc _) b ?_
  grind [wS,List.drop_eq_getElem_cons,Bool.and_assoc]
def ZOL(t:Zt)(a:Ze)(c row:V6)(hT:t.Rows.length<=8)(hr:∀r∈t.Rows,r.length=a.Za.length)(hl:Le a.Za)(cc:row.length<=c.length)(h8:row.length<=1000):∀i,i<=t.Rows.length->
  Zgq t a c row i=some (Bo ((t.Rows.drop i).any (ZaQ a.Za c row)),[]):=by
 refine down _ ?_ ?_
 .simp[XB.2.2.1.2]
 .intro i hi ih;apply XB.2.2.1.2;rw[Ypx];refine ZOK t a c row t.Rows[i] i _ (Yf hi) (hr _ (Ye hi)) hl cc h8 0 (Yc _) true ?_;rw[wS hi (by omega),Yi hi,Ydl,Ym,Yn];change if ZaQ a.Za c row t.Rows[i]=true then _ else _
  simp_all
def Z0H(t:Zt)(a:Ze)(c row:V6)(hT:t.Rows.length<=8)(hr:∀r∈t.Rows,r.length=a.Za.length)(hl:Le a.Za)(cc:row.length<=c.length)(h8:row.length<=1000) :
  ZkC t a c row=some (Bo (t.Rows.any (ZaQ a.Za c row)),[]):=XB.2.2.2.2.2 _ _ _ _ _ (by simpa using ZOL t a c row hT hr hl cc h8 0 (Yc _))
def okP(ps:List (Zt×Ze))(c row:V6):Bool:=ps.all λp=>p.1.Rows.any (ZaQ p.2.Za c row)
def wlk(ok:V6->Bool):Nat->V6->V4
 |0,row=>if ok row=true then[row]else[]
 |n+1,row=>if ok row=true then(List.range' 0 10).flatMap λv:Nat=>wlk ok n (row++[(v:Int)])else[]
def ZAU(ok:V6->Bool):∀n row,(wlk ok n row).length<=10 ^ n
 |0,row=>by unfold wlk;split<;>simp
 |n+1,row=>by
  unfold wlk;split
  .have:=Zhk (λv:Nat=>wlk ok n (row++[(v:Int)])) (10 ^ n) (λv=>ZAU ok n _) (List.range' 0 10)
   grind
  .simp
def Z0I(p:Zt×Ze):Prop:=p.1.Rows.length<=8/\(∀r∈p.1.Rows,r.length=p.2.Za.length)/\Le p.2.Za
abbrev ZpY(ps:List (Zt×Ze))(fr:Bool)(vars row:V6)(b:Bool)(out:V4):Rs :=
 some (.own 4,[.arr 209 3 true ((ps.map Prod.fst).map Zt.c),.arr 212 2 fr ((ps.map Prod.snd).map Ze.c),.arr 3 1 true (vars.map ic),.arr 3 1 true (row.map ic),.arr 40 1 b (out.map isc)])
def x_walk(ps:List (Zt×Ze))(fr:Bool)(vars:V6)(c:∀p∈ps,Z0I p)(cc:ps.length<=8)(hv:vars.length<=4):∀n row,row.length+n=vars.length->
  ∃b,ZkF (ps.map Prod.fst) fr (ps.map Prod.snd) vars row=ZpY ps fr vars row b (wlk (okP ps vars) n row):=by
 intro n
 induction n with
 |zero =>
  intro row hn
  have:∀i,i<=ps.length->Zgs (ps.map Prod.fst) fr (ps.map Prod.snd) vars row i=ZpY ps fr vars row true (if okP (ps.drop i) vars row=true then[row]else[]):=by
   refine down _ ?_ ?_
   .apply Wd.1.1.1.1;rw[Yb (by simp),Ypx,Yk];exact⟨by omega,by simp[okP]⟩
   .intro i hi ih;have h1:i<(ps.map Prod.fst).length:=by simpa using hi
    have h2:i<(ps.map Prod.snd).length:=by simpa using hi
    obtain⟨a1,a2,a3⟩:=c _ (Ye hi);apply Wd.1.1.1.1;rw[Ypx,wS hi (by omega)];refine⟨by omega,_,gE h1,_,gE h2,_,Z0H _ _ _ _ (by simpa using a1) (by simpa using a2) (by simpa using a3) (by omega) (by omega),?_⟩;rw[Yi hi,okP,Y5];simp only[List.getElem_map];rcases tf (ps[i].1.Rows.any (ZaQ ps[i].2.Za vars row))with e|e
    .simp_all
    .rw[e,Ya rfl,Yn];exact ih
  exact⟨true,Wd.1.1.2.1 _ _ _ _ _ _ (by have t:=this 0 (Yc _);rw[Ym]at t;rw[wlk];exact t)⟩
 |succ n IH =>
  intro row hn;have hloop:∀v,v<=10->∀fr1 (out:V4),out.length<=10 ^ n*v->∃b,Zgt (ps.map Prod.fst) fr (ps.map Prod.snd) vars row fr1 out v=ZpY ps fr vars row b (out++(List.range' v (10-v)).flatMap λu:Nat=>wlk (okP ps vars) n (row++[(u:Int)])):=by
   have h4:10 ^ n<=10000:=Yr (Nat.pow_le_pow_right (by omega) (show n<=4 by omega)) (by decide);refine down _ ?_ ?_
   .simp[Wd.1.1.1.2]
   .intro v hv9 ih fr1 out ho;obtain⟨b1,hb1⟩:=IH (row++[(v:Int)]) (by simp;omega);have hlen:=ZAU (okP ps vars) n (row++[(v:Int)]);have hm:10 ^ n*(v+1)=10 ^ n*v+10 ^ n:=Ydd _ _;have hm2:10 ^ n*v<=10000*10:=Ycb h4 (by omega);obtain⟨b2,hb2⟩:=ih (fr1 && flat ((wlk (okP ps vars) n (row++[(v:Int)])).map isc)) (out++wlk (okP ps vars) n (row++[(v:Int)])) (by rw[Yq];omega);refine⟨b2,Wd.1.1.1.2 _ _ _ _ _ _ _ _ _ ?_⟩;rw[Ypx];refine⟨by omega,by omega,.inr ⟨_,_,_,_,_,_,_,hb1,by omega,?_⟩⟩;rw[wS (n:=10) hv9 (by omega),show 10-v=(10-(v+1))+1 by omega,Ybs,Ybq,<-Y6];exact hb2
  have:∀i,i<=ps.length->∃b,Zgs (ps.map Prod.fst) fr (ps.map Prod.snd) vars row i=ZpY ps fr vars row b (if okP (ps.drop i) vars row=true then(List.range' 0 10).flatMap λu:Nat=>wlk (okP ps vars) n (row++[(u:Int)])else[]):=by
   refine down _ ?_ ?_
   .obtain⟨b,hb⟩:=hloop 0 (by omega) true [] (by simp);refine⟨b,Wd.1.1.1.1 _ _ _ _ _ _ _ ?_⟩;rw[Yb (by simp),Ynx,Yk];rw[show okP [] vars row=true from rfl,Ya rfl];exact hb
   .intro i hi ih;have h1:i<(ps.map Prod.fst).length:=by simpa using hi
    have h2:i<(ps.map Prod.snd).length:=by simpa using hi
    obtain⟨a1,a2,a3⟩:=c _ (Ye hi);obtain⟨b,ih⟩:=ih;rw[Yi hi,okP,Y5];rcases tf (ps[i].1.Rows.any (ZaQ ps[i].2.Za vars row))with e|e
    .refine⟨true,Wd.1.1.1.1 _ _ _ _ _ _ _ ?_⟩;rw[Ypx,wS hi (by omega)];refine⟨by omega,_,gE h1,_,gE h2,_,Z0H _ _ _ _ (by simpa using a1) (by simpa using a2) (by simpa using a3) (by omega) (by omega),?_⟩
     simp_all
    .refine⟨b,Wd.1.1.1.1 _ _ _ _ _ _ _ ?_⟩;rw[Ypx,wS hi (by omega)];refine⟨by omega,_,gE h1,_,gE h2,_,Z0H _ _ _ _ (by simpa using a1) (by simpa using a2) (by simpa using a3) (by omega) (by omega),?_⟩;simp only[List.getElem_map];rw[e,Ya rfl,Yn];exact ih
  obtain⟨b,t⟩:=this 0 (Yc _);rw[Ym]at t;exact⟨b,Wd.1.1.2.1 _ _ _ _ _ _ (by rw[wlk];exact t)⟩
def Vz(d:Zp)(m:Int):List Ze->Nat->List (Zt×Ze)
 |[],_=>[]
 |a::ts,i=>match X7 d a.Zq with
  |none=>Vz d m ts (i+1)
  |some t=>if andI (shrI m i) 1=1 then(t,a)::Vz d m ts (i+1)else Vz d m ts (i+1)
def tabOK{d:Zp}{a:Ze}{t:Zt}(hl:Le a.Za)(hf:WZ d a=true)(h:X7 d a.Zq=some t):Z0I (t,a):=by
 obtain⟨hv,ht,_⟩:=Zej h;have hT:=Qx hv ht;refine⟨Zei hT,?_,hl⟩;intro row hrow;unfold XU at hT;simp only[Yg]at hT;have:=Yl.1 hT.2.1 row hrow;unfold rwB at this;unfold WZ at hf
 grind
def l_EM(d:Zp)(hd:LeD d)(q:Zf)(hq:LeQ q)(hv:Z9 q.Zk q.Zb=true)(hf:∀a∈q.Zb,WZ d a=true)(m:Int)(hm:MQ q.Zb m)(ys:V4):∀i,i<=q.Zb.length->∀(ps:List (Zt×Ze)) (fr:Bool),(∀p∈ps,Z0I p)->ps.length<=i->
  wlk (okP (ps++Vz d m (q.Zb.drop i) i) (XG q m)) (XG q m).length []=ys->
  ∃b,ZdF d q (ps.map Prod.fst) fr (ps.map Prod.snd) m i=some (.tup [.agg [.own 0,.own 1],Bo true],[.arr 3 1 true ((XG q m).map ic),.arr 40 1 b (ys.map isc)]):=by
 have h4:=Wg hv;have hv4:=Zce q hv m;refine down _ ?_ ?_
 .intro ps fr hps hpl he;rw[Yk,Vz,Y9]at he;obtain⟨b,hb⟩:=x_walk ps fr (XG q m) hps (by omega) hv4 (XG q m).length [] (by simp);refine⟨b,Wd.1.1.2.2 _ _ _ _ _ _ _ _ ?_⟩;rw[Ynx];refine⟨_,Z0G q hq hv m hm,.inr ⟨_,_,_,_,_,_,_,hb,?_⟩⟩;rw[he]
 .intro i hi ih ps fr hps hpl he;have hl:=hq.2 _ (Ye hi);have hf1:=hf _ (Ye hi);rw[Yi hi,Vz]at he
  cases e3:X7 d q.Zb[i].Zq with
  |none=>unfold WZ at hf1;rw[e3]at hf1;simp at hf1
  |some t =>
   rw[e3]at he;simp only at he;by_cases e:andI (shrI m i) 1=1
   .rw[Ya e]at he
    obtain⟨b,hb⟩:=ih (ps++[(t,q.Zb[i])]) false (by
     intro p hp;rcases Yu.1 hp with e1|e1
     .exact hps p e1
     .rw[List.mem_singleton.1 e1];exact tabOK hl hf1 e3) (by simp;omega) (by rw[Y6];exact he)
    refine⟨b,Wd.1.1.2.2 _ _ _ _ _ _ _ _ ?_⟩;rw[Ypx,wS hi hq.1];refine⟨by omega,?_⟩;rw[Ya e];refine⟨by omega,_,gE hi,?_⟩;have hk:=ZaG d hd q.Zb[i].Zq;rw[e3]at hk;simp only[QQ]at hk;rw[Y3,Y3]at hb;by_cases e4:t.Rows=[]
    .rw[Ya e4]at hk;refine .inl ⟨_,_,_,hk,by simp;omega,by simp;omega,?_⟩;rw[<-e4];exact hb
    .rw[Yb e4]at hk;exact .inr ⟨_,_,_,hk,by simp;omega,by simp;omega,hb⟩
   .rw[Yb e]at he;obtain⟨b,hb⟩:=ih ps fr hps (by omega) he;refine⟨b,Wd.1.1.2.2 _ _ _ _ _ _ _ _ ?_⟩;rw[Ypx,wS hi hq.1];refine⟨by omega,?_⟩;rw[Yb e];exact hb
def ZaR(d:Zp)(q:Zf)(m:Int):V4:=wlk (okP (Vz d m q.Zb 0) (XG q m)) (XG q m).length []
def ZOM(d:Zp)(hd:LeD d)(q:Zf)(hq:LeQ q)(hf:Xp d q=true)(m:Int)(h1:1<=m)(hm:MQ q.Zb m)(hF:m<=ZX q.Zk q.Zb):ZoQ d q m=some (I ((ZaR d q m).length:Int),[]):=by
 have hf':=hf;unfold Xp at hf';simp only[Yg,Yl]at hf';obtain⟨b,hb⟩:=l_EM d hd q hq hf'.1 hf'.2 m hm (ZaR d q m) 0 (Yc _) [] true (by simp) (by simp) rfl
 have:JF d q m=some (.tup [.agg [.own 0,.own 1],Bo true],[.arr 3 1 true ((XG q m).map ic),.arr 40 1 b ((ZaR d q m).map isc)]):=by
  refine Wd.1.2.1.1 _ _ _ _ ⟨_,ZaH d hd q hq,?_⟩;rw[hf,Ya rfl];refine⟨_,Qu q hq,_,Xx _ _ _,?_⟩;rw[show inR m 1 (ZX q.Zk q.Zb)=true by simp[inR];omega,Ya rfl];exact hb
 grind [Wn.1.1.1.2]
abbrev gi(x:V6)(v:Int):Int:=x.getD v.toNat 0
def ZAV{x:V6}{v u y:Int}(hv:0<=v/\v<x.length)(hu:0<=u):gi (x.set v.toNat y) u=if u=v then y else gi x u:=by
 grind
def ZAW(vs ys x:V6):Prop:=∀p∈vs.zip ys,gi x p.1=p.2
def Z0J:∀(vs ys:V6) (ok:Bool) (x x':V6),ys.length=vs.length->(∀v∈vs,0<=v/\v<x.length)->(∀y∈ys,y≠-1)->x'.length=x.length->
  ((UZ vs ys ok x=(true,x'))↔ok=true/\(∀u:Int,0<=u->u<x.length->gi x u≠-1->gi x' u=gi x u)/\ZAW vs ys x'/\(∀u:Int,0<=u->u<x.length->u ∉ vs->gi x' u=gi x u))
 |[],[],ok,x,x',_,_,_,hl=>by
  simp only[UZ,Ybr];constructor
  .rintro⟨rfl,rfl⟩;exact⟨rfl,λ_ _ _ _=>rfl,λp hp=>by simp at hp,λ_ _ _ _=>rfl⟩
  .rintro⟨h1,_,_,h2⟩;refine⟨h1,Ybz hl.symm λi h3 h4=>?_⟩;have:=h2 i (by omega) (by omega) (by simp)
   simp_all
 |v::vs,y::ys,ok,x,x',hy,hv,hy1,hl=>by
  have hv0:=hv v (by simp);rw[UZ,Z0J vs ys _ _ x' (by simpa using hy) (by rw[Ybm];exact λu hu=>hv u (by simp[hu])) (λu hu=>hy1 u (by simp[hu])) (by rw[Ybm];exact hl),Ybm];simp only[Yg,Ycy,decide_eq_true_eq];have hy0:=hy1 y (by simp);constructor
  .rintro⟨⟨h1,h2⟩,h3,h4,h5⟩;have hxv:gi x' v=y:=by have:=h3 v hv0.1 hv0.2;rw[ZAV hv0 hv0.1,Ya rfl]at this;exact this hy0
   refine⟨h1,λu hu0 hu1 hu2=>?_,?_,λu hu0 hu1 hu2=>?_⟩
   .grind
   .intro p hp;rw[List.zip_cons_cons]at hp;rcases Yba.1 hp with e|e
    .rw[e];exact hxv
    .exact h4 p e
   .grind
  .rintro⟨h1,h3,h4,h5⟩;have hxv:gi x' v=y:=h4 (v,y) (by simp);refine⟨⟨h1,?_⟩,λu hu0 hu1 hu2=>?_,λp hp=>h4 p (by rw[List.zip_cons_cons];exact List.mem_cons_of_mem _ hp),λu hu0 hu1 hu2=>?_⟩
   .grind
   .grind
   .grind
def sats(p:Zt×Ze)(x:V6):Prop:=∃r∈p.1.Rows,ZAW p.2.Za r x
def Zeo:List (Zt×Ze)->V4->V4
 |[],l=>l
 |p::ps,l=>Zeo ps (l.flatMap (UB p.2.Za p.1.Rows))
def ZAX(n:Nat)(p:Zt×Ze):Prop:=(∀r∈p.1.Rows,r.length=p.2.Za.length/\∀y∈r,0<=y/\y<=9)/\∀v∈p.2.Za,0<=v/\v<n
def ZAY{vs:V6}{rows:V4}{x y:V6}:y∈UB vs rows x↔∃r∈rows,UZ vs r true x=(true,y):=by
 unfold UB;rw[Ydc];constructor
 .rintro⟨r,hr,h⟩;refine⟨r,hr,?_⟩;unfold Zl8 at h
  grind
 .rintro⟨r,hr,h⟩;exact⟨r,hr,by unfold Zl8;rw[h];rfl⟩
def ZAZ{n:Nat}:∀(ps:List (Zt×Ze)) (l:V4) (x':V6),(∀p∈ps,ZAX n p)->(∀x∈l,x.length=n)->x'.length=n->
  (x'∈Zeo ps l↔∃x∈l,(∀u:Int,0<=u->u<n->gi x u≠-1->gi x' u=gi x u)/\(∀p∈ps,sats p x')/\∀u:Int,0<=u->u<n->(∀p∈ps,u ∉ p.2.Za)->gi x' u=gi x u)
 |[],l,x',_,hl,hx=>by
  unfold Zeo;constructor
  .exact λh=>⟨x',h,λ_ _ _ _=>rfl,by simp,λ_ _ _ _=>rfl⟩
  .rintro⟨x,hx1,_,_,h⟩
   have:x'=x:=by
    refine Ybz (by rw[hx,hl x hx1]) λi h3 h4=>?_
    have:=h i (by omega) (by omega) (by simp);unfold gi at this;simpa[h3,h4]using this
   rw[this];exact hx1
 |p::ps,l,x',hp,hl,hx=>by
  obtain⟨hr,hv⟩:=hp p (by simp)
  rw[Zeo,ZAZ ps _ x' (λq hq=>hp q (by simp[hq])) (by
   intro y hy;obtain⟨x,hx,hy⟩:=Ybw.1 hy
   rw[Zpy hy];exact hl x hx) hx]
  constructor
  .rintro⟨y,hy,h1,h2,h3⟩;obtain⟨x,hx1,hy⟩:=Ybw.1 hy;obtain⟨r,hr1,hf⟩:=ZAY.1 hy;have hxl:=hl x hx1;have hyl:y.length=x.length:=Zpy hy;obtain⟨_,g1,g2,g3⟩:=(Z0J p.2.Za r true x y (hr r hr1).1 (by rw[hxl];exact hv) (λc hc=>by have:=(hr r hr1).2 c hc;omega) hyl).1 hf;rw[hxl]at g1 g3;refine⟨x,hx1,λu hu0 hu1 hu2=>?_,λq hq=>?_,λu hu0 hu1 hu2=>?_⟩
   .have:=g1 u hu0 hu1 hu2;rw[<-this];exact h1 u hu0 hu1 (by rw[this];exact hu2)
   .rcases Yba.1 hq with e|e
    .subst e;refine⟨r,hr1,λz hz=>?_⟩;have hz1:=g2 z hz;have hm:=List.of_mem_zip hz;have hz2:=(hr r hr1).2 z.2 hm.2;have hz3:=hv z.1 hm.1;rw[h1 z.1 hz3.1 hz3.2 (by rw[hz1];omega)];exact hz1
    .exact h2 q e
   .rw[h3 u hu0 hu1 (λq hq=>hu2 q (by simp[hq]))];exact g3 u hu0 hu1 (hu2 p (by simp))
  .rintro⟨x,hx1,h1,h2,h3⟩;obtain⟨r,hr1,hf⟩:=h2 p (by simp);have hxl:=hl x hx1
   let y:V6:=(List.range n).map λu:Nat=>if(u:Int)∈p.2.Za then gi x' u else gi x u
   have hyl:y.length=n:=by simp[y]
   have hyg:∀u:Int,0<=u->u<n->gi y u=if u∈p.2.Za then gi x' u else gi x u:=by
    intro u hu0 hu1;have e:((u.toNat:Nat):Int)=u:=by omega
    have hu2:u.toNat<n:=by omega
    show y.getD u.toNat 0=_;rw[Yb1];simp[y,hu2,e]
   refine⟨y,Ybw.2 ⟨x,hx1,ZAY.2 ⟨r,hr1,?_⟩⟩,λu hu0 hu1 hu2=>?_,λq hq=>h2 q (by simp[hq]),λu hu0 hu1 hu2=>?_⟩
   .refine(Z0J p.2.Za r true x y (hr r hr1).1 (by rw[hxl];exact hv) (λc hc=>by have:=(hr r hr1).2 c hc;omega) (by rw[hyl,hxl])).2 ⟨rfl,?_,?_,?_⟩
    .intro u hu0 hu1 hu2;rw[hyg u hu0 (by omega)];split
     .exact h1 u hu0 (by omega) hu2
     .rfl
    .intro z hz;have hm:=List.of_mem_zip hz;have hz3:=hv z.1 hm.1;rw[hyg _ hz3.1 hz3.2,Ya hm.1];exact hf z hz
    .intro u hu0 hu1 hu2;rw[hyg u hu0 (by omega),Yb hu2]
   .rw[hyg u hu0 hu1]at hu2|-;split at hu2
    .rename_i e;rw[Ya e]
    .rename_i e;rw[Yb e];exact h1 u hu0 hu1 hu2
   .rw[hyg u hu0 hu1];split
    .rfl
    .rename_i e;refine h3 u hu0 hu1 λq hq=>?_
     rcases Yba.1 hq with e1|e1
     .rw[e1];exact e
     .exact hu2 q e1
def ZBa(d:Zp){m:Int}(hm:M16 m):∀(ts:List Ze) (i:Nat) (l:V4),i+ts.length<=4->(∀a∈ts,WZ d a=true)->Ji d m ts i l=Zeo (Vz d m ts i) l
 |[],_,_,_,_=>rfl
 |a::ts,i,l,h4,hf=>by
  rw[Yw]at h4;have hf1:=hf a (by simp);rw[Ji,Vz,ZBa d hm ts (i+1) _ (by omega) (λb hb=>hf b (by simp[hb]))];have hb:=ZlG hm (i:=i) (by omega);unfold Xc at hb
  cases e:X7 d a.Zq with
  |none=>unfold WZ at hf1;rw[e]at hf1;simp at hf1
  |some t =>
   simp only;by_cases e1:andI (shrI m i) 1=1
   .rw[Ya e1,Yb (by rw[hb];simp[e1]),Zeo];unfold JM;rw[e]
   .simp_all
def Z0K(d:Zp)(m u:Int):∀(ts:List Ze) (i:Nat),(∀a∈ts,WZ d a=true)->(Wa m ts i u=true↔∃p∈Vz d m ts i,u∈p.2.Za)
 |[],_,_=>by simp[Wa,Vz]
 |a::ts,i,hf=>by
  have hf1:=hf a (by simp);have ih:=Z0K d m u ts (i+1) (λb hb=>hf b (by simp[hb]));unfold Wa Vz
  cases e:X7 d a.Zq with
  |none=>unfold WZ at hf1;rw[e]at hf1;simp at hf1
  |some t =>
   simp only[Ycy,Yg,Vj];unfold Xc;by_cases e1:andI (shrI m i) 1=1
   .simp_all
   .simp_all
def Z0L(d:Zp)(q:Zf)(hf:∀a∈q.Zb,WZ d a=true)(m u:Int):u∈XG q m↔(0<=u/\u<q.Zk.toNat)/\∃p∈Vz d m q.Zb 0,u∈p.2.Za:=by
 unfold XG Xo pV;simp only[Yt,Ybb,Ybg];constructor
 .rintro⟨v,⟨h1,h2⟩,rfl⟩;exact⟨by omega,(Z0K d m v q.Zb 0 hf).1 h2⟩
 .rintro⟨h1,h2⟩;refine⟨u.toNat,⟨by omega,?_⟩,by omega⟩;rw[show((u.toNat:Nat):Int)=u by omega];exact(Z0K d m u q.Zb 0 hf).2 h2
def ZON(q:Zf)(m:Int):(XG q m).Nodup:=by
 unfold XG Xo
 grind [List.nodup_range]
def lk:V6->V6->Int->Int
 |v::vs,y::ys,u=>if u=v then y else lk vs ys u
 |_,_,_=>-1
theorem Z0M:∀{vs ys:V6},vs.Nodup->∀z∈vs.zip ys,lk vs ys z.1=z.2
 |[],_,_,z,h=>by simp at h
 |_::_,[],_,z,h=>by simp at h
 |v::vs,y::ys,hn,z,h=>by
  rw[List.zip_cons_cons]at h;unfold lk;rcases Yba.1 h with e|e
  .rw[e];simp
  .have:=(Ycf.1 hn).1;rw[Yb (λe2=>this (by rw[<-e2];exact(List.of_mem_zip e).1))];exact Z0M (Ycf.1 hn).2 z e
theorem ZBb:∀{vs ys:V6} {u:Int},u ∉ vs->lk vs ys u=-1
 |[],_,_,_=>by simp[lk]
 |_::_,[],_,_=>by simp[lk]
 |v::vs,y::ys,u,h=>by
  unfold lk;rw[Yb (λe=>h (by simp[e]))];exact ZBb (λe=>h (by simp[e]))
theorem ZBc{vs ys:V6}(h:ys.length=vs.length){u:Int}(hu:u∈vs):∃z∈vs.zip ys,z.1=u:=by
 obtain⟨i,hi,rfl⟩:=Ycp hu;exact⟨(vs[i],ys[i]),by rw[List.mem_iff_getElem];exact⟨i,by rw[List.length_zip];omega,by simp⟩,rfl⟩
def lk_map{vs ys:V6}(hn:vs.Nodup)(h:ys.length=vs.length):vs.map (lk vs ys)=ys:=by
 refine Ybz (by simp[h]) λi h1 h2=>?_
 rw[List.getElem_map];exact Z0M hn (vs[i]'(by simpa using h1),ys[i]) (by rw[List.mem_iff_getElem];exact⟨i,by rw[List.length_zip];simp at h1;omega,by simp⟩)
def ZOO{vs:V6}{f:Int->Int}:∀z∈vs.zip (vs.map f),z.2=f z.1:=by
 grind [List.getElem_of_mem]
theorem ZlH{avs vars y r:V6}:ZaQ avs vars y r=true↔∀p∈avs.zip r,∀z∈vars.zip y,z.1=p.1->z.2=p.2:=by
 unfold ZaQ
 grind
def Z0N{ps:List (Zt×Ze)}{vars y:V6}:okP ps vars y=true↔∀p∈ps,∃r∈p.1.Rows,ZaQ p.2.Za vars y r=true:=by
 unfold okP;simp
def ZOP{d:Zp}{a:Ze}{t:Zt}(hf:WZ d a=true)(h:X7 d a.Zq=some t):∀r∈t.Rows,r.length=a.Za.length/\∀y∈r,0<=y/\y<=9:=by
 obtain⟨hv,ht,_⟩:=Zej h;have hT:=Qx hv ht;intro row hrow;unfold XU at hT;simp only[Yg]at hT;have:=Yl.1 hT.2.1 row hrow;unfold rwB at this;unfold WZ at hf;rw[h]at hf;simp only[Yg,decide_eq_true_eq,Yl,dig,inR]at this hf
 grind
def Z0O{d:Zp}{m:Int}{n:Nat}:∀{ts:List Ze} {i:Nat},(∀a∈ts,(∀v∈a.Za,0<=v/\v<n)/\WZ d a=true)->∀p∈Vz d m ts i,ZAX n p
 |[],_,_,p,hp=>by simp[Vz]at hp
 |a::ts,i,h,p,hp=>by
  have ih:=Z0O (m:=m) (ts:=ts) (i:=i+1) (λb hb=>h b (by simp[hb])) p;unfold Vz at hp
  cases e:X7 d a.Zq with
  |none=>rw[e]at hp;exact ih hp
  |some t =>
   rw[e]at hp;simp only at hp;split at hp
   .rcases Yba.1 hp with e1|e1
    .rw[e1];exact⟨ZOP (h a (by simp)).2 e,(h a (by simp)).1⟩
    .exact ih e1
   .exact ih hp
def ZOQ(d:Zp)(q:Zf)(hf:Xp d q=true)(m:Int)(hm:M16 m)(y:V6) :
  y∈Zcc d q m↔y.length=(XG q m).length/\okP (Vz d m q.Zb 0) (XG q m) y=true:=by
 unfold Xp at hf;simp only[Yg,Yl]at hf;obtain⟨hv,hf⟩:=hf;have h4:=Wg hv;have hn:=U2 hv
 have hav:∀a∈q.Zb,(∀v∈a.Za,0<=v/\v<(q.Zk.toNat:Nat))/\WZ d a=true:=λa ha=>⟨λv hv1=>by
  have:=Zc3 hv a ha v hv1;simp only[inR,Yg,decide_eq_true_eq]at this
  omega,hf a ha⟩
 have hps:=Z0O (m:=m) (i:=0) hav;have hmem:=Z0L d q hf m;have hnd:=ZON q m;have hE:ZlF d q m=Zeo (Vz d m q.Zb 0) [List.replicate q.Zk.toNat (-1)]:=ZBa d hm q.Zb 0 _ (by omega) hf;have hG:=λx' hx=>ZAZ (n:=q.Zk.toNat) (Vz d m q.Zb 0) [List.replicate q.Zk.toNat (-1)] x' hps (by simp) hx
 have hEl:=λx (hx:x∈ZlF d q m)=>(ZpR d m q.Zk.toNat q.Zb 0 [List.replicate q.Zk.toNat (-1)] hf (by simp)).1 x hx
 have hrep:∀u:Int,0<=u->u<q.Zk.toNat->gi (List.replicate q.Zk.toNat (-1)) u=-1:=by
  grind
 unfold Zcc;rw[Yt,Z0N];constructor
 .rintro⟨x,hx,rfl⟩;have hxl:=hEl x hx;rw[hE,hG x hxl]at hx;obtain⟨x0,hx0,_,h2,_⟩:=hx;refine⟨by simp[Xq],λp hp=>?_⟩;obtain⟨r,hr,hl⟩:=h2 p hp;refine⟨r,hr,ZlH.2 λa ha z hz e=>?_⟩;rw[ZOO (f:=λc=>x.getD c.toNat 0) z hz,<-hl a ha,e]
 .rintro⟨hl,ho⟩
  let x:V6:=(List.range q.Zk.toNat).map λu:Nat=>lk (XG q m) y u
  have hxl:x.length=q.Zk.toNat:=by simp[x]
  have hxg:∀u:Int,0<=u->u<q.Zk.toNat->gi x u=lk (XG q m) y u:=by
   grind
  refine⟨x,?_,?_⟩
  .rw[hE,hG x hxl];refine⟨_,List.mem_singleton.2 rfl,λu h0 h1 h2=>absurd (hrep u h0 h1) h2,λp hp=>?_,λu h0 h1 h2=>?_⟩
   .obtain⟨r,hr,hfit⟩:=ho p hp;refine⟨r,hr,λa ha=>?_⟩;have ha1:=(List.of_mem_zip ha).1;have ha2:=(hps p hp).2 a.1 ha1;have ha3:=(hmem a.1).2 ⟨ha2,p,hp,ha1⟩
    grind [ZBc,Z0M,ZlH]
   .grind [ZBb]
  .have:Xq x (XG q m)=(XG q m).map (lk (XG q m) y):=Yb6 λu hu=>hxg u ((hmem u).1 hu).1.1 ((hmem u).1 hu).1.2
   simp_all [lk_map]
def Zcf{ok:V6->Bool}(cc:∀a b,ok (a++b)=true->ok a=true):∀n row y,y∈wlk ok n row↔∃z:V6,z.length=n/\(∀c∈z,0<=c/\c<=9)/\y=row++z/\ok y=true
 |0,row,y=>by
  unfold wlk;constructor
  .simp_all
  .simp_all
 |n+1,row,y=>by
  unfold wlk;constructor
  .intro h;split at h
   .obtain⟨v,hv,h⟩:=Ybw.1 h;obtain⟨z,h1,h2,h3,h4⟩:=(Zcf cc n _ y).1 h
    grind
   .cases h
  .rintro⟨z,hz,hc,rfl,ho⟩;rw[Ya (cc _ _ ho)]
   match z,hz,hc,ho with
   |v::z,hz,hc,ho =>
    have hv:=hc v (by simp);refine Ybw.2 ⟨v.toNat,List.mem_range'_1.2 (by omega),(Zcf cc n _ _).2 ⟨z,by simpa using hz,λc h=>hc c (by simp[h]),?_,ho⟩⟩
    grind
def ZBd{ok:V6->Bool}(c:∀a b,ok (a++b)=true->ok a=true):∀n row,(wlk ok n row).Nodup
 |0,row=>by unfold wlk;split<;>simp
 |n+1,row=>by
  unfold wlk;split
  .refine List.pairwise_flatMap.2 ⟨λv _=>ZBd c n _,?_⟩;refine(List.nodup_range' (s:=0) (n:=10) 1 (by decide)).imp ?_;intro a b hab x hx y hy e;obtain⟨z,_,_,h1,_⟩:=(Zcf c n _ x).1 hx;obtain⟨z2,_,_,h2,_⟩:=(Zcf c n _ y).1 hy;rw[h1,h2]at e;simp at e;omega
  .simp
def Z0P(ps:List (Zt×Ze))(cc:V6):∀a b,okP ps cc (a++b)=true->okP ps cc a=true:=by
 intro a b h;rw[Z0N]at h|-;intro p hp;obtain⟨r,hr,h⟩:=h p hp;refine⟨r,hr,ZlH.2 λc hc z hz=>ZlH.1 h c hc z ?_⟩;obtain⟨i,h1,rfl⟩:=Ycp hz;rw[List.length_zip]at h1;rw[List.mem_iff_getElem];exact⟨i,by rw[List.length_zip,Yq];omega,by simp only[List.getElem_zip];rw[List.getElem_append_left]⟩
def ZBe:∀a x y:V6,Xv (a++x) (a++y)=Xv x y
 |[],_,_=>rfl
 |c::a,x,y=>by simp[Xv,ZBe a x y]
def ZBf{ok:V6->Bool}(c:∀a b,ok (a++b)=true->ok a=true):∀n row,(wlk ok n row).Pairwise λa b=>leR a b=true
 |0,row=>by unfold wlk;split<;>simp
 |n+1,row=>by
  unfold wlk;split
  .refine List.pairwise_flatMap.2 ⟨λv _=>ZBf c n _,?_⟩;refine(List.pairwise_lt_range' (s:=0) (n:=10)).imp ?_;intro a b hab x hx y hy;obtain⟨z,_,_,h1,_⟩:=(Zcf c n _ x).1 hx;obtain⟨z2,_,_,h2,_⟩:=(Zcf c n _ y).1 hy;rw[h1,h2,Y6,Y6];unfold leR;rw[ZBe];simp[Xv,hab]
  .simp
def ZOR(d:Zp)(q:Zf)(hf:Xp d q=true)(m:Int)(hm:M16 m)(ys:V4)(hy:ys.Nodup)(he:∀y,y∈ys↔y∈Zcc d q m):ys.Perm (ZaR d q m):=by
 have mono:=Z0P (Vz d m q.Zb 0) (XG q m);refine(List.perm_ext_iff_of_nodup hy (ZBd mono _ _)).2 λy=>?_
 rw[he y,ZOQ d q hf m hm];rw[Zcf mono];constructor
 .rintro⟨hl,ho⟩;refine⟨y,hl,λc hc=>?_,rfl,ho⟩;unfold Xp at hf;simp only[Yg,Yl]at hf;obtain⟨hv,hf⟩:=hf;obtain⟨j,hj,rfl⟩:=Ycp hc;have hjv:j<(XG q m).length:=by omega
  obtain⟨_,p,hp,hu⟩:=(Z0L d q hf m _).1 (Ye hjv);obtain⟨r,hr,hfit⟩:=Z0N.1 ho p hp
  have hP:=Z0O (n:=q.Zk.toNat) (m:=m) (i:=0) (λa ha=>⟨λv hv1=>by
   have:=Zc3 hv a ha v hv1;simp only[inR,Yg,decide_eq_true_eq]at this
   omega,hf a ha⟩) p hp
  obtain⟨a,ha,ha1⟩:=ZBc (hP.1 r hr).1 hu;have:=ZlH.1 hfit a ha ((XG q m)[j],y[j]) (by rw[List.mem_iff_getElem];exact⟨j,by rw[List.length_zip];omega,by simp⟩) ha1.symm;simp only at this;rw[this];exact(hP.1 r hr).2 _ (List.of_mem_zip ha).2
 .simp_all
def ZOS(d:Zp)(q:Zf)(hf:Xp d q=true)(m:Int)(hm:M16 m)(ys:V4)(hy:ys.Nodup)(he:∀y,y∈ys↔y∈Zcc d q m)(hs:ys.Pairwise λa b=>leR a b=true):ys=ZaR d q m :=
 (Z0r (ZOR d q hf m hm ys hy he) hs).trans (Z0r (List.Perm.refl _) (ZBf (Z0P (Vz d m q.Zb 0) (XG q m)) _ _)).symm
abbrev B4:=Bool×Bool×Bool×Bool
structure Ed where
 a:Bool
 b:Bool
 c:Bool
 d:Bool
 e:Bool
 f:Bool
def Z0Q(g:Ed)(x:B4):B4:=match x with
 |(x0,x1,x2,x3)=>(!x0 && ((x1 && g.a) || (x2 && g.b) || (x3 && g.c)),!x1 && ((x0 && g.a) || (x2 && g.d) || (x3 && g.e)),!x2 && ((x0 && g.b) || (x1 && g.d) || (x3 && g.f)),!x3 && ((x0 && g.c) || (x1 && g.e) || (x2 && g.f)))
def orB(x y:B4):B4:=match x,y with
 |(x0,x1,x2,x3),(y0,y1,y2,y3)=>(x0 || y0,x1 || y1,x2 || y2,x3 || y3)
def Wz(x y:B4):B4:=match x,y with
 |(x0,x1,x2,x3),(y0,y1,y2,y3)=>(x0 && y0,x1 && y1,x2 && y2,x3 && y3)
def Uu(x y:B4):B4:=match x,y with
 |(x0,x1,x2,x3),(y0,y1,y2,y3)=>(x0 && !y0,x1 && !y1,x2 && !y2,x3 && !y3)
def Z0R(g:Ed)(p x:B4):B4:=orB x (Wz (Z0Q g x) p)
def ZpZ(g:Ed)(p:B4):Nat->B4->B4
 |0,x=>x
 |n+1,x=>ZpZ g p n (Z0R g p x)
def lowB:B4->B4
 |(p0,p1,p2,p3)=>(p0,!p0 && p1,!p0 && !p1 && p2,!p0 && !p1 && !p2 && p3)
def VL(g:Ed)(n:Nat)(p:B4):Bool:=ZpZ g p n (lowB p) == p
def Z0S(g:Ed)(x y:B4):Bool:=match x,y with
 |(x0,x1,x2,x3),(y0,y1,y2,y3)=>(x0 && ((y1 && g.a) || (y2 && g.b) || (y3 && g.c))) || (x1 && ((y0 && g.a) || (y2 && g.d) || (y3 && g.e))) || (x2 && ((y0 && g.b) || (y1 && g.d) || (y3 && g.f))) || (x3 && ((y0 && g.c) || (y1 && g.e) || (y2 && g.f)))
def toI(x:B4):Int:=match x with|(a,b,c,d)=>XP a b c d
def inN(n:Nat)(p:B4):Bool:=match p with|(p0,p1,p2,p3)=>(decide (1<=n) || !p0) && (decide (2<=n) || !p1) && (decide (3<=n) || !p2) && (decide (4<=n) || !p3)
def Kw(p:B4):Bool:=p == (true,false,false,false) || p == (false,true,false,false) || p == (false,false,true,false) || p == (false,false,false,true)
def Zhv(g:Ed)(n:Nat)(p:B4):Bool:=!inN n p || !VL g n p || Kw p || p == (false,false,false,false) ||
 (Wz p (true,false,false,false) != (false,false,false,false) && VL g n (Uu p (true,false,false,false))) || (Wz p (false,true,false,false) != (false,false,false,false) && VL g n (Uu p (false,true,false,false))) ||
 (Wz p (false,false,true,false) != (false,false,false,false) && VL g n (Uu p (false,false,true,false))) || (Wz p (false,false,false,true) != (false,false,false,false) && VL g n (Uu p (false,false,false,true)))
def Zhw(g:Ed)(n:Nat)(p x:B4):Bool:=Wz x p != x || x == (false,false,false,false) || x == p || Z0S g x (Uu p x) || !inN n p || !VL g n p
set_option maxRecDepth 100000 in
def f1:∀a b c d e f:Bool,∀p0 p1 p2 p3:Bool,Zhv ⟨a,b,c,d,e,f⟩ 1 (p0,p1,p2,p3)=true/\Zhv ⟨a,b,c,d,e,f⟩ 2 (p0,p1,p2,p3)=true/\Zhv ⟨a,b,c,d,e,f⟩ 3 (p0,p1,p2,p3)=true/\Zhv ⟨a,b,c,d,e,f⟩ 4 (p0,p1,p2,p3)=true:=by decide +kernel
set_option maxRecDepth 100000 in
def f2:∀a b c d e f:Bool,∀p0 p1 p2 p3 x0 x1 x2 x3:Bool,Zhw ⟨a,b,c,d,e,f⟩ 1 (p0,p1,p2,p3) (x0,x1,x2,x3)=true/\Zhw ⟨a,b,c,d,e,f⟩ 2 (p0,p1,p2,p3) (x0,x1,x2,x3)=true/\Zhw ⟨a,b,c,d,e,f⟩ 3 (p0,p1,p2,p3) (x0,x1,x2,x3)=true/\Zhw ⟨a,b,c,d,e,f⟩ 4 (p0,p1,p2,p3) (x0,x1,x2,x3)=true:=by decide +kernel
def ofI(m:Int):B4:=(Xc m 0,Xc m 1,Xc m 2,Xc m 3)
set_option maxRecDepth 100000 in
def to_of:∀a:Fin 16,toI (ofI (a.1:Int))=(a.1:Int):=by decide
def Z0T{m:Int}(h:M16 m):toI (ofI m)=m:=by obtain⟨a,rfl⟩:=m16 h;exact to_of a
def ZBg:∀a b c d:Bool,ofI (XP a b c d)=(a,b,c,d)/\M16 (XP a b c d):=by decide
def ZlI(x:B4):ofI (toI x)=x:=(ZBg x.1 x.2.1 x.2.2.1 x.2.2.2).1
def toI_16(x:B4):M16 (toI x):=(ZBg x.1 x.2.1 x.2.2.1 x.2.2.2).2
theorem Z0U{x y:B4}(h:toI x=toI y):x=y:=by rw[<-ZlI x,h,ZlI]
set_option maxRecDepth 100000 in
def ZBh:∀a b c d e f g h:Bool,orI (XP a b c d) (XP e f g h)=XP (a || e) (b || f) (c || g) (d || h)/\andI (XP a b c d) (XP e f g h)=XP (a && e) (b && f) (c && g) (d && h):=by decide
theorem ZBi(x y:B4):orI (toI x) (toI y)=toI (orB x y):=(ZBh x.1 x.2.1 x.2.2.1 x.2.2.2 y.1 y.2.1 y.2.2.1 y.2.2.2).1
theorem Zqa(x y:B4):andI (toI x) (toI y)=toI (Wz x y):=(ZBh x.1 x.2.1 x.2.2.1 x.2.2.2 y.1 y.2.1 y.2.2.1 y.2.2.2).2
def ZOT:∀a b c d:Bool,andI (XP a b c d) (w (0-XP a b c d))=toI (lowB (a,b,c,d)):=by decide
def ZOU:∀a b c d e f g h:Bool,Wz (e,f,g,h) (a,b,c,d)=(e,f,g,h)->XP a b c d-XP e f g h=toI (Uu (a,b,c,d) (e,f,g,h)):=by decide
def ZBj{x y:B4}(h:Wz y x=y):toI x-toI y=toI (Uu x y):=ZOU x.1 x.2.1 x.2.2.1 x.2.2.2 y.1 y.2.1 y.2.2.1 y.2.2.2 h
def Z0V:∀i j:Fin 4,Xc (shlI 1 i.1) j.1=decide (i=j):=by decide
def pV_any(qa:List Ze)(h4:qa.length<=4)(m:Int)(u:Nat):pV m qa u=((Xc m 0 && pV (shlI 1 (0:Nat)) qa u) || (Xc m 1 && pV (shlI 1 (1:Nat)) qa u) || (Xc m 2 && pV (shlI 1 (2:Nat)) qa u) || (Xc m 3 && pV (shlI 1 (3:Nat)) qa u)):=by
 have s:∀i j:Nat,i<4->j<4->Xc (shlI 1 (i:Nat)) j=decide (i=j):=λi j hi hj=>by
  have:=Z0V ⟨i,hi⟩ ⟨j,hj⟩
  simp_all
 have s00:=s 0 0 (by omega) (by omega);have s01:=s 0 1 (by omega) (by omega);have s02:=s 0 2 (by omega) (by omega);have s03:=s 0 3 (by omega) (by omega);have s10:=s 1 0 (by omega) (by omega);have s11:=s 1 1 (by omega) (by omega);have s12:=s 1 2 (by omega) (by omega);have s13:=s 1 3 (by omega) (by omega);have s20:=s 2 0 (by omega) (by omega);have s21:=s 2 1 (by omega) (by omega);have s22:=s 2 2 (by omega) (by omega);have s23:=s 2 3 (by omega) (by omega);have s30:=s 3 0 (by omega) (by omega);have s31:=s 3 1 (by omega) (by omega);have s32:=s 3 2 (by omega) (by omega);have s33:=s 3 3 (by omega) (by omega);simp only[Nat.reduceEqDiff,decide_true,decide_false]at s00 s01 s02 s03 s10 s11 s12 s13 s20 s21 s22 s23 s30 s31 s32 s33
 match qa,h4 with
 |[],_=>simp[pV,Wa]
 |[a],_=>simp only[pV,Wa,s00,s10,s20,s30];cases Xc m 0<;>cases Xc m 1<;>cases Xc m 2<;>cases Xc m 3<;>simp
 |[a,b],_=>simp only[pV,Wa,s00,s10,s20,s30,s01,s11,s21,s31,Yv];cases Xc m 0<;>cases Xc m 1<;>cases Xc m 2<;>cases Xc m 3<;>simp
 |[a,b,c],_=>simp only[pV,Wa,s00,s10,s20,s30,s01,s11,s21,s31,s02,s12,s22,s32,Yv,Nat.reduceAdd];cases Xc m 0<;>cases Xc m 1<;>cases Xc m 2<;>cases Xc m 3<;>simp[Bool.or_assoc]
 |[a,b,c,d],_=>simp only[pV,Wa,s00,s10,s20,s30,s01,s11,s21,s31,s02,s12,s22,s32,s03,s13,s23,s33,Yv,Nat.reduceAdd];cases Xc m 0<;>cases Xc m 1<;>cases Xc m 2<;>cases Xc m 3<;>simp[Bool.or_assoc]
 |_::_::_::_::_::_,h=>simp at h
def adj(qa:List Ze)(i j:Nat):Bool:=shr qa (shlI 1 i) (shlI 1 j)
def Kx(qa:List Ze)(i j:Nat):adj qa i j=adj qa j i:=by
 unfold adj shr
 grind
def ats(m:Int)(f:Nat->Bool):Bool:=(Xc m 0 && f 0) || (Xc m 1 && f 1) || (Xc m 2 && f 2) || (Xc m 3 && f 3)
def Zcg{m:Int}{f:Nat->Bool}:ats m f=true↔∃i,i<4/\Xc m i=true/\f i=true:=by
 unfold ats
 grind
def ZBk(qa:List Ze)(h4:qa.length<=4)(x y:Int):shr qa x y=ats x λi=>ats y λj=>adj qa i j:=by
 have pv:∀m u,pV m qa u=ats m λi=>pV (shlI 1 (i:Nat)) qa u:=λm u=>pV_any qa h4 m u
 rw[Ybx,Zcg];unfold shr;rw[List.any_eq_true];constructor
 .rintro⟨u,hu,h⟩;rw[Yg,pv x u,pv y u,Zcg,Zcg]at h;obtain⟨⟨i,i1,i2,i3⟩,⟨j,j1,j2,j3⟩⟩:=h;refine⟨i,i1,i2,Zcg.2 ⟨j,j1,j2,?_⟩⟩;unfold adj shr
  grind
 .rintro⟨i,i1,i2,h⟩;obtain⟨j,j1,j2,h⟩:=Zcg.1 h;unfold adj shr at h;rw[List.any_eq_true]at h;obtain⟨u,hu,h⟩:=h;rw[Yg]at h;refine⟨u,hu,?_⟩;rw[Yg,pv x u,pv y u,Zcg,Zcg]
  grind
def Ky(qa:List Ze):Ed:=⟨adj qa 0 1,adj qa 0 2,adj qa 0 3,adj qa 1 2,adj qa 1 3,adj qa 2 3⟩
theorem adj_ge{qa:List Ze}(h4:qa.length<=4){i:Nat}(hi:i<4)(hl:qa.length<=i)(j:Nat):adj qa i j=false:=by
 have:∀u,pV (shlI 1 (i:Nat)) qa u=false:=by
  intro u;unfold pV;have key:∀(as':List Ze) (k:Nat),k+as'.length<=i->Wa (shlI 1 (i:Nat)) as' k u=false:=by
   intro as'
   induction as' with
   |nil=>intro k _;rfl
   |cons a as' ih =>
    intro k hk;simp only[Yw]at hk;have:=Z0V ⟨i,hi⟩ ⟨k,by omega⟩;simp only[Fin.mk.injEq]at this;rw[Wa,ih (k+1) (by omega),this,decide_eq_false (by omega)];rfl
  simp_all
 unfold adj shr
 simp_all
def shl_in(i:Nat)(hi:i<4)(f:Nat->Bool):ats (shlI 1 (i:Nat)) f=f i:=by
 have s:∀j:Nat,j<4->Xc (shlI 1 (i:Nat)) j=decide (i=j):=λj hj=>by
  have:=Z0V ⟨i,hi⟩ ⟨j,hj⟩
  simp_all
 rw[Ybx,Zcg]
 grind
def ZOV{n:Int}{qa:List Ze}(hv:Z9 n qa=true)(x:B4):Jm qa (toI x)=toI (Z0Q (Ky qa) x):=by
 have h4:=(Wg hv).2;obtain⟨x0,x1,x2,x3⟩:=x;have hin:=ZlI (x0,x1,x2,x3);simp only[ofI,Ybr]at hin;obtain⟨i0,i1,i2,i3⟩:=hin;have key:∀i,i<4->Uf qa (toI (x0,x1,x2,x3)) i=(!Xc (toI (x0,x1,x2,x3)) i && ((x0 && adj qa i 0) || (x1 && adj qa i 1) || (x2 && adj qa i 2) || (x3 && adj qa i 3))):=by
  intro i hi;unfold Uf;rw[ZBk qa h4,shl_in i hi];unfold ats
  grind [adj_ge]
 unfold Jm XD;rw[key 0 (by omega),key 1 (by omega),key 2 (by omega),key 3 (by omega),i0,i1,i2,i3];unfold Z0Q Ky toI;rw[Kx qa 1 0,Kx qa 2 0,Kx qa 3 0,Kx qa 2 1,Kx qa 3 1,Kx qa 3 2];cases x0<;>cases x1<;>cases x2<;>cases x3<;>simp
def ZOW{n:Int}{qa:List Ze}(hv:Z9 n qa=true)(p x:B4):Ku qa (toI p) (toI x)=toI (Z0R (Ky qa) p x):=by
 unfold Ku Z0R;rw[ZOV hv,Zqa,ZBi]
def ZBl{n:Int}{qa:List Ze}(hv:Z9 n qa=true)(p:B4):∀(k:Nat) (x:B4),ZaP qa (toI p) k (toI x)=toI (ZpZ (Ky qa) p k x)
 |0,x=>rfl
 |k+1,x=>by rw[ZaP,ZpZ,ZOW hv,ZBl hv p k]
theorem Zqb{n:Int}{qa:List Ze}(hv:Z9 n qa=true)(p:B4):Va qa (toI p)=VL (Ky qa) qa.length p:=by
 unfold Va VL;rw[show andI (toI p) (w (0-toI p))=toI (lowB p)from ZOT p.1 p.2.1 p.2.2.1 p.2.2.2,ZBl hv,Ybx,decide_eq_true_eq,beq_iff_eq]
 grind [Z0U]
def ZOX{qa:List Ze}(h4:qa.length<=4)(x y:B4)(hd:Wz x y=(false,false,false,false)):shr qa (toI x) (toI y)=Z0S (Ky qa) x y:=by
 obtain⟨x0,x1,x2,x3⟩:=x;obtain⟨y0,y1,y2,y3⟩:=y;have hx:=ZlI (x0,x1,x2,x3);have hy:=ZlI (y0,y1,y2,y3);simp only[ofI,Prod.mk.injEq]at hx hy;obtain⟨i0,i1,i2,i3⟩:=hx;obtain⟨j0,j1,j2,j3⟩:=hy;simp only[Wz,Prod.mk.injEq]at hd;rw[ZBk qa h4];unfold ats;rw[i0,i1,i2,i3,j0,j1,j2,j3];unfold Z0S Ky;dsimp only;rw[Kx qa 1 0,Kx qa 2 0,Kx qa 3 0,Kx qa 2 1,Kx qa 3 1,Kx qa 3 2];obtain⟨h0,h1,h2,h3⟩:=hd;cases x0<;>cases y0<;>simp at h0<;>cases x1<;>cases y1<;>simp at h1<;>cases x2<;>cases y2<;>simp at h2<;>cases x3<;>cases y3<;>simp at h3<;>simp
