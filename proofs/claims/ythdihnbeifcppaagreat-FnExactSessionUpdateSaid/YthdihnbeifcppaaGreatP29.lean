/-
  Parts of the proofs for this seat: TB PA PB OF OE TC CB.
-/
import Derived.Test.YthdihnbeifcppaaGreatP28
set_option linter.all false
set_option maxRecDepth 100000
set_option maxHeartbeats 4000000
namespace Go.Proofs.YthdihnbeifcppaaGreat
open Go.AM
def ZIe(a:Int):Zgp a=some (.agg [.own 0],[.arr 277 3 true (([(⟨1,a,0⟩:Zh)]).map Zh.c)]):=ZbZ.2.2.2 _ _ rfl
def ZIf(a:Int):Zh4 a=some (.agg [.own 0],[.arr 277 3 true (([(⟨1,a,0⟩:Zh)]).map Zh.c)]):=Wj.1.2.2.2.2 _ _ rfl
def Zmh(p:Zg)(h:p.Steps.length<=1000):Ka p=some (.agg [.own 0],[.arr 277 3 true (p.Steps.map Zh.c)]):=VL.1.1.1 _ _ ⟨by omega,rfl⟩
def WD(a b:List Zh)(k v:Int):List Zh:=a++b++[(⟨k,0,v⟩:Zh)]
def Zcl(a:List Zh)(v:Int):List Zh:=a++[(⟨2,0,v⟩:Zh)]
def Ze6(a b:Zg)(k v:Int)(ha:a.Steps.length<=1000)(hb:b.Steps.length<=1000):KJ a b k v=some (.agg [.own 0],[.arr 277 3 true ((WD a.Steps b.Steps k v).map Zh.c)]) :=
 U1.1.2.1 _ _ _ _ _ ⟨_,Zmh a ha,by omega,by omega,rfl⟩
def ZaC(a b:Zg)(k v:Int)(ha:a.Steps.length<=1000)(hb:b.Steps.length<=1000):Za1 a b k v=some (.agg [.own 0],[.arr 277 3 true ((WD a.Steps b.Steps k v).map Zh.c)]) :=
 Wj.2.1.2.1 _ _ _ _ _ ⟨by omega,by omega,by omega,rfl⟩
def ZIg(a:Zg)(v:Int)(ha:a.Steps.length<=1000):Zkz a v=some (.agg [.own 0],[.arr 277 3 true ((Zcl a.Steps v).map Zh.c)]) :=
 U1.2.2.1 _ _ _ ⟨_,Zmh a ha,by omega,rfl⟩
def Z3X(a:Zg)(v:Int)(ha:a.Steps.length<=1000):Zea a v=some (.agg [.own 0],[.arr 277 3 true ((Zcl a.Steps v).map Zh.c)]) :=
 Wj.2.2.2.1 _ _ _ ⟨by omega,by omega,rfl⟩
def WE(l:List Zb)(c:Int):Nat->Int
 |0=>-1
 |k+1=>match l[k]? with
  |none=>WE l c k
  |some e=>if e.Mask=c then(match l[(WE l c k).toNat]? with
    |some b=>if WE l c k<0 then(k:Int)else if e.Cost<b.Cost then(k:Int)else WE l c k
    |none=>(k:Int))else WE l c k
def Z3Y(l:List Zb)(c:Int):∀k,-1<=WE l c k/\WE l c k<k
 |0=>by simp[WE]
 |k+1=>by
  have ih:=Z3Y l c k;unfold WE
  repeat' split
  all_goals omega
def low(l:List Zb)(c:Int):Int:=WE l c l.length
def l_low(l:List Zb)(c:Int)(hl:l.length<=1000):∀i,i<=l.length->ZdY l c (WE l c i) i=some (I (low l c),[]):=by
 refine down _ ?_ ?_
 .apply Wj.2.1.1.1;rw[Ynx];rfl
 .intro i hi ih;have h4:=ZL (i:=i) (by omega);have hb:=Z3Y l c i;apply Wj.2.1.1.1;rw[Ypx];refine⟨by omega,l[i],by rw[Yk];exact Yf hi,?_⟩;rw[show w ((i:Int)+1)=((i+1:Nat):Int)from by rw[show w ((i:Int)+1)=(i:Int)+1 from h4];simp];unfold WE at ih;rw[Yf hi]at ih;by_cases e:l[i].Mask=c
  .rw[Ya e];simp only[Ya e]at ih;by_cases e0:WE l c i<0
   .rw[Ya e0];simp only[Ya e0]at ih;split at ih<;>exact ih
   .rw[Yb e0];have hk:(WE l c i).toNat<l.length:=by omega
    refine⟨by omega,l[(WE l c i).toNat],Yf hk,?_⟩;rw[Yf hk]at ih;simp only[Yb e0]at ih;by_cases e2:l[i].Cost<l[(WE l c i).toNat].Cost
    .rw[Ya e2]at ih|-;exact ih
    .rw[Yb e2]at ih|-;exact ih
  .rw[Yb e];simp only[Yb e]at ih;exact ih
def Ze7(l:List Zb)(c:Int)(hl:l.length<=1000):Za0 l c=some (I (low l c),[]):=Wj.2.1.1.2 _ _ _ (l_low l c hl 0 (Yd _))
def KV(cc c:Int):List Zb->Nat->Int
 |[],_=>-1
 |e::l,k=>if e.Mask=cc/\e.Order=c then(k:Int)else KV cc c l (k+1)
def l_find(l:List Zb)(cc c:Int)(hl:l.length<=1000):∀i,i<=l.length->Zh5 l cc c i=some (I (KV cc c (l.drop i) i),[]):=by
 refine down _ ?_ ?_
 .apply Wj.2.2.1.1;rw[Ynx];simp[KV]
 .intro i hi ih;have h4:=ZL (i:=i) (by omega);apply Wj.2.2.1.1;rw[Ypx,Yi hi];refine⟨by omega,l[i],by rw[Yk];exact Yf hi,?_⟩;rw[show w ((i:Int)+1)=((i+1:Nat):Int)from by rw[show w ((i:Int)+1)=(i:Int)+1 from h4];simp];unfold KV;by_cases e:l[i].Mask=cc
  .rw[Ya e];by_cases e2:l[i].Order=c
   .rw[Ya e2,Ya ⟨e,e2⟩]
   .rw[Yb e2,Yb (λh=>e2 h.2)];exact ih
  .rw[Yb e,Yb (λh=>e h.1)];exact ih
def Wk(l:List Zb)(cc c:Int):Int:=KV cc c l 0
def Zmi(l:List Zb)(cc c:Int)(hl:l.length<=1000):ZdZ l cc c=some (I (Wk l cc c),[]):=Wj.2.2.1.2 _ _ _ _ (l_find l cc c hl 0 (Yd _))
abbrev MO:=Int×Int
def Qs(qa:List Ze)(x:Zh)(y z:MO):Option Int:=WX qa x ⟨y.1,y.2,0,0⟩ ⟨z.1,z.2,0,0⟩
def ZIh(qa:List Ze)(x:Zh)(y z:Zt):Qs qa x (y.Mask,y.Order) (z.Mask,z.Order)=WX qa x y z:=by
 unfold Qs WX;rfl
def Vd(m:Za)(sizes:V6)(qa:List Ze)(x:Zh)(S:List MO):Option (List MO×Int) :=
 if x.Kind=1 then(if inR x.Ze 0 (qa.length-1)=true/\x.Order=0 then some ((shlI 1 x.Ze,(match qa[x.Ze.toNat]? with|some a=>a.Vars.headD 0|none=>0))::S,XB (mOp m 1) (ZE sizes (shlI 1 x.Ze)) 0 (ZE sizes (shlI 1 x.Ze)))else none)
 else if x.Ze≠0 then none
 else if x.Kind=2 then(match S with
  |y::S=>if vin qa y.1 x.Order=true/\y.2≠x.Order then some ((y.1,x.Order)::S,XB (mOp m 2) (ZE sizes y.1) 0 (ZE sizes y.1))else none
  |[]=>none)
 else match S with
  |z::y::S=>if andI y.1 z.1=0/\shr qa y.1 z.1=true then(Qs qa x y z).map (λo=>((orI y.1 z.1,o)::S,XB (mOp m x.Kind) (ZE sizes y.1) (ZE sizes z.1) (ZE sizes (orI y.1 z.1))))else none
  |_=>none
def XC(m:Za)(sizes:V6)(qa:List Ze):List Zh->List MO->Int->Option (List MO×Int)
 |[],S,c=>some (S,c)
 |x::xs,S,c=>match Vd m sizes qa x S with
  |none=>none
  |some (S',k)=>XC m sizes qa xs S' (w (c+k))
def Ze8(info:List Zt)(i:Int):Int:=match info[i.toNat]? with|some y=>y.Order|none=>0
def vw(info:List Zt)(rs:V6):List MO:=rs.map λs=>(Vm info s,Ze8 info s)
def top1{info:List Zt}{s:Int}{rs:V6}:Wn (s::rs).reverse info 1=(info[s.toNat]?).map (s,·):=by
 simp[Wn]
def top2{info:List Zt}{t s:Int}{rs:V6}:Wn (t::s::rs).reverse info 2=(info[s.toNat]?).map (s,·):=by
 simp[Wn]
def top0{info:List Zt}:Wn [] info 1=none:=by simp[Wn]
def top02{info:List Zt}:Wn [] info 2=none:=by simp[Wn]
def top12{info:List Zt}{s:Int}:Wn [s] info 2=none:=by simp[Wn]
def ZIi(m:Za)(sizes:V6)(qa:List Ze)(x:Zh)(info:List Zt)(rs:V6)(hs:Ug info rs.reverse):match Vz qa x info rs.reverse with
  |none=>Vd m sizes qa x (vw info rs)=none
  |some y=>Vd m sizes qa x (vw info rs)=some ((y.Mask,y.Order)::(vw info rs).drop (XQ y),VB m info sizes x y):=by
 unfold Vz Vd;by_cases k1:x.Kind=1
 .simp only[Ya k1];by_cases c:inR x.Ze 0 (qa.length-1)=true/\x.Order=0
  .simp[Ya c,XQ,VB,k1];rfl
  .simp[Yb c]
 .simp only[Yb k1];by_cases ka:x.Ze≠0
  .simp[Ya ka]
  .simp only[Yb ka];by_cases k2:x.Kind=2
   .simp only[Ya k2]
    cases rs with
    |nil=>simp[vw,top0]
    |cons s rs =>
     obtain⟨h0,h1⟩:=hs s (by simp);have e:info[s.toNat]?=some info[s.toNat]:=Yf h1;rw[top1,e];simp only[Option.map_some,vw,Yx,Vm,Ze8,e];by_cases c:vin qa info[s.toNat].Mask x.Order=true/\info[s.toNat].Order≠x.Order
     .have hn:¬s<0:=by omega
      simp[Ya c,XQ,VB,k2,Vm,e,h0,hn]
     .simp[Yb c]
   .simp only[Yb k2]
    match rs,hs with
    |[],_=>simp[vw,top02]
    |[s],_=>simp[vw,top12]
    |t::s::rs,hs =>
     obtain⟨h0,h1⟩:=hs s (by simp);obtain⟨t0,t1⟩:=hs t (by simp);have e:info[s.toNat]?=some info[s.toNat]:=Yf h1;have et:info[t.toNat]?=some info[t.toNat]:=Yf t1;rw[top1,top2,e,et];simp only[Option.map_some,vw,Yx,Vm,Ze8,e,et];by_cases c:andI info[s.toNat].Mask info[t.toNat].Mask=0/\shr qa info[s.toNat].Mask info[t.toNat].Mask=true
     .simp only[Ya c,ZIh]
      cases ho:WX qa x info[s.toNat] info[t.toNat]with
      |none=>simp
      |some o =>
       have hn:¬s<0:=by omega
       have tn:¬t<0:=by omega
       simp[XQ,VB,Vm,e,et,h0,t0,hn,tn]
     .simp[Yb c]
def vw_ext{info tail:List Zt}{rs:V6}(hs:∀s∈rs,0<=s/\s.toNat<info.length):vw (info++tail) rs=vw info rs:=by
 unfold vw;refine Yb4 λs h=>?_
 have:=(hs s h).2;simp[Vm,Ze8,Yda this]
def ZIj{m:Za}{sizes:V6}{info tail:List Zt}{x:Zh}{y:Zt}(h:Zck info.length x y):VB m (info++tail) sizes x y=VB m info sizes x y:=by
 unfold VB;rcases h.refs with⟨a,b⟩|⟨⟨a,a'⟩,b⟩
 .simp[a,b]
 .have e1:Vm (info++tail) y.Left=Vm info y.Left:=by simp[Vm,Yda a']
  rcases b with b|⟨b,b'⟩
  .simp[b,e1]
  .have e2:Vm (info++tail) y.Right=Vm info y.Right:=by simp[Vm,Yda b']
   simp[e1,e2]
def Z3Z(m:Za)(sizes:V6)(qa:List Ze):∀(xs:List Zh) (info:List Zt) (rs:V6) (c:Int),Ug info rs.reverse->
  match Wt qa xs info.length info rs.reverse with
  |none=>XC m sizes qa xs (vw info rs) c=none
  |some (info',st')=>∃tail,info'=info++tail/\tail.length=xs.length/\XC m sizes qa xs (vw info rs) c=some (vw info' st'.reverse,Qr (U4 m info' sizes xs tail) c)
 |[],info,rs,c,hs=>by
  simp only[Wt,XC]
  exact⟨[],by simp,rfl,by simp[U4,Qr]⟩
 |x::xs,info,rs,c,hs=>by
  have hv:=ZIi m sizes qa x info rs hs;rw[Wt,XC]
  cases hy:Vz qa x info rs.reverse with
  |none=>rw[hy]at hv;simp only at hv;rw[hv]
  |some y =>
   rw[hy]at hv;simp only at hv;rw[hv];simp only;have ho:=Z3F hs hy;have hn:=Zfo hs y (rs.reverse.length-XQ y);have er:rs.reverse.take (rs.reverse.length-XQ y)++[(info.length:Int)]=((info.length:Int)::rs.drop (XQ y)).reverse:=by
    rw[List.reverse_cons,List.reverse_drop,List.length_reverse]
   rw[er]at hn|-;have ih:=Z3Z m sizes qa xs (info++[y]) ((info.length:Int)::rs.drop (XQ y)) (w (c+VB m info sizes x y)) hn;have ev:vw (info++[y]) ((info.length:Int)::rs.drop (XQ y))=(y.Mask,y.Order)::(vw info rs).drop (XQ y):=by
    have:=vw_ext (info:=info) (tail:=[y]) (rs:=rs.drop (XQ y)) (λs h=>hs s (by simp;exact Yb8 h));rw[show vw (info++[y]) ((info.length:Int)::rs.drop (XQ y))=(Vm (info++[y]) info.length,Ze8 (info++[y]) info.length)::vw (info++[y]) (rs.drop (XQ y))from rfl,this];simp[Vm,Ze8,vw,List.map_drop]
   rw[ev]at ih;rw[show(info++[y]).length=info.length+1 by simp]at ih;split at ih
   .exact ih
   .rename_i info' st' hg;obtain⟨tail,a,b,d⟩:=ih;refine⟨y::tail,by simp[a],by simp[b],?_⟩;rw[d];have e2:VB m info' sizes x y=VB m info sizes x y:=by rw[a,Ybo];exact ZIj ho
    simp[U4,Qr,e2]
def ZIk{m:Za}{n:Int}{qa:List Ze}{sizes:V6}{steps:List Zh}{y:MO}{c:Int}(hv:Z6 n qa=true)(hl:1<=steps.length/\steps.length<=14)(hs:WC n qa sizes=true)(h:XC m sizes qa steps [] 0=some ([y],c)):U5 m n qa steps sizes=c:=by
 have g:=Z3Z m sizes qa steps [] [] 0 (λs h=>by simp at h);simp only[Ybr,List.reverse_nil]at g;have hr:inR (steps.length:Int) 1 14=true:=by simp[inR];omega
 cases hg:Wt qa steps 0 [] []with
 |none=>rw[hg]at g;simp only[vw,Ycm]at g;rw[g]at h;cases h
 |some p =>
  obtain⟨info',st'⟩:=p;rw[hg]at g;obtain⟨tail,a,b,d⟩:=g;simp only[vw,Ycm]at d;rw[d]at h;simp only[Y7]at a;subst a
  cases h':st'.reverse with
  |nil=>rw[h']at h;simp at h
  |cons s rs =>
   rw[h']at h;simp only[Yx,Ybm,Ybw,Yc5,List.map_eq_nil_iff]at h;have hlen:st'.length=1:=by rw[<-List.length_reverse,h',h.1.2];rfl
   have hi:Wu n qa steps=some info':=by simp[Wu,hv,hr,hg,hlen]
   simp[U5,JE,QK,hi,hs,h.2]
def w_eq(x:Int):w x=(x+9223372036854775808) % 18446744073709551616-9223372036854775808:=by
 simp only[w,IntKind.wrap,IntKind.signed,IntKind.bits,Yw];split
 .rename_i h;have h:=of_decide_eq_true h;omega
 .rename_i h;simp at h;omega
def w_w(x:Int):w (w x)=w x:=by rw[w_eq,w_eq];omega
def Zmj(m:Za)(sizes:V6)(qa:List Ze):∀(xs ys:List Zh) (S:List MO) (c:Int),XC m sizes qa (xs++ys) S c=match XC m sizes qa xs S c with
  |none=>none
  |some (S',c')=>XC m sizes qa ys S' c'
 |[],ys,S,c=>by simp[XC]
 |x::xs,ys,S,c=>by
  rw[Ycu,XC,XC]
  cases Vd m sizes qa x S with
  |none=>rfl
  |some p=>simp only;exact Zmj m sizes qa xs ys p.1 _
def ZIl{m:Za}{sizes:V6}{qa:List Ze}{x:Zh}{S S' B:List MO}{c:Int}(h:Vd m sizes qa x S=some (S',c)):Vd m sizes qa x (S++B)=some (S'++B,c):=by
 unfold Vd at h|-;by_cases k1:x.Kind=1
 .simp only[Ya k1]at h|-;split at h
  .rename_i hc;rw[Ya hc];cases h;rfl
  .cases h
 .simp only[Yb k1]at h|-;by_cases ka:x.Ze≠0
  .simp[Ya ka]at h
  .simp only[Yb ka]at h|-;by_cases k2:x.Kind=2
   .simp only[Ya k2]at h|-
    match S,h with
    |[],h=>cases h
    |y::S,h =>
     simp only[Ycu]at h|-;split at h
     .rename_i hc;rw[Ya hc];cases h;rfl
     .cases h
   .simp only[Yb k2]at h|-
    match S,h with
    |[],h=>cases h
    |[y],h=>cases h
    |z::y::S,h =>
     simp only[Ycu]at h|-;split at h
     .rename_i hc;rw[Ya hc]
      cases ho:Qs qa x y z with
      |none=>rw[ho]at h;cases h
      |some o=>rw[ho]at h;cases h;rfl
     .cases h
def Z4a{m:Za}{sizes:V6}{qa:List Ze}{B:List MO}:∀{xs:List Zh} {S S':List MO} {c c':Int},XC m sizes qa xs S c=some (S',c')->XC m sizes qa xs (S++B) c=some (S'++B,c')
 |[],S,S',c,c',h=>by simp[XC]at h|-;simp[h]
 |x::xs,S,S',c,c',h=>by
  rw[XC]at h|-
  cases hs:Vd m sizes qa x S with
  |none=>rw[hs]at h;cases h
  |some p=>rw[hs]at h;rw[ZIl hs];exact Z4a h
def Z4b{m:Za}{sizes:V6}{qa:List Ze}:∀{xs:List Zh} {S S':List MO} {a k:Int},XC m sizes qa xs S a=some (S',k)->∀c,w c=c->XC m sizes qa xs S c=some (S',w (c+(k-a)))
 |[],S,S',a,k,h,c,hc=>by
  simp[XC]at h|-;obtain⟨rfl,rfl⟩:=h;rw[show c+(a-a)=c by omega]
  exact⟨rfl,hc.symm⟩
 |x::xs,S,S',a,k,h,c,hc=>by
  rw[XC]at h|-
  cases hs:Vd m sizes qa x S with
  |none=>rw[hs]at h;cases h
  |some p =>
   obtain⟨S1,e⟩:=p;rw[hs]at h;simp only at h|-;rw[Z4b h (w (c+e)) (w_w _)]
   have:w (w (c+e)+(k-w (a+e)))=w (c+(k-a)):=by simp only[w_eq];omega
   rw[this]
def Z4c{m:Za}{sizes:V6}{qa:List Ze}:∀{xs:List Zh} {S S':List MO} {a k:Int},XC m sizes qa xs S a=some (S',k)->w a=a->w k=k
 |[],S,S',a,k,h,ha=>by simp[XC]at h;rw[<-h.2];exact ha
 |x::xs,S,S',a,k,h,ha=>by
  rw[XC]at h
  cases hs:Vd m sizes qa x S with
  |none=>rw[hs]at h;cases h
  |some p=>rw[hs]at h;exact Z4c h (w_w _)
def X5(m:Za)(sizes:V6)(qa:List Ze)(xs:List Zh)(cd cc c:Int):Prop:=XC m sizes qa xs [] 0=some ([(cd,cc)],c)
def X5.can{m:Za}{sizes:V6}{qa:List Ze}{xs:List Zh}{a o c:Int}(h:X5 m sizes qa xs a o c):w c=c:=Z4c h rfl
def X5.on{m:Za}{sizes:V6}{qa:List Ze}{xs:List Zh}{a o c:Int}(h:X5 m sizes qa xs a o c)(B:List MO)(d:Int)(hd:w d=d):XC m sizes qa xs B d=some ((a,o)::B,w (d+c)):=by
 have:=Z4a (B:=B) (Z4b h d hd);rw[show c-0=c by omega]at this;simpa using this
def Z4d{m:Za}{sizes:V6}{qa:List Ze}{xs ys:List Zh}{a o c b p d:Int}{x:Zh}{r:Int}(hx:X5 m sizes qa xs a o c)(hy:X5 m sizes qa ys b p d)(hk:3<=x.Kind)(cc:x.Ze=0)(hd:andI a b=0)(cd:shr qa a b=true)(ho:Qs qa x (a,o) (b,p)=some r) :
  X5 m sizes qa (xs++ys++[x]) (orI a b) r (w (w (c+d)+XB (mOp m x.Kind) (ZE sizes a) (ZE sizes b) (ZE sizes (orI a b)))):=by
 unfold X5 at *
 rw[Zmj,Zmj,hx];simp only;rw[X5.on hy _ _ (X5.can hx)];simp only;rw[XC];have hs:Vd m sizes qa x [(b,p),(a,o)]=some ([(orI a b,r)],XB (mOp m x.Kind) (ZE sizes a) (ZE sizes b) (ZE sizes (orI a b))):=by
  unfold Vd;rw[Ynx,Yb (by simp[cc]),Ynx];simp[hd,cd,ho]
 rw[hs];rfl
def ZIm{m:Za}{sizes:V6}{qa:List Ze}{xs:List Zh}{a o c v:Int}(hx:X5 m sizes qa xs a o c)(hv:vin qa a v=true)(ho:o≠v) :
  X5 m sizes qa (Zcl xs v) a v (w (c+XB m.Sort_ (ZE sizes a) 0 (ZE sizes a))):=by
 unfold X5 at *
 rw[Zcl,Zmj,hx];simp only;rw[XC];have hs:Vd m sizes qa ⟨2,0,v⟩ [(a,o)]=some ([(a,v)],XB m.Sort_ (ZE sizes a) 0 (ZE sizes a)):=by
  unfold Vd;simp[hv,ho,mOp]
 rw[hs];rfl
def ZIn{m:Za}{sizes:V6}{qa:List Ze}{i:Nat}(h:i<qa.length) :
  X5 m sizes qa [⟨1,i,0⟩] (shlI 1 i) (qa[i].Vars.headD 0) (w (XB m.Scan (ZE sizes (shlI 1 i)) 0 (ZE sizes (shlI 1 i)))):=by
 unfold X5;rw[XC];have hi:inR (i:Int) 0 (qa.length-1)=true:=by simp[inR];omega
 have hs:Vd m sizes qa ⟨1,i,0⟩ []=some ([(shlI 1 i,qa[i].Vars.headD 0)],XB m.Scan (ZE sizes (shlI 1 i)) 0 (ZE sizes (shlI 1 i))):=by
  unfold Vd;simp[hi,mOp,Yf h]
 rw[hs];simp[XC]
def X5.cost{m:Za}{sizes:V6}{n:Int}{qa:List Ze}{xs:List Zh}{a o c:Int}(h:X5 m sizes qa xs a o c)(hv:Z6 n qa=true)(hl:1<=xs.length/\xs.length<=14)(hs:WC n qa sizes=true):U5 m n qa xs sizes=c:=ZIk hv hl hs h
def Z4e{qa:List Ze}{y z:MO}:Qs qa ⟨3,0,0⟩ y z=some (-1):=by simp[Qs,WX]
def Z4f{qa:List Ze}{y z:MO}:Qs qa ⟨5,0,0⟩ y z=some y.2:=by simp[Qs,WX]
def Z4g{qa:List Ze}{y z:MO}{v:Int}(h1:vin qa y.1 v=true)(h2:vin qa z.1 v=true)(h3:y.2=v)(h4:z.2=v):Qs qa ⟨4,0,v⟩ y z=some v:=by simp[Qs,WX,h1,h2,h3,h4]
def Vn(b e:Zb):Zb:=if e.Cost<b.Cost then e else b
def ZIo(a b c:Int)(l:List Zb)(hl:l.length<=1000):∀i,i<=l.length->∀best,Zdl a b c best l l.length i=some (.agg (((l.drop i).foldl Vn best).c.map .t),[]):=by
 refine down _ ?_ ?_
 .intro best;apply U1.1.1.1;rw[Ynx];simp
 .intro i hi ih best;have h4:=ZL (i:=i) (by omega);apply U1.1.1.1;rw[Ypx,Yi hi,Y8];refine⟨by omega,l[i],by rw[Yk];exact Yf hi,?_⟩;rw[show w ((i:Int)+1)=((i+1:Nat):Int)from by rw[show w ((i:Int)+1)=(i:Int)+1 from h4];simp];by_cases e:l[i].Cost<best.Cost
  .rw[Ya e,show Vn best l[i]=l[i] by simp[Vn,e]];exact ih _
  .rw[Yb e,show Vn best l[i]=best by simp[Vn,e]];exact ih _
def Xh(l:List Zb):Zb:=match l with|[]=>⟨0,0,0,⟨[]⟩⟩|e::l=>(e::l).foldl Vn e
def Zmk(l:List Zb)(h0:l≠[])(hl:l.length<=1000):ZbB l=some (.agg ((Xh l).c.map .t),[]):=by
 cases l with
 |nil=>exact absurd rfl h0
 |cons e l =>
  refine U1.1.1.2 _ _ ⟨e,rfl,?_⟩;have:=ZIo 0 0 0 (e::l) hl 0 (Yd _) e;simpa[Xh]using this
def XN(e:Zb)(cc a c:Int)(x:List Zh):Zb:=if e.Mask=0 then⟨cc,a,c,⟨x⟩⟩else if c<e.Cost then⟨cc,a,c,⟨x⟩⟩else e
def sm(e:Zb):Bool:=decide (e.Mask≠0)
def sm_off{e:Zb}{mask a cost:Int}{x:List Zh}(h:mask≠0):sm (XN e mask a cost x)=true:=by
 unfold XN sm;split
 .simp[h]
 .split
  .simp[h]
  .simp[*]
def X0(k:Int)(e:Zb)(cc a c:Int)(x:List Zh):Zb:=if a+1=k then XN e cc a c x else e
def Z4h(m:Za)(hm:LeM m)(q:Zj)(hq:LeQ q)(sizes:V6)(hs:Le sizes)(mask:Int)(h0:mask≠0)(a0 a1 a2 a3 a4:Zb)(x:List Zh)(a:Int)(ha:-1<=a/\a<=3)(c:Int)(hc:U5 m q.Zm q.Atoms x sizes=c):∃t,(t=.dead\/t=.arr 277 3 true (x.map Zh.c))/\
  Jy m q sizes mask a0 a1 a2 a3 a4 (sm a0) (sm a1) (sm a2) (sm a3) (sm a4) x a=some (.tup [],[We m q sizes mask (X0 0 a0 mask a c x) (X0 1 a1 mask a c x) (X0 2 a2 mask a c x) (X0 3 a3 mask a c x) (X0 4 a4 mask a c x) (sm (X0 0 a0 mask a c x)) (sm (X0 1 a1 mask a c x)) (sm (X0 2 a2 mask a c x)) (sm (X0 3 a3 mask a c x)) (sm (X0 4 a4 mask a c x)),t]):=by
 have hcost:=ZuJ m hm q hq ⟨x⟩ sizes hs;rw[show U5 m q.Zm q.Atoms (Zg.mk x).Steps sizes=c from hc]at hcost;have h5:a=-1\/a=0\/a=1\/a=2\/a=3:=by omega
 have key:∀e:Zb,(sm e=true/\c<e.Cost/\XN e mask a c x=⟨mask,a,c,⟨x⟩⟩)\/(sm e=true/\¬c<e.Cost/\XN e mask a c x=e)\/(sm e=false/\XN e mask a c x=⟨mask,a,c,⟨x⟩⟩):=by
  intro e;by_cases e0:e.Mask=0
  .exact .inr (.inr ⟨by simp[sm,e0],by simp[XN,e0]⟩)
  .by_cases e1:c<e.Cost
   .exact .inl ⟨by simp[sm,e0],e1,by simp[XN,e0,e1]⟩
   .exact .inr (.inl ⟨by simp[sm,e0],e1,by simp[XN,e0,e1]⟩)
 have hsm:sm ⟨mask,a,c,⟨x⟩⟩=true:=by simp[sm,h0]
 have w0:w 0=0:=by decide
 have w1:w 1=1:=by decide
 have w2:w 2=2:=by decide
 have w3:w 3=3:=by decide
 have w4:w 4=4:=by decide
 rcases h5 with rfl|rfl|rfl|rfl|rfl
 .rcases key a0 with⟨k1,k2,k3⟩|⟨k1,k2,k3⟩|⟨k1,k3⟩
  .exact⟨_,.inl rfl,Uk ⟨c,hcost,by simp[X0,k1,k2,k3,hsm,w0,w1,w2,w3,w4]⟩⟩
  .exact⟨_,.inr rfl,Uk ⟨c,hcost,by simp[X0,k1,k2,k3,hsm,w0,w1,w2,w3,w4]⟩⟩
  .exact⟨_,.inl rfl,Uk ⟨c,hcost,by simp[X0,k1,k3,hsm,w0,w1,w2,w3,w4]⟩⟩
 .rcases key a1 with⟨k1,k2,k3⟩|⟨k1,k2,k3⟩|⟨k1,k3⟩
  .exact⟨_,.inl rfl,Uk ⟨c,hcost,by simp[X0,k1,k2,k3,hsm,w0,w1,w2,w3,w4]⟩⟩
  .exact⟨_,.inr rfl,Uk ⟨c,hcost,by simp[X0,k1,k2,k3,hsm,w0,w1,w2,w3,w4]⟩⟩
  .exact⟨_,.inl rfl,Uk ⟨c,hcost,by simp[X0,k1,k3,hsm,w0,w1,w2,w3,w4]⟩⟩
 .rcases key a2 with⟨k1,k2,k3⟩|⟨k1,k2,k3⟩|⟨k1,k3⟩
  .exact⟨_,.inl rfl,Uk ⟨c,hcost,by simp[X0,k1,k2,k3,hsm,w0,w1,w2,w3,w4]⟩⟩
  .exact⟨_,.inr rfl,Uk ⟨c,hcost,by simp[X0,k1,k2,k3,hsm,w0,w1,w2,w3,w4]⟩⟩
  .exact⟨_,.inl rfl,Uk ⟨c,hcost,by simp[X0,k1,k3,hsm,w0,w1,w2,w3,w4]⟩⟩
 .rcases key a3 with⟨k1,k2,k3⟩|⟨k1,k2,k3⟩|⟨k1,k3⟩
  .exact⟨_,.inl rfl,Uk ⟨c,hcost,by simp[X0,k1,k2,k3,hsm,w0,w1,w2,w3,w4]⟩⟩
  .exact⟨_,.inr rfl,Uk ⟨c,hcost,by simp[X0,k1,k2,k3,hsm,w0,w1,w2,w3,w4]⟩⟩
  .exact⟨_,.inl rfl,Uk ⟨c,hcost,by simp[X0,k1,k3,hsm,w0,w1,w2,w3,w4]⟩⟩
 .rcases key a4 with⟨k1,k2,k3⟩|⟨k1,k2,k3⟩|⟨k1,k3⟩
  .exact⟨_,.inl rfl,Uk ⟨c,hcost,by simp[X0,k1,k2,k3,hsm,w0,w1,w2,w3,w4]⟩⟩
  .exact⟨_,.inr rfl,Uk ⟨c,hcost,by simp[X0,k1,k2,k3,hsm,w0,w1,w2,w3,w4]⟩⟩
  .exact⟨_,.inl rfl,Uk ⟨c,hcost,by simp[X0,k1,k3,hsm,w0,w1,w2,w3,w4]⟩⟩
def sel(y:Bool)(e:Zb):List Zb:=if y=true then[e]else[]
section
variable(m:Za)(q:Zj)(sizes:V6)(mask:Int)(a0 a1 a2 a3 a4:Zb)(s0 s1 s2 s3 s4:Bool)
theorem en5(fr:Bool)(out:List Zb)(y0 y1 y2 y3 y4:Bool):∃fr',XK m q sizes mask a0 a1 a2 a3 a4 s0 s1 s2 s3 s4 fr out y0 y1 y2 y3 y4 5=some (.own 1,[We m q sizes mask a0 a1 a2 a3 a4 s0 s1 s2 s3 s4,.arr 287 4 fr' (out.map Zb.c)]) :=
 ⟨fr,Kk (by rw[Ynx])⟩
theorem en4(fr:Bool)(out:List Zb)(hl:out.length<=4)(y0 y1 y2 y3 y4:Bool):∃fr',XK m q sizes mask a0 a1 a2 a3 a4 s0 s1 s2 s3 s4 fr out y0 y1 y2 y3 y4 4=some (.own 1,[We m q sizes mask a0 a1 a2 a3 a4 s0 s1 s2 s3 s4,.arr 287 4 fr' ((out++sel y4 a4).map Zb.c)]):=by
 have hw:w (4+1)=5:=by decide
 cases hy:y4 with
 |true =>
  obtain⟨fr',h⟩:=en5 m q sizes mask a0 a1 a2 a3 a4 s0 s1 s2 s3 s4 false (out++[a4]) y0 y1 y2 y3 true;refine⟨fr',Kk ?_⟩;rw[Ypx,Ynx,Ynx,Ynx,Ynx,Ya rfl,Ya rfl,hw]
  exact⟨by omega,by simpa[sel]using h⟩
 |false =>
  obtain⟨fr',h⟩:=en5 m q sizes mask a0 a1 a2 a3 a4 s0 s1 s2 s3 s4 fr out y0 y1 y2 y3 false;refine⟨fr',Kk ?_⟩;rw[Ypx,Ynx,Ynx,Ynx,Ynx,Ya rfl,Yb (by simp),hw];simpa[sel]using h
theorem en3(fr:Bool)(out:List Zb)(hl:out.length<=3)(y0 y1 y2 y3 y4:Bool):∃fr',XK m q sizes mask a0 a1 a2 a3 a4 s0 s1 s2 s3 s4 fr out y0 y1 y2 y3 y4 3=some (.own 1,[We m q sizes mask a0 a1 a2 a3 a4 s0 s1 s2 s3 s4,.arr 287 4 fr' ((out++sel y3 a3++sel y4 a4).map Zb.c)]):=by
 have hw:w (3+1)=4:=by decide
 cases hy:y3 with
 |true =>
  obtain⟨fr',h⟩:=en4 m q sizes mask a0 a1 a2 a3 a4 s0 s1 s2 s3 s4 false (out++[a3]) (by simp only[Yn,Ym,Ybr];omega) y0 y1 y2 true y4;refine⟨fr',Kk ?_⟩;rw[Ypx,Ynx,Ynx,Ynx,Ya rfl,Ya rfl,hw]
  exact⟨by omega,by simpa[sel]using h⟩
 |false =>
  obtain⟨fr',h⟩:=en4 m q sizes mask a0 a1 a2 a3 a4 s0 s1 s2 s3 s4 fr out (by omega) y0 y1 y2 false y4;refine⟨fr',Kk ?_⟩;rw[Ypx,Ynx,Ynx,Ynx,Ya rfl,Yb (by simp),hw];simpa[sel]using h
theorem en2(fr:Bool)(out:List Zb)(hl:out.length<=2)(y0 y1 y2 y3 y4:Bool):∃fr',XK m q sizes mask a0 a1 a2 a3 a4 s0 s1 s2 s3 s4 fr out y0 y1 y2 y3 y4 2=some (.own 1,[We m q sizes mask a0 a1 a2 a3 a4 s0 s1 s2 s3 s4,.arr 287 4 fr' ((out++sel y2 a2++sel y3 a3++sel y4 a4).map Zb.c)]):=by
 have hw:w (2+1)=3:=by decide
 cases hy:y2 with
 |true =>
  obtain⟨fr',h⟩:=en3 m q sizes mask a0 a1 a2 a3 a4 s0 s1 s2 s3 s4 false (out++[a2]) (by simp only[Yn,Ym,Ybr];omega) y0 y1 true y3 y4;refine⟨fr',Kk ?_⟩;rw[Ypx,Ynx,Ynx,Ya rfl,Ya rfl,hw]
  exact⟨by omega,by simpa[sel]using h⟩
 |false =>
  obtain⟨fr',h⟩:=en3 m q sizes mask a0 a1 a2 a3 a4 s0 s1 s2 s3 s4 fr out (by omega) y0 y1 false y3 y4;refine⟨fr',Kk ?_⟩;rw[Ypx,Ynx,Ynx,Ya rfl,Yb (by simp),hw];simpa[sel]using h
theorem en1(fr:Bool)(out:List Zb)(hl:out.length<=1)(y0 y1 y2 y3 y4:Bool):∃fr',XK m q sizes mask a0 a1 a2 a3 a4 s0 s1 s2 s3 s4 fr out y0 y1 y2 y3 y4 1=some (.own 1,[We m q sizes mask a0 a1 a2 a3 a4 s0 s1 s2 s3 s4,.arr 287 4 fr' ((out++sel y1 a1++sel y2 a2++sel y3 a3++sel y4 a4).map Zb.c)]):=by
 have hw:w (1+1)=2:=by decide
 cases hy:y1 with
 |true =>
  obtain⟨fr',h⟩:=en2 m q sizes mask a0 a1 a2 a3 a4 s0 s1 s2 s3 s4 false (out++[a1]) (by simp only[Yn,Ym,Ybr];omega) y0 true y2 y3 y4;refine⟨fr',Kk ?_⟩;rw[Ypx,Ynx,Ya rfl,Ya rfl,hw]
  exact⟨by omega,by simpa[sel]using h⟩
 |false =>
  obtain⟨fr',h⟩:=en2 m q sizes mask a0 a1 a2 a3 a4 s0 s1 s2 s3 s4 fr out (by omega) y0 false y2 y3 y4;refine⟨fr',Kk ?_⟩;rw[Ypx,Ynx,Ya rfl,Yb (by simp),hw];simpa[sel]using h
theorem en0(fr:Bool)(out:List Zb)(hl:out.length<=0)(y0 y1 y2 y3 y4:Bool):∃fr',XK m q sizes mask a0 a1 a2 a3 a4 s0 s1 s2 s3 s4 fr out y0 y1 y2 y3 y4 0=some (.own 1,[We m q sizes mask a0 a1 a2 a3 a4 s0 s1 s2 s3 s4,.arr 287 4 fr' ((out++sel y0 a0++sel y1 a1++sel y2 a2++sel y3 a3++sel y4 a4).map Zb.c)]):=by
 have hw:w (0+1)=1:=by decide
 cases hy:y0 with
 |true =>
  obtain⟨fr',h⟩:=en1 m q sizes mask a0 a1 a2 a3 a4 s0 s1 s2 s3 s4 false (out++[a0]) (by simp only[Yn,Ym,Ybr];omega) true y1 y2 y3 y4;refine⟨fr',Kk ?_⟩;rw[Ypx,Ya rfl,Ya rfl,hw]
  exact⟨by omega,by simpa[sel]using h⟩
 |false =>
  obtain⟨fr',h⟩:=en1 m q sizes mask a0 a1 a2 a3 a4 s0 s1 s2 s3 s4 fr out (by omega) false y1 y2 y3 y4;refine⟨fr',Kk ?_⟩;rw[Ypx,Ya rfl,Yb (by simp),hw];simpa[sel]using h
end
def Wa(a0 a1 a2 a3 a4:Zb):List Zb:=[a0,a1,a2,a3,a4].filter sm
def ZIp(m:Za)(q:Zj)(sizes:V6)(cc:Int)(a0 a1 a2 a3 a4:Zb):∃fr,Zgt m q sizes cc a0 a1 a2 a3 a4 (sm a0) (sm a1) (sm a2) (sm a3) (sm a4)=some (.own 1,[We m q sizes cc a0 a1 a2 a3 a4 (sm a0) (sm a1) (sm a2) (sm a3) (sm a4),.arr 287 4 fr ((Wa a0 a1 a2 a3 a4).map Zb.c)]):=by
 obtain⟨fr,h⟩:=en0 m q sizes cc a0 a1 a2 a3 a4 (sm a0) (sm a1) (sm a2) (sm a3) (sm a4) true [] (Yh _) (sm a0) (sm a1) (sm a2) (sm a3) (sm a4);refine⟨fr,U1.1.2.2 _ _ _ _ _ _ _ _ _ _ _ _ _ _ _ ?_⟩;have e:[]++sel (sm a0) a0++sel (sm a1) a1++sel (sm a2) a2++sel (sm a3) a3++sel (sm a4) a4=Wa a0 a1 a2 a3 a4:=by
  unfold Wa sel;simp only[Yb5,List.filter_nil];cases sm a0<;>cases sm a1<;>cases sm a2<;>cases sm a3<;>cases sm a4<;>rfl
 rw[e]at h;exact h
def ofM(l:List Zb)(c:Int):List Zb:=l.filter λe=>decide (e.Mask=c)
def ZIq(e:Zb):Xh [e]=e:=by simp[Xh,Vn]
def ZIr{l:List Zb}(h:l≠[])(e:Zb):Xh (l++[e])=Vn (Xh l) e:=by
 cases l with
 |nil=>exact absurd rfl h
 |cons a l=>simp[Xh,List.foldl_append]
def ZuP{l:List Zb}(h:l≠[]):Xh l∈l:=by
 have:∀(l:List Zb) (b:Zb),l.foldl Vn b=b\/l.foldl Vn b∈l:=by
  intro l
  induction l with
  |nil=>intro b;exact .inl rfl
  |cons a l ih =>
   intro b;rw[Y8];rcases ih (Vn b a)with h|h
   .rw[h];unfold Vn;split
    .exact .inr (by simp)
    .exact .inl rfl
   .exact .inr (List.mem_cons_of_mem _ h)
 cases l with
 |nil=>exact absurd rfl h
 |cons a l =>
  rcases this (a::l) a with e|e
  .rw[show Xh (a::l)=a from e];simp
  .exact e
def Z4i(l:List Zb)(c:Int){k:Nat}(h:k<l.length):ofM (l.take (k+1)) c=ofM (l.take k) c++(if l[k].Mask=c then[l[k]]else[]):=by
 unfold ofM;rw[ZnC _ h];by_cases e:l[k].Mask=c<;>simp[e]
def Z4j(l:List Zb)(c:Int):∀k,k<=l.length->(ofM (l.take k) c=[]->WE l c k=-1)/\(ofM (l.take k) c≠[]->0<=WE l c k/\l[(WE l c k).toNat]?=some (Xh (ofM (l.take k) c)))
 |0,_=>by simp[WE,ofM]
 |k+1,h=>by
  obtain⟨i1,i2⟩:=Z4j l c k (by omega);have hk:k<l.length:=by omega
  rw[Z4i l c hk];unfold WE;rw[Yf hk];by_cases e:l[k].Mask=c
  .simp only[Ya e];refine⟨λh=>by simp at h,λ_=>?_⟩;by_cases e0:ofM (l.take k) c=[]
   .have i:=i1 e0;rw[e0,Y7,ZIq]
    cases hc:l[(WE l c k).toNat]? with
    |none=>exact⟨by simp,by simp[Yf hk]⟩
    |some b =>
     simp only;rw[Ypx];exact⟨by omega,by simp[Yf hk]⟩
   .obtain⟨j1,j2⟩:=i2 e0;rw[j2,ZIr e0];simp only;rw[Ynx];unfold Vn;split
    .exact⟨by omega,by simp[Yf hk]⟩
    .exact⟨j1,j2⟩
  .simp only[Yb e,Ybb];exact⟨i1,i2⟩
def Zml{l:List Zb}{mask:Int}(h:ofM l mask≠[]):0<=low l mask/\l[(low l mask).toNat]?=some (Xh (ofM l mask)):=by
 have:=(Z4j l mask l.length (Yh _)).2;rw[Yp]at this;exact this h
def ofO(l:List Zb)(o:Int):Option Zb:=l.find? λe=>decide (e.Order=o)
def Z4k(l:List Zb)(c o:Int):∀(xs:List Zb) (k:Nat),l.drop k=xs->match ofO (ofM xs c) o with
  |none=>KV c o xs k=-1
  |some e=>0<=KV c o xs k/\l[(KV c o xs k).toNat]?=some e
 |[],k,h=>by simp[ofM,ofO,KV]
 |x::xs,k,h=>by
  have hk:l[k]?=some x:=by
   have:=congrArg (·[0]?) h;simpa using this
  have hd:l.drop (k+1)=xs:=by
   have:=congrArg (List.drop 1) h;simpa[Nat.add_comm]using this
  have ih:=Z4k l c o xs (k+1) hd;unfold KV;by_cases e:x.Mask=c
  .have e1:ofM (x::xs) c=x::ofM xs c:=by simp[ofM,e]
   rw[e1];by_cases e2:x.Order=o
   .have:ofO (x::ofM xs c) o=some x:=by simp[ofO,e2]
    rw[this,Ya ⟨e,e2⟩];exact⟨by omega,by simpa using hk⟩
   .have:ofO (x::ofM xs c) o=ofO (ofM xs c) o:=by simp[ofO,e2]
    rw[this,Yb (λh=>e2 h.2)];exact ih
  .have e1:ofM (x::xs) c=ofM xs c:=by simp[ofM,e]
   rw[e1,Yb (λh=>e h.1)];exact ih
def Z4l(l:List Zb)(mask o:Int):match ofO (ofM l mask) o with
  |none=>Wk l mask o=-1
  |some e=>0<=Wk l mask o/\l[(Wk l mask o).toNat]?=some e:=Z4k l mask o l 0 rfl
def Zil{a l:Int}{A L:Nat}(h1:-(A:Int)<=a)(h2:a<=A)(h3:0<=l)(h4:l<=L):-((A:Int)*L)<=a*l/\a*l<=(A:Int)*L:=by
 have e1:a*l<=(A:Int)*l:=Int.mul_le_mul_of_nonneg_right h2 h3;have e2:-(A:Int)*l<=a*l:=Int.mul_le_mul_of_nonneg_right h1 h3;have e3:(A:Int)*l<=(A:Int)*L:=Int.mul_le_mul_of_nonneg_left h4 (by omega);rw[Int.neg_mul]at e2;omega
def Zim{a:Int}(h:VN a=true):-99<=a/\a<=99:=by simp[VN,inR]at h;omega
def WF{x:Int}(h1:-9223372036854775808<=x)(h2:x<=9223372036854775807):w x=x:=Z1 h1 h2
def base_b{o:Z0}{l r n:Int}(hv:XY o=true)(hl:0<=l/\l<=4096)(hr:0<=r/\r<=4096)(hn:0<=n/\n<=4096):-1700000000<=J9 o l r n/\J9 o l r n<=1700000000:=by
 simp only[XY,Yg]at hv;obtain⟨⟨⟨⟨⟨⟨v1,v2⟩,v3⟩,v4⟩,v5⟩,v6⟩,v7⟩:=hv;have b1:=Zim v1;have b2:=Zim v2;have b3:=Zim v3;have b4:=Zim v4;have b5:=Zim v5;have m2:=Zil (A:=99) (L:=4096) b2.1 b2.2 hl.1 hl.2;have m3:=Zil (A:=99) (L:=4096) b3.1 b3.2 hr.1 hr.2;have m4:=Zil (A:=99) (L:=4096) b4.1 b4.2 hn.1 hn.2;have m5:=Zil (A:=99) (L:=4096) b5.1 b5.2 hl.1 hl.2;have m6:=Zil (A:=405504) (L:=4096) (a:=o.Zx*l) (l:=r) (by simpa using m5.1) (by simpa using m5.2) hr.1 hr.2;simp at m2 m3 m4 m5 m6;unfold J9;rw[WF (x:=o.Zv*l) (by omega) (by omega),WF (x:=o.Zw*r) (by omega) (by omega),WF (x:=o.Zz*n) (by omega) (by omega),WF (x:=o.Zx*l) (by omega) (by omega),WF (x:=o.Zx*l*r) (by omega) (by omega)];rw[WF (x:=o.Fixed+o.Zv*l) (by omega) (by omega),WF (x:=o.Fixed+o.Zv*l+o.Zw*r) (by omega) (by omega),WF (x:=o.Fixed+o.Zv*l+o.Zw*r+o.Zz*n) (by omega) (by omega),WF (by omega) (by omega)];omega
def Z4m{l r:Int}:∀{st:List Zd} {p n B:Int},Q9 p st=true->B+99*st.length<=1000000000000->-B<=n/\n<=B->-(B+99*st.length)<=st.foldl (QA l r) n/\st.foldl (QA l r) n<=B+99*st.length
 |[],p,n,B,_,_,h=>by simp;omega
 |s::st,p,n,B,hs,hB,h=>by
  simp only[Q9,Yg]at hs;have ha:=hs.1.1.2;simp[inR]at ha;simp only[Ym]at hB|-;have e:-(B+99)<=QA l r n s/\QA l r n s<=B+99:=by
   unfold QA;split
   .rw[WF (by omega) (by omega)];omega
   .omega
  have g:=Z4m (l:=l) (r:=r) hs.2 (by omega) e;rw[Y8];omega
def Ze9(o:Z0)(l r n:Int):-2000000000<=XB o l r n/\XB o l r n<=2000000000:=by
 unfold XB;split
 .rename_i h;simp only[Yg]at h;obtain⟨⟨⟨hv,hl⟩,hr⟩,hn⟩:=h;simp[inR]at hl hr hn;have b:=base_b hv hl hr hn;simp only[XY,Yg,decide_eq_true_eq]at hv;have:=Z4m (l:=l) (r:=r) (B:=1700000000) hv.2 (by have:=hv.1.2;omega) b;have:=hv.1.2;unfold Zen;omega
 .omega
def ZIs{o:Z0}(h:XZ o){a b c:Int}(ha:0<=a/\a<=7)(hb:0<=b/\b<=7)(hc:0<=c/\c<=7):1<=XB o (W5 a) (W5 b) (W5 c):=by
 have h3:¬tcl o [a,b,c]<1:=λhh=>h.2.2 ⟨[a,b,c],⟨a,b,c,rfl,ha,hb,hc⟩,hh⟩
 simp[XB,h.1,Zeo ha.1 ha.2,Zeo hb.1 hb.2,Zeo hc.1 hc.2];simp[tcl]at h3;omega
def U7(sizes:V6):Prop:=∀s∈sizes,∃a,(0<=a/\a<=7)/\s=W5 a
def Z4n{sizes:V6}(h:U7 sizes)(k:Int):∃a,(0<=a/\a<=7)/\ZE sizes k=W5 a:=by
 unfold ZE
 cases e:sizes[k.toNat]? with
 |none=>exact⟨0,by omega,by decide⟩
 |some s=>exact h s (Y6 e)
def Z4o{o:Z0}(h:XZ o){sizes:V6}(hs:U7 sizes)(a b:Int):1<=XB o (ZE sizes a) 0 (ZE sizes b):=by
 obtain⟨x,hx,ex⟩:=Z4n hs a;obtain⟨y,hy,ey⟩:=Z4n hs b;rw[ex,ey,show(0:Int)=W5 0 by decide];exact ZIs h hx (by omega) hy
def ZIt{l:V6}(h:XP l=true):U7 (WP l):=by
 intro s hs;simp only[WP,Yr]at hs;obtain⟨a,ha,rfl⟩:=hs;refine⟨a,?_,rfl⟩;simp only[XP,Yg,Zaa,Yy]at h;have:=h.1 a ha;simp[inR]at this;omega
def Z4p{m:Za}{sizes:V6}{qa:List Ze}:∀{xs:List Zh} {S S':List MO} {c k B:Int},XC m sizes qa xs S c=some (S',k)->-B<=c/\c<=B->B+2000000000*xs.length<=1000000000000->-(B+2000000000*xs.length)<=k/\k<=B+2000000000*xs.length
 |[],S,S',c,k,B,h,hc,hB=>by simp[XC]at h;simp;omega
 |x::xs,S,S',c,k,B,h,hc,hB=>by
  rw[XC]at h;simp only[Ym]at hB|-
  cases hs:Vd m sizes qa x S with
  |none=>rw[hs]at h;cases h
  |some p =>
   obtain⟨S1,e⟩:=p;rw[hs]at h;have he:-2000000000<=e/\e<=2000000000:=by
    unfold Vd at hs;split at hs
    .split at hs
     .cases hs;exact Ze9 _ _ _ _
     .cases hs
    .split at hs
     .cases hs
     .split at hs
      .split at hs
       .split at hs
        .cases hs;exact Ze9 _ _ _ _
        .cases hs
       .cases hs
      .split at hs
       .split at hs
        .rw[Yq]at hs;obtain⟨o,_,ho⟩:=hs;cases ho;exact Ze9 _ _ _ _
        .cases hs
       .cases hs
   have:=Z4p (B:=B+2000000000) h (by rw[WF (by omega) (by omega)];omega) (by omega);omega
def X5.bound{m:Za}{sizes:V6}{qa:List Ze}{xs:List Zh}{a o c:Int}(h:X5 m sizes qa xs a o c)(hl:xs.length<=100):-200000000000<=c/\c<=200000000000:=by
 have:=Z4p (B:=0) h (by omega) (by omega);omega
