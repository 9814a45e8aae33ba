/-
  Parts of the proofs for this seat: TB PA PB OF OE TC CB.
-/
import Derived.Test.YthpdbpfamhcgiaaGreatP31
set_option linter.all false
set_option maxRecDepth 100000
set_option maxHeartbeats 4000000
namespace Go.Proofs.YthpdbpfamhcgiaaGreat
open Go.AM
def ZPh(a:Int):Zj3 a=some (.agg [.own 0],[.arr 258 3 true (([(⟨1,a,0⟩:Zj)]).map Zj.c)]):=Vv.2.2.2.2 _ _ rfl
def ZPi(a:Int):Zlp a=some (.agg [.own 0],[.arr 258 3 true (([(⟨1,a,0⟩:Zj)]).map Zj.c)]):=Ue.1.2.2.1 _ _ rfl
def Zqc(p:Zg)(h:p.Steps.length<=1000):Za0 p=some (.agg [.own 0],[.arr 258 3 true (p.Steps.map Zj.c)]):=UY.1.2.1 _ _ ⟨by omega,rfl⟩
def Vp(a b:List Zj)(k v:Int):List Zj:=a++b++[(⟨k,0,v⟩:Zj)]
def Zer(a:List Zj)(v:Int):List Zj:=a++[(⟨2,0,v⟩:Zj)]
theorem Zhx(a b:Zg)(k v:Int)(ha:a.Steps.length<=1000)(hb:b.Steps.length<=1000):JD a b k v=some (.agg [.own 0],[.arr 258 3 true ((Vp a.Steps b.Steps k v).map Zj.c)]) :=
 UY.1.2.2.1 _ _ _ _ _ ⟨_,Zqc a ha,by omega,by omega,rfl⟩
def Zcj(a b:Zg)(k v:Int)(ha:a.Steps.length<=1000)(hb:b.Steps.length<=1000):ZbK a b k v=some (.agg [.own 0],[.arr 258 3 true ((Vp a.Steps b.Steps k v).map Zj.c)]) :=
 Ue.2.1.2.1 _ _ _ _ _ ⟨by omega,by omega,by omega,rfl⟩
def ZPj(a:Zg)(v:Int)(ha:a.Steps.length<=1000):ZnQ a v=some (.agg [.own 0],[.arr 258 3 true ((Zer a.Steps v).map Zj.c)]) :=
 UY.2.2.1 _ _ _ ⟨_,Zqc a ha,by omega,rfl⟩
def ZBu(a:Zg)(v:Int)(ha:a.Steps.length<=1000):ZgL a v=some (.agg [.own 0],[.arr 258 3 true ((Zer a.Steps v).map Zj.c)]) :=
 Ue.2.2.2.2 _ _ _ ⟨by omega,by omega,rfl⟩
def Uv(l:List Zd)(c:Int):Nat->Int
 |0=>-1
 |k+1=>match l[k]? with
  |none=>Uv l c k
  |some e=>if e.Mask=c then(match l[(Uv l c k).toNat]? with
    |some b=>if Uv l c k<0 then(k:Int)else if e.Zv<b.Zv then(k:Int)else Uv l c k
    |none=>(k:Int))else Uv l c k
def ZBv(l:List Zd)(c:Int):∀k,-1<=Uv l c k/\Uv l c k<k
 |0=>by simp[Uv]
 |k+1=>by
  have ih:=ZBv l c k;unfold Uv
  grind
def low(l:List Zd)(c:Int):Int:=Uv l c l.length
def l_low(l:List Zd)(c:Int)(hl:l.length<=1000):∀i,i<=l.length->ZgK l c (Uv l c i) i=some (I (low l c),[]):=by
 refine down _ ?_ ?_
 .apply Ue.1.2.2.2;rw[Ynx];rfl
 .intro i hi ih;have h4:=Xd (i:=i) (by omega);have hb:=ZBv l c i;apply Ue.1.2.2.2;rw[Ypx];refine⟨by omega,l[i],by rw[Yh];exact Yf hi,?_⟩;rw[show w ((i:Int)+1)=((i+1:Nat):Int)from by rw[show w ((i:Int)+1)=(i:Int)+1 from h4];simp];unfold Uv at ih
  grind
def Zhy(l:List Zd)(c:Int)(hl:l.length<=1000):Za9 l c=some (I (low l c),[]):=Ue.2.1.1 _ _ _ (l_low l c hl 0 (Yc _))
def JR(cc c:Int):List Zd->Nat->Int
 |[],_=>-1
 |e::l,k=>if e.Mask=cc/\e.Zl=c then(k:Int)else JR cc c l (k+1)
def l_find(l:List Zd)(cc c:Int)(hl:l.length<=1000):∀i,i<=l.length->Zlq l cc c i=some (I (JR cc c (l.drop i) i),[]):=by
 refine down _ ?_ ?_
 .apply Ue.2.2.1;rw[Ynx];simp[JR]
 .intro i hi ih;have h4:=Xd (i:=i) (by omega);apply Ue.2.2.1;rw[Ypx,Yi hi];refine⟨by omega,l[i],by rw[Yh];exact Yf hi,?_⟩;rw[show w ((i:Int)+1)=((i+1:Nat):Int)from by rw[show w ((i:Int)+1)=(i:Int)+1 from h4];simp];unfold JR
  simp_all
def find(l:List Zd)(cc c:Int):Int:=JR cc c l 0
def Zqd(l:List Zd)(cc c:Int)(hl:l.length<=1000):ZdX l cc c=some (I (find l cc c),[]):=Ue.2.2.2.1 _ _ _ _ (l_find l cc c hl 0 (Yc _))
abbrev MO:=Int×Int
def QV(qa:List Ze)(x:Zj)(y z:MO):Option Int:=V0 qa x ⟨y.1,y.2,0,0⟩ ⟨z.1,z.2,0,0⟩
def ZPk(qa:List Ze)(x:Zj)(y z:Zo):QV qa x (y.Mask,y.Zl) (z.Mask,z.Zl)=V0 qa x y z:=by
 unfold QV V0;rfl
def VN(m:Zn)(sizes:V6)(qa:List Ze)(x:Zj)(S:List MO):Option (List MO×Int) :=
 if x.Zs=1 then(if inR x.Ze 0 (qa.length-1)=true/\x.Zl=0 then some ((shlI 1 x.Ze,(match qa[x.Ze.toNat]? with|some a=>a.Za.headD 0|none=>0))::S,XQ (mOp m 1) (ZU sizes (shlI 1 x.Ze)) 0 (ZU sizes (shlI 1 x.Ze)))else none)
 else if x.Ze≠0 then none
 else if x.Zs=2 then(match S with
  |y::S=>if vin qa y.1 x.Zl=true/\y.2≠x.Zl then some ((y.1,x.Zl)::S,XQ (mOp m 2) (ZU sizes y.1) 0 (ZU sizes y.1))else none
  |[]=>none)
 else match S with
  |z::y::S=>if andI y.1 z.1=0/\shr qa y.1 z.1=true then(QV qa x y z).map (λo=>((orI y.1 z.1,o)::S,XQ (mOp m x.Zs) (ZU sizes y.1) (ZU sizes z.1) (ZU sizes (orI y.1 z.1))))else none
  |_=>none
def Wi(m:Zn)(sizes:V6)(qa:List Ze):List Zj->List MO->Int->Option (List MO×Int)
 |[],S,c=>some (S,c)
 |x::xs,S,c=>match VN m sizes qa x S with
  |none=>none
  |some (S',k)=>Wi m sizes qa xs S' (w (c+k))
def Zhz(info:List Zo)(i:Int):Int:=match info[i.toNat]? with|some y=>y.Zl|none=>0
def vw(info:List Zo)(rs:V6):List MO:=rs.map λs=>(Ug info s,Zhz info s)
def top1{info:List Zo}{s:Int}{rs:V6}:WL (s::rs).reverse info 1=(info[s.toNat]?).map (s,·):=by
 simp[WL]
def top2{info:List Zo}{t s:Int}{rs:V6}:WL (t::s::rs).reverse info 2=(info[s.toNat]?).map (s,·):=by
 simp[WL]
def top0{info:List Zo}:WL [] info 1=none:=by simp[WL]
def top02{info:List Zo}:WL [] info 2=none:=by simp[WL]
def top12{info:List Zo}{s:Int}:WL [s] info 2=none:=by simp[WL]
def ZPl(m:Zn)(sizes:V6)(qa:List Ze)(x:Zj)(info:List Zo)(rs:V6)(hs:Um info rs.reverse):match VE qa x info rs.reverse with
  |none=>VN m sizes qa x (vw info rs)=none
  |some y=>VN m sizes qa x (vw info rs)=some ((y.Mask,y.Zl)::(vw info rs).drop (Wu y),Q1 m info sizes x y):=by
 unfold VE VN;by_cases k1:x.Zs=1
 .simp only[Ya k1];by_cases c:inR x.Ze 0 (qa.length-1)=true/\x.Zl=0
  .simp[Ya c,Wu,Q1,k1];rfl
  .simp[Yb c]
 .simp only[Yb k1];by_cases ka:x.Ze≠0
  .simp[Ya ka]
  .simp only[Yb ka];by_cases k2:x.Zs=2
   .simp only[Ya k2]
    cases rs with
    |nil=>simp[vw,top0]
    |cons s rs =>
     obtain⟨h0,h1⟩:=hs s (by simp);have e:info[s.toNat]?=some info[s.toNat]:=Yf h1;rw[top1,e];simp only[Option.map_some,vw,Y0,Ug,Zhz,e];by_cases c:vin qa info[s.toNat].Mask x.Zl=true/\info[s.toNat].Zl≠x.Zl
     .have hn:¬s<0:=by omega
      simp[Ya c,Wu,Q1,k2,Ug,e,h0,hn]
     .simp[Yb c]
   .simp only[Yb k2]
    match rs,hs with
    |[],_=>simp[vw,top02]
    |[s],_=>simp[vw,top12]
    |t::s::rs,hs =>
     obtain⟨h0,h1⟩:=hs s (by simp);obtain⟨t0,t1⟩:=hs t (by simp);have e:info[s.toNat]?=some info[s.toNat]:=Yf h1;have et:info[t.toNat]?=some info[t.toNat]:=Yf t1;rw[top1,top2,e,et];simp only[Option.map_some,vw,Y0,Ug,Zhz,e,et];by_cases c:andI info[s.toNat].Mask info[t.toNat].Mask=0/\shr qa info[s.toNat].Mask info[t.toNat].Mask=true
     .simp only[Ya c,ZPk]
      cases ho:V0 qa x info[s.toNat] info[t.toNat]with
      |none=>simp
      |some o =>
       have hn:¬s<0:=by omega
       have tn:¬t<0:=by omega
       simp[Wu,Q1,Ug,e,et,h0,t0,hn,tn]
     .simp[Yb c]
def vw_ext{info tail:List Zo}{rs:V6}(hs:∀s∈rs,0<=s/\s.toNat<info.length):vw (info++tail) rs=vw info rs:=by
 unfold vw;refine Yb6 λs h=>?_
 have:=(hs s h).2;simp[Ug,Zhz,Yco this]
def ZPm{m:Zn}{sizes:V6}{info tail:List Zo}{x:Zj}{y:Zo}(h:Zep info.length x y):Q1 m (info++tail) sizes x y=Q1 m info sizes x y:=by
 unfold Q1;rcases h.refs with⟨a,b⟩|⟨⟨a,a'⟩,b⟩
 .simp[a,b]
 .have e1:Ug (info++tail) y.Left=Ug info y.Left:=by simp[Ug,Yco a']
  rcases b with b|⟨b,b'⟩
  .simp[b,e1]
  .have e2:Ug (info++tail) y.Right=Ug info y.Right:=by simp[Ug,Yco b']
   simp[e1,e2]
def ZBw(m:Zn)(sizes:V6)(qa:List Ze):∀(xs:List Zj) (info:List Zo) (rs:V6) (c:Int),Um info rs.reverse->
  match WM qa xs info.length info rs.reverse with
  |none=>Wi m sizes qa xs (vw info rs) c=none
  |some (info',st')=>∃tail,info'=info++tail/\tail.length=xs.length/\Wi m sizes qa xs (vw info rs) c=some (vw info' st'.reverse,ZaS (Kz m info' sizes xs tail) c)
 |[],info,rs,c,hs=>by
  simp only[WM,Wi]
  exact⟨[],by simp,rfl,by simp[Kz,ZaS]⟩
 |x::xs,info,rs,c,hs=>by
  have hv:=ZPl m sizes qa x info rs hs;rw[WM,Wi]
  cases hy:VE qa x info rs.reverse with
  |none=>rw[hy]at hv;simp only at hv;rw[hv]
  |some y =>
   rw[hy]at hv;simp only at hv;rw[hv];simp only;have ho:=ZBm hs hy;have hn:=ZeN hs y (rs.reverse.length-Wu y);have er:rs.reverse.take (rs.reverse.length-Wu y)++[(info.length:Int)]=((info.length:Int)::rs.drop (Wu y)).reverse:=by
    rw[List.reverse_cons,List.reverse_drop,List.length_reverse]
   rw[er]at hn|-;have ih:=ZBw m sizes qa xs (info++[y]) ((info.length:Int)::rs.drop (Wu y)) (w (c+Q1 m info sizes x y)) hn;have ev:vw (info++[y]) ((info.length:Int)::rs.drop (Wu y))=(y.Mask,y.Zl)::(vw info rs).drop (Wu y):=by
    have:=vw_ext (info:=info) (tail:=[y]) (rs:=rs.drop (Wu y)) (λs h=>hs s (by simp;exact Ycr h));rw[show vw (info++[y]) ((info.length:Int)::rs.drop (Wu y))=(Ug (info++[y]) info.length,Zhz (info++[y]) info.length)::vw (info++[y]) (rs.drop (Wu y))from rfl,this];simp[Ug,Zhz,vw,List.map_drop]
   rw[ev]at ih;rw[show(info++[y]).length=info.length+1 by simp]at ih;split at ih
   .exact ih
   .rename_i info' st' hg;obtain⟨tail,a,b,d⟩:=ih;refine⟨y::tail,by simp[a],by simp[b],?_⟩;rw[d];have e2:Q1 m info' sizes x y=Q1 m info sizes x y:=by rw[a,Y6];exact ZPm ho
    simp[Kz,ZaS,e2]
def ZPn{m:Zn}{n:Int}{qa:List Ze}{sizes:V6}{steps:List Zj}{y:MO}{c:Int}(hv:Z9 n qa=true)(hl:1<=steps.length/\steps.length<=14)(hs:VM n qa sizes=true)(h:Wi m sizes qa steps [] 0=some ([y],c)):ZaT m n qa steps sizes=c:=by
 have g:=ZBw m sizes qa steps [] [] 0 (λs h=>by simp at h);simp only[Ybj,List.reverse_nil]at g;have hr:inR (steps.length:Int) 1 14=true:=by simp[inR];omega
 cases hg:WM qa steps 0 [] []with
 |none=>rw[hg]at g;simp only[vw,Yca]at g;rw[g]at h;cases h
 |some p =>
  obtain⟨info',st'⟩:=p;rw[hg]at g;obtain⟨tail,a,b,d⟩:=g;simp only[vw,Yca]at d;rw[d]at h;simp only[Ybi]at a;subst a
  cases h':st'.reverse with
  |nil=>rw[h']at h;simp at h
  |cons s rs =>
   rw[h']at h;simp only[Y0,Ybe,Ybr,Yc0,List.map_eq_nil_iff]at h;have hlen:st'.length=1:=by rw[<-List.length_reverse,h',h.1.2];rfl
   have hi:Wv n qa steps=some info':=by simp[Wv,hv,hr,hg,hlen]
   simp[ZaT,Zeq,Zci,hi,hs,h.2]
theorem w_eq(x:Int):w x=(x+9223372036854775808) % 18446744073709551616-9223372036854775808:=by
 simp only[w,IntKind.wrap,IntKind.signed,IntKind.bits,Yn]
 grind
def w_w(x:Int):w (w x)=w x:=by rw[w_eq,w_eq];omega
def Zqe(m:Zn)(sizes:V6)(qa:List Ze):∀(xs ys:List Zj) (S:List MO) (c:Int),Wi m sizes qa (xs++ys) S c=match Wi m sizes qa xs S c with
  |none=>none
  |some (S',c')=>Wi m sizes qa ys S' c'
 |[],ys,S,c=>by simp[Wi]
 |x::xs,ys,S,c=>by
  rw[Ydf,Wi,Wi]
  cases VN m sizes qa x S with
  |none=>rfl
  |some p=>simp only;exact Zqe m sizes qa xs ys p.1 _
def ZPo{m:Zn}{sizes:V6}{qa:List Ze}{x:Zj}{S S' B:List MO}{c:Int}(h:VN m sizes qa x S=some (S',c)):VN m sizes qa x (S++B)=some (S'++B,c):=by
 unfold VN at h|-;by_cases k1:x.Zs=1
 .grind
 .simp only[Yb k1]at h|-;by_cases ka:x.Ze≠0
  .simp[Ya ka]at h
  .simp only[Yb ka]at h|-;by_cases k2:x.Zs=2
   .grind
   .simp only[Yb k2]at h|-
    match S,h with
    |[],h=>cases h
    |[y],h=>cases h
    |z::y::S,h =>
     simp only[Ydf]at h|-;split at h
     .rename_i hc;rw[Ya hc]
      cases ho:QV qa x y z with
      |none=>rw[ho]at h;cases h
      |some o=>rw[ho]at h;cases h;rfl
     .cases h
def ZBx{m:Zn}{sizes:V6}{qa:List Ze}{B:List MO}:∀{xs:List Zj} {S S':List MO} {c c':Int},Wi m sizes qa xs S c=some (S',c')->Wi m sizes qa xs (S++B) c=some (S'++B,c')
 |[],S,S',c,c',h=>by simp[Wi]at h|-;simp[h]
 |x::xs,S,S',c,c',h=>by
  rw[Wi]at h|-
  cases hs:VN m sizes qa x S with
  |none=>rw[hs]at h;cases h
  |some p=>rw[hs]at h;rw[ZPo hs];exact ZBx h
def ZBy{m:Zn}{sizes:V6}{qa:List Ze}:∀{xs:List Zj} {S S':List MO} {a k:Int},Wi m sizes qa xs S a=some (S',k)->∀c,w c=c->Wi m sizes qa xs S c=some (S',w (c+(k-a)))
 |[],S,S',a,k,h,c,hc=>by
  simp[Wi]at h|-
  simp_all
 |x::xs,S,S',a,k,h,c,hc=>by
  rw[Wi]at h|-
  cases hs:VN m sizes qa x S with
  |none=>rw[hs]at h;cases h
  |some p =>
   obtain⟨S1,e⟩:=p;rw[hs]at h;simp only at h|-;rw[ZBy h (w (c+e)) (w_w _)]
   grind [w_eq]
def ZBz{m:Zn}{sizes:V6}{qa:List Ze}:∀{xs:List Zj} {S S':List MO} {a k:Int},Wi m sizes qa xs S a=some (S',k)->w a=a->w k=k
 |[],S,S',a,k,h,ha=>by simp[Wi]at h;rw[<-h.2];exact ha
 |x::xs,S,S',a,k,h,ha=>by
  rw[Wi]at h
  cases hs:VN m sizes qa x S with
  |none=>rw[hs]at h;cases h
  |some p=>rw[hs]at h;exact ZBz h (w_w _)
def XY(m:Zn)(sizes:V6)(qa:List Ze)(xs:List Zj)(cd cc c:Int):Prop:=Wi m sizes qa xs [] 0=some ([(cd,cc)],c)
def XY.can{m:Zn}{sizes:V6}{qa:List Ze}{xs:List Zj}{a o c:Int}(h:XY m sizes qa xs a o c):w c=c:=ZBz h rfl
def XY.on{m:Zn}{sizes:V6}{qa:List Ze}{xs:List Zj}{a o c:Int}(h:XY m sizes qa xs a o c)(B:List MO)(d:Int)(hd:w d=d):Wi m sizes qa xs B d=some ((a,o)::B,w (d+c)):=by
 have:=ZBx (B:=B) (ZBy h d hd)
 simp_all
def ZB0{m:Zn}{sizes:V6}{qa:List Ze}{xs ys:List Zj}{a o c b p d:Int}{x:Zj}{r:Int}(hx:XY m sizes qa xs a o c)(hy:XY m sizes qa ys b p d)(hk:3<=x.Zs)(cc:x.Ze=0)(hd:andI a b=0)(cd:shr qa a b=true)(ho:QV qa x (a,o) (b,p)=some r) :
  XY m sizes qa (xs++ys++[x]) (orI a b) r (w (w (c+d)+XQ (mOp m x.Zs) (ZU sizes a) (ZU sizes b) (ZU sizes (orI a b)))):=by
 unfold XY at *
 rw[Zqe,Zqe,hx];simp only;rw[XY.on hy _ _ (XY.can hx)];simp only;rw[Wi];have hs:VN m sizes qa x [(b,p),(a,o)]=some ([(orI a b,r)],XQ (mOp m x.Zs) (ZU sizes a) (ZU sizes b) (ZU sizes (orI a b))):=by
  unfold VN
  grind
 rw[hs];rfl
def ZPp{m:Zn}{sizes:V6}{qa:List Ze}{xs:List Zj}{a o c v:Int}(hx:XY m sizes qa xs a o c)(hv:vin qa a v=true)(ho:o≠v) :
  XY m sizes qa (Zer xs v) a v (w (c+XQ m.Zz (ZU sizes a) 0 (ZU sizes a))):=by
 unfold XY at *
 rw[Zer,Zqe,hx];simp only;rw[Wi];have hs:VN m sizes qa ⟨2,0,v⟩ [(a,o)]=some ([(a,v)],XQ m.Zz (ZU sizes a) 0 (ZU sizes a)):=by
  unfold VN;simp[hv,ho,mOp]
 rw[hs];rfl
def ZPq{m:Zn}{sizes:V6}{qa:List Ze}{i:Nat}(h:i<qa.length) :
  XY m sizes qa [⟨1,i,0⟩] (shlI 1 i) (qa[i].Za.headD 0) (w (XQ m.Z1 (ZU sizes (shlI 1 i)) 0 (ZU sizes (shlI 1 i)))):=by
 unfold XY;rw[Wi];have hi:inR (i:Int) 0 (qa.length-1)=true:=by simp[inR];omega
 have hs:VN m sizes qa ⟨1,i,0⟩ []=some ([(shlI 1 i,qa[i].Za.headD 0)],XQ m.Z1 (ZU sizes (shlI 1 i)) 0 (ZU sizes (shlI 1 i))):=by
  unfold VN;simp[hi,mOp,Yf h]
 rw[hs];simp[Wi]
def XY.cost{m:Zn}{sizes:V6}{n:Int}{qa:List Ze}{xs:List Zj}{a o c:Int}(h:XY m sizes qa xs a o c)(hv:Z9 n qa=true)(hl:1<=xs.length/\xs.length<=14)(hs:VM n qa sizes=true):ZaT m n qa xs sizes=c:=ZPn hv hl hs h
def ZB1{qa:List Ze}{y z:MO}:QV qa ⟨3,0,0⟩ y z=some (-1):=by simp[QV,V0]
def ZB2{qa:List Ze}{y z:MO}:QV qa ⟨5,0,0⟩ y z=some y.2:=by simp[QV,V0]
def ZB3{qa:List Ze}{y z:MO}{v:Int}(h1:vin qa y.1 v=true)(h2:vin qa z.1 v=true)(h3:y.2=v)(h4:z.2=v):QV qa ⟨4,0,v⟩ y z=some v:=by simp[QV,V0,h1,h2,h3,h4]
def Uh(b e:Zd):Zd:=if e.Zv<b.Zv then e else b
def ZPr(a b c:Int)(l:List Zd)(hl:l.length<=1000):∀i,i<=l.length->∀best,ZfA a b c best l l.length i=some (.agg (((l.drop i).foldl Uh best).c.map .t),[]):=by
 refine down _ ?_ ?_
 .simp[UY.1.1.1]
 .intro i hi ih best;have h4:=Xd (i:=i) (by omega);apply UY.1.1.1;rw[Ypx,Yi hi,Y7];refine⟨by omega,l[i],by rw[Yh];exact Yf hi,?_⟩;rw[show w ((i:Int)+1)=((i+1:Nat):Int)from by rw[show w ((i:Int)+1)=(i:Int)+1 from h4];simp];by_cases e:l[i].Zv<best.Zv
  .rw[Ya e,show Uh best l[i]=l[i] by simp[Uh,e]];exact ih _
  .rw[Yb e,show Uh best l[i]=best by simp[Uh,e]];exact ih _
def Xz(l:List Zd):Zd:=match l with|[]=>⟨0,0,0,⟨[]⟩⟩|e::l=>(e::l).foldl Uh e
def Zqf(l:List Zd)(h0:l≠[])(hl:l.length<=1000):Zdw l=some (.agg ((Xz l).c.map .t),[]):=by
 cases l with
 |nil=>exact absurd rfl h0
 |cons e l =>
  refine UY.1.1.2 _ _ ⟨e,rfl,?_⟩;have:=ZPr 0 0 0 (e::l) hl 0 (Yc _) e;simpa[Xz]using this
def W0(e:Zd)(cc a c:Int)(x:List Zj):Zd:=if e.Mask=0 then⟨cc,a,c,⟨x⟩⟩else if c<e.Zv then⟨cc,a,c,⟨x⟩⟩else e
def sm(e:Zd):Bool:=decide (e.Mask≠0)
def sm_off{e:Zd}{mask a cost:Int}{x:List Zj}(h:mask≠0):sm (W0 e mask a cost x)=true:=by
 unfold W0 sm
 grind
def XS(k:Int)(e:Zd)(cc a c:Int)(x:List Zj):Zd:=if a+1=k then W0 e cc a c x else e
def ZB4(m:Zn)(hm:LeM m)(q:Zf)(hq:LeQ q)(sizes:V6)(hs:Le sizes)(mask:Int)(h0:mask≠0)(a0 a1 a2 a3 a4:Zd)(x:List Zj)(a:Int)(ha:-1<=a/\a<=3)(c:Int)(hc:ZaT m q.Zk q.Zb x sizes=c):∃t,(t=.dead\/t=.arr 258 3 true (x.map Zj.c))/\
  Zaz m q sizes mask a0 a1 a2 a3 a4 (sm a0) (sm a1) (sm a2) (sm a3) (sm a4) x a=some (.tup [],[WF m q sizes mask (XS 0 a0 mask a c x) (XS 1 a1 mask a c x) (XS 2 a2 mask a c x) (XS 3 a3 mask a c x) (XS 4 a4 mask a c x) (sm (XS 0 a0 mask a c x)) (sm (XS 1 a1 mask a c x)) (sm (XS 2 a2 mask a c x)) (sm (XS 3 a3 mask a c x)) (sm (XS 4 a4 mask a c x)),t]):=by
 have hcost:=ZBt m hm q hq ⟨x⟩ sizes hs;rw[show ZaT m q.Zk q.Zb (Zg.mk x).Steps sizes=c from hc]at hcost;have h5:a=-1\/a=0\/a=1\/a=2\/a=3:=by omega
 have key:∀e:Zd,(sm e=true/\c<e.Zv/\W0 e mask a c x=⟨mask,a,c,⟨x⟩⟩)\/(sm e=true/\¬c<e.Zv/\W0 e mask a c x=e)\/(sm e=false/\W0 e mask a c x=⟨mask,a,c,⟨x⟩⟩):=by
  intro e;by_cases e0:e.Mask=0
  .exact .inr (.inr ⟨by simp[sm,e0],by simp[W0,e0]⟩)
  .by_cases e1:c<e.Zv
   .exact .inl ⟨by simp[sm,e0],e1,by simp[W0,e0,e1]⟩
   .exact .inr (.inl ⟨by simp[sm,e0],e1,by simp[W0,e0,e1]⟩)
 have hsm:sm ⟨mask,a,c,⟨x⟩⟩=true:=by simp[sm,h0]
 have w0:w 0=0:=by decide
 have w1:w 1=1:=by decide
 have w2:w 2=2:=by decide
 have w3:w 3=3:=by decide
 have w4:w 4=4:=by decide
 rcases h5 with rfl|rfl|rfl|rfl|rfl
 .rcases key a0 with⟨k1,k2,k3⟩|⟨k1,k2,k3⟩|⟨k1,k3⟩
  .exact⟨_,.inl rfl,UX ⟨c,hcost,by simp[XS,k1,k2,k3,hsm,w0,w1,w2,w3,w4]⟩⟩
  .exact⟨_,.inr rfl,UX ⟨c,hcost,by simp[XS,k1,k2,k3,hsm,w0,w1,w2,w3,w4]⟩⟩
  .exact⟨_,.inl rfl,UX ⟨c,hcost,by simp[XS,k1,k3,hsm,w0,w1,w2,w3,w4]⟩⟩
 .rcases key a1 with⟨k1,k2,k3⟩|⟨k1,k2,k3⟩|⟨k1,k3⟩
  .exact⟨_,.inl rfl,UX ⟨c,hcost,by simp[XS,k1,k2,k3,hsm,w0,w1,w2,w3,w4]⟩⟩
  .exact⟨_,.inr rfl,UX ⟨c,hcost,by simp[XS,k1,k2,k3,hsm,w0,w1,w2,w3,w4]⟩⟩
  .exact⟨_,.inl rfl,UX ⟨c,hcost,by simp[XS,k1,k3,hsm,w0,w1,w2,w3,w4]⟩⟩
 .rcases key a2 with⟨k1,k2,k3⟩|⟨k1,k2,k3⟩|⟨k1,k3⟩
  .exact⟨_,.inl rfl,UX ⟨c,hcost,by simp[XS,k1,k2,k3,hsm,w0,w1,w2,w3,w4]⟩⟩
  .exact⟨_,.inr rfl,UX ⟨c,hcost,by simp[XS,k1,k2,k3,hsm,w0,w1,w2,w3,w4]⟩⟩
  .exact⟨_,.inl rfl,UX ⟨c,hcost,by simp[XS,k1,k3,hsm,w0,w1,w2,w3,w4]⟩⟩
 .rcases key a3 with⟨k1,k2,k3⟩|⟨k1,k2,k3⟩|⟨k1,k3⟩
  .exact⟨_,.inl rfl,UX ⟨c,hcost,by simp[XS,k1,k2,k3,hsm,w0,w1,w2,w3,w4]⟩⟩
  .exact⟨_,.inr rfl,UX ⟨c,hcost,by simp[XS,k1,k2,k3,hsm,w0,w1,w2,w3,w4]⟩⟩
  .exact⟨_,.inl rfl,UX ⟨c,hcost,by simp[XS,k1,k3,hsm,w0,w1,w2,w3,w4]⟩⟩
 .rcases key a4 with⟨k1,k2,k3⟩|⟨k1,k2,k3⟩|⟨k1,k3⟩
  .exact⟨_,.inl rfl,UX ⟨c,hcost,by simp[XS,k1,k2,k3,hsm,w0,w1,w2,w3,w4]⟩⟩
  .exact⟨_,.inr rfl,UX ⟨c,hcost,by simp[XS,k1,k2,k3,hsm,w0,w1,w2,w3,w4]⟩⟩
  .exact⟨_,.inl rfl,UX ⟨c,hcost,by simp[XS,k1,k3,hsm,w0,w1,w2,w3,w4]⟩⟩
def sel(y:Bool)(e:Zd):List Zd:=if y=true then[e]else[]
section
variable(m:Zn)(q:Zf)(sizes:V6)(mask:Int)(a0 a1 a2 a3 a4:Zd)(s0 s1 s2 s3 s4:Bool)
theorem en5(fr:Bool)(out:List Zd)(y0 y1 y2 y3 y4:Bool):∃fr',Wx m q sizes mask a0 a1 a2 a3 a4 s0 s1 s2 s3 s4 fr out y0 y1 y2 y3 y4 5=some (.own 1,[WF m q sizes mask a0 a1 a2 a3 a4 s0 s1 s2 s3 s4,.arr 328 4 fr' (out.map Zd.c)]) :=
 ⟨fr,Jd (by rw[Ynx])⟩
theorem en4(fr:Bool)(out:List Zd)(hl:out.length<=4)(y0 y1 y2 y3 y4:Bool):∃fr',Wx m q sizes mask a0 a1 a2 a3 a4 s0 s1 s2 s3 s4 fr out y0 y1 y2 y3 y4 4=some (.own 1,[WF m q sizes mask a0 a1 a2 a3 a4 s0 s1 s2 s3 s4,.arr 328 4 fr' ((out++sel y4 a4).map Zd.c)]):=by
 have hw:w (4+1)=5:=by decide
 cases hy:y4 with
 |true =>
  obtain⟨fr',h⟩:=en5 m q sizes mask a0 a1 a2 a3 a4 s0 s1 s2 s3 s4 false (out++[a4]) y0 y1 y2 y3 true;refine⟨fr',Jd ?_⟩;rw[Ypx,Ynx,Ynx,Ynx,Ynx,Ya rfl,Ya rfl,hw]
  exact⟨by omega,by simpa[sel]using h⟩
 |false =>
  obtain⟨fr',h⟩:=en5 m q sizes mask a0 a1 a2 a3 a4 s0 s1 s2 s3 s4 fr out y0 y1 y2 y3 false;refine⟨fr',Jd ?_⟩;rw[Ypx,Ynx,Ynx,Ynx,Ynx,Ya rfl,Yb (by simp),hw];simpa[sel]using h
theorem en3(fr:Bool)(out:List Zd)(hl:out.length<=3)(y0 y1 y2 y3 y4:Bool):∃fr',Wx m q sizes mask a0 a1 a2 a3 a4 s0 s1 s2 s3 s4 fr out y0 y1 y2 y3 y4 3=some (.own 1,[WF m q sizes mask a0 a1 a2 a3 a4 s0 s1 s2 s3 s4,.arr 328 4 fr' ((out++sel y3 a3++sel y4 a4).map Zd.c)]):=by
 have hw:w (3+1)=4:=by decide
 cases hy:y3 with
 |true =>
  obtain⟨fr',h⟩:=en4 m q sizes mask a0 a1 a2 a3 a4 s0 s1 s2 s3 s4 false (out++[a3]) (by simp only[Yq,Yw,Ybj];omega) y0 y1 y2 true y4;refine⟨fr',Jd ?_⟩;rw[Ypx,Ynx,Ynx,Ynx,Ya rfl,Ya rfl,hw]
  exact⟨by omega,by simpa[sel]using h⟩
 |false =>
  obtain⟨fr',h⟩:=en4 m q sizes mask a0 a1 a2 a3 a4 s0 s1 s2 s3 s4 fr out (by omega) y0 y1 y2 false y4;refine⟨fr',Jd ?_⟩;rw[Ypx,Ynx,Ynx,Ynx,Ya rfl,Yb (by simp),hw];simpa[sel]using h
theorem en2(fr:Bool)(out:List Zd)(hl:out.length<=2)(y0 y1 y2 y3 y4:Bool):∃fr',Wx m q sizes mask a0 a1 a2 a3 a4 s0 s1 s2 s3 s4 fr out y0 y1 y2 y3 y4 2=some (.own 1,[WF m q sizes mask a0 a1 a2 a3 a4 s0 s1 s2 s3 s4,.arr 328 4 fr' ((out++sel y2 a2++sel y3 a3++sel y4 a4).map Zd.c)]):=by
 have hw:w (2+1)=3:=by decide
 cases hy:y2 with
 |true =>
  obtain⟨fr',h⟩:=en3 m q sizes mask a0 a1 a2 a3 a4 s0 s1 s2 s3 s4 false (out++[a2]) (by simp only[Yq,Yw,Ybj];omega) y0 y1 true y3 y4;refine⟨fr',Jd ?_⟩;rw[Ypx,Ynx,Ynx,Ya rfl,Ya rfl,hw]
  exact⟨by omega,by simpa[sel]using h⟩
 |false =>
  obtain⟨fr',h⟩:=en3 m q sizes mask a0 a1 a2 a3 a4 s0 s1 s2 s3 s4 fr out (by omega) y0 y1 false y3 y4;refine⟨fr',Jd ?_⟩;rw[Ypx,Ynx,Ynx,Ya rfl,Yb (by simp),hw];simpa[sel]using h
theorem en1(fr:Bool)(out:List Zd)(hl:out.length<=1)(y0 y1 y2 y3 y4:Bool):∃fr',Wx m q sizes mask a0 a1 a2 a3 a4 s0 s1 s2 s3 s4 fr out y0 y1 y2 y3 y4 1=some (.own 1,[WF m q sizes mask a0 a1 a2 a3 a4 s0 s1 s2 s3 s4,.arr 328 4 fr' ((out++sel y1 a1++sel y2 a2++sel y3 a3++sel y4 a4).map Zd.c)]):=by
 have hw:w (1+1)=2:=by decide
 cases hy:y1 with
 |true =>
  obtain⟨fr',h⟩:=en2 m q sizes mask a0 a1 a2 a3 a4 s0 s1 s2 s3 s4 false (out++[a1]) (by simp only[Yq,Yw,Ybj];omega) y0 true y2 y3 y4;refine⟨fr',Jd ?_⟩;rw[Ypx,Ynx,Ya rfl,Ya rfl,hw]
  exact⟨by omega,by simpa[sel]using h⟩
 |false =>
  obtain⟨fr',h⟩:=en2 m q sizes mask a0 a1 a2 a3 a4 s0 s1 s2 s3 s4 fr out (by omega) y0 false y2 y3 y4;refine⟨fr',Jd ?_⟩;rw[Ypx,Ynx,Ya rfl,Yb (by simp),hw];simpa[sel]using h
theorem en0(fr:Bool)(out:List Zd)(hl:out.length<=0)(y0 y1 y2 y3 y4:Bool):∃fr',Wx m q sizes mask a0 a1 a2 a3 a4 s0 s1 s2 s3 s4 fr out y0 y1 y2 y3 y4 0=some (.own 1,[WF m q sizes mask a0 a1 a2 a3 a4 s0 s1 s2 s3 s4,.arr 328 4 fr' ((out++sel y0 a0++sel y1 a1++sel y2 a2++sel y3 a3++sel y4 a4).map Zd.c)]):=by
 have hw:w (0+1)=1:=by decide
 cases hy:y0 with
 |true =>
  obtain⟨fr',h⟩:=en1 m q sizes mask a0 a1 a2 a3 a4 s0 s1 s2 s3 s4 false (out++[a0]) (by simp only[Yq,Yw,Ybj];omega) true y1 y2 y3 y4;refine⟨fr',Jd ?_⟩;rw[Ypx,Ya rfl,Ya rfl,hw]
  exact⟨by omega,by simpa[sel]using h⟩
 |false =>
  obtain⟨fr',h⟩:=en1 m q sizes mask a0 a1 a2 a3 a4 s0 s1 s2 s3 s4 fr out (by omega) false y1 y2 y3 y4;refine⟨fr',Jd ?_⟩;rw[Ypx,Ya rfl,Yb (by simp),hw];simpa[sel]using h
end
def WP(a0 a1 a2 a3 a4:Zd):List Zd:=[a0,a1,a2,a3,a4].filter sm
def ZPs(m:Zn)(q:Zf)(sizes:V6)(cc:Int)(a0 a1 a2 a3 a4:Zd):∃fr,ZjF m q sizes cc a0 a1 a2 a3 a4 (sm a0) (sm a1) (sm a2) (sm a3) (sm a4)=some (.own 1,[WF m q sizes cc a0 a1 a2 a3 a4 (sm a0) (sm a1) (sm a2) (sm a3) (sm a4),.arr 328 4 fr ((WP a0 a1 a2 a3 a4).map Zd.c)]):=by
 obtain⟨fr,h⟩:=en0 m q sizes cc a0 a1 a2 a3 a4 (sm a0) (sm a1) (sm a2) (sm a3) (sm a4) true [] (Yj _) (sm a0) (sm a1) (sm a2) (sm a3) (sm a4);refine⟨fr,UY.1.2.2.2 _ _ _ _ _ _ _ _ _ _ _ _ _ _ _ ?_⟩;have e:[]++sel (sm a0) a0++sel (sm a1) a1++sel (sm a2) a2++sel (sm a3) a3++sel (sm a4) a4=WP a0 a1 a2 a3 a4:=by
  unfold WP sel;simp only[Yc7,List.filter_nil]
  grind
 rw[e]at h;exact h
def ofM(l:List Zd)(c:Int):List Zd:=l.filter λe=>decide (e.Mask=c)
def ZPt(e:Zd):Xz [e]=e:=by simp[Xz,Uh]
def ZPu{l:List Zd}(h:l≠[])(e:Zd):Xz (l++[e])=Uh (Xz l) e:=by
 cases l with
 |nil=>exact absurd rfl h
 |cons a l=>simp[Xz,List.foldl_append]
def Z0Y{l:List Zd}(h:l≠[]):Xz l∈l:=by
 have:∀(l:List Zd) (b:Zd),l.foldl Uh b=b\/l.foldl Uh b∈l:=by
  intro l
  induction l with
  |nil=>intro b;exact .inl rfl
  |cons a l ih =>
   intro b;rw[Y7];rcases ih (Uh b a)with h|h
   .rw[h];unfold Uh
    grind
   .simp_all
 cases l with
 |nil=>exact absurd rfl h
 |cons a l =>
  rcases this (a::l) a with e|e
  .rw[show Xz (a::l)=a from e];simp
  .exact e
def ZB5(l:List Zd)(c:Int){k:Nat}(h:k<l.length):ofM (l.take (k+1)) c=ofM (l.take k) c++(if l[k].Mask=c then[l[k]]else[]):=by
 unfold ofM
 simp_all [Zrg]
def ZB6(l:List Zd)(c:Int):∀k,k<=l.length->(ofM (l.take k) c=[]->Uv l c k=-1)/\(ofM (l.take k) c≠[]->0<=Uv l c k/\l[(Uv l c k).toNat]?=some (Xz (ofM (l.take k) c)))
 |0,_=>by simp[Uv,ofM]
 |k+1,h=>by
  obtain⟨i1,i2⟩:=ZB6 l c k (by omega);have hk:k<l.length:=by omega
  rw[ZB5 l c hk];unfold Uv;rw[Yf hk];by_cases e:l[k].Mask=c
  .simp only[Ya e];refine⟨λh=>by simp at h,λ_=>?_⟩;by_cases e0:ofM (l.take k) c=[]
   .have i:=i1 e0;rw[e0,Ybi,ZPt]
    grind
   .obtain⟨j1,j2⟩:=i2 e0;rw[j2,ZPu e0];simp only;rw[Ynx];unfold Uh
    grind
  .simp_all
def Zqg{l:List Zd}{mask:Int}(h:ofM l mask≠[]):0<=low l mask/\l[(low l mask).toNat]?=some (Xz (ofM l mask)):=by
 have:=(ZB6 l mask l.length (Yj _)).2;rw[Y2]at this;exact this h
def ofO(l:List Zd)(o:Int):Option Zd:=l.find? λe=>decide (e.Zl=o)
def ZB7(l:List Zd)(c o:Int):∀(xs:List Zd) (k:Nat),l.drop k=xs->match ofO (ofM xs c) o with
  |none=>JR c o xs k=-1
  |some e=>0<=JR c o xs k/\l[(JR c o xs k).toNat]?=some e
 |[],k,h=>by simp[ofM,ofO,JR]
 |x::xs,k,h=>by
  have hk:l[k]?=some x:=by
   have:=congrArg (·[0]?) h;simpa using this
  have hd:l.drop (k+1)=xs:=by
   have:=congrArg (List.drop 1) h;simpa[Nat.add_comm]using this
  have ih:=ZB7 l c o xs (k+1) hd;unfold JR;by_cases e:x.Mask=c
  .have e1:ofM (x::xs) c=x::ofM xs c:=by simp[ofM,e]
   rw[e1];by_cases e2:x.Zl=o
   .have:ofO (x::ofM xs c) o=some x:=by simp[ofO,e2]
    simp_all
   .have:ofO (x::ofM xs c) o=ofO (ofM xs c) o:=by simp[ofO,e2]
    simp_all
  .have e1:ofM (x::xs) c=ofM xs c:=by simp[ofM,e]
   simp_all
def ZB8(l:List Zd)(mask o:Int):match ofO (ofM l mask) o with
  |none=>find l mask o=-1
  |some e=>0<=find l mask o/\l[(find l mask o).toNat]?=some e:=ZB7 l mask o l 0 rfl
def ZlJ{a l:Int}{A L:Nat}(h1:-(A:Int)<=a)(h2:a<=A)(h3:0<=l)(h4:l<=L):-((A:Int)*L)<=a*l/\a*l<=(A:Int)*L:=by
 have e1:a*l<=(A:Int)*l:=Int.mul_le_mul_of_nonneg_right h2 h3;have e2:-(A:Int)*l<=a*l:=Int.mul_le_mul_of_nonneg_right h1 h3;have e3:(A:Int)*l<=(A:Int)*L:=Int.mul_le_mul_of_nonneg_left h4 (by omega)
 grind
def ZlK{a:Int}(h:U9 a=true):-99<=a/\a<=99:=by simp[U9,inR]at h;omega
theorem Q2{x:Int}(h1:-9223372036854775808<=x)(h2:x<=9223372036854775807):w x=x:=ZL h1 h2
def base_b{o:Z8}{l r n:Int}(hv:Wo o=true)(hl:0<=l/\l<=4096)(hr:0<=r/\r<=4096)(hn:0<=n/\n<=4096):-1700000000<=ZaC o l r n/\ZaC o l r n<=1700000000:=by
 simp only[Wo,Yg]at hv;obtain⟨⟨⟨⟨⟨⟨v1,v2⟩,v3⟩,v4⟩,v5⟩,v6⟩,v7⟩:=hv;have b1:=ZlK v1;have b2:=ZlK v2;have b3:=ZlK v3;have b4:=ZlK v4;have b5:=ZlK v5;have m2:=ZlJ (A:=99) (L:=4096) b2.1 b2.2 hl.1 hl.2;have m3:=ZlJ (A:=99) (L:=4096) b3.1 b3.2 hr.1 hr.2;have m4:=ZlJ (A:=99) (L:=4096) b4.1 b4.2 hn.1 hn.2;have m5:=ZlJ (A:=99) (L:=4096) b5.1 b5.2 hl.1 hl.2;have m6:=ZlJ (A:=405504) (L:=4096) (a:=o.ZH*l) (l:=r) (by simpa using m5.1) (by simpa using m5.2) hr.1 hr.2;simp at m2 m3 m4 m5 m6;unfold ZaC
 grind [Q2]
def ZB9{l r:Int}:∀{st:List Zx} {p n B:Int},Kp p st=true->B+99*st.length<=1000000000000->-B<=n/\n<=B->-(B+99*st.length)<=st.foldl (Kq l r) n/\st.foldl (Kq l r) n<=B+99*st.length
 |[],p,n,B,_,_,h=>by simp;omega
 |s::st,p,n,B,hs,hB,h=>by
  simp only[Kp,Yg]at hs;have ha:=hs.1.1.2;simp[inR]at ha;simp only[Yw]at hB|-;have e:-(B+99)<=Kq l r n s/\Kq l r n s<=B+99:=by
   unfold Kq
   grind [Q2]
  have g:=ZB9 (l:=l) (r:=r) hs.2 (by omega) e
  grind
def Zh0(o:Z8)(l r n:Int):-2000000000<=XQ o l r n/\XQ o l r n<=2000000000:=by
 unfold XQ;split
 .rename_i h;simp only[Yg]at h;obtain⟨⟨⟨hv,hl⟩,hr⟩,hn⟩:=h;simp[inR]at hl hr hn;have b:=base_b hv hl hr hn;simp only[Wo,Yg,decide_eq_true_eq]at hv;have:=ZB9 (l:=l) (r:=r) (B:=1700000000) hv.2 (by have:=hv.1.2;omega) b;have:=hv.1.2;unfold Zee;omega
 .omega
def ZPv{o:Z8}(h:WC o){a b c:Int}(ha:0<=a/\a<=7)(hb:0<=b/\b<=7)(hc:0<=c/\c<=7):1<=XQ o (Xt a) (Xt b) (Xt c):=by
 have h3:¬tcl o [a,b,c]<1:=λhh=>h.2.2 ⟨[a,b,c],⟨a,b,c,rfl,ha,hb,hc⟩,hh⟩
 simp[XQ,h.1,Zhb ha.1 ha.2,Zhb hb.1 hb.2,Zhb hc.1 hc.2];simp[tcl]at h3;omega
def Q3(sizes:V6):Prop:=∀s∈sizes,∃a,(0<=a/\a<=7)/\s=Xt a
def ZBA{sizes:V6}(h:Q3 sizes)(k:Int):∃a,(0<=a/\a<=7)/\ZU sizes k=Xt a:=by
 unfold ZU
 cases e:sizes[k.toNat]? with
 |none=>exact⟨0,by omega,by decide⟩
 |some s=>exact h s (Y8 e)
def ZBB{o:Z8}(h:WC o){sizes:V6}(hs:Q3 sizes)(a b:Int):1<=XQ o (ZU sizes a) 0 (ZU sizes b):=by
 obtain⟨x,hx,ex⟩:=ZBA hs a;obtain⟨y,hy,ey⟩:=ZBA hs b;rw[ex,ey,show(0:Int)=Xt 0 by decide]
 simp_all [ZPv]
def ZPw{l:V6}(h:Wt l=true):Q3 (Vo l):=by
 intro s hs;simp only[Vo,Yt]at hs;obtain⟨a,ha,rfl⟩:=hs;refine⟨a,?_,rfl⟩;simp only[Wt,Yg,J6,Yl]at h;have:=h.1 a ha;simp[inR]at this;omega
def ZBC{m:Zn}{sizes:V6}{qa:List Ze}:∀{xs:List Zj} {S S':List MO} {c k B:Int},Wi m sizes qa xs S c=some (S',k)->-B<=c/\c<=B->B+2000000000*xs.length<=1000000000000->-(B+2000000000*xs.length)<=k/\k<=B+2000000000*xs.length
 |[],S,S',c,k,B,h,hc,hB=>by simp[Wi]at h;simp;omega
 |x::xs,S,S',c,k,B,h,hc,hB=>by
  rw[Wi]at h;simp only[Yw]at hB|-
  cases hs:VN m sizes qa x S with
  |none=>rw[hs]at h;cases h
  |some p =>
   obtain⟨S1,e⟩:=p;rw[hs]at h;have he:-2000000000<=e/\e<=2000000000:=by
    unfold VN at hs;split at hs
    .split at hs
     .cases hs;exact Zh0 _ _ _ _
     .cases hs
    .split at hs
     .cases hs
     .split at hs
      .split at hs
       .split at hs
        .cases hs;exact Zh0 _ _ _ _
        .cases hs
       .cases hs
      .split at hs
       .split at hs
        .rw[Ys]at hs;obtain⟨o,_,ho⟩:=hs;cases ho;exact Zh0 _ _ _ _
        .cases hs
       .cases hs
   have:=ZBC (B:=B+2000000000) h (by rw[Q2 (by omega) (by omega)];omega) (by omega);omega
def XY.bound{m:Zn}{sizes:V6}{qa:List Ze}{xs:List Zj}{a o c:Int}(h:XY m sizes qa xs a o c)(hl:xs.length<=100):-200000000000<=c/\c<=200000000000:=by
 have:=ZBC (B:=0) h (by omega) (by omega);omega
