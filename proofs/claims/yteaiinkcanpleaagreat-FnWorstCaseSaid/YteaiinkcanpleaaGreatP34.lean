/-
  Parts of the proofs for this seat: TB PA PB OF OE TC CB IN.
-/
import Derived.Test.YteaiinkcanpleaaGreatP32
set_option linter.all false
set_option maxRecDepth 100000
set_option maxHeartbeats 4000000
namespace Go.Proofs.YteaiinkcanpleaaGreat
open Go.AM
def ZP7(a:Int):iQ a=some (.agg [.own 0],[.arr 149 3 true (([(⟨1,a,0⟩:Zk)]).map Zk.c)]):=Wf.2.2.2.2.1 _ _ rfl
def ZP8(a:Int):fN a=some (.agg [.own 0],[.arr 149 3 true (([(⟨1,a,0⟩:Zk)]).map Zk.c)]):=WY.2.2.1.1 _ _ rfl
def ZqW(p:Ze)(h:p.Steps.length<=1000):F8 p=some (.agg [.own 0],[.arr 149 3 true (p.Steps.map Zk.c)]):=US.1.2.1 _ _ ⟨Z,rfl⟩
def Ve(a b:List Zk)(k v:Int):List Zk:=a++b++[(⟨k,0,v⟩:Zk)]
def Oj(a:List Zk)(v:Int):List Zk:=a++[(⟨2,0,v⟩:Zk)]
theorem Tm(a b:Ze)(k v:Int)(ha:a.Steps.length<=1000)(hb:b.Steps.length<=1000):J8 a b k v=some (.agg [.own 0],[.arr 149 3 true ((Ve a.Steps b.Steps k v).map Zk.c)]) :=
 US.1.2.2.1 _ _ _ _ _ ⟨_,ZqW a ha,Z,Z,rfl⟩
def Ip(a b:Ze)(k v:Int)(ha:a.Steps.length<=1000)(hb:b.Steps.length<=1000):Hy a b k v=some (.agg [.own 0],[.arr 149 3 true ((Ve a.Steps b.Steps k v).map Zk.c)]) :=
 WY.2.2.2.2 _ _ _ _ _ ⟨Z,Z,Z,rfl⟩
def ZP9(a:Ze)(v:Int)(ha:a.Steps.length<=1000):Zp4 a v=some (.agg [.own 0],[.arr 149 3 true ((Oj a.Steps v).map Zk.c)]) :=
 US.2.2.1 _ _ _ ⟨_,ZqW a ha,Z,rfl⟩
def ZDa(a:Ze)(v:Int)(ha:a.Steps.length<=1000):fP a v=some (.agg [.own 0],[.arr 149 3 true ((Oj a.Steps v).map Zk.c)]) :=
 KO.1.2.2 _ _ _ ⟨Z,Z,rfl⟩
def Ul(l:List Zd)(mask:Int):Nat->Int
 |0=>-1
 |k+1=>match l[k]? with
  |none=>Ul l mask k
  |some e=>if e.Mask=mask then(match l[(Ul l mask k).toNat]? with
    |some b=>if Ul l mask k<0 then(k:Int)else if e.Cost<b.Cost then(k:Int)else Ul l mask k
    |none=>(k:Int))else Ul l mask k
def ZDb(l:List Zd)(mask:Int):∀k,-1<=Ul l mask k/\Ul l mask k<k
 |0=>by simp[Ul]
 |k+1=>by
  have ih:=ZDb l mask k;unfold Ul
  grind
def low(l:List Zd)(mask:Int):Int:=Ul l mask l.length
def pW(l:List Zd)(mask:Int)(hl:l.length<=1000):∀i,i<=l.length->RI l mask (Ul l mask i) i=some (I (low l mask),[]):=by
 refine down _ ?_ ?_
 .apply WY.2.2.1.2;rw[Ao];rfl
 .intro i hi ih;have h4:=Z7 (i:=i) Z;have hb:=ZDb l mask i;apply WY.2.2.1.2;rw[An];refine⟨Z,l[i],by rw[Yh];exact Yd hi,?_⟩;rw[show w ((i:Int)+1)=((i+1:Nat):Int)from by rw[show w ((i:Int)+1)=(i:Int)+1 from h4];simp];unfold Ul at ih
  grind
def Tn(l:List Zd)(mask:Int)(hl:l.length<=1000):F1 l mask=some (I (low l mask),[]):=WY.2.2.2.1 _ _ _ (pW l mask hl 0 (Yc _))
def JS(mask c:Int):List Zd->Nat->Int
 |[],_=>-1
 |e::l,k=>if e.Mask=mask/\e.Order=c then(k:Int)else JS mask c l (k+1)
def Ok(l:List Zd)(mask c:Int)(hl:l.length<=1000):∀i,i<=l.length->fO l mask c i=some (I (JS mask c (l.drop i) i),[]):=by
 refine down _ ?_ ?_
 .apply KO.1.1.2;rw[Ao];simp[JS]
 .intro i hi ih;have h4:=Z7 (i:=i) Z;apply KO.1.1.2;rw[An,Yi hi];refine⟨Z,l[i],by rw[Yh];exact Yd hi,?_⟩;rw[show w ((i:Int)+1)=((i+1:Nat):Int)from by rw[show w ((i:Int)+1)=(i:Int)+1 from h4];simp];unfold JS
  simp_all
def find(l:List Zd)(mask c:Int):Int:=JS mask c l 0
def ZqX(l:List Zd)(mask c:Int)(hl:l.length<=1000):RJ l mask c=some (I (find l mask c),[]):=KO.1.2.1 _ _ _ _ (Ok l mask c hl 0 (Yc _))
abbrev MO:=Int×Int
def QU(qa:List Zg)(x:Zk)(y z:MO):Option Int:=Vy qa x ⟨y.1,y.2,0,0⟩ ⟨z.1,z.2,0,0⟩
def ZPA(qa:List Zg)(x:Zk)(y z:Zp):QU qa x (y.Mask,y.Order) (z.Mask,z.Order)=Vy qa x y z:=by
 unfold QU Vy;rfl
def VE(m:Zf)(sizes:WL)(qa:List Zg)(x:Zk)(S:List MO):Option (List MO×Int) :=
 if x.Kind=1 then(if Al x.Zg 0 (qa.length-1)=true/\x.Order=0 then some ((Ac 1 x.Zg,(match qa[x.Zg.toNat]? with|some a=>a.Vars.headD 0|none=>0))::S,XL (BI m 1) (Z6 sizes (Ac 1 x.Zg)) 0 (Z6 sizes (Ac 1 x.Zg)))else none)
 else if x.Zg≠0 then none
 else if x.Kind=2 then(match S with
  |y::S=>if Bj qa y.1 x.Order=true/\y.2≠x.Order then some ((y.1,x.Order)::S,XL (BI m 2) (Z6 sizes y.1) 0 (Z6 sizes y.1))else none
  |[]=>none)
 else match S with
  |z::y::S=>if Ah y.1 z.1=0/\shr qa y.1 z.1=true then(QU qa x y z).map (λo=>((At y.1 z.1,o)::S,XL (BI m x.Kind) (Z6 sizes y.1) (Z6 sizes z.1) (Z6 sizes (At y.1 z.1))))else none
  |_=>none
def XF(m:Zf)(sizes:WL)(qa:List Zg):List Zk->List MO->Int->Option (List MO×Int)
 |[],S,c=>some (S,c)
 |x::xs,S,c=>match VE m sizes qa x S with
  |none=>none
  |some (S',k)=>XF m sizes qa xs S' (w (c+k))
def Tp(info:List Zp)(i:Int):Int:=match info[i.toNat]? with|some y=>y.Order|none=>0
def vw(info:List Zp)(rs:WL):List MO:=rs.map λs=>(Vr info s,Tp info s)
def pX{info:List Zp}{s:Int}{rs:WL}:W9 (s::rs).reverse info 1=(info[s.toNat]?).map (s,·):=by
 simp[W9]
def Abx{info:List Zp}{t s:Int}{rs:WL}:W9 (t::s::rs).reverse info 2=(info[s.toNat]?).map (s,·):=by
 simp[W9]
def Aby{info:List Zp}:W9 [] info 1=none:=by simp[W9]
def pY{info:List Zp}:W9 [] info 2=none:=by simp[W9]
def pZ{info:List Zp}{s:Int}:W9 [s] info 2=none:=by simp[W9]
def ZPB(m:Zf)(sizes:WL)(qa:List Zg)(x:Zk)(info:List Zp)(rs:WL)(hs:UT info rs.reverse):match Ue qa x info rs.reverse with
  |none=>VE m sizes qa x (vw info rs)=none
  |some y=>VE m sizes qa x (vw info rs)=some ((y.Mask,y.Order)::(vw info rs).drop (Wg y),Vs m info sizes x y):=by
 unfold Ue VE;by_cases k1:x.Kind=1
 .simp only[Ya k1];by_cases c:Al x.Zg 0 (qa.length-1)=true/\x.Order=0
  .simp[Ya c,Wg,Vs,k1];rfl
  .simp[Yb c]
 .simp only[Yb k1];by_cases ka:x.Zg≠0
  .simp[Ya ka]
  .simp only[Yb ka];by_cases k2:x.Kind=2
   .simp only[Ya k2]
    cases rs with
    |nil=>simp[vw,Aby]
    |cons s rs =>
     obtain⟨h0,h1⟩:=hs s Om;have e:info[s.toNat]?=some info[s.toNat]:=Yd h1;rw[pX,e];simp only[Option.map_some,vw,Yz,Vr,Tp,e];by_cases c:Bj qa info[s.toNat].Mask x.Order=true/\info[s.toNat].Order≠x.Order
     .have hn:¬s<0:=by omega
      simp[Ya c,Wg,Vs,k2,Vr,e,h0,hn]
     .simp[Yb c]
   .simp only[Yb k2]
    match rs,hs with
    |[],_=>simp[vw,pY]
    |[s],_=>simp[vw,pZ]
    |t::s::rs,hs =>
     obtain⟨h0,h1⟩:=hs s Om;obtain⟨t0,t1⟩:=hs t Om;have e:info[s.toNat]?=some info[s.toNat]:=Yd h1;have et:info[t.toNat]?=some info[t.toNat]:=Yd t1;rw[pX,Abx,e,et];simp only[Option.map_some,vw,Yz,Vr,Tp,e,et];by_cases c:Ah info[s.toNat].Mask info[t.toNat].Mask=0/\shr qa info[s.toNat].Mask info[t.toNat].Mask=true
     .simp only[Ya c,ZPA]
      cases ho:Vy qa x info[s.toNat] info[t.toNat]with
      |none=>simp
      |some o =>
       have hn:¬s<0:=by omega
       have tn:¬t<0:=by omega
       simp[Wg,Vs,Vr,e,et,h0,t0,hn,tn]
     .simp[Yb c]
def Ol{info tail:List Zp}{rs:WL}(hs:∀s∈rs,0<=s/\s.toNat<info.length):vw (info++tail) rs=vw info rs:=by
 unfold vw;refine EY λs h=>?_
 have:=(hs s h).2;simp[Vr,Tp,Yc8 this]
def ZPC{m:Zf}{sizes:WL}{info tail:List Zp}{x:Zk}{y:Zp}(h:Oc info.length x y):Vs m (info++tail) sizes x y=Vs m info sizes x y:=by
 unfold Vs;rcases h.refs with⟨a,b⟩|⟨⟨a,a'⟩,b⟩
 .simp[a,b]
 .have e1:Vr (info++tail) y.Left=Vr info y.Left:=by simp[Vr,Yc8 a']
  rcases b with b|⟨b,b'⟩
  .simp[b,e1]
  .have e2:Vr (info++tail) y.Right=Vr info y.Right:=by simp[Vr,Yc8 b']
   simp[e1,e2]
def Z2g(m:Zf)(sizes:WL)(qa:List Zg):∀(xs:List Zk) (info:List Zp) (rs:WL) (c:Int),UT info rs.reverse->
  match WQ qa xs info.length info rs.reverse with
  |none=>XF m sizes qa xs (vw info rs) c=none
  |some (Br,st')=>∃tail,Br=info++tail/\tail.length=xs.length/\XF m sizes qa xs (vw info rs) c=some (vw Br st'.reverse,VU (VT m Br sizes xs tail) c)
 |[],info,rs,c,hs=>by
  simp only[WQ,XF]
  exact⟨[],Om,rfl,by simp[VT,VU]⟩
 |x::xs,info,rs,c,hs=>by
  have hv:=ZPB m sizes qa x info rs hs;rw[WQ,XF]
  cases hy:Ue qa x info rs.reverse with
  |none=>rw[hy]at hv;simp only at hv;rw[hv]
  |some y =>
   rw[hy]at hv;simp only at hv;rw[hv];simp only;have ho:=ZCL hs hy;have hn:=kP hs y (rs.reverse.length-Wg y);have er:rs.reverse.take (rs.reverse.length-Wg y)++[(info.length:Int)]=((info.length:Int)::rs.drop (Wg y)).reverse:=by
    rw[List.reverse_cons,List.reverse_drop,List.length_reverse]
   rw[er]at hn|-;have ih:=Z2g m sizes qa xs (info++[y]) ((info.length:Int)::rs.drop (Wg y)) (w (c+Vs m info sizes x y)) hn;have ev:vw (info++[y]) ((info.length:Int)::rs.drop (Wg y))=(y.Mask,y.Order)::(vw info rs).drop (Wg y):=by
    have:=Ol (info:=info) (tail:=[y]) (rs:=rs.drop (Wg y)) (λs h=>hs s (by simp;exact OO h));rw[show vw (info++[y]) ((info.length:Int)::rs.drop (Wg y))=(Vr (info++[y]) info.length,Tp (info++[y]) info.length)::vw (info++[y]) (rs.drop (Wg y))from rfl,this];simp[Vr,Tp,vw,List.map_drop]
   rw[ev]at ih;rw[show(info++[y]).length=info.length+1 by simp]at ih;split at ih
   .exact ih
   .rename_i Br st' hg;obtain⟨tail,a,b,d⟩:=ih;refine⟨y::tail,by simp[a],by simp[b],?_⟩;rw[d];have e2:Vs m Br sizes x y=Vs m info sizes x y:=by rw[a,EX];exact ZPC ho
    simp[VT,VU,e2]
def ZPD{m:Zf}{n:Int}{qa:List Zg}{sizes:WL}{steps:List Zk}{y:MO}{c:Int}(hv:Zx n qa=true)(hl:1<=steps.length/\steps.length<=14)(hs:WT n qa sizes=true)(h:XF m sizes qa steps [] 0=some ([y],c)):Vt m n qa steps sizes=c:=by
 have g:=Z2g m sizes qa steps [] [] 0 (λs h=>by simp at h);simp only[Df,List.reverse_nil]at g;have hr:Al (steps.length:Int) 1 14=true:=by simp[Al];omega
 cases hg:WQ qa steps 0 [] []with
 |none=>rw[hg]at g;simp only[vw,Dr]at g;rw[g]at h;cases h
 |some p =>
  obtain⟨Br,st'⟩:=p;rw[hg]at g;obtain⟨tail,a,b,d⟩:=g;simp only[vw,Dr]at d;rw[d]at h;simp only[EZ]at a;subst a
  cases h':st'.reverse with
  |nil=>rw[h']at h;simp at h
  |cons s rs =>
   rw[h']at h;simp only[Yz,Y4,Ds,Ycx,List.map_eq_nil_iff]at h;have hlen:st'.length=1:=by rw[<-List.length_reverse,h',h.1.2];rfl
   have hi:Wh n qa steps=some Br:=by simp[Wh,hv,hr,hg,hlen]
   simp[Vt,Jb,Qe,hi,hs,h.2]
theorem On(x:Int):w x=(x+9223372036854775808) % 18446744073709551616-9223372036854775808:=by
 simp only[w,IntKind.wrap,IntKind.signed,IntKind.bits,Yk]
 grind
def w_w(x:Int):w (w x)=w x:=by rw[On,On];omega
def ZqY(m:Zf)(sizes:WL)(qa:List Zg):∀(xs ys:List Zk) (S:List MO) (c:Int),XF m sizes qa (xs++ys) S c=match XF m sizes qa xs S c with
  |none=>none
  |some (S',c')=>XF m sizes qa ys S' c'
 |[],ys,S,c=>by simp[XF]
 |x::xs,ys,S,c=>by
  rw[List.cons_append,XF,XF]
  cases VE m sizes qa x S with
  |none=>rfl
  |some p=>simp only;exact ZqY m sizes qa xs ys p.1 _
def ZPE{m:Zf}{sizes:WL}{qa:List Zg}{x:Zk}{S S' B:List MO}{c:Int}(h:VE m sizes qa x S=some (S',c)):VE m sizes qa x (S++B)=some (S'++B,c):=by
 unfold VE at h|-;by_cases k1:x.Kind=1
 .grind
 .simp only[Yb k1]at h|-;by_cases ka:x.Zg≠0
  .simp[Ya ka]at h
  .simp only[Yb ka]at h|-;by_cases k2:x.Kind=2
   .grind
   .simp only[Yb k2]at h|-
    match S,h with
    |[],h=>cases h
    |[y],h=>cases h
    |z::y::S,h =>
     simp only[List.cons_append]at h|-;split at h
     .rename_i hc;rw[Ya hc]
      cases ho:QU qa x y z with
      |none=>rw[ho]at h;cases h
      |some o=>rw[ho]at h;cases h;rfl
     .cases h
def ZDc{m:Zf}{sizes:WL}{qa:List Zg}{B:List MO}:∀{xs:List Zk} {S S':List MO} {c c':Int},XF m sizes qa xs S c=some (S',c')->XF m sizes qa xs (S++B) c=some (S'++B,c')
 |[],S,S',c,c',h=>by simp[XF]at h|-;simp[h]
 |x::xs,S,S',c,c',h=>by
  rw[XF]at h|-
  cases hs:VE m sizes qa x S with
  |none=>rw[hs]at h;cases h
  |some p=>rw[hs]at h;rw[ZPE hs];exact ZDc h
def ZDd{m:Zf}{sizes:WL}{qa:List Zg}:∀{xs:List Zk} {S S':List MO} {a k:Int},XF m sizes qa xs S a=some (S',k)->∀c,w c=c->XF m sizes qa xs S c=some (S',w (c+(k-a)))
 |[],S,S',a,k,h,c,hc=>by
  simp[XF]at h|-
  simp_all
 |x::xs,S,S',a,k,h,c,hc=>by
  rw[XF]at h|-
  cases hs:VE m sizes qa x S with
  |none=>rw[hs]at h;cases h
  |some p =>
   obtain⟨S1,e⟩:=p;rw[hs]at h;simp only at h|-;rw[ZDd h (w (c+e)) (w_w _)]
   grind [On]
def ZDe{m:Zf}{sizes:WL}{qa:List Zg}:∀{xs:List Zk} {S S':List MO} {a k:Int},XF m sizes qa xs S a=some (S',k)->w a=a->w k=k
 |[],S,S',a,k,h,ha=>by simp[XF]at h;rw[<-h.2];exact ha
 |x::xs,S,S',a,k,h,ha=>by
  rw[XF]at h
  cases hs:VE m sizes qa x S with
  |none=>rw[hs]at h;cases h
  |some p=>rw[hs]at h;exact ZDe h (w_w _)
def XA(m:Zf)(sizes:WL)(qa:List Zg)(xs:List Zk)(mask cc c:Int):Prop:=XF m sizes qa xs [] 0=some ([(mask,cc)],c)
def XA.can{m:Zf}{sizes:WL}{qa:List Zg}{xs:List Zk}{a o c:Int}(h:XA m sizes qa xs a o c):w c=c:=ZDe h rfl
def XA.on{m:Zf}{sizes:WL}{qa:List Zg}{xs:List Zk}{a o c:Int}(h:XA m sizes qa xs a o c)(B:List MO)(d:Int)(hd:w d=d):XF m sizes qa xs B d=some ((a,o)::B,w (d+c)):=by
 have:=ZDc (B:=B) (ZDd h d hd)
 simp_all
def ZDf{m:Zf}{sizes:WL}{qa:List Zg}{xs ys:List Zk}{a o c b p d:Int}{x:Zk}{r:Int}(hx:XA m sizes qa xs a o c)(hy:XA m sizes qa ys b p d)(hk:3<=x.Kind)(cc:x.Zg=0)(hd:Ah a b=0)(cd:shr qa a b=true)(ho:QU qa x (a,o) (b,p)=some r) :
  XA m sizes qa (xs++ys++[x]) (At a b) r (w (w (c+d)+XL (BI m x.Kind) (Z6 sizes a) (Z6 sizes b) (Z6 sizes (At a b)))):=by
 unfold XA at *
 rw[ZqY,ZqY,hx];simp only;rw[XA.on hy _ _ (XA.can hx)];simp only;rw[XF];have hs:VE m sizes qa x [(b,p),(a,o)]=some ([(At a b,r)],XL (BI m x.Kind) (Z6 sizes a) (Z6 sizes b) (Z6 sizes (At a b))):=by
  unfold VE
  grind
 rw[hs];rfl
def ZPF{m:Zf}{sizes:WL}{qa:List Zg}{xs:List Zk}{a o c v:Int}(hx:XA m sizes qa xs a o c)(hv:Bj qa a v=true)(ho:o≠v) :
  XA m sizes qa (Oj xs v) a v (w (c+XL m.Sort_ (Z6 sizes a) 0 (Z6 sizes a))):=by
 unfold XA at *
 rw[Oj,ZqY,hx];simp only;rw[XF];have hs:VE m sizes qa ⟨2,0,v⟩ [(a,o)]=some ([(a,v)],XL m.Sort_ (Z6 sizes a) 0 (Z6 sizes a)):=by
  unfold VE;simp[hv,ho,BI]
 rw[hs];rfl
def ZPG{m:Zf}{sizes:WL}{qa:List Zg}{i:Nat}(h:i<qa.length) :
  XA m sizes qa [⟨1,i,0⟩] (Ac 1 i) (qa[i].Vars.headD 0) (w (XL m.Scan (Z6 sizes (Ac 1 i)) 0 (Z6 sizes (Ac 1 i)))):=by
 unfold XA;rw[XF];have hi:Al (i:Int) 0 (qa.length-1)=true:=by simp[Al];omega
 have hs:VE m sizes qa ⟨1,i,0⟩ []=some ([(Ac 1 i,qa[i].Vars.headD 0)],XL m.Scan (Z6 sizes (Ac 1 i)) 0 (Z6 sizes (Ac 1 i))):=by
  unfold VE;simp[hi,BI,Yd h]
 rw[hs];simp[XF]
def XA.cost{m:Zf}{sizes:WL}{n:Int}{qa:List Zg}{xs:List Zk}{a o c:Int}(h:XA m sizes qa xs a o c)(hv:Zx n qa=true)(hl:1<=xs.length/\xs.length<=14)(hs:WT n qa sizes=true):Vt m n qa xs sizes=c:=ZPD hv hl hs h
def ZDg{qa:List Zg}{y z:MO}:QU qa ⟨3,0,0⟩ y z=some (-1):=by simp[QU,Vy]
def ZDh{qa:List Zg}{y z:MO}:QU qa ⟨5,0,0⟩ y z=some y.2:=by simp[QU,Vy]
def ZDi{qa:List Zg}{y z:MO}{v:Int}(h1:Bj qa y.1 v=true)(h2:Bj qa z.1 v=true)(h3:y.2=v)(h4:z.2=v):QU qa ⟨4,0,v⟩ y z=some v:=by simp[QU,Vy,h1,h2,h3,h4]
def VV(b e:Zd):Zd:=if e.Cost<b.Cost then e else b
def ZPH(a b c:Int)(l:List Zd)(hl:l.length<=1000):∀i,i<=l.length->∀best,Sj a b c best l l.length i=some (.agg (((l.drop i).foldl VV best).c.map .t),[]):=by
 refine down _ ?_ ?_
 .simp[US.1.1.1]
 .intro i hi ih best;have h4:=Z7 (i:=i) Z;apply US.1.1.1;rw[An,Yi hi,Yv];refine⟨Z,l[i],by rw[Yh];exact Yd hi,?_⟩;rw[show w ((i:Int)+1)=((i+1:Nat):Int)from by rw[show w ((i:Int)+1)=(i:Int)+1 from h4];simp];by_cases e:l[i].Cost<best.Cost
  .rw[Ya e,show VV best l[i]=l[i] by simp[VV,e]];exact ih _
  .rw[Yb e,show VV best l[i]=best by simp[VV,e]];exact ih _
def Xe(l:List Zd):Zd:=match l with|[]=>⟨0,0,0,⟨[]⟩⟩|e::l=>(e::l).foldl VV e
def ZqZ(l:List Zd)(h0:l≠[])(hl:l.length<=1000):Mh l=some (.agg ((Xe l).c.map .t),[]):=by
 cases l with
 |nil=>exact absurd rfl h0
 |cons e l =>
  refine US.1.1.2 _ _ ⟨e,rfl,?_⟩;have:=ZPH 0 0 0 (e::l) hl 0 (Yc _) e;simpa[Xe]using this
def Wb(e:Zd)(mask a c:Int)(x:List Zk):Zd:=if e.Mask=0 then⟨mask,a,c,⟨x⟩⟩else if c<e.Cost then⟨mask,a,c,⟨x⟩⟩else e
def sm(e:Zd):Bool:=decide (e.Mask≠0)
def Oo{e:Zd}{mask a cost:Int}{x:List Zk}(h:mask≠0):sm (Wb e mask a cost x)=true:=by
 unfold Wb sm
 grind
def X2(k:Int)(e:Zd)(mask a c:Int)(x:List Zk):Zd:=if a+1=k then Wb e mask a c x else e
def ZDj(m:Zf)(hm:Ba m)(q:Zc)(hq:AI q)(sizes:WL)(hs:Le sizes)(mask:Int)(h0:mask≠0)(a0 a1 a2 a3 a4:Zd)(x:List Zk)(a:Int)(ha:-1<=a/\a<=3)(c:Int)(hc:Vt m q.Zh q.Atoms x sizes=c):∃t,(t=.dead\/t=.arr 149 3 true (x.map Zk.c))/\
  F7 m q sizes mask a0 a1 a2 a3 a4 (sm a0) (sm a1) (sm a2) (sm a3) (sm a4) x a=some (.tup [],[WW m q sizes mask (X2 0 a0 mask a c x) (X2 1 a1 mask a c x) (X2 2 a2 mask a c x) (X2 3 a3 mask a c x) (X2 4 a4 mask a c x) (sm (X2 0 a0 mask a c x)) (sm (X2 1 a1 mask a c x)) (sm (X2 2 a2 mask a c x)) (sm (X2 3 a3 mask a c x)) (sm (X2 4 a4 mask a c x)),t]):=by
 have A4:=Z1Y m hm q hq ⟨x⟩ sizes hs;rw[show Vt m q.Zh q.Atoms (Ze.mk x).Steps sizes=c from hc]at A4;have h5:a=-1\/a=0\/a=1\/a=2\/a=3:=by omega
 have key:∀e:Zd,(sm e=true/\c<e.Cost/\Wb e mask a c x=⟨mask,a,c,⟨x⟩⟩)\/(sm e=true/\¬c<e.Cost/\Wb e mask a c x=e)\/(sm e=false/\Wb e mask a c x=⟨mask,a,c,⟨x⟩⟩):=by
  intro e;by_cases e0:e.Mask=0
  .exact .inr (.inr ⟨by simp[sm,e0],by simp[Wb,e0]⟩)
  .by_cases e1:c<e.Cost
   .exact .inl ⟨by simp[sm,e0],e1,by simp[Wb,e0,e1]⟩
   .exact .inr (.inl ⟨by simp[sm,e0],e1,by simp[Wb,e0,e1]⟩)
 have hsm:sm ⟨mask,a,c,⟨x⟩⟩=true:=by simp[sm,h0]
 have w0:w 0=0:=by decide
 have w1:w 1=1:=by decide
 have w2:w 2=2:=by decide
 have w3:w 3=3:=by decide
 have w4:w 4=4:=by decide
 rcases h5 with rfl|rfl|rfl|rfl|rfl
 .rcases key a0 with⟨k1,k2,k3⟩|⟨k1,k2,k3⟩|⟨k1,k3⟩
  .exact⟨_,.inl rfl,UR _ _ _ _ _ _ _ _ _ _ _ _ _ _ _ _ _ ⟨c,A4,by simp[X2,k1,k2,k3,hsm,w0,w1,w2,w3,w4]⟩⟩
  .exact⟨_,.inr rfl,UR _ _ _ _ _ _ _ _ _ _ _ _ _ _ _ _ _ ⟨c,A4,by simp[X2,k1,k2,k3,hsm,w0,w1,w2,w3,w4]⟩⟩
  .exact⟨_,.inl rfl,UR _ _ _ _ _ _ _ _ _ _ _ _ _ _ _ _ _ ⟨c,A4,by simp[X2,k1,k3,hsm,w0,w1,w2,w3,w4]⟩⟩
 .rcases key a1 with⟨k1,k2,k3⟩|⟨k1,k2,k3⟩|⟨k1,k3⟩
  .exact⟨_,.inl rfl,UR _ _ _ _ _ _ _ _ _ _ _ _ _ _ _ _ _ ⟨c,A4,by simp[X2,k1,k2,k3,hsm,w0,w1,w2,w3,w4]⟩⟩
  .exact⟨_,.inr rfl,UR _ _ _ _ _ _ _ _ _ _ _ _ _ _ _ _ _ ⟨c,A4,by simp[X2,k1,k2,k3,hsm,w0,w1,w2,w3,w4]⟩⟩
  .exact⟨_,.inl rfl,UR _ _ _ _ _ _ _ _ _ _ _ _ _ _ _ _ _ ⟨c,A4,by simp[X2,k1,k3,hsm,w0,w1,w2,w3,w4]⟩⟩
 .rcases key a2 with⟨k1,k2,k3⟩|⟨k1,k2,k3⟩|⟨k1,k3⟩
  .exact⟨_,.inl rfl,UR _ _ _ _ _ _ _ _ _ _ _ _ _ _ _ _ _ ⟨c,A4,by simp[X2,k1,k2,k3,hsm,w0,w1,w2,w3,w4]⟩⟩
  .exact⟨_,.inr rfl,UR _ _ _ _ _ _ _ _ _ _ _ _ _ _ _ _ _ ⟨c,A4,by simp[X2,k1,k2,k3,hsm,w0,w1,w2,w3,w4]⟩⟩
  .exact⟨_,.inl rfl,UR _ _ _ _ _ _ _ _ _ _ _ _ _ _ _ _ _ ⟨c,A4,by simp[X2,k1,k3,hsm,w0,w1,w2,w3,w4]⟩⟩
 .rcases key a3 with⟨k1,k2,k3⟩|⟨k1,k2,k3⟩|⟨k1,k3⟩
  .exact⟨_,.inl rfl,UR _ _ _ _ _ _ _ _ _ _ _ _ _ _ _ _ _ ⟨c,A4,by simp[X2,k1,k2,k3,hsm,w0,w1,w2,w3,w4]⟩⟩
  .exact⟨_,.inr rfl,UR _ _ _ _ _ _ _ _ _ _ _ _ _ _ _ _ _ ⟨c,A4,by simp[X2,k1,k2,k3,hsm,w0,w1,w2,w3,w4]⟩⟩
  .exact⟨_,.inl rfl,UR _ _ _ _ _ _ _ _ _ _ _ _ _ _ _ _ _ ⟨c,A4,by simp[X2,k1,k3,hsm,w0,w1,w2,w3,w4]⟩⟩
 .rcases key a4 with⟨k1,k2,k3⟩|⟨k1,k2,k3⟩|⟨k1,k3⟩
  .exact⟨_,.inl rfl,UR _ _ _ _ _ _ _ _ _ _ _ _ _ _ _ _ _ ⟨c,A4,by simp[X2,k1,k2,k3,hsm,w0,w1,w2,w3,w4]⟩⟩
  .exact⟨_,.inr rfl,UR _ _ _ _ _ _ _ _ _ _ _ _ _ _ _ _ _ ⟨c,A4,by simp[X2,k1,k2,k3,hsm,w0,w1,w2,w3,w4]⟩⟩
  .exact⟨_,.inl rfl,UR _ _ _ _ _ _ _ _ _ _ _ _ _ _ _ _ _ ⟨c,A4,by simp[X2,k1,k3,hsm,w0,w1,w2,w3,w4]⟩⟩
def BG(y:Bool)(e:Zd):List Zd:=if y=true then[e]else[]
section
variable(m:Zf)(q:Zc)(sizes:WL)(mask:Int)(a0 a1 a2 a3 a4:Zd)(s0 s1 s2 s3 s4:Bool)
theorem en5(fr:Bool)(out:List Zd)(y0 y1 y2 y3 y4:Bool):∃fr',Vj m q sizes mask a0 a1 a2 a3 a4 s0 s1 s2 s3 s4 fr out y0 y1 y2 y3 y4 5=some (.own 1,[WW m q sizes mask a0 a1 a2 a3 a4 s0 s1 s2 s3 s4,.arr 77 4 fr' (out.map Zd.c)]) :=
 ⟨fr,KP _ _ _ _ _ _ _ _ _ _ _ _ _ _ _ _ _ _ _ _ _ _ _ (by rw[Ao])⟩
theorem en4(fr:Bool)(out:List Zd)(hl:out.length<=4)(y0 y1 y2 y3 y4:Bool):∃fr',Vj m q sizes mask a0 a1 a2 a3 a4 s0 s1 s2 s3 s4 fr out y0 y1 y2 y3 y4 4=some (.own 1,[WW m q sizes mask a0 a1 a2 a3 a4 s0 s1 s2 s3 s4,.arr 77 4 fr' ((out++BG y4 a4).map Zd.c)]):=by
 have hw:w (4+1)=5:=by decide
 cases hy:y4 with
 |true =>
  obtain⟨fr',h⟩:=en5 m q sizes mask a0 a1 a2 a3 a4 s0 s1 s2 s3 s4 false (out++[a4]) y0 y1 y2 y3 true;refine⟨fr',KP _ _ _ _ _ _ _ _ _ _ _ _ _ _ _ _ _ _ _ _ _ _ _ ?_⟩;rw[An,Ao,Ao,Ao,Ao,Ya rfl,Ya rfl,hw]
  exact⟨Z,by simpa[BG]using h⟩
 |false =>
  obtain⟨fr',h⟩:=en5 m q sizes mask a0 a1 a2 a3 a4 s0 s1 s2 s3 s4 fr out y0 y1 y2 y3 false;refine⟨fr',KP _ _ _ _ _ _ _ _ _ _ _ _ _ _ _ _ _ _ _ _ _ _ _ ?_⟩;rw[An,Ao,Ao,Ao,Ao,Ya rfl,Yb Om,hw];simpa[BG]using h
theorem en3(fr:Bool)(out:List Zd)(hl:out.length<=3)(y0 y1 y2 y3 y4:Bool):∃fr',Vj m q sizes mask a0 a1 a2 a3 a4 s0 s1 s2 s3 s4 fr out y0 y1 y2 y3 y4 3=some (.own 1,[WW m q sizes mask a0 a1 a2 a3 a4 s0 s1 s2 s3 s4,.arr 77 4 fr' ((out++BG y3 a3++BG y4 a4).map Zd.c)]):=by
 have hw:w (3+1)=4:=by decide
 cases hy:y3 with
 |true =>
  obtain⟨fr',h⟩:=en4 m q sizes mask a0 a1 a2 a3 a4 s0 s1 s2 s3 s4 false (out++[a3]) (by simp only[Yu,Yx,Df];omega) y0 y1 y2 true y4;refine⟨fr',KP _ _ _ _ _ _ _ _ _ _ _ _ _ _ _ _ _ _ _ _ _ _ _ ?_⟩;rw[An,Ao,Ao,Ao,Ya rfl,Ya rfl,hw]
  exact⟨Z,by simpa[BG]using h⟩
 |false =>
  obtain⟨fr',h⟩:=en4 m q sizes mask a0 a1 a2 a3 a4 s0 s1 s2 s3 s4 fr out Z y0 y1 y2 false y4;refine⟨fr',KP _ _ _ _ _ _ _ _ _ _ _ _ _ _ _ _ _ _ _ _ _ _ _ ?_⟩;rw[An,Ao,Ao,Ao,Ya rfl,Yb Om,hw];simpa[BG]using h
theorem en2(fr:Bool)(out:List Zd)(hl:out.length<=2)(y0 y1 y2 y3 y4:Bool):∃fr',Vj m q sizes mask a0 a1 a2 a3 a4 s0 s1 s2 s3 s4 fr out y0 y1 y2 y3 y4 2=some (.own 1,[WW m q sizes mask a0 a1 a2 a3 a4 s0 s1 s2 s3 s4,.arr 77 4 fr' ((out++BG y2 a2++BG y3 a3++BG y4 a4).map Zd.c)]):=by
 have hw:w (2+1)=3:=by decide
 cases hy:y2 with
 |true =>
  obtain⟨fr',h⟩:=en3 m q sizes mask a0 a1 a2 a3 a4 s0 s1 s2 s3 s4 false (out++[a2]) (by simp only[Yu,Yx,Df];omega) y0 y1 true y3 y4;refine⟨fr',KP _ _ _ _ _ _ _ _ _ _ _ _ _ _ _ _ _ _ _ _ _ _ _ ?_⟩;rw[An,Ao,Ao,Ya rfl,Ya rfl,hw]
  exact⟨Z,by simpa[BG]using h⟩
 |false =>
  obtain⟨fr',h⟩:=en3 m q sizes mask a0 a1 a2 a3 a4 s0 s1 s2 s3 s4 fr out Z y0 y1 false y3 y4;refine⟨fr',KP _ _ _ _ _ _ _ _ _ _ _ _ _ _ _ _ _ _ _ _ _ _ _ ?_⟩;rw[An,Ao,Ao,Ya rfl,Yb Om,hw];simpa[BG]using h
theorem en1(fr:Bool)(out:List Zd)(hl:out.length<=1)(y0 y1 y2 y3 y4:Bool):∃fr',Vj m q sizes mask a0 a1 a2 a3 a4 s0 s1 s2 s3 s4 fr out y0 y1 y2 y3 y4 1=some (.own 1,[WW m q sizes mask a0 a1 a2 a3 a4 s0 s1 s2 s3 s4,.arr 77 4 fr' ((out++BG y1 a1++BG y2 a2++BG y3 a3++BG y4 a4).map Zd.c)]):=by
 have hw:w (1+1)=2:=by decide
 cases hy:y1 with
 |true =>
  obtain⟨fr',h⟩:=en2 m q sizes mask a0 a1 a2 a3 a4 s0 s1 s2 s3 s4 false (out++[a1]) (by simp only[Yu,Yx,Df];omega) y0 true y2 y3 y4;refine⟨fr',KP _ _ _ _ _ _ _ _ _ _ _ _ _ _ _ _ _ _ _ _ _ _ _ ?_⟩;rw[An,Ao,Ya rfl,Ya rfl,hw]
  exact⟨Z,by simpa[BG]using h⟩
 |false =>
  obtain⟨fr',h⟩:=en2 m q sizes mask a0 a1 a2 a3 a4 s0 s1 s2 s3 s4 fr out Z y0 false y2 y3 y4;refine⟨fr',KP _ _ _ _ _ _ _ _ _ _ _ _ _ _ _ _ _ _ _ _ _ _ _ ?_⟩;rw[An,Ao,Ya rfl,Yb Om,hw];simpa[BG]using h
theorem en0(fr:Bool)(out:List Zd)(hl:out.length<=0)(y0 y1 y2 y3 y4:Bool):∃fr',Vj m q sizes mask a0 a1 a2 a3 a4 s0 s1 s2 s3 s4 fr out y0 y1 y2 y3 y4 0=some (.own 1,[WW m q sizes mask a0 a1 a2 a3 a4 s0 s1 s2 s3 s4,.arr 77 4 fr' ((out++BG y0 a0++BG y1 a1++BG y2 a2++BG y3 a3++BG y4 a4).map Zd.c)]):=by
 have hw:w (0+1)=1:=by decide
 cases hy:y0 with
 |true =>
  obtain⟨fr',h⟩:=en1 m q sizes mask a0 a1 a2 a3 a4 s0 s1 s2 s3 s4 false (out++[a0]) (by simp only[Yu,Yx,Df];omega) true y1 y2 y3 y4;refine⟨fr',KP _ _ _ _ _ _ _ _ _ _ _ _ _ _ _ _ _ _ _ _ _ _ _ ?_⟩;rw[An,Ya rfl,Ya rfl,hw]
  exact⟨Z,by simpa[BG]using h⟩
 |false =>
  obtain⟨fr',h⟩:=en1 m q sizes mask a0 a1 a2 a3 a4 s0 s1 s2 s3 s4 fr out Z false y1 y2 y3 y4;refine⟨fr',KP _ _ _ _ _ _ _ _ _ _ _ _ _ _ _ _ _ _ _ _ _ _ _ ?_⟩;rw[An,Ya rfl,Yb Om,hw];simpa[BG]using h
end
def p5(a0 a1 a2 a3 a4:Zd):List Zd:=[a0,a1,a2,a3,a4].filter sm
def ZPI(m:Zf)(q:Zc)(sizes:WL)(mask:Int)(a0 a1 a2 a3 a4:Zd):∃fr,i7 m q sizes mask a0 a1 a2 a3 a4 (sm a0) (sm a1) (sm a2) (sm a3) (sm a4)=some (.own 1,[WW m q sizes mask a0 a1 a2 a3 a4 (sm a0) (sm a1) (sm a2) (sm a3) (sm a4),.arr 77 4 fr ((p5 a0 a1 a2 a3 a4).map Zd.c)]):=by
 obtain⟨fr,h⟩:=en0 m q sizes mask a0 a1 a2 a3 a4 (sm a0) (sm a1) (sm a2) (sm a3) (sm a4) true [] (Yj _) (sm a0) (sm a1) (sm a2) (sm a3) (sm a4);refine⟨fr,US.1.2.2.2 _ _ _ _ _ _ _ _ _ _ _ _ _ _ _ ?_⟩;have e:[]++BG (sm a0) a0++BG (sm a1) a1++BG (sm a2) a2++BG (sm a3) a3++BG (sm a4) a4=p5 a0 a1 a2 a3 a4:=by
  unfold p5 BG;simp only[rU,List.filter_nil]
  grind
 rw[e]at h;exact h
def ofM(l:List Zd)(mask:Int):List Zd:=l.filter λe=>decide (e.Mask=mask)
def ZPJ(e:Zd):Xe [e]=e:=by simp[Xe,VV]
def ZPK{l:List Zd}(h:l≠[])(e:Zd):Xe (l++[e])=VV (Xe l) e:=by
 cases l with
 |nil=>exact absurd rfl h
 |cons a l=>simp[Xe,List.foldl_append]
def Z2h{l:List Zd}(h:l≠[]):Xe l∈l:=by
 have:∀(l:List Zd) (b:Zd),l.foldl VV b=b\/l.foldl VV b∈l:=by
  intro l
  induction l with
  |nil=>intro b;exact .inl rfl
  |cons a l ih =>
   intro b;rw[Yv];rcases ih (VV b a)with h|h
   .rw[h];unfold VV
    grind
   .simp_all
 cases l with
 |nil=>exact absurd rfl h
 |cons a l =>
  rcases this (a::l) a with e|e
  .rw[show Xe (a::l)=a from e];simp
  .exact e
def ZDk(l:List Zd)(mask:Int){k:Nat}(h:k<l.length):ofM (l.take (k+1)) mask=ofM (l.take k) mask++(if l[k].Mask=mask then[l[k]]else[]):=by
 unfold ofM
 simp_all [Z0N]
def ZDl(l:List Zd)(mask:Int):∀k,k<=l.length->(ofM (l.take k) mask=[]->Ul l mask k=-1)/\(ofM (l.take k) mask≠[]->0<=Ul l mask k/\l[(Ul l mask k).toNat]?=some (Xe (ofM (l.take k) mask)))
 |0,_=>by simp[Ul,ofM]
 |k+1,h=>by
  obtain⟨i1,i2⟩:=ZDl l mask k Z;have hk:k<l.length:=by omega
  rw[ZDk l mask hk];unfold Ul;rw[Yd hk];by_cases e:l[k].Mask=mask
  .simp only[Ya e];refine⟨λh=>by simp at h,λ_=>?_⟩;by_cases e0:ofM (l.take k) mask=[]
   .have i:=i1 e0;rw[e0,EZ,ZPJ]
    grind
   .obtain⟨j1,j2⟩:=i2 e0;rw[j2,ZPK e0];simp only;rw[Ao];unfold VV
    grind
  .simp_all
def Zra{l:List Zd}{mask:Int}(h:ofM l mask≠[]):0<=low l mask/\l[(low l mask).toNat]?=some (Xe (ofM l mask)):=by
 have:=(ZDl l mask l.length (Yj _)).2;rw[Yq]at this;exact this h
def BP(l:List Zd)(o:Int):Option Zd:=l.find? λe=>decide (e.Order=o)
def ZDm(l:List Zd)(mask o:Int):∀(xs:List Zd) (k:Nat),l.drop k=xs->match BP (ofM xs mask) o with
  |none=>JS mask o xs k=-1
  |some e=>0<=JS mask o xs k/\l[(JS mask o xs k).toNat]?=some e
 |[],k,h=>by simp[ofM,BP,JS]
 |x::xs,k,h=>by
  have hk:l[k]?=some x:=by
   have:=congrArg (·[0]?) h;simpa using this
  have hd:l.drop (k+1)=xs:=by
   have:=congrArg (List.drop 1) h;simpa[Nat.add_comm]using this
  have ih:=ZDm l mask o xs (k+1) hd;unfold JS;by_cases e:x.Mask=mask
  .have e1:ofM (x::xs) mask=x::ofM xs mask:=by simp[ofM,e]
   rw[e1];by_cases e2:x.Order=o
   .have:BP (x::ofM xs mask) o=some x:=by simp[BP,e2]
    simp_all
   .have:BP (x::ofM xs mask) o=BP (ofM xs mask) o:=by simp[BP,e2]
    simp_all
  .have e1:ofM (x::xs) mask=ofM xs mask:=by simp[ofM,e]
   simp_all
def ZDn(l:List Zd)(mask o:Int):match BP (ofM l mask) o with
  |none=>find l mask o=-1
  |some e=>0<=find l mask o/\l[(find l mask o).toNat]?=some e:=ZDm l mask o l 0 rfl
def p6{a l:Int}{A L:Nat}(h1:-(A:Int)<=a)(h2:a<=A)(h3:0<=l)(h4:l<=L):-((A:Int)*L)<=a*l/\a*l<=(A:Int)*L:=by
 have e1:a*l<=(A:Int)*l:=Int.mul_le_mul_of_nonneg_right h2 h3;have e2:-(A:Int)*l<=a*l:=Int.mul_le_mul_of_nonneg_right h1 h3;have e3:(A:Int)*l<=(A:Int)*L:=Int.mul_le_mul_of_nonneg_left h4 Z
 grind
def p7{a:Int}(h:Uy a=true):-99<=a/\a<=99:=by simp[Uy,Al]at h;omega
def Oq{o:Zz}{l r n:Int}(hv:Wu o=true)(hl:0<=l/\l<=4096)(hr:0<=r/\r<=4096)(hn:0<=n/\n<=4096):-1700000000<=Gj o l r n/\Gj o l r n<=1700000000:=by
 simp only[Wu,Yg]at hv;obtain⟨⟨⟨⟨⟨⟨v1,v2⟩,v3⟩,v4⟩,v5⟩,v6⟩,v7⟩:=hv;have b1:=p7 v1;have b2:=p7 v2;have b3:=p7 v3;have b4:=p7 v4;have b5:=p7 v5;have m2:=p6 (A:=99) (L:=4096) b2.1 b2.2 hl.1 hl.2;have m3:=p6 (A:=99) (L:=4096) b3.1 b3.2 hr.1 hr.2;have m4:=p6 (A:=99) (L:=4096) b4.1 b4.2 hn.1 hn.2;have m5:=p6 (A:=99) (L:=4096) b5.1 b5.2 hl.1 hl.2;have m6:=p6 (A:=405504) (L:=4096) (a:=o.ZU*l) (l:=r) (by simpa using m5.1) (by simpa using m5.2) hr.1 hr.2;simp at m2 m3 m4 m5 m6;unfold Gj
 grind [Xn]
def ZDo{l r:Int}:∀{st:List Zw} {p n B:Int},Kp p st=true->B+99*st.length<=1000000000000->-B<=n/\n<=B->-(B+99*st.length)<=st.foldl (Kq l r) n/\st.foldl (Kq l r) n<=B+99*st.length
 |[],p,n,B,_,_,h=>by simp;omega
 |s::st,p,n,B,hs,hB,h=>by
  simp only[Kp,Yg]at hs;have ha:=hs.1.1.2;simp[Al]at ha;simp only[Yx]at hB|-;have e:-(B+99)<=Kq l r n s/\Kq l r n s<=B+99:=by
   unfold Kq
   grind [Xn]
  have g:=ZDo (l:=l) (r:=r) hs.2 Z e
  grind
def Ot(o:Zz)(l r n:Int):-2000000000<=XL o l r n/\XL o l r n<=2000000000:=by
 unfold XL;split
 .rename_i h;simp only[Yg]at h;obtain⟨⟨⟨hv,hl⟩,hr⟩,hn⟩:=h;simp[Al]at hl hr hn;have b:=Oq hv hl hr hn;simp only[Wu,Yg,decide_eq_true_eq]at hv;have:=ZDo (l:=l) (r:=r) (B:=1700000000) hv.2 (by have:=hv.1.2;omega) b;have:=hv.1.2;unfold SF;omega
 .omega
def ZDp{o:Zz}(h:Wi o){a b c:Int}(ha:0<=a/\a<=7)(hb:0<=b/\b<=7)(hc:0<=c/\c<=7):1<=XL o (XJ a) (XJ b) (XJ c):=by
 have h3:¬Bs o [a,b,c]<1:=λhh=>h.2.2 ⟨[a,b,c],⟨a,b,c,rfl,ha,hb,hc⟩,hh⟩
 simp[XL,h.1,SG ha.1 ha.2,SG hb.1 hb.2,SG hc.1 hc.2];simp[Bs]at h3;omega
def Um(sizes:WL):Prop:=∀s∈sizes,∃a,(0<=a/\a<=7)/\s=XJ a
def p9{sizes:WL}(h:Um sizes)(k:Int):∃a,(0<=a/\a<=7)/\Z6 sizes k=XJ a:=by
 unfold Z6
 cases e:sizes[k.toNat]? with
 |none=>exact⟨0,Z,Sm⟩
 |some s=>exact h s (Y9 e)
def ZDq{o:Zz}(h:Wi o){sizes:WL}(hs:Um sizes)(a b:Int):1<=XL o (Z6 sizes a) 0 (Z6 sizes b):=by
 obtain⟨x,hx,ex⟩:=p9 hs a;obtain⟨y,hy,ey⟩:=p9 hs b;rw[ex,ey,show(0:Int)=XJ 0 by decide]
 simp_all [ZDp]
def ZPL{l:WL}(h:Xl l=true):Um (ZG l):=by
 intro s hs;simp only[ZG,Yn]at hs;obtain⟨a,ha,rfl⟩:=hs;refine⟨a,?_,rfl⟩;simp only[Xl,Yg,JD,Yp]at h;have:=h.1 a ha;simp[Al]at this;omega
def ZDr{m:Zf}{sizes:WL}{qa:List Zg}:∀{xs:List Zk} {S S':List MO} {c k B:Int},XF m sizes qa xs S c=some (S',k)->-B<=c/\c<=B->B+2000000000*xs.length<=1000000000000->-(B+2000000000*xs.length)<=k/\k<=B+2000000000*xs.length
 |[],S,S',c,k,B,h,hc,hB=>by simp[XF]at h;simp;omega
 |x::xs,S,S',c,k,B,h,hc,hB=>by
  rw[XF]at h;simp only[Yx]at hB|-
  cases hs:VE m sizes qa x S with
  |none=>rw[hs]at h;cases h
  |some p =>
   obtain⟨S1,e⟩:=p;rw[hs]at h;have he:-2000000000<=e/\e<=2000000000:=by
    unfold VE at hs;split at hs
    .split at hs
     .cases hs;exact Ot _ _ _ _
     .cases hs
    .split at hs
     .cases hs
     .split at hs
      .split at hs
       .split at hs
        .cases hs;exact Ot _ _ _ _
        .cases hs
       .cases hs
      .split at hs
       .split at hs
        .rw[Yr]at hs;obtain⟨o,_,ho⟩:=hs;cases ho;exact Ot _ _ _ _
        .cases hs
       .cases hs
   have:=ZDr (B:=B+2000000000) h (by rw[Xn Z Z];omega) Z;omega
def XA.bound{m:Zf}{sizes:WL}{qa:List Zg}{xs:List Zk}{a o c:Int}(h:XA m sizes qa xs a o c)(hl:xs.length<=100):-200000000000<=c/\c<=200000000000:=by
 have:=ZDr (B:=0) h Z Z;omega
structure WB (m:Zf) (sizes:WL) (qa:List Zg) (M:Int) (E:List Zd):Prop where
 ne:E≠[]
 up:E.Pairwise λa b=>a.Order<b.Order
 mask:∀e∈E,e.Mask=M
 ord:∀e∈E,-1<=e.Order/\e.Order<=3
 makes:∀e∈E,XA m sizes qa e.Ze.Steps M e.Order e.Cost
 len:∀e∈E,1<=e.Ze.Steps.length/\e.Ze.Steps.length+3<=4*Xa M
def ZDs:∀{E:List Zd} {lo:Int},E.Pairwise (λa b=>a.Order<b.Order)->(∀e∈E,lo<=e.Order/\e.Order<=3)->lo<=4->(E.length:Int)<=4-lo
 |[],lo,_,_,h=>by simp;omega
 |e::E,lo,hp,ho,h=>by
  rw[Y2]at hp;have he:=ho e Om;have:=ZDs (lo:=e.Order+1) hp.2 (λx hx=>⟨by have:=hp.1 x hx;omega,(ho x (by simp[hx])).2⟩) Z
  grind
def WB.le{m:Zf}{sizes:WL}{qa:List Zg}{M:Int}{E:List Zd}(h:WB m sizes qa M E):E.length<=5:=by
 have:=ZDs (lo:=-1) h.up h.ord Z;omega
def Zrb:∀{E:List Zd} {e:Zd},E.Pairwise (λa b=>a.Order<b.Order)->e∈E->BP E e.Order=some e
 |a::E,e,hp,he=>by
  rw[Y2]at hp;rcases Y1.1 he with rfl|he
  .simp[BP]
  .have:¬a.Order=e.Order:=by have:=hp.1 e he;omega
   have ih:=Zrb hp.2 he;unfold BP at ih|-
   simp_all
def ZDt{c v:Int}:∀{E:List Zd},E.Pairwise (λa b=>a.Order<b.Order)->E.find? (λe=>decide (e.Order=v) && decide (e.Cost<=c))=match BP E v with
  |some e=>if e.Cost<=c then some e else none
  |none=>none
 |[],_=>by simp[BP]
 |a::E,hp=>by
  rw[Y2]at hp;have ih:=ZDt (c:=c) (v:=v) hp.2;unfold BP at ih|-
  grind
def CD(m:Zf)(sizes:WL)(M:Int)(E:List Zd)(v:Int):Zd:=⟨M,v,w ((Xe E).Cost+XL m.Sort_ (Z6 sizes M) 0 (Z6 sizes M)),⟨Oj (Xe E).Ze.Steps v⟩⟩
def inp(m:Zf)(sizes:WL)(M:Int)(E:List Zd)(v:Int):Zd:=match BP E v with
 |some e=>if e.Cost<=(CD m sizes M E v).Cost then e else CD m sizes M E v
 |none=>CD m sizes M E v
def qC(x:List Zk):Option Zd->XS
 |some e=>(.agg (e.Ze.c.map .t),[])
 |none=>(.agg [.own 0],[.arr 149 3 true (x.map Zk.c)])
def ZPM(m:Zf)(hm:Ba m)(q:Zc)(hq:AI q)(sizes:WL)(hs:Le sizes)(x:List Zk)(c:Int)(hc:Vt m q.Zh q.Atoms x sizes=c)(v:Int)(E:List Zd)(hl:E.length<=5):∀i,i<=E.length->i8 m q x sizes v E E.length i=some (qC x ((E.drop i).find? (λe=>decide (e.Order=v) && decide (e.Cost<=c)))):=by
 have A4:=Z1Y m hm q hq ⟨x⟩ sizes hs;rw[show Vt m q.Zh q.Atoms (Ze.mk x).Steps sizes=c from hc]at A4;refine down _ ?_ ?_
 .simp only[Ym,List.find?_nil];apply US.2.2.2.1;rw[Ao];rfl
 .intro i hi ih;have h4:=Z7 (i:=i) Z;rw[Yi hi,List.find?_cons];have hw:w ((i:Int)+1)=((i+1:Nat):Int):=by rw[show w ((i:Int)+1)=(i:Int)+1 from h4];simp
  by_cases e:E[i].Order=v
  .by_cases e2:E[i].Cost<=c
   .simp only[e,e2,decide_true,Bool.and_self];apply US.2.2.2.1;rw[An];refine⟨Z,E[i],by rw[Yh];exact Yd hi,?_⟩;rw[Ya e];exact⟨c,A4,by rw[Ya e2];rfl⟩
   .simp only[e,e2,decide_true,decide_false,Bool.and_false];apply US.2.2.2.1
    grind
  .simp only[e,decide_false,E2];apply US.2.2.2.1
   simp_all
def WB.best{m:Zf}{sizes:WL}{qa:List Zg}{M:Int}{E:List Zd}(h:WB m sizes qa M E):Xe E∈E:=Z2h h.ne
theorem Un{M:Int}(h:AU M):Xa M<=4:=by
 grind [m16,Z1e]
def WB.srt_makes{m:Zf}{sizes:WL}{qa:List Zg}{M:Int}{E:List Zd}(h:WB m sizes qa M E){v:Int}(hv:Bj qa M v=true)(hb:(Xe E).Order≠v):XA m sizes qa (CD m sizes M E v).Ze.Steps M v (CD m sizes M E v).Cost:=ZPF (h.makes _ h.best) hv hb
def Z2i(m:Zf)(hm:Ba m)(hg:Wi m.Sort_)(q:Zc)(hq:AI q)(hv:Zx q.Zh q.Atoms=true)(sizes:WL)(hs:Le sizes)(cc:Um sizes)(cd:WT q.Zh q.Atoms sizes=true){M:Int}(hM:AU M){E:List Zd}(h:WB m sizes q.Atoms M E){v:Int}(cl:Bj q.Atoms M v=true) :
  Mj m q sizes E v=some (.agg ((inp m sizes M E v).Ze.c.map .t),[])\/Mj m q sizes E v=some (.agg [.own 0],[.arr 149 3 true ((inp m sizes M E v).Ze.Steps.map Zk.c)]):=by
 have h4:=Un hM;have hlen:=h.len _ h.best;by_cases e:(Xe E).Order=v
 .left;have ho:=Zrb h.up h.best;rw[e]at ho;have hb:=(h.makes _ h.best).bound Z;have hp:=ZDq hg cc M M;have hu:=Ot m.Sort_ (Z6 sizes M) 0 (Z6 sizes M)
  have:inp m sizes M E v=Xe E:=by
   unfold inp;rw[ho];simp only;rw[Ya];unfold CD
   grind [Xn]
  rw[this];exact US.2.2.2.2 _ _ _ _ _ _ ⟨_,ZqZ E h.ne (by have:=h.le;omega),by rw[Ya e]⟩
 .have hc:=XA.cost (h.srt_makes cl e) hv (by simp only[CD,Oj,Yu,Yx,Df];omega) cd;have hloop:=ZPM m hm q hq sizes hs _ _ hc v E h.le 0 (Yc _);rw[Yo,ZDt h.up]at hloop
  have hx:Mj m q sizes E v=some (qC (CD m sizes M E v).Ze.Steps (match BP E v with
   |some e=>if e.Cost<=(CD m sizes M E v).Cost then some e else none
   |none=>none)):=US.2.2.2.2 _ _ _ _ _ _ ⟨_,ZqZ E h.ne (by have:=h.le;omega),by
    rw[Yb e]
    exact⟨_,ZP9 _ _ Z,hloop⟩⟩
  rw[hx];unfold inp
  cases BP E v with
  |none=>exact .inr rfl
  |some y =>
   simp only;split
   .exact .inl rfl
   .exact .inr rfl
