/-
  Parts of the proofs for this seat: TB PA PB OF OE TC CB.
-/
import Derived.Test.YtggcnlojfngdeaaGreatP23
set_option linter.all false
set_option maxRecDepth 100000
set_option maxHeartbeats 4000000
namespace Go.Proofs.YtggcnlojfngdeaaGreat
open Go.AM
def ZJG(a:Int):gA a=some (.agg [.own 0],[.arr 210 3 true (([(⟨1,a,0⟩:Zn)]).map Zn.c)]):=WU.2.2.1.1 _ _ rfl
def Q9(a b:List Zn)(k v:Int):List Zn:=a++b++[(⟨k,0,v⟩:Zn)]
def lB(a:List Zn)(v:Int):List Zn:=a++[(⟨2,0,v⟩:Zn)]
def HV(a b:Zj)(k v:Int)(ha:a.Steps.length<=1000)(hb:b.Steps.length<=1000):Hw a b k v=some (.agg [.own 0],[.arr 210 3 true ((Q9 a.Steps b.Steps k v).map Zn.c)]) :=
 WU.2.2.2.2 _ _ _ _ _ ⟨Z,Z,Z,rfl⟩
def Z83(a:Zj)(v:Int)(ha:a.Steps.length<=1000):gC a v=some (.agg [.own 0],[.arr 210 3 true ((lB a.Steps v).map Zn.c)]) :=
 KC.1.2.2 _ _ _ ⟨Z,Z,rfl⟩
def Ug(l:List Ze)(mask:Int):Nat->Int
 |0=>-1
 |k+1=>match l[k]? with
  |none=>Ug l mask k
  |some e=>if e.Mask=mask then(match l[(Ug l mask k).toNat]? with
    |some b=>if Ug l mask k<0 then(k:Int)else if e.Cost<b.Cost then(k:Int)else Ug l mask k
    |none=>(k:Int))else Ug l mask k
def Z84(l:List Ze)(mask:Int):∀k,-1<=Ug l mask k/\Ug l mask k<k
 |0=>by simp[Ug]
 |k+1=>by
  have ih:=Z84 l mask k;unfold Ug
  grind
def low(l:List Ze)(mask:Int):Int:=Ug l mask l.length
def lC(l:List Ze)(mask:Int)(hl:l.length<=1000):∀i,i<=l.length->RS l mask (Ug l mask i) i=some (I (low l mask),[]):=by
 refine down _ ?_ ?_
 .apply WU.2.2.1.2;rw[Ap];rfl
 .intro i hi ih;have h4:=ZK (i:=i) Z;have hb:=Z84 l mask i;apply WU.2.2.1.2;rw[Ao];refine⟨Z,l[i],by rw[Yj];exact Yf hi,?_⟩;rw[show w ((i:Int)+1)=((i+1:Nat):Int)from by rw[show w ((i:Int)+1)=(i:Int)+1 from h4];simp];unfold Ug at ih
  grind
def SH(l:List Ze)(mask:Int)(hl:l.length<=1000):FZ l mask=some (I (low l mask),[]):=WU.2.2.2.1 _ _ _ (lC l mask hl 0 (Yc _))
def Jw(mask c:Int):List Ze->Nat->Int
 |[],_=>-1
 |e::l,k=>if e.Mask=mask/\e.Order=c then(k:Int)else Jw mask c l (k+1)
def M0(l:List Ze)(mask c:Int)(hl:l.length<=1000):∀i,i<=l.length->gB l mask c i=some (I (Jw mask c (l.drop i) i),[]):=by
 refine down _ ?_ ?_
 .apply KC.1.1.2;rw[Ap];simp[Jw]
 .intro i hi ih;have h4:=ZK (i:=i) Z;apply KC.1.1.2;rw[Ao,Yh hi];refine⟨Z,l[i],by rw[Yj];exact Yf hi,?_⟩;rw[show w ((i:Int)+1)=((i+1:Nat):Int)from by rw[show w ((i:Int)+1)=(i:Int)+1 from h4];simp];unfold Jw
  simp_all
def find(l:List Ze)(mask c:Int):Int:=Jw mask c l 0
def Zpu(l:List Ze)(mask c:Int)(hl:l.length<=1000):RT l mask c=some (I (find l mask c),[]):=KC.1.2.1 _ _ _ _ (M0 l mask c hl 0 (Yc _))
abbrev MO:=Int×Int
def Kk(qa:List Zd)(x:Zn)(y z:MO):Option Int:=Vu qa x ⟨y.1,y.2,0,0⟩ ⟨z.1,z.2,0,0⟩
def ZJH(qa:List Zd)(x:Zn)(y z:Zp):Kk qa x (y.Mask,y.Order) (z.Mask,z.Order)=Vu qa x y z:=by
 unfold Kk Vu;rfl
def Vz(m:Zf)(sizes:WL)(qa:List Zd)(x:Zn)(S:List MO):Option (List MO×Int) :=
 if x.Kind=1 then(if Ak x.Zd 0 (qa.length-1)=true/\x.Order=0 then some ((Ac 1 x.Zd,(match qa[x.Zd.toNat]? with|some a=>a.Vars.headD 0|none=>0))::S,Xo (BC m 1) (Z5 sizes (Ac 1 x.Zd)) 0 (Z5 sizes (Ac 1 x.Zd)))else none)
 else if x.Zd≠0 then none
 else if x.Kind=2 then(match S with
  |y::S=>if Bg qa y.1 x.Order=true/\y.2≠x.Order then some ((y.1,x.Order)::S,Xo (BC m 2) (Z5 sizes y.1) 0 (Z5 sizes y.1))else none
  |[]=>none)
 else match S with
  |z::y::S=>if Aj y.1 z.1=0/\shr qa y.1 z.1=true then(Kk qa x y z).map (λo=>((Au y.1 z.1,o)::S,Xo (BC m x.Kind) (Z5 sizes y.1) (Z5 sizes z.1) (Z5 sizes (Au y.1 z.1))))else none
  |_=>none
def XA(m:Zf)(sizes:WL)(qa:List Zd):List Zn->List MO->Int->Option (List MO×Int)
 |[],S,c=>some (S,c)
 |x::xs,S,c=>match Vz m sizes qa x S with
  |none=>none
  |some (S',k)=>XA m sizes qa xs S' (w (c+k))
def SI(info:List Zp)(i:Int):Int:=match info[i.toNat]? with|some y=>y.Order|none=>0
def vw(info:List Zp)(rs:WL):List MO:=rs.map λs=>(Vo info s,SI info s)
def lD{info:List Zp}{s:Int}{rs:WL}:W3 (s::rs).reverse info 1=(info[s.toNat]?).map (s,·):=by
 simp[W3]
def Abd{info:List Zp}{t s:Int}{rs:WL}:W3 (t::s::rs).reverse info 2=(info[s.toNat]?).map (s,·):=by
 simp[W3]
def Abe{info:List Zp}:W3 [] info 1=none:=by simp[W3]
def lG{info:List Zp}:W3 [] info 2=none:=by simp[W3]
def lH{info:List Zp}{s:Int}:W3 [s] info 2=none:=by simp[W3]
def ZJI(m:Zf)(sizes:WL)(qa:List Zd)(x:Zn)(info:List Zp)(rs:WL)(hs:UN info rs.reverse):match Ub qa x info rs.reverse with
  |none=>Vz m sizes qa x (vw info rs)=none
  |some y=>Vz m sizes qa x (vw info rs)=some ((y.Mask,y.Order)::(vw info rs).drop (XX y),WN m info sizes x y):=by
 unfold Ub Vz;by_cases k1:x.Kind=1
 .simp only[Ya k1];by_cases c:Ak x.Zd 0 (qa.length-1)=true/\x.Order=0
  .simp[Ya c,XX,WN,k1];rfl
  .simp[Yb c]
 .simp only[Yb k1];by_cases ka:x.Zd≠0
  .simp[Ya ka]
  .simp only[Yb ka];by_cases k2:x.Kind=2
   .simp only[Ya k2]
    cases rs with
    |nil=>simp[vw,Abe]
    |cons s rs =>
     obtain⟨h0,h1⟩:=hs s Om;have e:info[s.toNat]?=some info[s.toNat]:=Yf h1;rw[lD,e];simp only[Option.map_some,vw,Yx,Vo,SI,e];by_cases c:Bg qa info[s.toNat].Mask x.Order=true/\info[s.toNat].Order≠x.Order
     .have hn:¬s<0:=by omega
      simp[Ya c,XX,WN,k2,Vo,e,h0,hn]
     .simp[Yb c]
   .simp only[Yb k2]
    match rs,hs with
    |[],_=>simp[vw,lG]
    |[s],_=>simp[vw,lH]
    |t::s::rs,hs =>
     obtain⟨h0,h1⟩:=hs s Om;obtain⟨t0,t1⟩:=hs t Om;have e:info[s.toNat]?=some info[s.toNat]:=Yf h1;have et:info[t.toNat]?=some info[t.toNat]:=Yf t1;rw[lD,Abd,e,et];simp only[Option.map_some,vw,Yx,Vo,SI,e,et];by_cases c:Aj info[s.toNat].Mask info[t.toNat].Mask=0/\shr qa info[s.toNat].Mask info[t.toNat].Mask=true
     .simp only[Ya c,ZJH]
      cases ho:Vu qa x info[s.toNat] info[t.toNat]with
      |none=>simp
      |some o =>
       have hn:¬s<0:=by omega
       have tn:¬t<0:=by omega
       simp[XX,WN,Vo,e,et,h0,t0,hn,tn]
     .simp[Yb c]
def M1{info tail:List Zp}{rs:WL}(hs:∀s∈rs,0<=s/\s.toNat<info.length):vw (info++tail) rs=vw info rs:=by
 unfold vw;refine DU λs h=>?_
 have:=(hs s h).2;simp[Vo,SI,rH this]
def ZJJ{m:Zf}{sizes:WL}{info tail:List Zp}{x:Zn}{y:Zp}(h:MZ info.length x y):WN m (info++tail) sizes x y=WN m info sizes x y:=by
 unfold WN;rcases h.refs with⟨a,b⟩|⟨⟨a,a'⟩,b⟩
 .simp[a,b]
 .have e1:Vo (info++tail) y.Left=Vo info y.Left:=by simp[Vo,rH a']
  rcases b with b|⟨b,b'⟩
  .simp[b,e1]
  .have e2:Vo (info++tail) y.Right=Vo info y.Right:=by simp[Vo,rH b']
   simp[e1,e2]
def Zzv(m:Zf)(sizes:WL)(qa:List Zd):∀(xs:List Zn) (info:List Zp) (rs:WL) (c:Int),UN info rs.reverse->
  match WG qa xs info.length info rs.reverse with
  |none=>XA m sizes qa xs (vw info rs) c=none
  |some (Bh,st')=>∃tail,Bh=info++tail/\tail.length=xs.length/\XA m sizes qa xs (vw info rs) c=some (vw Bh st'.reverse,Wb (XO m Bh sizes xs tail) c)
 |[],info,rs,c,hs=>by
  simp only[WG,XA]
  exact⟨[],Om,rfl,by simp[XO,Wb]⟩
 |x::xs,info,rs,c,hs=>by
  have hv:=ZJI m sizes qa x info rs hs;rw[WG,XA]
  cases hy:Ub qa x info rs.reverse with
  |none=>rw[hy]at hv;simp only at hv;rw[hv]
  |some y =>
   rw[hy]at hv;simp only at hv;rw[hv];simp only;have ho:=Z8w hs hy;have hn:=aY hs y (rs.reverse.length-XX y);have er:rs.reverse.take (rs.reverse.length-XX y)++[(info.length:Int)]=((info.length:Int)::rs.drop (XX y)).reverse:=by
    rw[List.reverse_cons,List.reverse_drop,List.length_reverse]
   rw[er]at hn|-;have ih:=Zzv m sizes qa xs (info++[y]) ((info.length:Int)::rs.drop (XX y)) (w (c+WN m info sizes x y)) hn;have ev:vw (info++[y]) ((info.length:Int)::rs.drop (XX y))=(y.Mask,y.Order)::(vw info rs).drop (XX y):=by
    have:=M1 (info:=info) (tail:=[y]) (rs:=rs.drop (XX y)) (λs h=>hs s (by simp;exact Is h));rw[show vw (info++[y]) ((info.length:Int)::rs.drop (XX y))=(Vo (info++[y]) info.length,SI (info++[y]) info.length)::vw (info++[y]) (rs.drop (XX y))from rfl,this];simp[Vo,SI,vw,List.map_drop]
   rw[ev]at ih;rw[show(info++[y]).length=info.length+1 by simp]at ih;split at ih
   .exact ih
   .rename_i Bh st' hg;obtain⟨tail,a,b,d⟩:=ih;refine⟨y::tail,by simp[a],by simp[b],?_⟩;rw[d];have e2:WN m Bh sizes x y=WN m info sizes x y:=by rw[a,DT];exact ZJJ ho
    simp[XO,Wb,e2]
def ZJK{m:Zf}{n:Int}{qa:List Zd}{sizes:WL}{steps:List Zn}{y:MO}{c:Int}(hv:Z3 n qa=true)(hl:1<=steps.length/\steps.length<=14)(hs:WK n qa sizes=true)(h:XA m sizes qa steps [] 0=some ([y],c)):W1 m n qa steps sizes=c:=by
 have g:=Zzv m sizes qa steps [] [] 0 (λs h=>by simp at h);simp only[Ff,List.reverse_nil]at g;have hr:Ak (steps.length:Int) 1 14=true:=by simp[Ak];omega
 cases hg:WG qa steps 0 [] []with
 |none=>rw[hg]at g;simp only[vw,Dm]at g;rw[g]at h;cases h
 |some p =>
  obtain⟨Bh,st'⟩:=p;rw[hg]at g;obtain⟨tail,a,b,d⟩:=g;simp only[vw,Dm]at d;rw[d]at h;simp only[DW]at a;subst a
  cases h':st'.reverse with
  |nil=>rw[h']at h;simp at h
  |cons s rs =>
   rw[h']at h;simp only[Yx,Y7,CW,Tv,List.map_eq_nil_iff]at h;have hlen:st'.length=1:=by rw[<-List.length_reverse,h',h.1.2];rfl
   have hi:XL n qa steps=some Bh:=by simp[XL,hv,hr,hg,hlen]
   simp[W1,Kj,Uz,hi,hs,h.2]
theorem M2(x:Int):w x=(x+9223372036854775808) % 18446744073709551616-9223372036854775808:=by
 simp only[w,IntKind.wrap,IntKind.signed,IntKind.bits,Yl]
 grind
def w_w(x:Int):w (w x)=w x:=by rw[M2,M2];omega
def Zpv(m:Zf)(sizes:WL)(qa:List Zd):∀(xs ys:List Zn) (S:List MO) (c:Int),XA m sizes qa (xs++ys) S c=match XA m sizes qa xs S c with
  |none=>none
  |some (S',c')=>XA m sizes qa ys S' c'
 |[],ys,S,c=>by simp[XA]
 |x::xs,ys,S,c=>by
  rw[List.cons_append,XA,XA]
  cases Vz m sizes qa x S with
  |none=>rfl
  |some p=>simp only;exact Zpv m sizes qa xs ys p.1 _
def ZJL{m:Zf}{sizes:WL}{qa:List Zd}{x:Zn}{S S' B:List MO}{c:Int}(h:Vz m sizes qa x S=some (S',c)):Vz m sizes qa x (S++B)=some (S'++B,c):=by
 unfold Vz at h|-;by_cases k1:x.Kind=1
 .grind
 .simp only[Yb k1]at h|-;by_cases ka:x.Zd≠0
  .simp[Ya ka]at h
  .simp only[Yb ka]at h|-;by_cases k2:x.Kind=2
   .grind
   .simp only[Yb k2]at h|-
    match S,h with
    |[],h=>cases h
    |[y],h=>cases h
    |z::y::S,h =>
     simp only[List.cons_append]at h|-;split at h
     .rename_i hc;rw[Ya hc]
      cases ho:Kk qa x y z with
      |none=>rw[ho]at h;cases h
      |some o=>rw[ho]at h;cases h;rfl
     .cases h
def Z85{m:Zf}{sizes:WL}{qa:List Zd}{B:List MO}:∀{xs:List Zn} {S S':List MO} {c c':Int},XA m sizes qa xs S c=some (S',c')->XA m sizes qa xs (S++B) c=some (S'++B,c')
 |[],S,S',c,c',h=>by simp[XA]at h|-;simp[h]
 |x::xs,S,S',c,c',h=>by
  rw[XA]at h|-
  cases hs:Vz m sizes qa x S with
  |none=>rw[hs]at h;cases h
  |some p=>rw[hs]at h;rw[ZJL hs];exact Z85 h
def Z86{m:Zf}{sizes:WL}{qa:List Zd}:∀{xs:List Zn} {S S':List MO} {a k:Int},XA m sizes qa xs S a=some (S',k)->∀c,w c=c->XA m sizes qa xs S c=some (S',w (c+(k-a)))
 |[],S,S',a,k,h,c,hc=>by
  simp[XA]at h|-
  simp_all
 |x::xs,S,S',a,k,h,c,hc=>by
  rw[XA]at h|-
  cases hs:Vz m sizes qa x S with
  |none=>rw[hs]at h;cases h
  |some p =>
   obtain⟨S1,e⟩:=p;rw[hs]at h;simp only at h|-;rw[Z86 h (w (c+e)) (w_w _)]
   grind [M2]
def Z87{m:Zf}{sizes:WL}{qa:List Zd}:∀{xs:List Zn} {S S':List MO} {a k:Int},XA m sizes qa xs S a=some (S',k)->w a=a->w k=k
 |[],S,S',a,k,h,ha=>by simp[XA]at h;rw[<-h.2];exact ha
 |x::xs,S,S',a,k,h,ha=>by
  rw[XA]at h
  cases hs:Vz m sizes qa x S with
  |none=>rw[hs]at h;cases h
  |some p=>rw[hs]at h;exact Z87 h (w_w _)
def Wd(m:Zf)(sizes:WL)(qa:List Zd)(xs:List Zn)(mask cc c:Int):Prop:=XA m sizes qa xs [] 0=some ([(mask,cc)],c)
def Wd.can{m:Zf}{sizes:WL}{qa:List Zd}{xs:List Zn}{a o c:Int}(h:Wd m sizes qa xs a o c):w c=c:=Z87 h rfl
def Wd.on{m:Zf}{sizes:WL}{qa:List Zd}{xs:List Zn}{a o c:Int}(h:Wd m sizes qa xs a o c)(B:List MO)(d:Int)(hd:w d=d):XA m sizes qa xs B d=some ((a,o)::B,w (d+c)):=by
 have:=Z85 (B:=B) (Z86 h d hd)
 simp_all
def ZJM{m:Zf}{sizes:WL}{qa:List Zd}{xs ys:List Zn}{a o c b p d:Int}{x:Zn}{r:Int}(hx:Wd m sizes qa xs a o c)(hy:Wd m sizes qa ys b p d)(hk:3<=x.Kind)(cc:x.Zd=0)(hd:Aj a b=0)(cd:shr qa a b=true)(ho:Kk qa x (a,o) (b,p)=some r) :
  Wd m sizes qa (xs++ys++[x]) (Au a b) r (w (w (c+d)+Xo (BC m x.Kind) (Z5 sizes a) (Z5 sizes b) (Z5 sizes (Au a b)))):=by
 unfold Wd at *
 rw[Zpv,Zpv,hx];simp only;rw[Wd.on hy _ _ (Wd.can hx)];simp only;rw[XA];have hs:Vz m sizes qa x [(b,p),(a,o)]=some ([(Au a b,r)],Xo (BC m x.Kind) (Z5 sizes a) (Z5 sizes b) (Z5 sizes (Au a b))):=by
  unfold Vz
  grind
 rw[hs];rfl
def ZJN{m:Zf}{sizes:WL}{qa:List Zd}{xs:List Zn}{a o c v:Int}(hx:Wd m sizes qa xs a o c)(hv:Bg qa a v=true)(ho:o≠v) :
  Wd m sizes qa (lB xs v) a v (w (c+Xo m.Sort_ (Z5 sizes a) 0 (Z5 sizes a))):=by
 unfold Wd at *
 rw[lB,Zpv,hx];simp only;rw[XA];have hs:Vz m sizes qa ⟨2,0,v⟩ [(a,o)]=some ([(a,v)],Xo m.Sort_ (Z5 sizes a) 0 (Z5 sizes a)):=by
  unfold Vz;simp[hv,ho,BC]
 rw[hs];rfl
def ZJO{m:Zf}{sizes:WL}{qa:List Zd}{i:Nat}(h:i<qa.length) :
  Wd m sizes qa [⟨1,i,0⟩] (Ac 1 i) (qa[i].Vars.headD 0) (w (Xo m.Scan (Z5 sizes (Ac 1 i)) 0 (Z5 sizes (Ac 1 i)))):=by
 unfold Wd;rw[XA];have hi:Ak (i:Int) 0 (qa.length-1)=true:=by simp[Ak];omega
 have hs:Vz m sizes qa ⟨1,i,0⟩ []=some ([(Ac 1 i,qa[i].Vars.headD 0)],Xo m.Scan (Z5 sizes (Ac 1 i)) 0 (Z5 sizes (Ac 1 i))):=by
  unfold Vz;simp[hi,BC,Yf h]
 rw[hs];simp[XA]
def Wd.cost{m:Zf}{sizes:WL}{n:Int}{qa:List Zd}{xs:List Zn}{a o c:Int}(h:Wd m sizes qa xs a o c)(hv:Z3 n qa=true)(hl:1<=xs.length/\xs.length<=14)(hs:WK n qa sizes=true):W1 m n qa xs sizes=c:=ZJK hv hl hs h
def M3{qa:List Zd}{y z:MO}:Kk qa ⟨3,0,0⟩ y z=some (-1):=by simp[Kk,Vu]
def M4{qa:List Zd}{y z:MO}:Kk qa ⟨5,0,0⟩ y z=some y.2:=by simp[Kk,Vu]
def ZJP{qa:List Zd}{y z:MO}{v:Int}(h1:Bg qa y.1 v=true)(h2:Bg qa z.1 v=true)(h3:y.2=v)(h4:z.2=v):Kk qa ⟨4,0,v⟩ y z=some v:=by simp[Kk,Vu,h1,h2,h3,h4]
def HW(b e:Ze):Ze:=if e.Cost<b.Cost then e else b
def W4(l:List Ze):Ze:=match l with|[]=>⟨0,0,0,⟨[]⟩⟩|e::l=>(e::l).foldl HW e
def WV(e:Ze)(mask a c:Int)(x:List Zn):Ze:=if e.Mask=0 then⟨mask,a,c,⟨x⟩⟩else if c<e.Cost then⟨mask,a,c,⟨x⟩⟩else e
def sm(e:Ze):Bool:=decide (e.Mask≠0)
def M5{e:Ze}{mask a cost:Int}{x:List Zn}(h:mask≠0):sm (WV e mask a cost x)=true:=by
 unfold WV sm
 grind
def sel(y:Bool)(e:Ze):List Ze:=if y=true then[e]else[]
section
variable(m:Zf)(q:Zc)(sizes:WL)(mask:Int)(a0 a1 a2 a3 a4:Ze)(s0 s1 s2 s3 s4:Bool)
end
def Z88(a0 a1 a2 a3 a4:Ze):List Ze:=[a0,a1,a2,a3,a4].filter sm
def ofM(l:List Ze)(mask:Int):List Ze:=l.filter λe=>decide (e.Mask=mask)
def ZJQ(e:Ze):W4 [e]=e:=by simp[W4,HW]
def ZJR{l:List Ze}(h:l≠[])(e:Ze):W4 (l++[e])=HW (W4 l) e:=by
 cases l with
 |nil=>exact absurd rfl h
 |cons a l=>simp[W4,List.foldl_append]
def Z89{l:List Ze}(h:l≠[]):W4 l∈l:=by
 have:∀(l:List Ze) (b:Ze),l.foldl HW b=b\/l.foldl HW b∈l:=by
  intro l
  induction l with
  |nil=>intro b;exact .inl rfl
  |cons a l ih =>
   intro b;rw[Y6];rcases ih (HW b a)with h|h
   .rw[h];unfold HW
    grind
   .simp_all
 cases l with
 |nil=>exact absurd rfl h
 |cons a l =>
  rcases this (a::l) a with e|e
  .rw[show W4 (a::l)=a from e];simp
  .exact e
def ZJS(l:List Ze)(mask:Int){k:Nat}(h:k<l.length):ofM (l.take (k+1)) mask=ofM (l.take k) mask++(if l[k].Mask=mask then[l[k]]else[]):=by
 unfold ofM
 simp_all [Zrg]
def Z8A(l:List Ze)(mask:Int):∀k,k<=l.length->(ofM (l.take k) mask=[]->Ug l mask k=-1)/\(ofM (l.take k) mask≠[]->0<=Ug l mask k/\l[(Ug l mask k).toNat]?=some (W4 (ofM (l.take k) mask)))
 |0,_=>by simp[Ug,ofM]
 |k+1,h=>by
  obtain⟨i1,i2⟩:=Z8A l mask k Z;have hk:k<l.length:=by omega
  rw[ZJS l mask hk];unfold Ug;rw[Yf hk];by_cases e:l[k].Mask=mask
  .simp only[Ya e];refine⟨λh=>by simp at h,λ_=>?_⟩;by_cases e0:ofM (l.take k) mask=[]
   .have i:=i1 e0;rw[e0,DW,ZJQ]
    grind
   .obtain⟨j1,j2⟩:=i2 e0;rw[j2,ZJR e0];simp only;rw[Ap];unfold HW
    grind
  .simp_all
def Zpw{l:List Ze}{mask:Int}(h:ofM l mask≠[]):0<=low l mask/\l[(low l mask).toNat]?=some (W4 (ofM l mask)):=by
 have:=(Z8A l mask l.length (Yk _)).2;rw[Yr]at this;exact this h
def Ca(l:List Ze)(o:Int):Option Ze:=l.find? λe=>decide (e.Order=o)
def Z8B(l:List Ze)(mask o:Int):∀(xs:List Ze) (k:Nat),l.drop k=xs->match Ca (ofM xs mask) o with
  |none=>Jw mask o xs k=-1
  |some e=>0<=Jw mask o xs k/\l[(Jw mask o xs k).toNat]?=some e
 |[],k,h=>by simp[ofM,Ca,Jw]
 |x::xs,k,h=>by
  have hk:l[k]?=some x:=by
   have:=congrArg (·[0]?) h;simpa using this
  have hd:l.drop (k+1)=xs:=by
   have:=congrArg (List.drop 1) h;simpa[Nat.add_comm]using this
  have ih:=Z8B l mask o xs (k+1) hd;unfold Jw;by_cases e:x.Mask=mask
  .have e1:ofM (x::xs) mask=x::ofM xs mask:=by simp[ofM,e]
   rw[e1];by_cases e2:x.Order=o
   .have:Ca (x::ofM xs mask) o=some x:=by simp[Ca,e2]
    simp_all
   .have:Ca (x::ofM xs mask) o=Ca (ofM xs mask) o:=by simp[Ca,e2]
    simp_all
  .have e1:ofM (x::xs) mask=ofM xs mask:=by simp[ofM,e]
   simp_all
def Z8C(l:List Ze)(mask o:Int):match Ca (ofM l mask) o with
  |none=>find l mask o=-1
  |some e=>0<=find l mask o/\l[(find l mask o).toNat]?=some e:=Z8B l mask o l 0 rfl
def lI{a l:Int}{A L:Nat}(h1:-(A:Int)<=a)(h2:a<=A)(h3:0<=l)(h4:l<=L):-((A:Int)*L)<=a*l/\a*l<=(A:Int)*L:=by
 have e1:a*l<=(A:Int)*l:=Int.mul_le_mul_of_nonneg_right h2 h3;have e2:-(A:Int)*l<=a*l:=Int.mul_le_mul_of_nonneg_right h1 h3;have e3:(A:Int)*l<=(A:Int)*L:=Int.mul_le_mul_of_nonneg_left h4 Z
 grind
def lJ{a:Int}(h:Ux a=true):-99<=a/\a<=99:=by simp[Ux,Ak]at h;omega
theorem ZO{x:Int}(h1:-9223372036854775808<=x)(h2:x<=9223372036854775807):w x=x:=ZF h1 h2
def M6{o:Zz}{l r n:Int}(hv:Wl o=true)(hl:0<=l/\l<=4096)(hr:0<=r/\r<=4096)(hn:0<=n/\n<=4096):-1662161000<=Ga o l r n/\Ga o l r n<=1662161000:=by
 simp only[Wl,Yd]at hv;obtain⟨⟨⟨⟨⟨⟨v1,v2⟩,v3⟩,v4⟩,v5⟩,v6⟩,v7⟩:=hv;have b1:=lJ v1;have b2:=lJ v2;have b3:=lJ v3;have b4:=lJ v4;have b5:=lJ v5;have m2:=lI (A:=99) (L:=4096) b2.1 b2.2 hl.1 hl.2;have m3:=lI (A:=99) (L:=4096) b3.1 b3.2 hr.1 hr.2;have m4:=lI (A:=99) (L:=4096) b4.1 b4.2 hn.1 hn.2;have m5:=lI (A:=99) (L:=4096) b5.1 b5.2 hl.1 hl.2;have m6:=lI (A:=405504) (L:=4096) (a:=o.Vm*l) (l:=r) (by simpa using m5.1) (by simpa using m5.2) hr.1 hr.2;simp at m2 m3 m4 m5 m6;unfold Ga
 grind [ZO]
def Z8D{l r:Int}:∀{st:List Z9} {p n B:Int},Kf p st=true->B+99*st.length<=1000000000000->-B<=n/\n<=B->-(B+99*st.length)<=st.foldl (Kg l r) n/\st.foldl (Kg l r) n<=B+99*st.length
 |[],p,n,B,_,_,h=>by simp;omega
 |s::st,p,n,B,hs,hB,h=>by
  simp only[Kf,Yd]at hs;have ha:=hs.1.1.2;simp[Ak]at ha;simp only[Yy]at hB|-;have e:-(B+99)<=Kg l r n s/\Kg l r n s<=B+99:=by
   unfold Kg
   grind [ZO]
  have g:=Z8D (l:=l) (r:=r) hs.2 Z e
  grind
def Z8E(o:Zz)(l r n:Int):-2000000000<=Xo o l r n/\Xo o l r n<=1662170000:=by
 unfold Xo;split
 .rename_i h;simp only[Yd]at h;obtain⟨⟨⟨hv,hl⟩,hr⟩,hn⟩:=h;simp[Ak]at hl hr hn;have b:=M6 hv hl hr hn;simp only[Wl,Yd,decide_eq_true_eq]at hv;have:=Z8D (l:=l) (r:=r) (B:=1662161000) hv.2 (by have:=hv.1.2;omega) b;have:=hv.1.2;unfold Sw;omega
 .omega
def M7(o:Zz)(l r n:Int):-2000000000<=Xo o l r n/\Xo o l r n<=2000000000:=by have:=Z8E o l r n;omega
def Z8F{o:Zz}(h:XG o){a b c:Int}(ha:0<=a/\a<=7)(hb:0<=b/\b<=7)(hc:0<=c/\c<=7):1<=Xo o (Xi a) (Xi b) (Xi c):=by
 have h3:¬A6 o [a,b,c]<1:=λhh=>h.2.2 ⟨[a,b,c],⟨a,b,c,rfl,ha,hb,hc⟩,hh⟩
 simp[Xo,h.1,Sx ha.1 ha.2,Sx hb.1 hb.2,Sx hc.1 hc.2];simp[A6]at h3;omega
def U0(sizes:WL):Prop:=∀s∈sizes,∃a,(0<=a/\a<=7)/\s=Xi a
def lK{sizes:WL}(h:U0 sizes)(k:Int):∃a,(0<=a/\a<=7)/\Z5 sizes k=Xi a:=by
 unfold Z5
 cases e:sizes[k.toNat]? with
 |none=>exact⟨0,Z,Sm⟩
 |some s=>exact h s (Y3 e)
def ZJT{o:Zz}(h:XG o){sizes:WL}(hs:U0 sizes)(a b:Int):1<=Xo o (Z5 sizes a) 0 (Z5 sizes b):=by
 obtain⟨x,hx,ex⟩:=lK hs a;obtain⟨y,hy,ey⟩:=lK hs b;rw[ex,ey,show(0:Int)=Xi 0 by decide]
 simp_all [Z8F]
def ZJU{l:WL}(h:Xs l=true):U0 (Xa l):=by
 intro s hs;simp only[Xa,Yp]at hs;obtain⟨a,ha,rfl⟩:=hs;refine⟨a,?_,rfl⟩;simp only[Xs,Yd,QV,Yn]at h;have:=h.1 a ha;simp[Ak]at this;omega
def Z8G{m:Zf}{sizes:WL}{qa:List Zd}:∀{xs:List Zn} {S S':List MO} {c k B:Int},XA m sizes qa xs S c=some (S',k)->-B<=c/\c<=B->B+2000000000*xs.length<=1000000000000->-(B+2000000000*xs.length)<=k/\k<=B+2000000000*xs.length
 |[],S,S',c,k,B,h,hc,hB=>by simp[XA]at h;simp;omega
 |x::xs,S,S',c,k,B,h,hc,hB=>by
  rw[XA]at h;simp only[Yy]at hB|-
  cases hs:Vz m sizes qa x S with
  |none=>rw[hs]at h;cases h
  |some p =>
   obtain⟨S1,e⟩:=p;rw[hs]at h;have he:-2000000000<=e/\e<=2000000000:=by
    unfold Vz at hs;split at hs
    .split at hs
     .cases hs;exact M7 _ _ _ _
     .cases hs
    .split at hs
     .cases hs
     .split at hs
      .split at hs
       .split at hs
        .cases hs;exact M7 _ _ _ _
        .cases hs
       .cases hs
      .split at hs
       .split at hs
        .rw[Yo]at hs;obtain⟨o,_,ho⟩:=hs;cases ho;exact M7 _ _ _ _
        .cases hs
       .cases hs
   have:=Z8G (B:=B+2000000000) h (by rw[ZO Z Z];omega) Z;omega
def Wd.bound{m:Zf}{sizes:WL}{qa:List Zd}{xs:List Zn}{a o c:Int}(h:Wd m sizes qa xs a o c)(hl:xs.length<=100):-200000000000<=c/\c<=200000000000:=by
 have:=Z8G (B:=0) h Z Z;omega
