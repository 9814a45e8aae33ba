/-
  Parts of the proofs for this seat: PW V1 V2 V3 V4 V5 V6 OP AD MK SP.
-/
import Derived.Test.YteaiinkcanpleaaGreatP24
set_option linter.all false
set_option maxRecDepth 100000
set_option maxHeartbeats 4000000
namespace Go.Proofs.YteaiinkcanpleaaGreat
open Go.AM
def Al(a b c:Int):Bool:=decide (b<=a/\a<=c)
def XJ(c:Int):Int:=if c<0 then -1 else if c=0 then 0 else if c=1 then 1 else if c=2 then 4 else if c=3 then 16 else if c=4 then 64 else if c=5 then 256 else if c=6 then 1024 else if c=7 then 4096 else -1
def kM{c:Int}(h:Al c 0 7=true):c=0\/c=1\/c=2\/c=3\/c=4\/c=5\/c=6\/c=7:=by
 simp[Al]at h;omega
def ZAu{c:Int}(h:Al c 0 7=false):XJ c=-1:=by
 simp[Al]at h;unfold XJ;omega
def JC(n:Int):Int:=if n<0 then -1 else if n<=0 then 0 else if n<=1 then 1 else if n<=4 then 2 else if n<=16 then 3 else if n<=64 then 4 else if n<=256 then 5 else if n<=1024 then 6 else if n<=4096 then 7 else -1
def Gf{α:Type}(p:α->Bool){xs:List α}{i:Nat}(h:i<xs.length):(xs.drop i).all p=(p xs[i] && (xs.drop (i+1)).all p):=by
 rw[Yi h,CU]
def ZLv{α:Type}(p:α->Bool){xs:List α}{i:Nat}(h:i<xs.length):(xs.drop i).any p=(p xs[i] || (xs.drop (i+1)).any p):=by
 rw[Yi h,GM]
def JD(xs:WL):Bool:=xs.all (λx=>Al x 0 7)
def Xl(xs:WL):Bool:=JD xs && decide ((xs.length:Int)<=16)
def ZAv{xs:WL}{i:Nat}(h:i<xs.length):JD (xs.drop i)=(Al xs[i] 0 7 && JD (xs.drop (i+1))):=Gf _ h
def Uv:WL->WL->Bool
 |x::xs,y::ys=>decide (y<=x) && Uv xs ys
 |_,_=>true
def dom(xs ys:WL):Bool:=decide (xs.length=ys.length) && Uv xs ys
def ZAw{xs ys:WL}{i:Nat}(h:i<xs.length)(h':i<ys.length):Uv (xs.drop i) (ys.drop i)=(decide (ys[i]<=xs[i]) && Uv (xs.drop (i+1)) (ys.drop (i+1))):=by
 rw[Yi h,Yi h',Uv]
def Xr(lo hi:WL):Bool:=decide (0<lo.length) && Xl lo && Xl hi && dom hi lo
def MF(lo hi l:WL):Bool:=Xr lo hi && dom l lo && dom hi l
def X1(a b c d:Bool):Int:=(if a then 1 else 0)+(if b then 2 else 0)+(if c then 4 else 0)+(if d then 8 else 0)
def Xs(p:Nat->Bool):Int:=X1 (p 0) (p 1) (p 2) (p 3)
def in4{v:Int}(h:Al v 0 3=true):v=0\/v=1\/v=2\/v=3:=by simp[Al]at h;omega
def has(xs:WL)(v:Int):Bool:=xs.any (λx=>decide (v=x))
theorem Ko{xs:WL}{v:Int}:has xs v=true↔v∈xs:=by
 simp only[has,List.any_eq_true,decide_eq_true_eq];simp
def WF(p:Nat->Bool)(vs:WL):Nat->Bool:=λu=>p u || has vs u
def Z0H(p:Nat->Bool):WF p []=p:=by funext u;simp[WF,has]
def ZLw(p:Nat->Bool)(v:Int)(vs:WL):WF (WF p [v]) vs=WF p (v::vs):=by funext u;simp[WF,has,Bool.or_assoc]
def Z0I(p:Nat->Bool){vs:WL}{i:Nat}(h:i<vs.length):WF p (vs.drop i)=WF (WF p [vs[i]]) (vs.drop (i+1)):=by
 rw[Yi h,ZLw]
def Aa1:∀a b c d:Bool,At (X1 a b c d) 1=X1 true b c d/\At (X1 a b c d) 2=X1 a true c d/\At (X1 a b c d) 4=X1 a b true d/\At (X1 a b c d) 8=X1 a b c true:=by decide
def ZpS(p:Nat->Bool){v:Int}(h:Al v 0 3=true):At (Xs p) (Ac 1 v)=Xs (WF p [v]):=by
 have q:=Aa1 (p 0) (p 1) (p 2) (p 3);rcases in4 h with rfl|rfl|rfl|rfl<;>simp[WF,has,Xs,Ac,ZE,q]
def kN:∀a b c d:Bool,(Ah (Au (X1 a b c d) 0) 1=1↔a=true)/\(Ah (Au (X1 a b c d) 1) 1=1↔b=true)/\(Ah (Au (X1 a b c d) 2) 1=1↔c=true)/\(Ah (Au (X1 a b c d) 3) 1=1↔d=true):=by decide
def Z0J(p:Nat->Bool){v:Int}(h:Al v 0 3=true):Ah (Au (Xs p) v) 1=1↔p v.toNat=true:=by
 have q:=kN (p 0) (p 1) (p 2) (p 3);rcases in4 h with rfl|rfl|rfl|rfl<;>simp[Xs,q]
def Aa2:∀a b c d a' b' c' d':Bool,Ah (X1 a b c d) (X1 a' b' c' d')=X1 (a && a') (b && b') (c && c') (d && d'):=by decide
def ZAx(p q:Nat->Bool):Ah (Xs p) (Xs q)=Xs (λu=>p u && q u):=Aa2 _ _ _ _ _ _ _ _
def kO:∀a b c d:Bool,X1 a b c d=0↔(a=false/\b=false/\c=false/\d=false):=by decide
def ZLx(p:Nat->Bool):Xs p=0↔∀u,u<4->p u=false:=by
 rw[Xs,kO]
 grind
def Wt{α:Type}(p:α->Bool):List α->Nat->Int
 |[],_=>-1
 |x::xs,i=>if p x=true then i else Wt p xs (i+1)
def Sz{α:Type}(p:α->Bool){xs:List α}{i:Nat}(h:i<xs.length):Wt p (xs.drop i) i=if p xs[i]=true then(i:Int)else Wt p (xs.drop (i+1)) (i+1):=by
 rw[Yi h,Wt]
def Z0K{α:Type}(p:α->Bool)(xs:List α):∀i,xs.any p=false->Wt p xs i=-1:=by
 induction xs with
 |nil=>intro i _;rfl
 |cons x xs ih=>intro i h;simp at h;simp[Wt,h];apply ih;simp;exact h.2
def Z0L{α:Type}(p:α->Bool)(xs:List α):∀i,xs.any p=true->0<=Wt p xs i:=by
 induction xs with
 |nil=>intro i h;simp at h
 |cons x xs ih =>
  intro i h;unfold Wt
  grind
abbrev tB(xs:List Bool):T:=.lst 1 (xs.map λb=>[T.bool b])
def Qo(s:V6):Bool:=match s[0]? with
 |some b=>decide (s.size=1) && decide (97<=(b.toNat:Int)) && decide ((b.toNat:Int)<=122)
 |none=>false
def Aa3{s:V6}(h:s.size=1):∃b,s[0]?=some b:=⟨s[0],getElem?_pos s 0 Z⟩
def WG(n:Int)(c:WL):WL->Bool
 |[]=>true
 |v::rest=>Al v 0 (n-1) && !has c v && WG n (c++[v]) rest
def ZpT(n:Int){vs:WL}{k:Nat}(h:k<vs.length):WG n (vs.take k) (vs.drop k)=(Al vs[k] 0 (n-1) && !has (vs.take k) vs[k] && WG n (vs.take (k+1)) (vs.drop (k+1))):=by
 conv=>lhs;rw[Yi h,WG]
 simp
theorem ZpU{n:Int}:∀{vs c:WL},WG n c vs=true->∀v∈vs,Al v 0 (n-1)=true
 |[],_,_,v,hv=>by cases hv
 |x::xs,c,h,v,hv=>by
  simp only[WG,Yg]at h
  cases hv with
  |head=>exact h.1.1
  |tail _ hv=>exact ZpU h.2 v hv
def WO(n:Int)(a:Zg):Bool:=Qo a.Name && Al a.Vars.length 1 3 && WG n [] a.Vars
def Uw(p:Nat->Bool)(qa:List Zg):Nat->Bool:=λu=>p u || qa.any λa=>has a.Vars u
def ZAy(p:Nat->Bool){qa:List Zg}{i:Nat}(h:i<qa.length):Uw p (qa.drop i)=Uw (WF p qa[i].Vars) (qa.drop (i+1)):=by
 rw[Yi h];funext u;simp only[Uw,GM,WF,Bool.or_assoc]
def Zx(n:Int)(qa:List Zg):Bool :=
 Al n 1 4 && Al qa.length 1 4 && qa.all (WO n) && (List.range n.toNat).all (Uw (λ_=>false) qa)
def bl(p:Nat->Bool)(n:Nat):WI:=(List.range n).map λu=>[T.bool (p u)]
@[simp] def Aa4(p:Nat->Bool)(n i:Nat)(h:i<(bl p n).length):(bl p n)[i]=[T.bool (p i)]:=by simp[bl]
def MG(p:Nat->Bool)(n:Nat):((List.range n).map p).any (λx=>false == x)=!(List.range n).all p:=by
 grind
def ZpV:∀a b c d:Bool,(X1 a b c d=1↔(a=true/\b=false/\c=false/\d=false))/\(X1 a b c d=3↔(a=true/\b=true/\c=false/\d=false))/\(X1 a b c d=7↔(a=true/\b=true/\c=true/\d=false))/\(X1 a b c d=15↔(a=true/\b=true/\c=true/\d=true)):=by decide
def all_in{n:Int}{qa:List Zg}(h:qa.all (WO n)=true):∀u:Int,n<=u->qa.any (λa=>has a.Vars u)=false:=by
 intro u hu;rw[rT];intro a ha hc;rw[Ko]at hc;have:=Yp.1 h a ha;simp only[WO,Yg]at this;have:=ZpU this.2 _ hc;simp[Al]at this;omega
def Z3(n:Int)(qa:List Zg):Int:=if Zx n qa=true then Ac 1 qa.length-1 else 0
theorem KR{n:Int}{qa:List Zg}(h:Zx n qa=true):(qa.length=1\/qa.length=2\/qa.length=3\/qa.length=4)/\Ac 1 qa.length=2 ^ qa.length/\IntKind.wrap .i64 (Ac 1 qa.length-1)=Ac 1 qa.length-1/\IntKind.wrap .i64 (Ac 1 qa.length-1+1)=Ac 1 qa.length-1+1:=by
 simp only[Zx,Yg]at h;have h2:=h.1.1.2;simp[Al]at h2;have h3:qa.length=1\/qa.length=2\/qa.length=3\/qa.length=4:=by omega
 refine⟨h3,?_⟩;rcases h3 with h3|h3|h3|h3<;>rw[h3]<;>decide
def ZpW(n:Int)(qa:List Zg):IntKind.wrap .i64 (Z3 n qa+1)=Z3 n qa+1:=by
 unfold Z3;split
 .grind [KR]
 .decide
def Zy(m:Int)(i:Nat):Bool:=decide (Ah (Au m i) 1=1)
def WP(m:Int):List Zg->Nat->Int->Bool
 |[],_,_=>false
 |a::as',i,u=>(Zy m i && has a.Vars u) || WP m as' (i+1) u
theorem Z0M(m:Int){qa:List Zg}{i:Nat}(h:i<qa.length)(u:Int):WP m (qa.drop i) i u=((Zy m i && has qa[i].Vars u) || WP m (qa.drop (i+1)) (i+1) u):=by
 rw[Yi h,WP]
def pV(m:Int)(qa:List Zg):Nat->Bool:=λu=>WP m qa 0 u
def ZpX(qa:List Zg):Prop:=∀a∈qa,∀v∈a.Vars,Al v 0 3=true
def ZpY{n:Int}{qa:List Zg}(h:Zx n qa=true):∀a∈qa,∀v∈a.Vars,Al v 0 (n-1)=true:=by
 intro a ha v hv;simp only[Zx,Yg]at h;have:=Yp.1 h.1.2 a ha;simp only[WO,Yg]at this
 grind [ZpU]
def QE{n:Int}{qa:List Zg}(h:Zx n qa=true):1<=n/\n<=4:=by
 simp only[Zx,Yg]at h;have:=h.1.1.1;simpa[Al]using this
def W1{n:Int}{qa:List Zg}(h:Zx n qa=true):1<=qa.length/\qa.length<=4:=by
 simp only[Zx,Yg]at h;have:=h.1.1.2;simp[Al]at this;omega
def MH{n:Int}{qa:List Zg}(h:Zx n qa=true):∀a∈qa,1<=a.Vars.length/\a.Vars.length<=3:=by
 intro a ha;simp only[Zx,Yg]at h;have:=Yp.1 h.1.2 a ha;simp only[WO,Yg]at this;have:=this.1.2;simp[Al]at this;omega
def H2{n:Int}{qa:List Zg}(h:Zx n qa=true):ZpX qa:=by
 intro a ha v hv;have:=ZpY h a ha v hv;have h2:=QE h;simp[Al]at this|-;omega
def Gg(m:Int)(p:Nat->Bool)(qa:List Zg)(i:Nat):Nat->Bool:=λu=>p u || WP m (qa.drop i) i u
def ZLy(m:Int)(p:Nat->Bool){qa:List Zg}{i:Nat}(h:i<qa.length):Gg m p qa i=Gg m (if Zy m i=true then WF p qa[i].Vars else p) qa (i+1):=by
 funext u;rw[Gg,Z0M _ h];rcases tf (Zy m i)with e|e<;>simp[Gg,WF,e,Bool.or_assoc]
def Xw(m:Int)(qa:List Zg)(k:Nat):WL:=((List.range k).filter (pV m qa)).map λu:Nat=>(u:Int)
def ZLz(m:Int)(qa:List Zg)(k:Nat):Xw m qa (k+1)=Xw m qa k++if WP m qa 0 k=true then[(k:Int)]else[]:=by
 unfold Xw;rw[DM,List.filter_append,CV];rcases tf (WP m qa 0 k)with e|e<;>simp[pV,e]
def SA(m:Int)(qa:List Zg)(k:Nat):(Xw m qa k).length<=k:=by
 unfold Xw
 grind
def Z0N{α:Type}(p:α->Bool){xs:List α}{i:Nat}(h:i<xs.length):(xs.take (i+1)).filter p=(xs.take i).filter p++if p xs[i]=true then[xs[i]]else[]:=by
 grind [List.take_add_one,List.getElem?_eq_getElem]
def Bj(qa:List Zg)(m v:Int):Bool:=Al v 0 3 && pV m qa v.toNat
def shr(qa:List Zg)(a b:Int):Bool:=(List.range 4).any λu=>pV a qa u && pV b qa u
def W9(st:WL)(info:List Zp)(k:Nat):Option (Int×Zp):=if k<=st.length then(match st[st.length-k]? with
 |some s=>(info[s.toNat]?).map (s,·)
 |none=>none)else none
def Vy(qa:List Zg)(x:Zk)(y z:Zp):Option Int :=
 if x.Kind=3/\x.Order=0 then some (-1)
 else if x.Kind=5/\x.Order=0 then some y.Order
 else if x.Kind=4/\Bj qa y.Mask x.Order=true/\Bj qa z.Mask x.Order=true/\y.Order=x.Order/\z.Order=x.Order then some x.Order
 else none
def Ue(qa:List Zg)(x:Zk)(info:List Zp)(st:WL):Option Zp :=
 if x.Kind=1 then(if Al x.Zg 0 (qa.length-1)=true/\x.Order=0 then some ⟨Ac 1 x.Zg,(match qa[x.Zg.toNat]? with|some a=>a.Vars.headD 0|none=>0),-1,-1⟩else none)
 else if x.Zg≠0 then none
 else if x.Kind=2 then(match W9 st info 1 with
  |some (s,y)=>if Bj qa y.Mask x.Order=true/\y.Order≠x.Order then some ⟨y.Mask,x.Order,s,-1⟩else none
  |none=>none)
 else match W9 st info 2,W9 st info 1 with
  |some (s,y),some (t,z)=>if Ah y.Mask z.Mask=0/\shr qa y.Mask z.Mask=true then(Vy qa x y z).map (⟨At y.Mask z.Mask,·,s,t⟩)else none
  |_,_=>none
def UT(info:List Zp)(st:WL):Prop:=∀s∈st,0<=s/\s.toNat<info.length
theorem MI{info:List Zp}{st:WL}(h:UT info st){k:Nat}(h1:1<=k)(h2:k<=st.length) :
  ∃s y,W9 st info k=some (s,y)/\st[st.length-k]?=some s/\0<=s/\info[s.toNat]?=some y:=by
 have hlt:st.length-k<st.length:=by omega
 obtain⟨h3,h4⟩:=h _ (Yf hlt);refine⟨st[st.length-k],info[(st[st.length-k]).toNat],?_,Yd hlt,h3,Yd h4⟩;simp[W9,h2,Yd hlt,Yd h4]
def Z0O{n:Int}{qa:List Zg}(h:Zx n qa=true){m:Int}{u:Nat}(hp:pV m qa u=true):(u:Int)<n:=by
 have:∀(l:List Zg) (i:Nat),(∀a∈l,a∈qa)->WP m l i u=true->(u:Int)<n:=by
  intro l
  induction l with
  |nil=>intro i _ hh;simp[WP]at hh
  |cons a l ih =>
   intro i hs hh;simp only[WP,rR,Yg]at hh;rcases hh with hh|hh
   .have:=ZpY h a (hs a Om) u (Ko.1 hh.2);simp[Al]at this;omega
   .grind
 exact this qa 0 (λa ha=>ha) hp
def SB{n:Int}{qa:List Zg}(h:Zx n qa=true)(m v:Int):has (Xw m qa n.toNat) v=Bj qa m v:=by
 have hn:=QE h;rw[EM,Ko];simp only[Xw,Yn,CR,Y3,Bj,Yg];constructor
 .rintro⟨u,⟨h1,h2⟩,rfl⟩;refine⟨by simp[Al];omega,by simpa using h2⟩
 .rintro⟨h1,h2⟩;have h3:=Z0O h h2;simp[Al]at h1
  grind
def ZL0{n:Int}{qa:List Zg}(h:Zx n qa=true)(a b:Int):((Xw a qa n.toNat).filter (has (Xw b qa n.toNat))).length=0↔shr qa a b=false:=by
 have hn:=QE h;rw[TD,ON,shr,rT];simp only[SB h];constructor
 .intro hh u hu;simp only[Y3]at hu;simp only[Yg,not_and];intro h1 h2;have h3:=Z0O h h1;refine hh (u:Int) ?_ ?_
  .simp only[Xw,Yn,CR,Y3]
   grind
  .simp only[Bj,Yg];exact⟨by simp[Al];omega,by simpa using h2⟩
 .intro hh v hv;simp only[Xw,Yn,CR,Y3]at hv;obtain⟨u,⟨h1,h2⟩,rfl⟩:=hv;have:=hh u (by simp only[Y3];omega);simp only[Yg,not_and]at this;simp only[Bj,Yg,not_and]
  simp_all
def ZL1{n:Int}{qa:List Zg}(h:Zx n qa=true)(a b v:Int):has ((Xw a qa n.toNat).filter (has (Xw b qa n.toNat))) v=(Bj qa a v && Bj qa b v):=by
 rw[EM,Ko,CR,<-Ko,SB h,SB h,Yg]
def Z0P(qa:List Zg)(a b:Int):Ah (Xs (pV a qa)) (Xs (pV b qa))=0↔shr qa a b=false:=by
 rw[ZAx,ZLx,shr,rT];simp
def MJ(x:Zk):Int:=if x.Kind=1 then 0 else if x.Kind=2 then 1 else 2
theorem hd0{xs:WL}(h:0<xs.length):xs.head?.getD 0=xs[0]:=by cases xs with|nil=>simp at h|cons x xs=>rfl
def Wg(y:Zp):Nat:=if 0<=y.Right then 2 else if 0<=y.Left then 1 else 0
def WQ(qa:List Zg):List Zk->Nat->List Zp->WL->Option (List Zp×WL)
 |[],_,info,st=>some (info,st)
 |x::xs,i,info,st=>match Ue qa x info st with
  |none=>none
  |some y=>WQ qa xs (i+1) (info++[y]) (st.take (st.length-Wg y)++[(i:Int)])
def ZAz(qa:List Zg){xs:List Zk}{i:Nat}(h:i<xs.length)(info:List Zp)(st:WL):WQ qa (xs.drop i) i info st=match Ue qa xs[i] info st with
  |none=>none
  |some y=>WQ qa (xs.drop (i+1)) (i+1) (info++[y]) (st.take (st.length-Wg y)++[(i:Int)]):=by
 rw[Yi h,WQ]
def Wh(n:Int)(qa:List Zg)(steps:List Zk):Option (List Zp) :=
 if Zx n qa=true/\Al steps.length 1 14=true then(match WQ qa steps 0 [] []with
  |some (info,st)=>if st.length=1 then some info else none
  |none=>none)else none
def Gh{st:WL}{info:List Zp}{k:Nat}{s:Int}{y:Zp}(hs:UT info st)(h1:1<=k)(h:W9 st info k=some (s,y)):k<=st.length/\0<=s/\s.toNat<info.length/\info[s.toNat]?=some y:=by
 have hk:k<=st.length:=by
  unfold W9 at h
  simp_all
 grind [MI]
def Z0Q{qa:List Zg}{x:Zk}{info:List Zp}{st:WL}{y:Zp}(hs:UT info st)(h:Ue qa x info st=some y) :
  MJ x=Wg y/\Wg y<=st.length/\(0<=y.Right↔3<=x.Kind):=by
 unfold Ue at h;unfold MJ Wg;split at h
 .grind
 .rename_i k1;split at h
  .cases h
  .split at h
   .rename_i k2;split at h
    .rename_i s y' ht;split at h
     .cases h;obtain⟨t1,t2,_⟩:=Gh hs (Yj 1) ht;simp[k2,t2,t1]
     .cases h
    .cases h
   .rename_i k2;split at h
    .rename_i s y' t z ht hu;split at h
     .obtain⟨t1,t2,_⟩:=Gh hs (Z:1<=2) ht;obtain⟨u1,u2,_⟩:=Gh hs (Z:1<=1) hu;obtain⟨o,ho,rfl⟩:=Yr.1 h;have hk:x.Kind=3\/x.Kind=4\/x.Kind=5:=by
       unfold Vy at ho
       grind
      grind
     .cases h
    .cases h
def kP{info:List Zp}{st:WL}(hs:UT info st)(y:Zp)(k:Nat):UT (info++[y]) (st.take k++[(info.length:Int)]):=by
 intro s h;rcases Yl.1 h with h|h
 .obtain⟨h1,h2⟩:=hs s (DC h)
  grind
 .simp at h;subst h;simp
def ZA0{st:WL}{i k:Nat}(h:st.length<=i)(x:Int):(st.take k++[x]).length<=i+1:=by simp;omega
def ZA1{qa:List Zg}:∀{xs:List Zk} {i:Nat} {info:List Zp} {st:WL} {c:List Zp} {cc:WL},WQ qa xs i info st=some (c,cc)->c.length=info.length+xs.length
 |[],_,_,_,_,_,h=>by simp[WQ]at h;simp[h.1]
 |x::xs,i,info,st,c,cc,h=>by
  rw[WQ]at h;split at h
  .cases h
  .have:=ZA1 h;simp at this|-;omega
def MK{n:Int}{qa:List Zg}{steps:List Zk}{info:List Zp}(h:Wh n qa steps=some info):Zx n qa=true/\info.length=steps.length/\1<=steps.length/\steps.length<=14:=by
 unfold Wh at h;split at h
 .rename_i hc;have h2:=hc.2;simp[Al]at h2;split at h
  .rename_i Br st hg;split at h
   .cases h;have:=ZA1 hg
    grind
   .cases h
  .cases h
 .cases h
def Gi(n:Int)(qa:List Zg)(steps:List Zk):Int:=match Wh n qa steps with
 |some info=>match info[info.length-1]? with
  |some y=>y.Mask
  |none=>0
 |none=>0
def kQ{n:Int}{qa:List Zg}(h:Zx n qa=true):0<Z3 n qa:=by
 obtain⟨h1,h2,_⟩:=KR h;unfold Z3
 grind
def Aa5:∀a b:Fin 16,At (a.1:Int) (b.1:Int)=((a.1 ||| b.1:Nat):Int):=by decide
def kR{k:Nat}(hk:k<=4){a b:Int}(ha:0<=a/\a<2 ^ k)(hb:0<=b/\b<2 ^ k):0<=At a b/\At a b<2 ^ k:=by
 have h16:(2:Int) ^ k<=16:=by
  have:k=0\/k=1\/k=2\/k=3\/k=4:=by omega
  grind
 have e1:a=(a.toNat:Int):=by omega
 have e2:b=(b.toNat:Int):=by omega
 have l1:a.toNat<16:=by omega
 have l2:b.toNat<16:=by omega
 have e:=Aa5 ⟨a.toNat,l1⟩ ⟨b.toNat,l2⟩;simp only at e;rw[e1,e2,e];have c:((2 ^ k:Nat):Int)=2 ^ k:=by simp
 have m1:a.toNat<2 ^ k:=by omega
 have m2:b.toNat<2 ^ k:=by omega
 have:=Nat.or_lt_two_pow m1 m2;omega
def ML{k:Nat}(hk:k<=4){v:Int}(h0:0<=v)(h1:v<k):0<=Ac 1 v/\Ac 1 v<2 ^ k:=by
 have h2:v=0\/v=1\/v=2\/v=3:=by omega
 have h3:k=0\/k=1\/k=2\/k=3\/k=4:=by omega
 rcases h2 with rfl|rfl|rfl|rfl<;>rcases h3 with rfl|rfl|rfl|rfl|rfl<;>first|omega|decide
def MM(k:Nat)(y:Zp):Prop:=0<=y.Mask/\y.Mask<2 ^ k
theorem ZL2{qa:List Zg}(hk:qa.length<=4){x:Zk}{info:List Zp}{st:WL}{y:Zp}(hs:UT info st)(hm:∀y∈info,MM qa.length y)(h:Ue qa x info st=some y):MM qa.length y:=by
 unfold Ue at h;split at h
 .split at h
  .rename_i hc;cases h;have:=hc.1;simp[Al]at this;exact ML hk this.1 Z
  .cases h
 .split at h
  .cases h
  .split at h
   .split at h
    .rename_i s y' ht;split at h
     .cases h;obtain⟨_,_,t3,t4⟩:=Gh hs (Yj 1) ht;exact hm y' (Y9 t4)
     .cases h
    .cases h
   .split at h
    .rename_i s y' t z ht hu;split at h
     .obtain⟨_,_,_,t4⟩:=Gh hs (Z:1<=2) ht;obtain⟨_,_,_,u4⟩:=Gh hs (Z:1<=1) hu;obtain⟨o,ho,rfl⟩:=Yr.1 h;exact kR hk (hm y' (Y9 t4)) (hm z (Y9 u4))
     .cases h
    .cases h
def ZA2{qa:List Zg}(hk:qa.length<=4):∀{xs:List Zk} {i:Nat} {info:List Zp} {st:WL} {c:List Zp} {cc:WL},WQ qa xs i info st=some (c,cc)->
  UT info st->info.length=i->(∀y∈info,MM qa.length y)->(∀y∈c,MM qa.length y)/\∃tail,c=info++tail/\tail.length=xs.length/\∀(j:Nat) (y:Zp) (x:Zk),tail[j]?=some y->xs[j]?=some x->(0<=y.Right↔3<=x.Kind)
 |[],i,info,st,c,cc,h,hs,hi,hm=>by
  simp[WQ]at h
  simp_all
 |x::xs,i,info,st,c,cc,h,hs,hi,hm=>by
  rw[WQ]at h;split at h
  .cases h
  .rename_i y hy;have hn:=kP hs y (st.length-Wg y);rw[hi]at hn;have hm2:∀z∈info++[y],MM qa.length z:=by
    grind [ZL2]
   obtain⟨g1,tail,g2,g3,g4⟩:=ZA2 hk h hn (by simp[hi]) hm2;refine⟨g1,y::tail,by simp[g2],by simp[g3],?_⟩;intro j y' x' hj hx
   cases j with
   |zero=>simp at hj hx;subst hj;subst hx;exact(Z0Q hs hy).2.2
   |succ j=>exact g4 j y' x' (by simpa using hj) (by simpa using hx)
def ZA3{n:Int}{qa:List Zg}{steps:List Zk}{info:List Zp}(h:Wh n qa steps=some info) :
  (∀y∈info,MM qa.length y)/\∀(j:Nat) (y:Zp) (x:Zk),info[j]?=some y->steps[j]?=some x->(0<=y.Right↔3<=x.Kind):=by
 have hq:=(MK h).1;unfold Wh at h;split at h
 .split at h
  .rename_i Br st hg;split at h
   .cases h;obtain⟨g1,tail,g2,g3,g4⟩:=ZA2 (W1 hq).2 hg (λs hs=>by cases hs) rfl (λy hy=>by cases hy)
    grind
   .cases h
  .cases h
 .cases h
def Z0R{a b:WL}(h:dom a b=true):a.length=b.length:=by
 simp only[dom,Yg,decide_eq_true_eq]at h;exact h.1
def vol:WL->WL->Int
 |l::ls,h::hs=>(h-l+1)*vol ls hs
 |_,_=>1
def Z0S:vol [] []=1:=rfl
def Z0T{lo hi:WL}{i:Nat}(h:i<lo.length)(h':i<hi.length):vol (lo.drop i) (hi.drop i)=(hi[i]-lo[i]+1)*vol (lo.drop (i+1)) (hi.drop (i+1)):=by
 rw[Yi h,Yi h',vol]
def WZ(v:Int):Int:=if 401<v then 401 else v
def ZpZ:∀{xs ys:WL} (h:Uv xs ys=true) (i:Nat) (h1:i<xs.length) (h2:i<ys.length),ys[i]<=xs[i]
 |x::xs,y::ys,h,0,_,_=>by simp only[Uv,Yg,decide_eq_true_eq]at h;exact h.1
 |x::xs,y::ys,h,i+1,h1,h2=>by
  simp only[Uv,Yg,decide_eq_true_eq]at h;exact ZpZ h.2 i (by simpa using h1) (by simpa using h2)
def Vp{lo hi:WL}(h:Xr lo hi=true):hi.length=lo.length/\1<=lo.length/\lo.length<=16/\∀(i:Nat) (h1:i<lo.length) (h2:i<hi.length),0<=lo[i]/\lo[i]<=hi[i]/\hi[i]<=7:=by
 simp only[Xr,Yg,decide_eq_true_eq,Xl,JD,Yp]at h;have hl:=Z0R h.2;refine⟨hl,Z,Z,λi h1 h2=>?_⟩;have a:=h.1.1.2.1 _ (Yf h1);have b:=h.1.2.1 _ (Yf h2);have hd:=h.2;simp only[dom,Yg]at hd;have c:=ZpZ hd.2 i h2 h1;simp[Al]at a b;omega
def Zqa{i:Nat}(h:i<=16):(8:Int) ^ i<=281474976710656:=by
 have:(8:Nat) ^ i<=8 ^ 16:=Nat.pow_le_pow_right Z h
 grind
def ZH(lo hi:WL):Int:=if Xr lo hi=true then WZ (vol lo hi)else 0
def ZL3{n d:Int}(hn:1<=n)(hd:1<=d):WZ (WZ n*d)=WZ (n*d):=by
 unfold WZ;by_cases h:401<n
 .have h1:n*1<=n*d:=Int.mul_le_mul_of_nonneg_left hd Z
  grind
 .rw[Yb h]
def ZL4(v:Int):(if v<401 then v else 401)=WZ v:=by
 unfold WZ;omega
def MN{v:Int}(h:1<=v):1<=WZ v/\WZ v<=401:=by unfold WZ;split<;>omega
def QF(b s:Int):Int:=if Al b 0 1000000000000=true/\Al s 0 100=true then(b*(100+s)).tdiv 100 else -1
def ZA4{b s:Int}(h1:Al b 0 1000000000000=true)(h2:Al s 0 100=true):IntKind.wrap .i64 (100+s)=100+s/\IntKind.wrap .i64 (b*(100+s))=b*(100+s)/\IntKind.wrap .i64 ((b*(100+s)).tdiv 100)=(b*(100+s)).tdiv 100:=by
 simp[Al]at h1 h2;have m1:b*(100+s)<=1000000000000*200:=Int.mul_le_mul h1.2 Z Z Z
 grind [Int.mul_nonneg,Int.tdiv_nonneg,Int.tdiv_eq_ediv_of_nonneg,ZE]
def UU(n:Int)(vs:WL):Bool:=WG n [] vs && decide (0<vs.length)
abbrev CE(b:Zu):Prop:=Le b.Box.Low/\Le b.Box.High/\Le b.Budgets/\Le b.Plans/\Le b.Contours/\∀c∈b.Contours,Le c
def SC(r:Int)(c:Option Int)(x:Int):Bool:=match c with
 |none=>true
 |some p=>decide (x=p*r)
def QG(r:Int)(c:Option Int):WL->Bool
 |[]=>true
 |x::xs=>Al x 1 500000000000 && SC r c x && QG r (some x) xs
def ZA5(r:Int)(prev:Option Int){xs:WL}{k:Nat}(h:k<xs.length):QG r prev (xs.drop k)=(Al xs[k] 1 500000000000 && SC r prev xs[k] && QG r (some xs[k]) (xs.drop (k+1))):=by
 rw[Yi h,QG]
def H3(n:Int)(qa:List Zg)(p:Ze):Bool:=decide (Gi n qa p.Steps=Z3 n qa)
def Zqb(n:Int)(qa:List Zg)(b:Zu):Bool :=
 Al b.Version 1 999 && Al b.Ratio 2 8 && Al b.Slack 0 100 && Al (ZH b.Box.Low b.Box.High) 1 400 && decide ((b.Box.Low.length:Int)=Z3 n qa+1)
def JE(n:Int)(qa:List Zg)(b:Zu):Bool :=
 Zx n qa && Zqb n qa b && b.Plans.all (H3 n qa) && QG b.Ratio none b.Budgets && b.Contours.all (UU b.Plans.length) && (decide (0<b.Budgets.length) && decide (b.Contours.length=b.Budgets.length))
def VM(xs:WL):Nat->Option Int
 |0=>none
 |k+1=>xs[k]?
@[simp] theorem Qp(a b c:Int):Xj a b c=some (Bo (Al a b c),[]):=by
 apply Xq.1.2.2.1;by_cases h:b<=a<;>simp[Al,h]
@[simp] theorem ZM(a b c:Int):Z0 a b c=some (Bo (Al a b c),[]):=by
 apply Xp.1.2.1.1;by_cases h:b<=a<;>simp[Al,h]
def ZL5(xs:WL)(v:Int)(hx:Le xs):∀i,i<=xs.length->
  gZ xs v xs.length i=some (I (Wt (λx=>decide (v=x)) (xs.drop i) i),[]):=by
 refine down _ ?_ ?_
 .apply Xq.1.2.2.2.2;simp[Wt]
 .intro i hi ih;apply Xq.1.2.2.2.2;have h4:=Z7 (i:=i) Z
  simp_all [Sz]
@[simp] def Aaa(xs:WL)(v:Int)(hx:Le xs):Zph xs v=some (I (Wt (λx=>decide (v=x)) xs 0),[]):=by
 apply Xq.2.1.1.1;have:=ZL5 xs v hx 0 (Yc _);simpa using this
@[simp] def SD(xs:WL)(v:Int)(hx:Le xs):J4 xs v=some (Bo (has xs v),[]):=by
 apply Xq.2.1.1.2;unfold has;rcases tf (xs.any (λx=>decide (v=x)))with e|e
 .simp_all [Z0K]
 .simp_all [Z0L]
def ZL6(xs:List Bool)(v:Bool)(hx:Le xs):∀i,i<=xs.length->
  g9 xs v xs.length i=some (I (Wt (λx=>v == x) (xs.drop i) i),[]):=by
 refine down _ ?_ ?_
 .apply Xq.2.1.2.1;simp[Wt]
 .intro i hi ih;apply Xq.2.1.2.1;have h4:=Z7 (i:=i) Z
  simp_all [Sz]
@[simp] def ZL7(xs:List Bool)(v:Bool)(hx:Le xs):Zpj xs v=some (Bo (xs.any (λx=>v == x)),[]):=by
 apply Xq.2.2.1.1;have q:Zpi xs v=some (I (Wt (λx=>v == x) xs 0),[]):=by
  apply Xq.2.1.2.2;have:=ZL6 xs v hx 0 (Yc _);simpa using this
 rcases tf (xs.any (λx=>v == x))with e|e
 .simp_all [Z0K]
 .simp_all [Z0L]
def ZL8(xs:WL)(v:Int)(hx:Le xs):∀i,i<=xs.length->Zip xs v i=some (Bo (has (xs.drop i) v),[]):=by
 unfold has;refine down _ ?_ ?_
 .simp[WM.1.1.2.1]
 .intro i hi ih;apply WM.1.1.2.1;have h4:=Z7 (i:=i) Z;rw[ZLv _ hi];simp at ih;by_cases e:v=xs[i]
  .simp[hi,h4,<-e]
  .have e':¬xs[i]=v:=λhc=>e hc.symm
   simp[hi,h4,e,e',ih]
@[simp] theorem Qq(xs:WL)(v:Int)(hx:Le xs):Vw xs v=some (Bo (has xs v),[]):=by
 apply WM.1.1.2.2;have:=ZL8 xs v hx 0 (Yc _);simpa using this
def ZA6(s:V6)(P:Prop):(if(s.size:Int)=1 then(∃(b1:UInt8),s[0]?=some b1/\(if 97<=(b1.toNat:Int)then(some (Bo (decide ((b1.toNat:Int)<=122)),[])=some (Bo (Qo s),([]:V2)))else(some (Bo false,[])=some (Bo (Qo s),([]:V2)))))else(some (Bo false,[])=some (Bo (Qo s),([]:V2)))):=by
 by_cases h:s.size=1
 .obtain⟨b,hb⟩:=Aa3 h;rw[An];refine⟨b,hb,?_⟩;have e:Qo s=(decide (97<=(b.toNat:Int)) && decide ((b.toNat:Int)<=122)):=by
   unfold Qo;rw[hb];simp only[h,decide_true,Yk]
  simp_all
 .have h':¬(s.size:Int)=1:=by omega
  have:Qo s=false:=by unfold Qo;split<;>simp[h]
  simp[h',this]
@[simp] def kS(s:V6):Zpg s=some (Bo (Qo s),[]):=Xq.1.2.2.2.1 _ _ (ZA6 s True)
@[simp] def Z0U(s:V6):Ln s=some (Bo (Qo s),[]):=Xp.1.1.2.2 _ _ (ZA6 s True)
def AI(q:Zc):Prop:=Le q.Atoms/\∀a∈q.Atoms,Le a.Vars
def Dd(p:Nat->Bool)(n:Nat):List Bool:=(List.range n).map p
def ZL9(p:Nat->Bool)(n:Nat){v:Int}(h:Al v 0 ((n:Int)-1)=true):(Dd p n).set v.toNat true=Dd (WF p [v]) n:=by
 simp[Al]at h;apply TB
 .simp[Dd]
 .intro i h1 h2;simp only[Dd,EH,DL,List.length_range]at h1;rw[List.getElem_set];simp only[Dd,List.getElem_map,List.getElem_range];by_cases e:v.toNat=i
  .have:(i:Int)=v:=by omega
   simp[e,WF,has,this]
  .have:¬(i:Int)=v:=by omega
   simp[e,WF,has,this]
def ZLA(q:Zc)(n:Nat)(hn:n<=4)(hq:q.Zh=n)(a:Zg)(qa:List Zg)(l j:Int)(hv:Le a.Vars)(r:XS):∀k,k<=a.Vars.length->∀p,
  (if WG n (a.Vars.take k) (a.Vars.drop k)=true then L2 q (Dd (WF p (a.Vars.drop k)) n) qa l (w (j+1))=some r else some (Bo false,[])=some r)->
  hU q (Dd p n) a qa l j a.Vars a.Vars.length k=some r:=by
 refine down _ ?_ ?_
 .intro p h;apply Xq.2.2.2.1;simpa[WG,Z0H]using h
 .intro k hk ih p h;have h4:=Z7 (i:=k) Z;have hw:w (q.Zh-1)=(n:Int)-1:=by rw[hq];exact ZE Z Z
  have hl:=SD (a.Vars.take k) a.Vars[k] (by simp;omega);apply Xq.2.2.2.1;rw[ZpT _ hk]at h;rcases tf (Al a.Vars[k] 0 ((n:Int)-1))with e1|e1
  .simp_all
  .rcases tf (has (a.Vars.take k) a.Vars[k])with e2|e2
   .rw[Z0I p hk]at h;simp only[e1,e2,Yk,Bool.not_false]at h;have ih:=ih _ h;have e0:=e1;simp[Al]at e0;have e5:(a.Vars[k]).toNat<(Dd p n).length:=by simp[Dd];omega
    have e6:=ZL9 p n e1;have e7:k<=a.Vars.length:=by omega
    simp_all
   .simp[e1,e2]at h;have e7:k<=a.Vars.length:=by omega
    simp_all
def ZLB(q:Zc)(n:Nat)(hn:n<=4)(hq:q.Zh=n)(qa:List Zg)(hl:Le qa)(hv:∀a∈qa,Le a.Vars):∀k,k<=qa.length->∀p,
  L2 q (Dd p n) qa qa.length k=some (Bo ((qa.drop k).all (WO n) && (List.range n).all (Uw p (qa.drop k))),[]):=by
 refine down _ ?_ ?_
 .intro p;apply Xq.2.2.1.2;have e:Uw p []=p:=by funext u;simp[Uw]
  have q1:=ZL7 (Dd p n) false (by simp[Dd];omega);have q2:(Dd p n).any (λx=>false == x)=!(List.range n).all p:=MG p n
  simp_all
 .intro k hk ih p;apply Xq.2.2.1.2;have h4:=Z7 (i:=k) Z;rw[Gf _ hk];rcases tf (Qo qa[k].Name)with e1|e1
  .simp[hk,e1,WO]
  rcases tf (Al qa[k].Vars.length 1 3)with e2|e2
  .simp[hk,e1,e2,WO]
  have b:=ZLA q n hn hq qa[k] qa qa.length k (hv _ (Yf hk)) (Bo (WO n qa[k] && (qa.drop (k+1)).all (WO n) && (List.range n).all (Uw p (qa.drop k))),[]) 0 (Yc _) p ?_
  .simp_all
  .simp only[List.take_zero,Yo,WO,e1,e2,Yk]
   simp_all [tf,Yk,ZAy]
@[simp] def kT(q:Zc)(h:AI q):KL q=some (Bo (Zx q.Zh q.Atoms),[]):=by
 apply ZKR;unfold Zx;rcases tf (Al q.Zh 1 4)with e1|e1
 .simp[e1]
 rcases tf (Al q.Atoms.length 1 4)with e2|e2
 .simp[e1,e2]
 have e0:=e1;simp[Al]at e0;have hn:q.Zh=(q.Zh.toNat:Int):=by omega
 have b:=ZLB q q.Zh.toNat Z hn q.Atoms h.1 h.2 0 (Yc _) (λ_=>false);have r1:q.Zh.toNat<=room:=YQ Z;have r2:q.Zh<=room:=by
  omega
 have r3:q.Zh<=140737488355328:=by omega
 have ez:Dd (λ_=>false) q.Zh.toNat=List.replicate q.Zh.toNat false:=by
  apply TB<;>simp[Dd]
 rw[ez,<-hn]at b;simp at b;simp[e1,e2,e0,r1,r2,r3,b];omega
def ZLC(q:Zc)(n:Nat)(c:1<=n)(hn:n<=4)(hq:q.Zh=n)(a:Zg)(j:Int)(hv:Le a.Vars)(r:XS):∀k,k<=a.Vars.length->∀p,
  (if WG n (a.Vars.take k) (a.Vars.drop k)=true then PH q (Xs (WF p (a.Vars.drop k))) (w (j+1))=some r else some (Bo false,[])=some r)->
  cE q a (Xs p) j k=some r:=by
 refine down _ ?_ ?_
 .intro p h;apply jZ.2.1;simpa[WG,Z0H]using h
 .intro k hk ih p h;have h4:=Z7 (i:=k) Z;have hw:w (q.Zh-1)=(n:Int)-1:=by rw[hq];exact ZE Z Z
  have hl:=Qq (a.Vars.take k) a.Vars[k] (by simp;omega);have e7:k<=a.Vars.length:=by omega
  apply jZ.2.1;rw[ZpT _ hk]at h;rcases tf (Al a.Vars[k] 0 ((n:Int)-1))with e1|e1
  .simp_all
  .rcases tf (has (a.Vars.take k) a.Vars[k])with e2|e2
   .rw[Z0I p hk]at h;simp only[e1,e2,Yk,Bool.not_false]at h;have ih:=ih _ h;have e0:=e1;simp[Al]at e0;have e6:=ZpS p (v:=a.Vars[k]) (by simp[Al];omega)
    simp_all
   .simp_all
def kU(n:Int)(p:Nat->Bool):Bool:=decide (Xs p=w (Ac 1 n-1))
def ZLD(q:Zc)(n:Nat)(c:1<=n)(hn:n<=4)(hq:q.Zh=n)(hl:Le q.Atoms)(hv:∀a∈q.Atoms,Le a.Vars):∀k,k<=q.Atoms.length->∀p,
  PH q (Xs p) k=some (Bo ((q.Atoms.drop k).all (WO n) && kU n (Uw p (q.Atoms.drop k))),[]):=by
 refine down _ ?_ ?_
 .intro p;apply jZ.1;have e:Uw p []=p:=by funext u;simp[Uw]
  have h0:¬(n:Int)<0:=by omega
  simp[e,hq,h0,kU]
 .intro k hk ih p;apply jZ.1;have h4:=Z7 (i:=k) Z;rw[Gf _ hk];rcases tf (Qo q.Atoms[k].Name)with e1|e1
  .simp[hk,e1,WO]
  rcases tf (Al q.Atoms[k].Vars.length 1 3)with e2|e2
  .simp[hk,e1,e2,WO]
  have b:=ZLC q n c hn hq q.Atoms[k] k (hv _ (Yf hk)) (Bo (WO n q.Atoms[k] && (q.Atoms.drop (k+1)).all (WO n) && kU n (Uw p (q.Atoms.drop k))),[]) 0 (Yc _) p ?_
  .simp_all
  .simp only[List.take_zero,Yo,WO,e1,e2,Yk]
   simp_all [tf,Yk,ZAy]
@[simp] def kV(q:Zc)(h:AI q):Q8 q=some (Bo (Zx q.Zh q.Atoms),[]):=by
 apply jZ.2.2;unfold Zx;rcases tf (Al q.Zh 1 4)with e1|e1
 .simp[e1]
 rcases tf (Al q.Atoms.length 1 4)with e2|e2
 .simp[e1,e2]
 have e0:=e1;simp[Al]at e0;obtain⟨k,hk⟩:∃k:Nat,q.Zh=k:=⟨q.Zh.toNat,Z⟩;have b:=ZLD q k Z Z hk h.1 h.2 0 (Yc _) (λ_=>false);have ez:Xs (λ_=>false)=0:=rfl;rw[ez]at b;simp only[Yo,Int.ofNat_zero]at b;have e3:(q.Atoms.all (WO k) && kU k (Uw (λ_=>false) q.Atoms))=(q.Atoms.all (WO k) && (List.range k).all (Uw (λ_=>false) q.Atoms)):=by
  rcases tf (q.Atoms.all (WO k))with e3|e3
  .simp[e3]
  .have hk':k=1\/k=2\/k=3\/k=4:=by omega
   have hz:=all_in e3;have hz':∀u:Nat,k<=u->Uw (λ_=>false) q.Atoms u=false:=λu hu=>by simp only[Uw,E1];exact hz u Z
   rw[e3,Yk,Yk,EM,kU,decide_eq_true_eq,Xs];rcases hk' with rfl|rfl|rfl|rfl
   .simp[Ac,ZE,ZpV,hz' 1 Z,hz' 2 Z,hz' 3 Z,DM]
   .simp[Ac,ZE,ZpV,hz' 2 Z,hz' 3 Z,DM]
   .simp[Ac,ZE,ZpV,hz' 3 Z,DM,and_assoc]
   .simp[Ac,ZE,ZpV,DM,and_assoc]
 simp_all
@[simp] def H4(q:Zc)(h:AI q):UP q=some (I (Z3 q.Zh q.Atoms),[]):=by
 apply XC.1.2.2.1;have q1:=kT q h;unfold Z3;rcases tf (Zx q.Zh q.Atoms)with e|e
 .simp[q1,e]
 .have:=(KR e).2.2.1;have h0:¬((q.Atoms.length:Int)<0):=by omega
  simp[q1,e,this,h0]
@[simp] def VN(q:Zc)(h:AI q):Wn q=some (I (Z3 q.Zh q.Atoms),[]):=by
 apply XT.1.2.2.2.1;have q1:=kV q h;unfold Z3;rcases tf (Zx q.Zh q.Atoms)with e|e
 .simp[q1,e]
 .have:=(KR e).2.2.1
  simp_all
def ZLE(xs:WL)(hx:Le xs):∀i,i<=xs.length->fE xs i=some (Bo (JD (xs.drop i) && decide ((xs.length:Int)<=16)),[]):=by
 refine down _ ?_ ?_
 .apply XB.2.2.2.2.1;simp[JD]
 .intro i hi ih;apply XB.2.2.2.2.1;have h4:=Z7 (i:=i) Z;rw[ZAv hi];simp at ih;rcases tf (Al xs[i] 0 7)with h|h<;>simp[hi,h4,h,ih]
@[simp] def Zqc(xs:WL)(hx:Le xs):Hs xs=some (Bo (Xl xs),[]):=by
 apply XB.2.2.2.2.2;have:=ZLE xs hx 0 (Yc _);simpa[Xl]using this
def ZLF(xs:WL)(hx:Le xs):∀i,i<=xs.length->hY xs xs xs.length i=some (Bo (JD (xs.drop i) && decide ((xs.length:Int)<=16)),[]):=by
 refine down _ ?_ ?_
 .apply Xq.2.2.2.2.1;simp[JD]
 .intro i hi ih;apply Xq.2.2.2.2.1;have h4:=Z7 (i:=i) Z;rw[ZAv hi];simp at ih;rcases tf (Al xs[i] 0 7)with h|h<;>simp[hi,h4,h,ih]
@[simp] def Zqd(xs:WL)(hx:Le xs):HD xs=some (Bo (Xl xs),[]):=by
 apply Xq.2.2.2.2.2;have:=ZLF xs hx 0 (Yc _);simpa[Xl]using this
def ZLG(xs ys:WL)(hx:Le xs)(hl:ys.length=xs.length):∀i,i<=xs.length->fF xs ys i=some (Bo (Uv (xs.drop i) (ys.drop i)),[]):=by
 refine down _ ?_ ?_
 .apply Kn.1.1.1;simp[Uv]
 .intro i hi ih;apply Kn.1.1.1;have hi2:i<ys.length:=by omega
  have h4:=Z7 (i:=i) Z;rw[ZAw hi hi2];simp at ih;by_cases h:xs[i]<ys[i]
  .simp[hi,hi2,h4,h,show ¬ys[i]<=xs[i] by omega]
  .simp[hi,hi2,h4,h,show ys[i]<=xs[i] by omega,ih]
@[simp] def Z0V(xs ys:WL)(hx:Le xs):LL xs ys=some (Bo (dom xs ys),[]):=by
 apply Kn.1.1.2;by_cases hl:ys.length=xs.length
 .have:=ZLG xs ys hx hl 0 (Yc _);simp at this;simp[hl,this,dom]
 .have h2:¬((xs.length:Int)=ys.length):=by omega
  have h1:¬(xs.length=ys.length):=by omega
  simp[h1,h2,dom]
def ZLH(xs ys:WL)(hx:Le xs)(hl:ys.length=xs.length):∀i,i<=xs.length->hZ xs ys xs.length i=some (Bo (Uv (xs.drop i) (ys.drop i)),[]):=by
 refine down _ ?_ ?_
 .apply XC.1.1.1.1;simp[Uv]
 .intro i hi ih;apply XC.1.1.1.1;have hi2:i<ys.length:=by omega
  have h4:=Z7 (i:=i) Z;rw[ZAw hi hi2];simp at ih;by_cases h:xs[i]<ys[i]
  .simp[hi,hi2,h4,h,show ¬ys[i]<=xs[i] by omega]
  .simp[hi,hi2,h4,h,show ys[i]<=xs[i] by omega,ih]
@[simp] def ZLI(xs ys:WL)(hx:Le xs):Zpn xs ys=some (Bo (dom xs ys),[]):=by
 apply XC.1.1.1.2;by_cases hl:ys.length=xs.length
 .have:=ZLH xs ys hx hl 0 (Yc _);simp at this;simp[hl,this,dom]
 .have h2:¬((xs.length:Int)=ys.length):=by omega
  have h1:¬(xs.length=ys.length):=by omega
  simp[h1,h2,dom]
def Dl(b:Box):Prop:=Le b.Low/\Le b.High
@[simp] def ZA7(b:Box)(h:Dl b):R3 b=some (Bo (Xr b.Low b.High),[]):=by
 apply XC.1.1.2.1;have q1:=Zqd b.Low h.1;have q2:=Zqd b.High h.2;have q3:=ZLI b.High b.Low h.2;unfold Xr;rcases tf (Xl b.Low)with e1|e1<;>rcases tf (Xl b.High)with e2|e2<;>by_cases e3:0<b.Low.length<;>simp[q1,q2,q3,e1,e2,e3]
@[simp] def Z0W(b:Box)(h:Dl b):Ht b=some (Bo (Xr b.Low b.High),[]):=by
 apply Kn.1.2.1;have q1:=Zqc b.Low h.1;have q2:=Zqc b.High h.2;have q3:=Z0V b.High b.Low h.2;unfold Xr;rcases tf (Xl b.Low)with e1|e1<;>rcases tf (Xl b.High)with e2|e2<;>by_cases e3:0<b.Low.length<;>simp[q1,q2,q3,e1,e2,e3]
def ZA8(b:Box)(hv:Xr b.Low b.High=true):∀i,i<=b.Low.length->∀n:Int,1<=n->n<=8 ^ i->
  iA b n b.Low.length i=some (I (n*vol (b.Low.drop i) (b.High.drop i)),[]):=by
 obtain⟨b1,b2,b3,b4⟩:=Vp hv;refine down _ ?_ ?_
 .intro n _ _;apply XC.1.1.2.2;rw[Ym,<-b1,Ym,Z0S];simp
 .intro i hi0 ih n hn1 hn2;apply XC.1.1.2.2;have h5:=Z7 (i:=i) Z;have hi2:i<b.High.length:=by omega
  obtain⟨g1,g2,g3⟩:=b4 i hi0 hi2;have p1:=Zqa (i:=i+1) Z;have p2:(8:Int) ^ (i+1)=8 ^ i*8:=Int.pow_succ 8 i;have hd:(b.High[i]-b.Low[i]+1)<=8:=by omega
  have hd1:1<=(b.High[i]-b.Low[i]+1):=by omega
  have m1:n*(b.High[i]-b.Low[i]+1)<=8 ^ i*8:=Int.mul_le_mul hn2 hd Z Z;have m2:1<=n*(b.High[i]-b.Low[i]+1):=by
   have:=Int.mul_le_mul hn1 hd1 Z Z;omega
  have w1:IntKind.wrap .i64 (b.High[i]-b.Low[i])=b.High[i]-b.Low[i]:=ZE Z Z;have w2:IntKind.wrap .i64 (b.High[i]-b.Low[i]+1)=b.High[i]-b.Low[i]+1:=ZE Z Z;have w3:IntKind.wrap .i64 (n*(b.High[i]-b.Low[i]+1))=n*(b.High[i]-b.Low[i]+1):=ZE Z Z;have ih:=ih (n*(b.High[i]-b.Low[i]+1)) m2 Z;rw[Z0T hi0 hi2,<-Int.mul_assoc];simp at ih;simp[hi0,hi2,h5,w1,w2,w3,ih]
@[simp] def Z0X(b:Box)(h:Dl b):L4 b=some (I (ZH b.Low b.High),[]):=by
 apply XC.1.2.1.2;have q1:=ZA7 b h;unfold ZH;rcases tf (Xr b.Low b.High)with e|e
 .simp[q1,e]
 .have q2:=ZA8 b e 0 (Yc _) 1 Z Sm;have q3:L3 b=some (I (vol b.Low b.High),[]):=XC.1.2.1.1 _ _ (by simpa using q2);simp[q1,q3,e,WZ]
def ZLJ(b:Box)(hv:Xr b.Low b.High=true):∀i,i<=b.Low.length->∀n:Int,1<=n->
  fG b (WZ n) i=some (I (WZ (n*vol (b.Low.drop i) (b.High.drop i))),[]):=by
 obtain⟨b1,b2,b3,b4⟩:=Vp hv;refine down _ ?_ ?_
 .intro n _;apply Kn.1.2.2;rw[Ym,<-b1,Ym,Z0S];simp[b1]
 .intro i hi0 ih n hn1;apply Kn.1.2.2;have h5:=Z7 (i:=i) Z;have hi2:i<b.High.length:=by omega
  obtain⟨g1,g2,g3⟩:=b4 i hi0 hi2;have hd:(b.High[i]-b.Low[i]+1)<=8:=by omega
  have hd1:1<=(b.High[i]-b.Low[i]+1):=by omega
  obtain⟨c1,c2⟩:=MN hn1;have m1:WZ n*(b.High[i]-b.Low[i]+1)<=401*8:=Int.mul_le_mul c2 hd Z Z;have m2:1*1<=WZ n*(b.High[i]-b.Low[i]+1):=Int.mul_le_mul c1 hd1 Z Z;have m3:1*1<=n*(b.High[i]-b.Low[i]+1):=Int.mul_le_mul hn1 hd1 Z Z;have w1:IntKind.wrap .i64 (b.High[i]-b.Low[i])=b.High[i]-b.Low[i]:=ZE Z Z;have w2:IntKind.wrap .i64 (b.High[i]-b.Low[i]+1)=b.High[i]-b.Low[i]+1:=ZE Z Z;have w3:IntKind.wrap .i64 (WZ n*(b.High[i]-b.Low[i]+1))=WZ n*(b.High[i]-b.Low[i]+1):=ZE Z Z;have ih:=ih (n*(b.High[i]-b.Low[i]+1)) Z;rw[<-ZL3 hn1 hd1]at ih;rw[Z0T hi0 hi2,<-Int.mul_assoc];simp at ih;simp[hi0,hi2,h5,w1,w2,w3,ZL4,ih]
@[simp] def SE(b:Box)(h:Dl b):Kh b=some (I (ZH b.Low b.High),[]):=by
 apply Kn.2.1.1;have q1:=Z0W b h;unfold ZH;rcases tf (Xr b.Low b.High)with e|e
 .simp[q1,e]
 .have q2:=ZLJ b e 0 (Yc _) 1 Z;have e1:WZ 1=1:=by decide
  rw[e1]at q2;simp at q2;simp[q1,e,q2]
def ZLK(q:Zc)(m:Int)(hl:Le q.Atoms)(hv:∀a∈q.Atoms,Le a.Vars)(v:Nat)(c:v<8)(out:WL)(ho:out.length<=8)(r:XS):∀i,i<=q.Atoms.length->
  L5 q (out++if WP m (q.Atoms.drop i) i v=true then[(v:Int)]else[]) m (w ((v:Int)+1))=some r->
  iC q out m v q.Atoms q.Atoms.length i=some r:=by
 refine down _ ?_ ?_
 .intro h;apply XC.1.2.2.2.2;simpa[WP]using h
 .intro i hi ih h;apply XC.1.2.2.2.2;have h4:=Z7 (i:=i) Z;have c1:=SD q.Atoms[i].Vars v (hv _ (Yf hi));have h0:¬(i:Int)<0:=by omega
  rw[Z0M _ hi]at h;by_cases e1:Ah (Au m i) 1=1
  .have e2:Zy m i=true:=by simp[Zy,e1]
   rcases tf (has q.Atoms[i].Vars v)with e3|e3
   .simp_all
   .simp[e2,e3]at h;have e4:out.length+1<=68719476736:=by omega
    simp_all
  .have e2:Zy m i=false:=by simp[Zy,e1]
   simp_all
def ZLL(q:Zc)(m:Int)(hl:Le q.Atoms)(hv:∀a∈q.Atoms,Le a.Vars)(n:Nat)(hq:q.Zh=n)(hn:n<=4):∀k,k<=n->
  L5 q (Xw m q.Atoms k) m k=some (.own 0,[.arr Z9 1 true ((Xw m q.Atoms n).map ic)]):=by
 refine down _ ?_ ?_
 .simp_all [XC.1.2.2.2.1]
 .intro k hk ih;apply XC.1.2.2.2.1;have h4:=Z7 (i:=k) Z
  have b:=ZLK q m hl hv k Z (Xw m q.Atoms k) (by have:=SA m q.Atoms k;omega) _ 0 (Yc _) (by
   rw[Yo,<-ZLz,show w ((k:Int)+1)=(k:Int)+1 from h4];simpa using ih)
  simp_all
@[simp] def kW(q:Zc)(m:Int)(h:AI q)(hv:Zx q.Zh q.Atoms=true):J5 q m=some (.own 0,[.arr Z9 1 true ((Xw m q.Atoms q.Zh.toNat).map ic)]):=by
 apply XC.2.1.1.1;have hn:=QE hv;have b:=ZLL q m h.1 h.2 q.Zh.toNat Z Z 0 (Yc _);simpa[Xw]using b
def MP(b xs:WL)(hb:Le b)(hx:xs.length<=1000000):∀i,i<=xs.length->
  R4 ((xs.take i).filter (has b)) b xs xs.length i=some (.own 0,[.arr Z9 1 true ((xs.filter (has b)).map ic)]):=by
 refine down _ ?_ ?_
 .simp[XC.2.1.1.2]
 .intro i hi ih;apply XC.2.1.1.2;have h4:=Z7 (i:=i) Z;have c1:=SD b xs[i] hb;have e4:((xs.take i).filter (has b)).length+1<=68719476736:=by
   grind
  rw[Z0N _ hi]at ih;rcases tf (has b xs[i])with e|e
  .simp_all
  .simp_all
@[simp] def Z0Y(xs b:WL)(hb:Le b)(hx:xs.length<=1000000):HE xs b=some (.own 0,[.arr Z9 1 true ((xs.filter (has b)).map ic)]):=by
 apply XC.2.1.2.1;have:=MP b xs hb hx 0 (Yc _);simpa using this
def ZLM(q:Zc)(m:Int)(hv:∀a∈q.Atoms,Le a.Vars)(c:ZpX q.Atoms)(i:Nat)(hi:i<q.Atoms.length)(hm:Zy m i=true)(r:XS):∀k,k<=q.Atoms[i].Vars.length->∀p,
  PN q m (Xs (WF p (q.Atoms[i].Vars.drop k))) (w ((i:Int)+1))=some r->cM q m (Xs p) i k=some r:=by
 have e1:Ah (Au m i) 1=1:=by simpa[Zy]using hm
 have h0:¬(i:Int)<0:=by omega
 have ha:=Yf hi;refine down _ ?_ ?_
 .simp_all [XT.2.1.1.2,Ym,Z0H]
 .intro k hk ih p h;apply XT.2.1.1.2;have h4:=Z7 (i:=k) (by have:=hv _ ha;omega);have e6:=ZpS p (v:=q.Atoms[i].Vars[k]) (c _ ha _ (Yf hk));have e7:=c _ ha _ (Yf hk);simp[Al]at e7
  simp_all [Z0I]
def ZLN(q:Zc)(m:Int)(hl:Le q.Atoms)(hv:∀a∈q.Atoms,Le a.Vars)(c:ZpX q.Atoms):∀i,i<=q.Atoms.length->∀p,
  PN q m (Xs p) i=some (I (Xs (Gg m p q.Atoms i)),[]):=by
 refine down _ ?_ ?_
 .intro p;apply XT.2.1.1.1;have e:Gg m p q.Atoms q.Atoms.length=p:=by funext u;simp[Gg,WP]
  simp[e]
 .intro i hi ih p;apply XT.2.1.1.1;have h4:=Z7 (i:=i) Z;have h0:¬(i:Int)<0:=by omega
  rw[ZLy m p hi];rcases tf (Zy m i)with e|e
  .have e1:¬Ah (Au m i) 1=1:=by simpa[Zy]using e
   simp_all [XT.2.1.1.2]
  .have ih:=ih (WF p q.Atoms[i].Vars);have b:=ZLM q m hv c i hi e _ 0 (Yc _) p (by rw[Yo,show w ((i:Int)+1)=(i:Int)+1 from h4];simpa using ih);simp at b;simp[hi,e,b]
@[simp] def MR(q:Zc)(m:Int)(h:AI q)(c:ZpX q.Atoms):Ud q m=some (I (Xs (pV m q.Atoms)),[]):=by
 apply XT.2.1.2.1;have b:=ZLN q m h.1 h.2 c 0 (Yc _) (λ_=>false);have ez:Xs (λ_=>false)=0:=rfl;have e:Gg m (λ_=>false) q.Atoms 0=pV m q.Atoms:=by funext u;simp[Gg,pV]
 simp_all
def ZLO(q:Zc)(hq:AI q)(h:Zx q.Zh q.Atoms=true)(x:Zk)(info:List Zp)(st:WL)(hs:UT info st)(cc:info.length<=100)(cd:st.length<=100) :
  match Ue q.Atoms x info st with
  |some y=>R5 q x info st=some (.tup [.agg (y.c.map .t),Bo true],[])
  |none=>∃y:Zp,R5 q x info st=some (.tup [.agg (y.c.map .t),Bo false],[]):=by
 have hl:=W1 h;have wl:w ((q.Atoms.length:Int)-1)=(q.Atoms.length:Int)-1:=ZE Z Z;unfold Ue;by_cases k1:x.Kind=1
 .rw[Ya k1];by_cases c1:Al x.Zg 0 (q.Atoms.length-1)=true/\x.Order=0
  .rw[Ya c1];have c2:=c1.1;simp[Al]at c2;have hlt:x.Zg.toNat<q.Atoms.length:=by omega
   have hv:=MH h _ (Yf hlt);have h0:¬x.Zg<0:=by omega
   simp only;apply XC.2.1.2.2;have e:q.Atoms[x.Zg.toNat].Vars.headD 0=q.Atoms[x.Zg.toNat].Vars[0]' Z:=by
    rw[Yc7,hd0 Z]
   rw[Yc7]at e;simp[k1,wl,c1,h0,hlt,c2,e,show 0<q.Atoms[x.Zg.toNat].Vars.length by omega]
  .rw[Yb c1];refine⟨⟨0,-1,-1,-1⟩,XC.2.1.2.2 _ _ _ _ _ ?_⟩;rcases tf (Al x.Zg 0 (q.Atoms.length-1))with e|e
   .simp[k1,wl,e]
   .have e2:¬x.Order=0:=λhc=>c1 ⟨e,hc⟩
    simp[k1,wl,e,e2]
 rw[Yb k1];by_cases k0:x.Zg=0
 rotate_left
 .rw[Ya k0];exact⟨⟨0,-1,-1,-1⟩,XC.2.1.2.2 _ _ _ _ _ (by simp[k1,k0])⟩
 rw[Yb (by simpa using k0)];have w1:w ((st.length:Int)-1)=(st.length:Int)-1:=ZE Z Z;have w2:w ((st.length:Int)-2)=(st.length:Int)-2:=ZE Z Z;by_cases k2:x.Kind=2
 .rw[Ya k2];by_cases n1:st.length<1
  .have:W9 st info 1=none:=by unfold W9;rw[Ao]
   rw[this];have n1':(st.length:Int)<1:=by omega
   exact⟨⟨0,-1,-1,-1⟩,XC.2.1.2.2 _ _ _ _ _ (by simp[k1,k2,k0,n1'])⟩
  .have n1':¬(st.length:Int)<1:=by omega
   obtain⟨s,y,t1,t2,t3,t4⟩:=MI hs (Z:1<=1) (Z:1<=st.length);have z1:(0:Int)<=(st.length:Int)-1:=by omega
   have z5:(1:Int)<=(st.length:Int):=by omega
   have z2:((st.length:Int)-1).toNat=st.length-1:=by omega
   have q1:=kW q y.Mask hq h;have q2:=SD (Xw y.Mask q.Atoms q.Zh.toNat) x.Order (by have:=SA y.Mask q.Atoms q.Zh.toNat;have:=QE h;omega);rw[SB h]at q2;rw[t1];simp only;by_cases c1:Bj q.Atoms y.Mask x.Order=true/\y.Order≠x.Order
   .rw[Ya c1];apply XC.2.1.2.2;simp[k1,k2,k0,n1',w1,z1,z2,z5,t2,t3,t4,q1,q2,c1]
   .rw[Yb c1];refine⟨⟨0,-1,-1,-1⟩,XC.2.1.2.2 _ _ _ _ _ ?_⟩;rcases tf (Bj q.Atoms y.Mask x.Order)with e|e
    .simp[k1,k2,k0,n1',w1,z1,z2,z5,t2,t3,t4,q1,q2,e]
    .have e2:y.Order=x.Order:=Decidable.byContradiction λhc=>c1 ⟨e,hc⟩
     simp[k1,k2,k0,n1',w1,z1,z2,z5,t2,t3,t4,q1,q2,e,e2]
 rw[Yb k2];by_cases n2:st.length<2
 .have:W9 st info 2=none:=by unfold W9;rw[Ao]
  rw[this];have DA:(st.length:Int)<2:=by omega
  exact⟨⟨0,-1,-1,-1⟩,XC.2.1.2.2 _ _ _ _ _ (by simp[k1,k2,k0,DA])⟩
 have DA:¬(st.length:Int)<2:=by omega
 obtain⟨s,y,t1,t2,t3,t4⟩:=MI hs (Z:1<=2) (Z:2<=st.length);obtain⟨t,z,u1,u2,u3,u4⟩:=MI hs (Z:1<=1) (Z:1<=st.length);have z1:(0:Int)<=(st.length:Int)-1:=by omega
 have z2:((st.length:Int)-1).toNat=st.length-1:=by omega
 have z3:(0:Int)<=(st.length:Int)-2:=by omega
 have z4:((st.length:Int)-2).toNat=st.length-2:=by omega
 have hn:=QE h;have q1:=kW q y.Mask hq h;have q2:=kW q z.Mask hq h;have l1:=SA y.Mask q.Atoms q.Zh.toNat;have l2:=SA z.Mask q.Atoms q.Zh.toNat;have q3:=Z0Y (Xw y.Mask q.Atoms q.Zh.toNat) (Xw z.Mask q.Atoms q.Zh.toNat) Z Z
 have q4:=SD ((Xw y.Mask q.Atoms q.Zh.toNat).filter (has (Xw z.Mask q.Atoms q.Zh.toNat))) x.Order (by
  have:=GN (has (Xw z.Mask q.Atoms q.Zh.toNat)) (Xw y.Mask q.Atoms q.Zh.toNat);omega)
 rw[ZL1 h]at q4;have q5:=ZL0 h y.Mask z.Mask;generalize hS:(Xw y.Mask q.Atoms q.Zh.toNat).filter (has (Xw z.Mask q.Atoms q.Zh.toNat))=S at q3 q4 q5;rw[t1,u1];simp only
 have base:∀(r:XS),(if Ah y.Mask z.Mask=0 then
    if((S.length:Int)=0)then some (.tup [.agg [I (At y.Mask z.Mask),I (-1),I s,I t],Bo false],[])=some r
    else if x.Kind=3 then some (.tup [.agg [I (At y.Mask z.Mask),I (-1),I s,I t],Bo (decide (x.Order=0))],[])=some r
    else if x.Kind=5 then some (.tup [.agg [I (At y.Mask z.Mask),I y.Order,I s,I t],Bo (decide (x.Order=0))],[])=some r
    else if x.Kind=4 then
     if(Bj q.Atoms y.Mask x.Order && Bj q.Atoms z.Mask x.Order)=true then
      if y.Order=x.Order then some (.tup [.agg [I (At y.Mask z.Mask),I x.Order,I s,I t],Bo (decide (z.Order=x.Order))],[])=some r
      else some (.tup [.agg [I (At y.Mask z.Mask),I x.Order,I s,I t],Bo false],[])=some r
     else some (.tup [.agg [I (At y.Mask z.Mask),I x.Order,I s,I t],Bo false],[])=some r
    else some (.tup [.agg [I (At y.Mask z.Mask),I (-1),I s,I t],Bo false],[])=some r
   else some (.tup [.agg [I (At y.Mask z.Mask),I (-1),I s,I t],Bo false],[])=some r)->R5 q x info st=some r:=by
  intro r hr;apply XC.2.1.2.2;simp only[k1,k0,k2,if_false,if_true,DA,w1,w2,z1,z2,z3,z4,t2,t3,t4,u2,u3,u4,q1,q2,true_and,Y4,exists_eq_left'];refine⟨_,rfl,_,rfl,S,?_,?_⟩
  .simpa using q3
  .simp only[q4,Y4,Ds,AV.t.injEq,T.bool.injEq,and_true,exists_eq_left'];simpa using hr
 by_cases c1:Ah y.Mask z.Mask=0/\shr q.Atoms y.Mask z.Mask=true
 rotate_left
 .rw[Yb c1];refine⟨⟨At y.Mask z.Mask,-1,s,t⟩,base _ ?_⟩;by_cases c2:Ah y.Mask z.Mask=0
  .have c3:S.length=0:=q5.2 (by rcases tf (shr q.Atoms y.Mask z.Mask)with e|e;exact e;exact absurd ⟨c2,e⟩ c1);have c4:(S.length:Int)=0:=by omega
   rw[Ya c2,Ya c4];simp
  .rw[Yb c2];simp
 rw[Ya c1];have c4:¬(S.length:Int)=0:=λhc=>by
  have:=q5.1 Z;rw[c1.2]at this;cases this
 have c5:¬S=[]:=λhc=>c4 (by simp[hc])
 unfold Vy;by_cases j1:x.Kind=3/\x.Order=0
 .rw[Ya j1];exact base _ (by simp[c1.1,c4,c5,j1])
 rw[Yb j1];by_cases j2:x.Kind=5/\x.Order=0
 .rw[Ya j2];exact base _ (by simp[c1.1,c4,c5,j2])
 rw[Yb j2];by_cases j3:x.Kind=4/\Bj q.Atoms y.Mask x.Order=true/\Bj q.Atoms z.Mask x.Order=true/\y.Order=x.Order/\z.Order=x.Order
 .rw[Ya j3];exact base _ (by simp[c1.1,c4,c5,j3])
 rw[Yb j3];simp only[Option.map_none];by_cases k3:x.Kind=3
 .have e:¬x.Order=0:=λhc=>j1 ⟨k3,hc⟩
  exact⟨⟨At y.Mask z.Mask,-1,s,t⟩,base _ (by simp[c1.1,c4,c5,k3,e])⟩
 by_cases k5:x.Kind=5
 .have e:¬x.Order=0:=λhc=>j2 ⟨k5,hc⟩
  exact⟨⟨At y.Mask z.Mask,y.Order,s,t⟩,base _ (by simp[c1.1,c4,c5,k5,e])⟩
 by_cases k4:x.Kind=4
 .refine⟨⟨At y.Mask z.Mask,x.Order,s,t⟩,base _ ?_⟩;rcases tf (Bj q.Atoms y.Mask x.Order)with e1|e1<;>rcases tf (Bj q.Atoms z.Mask x.Order)with e2|e2<;>by_cases e3:y.Order=x.Order<;>simp[c1.1,c4,c5,k4,e1,e2,e3];exact λe4=>j3 ⟨k4,e1,e2,e3,e4⟩
 .exact⟨⟨At y.Mask z.Mask,-1,s,t⟩,base _ (by simp[c1.1,c4,c5,k3,k4,k5])⟩
@[simp] def Zqe(b v:Int):RR b v=some (Bo (Al v 0 3 && decide (Ah (Au b v) 1=1)),[]):=by
 apply X6.1.1.2.1;rcases tf (Al v 0 3)with e|e
 .simp[e]
 .have e0:=e;simp[Al]at e0
  simp_all
def XK(x:Zk):Option Zp->XS
 |some y=>(.tup [.agg (y.c.map .t),I (MJ x)],[])
 |none=>(.tup [.agg [I 0,I 0,I 0,I 0],I (-1)],[])
def ZLP(q:Zc)(hq:AI q)(h:Zx q.Zh q.Atoms=true)(x:Zk)(info:List Zp)(st:WL)(hs:UT info st)(cc:info.length<=100)(cd:st.length<=100) :
  LW q x info st=some (XK x (Ue q.Atoms x info st)):=by
 have hl:=W1 h;have wl:w ((q.Atoms.length:Int)-1)=(q.Atoms.length:Int)-1:=ZE Z Z;unfold Ue;by_cases k1:x.Kind=1
 .rw[Ya k1];by_cases c1:Al x.Zg 0 (q.Atoms.length-1)=true/\x.Order=0
  .rw[Ya c1];have c2:=c1.1;simp[Al]at c2;have hlt:x.Zg.toNat<q.Atoms.length:=by omega
   have hv:=MH h _ (Yf hlt);have h0:¬x.Zg<0:=by omega
   apply X6.1.2.1.2;have e:q.Atoms[x.Zg.toNat].Vars.headD 0=q.Atoms[x.Zg.toNat].Vars[0]' Z:=by
    grind [hd0]
   rw[Yc7]at e;simp[k1,wl,c1,h0,hlt,c2,e,XK,MJ,show 0<q.Atoms[x.Zg.toNat].Vars.length by omega]
  .rw[Yb c1];apply X6.1.2.1.2;rcases tf (Al x.Zg 0 (q.Atoms.length-1))with e|e
   .simp[k1,wl,e,XK]
   .have e2:¬x.Order=0:=λhc=>c1 ⟨e,hc⟩
    simp[k1,wl,e,e2,XK]
 rw[Yb k1];have w1:w ((st.length:Int)-1)=(st.length:Int)-1:=ZE Z Z;have w2:w ((st.length:Int)-2)=(st.length:Int)-2:=ZE Z Z;by_cases k0:x.Zg=0
 rotate_left
 .rw[Ya k0];apply X6.1.2.1.2;have j:∀b,RS q x ⟨0,0,0,0⟩ info st st.length x.Kind b=some (XK x none):=by
   intro b;apply kH;cases b<;>simp[k0,XK]
  by_cases k2:x.Kind=2
  .simp[k1,k2,k0,XK]
  .by_cases k3:x.Kind=3<;>by_cases k4:x.Kind=4<;>simp[k1,k2,k0,k3,k4,j]<;>first|(simp only[k3]at j;simp[j,XK])|(simp only[k4]at j;simp[j,XK])|simp[XK]
 rw[Yb (by simpa using k0)];by_cases k2:x.Kind=2
 .rw[Ya k2];apply X6.1.2.1.2;by_cases n1:st.length<1
  .have:W9 st info 1=none:=by unfold W9;rw[Ao]
   rw[this];have n1':(st.length:Int)<1:=by omega
   simp[k1,k2,k0,n1',XK]
  .have n1':¬(st.length:Int)<1:=by omega
   obtain⟨s,y,t1,t2,t3,t4⟩:=MI hs (Z:1<=1) (Z:1<=st.length);have z1:(0:Int)<=(st.length:Int)-1:=by omega
   have z5:(1:Int)<=(st.length:Int):=by omega
   have z2:((st.length:Int)-1).toNat=st.length-1:=by omega
   have q1:=MR q y.Mask hq (H2 h);have q2:(Al x.Order 0 3 && decide (Ah (Au (Xs (pV y.Mask q.Atoms)) x.Order) 1=1))=Bj q.Atoms y.Mask x.Order:=by
    unfold Bj;rcases tf (Al x.Order 0 3)with e|e
    .simp[e]
    .rw[e,Yk,Yk,EM,decide_eq_true_eq];exact Z0J _ e
   rw[t1];simp only;by_cases e2:y.Order=x.Order
   .simp[k1,k2,k0,n1',w1,z1,z2,z5,t2,t3,t4,e2,XK]
   .rcases tf (Bj q.Atoms y.Mask x.Order)with e|e
    .simp only[k1,k2,k0,n1',w1,z1,z2,t2,t3,t4,q1,Zqe,q2,e,e2,if_false,if_true,true_and,Y4,exists_eq_left',Ds,AV.t.injEq,T.int.injEq,T.bool.injEq,and_true];simp[XK]
    .simp only[k1,k2,k0,n1',w1,z1,z2,t2,t3,t4,q1,Zqe,q2,e,e2,if_false,if_true,true_and,Y4,exists_eq_left',Ds,AV.t.injEq,T.int.injEq,T.bool.injEq,and_true];simp[XK,MJ,k1,k2,e2]
 rw[Yb k2]
 -- a join
 have q0:∀(b:Zp) (c:Zp) (y:Zp) (f:Bool),x.Kind=4->∀m1 m2,LX q x ⟨0,0,0,0⟩ b c y (Ah (Xs (pV m1 q.Atoms)) (Xs (pV m2 q.Atoms))) f =
   if Bj q.Atoms m1 x.Order=true/\Bj q.Atoms m2 x.Order=true/\b.Order=x.Order/\c.Order=x.Order then some (.tup [.agg [I y.Mask,I x.Order,I y.Left,I y.Right],I 2],[])else some (XK x none):=by
  intro b c y f k4 m1 m2;have e:(Al x.Order 0 3 && decide (Ah (Au (Ah (Xs (pV m1 q.Atoms)) (Xs (pV m2 q.Atoms))) x.Order) 1=1))=(Bj q.Atoms m1 x.Order && Bj q.Atoms m2 x.Order):=by
   unfold Bj;rcases tf (Al x.Order 0 3)with e|e
   .simp[e]
   .rw[e,Yk,Yk,Yk,EM,decide_eq_true_eq,ZAx]
    simp_all [Z0J]
  split
  .simp_all [X6.1.2.1.1,Zqe,k4]
  .rename_i hc;apply X6.1.2.1.1;simp only[Zqe,e];rcases tf (Bj q.Atoms m1 x.Order)with e1|e1<;>rcases tf (Bj q.Atoms m2 x.Order)with e2|e2<;>by_cases e3:b.Order=x.Order<;>by_cases e4:c.Order=x.Order<;>simp[k4,e1,e2,e3,e4,XK]
   simp_all
 have q3:∀(b:Zp) (c:Zp) (y:Zp) (v:Int) (f:Bool),x.Kind≠4->LX q x ⟨0,0,0,0⟩ b c y v f=some (.tup [.agg (y.c.map .t),I 2],[]):=by
  intro b c y v f k4;simp[X6.1.2.1.1,k4]
 have q5:∀(b:Zp) (c:Zp) (y:Zp) (v:Int),x.Kind≠4->RT q x ⟨0,0,0,0⟩ b c y v=some (.tup [.agg (y.c.map .t),I 2],[]):=by
  intro b c y v k4;simp[X6.1.1.2.2,k4]
 by_cases kk:x.Kind=3\/x.Kind=4\/x.Kind=5
 rotate_left
 .have k3:¬x.Kind=3:=λhc=>kk (.inl hc)
  have k4:¬x.Kind=4:=λhc=>kk (.inr (.inl hc))
  have k5:¬x.Kind=5:=λhc=>kk (.inr (.inr hc))
  have hj:∀y z,Vy q.Atoms x y z=none:=by intro y z;simp[Vy,k3,k4,k5]
  refine Ye (b:=some (XK x none)) (X6.1.2.1.2 _ _ _ _ _ (by simp[k1,k2,k3,k4,k5,XK])) ?_
  grind
 have k5':x.Kind≠3->x.Kind≠4->x.Kind=5:=λa b=>by rcases kk with h|h|h;exact absurd h a;exact absurd h b;exact h
 have red:∀r,RS q x ⟨0,0,0,0⟩ info st st.length x.Kind true=some r->(x.Kind=5->LW q x info st=some r)->LW q x info st=some r:=by
  intro r hr h5;by_cases k5:x.Kind=5
  .exact h5 k5
  .grind [X6.1.2.1.2]
 by_cases n2:st.length<2
 .have:W9 st info 2=none:=by unfold W9;rw[Ao]
  rw[this];have DA:(st.length:Int)<2:=by omega
  refine red _ ?_ ?_
  .exact kH _ _ _ _ _ _ _ _ _ (by simp[k0,DA,XK])
  .intro k5;exact X6.1.2.1.2 _ _ _ _ _ (by simp[k5,k0,DA,XK])
 have DA:¬(st.length:Int)<2:=by omega
 obtain⟨s,y,t1,t2,t3,t4⟩:=MI hs (Z:1<=2) (Z:2<=st.length);obtain⟨t,z,u1,u2,u3,u4⟩:=MI hs (Z:1<=1) (Z:1<=st.length);have z1:(0:Int)<=(st.length:Int)-1:=by omega
 have z2:((st.length:Int)-1).toNat=st.length-1:=by omega
 have z3:(0:Int)<=(st.length:Int)-2:=by omega
 have z4:((st.length:Int)-2).toNat=st.length-2:=by omega
 have b1:=MR q y.Mask hq (H2 h);have b2:=MR q z.Mask hq (H2 h);have b3:=Z0P q.Atoms y.Mask z.Mask;rw[t1,u1];simp only;by_cases c1:Ah y.Mask z.Mask=0
 rotate_left
 .rw[Yb (λhc=>c1 hc.1)];refine red _ ?_ ?_
  .apply kH;simp only[k0,DA,w1,w2,z1,z2,z3,z4,t2,t3,t4,u2,u3,u4,b1,b2,c1,if_true,if_false,true_and,Y4,exists_eq_left',Ds,AV.t.injEq,T.int.injEq,and_true];simp[XK]
  .intro k5;apply X6.1.2.1.2;simp only[k5,k0,DA,w1,w2,z1,z2,z3,z4,t2,t3,t4,u2,u3,u4,b1,b2,c1,if_true,if_false,true_and,Y4,exists_eq_left',Ds,AV.t.injEq,T.int.injEq,and_true];simp[XK]
 rcases tf (shr q.Atoms y.Mask z.Mask)with c2|c2
 .rw[Yb (λhc=>by rw[hc.2]at c2;cases c2)];have c3:=b3.2 c2;refine red _ ?_ ?_
  .apply kH;simp only[k0,DA,w1,w2,z1,z2,z3,z4,t2,t3,t4,u2,u3,u4,b1,b2,c1,c3,if_true,if_false,true_and,Y4,exists_eq_left',Ds,AV.t.injEq,T.int.injEq,and_true];simp[XK]
  .intro k5;apply X6.1.2.1.2;simp only[k5,k0,DA,w1,w2,z1,z2,z3,z4,t2,t3,t4,u2,u3,u4,b1,b2,c1,c3,if_true,if_false,true_and,Y4,exists_eq_left',Ds,AV.t.injEq,T.int.injEq,and_true];simp[XK]
 rw[Ya ⟨c1,c2⟩];have c3:¬Ah (Xs (pV y.Mask q.Atoms)) (Xs (pV z.Mask q.Atoms))=0:=λhc=>by rw[b3.1 hc]at c2;cases c2
 have p2:MJ x=2:=by unfold MJ;rw[Yb k1,Yb k2]
 refine red _ ?_ ?_
 .apply kH;simp only[k0,DA,w1,w2,z1,z2,z3,z4,t2,t3,t4,u2,u3,u4,b1,b2,c1,c3,if_true,if_false,true_and,Y4,exists_eq_left',Ds,AV.t.injEq,T.int.injEq,and_true];by_cases k4:x.Kind=4
  .have k3:¬x.Kind=3:=by omega
   have k5:¬x.Kind=5:=by omega
   rw[Ya k4,q0 _ _ _ _ k4];simp only[Vy,k3,k4,k5,false_and,true_and,if_false];split
   .rename_i hc;simp[XK,p2]
   .rfl
  .by_cases e:x.Order=0
   .by_cases k5:x.Kind=5
    .rw[Yb k4,Ya e,Ya k5,q5 _ _ _ _ k4];simp[Vy,k5,e,XK,p2]
    .have k3:x.Kind=3:=by omega
     rw[Yb k4,Ya e,Yb k5,q3 _ _ _ _ _ k4];simp[Vy,k3,e,XK,p2]
   .rw[Yb k4,Yb e];simp[Vy,k4,e,XK]
 .intro k5;apply X6.1.2.1.2;have k4:x.Kind≠4:=by omega
  simp only[k5,k0,DA,w1,w2,z1,z2,z3,z4,t2,t3,t4,u2,u3,u4,b1,b2,c1,c3,if_true,if_false,true_and,Y4,exists_eq_left',Ds,AV.t.injEq,T.int.injEq,and_true];by_cases e:x.Order=0
  .simp[e,q5 _ _ _ _ k4,Vy,k5,XK,p2]
  .simp[e,Vy,k5,XK]
def ZLQ(q:Zc)(hq:AI q)(h:Zx q.Zh q.Atoms=true)(p:Ze)(hl:p.Steps.length<=14):∀i,i<=p.Steps.length->∀info st,UT info st->info.length=i->st.length<=i->
  gK q p info st i=some (match WQ q.Atoms (p.Steps.drop i) i info st with
   |some (Br,st')=>if st'.length=1 then(.tup [.own 0,Bo true],[.arr Lj 4 true (Br.map Zp.c)])else(.tup [.own 0,Bo false],[.arr Lj 4 true []])
   |none=>(.tup [.own 0,Bo false],[.arr Lj 4 true []])):=by
 refine down _ ?_ ?_
 .intro info st _ _ _;rw[Ym,WQ]
  grind [X6.1.2.2.1]
 .intro i hi ih info st hs hil hst;have h5:=Z7 (i:=i) Z;have s1:=ZLP q hq h p.Steps[i] info st hs Z Z;rw[ZAz q.Atoms hi];apply X6.1.2.2.1
  cases he:Ue q.Atoms p.Steps[i] info st with
  |none =>
   rw[he,XK]at s1;have e0:LW q p.Steps[i] info st=some (.tup [.agg ((⟨0,0,0,0⟩:Zp).c.map .t),I (-1)],[]):=s1;rw[An];refine⟨Z,_,Yd hi,_,_,e0,?_⟩
   simp
  |some y =>
   rw[he,XK]at s1;obtain⟨f1,f2,f3⟩:=Z0Q hs he;rw[f1]at s1;have hn:=kP hs y (st.length-Wg y);rw[hil]at hn;have ih:=ih (info++[y]) (st.take (st.length-Wg y)++[(i:Int)]) hn (by simp[hil]) (ZA0 hst _);have w2:w ((st.length:Int)-(Wg y:Int))=(st.length:Int)-(Wg y:Int):=ZE Z Z;have z2:((st.length:Int)-(Wg y:Int)).toNat=st.length-Wg y:=by omega
   rw[An];refine⟨Z,_,Yd hi,_,_,s1,?_⟩
   grind
@[simp] def ZA9(q:Zc)(p:Ze)(hq:AI q):RU q p=some (match Wh q.Zh q.Atoms p.Steps with
  |some info=>(.tup [.own 0,Bo true],[.arr Lj 4 true (info.map Zp.c)])
  |none=>(.tup [.own 0,Bo false],[.arr Lj 4 true []])):=by
 apply X6.1.2.2.2;have q1:=kV q hq;unfold Wh;rcases tf (Zx q.Zh q.Atoms)with e|e
 .simp[q1,e]
 rcases tf (Al p.Steps.length 1 14)with e2|e2
 .simp[q1,e,e2]
 .have e3:=e2;simp[Al]at e3;have b:=ZLQ q hq e p Z 0 (Yc _) [] [] (λs hs=>by cases hs) rfl (Yj _)
  grind [ZM,Option.some.injEq]
def ZLR(q:Zc)(hq:AI q)(h:Zx q.Zh q.Atoms=true)(steps:List Zk)(hl:steps.length<=14):∀i,i<=steps.length->∀info st,UT info st->info.length=i->st.length<=i->
  iD q info st steps steps.length i=some (match WQ q.Atoms (steps.drop i) i info st with
   |some (Br,st')=>if st'.length=1 then(.tup [.own 0,Bo true],[.arr Lj 4 true (Br.map Zp.c)])else(.tup [.t .nil,Bo false],[])
   |none=>(.tup [.t .nil,Bo false],[])):=by
 refine down _ ?_ ?_
 .intro info st _ _ _;rw[Ym,WQ]
  grind [XC.2.2.1.1]
 .intro i hi ih info st hs hil hst;have h5:=Z7 (i:=i) Z;have s1:=ZLO q hq h steps[i] info st hs Z Z;rw[ZAz q.Atoms hi];apply XC.2.2.1.1
  cases he:Ue q.Atoms steps[i] info st with
  |none =>
   rw[he]at s1;obtain⟨y,s1⟩:=s1;rw[An];refine⟨Z,_,Yd hi,_,_,s1,?_⟩
   simp
  |some y =>
   rw[he]at s1;obtain⟨f1,f2,f3⟩:=Z0Q hs he;have hn:=kP hs y (st.length-Wg y);rw[hil]at hn;have ih:=ih (info++[y]) (st.take (st.length-Wg y)++[(i:Int)]) hn (by simp[hil]) (ZA0 hst _);rw[An];refine⟨Z,_,Yd hi,_,_,s1,?_⟩;rw[Ya rfl];refine⟨Z,?_⟩;simp only;unfold Wg at ih f2|-;rw[show w ((i:Int)+1)=(i:Int)+1 from h5];by_cases r:0<=y.Right
   .simp only[Ya r]at ih f2|-
    grind [ZE]
   .simp only[Yb r]at ih f2|-;by_cases l:0<=y.Left
    .simp only[Ya l]at ih f2|-
     grind [ZE]
    .simp only[Yb l]at ih f2|-
     grind
@[simp] def ZAA(q:Zc)(p:Ze)(hq:AI q):HF q p=some (match Wh q.Zh q.Atoms p.Steps with
  |some info=>(.tup [.own 0,Bo true],[.arr Lj 4 true (info.map Zp.c)])
  |none=>(.tup [.t .nil,Bo false],[])):=by
 apply XC.2.2.1.2;have q1:=kT q hq;unfold Wh;rcases tf (Zx q.Zh q.Atoms)with e|e
 .simp[q1,e]
 rcases tf (Al p.Steps.length 1 14)with e2|e2
 .simp[q1,e,e2]
 .have e3:=e2;simp[Al]at e3;have b:=ZLR q hq e p.Steps Z 0 (Yc _) [] [] (λs hs=>by cases hs) rfl (Yj _)
  grind [Qp,Option.some.injEq]
@[simp] def ZLS(q:Zc)(p:Ze)(hq:AI q):iE q p=some (I (Gi q.Zh q.Atoms p.Steps),[]):=by
 apply XC.2.2.2.1;have q1:=ZAA q p hq;unfold Gi
 cases he:Wh q.Zh q.Atoms p.Steps with
 |none=>rw[he]at q1;exact .inl ⟨q1,rfl⟩
 |some info =>
  obtain⟨l1,l2,l3,l4⟩:=MK he;rw[he]at q1;have hlt:info.length-1<info.length:=by omega
  have w1:w ((info.length:Int)-1)=(info.length:Int)-1:=ZE Z Z;have z2:((info.length:Int)-1).toNat=info.length-1:=by omega
  grind
@[simp] def ZLT(q:Zc)(p:Ze)(hq:AI q):z8 q p=some (I (Gi q.Zh q.Atoms p.Steps),[]):=by
 apply X4.1.2.2.2;have q1:=ZA9 q p hq;unfold Gi
 cases he:Wh q.Zh q.Atoms p.Steps with
 |none=>rw[he]at q1;exact⟨[],false,q1,Om⟩
 |some info =>
  obtain⟨l1,l2,l3,l4⟩:=MK he;rw[he]at q1;have hlt:info.length-1<info.length:=by omega
  have w1:w ((info.length:Int)-1)=(info.length:Int)-1:=ZE Z Z;have z2:((info.length:Int)-1).toNat=info.length-1:=by omega
  refine⟨info,true,q1,?_⟩;rw[Ya rfl,w1,z2];refine⟨Z,_,Yd hlt,?_⟩
  grind
def ZLU(l:WL)(n:Nat)(hn:n<=1099511627776)(hl:Le l):∀k,k<=l.length->iG l n l l.length k=some (Bo (WG n (l.take k) (l.drop k) && decide (0<l.length)),[]):=by
 have hw:w ((n:Int)-1)=(n:Int)-1:=ZE Z Z;refine down _ ?_ ?_
 .apply XC.2.2.2.2.1;simp[WG]
 .intro k hk ih;apply XC.2.2.2.2.1;have h4:=Z7 (i:=k) Z;have c1:=SD (l.take k) l[k] (by simp;omega);have e7:k<=l.length:=by omega
  rw[ZpT _ hk];simp at ih;rcases tf (Al l[k] 0 ((n:Int)-1))with e1|e1
  .simp[hk,h4,hw,e1]
  .rcases tf (has (l.take k) l[k])with e2|e2
   .simp_all
   .simp_all
@[simp] def ZLV(l:WL)(n:Nat)(hn:n<=1099511627776)(hl:Le l):iF l n=some (Bo (WG n [] l && decide (0<l.length)),[]):=by
 apply XC.2.2.2.2.2;have:=ZLU l n hn hl 0 (Yc _);simpa using this
@[simp] def ZAB(b s:Int):jH b s=some (I (QF b s),[]):=by
 apply W8.2.1.1.1;unfold QF;rcases tf (Al b 0 1000000000000)with e1|e1
 .simp[e1]
 rcases tf (Al s 0 100)with e2|e2
 .simp[e1,e2]
 .obtain⟨w1,w2,w3⟩:=ZA4 e1 e2;simp[e1,e2,w1,w2,w3]
@[simp] def Z0Z(b s:Int):KK b s=some (I (QF b s),[]):=by
 apply ZKL;unfold QF;rcases tf (Al b 0 1000000000000)with e1|e1
 .simp[e1]
 rcases tf (Al s 0 100)with e2|e2
 .simp[e1,e2]
 .obtain⟨w1,w2,w3⟩:=ZA4 e1 e2;simp[e1,e2,w1,w2,w3]
def ZLW(b:Zu)(hl:CE b):∀k,k<=b.Contours.length->
  R7 b b.Contours b.Contours.length k=some (Bo ((b.Contours.drop k).all (UU b.Plans.length) && (decide (0<b.Budgets.length) && decide (b.Contours.length=b.Budgets.length))),[]):=by
 obtain⟨l1,l2,l3,l4,l5,l6⟩:=hl;refine down _ ?_ ?_
 .apply HU.2.1
  simp_all [Int.natCast_inj]
 .intro k hk ih;apply HU.2.1;have h4:=Z7 (i:=k) Z;have c1:=ZLV b.Contours[k] b.Plans.length l4 (l6 _ (Yf hk));rw[Gf _ hk];simp only[UU]at ih|-;simp only[Ys,Yt]at ih;generalize hd:(WG (b.Plans.length) [] b.Contours[k] && decide (0<b.Contours[k].length))=d at c1|-;rw[An];refine⟨Z,_,Yd hk,d,c1,?_⟩
  simp_all
def ZLX(b:Zu)(hr:Al b.Ratio 2 8=true)(hl:CE b)(c:Bool)(hc:R7 b b.Contours b.Contours.length 0=some (Bo c,[])):∀k,k<=b.Budgets.length->(∀p,VM b.Budgets k=some p->Al p 1 500000000000=true)->
  R6 b b.Budgets b.Budgets.length k=some (Bo (QG b.Ratio (VM b.Budgets k) (b.Budgets.drop k) && c),[]):=by
 obtain⟨l1,l2,l3,l4,l5,l6⟩:=hl;refine down _ ?_ ?_
 .intro _;apply HU.1.2;rw[Ao,hc];simp[QG]
 .intro k hk ih hp;apply HU.1.2;have h4:=Z7 (i:=k) Z;rw[ZA5 _ _ hk];rcases tf (Al b.Budgets[k] 1 500000000000)with e1|e1
  .simp[hk,e1]
  have pk:VM b.Budgets (k+1)=some b.Budgets[k]:=by simp[VM,Yd hk]
  rw[pk]at ih;have ih:=ih (λp h=>by cases h;exact e1);simp only[Ys,Yt]at ih
  cases k with
  |zero =>
   simp at ih
   simp[hk,e1,VM,SC,ih,show w 1=1 by decide]
  |succ j =>
   have hj:j<b.Budgets.length:=by omega
   have kX:VM b.Budgets (j+1)=some b.Budgets[j]:=by simp[VM,Yd hj]
   have hb:=hp _ kX;rw[kX];simp only[SC];simp[Al]at hb hr;have m1:b.Ratio*b.Budgets[j]<=8*500000000000:=Int.mul_le_mul hr.2 hb.2 Z Z;have m2:0<=b.Ratio*b.Budgets[j]:=Int.mul_nonneg Z Z;have w1:w (b.Ratio*b.Budgets[j])=b.Ratio*b.Budgets[j]:=ZE Z Z;have w2:w (((j+1:Nat):Int)-1)=j:=by rw[show((j+1:Nat):Int)-1=j by omega];exact ZE Z Z
   rw[An];refine⟨Z,b.Budgets[j+1],by rw[Yh];exact Yd hk,true,by rw[Qp,e1],?_⟩
   grind
def ZLY(q:Zc)(b:Zu)(hq:AI q)(hl:CE b)(c:Bool)(hc:R6 b b.Budgets b.Budgets.length 0=some (Bo c,[])):∀k,k<=b.Plans.length->
  iI q b b.Plans b.Plans.length k=some (Bo ((b.Plans.drop k).all (H3 q.Zh q.Atoms) && c),[]):=by
 obtain⟨l1,l2,l3,l4,l5,l6⟩:=hl;refine down _ ?_ ?_
 .simp_all [HU.1.1]
 .intro k hk ih;apply HU.1.1;have h4:=Z7 (i:=k) Z;have q1:=ZLS q b.Plans[k] hq;have q2:=H4 q hq;rw[Gf _ hk];simp at ih;by_cases e:Gi q.Zh q.Atoms b.Plans[k].Steps=Z3 q.Zh q.Atoms
  .simp[hk,h4,q1,q2,e,ih,H3]
  .simp[hk,h4,q1,q2,e,H3]
@[simp] def ZLZ(q:Zc)(b:Zu)(hq:AI q)(hl:CE b):iH q b=some (Bo (JE q.Zh q.Atoms b),[]):=by
 apply HU.2.2.1;have q1:=kT q hq;have q2:=H4 q hq;have q3:=Z0X b.Box ⟨hl.1,hl.2.1⟩;have q4:=ZpW q.Zh q.Atoms;unfold JE Zqb;rcases tf (Zx q.Zh q.Atoms)with e1|e1
 .simp[q1,e1]
 rcases tf (Al b.Version 1 999)with e2|e2
 .simp[q1,e1,e2]
 rcases tf (Al b.Ratio 2 8)with e3|e3
 .simp[q1,e1,e2,e3]
 rcases tf (Al b.Slack 0 100)with e4|e4
 .simp[q1,e1,e2,e3,e4]
 rcases tf (Al (ZH b.Box.Low b.Box.High) 1 400)with e5|e5
 .simp_all
 by_cases e6:(b.Box.Low.length:Int)=Z3 q.Zh q.Atoms+1
 .have r2:=ZLW b hl 0 (Yc _);have r1:=ZLX b e3 hl _ r2 0 (Yc _) (λp h=>by simp[VM]at h);have r0:=ZLY q b hq hl _ r1 0 (Yc _);simp only[Yo,VM,Int.ofNat_zero]at r0
  simp_all [Qp,Y4,Bool.and_assoc]
 .simp_all
def Kp:Int->List Zw->Bool
 |_,[]=>true
 |p,s::r=>Al s.From 1 8192 && Al s.Add (-99) 99 && decide (p<s.From) && Kp s.From r
def Ux(l:List Zw):Nat->Int
 |0=>0
 |i+1=>match l[i]? with|some s=>s.From|none=>0
def Uy(n:Int):Bool:=Al n (-99) 99
def Wu(o:Zz):Bool:=Uy o.Fixed && Uy o.ZR && Uy o.ZS && Uy o.ZT && Uy o.ZU && decide (o.Steps.length<=4) && Kp 0 o.Steps
def ZAC(p:Int){l:List Zw}{i:Nat}(h:i<l.length):Kp p (l.drop i)=(Al l[i].From 1 8192 && Al l[i].Add (-99) 99 && decide (p<l[i].From) && Kp l[i].From (l.drop (i+1))):=by
 rw[Yi h,Kp]
@[simp] def ZMa(n:Int):FZ n=some (Bo (Uy n),[]):=by
 apply Kn.2.2.1;simp[Uy]
def ZMb(o:Zz)(hl:Le o.Steps):∀i,i<=o.Steps.length->LM o i=some (Bo (Kp (Ux o.Steps i) (o.Steps.drop i)),[]):=by
 refine down _ ?_ ?_
 .apply Kn.2.2.2.1;simp[Kp]
 .intro i hi ih;apply Kn.2.2.2.1;have h4:=Z7 (i:=i) Z;rw[ZAC _ hi];have pn:Ux o.Steps (i+1)=o.Steps[i].From:=by simp[Ux,Yd hi]
  rw[pn]at ih;simp only[Ys,Yt]at ih;rw[An];refine⟨Z,o.Steps[i],by rw[Yh];exact Yd hi,_,ZM _ _ _,?_⟩;rcases tf (Al o.Steps[i].From 1 8192)with e1|e1
  .rw[e1];simp
  rw[e1,Ya rfl];refine⟨_,ZMa _,?_⟩;unfold Uy;rcases tf (Al o.Steps[i].Add (-99) 99)with e2|e2
  .rw[e2];simp
  rw[e2,Ya rfl,show w ((i:Int)+1)=(i:Int)+1 from h4]
  cases i with
  |zero =>
   rw[Ao,ih]
   have:Ux o.Steps 0<o.Steps[0].From:=by simp[Al]at e1;simp[Ux];omega
   simp[this]
  |succ j =>
   have hj:j<o.Steps.length:=by omega
   have w2:w (((j+1:Nat):Int)-1)=j:=by rw[show((j+1:Nat):Int)-1=j by omega];exact ZE Z Z
   have pj:Ux o.Steps (j+1)=o.Steps[j].From:=by simp[Ux,Yd hj]
   grind
@[simp] def kY(o:Zz)(hl:Le o.Steps):Hu o=some (Bo (Wu o),[]):=by
 apply Kn.2.2.2.2;have b:=ZMb o hl 0 (Yc _);simp only[Ux,Yo,Int.ofNat_zero]at b;have b:LM o 0=_:=b;unfold Wu;rcases tf (Uy o.Fixed)with e1|e1
 .simp[e1]
 rcases tf (Uy o.ZR)with e2|e2
 .simp[e1,e2]
 rcases tf (Uy o.ZS)with e3|e3
 .simp[e1,e2,e3]
 rcases tf (Uy o.ZT)with e4|e4
 .simp[e1,e2,e3,e4]
 rcases tf (Uy o.ZU)with e5|e5
 .simp[e1,e2,e3,e4,e5]
 by_cases e6:o.Steps.length<=4
 .have e7:¬(4:Int)<o.Steps.length:=by omega
  simp[e1,e2,e3,e4,e5,e6,e7,b]
 .have e7:(4:Int)<o.Steps.length:=by omega
  simp[e1,e2,e3,e4,e5,e6,e7]
def ZMc(o:Zz)(hl:Le o.Steps):∀i,i<=o.Steps.length->L9 o o.Steps o.Steps.length i=some (Bo (Kp (Ux o.Steps i) (o.Steps.drop i) && decide (o.Steps.length<=4)),[]):=by
 refine down _ ?_ ?_
 .apply Wp.1.2.2.2.1;rw[Ao];by_cases e:o.Steps.length<=4
  .simp[Kp,e];omega
  .simp[Kp,e];omega
 .intro i hi ih;apply Wp.1.2.2.2.1;have h4:=Z7 (i:=i) Z;rw[ZAC _ hi];have pn:Ux o.Steps (i+1)=o.Steps[i].From:=by simp[Ux,Yd hi]
  rw[pn]at ih;simp only[Ys,Yt]at ih;rw[An];refine⟨Z,o.Steps[i],by rw[Yh];exact Yd hi,_,Qp _ _ _,?_⟩;rcases tf (Al o.Steps[i].Add (-99) 99)with e2|e2
  .rw[e2];simp
  rw[e2,Ya rfl];refine⟨_,Qp _ _ _,?_⟩;rcases tf (Al o.Steps[i].From 1 8192)with e1|e1
  .rw[e1];simp
  rw[e1,Ya rfl,show w ((i:Int)+1)=(i:Int)+1 from h4]
  cases i with
  |zero =>
   rw[Ao,ih]
   have:Ux o.Steps 0<o.Steps[0].From:=by simp[Al]at e1;simp[Ux];omega
   simp[this]
  |succ j =>
   have hj:j<o.Steps.length:=by omega
   have w2:w (((j+1:Nat):Int)-1)=j:=by rw[show((j+1:Nat):Int)-1=j by omega];exact ZE Z Z
   have pj:Ux o.Steps (j+1)=o.Steps[j].From:=by simp[Ux,Yd hj]
   grind
@[simp] def Uz(o:Zz)(hl:Le o.Steps):WX o=some (Bo (Wu o),[]):=by
 apply Wp.1.2.2.2.2;have hc:Zpt o=some (.bsl 1 5,[.box (o.c.map .t),.box [.ptr 0 0,.ptr 0 1,.ptr 0 2,.ptr 0 3,.ptr 0 4]]):=Wp.1.2.2.1 _ _ rfl;refine⟨hc,?_⟩;have b:=ZMc o hl 0 (Yc _);simp only[Ux,Yo]at b;have b:L9 o o.Steps o.Steps.length 0=_:=b;have w1:w (0+1)=1:=by decide
 have w2:w (1+1)=2:=by decide
 have w3:w (2+1)=3:=by decide
 have w4:w (3+1)=4:=by decide
 have w5:w (4+1)=5:=by decide
 unfold Wu Uy;apply Sx;rw[An,Ya rfl];refine⟨_,Qp _ _ _,?_⟩;rcases tf (Al o.Fixed (-99) 99)with e1|e1
 .rw[e1];simp
 rw[e1,Ya rfl,w1];apply Sx;rw[An,Ao,Ya rfl];refine⟨_,Qp _ _ _,?_⟩;rcases tf (Al o.ZR (-99) 99)with e2|e2
 .rw[e2];simp
 rw[e2,Ya rfl,w2];apply Sx;rw[An,Ao,Ao,Ya rfl];refine⟨_,Qp _ _ _,?_⟩;rcases tf (Al o.ZS (-99) 99)with e3|e3
 .rw[e3];simp
 rw[e3,Ya rfl,w3];apply Sx;rw[An,Ao,Ao,Ao,Ya rfl];refine⟨_,Qp _ _ _,?_⟩;rcases tf (Al o.ZT (-99) 99)with e4|e4
 .rw[e4];simp
 rw[e4,Ya rfl,w4];apply Sx
 simp_all [Qp,tf,Sx,Bool.and_comm]
def Gj(o:Zz)(l r n:Int):Int:=w (w (w (w (o.Fixed+w (o.ZR*l))+w (o.ZS*r))+w (o.ZT*n))+w (w (o.ZU*l)*r))
def Kq(l r n:Int)(s:Zw):Int:=if s.From<=w (l+r)then w (n+s.Add)else n
def SF(o:Zz)(l r n:Int):Int:=o.Steps.foldl (Kq l r) (Gj o l r n)
def XL(o:Zz)(l r n:Int):Int:=if(Wu o && Al l 0 4096 && Al r 0 4096 && Al n 0 4096)=true then SF o l r n else 0
def ZMd(l r:Int)(st:List Zw)(hl:Le st):∀i,i<=st.length->∀n,Sc l r n st st.length i=some (I ((st.drop i).foldl (Kq l r) n),[]):=by
 refine down _ ?_ ?_
 .simp[Wp.2.2.2.1]
 .intro i hi ih n;apply Wp.2.2.2.1;have h4:=Z7 (i:=i) Z;rw[Yi hi,Yv];simp only[Ys,Yt]at ih;by_cases e:st[i].From<=w (l+r)
  .simp[hi,h4,e,ih,Kq]
  .simp[hi,h4,e,ih,Kq]
@[simp] def ZRe(o:Zz)(hl:Le o.Steps)(l r n:Int):Sb o l r n=some (I (SF o l r n),[]):=by
 apply Wp.2.2.2.2.1;have b:=ZMd l r o.Steps hl 0 (Yc _) (Gj o l r n);simpa[SF,Gj]using b
@[simp] def JF(o:Zz)(hl:Le o.Steps)(l r n:Int):WK o l r n=some (I (XL o l r n),[]):=by
 apply Wf.2.2.2.2.2;unfold XL
 simp_all
def ZMe(o:Zz)(l r:Int)(hl:Le o.Steps):∀i,i<=o.Steps.length->∀n,LN o l r n i=some (I ((o.Steps.drop i).foldl (Kq l r) n),[]):=by
 refine down _ ?_ ?_
 .simp[XV.1.1.1.1]
 .intro i hi ih n;apply XV.1.1.1.1;have h4:=Z7 (i:=i) Z;rw[Yi hi,Yv];simp only[Ys,Yt]at ih;by_cases e:o.Steps[i].From<=w (l+r)
  .simp[hi,h4,e,ih,Kq]
  .simp[hi,h4,e,ih,Kq]
@[simp] def KS(o:Zz)(hl:Le o.Steps)(l r n:Int):Ur o l r n=some (I (XL o l r n),[]):=by
 apply XV.1.1.1.2;have b:=ZMe o l r hl 0 (Yc _) (Gj o l r n);simp only[Yo,Gj]at b;have b:LN o l r _ 0=_:=b;unfold XL;rcases tf (Wu o)with e1|e1<;>rcases tf (Al l 0 4096)with e2|e2<;>rcases tf (Al r 0 4096)with e3|e3<;>rcases tf (Al n 0 4096)with e4|e4<;>simp[hl,e1,e2,e3,e4,b,SF,Gj]
@[simp] def ZMf(c:Int):HG c=some (I (XJ c),[]):=by
 apply Wp.2.2.1.2;cases h:Al c 0 7
 .simp[h,ZAu h]
 .rcases kM h with rfl|rfl|rfl|rfl|rfl|rfl|rfl|rfl<;>simp[Al,XJ,ZE,Ac]
@[simp] def Gk(c:Int):J1 c=some (I (XJ c),[]):=by
 apply XB.2.1.1.2;have e:∀n i r,(if i<c then Ry c (if 1<w (n*4)then w (n*4)else 1) (w (i+1))=some r else some (I n,[])=some r)->Ry c n i=some r:=λn i r h=>XB.2.1.1.1 _ _ _ _ h
 cases h:Al c 0 7
 .simp[h,ZAu h]
 .refine⟨_,ZM _ _ _,?_⟩;rw[h,Ya rfl];rcases kM h with rfl|rfl|rfl|rfl|rfl|rfl|rfl|rfl
  all_goals repeat (refine e _ _ _ ?_;first|(rw[Yb Sm];rfl)|rw[Ya Sm])
def inT(t:WL):Prop:=∃a b c:Int,t=[a,b,c]/\(0<=a/\a<=7)/\(0<=b/\b<=7)/\(0<=c/\c<=7)
def Bs(o:Zz):WL->Int
 |[a,b,c]=>SF o (XJ a) (XJ b) (XJ c)
 |_=>0
def SG{c:Int}(h0:0<=c)(h7:c<=7):Al (XJ c) 0 4096=true:=by
 have:c=0\/c=1\/c=2\/c=3\/c=4\/c=5\/c=6\/c=7:=by omega
 rcases this with rfl|rfl|rfl|rfl|rfl|rfl|rfl|rfl<;>decide
def MS(o:Zz)(hl:Le o.Steps){t:WL}(h:inT t):Km o t=some (I (Bs o t),[]):=by
 obtain⟨a,b,c,rfl,_⟩:=h;apply Wp.2.2.2.2.2;simp[hl,Bs]
theorem Zqf(o:Zz)(hl:Le o.Steps)(hv:Wu o=true){t:WL}(h:inT t):Rz o t=some (I (Bs o t),[]):=by
 obtain⟨a,b,c,rfl,h1,h2,h3⟩:=h;apply XV.1.1.2.1;have c1:=SG h1.1 h1.2;have c2:=SG h2.1 h2.2;have c3:=SG h3.1 h3.2;simp[hl,Bs,XL,hv,c1,c2,c3]
def ZAD{t:WL}(h:inT t){k:Nat}{e:Int}(hk:t[k]?=some e)(h7:e+1<=7):inT (t.set k (e+1)):=by
 obtain⟨a,b,c,rfl,h1,h2,h3⟩:=h
 match k,hk with
 |0,hk=>simp at hk;subst hk;exact⟨a+1,b,c,rfl,Z,h2,h3⟩
 |1,hk=>simp at hk;subst hk;exact⟨a,b+1,c,rfl,h1,Z,h3⟩
 |2,hk=>simp at hk;subst hk;exact⟨a,b,c+1,rfl,h1,h2,Z⟩
 |k+3,hk=>simp at hk
def ZAE{t:WL}(h:inT t){k:Nat}(hk:k<3):∃e,t[k]?=some e/\0<=e/\e<=7:=by
 obtain⟨a,b,c,rfl,h1,h2,h3⟩:=h
 match k,hk with
 |0,_=>exact⟨a,rfl,h1⟩
 |1,_=>exact⟨b,rfl,h2⟩
 |2,_=>exact⟨c,rfl,h3⟩
def Z1a{t:WL}(h:inT t):t.length=3:=by obtain⟨a,b,c,rfl,_⟩:=h;rfl
def kZ(o:Zz)(t:WL)(k:Nat):Prop:=∃e,t[k]?=some e/\e+1<=7/\Bs o (t.set k (e+1))<Bs o t
def Uf(o:Zz)(t:WL)(k:Nat):Prop:=∃j,k<=j/\j<3/\kZ o t j
def SH(o:Zz):Prop:=∃t,inT t/\Uf o t 0
def Z1b(o:Zz):Prop:=∃t,inT t/\Bs o t<1
abbrev Qr(X:Rs)(p:Prop):Prop:=∃(xs ys:WL) (b:Bool),X=some (.tup [.own 0,.own 1,Bo b],[.arr Z9 1 true (xs.map ic),.arr Z9 1 true (ys.map ic)])/\(b=true↔p)
def Qr.congr{X:Rs}{p q:Prop}(h:Qr X p)(e:p↔q):Qr X q:=by
 simp_all
def lA(o:Zz)(hl:Le o.Steps)(hv:Wu o=true){t:WL}(ht:inT t)(a b e:Int)(p:Prop)(hc:Qr (RC o a b (w (e+1))) p):∀k:Nat,k<=3->
  Qr (Hv o t a b e k) (Uf o t k\/p):=by
 have h3:=Z1a ht;refine down _ ?_ ?_
 .obtain⟨xs,ys,f,h1,h2⟩:=hc;refine⟨xs,ys,f,XV.1.2.2.1 _ _ _ _ _ _ _ (by rw[Ao];exact h1),?_⟩;rw[h2];exact⟨.inr,λh=>h.elim (λ⟨j,a,b,_⟩=>by omega) id⟩
 .intro k hk ih;have h4:=Z7 (i:=k) Z;obtain⟨x,hx,x0,x7⟩:=ZAE ht hk;have wx:w (x+1)=x+1:=ZE Z Z;simp only[Ys,Yt]at ih;have step:Uf o t k↔(kZ o t k\/Uf o t (k+1)):=by
   constructor
   .rintro⟨j,j1,j2,j3⟩;by_cases hj:j=k
    .subst hj;exact .inl j3
    .exact .inr ⟨j,Z,j2,j3⟩
   .rintro(h|⟨j,j1,j2,j3⟩)
    .exact⟨k,Yj _,hk,h⟩
    .exact⟨j,Z,j2,j3⟩
  have pre:∀r,(if x+1<=7 then(if Bs o (t.set k (x+1))<Bs o t then some (.tup [.own 0,.own 1,Bo true],[.arr Z9 1 true (t.map ic),.arr Z9 1 true ((t.set k (x+1)).map ic)])=some r
    else Hv o t a b e ((k:Int)+1)=some r)else Hv o t a b e ((k:Int)+1)=some r)->Hv o t a b e k=some r:=by
   intro r hr;apply XV.1.2.2.1;rw[An];refine⟨Z,Z,x,by rw[Yh];exact hx,?_⟩;rw[wx,Yh,show w ((k:Int)+1)=(k:Int)+1 from h4];by_cases h7:x+1<=7
   .rw[Ya h7]at hr|-;exact⟨_,Zqf o hl hv (ZAD ht hx h7),_,Zqf o hl hv ht,hr⟩
   .grind
  have dk:kZ o t k↔(x+1<=7/\Bs o (t.set k (x+1))<Bs o t):=by
   constructor
   .rintro⟨y,y1,y2,y3⟩;rw[hx]at y1;cases y1;exact⟨y2,y3⟩
   .rintro⟨y2,y3⟩;exact⟨x,hx,y2,y3⟩
  grind
def SI{P:Nat->Prop}{i:Nat}{p:Prop}(hi:i<8):((∃z,i<=z/\z<=7/\P z)\/p)↔(P i\/(∃z,i+1<=z/\z<=7/\P z)\/p):=by
 grind
def SJ{P:Nat->Prop}{p:Prop}:((∃z,8<=z/\z<=7/\P z)\/p)↔p:=⟨λh=>h.elim (λ⟨z,a,b,_⟩=>by omega) id,.inr⟩
def lB(o:Zz)(hl:Le o.Steps)(hv:Wu o=true)(a b:Nat)(ha:a<=7)(hb:b<=7)(p:Prop)(hc:Qr (RB o a ((b:Int)+1)) p):∀e:Nat,e<=8->
  Qr (RC o a b e) ((∃z:Nat,e<=z/\z<=7/\Uf o [(a:Int),(b:Int),(z:Int)] 0)\/p):=by
 have wb:w ((b:Int)+1)=(b:Int)+1:=ZE Z Z;refine down _ ?_ ?_
 .refine Qr.congr ?_ SJ.symm
  grind [XV.1.2.1.2]
 .intro e he ih;have we:w ((e:Int)+1)=(e:Int)+1:=ZE Z Z;have hT:inT [(a:Int),(b:Int),(e:Int)]:=⟨a,b,e,rfl,Z,Z,Z⟩;simp only[Ys,Yt]at ih;obtain⟨xs,ys,f,h1,h2⟩:=lA o hl hv hT a b e _ (by rw[we];exact ih) 0 Z;exact⟨xs,ys,f,XV.1.2.1.2 _ _ _ _ _ (by rw[An];exact h1),h2.trans (SI (P:=λz:Nat=>Uf o [(a:Int),(b:Int),(z:Int)] 0) he).symm⟩
def lC(o:Zz)(hl:Le o.Steps)(hv:Wu o=true)(a:Nat)(ha:a<=7)(p:Prop)(hc:Qr (RA o ((a:Int)+1)) p):∀b:Nat,b<=8->
  Qr (RB o a b) ((∃y:Nat,b<=y/\y<=7/\∃z:Nat,0<=z/\z<=7/\Uf o [(a:Int),(y:Int),(z:Int)] 0)\/p):=by
 have wa:w ((a:Int)+1)=(a:Int)+1:=ZE Z Z;refine down _ ?_ ?_
 .refine Qr.congr ?_ SJ.symm
  grind [XV.1.2.1.1]
 .intro b hb ih;simp only[Ys,Yt]at ih;obtain⟨xs,ys,f,h1,h2⟩:=lB o hl hv a b ha Z _ ih 0 Z;exact⟨xs,ys,f,XV.1.2.1.1 _ _ _ _ (by rw[An];exact h1),h2.trans (SI (P:=λy:Nat=>∃z:Nat,0<=z/\z<=7/\Uf o [(a:Int),(y:Int),(z:Int)] 0) hb).symm⟩
def lD(o:Zz)(hl:Le o.Steps)(hv:Wu o=true):∀a:Nat,a<=8->
  Qr (RA o a) ((∃x:Nat,a<=x/\x<=7/\∃y:Nat,0<=y/\y<=7/\∃z:Nat,0<=z/\z<=7/\Uf o [(x:Int),(y:Int),(z:Int)] 0)\/False):=by
 refine down _ ?_ ?_
 .refine Qr.congr ?_ SJ.symm;exact⟨[],[],false,XV.1.1.2.2 _ _ _ (by rw[Ao]),Om⟩
 .intro a ha ih;simp only[Ys,Yt]at ih;obtain⟨xs,ys,f,h1,h2⟩:=lC o hl hv a Z _ ih 0 Z;exact⟨xs,ys,f,XV.1.1.2.2 _ _ _ (by rw[An];exact h1),h2.trans (SI (P:=λx:Nat=>∃y:Nat,0<=y/\y<=7/\∃z:Nat,0<=z/\z<=7/\Uf o [(x:Int),(y:Int),(z:Int)] 0) ha).symm⟩
def ZAF(o:Zz)(P:WL->Prop):(∃t,inT t/\P t)↔∃x:Nat,0<=x/\x<=7/\∃y:Nat,0<=y/\y<=7/\∃z:Nat,0<=z/\z<=7/\P [(x:Int),(y:Int),(z:Int)]:=by
 constructor
 .rintro⟨t,⟨a,b,c,rfl,h1,h2,h3⟩,h⟩;refine⟨a.toNat,Z,Z,b.toNat,Z,Z,c.toNat,Z,Z,?_⟩
  grind
 .rintro⟨x,_,x2,y,_,y2,z,_,z2,h⟩;exact⟨_,⟨x,y,z,rfl,Z,Z,Z⟩,h⟩
def ZMg(o:Zz)(hl:Le o.Steps)(hv:Wu o=true):Qr (yZ o) (SH o):=by
 obtain⟨xs,ys,f,h1,h2⟩:=lD o hl hv 0 Z;refine⟨xs,ys,f,XV.1.2.2.2.1 _ _ ⟨_,kY o hl,?_⟩,?_⟩
 .simp_all
 .rw[h2,SH,ZAF o (λt=>Uf o t 0)];simp
abbrev QH(X:Rs)(p:Prop):Prop:=∃(xs:WL),X=some (.own 0,[.arr Z9 1 true (xs.map ic)])/\(xs≠[]↔p)
def QH.congr{X:Rs}{p q:Prop}(h:QH X p)(e:p↔q):QH X q:=by
 simp_all
def lG(o:Zz)(hl:Le o.Steps)(hv:Wu o=true)(a b:Nat)(ha:a<=7)(hb:b<=7)(p:Prop)(hc:QH (RE o a ((b:Int)+1)) p):∀e:Nat,e<=8->
  QH (fH o a b e) ((∃z:Nat,e<=z/\z<=7/\Bs o [(a:Int),(b:Int),(z:Int)]<1)\/p):=by
 have wb:w ((b:Int)+1)=(b:Int)+1:=ZE Z Z;refine down _ ?_ ?_
 .refine QH.congr ?_ SJ.symm
  grind [XV.2.1.1.2]
 .intro e he ih;have we:w ((e:Int)+1)=(e:Int)+1:=ZE Z Z;have hT:inT [(a:Int),(b:Int),(e:Int)]:=⟨a,b,e,rfl,Z,Z,Z⟩;simp only[Ys,Yt]at ih;refine QH.congr ?_ (SI he).symm;by_cases h:Bs o [(a:Int),(b:Int),(e:Int)]<1
  .refine⟨[a,b,e],XV.2.1.1.2 _ _ _ _ _ ?_,by simp[h]⟩
   grind [Zqf]
  .obtain⟨xs,h1,h2⟩:=ih;refine⟨xs,XV.2.1.1.2 _ _ _ _ _ ?_,by rw[h2];simp[h]⟩
   grind [Zqf]
def lH(o:Zz)(hl:Le o.Steps)(hv:Wu o=true)(a:Nat)(ha:a<=7)(p:Prop)(hc:QH (RD o ((a:Int)+1)) p):∀b:Nat,b<=8->
  QH (RE o a b) ((∃y:Nat,b<=y/\y<=7/\∃z:Nat,0<=z/\z<=7/\Bs o [(a:Int),(y:Int),(z:Int)]<1)\/p):=by
 have wa:w ((a:Int)+1)=(a:Int)+1:=ZE Z Z;refine down _ ?_ ?_
 .refine QH.congr ?_ SJ.symm
  grind [XV.2.1.1.1]
 .intro b hb ih;simp only[Ys,Yt]at ih;obtain⟨xs,h1,h2⟩:=lG o hl hv a b ha Z _ ih 0 Z;exact⟨xs,XV.2.1.1.1 _ _ _ _ (by rw[An];exact h1),h2.trans (SI (P:=λy:Nat=>∃z:Nat,0<=z/\z<=7/\Bs o [(a:Int),(y:Int),(z:Int)]<1) hb).symm⟩
def lI(o:Zz)(hl:Le o.Steps)(hv:Wu o=true):∀a:Nat,a<=8->
  QH (RD o a) ((∃x:Nat,a<=x/\x<=7/\∃y:Nat,0<=y/\y<=7/\∃z:Nat,0<=z/\z<=7/\Bs o [(x:Int),(y:Int),(z:Int)]<1)\/False):=by
 refine down _ ?_ ?_
 .refine QH.congr ?_ SJ.symm
  grind [XV.1.2.2.2.2]
 .intro a ha ih;simp only[Ys,Yt]at ih;obtain⟨xs,h1,h2⟩:=lH o hl hv a Z _ ih 0 Z;exact⟨xs,XV.1.2.2.2.2 _ _ _ (by rw[An];exact h1),h2.trans (SI (P:=λx:Nat=>∃y:Nat,0<=y/\y<=7/\∃z:Nat,0<=z/\z<=7/\Bs o [(x:Int),(y:Int),(z:Int)]<1) ha).symm⟩
def ZMh(o:Zz)(hl:Le o.Steps)(hv:Wu o=true):QH (y8 o) (Z1b o):=by
 obtain⟨xs,h1,h2⟩:=lI o hl hv 0 Z;refine⟨xs,XV.2.1.2.1 _ _ h1,?_⟩;rw[h2,Z1b,ZAF o (λt=>Bs o t<1)];simp
def JG(a b:Int)(c:Nat):WA:=(List.range' c (8-c)).map λz:Nat=>[a,b,(z:Int)]
def H5(a:Int)(b:Nat):WA:=(List.range' b (8-b)).flatMap λy:Nat=>JG a y 0
def SK(a:Nat):WA:=(List.range' a (8-a)).flatMap λx:Nat=>H5 x 0
def Z1c{i:Nat}(h:i<8):List.range' i (8-i)=i::List.range' (i+1) (8-(i+1)):=by
 rw[show 8-i=(8-(i+1))+1 by omega,Ycl]
def ZMi(a b:Int)(c:Nat):(JG a b c).length=8-c:=by simp[JG]
def ZMj(a:Int):(H5 a 0).length=64:=rfl
def lJ(a b:Nat)(hb:b<=7)(r:XS):∀c:Nat,c<=8->∀out:WA,out.length<=1000000->Mb (out++JG a b c) a ((b:Int)+1)=some r->Sa out a b c=some r:=by
 have wb:w ((b:Int)+1)=(b:Int)+1:=ZE Z Z;have key:∀c:Nat,c<=8->∀out:WA,out.length<=1000000+c->Mb (out++JG a b c) a ((b:Int)+1)=some r->Sa out a b c=some r:=by
  refine down _ ?_ ?_
  .intro out ho h;apply Wp.2.1.2.1;rw[Ao,wb];simpa[JG]using h
  .intro c hc ih out ho h;have wc:w ((c:Int)+1)=(c:Int)+1:=ZE Z Z;apply Wp.2.1.2.1;rw[An,wc];refine⟨Z,?_⟩
   have ih:=ih (out++[[(a:Int),(b:Int),(c:Int)]]) (by simp;omega) (by
    rw[JG,Z1c hc]at h
    simpa[JG]using h)
   simpa using ih
 grind
def lK(a:Nat)(ha:a<=7)(r:XS):∀b:Nat,b<=8->∀out:WA,out.length<=100000+8*b->R9 (out++H5 a b) ((a:Int)+1)=some r->Mb out a b=some r:=by
 have wa:w ((a:Int)+1)=(a:Int)+1:=ZE Z Z;refine down _ ?_ ?_
 .intro out ho h;apply Wp.2.1.1.2;rw[Ao,wa];simpa[H5]using h
 .intro b hb ih out ho h;apply Wp.2.1.1.2;rw[An];refine lJ a b Z r 0 Z out Z ?_
  have ih:=ih (out++JG a b 0) (by rw[Yu,ZMi];omega) (by
   rw[H5,Z1c hb]at h
   simpa[H5]using h)
  simpa using ih
def lL:∀a:Nat,a<=8->∀out:WA,out.length<=64*a->R9 out a=some (.own 0,[.arr Z4p 1 true ((out++SK a).map AF)]):=by
 refine down _ ?_ ?_
 .intro out ho;apply Wp.2.1.1.1;rw[Ao];simp[SK]
 .intro a ha ih out ho;apply Wp.2.1.1.1;rw[An];refine lK a Z _ 0 Z out Z ?_;have ih:=ih (out++H5 a 0) (by rw[Yu,ZMj];omega);rw[SK,Z1c ha];simpa[SK]using ih
def QI:WA:=SK 0
def SL:UQ=some (.own 0,[.arr Z4p 1 true (QI.map AF)]):=Wp.2.1.2.2 _ (lL 0 Z [] Om)
def Kr(t:WL):t∈QI↔inT t:=by
 simp only[QI,SK,H5,JG,List.mem_flatMap,Yn,List.mem_range'_1,inT];constructor
 .grind
 .rintro⟨a,b,c,rfl,h1,h2,h3⟩;refine⟨a.toNat,Z,b.toNat,Z,c.toNat,Z,?_⟩
  grind
set_option maxRecDepth 100000 in
def SM:QI.length=512:=rfl
@[simp] def ZMk(xs:WL)(h:xs.length<=68719476736):Mc xs=some (.own 0,[.arr Z9 1 true (xs.map ic)]):=Wp.2.2.1.1 _ _ ⟨h,rfl⟩
abbrev Zqg(X:Rs)(p:Prop):Prop:=(p/\∃xs ys:WL,X=some (.tup [L 1 (xs.map ic),.own 0,Bo true],[.arr Z9 1 true (ys.map ic)]))\/(¬p/\X=some (.tup [.t .nil,.t .nil,Bo false],[]))
def lM(o:Zz)(hl:Le o.Steps)(ts:WA){t:WL}(ht:inT t)(n i:Int)(p:Prop)(hc:Zqg (HH o ts n (w (i+1))) p):∀k:Nat,k<=3->
  Zqg (F4 o ts t n i 3 k) (Uf o t k\/p):=by
 have h3:=Z1a ht;refine down _ ?_ ?_
 .have e:(Uf o t 3\/p)↔p:=⟨λh=>h.elim (λ⟨j,a,b,_⟩=>by omega) id,.inr⟩
  grind [kI.2.1]
 .intro k hk ih;have h4:=Z7 (i:=k) Z;obtain⟨x,hx,x0,x7⟩:=ZAE ht hk;have wx:w (x+1)=x+1:=ZE Z Z;simp only[Ys,Yt]at ih;have step:Uf o t k↔(kZ o t k\/Uf o t (k+1)):=by
   constructor
   .rintro⟨j,j1,j2,j3⟩;by_cases hj:j=k
    .subst hj;exact .inl j3
    .exact .inr ⟨j,Z,j2,j3⟩
   .rintro(h|⟨j,j1,j2,j3⟩)
    .exact⟨k,Yj _,hk,h⟩
    .exact⟨j,Z,j2,j3⟩
  have dk:kZ o t k↔(x+1<=7/\Bs o (t.set k (x+1))<Bs o t):=by
   constructor
   .rintro⟨y,y1,y2,y3⟩;rw[hx]at y1;cases y1;exact⟨y2,y3⟩
   .rintro⟨y2,y3⟩;exact⟨x,hx,y2,y3⟩
  have pre:∀r,(if x+1<=7 then(if Bs o (t.set k (x+1))<Bs o t then some (.tup [L 1 (t.map ic),.own 0,Bo true],[.arr Z9 1 true ((t.set k (x+1)).map ic)])=some r
    else F4 o ts t n i 3 ((k:Int)+1)=some r)else F4 o ts t n i 3 ((k:Int)+1)=some r)->F4 o ts t n i 3 k=some r:=by
   intro r hr;apply kI.2.1;rw[An];refine⟨Z,x,by rw[Yh];exact hx,?_⟩;rw[show w ((k:Int)+1)=(k:Int)+1 from h4];by_cases h7:x=7
   .simp_all
   .rw[Yb h7];have h8:x+1<=7:=by omega
    rw[Ya h8]at hr;refine⟨t,ZMk t Z,x,by rw[Yh];exact hx,?_⟩;rw[wx,Yh];exact⟨_,MS o hl (ZAD ht hx h8),_,MS o hl ht,hr⟩
  grind
def lN(o:Zz)(hl:Le o.Steps)(ts:WA)(c:∀t∈ts,inT t)(hn:ts.length<=1000):∀i,i<=ts.length->Zqg (HH o ts ts.length i) (∃t∈ts.drop i,Uf o t 0):=by
 refine down _ ?_ ?_
 .grind [kI.1]
 .intro i hi ih;have h4:=Z7 (i:=i) Z;have ht:=c _ (Yf hi);simp only[Ys,Yt]at ih;have b:=lM o hl ts ht ts.length i _ (by rw[show w ((i:Int)+1)=(i:Int)+1 from h4];exact ih) 0 Z;have go:∀r,F4 o ts ts[i] ts.length i 3 0=some r->HH o ts ts.length i=some r:=by
   intro r hr;apply kI.1
   simp_all [Yh,Yd,Z1a]
  grind [List.drop_eq_getElem_cons]
def lO(o:Zz)(hl:Le o.Steps)(hv:Wu o=true):Zqg (WE o) (SH o):=by
 have b:=lN o hl QI (λt h=>(Kr t).1 h) (by rw[SM];omega) 0 (Yc _);have go:∀r,HH o QI QI.length 0=some r->WE o=some r:=by
  simp_all [kI.2.2,Uz,SL]
 have e:(∃t∈QI.drop 0,Uf o t 0)↔SH o:=by
  simp only[Yo,Kr,SH]
 grind
def Wi(o:Zz):Prop:=Wu o=true/\¬SH o/\¬Z1b o
def BI(m:Zf)(k:Int):Zz:=if k=1 then m.Scan else if k=2 then m.Sort_ else if k=3 then m.Hash else if k=4 then m.Merge else m.Nested
abbrev Ba(m:Zf):Prop:=Le m.Scan.Steps/\Le m.Sort_.Steps/\Le m.Hash.Steps/\Le m.Merge.Steps/\Le m.Nested.Steps
def Ba.op{m:Zf}(h:Ba m)(k:Int):Le (BI m k).Steps:=by
 unfold BI
 grind
@[simp] def SN(m:Zf)(k:Int):Ki m k=some (.agg ((BI m k).c.map .t),[]):=by
 apply Kn.2.1.2;unfold BI
 simp_all
def Va(m:Zf):Prop:=Wi m.Scan/\Wi m.Sort_/\Wi m.Hash/\Wi m.Merge/\Wi m.Nested
def ZMl(m:Zf)(hm:Ba m):∀k:Nat,k<=6->1<=k->
  ∃(xs ys:WL) (n:Int),RF m k=some (.tup [I n,.own 0,.own 1],[.arr Z9 1 true (xs.map ic),.arr Z9 1 true (ys.map ic)])/\(n=0↔∀j:Nat,k<=j->j<=5->Wi (BI m j)):=by
 refine down _ ?_ ?_
 .intro _;exact⟨[],[],0,XV.2.1.2.2 _ _ _ (by rw[Ao]),⟨λ_ j h1 h2=>by omega,λ_=>rfl⟩⟩
 .intro k hk ih h1;have CB:w ((k:Int)+1)=(k:Int)+1:=ZE Z Z;have hl:=hm.op k;have step:(∀j:Nat,k<=j->j<=5->Wi (BI m j))↔(Wi (BI m k)/\∀j:Nat,k+1<=j->j<=5->Wi (BI m j)):=by
   grind
  have kne:(k:Int)≠0:=by omega
  have pre:∀r,(∃v,Hu (BI m k)=some (Bo v,[])/\_)->RF m k=some r:=λr h=>XV.2.1.2.2 _ _ _ (by rw[An];exact⟨BI m k,SN m k,h⟩)
  rcases tf (Wu (BI m k))with hv|hv
  .refine⟨[],[],k,pre _ ⟨false,by rw[kY _ hl,hv],by rw[Yb Om]⟩,?_⟩;rw[step];exact⟨λh=>absurd h kne,λh=>by have:=h.1.1;rw[hv]at this;cases this⟩
  .obtain⟨xs,ys,f,d1,d2⟩:=ZMg (BI m k) hl hv
   cases f with
   |true =>
    refine⟨xs,ys,k,pre _ ⟨true,by rw[kY _ hl,hv],?_⟩,?_⟩
    .simp_all
    .rw[step]
     exact⟨λh=>absurd h kne,λh=>absurd (d2.1 rfl) h.1.2.1⟩
   |false =>
    obtain⟨cs,c1,c2⟩:=ZMh (BI m k) hl hv;by_cases hc:cs=[]
    .obtain⟨xs',ys',n,i1,i2⟩:=ih Z;simp only[Ys,Yt]at i1;refine⟨xs',ys',n,pre _ ⟨true,by rw[kY _ hl,hv],?_⟩,?_⟩
     .simp_all
     .rw[step,i2];refine⟨λh=>⟨⟨hv,λhd=>(by have:=d2.2 hd;cases this),λhch=>(c2.2 hch) hc⟩,h⟩,λh=>h.2⟩
    .refine⟨cs,[],k,pre _ ⟨true,by rw[kY _ hl,hv],?_⟩,?_⟩
     .simp_all
     .rw[step];exact⟨λh=>absurd h kne,λh=>absurd (c2.1 hc) h.1.2.2⟩
theorem ZMm(m:Zf):(∀j:Nat,1<=j->j<=5->Wi (BI m j))↔Va m:=by
 constructor
 .intro h;exact⟨h 1 Z Z,h 2 Z Z,h 3 Z Z,h 4 Z Z,h 5 Z Z⟩
 .rintro⟨h1,h2,h3,h4,h5⟩ j a b
  have:j=1\/j=2\/j=3\/j=4\/j=5:=by omega
  rcases this with rfl|rfl|rfl|rfl|rfl
  .exact h1
  .exact h2
  .exact h3
  .exact h4
  .exact h5
open Classical in
def lP(m:Zf)(hm:Ba m):Kj m=some (Bo (decide (Va m)),[]):=by
 obtain⟨xs,ys,n,h1,h2⟩:=ZMl m hm 1 Z Z
 grind [XV.2.2.1.2,XV.2.2.1.1,ZMm]
abbrev XD(X:Rs)(p:Prop):Prop:=(p/\X=some (.tup [I 0,.t .nil,.t .nil],[]))\/(¬p/\∃n:Int,n≠0/\((∃xs ys:WL,X=some (.tup [I n,L 1 (xs.map ic),.own 0],[.arr Z9 1 true (ys.map ic)]))\/X=some (.tup [I n,.t .nil,.t .nil],[])\/∃xs:WL,X=some (.tup [I n,L 1 (xs.map ic),.t .nil],[])))
def XD.of{X Y:Rs}{p:Prop}(h:XD X p)(e:∀r,X=some r->Y=some r):XD Y p:=by
 grind
def XD.congr{X:Rs}{p q:Prop}(h:XD X p)(e:p↔q):XD X q:=by
 rw[<-e];exact h
def lQ{ts:WA}{j:Nat}(hj:j<ts.length){P:WL->Prop}{p:Prop}:((∀t∈ts.drop j,P t)/\p)↔(P ts[j]/\(∀t∈ts.drop (j+1),P t)/\p):=by
 rw[Yi hj]
 grind
def lR(m:Zf)(hl:Le m.Scan.Steps)(ts:WA)(c:∀t∈ts,inT t)(hn:ts.length<=1000)(kind:Int)(hk:kind≠0)(x1 x2:Int)(p:Prop)(hc:XD (XW m x1 (w (x2+1))) p):∀j,j<=ts.length->
  XD (HI m ts kind x1 x2 ts.length j) ((∀t∈ts.drop j,¬Bs m.Scan t<1)/\p):=by
 refine down _ ?_ ?_
 .grind [Wf.1.1.1.1]
 .intro j hj ih;have h4:=Z7 (i:=j) Z;have ht:=c _ (Yf hj);simp only[Ys,Yt]at ih;have pre:∀r,(if Bs m.Scan ts[j]<1 then some (.tup [I kind,L 1 (ts[j].map ic),.t .nil],[])=some r else HI m ts kind x1 x2 ts.length ((j:Int)+1)=some r)->HI m ts kind x1 x2 ts.length j=some r:=by
   intro r hr;apply Wf.1.1.1.1
   simp_all [Yh,Yd,MS]
  refine XD.congr ?_ (lQ (P:=λt=>¬Bs m.Scan t<1) hj).symm;by_cases h:Bs m.Scan ts[j]<1
  .grind
  .grind
def lS(m:Zf)(hm:Ba m)(p:Prop)(hc:XD (XW m 5 1) p):XD (XW m 5 0) (Wi m.Scan/\p):=by
 have hl:Le m.Scan.Steps:=by obtain⟨h1,h2,h3,h4,h5⟩:=hm;assumption
 have w1:w (1+0)=1:=by decide
 have w2:w (0+1)=1:=by decide
 have pre:∀r,(∃v,WX m.Scan=some (Bo v,[])/\_)->XW m 5 0=some r:=λr h=>Sy _ _ _ _ (by rw[An,Ya rfl];exact h)
 rcases tf (Wu m.Scan)with hv|hv
 .refine .inr ⟨λh=>(by have:=h.1.1;rw[hv]at this;cases this),1,Sm,.inr (.inl (pre _ ⟨false,by rw[Uz _ hl,hv],?_⟩))⟩
  simp_all
 rcases lO m.Scan hl hv with⟨hd,xs,ys,d1⟩|⟨hd,d1⟩
 .refine .inr ⟨λh=>h.1.2.1 hd,1,Sm,.inl ⟨xs,ys,pre _ ⟨true,by rw[Uz _ hl,hv],?_⟩⟩⟩
  grind
 .have b:=lR m hl QI (λt h=>(Kr t).1 h) (by rw[SM];omega) 1 Sm 5 0 p (by rw[w2];exact hc) 0 (Yc _);refine(b.of λr hr=>pre r ⟨true,by rw[Uz _ hl,hv],?_⟩).congr ?_
  .simp_all [SL]
  .simp only[Yo,Kr];constructor
   .rintro⟨h,hp⟩;exact⟨⟨hv,hd,λ⟨t,ht,hc⟩=>h t ht hc⟩,hp⟩
   .rintro⟨h,hp⟩;exact⟨λt ht hc=>h.2.2 ⟨t,ht,hc⟩,hp⟩
def MT(m:Zf)(hl:Le m.Sort_.Steps)(ts:WA)(c:∀t∈ts,inT t)(hn:ts.length<=1000)(kind:Int)(hk:kind≠0)(x1 x2:Int)(p:Prop)(hc:XD (XW m x1 (w (x2+1))) p):∀j,j<=ts.length->
  XD (HJ m ts kind x1 x2 ts.length j) ((∀t∈ts.drop j,¬Bs m.Sort_ t<1)/\p):=by
 refine down _ ?_ ?_
 .grind [Wf.1.1.1.2]
 .intro j hj ih;have h4:=Z7 (i:=j) Z;have ht:=c _ (Yf hj);simp only[Ys,Yt]at ih;have pre:∀r,(if Bs m.Sort_ ts[j]<1 then some (.tup [I kind,L 1 (ts[j].map ic),.t .nil],[])=some r else HJ m ts kind x1 x2 ts.length ((j:Int)+1)=some r)->HJ m ts kind x1 x2 ts.length j=some r:=by
   intro r hr;apply Wf.1.1.1.2
   simp_all [Yh,Yd,MS]
  refine XD.congr ?_ (lQ (P:=λt=>¬Bs m.Sort_ t<1) hj).symm;by_cases h:Bs m.Sort_ ts[j]<1
  .grind
  .grind
def MU(m:Zf)(hm:Ba m)(p:Prop)(hc:XD (XW m 5 2) p):XD (XW m 5 1) (Wi m.Sort_/\p):=by
 have hl:Le m.Sort_.Steps:=by obtain⟨h1,h2,h3,h4,h5⟩:=hm;assumption
 have w1:w (1+1)=2:=by decide
 have w2:w (1+1)=2:=by decide
 have pre:∀r,(∃v,WX m.Sort_=some (Bo v,[])/\_)->XW m 5 1=some r:=λr h=>Sy _ _ _ _ (by rw[An,Ao,Ya rfl];exact h)
 rcases tf (Wu m.Sort_)with hv|hv
 .refine .inr ⟨λh=>(by have:=h.1.1;rw[hv]at this;cases this),2,Sm,.inr (.inl (pre _ ⟨false,by rw[Uz _ hl,hv],?_⟩))⟩
  simp_all
 rcases lO m.Sort_ hl hv with⟨hd,xs,ys,d1⟩|⟨hd,d1⟩
 .refine .inr ⟨λh=>h.1.2.1 hd,2,Sm,.inl ⟨xs,ys,pre _ ⟨true,by rw[Uz _ hl,hv],?_⟩⟩⟩
  grind
 .have b:=MT m hl QI (λt h=>(Kr t).1 h) (by rw[SM];omega) 2 Sm 5 1 p (by rw[w2];exact hc) 0 (Yc _);refine(b.of λr hr=>pre r ⟨true,by rw[Uz _ hl,hv],?_⟩).congr ?_
  .simp_all [SL]
  .simp only[Yo,Kr];constructor
   .rintro⟨h,hp⟩;exact⟨⟨hv,hd,λ⟨t,ht,hc⟩=>h t ht hc⟩,hp⟩
   .rintro⟨h,hp⟩;exact⟨λt ht hc=>h.2.2 ⟨t,ht,hc⟩,hp⟩
def MV(m:Zf)(hl:Le m.Hash.Steps)(ts:WA)(c:∀t∈ts,inT t)(hn:ts.length<=1000)(kind:Int)(hk:kind≠0)(x1 x2:Int)(p:Prop)(hc:XD (XW m x1 (w (x2+1))) p):∀j,j<=ts.length->
  XD (HK m ts kind x1 x2 ts.length j) ((∀t∈ts.drop j,¬Bs m.Hash t<1)/\p):=by
 refine down _ ?_ ?_
 .grind [Wf.1.1.2.1]
 .intro j hj ih;have h4:=Z7 (i:=j) Z;have ht:=c _ (Yf hj);simp only[Ys,Yt]at ih;have pre:∀r,(if Bs m.Hash ts[j]<1 then some (.tup [I kind,L 1 (ts[j].map ic),.t .nil],[])=some r else HK m ts kind x1 x2 ts.length ((j:Int)+1)=some r)->HK m ts kind x1 x2 ts.length j=some r:=by
   intro r hr;apply Wf.1.1.2.1
   simp_all [Yh,Yd,MS]
  refine XD.congr ?_ (lQ (P:=λt=>¬Bs m.Hash t<1) hj).symm;by_cases h:Bs m.Hash ts[j]<1
  .grind
  .grind
def MW(m:Zf)(hm:Ba m)(p:Prop)(hc:XD (XW m 5 3) p):XD (XW m 5 2) (Wi m.Hash/\p):=by
 have hl:Le m.Hash.Steps:=by obtain⟨h1,h2,h3,h4,h5⟩:=hm;assumption
 have w1:w (1+2)=3:=by decide
 have w2:w (2+1)=3:=by decide
 have pre:∀r,(∃v,WX m.Hash=some (Bo v,[])/\_)->XW m 5 2=some r:=λr h=>Sy _ _ _ _ (by rw[An,Ao,Ao,Ya rfl];exact h)
 rcases tf (Wu m.Hash)with hv|hv
 .refine .inr ⟨λh=>(by have:=h.1.1;rw[hv]at this;cases this),3,Sm,.inr (.inl (pre _ ⟨false,by rw[Uz _ hl,hv],?_⟩))⟩
  simp_all
 rcases lO m.Hash hl hv with⟨hd,xs,ys,d1⟩|⟨hd,d1⟩
 .refine .inr ⟨λh=>h.1.2.1 hd,3,Sm,.inl ⟨xs,ys,pre _ ⟨true,by rw[Uz _ hl,hv],?_⟩⟩⟩
  grind
 .have b:=MV m hl QI (λt h=>(Kr t).1 h) (by rw[SM];omega) 3 Sm 5 2 p (by rw[w2];exact hc) 0 (Yc _);refine(b.of λr hr=>pre r ⟨true,by rw[Uz _ hl,hv],?_⟩).congr ?_
  .simp_all [SL]
  .simp only[Yo,Kr];constructor
   .rintro⟨h,hp⟩;exact⟨⟨hv,hd,λ⟨t,ht,hc⟩=>h t ht hc⟩,hp⟩
   .rintro⟨h,hp⟩;exact⟨λt ht hc=>h.2.2 ⟨t,ht,hc⟩,hp⟩
def MX(m:Zf)(hl:Le m.Merge.Steps)(ts:WA)(c:∀t∈ts,inT t)(hn:ts.length<=1000)(kind:Int)(hk:kind≠0)(x1 x2:Int)(p:Prop)(hc:XD (XW m x1 (w (x2+1))) p):∀j,j<=ts.length->
  XD (HL m ts kind x1 x2 ts.length j) ((∀t∈ts.drop j,¬Bs m.Merge t<1)/\p):=by
 refine down _ ?_ ?_
 .grind [Wf.1.1.2.2]
 .intro j hj ih;have h4:=Z7 (i:=j) Z;have ht:=c _ (Yf hj);simp only[Ys,Yt]at ih;have pre:∀r,(if Bs m.Merge ts[j]<1 then some (.tup [I kind,L 1 (ts[j].map ic),.t .nil],[])=some r else HL m ts kind x1 x2 ts.length ((j:Int)+1)=some r)->HL m ts kind x1 x2 ts.length j=some r:=by
   intro r hr;apply Wf.1.1.2.2
   simp_all [Yh,Yd,MS]
  refine XD.congr ?_ (lQ (P:=λt=>¬Bs m.Merge t<1) hj).symm;by_cases h:Bs m.Merge ts[j]<1
  .grind
  .grind
def MY(m:Zf)(hm:Ba m)(p:Prop)(hc:XD (XW m 5 4) p):XD (XW m 5 3) (Wi m.Merge/\p):=by
 have hl:Le m.Merge.Steps:=by obtain⟨h1,h2,h3,h4,h5⟩:=hm;assumption
 have w1:w (1+3)=4:=by decide
 have w2:w (3+1)=4:=by decide
 have pre:∀r,(∃v,WX m.Merge=some (Bo v,[])/\_)->XW m 5 3=some r:=λr h=>Sy _ _ _ _ (by rw[An,Ao,Ao,Ao,Ya rfl];exact h)
 rcases tf (Wu m.Merge)with hv|hv
 .refine .inr ⟨λh=>(by have:=h.1.1;rw[hv]at this;cases this),4,Sm,.inr (.inl (pre _ ⟨false,by rw[Uz _ hl,hv],?_⟩))⟩
  simp_all
 rcases lO m.Merge hl hv with⟨hd,xs,ys,d1⟩|⟨hd,d1⟩
 .refine .inr ⟨λh=>h.1.2.1 hd,4,Sm,.inl ⟨xs,ys,pre _ ⟨true,by rw[Uz _ hl,hv],?_⟩⟩⟩
  grind
 .have b:=MX m hl QI (λt h=>(Kr t).1 h) (by rw[SM];omega) 4 Sm 5 3 p (by rw[w2];exact hc) 0 (Yc _);refine(b.of λr hr=>pre r ⟨true,by rw[Uz _ hl,hv],?_⟩).congr ?_
  .simp_all [SL]
  .simp only[Yo,Kr];constructor
   .rintro⟨h,hp⟩;exact⟨⟨hv,hd,λ⟨t,ht,hc⟩=>h t ht hc⟩,hp⟩
   .rintro⟨h,hp⟩;exact⟨λt ht hc=>h.2.2 ⟨t,ht,hc⟩,hp⟩
def MZ(m:Zf)(hl:Le m.Nested.Steps)(ts:WA)(c:∀t∈ts,inT t)(hn:ts.length<=1000)(kind:Int)(hk:kind≠0)(x1 x2:Int)(p:Prop)(hc:XD (XW m x1 (w (x2+1))) p):∀j,j<=ts.length->
  XD (HM m ts kind x1 x2 ts.length j) ((∀t∈ts.drop j,¬Bs m.Nested t<1)/\p):=by
 refine down _ ?_ ?_
 .grind [Wf.1.2.1.1]
 .intro j hj ih;have h4:=Z7 (i:=j) Z;have ht:=c _ (Yf hj);simp only[Ys,Yt]at ih;have pre:∀r,(if Bs m.Nested ts[j]<1 then some (.tup [I kind,L 1 (ts[j].map ic),.t .nil],[])=some r else HM m ts kind x1 x2 ts.length ((j:Int)+1)=some r)->HM m ts kind x1 x2 ts.length j=some r:=by
   intro r hr;apply Wf.1.2.1.1
   simp_all [Yh,Yd,MS]
  refine XD.congr ?_ (lQ (P:=λt=>¬Bs m.Nested t<1) hj).symm;by_cases h:Bs m.Nested ts[j]<1
  .grind
  .grind
def M0(m:Zf)(hm:Ba m)(p:Prop)(hc:XD (XW m 5 5) p):XD (XW m 5 4) (Wi m.Nested/\p):=by
 have hl:Le m.Nested.Steps:=by obtain⟨h1,h2,h3,h4,h5⟩:=hm;assumption
 have w1:w (1+4)=5:=by decide
 have w2:w (4+1)=5:=by decide
 have pre:∀r,(∃v,WX m.Nested=some (Bo v,[])/\_)->XW m 5 4=some r:=λr h=>Sy _ _ _ _ (by rw[An,Ao,Ao,Ao,Ao,Ya rfl];exact h)
 rcases tf (Wu m.Nested)with hv|hv
 .refine .inr ⟨λh=>(by have:=h.1.1;rw[hv]at this;cases this),5,Sm,.inr (.inl (pre _ ⟨false,by rw[Uz _ hl,hv],?_⟩))⟩
  simp_all
 rcases lO m.Nested hl hv with⟨hd,xs,ys,d1⟩|⟨hd,d1⟩
 .refine .inr ⟨λh=>h.1.2.1 hd,5,Sm,.inl ⟨xs,ys,pre _ ⟨true,by rw[Uz _ hl,hv],?_⟩⟩⟩
  grind
 .have b:=MZ m hl QI (λt h=>(Kr t).1 h) (by rw[SM];omega) 5 Sm 5 4 p (by rw[w2];exact hc) 0 (Yc _);refine(b.of λr hr=>pre r ⟨true,by rw[Uz _ hl,hv],?_⟩).congr ?_
  .simp_all [SL]
  .simp only[Yo,Kr];constructor
   .rintro⟨h,hp⟩;exact⟨⟨hv,hd,λ⟨t,ht,hc⟩=>h t ht hc⟩,hp⟩
   .rintro⟨h,hp⟩;exact⟨λt ht hc=>h.2.2 ⟨t,ht,hc⟩,hp⟩
open Classical in
def ZAG(m:Zf)(hm:Ba m):Sf m=some (Bo (decide (Va m)),[]):=by
 have h5:XD (XW m 5 5) True:=.inl ⟨trivial,Sy _ _ _ _ (by rw[Ao])⟩;have h0:=lS m hm _ (MU m hm _ (MW m hm _ (MY m hm _ (M0 m hm _ h5))));have hop:J6 m=some (.bsl 1 5,[.box (m.c.map .t),.box [.ptr 0 0,.ptr 0 6,.ptr 0 12,.ptr 0 18,.ptr 0 24]]):=Wp.1.2.1.2 _ _ rfl;have hR:XD (Se m) (Va m):=(h0.of λr hr=>Wf.1.2.1.2 _ _ ⟨hop,hr⟩).congr (by simp[Va])
 grind [Wf.1.2.2.1]
def Xa(x:Int):Nat:=(if Ah (Au x 0) 1=1 then 1 else 0)+(if Ah (Au x 1) 1=1 then 1 else 0)+(if Ah (Au x 2) 1=1 then 1 else 0)+(if Ah (Au x 3) 1=1 then 1 else 0)
abbrev AU(x:Int):Prop:=0<=x/\x<16
theorem m16{x:Int}(h:AU x):∃a:Fin 16,x=(a.1:Int):=⟨⟨x.toNat,Z⟩,by simp;omega⟩
set_option maxRecDepth 100000 in
def Aa6:∀a b:Fin 16,AU (At a.1 b.1)/\Ah a.1 (At a.1 b.1)=a.1/\(At a.1 b.1=a.1\/Xa a.1+1<=Xa (At a.1 b.1)):=by decide
set_option maxRecDepth 100000 in
theorem Z1d:∀a b:Fin 16,AU (Ah a.1 b.1)/\Ah (Ah a.1 b.1) b.1=Ah a.1 b.1/\(Ah (a.1:Int) b.1=a.1->Xa a.1<=Xa b.1/\(Xa b.1<=Xa a.1->a.1=b.1)):=by decide
set_option maxRecDepth 1000000 in
theorem lT:∀a b c:Fin 16,Ah (a.1:Int) c.1=a.1->Ah (b.1:Int) c.1=b.1->Ah (At a.1 b.1) c.1=At a.1 b.1:=by decide
set_option maxRecDepth 100000 in
def lU:∀(a:Fin 16) (i:Fin 4),(Ah (Au a.1 i.1) 1=0↔¬Ah (Au a.1 i.1) 1=1):=by decide
set_option maxRecDepth 100000 in
def ZAH:∀(i j:Fin 4),(Ah (Au (Ac 1 i.1) j.1) 1=1↔i=j)/\AU (Ac 1 i.1):=by decide
set_option maxRecDepth 100000 in
def ZAI:∀a:Fin 16,AU (Ah a.1 (w (0-a.1)))/\Ah (Ah a.1 (w (0-a.1))) a.1=Ah a.1 (w (0-(a.1:Int))):=by decide
set_option maxRecDepth 100000 in
theorem Z1e:∀(a:Fin 16),(a.1<2->Xa a.1<=1)/\(a.1<4->Xa a.1<=2)/\(a.1<8->Xa a.1<=3)/\Xa a.1<=4:=by decide
def M1:∀a b c d:Bool,AU (X1 a b c d):=by decide
def VO(qa:List Zg)(m:Int):Nat->Bool:=λi=>decide (i<qa.length) && (!Zy m i && shr qa (Ac 1 i) m)
def KT(qa:List Zg)(m:Int):Int:=Xs (VO qa m)
def ZMn(qa:List Zg)(m:Int):AU (KT qa m):=M1 _ _ _ _
theorem ZMo{i j:Nat}(hi:i<4)(hj:j<4):Zy (Ac 1 i) j=decide (i=j):=by
 have:=(ZAH ⟨i,hi⟩ ⟨j,hj⟩).1;simp only[Zy,Fin.mk.injEq]at this|-
 simp_all
theorem KU{m:Int}(hm:AU m){i:Nat}(hi:i<4):Ah (Au m i) 1=0↔Zy m i=false:=by
 obtain⟨a,rfl⟩:=m16 hm;have:=lU a ⟨i,hi⟩;simp only at this;rw[this,Zy,decide_eq_false_iff_not]
def ZMp(qa:List Zg)(h4:qa.length<=4){i:Nat}(hi:i<qa.length)(u:Int):∀k,k<=qa.length->WP (Ac 1 i) (qa.drop k) k u=(decide (k<=i) && has qa[i].Vars u):=by
 refine down _ ?_ ?_
 .rw[Ym,WP,decide_eq_false Z];rfl
 .grind [Z0M,ZMo]
def ZAJ(qa:List Zg)(h4:qa.length<=4){i:Nat}(hi:i<qa.length)(u:Nat):pV (Ac 1 i) qa u=has qa[i].Vars u:=by
 have:=ZMp qa h4 hi u 0 (Yc _);simpa[pV]using this
def ZMq{n:Int}{qa:List Zg}(h:Zx n qa=true){i:Nat}(hi:i<qa.length)(m:Int):shr qa (Ac 1 i) m=qa[i].Vars.any (λv=>has (Xw m qa n.toNat) v):=by
 have h4:=(W1 h).2;rw[EM,shr,List.any_eq_true,List.any_eq_true];simp only[SB h,ZAJ qa h4 hi,Yg,Y3];constructor
 .rintro⟨u,hu,h1,h2⟩;refine⟨(u:Int),Ko.1 h1,?_⟩;simp only[Bj,Yg];exact⟨by simp[Al];omega,by simpa using h2⟩
 .rintro⟨v,hv,h2⟩;have h3:=H2 h _ (Yf hi) v hv;simp[Al]at h3;simp only[Bj,Yg]at h2
  grind [Ko,Int.toNat_of_nonneg]
def ZAK{qa:List Zg}{m:Int}{i:Nat}(hi:i<4)(h:VO qa m i=true):WF (λu=>decide (u<i) && VO qa m u) [(i:Int)]=λu=>decide (u<i+1) && VO qa m u:=by
 funext u;simp only[WF,has]
 grind
theorem Zqh{qa:List Zg}{m:Int}{i:Nat}(h:VO qa m i=false):(λu=>decide (u<i) && VO qa m u)=λu=>decide (u<i+1) && VO qa m u:=by
 grind
def ZAL(qa:List Zg)(m:Int):(λu=>decide (u<qa.length) && VO qa m u)=VO qa m:=by
 funext u;unfold VO;simp
def ZMr(q:Zc)(hq:AI q)(hv:Zx q.Zh q.Atoms=true)(m:Int)(hm:AU m):∀i,i<=q.Atoms.length->
  R8 (Xw m q.Atoms q.Zh.toNat) m (Xs λu=>decide (u<i) && VO q.Atoms m u) q.Atoms q.Atoms.length i=some (I (KT q.Atoms m),[]):=by
 have h4:=(W1 hv).2;refine down _ ?_ ?_
 .apply Wp.1.1.1.1;rw[Ao,ZAL];rfl
 .intro i hi ih;have hi4:i<4:=by omega
  have EF:=Z7 (i:=i) Z;simp only[Ys,Yt]at ih;apply Wp.1.1.1.1;rw[An];refine⟨Z,q.Atoms[i],by rw[Yh];exact Yd hi,Z,?_⟩;rw[show w ((i:Int)+1)=(i:Int)+1 from EF];have hn:VO q.Atoms m i=(!Zy m i && q.Atoms[i].Vars.any (λv=>has (Xw m q.Atoms q.Zh.toNat) v)):=by
   unfold VO;rw[decide_eq_true hi,ZMq hv hi];simp
  have hvars:=MH hv _ (Yf hi);have hvl:=SA m q.Atoms q.Zh.toNat;have hvn:=QE hv;rcases tf (Zy m i)with e1|e1
  .rw[Ya ((KU hm hi4).2 e1)];refine⟨_,Z0Y q.Atoms[i].Vars (Xw m q.Atoms q.Zh.toNat) Z Z,?_⟩;rcases tf (q.Atoms[i].Vars.any (λv=>has (Xw m q.Atoms q.Zh.toNat) v))with e2|e2
   .simp_all [ON,rT,Zqh]
   .have e3:0<(q.Atoms[i].Vars.filter (has (Xw m q.Atoms q.Zh.toNat))).length:=by
     simp_all
    rw[An,ZpS _ (by simp[Al];omega),ZAK hi4 (by rw[hn,e1,e2];rfl)];exact ih
  .grind [KU,Zqh]
def ZAM(q:Zc)(hq:AI q)(hv:Zx q.Zh q.Atoms=true)(m:Int)(hm:AU m):Zps q m=some (I (KT q.Atoms m),[]):=by
 have b:=ZMr q hq hv m hm 0 (Yc _);refine Wp.1.1.1.2 _ _ _ ⟨_,kW q m hq hv,?_⟩;simpa[Xs,X1]using b
def M2(q:Zc)(hq:AI q)(hv:Zx q.Zh q.Atoms=true)(m:Int)(hm:AU m):∀i,i<=q.Atoms.length->
  PO q m (Xs λu=>decide (u<i) && VO q.Atoms m u) (Xs (pV m q.Atoms)) i=some (I (KT q.Atoms m),[]):=by
 have h4:=(W1 hv).2;refine down _ ?_ ?_
 .apply XT.2.1.2.2;rw[Ao,ZAL];rfl
 .intro i hi ih;have hi4:i<4:=by omega
  have EF:=Z7 (i:=i) Z;simp only[Ys,Yt]at ih;apply XT.2.1.2.2;rw[An];refine⟨Z,?_⟩;rw[show w ((i:Int)+1)=(i:Int)+1 from EF];have hn:VO q.Atoms m i=(!Zy m i && shr q.Atoms (Ac 1 i) m):=by
   unfold VO;rw[decide_eq_true hi];simp
  rcases tf (Zy m i)with e1|e1
  .rw[Ya ((KU hm hi4).2 e1)];refine⟨_,MR q (Ac 1 i) hq (H2 hv),?_⟩;rcases tf (shr q.Atoms (Ac 1 i) m)with e2|e2
   .simp_all [Z0P,Zqh]
   .rw[Yb (λhc=>by rw[(Z0P q.Atoms (Ac 1 i) m).1 hc]at e2;cases e2),ZpS _ (by simp[Al];omega),ZAK hi4 (by rw[hn,e1,e2];rfl)];exact ih
  .grind [KU,Zqh]
def M3(q:Zc)(hq:AI q)(hv:Zx q.Zh q.Atoms=true)(m:Int)(hm:AU m):wT q m=some (I (KT q.Atoms m),[]):=by
 have b:=M2 q hq hv m hm 0 (Yc _);refine XT.2.2.1.1 _ _ _ ⟨_,MR q m hq (H2 hv),?_⟩;simpa[Xs,X1]using b
def Ks(qa:List Zg)(mask x:Int):Int:=At x (Ah (KT qa x) mask)
def Gl(qa:List Zg)(mask:Int):Nat->Int->Int
 |0,x=>x
 |n+1,x=>Gl qa mask n (Ks qa mask x)
def XY(qa:List Zg)(mask:Int):Bool:=decide (Gl qa mask qa.length (Ah mask (w (0-mask)))=mask)
abbrev Zqi(x mask:Int):Prop:=Ah x mask=x
def Z1f{qa:List Zg}{mask x:Int}(hm:AU mask)(hx:AU x)(hs:Zqi x mask):AU (Ks qa mask x)/\Zqi (Ks qa mask x) mask/\(Ks qa mask x=x\/Xa x+1<=Xa (Ks qa mask x)):=by
 obtain⟨a,rfl⟩:=m16 hx;obtain⟨b,rfl⟩:=m16 hm;obtain⟨c,hc⟩:=m16 (ZMn qa (a.1:Int));unfold Ks;rw[hc];obtain⟨d1,d2,_⟩:=Z1d c b;obtain⟨d,hd⟩:=m16 d1;rw[hd]at d2|-;obtain⟨e1,_,e3⟩:=Aa6 a d
 grind [lT]
def ZAN{qa:List Zg}{mask x:Int}(h:Ks qa mask x=x):∀n,Gl qa mask n x=x
 |0=>rfl
 |n+1=>by rw[Gl,h];exact ZAN h n
def ZMs(q:Zc)(hq:AI q)(hv:Zx q.Zh q.Atoms=true)(mask:Int)(hm:AU mask)(hp:Xa mask<=q.Atoms.length):∀(f:Nat) (x:Int),AU x->Zqi x mask->q.Atoms.length<=Xa x+f->
  iJ q mask x=some (Bo (decide (Gl q.Atoms mask f x=mask)),[]):=by
 intro f
 induction f with
 |zero =>
  intro x hx hs hf;have hxm:x=mask:=by
   grind [m16,Z1d]
  obtain⟨s1,s2,s3⟩:=Z1f (qa:=q.Atoms) hm hx hs;have hfix:Ks q.Atoms mask x=x:=by
   grind [m16,Z1d]
  refine Wp.1.1.2.1 _ _ _ _ ⟨_,ZAM q hq hv x hx,?_⟩
  rw[Ya (show At x (Ah (KT q.Atoms x) mask)=x from hfix)];rfl
 |succ f ih =>
  intro x hx hs hf;obtain⟨s1,s2,s3⟩:=Z1f (qa:=q.Atoms) hm hx hs;refine Wp.1.1.2.1 _ _ _ _ ⟨_,ZAM q hq hv x hx,?_⟩;by_cases h:Ks q.Atoms mask x=x
  .rw[Ya (show At x (Ah (KT q.Atoms x) mask)=x from h),ZAN h]
  .rw[Yb (show ¬At x (Ah (KT q.Atoms x) mask)=x from h)];exact ih (Ks q.Atoms mask x) s1 s2 (by rcases s3 with h'|h';exact absurd h' h;omega)
def ZMt(q:Zc)(hq:AI q)(hv:Zx q.Zh q.Atoms=true)(mask:Int)(hm:AU mask):∀i,i<=q.Atoms.length->∀x,AU x->Zqi x mask->
  cN q mask x i=some (Bo (decide (Gl q.Atoms mask (q.Atoms.length-i) x=mask)),[]):=by
 have h4:=(W1 hv).2;refine down _ ?_ ?_
 .intro x _ _;apply XT.2.2.1.2;rw[Ao,Dt];rfl
 .intro i hi ih x hx hs;obtain⟨s1,s2,s3⟩:=Z1f (qa:=q.Atoms) hm hx hs;have EF:=Z7 (i:=i) Z;apply XT.2.2.1.2;rw[An];refine⟨_,M3 q hq hv x hx,?_⟩;have ih:=ih _ s1 s2;simp only[Ys,Yt]at ih;rw[show w ((i:Int)+1)=(i:Int)+1 from EF,show q.Atoms.length-i=(q.Atoms.length-(i+1))+1 by omega,Gl];exact ih
abbrev MQ(qa:List Zg)(m:Int):Prop:=0<=m/\m<2 ^ qa.length
def MQ.m16{n:Int}{qa:List Zg}{m:Int}(hv:Zx n qa=true)(h:MQ qa m):AU m/\Xa m<=qa.length:=by
 have hl:=W1 hv;obtain⟨h1,h2⟩:=h;have e:qa.length=1\/qa.length=2\/qa.length=3\/qa.length=4:=by omega
 have k16:AU m:=by rcases e with e|e|e|e<;>rw[e]at h2<;>exact⟨h1,Z⟩
 refine⟨k16,?_⟩;obtain⟨a,rfl⟩:=Go.Proofs.YteaiinkcanpleaaGreat.m16 k16
 grind [Z1e]
theorem Zqj(q:Zc)(hq:AI q)(hv:Zx q.Zh q.Atoms=true)(m:Int)(hm:MQ q.Atoms m)(h0:m≠0):F3 q m=some (Bo (XY q.Atoms m),[]):=by
 obtain⟨k1,k2⟩:=hm.m16 hv;apply Wp.1.1.2.2;rw[Yb h0];obtain⟨a,rfl⟩:=m16 k1;obtain⟨l1,l2⟩:=ZAI a;exact ZMs q hq hv _ k1 k2 q.Atoms.length _ l1 l2 Z
theorem Zqk(q:Zc)(hq:AI q)(hv:Zx q.Zh q.Atoms=true)(m:Int)(hm:MQ q.Atoms m):FP q m=some (Bo (XY q.Atoms m),[]):=by
 obtain⟨k1,k2⟩:=hm.m16 hv;apply XT.2.2.2.1;obtain⟨a,rfl⟩:=m16 k1;obtain⟨l1,l2⟩:=ZAI a;exact ZMt q hq hv _ k1 0 (Yc _) _ l1 l2
def Qs{n:Int}{qa:List Zg}(hv:Zx n qa=true):Z3 n qa=2 ^ qa.length-1:=by
 unfold Z3;rw[Ya hv,(KR hv).2.1]
def ZAO(q:Zc)(hq:AI q)(m:Int):L7 q m=some (Bo (Zx q.Zh q.Atoms && Al m 0 (Z3 q.Zh q.Atoms)),[]):=by
 refine HU.2.2.2 _ _ _ ⟨_,kT q hq,?_⟩;rcases tf (Zx q.Zh q.Atoms)with e|e
 .rw[e];simp
 .rw[e,Ya rfl];refine⟨Z,_,Qp _ _ _,?_⟩;rw[show w (Ac 1 (q.Atoms.length:Int)-1)=Ac 1 (q.Atoms.length:Int)-1 from(KR e).2.2.1];unfold Z3;rw[Ya e];simp
def ZAP(q:Zc)(hq:AI q)(m:Int):PM q m=some (Bo (Zx q.Zh q.Atoms && Al m 0 (Z3 q.Zh q.Atoms)),[]):=by
 refine XT.1.2.2.2.2 _ _ _ ⟨_,kV q hq,?_⟩;rcases tf (Zx q.Zh q.Atoms)with e|e
 .rw[e];simp
 .rw[e,Ya rfl];refine⟨Z,_,ZM _ _ _,?_⟩;rw[show w (Ac 1 (q.Atoms.length:Int)-1)=Ac 1 (q.Atoms.length:Int)-1 from(KR e).2.2.1];unfold Z3;rw[Ya e];simp
theorem lV{n:Int}{qa:List Zg}(hv:Zx n qa=true){m:Int}(h:Al m 0 (Z3 n qa)=true):MQ qa m:=by
 rw[Qs hv]at h;simp[Al]at h;exact⟨h.1,Z⟩
def XM(n:Int)(qa:List Zg)(m:Int):Bool:=Zx n qa && Al m 0 (Z3 n qa) && decide (m≠0) && XY qa m
def ZAQ(q:Zc)(hq:AI q)(m:Int):L8 q m=some (Bo (XM q.Zh q.Atoms m),[]):=by
 refine Wp.1.2.1.1 _ _ _ ⟨_,ZAO q hq m,?_⟩;unfold XM;rcases tf (Zx q.Zh q.Atoms)with e|e
 .rw[e];simp
 rcases tf (Al m 0 (Z3 q.Zh q.Atoms))with e1|e1
 .rw[e,e1];simp
 grind [lV,Wp.1.1.2.2,Zqj]
def Gm(q:Zc)(hq:AI q)(m:Int):UN q m=some (Bo (XM q.Zh q.Atoms m),[]):=by
 refine XT.2.2.2.2.1 _ _ _ ⟨_,ZAP q hq m,?_⟩;unfold XM;rcases tf (Zx q.Zh q.Atoms)with e|e
 .rw[e];simp
 rcases tf (Al m 0 (Z3 q.Zh q.Atoms))with e1|e1
 .rw[e,e1];simp
 rw[e,e1,Ya (by rfl)];have hm:=lV e e1;by_cases h0:m=0
 .simp_all
 .grind [Zqk]
def Kt(qa:List Zg)(k n:Nat):WL:=((List.range' k n).filter (λm:Nat=>XY qa (m:Int))).map (λm:Nat=>(m:Int))
def ZAR{qa:List Zg}{k n:Nat}:Kt qa k (n+1)=(if XY qa (k:Int)=true then[(k:Int)]else[])++Kt qa (k+1) n:=by
 unfold Kt
 grind [List.range'_succ]
def ZMu{qa:List Zg}{k n:Nat}:(Kt qa k n).length<=n:=by
 unfold Kt;rw[DL];exact Y6 (GN _ _) Om
def QJ(k:Nat):((2 ^ k:Nat):Int)=2 ^ k:=by simp
def ZMv(q:Zc)(hq:AI q)(hv:Zx q.Zh q.Atoms=true):∀k:Nat,k<=2 ^ q.Atoms.length->1<=k->∀out:WL,out.length<=k->
  Sg q out k=some (.own 0,[.arr Z9 1 true ((out++Kt q.Atoms k (2 ^ q.Atoms.length-k)).map ic)]):=by
 have hf:=Qs hv;have hp:=QJ q.Atoms.length;have h16:2 ^ q.Atoms.length<=16:=Nat.pow_le_pow_right (Z:0<2) (W1 hv).2;refine down _ ?_ ?_
 .intro _ out _;refine Wf.2.1.2.2 _ _ _ _ ⟨_,H4 q hq,?_⟩;rw[Yb (by rw[hf];omega),Dt];simp[Kt]
 .intro k hk ih h1 out ho;have CB:w ((k:Int)+1)=(k:Int)+1:=ZE Z Z;refine Wf.2.1.2.2 _ _ _ _ ⟨_,H4 q hq,?_⟩;rw[Ya (by rw[hf];omega)];refine⟨_,Zqj q hq hv k ⟨Z,Z⟩ Z,?_⟩;rw[show 2 ^ q.Atoms.length-k=(2 ^ q.Atoms.length-(k+1))+1 by omega,ZAR,CB]
  grind
def Z2(qa:List Zg):WL:=Kt qa 1 (2 ^ qa.length-1)
def ZMw(q:Zc)(hq:AI q)(hv:Zx q.Zh q.Atoms=true):iP q=some (.own 0,[.arr Z9 1 true ((Z2 q.Atoms).map ic)]):=by
 have hpos:1<=2 ^ q.Atoms.length:=Nat.one_le_two_pow;have b:=ZMv q hq hv 1 hpos (Yj _) [] Om;exact Wf.2.2.1.1 _ _ (by simpa[Z2]using b)
def ZMx(q:Zc)(hq:AI q)(hv:Zx q.Zh q.Atoms=true):∀k:Nat,k<=2 ^ q.Atoms.length->1<=k->∀out:WL,out.length<=k->
  RG q out (Z3 q.Zh q.Atoms) k=some (.own 0,[.arr Z9 1 true ((out++Kt q.Atoms k (2 ^ q.Atoms.length-k)).map ic)]):=by
 have hf:=Qs hv;have hp:=QJ q.Atoms.length;have h16:2 ^ q.Atoms.length<=16:=Nat.pow_le_pow_right (Z:0<2) (W1 hv).2;refine down _ ?_ ?_
 .intro _ out _;apply XV.2.2.2.2.1;rw[Yb (by rw[hf];omega),Dt];simp[Kt]
 .intro k hk ih h1 out ho;have CB:w ((k:Int)+1)=(k:Int)+1:=ZE Z Z;apply XV.2.2.2.2.1;rw[Ya (by rw[hf];omega)];refine⟨_,Zqk q hq hv k ⟨Z,Z⟩,?_⟩;rw[show 2 ^ q.Atoms.length-k=(2 ^ q.Atoms.length-(k+1))+1 by omega,ZAR,CB];rcases tf (XY q.Atoms k)with e|e
  .have ih:=ih Z out Z;rw[e,Yb Om];simpa using ih
  .have ih:=ih Z (out++[(k:Int)]) (by simp;omega);rw[e,Ya rfl];refine⟨Z,?_⟩;simpa using ih
def ZMy(q:Zc)(hq:AI q)(hv:Zx q.Zh q.Atoms=true):fI q=some (.own 0,[.arr Z9 1 true ((Z2 q.Atoms).map ic)]):=by
 have hpos:1<=2 ^ q.Atoms.length:=Nat.one_le_two_pow;have b:=ZMx q hq hv 1 hpos (Yj _) [] Om;exact XV.2.2.2.2.2 _ _ ⟨_,VN q hq,by simpa[Z2]using b⟩
set_option maxRecDepth 100000 in
theorem ZAS:∀a m:Fin 16,Ah (a.1:Int) m.1=a.1->Z4 (m.1:Int) a.1=(m.1:Int)-a.1/\(a.1:Int)<=m.1/\Ah (a.1:Int) ((m.1:Int)-a.1)=0/\At (a.1:Int) ((m.1:Int)-a.1)=m.1:=by decide
def Vz(qa:List Zg)(mask x:Int):Bool:=decide (Ah x mask=x) && (XY qa x && XY qa (mask-x))
def QK(qa:List Zg)(mask:Int)(k n:Nat):WL:=((List.range' k n).filter (λm:Nat=>Vz qa mask (m:Int))).map (λm:Nat=>(m:Int))
def ZAT{qa:List Zg}{mask:Int}{k n:Nat}:QK qa mask k (n+1)=(if Vz qa mask (k:Int)=true then[(k:Int)]else[])++QK qa mask (k+1) n:=by
 unfold QK
 grind [List.range'_succ]
def ZL(qa:List Zg)(mask:Int):WL:=QK qa mask 1 (mask.toNat-1)
def ZMz(q:Zc)(hq:AI q)(hv:Zx q.Zh q.Atoms=true)(mask:Nat)(hm:MQ q.Atoms mask):∀k:Nat,k<=mask->1<=k->∀out:WL,out.length<=k->
  Mg q out mask k=some (.own 0,[.arr Z9 1 true ((out++QK q.Atoms mask k (mask-k)).map ic)]):=by
 have Aa7:=(hm.m16 hv).1;refine down _ ?_ ?_
 .intro _ out _;apply Z0G.1;rw[Ao,Dt];simp[QK]
 .intro k hk ih h1 out ho;have CB:w ((k:Int)+1)=(k:Int)+1:=ZE Z Z;apply Z0G.1;rw[An,show mask-k=(mask-(k+1))+1 by omega,ZAT,CB];have skip:Vz q.Atoms mask k=false->Mg q out mask ((k:Int)+1)=some (.own 0,[.arr Z9 1 true ((out++((if Vz q.Atoms mask (k:Int)=true then[(k:Int)]else[])++QK q.Atoms mask (k+1) (mask-(k+1)))).map ic)]):=by
   intro e;have ih:=ih Z out Z;rw[e];simpa using ih
  by_cases e1:Ah (k:Int) mask=k
  .obtain⟨d1,d2,_⟩:=ZAS ⟨k,Z⟩ ⟨mask,Z⟩ e1;simp only at d1 d2;rw[Ya e1];refine⟨_,Zqj q hq hv k ⟨Z,by have:=hm.2;omega⟩ Z,?_⟩;rcases tf (XY q.Atoms k)with e2|e2
   .rw[e2,Yb Om];exact skip (by simp[Vz,e2])
   .rw[e2,Ya rfl,d1];refine⟨_,Zqj q hq hv ((mask:Int)-k) ⟨Z,by have:=hm.2;omega⟩ Z,?_⟩;rcases tf (XY q.Atoms ((mask:Int)-k))with e3|e3
    .rw[e3,Yb Om];exact skip (by simp[Vz,e3])
    .rw[e3,Ya rfl];have es:Vz q.Atoms mask k=true:=by simp[Vz,e1,e2,e3]
     rw[es,Ya rfl];have ih:=ih Z (out++[(k:Int)]) (by simp;omega);exact⟨Z,by simpa using ih⟩
  .rw[Yb e1];exact skip (by simp[Vz,e1])
def Z1g(q:Zc)(hq:AI q)(m:Int)(hc:XM q.Zh q.Atoms m=true):iZ q m=some (.own 0,[.arr Z9 1 true ((ZL q.Atoms m).map ic)]):=by
 have hc':=hc;simp only[XM,Yg,decide_eq_true_eq]at hc';obtain⟨⟨⟨hv,hr⟩,h0⟩,_⟩:=hc';have hm:=lV hv hr;obtain⟨k,rfl⟩:∃k:Nat,m=k:=⟨m.toNat,by have:=hm.1;omega⟩;refine Z0G.2 _ _ _ ⟨_,ZAQ q hq k,?_⟩;rw[hc,Ya rfl];have b:=ZMz q hq hv k hm 1 Z (Yj _) [] Om;simpa[ZL]using b
def ZM0(q:Zc)(hq:AI q)(hv:Zx q.Zh q.Atoms=true)(mask:Nat)(hm:MQ q.Atoms mask):∀k:Nat,k<=mask->1<=k->∀out:WL,out.length<=k->
  LP q out mask k=some (.own 0,[.arr Z9 1 true ((out++QK q.Atoms mask k (mask-k)).map ic)]):=by
 have Aa7:=(hm.m16 hv).1;refine down _ ?_ ?_
 .intro _ out _;apply WY.1.1.1;rw[Ao,Dt];simp[QK]
 .intro k hk ih h1 out ho;have CB:w ((k:Int)+1)=(k:Int)+1:=ZE Z Z;have wd:w ((mask:Int)-k)=(mask:Int)-k:=ZE Z Z;apply WY.1.1.1;rw[An,show mask-k=(mask-(k+1))+1 by omega,ZAT,CB,wd];have skip:Vz q.Atoms mask k=false->LP q out mask ((k:Int)+1)=some (.own 0,[.arr Z9 1 true ((out++((if Vz q.Atoms mask (k:Int)=true then[(k:Int)]else[])++QK q.Atoms mask (k+1) (mask-(k+1)))).map ic)]):=by
   grind
  by_cases e1:Ah (k:Int) mask=k
  .rw[Ya e1];refine⟨_,Zqk q hq hv k ⟨Z,by have:=hm.2;omega⟩,?_⟩;rcases tf (XY q.Atoms k)with e2|e2
   .rw[e2,Yb Om];exact skip (by simp[Vz,e2])
   .rw[e2,Ya rfl];refine⟨_,Zqk q hq hv ((mask:Int)-k) ⟨Z,by have:=hm.2;omega⟩,?_⟩;rcases tf (XY q.Atoms ((mask:Int)-k))with e3|e3
    .rw[e3,Yb Om];exact skip (by simp[Vz,e3])
    .rw[e3,Ya rfl];have es:Vz q.Atoms mask k=true:=by simp[Vz,e1,e2,e3]
     grind
  .rw[Yb e1];exact skip (by simp[Vz,e1])
def ZM1(q:Zc)(hq:AI q)(m:Int)(hc:XM q.Zh q.Atoms m=true):zD q m=some (.own 0,[.arr Z9 1 true ((ZL q.Atoms m).map ic)]):=by
 have hc':=hc;simp only[XM,Yg,decide_eq_true_eq]at hc';obtain⟨⟨⟨hv,hr⟩,h0⟩,_⟩:=hc';have hm:=lV hv hr;obtain⟨k,rfl⟩:∃k:Nat,m=k:=⟨m.toNat,by have:=hm.1;omega⟩;refine WY.1.1.2.1 _ _ _ ⟨_,Gm q hq k,?_⟩;rw[hc,Ya rfl];have b:=ZM0 q hq hv k hm 1 Z (Yj _) [] Om;simpa[ZL]using b
def Gn(m:Int)(k n:Nat):WL:=((List.range' k n).filter (λi:Nat=>Zy m i)).map (λi:Nat=>(i:Int))
def Z1h{m:Int}{k n:Nat}:Gn m k (n+1)=(if Zy m k=true then[(k:Int)]else[])++Gn m (k+1) n:=by
 unfold Gn
 grind [List.range'_succ]
def VP(m:Int):WL:=Gn m 0 4
def ZM2(m:Int):∀k:Nat,k<=4->∀out:WL,out.length<=k->Si out m k=some (.own 0,[.arr Z9 1 true ((out++Gn m k (4-k)).map ic)]):=by
 refine down _ ?_ ?_
 .intro out _;apply Wf.2.2.1.2;rw[Ao];simp[Gn]
 .intro k hk ih out ho;have CB:w ((k:Int)+1)=(k:Int)+1:=ZE Z Z;apply Wf.2.2.1.2;rw[An,show 4-k=(4-(k+1))+1 by omega,Z1h,CB];refine⟨Z,?_⟩;by_cases e:Ah (Au m k) 1=1
  .have ih:=ih (out++[(k:Int)]) (by simp;omega);rw[Ya e,Ya (by simp[Zy,e])];exact⟨Z,by simpa using ih⟩
  .have ih:=ih out Z;rw[Yb e,Yb (by simp[Zy,e])];simpa using ih
def ZM3{m:Int}(hm:AU m):Sh m=some (.own 0,[.arr Z9 1 true ((VP m).map ic)]):=by
 have b:=ZM2 m 0 Z [] Om;refine Wf.2.2.2.1 _ _ ⟨_,Qp _ _ _,?_⟩;rw[Ya (by simp[Al];omega)];simpa[VP]using b
def ZM4(m:Int)(hm:AU m):∀k:Nat,k<=4->∀out:WL,out.length<=k->P7 out m k=some (.own 0,[.arr Z9 1 true ((out++Gn m k (4-k)).map ic)]):=by
 refine down _ ?_ ?_
 .intro out _;apply Wo.1.2.1.1;rw[Ao];simp[Gn]
 .intro k hk ih out ho;have CB:w ((k:Int)+1)=(k:Int)+1:=ZE Z Z;apply Wo.1.2.1.1;rw[An,show 4-k=(4-(k+1))+1 by omega,Z1h,CB];refine⟨_,ZM _ _ _,?_⟩;rw[Ya (by simp[Al];omega)];refine⟨Z,?_⟩;by_cases e:Ah (Au m k) 1=1
  .have ih:=ih (out++[(k:Int)]) (by simp;omega);rw[Ya e,Ya (by simp[Zy,e])]
   grind
  .have ih:=ih out Z;rw[Yb e,Yb (by simp[Zy,e])];simpa using ih
def ZAU{m:Int}(hm:AU m):Hm m=some (.own 0,[.arr Z9 1 true ((VP m).map ic)]):=by
 have b:=ZM4 m hm 0 Z [] Om;exact Wo.1.2.1.2 _ _ (by simpa[VP]using b)
