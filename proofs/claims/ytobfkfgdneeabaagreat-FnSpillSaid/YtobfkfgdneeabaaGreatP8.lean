/-
  Parts of the proofs for this seat: PW EX H.
-/
import Derived.Test.YtobfkfgdneeabaaGreatRows
import Derived.Test.YtobfkfgdneeabaaGreatP7
set_option linter.all false
set_option maxRecDepth 100000
set_option maxHeartbeats 4000000
namespace Go.Proofs.YtobfkfgdneeabaaGreat
open Go.AM
noncomputable section
def Am(a b c:Int):Bool:=decide (b<=a/\a<=c)
def ZT(c:Int):Int:=if c<0 then -1 else if c=0 then 0 else if c=1 then 1 else if c=2 then 4 else if c=3 then 16 else if c=4 then 64 else if c=5 then 256 else if c=6 then 1024 else if c=7 then 4096 else -1
def gF{c:Int}(h:Am c 0 7=true):c=0\/c=1\/c=2\/c=3\/c=4\/c=5\/c=6\/c=7:=by
 simp[Am]at h;omega
def Z5O{c:Int}(h:Am c 0 7=false):ZT c=-1:=by
 simp[Am]at h;unfold ZT;omega
def X4(n:Int):Int:=if n<0 then -1 else if n<=0 then 0 else if n<=1 then 1 else if n<=4 then 2 else if n<=16 then 3 else if n<=64 then 4 else if n<=256 then 5 else if n<=1024 then 6 else if n<=4096 then 7 else -1
def Se(n:Int):Int:=ZT (X4 n)
def ZsI{α:Type}(p:α->Bool){xs:List α}{i:Nat}(h:i<xs.length):(xs.drop i).all p=(p xs[i] && (xs.drop (i+1)).all p):=by
 rw[Yg h,Y6]
def Z5P{α:Type}(p:α->Bool){xs:List α}{i:Nat}(h:i<xs.length):(xs.drop i).any p=(p xs[i] || (xs.drop (i+1)).any p):=by
 rw[Yg h,HB]
def Gm(xs:V2):Bool:=xs.all (λx=>Am x 0 7)
def Ke(xs:V2):Bool:=Gm xs && decide ((xs.length:Int)<=16)
def Z5Q{xs:V2}{i:Nat}(h:i<xs.length):Gm (xs.drop i)=(Am xs[i] 0 7 && Gm (xs.drop (i+1))):=ZsI _ h
def Q7:V2->V2->Bool
 |x::xs,y::ys=>decide (y<=x) && Q7 xs ys
 |_,_=>true
def dom(xs ys:V2):Bool:=decide (xs.length=ys.length) && Q7 xs ys
def Z5R{xs ys:V2}{i:Nat}(h:i<xs.length)(h':i<ys.length):Q7 (xs.drop i) (ys.drop i)=(decide (ys[i]<=xs[i]) && Q7 (xs.drop (i+1)) (ys.drop (i+1))):=by
 rw[Yg h,Yg h',Q7]
def WR(lo hi:V2):Bool:=decide (0<lo.length) && Ke lo && Ke hi && dom hi lo
def Gn(lo hi l:V2):Bool:=WR lo hi && dom l lo && dom hi l
def Xs(a b c d:Bool):Int:=(if a then 1 else 0)+(if b then 2 else 0)+(if c then 4 else 0)+(if d then 8 else 0)
def Xi(p:Nat->Bool):Int:=Xs (p 0) (p 1) (p 2) (p 3)
def in4{v:Int}(h:Am v 0 3=true):v=0\/v=1\/v=2\/v=3:=by simp[Am]at h;omega
def has(xs:V2)(v:Int):Bool:=xs.any (λx=>decide (v=x))
theorem Xj{xs:V2}{v:Int}:has xs v=true↔v∈xs:=by
 simp only[has,List.any_eq_true,decide_eq_true_eq];simp
def WE(p:Nat->Bool)(vs:V2):Nat->Bool:=λu=>p u || has vs u
def ZsJ(p:Nat->Bool):WE p []=p:=by funext u;simp[WE,has]
def ZIg(p:Nat->Bool)(v:Int)(vs:V2):WE (WE p [v]) vs=WE p (v::vs):=by funext u;simp[WE,has,Bool.or_assoc]
def ZsK(p:Nat->Bool){vs:V2}{i:Nat}(h:i<vs.length):WE p (vs.drop i)=WE (WE p [vs[i]]) (vs.drop (i+1)):=by
 rw[Yg h,ZIg]
def Aay:∀a b c d:Bool,Az (Xs a b c d) 1=Xs true b c d/\Az (Xs a b c d) 2=Xs a true c d/\Az (Xs a b c d) 4=Xs a b true d/\Az (Xs a b c d) 8=Xs a b c true:=by decide
def ZsL(p:Nat->Bool){v:Int}(h:Am v 0 3=true):Az (Xi p) (Ac 1 v)=Xi (WE p [v]):=by
 have q:=Aay (p 0) (p 1) (p 2) (p 3);rcases in4 h with rfl|rfl|rfl|rfl<;>simp[WE,has,Xi,Ac,ZF,q]
def gG:∀a b c d:Bool,(Ai (As (Xs a b c d) 0) 1=1↔a=true)/\(Ai (As (Xs a b c d) 1) 1=1↔b=true)/\(Ai (As (Xs a b c d) 2) 1=1↔c=true)/\(Ai (As (Xs a b c d) 3) 1=1↔d=true):=by decide
def Zn1(p:Nat->Bool){v:Int}(h:Am v 0 3=true):Ai (As (Xi p) v) 1=1↔p v.toNat=true:=by
 have q:=gG (p 0) (p 1) (p 2) (p 3);rcases in4 h with rfl|rfl|rfl|rfl<;>simp[Xi,q]
def Aaz:∀a b c d a' b' c' d':Bool,Ai (Xs a b c d) (Xs a' b' c' d')=Xs (a && a') (b && b') (c && c') (d && d'):=by decide
def Z5S(p q:Nat->Bool):Ai (Xi p) (Xi q)=Xi (λu=>p u && q u):=Aaz _ _ _ _ _ _ _ _
def gH:∀a b c d:Bool,Xs a b c d=0↔(a=false/\b=false/\c=false/\d=false):=by decide
def ZIh(p:Nat->Bool):Xi p=0↔∀u,u<4->p u=false:=by
 rw[Xi,gH]
 grind
def XD{α:Type}(p:α->Bool):List α->Nat->Int
 |[],_=>-1
 |x::xs,i=>if p x=true then i else XD p xs (i+1)
def Sf{α:Type}(p:α->Bool){xs:List α}{i:Nat}(h:i<xs.length):XD p (xs.drop i) i=if p xs[i]=true then(i:Int)else XD p (xs.drop (i+1)) (i+1):=by
 rw[Yg h,XD]
def ZsM{α:Type}(p:α->Bool)(xs:List α):∀i,xs.any p=false->XD p xs i=-1:=by
 induction xs with
 |nil=>intro i _;rfl
 |cons x xs ih=>intro i h;simp at h;simp[XD,h];apply ih;simp;exact h.2
def Z5T{α:Type}(p:α->Bool)(xs:List α):∀i,xs.any p=true->0<=XD p xs i:=by
 induction xs with
 |nil=>intro i h;simp at h
 |cons x xs ih =>
  intro i h;unfold XD
  grind
def UA(s:KI):Bool:=match s[0]? with
 |some b=>decide (s.size=1) && decide (97<=(b.toNat:Int)) && decide ((b.toNat:Int)<=122)
 |none=>false
def AaA{s:KI}(h:s.size=1):∃b,s[0]?=some b:=⟨s[0],getElem?_pos s 0 E⟩
def UB(n:Int)(c:V2):V2->Bool
 |[]=>true
 |v::rest=>Am v 0 (n-1) && !has c v && UB n (c++[v]) rest
def Z5U(n:Int){vs:V2}{k:Nat}(h:k<vs.length):UB n (vs.take k) (vs.drop k)=(Am vs[k] 0 (n-1) && !has (vs.take k) vs[k] && UB n (vs.take (k+1)) (vs.drop (k+1))):=by
 conv=>lhs;rw[Yg h,UB]
 simp
theorem Zn2{n:Int}:∀{vs c:V2},UB n c vs=true->∀v∈vs,Am v 0 (n-1)=true
 |[],_,_,v,hv=>by cases hv
 |x::xs,c,h,v,hv=>by
  simp only[UB,Yf]at h
  cases hv with
  |head=>exact h.1.1
  |tail _ hv=>exact Zn2 h.2 v hv
def WF(n:Int)(a:Zd):Bool:=UA a.Name && Am a.Vars.length 1 3 && UB n [] a.Vars
def Ul(p:Nat->Bool)(qa:List Zd):Nat->Bool:=λu=>p u || qa.any λa=>has a.Vars u
def Z5V(p:Nat->Bool){qa:List Zd}{i:Nat}(h:i<qa.length):Ul p (qa.drop i)=Ul (WE p qa[i].Vars) (qa.drop (i+1)):=by
 rw[Yg h];funext u;simp only[Ul,HB,WE,Bool.or_assoc]
def Zx(n:Int)(qa:List Zd):Bool :=
 Am n 1 4 && Am qa.length 1 4 && qa.all (WF n) && (List.range n.toNat).all (Ul (λ_=>false) qa)
def bl(p:Nat->Bool)(n:Nat):WA:=(List.range n).map λu=>[T.bool (p u)]
@[simp] def AaB(p:Nat->Bool)(n i:Nat)(h:i<(bl p n).length):(bl p n)[i]=[T.bool (p i)]:=by simp[bl]
def Mi(p:Nat->Bool)(n:Nat):((List.range n).map p).any (λx=>false == x)=!(List.range n).all p:=by
 grind
def Zn3:∀a b c d:Bool,(Xs a b c d=1↔(a=true/\b=false/\c=false/\d=false))/\(Xs a b c d=3↔(a=true/\b=true/\c=false/\d=false))/\(Xs a b c d=7↔(a=true/\b=true/\c=true/\d=false))/\(Xs a b c d=15↔(a=true/\b=true/\c=true/\d=true)):=by decide
def all_in{n:Int}{qa:List Zd}(h:qa.all (WF n)=true):∀u:Int,n<=u->qa.any (λa=>has a.Vars u)=false:=by
 intro u hu;rw[Ydt];intro a ha hc;rw[Xj]at hc;have:=Ym.1 h a ha;simp only[WF,Yf]at this;have:=Zn2 this.2 _ hc;simp[Am]at this;omega
def ZU(n:Int)(qa:List Zd):Int:=if Zx n qa=true then Ac 1 qa.length-1 else 0
theorem Jv{n:Int}{qa:List Zd}(h:Zx n qa=true):(qa.length=1\/qa.length=2\/qa.length=3\/qa.length=4)/\Ac 1 qa.length=2 ^ qa.length/\IntKind.wrap .i64 (Ac 1 qa.length-1)=Ac 1 qa.length-1/\IntKind.wrap .i64 (Ac 1 qa.length-1+1)=Ac 1 qa.length-1+1:=by
 simp only[Zx,Yf]at h;have h2:=h.1.1.2;simp[Am]at h2;have h3:qa.length=1\/qa.length=2\/qa.length=3\/qa.length=4:=by omega
 refine⟨h3,?_⟩;rcases h3 with h3|h3|h3|h3<;>rw[h3]<;>decide
def VU(n:Int)(qa:List Zd)(lo hi:V2):Bool:=WR lo hi && decide ((lo.length:Int)=ZU n qa+1)
def Zw(m:Int)(i:Nat):Bool:=decide (Ai (As m i) 1=1)
def Xu(m:Int):List Zd->Nat->Int->Bool
 |[],_,_=>false
 |a::as',i,u=>(Zw m i && has a.Vars u) || Xu m as' (i+1) u
theorem ZsN(m:Int){qa:List Zd}{i:Nat}(h:i<qa.length)(u:Int):Xu m (qa.drop i) i u=((Zw m i && has qa[i].Vars u) || Xu m (qa.drop (i+1)) (i+1) u):=by
 rw[Yg h,Xu]
def pV(m:Int)(qa:List Zd):Nat->Bool:=λu=>Xu m qa 0 u
def Zn4(qa:List Zd):Prop:=∀a∈qa,∀v∈a.Vars,Am v 0 3=true
def gI{n:Int}{qa:List Zd}(h:Zx n qa=true):∀a∈qa,∀v∈a.Vars,Am v 0 (n-1)=true:=by
 intro a ha v hv;simp only[Zx,Yf]at h;have:=Ym.1 h.1.2 a ha;simp only[WF,Yf]at this
 grind [Zn2]
def Kf{n:Int}{qa:List Zd}(h:Zx n qa=true):1<=n/\n<=4:=by
 simp only[Zx,Yf]at h;have:=h.1.1.1;simpa[Am]using this
theorem XF{n:Int}{qa:List Zd}(h:Zx n qa=true):1<=qa.length/\qa.length<=4:=by
 simp only[Zx,Yf]at h;have:=h.1.1.2;simp[Am]at this;omega
def Sg{n:Int}{qa:List Zd}(h:Zx n qa=true):∀a∈qa,1<=a.Vars.length/\a.Vars.length<=3:=by
 intro a ha;simp only[Zx,Yf]at h;have:=Ym.1 h.1.2 a ha;simp only[WF,Yf]at this;have:=this.1.2;simp[Am]at this;omega
def Gp{n:Int}{qa:List Zd}(h:Zx n qa=true):Zn4 qa:=by
 intro a ha v hv;have:=gI h a ha v hv;have h2:=Kf h;simp[Am]at this|-;omega
def Gq(m:Int)(p:Nat->Bool)(qa:List Zd)(i:Nat):Nat->Bool:=λu=>p u || Xu m (qa.drop i) i u
def ZIi(m:Int)(p:Nat->Bool){qa:List Zd}{i:Nat}(h:i<qa.length):Gq m p qa i=Gq m (if Zw m i=true then WE p qa[i].Vars else p) qa (i+1):=by
 funext u;rw[Gq,ZsN _ h];rcases tf (Zw m i)with e|e<;>simp[Gq,WE,e,Bool.or_assoc]
def ZX(m:Int)(qa:List Zd)(k:Nat):V2:=((List.range k).filter (pV m qa)).map λu:Nat=>(u:Int)
def ZIj(m:Int)(qa:List Zd)(k:Nat):ZX m qa (k+1)=ZX m qa k++if Xu m qa 0 k=true then[(k:Int)]else[]:=by
 unfold ZX;rw[Di,xA,Y5];rcases tf (Xu m qa 0 k)with e|e<;>simp[pV,e]
def Mj(m:Int)(qa:List Zd)(k:Nat):(ZX m qa k).length<=k:=by
 unfold ZX
 grind
def Z5W{α:Type}(p:α->Bool){xs:List α}{i:Nat}(h:i<xs.length):(xs.take (i+1)).filter p=(xs.take i).filter p++if p xs[i]=true then[xs[i]]else[]:=by
 grind [List.take_add_one,List.getElem?_eq_getElem]
def Bz(qa:List Zd)(m v:Int):Bool:=Am v 0 3 && pV m qa v.toNat
def shr(qa:List Zd)(a b:Int):Bool:=(List.range 4).any λu=>pV a qa u && pV b qa u
def XY(st:V2)(info:List Zf)(k:Nat):Option (Int×Zf):=if k<=st.length then(match st[st.length-k]? with
 |some s=>(info[s.toNat]?).map (s,·)
 |none=>none)else none
def Vw(qa:List Zd)(x:Zn)(y z:Zf):Option Int :=
 if x.Kind=3/\x.Order=0 then some (-1)
 else if x.Kind=5/\x.Order=0 then some y.Order
 else if x.Kind=4/\Bz qa y.Mask x.Order=true/\Bz qa z.Mask x.Order=true/\y.Order=x.Order/\z.Order=x.Order then some x.Order
 else none
def Wm(qa:List Zd)(x:Zn)(info:List Zf)(st:V2):Option Zf :=
 if x.Kind=1 then(if Am x.Zd 0 (qa.length-1)=true/\x.Order=0 then some ⟨Ac 1 x.Zd,(match qa[x.Zd.toNat]? with|some a=>a.Vars.headD 0|none=>0),-1,-1⟩else none)
 else if x.Zd≠0 then none
 else if x.Kind=2 then(match XY st info 1 with
  |some (s,y)=>if Bz qa y.Mask x.Order=true/\y.Order≠x.Order then some ⟨y.Mask,x.Order,s,-1⟩else none
  |none=>none)
 else match XY st info 2,XY st info 1 with
  |some (s,y),some (t,z)=>if Ai y.Mask z.Mask=0/\shr qa y.Mask z.Mask=true then(Vw qa x y z).map (⟨Az y.Mask z.Mask,·,s,t⟩)else none
  |_,_=>none
def Vc(info:List Zf)(st:V2):Prop:=∀s∈st,0<=s/\s.toNat<info.length
theorem Mk{info:List Zf}{st:V2}(h:Vc info st){k:Nat}(h1:1<=k)(h2:k<=st.length) :
  ∃s y,XY st info k=some (s,y)/\st[st.length-k]?=some s/\0<=s/\info[s.toNat]?=some y:=by
 have hlt:st.length-k<st.length:=by omega
 obtain⟨h3,h4⟩:=h _ (Ye hlt);refine⟨st[st.length-k],info[(st[st.length-k]).toNat],?_,Yh hlt,h3,Yh h4⟩;simp[XY,h2,Yh hlt,Yh h4]
def ZsO{n:Int}{qa:List Zd}(h:Zx n qa=true){m:Int}{u:Nat}(hp:pV m qa u=true):(u:Int)<n:=by
 have:∀(l:List Zd) (i:Nat),(∀a∈l,a∈qa)->Xu m l i u=true->(u:Int)<n:=by
  intro l
  induction l with
  |nil=>intro i _ hh;simp[Xu]at hh
  |cons a l ih =>
   intro i hs hh;simp only[Xu,RF,Yf]at hh;rcases hh with hh|hh
   .have:=gI h a (hs a Z) u (Xj.1 hh.2);simp[Am]at this;omega
   .grind
 exact this qa 0 (λa ha=>ha) hp
def Ml{n:Int}{qa:List Zd}(h:Zx n qa=true)(m v:Int):has (ZX m qa n.toNat) v=Bz qa m v:=by
 have hn:=Kf h;rw[Ft,Xj];simp only[ZX,Yn,Ep,Y8,Bz,Yf];constructor
 .rintro⟨u,⟨h1,h2⟩,rfl⟩;refine⟨by simp[Am];omega,by simpa using h2⟩
 .rintro⟨h1,h2⟩;have h3:=ZsO h h2;simp[Am]at h1
  grind
def Z5X{n:Int}{qa:List Zd}(h:Zx n qa=true)(a b:Int):((ZX a qa n.toNat).filter (has (ZX b qa n.toNat))).length=0↔shr qa a b=false:=by
 have hn:=Kf h;rw[Yds,cR,shr,Ydt];simp only[Ml h];constructor
 .intro hh u hu;simp only[Y8]at hu;simp only[Yf,not_and];intro h1 h2;have h3:=ZsO h h1;refine hh (u:Int) ?_ ?_
  .simp only[ZX,Yn,Ep,Y8]
   grind
  .simp only[Bz,Yf];exact⟨by simp[Am];omega,by simpa using h2⟩
 .intro hh v hv;simp only[ZX,Yn,Ep,Y8]at hv;obtain⟨u,⟨h1,h2⟩,rfl⟩:=hv;have:=hh u (by simp only[Y8];omega);simp only[Yf,not_and]at this;simp only[Bz,Yf,not_and]
  simp_all
def ZIk{n:Int}{qa:List Zd}(h:Zx n qa=true)(a b v:Int):has ((ZX a qa n.toNat).filter (has (ZX b qa n.toNat))) v=(Bz qa a v && Bz qa b v):=by
 rw[Ft,Xj,Ep,<-Xj,Ml h,Ml h,Yf]
def ZsP(qa:List Zd)(a b:Int):Ai (Xi (pV a qa)) (Xi (pV b qa))=0↔shr qa a b=false:=by
 rw[Z5S,ZIh,shr,Ydt];simp
def Mm(x:Zn):Int:=if x.Kind=1 then 0 else if x.Kind=2 then 1 else 2
theorem hd0{xs:V2}(h:0<xs.length):xs.head?.getD 0=xs[0]:=by cases xs with|nil=>simp at h|cons x xs=>rfl
def Xk(y:Zf):Nat:=if 0<=y.Right then 2 else if 0<=y.Left then 1 else 0
def Xv(qa:List Zd):List Zn->Nat->List Zf->V2->Option (List Zf×V2)
 |[],_,info,st=>some (info,st)
 |x::xs,i,info,st=>match Wm qa x info st with
  |none=>none
  |some y=>Xv qa xs (i+1) (info++[y]) (st.take (st.length-Xk y)++[(i:Int)])
def Z5Y(qa:List Zd){xs:List Zn}{i:Nat}(h:i<xs.length)(info:List Zf)(st:V2):Xv qa (xs.drop i) i info st=match Wm qa xs[i] info st with
  |none=>none
  |some y=>Xv qa (xs.drop (i+1)) (i+1) (info++[y]) (st.take (st.length-Xk y)++[(i:Int)]):=by
 rw[Yg h,Xv]
def ZG(n:Int)(qa:List Zd)(c:List Zn):Option (List Zf) :=
 if Zx n qa=true/\Am c.length 1 14=true then(match Xv qa c 0 [] []with
  |some (info,st)=>if st.length=1 then some info else none
  |none=>none)else none
def VV{st:V2}{info:List Zf}{k:Nat}{s:Int}{y:Zf}(hs:Vc info st)(h1:1<=k)(h:XY st info k=some (s,y)):k<=st.length/\0<=s/\s.toNat<info.length/\info[s.toNat]?=some y:=by
 have hk:k<=st.length:=by
  unfold XY at h
  simp_all
 grind [Mk]
def ZsQ{qa:List Zd}{x:Zn}{info:List Zf}{st:V2}{y:Zf}(hs:Vc info st)(h:Wm qa x info st=some y) :
  Mm x=Xk y/\Xk y<=st.length/\(0<=y.Right↔3<=x.Kind):=by
 unfold Wm at h;unfold Mm Xk;split at h
 .grind
 .rename_i k1;split at h
  .cases h
  .split at h
   .rename_i k2;split at h
    .rename_i s y' ht;split at h
     .cases h;obtain⟨t1,t2,_⟩:=VV hs (Yi 1) ht;simp[k2,t2,t1]
     .cases h
    .cases h
   .rename_i k2;split at h
    .rename_i s y' t z ht hu;split at h
     .obtain⟨t1,t2,_⟩:=VV hs (E:1<=2) ht;obtain⟨u1,u2,_⟩:=VV hs (E:1<=1) hu;obtain⟨o,ho,rfl⟩:=Yr.1 h;have hk:x.Kind=3\/x.Kind=4\/x.Kind=5:=by
       unfold Vw at ho
       grind
      grind
     .cases h
    .cases h
def H3{info:List Zf}{st:V2}(hs:Vc info st)(y:Zf)(k:Nat):Vc (info++[y]) (st.take k++[(info.length:Int)]):=by
 intro s h;rcases Yp.1 h with h|h
 .obtain⟨h1,h2⟩:=hs s (DK h)
  grind
 .simp at h;subst h;simp
def Z5Z{st:V2}{i k:Nat}(h:st.length<=i)(x:Int):(st.take k++[x]).length<=i+1:=by simp;omega
def Z6a{qa:List Zd}:∀{xs:List Zn} {i:Nat} {info:List Zf} {st:V2} {c:List Zf} {cc:V2},Xv qa xs i info st=some (c,cc)->c.length=info.length+xs.length
 |[],_,_,_,_,_,h=>by simp[Xv]at h;simp[h.1]
 |x::xs,i,info,st,c,cc,h=>by
  rw[Xv]at h;split at h
  .cases h
  .have:=Z6a h;simp at this|-;omega
def Um{n:Int}{qa:List Zd}{steps:List Zn}{info:List Zf}(h:ZG n qa steps=some info):Zx n qa=true/\info.length=steps.length/\1<=steps.length/\steps.length<=14:=by
 unfold ZG at h;split at h
 .rename_i hc;have h2:=hc.2;simp[Am]at h2;split at h
  .rename_i AE st hg;split at h
   .cases h;have:=Z6a hg
    grind
   .cases h
  .cases h
 .cases h
def Z6b(n:Int)(qa:List Zd)(c:List Zn):Int:=match ZG n qa c with
 |some info=>match info[info.length-1]? with
  |some y=>y.Mask
  |none=>0
 |none=>0
def ZIl{n:Int}{qa:List Zd}(h:Zx n qa=true):0<ZU n qa:=by
 obtain⟨h1,h2,_⟩:=Jv h;unfold ZU
 grind
def AaC:∀a b:Fin 16,Az (a.1:Int) (b.1:Int)=((a.1 ||| b.1:Nat):Int):=by decide
def gJ{k:Nat}(hk:k<=4){a b:Int}(ha:0<=a/\a<2 ^ k)(hb:0<=b/\b<2 ^ k):0<=Az a b/\Az a b<2 ^ k:=by
 have h16:(2:Int) ^ k<=16:=by
  have:k=0\/k=1\/k=2\/k=3\/k=4:=by omega
  grind
 have e1:a=(a.toNat:Int):=by omega
 have e2:b=(b.toNat:Int):=by omega
 have l1:a.toNat<16:=by omega
 have l2:b.toNat<16:=by omega
 have e:=AaC ⟨a.toNat,l1⟩ ⟨b.toNat,l2⟩;simp only at e;rw[e1,e2,e];have c:((2 ^ k:Nat):Int)=2 ^ k:=by simp
 have m1:a.toNat<2 ^ k:=by omega
 have m2:b.toNat<2 ^ k:=by omega
 have:=Nat.or_lt_two_pow m1 m2;omega
def Mn{k:Nat}(hk:k<=4){v:Int}(h0:0<=v)(h1:v<k):0<=Ac 1 v/\Ac 1 v<2 ^ k:=by
 have h2:v=0\/v=1\/v=2\/v=3:=by omega
 have h3:k=0\/k=1\/k=2\/k=3\/k=4:=by omega
 rcases h2 with rfl|rfl|rfl|rfl<;>rcases h3 with rfl|rfl|rfl|rfl|rfl<;>first|omega|decide
def Gr(k:Nat)(y:Zf):Prop:=0<=y.Mask/\y.Mask<2 ^ k
theorem Z6c{qa:List Zd}(hk:qa.length<=4){x:Zn}{info:List Zf}{st:V2}{y:Zf}(hs:Vc info st)(hm:∀y∈info,Gr qa.length y)(h:Wm qa x info st=some y):Gr qa.length y:=by
 unfold Wm at h;split at h
 .split at h
  .rename_i hc;cases h;have:=hc.1;simp[Am]at this;exact Mn hk this.1 E
  .cases h
 .split at h
  .cases h
  .split at h
   .split at h
    .rename_i s y' ht;split at h
     .cases h;obtain⟨_,_,t3,t4⟩:=VV hs (Yi 1) ht;exact hm y' (Yu t4)
     .cases h
    .cases h
   .split at h
    .rename_i s y' t z ht hu;split at h
     .obtain⟨_,_,_,t4⟩:=VV hs (E:1<=2) ht;obtain⟨_,_,_,u4⟩:=VV hs (E:1<=1) hu;obtain⟨o,ho,rfl⟩:=Yr.1 h;exact gJ hk (hm y' (Yu t4)) (hm z (Yu u4))
     .cases h
    .cases h
def Z6d{qa:List Zd}(hk:qa.length<=4):∀{xs:List Zn} {i:Nat} {info:List Zf} {st:V2} {c:List Zf} {cc:V2},Xv qa xs i info st=some (c,cc)->
  Vc info st->info.length=i->(∀y∈info,Gr qa.length y)->(∀y∈c,Gr qa.length y)/\∃tail,c=info++tail/\tail.length=xs.length/\∀(j:Nat) (y:Zf) (x:Zn),tail[j]?=some y->xs[j]?=some x->(0<=y.Right↔3<=x.Kind)
 |[],i,info,st,c,cc,h,hs,hi,hm=>by
  simp[Xv]at h
  simp_all
 |x::xs,i,info,st,c,cc,h,hs,hi,hm=>by
  rw[Xv]at h;split at h
  .cases h
  .rename_i y hy;have hn:=H3 hs y (st.length-Xk y);rw[hi]at hn;have hm2:∀z∈info++[y],Gr qa.length z:=by
    grind [Z6c]
   obtain⟨g1,tail,g2,g3,g4⟩:=Z6d hk h hn (by simp[hi]) hm2;refine⟨g1,y::tail,by simp[g2],by simp[g3],?_⟩;intro j y' x' hj hx
   cases j with
   |zero=>simp at hj hx;subst hj;subst hx;exact(ZsQ hs hy).2.2
   |succ j=>exact g4 j y' x' (by simpa using hj) (by simpa using hx)
def Zn5{n:Int}{qa:List Zd}{steps:List Zn}{info:List Zf}(h:ZG n qa steps=some info) :
  (∀y∈info,Gr qa.length y)/\∀(j:Nat) (y:Zf) (x:Zn),info[j]?=some y->steps[j]?=some x->(0<=y.Right↔3<=x.Kind):=by
 have hq:=(Um h).1;unfold ZG at h;split at h
 .split at h
  .rename_i AE st hg;split at h
   .cases h;obtain⟨g1,tail,g2,g3,g4⟩:=Z6d (XF hq).2 hg (λs hs=>by cases hs) rfl (λy hy=>by cases hy)
    grind
   .cases h
  .cases h
 .cases h
def opn(lo hi:V2)(m:Int):Bool:=match lo[m.toNat]?,hi[m.toNat]? with
 |some a,some b=>decide (a<b)
 |_,_=>false
def tgt(lo hi:V2):List Zf->Int
 |[]=>0
 |y::ys=>if(decide (0<=y.Right) && opn lo hi y.Mask)=true then y.Mask else tgt lo hi ys
def Mo(lo hi:V2)(ys:List Zf):Bool:=ys.any λy=>decide (0<=y.Right) && opn lo hi y.Mask
def Z6e{lo hi:V2}:∀{ys:List Zf},Mo lo hi ys=false->tgt lo hi ys=0
 |[],_=>rfl
 |y::ys,h=>by
  simp only[Mo,HB,Bool.or_eq_false_iff]at h;rw[tgt,h.1];exact Z6e h.2
theorem ZsR{a b:V2}(h:dom a b=true):a.length=b.length:=by
 simp only[dom,Yf,decide_eq_true_eq]at h;exact h.1
def Xw(n:Int)(qa:List Zd)(c:List Zn)(lo hi:V2):Int:=match ZG n qa c with
 |some info=>if VU n qa lo hi=true then tgt lo hi info else 0
 |none=>0
def Z6f{n:Int}{qa:List Zd}{steps:List Zn}{info:List Zf}{lo hi:V2}(h:ZG n qa steps=some info)(hb:VU n qa lo hi=true):lo.length=hi.length/\∀y∈info,0<=y.Mask/\y.Mask.toNat<lo.length:=by
 have hq:=(Um h).1;simp only[VU,Yf,decide_eq_true_eq,WR]at hb;refine⟨(ZsR hb.1.2).symm,λy hy=>?_⟩;obtain⟨h1,h2⟩:=(Zn5 h).1 y hy;have h3:=hb.2;unfold ZU at h3
 grind [Jv]
def Ck:List Zn->Nat->V2
 |[],_=>[]
 |x::xs,i=>if 3<=x.Kind then(i:Int)::Ck xs (i+1)else Ck xs (i+1)
def Zn6{xs:List Zn}{i:Nat}(h:i<xs.length):Ck (xs.drop i) i=if 3<=xs[i].Kind then(i:Int)::Ck (xs.drop (i+1)) (i+1)else Ck (xs.drop (i+1)) (i+1):=by
 rw[Yg h,Ck]
def ZsS:∀(xs:List Zn) (i:Nat),(Ck xs i).length<=xs.length
 |[],_=>Yi _
 |x::xs,i=>by
  have:=ZsS xs (i+1);unfold Ck
  grind
def tj(lo hi:V2)(info:List Zf):V2->Option Int
 |[]=>none
 |i::is=>match info[i.toNat]? with
  |some y=>if opn lo hi y.Mask=true then some y.Mask else tj lo hi info is
  |none=>none
def gK{lo hi:V2}{info:List Zf}{cc:List Zn}(hl:info.length=cc.length)(hr:∀(j:Nat) (y:Zf) (x:Zn),info[j]?=some y->cc[j]?=some x->(0<=y.Right↔3<=x.Kind)):∀i,i<=cc.length->
  tj lo hi info (Ck (cc.drop i) i)=if Mo lo hi (info.drop i)=true then some (tgt lo hi (info.drop i))else none:=by
 refine down _ ?_ ?_
 .rw[Yl,<-hl,Yl];rfl
 .intro i hi0 ih;have hi':i<info.length:=by omega
  have hb:=hr i info[i] cc[i] (Yh hi') (Yh hi0);have d:Mo lo hi (info.drop i)=((decide (0<=info[i].Right) && opn lo hi info[i].Mask) || Mo lo hi (info.drop (i+1))):=by
   unfold Mo;exact Z5P _ hi'
  have d2:tgt lo hi (info.drop i)=if(decide (0<=info[i].Right) && opn lo hi info[i].Mask)=true then info[i].Mask else tgt lo hi (info.drop (i+1)):=by
   rw[Yg hi',tgt]
  rw[Zn6 hi0,d,d2];by_cases c:3<=cc[i].Kind
  .have c':=hb.2 c;have e:((i:Int)).toNat=i:=by omega
   simp only[c,if_true,tj,e,Yh hi',c',decide_true,Yk]
   grind
  .grind
def Zn7:∀{xs:List Zn} {i:Nat} {j:Int},j∈Ck xs i->(i:Int)<=j/\j<i+xs.length
 |[],_,_,h=>by cases h
 |x::xs,i,j,h=>by
  unfold Ck at h;split at h
  .cases h with
   |head=>simp;omega
   |tail _ h=>have:=Zn7 h;simp;omega
  .have:=Zn7 h;simp;omega
def ZH:V2->V2->Int
 |[],[]=>0
 |[],_::_=>-1
 |_::_,[]=>1
 |a::x,b::y=>if a<b then -1 else if b<a then 1 else ZH x y
def Db(a b:V2):Bool:=decide (ZH a b<=0)
def Kg(rows:XS):XS:=rows.mergeSort Db
def Vx:XS->XS
 |[]=>[]
 |[a]=>[a]
 |a::b::l=>if a=b then Vx (b::l)else a::Vx (b::l)
def ZE(l:V2):V2:=l.mergeSort λx y=>decide (x<=y)
def Wg:V2->V2
 |[]=>[]
 |[a]=>[a]
 |a::b::l=>if a=b then Wg (b::l)else a::Wg (b::l)
def Z6g(es:WA)(rows:XS):Prop:=es=rows.map Ae/\rows.length<=4096/\∀r∈rows,r.length<=4
def Z6h(es:WA)(l:V2):Prop:=es=l.map ic/\l.length<=4096
open Classical in
def Sh(es:WA)(k:XS->XR):XP:=if h:∃rows,Z6g es rows then some (k h.choose)else none
open Classical in
def Si(es:WA)(k:V2->XR):XP:=if h:∃l,Z6h es l then some (k h.choose)else none
def ext:ZC:=λf xs h0=>match xs,h0 with
 |[.own 0,.fn 194 []],[.arr 38 1 fr es]=>if f=193 then Sh es λrows=>(.tup [],[.arr 38 1 fr ((Kg rows).map Ae)])else none
 |[.own 0,.fn 196 []],[.arr 38 1 fr es]=>if f=195 then Sh es λrows=>(.own 1,[.dead,.arr 38 1 fr ((Vx rows).map Ae)])else none
 |[.own 0],[.arr 3 1 fr es]=>if f=184 then Si es λl=>(.tup [],[.arr 3 1 fr ((ZE l).map ic)])else if f=219 then Si es λl=>(.own 1,[.dead,.arr 3 1 fr ((Wg l).map ic)])else none
 |_,_=>none
open Go.ChangeShapes Go.WideShapes Go.ChangeAt Go.RowKit
def own:ownKnob Tryz.prog.godebug=none:=by kernel_rfl
def laidOut:laidOutB Tryz.prog=true:=by kernel_rfl
def Ad:Nat->Option Ab:=λf=>if f=193\/f=184 then none else Da Tryz.prog [9000003,9000005,10000005,2000006,10000006,9000007,10000007,2000011,10000011,9000012,10000012,2000013,10000013,9000018,10000018,19,10000039,10000041,10000048,48,9000049,10000049,49,9000050,10000050,50,51,10000052,53,10000054,54,55,56,7000060,1000075,6000090,6000091,91,10000092,92,10000093,93,95,10000097,9000098,10000098,98,6000099,6000102,6000103,6000106,109,6000158,158,161,10000164,6000166,6000168,168,1000176,7000180,184,185,188,1000189,193,195,199,200,205,10000208,6000213,216,218,219,231,6000232,237,248,249,8000261,6000262,275,6000279,7000279,6000282,288,6000290,9000291,6000292,6000293,8000293,6000296,6000297,6000299,7000299,9000303,6000303,7000303,6000304] f
def Zg(f:Nat)(fn:Func):Option Ab:=JU Tryz.prog (DQ [9000003,9000005,10000005,2000006,10000006,9000007,10000007,2000011,10000011,9000012,10000012,2000013,10000013,9000018,10000018,19,10000039,10000041,10000048,48,9000049,10000049,49,9000050,10000050,50,51,10000052,53,10000054,54,55,56,7000060,1000075,6000090,6000091,91,10000092,92,10000093,93,95,10000097,9000098,10000098,98,6000099,6000102,6000103,6000106,109,6000158,158,161,10000164,6000166,6000168,168,1000176,7000180,184,185,188,1000189,193,195,199,200,205,10000208,6000213,216,218,219,231,6000232,237,248,249,8000261,6000262,275,6000279,7000279,6000282,288,6000290,9000291,6000292,6000293,8000293,6000296,6000297,6000299,7000299,9000303,6000303,7000303,6000304] f) (yI fn) fn
def Mp:DP Tryz.prog Ad:=by
 intro f m h;unfold Ad at h;split at h
 .cases h
 .exact eQ _ _ f m h
def Zh{f:Nat}{fn:Func}{m:Ab}(hf:Tryz.prog.funcs[f]?=some fn)(hc:K6 Tryz.prog f=true:=by kernel_rfl)(h:JU Tryz.prog (DQ [9000003,9000005,10000005,2000006,10000006,9000007,10000007,2000011,10000011,9000012,10000012,2000013,10000013,9000018,10000018,19,10000039,10000041,10000048,48,9000049,10000049,49,9000050,10000050,50,51,10000052,53,10000054,54,55,56,7000060,1000075,6000090,6000091,91,10000092,92,10000093,93,95,10000097,9000098,10000098,98,6000099,6000102,6000103,6000106,109,6000158,158,161,10000164,6000166,6000168,168,1000176,7000180,184,185,188,1000189,193,195,199,200,205,10000208,6000213,216,218,219,231,6000232,237,248,249,8000261,6000262,275,6000279,7000279,6000282,288,6000290,9000291,6000292,6000293,8000293,6000296,6000297,6000299,7000299,9000303,6000303,7000303,6000304] f) (yI fn) fn=some m:=by kernel_rfl)(hne:¬(f=193\/f=184):=by decide):Ad f=some m:=by
 unfold Ad;rw[Yb hne];exact Ff hf hc h
def C:ZC:=WD ext Ad
def run{f:Nat}{xs:XQ}{m:Ab}(ht:Ad f=some m)(hl:xs.length=m.np){r:XR}(h:Ev C [.fin 0 m.res] m.body ⟨K5 xs 0,[[]],[]⟩=some r):C f xs []=some r:=Z53 (h0:=[]) ht hl h
def Xx{f:Nat}{xs:XQ}{h0:V3}{m:Ab}(ht:Ad f=some m)(hl:xs.length=m.np){r:XR}(h:Ev C [.fin h0.length m.res] m.body ⟨K5 xs 0,[QZ h0 0],h0⟩=some r):C f xs h0=some r:=Z53 ht hl h
abbrev ZIm:Nat:=3
abbrev X5:Nat:=3
abbrev t_bool:Nat:=4
abbrev ZIn:Nat:=9
abbrev Z6i:Nat:=38
abbrev Mq:Nat:=81
abbrev Z6j:Nat:=110
abbrev ZIo:Nat:=118
end
