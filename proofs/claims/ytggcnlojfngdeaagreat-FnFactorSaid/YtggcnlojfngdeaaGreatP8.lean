/-
  Parts of the proofs for this seat: PW EX H.
-/
import Derived.JoinedTies
import Derived.KernelRfl
import Derived.RowKit
import Derived.Test.YtggcnlojfngdeaaGreatProg
import GoSem.Claim
import GoSem.ClaimJoined
import GoSem.ClaimMapViews
import Derived.Test.YtggcnlojfngdeaaGreatP7
set_option linter.all false
set_option maxRecDepth 100000
set_option maxHeartbeats 4000000
namespace Go.Proofs.YtggcnlojfngdeaaGreat
open Go.AM
def Ak(a b c:Int):Bool:=decide (b<=a/\a<=c)
def Xi(c:Int):Int:=if c<0 then -1 else if c=0 then 0 else if c=1 then 1 else if c=2 then 4 else if c=3 then 16 else if c=4 then 64 else if c=5 then 256 else if c=6 then 1024 else if c=7 then 4096 else -1
def aT{c:Int}(h:Ak c 0 7=true):c=0\/c=1\/c=2\/c=3\/c=4\/c=5\/c=6\/c=7:=by
 simp[Ak]at h;omega
def Z2s{c:Int}(h:Ak c 0 7=false):Xi c=-1:=by
 simp[Ak]at h;unfold Xi;omega
def Jb(n:Int):Int:=if n<0 then -1 else if n<=0 then 0 else if n<=1 then 1 else if n<=4 then 2 else if n<=16 then 3 else if n<=64 then 4 else if n<=256 then 5 else if n<=1024 then 6 else if n<=4096 then 7 else -1
def JO{α:Type}(p:α->Bool){xs:List α}{i:Nat}(h:i<xs.length):(xs.drop i).all p=(p xs[i] && (xs.drop (i+1)).all p):=by
 rw[Yh h,Cz]
def ZCX{α:Type}(p:α->Bool){xs:List α}{i:Nat}(h:i<xs.length):(xs.drop i).any p=(p xs[i] || (xs.drop (i+1)).any p):=by
 rw[Yh h,Iw]
def QV(xs:WL):Bool:=xs.all (λx=>Ak x 0 7)
def Xs(xs:WL):Bool:=QV xs && decide ((xs.length:Int)<=16)
def Z2t{xs:WL}{i:Nat}(h:i<xs.length):QV (xs.drop i)=(Ak xs[i] 0 7 && QV (xs.drop (i+1))):=JO _ h
def Qj:WL->WL->Bool
 |x::xs,y::ys=>decide (y<=x) && Qj xs ys
 |_,_=>true
def dom(xs ys:WL):Bool:=decide (xs.length=ys.length) && Qj xs ys
def Z2u{xs ys:WL}{i:Nat}(h:i<xs.length)(h':i<ys.length):Qj (xs.drop i) (ys.drop i)=(decide (ys[i]<=xs[i]) && Qj (xs.drop (i+1)) (ys.drop (i+1))):=by
 rw[Yh h,Yh h',Qj]
def Xj(lo hi:WL):Bool:=decide (0<lo.length) && Xs lo && Xs hi && dom hi lo
def JP(lo hi l:WL):Bool:=Xj lo hi && dom l lo && dom hi l
def Xy(a b c d:Bool):Int:=(if a then 1 else 0)+(if b then 2 else 0)+(if c then 4 else 0)+(if d then 8 else 0)
def Xt(p:Nat->Bool):Int:=Xy (p 0) (p 1) (p 2) (p 3)
def in4{v:Int}(h:Ak v 0 3=true):v=0\/v=1\/v=2\/v=3:=by simp[Ak]at h;omega
def has(xs:WL)(v:Int):Bool:=xs.any (λx=>decide (v=x))
theorem Q1{xs:WL}{v:Int}:has xs v=true↔v∈xs:=by
 simp only[has,List.any_eq_true,decide_eq_true_eq];simp
def W8(p:Nat->Bool)(vs:WL):Nat->Bool:=λu=>p u || has vs u
def ZqZ(p:Nat->Bool):W8 p []=p:=by funext u;simp[W8,has]
def ZCY(p:Nat->Bool)(v:Int)(vs:WL):W8 (W8 p [v]) vs=W8 p (v::vs):=by funext u;simp[W8,has,Bool.or_assoc]
def Zra(p:Nat->Bool){vs:WL}{i:Nat}(h:i<vs.length):W8 p (vs.drop i)=W8 (W8 p [vs[i]]) (vs.drop (i+1)):=by
 rw[Yh h,ZCY]
def AaE:∀a b c d:Bool,Au (Xy a b c d) 1=Xy true b c d/\Au (Xy a b c d) 2=Xy a true c d/\Au (Xy a b c d) 4=Xy a b true d/\Au (Xy a b c d) 8=Xy a b c true:=by decide
def Zrb(p:Nat->Bool){v:Int}(h:Ak v 0 3=true):Au (Xt p) (Ac 1 v)=Xt (W8 p [v]):=by
 have q:=AaE (p 0) (p 1) (p 2) (p 3);rcases in4 h with rfl|rfl|rfl|rfl<;>simp[W8,has,Xt,Ac,ZF,q]
def aU:∀a b c d:Bool,(Aj (At (Xy a b c d) 0) 1=1↔a=true)/\(Aj (At (Xy a b c d) 1) 1=1↔b=true)/\(Aj (At (Xy a b c d) 2) 1=1↔c=true)/\(Aj (At (Xy a b c d) 3) 1=1↔d=true):=by decide
def Zrc(p:Nat->Bool){v:Int}(h:Ak v 0 3=true):Aj (At (Xt p) v) 1=1↔p v.toNat=true:=by
 have q:=aU (p 0) (p 1) (p 2) (p 3);rcases in4 h with rfl|rfl|rfl|rfl<;>simp[Xt,q]
def AaF:∀a b c d a' b' c' d':Bool,Aj (Xy a b c d) (Xy a' b' c' d')=Xy (a && a') (b && b') (c && c') (d && d'):=by decide
def Z2v(p q:Nat->Bool):Aj (Xt p) (Xt q)=Xt (λu=>p u && q u):=AaF _ _ _ _ _ _ _ _
def aV:∀a b c d:Bool,Xy a b c d=0↔(a=false/\b=false/\c=false/\d=false):=by decide
def ZCZ(p:Nat->Bool):Xt p=0↔∀u,u<4->p u=false:=by
 rw[Xt,aV]
 grind
def Ua{α:Type}(p:α->Bool):List α->Nat->Int
 |[],_=>-1
 |x::xs,i=>if p x=true then i else Ua p xs (i+1)
def Zrd{α:Type}(p:α->Bool){xs:List α}{i:Nat}(h:i<xs.length):Ua p (xs.drop i) i=if p xs[i]=true then(i:Int)else Ua p (xs.drop (i+1)) (i+1):=by
 rw[Yh h,Ua]
def Z2w{α:Type}(p:α->Bool)(xs:List α):∀i,xs.any p=false->Ua p xs i=-1:=by
 induction xs with
 |nil=>intro i _;rfl
 |cons x xs ih=>intro i h;simp at h;simp[Ua,h];apply ih;simp;exact h.2
def Z2x{α:Type}(p:α->Bool)(xs:List α):∀i,xs.any p=true->0<=Ua p xs i:=by
 induction xs with
 |nil=>intro i h;simp at h
 |cons x xs ih =>
  intro i h;unfold Ua
  grind
def Qk(s:V5):Bool:=match s[0]? with
 |some b=>decide (s.size=1) && decide (97<=(b.toNat:Int)) && decide ((b.toNat:Int)<=122)
 |none=>false
def AaG{s:V5}(h:s.size=1):∃b,s[0]?=some b:=⟨s[0],getElem?_pos s 0 Z⟩
def W9(n:Int)(c:WL):WL->Bool
 |[]=>true
 |v::rest=>Ak v 0 (n-1) && !has c v && W9 n (c++[v]) rest
def vK(n:Int){vs:WL}{k:Nat}(h:k<vs.length):W9 n (vs.take k) (vs.drop k)=(Ak vs[k] 0 (n-1) && !has (vs.take k) vs[k] && W9 n (vs.take (k+1)) (vs.drop (k+1))):=by
 conv=>lhs;rw[Yh h,W9]
 simp
theorem vL{n:Int}:∀{vs c:WL},W9 n c vs=true->∀v∈vs,Ak v 0 (n-1)=true
 |[],_,_,v,hv=>by cases hv
 |x::xs,c,h,v,hv=>by
  simp only[W9,Yd]at h
  cases hv with
  |head=>exact h.1.1
  |tail _ hv=>exact vL h.2 v hv
def WE(n:Int)(a:Zd):Bool:=Qk a.Name && Ak a.Vars.length 1 3 && W9 n [] a.Vars
def Ur(p:Nat->Bool)(qa:List Zd):Nat->Bool:=λu=>p u || qa.any λa=>has a.Vars u
def Z2y(p:Nat->Bool){qa:List Zd}{i:Nat}(h:i<qa.length):Ur p (qa.drop i)=Ur (W8 p qa[i].Vars) (qa.drop (i+1)):=by
 rw[Yh h];funext u;simp only[Ur,Iw,W8,Bool.or_assoc]
def Z3(n:Int)(qa:List Zd):Bool :=
 Ak n 1 4 && Ak qa.length 1 4 && qa.all (WE n) && (List.range n.toNat).all (Ur (λ_=>false) qa)
def bl(p:Nat->Bool)(n:Nat):WA:=(List.range n).map λu=>[T.bool (p u)]
@[simp] def AaH(p:Nat->Bool)(n i:Nat)(h:i<(bl p n).length):(bl p n)[i]=[T.bool (p i)]:=by simp[bl]
def Lh(p:Nat->Bool)(n:Nat):((List.range n).map p).any (λx=>false == x)=!(List.range n).all p:=by
 grind
def vM:∀a b c d:Bool,(Xy a b c d=1↔(a=true/\b=false/\c=false/\d=false))/\(Xy a b c d=3↔(a=true/\b=true/\c=false/\d=false))/\(Xy a b c d=7↔(a=true/\b=true/\c=true/\d=false))/\(Xy a b c d=15↔(a=true/\b=true/\c=true/\d=true)):=by decide
def all_in{n:Int}{qa:List Zd}(h:qa.all (WE n)=true):∀u:Int,n<=u->qa.any (λa=>has a.Vars u)=false:=by
 intro u hu;rw[Ydd];intro a ha hc;rw[Q1]at hc;have:=Yn.1 h a ha;simp only[WE,Yd]at this;have:=vL this.2 _ hc;simp[Ak]at this;omega
def Z7(n:Int)(qa:List Zd):Int:=if Z3 n qa=true then Ac 1 qa.length-1 else 0
theorem Jc{n:Int}{qa:List Zd}(h:Z3 n qa=true):(qa.length=1\/qa.length=2\/qa.length=3\/qa.length=4)/\Ac 1 qa.length=2 ^ qa.length/\IntKind.wrap .i64 (Ac 1 qa.length-1)=Ac 1 qa.length-1/\IntKind.wrap .i64 (Ac 1 qa.length-1+1)=Ac 1 qa.length-1+1:=by
 simp only[Z3,Yd]at h;have h2:=h.1.1.2;simp[Ak]at h2;have h3:qa.length=1\/qa.length=2\/qa.length=3\/qa.length=4:=by omega
 refine⟨h3,?_⟩;rcases h3 with h3|h3|h3|h3<;>rw[h3]<;>decide
def vN(n:Int)(qa:List Zd):IntKind.wrap .i64 (Z7 n qa+1)=Z7 n qa+1:=by
 unfold Z7;split
 .grind [Jc]
 .decide
def Z1(m:Int)(i:Nat):Bool:=decide (Aj (At m i) 1=1)
def WF(m:Int):List Zd->Nat->Int->Bool
 |[],_,_=>false
 |a::as',i,u=>(Z1 m i && has a.Vars u) || WF m as' (i+1) u
theorem Zre(m:Int){qa:List Zd}{i:Nat}(h:i<qa.length)(u:Int):WF m (qa.drop i) i u=((Z1 m i && has qa[i].Vars u) || WF m (qa.drop (i+1)) (i+1) u):=by
 rw[Yh h,WF]
def pV(m:Int)(qa:List Zd):Nat->Bool:=λu=>WF m qa 0 u
def vO(qa:List Zd):Prop:=∀a∈qa,∀v∈a.Vars,Ak v 0 3=true
def Zrf{n:Int}{qa:List Zd}(h:Z3 n qa=true):∀a∈qa,∀v∈a.Vars,Ak v 0 (n-1)=true:=by
 intro a ha v hv;simp only[Z3,Yd]at h;have:=Yn.1 h.1.2 a ha;simp only[WE,Yd]at this
 grind [vL]
def K0{n:Int}{qa:List Zd}(h:Z3 n qa=true):1<=n/\n<=4:=by
 simp only[Z3,Yd]at h;have:=h.1.1.1;simpa[Ak]using this
def WZ{n:Int}{qa:List Zd}(h:Z3 n qa=true):1<=qa.length/\qa.length<=4:=by
 simp only[Z3,Yd]at h;have:=h.1.1.2;simp[Ak]at this;omega
def Ps{n:Int}{qa:List Zd}(h:Z3 n qa=true):∀a∈qa,1<=a.Vars.length/\a.Vars.length<=3:=by
 intro a ha;simp only[Z3,Yd]at h;have:=Yn.1 h.1.2 a ha;simp only[WE,Yd]at this;have:=this.1.2;simp[Ak]at this;omega
def Li{n:Int}{qa:List Zd}(h:Z3 n qa=true):vO qa:=by
 intro a ha v hv;have:=Zrf h a ha v hv;have h2:=K0 h;simp[Ak]at this|-;omega
def JQ(m:Int)(p:Nat->Bool)(qa:List Zd)(i:Nat):Nat->Bool:=λu=>p u || WF m (qa.drop i) i u
def ZDa(m:Int)(p:Nat->Bool){qa:List Zd}{i:Nat}(h:i<qa.length):JQ m p qa i=JQ m (if Z1 m i=true then W8 p qa[i].Vars else p) qa (i+1):=by
 funext u;rw[JQ,Zre _ h];rcases tf (Z1 m i)with e|e<;>simp[JQ,W8,e,Bool.or_assoc]
def XC(m:Int)(qa:List Zd)(k:Nat):WL:=((List.range k).filter (pV m qa)).map λu:Nat=>(u:Int)
def ZDb(m:Int)(qa:List Zd)(k:Nat):XC m qa (k+1)=XC m qa k++if WF m qa 0 k=true then[(k:Int)]else[]:=by
 unfold XC;rw[DX,List.filter_append,CE];rcases tf (WF m qa 0 k)with e|e<;>simp[pV,e]
def aW(m:Int)(qa:List Zd)(k:Nat):(XC m qa k).length<=k:=by
 unfold XC
 grind
def Zrg{α:Type}(p:α->Bool){xs:List α}{i:Nat}(h:i<xs.length):(xs.take (i+1)).filter p=(xs.take i).filter p++if p xs[i]=true then[xs[i]]else[]:=by
 grind [List.take_add_one,List.getElem?_eq_getElem]
def Bg(qa:List Zd)(m v:Int):Bool:=Ak v 0 3 && pV m qa v.toNat
def shr(qa:List Zd)(a b:Int):Bool:=(List.range 4).any λu=>pV a qa u && pV b qa u
def W3(st:WL)(info:List Zp)(k:Nat):Option (Int×Zp):=if k<=st.length then(match st[st.length-k]? with
 |some s=>(info[s.toNat]?).map (s,·)
 |none=>none)else none
def Vu(qa:List Zd)(x:Zn)(y z:Zp):Option Int :=
 if x.Kind=3/\x.Order=0 then some (-1)
 else if x.Kind=5/\x.Order=0 then some y.Order
 else if x.Kind=4/\Bg qa y.Mask x.Order=true/\Bg qa z.Mask x.Order=true/\y.Order=x.Order/\z.Order=x.Order then some x.Order
 else none
def Ub(qa:List Zd)(x:Zn)(info:List Zp)(st:WL):Option Zp :=
 if x.Kind=1 then(if Ak x.Zd 0 (qa.length-1)=true/\x.Order=0 then some ⟨Ac 1 x.Zd,(match qa[x.Zd.toNat]? with|some a=>a.Vars.headD 0|none=>0),-1,-1⟩else none)
 else if x.Zd≠0 then none
 else if x.Kind=2 then(match W3 st info 1 with
  |some (s,y)=>if Bg qa y.Mask x.Order=true/\y.Order≠x.Order then some ⟨y.Mask,x.Order,s,-1⟩else none
  |none=>none)
 else match W3 st info 2,W3 st info 1 with
  |some (s,y),some (t,z)=>if Aj y.Mask z.Mask=0/\shr qa y.Mask z.Mask=true then(Vu qa x y z).map (⟨Au y.Mask z.Mask,·,s,t⟩)else none
  |_,_=>none
def UN(info:List Zp)(st:WL):Prop:=∀s∈st,0<=s/\s.toNat<info.length
theorem Lj{info:List Zp}{st:WL}(h:UN info st){k:Nat}(h1:1<=k)(h2:k<=st.length) :
  ∃s y,W3 st info k=some (s,y)/\st[st.length-k]?=some s/\0<=s/\info[s.toNat]?=some y:=by
 have hlt:st.length-k<st.length:=by omega
 obtain⟨h3,h4⟩:=h _ (Ye hlt);refine⟨st[st.length-k],info[(st[st.length-k]).toNat],?_,Yf hlt,h3,Yf h4⟩;simp[W3,h2,Yf hlt,Yf h4]
def Zrh{n:Int}{qa:List Zd}(h:Z3 n qa=true){m:Int}{u:Nat}(hp:pV m qa u=true):(u:Int)<n:=by
 have:∀(l:List Zd) (i:Nat),(∀a∈l,a∈qa)->WF m l i u=true->(u:Int)<n:=by
  intro l
  induction l with
  |nil=>intro i _ hh;simp[WF]at hh
  |cons a l ih =>
   intro i hs hh;simp only[WF,rF,Yd]at hh;rcases hh with hh|hh
   .have:=Zrf h a (hs a Om) u (Q1.1 hh.2);simp[Ak]at this;omega
   .grind
 exact this qa 0 (λa ha=>ha) hp
def aX{n:Int}{qa:List Zd}(h:Z3 n qa=true)(m v:Int):has (XC m qa n.toNat) v=Bg qa m v:=by
 have hn:=K0 h;rw[Fg,Q1];simp only[XC,Yp,CB,CF,Bg,Yd];constructor
 .rintro⟨u,⟨h1,h2⟩,rfl⟩;refine⟨by simp[Ak];omega,by simpa using h2⟩
 .rintro⟨h1,h2⟩;have h3:=Zrh h h2;simp[Ak]at h1
  grind
def ZDc{n:Int}{qa:List Zd}(h:Z3 n qa=true)(a b:Int):((XC a qa n.toNat).filter (has (XC b qa n.toNat))).length=0↔shr qa a b=false:=by
 have hn:=K0 h;rw[Tz,OL,shr,Ydd];simp only[aX h];constructor
 .intro hh u hu;simp only[CF]at hu;simp only[Yd,not_and];intro h1 h2;have h3:=Zrh h h1;refine hh (u:Int) ?_ ?_
  .simp only[XC,Yp,CB,CF]
   grind
  .simp only[Bg,Yd];exact⟨by simp[Ak];omega,by simpa using h2⟩
 .intro hh v hv;simp only[XC,Yp,CB,CF]at hv;obtain⟨u,⟨h1,h2⟩,rfl⟩:=hv;have:=hh u (by simp only[CF];omega);simp only[Yd,not_and]at this;simp only[Bg,Yd,not_and]
  simp_all
def ZDd{n:Int}{qa:List Zd}(h:Z3 n qa=true)(a b v:Int):has ((XC a qa n.toNat).filter (has (XC b qa n.toNat))) v=(Bg qa a v && Bg qa b v):=by
 rw[Fg,Q1,CB,<-Q1,aX h,aX h,Yd]
def Zri(qa:List Zd)(a b:Int):Aj (Xt (pV a qa)) (Xt (pV b qa))=0↔shr qa a b=false:=by
 rw[Z2v,ZCZ,shr,Ydd];simp
def Lk(x:Zn):Int:=if x.Kind=1 then 0 else if x.Kind=2 then 1 else 2
theorem hd0{xs:WL}(h:0<xs.length):xs.head?.getD 0=xs[0]:=by cases xs with|nil=>simp at h|cons x xs=>rfl
def XX(y:Zp):Nat:=if 0<=y.Right then 2 else if 0<=y.Left then 1 else 0
def WG(qa:List Zd):List Zn->Nat->List Zp->WL->Option (List Zp×WL)
 |[],_,info,st=>some (info,st)
 |x::xs,i,info,st=>match Ub qa x info st with
  |none=>none
  |some y=>WG qa xs (i+1) (info++[y]) (st.take (st.length-XX y)++[(i:Int)])
def Z2z(qa:List Zd){xs:List Zn}{i:Nat}(h:i<xs.length)(info:List Zp)(st:WL):WG qa (xs.drop i) i info st=match Ub qa xs[i] info st with
  |none=>none
  |some y=>WG qa (xs.drop (i+1)) (i+1) (info++[y]) (st.take (st.length-XX y)++[(i:Int)]):=by
 rw[Yh h,WG]
def XL(n:Int)(qa:List Zd)(steps:List Zn):Option (List Zp) :=
 if Z3 n qa=true/\Ak steps.length 1 14=true then(match WG qa steps 0 [] []with
  |some (info,st)=>if st.length=1 then some info else none
  |none=>none)else none
def JR{st:WL}{info:List Zp}{k:Nat}{s:Int}{y:Zp}(hs:UN info st)(h1:1<=k)(h:W3 st info k=some (s,y)):k<=st.length/\0<=s/\s.toNat<info.length/\info[s.toNat]?=some y:=by
 have hk:k<=st.length:=by
  unfold W3 at h
  simp_all
 grind [Lj]
def Zrj{qa:List Zd}{x:Zn}{info:List Zp}{st:WL}{y:Zp}(hs:UN info st)(h:Ub qa x info st=some y) :
  Lk x=XX y/\XX y<=st.length/\(0<=y.Right↔3<=x.Kind):=by
 unfold Ub at h;unfold Lk XX;split at h
 .grind
 .rename_i k1;split at h
  .cases h
  .split at h
   .rename_i k2;split at h
    .rename_i s y' ht;split at h
     .cases h;obtain⟨t1,t2,_⟩:=JR hs (Yk 1) ht;simp[k2,t2,t1]
     .cases h
    .cases h
   .rename_i k2;split at h
    .rename_i s y' t z ht hu;split at h
     .obtain⟨t1,t2,_⟩:=JR hs (Z:1<=2) ht;obtain⟨u1,u2,_⟩:=JR hs (Z:1<=1) hu;obtain⟨o,ho,rfl⟩:=Yo.1 h;have hk:x.Kind=3\/x.Kind=4\/x.Kind=5:=by
       unfold Vu at ho
       grind
      grind
     .cases h
    .cases h
def aY{info:List Zp}{st:WL}(hs:UN info st)(y:Zp)(k:Nat):UN (info++[y]) (st.take k++[(info.length:Int)]):=by
 intro s h;rcases Yi.1 h with h|h
 .obtain⟨h1,h2⟩:=hs s (Dk h)
  grind
 .simp at h;subst h;simp
def Z20{st:WL}{i k:Nat}(h:st.length<=i)(x:Int):(st.take k++[x]).length<=i+1:=by simp;omega
def Z21{qa:List Zd}:∀{xs:List Zn} {i:Nat} {info:List Zp} {st:WL} {c:List Zp} {cc:WL},WG qa xs i info st=some (c,cc)->c.length=info.length+xs.length
 |[],_,_,_,_,_,h=>by simp[WG]at h;simp[h.1]
 |x::xs,i,info,st,c,cc,h=>by
  rw[WG]at h;split at h
  .cases h
  .have:=Z21 h;simp at this|-;omega
def G5{n:Int}{qa:List Zd}{steps:List Zn}{info:List Zp}(h:XL n qa steps=some info):Z3 n qa=true/\info.length=steps.length/\1<=steps.length/\steps.length<=14:=by
 unfold XL at h;split at h
 .rename_i hc;have h2:=hc.2;simp[Ak]at h2;split at h
  .rename_i Bh st hg;split at h
   .cases h;have:=Z21 hg
    grind
   .cases h
  .cases h
 .cases h
def JS(n:Int)(qa:List Zd)(steps:List Zn):Int:=match XL n qa steps with
 |some info=>match info[info.length-1]? with
  |some y=>y.Mask
  |none=>0
 |none=>0
def vP{n:Int}{qa:List Zd}(h:Z3 n qa=true):0<Z7 n qa:=by
 obtain⟨h1,h2,_⟩:=Jc h;unfold Z7
 grind
def AaI:∀a b:Fin 16,Au (a.1:Int) (b.1:Int)=((a.1 ||| b.1:Nat):Int):=by decide
def aZ{k:Nat}(hk:k<=4){a b:Int}(ha:0<=a/\a<2 ^ k)(hb:0<=b/\b<2 ^ k):0<=Au a b/\Au a b<2 ^ k:=by
 have h16:(2:Int) ^ k<=16:=by
  have:k=0\/k=1\/k=2\/k=3\/k=4:=by omega
  grind
 have e1:a=(a.toNat:Int):=by omega
 have e2:b=(b.toNat:Int):=by omega
 have l1:a.toNat<16:=by omega
 have l2:b.toNat<16:=by omega
 have e:=AaI ⟨a.toNat,l1⟩ ⟨b.toNat,l2⟩;simp only at e;rw[e1,e2,e];have c:((2 ^ k:Nat):Int)=2 ^ k:=by simp
 have m1:a.toNat<2 ^ k:=by omega
 have m2:b.toNat<2 ^ k:=by omega
 have:=Nat.or_lt_two_pow m1 m2;omega
def Ll{k:Nat}(hk:k<=4){v:Int}(h0:0<=v)(h1:v<k):0<=Ac 1 v/\Ac 1 v<2 ^ k:=by
 have h2:v=0\/v=1\/v=2\/v=3:=by omega
 have h3:k=0\/k=1\/k=2\/k=3\/k=4:=by omega
 rcases h2 with rfl|rfl|rfl|rfl<;>rcases h3 with rfl|rfl|rfl|rfl|rfl<;>first|omega|decide
def Lm(k:Nat)(y:Zp):Prop:=0<=y.Mask/\y.Mask<2 ^ k
theorem ZDe{qa:List Zd}(hk:qa.length<=4){x:Zn}{info:List Zp}{st:WL}{y:Zp}(hs:UN info st)(hm:∀y∈info,Lm qa.length y)(h:Ub qa x info st=some y):Lm qa.length y:=by
 unfold Ub at h;split at h
 .split at h
  .rename_i hc;cases h;have:=hc.1;simp[Ak]at this;exact Ll hk this.1 Z
  .cases h
 .split at h
  .cases h
  .split at h
   .split at h
    .rename_i s y' ht;split at h
     .cases h;obtain⟨_,_,t3,t4⟩:=JR hs (Yk 1) ht;exact hm y' (Y3 t4)
     .cases h
    .cases h
   .split at h
    .rename_i s y' t z ht hu;split at h
     .obtain⟨_,_,_,t4⟩:=JR hs (Z:1<=2) ht;obtain⟨_,_,_,u4⟩:=JR hs (Z:1<=1) hu;obtain⟨o,ho,rfl⟩:=Yo.1 h;exact aZ hk (hm y' (Y3 t4)) (hm z (Y3 u4))
     .cases h
    .cases h
def Z22{qa:List Zd}(hk:qa.length<=4):∀{xs:List Zn} {i:Nat} {info:List Zp} {st:WL} {c:List Zp} {cc:WL},WG qa xs i info st=some (c,cc)->
  UN info st->info.length=i->(∀y∈info,Lm qa.length y)->(∀y∈c,Lm qa.length y)/\∃tail,c=info++tail/\tail.length=xs.length/\∀(j:Nat) (y:Zp) (x:Zn),tail[j]?=some y->xs[j]?=some x->(0<=y.Right↔3<=x.Kind)
 |[],i,info,st,c,cc,h,hs,hi,hm=>by
  simp[WG]at h
  simp_all
 |x::xs,i,info,st,c,cc,h,hs,hi,hm=>by
  rw[WG]at h;split at h
  .cases h
  .rename_i y hy;have hn:=aY hs y (st.length-XX y);rw[hi]at hn;have hm2:∀z∈info++[y],Lm qa.length z:=by
    grind [ZDe]
   obtain⟨g1,tail,g2,g3,g4⟩:=Z22 hk h hn (by simp[hi]) hm2;refine⟨g1,y::tail,by simp[g2],by simp[g3],?_⟩;intro j y' x' hj hx
   cases j with
   |zero=>simp at hj hx;subst hj;subst hx;exact(Zrj hs hy).2.2
   |succ j=>exact g4 j y' x' (by simpa using hj) (by simpa using hx)
def Z23{n:Int}{qa:List Zd}{steps:List Zn}{info:List Zp}(h:XL n qa steps=some info) :
  (∀y∈info,Lm qa.length y)/\∀(j:Nat) (y:Zp) (x:Zn),info[j]?=some y->steps[j]?=some x->(0<=y.Right↔3<=x.Kind):=by
 have hq:=(G5 h).1;unfold XL at h;split at h
 .split at h
  .rename_i Bh st hg;split at h
   .cases h;obtain⟨g1,tail,g2,g3,g4⟩:=Z22 (WZ hq).2 hg (λs hs=>by cases hs) rfl (λy hy=>by cases hy)
    grind
   .cases h
  .cases h
 .cases h
def ZDf{a b:WL}(h:dom a b=true):a.length=b.length:=by
 simp only[dom,Yd,decide_eq_true_eq]at h;exact h.1
def vol:WL->WL->Int
 |l::ls,h::hs=>(h-l+1)*vol ls hs
 |_,_=>1
def Zrk:vol [] []=1:=rfl
def Zrl{lo hi:WL}{i:Nat}(h:i<lo.length)(h':i<hi.length):vol (lo.drop i) (hi.drop i)=(hi[i]-lo[i]+1)*vol (lo.drop (i+1)) (hi.drop (i+1)):=by
 rw[Yh h,Yh h',vol]
def Vv(v:Int):Int:=if 401<v then 401 else v
def Z24:∀{xs ys:WL} (h:Qj xs ys=true) (i:Nat) (h1:i<xs.length) (h2:i<ys.length),ys[i]<=xs[i]
 |x::xs,y::ys,h,0,_,_=>by simp only[Qj,Yd,decide_eq_true_eq]at h;exact h.1
 |x::xs,y::ys,h,i+1,h1,h2=>by
  simp only[Qj,Yd,decide_eq_true_eq]at h;exact Z24 h.2 i (by simpa using h1) (by simpa using h2)
def WR{lo hi:WL}(h:Xj lo hi=true):hi.length=lo.length/\1<=lo.length/\lo.length<=16/\∀(i:Nat) (h1:i<lo.length) (h2:i<hi.length),0<=lo[i]/\lo[i]<=hi[i]/\hi[i]<=7:=by
 simp only[Xj,Yd,decide_eq_true_eq,Xs,QV,Yn]at h;have hl:=ZDf h.2;refine⟨hl,Z,Z,λi h1 h2=>?_⟩;have a:=h.1.1.2.1 _ (Ye h1);have b:=h.1.2.1 _ (Ye h2);have hd:=h.2;simp only[dom,Yd]at hd;have c:=Z24 hd.2 i h2 h1;simp[Ak]at a b;omega
def vQ{i:Nat}(h:i<=16):(8:Int) ^ i<=281474976710656:=by
 have:(8:Nat) ^ i<=8 ^ 16:=Nat.pow_le_pow_right Z h
 grind
def Xd(lo hi:WL):Int:=if Xj lo hi=true then Vv (vol lo hi)else 0
def ZDg{n d:Int}(hn:1<=n)(hd:1<=d):Vv (Vv n*d)=Vv (n*d):=by
 unfold Vv;by_cases h:401<n
 .have h1:n*1<=n*d:=Int.mul_le_mul_of_nonneg_left hd Z
  grind
 .rw[Yb h]
def ZDh(v:Int):(if v<401 then v else 401)=Vv v:=by
 unfold Vv;omega
def Ln{v:Int}(h:1<=v):1<=Vv v/\Vv v<=401:=by unfold Vv;split<;>omega
def Us(b s:Int):Int:=if Ak b 0 1000000000000=true/\Ak s 0 100=true then(b*(100+s)).tdiv 100 else -1
def Z25{b s:Int}(h1:Ak b 0 1000000000000=true)(h2:Ak s 0 100=true):IntKind.wrap .i64 (100+s)=100+s/\IntKind.wrap .i64 (b*(100+s))=b*(100+s)/\IntKind.wrap .i64 ((b*(100+s)).tdiv 100)=(b*(100+s)).tdiv 100:=by
 simp[Ak]at h1 h2;have m1:b*(100+s)<=1000000000000*200:=Int.mul_le_mul h1.2 Z Z Z
 grind [Int.mul_nonneg,Int.tdiv_nonneg,Int.tdiv_eq_ediv_of_nonneg,ZF]
def UO(n:Int)(vs:WL):Bool:=W9 n [] vs && decide (0<vs.length)
abbrev EY(b:Z6):Prop:=Le b.Box.Low/\Le b.Box.High/\Le b.Budgets/\Le b.Plans/\Le b.Contours/\∀c∈b.Contours,Le c
def Lo(r:Int)(c:Option Int)(x:Int):Bool:=match c with
 |none=>true
 |some p=>decide (x=p*r)
def Vw(r:Int)(c:Option Int):WL->Bool
 |[]=>true
 |x::xs=>Ak x 1 500000000000 && Lo r c x && Vw r (some x) xs
def Z26(r:Int)(prev:Option Int){xs:WL}{k:Nat}(h:k<xs.length):Vw r prev (xs.drop k)=(Ak xs[k] 1 500000000000 && Lo r prev xs[k] && Vw r (some xs[k]) (xs.drop (k+1))):=by
 rw[Yh h,Vw]
def G6(n:Int)(qa:List Zd)(p:Zj):Bool:=decide (JS n qa p.Steps=Z7 n qa)
def a9(n:Int)(qa:List Zd)(b:Z6):Bool :=
 Ak b.Version 1 999 && Ak b.Ratio 2 8 && Ak b.Slack 0 100 && Ak (Xd b.Box.Low b.Box.High) 1 400 && decide ((b.Box.Low.length:Int)=Z7 n qa+1)
def QW(n:Int)(qa:List Zd)(b:Z6):Bool :=
 Z3 n qa && a9 n qa b && b.Plans.all (G6 n qa) && Vw b.Ratio none b.Budgets && b.Contours.all (UO b.Plans.length) && (decide (0<b.Budgets.length) && decide (b.Contours.length=b.Budgets.length))
def VJ(xs:WL):Nat->Option Int
 |0=>none
 |k+1=>xs[k]?
def ext:ZE:=λ_ _ _=>none
open Go.ChangeShapes Go.WideShapes Go.ChangeAt Go.RowKit
def own:ownKnob Tryz.prog.godebug=none:=by kernel_rfl
def laidOut:laidOutB Tryz.prog=true:=by kernel_rfl
noncomputable def Af:Nat->Option Ab:=CT Tryz.prog [9000003,9000005,10000005,10000006,9000017,10000017,17,18,9000019,10000019,19,12000020,20,10000021,10000022,10000023,32,10000034,34,9000035,6000035,35,9000036,10000036,36,37,38,10000039,39,40,9000041,10000041,41,6000042,12000042,42,43,1000054,77,6000079,6000080,80,6000081,81,6000084,9000085,10000085,85,6000086,12000086,87,88,6000089,89,6000103,1000104,1000111,124,6000129,6000131,6000141,149,1000151,1000155,10000170,174,6000175,6000184,6000185,8000198,6000199,6000211,7000211,6000214,6000220,9000221,6000222,6000223,8000223,6000227,6000228,6000230,7000230,9000234,6000234,7000234,6000235]
noncomputable def Zi(f:Nat)(fn:Func):Option Ab:=GI Tryz.prog (EV [9000003,9000005,10000005,10000006,9000017,10000017,17,18,9000019,10000019,19,12000020,20,10000021,10000022,10000023,32,10000034,34,9000035,6000035,35,9000036,10000036,36,37,38,10000039,39,40,9000041,10000041,41,6000042,12000042,42,43,1000054,77,6000079,6000080,80,6000081,81,6000084,9000085,10000085,85,6000086,12000086,87,88,6000089,89,6000103,1000104,1000111,124,6000129,6000131,6000141,149,1000151,1000155,10000170,174,6000175,6000184,6000185,8000198,6000199,6000211,7000211,6000214,6000220,9000221,6000222,6000223,8000223,6000227,6000228,6000230,7000230,9000234,6000234,7000234,6000235] f) (ZqW fn) fn
noncomputable def C:ZE:=W6 ext Af
def run{f:Nat}{xs:XQ}{m:Ab}(ht:Af f=some m)(hl:xs.length=m.np){r:XS}(h:Ev C [.fin 0 m.res] m.body ⟨Kx xs 0,[[]],[]⟩=some r):C f xs []=some r:=Z1Y (h0:=[]) ht hl h
def XD{f:Nat}{xs:XQ}{h0:WM}{m:Ab}(ht:Af f=some m)(hl:xs.length=m.np){r:XS}(h:Ev C [.fin h0.length m.res] m.body ⟨Kx xs 0,[QQ h0 0],h0⟩=some r):C f xs h0=some r:=Z1Y ht hl h
abbrev ZDi:Nat:=3
abbrev ZV:Nat:=3
abbrev t_bool:Nat:=4
abbrev ZDj:Nat:=9
abbrev Z27:Nat:=44
abbrev Z28:Nat:=105
abbrev Lp:Nat:=185
