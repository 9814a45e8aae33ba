/-
  Parts of the proofs for this seat: PW EX H.
-/
import Derived.Test.YthpdbpfamhcgiaaGreatRows
import Derived.Test.YthpdbpfamhcgiaaGreatP7
set_option linter.all false
set_option maxRecDepth 100000
set_option maxHeartbeats 4000000
namespace Go.Proofs.YthpdbpfamhcgiaaGreat
open Go.AM
noncomputable section
def inR(a b c:Int):Bool:=decide (b<=a/\a<=c)
def Xt(c:Int):Int:=if c<0 then -1 else if c=0 then 0 else if c=1 then 1 else if c=2 then 4 else if c=3 then 16 else if c=4 then 64 else if c=5 then 256 else if c=6 then 1024 else if c=7 then 4096 else -1
def cls8{c:Int}(h:inR c 0 7=true):c=0\/c=1\/c=2\/c=3\/c=4\/c=5\/c=6\/c=7:=by
 simp[inR]at h;omega
def Z3f{c:Int}(h:inR c 0 7=false):Xt c=-1:=by
 simp[inR]at h;unfold Xt;omega
def Vt(n:Int):Int:=if n<0 then -1 else if n<=0 then 0 else if n<=1 then 1 else if n<=4 then 2 else if n<=16 then 3 else if n<=64 then 4 else if n<=256 then 5 else if n<=1024 then 6 else if n<=4096 then 7 else -1
def Zih(n:Int):Int:=Xt (Vt n)
def Zag{α:Type}(p:α->Bool){xs:List α}{i:Nat}(h:i<xs.length):(xs.drop i).all p=(p xs[i] && (xs.drop (i+1)).all p):=by
 rw[Yi h,Y5]
def ZFf{α:Type}(p:α->Bool){xs:List α}{i:Nat}(h:i<xs.length):(xs.drop i).any p=(p xs[i] || (xs.drop (i+1)).any p):=by
 rw[Yi h,Ydl]
def J6(xs:V6):Bool:=xs.all (λx=>inR x 0 7)
def Wt(xs:V6):Bool:=J6 xs && decide ((xs.length:Int)<=16)
def Z3g{xs:V6}{i:Nat}(h:i<xs.length):J6 (xs.drop i)=(inR xs[i] 0 7 && J6 (xs.drop (i+1))):=Zag _ h
def Kg:V6->V6->Bool
 |x::xs,y::ys=>decide (y<=x) && Kg xs ys
 |_,_=>true
def dom(xs ys:V6):Bool:=decide (xs.length=ys.length) && Kg xs ys
def Z3h{xs ys:V6}{i:Nat}(h:i<xs.length)(h':i<ys.length):Kg (xs.drop i) (ys.drop i)=(decide (ys[i]<=xs[i]) && Kg (xs.drop (i+1)) (ys.drop (i+1))):=by
 rw[Yi h,Yi h',Kg]
def KH(lo hi:V6):Bool:=decide (0<lo.length) && Wt lo && Wt hi && dom hi lo
def XP(a b c d:Bool):Int:=(if a then 1 else 0)+(if b then 2 else 0)+(if c then 4 else 0)+(if d then 8 else 0)
def XD(p:Nat->Bool):Int:=XP (p 0) (p 1) (p 2) (p 3)
def in4{v:Int}(h:inR v 0 3=true):v=0\/v=1\/v=2\/v=3:=by simp[inR]at h;omega
def has(xs:V6)(v:Int):Bool:=xs.any (λx=>decide (v=x))
theorem Vj{xs:V6}{v:Int}:has xs v=true↔v∈xs:=by
 simp only[has,List.any_eq_true,decide_eq_true_eq];simp
def WU(p:Nat->Bool)(vs:V6):Nat->Bool:=λu=>p u || has vs u
def Zrb(p:Nat->Bool):WU p []=p:=by funext u;simp[WU,has]
def ZFg(p:Nat->Bool)(v:Int)(vs:V6):WU (WU p [v]) vs=WU p (v::vs):=by funext u;simp[WU,has,Bool.or_assoc]
def Zrc(p:Nat->Bool){vs:V6}{i:Nat}(h:i<vs.length):WU p (vs.drop i)=WU (WU p [vs[i]]) (vs.drop (i+1)):=by
 rw[Yi h,ZFg]
def or_d:∀a b c d:Bool,orI (XP a b c d) 1=XP true b c d/\orI (XP a b c d) 2=XP a true c d/\orI (XP a b c d) 4=XP a b true d/\orI (XP a b c d) 8=XP a b c true:=by decide
def ZmG(p:Nat->Bool){v:Int}(h:inR v 0 3=true):orI (XD p) (shlI 1 v)=XD (WU p [v]):=by
 have q:=or_d (p 0) (p 1) (p 2) (p 3);rcases in4 h with rfl|rfl|rfl|rfl<;>simp[WU,has,XD,shlI,ZL,q]
def and_d:∀a b c d:Bool,(andI (shrI (XP a b c d) 0) 1=1↔a=true)/\(andI (shrI (XP a b c d) 1) 1=1↔b=true)/\(andI (shrI (XP a b c d) 2) 1=1↔c=true)/\(andI (shrI (XP a b c d) 3) 1=1↔d=true):=by decide
def ZmH(p:Nat->Bool){v:Int}(h:inR v 0 3=true):andI (shrI (XD p) v) 1=1↔p v.toNat=true:=by
 have q:=and_d (p 0) (p 1) (p 2) (p 3);rcases in4 h with rfl|rfl|rfl|rfl<;>simp[XD,q]
def and4:∀a b c d a' b' c' d':Bool,andI (XP a b c d) (XP a' b' c' d')=XP (a && a') (b && b') (c && c') (d && d'):=by decide
def Z3i(p q:Nat->Bool):andI (XD p) (XD q)=XD (λu=>p u && q u):=and4 _ _ _ _ _ _ _ _
def zero4:∀a b c d:Bool,XP a b c d=0↔(a=false/\b=false/\c=false/\d=false):=by decide
def ZFh(p:Nat->Bool):XD p=0↔∀u,u<4->p u=false:=by
 rw[XD,zero4]
 grind
def XZ{α:Type}(p:α->Bool):List α->Nat->Int
 |[],_=>-1
 |x::xs,i=>if p x=true then i else XZ p xs (i+1)
def Zii{α:Type}(p:α->Bool){xs:List α}{i:Nat}(h:i<xs.length):XZ p (xs.drop i) i=if p xs[i]=true then(i:Int)else XZ p (xs.drop (i+1)) (i+1):=by
 rw[Yi h,XZ]
def Zrd{α:Type}(p:α->Bool)(xs:List α):∀i,xs.any p=false->XZ p xs i=-1:=by
 induction xs with
 |nil=>intro i _;rfl
 |cons x xs ih=>intro i h;simp at h;simp[XZ,h];apply ih;simp;exact h.2
def Z3j{α:Type}(p:α->Bool)(xs:List α):∀i,xs.any p=true->0<=XZ p xs i:=by
 induction xs with
 |nil=>intro i h;simp at h
 |cons x xs ih =>
  intro i h;unfold XZ
  grind
abbrev tB(xs:List Bool):T:=.lst 1 (xs.map λb=>[T.bool b])
def UT(s:YA):Bool:=match s[0]? with
 |some b=>decide (s.size=1) && decide (97<=(b.toNat:Int)) && decide ((b.toNat:Int)<=122)
 |none=>false
def get0{s:YA}(h:s.size=1):∃b,s[0]?=some b:=⟨s[0],getElem?_pos s 0 (by omega)⟩
def Vk(n:Int)(c:V6):V6->Bool
 |[]=>true
 |v::rest=>inR v 0 (n-1) && !has c v && Vk n (c++[v]) rest
def ZmI(n:Int){vs:V6}{k:Nat}(h:k<vs.length):Vk n (vs.take k) (vs.drop k)=(inR vs[k] 0 (n-1) && !has (vs.take k) vs[k] && Vk n (vs.take (k+1)) (vs.drop (k+1))):=by
 conv=>lhs;rw[Yi h,Vk]
 simp
theorem Zre{n:Int}:∀{vs c:V6},Vk n c vs=true->∀v∈vs,inR v 0 (n-1)=true
 |[],_,_,v,hv=>by cases hv
 |x::xs,c,h,v,hv=>by
  simp only[Vk,Yg]at h
  cases hv with
  |head=>exact h.1.1
  |tail _ hv=>exact Zre h.2 v hv
def Vu(n:Int)(a:Ze):Bool:=UT a.Zq && inR a.Za.length 1 3 && Vk n [] a.Za
def U1(p:Nat->Bool)(qa:List Ze):Nat->Bool:=λu=>p u || qa.any λa=>has a.Za u
def Z3k(p:Nat->Bool){qa:List Ze}{i:Nat}(h:i<qa.length):U1 p (qa.drop i)=U1 (WU p qa[i].Za) (qa.drop (i+1)):=by
 rw[Yi h];funext u;simp only[U1,Ydl,WU,Bool.or_assoc]
def Z9(n:Int)(qa:List Ze):Bool :=
 inR n 1 4 && inR qa.length 1 4 && qa.all (Vu n) && (List.range n.toNat).all (U1 (λ_=>false) qa)
def bl(p:Nat->Bool)(n:Nat):V5:=(List.range n).map λu=>[T.bool (p u)]
@[simp] def bl_get(p:Nat->Bool)(n i:Nat)(h:i<(bl p n).length):(bl p n)[i]=[T.bool (p i)]:=by simp[bl]
def bl_any(p:Nat->Bool)(n:Nat):((List.range n).map p).any (λx=>false == x)=!(List.range n).all p:=by
 grind
def ZmJ:∀a b c d:Bool,(XP a b c d=1↔(a=true/\b=false/\c=false/\d=false))/\(XP a b c d=3↔(a=true/\b=true/\c=false/\d=false))/\(XP a b c d=7↔(a=true/\b=true/\c=true/\d=false))/\(XP a b c d=15↔(a=true/\b=true/\c=true/\d=true)):=by decide
def all_in{n:Int}{qa:List Ze}(h:qa.all (Vu n)=true):∀u:Int,n<=u->qa.any (λa=>has a.Za u)=false:=by
 intro u hu;rw[Ydm];intro a ha hc;rw[Vj]at hc;have:=Yl.1 h a ha;simp only[Vu,Yg]at this;have:=Zre this.2 _ hc;simp[inR]at this;omega
def ZX(n:Int)(qa:List Ze):Int:=if Z9 n qa=true then shlI 1 qa.length-1 else 0
theorem Zc2{n:Int}{qa:List Ze}(h:Z9 n qa=true):(qa.length=1\/qa.length=2\/qa.length=3\/qa.length=4)/\shlI 1 qa.length=2 ^ qa.length/\IntKind.wrap .i64 (shlI 1 qa.length-1)=shlI 1 qa.length-1/\IntKind.wrap .i64 (shlI 1 qa.length-1+1)=shlI 1 qa.length-1+1:=by
 simp only[Z9,Yg]at h;have h2:=h.1.1.2;simp[inR]at h2;have h3:qa.length=1\/qa.length=2\/qa.length=3\/qa.length=4:=by omega
 refine⟨h3,?_⟩;rcases h3 with h3|h3|h3|h3<;>rw[h3]<;>decide
def ZmK(n:Int)(qa:List Ze):IntKind.wrap .i64 (ZX n qa+1)=ZX n qa+1:=by
 unfold ZX;split
 .grind [Zc2]
 .decide
def Xc(m:Int)(i:Nat):Bool:=decide (andI (shrI m i) 1=1)
def Wa(m:Int):List Ze->Nat->Int->Bool
 |[],_,_=>false
 |a::as',i,u=>(Xc m i && has a.Za u) || Wa m as' (i+1) u
theorem Zrf(m:Int){qa:List Ze}{i:Nat}(h:i<qa.length)(u:Int):Wa m (qa.drop i) i u=((Xc m i && has qa[i].Za u) || Wa m (qa.drop (i+1)) (i+1) u):=by
 rw[Yi h,Wa]
def pV(m:Int)(qa:List Ze):Nat->Bool:=λu=>Wa m qa 0 u
def ZmL(qa:List Ze):Prop:=∀a∈qa,∀v∈a.Za,inR v 0 3=true
def Zc3{n:Int}{qa:List Ze}(h:Z9 n qa=true):∀a∈qa,∀v∈a.Za,inR v 0 (n-1)=true:=by
 intro a ha v hv;simp only[Z9,Yg]at h;have:=Yl.1 h.1.2 a ha;simp only[Vu,Yg]at this
 grind [Zre]
def U2{n:Int}{qa:List Ze}(h:Z9 n qa=true):1<=n/\n<=4:=by
 simp only[Z9,Yg]at h;have:=h.1.1.1;simpa[inR]using this
theorem Wg{n:Int}{qa:List Ze}(h:Z9 n qa=true):1<=qa.length/\qa.length<=4:=by
 simp only[Z9,Yg]at h;have:=h.1.1.2;simp[inR]at this;omega
def Zah{n:Int}{qa:List Ze}(h:Z9 n qa=true):∀a∈qa,1<=a.Za.length/\a.Za.length<=3:=by
 intro a ha;simp only[Z9,Yg]at h;have:=Yl.1 h.1.2 a ha;simp only[Vu,Yg]at this;have:=this.1.2;simp[inR]at this;omega
def Zai{n:Int}{qa:List Ze}(h:Z9 n qa=true):ZmL qa:=by
 intro a ha v hv;have:=Zc3 h a ha v hv;have h2:=U2 h;simp[inR]at this|-;omega
def Zaj(m:Int)(p:Nat->Bool)(qa:List Ze)(i:Nat):Nat->Bool:=λu=>p u || Wa m (qa.drop i) i u
def ZFi(m:Int)(p:Nat->Bool){qa:List Ze}{i:Nat}(h:i<qa.length):Zaj m p qa i=Zaj m (if Xc m i=true then WU p qa[i].Za else p) qa (i+1):=by
 funext u;rw[Zaj,Zrf _ h];rcases tf (Xc m i)with e|e<;>simp[Zaj,WU,e,Bool.or_assoc]
def Xo(m:Int)(qa:List Ze)(k:Nat):V6:=((List.range k).filter (pV m qa)).map λu:Nat=>(u:Int)
def ZFj(m:Int)(qa:List Ze)(k:Nat):Xo m qa (k+1)=Xo m qa k++if Wa m qa 0 k=true then[(k:Int)]else[]:=by
 unfold Xo;rw[Yb8,Yc2,Y3];rcases tf (Wa m qa 0 k)with e|e<;>simp[pV,e]
def Zbl(m:Int)(qa:List Ze)(k:Nat):(Xo m qa k).length<=k:=by
 unfold Xo
 grind
def Zrg{α:Type}(p:α->Bool){xs:List α}{i:Nat}(h:i<xs.length):(xs.take (i+1)).filter p=(xs.take i).filter p++if p xs[i]=true then[xs[i]]else[]:=by
 grind [List.take_add_one,List.getElem?_eq_getElem]
def vin(qa:List Ze)(m v:Int):Bool:=inR v 0 3 && pV m qa v.toNat
def shr(qa:List Ze)(a b:Int):Bool:=(List.range 4).any λu=>pV a qa u && pV b qa u
def WL(st:V6)(info:List Zo)(k:Nat):Option (Int×Zo):=if k<=st.length then(match st[st.length-k]? with
 |some s=>(info[s.toNat]?).map (s,·)
 |none=>none)else none
def V0(qa:List Ze)(x:Zj)(y z:Zo):Option Int :=
 if x.Zs=3/\x.Zl=0 then some (-1)
 else if x.Zs=5/\x.Zl=0 then some y.Zl
 else if x.Zs=4/\vin qa y.Mask x.Zl=true/\vin qa z.Mask x.Zl=true/\y.Zl=x.Zl/\z.Zl=x.Zl then some x.Zl
 else none
def VE(qa:List Ze)(x:Zj)(info:List Zo)(st:V6):Option Zo :=
 if x.Zs=1 then(if inR x.Ze 0 (qa.length-1)=true/\x.Zl=0 then some ⟨shlI 1 x.Ze,(match qa[x.Ze.toNat]? with|some a=>a.Za.headD 0|none=>0),-1,-1⟩else none)
 else if x.Ze≠0 then none
 else if x.Zs=2 then(match WL st info 1 with
  |some (s,y)=>if vin qa y.Mask x.Zl=true/\y.Zl≠x.Zl then some ⟨y.Mask,x.Zl,s,-1⟩else none
  |none=>none)
 else match WL st info 2,WL st info 1 with
  |some (s,y),some (t,z)=>if andI y.Mask z.Mask=0/\shr qa y.Mask z.Mask=true then(V0 qa x y z).map (⟨orI y.Mask z.Mask,·,s,t⟩)else none
  |_,_=>none
def Um(info:List Zo)(st:V6):Prop:=∀s∈st,0<=s/\s.toNat<info.length
theorem Zc4{info:List Zo}{st:V6}(h:Um info st){k:Nat}(h1:1<=k)(h2:k<=st.length) :
  ∃s y,WL st info k=some (s,y)/\st[st.length-k]?=some s/\0<=s/\info[s.toNat]?=some y:=by
 have hlt:st.length-k<st.length:=by omega
 obtain⟨h3,h4⟩:=h _ (Ye hlt);refine⟨st[st.length-k],info[(st[st.length-k]).toNat],?_,Yf hlt,h3,Yf h4⟩;simp[WL,h2,Yf hlt,Yf h4]
def Zrh{n:Int}{qa:List Ze}(h:Z9 n qa=true){m:Int}{u:Nat}(hp:pV m qa u=true):(u:Int)<n:=by
 have:∀(l:List Ze) (i:Nat),(∀a∈l,a∈qa)->Wa m l i u=true->(u:Int)<n:=by
  intro l
  induction l with
  |nil=>intro i _ hh;simp[Wa]at hh
  |cons a l ih =>
   intro i hs hh;simp only[Wa,Ycy,Yg]at hh;rcases hh with hh|hh
   .have:=Zc3 h a (hs a (by simp)) u (Vj.1 hh.2);simp[inR]at this;omega
   .grind
 exact this qa 0 (λa ha=>ha) hp
def Zc5{n:Int}{qa:List Ze}(h:Z9 n qa=true)(m v:Int):has (Xo m qa n.toNat) v=vin qa m v:=by
 have hn:=U2 h;rw[Ybx,Vj];simp only[Xo,Yt,Ybb,Ybg,vin,Yg];constructor
 .rintro⟨u,⟨h1,h2⟩,rfl⟩;refine⟨by simp[inR];omega,by simpa using h2⟩
 .rintro⟨h1,h2⟩;have h3:=Zrh h h2;simp[inR]at h1
  grind
def ZFk{n:Int}{qa:List Ze}(h:Z9 n qa=true)(a b:Int):((Xo a qa n.toNat).filter (has (Xo b qa n.toNat))).length=0↔shr qa a b=false:=by
 have hn:=U2 h;rw[Ydj,Ych,shr,Ydm];simp only[Zc5 h];constructor
 .intro hh u hu;simp only[Ybg]at hu;simp only[Yg,not_and];intro h1 h2;have h3:=Zrh h h1;refine hh (u:Int) ?_ ?_
  .simp only[Xo,Yt,Ybb,Ybg]
   grind
  .simp only[vin,Yg];exact⟨by simp[inR];omega,by simpa using h2⟩
 .intro hh v hv;simp only[Xo,Yt,Ybb,Ybg]at hv;obtain⟨u,⟨h1,h2⟩,rfl⟩:=hv;have:=hh u (by simp only[Ybg];omega);simp only[Yg,not_and]at this;simp only[vin,Yg,not_and]
  simp_all
def ZFl{n:Int}{qa:List Ze}(h:Z9 n qa=true)(a b v:Int):has ((Xo a qa n.toNat).filter (has (Xo b qa n.toNat))) v=(vin qa a v && vin qa b v):=by
 rw[Ybx,Vj,Ybb,<-Vj,Zc5 h,Zc5 h,Yg]
def Zri(qa:List Ze)(a b:Int):andI (XD (pV a qa)) (XD (pV b qa))=0↔shr qa a b=false:=by
 rw[Z3i,ZFh,shr,Ydm];simp
def Zc6(x:Zj):Int:=if x.Zs=1 then 0 else if x.Zs=2 then 1 else 2
theorem hd0{xs:V6}(h:0<xs.length):xs.head?.getD 0=xs[0]:=by cases xs with|nil=>simp at h|cons x xs=>rfl
def Wu(y:Zo):Nat:=if 0<=y.Right then 2 else if 0<=y.Left then 1 else 0
def WM(qa:List Ze):List Zj->Nat->List Zo->V6->Option (List Zo×V6)
 |[],_,info,st=>some (info,st)
 |x::xs,i,info,st=>match VE qa x info st with
  |none=>none
  |some y=>WM qa xs (i+1) (info++[y]) (st.take (st.length-Wu y)++[(i:Int)])
def Z3l(qa:List Ze){xs:List Zj}{i:Nat}(h:i<xs.length)(info:List Zo)(st:V6):WM qa (xs.drop i) i info st=match VE qa xs[i] info st with
  |none=>none
  |some y=>WM qa (xs.drop (i+1)) (i+1) (info++[y]) (st.take (st.length-Wu y)++[(i:Int)]):=by
 rw[Yi h,WM]
def Wv(n:Int)(qa:List Ze)(c:List Zj):Option (List Zo) :=
 if Z9 n qa=true/\inR c.length 1 14=true then(match WM qa c 0 [] []with
  |some (info,st)=>if st.length=1 then some info else none
  |none=>none)else none
def Kh{st:V6}{info:List Zo}{k:Nat}{s:Int}{y:Zo}(hs:Um info st)(h1:1<=k)(h:WL st info k=some (s,y)):k<=st.length/\0<=s/\s.toNat<info.length/\info[s.toNat]?=some y:=by
 have hk:k<=st.length:=by
  unfold WL at h
  simp_all
 grind [Zc4]
def Zrj{qa:List Ze}{x:Zj}{info:List Zo}{st:V6}{y:Zo}(hs:Um info st)(h:VE qa x info st=some y) :
  Zc6 x=Wu y/\Wu y<=st.length/\(0<=y.Right↔3<=x.Zs):=by
 unfold VE at h;unfold Zc6 Wu;split at h
 .grind
 .rename_i k1;split at h
  .cases h
  .split at h
   .rename_i k2;split at h
    .rename_i s y' ht;split at h
     .cases h;obtain⟨t1,t2,_⟩:=Kh hs (Yj 1) ht;simp[k2,t2,t1]
     .cases h
    .cases h
   .rename_i k2;split at h
    .rename_i s y' t z ht hu;split at h
     .obtain⟨t1,t2,_⟩:=Kh hs (by omega:1<=2) ht;obtain⟨u1,u2,_⟩:=Kh hs (by omega:1<=1) hu;obtain⟨o,ho,rfl⟩:=Ys.1 h;have hk:x.Zs=3\/x.Zs=4\/x.Zs=5:=by
       unfold V0 at ho
       grind
      grind
     .cases h
    .cases h
def ZeN{info:List Zo}{st:V6}(hs:Um info st)(y:Zo)(k:Nat):Um (info++[y]) (st.take k++[(info.length:Int)]):=by
 intro s h;rcases Yu.1 h with h|h
 .obtain⟨h1,h2⟩:=hs s (Ybl h)
  grind
 .simp at h;subst h;simp
def Z3m{st:V6}{i k:Nat}(h:st.length<=i)(x:Int):(st.take k++[x]).length<=i+1:=by simp;omega
def Z3n{qa:List Ze}:∀{xs:List Zj} {i:Nat} {info:List Zo} {st:V6} {c:List Zo} {cc:V6},WM qa xs i info st=some (c,cc)->c.length=info.length+xs.length
 |[],_,_,_,_,_,h=>by simp[WM]at h;simp[h.1]
 |x::xs,i,info,st,c,cc,h=>by
  rw[WM]at h;split at h
  .cases h
  .have:=Z3n h;simp at this|-;omega
def Zc7{n:Int}{qa:List Ze}{steps:List Zj}{info:List Zo}(h:Wv n qa steps=some info):Z9 n qa=true/\info.length=steps.length/\1<=steps.length/\steps.length<=14:=by
 unfold Wv at h;split at h
 .rename_i hc;have h2:=hc.2;simp[inR]at h2;split at h
  .rename_i info' st hg;split at h
   .cases h;have:=Z3n hg
    grind
   .cases h
  .cases h
 .cases h
def Zc8(n:Int)(qa:List Ze)(c:List Zj):Int:=match Wv n qa c with
 |some info=>match info[info.length-1]? with
  |some y=>y.Mask
  |none=>0
 |none=>0
def ZmM{n:Int}{qa:List Ze}(h:Z9 n qa=true):0<ZX n qa:=by
 obtain⟨h1,h2,_⟩:=Zc2 h;unfold ZX
 grind
def or16:∀a b:Fin 16,orI (a.1:Int) (b.1:Int)=((a.1 ||| b.1:Nat):Int):=by decide
def or_lt{k:Nat}(hk:k<=4){a b:Int}(ha:0<=a/\a<2 ^ k)(hb:0<=b/\b<2 ^ k):0<=orI a b/\orI a b<2 ^ k:=by
 have h16:(2:Int) ^ k<=16:=by
  have:k=0\/k=1\/k=2\/k=3\/k=4:=by omega
  grind
 have e1:a=(a.toNat:Int):=by omega
 have e2:b=(b.toNat:Int):=by omega
 have l1:a.toNat<16:=by omega
 have l2:b.toNat<16:=by omega
 have e:=or16 ⟨a.toNat,l1⟩ ⟨b.toNat,l2⟩;simp only at e;rw[e1,e2,e];have c:((2 ^ k:Nat):Int)=2 ^ k:=by simp
 have m1:a.toNat<2 ^ k:=by omega
 have m2:b.toNat<2 ^ k:=by omega
 have:=Nat.or_lt_two_pow m1 m2;omega
def shl_lt{k:Nat}(hk:k<=4){v:Int}(h0:0<=v)(h1:v<k):0<=shlI 1 v/\shlI 1 v<2 ^ k:=by
 have h2:v=0\/v=1\/v=2\/v=3:=by omega
 have h3:k=0\/k=1\/k=2\/k=3\/k=4:=by omega
 rcases h2 with rfl|rfl|rfl|rfl<;>rcases h3 with rfl|rfl|rfl|rfl|rfl<;>first|omega|decide
def Zbm(k:Nat)(y:Zo):Prop:=0<=y.Mask/\y.Mask<2 ^ k
theorem ZFm{qa:List Ze}(hk:qa.length<=4){x:Zj}{info:List Zo}{st:V6}{y:Zo}(hs:Um info st)(hm:∀y∈info,Zbm qa.length y)(h:VE qa x info st=some y):Zbm qa.length y:=by
 unfold VE at h;split at h
 .split at h
  .rename_i hc;cases h;have:=hc.1;simp[inR]at this;exact shl_lt hk this.1 (by omega)
  .cases h
 .split at h
  .cases h
  .split at h
   .split at h
    .rename_i s y' ht;split at h
     .cases h;obtain⟨_,_,t3,t4⟩:=Kh hs (Yj 1) ht;exact hm y' (Y8 t4)
     .cases h
    .cases h
   .split at h
    .rename_i s y' t z ht hu;split at h
     .obtain⟨_,_,_,t4⟩:=Kh hs (by omega:1<=2) ht;obtain⟨_,_,_,u4⟩:=Kh hs (by omega:1<=1) hu;obtain⟨o,ho,rfl⟩:=Ys.1 h;exact or_lt hk (hm y' (Y8 t4)) (hm z (Y8 u4))
     .cases h
    .cases h
def Z3o{qa:List Ze}(hk:qa.length<=4):∀{xs:List Zj} {i:Nat} {info:List Zo} {st:V6} {c:List Zo} {cc:V6},WM qa xs i info st=some (c,cc)->
  Um info st->info.length=i->(∀y∈info,Zbm qa.length y)->(∀y∈c,Zbm qa.length y)/\∃tail,c=info++tail/\tail.length=xs.length/\∀(j:Nat) (y:Zo) (x:Zj),tail[j]?=some y->xs[j]?=some x->(0<=y.Right↔3<=x.Zs)
 |[],i,info,st,c,cc,h,hs,hi,hm=>by
  simp[WM]at h
  simp_all
 |x::xs,i,info,st,c,cc,h,hs,hi,hm=>by
  rw[WM]at h;split at h
  .cases h
  .rename_i y hy;have hn:=ZeN hs y (st.length-Wu y);rw[hi]at hn;have hm2:∀z∈info++[y],Zbm qa.length z:=by
    grind [ZFm]
   obtain⟨g1,tail,g2,g3,g4⟩:=Z3o hk h hn (by simp[hi]) hm2;refine⟨g1,y::tail,by simp[g2],by simp[g3],?_⟩;intro j y' x' hj hx
   cases j with
   |zero=>simp at hj hx;subst hj;subst hx;exact(Zrj hs hy).2.2
   |succ j=>exact g4 j y' x' (by simpa using hj) (by simpa using hx)
def Z3p{n:Int}{qa:List Ze}{steps:List Zj}{info:List Zo}(h:Wv n qa steps=some info) :
  (∀y∈info,Zbm qa.length y)/\∀(j:Nat) (y:Zo) (x:Zj),info[j]?=some y->steps[j]?=some x->(0<=y.Right↔3<=x.Zs):=by
 have hq:=(Zc7 h).1;unfold Wv at h;split at h
 .split at h
  .rename_i info' st hg;split at h
   .cases h;obtain⟨g1,tail,g2,g3,g4⟩:=Z3o (Wg hq).2 hg (λs hs=>by cases hs) rfl (λy hy=>by cases hy)
    grind
   .cases h
  .cases h
 .cases h
def ZFn{a b:V6}(h:dom a b=true):a.length=b.length:=by
 simp only[dom,Yg,decide_eq_true_eq]at h;exact h.1
def vol:V6->V6->Int
 |l::ls,h::hs=>(h-l+1)*vol ls hs
 |_,_=>1
def Z3q:vol [] []=1:=rfl
def Z3r{lo hi:V6}{i:Nat}(h:i<lo.length)(h':i<hi.length):vol (lo.drop i) (hi.drop i)=(hi[i]-lo[i]+1)*vol (lo.drop (i+1)) (hi.drop (i+1)):=by
 rw[Yi h,Yi h',vol]
def VX(v:Int):Int:=if 401<v then 401 else v
def Z3s:∀{xs ys:V6} (h:Kg xs ys=true) (i:Nat) (h1:i<xs.length) (h2:i<ys.length),ys[i]<=xs[i]
 |x::xs,y::ys,h,0,_,_=>by simp only[Kg,Yg,decide_eq_true_eq]at h;exact h.1
 |x::xs,y::ys,h,i+1,h1,h2=>by
  simp only[Kg,Yg,decide_eq_true_eq]at h;exact Z3s h.2 i (by simpa using h1) (by simpa using h2)
def Z3t{lo hi:V6}(h:KH lo hi=true):hi.length=lo.length/\1<=lo.length/\lo.length<=16/\∀(i:Nat) (h1:i<lo.length) (h2:i<hi.length),0<=lo[i]/\lo[i]<=hi[i]/\hi[i]<=7:=by
 simp only[KH,Yg,decide_eq_true_eq,Wt,J6,Yl]at h;have hl:=ZFn h.2;refine⟨hl,by omega,by omega,λi h1 h2=>?_⟩;have a:=h.1.1.2.1 _ (Ye h1);have b:=h.1.2.1 _ (Ye h2);have hd:=h.2;simp only[dom,Yg]at hd;have c:=Z3s hd.2 i h2 h1;simp[inR]at a b;omega
def pow8{i:Nat}(h:i<=16):(8:Int) ^ i<=281474976710656:=by
 have:(8:Nat) ^ i<=8 ^ 16:=Nat.pow_le_pow_right (by omega) h
 grind
def Zc9(lo hi:V6):Int:=if KH lo hi=true then VX (vol lo hi)else 0
def ZFo{n d:Int}(hn:1<=n)(hd:1<=d):VX (VX n*d)=VX (n*d):=by
 unfold VX;by_cases h:401<n
 .have h1:n*1<=n*d:=Int.mul_le_mul_of_nonneg_left hd (by omega)
  grind
 .rw[Yb h]
def ZFp(v:Int):(if v<401 then v else 401)=VX v:=by
 unfold VX;omega
def cap_le{v:Int}(h:1<=v):1<=VX v/\VX v<=401:=by unfold VX;split<;>omega
def ZcA(b s:Int):Int:=if inR b 0 1000000000000=true/\inR s 0 100=true then(b*(100+s)).tdiv 100 else -1
def Z3u{b s:Int}(h1:inR b 0 1000000000000=true)(h2:inR s 0 100=true):IntKind.wrap .i64 (100+s)=100+s/\IntKind.wrap .i64 (b*(100+s))=b*(100+s)/\IntKind.wrap .i64 ((b*(100+s)).tdiv 100)=(b*(100+s)).tdiv 100:=by
 simp[inR]at h1 h2;have m1:b*(100+s)<=1000000000000*200:=Int.mul_le_mul h1.2 (by omega) (by omega) (by omega)
 grind [Int.mul_nonneg,Int.tdiv_nonneg,Int.tdiv_eq_ediv_of_nonneg,ZL]
def Qo(n:Int)(vs:V6):Bool:=Vk n [] vs && decide (0<vs.length)
abbrev LeB(b:ZM):Prop:=Le b.Box.Low/\Le b.Box.ZZ/\Le b.ZQ/\Le b.Xl/\Le b.ZO/\∀c∈b.ZO,Le c
def ZeO(r:Int)(c:Option Int)(x:Int):Bool:=match c with
 |none=>true
 |some p=>decide (x=p*r)
def KJ(r:Int)(c:Option Int):V6->Bool
 |[]=>true
 |x::xs=>inR x 1 500000000000 && ZeO r c x && KJ r (some x) xs
def Z3v(r:Int)(prev:Option Int){xs:V6}{k:Nat}(h:k<xs.length):KJ r prev (xs.drop k)=(inR xs[k] 1 500000000000 && ZeO r prev xs[k] && KJ r (some xs[k]) (xs.drop (k+1))):=by
 rw[Yi h,KJ]
def ZcB(n:Int)(qa:List Ze)(p:Zg):Bool:=decide (Zc8 n qa p.Steps=ZX n qa)
def Zrk(n:Int)(qa:List Ze)(b:ZM):Bool :=
 inR b.Xh 1 999 && inR b.Xk 2 8 && inR b.XL 0 100 && inR (Zc9 b.Box.Low b.Box.ZZ) 1 400 && decide ((b.Box.Low.length:Int)=ZX n qa+1)
def Qp(n:Int)(qa:List Ze)(b:ZM):Bool :=
 Z9 n qa && Zrk n qa b && b.Xl.all (ZcB n qa) && KJ b.Xk none b.ZQ && b.ZO.all (Qo b.Xl.length) && (decide (0<b.ZQ.length) && decide (b.ZO.length=b.ZQ.length))
def VY(xs:V6):Nat->Option Int
 |0=>none
 |k+1=>xs[k]?
def Xv:V6->V6->Int
 |[],[]=>0
 |[],_::_=>-1
 |_::_,[]=>1
 |a::x,b::y=>if a<b then -1 else if b<a then 1 else Xv x y
def leR(a b:V6):Bool:=decide (Xv a b<=0)
def VF(rows:V4):V4:=rows.mergeSort leR
def WV:V4->V4
 |[]=>[]
 |[a]=>[a]
 |a::b::l=>if a=b then WV (b::l)else a::WV (b::l)
def Xg(l:V6):V6:=l.mergeSort λx y=>decide (x<=y)
def XM:V6->V6
 |[]=>[]
 |[a]=>[a]
 |a::b::l=>if a=b then XM (b::l)else a::XM (b::l)
def Z3w(es:V5)(rows:V4):Prop:=es=rows.map isc/\rows.length<=4096/\∀r∈rows,r.length<=4
def Z3x(es:V5)(l:V6):Prop:=es=l.map ic/\l.length<=4096
open Classical in
def ZeP(es:V5)(k:V4->V3):V1:=if h:∃rows,Z3w es rows then some (k h.choose)else none
open Classical in
def ZeQ(es:V5)(k:V6->V3):V1:=if h:∃l,Z3x es l then some (k h.choose)else none
def ext:Xe:=λf xs h0=>match xs,h0 with
 |[.own 0,.fn 361 []],[.arr 40 1 fr es]=>if f=360 then ZeP es λrows=>(.tup [],[.arr 40 1 fr ((VF rows).map isc)])else none
 |[.own 0,.fn 363 []],[.arr 40 1 fr es]=>if f=362 then ZeP es λrows=>(.own 1,[.dead,.arr 40 1 fr ((WV rows).map isc)])else none
 |[.own 0],[.arr 3 1 fr es]=>if f=351 then ZeQ es λl=>(.tup [],[.arr 3 1 fr ((Xg l).map ic)])else if f=407 then ZeQ es λl=>(.own 1,[.dead,.arr 3 1 fr ((XM l).map ic)])else none
 |[.t (.lst 1 [[.int .i64 (-1)]]),.t (.int .i64 n)],[]=>if f=335/\1<=n/\n<=4 then some (.own 0,[.arr 3 1 true ((List.replicate n.toNat (-1:Int)).map ic)])else none
 |_,_=>none
open Go.ChangeShapes Go.WideShapes Go.ChangeAt Go.RowKit
def own:ownKnob Tryz.prog.godebug=none:=by kernel_rfl
def laidOut:laidOutB Tryz.prog=true:=by kernel_rfl
def tbl:Nat->Option MFun:=λf=>if f=360\/f=351 then none else tblOf Tryz.prog [4000003,4000004,2000011,2000012,2000013,2000014,2000015,2000023,3000025,3000026,3000027,3000028,3000029,3000030,10000051,2000059,2000060,2000061,2000062,2000063,2000064,2000065,2000066,2000067,2000068,2000069,2000070,10000074,10000094,10000097,2000102,10000102,3000105,3000106,3000107,3000108,3000109,3000110,3000111,3000112,3000113,3000114,3000115,3000116,10000140,2000145,2000146,2000147,2000148,2000149,2000150,2000151,2000152,7000159,10000167,179,2000196,1000205,3000210,3000211,3000212,3000214,10000224,234,2000238,2000239,2000240,2000241,10000248,268,3000303,2000318,2000319,7000333,341,343,344,351,352,355,1000356,360,362,2000373,1000375,8000381,1000389,1000393,397,1000403,404,406,407,6000420,1000421,428,439,440,449,1000451,460,6000464,6000465,467] f
def Zi(f:Nat)(fn:Func):Option MFun:=JX Tryz.prog (inlOf [4000003,4000004,2000011,2000012,2000013,2000014,2000015,2000023,3000025,3000026,3000027,3000028,3000029,3000030,10000051,2000059,2000060,2000061,2000062,2000063,2000064,2000065,2000066,2000067,2000068,2000069,2000070,10000074,10000094,10000097,2000102,10000102,3000105,3000106,3000107,3000108,3000109,3000110,3000111,3000112,3000113,3000114,3000115,3000116,10000140,2000145,2000146,2000147,2000148,2000149,2000150,2000151,2000152,7000159,10000167,179,2000196,1000205,3000210,3000211,3000212,3000214,10000224,234,2000238,2000239,2000240,2000241,10000248,268,3000303,2000318,2000319,7000333,341,343,344,351,352,355,1000356,360,362,2000373,1000375,8000381,1000389,1000393,397,1000403,404,406,407,6000420,1000421,428,439,440,449,1000451,460,6000464,6000465,467] f) (Zmw fn) fn
def tbl_ok:TblOK Tryz.prog tbl:=by
 intro f m h;unfold tbl at h;split at h
 .cases h
 .exact tblOK _ _ f m h
def Zh{f:Nat}{fn:Func}{m:MFun}(hf:Tryz.prog.funcs[f]?=some fn)(hc:K7 Tryz.prog f=true:=by kernel_rfl)(h:JX Tryz.prog (inlOf [4000003,4000004,2000011,2000012,2000013,2000014,2000015,2000023,3000025,3000026,3000027,3000028,3000029,3000030,10000051,2000059,2000060,2000061,2000062,2000063,2000064,2000065,2000066,2000067,2000068,2000069,2000070,10000074,10000094,10000097,2000102,10000102,3000105,3000106,3000107,3000108,3000109,3000110,3000111,3000112,3000113,3000114,3000115,3000116,10000140,2000145,2000146,2000147,2000148,2000149,2000150,2000151,2000152,7000159,10000167,179,2000196,1000205,3000210,3000211,3000212,3000214,10000224,234,2000238,2000239,2000240,2000241,10000248,268,3000303,2000318,2000319,7000333,341,343,344,351,352,355,1000356,360,362,2000373,1000375,8000381,1000389,1000393,397,1000403,404,406,407,6000420,1000421,428,439,440,449,1000451,460,6000464,6000465,467] f) (Zmw fn) fn=some m:=by kernel_rfl)(hne:¬(f=360\/f=351):=by decide):tbl f=some m:=by
 unfold tbl;rw[Yb hne];exact tblOf_eq hf hc h
def C:Xe:=XJ ext tbl
def run{f:Nat}{xs:V2}{m:MFun}(ht:tbl f=some m)(hl:xs.length=m.np){r:V3}(h:Ev C [.fin 0 m.res] m.body ⟨K6 xs 0,[[]],[]⟩=some r):C f xs []=some r:=ZhZ (h0:=[]) ht hl h
def W8{f:Nat}{xs:V2}{h0:V7}{m:MFun}(ht:tbl f=some m)(hl:xs.length=m.np){r:V3}(h:Ev C [.fin h0.length m.res] m.body ⟨K6 xs 0,[QY h0 0],h0⟩=some r):C f xs h0=some r:=ZhZ ht hl h
abbrev ZFq:Nat:=3
abbrev ZFr:Nat:=5
abbrev ZFs:Nat:=6
abbrev ZFt:Nat:=7
abbrev ZFu:Nat:=8
abbrev ZFv:Nat:=9
abbrev ZFw:Nat:=11
abbrev ZFx:Nat:=12
abbrev ZFy:Nat:=13
abbrev ZFz:Nat:=14
abbrev ZF0:Nat:=15
abbrev ZF1:Nat:=17
abbrev ZF2:Nat:=18
abbrev ZF3:Nat:=19
abbrev ZF4:Nat:=20
abbrev ZF5:Nat:=21
abbrev ZF6:Nat:=33
abbrev ZF7:Nat:=34
abbrev ZF8:Nat:=35
abbrev ZF9:Nat:=36
abbrev ZFA:Nat:=37
abbrev ZFB:Nat:=38
abbrev ZFC:Nat:=39
abbrev ZFD:Nat:=40
abbrev ZFE:Nat:=41
abbrev ZFF:Nat:=42
abbrev ZFG:Nat:=43
abbrev ZFH:Nat:=44
abbrev ZFI:Nat:=59
abbrev ZFJ:Nat:=60
abbrev ZFK:Nat:=61
abbrev ZFL:Nat:=62
abbrev ZFM:Nat:=63
abbrev ZFN:Nat:=64
abbrev ZFO:Nat:=65
abbrev ZFP:Nat:=66
abbrev ZFQ:Nat:=67
abbrev ZFR:Nat:=68
abbrev ZFS:Nat:=69
abbrev ZFT:Nat:=70
abbrev ZFU:Nat:=82
abbrev ZFV:Nat:=83
abbrev ZFW:Nat:=84
abbrev ZFX:Nat:=85
abbrev ZFY:Nat:=86
abbrev ZFZ:Nat:=87
abbrev ZGa:Nat:=88
abbrev ZGb:Nat:=89
abbrev ZGc:Nat:=90
abbrev ZGd:Nat:=91
abbrev ZGe:Nat:=92
abbrev ZGf:Nat:=93
abbrev ZGg:Nat:=120
abbrev ZGh:Nat:=121
abbrev ZGi:Nat:=122
abbrev ZGj:Nat:=123
abbrev ZGk:Nat:=124
abbrev ZGl:Nat:=125
abbrev ZGm:Nat:=126
abbrev ZGn:Nat:=145
abbrev ZGo:Nat:=146
abbrev ZGp:Nat:=147
abbrev ZGq:Nat:=148
abbrev ZGr:Nat:=149
abbrev ZGs:Nat:=150
abbrev ZGt:Nat:=151
abbrev ZGu:Nat:=152
abbrev ZGv:Nat:=171
abbrev ZGw:Nat:=172
abbrev ZGx:Nat:=173
abbrev ZGy:Nat:=174
abbrev ZGz:Nat:=175
abbrev ZG0:Nat:=176
abbrev ZG1:Nat:=177
abbrev ZG2:Nat:=178
abbrev ZG3:Nat:=217
abbrev ZG4:Nat:=218
abbrev ZG5:Nat:=219
abbrev ZG6:Nat:=238
abbrev ZG7:Nat:=239
abbrev ZG8:Nat:=240
abbrev ZG9:Nat:=241
abbrev ZGA:Nat:=264
abbrev ZGB:Nat:=265
abbrev ZGC:Nat:=266
abbrev ZGD:Nat:=267
abbrev ZGE:Nat:=304
abbrev ZGF:Nat:=318
abbrev ZGG:Nat:=319
abbrev ZGH:Nat:=338
abbrev ZGI:Nat:=339
abbrev ZGJ:Nat:=365
abbrev ZGK:Nat:=373
abbrev ZGL:Nat:=386
abbrev Xm:Nat:=3
abbrev t_bool:Nat:=4
abbrev Zbn:Nat:=40
abbrev Z3y:Nat:=170
abbrev Z3z:Nat:=172
abbrev Zrl:Nat:=209
abbrev Z30:Nat:=212
abbrev Z31:Nat:=228
abbrev Z32:Nat:=230
abbrev ZcC:Nat:=255
abbrev Z33:Nat:=258
abbrev ZcD:Nat:=308
abbrev Zrm:Nat:=314
abbrev Z34:Nat:=389
end
