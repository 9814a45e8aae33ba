/-
  Parts of the proofs for this seat: PW EX H.
-/
import Derived.Test.YthdihnbeifcppaaGreatRows
import Derived.Test.YthdihnbeifcppaaGreatP8
set_option linter.all false
set_option maxRecDepth 100000
set_option maxHeartbeats 4000000
namespace Go.Proofs.YthdihnbeifcppaaGreat
open Go.AM
noncomputable section
def inR(a b c:Int):Bool:=decide (b<=a/\a<=c)
def W5(c:Int):Int:=if c<0 then -1 else if c=0 then 0 else if c=1 then 1 else if c=2 then 4 else if c=3 then 16 else if c=4 then 64 else if c=5 then 256 else if c=6 then 1024 else if c=7 then 4096 else -1
def cls8{c:Int}(h:inR c 0 7=true):c=0\/c=1\/c=2\/c=3\/c=4\/c=5\/c=6\/c=7:=by
 simp[inR]at h;omega
def ZxB{c:Int}(h:inR c 0 7=false):W5 c=-1:=by
 simp[inR]at h;unfold W5;split
 .rfl
 .repeat' split
  all_goals omega
def Zfm{α:Type}(p:α->Bool){xs:List α}{i:Nat}(h:i<xs.length):(xs.drop i).all p=(p xs[i] && (xs.drop (i+1)).all p):=by
 rw[Yi h,Ybh]
def Z9o{α:Type}(p:α->Bool){xs:List α}{i:Nat}(h:i<xs.length):(xs.drop i).any p=(p xs[i] || (xs.drop (i+1)).any p):=by
 rw[Yi h,Ydl]
def Zaa(xs:V6):Bool:=xs.all (λx=>inR x 0 7)
def XP(xs:V6):Bool:=Zaa xs && decide ((xs.length:Int)<=16)
def ZxC{xs:V6}{i:Nat}(h:i<xs.length):Zaa (xs.drop i)=(inR xs[i] 0 7 && Zaa (xs.drop (i+1))):=Zfm _ h
def Jp:V6->V6->Bool
 |x::xs,y::ys=>decide (y<=x) && Jp xs ys
 |_,_=>true
def dom(xs ys:V6):Bool:=decide (xs.length=ys.length) && Jp xs ys
def ZxD{xs ys:V6}{i:Nat}(h:i<xs.length)(h':i<ys.length):Jp (xs.drop i) (ys.drop i)=(decide (ys[i]<=xs[i]) && Jp (xs.drop (i+1)) (ys.drop (i+1))):=by
 rw[Yi h,Yi h',Jp]
def Jq(lo hi:V6):Bool:=decide (0<lo.length) && XP lo && XP hi && dom hi lo
def Xw(a b c d:Bool):Int:=(if a then 1 else 0)+(if b then 2 else 0)+(if c then 4 else 0)+(if d then 8 else 0)
def Xq(p:Nat->Bool):Int:=Xw (p 0) (p 1) (p 2) (p 3)
def in4{v:Int}(h:inR v 0 3=true):v=0\/v=1\/v=2\/v=3:=by simp[inR]at h;omega
def has(xs:V6)(v:Int):Bool:=xs.any (λx=>decide (v=x))
def Zab{xs:V6}{v:Int}:has xs v=true↔v∈xs:=by
 simp only[has,List.any_eq_true,decide_eq_true_eq];exact⟨λ⟨x,h,e⟩=>e▸h,λh=>⟨v,h,rfl⟩⟩
def Wf(p:Nat->Bool)(vs:V6):Nat->Bool:=λu=>p u || has vs u
def Zn6(p:Nat->Bool):Wf p []=p:=by funext u;simp[Wf,has]
def Z9p(p:Nat->Bool)(v:Int)(vs:V6):Wf (Wf p [v]) vs=Wf p (v::vs):=by funext u;simp[Wf,has,Bool.or_assoc]
def Zn7(p:Nat->Bool){vs:V6}{i:Nat}(h:i<vs.length):Wf p (vs.drop i)=Wf (Wf p [vs[i]]) (vs.drop (i+1)):=by
 rw[Yi h,Z9p]
def or_d:∀a b c d:Bool,orI (Xw a b c d) 1=Xw true b c d/\orI (Xw a b c d) 2=Xw a true c d/\orI (Xw a b c d) 4=Xw a b true d/\orI (Xw a b c d) 8=Xw a b c true:=by decide
def Zj7(p:Nat->Bool){v:Int}(h:inR v 0 3=true):orI (Xq p) (shlI 1 v)=Xq (Wf p [v]):=by
 have q:=or_d (p 0) (p 1) (p 2) (p 3);rcases in4 h with rfl|rfl|rfl|rfl<;>simp[Wf,has,Xq,shlI,Z1,q]
def and_d:∀a b c d:Bool,(andI (shrI (Xw a b c d) 0) 1=1↔a=true)/\(andI (shrI (Xw a b c d) 1) 1=1↔b=true)/\(andI (shrI (Xw a b c d) 2) 1=1↔c=true)/\(andI (shrI (Xw a b c d) 3) 1=1↔d=true):=by decide
def Zn8(p:Nat->Bool){v:Int}(h:inR v 0 3=true):andI (shrI (Xq p) v) 1=1↔p v.toNat=true:=by
 have q:=and_d (p 0) (p 1) (p 2) (p 3);rcases in4 h with rfl|rfl|rfl|rfl<;>simp[Xq,q]
def and4:∀a b c d a' b' c' d':Bool,andI (Xw a b c d) (Xw a' b' c' d')=Xw (a && a') (b && b') (c && c') (d && d'):=by decide
def ZxE(p q:Nat->Bool):andI (Xq p) (Xq q)=Xq (λu=>p u && q u):=and4 _ _ _ _ _ _ _ _
def zero4:∀a b c d:Bool,Xw a b c d=0↔(a=false/\b=false/\c=false/\d=false):=by decide
def Z9q(p:Nat->Bool):Xq p=0↔∀u,u<4->p u=false:=by
 rw[Xq,zero4];constructor
 .rintro⟨h0,h1,h2,h3⟩ u hu
  match u,hu with
  |0,_=>exact h0
  |1,_=>exact h1
  |2,_=>exact h2
  |3,_=>exact h3
 .intro h;exact⟨h 0 (by omega),h 1 (by omega),h 2 (by omega),h 3 (by omega)⟩
def WT{α:Type}(p:α->Bool):List α->Nat->Int
 |[],_=>-1
 |x::xs,i=>if p x=true then i else WT p xs (i+1)
def Zn9{α:Type}(p:α->Bool){xs:List α}{i:Nat}(h:i<xs.length):WT p (xs.drop i) i=if p xs[i]=true then(i:Int)else WT p (xs.drop (i+1)) (i+1):=by
 rw[Yi h,WT]
def ZxF{α:Type}(p:α->Bool)(xs:List α):∀i,xs.any p=false->WT p xs i=-1:=by
 induction xs with
 |nil=>intro i _;rfl
 |cons x xs ih=>intro i h;simp at h;simp[WT,h];apply ih;simp;exact h.2
def ZxG{α:Type}(p:α->Bool)(xs:List α):∀i,xs.any p=true->0<=WT p xs i:=by
 induction xs with
 |nil=>intro i h;simp at h
 |cons x xs ih =>
  intro i h;unfold WT;split
  .omega
  .rename_i hx;simp only[Ydl,hx,Ybz]at h;exact ih _ h
abbrev tB(xs:List Bool):T:=.lst 1 (xs.map λb=>[T.bool b])
def VH(s:UP):Bool:=match s[0]? with
 |some b=>decide (s.size=1) && decide (97<=(b.toNat:Int)) && decide ((b.toNat:Int)<=122)
 |none=>false
def get0{s:UP}(h:s.size=1):∃b,s[0]?=some b:=⟨s[0],getElem?_pos s 0 (by omega)⟩
def UZ(n:Int)(c:V6):V6->Bool
 |[]=>true
 |v::rest=>inR v 0 (n-1) && !has c v && UZ n (c++[v]) rest
def ZxH(n:Int){vs:V6}{k:Nat}(h:k<vs.length):UZ n (vs.take k) (vs.drop k)=(inR vs[k] 0 (n-1) && !has (vs.take k) vs[k] && UZ n (vs.take (k+1)) (vs.drop (k+1))):=by
 conv=>lhs;rw[Yi h,UZ]
 rw[List.take_add_one,Yf h];rfl
def ZnA{n:Int}:∀{vs c:V6},UZ n c vs=true->∀v∈vs,inR v 0 (n-1)=true
 |[],_,_,v,hv=>by cases hv
 |x::xs,c,h,v,hv=>by
  simp only[UZ,Yg]at h
  cases hv with
  |head=>exact h.1.1
  |tail _ hv=>exact ZnA h.2 v hv
def WU(n:Int)(a:Ze):Bool:=VH a.Name && inR a.Vars.length 1 3 && UZ n [] a.Vars
def VI(p:Nat->Bool)(qa:List Ze):Nat->Bool:=λu=>p u || qa.any λa=>has a.Vars u
def ZxI(p:Nat->Bool){qa:List Ze}{i:Nat}(h:i<qa.length):VI p (qa.drop i)=VI (Wf p qa[i].Vars) (qa.drop (i+1)):=by
 rw[Yi h];funext u;simp only[VI,Ydl,Wf,Bool.or_assoc]
def Z6(n:Int)(qa:List Ze):Bool :=
 inR n 1 4 && inR qa.length 1 4 && qa.all (WU n) && (List.range n.toNat).all (VI (λ_=>false) qa)
def bl(p:Nat->Bool)(n:Nat):V5:=(List.range n).map λu=>[T.bool (p u)]
@[simp] def bl_get(p:Nat->Bool)(n i:Nat)(h:i<(bl p n).length):(bl p n)[i]=[T.bool (p i)]:=by simp[bl]
def bl_any(p:Nat->Bool)(n:Nat):((List.range n).map p).any (λx=>false == x)=!(List.range n).all p:=by
 rw[List.any_map,Ybv];simp
def Zj8:∀a b c d:Bool,(Xw a b c d=1↔(a=true/\b=false/\c=false/\d=false))/\(Xw a b c d=3↔(a=true/\b=true/\c=false/\d=false))/\(Xw a b c d=7↔(a=true/\b=true/\c=true/\d=false))/\(Xw a b c d=15↔(a=true/\b=true/\c=true/\d=true)):=by decide
def all_in{n:Int}{qa:List Ze}(h:qa.all (WU n)=true):∀u:Int,n<=u->qa.any (λa=>has a.Vars u)=false:=by
 intro u hu;rw[Yde];intro a ha hc;rw[Zab]at hc;have:=Yy.1 h a ha;simp only[WU,Yg]at this;have:=ZnA this.2 _ hc;simp[inR]at this;omega
def ZW(n:Int)(qa:List Ze):Int:=if Z6 n qa=true then shlI 1 qa.length-1 else 0
def Zbo{n:Int}{qa:List Ze}(h:Z6 n qa=true):(qa.length=1\/qa.length=2\/qa.length=3\/qa.length=4)/\shlI 1 qa.length=2 ^ qa.length/\IntKind.wrap .i64 (shlI 1 qa.length-1)=shlI 1 qa.length-1/\IntKind.wrap .i64 (shlI 1 qa.length-1+1)=shlI 1 qa.length-1+1:=by
 simp only[Z6,Yg]at h;have h2:=h.1.1.2;simp[inR]at h2;have h3:qa.length=1\/qa.length=2\/qa.length=3\/qa.length=4:=by omega
 refine⟨h3,?_⟩;rcases h3 with h3|h3|h3|h3<;>rw[h3]<;>decide
def Zj9(n:Int)(qa:List Ze):IntKind.wrap .i64 (ZW n qa+1)=ZW n qa+1:=by
 unfold ZW;split
 .rename_i h;exact(Zbo h).2.2.2
 .decide
def ZcK(n:Int)(qa:List Ze)(lo hi:V6):Bool:=Jq lo hi && decide ((lo.length:Int)=ZW n qa+1)
def ZP(m:Int)(i:Nat):Bool:=decide (andI (shrI m i) 1=1)
def Wx(m:Int):List Ze->Nat->Int->Bool
 |[],_,_=>false
 |a::as',i,u=>(ZP m i && has a.Vars u) || Wx m as' (i+1) u
def ZnB(m:Int){qa:List Ze}{i:Nat}(h:i<qa.length)(u:Int):Wx m (qa.drop i) i u=((ZP m i && has qa[i].Vars u) || Wx m (qa.drop (i+1)) (i+1) u):=by
 rw[Yi h,Wx]
def pV(m:Int)(qa:List Ze):Nat->Bool:=λu=>Wx m qa 0 u
def ZjA(qa:List Ze):Prop:=∀a∈qa,∀v∈a.Vars,inR v 0 3=true
def ZjB{n:Int}{qa:List Ze}(h:Z6 n qa=true):∀a∈qa,∀v∈a.Vars,inR v 0 (n-1)=true:=by
 intro a ha v hv;simp only[Z6,Yg]at h;have:=Yy.1 h.1.2 a ha;simp only[WU,Yg]at this;exact ZnA this.2 v hv
def Q2{n:Int}{qa:List Ze}(h:Z6 n qa=true):1<=n/\n<=4:=by
 simp only[Z6,Yg]at h;have:=h.1.1.1;simpa[inR]using this
def WH{n:Int}{qa:List Ze}(h:Z6 n qa=true):1<=qa.length/\qa.length<=4:=by
 simp only[Z6,Yg]at h;have:=h.1.1.2;simp[inR]at this;omega
def ZcL{n:Int}{qa:List Ze}(h:Z6 n qa=true):∀a∈qa,1<=a.Vars.length/\a.Vars.length<=3:=by
 intro a ha;simp only[Z6,Yg]at h;have:=Yy.1 h.1.2 a ha;simp only[WU,Yg]at this;have:=this.1.2;simp[inR]at this;omega
def Zbp{n:Int}{qa:List Ze}(h:Z6 n qa=true):ZjA qa:=by
 intro a ha v hv;have:=ZjB h a ha v hv;have h2:=Q2 h;simp[inR]at this|-;omega
def KF(m:Int)(p:Nat->Bool)(qa:List Ze)(i:Nat):Nat->Bool:=λu=>p u || Wx m (qa.drop i) i u
def Z9r(m:Int)(p:Nat->Bool){qa:List Ze}{i:Nat}(h:i<qa.length):KF m p qa i=KF m (if ZP m i=true then Wf p qa[i].Vars else p) qa (i+1):=by
 funext u;rw[KF,ZnB _ h];rcases tf (ZP m i)with e|e<;>simp[KF,Wf,e,Bool.or_assoc]
def Xx(m:Int)(qa:List Ze)(k:Nat):V6:=((List.range k).filter (pV m qa)).map λu:Nat=>(u:Int)
def Z9s(m:Int)(qa:List Ze)(k:Nat):Xx m qa (k+1)=Xx m qa k++if Wx m qa 0 k=true then[(k:Int)]else[]:=by
 unfold Xx;rw[Yc6,Yc7,Ybi];rcases tf (Wx m qa 0 k)with e|e<;>simp[pV,e]
def ZcM(m:Int)(qa:List Ze)(k:Nat):(Xx m qa k).length<=k:=by
 unfold Xx;simp;exact Y1 (Ybs _ _) (by simp)
def ZnC{α:Type}(p:α->Bool){xs:List α}{i:Nat}(h:i<xs.length):(xs.take (i+1)).filter p=(xs.take i).filter p++if p xs[i]=true then[xs[i]]else[]:=by
 rw[List.take_add_one,Yf h,Yc7];rcases tf (p xs[i])with e|e<;>simp[e]
def vin(qa:List Ze)(m v:Int):Bool:=inR v 0 3 && pV m qa v.toNat
def shr(qa:List Ze)(a b:Int):Bool:=(List.range 4).any λu=>pV a qa u && pV b qa u
def Wn(st:V6)(info:List Zt)(k:Nat):Option (Int×Zt):=if k<=st.length then(match st[st.length-k]? with
 |some s=>(info[s.toNat]?).map (s,·)
 |none=>none)else none
def WX(qa:List Ze)(x:Zh)(y z:Zt):Option Int :=
 if x.Kind=3/\x.Order=0 then some (-1)
 else if x.Kind=5/\x.Order=0 then some y.Order
 else if x.Kind=4/\vin qa y.Mask x.Order=true/\vin qa z.Mask x.Order=true/\y.Order=x.Order/\z.Order=x.Order then some x.Order
 else none
def Vz(qa:List Ze)(x:Zh)(info:List Zt)(st:V6):Option Zt :=
 if x.Kind=1 then(if inR x.Ze 0 (qa.length-1)=true/\x.Order=0 then some ⟨shlI 1 x.Ze,(match qa[x.Ze.toNat]? with|some a=>a.Vars.headD 0|none=>0),-1,-1⟩else none)
 else if x.Ze≠0 then none
 else if x.Kind=2 then(match Wn st info 1 with
  |some (s,y)=>if vin qa y.Mask x.Order=true/\y.Order≠x.Order then some ⟨y.Mask,x.Order,s,-1⟩else none
  |none=>none)
 else match Wn st info 2,Wn st info 1 with
  |some (s,y),some (t,z)=>if andI y.Mask z.Mask=0/\shr qa y.Mask z.Mask=true then(WX qa x y z).map (⟨orI y.Mask z.Mask,·,s,t⟩)else none
  |_,_=>none
def Ug(info:List Zt)(st:V6):Prop:=∀s∈st,0<=s/\s.toNat<info.length
def Zbq{info:List Zt}{st:V6}(h:Ug info st){k:Nat}(h1:1<=k)(h2:k<=st.length) :
  ∃s y,Wn st info k=some (s,y)/\st[st.length-k]?=some s/\0<=s/\info[s.toNat]?=some y:=by
 have hlt:st.length-k<st.length:=by omega
 obtain⟨h3,h4⟩:=h _ (Yc hlt);refine⟨st[st.length-k],info[(st[st.length-k]).toNat],?_,Yf hlt,h3,Yf h4⟩;simp[Wn,h2,Yf hlt,Yf h4]
def ZnD{n:Int}{qa:List Ze}(h:Z6 n qa=true){m:Int}{u:Nat}(hp:pV m qa u=true):(u:Int)<n:=by
 have:∀(l:List Ze) (i:Nat),(∀a∈l,a∈qa)->Wx m l i u=true->(u:Int)<n:=by
  intro l
  induction l with
  |nil=>intro i _ hh;simp[Wx]at hh
  |cons a l ih =>
   intro i hs hh;simp only[Wx,Yc3,Yg]at hh;rcases hh with hh|hh
   .have:=ZjB h a (hs a (by simp)) u (Zab.1 hh.2);simp[inR]at this;omega
   .exact ih (i+1) (λb hb=>hs b (by simp[hb])) hh
 exact this qa 0 (λa ha=>ha) hp
def Zfn{n:Int}{qa:List Ze}(h:Z6 n qa=true)(m v:Int):has (Xx m qa n.toNat) v=vin qa m v:=by
 have hn:=Q2 h;rw[Ybv,Zab];simp only[Xx,Yr,Ybc,Yb7,vin,Yg];constructor
 .rintro⟨u,⟨h1,h2⟩,rfl⟩;refine⟨by simp[inR];omega,by simpa using h2⟩
 .rintro⟨h1,h2⟩;have h3:=ZnD h h2;simp[inR]at h1;exact⟨v.toNat,⟨by omega,h2⟩,by omega⟩
def Z9t{n:Int}{qa:List Ze}(h:Z6 n qa=true)(a b:Int):((Xx a qa n.toNat).filter (has (Xx b qa n.toNat))).length=0↔shr qa a b=false:=by
 have hn:=Q2 h;rw[Ycn,Ycp,shr,Yde];simp only[Zfn h];constructor
 .intro hh u hu;simp only[Yb7]at hu;simp only[Yg,not_and];intro h1 h2;have h3:=ZnD h h1;refine hh (u:Int) ?_ ?_
  .simp only[Xx,Yr,Ybc,Yb7];exact⟨u,⟨by omega,h1⟩,rfl⟩
  .simp only[vin,Yg];exact⟨by simp[inR];omega,by simpa using h2⟩
 .intro hh v hv;simp only[Xx,Yr,Ybc,Yb7]at hv;obtain⟨u,⟨h1,h2⟩,rfl⟩:=hv;have:=hh u (by simp only[Yb7];omega);simp only[Yg,not_and]at this;simp only[vin,Yg,not_and];intro _;simpa using this h2
def Z9u{n:Int}{qa:List Ze}(h:Z6 n qa=true)(a b v:Int):has ((Xx a qa n.toNat).filter (has (Xx b qa n.toNat))) v=(vin qa a v && vin qa b v):=by
 rw[Ybv,Zab,Ybc,<-Zab,Zfn h,Zfn h,Yg]
def ZnE(qa:List Ze)(a b:Int):andI (Xq (pV a qa)) (Xq (pV b qa))=0↔shr qa a b=false:=by
 rw[ZxE,Z9q,shr,Yde];simp
def Zbr(x:Zh):Int:=if x.Kind=1 then 0 else if x.Kind=2 then 1 else 2
def hd0{xs:V6}(h:0<xs.length):xs.head?.getD 0=xs[0]:=by cases xs with|nil=>simp at h|cons x xs=>rfl
def XQ(y:Zt):Nat:=if 0<=y.Right then 2 else if 0<=y.Left then 1 else 0
def Wt(qa:List Ze):List Zh->Nat->List Zt->V6->Option (List Zt×V6)
 |[],_,info,st=>some (info,st)
 |x::xs,i,info,st=>match Vz qa x info st with
  |none=>none
  |some y=>Wt qa xs (i+1) (info++[y]) (st.take (st.length-XQ y)++[(i:Int)])
def ZxJ(qa:List Ze){xs:List Zh}{i:Nat}(h:i<xs.length)(info:List Zt)(st:V6):Wt qa (xs.drop i) i info st=match Vz qa xs[i] info st with
  |none=>none
  |some y=>Wt qa (xs.drop (i+1)) (i+1) (info++[y]) (st.take (st.length-XQ y)++[(i:Int)]):=by
 rw[Yi h,Wt]
def Wu(n:Int)(qa:List Ze)(steps:List Zh):Option (List Zt) :=
 if Z6 n qa=true/\inR steps.length 1 14=true then(match Wt qa steps 0 [] []with
  |some (info,st)=>if st.length=1 then some info else none
  |none=>none)else none
def Jr{st:V6}{info:List Zt}{k:Nat}{s:Int}{y:Zt}(hs:Ug info st)(h1:1<=k)(h:Wn st info k=some (s,y)):k<=st.length/\0<=s/\s.toNat<info.length/\info[s.toNat]?=some y:=by
 have hk:k<=st.length:=by
  unfold Wn at h;split at h
  .assumption
  .cases h
 obtain⟨s',y',q1,q2,q3,q4⟩:=Zbq hs h1 hk;rw[q1]at h;cases h;exact⟨hk,q3,(Y2.1 q4).1,q4⟩
def ZnF{qa:List Ze}{x:Zh}{info:List Zt}{st:V6}{y:Zt}(hs:Ug info st)(h:Vz qa x info st=some y) :
  Zbr x=XQ y/\XQ y<=st.length/\(0<=y.Right↔3<=x.Kind):=by
 unfold Vz at h;unfold Zbr XQ;split at h
 .rename_i k1;split at h
  .cases h;simp[k1]
  .cases h
 .rename_i k1;split at h
  .cases h
  .split at h
   .rename_i k2;split at h
    .rename_i s y' ht;split at h
     .cases h;obtain⟨t1,t2,_⟩:=Jr hs (Yh 1) ht;simp[k2,t2,t1]
     .cases h
    .cases h
   .rename_i k2;split at h
    .rename_i s y' t z ht hu;split at h
     .obtain⟨t1,t2,_⟩:=Jr hs (by omega:1<=2) ht;obtain⟨u1,u2,_⟩:=Jr hs (by omega:1<=1) hu;obtain⟨o,ho,rfl⟩:=Yq.1 h;have hk:x.Kind=3\/x.Kind=4\/x.Kind=5:=by
       unfold WX at ho;split at ho
       .omega
       .split at ho
        .omega
        .split at ho
         .omega
         .cases ho
      simp only[u2,if_true,k1,k2,if_false];refine⟨rfl,t1,?_⟩;simp;omega
     .cases h
    .cases h
def Zfo{info:List Zt}{st:V6}(hs:Ug info st)(y:Zt)(k:Nat):Ug (info++[y]) (st.take k++[(info.length:Int)]):=by
 intro s h;rcases Yl.1 h with h|h
 .obtain⟨h1,h2⟩:=hs s (Ybe h);exact⟨h1,by simp;omega⟩
 .simp at h;subst h;simp
def ZxK{st:V6}{i k:Nat}(h:st.length<=i)(x:Int):(st.take k++[x]).length<=i+1:=by simp;omega
def ZxL{qa:List Ze}:∀{xs:List Zh} {i:Nat} {info:List Zt} {st:V6} {c:List Zt} {cc:V6},Wt qa xs i info st=some (c,cc)->c.length=info.length+xs.length
 |[],_,_,_,_,_,h=>by simp[Wt]at h;simp[h.1]
 |x::xs,i,info,st,c,cc,h=>by
  rw[Wt]at h;split at h
  .cases h
  .have:=ZxL h;simp at this|-;omega
def Zbs{n:Int}{qa:List Ze}{steps:List Zh}{info:List Zt}(h:Wu n qa steps=some info):Z6 n qa=true/\info.length=steps.length/\1<=steps.length/\steps.length<=14:=by
 unfold Wu at h;split at h
 .rename_i hc;have h2:=hc.2;simp[inR]at h2;split at h
  .rename_i info' st hg;split at h
   .cases h;have:=ZxL hg;simp at this;exact⟨hc.1,this,by omega,by omega⟩
   .cases h
  .cases h
 .cases h
def Zac(n:Int)(qa:List Ze)(steps:List Zh):Int:=match Wu n qa steps with
 |some info=>match info[info.length-1]? with
  |some y=>y.Mask
  |none=>0
 |none=>0
def Zad(n:Int)(qa:List Ze)(steps:List Zh)(lo hi:V6)(pc:Int):Bool :=
 Z6 n qa && ZcK n qa lo hi && decide (Zac n qa steps=ZW n qa) && inR pc 100 1000
def ZnG{n:Int}{qa:List Ze}(h:Z6 n qa=true):0<ZW n qa:=by
 obtain⟨h1,h2,_⟩:=Zbo h;unfold ZW;rw[Ya h,h2];rcases h1 with h1|h1|h1|h1<;>rw[h1]<;>decide
def or16:∀a b:Fin 16,orI (a.1:Int) (b.1:Int)=((a.1 ||| b.1:Nat):Int):=by decide
def or_lt{k:Nat}(hk:k<=4){a b:Int}(ha:0<=a/\a<2 ^ k)(hb:0<=b/\b<2 ^ k):0<=orI a b/\orI a b<2 ^ k:=by
 have h16:(2:Int) ^ k<=16:=by
  have:k=0\/k=1\/k=2\/k=3\/k=4:=by omega
  rcases this with rfl|rfl|rfl|rfl|rfl<;>decide
 have e1:a=(a.toNat:Int):=by omega
 have e2:b=(b.toNat:Int):=by omega
 have l1:a.toNat<16:=by omega
 have l2:b.toNat<16:=by omega
 have e:=or16 ⟨a.toNat,l1⟩ ⟨b.toNat,l2⟩;simp only at e;rw[e1,e2,e];have c:((2 ^ k:Nat):Int)=2 ^ k:=by simp
 have m1:a.toNat<2 ^ k:=by omega
 have m2:b.toNat<2 ^ k:=by omega
 have:=Nat.or_lt_two_pow m1 m2;omega
def shl_lt{k:Nat}(hk:k<=4){v:Int}(h0:0<=v)(h1:v<k):0<=shlI 1 v/\shlI 1 v<2 ^ k:=by
 have h2:v=0\/v=1\/v=2\/v=3:=by omega
 have h3:k=0\/k=1\/k=2\/k=3\/k=4:=by omega
 rcases h2 with rfl|rfl|rfl|rfl<;>rcases h3 with rfl|rfl|rfl|rfl|rfl<;>first|omega|decide
def Zbt(k:Nat)(y:Zt):Prop:=0<=y.Mask/\y.Mask<2 ^ k
def Z9v{qa:List Ze}(hk:qa.length<=4){x:Zh}{info:List Zt}{st:V6}{y:Zt}(hs:Ug info st)(hm:∀y∈info,Zbt qa.length y)(h:Vz qa x info st=some y):Zbt qa.length y:=by
 unfold Vz at h;split at h
 .split at h
  .rename_i hc;cases h;have:=hc.1;simp[inR]at this;exact shl_lt hk this.1 (by omega)
  .cases h
 .split at h
  .cases h
  .split at h
   .split at h
    .rename_i s y' ht;split at h
     .cases h;obtain⟨_,_,t3,t4⟩:=Jr hs (Yh 1) ht;exact hm y' (Y6 t4)
     .cases h
    .cases h
   .split at h
    .rename_i s y' t z ht hu;split at h
     .obtain⟨_,_,_,t4⟩:=Jr hs (by omega:1<=2) ht;obtain⟨_,_,_,u4⟩:=Jr hs (by omega:1<=1) hu;obtain⟨o,ho,rfl⟩:=Yq.1 h;exact or_lt hk (hm y' (Y6 t4)) (hm z (Y6 u4))
     .cases h
    .cases h
def ZxM{qa:List Ze}(hk:qa.length<=4):∀{xs:List Zh} {i:Nat} {info:List Zt} {st:V6} {c:List Zt} {cc:V6},Wt qa xs i info st=some (c,cc)->
  Ug info st->info.length=i->(∀y∈info,Zbt qa.length y)->(∀y∈c,Zbt qa.length y)/\∃tail,c=info++tail/\tail.length=xs.length/\∀(j:Nat) (y:Zt) (x:Zh),tail[j]?=some y->xs[j]?=some x->(0<=y.Right↔3<=x.Kind)
 |[],i,info,st,c,cc,h,hs,hi,hm=>by
  simp[Wt]at h;obtain⟨rfl,rfl⟩:=h
  exact⟨hm,[],by simp,rfl,by intro j y x hj;simp at hj⟩
 |x::xs,i,info,st,c,cc,h,hs,hi,hm=>by
  rw[Wt]at h;split at h
  .cases h
  .rename_i y hy;have hn:=Zfo hs y (st.length-XQ y);rw[hi]at hn;have hm2:∀z∈info++[y],Zbt qa.length z:=by
    intro z hz;rcases Yl.1 hz with hz|hz
    .exact hm z hz
    .simp at hz;subst hz;exact Z9v hk hs hm hy
   obtain⟨g1,tail,g2,g3,g4⟩:=ZxM hk h hn (by simp[hi]) hm2;refine⟨g1,y::tail,by simp[g2],by simp[g3],?_⟩;intro j y' x' hj hx
   cases j with
   |zero=>simp at hj hx;subst hj;subst hx;exact(ZnF hs hy).2.2
   |succ j=>exact g4 j y' x' (by simpa using hj) (by simpa using hx)
def ZxN{n:Int}{qa:List Ze}{steps:List Zh}{info:List Zt}(h:Wu n qa steps=some info) :
  (∀y∈info,Zbt qa.length y)/\∀(j:Nat) (y:Zt) (x:Zh),info[j]?=some y->steps[j]?=some x->(0<=y.Right↔3<=x.Kind):=by
 have hq:=(Zbs h).1;unfold Wu at h;split at h
 .split at h
  .rename_i info' st hg;split at h
   .cases h;obtain⟨g1,tail,g2,g3,g4⟩:=ZxM (WH hq).2 hg (λs hs=>by cases hs) rfl (λy hy=>by cases hy);simp at g2;subst g2;exact⟨g1,g4⟩
   .cases h
  .cases h
 .cases h
def Uh(v:Int):UD->Bool
 |[_,_,_,_,_,_,.int .i64 x,_]=>x == v
 |_=>true
def Zfp:UD->Bool
 |[_,_,_,_,_,_,.int .i64 _,_]=>true
 |_=>false
def ZT:V6->V6->Int
 |[],[]=>0
 |[],_::_=>-1
 |_::_,[]=>1
 |a::x,b::y=>if a<b then -1 else if b<a then 1 else ZT x y
def leR(a b:V6):Bool:=decide (ZT a b<=0)
def QY(rows:V4):V4:=rows.mergeSort leR
def Vk:V4->V4
 |[]=>[]
 |[a]=>[a]
 |a::b::l=>if a=b then Vk (b::l)else a::Vk (b::l)
def WI(l:V6):V6:=l.mergeSort λx y=>decide (x<=y)
def XI:V6->V6
 |[]=>[]
 |[a]=>[a]
 |a::b::l=>if a=b then XI (b::l)else a::XI (b::l)
def ZxO(es:V5)(rows:V4):Prop:=es=rows.map isc/\rows.length<=4096/\∀r∈rows,r.length<=4
def ZxP(es:V5)(l:V6):Prop:=es=l.map ic/\l.length<=4096
open Classical in
def ZcN(es:V5)(k:V4->V3):V1:=if h:∃rows,ZxO es rows then some (k h.choose)else none
open Classical in
def ZcO(es:V5)(k:V6->V3):V1:=if h:∃l,ZxP es l then some (k h.choose)else none
def ext:ZG:=λf xs h0=>match xs,h0 with
 |[.own 0,.fn 275 []],[.arr 42 1 fr es]=>if f=274 then ZcN es λrows=>(.tup [],[.arr 42 1 fr ((QY rows).map isc)])else none
 |[.own 0,.fn 277 []],[.arr 42 1 fr es]=>if f=276 then ZcN es λrows=>(.own 1,[.dead,.arr 42 1 fr ((Vk rows).map isc)])else none
 |[.own 0,.t (.int .i64 i),.t (.int .i64 j)],[.arr 42 1 fr es]=>if f=215/\0<=i/\i<j/\j<=(es.length:Int)then some (.own 1,[.dead,.arr 42 1 fr (es.take i.toNat++es.drop j.toNat)])else none
 |[.own 0,.fn 77 [.ptr 1 0]],[.arr 128 8 fr es,.box [.t (.int .i64 v)]]=>if f=76/\es.all Zfp=true then some (.own 2,[.dead,.box [.t (.int .i64 v)],.arr 128 8 fr (es.filter (Uh v))])else none
 |[.own 0],[.arr 3 1 fr es]=>if f=281 then ZcO es λl=>(.tup [],[.arr 3 1 fr ((WI l).map ic)])else if f=282 then ZcO es λl=>(.own 1,[.dead,.arr 3 1 fr ((XI l).map ic)])else none
 |_,_=>none
open Go.ChangeShapes Go.WideShapes Go.ChangeAt Go.RowKit
def own:ownKnob Tryz.prog.godebug=none:=by kernel_rfl
def laidOut:laidOutB Tryz.prog=true:=by kernel_rfl
def tbl:Nat->Option MFun:=λf=>if f=274\/f=281 then none else tblOf Tryz.prog [4000003,10000006,6,2000007,2000008,2000009,6000009,3000012,3000013,10000019,10000021,10000022,2000023,2000024,2000025,2000026,6000027,6000029,2000030,6000030,3000035,3000036,3000037,3000038,10000050,10000055,10000057,10000059,2000060,2000061,2000062,2000063,2000064,2000065,6000068,6000073,6000075,76,3000084,3000085,3000086,3000087,3000088,3000089,6000102,6000103,6000109,6000110,6000111,10000115,10000116,10000117,2000118,2000119,2000120,2000121,2000122,2000123,6000124,6000125,1000127,6000129,7000136,6000139,4000143,5000143,6000143,3000151,3000152,3000154,3000155,3000156,6000167,6000168,10000189,2000190,2000191,2000192,2000193,2000194,215,8000217,2000220,3000227,3000228,1000244,2000253,2000254,2000255,2000256,2000257,7000258,1000261,274,276,281,282,1000301,2000306,2000307,2000308,322,328,1000330,2000333,344,355,1000389,392,1000398] f
def Zi(f:Nat)(fn:Func):Option MFun:=Jj Tryz.prog (inlOf [4000003,10000006,6,2000007,2000008,2000009,6000009,3000012,3000013,10000019,10000021,10000022,2000023,2000024,2000025,2000026,6000027,6000029,2000030,6000030,3000035,3000036,3000037,3000038,10000050,10000055,10000057,10000059,2000060,2000061,2000062,2000063,2000064,2000065,6000068,6000073,6000075,76,3000084,3000085,3000086,3000087,3000088,3000089,6000102,6000103,6000109,6000110,6000111,10000115,10000116,10000117,2000118,2000119,2000120,2000121,2000122,2000123,6000124,6000125,1000127,6000129,7000136,6000139,4000143,5000143,6000143,3000151,3000152,3000154,3000155,3000156,6000167,6000168,10000189,2000190,2000191,2000192,2000193,2000194,215,8000217,2000220,3000227,3000228,1000244,2000253,2000254,2000255,2000256,2000257,7000258,1000261,274,276,281,282,1000301,2000306,2000307,2000308,322,328,1000330,2000333,344,355,1000389,392,1000398] f) (Zji fn) fn
def ZxQ:TblOK Tryz.prog tbl:=by
 intro f m h;unfold tbl at h;split at h
 .cases h
 .exact tblOK _ _ f m h
def Zf{f:Nat}{fn:Func}{m:MFun}(hf:Tryz.prog.funcs[f]?=some fn)(hc:QV Tryz.prog f=true:=by kernel_rfl)(h:Jj Tryz.prog (inlOf [4000003,10000006,6,2000007,2000008,2000009,6000009,3000012,3000013,10000019,10000021,10000022,2000023,2000024,2000025,2000026,6000027,6000029,2000030,6000030,3000035,3000036,3000037,3000038,10000050,10000055,10000057,10000059,2000060,2000061,2000062,2000063,2000064,2000065,6000068,6000073,6000075,76,3000084,3000085,3000086,3000087,3000088,3000089,6000102,6000103,6000109,6000110,6000111,10000115,10000116,10000117,2000118,2000119,2000120,2000121,2000122,2000123,6000124,6000125,1000127,6000129,7000136,6000139,4000143,5000143,6000143,3000151,3000152,3000154,3000155,3000156,6000167,6000168,10000189,2000190,2000191,2000192,2000193,2000194,215,8000217,2000220,3000227,3000228,1000244,2000253,2000254,2000255,2000256,2000257,7000258,1000261,274,276,281,282,1000301,2000306,2000307,2000308,322,328,1000330,2000333,344,355,1000389,392,1000398] f) (Zji fn) fn=some m:=by kernel_rfl)(hne:¬(f=274\/f=281):=by decide):tbl f=some m:=by
 unfold tbl;rw[Yb hne];exact tblOf_eq hf hc h
def C:ZG:=Xs ext tbl
def run{f:Nat}{xs:V2}{m:MFun}(ht:tbl f=some m)(hl:xs.length=m.np){r:V3}(h:Ev C [.fin 0 m.res] m.body ⟨UT xs 0,[[]],[]⟩=some r):C f xs []=some r:=Zff (h0:=[]) ht hl h
def XR{f:Nat}{xs:V2}{h0:UA}{m:MFun}(ht:tbl f=some m)(hl:xs.length=m.np){r:V3}(h:Ev C [.fin h0.length m.res] m.body ⟨UT xs 0,[UU h0 0],h0⟩=some r):C f xs h0=some r:=Zff ht hl h
abbrev Z9w:Nat:=3
abbrev Z9x:Nat:=4
abbrev Z9y:Nat:=5
abbrev Z9z:Nat:=7
abbrev Z90:Nat:=8
abbrev Z91:Nat:=10
abbrev Z92:Nat:=11
abbrev Z93:Nat:=12
abbrev Z94:Nat:=13
abbrev Z95:Nat:=14
abbrev Z96:Nat:=15
abbrev Z97:Nat:=16
abbrev Z98:Nat:=17
abbrev Z99:Nat:=18
abbrev Z9A:Nat:=23
abbrev Z9B:Nat:=24
abbrev Z9C:Nat:=25
abbrev Z9D:Nat:=26
abbrev Z9E:Nat:=31
abbrev Z9F:Nat:=32
abbrev Z9G:Nat:=33
abbrev Z9H:Nat:=34
abbrev Z9I:Nat:=35
abbrev Z9J:Nat:=36
abbrev Z9K:Nat:=37
abbrev ZjC:Nat:=38
abbrev Z9L:Nat:=39
abbrev Z9M:Nat:=40
abbrev Z9N:Nat:=41
abbrev Z9O:Nat:=42
abbrev Z9P:Nat:=43
abbrev Z9Q:Nat:=44
abbrev Z9R:Nat:=45
abbrev Z9S:Nat:=46
abbrev Z9T:Nat:=47
abbrev Z9U:Nat:=60
abbrev Z9V:Nat:=61
abbrev Z9W:Nat:=62
abbrev Z9X:Nat:=63
abbrev Z9Y:Nat:=64
abbrev Z9Z:Nat:=65
abbrev ZAa:Nat:=78
abbrev ZAb:Nat:=79
abbrev ZAc:Nat:=80
abbrev ZAd:Nat:=81
abbrev ZAe:Nat:=82
abbrev ZAf:Nat:=83
abbrev ZAg:Nat:=84
abbrev ZAh:Nat:=85
abbrev ZAi:Nat:=86
abbrev ZAj:Nat:=87
abbrev ZAk:Nat:=88
abbrev ZAl:Nat:=89
abbrev ZAm:Nat:=90
abbrev ZAn:Nat:=91
abbrev ZAo:Nat:=92
abbrev ZAp:Nat:=93
abbrev ZAq:Nat:=94
abbrev ZAr:Nat:=95
abbrev ZAs:Nat:=96
abbrev ZAt:Nat:=97
abbrev ZAu:Nat:=98
abbrev ZAv:Nat:=99
abbrev ZAw:Nat:=100
abbrev ZAx:Nat:=101
abbrev ZAy:Nat:=118
abbrev ZAz:Nat:=119
abbrev ZA0:Nat:=120
abbrev ZA1:Nat:=121
abbrev ZA2:Nat:=122
abbrev ZA3:Nat:=123
abbrev ZA4:Nat:=145
abbrev ZA5:Nat:=146
abbrev ZA6:Nat:=147
abbrev ZA7:Nat:=148
abbrev ZA8:Nat:=149
abbrev ZA9:Nat:=150
abbrev ZAA:Nat:=151
abbrev ZAB:Nat:=152
abbrev ZnH:Nat:=153
abbrev ZAC:Nat:=154
abbrev ZjD:Nat:=155
abbrev ZjE:Nat:=156
abbrev ZAD:Nat:=157
abbrev ZAE:Nat:=158
abbrev ZAF:Nat:=159
abbrev ZAG:Nat:=160
abbrev ZAH:Nat:=161
abbrev ZAI:Nat:=162
abbrev ZAJ:Nat:=163
abbrev ZAK:Nat:=164
abbrev ZAL:Nat:=165
abbrev ZAM:Nat:=166
abbrev ZAN:Nat:=190
abbrev ZAO:Nat:=191
abbrev ZAP:Nat:=192
abbrev ZAQ:Nat:=193
abbrev ZAR:Nat:=194
abbrev ZAS:Nat:=222
abbrev ZAT:Nat:=223
abbrev ZAU:Nat:=224
abbrev ZAV:Nat:=225
abbrev ZAW:Nat:=226
abbrev ZjF:Nat:=227
abbrev ZjG:Nat:=228
abbrev ZAX:Nat:=229
abbrev ZAY:Nat:=230
abbrev ZAZ:Nat:=231
abbrev ZBa:Nat:=232
abbrev ZBb:Nat:=233
abbrev ZBc:Nat:=234
abbrev ZBd:Nat:=235
abbrev ZBe:Nat:=253
abbrev ZBf:Nat:=254
abbrev ZBg:Nat:=255
abbrev ZBh:Nat:=256
abbrev ZBi:Nat:=257
abbrev ZBj:Nat:=284
abbrev ZBk:Nat:=285
abbrev ZBl:Nat:=286
abbrev ZBm:Nat:=287
abbrev ZBn:Nat:=288
abbrev ZBo:Nat:=289
abbrev ZBp:Nat:=290
abbrev ZBq:Nat:=291
abbrev ZBr:Nat:=306
abbrev ZBs:Nat:=307
abbrev ZBt:Nat:=308
abbrev ZBu:Nat:=323
abbrev ZBv:Nat:=324
abbrev ZBw:Nat:=325
abbrev ZBx:Nat:=333
abbrev ZBy:Nat:=364
abbrev ZU:Nat:=3
abbrev t_bool:Nat:=4
abbrev Zfq:Nat:=42
abbrev ZnI:Nat:=128
abbrev ZjH:Nat:=179
abbrev ZnJ:Nat:=185
abbrev ZnK:Nat:=187
abbrev ZjI:Nat:=191
abbrev ZxR:Nat:=249
abbrev ZnL:Nat:=251
abbrev Q3:Nat:=256
abbrev ZjJ:Nat:=277
abbrev Zbu:Nat:=332
end
