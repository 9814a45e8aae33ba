/-
  Parts of the proofs for this seat: TX PW EX H.
-/
import Derived.Test.YtgnfoghkbpkgjaaGreatRows
import Derived.Test.YtgnfoghkbpkgjaaGreatP4
import Derived.Test.YtgnfoghkbpkgjaaGreatP5
import Derived.Test.YtgnfoghkbpkgjaaGreatP6
set_option linter.unusedSimpArgs false
set_option linter.unusedVariables false
set_option maxRecDepth 100000
set_option maxHeartbeats 4000000
namespace Go.Proofs.YtgnfoghkbpkgjaaGreat
open Go.AM
@[simp] theorem Zg.map_inj(xs ys:List Zg):xs.map Zg.c=ys.map Zg.c↔xs=ys:=Zcg (by
 intro a b h;simp at h
 simp[Zg.ext_iff,h])
@[simp] theorem Zg.flat(xs:List Zg):(xs.map Zg.c).all (λx=>x.all Z8)=true:=Zg5 (λ_=>rfl) xs
@[simp] theorem Zg.flat2(xs:List Zg):xs.all ((λx=>x.all Z8) ∘ Zg.c)=true:=Zg6 (λ_=>rfl) xs
@[simp] theorem Zk.map_inj(xs ys:List Zk):xs.map Zk.c=ys.map Zk.c↔xs=ys:=Zcg (by
 intro a b h;simp at h
 simp[Zk.ext_iff,h])
@[simp] theorem Zi.map_inj(xs ys:List Zi):xs.map Zi.c=ys.map Zi.c↔xs=ys:=Zcg (by
 intro a b h;simp at h
 simp[Zi.ext_iff,Zk.ext_iff,h])
@[simp] theorem Atom.map_inj(xs ys:List Atom):xs.map Atom.c=ys.map Atom.c↔xs=ys:=Zcg (by
 intro a b h;simp at h
 simp[Atom.ext_iff,h])
@[simp] theorem Ze.map_inj(xs ys:List Ze):xs.map Ze.c=ys.map Ze.c↔xs=ys:=Zcg (by
 intro a b h;simp at h
 simp[Ze.ext_iff,h])
@[simp] theorem Box.map_inj(xs ys:List Box):xs.map Box.c=ys.map Box.c↔xs=ys:=Zcg (by
 intro a b h;simp at h
 simp[Box.ext_iff,h])
@[simp] theorem Zj.map_inj(xs ys:List Zj):xs.map Zj.c=ys.map Zj.c↔xs=ys:=Zcg (by
 intro a b h;simp at h
 simp[Zj.ext_iff,h])
@[simp] theorem Zl.map_inj(xs ys:List Zl):xs.map Zl.c=ys.map Zl.c↔xs=ys:=Zcg (by
 intro a b h;simp at h
 simp[Zl.ext_iff,h])
@[simp] theorem Zf.map_inj(xs ys:List Zf):xs.map Zf.c=ys.map Zf.c↔xs=ys:=Zcg (by
 intro a b h;simp at h
 simp[Zf.ext_iff,h])
@[simp] theorem Zf.flat(xs:List Zf):(xs.map Zf.c).all (λx=>x.all Z8)=true:=Zg5 (λ_=>rfl) xs
@[simp] theorem Zf.flat2(xs:List Zf):xs.all ((λx=>x.all Z8) ∘ Zf.c)=true:=Zg6 (λ_=>rfl) xs
@[simp] theorem Plan.map_inj(xs ys:List Plan):xs.map Plan.c=ys.map Plan.c↔xs=ys:=Zcg (by
 intro a b h;simp at h
 simp[Plan.ext_iff,h])
@[simp] theorem Kept.map_inj(xs ys:List Kept):xs.map Kept.c=ys.map Kept.c↔xs=ys:=Zcg (by
 intro a b h;simp at h
 simp[Kept.ext_iff,h])
@[simp] theorem Kept.flat(xs:List Kept):(xs.map Kept.c).all (λx=>x.all Z8)=true:=Zg5 (λ_=>rfl) xs
@[simp] theorem Kept.flat2(xs:List Kept):xs.all ((λx=>x.all Z8) ∘ Kept.c)=true:=Zg6 (λ_=>rfl) xs
@[ext] structure Zb where
 Vars:List Int
 Rows:List (List Int)
 deriving DecidableEq
def Zb.c(x:Zb):List T:=[.lst 1 (x.Vars.map ic),.lst 1 (x.Rows.map isc)]
@[simp] theorem Zb.c_def(x:Zb):x.c=[.lst 1 (x.Vars.map ic),.lst 1 (x.Rows.map isc)]:=rfl
@[simp] theorem Zb.map_inj(xs ys:List Zb):xs.map Zb.c=ys.map Zb.c↔xs=ys:=Zcg (by
 intro a b h;simp at h
 simp[Zb.ext_iff,h])
@[ext] structure Za where
 Mask:Int
 Order:Int
 Left:Int
 Right:Int
 deriving DecidableEq
def Za.c(x:Za):List T:=[.int .i64 x.Mask,.int .i64 x.Order,.int .i64 x.Left,.int .i64 x.Right]
@[simp] theorem Za.c_def(x:Za):x.c=[.int .i64 x.Mask,.int .i64 x.Order,.int .i64 x.Left,.int .i64 x.Right]:=rfl
@[simp] theorem Za.map_inj(xs ys:List Za):xs.map Za.c=ys.map Za.c↔xs=ys:=Zcg (by
 intro a b h;simp at h
 simp[Za.ext_iff,h])
@[simp] theorem Za.flat(xs:List Za):(xs.map Za.c).all (λx=>x.all Z8)=true:=Zg5 (λ_=>rfl) xs
@[simp] theorem Za.flat2(xs:List Za):xs.all ((λx=>x.all Z8) ∘ Za.c)=true:=Zg6 (λ_=>rfl) xs
@[simp] theorem Zh.map_inj(xs ys:List Zh):xs.map Zh.c=ys.map Zh.c↔xs=ys:=Zcg (by
 intro a b h;simp at h
 simp[Zh.ext_iff,h])
@[simp] theorem Zh.flat(xs:List Zh):(xs.map Zh.c).all (λx=>x.all Z8)=true:=Zg5 (λ_=>rfl) xs
@[simp] theorem Zh.flat2(xs:List Zh):xs.all ((λx=>x.all Z8) ∘ Zh.c)=true:=Zg6 (λ_=>rfl) xs
def inR(a b c:Int):Bool:=decide (b<=a/\a<=c)
def Zbj(c:Int):Int:=if c<0 then -1 else if c=0 then 0 else if c=1 then 1 else if c=2 then 4 else if c=3 then 16 else if c=4 then 64 else if c=5 then 256 else if c=6 then 1024 else if c=7 then 4096 else -1
theorem cls8{c:Int}(h:inR c 0 7=true):c=0\/c=1\/c=2\/c=3\/c=4\/c=5\/c=6\/c=7:=by
 simp[inR]at h;omega
theorem Z88{c:Int}(h:inR c 0 7=false):Zbj c=-1:=by
 simp[inR]at h;unfold Zbj;split
 .rfl
 .repeat' split
  all_goals omega
def Zee(n:Int):Int:=if n<0 then -1 else if n<=0 then 0 else if n<=1 then 1 else if n<=4 then 2 else if n<=16 then 3 else if n<=64 then 4 else if n<=256 then 5 else if n<=1024 then 6 else if n<=4096 then 7 else -1
def Zef(n:Int):Int:=Zbj (Zee n)
theorem Z89(n:Int):Zef n<0↔inR n 0 4096=false:=by
 unfold Zef Zee;simp[inR]
 repeat' split
 all_goals simp[Zbj]
 all_goals omega
theorem Zyy{α:Type}(p:α->Bool){xs:List α}{i:Nat}(h:i<xs.length):(xs.drop i).all p=(p xs[i] && (xs.drop (i+1)).all p):=by
 rw[Yh h,Y8]
theorem drop_any{α:Type}(p:α->Bool){xs:List α}{i:Nat}(h:i<xs.length):(xs.drop i).any p=(p xs[i] || (xs.drop (i+1)).any p):=by
 rw[Yh h,Ydm]
def Zjq(xs:List Int):Bool:=xs.all (λx=>inR x 0 7)
def Zgc(xs:List Int):Bool:=Zjq xs && decide ((xs.length:Int)<=16)
theorem Z9a{xs:List Int}{i:Nat}(h:i<xs.length):Zjq (xs.drop i)=(inR xs[i] 0 7 && Zjq (xs.drop (i+1))):=Zyy _ h
def Zg7:List Int->List Int->Bool
 |x::xs,y::ys=>decide (y<=x) && Zg7 xs ys
 |_,_=>true
def dom(xs ys:List Int):Bool:=decide (xs.length=ys.length) && Zg7 xs ys
theorem Z9b{xs ys:List Int}{i:Nat}(h:i<xs.length)(h':i<ys.length):Zg7 (xs.drop i) (ys.drop i)=(decide (ys[i]<=xs[i]) && Zg7 (xs.drop (i+1)) (ys.drop (i+1))):=by
 rw[Yh h,Yh h',Zg7]
def Ztu(lo hi:List Int):Bool:=decide (0<lo.length) && Zgc lo && Zgc hi && dom hi lo
def bit4(a b c d:Bool):Int:=(if a then 1 else 0)+(if b then 2 else 0)+(if c then 4 else 0)+(if d then 8 else 0)
def Zbk(p:Nat->Bool):Int:=bit4 (p 0) (p 1) (p 2) (p 3)
theorem in4{v:Int}(h:inR v 0 3=true):v=0\/v=1\/v=2\/v=3:=by simp[inR]at h;omega
def has(xs:List Int)(v:Int):Bool:=xs.any (λx=>decide (v=x))
theorem Zcv{xs:List Int}{v:Int}:has xs v=true↔v∈xs:=by
 simp only[has,List.any_eq_true,decide_eq_true_eq];exact⟨λ⟨x,h,e⟩=>e▸h,λh=>⟨v,h,rfl⟩⟩
def addV(p:Nat->Bool)(vs:List Int):Nat->Bool:=λu=>p u || has vs u
theorem Zyz(p:Nat->Bool):addV p []=p:=by funext u;simp[addV,has]
theorem Zbpj(p:Nat->Bool)(v:Int)(vs:List Int):addV (addV p [v]) vs=addV p (v::vs):=by funext u;simp[addV,has,Bool.or_assoc]
theorem Zy0(p:Nat->Bool){vs:List Int}{i:Nat}(h:i<vs.length):addV p (vs.drop i)=addV (addV p [vs[i]]) (vs.drop (i+1)):=by
 rw[Yh h,Zbpj]
theorem or_d:∀a b c d:Bool,orI (bit4 a b c d) 1=bit4 true b c d/\orI (bit4 a b c d) 2=bit4 a true c d/\orI (bit4 a b c d) 4=bit4 a b true d/\orI (bit4 a b c d) 8=bit4 a b c true:=by decide
theorem or_bit(p:Nat->Bool){v:Int}(h:inR v 0 3=true):orI (Zbk p) (shlI 1 v)=Zbk (addV p [v]):=by
 have q:=or_d (p 0) (p 1) (p 2) (p 3);rcases in4 h with rfl|rfl|rfl|rfl<;>simp[addV,has,Zbk,shlI,Zo,q]
theorem and_d:∀a b c d:Bool,(andI (shrI (bit4 a b c d) 0) 1=1↔a=true)/\(andI (shrI (bit4 a b c d) 1) 1=1↔b=true)/\(andI (shrI (bit4 a b c d) 2) 1=1↔c=true)/\(andI (shrI (bit4 a b c d) 3) 1=1↔d=true):=by decide
theorem at_bit(p:Nat->Bool){v:Int}(h:inR v 0 3=true):andI (shrI (Zbk p) v) 1=1↔p v.toNat=true:=by
 have q:=and_d (p 0) (p 1) (p 2) (p 3);rcases in4 h with rfl|rfl|rfl|rfl<;>simp[Zbk,q]
theorem and4:∀a b c d a' b' c' d':Bool,andI (bit4 a b c d) (bit4 a' b' c' d')=bit4 (a && a') (b && b') (c && c') (d && d'):=by decide
theorem Z9c(p q:Nat->Bool):andI (Zbk p) (Zbk q)=Zbk (λu=>p u && q u):=and4 _ _ _ _ _ _ _ _
theorem zero4:∀a b c d:Bool,bit4 a b c d=0↔(a=false/\b=false/\c=false/\d=false):=by decide
theorem Zbpk(p:Nat->Bool):Zbk p=0↔∀u,u<4->p u=false:=by
 rw[Zbk,zero4];constructor
 .rintro⟨h0,h1,h2,h3⟩ u hu
  match u,hu with
  |0,_=>exact h0
  |1,_=>exact h1
  |2,_=>exact h2
  |3,_=>exact h3
 .intro h;exact⟨h 0 (by omega),h 1 (by omega),h 2 (by omega),h 3 (by omega)⟩
def Zbe{α:Type}(p:α->Bool):List α->Nat->Int
 |[],_=>-1
 |x::xs,i=>if p x=true then i else Zbe p xs (i+1)
theorem Zh9{α:Type}(p:α->Bool){xs:List α}{i:Nat}(h:i<xs.length):Zbe p (xs.drop i) i=if p xs[i]=true then(i:Int)else Zbe p (xs.drop (i+1)) (i+1):=by
 rw[Yh h,Zbe]
theorem Zpm{α:Type}(p:α->Bool)(xs:List α):∀i,xs.any p=false->Zbe p xs i=-1:=by
 induction xs with
 |nil=>intro i _;rfl
 |cons x xs ih=>intro i h;simp at h;simp[Zbe,h];apply ih;simp;exact h.2
theorem Ztv{α:Type}(p:α->Bool)(xs:List α):∀i,xs.any p=true->0<=Zbe p xs i:=by
 induction xs with
 |nil=>intro i h;simp at h
 |cons x xs ih =>
  intro i h;unfold Zbe;split
  .omega
  .rename_i hx;simp only[Ydm,hx,Ydk]at h;exact ih _ h
def nmOk(s:ByteArray):Bool:=match s[0]? with
 |some b=>decide (s.size=1) && decide (97<=(b.toNat:Int)) && decide ((b.toNat:Int)<=122)
 |none=>false
theorem get0{s:ByteArray}(h:s.size=1):∃b,s[0]?=some b:=⟨s[0],getElem?_pos s 0 (by omega)⟩
def Zdo(n:Int)(pre:List Int):List Int->Bool
 |[]=>true
 |v::rest=>inR v 0 (n-1) && !has pre v && Zdo n (pre++[v]) rest
theorem Z9d(n:Int){vs:List Int}{k:Nat}(h:k<vs.length):Zdo n (vs.take k) (vs.drop k)=(inR vs[k] 0 (n-1) && !has (vs.take k) vs[k] && Zdo n (vs.take (k+1)) (vs.drop (k+1))):=by
 conv=>lhs;rw[Yh h,Zdo]
 rw[List.take_add_one,Yg h];rfl
theorem Zy1{n:Int}:∀{vs pre:List Int},Zdo n pre vs=true->∀v∈vs,inR v 0 (n-1)=true
 |[],_,_,v,hv=>by cases hv
 |x::xs,pre,h,v,hv=>by
  simp only[Zdo,Yf]at h
  cases hv with
  |head=>exact h.1.1
  |tail _ hv=>exact Zy1 h.2 v hv
def Zch(n:Int)(a:Atom):Bool:=nmOk a.Name && inR a.Vars.length 1 3 && Zdo n [] a.Vars
def addA(p:Nat->Bool)(qa:List Atom):Nat->Bool:=λu=>p u || qa.any λa=>has a.Vars u
theorem Z9e(p:Nat->Bool){qa:List Atom}{i:Nat}(h:i<qa.length):addA p (qa.drop i)=addA (addV p qa[i].Vars) (qa.drop (i+1)):=by
 rw[Yh h];funext u;simp only[addA,Ydm,addV,Bool.or_assoc]
def Zw(n:Int)(qa:List Atom):Bool :=
 inR n 1 4 && inR qa.length 1 4 && qa.all (Zch n) && (List.range n.toNat).all (addA (λ_=>false) qa)
def bl(p:Nat->Bool)(n:Nat):List (List T):=(List.range n).map λu=>[T.bool (p u)]
@[simp] theorem bl_get(p:Nat->Bool)(n i:Nat)(h:i<(bl p n).length):(bl p n)[i]=[T.bool (p i)]:=by simp[bl]
theorem bl_any(p:Nat->Bool)(n:Nat):((List.range n).map p).any (λx=>false == x)=!(List.range n).all p:=by
 rw[List.any_map,Yb8];simp
theorem Ztw:∀a b c d:Bool,(bit4 a b c d=1↔(a=true/\b=false/\c=false/\d=false))/\(bit4 a b c d=3↔(a=true/\b=true/\c=false/\d=false))/\(bit4 a b c d=7↔(a=true/\b=true/\c=true/\d=false))/\(bit4 a b c d=15↔(a=true/\b=true/\c=true/\d=true)):=by decide
theorem all_in{n:Int}{qa:List Atom}(h:qa.all (Zch n)=true):∀u:Int,n<=u->qa.any (λa=>has a.Vars u)=false:=by
 intro u hu;rw[Yd1];intro a ha hc;rw[Zcv]at hc;have:=Yq.1 h a ha;simp only[Zch,Yf]at this;have:=Zy1 this.2 _ hc;simp[inR]at this;omega
def fullM(n:Int)(qa:List Atom):Int:=if Zw n qa=true then shlI 1 qa.length-1 else 0
theorem Z9f{n:Int}{qa:List Atom}(h:Zw n qa=true):(qa.length=1\/qa.length=2\/qa.length=3\/qa.length=4)/\shlI 1 qa.length=2 ^ qa.length/\IntKind.wrap .i64 (shlI 1 qa.length-1)=shlI 1 qa.length-1/\IntKind.wrap .i64 (shlI 1 qa.length-1+1)=shlI 1 qa.length-1+1:=by
 simp only[Zw,Yf]at h;have h2:=h.1.1.2;simp[inR]at h2;have h3:qa.length=1\/qa.length=2\/qa.length=3\/qa.length=4:=by omega
 refine⟨h3,?_⟩;rcases h3 with h3|h3|h3|h3<;>rw[h3]<;>decide
def Zce(m:Int)(i:Nat):Bool:=decide (andI (shrI m i) 1=1)
def hasV(m:Int):List Atom->Nat->Int->Bool
 |[],_,_=>false
 |a::as',i,u=>(Zce m i && has a.Vars u) || hasV m as' (i+1) u
theorem Z9g(m:Int){qa:List Atom}{i:Nat}(h:i<qa.length)(u:Int):hasV m (qa.drop i) i u=((Zce m i && has qa[i].Vars u) || hasV m (qa.drop (i+1)) (i+1) u):=by
 rw[Yh h,hasV]
def pV(m:Int)(qa:List Atom):Nat->Bool:=λu=>hasV m qa 0 u
def Var4(qa:List Atom):Prop:=∀a∈qa,∀v∈a.Vars,inR v 0 3=true
theorem Z9h{n:Int}{qa:List Atom}(h:Zw n qa=true):∀a∈qa,∀v∈a.Vars,inR v 0 (n-1)=true:=by
 intro a ha v hv;simp only[Zw,Yf]at h;have:=Yq.1 h.1.2 a ha;simp only[Zch,Yf]at this;exact Zy1 this.2 v hv
theorem Zjr{n:Int}{qa:List Atom}(h:Zw n qa=true):1<=n/\n<=4:=by
 simp only[Zw,Yf]at h;have:=h.1.1.1;simpa[inR]using this
theorem Zgd{n:Int}{qa:List Atom}(h:Zw n qa=true):1<=qa.length/\qa.length<=4:=by
 simp only[Zw,Yf]at h;have:=h.1.1.2;simp[inR]at this;omega
theorem Zpn{n:Int}{qa:List Atom}(h:Zw n qa=true):∀a∈qa,1<=a.Vars.length/\a.Vars.length<=3:=by
 intro a ha;simp only[Zw,Yf]at h;have:=Yq.1 h.1.2 a ha;simp only[Zch,Yf]at this;have:=this.1.2;simp[inR]at this;omega
theorem Zpo{n:Int}{qa:List Atom}(h:Zw n qa=true):Var4 qa:=by
 intro a ha v hv;have:=Z9h h a ha v hv;have h2:=Zjr h;simp[inR]at this|-;omega
def addM(m:Int)(p:Nat->Bool)(qa:List Atom)(i:Nat):Nat->Bool:=λu=>p u || hasV m (qa.drop i) i u
theorem Zbpl(m:Int)(p:Nat->Bool){qa:List Atom}{i:Nat}(h:i<qa.length):addM m p qa i=addM m (if Zce m i=true then addV p qa[i].Vars else p) qa (i+1):=by
 funext u;rw[addM,Z9g _ h];rcases tf (Zce m i)with e|e<;>simp[addM,addV,e,Bool.or_assoc]
def varL(m:Int)(qa:List Atom)(k:Nat):List Int:=((List.range k).filter (pV m qa)).map λu:Nat=>(u:Int)
theorem Zbpm(m:Int)(qa:List Atom)(k:Nat):varL m qa (k+1)=varL m qa k++if hasV m qa 0 k=true then[(k:Int)]else[]:=by
 unfold varL;rw[Yca,Ydg,Ybm];rcases tf (hasV m qa 0 k)with e|e<;>simp[pV,e]
theorem Zl8(m:Int)(qa:List Atom)(k:Nat):(varL m qa k).length<=k:=by
 unfold varL;simp;exact Yo (Ycb _ _) (by simp)
theorem Zbpn{α:Type}(p:α->Bool){xs:List α}{i:Nat}(h:i<xs.length):(xs.take (i+1)).filter p=(xs.take i).filter p++if p xs[i]=true then[xs[i]]else[]:=by
 rw[List.take_add_one,Yg h,Ydg];rcases tf (p xs[i])with e|e<;>simp[e]
def vin(qa:List Atom)(m v:Int):Bool:=inR v 0 3 && pV m qa v.toNat
def shr(qa:List Atom)(a b:Int):Bool:=(List.range 4).any λu=>pV a qa u && pV b qa u
def Zdp(st:List Int)(info:List Za)(k:Nat):Option (Int×Za):=if k<=st.length then(match st[st.length-k]? with
 |some s=>(info[s.toNat]?).map (s,·)
 |none=>none)else none
def Zeg(qa:List Atom)(x:Zf)(y z:Za):Option Int :=
 if x.Kind=3/\x.Order=0 then some (-1)
 else if x.Kind=5/\x.Order=0 then some y.Order
 else if x.Kind=4/\vin qa y.Mask x.Order=true/\vin qa z.Mask x.Order=true/\y.Order=x.Order/\z.Order=x.Order then some x.Order
 else none
def Zc9(qa:List Atom)(x:Zf)(info:List Za)(st:List Int):Option Za :=
 if x.Kind=1 then(if inR x.Atom 0 (qa.length-1)=true/\x.Order=0 then some ⟨shlI 1 x.Atom,(match qa[x.Atom.toNat]? with|some a=>a.Vars.headD 0|none=>0),-1,-1⟩else none)
 else if x.Atom≠0 then none
 else if x.Kind=2 then(match Zdp st info 1 with
  |some (s,y)=>if vin qa y.Mask x.Order=true/\y.Order≠x.Order then some ⟨y.Mask,x.Order,s,-1⟩else none
  |none=>none)
 else match Zdp st info 2,Zdp st info 1 with
  |some (s,y),some (t,z)=>if andI y.Mask z.Mask=0/\shr qa y.Mask z.Mask=true then(Zeg qa x y z).map (⟨orI y.Mask z.Mask,·,s,t⟩)else none
  |_,_=>none
def StOk(info:List Za)(st:List Int):Prop:=∀s∈st,0<=s/\s.toNat<info.length
theorem Zjs{info:List Za}{st:List Int}(h:StOk info st){k:Nat}(h1:1<=k)(h2:k<=st.length) :
  ∃s y,Zdp st info k=some (s,y)/\st[st.length-k]?=some s/\0<=s/\info[s.toNat]?=some y:=by
 have hlt:st.length-k<st.length:=by omega
 obtain⟨h3,h4⟩:=h _ (Yd hlt);refine⟨st[st.length-k],info[(st[st.length-k]).toNat],?_,Yg hlt,h3,Yg h4⟩;simp[Zdp,h2,Yg hlt,Yg h4]
theorem pV_lt{n:Int}{qa:List Atom}(h:Zw n qa=true){m:Int}{u:Nat}(hp:pV m qa u=true):(u:Int)<n:=by
 have:∀(l:List Atom) (i:Nat),(∀a∈l,a∈qa)->hasV m l i u=true->(u:Int)<n:=by
  intro l
  induction l with
  |nil=>intro i _ hh;simp[hasV]at hh
  |cons a l ih =>
   intro i hs hh;simp only[hasV,Ydf,Yf]at hh;rcases hh with hh|hh
   .have:=Z9h h a (hs a (by simp)) u (Zcv.1 hh.2);simp[inR]at this;omega
   .exact ih (i+1) (λb hb=>hs b (by simp[hb])) hh
 exact this qa 0 (λa ha=>ha) hp
theorem Zl9{n:Int}{qa:List Atom}(h:Zw n qa=true)(m v:Int):has (varL m qa n.toNat) v=vin qa m v:=by
 have hn:=Zjr h;rw[Yb8,Zcv];simp only[varL,Y3,Y7,Ybj,vin,Yf];constructor
 .rintro⟨u,⟨h1,h2⟩,rfl⟩;refine⟨by simp[inR];omega,by simpa using h2⟩
 .rintro⟨h1,h2⟩;have h3:=pV_lt h h2;simp[inR]at h1;exact⟨v.toNat,⟨by omega,h2⟩,by omega⟩
theorem Zbpo{n:Int}{qa:List Atom}(h:Zw n qa=true)(a b:Int):((varL a qa n.toNat).filter (has (varL b qa n.toNat))).length=0↔shr qa a b=false:=by
 have hn:=Zjr h;rw[Yb4,Yeb,shr,Yd1];simp only[Zl9 h];constructor
 .intro hh u hu;simp only[Ybj]at hu;simp only[Yf,not_and];intro h1 h2;have h3:=pV_lt h h1;refine hh (u:Int) ?_ ?_
  .simp only[varL,Y3,Y7,Ybj];exact⟨u,⟨by omega,h1⟩,rfl⟩
  .simp only[vin,Yf];exact⟨by simp[inR];omega,by simpa using h2⟩
 .intro hh v hv;simp only[varL,Y3,Y7,Ybj]at hv;obtain⟨u,⟨h1,h2⟩,rfl⟩:=hv;have:=hh u (by simp only[Ybj];omega);simp only[Yf,not_and]at this;simp only[vin,Yf,not_and];intro _;simpa using this h2
theorem Zbpp{n:Int}{qa:List Atom}(h:Zw n qa=true)(a b v:Int):has ((varL a qa n.toNat).filter (has (varL b qa n.toNat))) v=(vin qa a v && vin qa b v):=by
 rw[Yb8,Zcv,Y7,<-Zcv,Zl9 h,Zl9 h,Yf]
theorem shr_bits(qa:List Atom)(a b:Int):andI (Zbk (pV a qa)) (Zbk (pV b qa))=0↔shr qa a b=false:=by
 rw[Z9c,Zbpk,shr,Yd1];simp
def popsI(x:Zf):Int:=if x.Kind=1 then 0 else if x.Kind=2 then 1 else 2
theorem hd0{xs:List Int}(h:0<xs.length):xs.head?.getD 0=xs[0]:=by cases xs with|nil=>simp at h|cons x xs=>rfl
def pops(y:Za):Nat:=if 0<=y.Right then 2 else if 0<=y.Left then 1 else 0
def Zca(qa:List Atom):List Zf->Nat->List Za->List Int->Option (List Za×List Int)
 |[],_,info,st=>some (info,st)
 |x::xs,i,info,st=>match Zc9 qa x info st with
  |none=>none
  |some y=>Zca qa xs (i+1) (info++[y]) (st.take (st.length-pops y)++[(i:Int)])
theorem Z9i(qa:List Atom){xs:List Zf}{i:Nat}(h:i<xs.length)(info:List Za)(st:List Int):Zca qa (xs.drop i) i info st=match Zc9 qa xs[i] info st with
  |none=>none
  |some y=>Zca qa (xs.drop (i+1)) (i+1) (info++[y]) (st.take (st.length-pops y)++[(i:Int)]):=by
 rw[Yh h,Zca]
def Zby(n:Int)(qa:List Atom)(steps:List Zf):Option (List Za) :=
 if Zw n qa=true/\inR steps.length 1 14=true then(match Zca qa steps 0 [] []with
  |some (info,st)=>if st.length=1 then some info else none
  |none=>none)else none
theorem Zfk{st:List Int}{info:List Za}{k:Nat}{s:Int}{y:Za}(hs:StOk info st)(h1:1<=k)(h:Zdp st info k=some (s,y)):k<=st.length/\0<=s/\s.toNat<info.length/\info[s.toNat]?=some y:=by
 have hk:k<=st.length:=by
  unfold Zdp at h;split at h
  .assumption
  .cases h
 obtain⟨s',y',q1,q2,q3,q4⟩:=Zjs hs h1 hk;rw[q1]at h;cases h;exact⟨hk,q3,(Yy.1 q4).1,q4⟩
theorem Zy2{qa:List Atom}{x:Zf}{info:List Za}{st:List Int}{y:Za}(hs:StOk info st)(h:Zc9 qa x info st=some y) :
  popsI x=pops y/\pops y<=st.length/\(0<=y.Right↔3<=x.Kind):=by
 unfold Zc9 at h;unfold popsI pops;split at h
 .rename_i k1;split at h
  .cases h;simp[k1]
  .cases h
 .rename_i k1;split at h
  .cases h
  .split at h
   .rename_i k2;split at h
    .rename_i s y' ht;split at h
     .cases h;obtain⟨t1,t2,_⟩:=Zfk hs (Yc 1) ht;simp[k2,t2,t1]
     .cases h
    .cases h
   .rename_i k2;split at h
    .rename_i s y' t z ht hu;split at h
     .obtain⟨t1,t2,_⟩:=Zfk hs (by omega:1<=2) ht;obtain⟨u1,u2,_⟩:=Zfk hs (by omega:1<=1) hu;obtain⟨o,ho,rfl⟩:=Yk.1 h;have hk:x.Kind=3\/x.Kind=4\/x.Kind=5:=by
       unfold Zeg at ho;split at ho
       .omega
       .split at ho
        .omega
        .split at ho
         .omega
         .cases ho
      simp only[u2,if_true,k1,k2,if_false];refine⟨rfl,t1,?_⟩;simp;omega
     .cases h
    .cases h
theorem Zpp{info:List Za}{st:List Int}(hs:StOk info st)(y:Za)(k:Nat):StOk (info++[y]) (st.take k++[(info.length:Int)]):=by
 intro s h;rcases Yi.1 h with h|h
 .obtain⟨h1,h2⟩:=hs s (Y4 h);exact⟨h1,by simp;omega⟩
 .simp at h;subst h;simp
theorem st_len{st:List Int}{i k:Nat}(h:st.length<=i)(x:Int):(st.take k++[x]).length<=i+1:=by simp;omega
theorem Z9j{qa:List Atom}:∀{xs:List Zf} {i:Nat} {info:List Za} {st:List Int} {info':List Za} {st':List Int},Zca qa xs i info st=some (info',st')->info'.length=info.length+xs.length
 |[],_,_,_,_,_,h=>by simp[Zca]at h;simp[h.1]
 |x::xs,i,info,st,info',st',h=>by
  rw[Zca]at h;split at h
  .cases h
  .have:=Z9j h;simp at this|-;omega
theorem Zpq{n:Int}{qa:List Atom}{steps:List Zf}{info:List Za}(h:Zby n qa steps=some info):Zw n qa=true/\info.length=steps.length/\1<=steps.length/\steps.length<=14:=by
 unfold Zby at h;split at h
 .rename_i hc;have h2:=hc.2;simp[inR]at h2;split at h
  .rename_i info' st hg;split at h
   .cases h;have:=Z9j hg;simp at this;exact⟨hc.1,this,by omega,by omega⟩
   .cases h
  .cases h
 .cases h
theorem or16:∀a b:Fin 16,orI (a.1:Int) (b.1:Int)=((a.1 ||| b.1:Nat):Int):=by decide
theorem or_lt{k:Nat}(hk:k<=4){a b:Int}(ha:0<=a/\a<2 ^ k)(hb:0<=b/\b<2 ^ k):0<=orI a b/\orI a b<2 ^ k:=by
 have h16:(2:Int) ^ k<=16:=by
  have:k=0\/k=1\/k=2\/k=3\/k=4:=by omega
  rcases this with rfl|rfl|rfl|rfl|rfl<;>decide
 have e1:a=(a.toNat:Int):=by omega
 have e2:b=(b.toNat:Int):=by omega
 have l1:a.toNat<16:=by omega
 have l2:b.toNat<16:=by omega
 have e:=or16 ⟨a.toNat,l1⟩ ⟨b.toNat,l2⟩;simp only at e;rw[e1,e2,e];have c:((2 ^ k:Nat):Int)=2 ^ k:=by simp
 have m1:a.toNat<2 ^ k:=by omega
 have m2:b.toNat<2 ^ k:=by omega
 have:=Nat.or_lt_two_pow m1 m2;omega
theorem shl_lt{k:Nat}(hk:k<=4){v:Int}(h0:0<=v)(h1:v<k):0<=shlI 1 v/\shlI 1 v<2 ^ k:=by
 have h2:v=0\/v=1\/v=2\/v=3:=by omega
 have h3:k=0\/k=1\/k=2\/k=3\/k=4:=by omega
 rcases h2 with rfl|rfl|rfl|rfl<;>rcases h3 with rfl|rfl|rfl|rfl|rfl<;>first|omega|decide
def Zjt(k:Nat)(y:Za):Prop:=0<=y.Mask/\y.Mask<2 ^ k
theorem Zbpq{qa:List Atom}(hk:qa.length<=4){x:Zf}{info:List Za}{st:List Int}{y:Za}(hs:StOk info st)(hm:∀y∈info,Zjt qa.length y)(h:Zc9 qa x info st=some y):Zjt qa.length y:=by
 unfold Zc9 at h;split at h
 .split at h
  .rename_i hc;cases h;have:=hc.1;simp[inR]at this;exact shl_lt hk this.1 (by omega)
  .cases h
 .split at h
  .cases h
  .split at h
   .split at h
    .rename_i s y' ht;split at h
     .cases h;obtain⟨_,_,t3,t4⟩:=Zfk hs (Yc 1) ht;exact hm y' (Yz t4)
     .cases h
    .cases h
   .split at h
    .rename_i s y' t z ht hu;split at h
     .obtain⟨_,_,_,t4⟩:=Zfk hs (by omega:1<=2) ht;obtain⟨_,_,_,u4⟩:=Zfk hs (by omega:1<=1) hu;obtain⟨o,ho,rfl⟩:=Yk.1 h;exact or_lt hk (hm y' (Yz t4)) (hm z (Yz u4))
     .cases h
    .cases h
theorem Z9k{qa:List Atom}(hk:qa.length<=4):∀{xs:List Zf} {i:Nat} {info:List Za} {st:List Int} {info':List Za} {st':List Int},Zca qa xs i info st=some (info',st')->
  StOk info st->info.length=i->(∀y∈info,Zjt qa.length y)->(∀y∈info',Zjt qa.length y)/\∃tail,info'=info++tail/\tail.length=xs.length/\∀(j:Nat) (y:Za) (x:Zf),tail[j]?=some y->xs[j]?=some x->(0<=y.Right↔3<=x.Kind)
 |[],i,info,st,info',st',h,hs,hi,hm=>by
  simp[Zca]at h;obtain⟨rfl,rfl⟩:=h
  exact⟨hm,[],by simp,rfl,by intro j y x hj;simp at hj⟩
 |x::xs,i,info,st,info',st',h,hs,hi,hm=>by
  rw[Zca]at h;split at h
  .cases h
  .rename_i y hy;have hn:=Zpp hs y (st.length-pops y);rw[hi]at hn;have hm2:∀z∈info++[y],Zjt qa.length z:=by
    intro z hz;rcases Yi.1 hz with hz|hz
    .exact hm z hz
    .simp at hz;subst hz;exact Zbpq hk hs hm hy
   obtain⟨g1,tail,g2,g3,g4⟩:=Z9k hk h hn (by simp[hi]) hm2;refine⟨g1,y::tail,by simp[g2],by simp[g3],?_⟩;intro j y' x' hj hx
   cases j with
   |zero=>simp at hj hx;subst hj;subst hx;exact(Zy2 hs hy).2.2
   |succ j=>exact g4 j y' x' (by simpa using hj) (by simpa using hx)
theorem Zy3{n:Int}{qa:List Atom}{steps:List Zf}{info:List Za}(h:Zby n qa steps=some info) :
  (∀y∈info,Zjt qa.length y)/\∀(j:Nat) (y:Za) (x:Zf),info[j]?=some y->steps[j]?=some x->(0<=y.Right↔3<=x.Kind):=by
 have hq:=(Zpq h).1;unfold Zby at h;split at h
 .split at h
  .rename_i info' st hg;split at h
   .cases h;obtain⟨g1,tail,g2,g3,g4⟩:=Z9k (Zgd hq).2 hg (λs hs=>by cases hs) rfl (λy hy=>by cases hy);simp at g2;subst g2;exact⟨g1,g4⟩
   .cases h
  .cases h
 .cases h
def jst:List Zf->Nat->List Int
 |[],_=>[]
 |x::xs,i=>if 3<=x.Kind then(i:Int)::jst xs (i+1)else jst xs (i+1)
theorem Z9l{xs:List Zf}{i:Nat}(h:i<xs.length):jst (xs.drop i) i=if 3<=xs[i].Kind then(i:Int)::jst (xs.drop (i+1)) (i+1)else jst (xs.drop (i+1)) (i+1):=by
 rw[Yh h,jst]
theorem Ztx:∀(xs:List Zf) (i:Nat),(jst xs i).length<=xs.length
 |[],_=>Yc _
 |x::xs,i=>by
  have:=Ztx xs (i+1);unfold jst;split<;>simp<;>omega
theorem Zju:∀{xs:List Zf} {i:Nat} {j:Int},j∈jst xs i->(i:Int)<=j/\j<i+xs.length
 |[],_,_,h=>by cases h
 |x::xs,i,j,h=>by
  unfold jst at h;split at h
  .cases h with
   |head=>simp;omega
   |tail _ h=>have:=Zju h;simp;omega
  .have:=Zju h;simp;omega
def cmpR:List Int->List Int->Int
 |[],[]=>0
 |[],_::_=>-1
 |_::_,[]=>1
 |a::x,b::y=>if a<b then -1 else if b<a then 1 else cmpR x y
def leR(a b:List Int):Bool:=decide (cmpR a b<=0)
def srtR(rows:List (List Int)):List (List Int):=rows.mergeSort leR
def cptR:List (List Int)->List (List Int)
 |[]=>[]
 |[a]=>[a]
 |a::b::l=>if a=b then cptR (b::l)else a::cptR (b::l)
def srtI(l:List Int):List Int:=l.mergeSort λx y=>decide (x<=y)
def cptI:List Int->List Int
 |[]=>[]
 |[a]=>[a]
 |a::b::l=>if a=b then cptI (b::l)else a::cptI (b::l)
def Z9m(es:List (List T))(rows:List (List Int)):Prop:=es=rows.map isc/\rows.length<=4096/\∀r∈rows,r.length<=4
def Z9n(es:List (List T))(l:List Int):Prop:=es=l.map ic/\l.length<=4096
open Classical in
noncomputable def extS(es:List (List T))(k:List (List Int)->AV×List Blk):Option (AV×List Blk):=if h:∃rows,Z9m es rows then some (k h.choose)else none
open Classical in
noncomputable def extI(es:List (List T))(k:List Int->AV×List Blk):Option (AV×List Blk):=if h:∃l,Z9n es l then some (k h.choose)else none
noncomputable def ext:Zt:=λf xs h0=>match xs,h0 with
 |[.own 0,.fn 331 []],[.arr 30 1 fr es]=>if f=330 then extS es λrows=>(.tup [],[.arr 30 1 fr ((srtR rows).map isc)])else none
 |[.own 0,.fn 333 []],[.arr 30 1 fr es]=>if f=332 then extS es λrows=>(.own 1,[.dead,.arr 30 1 fr ((cptR rows).map isc)])else none
 |[.own 0],[.arr 3 1 fr es]=>if f=316 then extI es λl=>(.tup [],[.arr 3 1 fr ((srtI l).map ic)])else if f=388 then extI es λl=>(.own 1,[.dead,.arr 3 1 fr ((cptI l).map ic)])else none
 |_,_=>none
open Go.ChangeShapes Go.WideShapes Go.ChangeAt Go.RowKit
theorem own:ownKnob Tryz.prog.godebug=none:=by kernel_rfl
theorem laidOut:laidOutB Tryz.prog=true:=by kernel_rfl
noncomputable def tbl:Nat->Option MFun:=λf=>if f=330\/f=316 then none else tblOf Tryz.prog [4000003,4000004,4000005,4000006,4000008,4000009,4000010,2000015,2000016,2000017,2000018,4000018,5000018,3000023,3000024,3000025,3000026,2000030,2000034,3000036,3000037,2000041,2000046,2000050,2000057,2000058,3000060,2000064,2000065,3000067,2000070,3000072,1000086,2000089,2000090,2000091,2000092,2000093,2000095,3000103,3000104,3000105,3000106,2000111,115,3000119,3000120,2000123,128,129,1000140,2000170,2000171,3000174,3000175,2000190,1000206,2000209,2000210,3000221,227,2000228,234,240,241,242,243,244,245,246,247,277,2000279,291,1000293,2000294,305,309,310,311,312,313,314,315,316,318,321,1000322,330,332,337,338,1000372,375,1000381,383,385,387,388,1000391,408,419,420,439,444] f
theorem tbl_ok:TblOK Tryz.prog tbl:=by
 intro f m h;unfold tbl at h;split at h
 .cases h
 .exact tblOK _ _ f m h
theorem Zc{f:Nat}{fn:Func}{m:MFun}(hf:Tryz.prog.funcs[f]?=some fn)(hc:Zfi Tryz.prog f=true)(h:Zhz Tryz.prog (inlOf [4000003,4000004,4000005,4000006,4000008,4000009,4000010,2000015,2000016,2000017,2000018,4000018,5000018,3000023,3000024,3000025,3000026,2000030,2000034,3000036,3000037,2000041,2000046,2000050,2000057,2000058,3000060,2000064,2000065,3000067,2000070,3000072,1000086,2000089,2000090,2000091,2000092,2000093,2000095,3000103,3000104,3000105,3000106,2000111,115,3000119,3000120,2000123,128,129,1000140,2000170,2000171,3000174,3000175,2000190,1000206,2000209,2000210,3000221,227,2000228,234,240,241,242,243,244,245,246,247,277,2000279,291,1000293,2000294,305,309,310,311,312,313,314,315,316,318,321,1000322,330,332,337,338,1000372,375,1000381,383,385,387,388,1000391,408,419,420,439,444] f) (Ztq fn) fn=some m)(hne:¬(f=330\/f=316):=by decide):tbl f=some m:=by
 unfold tbl;rw[if_neg hne];exact tblOf_eq hf hc h
noncomputable def C:Zt:=Zb9 ext tbl
theorem run{f:Nat}{xs:List AV}{m:MFun}(ht:tbl f=some m)(hl:xs.length=m.np){r:AV×List Blk}(h:Ev C [.fin 0 m.res] m.body ⟨Zfh xs 0,[[]],[]⟩=some r):C f xs []=some r:=Z8o (h0:=[]) ht hl h
theorem runM{f:Nat}{xs:List AV}{h0:List Blk}{m:MFun}(ht:tbl f=some m)(hl:xs.length=m.np){r:AV×List Blk}(h:Ev C [.fin h0.length m.res] m.body ⟨Zfh xs 0,[Zeo h0 0],h0⟩=some r):C f xs h0=some r:=Z8o ht hl h
abbrev Zbpr:Nat:=10
abbrev Zbps:Nat:=11
abbrev Zbpt:Nat:=12
abbrev Zbpu:Nat:=15
abbrev Zbpv:Nat:=16
abbrev Zy4:Nat:=19
abbrev Zbpw:Nat:=20
abbrev Zbpx:Nat:=21
abbrev Zbpy:Nat:=23
abbrev Zbpz:Nat:=24
abbrev Zpr:Nat:=26
abbrev Z9o:Nat:=27
abbrev Zbp0:Nat:=28
abbrev Zbp1:Nat:=30
abbrev Zbp2:Nat:=32
abbrev Zbp3:Nat:=35
abbrev Zbp4:Nat:=36
abbrev Zbp5:Nat:=37
abbrev Zbp6:Nat:=55
abbrev Zbp7:Nat:=57
abbrev Zbp8:Nat:=59
abbrev Zty:Nat:=60
abbrev Ztz:Nat:=61
abbrev Zbp9:Nat:=69
abbrev Zbqa:Nat:=70
abbrev Zbqb:Nat:=71
abbrev Zbqc:Nat:=72
abbrev Zbqd:Nat:=73
abbrev Zbqe:Nat:=74
abbrev Zbqf:Nat:=75
abbrev Zbqg:Nat:=76
abbrev Zbqh:Nat:=78
abbrev Zbqi:Nat:=89
abbrev Zbqj:Nat:=90
abbrev Zbqk:Nat:=91
abbrev Zbql:Nat:=93
abbrev Zbqm:Nat:=99
abbrev Zbqn:Nat:=100
abbrev Zt0:Nat:=102
abbrev Zbqo:Nat:=103
abbrev Zbqp:Nat:=104
abbrev Zps:Nat:=106
abbrev Zbqq:Nat:=107
abbrev Zbqr:Nat:=111
abbrev Zbqs:Nat:=114
abbrev Zbqt:Nat:=118
abbrev Zbqu:Nat:=119
abbrev Zbqv:Nat:=120
abbrev Zbqw:Nat:=168
abbrev Zbqx:Nat:=170
abbrev Zy5:Nat:=172
abbrev Zbqy:Nat:=173
abbrev Z9p:Nat:=174
abbrev Z9q:Nat:=175
abbrev Z9r:Nat:=176
abbrev Z9s:Nat:=177
abbrev Zbqz:Nat:=190
abbrev Zbq0:Nat:=191
abbrev Zbq1:Nat:=192
abbrev Zbq2:Nat:=193
abbrev Zbq3:Nat:=209
abbrev Zbq4:Nat:=210
abbrev Zbq5:Nat:=219
abbrev Zbq6:Nat:=220
abbrev Zbq7:Nat:=221
abbrev Zy6:Nat:=222
abbrev Zbq8:Nat:=223
abbrev Zbq9:Nat:=228
abbrev Zbra:Nat:=233
abbrev Zbrb:Nat:=238
abbrev Zbrc:Nat:=279
abbrev Zbrd:Nat:=281
abbrev Z9t:Nat:=282
abbrev Zbre:Nat:=294
abbrev Zbrf:Nat:=299
abbrev Zb1:Nat:=3
abbrev t_bool:Nat:=4
abbrev Zma:Nat:=30
abbrev Zy7:Nat:=106
abbrev Zt1:Nat:=194
abbrev Zjv:Nat:=209
abbrev Zt2:Nat:=264
abbrev Zt3:Nat:=277
abbrev Zg8:Nat:=307
end Go.Proofs.YtgnfoghkbpkgjaaGreat
