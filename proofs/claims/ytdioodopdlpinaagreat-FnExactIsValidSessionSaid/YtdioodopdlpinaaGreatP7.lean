/-
  Parts of the proofs for this seat: TX PW EX H.
-/
import Derived.Test.YtdioodopdlpinaaGreatRows
import Derived.Test.YtdioodopdlpinaaGreatP4
import Derived.Test.YtdioodopdlpinaaGreatP5
import Derived.Test.YtdioodopdlpinaaGreatP6
set_option linter.unusedSimpArgs false
set_option linter.unusedVariables false
set_option maxRecDepth 100000
set_option maxHeartbeats 4000000
namespace Go.Proofs.YtdioodopdlpinaaGreat
open Go.AM
@[simp] theorem Zh.map_inj(xs ys:List Zh):xs.map Zh.c=ys.map Zh.c↔xs=ys:=Zb3 (by
 intro a b h;simp at h
 simp[Zh.ext_iff,h])
@[simp] theorem Zm.map_inj(xs ys:List Zm):xs.map Zm.c=ys.map Zm.c↔xs=ys:=Zb3 (by
 intro a b h;simp at h
 simp[Zm.ext_iff,h])
@[simp] theorem Zo.map_inj(xs ys:List Zo):xs.map Zo.c=ys.map Zo.c↔xs=ys:=Zb3 (by
 intro a b h;simp at h
 simp[Zo.ext_iff,h])
@[simp] theorem Zk.map_inj(xs ys:List Zk):xs.map Zk.c=ys.map Zk.c↔xs=ys:=Zb3 (by
 intro a b h;simp at h
 simp[Zk.ext_iff,h])
@[simp] theorem Zv.map_inj(xs ys:List Zv):xs.map Zv.c=ys.map Zv.c↔xs=ys:=Zb3 (by
 intro a b h;simp at h
 simp[Zv.ext_iff,h])
@[simp] theorem Zn.map_inj(xs ys:List Zn):xs.map Zn.c=ys.map Zn.c↔xs=ys:=Zb3 (by
 intro a b h;simp at h
 simp[Zn.ext_iff,h])
@[simp] theorem Zl.map_inj(xs ys:List Zl):xs.map Zl.c=ys.map Zl.c↔xs=ys:=Zb3 (by
 intro a b h;simp at h
 simp[Zl.ext_iff,h])
@[simp] theorem Zl.flat(xs:List Zl):(xs.map Zl.c).all (λx=>x.all Zbk)=true:=Zi5 (λ_=>rfl) xs
@[simp] theorem Zl.flat2(xs:List Zl):xs.all ((λx=>x.all Zbk) ∘ Zl.c)=true:=Zi6 (λ_=>rfl) xs
@[simp] theorem Z3.map_inj(xs ys:List Z3):xs.map Z3.c=ys.map Z3.c↔xs=ys:=Zb3 (by
 intro a b h;simp at h
 simp[Z3.ext_iff,Zm.ext_iff,Zv.ext_iff,h])
@[simp] theorem Zf.map_inj(xs ys:List Zf):xs.map Zf.c=ys.map Zf.c↔xs=ys:=Zb3 (by
 intro a b h;simp at h
 simp[Zf.ext_iff,h])
@[simp] theorem Zf.flat(xs:List Zf):(xs.map Zf.c).all (λx=>x.all Zbk)=true:=Zi5 (λ_=>rfl) xs
@[simp] theorem Zf.flat2(xs:List Zf):xs.all ((λx=>x.all Zbk) ∘ Zf.c)=true:=Zi6 (λ_=>rfl) xs
@[simp] theorem Zq.map_inj(xs ys:List Zq):xs.map Zq.c=ys.map Zq.c↔xs=ys:=Zb3 (by
 intro a b h;simp at h
 simp[Zq.ext_iff,h])
@[simp] theorem Zb.map_inj(xs ys:List Zb):xs.map Zb.c=ys.map Zb.c↔xs=ys:=Zb3 (by
 intro a b h;simp at h
 simp[Zb.ext_iff,Zq.ext_iff,h])
@[simp] theorem Atom.map_inj(xs ys:List Atom):xs.map Atom.c=ys.map Atom.c↔xs=ys:=Zb3 (by
 intro a b h;simp at h
 simp[Atom.ext_iff,h])
@[simp] theorem Ze.map_inj(xs ys:List Ze):xs.map Ze.c=ys.map Ze.c↔xs=ys:=Zb3 (by
 intro a b h;simp at h
 simp[Ze.ext_iff,h])
@[simp] theorem Zc.map_inj(xs ys:List Zc):xs.map Zc.c=ys.map Zc.c↔xs=ys:=Zb3 (by
 intro a b h;simp at h
 simp[Zc.ext_iff,h])
@[simp] theorem Zc.flat(xs:List Zc):(xs.map Zc.c).all (λx=>x.all Zbk)=true:=Zi5 (λ_=>rfl) xs
@[simp] theorem Zc.flat2(xs:List Zc):xs.all ((λx=>x.all Zbk) ∘ Zc.c)=true:=Zi6 (λ_=>rfl) xs
@[simp] theorem Plan.map_inj(xs ys:List Plan):xs.map Plan.c=ys.map Plan.c↔xs=ys:=Zb3 (by
 intro a b h;simp at h
 simp[Plan.ext_iff,h])
@[simp] theorem Box.map_inj(xs ys:List Box):xs.map Box.c=ys.map Box.c↔xs=ys:=Zb3 (by
 intro a b h;simp at h
 simp[Box.ext_iff,h])
@[simp] theorem Region.map_inj(xs ys:List Region):xs.map Region.c=ys.map Region.c↔xs=ys:=Zb3 (by
 intro a b h;simp at h
 simp[Region.ext_iff,Plan.ext_iff,Box.ext_iff,h])
@[simp] theorem Zp.map_inj(xs ys:List Zp):xs.map Zp.c=ys.map Zp.c↔xs=ys:=Zb3 (by
 intro a b h;simp at h
 simp[Zp.ext_iff,Ze.ext_iff,Region.ext_iff,Plan.ext_iff,Box.ext_iff,h])
@[simp] theorem Zbn.map_inj(xs ys:List Zbn):xs.map Zbn.c=ys.map Zbn.c↔xs=ys:=Zb3 (by
 intro a b h;simp at h
 simp[Zbn.ext_iff,h])
@[simp] theorem Zbw.map_inj(xs ys:List Zbw):xs.map Zbw.c=ys.map Zbw.c↔xs=ys:=Zb3 (by
 intro a b h;simp at h
 simp[Zbw.ext_iff,Z3.ext_iff,Zm.ext_iff,Zv.ext_iff,Zb.ext_iff,Zq.ext_iff,Zbn.ext_iff,h])
@[ext] structure Za where
 Mask:Int
 Order:Int
 Cost:Int
 Plan:Plan
 deriving DecidableEq
def Za.c(x:Za):List T:=[.int .i64 x.Mask,.int .i64 x.Order,.int .i64 x.Cost,.lst 3 (x.Plan.Steps.map Zc.c)]
@[simp] theorem Za.c_def(x:Za):x.c=[.int .i64 x.Mask,.int .i64 x.Order,.int .i64 x.Cost,.lst 3 (x.Plan.Steps.map Zc.c)]:=rfl
@[simp] theorem Za.map_inj(xs ys:List Za):xs.map Za.c=ys.map Za.c↔xs=ys:=Zb3 (by
 intro a b h;simp at h
 simp[Za.ext_iff,Plan.ext_iff,h])
@[ext] structure Zj where
 Mask:Int
 Order:Int
 Left:Int
 Right:Int
 deriving DecidableEq
def Zj.c(x:Zj):List T:=[.int .i64 x.Mask,.int .i64 x.Order,.int .i64 x.Left,.int .i64 x.Right]
@[simp] theorem Zj.c_def(x:Zj):x.c=[.int .i64 x.Mask,.int .i64 x.Order,.int .i64 x.Left,.int .i64 x.Right]:=rfl
@[simp] theorem Zj.map_inj(xs ys:List Zj):xs.map Zj.c=ys.map Zj.c↔xs=ys:=Zb3 (by
 intro a b h;simp at h
 simp[Zj.ext_iff,h])
@[simp] theorem Zj.flat(xs:List Zj):(xs.map Zj.c).all (λx=>x.all Zbk)=true:=Zi5 (λ_=>rfl) xs
@[simp] theorem Zj.flat2(xs:List Zj):xs.all ((λx=>x.all Zbk) ∘ Zj.c)=true:=Zi6 (λ_=>rfl) xs
@[ext] structure Zbj where
 mask:Int
 Z5:List Int
 shared:List (List Int)
 deriving DecidableEq
def Zbj.c(x:Zbj):List T:=[.int .i64 x.mask,.lst 1 (x.Z5.map ic),.lst 1 (x.shared.map isc)]
@[simp] theorem Zbj.c_def(x:Zbj):x.c=[.int .i64 x.mask,.lst 1 (x.Z5.map ic),.lst 1 (x.shared.map isc)]:=rfl
@[simp] theorem Zbj.map_inj(xs ys:List Zbj):xs.map Zbj.c=ys.map Zbj.c↔xs=ys:=Zb3 (by
 intro a b h;simp at h
 simp[Zbj.ext_iff,h])
def inR(a b c:Int):Bool:=decide (b<=a/\a<=c)
def Zcs(c:Int):Int:=if c<0 then -1 else if c=0 then 0 else if c=1 then 1 else if c=2 then 4 else if c=3 then 16 else if c=4 then 64 else if c=5 then 256 else if c=6 then 1024 else if c=7 then 4096 else -1
theorem cls8{c:Int}(h:inR c 0 7=true):c=0\/c=1\/c=2\/c=3\/c=4\/c=5\/c=6\/c=7:=by
 simp[inR]at h;omega
theorem Zbb0{c:Int}(h:inR c 0 7=false):Zcs c=-1:=by
 simp[inR]at h;unfold Zcs;split
 .rfl
 .repeat' split
  all_goals omega
theorem Zqq{α:Type}(p:α->Bool){xs:List α}{i:Nat}(h:i<xs.length):(xs.drop i).all p=(p xs[i] && (xs.drop (i+1)).all p):=by
 rw[Yf h,Y9]
theorem drop_any{α:Type}(p:α->Bool){xs:List α}{i:Nat}(h:i<xs.length):(xs.drop i).any p=(p xs[i] || (xs.drop (i+1)).any p):=by
 rw[Yf h,Ydh]
def Zi7(xs:List Int):Bool:=xs.all (λx=>inR x 0 7)
def Zb8(xs:List Int):Bool:=Zi7 xs && decide ((xs.length:Int)<=16)
theorem Zbb1{xs:List Int}{i:Nat}(h:i<xs.length):Zi7 (xs.drop i)=(inR xs[i] 0 7 && Zi7 (xs.drop (i+1))):=Zqq _ h
def Zhx:List Int->List Int->Bool
 |x::xs,y::ys=>decide (y<=x) && Zhx xs ys
 |_,_=>true
def dom(xs ys:List Int):Bool:=decide (xs.length=ys.length) && Zhx xs ys
theorem Zbb2{xs ys:List Int}{i:Nat}(h:i<xs.length)(h':i<ys.length):Zhx (xs.drop i) (ys.drop i)=(decide (ys[i]<=xs[i]) && Zhx (xs.drop (i+1)) (ys.drop (i+1))):=by
 rw[Yf h,Yf h',Zhx]
def Zhy(lo hi:List Int):Bool:=decide (0<lo.length) && Zb8 lo && Zb8 hi && dom hi lo
def bit4(a b c d:Bool):Int:=(if a then 1 else 0)+(if b then 2 else 0)+(if c then 4 else 0)+(if d then 8 else 0)
def Zbm(p:Nat->Bool):Int:=bit4 (p 0) (p 1) (p 2) (p 3)
theorem in4{v:Int}(h:inR v 0 3=true):v=0\/v=1\/v=2\/v=3:=by simp[inR]at h;omega
def has(xs:List Int)(v:Int):Bool:=xs.any (λx=>decide (v=x))
theorem Zi8{xs:List Int}{v:Int}:has xs v=true↔v∈xs:=by
 simp only[has,List.any_eq_true,decide_eq_true_eq];exact⟨λ⟨x,h,e⟩=>e▸h,λh=>⟨v,h,rfl⟩⟩
def addV(p:Nat->Bool)(vs:List Int):Nat->Bool:=λu=>p u || has vs u
theorem Z1g(p:Nat->Bool):addV p []=p:=by funext u;simp[addV,has]
theorem Zbud(p:Nat->Bool)(v:Int)(vs:List Int):addV (addV p [v]) vs=addV p (v::vs):=by funext u;simp[addV,has,Bool.or_assoc]
theorem Z1h(p:Nat->Bool){vs:List Int}{i:Nat}(h:i<vs.length):addV p (vs.drop i)=addV (addV p [vs[i]]) (vs.drop (i+1)):=by
 rw[Yf h,Zbud]
theorem or_d:∀a b c d:Bool,orI (bit4 a b c d) 1=bit4 true b c d/\orI (bit4 a b c d) 2=bit4 a true c d/\orI (bit4 a b c d) 4=bit4 a b true d/\orI (bit4 a b c d) 8=bit4 a b c true:=by decide
theorem Zvx(p:Nat->Bool){v:Int}(h:inR v 0 3=true):orI (Zbm p) (shlI 1 v)=Zbm (addV p [v]):=by
 have q:=or_d (p 0) (p 1) (p 2) (p 3);rcases in4 h with rfl|rfl|rfl|rfl<;>simp[addV,has,Zbm,shlI,Z2,q]
theorem and_d:∀a b c d:Bool,(andI (shrI (bit4 a b c d) 0) 1=1↔a=true)/\(andI (shrI (bit4 a b c d) 1) 1=1↔b=true)/\(andI (shrI (bit4 a b c d) 2) 1=1↔c=true)/\(andI (shrI (bit4 a b c d) 3) 1=1↔d=true):=by decide
theorem at_bit(p:Nat->Bool){v:Int}(h:inR v 0 3=true):andI (shrI (Zbm p) v) 1=1↔p v.toNat=true:=by
 have q:=and_d (p 0) (p 1) (p 2) (p 3);rcases in4 h with rfl|rfl|rfl|rfl<;>simp[Zbm,q]
theorem and4:∀a b c d a' b' c' d':Bool,andI (bit4 a b c d) (bit4 a' b' c' d')=bit4 (a && a') (b && b') (c && c') (d && d'):=by decide
theorem Zbb3(p q:Nat->Bool):andI (Zbm p) (Zbm q)=Zbm (λu=>p u && q u):=and4 _ _ _ _ _ _ _ _
theorem zero4:∀a b c d:Bool,bit4 a b c d=0↔(a=false/\b=false/\c=false/\d=false):=by decide
theorem Zbue(p:Nat->Bool):Zbm p=0↔∀u,u<4->p u=false:=by
 rw[Zbm,zero4];constructor
 .rintro⟨h0,h1,h2,h3⟩ u hu
  match u,hu with
  |0,_=>exact h0
  |1,_=>exact h1
  |2,_=>exact h2
  |3,_=>exact h3
 .intro h;exact⟨h 0 (by omega),h 1 (by omega),h 2 (by omega),h 3 (by omega)⟩
def Zc2{α:Type}(p:α->Bool):List α->Nat->Int
 |[],_=>-1
 |x::xs,i=>if p x=true then i else Zc2 p xs (i+1)
theorem Z1i{α:Type}(p:α->Bool){xs:List α}{i:Nat}(h:i<xs.length):Zc2 p (xs.drop i) i=if p xs[i]=true then(i:Int)else Zc2 p (xs.drop (i+1)) (i+1):=by
 rw[Yf h,Zc2]
theorem Zbb4{α:Type}(p:α->Bool)(xs:List α):∀i,xs.any p=false->Zc2 p xs i=-1:=by
 induction xs with
 |nil=>intro i _;rfl
 |cons x xs ih=>intro i h;simp at h;simp[Zc2,h];apply ih;simp;exact h.2
theorem Zbb5{α:Type}(p:α->Bool)(xs:List α):∀i,xs.any p=true->0<=Zc2 p xs i:=by
 induction xs with
 |nil=>intro i h;simp at h
 |cons x xs ih =>
  intro i h;unfold Zc2;split
  .omega
  .rename_i hx;simp only[Ydh,hx,Yb4]at h;exact ih _ h
abbrev tB(xs:List Bool):T:=.lst 1 (xs.map λb=>[T.bool b])
def nmOk(s:ByteArray):Bool:=match s[0]? with
 |some b=>decide (s.size=1) && decide (97<=(b.toNat:Int)) && decide ((b.toNat:Int)<=122)
 |none=>false
theorem get0{s:ByteArray}(h:s.size=1):∃b,s[0]?=some b:=⟨s[0],getElem?_pos s 0 (by omega)⟩
def Zfi(n:Int)(c:List Int):List Int->Bool
 |[]=>true
 |v::rest=>inR v 0 (n-1) && !has c v && Zfi n (c++[v]) rest
theorem Zbb6(n:Int){vs:List Int}{k:Nat}(h:k<vs.length):Zfi n (vs.take k) (vs.drop k)=(inR vs[k] 0 (n-1) && !has (vs.take k) vs[k] && Zfi n (vs.take (k+1)) (vs.drop (k+1))):=by
 conv=>lhs;rw[Yf h,Zfi]
 rw[List.take_add_one,Yc h];rfl
theorem Z1j{n:Int}:∀{vs c:List Int},Zfi n c vs=true->∀v∈vs,inR v 0 (n-1)=true
 |[],_,_,v,hv=>by cases hv
 |x::xs,c,h,v,hv=>by
  simp only[Zfi,Ye]at h
  cases hv with
  |head=>exact h.1.1
  |tail _ hv=>exact Z1j h.2 v hv
def Zc3(n:Int)(a:Atom):Bool:=nmOk a.Name && inR a.Vars.length 1 3 && Zfi n [] a.Vars
def addA(p:Nat->Bool)(qa:List Atom):Nat->Bool:=λu=>p u || qa.any λa=>has a.Vars u
theorem Zbb7(p:Nat->Bool){qa:List Atom}{i:Nat}(h:i<qa.length):addA p (qa.drop i)=addA (addV p qa[i].Vars) (qa.drop (i+1)):=by
 rw[Yf h];funext u;simp only[addA,Ydh,addV,Bool.or_assoc]
def Zx(n:Int)(qa:List Atom):Bool :=
 inR n 1 4 && inR qa.length 1 4 && qa.all (Zc3 n) && (List.range n.toNat).all (addA (λ_=>false) qa)
def bl(p:Nat->Bool)(n:Nat):List (List T):=(List.range n).map λu=>[T.bool (p u)]
@[simp] theorem bl_get(p:Nat->Bool)(n i:Nat)(h:i<(bl p n).length):(bl p n)[i]=[T.bool (p i)]:=by simp[bl]
theorem bl_any(p:Nat->Bool)(n:Nat):((List.range n).map p).any (λx=>false == x)=!(List.range n).all p:=by
 rw[List.any_map,Ybk];simp
theorem Zvy:∀a b c d:Bool,(bit4 a b c d=1↔(a=true/\b=false/\c=false/\d=false))/\(bit4 a b c d=3↔(a=true/\b=true/\c=false/\d=false))/\(bit4 a b c d=7↔(a=true/\b=true/\c=true/\d=false))/\(bit4 a b c d=15↔(a=true/\b=true/\c=true/\d=true)):=by decide
theorem all_in{n:Int}{qa:List Atom}(h:qa.all (Zc3 n)=true):∀u:Int,n<=u->qa.any (λa=>has a.Vars u)=false:=by
 intro u hu;rw[Yc8];intro a ha hc;rw[Zi8]at hc;have:=Yr.1 h a ha;simp only[Zc3,Ye]at this;have:=Z1j this.2 _ hc;simp[inR]at this;omega
def Zbd(n:Int)(qa:List Atom):Int:=if Zx n qa=true then shlI 1 qa.length-1 else 0
theorem Zki{n:Int}{qa:List Atom}(h:Zx n qa=true):(qa.length=1\/qa.length=2\/qa.length=3\/qa.length=4)/\shlI 1 qa.length=2 ^ qa.length/\IntKind.wrap .i64 (shlI 1 qa.length-1)=shlI 1 qa.length-1/\IntKind.wrap .i64 (shlI 1 qa.length-1+1)=shlI 1 qa.length-1+1:=by
 simp only[Zx,Ye]at h;have h2:=h.1.1.2;simp[inR]at h2;have h3:qa.length=1\/qa.length=2\/qa.length=3\/qa.length=4:=by omega
 refine⟨h3,?_⟩;rcases h3 with h3|h3|h3|h3<;>rw[h3]<;>decide
theorem Zvz(n:Int)(qa:List Atom):IntKind.wrap .i64 (Zbd n qa+1)=Zbd n qa+1:=by
 unfold Zbd;split
 .rename_i h;exact(Zki h).2.2.2
 .decide
def Zm0(n:Int)(qa:List Atom)(lo hi:List Int):Bool:=Zhy lo hi && decide ((lo.length:Int)=Zbd n qa+1)
def Z9(m:Int)(i:Nat):Bool:=decide (andI (shrI m i) 1=1)
def hasV(m:Int):List Atom->Nat->Int->Bool
 |[],_,_=>false
 |a::as',i,u=>(Z9 m i && has a.Vars u) || hasV m as' (i+1) u
theorem Z1k(m:Int){qa:List Atom}{i:Nat}(h:i<qa.length)(u:Int):hasV m (qa.drop i) i u=((Z9 m i && has qa[i].Vars u) || hasV m (qa.drop (i+1)) (i+1) u):=by
 rw[Yf h,hasV]
def pV(m:Int)(qa:List Atom):Nat->Bool:=λu=>hasV m qa 0 u
def Var4(qa:List Atom):Prop:=∀a∈qa,∀v∈a.Vars,inR v 0 3=true
theorem Zv0{n:Int}{qa:List Atom}(h:Zx n qa=true):∀a∈qa,∀v∈a.Vars,inR v 0 (n-1)=true:=by
 intro a ha v hv;simp only[Zx,Ye]at h;have:=Yr.1 h.1.2 a ha;simp only[Zc3,Ye]at this;exact Z1j this.2 v hv
theorem Zfy{n:Int}{qa:List Atom}(h:Zx n qa=true):1<=n/\n<=4:=by
 simp only[Zx,Ye]at h;have:=h.1.1.1;simpa[inR]using this
theorem Zcx{n:Int}{qa:List Atom}(h:Zx n qa=true):1<=qa.length/\qa.length<=4:=by
 simp only[Zx,Ye]at h;have:=h.1.1.2;simp[inR]at this;omega
theorem Zm1{n:Int}{qa:List Atom}(h:Zx n qa=true):∀a∈qa,1<=a.Vars.length/\a.Vars.length<=3:=by
 intro a ha;simp only[Zx,Ye]at h;have:=Yr.1 h.1.2 a ha;simp only[Zc3,Ye]at this;have:=this.1.2;simp[inR]at this;omega
theorem Zkj{n:Int}{qa:List Atom}(h:Zx n qa=true):Var4 qa:=by
 intro a ha v hv;have:=Zv0 h a ha v hv;have h2:=Zfy h;simp[inR]at this|-;omega
def addM(m:Int)(p:Nat->Bool)(qa:List Atom)(i:Nat):Nat->Bool:=λu=>p u || hasV m (qa.drop i) i u
theorem Zbuf(m:Int)(p:Nat->Bool){qa:List Atom}{i:Nat}(h:i<qa.length):addM m p qa i=addM m (if Z9 m i=true then addV p qa[i].Vars else p) qa (i+1):=by
 funext u;rw[addM,Z1k _ h];rcases tf (Z9 m i)with e|e<;>simp[addM,addV,e,Bool.or_assoc]
def varL(m:Int)(qa:List Atom)(k:Nat):List Int:=((List.range k).filter (pV m qa)).map λu:Nat=>(u:Int)
theorem Zbug(m:Int)(qa:List Atom)(k:Nat):varL m qa (k+1)=varL m qa k++if hasV m qa 0 k=true then[(k:Int)]else[]:=by
 unfold varL;rw[Yc4,Yc9,Ybb];rcases tf (hasV m qa 0 k)with e|e<;>simp[pV,e]
theorem Zm2(m:Int)(qa:List Atom)(k:Nat):(varL m qa k).length<=k:=by
 unfold varL;simp;exact Yq (Ybv _ _) (by simp)
theorem Z1l{α:Type}(p:α->Bool){xs:List α}{i:Nat}(h:i<xs.length):(xs.take (i+1)).filter p=(xs.take i).filter p++if p xs[i]=true then[xs[i]]else[]:=by
 rw[List.take_add_one,Yc h,Yc9];rcases tf (p xs[i])with e|e<;>simp[e]
def vin(qa:List Atom)(m v:Int):Bool:=inR v 0 3 && pV m qa v.toNat
def shr(qa:List Atom)(a b:Int):Bool:=(List.range 4).any λu=>pV a qa u && pV b qa u
def Zcg(st:List Int)(info:List Zj)(k:Nat):Option (Int×Zj):=if k<=st.length then(match st[st.length-k]? with
 |some s=>(info[s.toNat]?).map (s,·)
 |none=>none)else none
def Zc7(qa:List Atom)(x:Zc)(y z:Zj):Option Int :=
 if x.Kind=3/\x.Order=0 then some (-1)
 else if x.Kind=5/\x.Order=0 then some y.Order
 else if x.Kind=4/\vin qa y.Mask x.Order=true/\vin qa z.Mask x.Order=true/\y.Order=x.Order/\z.Order=x.Order then some x.Order
 else none
def Zd1(qa:List Atom)(x:Zc)(info:List Zj)(st:List Int):Option Zj :=
 if x.Kind=1 then(if inR x.Atom 0 (qa.length-1)=true/\x.Order=0 then some ⟨shlI 1 x.Atom,(match qa[x.Atom.toNat]? with|some a=>a.Vars.headD 0|none=>0),-1,-1⟩else none)
 else if x.Atom≠0 then none
 else if x.Kind=2 then(match Zcg st info 1 with
  |some (s,y)=>if vin qa y.Mask x.Order=true/\y.Order≠x.Order then some ⟨y.Mask,x.Order,s,-1⟩else none
  |none=>none)
 else match Zcg st info 2,Zcg st info 1 with
  |some (s,y),some (t,z)=>if andI y.Mask z.Mask=0/\shr qa y.Mask z.Mask=true then(Zc7 qa x y z).map (⟨orI y.Mask z.Mask,·,s,t⟩)else none
  |_,_=>none
def StOk(info:List Zj)(st:List Int):Prop:=∀s∈st,0<=s/\s.toNat<info.length
theorem Zkk{info:List Zj}{st:List Int}(h:StOk info st){k:Nat}(h1:1<=k)(h2:k<=st.length) :
  ∃s y,Zcg st info k=some (s,y)/\st[st.length-k]?=some s/\0<=s/\info[s.toNat]?=some y:=by
 have hlt:st.length-k<st.length:=by omega
 obtain⟨h3,h4⟩:=h _ (Yd hlt);refine⟨st[st.length-k],info[(st[st.length-k]).toNat],?_,Yc hlt,h3,Yc h4⟩;simp[Zcg,h2,Yc hlt,Yc h4]
theorem pV_lt{n:Int}{qa:List Atom}(h:Zx n qa=true){m:Int}{u:Nat}(hp:pV m qa u=true):(u:Int)<n:=by
 have:∀(l:List Atom) (i:Nat),(∀a∈l,a∈qa)->hasV m l i u=true->(u:Int)<n:=by
  intro l
  induction l with
  |nil=>intro i _ hh;simp[hasV]at hh
  |cons a l ih =>
   intro i hs hh;simp only[hasV,Ycz,Ye]at hh;rcases hh with hh|hh
   .have:=Zv0 h a (hs a (by simp)) u (Zi8.1 hh.2);simp[inR]at this;omega
   .exact ih (i+1) (λb hb=>hs b (by simp[hb])) hh
 exact this qa 0 (λa ha=>ha) hp
theorem Zqr{n:Int}{qa:List Atom}(h:Zx n qa=true)(m v:Int):has (varL m qa n.toNat) v=vin qa m v:=by
 have hn:=Zfy h;rw[Ybk,Zi8];simp only[varL,Ys,Ybe,Ybu,vin,Ye];constructor
 .rintro⟨u,⟨h1,h2⟩,rfl⟩;refine⟨by simp[inR];omega,by simpa using h2⟩
 .rintro⟨h1,h2⟩;have h3:=pV_lt h h2;simp[inR]at h1;exact⟨v.toNat,⟨by omega,h2⟩,by omega⟩
theorem Zbuh{n:Int}{qa:List Atom}(h:Zx n qa=true)(a b:Int):((varL a qa n.toNat).filter (has (varL b qa n.toNat))).length=0↔shr qa a b=false:=by
 have hn:=Zfy h;rw[Yc3,Yce,shr,Yc8];simp only[Zqr h];constructor
 .intro hh u hu;simp only[Ybu]at hu;simp only[Ye,not_and];intro h1 h2;have h3:=pV_lt h h1;refine hh (u:Int) ?_ ?_
  .simp only[varL,Ys,Ybe,Ybu];exact⟨u,⟨by omega,h1⟩,rfl⟩
  .simp only[vin,Ye];exact⟨by simp[inR];omega,by simpa using h2⟩
 .intro hh v hv;simp only[varL,Ys,Ybe,Ybu]at hv;obtain⟨u,⟨h1,h2⟩,rfl⟩:=hv;have:=hh u (by simp only[Ybu];omega);simp only[Ye,not_and]at this;simp only[vin,Ye,not_and];intro _;simpa using this h2
theorem Zbui{n:Int}{qa:List Atom}(h:Zx n qa=true)(a b v:Int):has ((varL a qa n.toNat).filter (has (varL b qa n.toNat))) v=(vin qa a v && vin qa b v):=by
 rw[Ybk,Zi8,Ybe,<-Zi8,Zqr h,Zqr h,Ye]
theorem Z1m(qa:List Atom)(a b:Int):andI (Zbm (pV a qa)) (Zbm (pV b qa))=0↔shr qa a b=false:=by
 rw[Zbb3,Zbue,shr,Yc8];simp
def popsI(x:Zc):Int:=if x.Kind=1 then 0 else if x.Kind=2 then 1 else 2
theorem hd0{xs:List Int}(h:0<xs.length):xs.head?.getD 0=xs[0]:=by cases xs with|nil=>simp at h|cons x xs=>rfl
def pops(y:Zj):Nat:=if 0<=y.Right then 2 else if 0<=y.Left then 1 else 0
def Zcl(qa:List Atom):List Zc->Nat->List Zj->List Int->Option (List Zj×List Int)
 |[],_,info,st=>some (info,st)
 |x::xs,i,info,st=>match Zd1 qa x info st with
  |none=>none
  |some y=>Zcl qa xs (i+1) (info++[y]) (st.take (st.length-pops y)++[(i:Int)])
theorem Zbb8(qa:List Atom){xs:List Zc}{i:Nat}(h:i<xs.length)(info:List Zj)(st:List Int):Zcl qa (xs.drop i) i info st=match Zd1 qa xs[i] info st with
  |none=>none
  |some y=>Zcl qa (xs.drop (i+1)) (i+1) (info++[y]) (st.take (st.length-pops y)++[(i:Int)]):=by
 rw[Yf h,Zcl]
def Zcm(n:Int)(qa:List Atom)(steps:List Zc):Option (List Zj) :=
 if Zx n qa=true/\inR steps.length 1 14=true then(match Zcl qa steps 0 [] []with
  |some (info,st)=>if st.length=1 then some info else none
  |none=>none)else none
theorem Zhz{st:List Int}{info:List Zj}{k:Nat}{s:Int}{y:Zj}(hs:StOk info st)(h1:1<=k)(h:Zcg st info k=some (s,y)):k<=st.length/\0<=s/\s.toNat<info.length/\info[s.toNat]?=some y:=by
 have hk:k<=st.length:=by
  unfold Zcg at h;split at h
  .assumption
  .cases h
 obtain⟨s',y',q1,q2,q3,q4⟩:=Zkk hs h1 hk;rw[q1]at h;cases h;exact⟨hk,q3,(Y0.1 q4).1,q4⟩
theorem Z1n{qa:List Atom}{x:Zc}{info:List Zj}{st:List Int}{y:Zj}(hs:StOk info st)(h:Zd1 qa x info st=some y) :
  popsI x=pops y/\pops y<=st.length/\(0<=y.Right↔3<=x.Kind):=by
 unfold Zd1 at h;unfold popsI pops;split at h
 .rename_i k1;split at h
  .cases h;simp[k1]
  .cases h
 .rename_i k1;split at h
  .cases h
  .split at h
   .rename_i k2;split at h
    .rename_i s y' ht;split at h
     .cases h;obtain⟨t1,t2,_⟩:=Zhz hs (Yh 1) ht;simp[k2,t2,t1]
     .cases h
    .cases h
   .rename_i k2;split at h
    .rename_i s y' t z ht hu;split at h
     .obtain⟨t1,t2,_⟩:=Zhz hs (by omega:1<=2) ht;obtain⟨u1,u2,_⟩:=Zhz hs (by omega:1<=1) hu;obtain⟨o,ho,rfl⟩:=Yl.1 h;have hk:x.Kind=3\/x.Kind=4\/x.Kind=5:=by
       unfold Zc7 at ho;split at ho
       .omega
       .split at ho
        .omega
        .split at ho
         .omega
         .cases ho
      simp only[u2,if_true,k1,k2,if_false];refine⟨rfl,t1,?_⟩;simp;omega
     .cases h
    .cases h
theorem Zqs{info:List Zj}{st:List Int}(hs:StOk info st)(y:Zj)(k:Nat):StOk (info++[y]) (st.take k++[(info.length:Int)]):=by
 intro s h;rcases Yi.1 h with h|h
 .obtain⟨h1,h2⟩:=hs s (Y6 h);exact⟨h1,by simp;omega⟩
 .simp at h;subst h;simp
theorem st_len{st:List Int}{i k:Nat}(h:st.length<=i)(x:Int):(st.take k++[x]).length<=i+1:=by simp;omega
theorem Zbb9{qa:List Atom}:∀{xs:List Zc} {i:Nat} {info:List Zj} {st:List Int} {c:List Zj} {cc:List Int},Zcl qa xs i info st=some (c,cc)->c.length=info.length+xs.length
 |[],_,_,_,_,_,h=>by simp[Zcl]at h;simp[h.1]
 |x::xs,i,info,st,c,cc,h=>by
  rw[Zcl]at h;split at h
  .cases h
  .have:=Zbb9 h;simp at this|-;omega
theorem Zkl{n:Int}{qa:List Atom}{steps:List Zc}{info:List Zj}(h:Zcm n qa steps=some info):Zx n qa=true/\info.length=steps.length/\1<=steps.length/\steps.length<=14:=by
 unfold Zcm at h;split at h
 .rename_i hc;have h2:=hc.2;simp[inR]at h2;split at h
  .rename_i info' st hg;split at h
   .cases h;have:=Zbb9 hg;simp at this;exact⟨hc.1,this,by omega,by omega⟩
   .cases h
  .cases h
 .cases h
def Zi9(n:Int)(qa:List Atom)(steps:List Zc):Int:=match Zcm n qa steps with
 |some info=>match info[info.length-1]? with
  |some y=>y.Mask
  |none=>0
 |none=>0
def Zja(n:Int)(qa:List Atom)(steps:List Zc)(lo hi:List Int)(pc:Int):Bool :=
 Zx n qa && Zm0 n qa lo hi && decide (Zi9 n qa steps=Zbd n qa) && inR pc 100 1000
theorem Z1o{n:Int}{qa:List Atom}(h:Zx n qa=true):0<Zbd n qa:=by
 obtain⟨h1,h2,_⟩:=Zki h;unfold Zbd;rw[if_pos h,h2];rcases h1 with h1|h1|h1|h1<;>rw[h1]<;>decide
theorem or16:∀a b:Fin 16,orI (a.1:Int) (b.1:Int)=((a.1 ||| b.1:Nat):Int):=by decide
theorem or_lt{k:Nat}(hk:k<=4){a b:Int}(ha:0<=a/\a<2 ^ k)(hb:0<=b/\b<2 ^ k):0<=orI a b/\orI a b<2 ^ k:=by
 have h16:(2:Int) ^ k<=16:=by
  have:k=0\/k=1\/k=2\/k=3\/k=4:=by omega
  rcases this with rfl|rfl|rfl|rfl|rfl<;>decide
 have e1:a=(a.toNat:Int):=by omega
 have e2:b=(b.toNat:Int):=by omega
 have l1:a.toNat<16:=by omega
 have l2:b.toNat<16:=by omega
 have e:=or16 ⟨a.toNat,l1⟩ ⟨b.toNat,l2⟩;simp only at e;rw[e1,e2,e];have c:((2 ^ k:Nat):Int)=2 ^ k:=by simp
 have m1:a.toNat<2 ^ k:=by omega
 have m2:b.toNat<2 ^ k:=by omega
 have:=Nat.or_lt_two_pow m1 m2;omega
theorem shl_lt{k:Nat}(hk:k<=4){v:Int}(h0:0<=v)(h1:v<k):0<=shlI 1 v/\shlI 1 v<2 ^ k:=by
 have h2:v=0\/v=1\/v=2\/v=3:=by omega
 have h3:k=0\/k=1\/k=2\/k=3\/k=4:=by omega
 rcases h2 with rfl|rfl|rfl|rfl<;>rcases h3 with rfl|rfl|rfl|rfl|rfl<;>first|omega|decide
def Zkm(k:Nat)(y:Zj):Prop:=0<=y.Mask/\y.Mask<2 ^ k
theorem Zbuj{qa:List Atom}(hk:qa.length<=4){x:Zc}{info:List Zj}{st:List Int}{y:Zj}(hs:StOk info st)(hm:∀y∈info,Zkm qa.length y)(h:Zd1 qa x info st=some y):Zkm qa.length y:=by
 unfold Zd1 at h;split at h
 .split at h
  .rename_i hc;cases h;have:=hc.1;simp[inR]at this;exact shl_lt hk this.1 (by omega)
  .cases h
 .split at h
  .cases h
  .split at h
   .split at h
    .rename_i s y' ht;split at h
     .cases h;obtain⟨_,_,t3,t4⟩:=Zhz hs (Yh 1) ht;exact hm y' (Y4 t4)
     .cases h
    .cases h
   .split at h
    .rename_i s y' t z ht hu;split at h
     .obtain⟨_,_,_,t4⟩:=Zhz hs (by omega:1<=2) ht;obtain⟨_,_,_,u4⟩:=Zhz hs (by omega:1<=1) hu;obtain⟨o,ho,rfl⟩:=Yl.1 h;exact or_lt hk (hm y' (Y4 t4)) (hm z (Y4 u4))
     .cases h
    .cases h
theorem Zbca{qa:List Atom}(hk:qa.length<=4):∀{xs:List Zc} {i:Nat} {info:List Zj} {st:List Int} {c:List Zj} {cc:List Int},Zcl qa xs i info st=some (c,cc)->
  StOk info st->info.length=i->(∀y∈info,Zkm qa.length y)->(∀y∈c,Zkm qa.length y)/\∃tail,c=info++tail/\tail.length=xs.length/\∀(j:Nat) (y:Zj) (x:Zc),tail[j]?=some y->xs[j]?=some x->(0<=y.Right↔3<=x.Kind)
 |[],i,info,st,c,cc,h,hs,hi,hm=>by
  simp[Zcl]at h;obtain⟨rfl,rfl⟩:=h
  exact⟨hm,[],by simp,rfl,by intro j y x hj;simp at hj⟩
 |x::xs,i,info,st,c,cc,h,hs,hi,hm=>by
  rw[Zcl]at h;split at h
  .cases h
  .rename_i y hy;have hn:=Zqs hs y (st.length-pops y);rw[hi]at hn;have hm2:∀z∈info++[y],Zkm qa.length z:=by
    intro z hz;rcases Yi.1 hz with hz|hz
    .exact hm z hz
    .simp at hz;subst hz;exact Zbuj hk hs hm hy
   obtain⟨g1,tail,g2,g3,g4⟩:=Zbca hk h hn (by simp[hi]) hm2;refine⟨g1,y::tail,by simp[g2],by simp[g3],?_⟩;intro j y' x' hj hx
   cases j with
   |zero=>simp at hj hx;subst hj;subst hx;exact(Z1n hs hy).2.2
   |succ j=>exact g4 j y' x' (by simpa using hj) (by simpa using hx)
theorem Zbcb{n:Int}{qa:List Atom}{steps:List Zc}{info:List Zj}(h:Zcm n qa steps=some info) :
  (∀y∈info,Zkm qa.length y)/\∀(j:Nat) (y:Zj) (x:Zc),info[j]?=some y->steps[j]?=some x->(0<=y.Right↔3<=x.Kind):=by
 have hq:=(Zkl h).1;unfold Zcm at h;split at h
 .split at h
  .rename_i info' st hg;split at h
   .cases h;obtain⟨g1,tail,g2,g3,g4⟩:=Zbca (Zcx hq).2 hg (λs hs=>by cases hs) rfl (λy hy=>by cases hy);simp at g2;subst g2;exact⟨g1,g4⟩
   .cases h
  .cases h
 .cases h
def cmpR:List Int->List Int->Int
 |[],[]=>0
 |[],_::_=>-1
 |_::_,[]=>1
 |a::x,b::y=>if a<b then -1 else if b<a then 1 else cmpR x y
def leR(a b:List Int):Bool:=decide (cmpR a b<=0)
def srtR(rows:List (List Int)):List (List Int):=rows.mergeSort leR
def cptR:List (List Int)->List (List Int)
 |[]=>[]
 |[a]=>[a]
 |a::b::l=>if a=b then cptR (b::l)else a::cptR (b::l)
def srtI(l:List Int):List Int:=l.mergeSort λx y=>decide (x<=y)
def cptI:List Int->List Int
 |[]=>[]
 |[a]=>[a]
 |a::b::l=>if a=b then cptI (b::l)else a::cptI (b::l)
def Zbcc(es:List (List T))(rows:List (List Int)):Prop:=es=rows.map isc/\rows.length<=4096/\∀r∈rows,r.length<=4
def Zbcd(es:List (List T))(l:List Int):Prop:=es=l.map ic/\l.length<=4096
open Classical in
noncomputable def extS(es:List (List T))(k:List (List Int)->AV×List Blk):Option (AV×List Blk):=if h:∃rows,Zbcc es rows then some (k h.choose)else none
open Classical in
noncomputable def extI(es:List (List T))(k:List Int->AV×List Blk):Option (AV×List Blk):=if h:∃l,Zbcd es l then some (k h.choose)else none
noncomputable def ext:Z7:=λf xs h0=>match xs,h0 with
 |[.own 0,.fn 228 []],[.arr 90 1 fr es]=>if f=230 then extS es λrows=>(.tup [],[.arr 90 1 fr ((srtR rows).map isc)])else none
 |[.own 0,.fn 232 []],[.arr 90 1 fr es]=>if f=231 then extS es λrows=>(.own 1,[.dead,.arr 90 1 fr ((cptR rows).map isc)])else none
 |[.own 0],[.arr 3 1 fr es]=>if f=199 then extI es λl=>(.tup [],[.arr 3 1 fr ((srtI l).map ic)])else if f=200 then extI es λl=>(.own 1,[.dead,.arr 3 1 fr ((cptI l).map ic)])else none
 |_,_=>none
open Go.ChangeShapes Go.WideShapes Go.ChangeAt Go.RowKit
theorem own:ownKnob Tryz.prog.godebug=none:=by kernel_rfl
theorem laidOut:laidOutB Tryz.prog=true:=by kernel_rfl
noncomputable def tbl:Nat->Option MFun:=λf=>if f=230\/f=199 then none else tblOf Tryz.prog [4000003,2000006,2000016,2000017,2000018,2000037,2000038,2000039,2000040,2000041,2000042,2000075,2000076,2000077,2000078,2000079,2000080,1000087,1000122,2000126,2000127,2000128,2000129,2000130,2000131,8000138,1000141,1000178,2000183,2000184,2000185,2000186,2000187,7000197,199,200,220,1000222,2000225,2000226,2000227,230,231,239,2000258,261,283,1000297,301,1000307] f
theorem tbl_ok:TblOK Tryz.prog tbl:=by
 intro f m h;unfold tbl at h;split at h
 .cases h
 .exact tblOK _ _ f m h
theorem Zd{f:Nat}{fn:Func}{m:MFun}(hf:Tryz.prog.funcs[f]?=some fn)(hc:Zgk Tryz.prog f=true:=by kernel_rfl)(h:Ziv Tryz.prog (inlOf [4000003,2000006,2000016,2000017,2000018,2000037,2000038,2000039,2000040,2000041,2000042,2000075,2000076,2000077,2000078,2000079,2000080,1000087,1000122,2000126,2000127,2000128,2000129,2000130,2000131,8000138,1000141,1000178,2000183,2000184,2000185,2000186,2000187,7000197,199,200,220,1000222,2000225,2000226,2000227,230,231,239,2000258,261,283,1000297,301,1000307] f) (Zvu fn) fn=some m:=by kernel_rfl)(hne:¬(f=230\/f=199):=by decide):tbl f=some m:=by
 unfold tbl;rw[if_neg hne];exact tblOf_eq hf hc h
noncomputable def C:Z7:=Zck ext tbl
theorem run{f:Nat}{xs:List AV}{m:MFun}(ht:tbl f=some m)(hl:xs.length=m.np){r:AV×List Blk}(h:Ev C [.fin 0 m.res] m.body ⟨Zgj xs 0,[[]],[]⟩=some r):C f xs []=some r:=Zbbg (h0:=[]) ht hl h
theorem runM{f:Nat}{xs:List AV}{h0:List Blk}{m:MFun}(ht:tbl f=some m)(hl:xs.length=m.np){r:AV×List Blk}(h:Ev C [.fin h0.length m.res] m.body ⟨Zgj xs 0,[Zft h0 0],h0⟩=some r):C f xs h0=some r:=Zbbg ht hl h
abbrev Zbuk:Nat:=3
abbrev Zbul:Nat:=4
abbrev Zbum:Nat:=6
abbrev Zbun:Nat:=8
abbrev Zbuo:Nat:=9
abbrev Zbup:Nat:=10
abbrev Zbuq:Nat:=11
abbrev Zbur:Nat:=16
abbrev Zbus:Nat:=17
abbrev Zbut:Nat:=18
abbrev Zbuu:Nat:=23
abbrev Zbuv:Nat:=24
abbrev Zbuw:Nat:=25
abbrev Zbux:Nat:=26
abbrev Zbuy:Nat:=27
abbrev Zbuz:Nat:=28
abbrev Zbu0:Nat:=29
abbrev Zbu1:Nat:=30
abbrev Zbu2:Nat:=31
abbrev Zbu3:Nat:=37
abbrev Zbu4:Nat:=38
abbrev Zbu5:Nat:=39
abbrev Zbu6:Nat:=40
abbrev Zbu7:Nat:=41
abbrev Zbu8:Nat:=42
abbrev Zbu9:Nat:=50
abbrev Zbva:Nat:=51
abbrev Zbvb:Nat:=52
abbrev Zbvc:Nat:=53
abbrev Zbvd:Nat:=54
abbrev Zbve:Nat:=55
abbrev Zbvf:Nat:=56
abbrev Zbvg:Nat:=57
abbrev Zbvh:Nat:=58
abbrev Zbvi:Nat:=59
abbrev Zbvj:Nat:=60
abbrev Zbvk:Nat:=61
abbrev Zbvl:Nat:=75
abbrev Zbvm:Nat:=76
abbrev Zbvn:Nat:=77
abbrev Zbvo:Nat:=78
abbrev Zbvp:Nat:=79
abbrev Zbvq:Nat:=80
abbrev Zbvr:Nat:=95
abbrev Zbvs:Nat:=96
abbrev Zbvt:Nat:=97
abbrev Zbvu:Nat:=98
abbrev Zbvv:Nat:=99
abbrev Zbvw:Nat:=100
abbrev Zbvx:Nat:=101
abbrev Zbvy:Nat:=102
abbrev Zbvz:Nat:=103
abbrev Zbv0:Nat:=104
abbrev Zbv1:Nat:=105
abbrev Zbv2:Nat:=126
abbrev Zbv3:Nat:=127
abbrev Zbv4:Nat:=128
abbrev Zbv5:Nat:=129
abbrev Zbv6:Nat:=130
abbrev Zbv7:Nat:=131
abbrev Zbv8:Nat:=150
abbrev Zbv9:Nat:=151
abbrev Zbwa:Nat:=152
abbrev Zbwb:Nat:=153
abbrev Zbwc:Nat:=154
abbrev Zbwd:Nat:=155
abbrev Zbwe:Nat:=156
abbrev Zbwf:Nat:=157
abbrev Zbwg:Nat:=158
abbrev Zbwh:Nat:=159
abbrev Zbwi:Nat:=160
abbrev Zbwj:Nat:=183
abbrev Zbwk:Nat:=184
abbrev Zbwl:Nat:=185
abbrev Zbwm:Nat:=186
abbrev Zbwn:Nat:=187
abbrev Zbwo:Nat:=209
abbrev Zbwp:Nat:=210
abbrev Zbwq:Nat:=211
abbrev Zbwr:Nat:=212
abbrev Zbws:Nat:=213
abbrev Zbwt:Nat:=214
abbrev Zbwu:Nat:=215
abbrev Zbwv:Nat:=216
abbrev Zbww:Nat:=225
abbrev Zbwx:Nat:=226
abbrev Zbwy:Nat:=227
abbrev Zbwz:Nat:=249
abbrev Zbw0:Nat:=250
abbrev Zbw1:Nat:=251
abbrev Zbw2:Nat:=258
abbrev Zbw3:Nat:=281
abbrev Zbc:Nat:=3
abbrev t_bool:Nat:=4
abbrev Zkn:Nat:=90
abbrev Zqt:Nat:=104
abbrev Zm3:Nat:=143
abbrev Zm4:Nat:=147
abbrev Zqu:Nat:=150
abbrev Zqv:Nat:=152
abbrev Zv1:Nat:=195
abbrev Ze0:Nat:=201
abbrev Zqw:Nat:=250
abbrev Zko:Nat:=256
abbrev Zm5:Nat:=287
end Go.Proofs.YtdioodopdlpinaaGreat
