/-
  Parts of the proofs for this seat: TX PW EX H.
-/
import Derived.Test.YtdbnflilbkjbhaaRows
import Derived.Test.YtdbnflilbkjbhaaP4
import Derived.Test.YtdbnflilbkjbhaaP5
import Derived.Test.YtdbnflilbkjbhaaP6
set_option linter.unusedSectionVars false
set_option linter.unusedSimpArgs false
set_option linter.unusedVariables false
set_option maxRecDepth 100000
set_option maxHeartbeats 4000000
namespace Go.Proofs.Ytdbnflilbkjbhaa
open Go.AM
@[ext] structure Zd where
 From:Int
 Add:Int
 deriving DecidableEq
def Zd.c(x:Zd):List T:=[.int .i64 x.From,.int .i64 x.Add]
@[simp] theorem Zd.c_def(x:Zd):x.c=[.int .i64 x.From,.int .i64 x.Add]:=rfl
@[simp] theorem Zd.map_inj(xs ys:List Zd):xs.map Zd.c=ys.map Zd.c↔xs=ys:=Zb1 (by
 intro a b h;simp at h
 simp[Zd.ext_iff,h])
@[simp] theorem Zd.flat(xs:List Zd):(xs.map Zd.c).all (λx=>x.all Zy)=true:=Zf9 (λ_=>rfl) xs
@[simp] theorem Zd.flat2(xs:List Zd):xs.all ((λx=>x.all Zy) ∘ Zd.c)=true:=Zga (λ_=>rfl) xs
@[ext] structure Zc where
 Fixed:Int
 Z9:Int
 Zba:Int
 Zbb:Int
 Zbc:Int
 Steps:List Zd
 deriving DecidableEq
def Zc.c(x:Zc):List T:=[.int .i64 x.Fixed,.int .i64 x.Z9,.int .i64 x.Zba,.int .i64 x.Zbb,.int .i64 x.Zbc,.lst 2 (x.Steps.map Zd.c)]
@[simp] theorem Zc.c_def(x:Zc):x.c=[.int .i64 x.Fixed,.int .i64 x.Z9,.int .i64 x.Zba,.int .i64 x.Zbb,.int .i64 x.Zbc,.lst 2 (x.Steps.map Zd.c)]:=rfl
@[simp] theorem Zc.map_inj(xs ys:List Zc):xs.map Zc.c=ys.map Zc.c↔xs=ys:=Zb1 (by
 intro a b h;simp at h
 simp[Zc.ext_iff,h])
@[ext] structure Zj where
 Scan:Zc
 Sort_:Zc
 Hash:Zc
 Merge:Zc
 Nested:Zc
 deriving DecidableEq
def Zj.c(x:Zj):List T:=[.int .i64 x.Scan.Fixed,.int .i64 x.Scan.Z9,.int .i64 x.Scan.Zba,.int .i64 x.Scan.Zbb,.int .i64 x.Scan.Zbc,.lst 2 (x.Scan.Steps.map Zd.c),.int .i64 x.Sort_.Fixed,.int .i64 x.Sort_.Z9,.int .i64 x.Sort_.Zba,.int .i64 x.Sort_.Zbb,.int .i64 x.Sort_.Zbc,.lst 2 (x.Sort_.Steps.map Zd.c),.int .i64 x.Hash.Fixed,.int .i64 x.Hash.Z9,.int .i64 x.Hash.Zba,.int .i64 x.Hash.Zbb,.int .i64 x.Hash.Zbc,.lst 2 (x.Hash.Steps.map Zd.c),.int .i64 x.Merge.Fixed,.int .i64 x.Merge.Z9,.int .i64 x.Merge.Zba,.int .i64 x.Merge.Zbb,.int .i64 x.Merge.Zbc,.lst 2 (x.Merge.Steps.map Zd.c),.int .i64 x.Nested.Fixed,.int .i64 x.Nested.Z9,.int .i64 x.Nested.Zba,.int .i64 x.Nested.Zbb,.int .i64 x.Nested.Zbc,.lst 2 (x.Nested.Steps.map Zd.c)]
@[simp] theorem Zj.c_def(x:Zj):x.c=[.int .i64 x.Scan.Fixed,.int .i64 x.Scan.Z9,.int .i64 x.Scan.Zba,.int .i64 x.Scan.Zbb,.int .i64 x.Scan.Zbc,.lst 2 (x.Scan.Steps.map Zd.c),.int .i64 x.Sort_.Fixed,.int .i64 x.Sort_.Z9,.int .i64 x.Sort_.Zba,.int .i64 x.Sort_.Zbb,.int .i64 x.Sort_.Zbc,.lst 2 (x.Sort_.Steps.map Zd.c),.int .i64 x.Hash.Fixed,.int .i64 x.Hash.Z9,.int .i64 x.Hash.Zba,.int .i64 x.Hash.Zbb,.int .i64 x.Hash.Zbc,.lst 2 (x.Hash.Steps.map Zd.c),.int .i64 x.Merge.Fixed,.int .i64 x.Merge.Z9,.int .i64 x.Merge.Zba,.int .i64 x.Merge.Zbb,.int .i64 x.Merge.Zbc,.lst 2 (x.Merge.Steps.map Zd.c),.int .i64 x.Nested.Fixed,.int .i64 x.Nested.Z9,.int .i64 x.Nested.Zba,.int .i64 x.Nested.Zbb,.int .i64 x.Nested.Zbc,.lst 2 (x.Nested.Steps.map Zd.c)]:=rfl
@[simp] theorem Zj.map_inj(xs ys:List Zj):xs.map Zj.c=ys.map Zj.c↔xs=ys:=Zb1 (by
 intro a b h;simp at h
 simp[Zj.ext_iff,Zc.ext_iff,h])
@[ext] structure Kept where
 Mask:Int
 Size:Int
 deriving DecidableEq
def Kept.c(x:Kept):List T:=[.int .i64 x.Mask,.int .i64 x.Size]
@[simp] theorem Kept.c_def(x:Kept):x.c=[.int .i64 x.Mask,.int .i64 x.Size]:=rfl
@[simp] theorem Kept.map_inj(xs ys:List Kept):xs.map Kept.c=ys.map Kept.c↔xs=ys:=Zb1 (by
 intro a b h;simp at h
 simp[Kept.ext_iff,h])
@[simp] theorem Kept.flat(xs:List Kept):(xs.map Kept.c).all (λx=>x.all Zy)=true:=Zf9 (λ_=>rfl) xs
@[simp] theorem Kept.flat2(xs:List Kept):xs.all ((λx=>x.all Zy) ∘ Kept.c)=true:=Zga (λ_=>rfl) xs
@[ext] structure Ze where
 Name:ByteArray
 Arity:Int
 Rows:List (List Int)
 deriving DecidableEq
def Ze.c(x:Ze):List T:=[.str x.Name,.int .i64 x.Arity,.lst 1 (x.Rows.map isc)]
@[simp] theorem Ze.c_def(x:Ze):x.c=[.str x.Name,.int .i64 x.Arity,.lst 1 (x.Rows.map isc)]:=rfl
@[simp] theorem Ze.map_inj(xs ys:List Ze):xs.map Ze.c=ys.map Ze.c↔xs=ys:=Zb1 (by
 intro a b h;simp at h
 simp[Ze.ext_iff,h])
@[ext] structure Zn where
 Tables:List Ze
 deriving DecidableEq
def Zn.c(x:Zn):List T:=[.lst 3 (x.Tables.map Ze.c)]
@[simp] theorem Zn.c_def(x:Zn):x.c=[.lst 3 (x.Tables.map Ze.c)]:=rfl
@[simp] theorem Zn.map_inj(xs ys:List Zn):xs.map Zn.c=ys.map Zn.c↔xs=ys:=Zb1 (by
 intro a b h;simp at h
 simp[Zn.ext_iff,h])
@[ext] structure Atom where
 Name:ByteArray
 Vars:List Int
 deriving DecidableEq
def Atom.c(x:Atom):List T:=[.str x.Name,.lst 1 (x.Vars.map ic)]
@[simp] theorem Atom.c_def(x:Atom):x.c=[.str x.Name,.lst 1 (x.Vars.map ic)]:=rfl
@[simp] theorem Atom.map_inj(xs ys:List Atom):xs.map Atom.c=ys.map Atom.c↔xs=ys:=Zb1 (by
 intro a b h;simp at h
 simp[Atom.ext_iff,h])
@[ext] structure Zb where
 Zp:Int
 Atoms:List Atom
 deriving DecidableEq
def Zb.c(x:Zb):List T:=[.int .i64 x.Zp,.lst 2 (x.Atoms.map Atom.c)]
@[simp] theorem Zb.c_def(x:Zb):x.c=[.int .i64 x.Zp,.lst 2 (x.Atoms.map Atom.c)]:=rfl
@[simp] theorem Zb.map_inj(xs ys:List Zb):xs.map Zb.c=ys.map Zb.c↔xs=ys:=Zb1 (by
 intro a b h;simp at h
 simp[Zb.ext_iff,h])
@[ext] structure Zf where
 Kind:Int
 Atom:Int
 Order:Int
 deriving DecidableEq
def Zf.c(x:Zf):List T:=[.int .i64 x.Kind,.int .i64 x.Atom,.int .i64 x.Order]
@[simp] theorem Zf.c_def(x:Zf):x.c=[.int .i64 x.Kind,.int .i64 x.Atom,.int .i64 x.Order]:=rfl
@[simp] theorem Zf.map_inj(xs ys:List Zf):xs.map Zf.c=ys.map Zf.c↔xs=ys:=Zb1 (by
 intro a b h;simp at h
 simp[Zf.ext_iff,h])
@[simp] theorem Zf.flat(xs:List Zf):(xs.map Zf.c).all (λx=>x.all Zy)=true:=Zf9 (λ_=>rfl) xs
@[simp] theorem Zf.flat2(xs:List Zf):xs.all ((λx=>x.all Zy) ∘ Zf.c)=true:=Zga (λ_=>rfl) xs
@[ext] structure Plan where
 Steps:List Zf
 deriving DecidableEq
def Plan.c(x:Plan):List T:=[.lst 3 (x.Steps.map Zf.c)]
@[simp] theorem Plan.c_def(x:Plan):x.c=[.lst 3 (x.Steps.map Zf.c)]:=rfl
@[simp] theorem Plan.map_inj(xs ys:List Plan):xs.map Plan.c=ys.map Plan.c↔xs=ys:=Zb1 (by
 intro a b h;simp at h
 simp[Plan.ext_iff,h])
@[ext] structure Za where
 b:List Int
 i:Int
 h:Int
 deriving DecidableEq
def Za.c(x:Za):List T:=[.lst 1 (x.b.map (kc .u8)),.int .i64 x.i,.int .i64 x.h]
@[simp] theorem Za.c_def(x:Za):x.c=[.lst 1 (x.b.map (kc .u8)),.int .i64 x.i,.int .i64 x.h]:=rfl
@[simp] theorem Za.map_inj(xs ys:List Za):xs.map Za.c=ys.map Za.c↔xs=ys:=Zb1 (by
 intro a b h;simp at h
 simp[Za.ext_iff,h])
@[ext] structure Zg where
 Mask:Int
 Order:Int
 Left:Int
 Right:Int
 deriving DecidableEq
def Zg.c(x:Zg):List T:=[.int .i64 x.Mask,.int .i64 x.Order,.int .i64 x.Left,.int .i64 x.Right]
@[simp] theorem Zg.c_def(x:Zg):x.c=[.int .i64 x.Mask,.int .i64 x.Order,.int .i64 x.Left,.int .i64 x.Right]:=rfl
@[simp] theorem Zg.map_inj(xs ys:List Zg):xs.map Zg.c=ys.map Zg.c↔xs=ys:=Zb1 (by
 intro a b h;simp at h
 simp[Zg.ext_iff,h])
@[simp] theorem Zg.flat(xs:List Zg):(xs.map Zg.c).all (λx=>x.all Zy)=true:=Zf9 (λ_=>rfl) xs
@[simp] theorem Zg.flat2(xs:List Zg):xs.all ((λx=>x.all Zy) ∘ Zg.c)=true:=Zga (λ_=>rfl) xs
def inR(a b c:Int):Bool:=decide (b<=a/\a<=c)
def Z3(c:Int):Int:=if c<0 then -1 else if c=0 then 0 else if c=1 then 1 else if c=2 then 4 else if c=3 then 16 else if c=4 then 64 else if c=5 then 256 else if c=6 then 1024 else if c=7 then 4096 else -1
theorem cls8{c:Int}(h:inR c 0 7=true):c=0\/c=1\/c=2\/c=3\/c=4\/c=5\/c=6\/c=7:=by
 simp[inR]at h;omega
theorem Zwb{c:Int}(h:inR c 0 7=false):Z3 c=-1:=by
 simp[inR]at h;unfold Z3;split
 .rfl
 .repeat' split
  all_goals omega
def Zb7(n:Int):Int:=if n<0 then -1 else if n<=0 then 0 else if n<=1 then 1 else if n<=4 then 2 else if n<=16 then 3 else if n<=64 then 4 else if n<=256 then 5 else if n<=1024 then 6 else if n<=4096 then 7 else -1
def Zc3(n:Int):Int:=Z3 (Zb7 n)
theorem Zwc(n:Int):Zc3 n<0↔inR n 0 4096=false:=by
 unfold Zc3 Zb7;simp[inR]
 repeat' split
 all_goals simp[Z3]
 all_goals omega
theorem drop_all{α:Type}(p:α->Bool){xs:List α}{i:Nat}(h:i<xs.length):(xs.drop i).all p=(p xs[i] && (xs.drop (i+1)).all p):=by
 rw[Yj h,Y1]
theorem drop_any{α:Type}(p:α->Bool){xs:List α}{i:Nat}(h:i<xs.length):(xs.drop i).any p=(p xs[i] || (xs.drop (i+1)).any p):=by
 rw[Yj h,List.any_cons]
def domAll:List Int->List Int->Bool
 |x::xs,y::ys=>decide (y<=x) && domAll xs ys
 |_,_=>true
def dom(xs ys:List Int):Bool:=decide (xs.length=ys.length) && domAll xs ys
def bit4(a b c d:Bool):Int:=(if a then 1 else 0)+(if b then 2 else 0)+(if c then 4 else 0)+(if d then 8 else 0)
def Z2(p:Nat->Bool):Int:=bit4 (p 0) (p 1) (p 2) (p 3)
theorem in4{v:Int}(h:inR v 0 3=true):v=0\/v=1\/v=2\/v=3:=by simp[inR]at h;omega
def has(xs:List Int)(v:Int):Bool:=xs.any (λx=>decide (v=x))
theorem Zp4{xs:List Int}{v:Int}:has xs v=true↔v∈xs:=by
 simp only[has,List.any_eq_true,decide_eq_true_eq];exact⟨λ⟨x,h,e⟩=>e▸h,λh=>⟨v,h,rfl⟩⟩
def addV(p:Nat->Bool)(vs:List Int):Nat->Bool:=λu=>p u || has vs u
theorem Zwd(p:Nat->Bool):addV p []=p:=by funext u;simp[addV,has]
theorem Z47(p:Nat->Bool)(v:Int)(vs:List Int):addV (addV p [v]) vs=addV p (v::vs):=by funext u;simp[addV,has,Bool.or_assoc]
theorem Zwe(p:Nat->Bool){vs:List Int}{i:Nat}(h:i<vs.length):addV p (vs.drop i)=addV (addV p [vs[i]]) (vs.drop (i+1)):=by
 rw[Yj h,Z47]
theorem or_d:∀a b c d:Bool,orI (bit4 a b c d) 1=bit4 true b c d/\orI (bit4 a b c d) 2=bit4 a true c d/\orI (bit4 a b c d) 4=bit4 a b true d/\orI (bit4 a b c d) 8=bit4 a b c true:=by decide
theorem or_bit(p:Nat->Bool){v:Int}(h:inR v 0 3=true):orI (Z2 p) (shlI 1 v)=Z2 (addV p [v]):=by
 have q:=or_d (p 0) (p 1) (p 2) (p 3);rcases in4 h with rfl|rfl|rfl|rfl<;>simp[addV,has,Z2,shlI,Z8,q]
theorem and_d:∀a b c d:Bool,(andI (shrI (bit4 a b c d) 0) 1=1↔a=true)/\(andI (shrI (bit4 a b c d) 1) 1=1↔b=true)/\(andI (shrI (bit4 a b c d) 2) 1=1↔c=true)/\(andI (shrI (bit4 a b c d) 3) 1=1↔d=true):=by decide
theorem at_bit(p:Nat->Bool){v:Int}(h:inR v 0 3=true):andI (shrI (Z2 p) v) 1=1↔p v.toNat=true:=by
 have q:=and_d (p 0) (p 1) (p 2) (p 3);rcases in4 h with rfl|rfl|rfl|rfl<;>simp[Z2,q]
theorem and4:∀a b c d a' b' c' d':Bool,andI (bit4 a b c d) (bit4 a' b' c' d')=bit4 (a && a') (b && b') (c && c') (d && d'):=by decide
theorem Zwf(p q:Nat->Bool):andI (Z2 p) (Z2 q)=Z2 (λu=>p u && q u):=and4 _ _ _ _ _ _ _ _
theorem zero4:∀a b c d:Bool,bit4 a b c d=0↔(a=false/\b=false/\c=false/\d=false):=by decide
theorem Z48(p:Nat->Bool):Z2 p=0↔∀u,u<4->p u=false:=by
 rw[Z2,zero4];constructor
 .rintro⟨h0,h1,h2,h3⟩ u hu
  match u,hu with
  |0,_=>exact h0
  |1,_=>exact h1
  |2,_=>exact h2
  |3,_=>exact h3
 .intro h;exact⟨h 0 (by omega),h 1 (by omega),h 2 (by omega),h 3 (by omega)⟩
def nmOk(s:ByteArray):Bool:=match s[0]? with
 |some b=>decide (s.size=1) && decide (97<=(b.toNat:Int)) && decide ((b.toNat:Int)<=122)
 |none=>false
theorem get0{s:ByteArray}(h:s.size=1):∃b,s[0]?=some b:=⟨s[0],getElem?_pos s 0 (by omega)⟩
def Zet(n:Int)(c:List Int):List Int->Bool
 |[]=>true
 |v::rest=>inR v 0 (n-1) && !has c v && Zet n (c++[v]) rest
theorem Z49(n:Int){vs:List Int}{k:Nat}(h:k<vs.length):Zet n (vs.take k) (vs.drop k)=(inR vs[k] 0 (n-1) && !has (vs.take k) vs[k] && Zet n (vs.take (k+1)) (vs.drop (k+1))):=by
 conv=>lhs;rw[Yj h,Zet]
 rw[List.take_add_one,Yh h];rfl
theorem Zp5{n:Int}:∀{vs c:List Int},Zet n c vs=true->∀v∈vs,inR v 0 (n-1)=true
 |[],_,_,v,hv=>by cases hv
 |x::xs,c,h,v,hv=>by
  simp only[Zet,Yb]at h
  cases hv with
  |head=>exact h.1.1
  |tail _ hv=>exact Zp5 h.2 v hv
def Zc4(n:Int)(a:Atom):Bool:=nmOk a.Name && inR a.Vars.length 1 3 && Zet n [] a.Vars
def addA(p:Nat->Bool)(qa:List Atom):Nat->Bool:=λu=>p u || qa.any λa=>has a.Vars u
theorem Z5a(p:Nat->Bool){qa:List Atom}{i:Nat}(h:i<qa.length):addA p (qa.drop i)=addA (addV p qa[i].Vars) (qa.drop (i+1)):=by
 rw[Yj h];funext u;simp only[addA,List.any_cons,addV,Bool.or_assoc]
def Zs(n:Int)(qa:List Atom):Bool :=
 inR n 1 4 && inR qa.length 1 4 && qa.all (Zc4 n) && (List.range n.toNat).all (addA (λ_=>false) qa)
def bl(p:Nat->Bool)(n:Nat):List (List T):=(List.range n).map λu=>[T.bool (p u)]
@[simp] theorem bl_get(p:Nat->Bool)(n i:Nat)(h:i<(bl p n).length):(bl p n)[i]=[T.bool (p i)]:=by simp[bl]
theorem Znx:∀a b c d:Bool,(bit4 a b c d=1↔(a=true/\b=false/\c=false/\d=false))/\(bit4 a b c d=3↔(a=true/\b=true/\c=false/\d=false))/\(bit4 a b c d=7↔(a=true/\b=true/\c=true/\d=false))/\(bit4 a b c d=15↔(a=true/\b=true/\c=true/\d=true)):=by decide
theorem all_in{n:Int}{qa:List Atom}(h:qa.all (Zc4 n)=true):∀u:Int,n<=u->qa.any (λa=>has a.Vars u)=false:=by
 intro u hu;rw[Ycv];intro a ha hc;rw[Zp4]at hc;have:=Yi.1 h a ha;simp only[Zc4,Yb]at this;have:=Zp5 this.2 _ hc;simp[inR]at this;omega
def Zbz(n:Int)(qa:List Atom):Int:=if Zs n qa=true then shlI 1 qa.length-1 else 0
theorem Zny{n:Int}{qa:List Atom}(h:Zs n qa=true):(qa.length=1\/qa.length=2\/qa.length=3\/qa.length=4)/\shlI 1 qa.length=2 ^ qa.length/\IntKind.wrap .i64 (shlI 1 qa.length-1)=shlI 1 qa.length-1/\IntKind.wrap .i64 (shlI 1 qa.length-1+1)=shlI 1 qa.length-1+1:=by
 simp only[Zs,Yb]at h;have h2:=h.1.1.2;simp[inR]at h2;have h3:qa.length=1\/qa.length=2\/qa.length=3\/qa.length=4:=by omega
 refine⟨h3,?_⟩;rcases h3 with h3|h3|h3|h3<;>rw[h3]<;>decide
def Zv(m:Int)(i:Nat):Bool:=decide (andI (shrI m i) 1=1)
def hasV(m:Int):List Atom->Nat->Int->Bool
 |[],_,_=>false
 |a::as',i,u=>(Zv m i && has a.Vars u) || hasV m as' (i+1) u
theorem Z5b(m:Int){qa:List Atom}{i:Nat}(h:i<qa.length)(u:Int):hasV m (qa.drop i) i u=((Zv m i && has qa[i].Vars u) || hasV m (qa.drop (i+1)) (i+1) u):=by
 rw[Yj h,hasV]
def pV(m:Int)(qa:List Atom):Nat->Bool:=λu=>hasV m qa 0 u
def Var4(qa:List Atom):Prop:=∀a∈qa,∀v∈a.Vars,inR v 0 3=true
theorem Zwg{n:Int}{qa:List Atom}(h:Zs n qa=true):∀a∈qa,∀v∈a.Vars,inR v 0 (n-1)=true:=by
 intro a ha v hv;simp only[Zs,Yb]at h;have:=Yi.1 h.1.2 a ha;simp only[Zc4,Yb]at this;exact Zp5 this.2 v hv
theorem Zky{n:Int}{qa:List Atom}(h:Zs n qa=true):1<=n/\n<=4:=by
 simp only[Zs,Yb]at h;have:=h.1.1.1;simpa[inR]using this
theorem Zdv{n:Int}{qa:List Atom}(h:Zs n qa=true):1<=qa.length/\qa.length<=4:=by
 simp only[Zs,Yb]at h;have:=h.1.1.2;simp[inR]at this;omega
theorem Zp6{n:Int}{qa:List Atom}(h:Zs n qa=true):∀a∈qa,1<=a.Vars.length/\a.Vars.length<=3:=by
 intro a ha;simp only[Zs,Yb]at h;have:=Yi.1 h.1.2 a ha;simp only[Zc4,Yb]at this;have:=this.1.2;simp[inR]at this;omega
theorem Zjh{n:Int}{qa:List Atom}(h:Zs n qa=true):Var4 qa:=by
 intro a ha v hv;have:=Zwg h a ha v hv;have h2:=Zky h;simp[inR]at this|-;omega
def addM(m:Int)(p:Nat->Bool)(qa:List Atom)(i:Nat):Nat->Bool:=λu=>p u || hasV m (qa.drop i) i u
theorem Z5c(m:Int)(p:Nat->Bool){qa:List Atom}{i:Nat}(h:i<qa.length):addM m p qa i=addM m (if Zv m i=true then addV p qa[i].Vars else p) qa (i+1):=by
 funext u;rw[addM,Z5b _ h];rcases tf (Zv m i)with e|e<;>simp[addM,addV,e,Bool.or_assoc]
def varL(m:Int)(qa:List Atom)(k:Nat):List Int:=((List.range k).filter (pV m qa)).map λu:Nat=>(u:Int)
theorem varL_len(m:Int)(qa:List Atom)(k:Nat):(varL m qa k).length<=k:=by
 unfold varL;simp;exact Yy (Yc0 _ _) (by simp)
theorem Z5d{α:Type}(p:α->Bool){xs:List α}{i:Nat}(h:i<xs.length):(xs.take (i+1)).filter p=(xs.take i).filter p++if p xs[i]=true then[xs[i]]else[]:=by
 rw[List.take_add_one,Yh h,List.filter_append];rcases tf (p xs[i])with e|e<;>simp[e]
def vin(qa:List Atom)(m v:Int):Bool:=inR v 0 3 && pV m qa v.toNat
def shr(qa:List Atom)(a b:Int):Bool:=(List.range 4).any λu=>pV a qa u && pV b qa u
def Zd6(st:List Int)(c:List Zg)(k:Nat):Option (Int×Zg):=if k<=st.length then(match st[st.length-k]? with
 |some s=>(c[s.toNat]?).map (s,·)
 |none=>none)else none
def Zeu(qa:List Atom)(x:Zf)(y z:Zg):Option Int :=
 if x.Kind=3/\x.Order=0 then some (-1)
 else if x.Kind=5/\x.Order=0 then some y.Order
 else if x.Kind=4/\vin qa y.Mask x.Order=true/\vin qa z.Mask x.Order=true/\y.Order=x.Order/\z.Order=x.Order then some x.Order
 else none
def stepI(qa:List Atom)(x:Zf)(c:List Zg)(st:List Int):Option Zg :=
 if x.Kind=1 then(if inR x.Atom 0 (qa.length-1)=true/\x.Order=0 then some ⟨shlI 1 x.Atom,(match qa[x.Atom.toNat]? with|some a=>a.Vars.headD 0|none=>0),-1,-1⟩else none)
 else if x.Atom≠0 then none
 else if x.Kind=2 then(match Zd6 st c 1 with
  |some (s,y)=>if vin qa y.Mask x.Order=true/\y.Order≠x.Order then some ⟨y.Mask,x.Order,s,-1⟩else none
  |none=>none)
 else match Zd6 st c 2,Zd6 st c 1 with
  |some (s,y),some (t,z)=>if andI y.Mask z.Mask=0/\shr qa y.Mask z.Mask=true then(Zeu qa x y z).map (⟨orI y.Mask z.Mask,·,s,t⟩)else none
  |_,_=>none
def StOk(c:List Zg)(st:List Int):Prop:=∀s∈st,0<=s/\s.toNat<c.length
theorem Znz{info:List Zg}{st:List Int}(h:StOk info st){k:Nat}(h1:1<=k)(h2:k<=st.length) :
  ∃s y,Zd6 st info k=some (s,y)/\st[st.length-k]?=some s/\0<=s/\info[s.toNat]?=some y:=by
 have hlt:st.length-k<st.length:=by omega
 obtain⟨h3,h4⟩:=h _ (Yk hlt);refine⟨st[st.length-k],info[(st[st.length-k]).toNat],?_,Yh hlt,h3,Yh h4⟩;simp[Zd6,h2,Yh hlt,Yh h4]
theorem pV_lt{n:Int}{qa:List Atom}(h:Zs n qa=true){m:Int}{u:Nat}(hp:pV m qa u=true):(u:Int)<n:=by
 have:∀(l:List Atom) (i:Nat),(∀a∈l,a∈qa)->hasV m l i u=true->(u:Int)<n:=by
  intro l
  induction l with
  |nil=>intro i _ hh;simp[hasV]at hh
  |cons a l ih =>
   intro i hs hh;simp only[hasV,Ycs,Yb]at hh;rcases hh with hh|hh
   .have:=Zwg h a (hs a (by simp)) u (Zp4.1 hh.2);simp[inR]at this;omega
   .exact ih (i+1) (λb hb=>hs b (by simp[hb])) hh
 exact this qa 0 (λa ha=>ha) hp
theorem has_varL{n:Int}{qa:List Atom}(h:Zs n qa=true)(m v:Int):has (varL m qa n.toNat) v=vin qa m v:=by
 have hn:=Zky h;rw[Ybs,Zp4];simp only[varL,Y5,Ybf,Ybk,vin,Yb];constructor
 .rintro⟨u,⟨h1,h2⟩,rfl⟩;refine⟨by simp[inR];omega,by simpa using h2⟩
 .rintro⟨h1,h2⟩;have h3:=pV_lt h h2;simp[inR]at h1;exact⟨v.toNat,⟨by omega,h2⟩,by omega⟩
theorem Z5e{n:Int}{qa:List Atom}(h:Zs n qa=true)(a b:Int):((varL a qa n.toNat).filter (has (varL b qa n.toNat))).length=0↔shr qa a b=false:=by
 have hn:=Zky h;rw[List.length_eq_zero_iff,Ycz,shr,Ycv];simp only[has_varL h];constructor
 .intro hh u hu;simp only[Ybk]at hu;simp only[Yb,not_and];intro h1 h2;have h3:=pV_lt h h1;refine hh (u:Int) ?_ ?_
  .simp only[varL,Y5,Ybf,Ybk];exact⟨u,⟨by omega,h1⟩,rfl⟩
  .simp only[vin,Yb];exact⟨by simp[inR];omega,by simpa using h2⟩
 .intro hh v hv;simp only[varL,Y5,Ybf,Ybk]at hv;obtain⟨u,⟨h1,h2⟩,rfl⟩:=hv;have:=hh u (by simp only[Ybk];omega);simp only[Yb,not_and]at this;simp only[vin,Yb,not_and];intro _;simpa using this h2
theorem Zp7(qa:List Atom)(a b:Int):andI (Z2 (pV a qa)) (Z2 (pV b qa))=0↔shr qa a b=false:=by
 rw[Zwf,Z48,shr,Ycv];simp
def popsI(x:Zf):Int:=if x.Kind=1 then 0 else if x.Kind=2 then 1 else 2
theorem hd0{xs:List Int}(h:0<xs.length):xs.head?.getD 0=xs[0]:=by cases xs with|nil=>simp at h|cons x xs=>rfl
def pops(y:Zg):Nat:=if 0<=y.Right then 2 else if 0<=y.Left then 1 else 0
def Zd7(qa:List Atom):List Zf->Nat->List Zg->List Int->Option (List Zg×List Int)
 |[],_,info,st=>some (info,st)
 |x::xs,i,info,st=>match stepI qa x info st with
  |none=>none
  |some y=>Zd7 qa xs (i+1) (info++[y]) (st.take (st.length-pops y)++[(i:Int)])
theorem Z5f(qa:List Atom){xs:List Zf}{i:Nat}(h:i<xs.length)(c:List Zg)(st:List Int):Zd7 qa (xs.drop i) i c st=match stepI qa xs[i] c st with
  |none=>none
  |some y=>Zd7 qa (xs.drop (i+1)) (i+1) (c++[y]) (st.take (st.length-pops y)++[(i:Int)]):=by
 rw[Yj h,Zd7]
def Zkz(n:Int)(qa:List Atom)(c:List Zf):Option (List Zg) :=
 if Zs n qa=true/\inR c.length 1 14=true then(match Zd7 qa c 0 [] []with
  |some (info,st)=>if st.length=1 then some info else none
  |none=>none)else none
theorem Zp8{st:List Int}{info:List Zg}{k:Nat}{s:Int}{y:Zg}(hs:StOk info st)(h1:1<=k)(h:Zd6 st info k=some (s,y)):k<=st.length/\0<=s/\s.toNat<info.length/\info[s.toNat]?=some y:=by
 have hk:k<=st.length:=by
  unfold Zd6 at h;split at h
  .assumption
  .cases h
 obtain⟨s',y',q1,q2,q3,q4⟩:=Znz hs h1 hk;rw[q1]at h;cases h;exact⟨hk,q3,(Yq.1 q4).1,q4⟩
theorem Z5g{qa:List Atom}{x:Zf}{info:List Zg}{st:List Int}{y:Zg}(hs:StOk info st)(h:stepI qa x info st=some y) :
  popsI x=pops y/\pops y<=st.length/\(0<=y.Right↔3<=x.Kind):=by
 unfold stepI at h;unfold popsI pops;split at h
 .rename_i k1;split at h
  .cases h;simp[k1]
  .cases h
 .rename_i k1;split at h
  .cases h
  .split at h
   .rename_i k2;split at h
    .rename_i s y' ht;split at h
     .cases h;obtain⟨t1,t2,_⟩:=Zp8 hs (Yg 1) ht;simp[k2,t2,t1]
     .cases h
    .cases h
   .rename_i k2;split at h
    .rename_i s y' t z ht hu;split at h
     .obtain⟨t1,t2,_⟩:=Zp8 hs (by omega:1<=2) ht;obtain⟨u1,u2,_⟩:=Zp8 hs (by omega:1<=1) hu;obtain⟨o,ho,rfl⟩:=Yf.1 h;have hk:x.Kind=3\/x.Kind=4\/x.Kind=5:=by
       unfold Zeu at ho;split at ho
       .omega
       .split at ho
        .omega
        .split at ho
         .omega
         .cases ho
      simp only[u2,if_true,k1,k2,if_false];refine⟨rfl,t1,?_⟩;simp;omega
     .cases h
    .cases h
theorem st_next{info:List Zg}{st:List Int}(hs:StOk info st)(y:Zg)(k:Nat):StOk (info++[y]) (st.take k++[(info.length:Int)]):=by
 intro s h;rcases Yc.1 h with h|h
 .obtain⟨h1,h2⟩:=hs s (Yu h);exact⟨h1,by simp;omega⟩
 .simp at h;subst h;simp
theorem st_len{st:List Int}{i k:Nat}(h:st.length<=i)(x:Int):(st.take k++[x]).length<=i+1:=by simp;omega
theorem Zwh{qa:List Atom}:∀{xs:List Zf} {i:Nat} {cc:List Zg} {st:List Int} {c:List Zg} {cd:List Int},Zd7 qa xs i cc st=some (c,cd)->c.length=cc.length+xs.length
 |[],_,_,_,_,_,h=>by simp[Zd7]at h;simp[h.1]
 |x::xs,i,cc,st,c,cd,h=>by
  rw[Zd7]at h;split at h
  .cases h
  .have:=Zwh h;simp at this|-;omega
theorem Z5h{n:Int}{qa:List Atom}{steps:List Zf}{c:List Zg}(h:Zkz n qa steps=some c):Zs n qa=true/\c.length=steps.length/\1<=steps.length/\steps.length<=14:=by
 unfold Zkz at h;split at h
 .rename_i hc;have h2:=hc.2;simp[inR]at h2;split at h
  .rename_i info' st hg;split at h
   .cases h;have:=Zwh hg;simp at this;exact⟨hc.1,this,by omega,by omega⟩
   .cases h
  .cases h
 .cases h
theorem Z5i{n:Int}{qa:List Atom}(h:Zs n qa=true):0<Zbz n qa:=by
 obtain⟨h1,h2,_⟩:=Zny h;unfold Zbz;rw[if_pos h,h2];rcases h1 with h1|h1|h1|h1<;>rw[h1]<;>decide
def ext:Zo:=λ_ _ _=>none
open Go.ChangeShapes Go.WideShapes Go.ChangeAt Go.RowKit
theorem own:ownKnob Try.prog.godebug=none:=by kernel_rfl
theorem laidOut:laidOutB Try.prog=true:=by kernel_rfl
noncomputable def tbl:Nat->Option MFun:=tblOf Try.prog [9000003,10000005,9000014,10000014,10000017,17,18,19,1000023,9000032,10000032,9000033,10000033,33,10000034,34,35,6000036,36,37,10000045,45,9000046,10000046,46,47,6000050,6000051,51,1000055,6000058,58,12000059,6000059,59,60,12000062,62,12000067,6000067,68,6000072,6000073,6000076,80]
noncomputable def C:Zo:=Zbp ext tbl
theorem run{f:Nat}{xs:List AV}{m:MFun}(ht:tbl f=some m)(hl:xs.length=m.np){r:AV×List Blk}(h:Ev C [.fin 0 m.res] m.body ⟨Zd5 xs 0,[[]],[]⟩=some r):C f xs []=some r:=Zvq (h0:=[]) ht hl h
theorem runM{f:Nat}{xs:List AV}{h0:List Blk}{m:MFun}(ht:tbl f=some m)(hl:xs.length=m.np){r:AV×List Blk}(h:Ev C [.fin h0.length m.res] m.body ⟨Zd5 xs 0,[Zdq h0 0],h0⟩=some r):C f xs h0=some r:=Zvq ht hl h
abbrev Z5j:Nat:=3
abbrev Zbq:Nat:=3
abbrev t_bool:Nat:=4
abbrev t_string:Nat:=9
abbrev Zwi:Nat:=49
abbrev Z5k:Nat:=105
abbrev Zwj:Nat:=116
abbrev Zk0:Nat:=140
end Go.Proofs.Ytdbnflilbkjbhaa
