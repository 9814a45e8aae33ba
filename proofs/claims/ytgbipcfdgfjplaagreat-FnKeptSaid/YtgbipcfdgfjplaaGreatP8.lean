/-
  Parts of the proofs for this seat: TX PW EX H.
-/
import Derived.Test.YtgbipcfdgfjplaaGreatRows
import Derived.Test.YtgbipcfdgfjplaaGreatP4
import Derived.Test.YtgbipcfdgfjplaaGreatP5
import Derived.Test.YtgbipcfdgfjplaaGreatP7
set_option linter.unusedSectionVars false
set_option linter.unusedSimpArgs false
set_option linter.unusedVariables false
set_option maxRecDepth 100000
set_option maxHeartbeats 4000000
namespace Go.Proofs.YtgbipcfdgfjplaaGreat
open Go.AM
noncomputable section
@[ext] structure Zp where
 From:Int
 Add:Int
 deriving DecidableEq
def Zp.c(x:Zp):V4:=[.int .i64 x.From,.int .i64 x.Add]
@[simp] theorem Zp.c_def(x:Zp):x.c=[.int .i64 x.From,.int .i64 x.Add]:=rfl
@[simp] theorem Zp.map_inj(xs ys:List Zp):xs.map Zp.c=ys.map Zp.c↔xs=ys:=XA (by
 intro a b h;simp at h
 simp[Zp.ext_iff,h])
@[simp] theorem Zp.flat(xs:List Zp):(xs.map Zp.c).all (λx=>x.all Z8)=true:=QD (λ_=>rfl) xs
@[simp] theorem Zp.flat2(xs:List Zp):xs.all ((λx=>x.all Z8) ∘ Zp.c)=true:=QE (λ_=>rfl) xs
@[ext] structure Zr where
 Fixed:Int
 Xb:Int
 Xc:Int
 Xd:Int
 Xe:Int
 Steps:List Zp
 deriving DecidableEq
def Zr.c(x:Zr):V4:=[.int .i64 x.Fixed,.int .i64 x.Xb,.int .i64 x.Xc,.int .i64 x.Xd,.int .i64 x.Xe,.lst 2 (x.Steps.map Zp.c)]
@[simp] theorem Zr.c_def(x:Zr):x.c=[.int .i64 x.Fixed,.int .i64 x.Xb,.int .i64 x.Xc,.int .i64 x.Xd,.int .i64 x.Xe,.lst 2 (x.Steps.map Zp.c)]:=rfl
@[simp] theorem Zr.map_inj(xs ys:List Zr):xs.map Zr.c=ys.map Zr.c↔xs=ys:=XA (by
 intro a b h;simp at h
 simp[Zr.ext_iff,h])
@[ext] structure Zm where
 Scan:Zr
 Sort_:Zr
 Hash:Zr
 Merge:Zr
 Nested:Zr
 deriving DecidableEq
def Zm.c(x:Zm):V4:=[.int .i64 x.Scan.Fixed,.int .i64 x.Scan.Xb,.int .i64 x.Scan.Xc,.int .i64 x.Scan.Xd,.int .i64 x.Scan.Xe,.lst 2 (x.Scan.Steps.map Zp.c),.int .i64 x.Sort_.Fixed,.int .i64 x.Sort_.Xb,.int .i64 x.Sort_.Xc,.int .i64 x.Sort_.Xd,.int .i64 x.Sort_.Xe,.lst 2 (x.Sort_.Steps.map Zp.c),.int .i64 x.Hash.Fixed,.int .i64 x.Hash.Xb,.int .i64 x.Hash.Xc,.int .i64 x.Hash.Xd,.int .i64 x.Hash.Xe,.lst 2 (x.Hash.Steps.map Zp.c),.int .i64 x.Merge.Fixed,.int .i64 x.Merge.Xb,.int .i64 x.Merge.Xc,.int .i64 x.Merge.Xd,.int .i64 x.Merge.Xe,.lst 2 (x.Merge.Steps.map Zp.c),.int .i64 x.Nested.Fixed,.int .i64 x.Nested.Xb,.int .i64 x.Nested.Xc,.int .i64 x.Nested.Xd,.int .i64 x.Nested.Xe,.lst 2 (x.Nested.Steps.map Zp.c)]
@[simp] theorem Zm.c_def(x:Zm):x.c=[.int .i64 x.Scan.Fixed,.int .i64 x.Scan.Xb,.int .i64 x.Scan.Xc,.int .i64 x.Scan.Xd,.int .i64 x.Scan.Xe,.lst 2 (x.Scan.Steps.map Zp.c),.int .i64 x.Sort_.Fixed,.int .i64 x.Sort_.Xb,.int .i64 x.Sort_.Xc,.int .i64 x.Sort_.Xd,.int .i64 x.Sort_.Xe,.lst 2 (x.Sort_.Steps.map Zp.c),.int .i64 x.Hash.Fixed,.int .i64 x.Hash.Xb,.int .i64 x.Hash.Xc,.int .i64 x.Hash.Xd,.int .i64 x.Hash.Xe,.lst 2 (x.Hash.Steps.map Zp.c),.int .i64 x.Merge.Fixed,.int .i64 x.Merge.Xb,.int .i64 x.Merge.Xc,.int .i64 x.Merge.Xd,.int .i64 x.Merge.Xe,.lst 2 (x.Merge.Steps.map Zp.c),.int .i64 x.Nested.Fixed,.int .i64 x.Nested.Xb,.int .i64 x.Nested.Xc,.int .i64 x.Nested.Xd,.int .i64 x.Nested.Xe,.lst 2 (x.Nested.Steps.map Zp.c)]:=rfl
@[simp] theorem Zm.map_inj(xs ys:List Zm):xs.map Zm.c=ys.map Zm.c↔xs=ys:=XA (by
 intro a b h;simp at h
 simp[Zm.ext_iff,Zr.ext_iff,h])
@[ext] structure Zq where
 Name:V5
 Arity:Int
 Rows:XS
 deriving DecidableEq
def Zq.c(x:Zq):V4:=[.str x.Name,.int .i64 x.Arity,.lst 1 (x.Rows.map isc)]
@[simp] theorem Zq.c_def(x:Zq):x.c=[.str x.Name,.int .i64 x.Arity,.lst 1 (x.Rows.map isc)]:=rfl
@[simp] theorem Zq.map_inj(xs ys:List Zq):xs.map Zq.c=ys.map Zq.c↔xs=ys:=XA (by
 intro a b h;simp at h
 simp[Zq.ext_iff,h])
@[ext] structure Zn where
 Tables:List Zq
 deriving DecidableEq
def Zn.c(x:Zn):V4:=[.lst 3 (x.Tables.map Zq.c)]
@[simp] theorem Zn.c_def(x:Zn):x.c=[.lst 3 (x.Tables.map Zq.c)]:=rfl
@[simp] theorem Zn.map_inj(xs ys:List Zn):xs.map Zn.c=ys.map Zn.c↔xs=ys:=XA (by
 intro a b h;simp at h
 simp[Zn.ext_iff,h])
@[ext] structure Zc where
 Name:V5
 Vars:WA
 deriving DecidableEq
def Zc.c(x:Zc):V4:=[.str x.Name,.lst 1 (x.Vars.map ic)]
@[simp] theorem Zc.c_def(x:Zc):x.c=[.str x.Name,.lst 1 (x.Vars.map ic)]:=rfl
@[simp] theorem Zc.map_inj(xs ys:List Zc):xs.map Zc.c=ys.map Zc.c↔xs=ys:=XA (by
 intro a b h;simp at h
 simp[Zc.ext_iff,h])
@[ext] structure Ze where
 Zk:Int
 Atoms:List Zc
 deriving DecidableEq
def Ze.c(x:Ze):V4:=[.int .i64 x.Zk,.lst 2 (x.Atoms.map Zc.c)]
@[simp] theorem Ze.c_def(x:Ze):x.c=[.int .i64 x.Zk,.lst 2 (x.Atoms.map Zc.c)]:=rfl
@[simp] theorem Ze.map_inj(xs ys:List Ze):xs.map Ze.c=ys.map Ze.c↔xs=ys:=XA (by
 intro a b h;simp at h
 simp[Ze.ext_iff,h])
@[ext] structure Zj where
 Kind:Int
 Zc:Int
 Order:Int
 deriving DecidableEq
def Zj.c(x:Zj):V4:=[.int .i64 x.Kind,.int .i64 x.Zc,.int .i64 x.Order]
@[simp] theorem Zj.c_def(x:Zj):x.c=[.int .i64 x.Kind,.int .i64 x.Zc,.int .i64 x.Order]:=rfl
@[simp] theorem Zj.map_inj(xs ys:List Zj):xs.map Zj.c=ys.map Zj.c↔xs=ys:=XA (by
 intro a b h;simp at h
 simp[Zj.ext_iff,h])
@[simp] theorem Zj.flat(xs:List Zj):(xs.map Zj.c).all (λx=>x.all Z8)=true:=QD (λ_=>rfl) xs
@[simp] theorem Zj.flat2(xs:List Zj):xs.all ((λx=>x.all Z8) ∘ Zj.c)=true:=QE (λ_=>rfl) xs
@[ext] structure Zo where
 Steps:List Zj
 deriving DecidableEq
def Zo.c(x:Zo):V4:=[.lst 3 (x.Steps.map Zj.c)]
@[simp] theorem Zo.c_def(x:Zo):x.c=[.lst 3 (x.Steps.map Zj.c)]:=rfl
@[simp] theorem Zo.map_inj(xs ys:List Zo):xs.map Zo.c=ys.map Zo.c↔xs=ys:=XA (by
 intro a b h;simp at h
 simp[Zo.ext_iff,h])
@[ext] structure ZV where
 Vars:WA
 Rows:XS
 deriving DecidableEq
def ZV.c(x:ZV):V4:=[.lst 1 (x.Vars.map ic),.lst 1 (x.Rows.map isc)]
@[simp] theorem ZV.c_def(x:ZV):x.c=[.lst 1 (x.Vars.map ic),.lst 1 (x.Rows.map isc)]:=rfl
@[simp] theorem ZV.map_inj(xs ys:List ZV):xs.map ZV.c=ys.map ZV.c↔xs=ys:=XA (by
 intro a b h;simp at h
 simp[ZV.ext_iff,h])
@[ext] structure Zg where
 Mask:Int
 Class:Int
 Exact:Bool
 deriving DecidableEq
def Zg.c(x:Zg):V4:=[.int .i64 x.Mask,.int .i64 x.Class,.bool x.Exact]
@[simp] theorem Zg.c_def(x:Zg):x.c=[.int .i64 x.Mask,.int .i64 x.Class,.bool x.Exact]:=rfl
@[simp] theorem Zg.map_inj(xs ys:List Zg):xs.map Zg.c=ys.map Zg.c↔xs=ys:=XA (by
 intro a b h;simp at h
 simp[Zg.ext_iff,h])
@[simp] theorem Zg.flat(xs:List Zg):(xs.map Zg.c).all (λx=>x.all Z8)=true:=QD (λ_=>rfl) xs
@[simp] theorem Zg.flat2(xs:List Zg):xs.all ((λx=>x.all Z8) ∘ Zg.c)=true:=QE (λ_=>rfl) xs
@[ext] structure Run where
 Done:Bool
 Cost:Int
 Steps:Int
 Seen:List Zg
 ZV:ZV
 deriving DecidableEq
def Run.c(x:Run):V4:=[.bool x.Done,.int .i64 x.Cost,.int .i64 x.Steps,.lst 3 (x.Seen.map Zg.c),.lst 1 (x.ZV.Vars.map ic),.lst 1 (x.ZV.Rows.map isc)]
@[simp] theorem Run.c_def(x:Run):x.c=[.bool x.Done,.int .i64 x.Cost,.int .i64 x.Steps,.lst 3 (x.Seen.map Zg.c),.lst 1 (x.ZV.Vars.map ic),.lst 1 (x.ZV.Rows.map isc)]:=rfl
@[simp] theorem Run.map_inj(xs ys:List Run):xs.map Run.c=ys.map Run.c↔xs=ys:=XA (by
 intro a b h;simp at h
 simp[Run.ext_iff,ZV.ext_iff,h])
@[ext] structure Zd where
 Mask:Int
 Size:Int
 deriving DecidableEq
def Zd.c(x:Zd):V4:=[.int .i64 x.Mask,.int .i64 x.Size]
@[simp] theorem Zd.c_def(x:Zd):x.c=[.int .i64 x.Mask,.int .i64 x.Size]:=rfl
@[simp] theorem Zd.map_inj(xs ys:List Zd):xs.map Zd.c=ys.map Zd.c↔xs=ys:=XA (by
 intro a b h;simp at h
 simp[Zd.ext_iff,h])
@[simp] theorem Zd.flat(xs:List Zd):(xs.map Zd.c).all (λx=>x.all Z8)=true:=QD (λ_=>rfl) xs
@[simp] theorem Zd.flat2(xs:List Zd):xs.all ((λx=>x.all Z8) ∘ Zd.c)=true:=QE (λ_=>rfl) xs
@[ext] structure Zb where
 Vars:WA
 Rows:XS
 deriving DecidableEq
def Zb.c(x:Zb):V4:=[.lst 1 (x.Vars.map ic),.lst 1 (x.Rows.map isc)]
@[simp] theorem Zb.c_def(x:Zb):x.c=[.lst 1 (x.Vars.map ic),.lst 1 (x.Rows.map isc)]:=rfl
@[simp] theorem Zb.map_inj(xs ys:List Zb):xs.map Zb.c=ys.map Zb.c↔xs=ys:=XA (by
 intro a b h;simp at h
 simp[Zb.ext_iff,h])
@[ext] structure Za where
 Mask:Int
 Order:Int
 Left:Int
 Right:Int
 deriving DecidableEq
def Za.c(x:Za):V4:=[.int .i64 x.Mask,.int .i64 x.Order,.int .i64 x.Left,.int .i64 x.Right]
@[simp] theorem Za.c_def(x:Za):x.c=[.int .i64 x.Mask,.int .i64 x.Order,.int .i64 x.Left,.int .i64 x.Right]:=rfl
@[simp] theorem Za.map_inj(xs ys:List Za):xs.map Za.c=ys.map Za.c↔xs=ys:=XA (by
 intro a b h;simp at h
 simp[Za.ext_iff,h])
@[simp] theorem Za.flat(xs:List Za):(xs.map Za.c).all (λx=>x.all Z8)=true:=QD (λ_=>rfl) xs
@[simp] theorem Za.flat2(xs:List Za):xs.all ((λx=>x.all Z8) ∘ Za.c)=true:=QE (λ_=>rfl) xs
@[ext] structure Zf where
 b:WA
 i:Int
 h:Int
 deriving DecidableEq
def Zf.c(x:Zf):V4:=[.lst 1 (x.b.map (kc .u8)),.int .i64 x.i,.int .i64 x.h]
@[simp] theorem Zf.c_def(x:Zf):x.c=[.lst 1 (x.b.map (kc .u8)),.int .i64 x.i,.int .i64 x.h]:=rfl
@[simp] theorem Zf.map_inj(xs ys:List Zf):xs.map Zf.c=ys.map Zf.c↔xs=ys:=XA (by
 intro a b h;simp at h
 simp[Zf.ext_iff,h])
def inR(a b c:Int):Bool:=decide (b<=a/\a<=c)
def Z5(c:Int):Int:=if c<0 then -1 else if c=0 then 0 else if c=1 then 1 else if c=2 then 4 else if c=3 then 16 else if c=4 then 64 else if c=5 then 256 else if c=6 then 1024 else if c=7 then 4096 else -1
theorem cls8{c:Int}(h:inR c 0 7=true):c=0\/c=1\/c=2\/c=3\/c=4\/c=5\/c=6\/c=7:=by
 simp[inR]at h;omega
theorem Zs6{c:Int}(h:inR c 0 7=false):Z5 c=-1:=by
 simp[inR]at h;unfold Z5;split
 .rfl
 .repeat' split
  all_goals omega
def X0(n:Int):Int:=if n<0 then -1 else if n<=0 then 0 else if n<=1 then 1 else if n<=4 then 2 else if n<=16 then 3 else if n<=64 then 4 else if n<=256 then 5 else if n<=1024 then 6 else if n<=4096 then 7 else -1
def XI(n:Int):Int:=Z5 (X0 n)
theorem Zs7(n:Int):XI n<0↔inR n 0 4096=false:=by
 unfold XI X0;simp[inR]
 repeat' split
 all_goals simp[Z5]
 all_goals omega
theorem Zs8{α:Type}(p:α->Bool){xs:List α}{i:Nat}(h:i<xs.length):(xs.drop i).all p=(p xs[i] && (xs.drop (i+1)).all p):=by
 rw[Yj h,Y3]
theorem Z3v{α:Type}(p:α->Bool){xs:List α}{i:Nat}(h:i<xs.length):(xs.drop i).any p=(p xs[i] || (xs.drop (i+1)).any p):=by
 rw[Yj h,Ydk]
def Zs9:WA->WA->Bool
 |x::xs,y::ys=>decide (y<=x) && Zs9 xs ys
 |_,_=>true
def dom(xs ys:WA):Bool:=decide (xs.length=ys.length) && Zs9 xs ys
def ZQ(a b c d:Bool):Int:=(if a then 1 else 0)+(if b then 2 else 0)+(if c then 4 else 0)+(if d then 8 else 0)
def ZH(p:Nat->Bool):Int:=ZQ (p 0) (p 1) (p 2) (p 3)
theorem in4{v:Int}(h:inR v 0 3=true):v=0\/v=1\/v=2\/v=3:=by simp[inR]at h;omega
def has(xs:WA)(v:Int):Bool:=xs.any (λx=>decide (v=x))
theorem ZO{xs:WA}{v:Int}:has xs v=true↔v∈xs:=by
 simp only[has,List.any_eq_true,decide_eq_true_eq];exact⟨λ⟨x,h,e⟩=>e▸h,λh=>⟨v,h,rfl⟩⟩
def Xw(p:Nat->Bool)(vs:WA):Nat->Bool:=λu=>p u || has vs u
theorem ZkL(p:Nat->Bool):Xw p []=p:=by funext u;simp[Xw,has]
theorem Z3w(p:Nat->Bool)(v:Int)(vs:WA):Xw (Xw p [v]) vs=Xw p (v::vs):=by funext u;simp[Xw,has,Bool.or_assoc]
theorem ZkM(p:Nat->Bool){vs:WA}{i:Nat}(h:i<vs.length):Xw p (vs.drop i)=Xw (Xw p [vs[i]]) (vs.drop (i+1)):=by
 rw[Yj h,Z3w]
theorem or_d:∀a b c d:Bool,orI (ZQ a b c d) 1=ZQ true b c d/\orI (ZQ a b c d) 2=ZQ a true c d/\orI (ZQ a b c d) 4=ZQ a b true d/\orI (ZQ a b c d) 8=ZQ a b c true:=by decide
theorem ZkN(p:Nat->Bool){v:Int}(h:inR v 0 3=true):orI (ZH p) (shlI 1 v)=ZH (Xw p [v]):=by
 have q:=or_d (p 0) (p 1) (p 2) (p 3);rcases in4 h with rfl|rfl|rfl|rfl<;>simp[Xw,has,ZH,shlI,ZD,q]
theorem and_d:∀a b c d:Bool,(andI (shrI (ZQ a b c d) 0) 1=1↔a=true)/\(andI (shrI (ZQ a b c d) 1) 1=1↔b=true)/\(andI (shrI (ZQ a b c d) 2) 1=1↔c=true)/\(andI (shrI (ZQ a b c d) 3) 1=1↔d=true):=by decide
theorem Zhj(p:Nat->Bool){v:Int}(h:inR v 0 3=true):andI (shrI (ZH p) v) 1=1↔p v.toNat=true:=by
 have q:=and_d (p 0) (p 1) (p 2) (p 3);rcases in4 h with rfl|rfl|rfl|rfl<;>simp[ZH,q]
theorem and4:∀a b c d a' b' c' d':Bool,andI (ZQ a b c d) (ZQ a' b' c' d')=ZQ (a && a') (b && b') (c && c') (d && d'):=by decide
theorem ZsA(p q:Nat->Bool):andI (ZH p) (ZH q)=ZH (λu=>p u && q u):=and4 _ _ _ _ _ _ _ _
theorem zero4:∀a b c d:Bool,ZQ a b c d=0↔(a=false/\b=false/\c=false/\d=false):=by decide
theorem Z3x(p:Nat->Bool):ZH p=0↔∀u,u<4->p u=false:=by
 rw[ZH,zero4];constructor
 .rintro⟨h0,h1,h2,h3⟩ u hu
  match u,hu with
  |0,_=>exact h0
  |1,_=>exact h1
  |2,_=>exact h2
  |3,_=>exact h3
 .intro h;exact⟨h 0 (by omega),h 1 (by omega),h 2 (by omega),h 3 (by omega)⟩
def ZM{α:Type}(p:α->Bool):List α->Nat->Int
 |[],_=>-1
 |x::xs,i=>if p x=true then i else ZM p xs (i+1)
theorem Kz{α:Type}(p:α->Bool){xs:List α}{i:Nat}(h:i<xs.length):ZM p (xs.drop i) i=if p xs[i]=true then(i:Int)else ZM p (xs.drop (i+1)) (i+1):=by
 rw[Yj h,ZM]
theorem Zef{α:Type}(p:α->Bool)(xs:List α):∀i,xs.any p=false->ZM p xs i=-1:=by
 induction xs with
 |nil=>intro i _;rfl
 |cons x xs ih=>intro i h;simp at h;simp[ZM,h];apply ih;simp;exact h.2
theorem Zhk{α:Type}(p:α->Bool)(xs:List α):∀i,xs.any p=true->0<=ZM p xs i:=by
 induction xs with
 |nil=>intro i h;simp at h
 |cons x xs ih =>
  intro i h;unfold ZM;split
  .omega
  .rename_i hx;simp only[Ydk,hx,Ydi]at h;exact ih _ h
def WU(s:V5):Bool:=match s[0]? with
 |some b=>decide (s.size=1) && decide (97<=(b.toNat:Int)) && decide ((b.toNat:Int)<=122)
 |none=>false
theorem get0{s:V5}(h:s.size=1):∃b,s[0]?=some b:=⟨s[0],getElem?_pos s 0 (by omega)⟩
def Vo(n:Int)(c:WA):WA->Bool
 |[]=>true
 |v::rest=>inR v 0 (n-1) && !has c v && Vo n (c++[v]) rest
theorem ZsB(n:Int){vs:WA}{k:Nat}(h:k<vs.length):Vo n (vs.take k) (vs.drop k)=(inR vs[k] 0 (n-1) && !has (vs.take k) vs[k] && Vo n (vs.take (k+1)) (vs.drop (k+1))):=by
 conv=>lhs;rw[Yj h,Vo]
 rw[List.take_add_one,Yi h];rfl
theorem ZkO{n:Int}:∀{vs c:WA},Vo n c vs=true->∀v∈vs,inR v 0 (n-1)=true
 |[],_,_,v,hv=>by cases hv
 |x::xs,c,h,v,hv=>by
  simp only[Vo,Ye]at h
  cases hv with
  |head=>exact h.1.1
  |tail _ hv=>exact ZkO h.2 v hv
def XO(n:Int)(a:Zc):Bool:=WU a.Name && inR a.Vars.length 1 3 && Vo n [] a.Vars
def WV(p:Nat->Bool)(qa:List Zc):Nat->Bool:=λu=>p u || qa.any λa=>has a.Vars u
theorem ZsC(p:Nat->Bool){qa:List Zc}{i:Nat}(h:i<qa.length):WV p (qa.drop i)=WV (Xw p qa[i].Vars) (qa.drop (i+1)):=by
 rw[Yj h];funext u;simp only[WV,Ydk,Xw,Bool.or_assoc]
def Zu(n:Int)(qa:List Zc):Bool :=
 inR n 1 4 && inR qa.length 1 4 && qa.all (XO n) && (List.range n.toNat).all (WV (λ_=>false) qa)
def bl(p:Nat->Bool)(n:Nat):XT:=(List.range n).map λu=>[T.bool (p u)]
@[simp] theorem bl_get(p:Nat->Bool)(n i:Nat)(h:i<(bl p n).length):(bl p n)[i]=[T.bool (p i)]:=by simp[bl]
theorem bl_any(p:Nat->Bool)(n:Nat):((List.range n).map p).any (λx=>false == x)=!(List.range n).all p:=by
 rw[List.any_map,Yby];simp
theorem Zhl:∀a b c d:Bool,(ZQ a b c d=1↔(a=true/\b=false/\c=false/\d=false))/\(ZQ a b c d=3↔(a=true/\b=true/\c=false/\d=false))/\(ZQ a b c d=7↔(a=true/\b=true/\c=true/\d=false))/\(ZQ a b c d=15↔(a=true/\b=true/\c=true/\d=true)):=by decide
theorem all_in{n:Int}{qa:List Zc}(h:qa.all (XO n)=true):∀u:Int,n<=u->qa.any (λa=>has a.Vars u)=false:=by
 intro u hu;rw[Ydp];intro a ha hc;rw[ZO]at hc;have:=Yn.1 h a ha;simp only[XO,Ye]at this;have:=ZkO this.2 _ hc;simp[inR]at this;omega
def We(n:Int)(qa:List Zc):Int:=if Zu n qa=true then shlI 1 qa.length-1 else 0
theorem Zhm{n:Int}{qa:List Zc}(h:Zu n qa=true):(qa.length=1\/qa.length=2\/qa.length=3\/qa.length=4)/\shlI 1 qa.length=2 ^ qa.length/\IntKind.wrap .i64 (shlI 1 qa.length-1)=shlI 1 qa.length-1/\IntKind.wrap .i64 (shlI 1 qa.length-1+1)=shlI 1 qa.length-1+1:=by
 simp only[Zu,Ye]at h;have h2:=h.1.1.2;simp[inR]at h2;have h3:qa.length=1\/qa.length=2\/qa.length=3\/qa.length=4:=by omega
 refine⟨h3,?_⟩;rcases h3 with h3|h3|h3|h3<;>rw[h3]<;>decide
def Zx(m:Int)(i:Nat):Bool:=decide (andI (shrI m i) 1=1)
def ZT(m:Int):List Zc->Nat->Int->Bool
 |[],_,_=>false
 |a::as',i,u=>(Zx m i && has a.Vars u) || ZT m as' (i+1) u
theorem ZsD(m:Int){qa:List Zc}{i:Nat}(h:i<qa.length)(u:Int):ZT m (qa.drop i) i u=((Zx m i && has qa[i].Vars u) || ZT m (qa.drop (i+1)) (i+1) u):=by
 rw[Yj h,ZT]
def pV(m:Int)(qa:List Zc):Nat->Bool:=λu=>ZT m qa 0 u
def Zhn(qa:List Zc):Prop:=∀a∈qa,∀v∈a.Vars,inR v 0 3=true
theorem Zeg{n:Int}{qa:List Zc}(h:Zu n qa=true):∀a∈qa,∀v∈a.Vars,inR v 0 (n-1)=true:=by
 intro a ha v hv;simp only[Zu,Ye]at h;have:=Yn.1 h.1.2 a ha;simp only[XO,Ye]at this;exact ZkO this.2 v hv
theorem UC{n:Int}{qa:List Zc}(h:Zu n qa=true):1<=n/\n<=4:=by
 simp only[Zu,Ye]at h;have:=h.1.1.1;simpa[inR]using this
theorem Xx{n:Int}{qa:List Zc}(h:Zu n qa=true):1<=qa.length/\qa.length<=4:=by
 simp only[Zu,Ye]at h;have:=h.1.1.2;simp[inR]at this;omega
theorem J7{n:Int}{qa:List Zc}(h:Zu n qa=true):∀a∈qa,1<=a.Vars.length/\a.Vars.length<=3:=by
 intro a ha;simp only[Zu,Ye]at h;have:=Yn.1 h.1.2 a ha;simp only[XO,Ye]at this;have:=this.1.2;simp[inR]at this;omega
theorem K1{n:Int}{qa:List Zc}(h:Zu n qa=true):Zhn qa:=by
 intro a ha v hv;have:=Zeg h a ha v hv;have h2:=UC h;simp[inR]at this|-;omega
def Qm(m:Int)(p:Nat->Bool)(qa:List Zc)(i:Nat):Nat->Bool:=λu=>p u || ZT m (qa.drop i) i u
theorem Z3y(m:Int)(p:Nat->Bool){qa:List Zc}{i:Nat}(h:i<qa.length):Qm m p qa i=Qm m (if Zx m i=true then Xw p qa[i].Vars else p) qa (i+1):=by
 funext u;rw[Qm,ZsD _ h];rcases tf (Zx m i)with e|e<;>simp[Qm,Xw,e,Bool.or_assoc]
def Z9(m:Int)(qa:List Zc)(k:Nat):WA:=((List.range k).filter (pV m qa)).map λu:Nat=>(u:Int)
theorem Z3z(m:Int)(qa:List Zc)(k:Nat):Z9 m qa (k+1)=Z9 m qa k++if ZT m qa 0 k=true then[(k:Int)]else[]:=by
 unfold Z9;rw[Ycp,Ydd,Ybn];rcases tf (ZT m qa 0 k)with e|e<;>simp[pV,e]
theorem J8(m:Int)(qa:List Zc)(k:Nat):(Z9 m qa k).length<=k:=by
 unfold Z9;simp;exact Yu (Ybz _ _) (by simp)
theorem ZsE{α:Type}(p:α->Bool){xs:List α}{i:Nat}(h:i<xs.length):(xs.take (i+1)).filter p=(xs.take i).filter p++if p xs[i]=true then[xs[i]]else[]:=by
 rw[List.take_add_one,Yi h,Ydd];rcases tf (p xs[i])with e|e<;>simp[e]
def vin(qa:List Zc)(m v:Int):Bool:=inR v 0 3 && pV m qa v.toNat
def shr(qa:List Zc)(a b:Int):Bool:=(List.range 4).any λu=>pV a qa u && pV b qa u
def Vp(st:WA)(info:List Za)(k:Nat):Option (Int×Za):=if k<=st.length then(match st[st.length-k]? with
 |some s=>(info[s.toNat]?).map (s,·)
 |none=>none)else none
def VV(qa:List Zc)(x:Zj)(y z:Za):Option Int :=
 if x.Kind=3/\x.Order=0 then some (-1)
 else if x.Kind=5/\x.Order=0 then some y.Order
 else if x.Kind=4/\vin qa y.Mask x.Order=true/\vin qa z.Mask x.Order=true/\y.Order=x.Order/\z.Order=x.Order then some x.Order
 else none
def WW(qa:List Zc)(x:Zj)(info:List Za)(st:WA):Option Za :=
 if x.Kind=1 then(if inR x.Zc 0 (qa.length-1)=true/\x.Order=0 then some ⟨shlI 1 x.Zc,(match qa[x.Zc.toNat]? with|some a=>a.Vars.headD 0|none=>0),-1,-1⟩else none)
 else if x.Zc≠0 then none
 else if x.Kind=2 then(match Vp st info 1 with
  |some (s,y)=>if vin qa y.Mask x.Order=true/\y.Order≠x.Order then some ⟨y.Mask,x.Order,s,-1⟩else none
  |none=>none)
 else match Vp st info 2,Vp st info 1 with
  |some (s,y),some (t,z)=>if andI y.Mask z.Mask=0/\shr qa y.Mask z.Mask=true then(VV qa x y z).map (⟨orI y.Mask z.Mask,·,s,t⟩)else none
  |_,_=>none
def Vq(info:List Za)(st:WA):Prop:=∀s∈st,0<=s/\s.toNat<info.length
theorem J9{info:List Za}{st:WA}(h:Vq info st){k:Nat}(h1:1<=k)(h2:k<=st.length) :
  ∃s y,Vp st info k=some (s,y)/\st[st.length-k]?=some s/\0<=s/\info[s.toNat]?=some y:=by
 have hlt:st.length-k<st.length:=by omega
 obtain⟨h3,h4⟩:=h _ (Yh hlt);refine⟨st[st.length-k],info[(st[st.length-k]).toNat],?_,Yi hlt,h3,Yi h4⟩;simp[Vp,h2,Yi hlt,Yi h4]
theorem ZkP{n:Int}{qa:List Zc}(h:Zu n qa=true){m:Int}{u:Nat}(hp:pV m qa u=true):(u:Int)<n:=by
 have:∀(l:List Zc) (i:Nat),(∀a∈l,a∈qa)->ZT m l i u=true->(u:Int)<n:=by
  intro l
  induction l with
  |nil=>intro i _ hh;simp[ZT]at hh
  |cons a l ih =>
   intro i hs hh;simp only[ZT,Yb6,Ye]at hh;rcases hh with hh|hh
   .have:=Zeg h a (hs a (by simp)) u (ZO.1 hh.2);simp[inR]at this;omega
   .exact ih (i+1) (λb hb=>hs b (by simp[hb])) hh
 exact this qa 0 (λa ha=>ha) hp
theorem Zb6{n:Int}{qa:List Zc}(h:Zu n qa=true)(m v:Int):has (Z9 m qa n.toNat) v=vin qa m v:=by
 have hn:=UC h;rw[Yby,ZO];simp only[Z9,Y2,Y0,Ybm,vin,Ye];constructor
 .rintro⟨u,⟨h1,h2⟩,rfl⟩;refine⟨by simp[inR];omega,by simpa using h2⟩
 .rintro⟨h1,h2⟩;have h3:=ZkP h h2;simp[inR]at h1;exact⟨v.toNat,⟨by omega,h2⟩,by omega⟩
theorem ZsF{n:Int}{qa:List Zc}(h:Zu n qa=true)(a b:Int):((Z9 a qa n.toNat).filter (has (Z9 b qa n.toNat))).length=0↔shr qa a b=false:=by
 have hn:=UC h;rw[Yck,Yd1,shr,Ydp];simp only[Zb6 h];constructor
 .intro hh u hu;simp only[Ybm]at hu;simp only[Ye,not_and];intro h1 h2;have h3:=ZkP h h1;refine hh (u:Int) ?_ ?_
  .simp only[Z9,Y2,Y0,Ybm];exact⟨u,⟨by omega,h1⟩,rfl⟩
  .simp only[vin,Ye];exact⟨by simp[inR];omega,by simpa using h2⟩
 .intro hh v hv;simp only[Z9,Y2,Y0,Ybm]at hv;obtain⟨u,⟨h1,h2⟩,rfl⟩:=hv;have:=hh u (by simp only[Ybm];omega);simp only[Ye,not_and]at this;simp only[vin,Ye,not_and];intro _;simpa using this h2
theorem Z30{n:Int}{qa:List Zc}(h:Zu n qa=true)(a b v:Int):has ((Z9 a qa n.toNat).filter (has (Z9 b qa n.toNat))) v=(vin qa a v && vin qa b v):=by
 rw[Yby,ZO,Y0,<-ZO,Zb6 h,Zb6 h,Ye]
theorem ZkQ(qa:List Zc)(a b:Int):andI (ZH (pV a qa)) (ZH (pV b qa))=0↔shr qa a b=false:=by
 rw[ZsA,Z3x,shr,Ydp];simp
def JA(x:Zj):Int:=if x.Kind=1 then 0 else if x.Kind=2 then 1 else 2
theorem hd0{xs:WA}(h:0<xs.length):xs.head?.getD 0=xs[0]:=by cases xs with|nil=>simp at h|cons x xs=>rfl
def WI(y:Za):Nat:=if 0<=y.Right then 2 else if 0<=y.Left then 1 else 0
def XB(qa:List Zc):List Zj->Nat->List Za->WA->Option (List Za×WA)
 |[],_,info,st=>some (info,st)
 |x::xs,i,info,st=>match WW qa x info st with
  |none=>none
  |some y=>XB qa xs (i+1) (info++[y]) (st.take (st.length-WI y)++[(i:Int)])
theorem ZsG(qa:List Zc){xs:List Zj}{i:Nat}(h:i<xs.length)(info:List Za)(st:WA):XB qa (xs.drop i) i info st=match WW qa xs[i] info st with
  |none=>none
  |some y=>XB qa (xs.drop (i+1)) (i+1) (info++[y]) (st.take (st.length-WI y)++[(i:Int)]):=by
 rw[Yj h,XB]
def Xr(n:Int)(qa:List Zc)(c:List Zj):Option (List Za) :=
 if Zu n qa=true/\inR c.length 1 14=true then(match XB qa c 0 [] []with
  |some (info,st)=>if st.length=1 then some info else none
  |none=>none)else none
theorem UD{st:WA}{info:List Za}{k:Nat}{s:Int}{y:Za}(hs:Vq info st)(h1:1<=k)(h:Vp st info k=some (s,y)):k<=st.length/\0<=s/\s.toNat<info.length/\info[s.toNat]?=some y:=by
 have hk:k<=st.length:=by
  unfold Vp at h;split at h
  .assumption
  .cases h
 obtain⟨s',y',q1,q2,q3,q4⟩:=J9 hs h1 hk;rw[q1]at h;cases h;exact⟨hk,q3,(Yv.1 q4).1,q4⟩
theorem ZkR{qa:List Zc}{x:Zj}{info:List Za}{st:WA}{y:Za}(hs:Vq info st)(h:WW qa x info st=some y) :
  JA x=WI y/\WI y<=st.length/\(0<=y.Right↔3<=x.Kind):=by
 unfold WW at h;unfold JA WI;split at h
 .rename_i k1;split at h
  .cases h;simp[k1]
  .cases h
 .rename_i k1;split at h
  .cases h
  .split at h
   .rename_i k2;split at h
    .rename_i s y' ht;split at h
     .cases h;obtain⟨t1,t2,_⟩:=UD hs (Yg 1) ht;simp[k2,t2,t1]
     .cases h
    .cases h
   .rename_i k2;split at h
    .rename_i s y' t z ht hu;split at h
     .obtain⟨t1,t2,_⟩:=UD hs (by omega:1<=2) ht;obtain⟨u1,u2,_⟩:=UD hs (by omega:1<=1) hu;obtain⟨o,ho,rfl⟩:=Yr.1 h;have hk:x.Kind=3\/x.Kind=4\/x.Kind=5:=by
       unfold VV at ho;split at ho
       .omega
       .split at ho
        .omega
        .split at ho
         .omega
         .cases ho
      simp only[u2,if_true,k1,k2,if_false];refine⟨rfl,t1,?_⟩;simp;omega
     .cases h
    .cases h
theorem Zeh{info:List Za}{st:WA}(hs:Vq info st)(y:Za)(k:Nat):Vq (info++[y]) (st.take k++[(info.length:Int)]):=by
 intro s h;rcases Yk.1 h with h|h
 .obtain⟨h1,h2⟩:=hs s (Y9 h);exact⟨h1,by simp;omega⟩
 .simp at h;subst h;simp
theorem ZsH{st:WA}{i k:Nat}(h:st.length<=i)(x:Int):(st.take k++[x]).length<=i+1:=by simp;omega
theorem ZsI{qa:List Zc}:∀{xs:List Zj} {i:Nat} {info:List Za} {st:WA} {c:List Za} {cc:WA},XB qa xs i info st=some (c,cc)->c.length=info.length+xs.length
 |[],_,_,_,_,_,h=>by simp[XB]at h;simp[h.1]
 |x::xs,i,info,st,c,cc,h=>by
  rw[XB]at h;split at h
  .cases h
  .have:=ZsI h;simp at this|-;omega
theorem JB{n:Int}{qa:List Zc}{steps:List Zj}{info:List Za}(h:Xr n qa steps=some info):Zu n qa=true/\info.length=steps.length/\1<=steps.length/\steps.length<=14:=by
 unfold Xr at h;split at h
 .rename_i hc;have h2:=hc.2;simp[inR]at h2;split at h
  .rename_i info' st hg;split at h
   .cases h;have:=ZsI hg;simp at this;exact⟨hc.1,this,by omega,by omega⟩
   .cases h
  .cases h
 .cases h
theorem Z31{n:Int}{qa:List Zc}(h:Zu n qa=true):0<We n qa:=by
 obtain⟨h1,h2,_⟩:=Zhm h;unfold We;rw[Ya h,h2];rcases h1 with h1|h1|h1|h1<;>rw[h1]<;>decide
theorem or16:∀a b:Fin 16,orI (a.1:Int) (b.1:Int)=((a.1 ||| b.1:Nat):Int):=by decide
theorem or_lt{k:Nat}(hk:k<=4){a b:Int}(ha:0<=a/\a<2 ^ k)(hb:0<=b/\b<2 ^ k):0<=orI a b/\orI a b<2 ^ k:=by
 have h16:(2:Int) ^ k<=16:=by
  have:k=0\/k=1\/k=2\/k=3\/k=4:=by omega
  rcases this with rfl|rfl|rfl|rfl|rfl<;>decide
 have e1:a=(a.toNat:Int):=by omega
 have e2:b=(b.toNat:Int):=by omega
 have l1:a.toNat<16:=by omega
 have l2:b.toNat<16:=by omega
 have e:=or16 ⟨a.toNat,l1⟩ ⟨b.toNat,l2⟩;simp only at e;rw[e1,e2,e];have c:((2 ^ k:Nat):Int)=2 ^ k:=by simp
 have m1:a.toNat<2 ^ k:=by omega
 have m2:b.toNat<2 ^ k:=by omega
 have:=Nat.or_lt_two_pow m1 m2;omega
theorem shl_lt{k:Nat}(hk:k<=4){v:Int}(h0:0<=v)(h1:v<k):0<=shlI 1 v/\shlI 1 v<2 ^ k:=by
 have h2:v=0\/v=1\/v=2\/v=3:=by omega
 have h3:k=0\/k=1\/k=2\/k=3\/k=4:=by omega
 rcases h2 with rfl|rfl|rfl|rfl<;>rcases h3 with rfl|rfl|rfl|rfl|rfl<;>first|omega|decide
def JC(k:Nat)(y:Za):Prop:=0<=y.Mask/\y.Mask<2 ^ k
theorem Z32{qa:List Zc}(hk:qa.length<=4){x:Zj}{info:List Za}{st:WA}{y:Za}(hs:Vq info st)(hm:∀y∈info,JC qa.length y)(h:WW qa x info st=some y):JC qa.length y:=by
 unfold WW at h;split at h
 .split at h
  .rename_i hc;cases h;have:=hc.1;simp[inR]at this;exact shl_lt hk this.1 (by omega)
  .cases h
 .split at h
  .cases h
  .split at h
   .split at h
    .rename_i s y' ht;split at h
     .cases h;obtain⟨_,_,t3,t4⟩:=UD hs (Yg 1) ht;exact hm y' (Yz t4)
     .cases h
    .cases h
   .split at h
    .rename_i s y' t z ht hu;split at h
     .obtain⟨_,_,_,t4⟩:=UD hs (by omega:1<=2) ht;obtain⟨_,_,_,u4⟩:=UD hs (by omega:1<=1) hu;obtain⟨o,ho,rfl⟩:=Yr.1 h;exact or_lt hk (hm y' (Yz t4)) (hm z (Yz u4))
     .cases h
    .cases h
theorem ZsJ{qa:List Zc}(hk:qa.length<=4):∀{xs:List Zj} {i:Nat} {info:List Za} {st:WA} {c:List Za} {cc:WA},XB qa xs i info st=some (c,cc)->
  Vq info st->info.length=i->(∀y∈info,JC qa.length y)->(∀y∈c,JC qa.length y)/\∃tail,c=info++tail/\tail.length=xs.length/\∀(j:Nat) (y:Za) (x:Zj),tail[j]?=some y->xs[j]?=some x->(0<=y.Right↔3<=x.Kind)
 |[],i,info,st,c,cc,h,hs,hi,hm=>by
  simp[XB]at h;obtain⟨rfl,rfl⟩:=h
  exact⟨hm,[],by simp,rfl,by intro j y x hj;simp at hj⟩
 |x::xs,i,info,st,c,cc,h,hs,hi,hm=>by
  rw[XB]at h;split at h
  .cases h
  .rename_i y hy;have hn:=Zeh hs y (st.length-WI y);rw[hi]at hn;have hm2:∀z∈info++[y],JC qa.length z:=by
    intro z hz;rcases Yk.1 hz with hz|hz
    .exact hm z hz
    .simp at hz;subst hz;exact Z32 hk hs hm hy
   obtain⟨g1,tail,g2,g3,g4⟩:=ZsJ hk h hn (by simp[hi]) hm2;refine⟨g1,y::tail,by simp[g2],by simp[g3],?_⟩;intro j y' x' hj hx
   cases j with
   |zero=>simp at hj hx;subst hj;subst hx;exact(ZkR hs hy).2.2
   |succ j=>exact g4 j y' x' (by simpa using hj) (by simpa using hx)
theorem Zho{n:Int}{qa:List Zc}{steps:List Zj}{info:List Za}(h:Xr n qa steps=some info) :
  (∀y∈info,JC qa.length y)/\∀(j:Nat) (y:Za) (x:Zj),info[j]?=some y->steps[j]?=some x->(0<=y.Right↔3<=x.Kind):=by
 have hq:=(JB h).1;unfold Xr at h;split at h
 .split at h
  .rename_i info' st hg;split at h
   .cases h;obtain⟨g1,tail,g2,g3,g4⟩:=ZsJ (Xx hq).2 hg (λs hs=>by cases hs) rfl (λy hy=>by cases hy);simp at g2;subst g2;exact⟨g1,g4⟩
   .cases h
  .cases h
 .cases h
def jst:List Zj->Nat->WA
 |[],_=>[]
 |x::xs,i=>if 3<=x.Kind then(i:Int)::jst xs (i+1)else jst xs (i+1)
theorem ZsK{xs:List Zj}{i:Nat}(h:i<xs.length):jst (xs.drop i) i=if 3<=xs[i].Kind then(i:Int)::jst (xs.drop (i+1)) (i+1)else jst (xs.drop (i+1)) (i+1):=by
 rw[Yj h,jst]
theorem Zei:∀(xs:List Zj) (i:Nat),(jst xs i).length<=xs.length
 |[],_=>Yg _
 |x::xs,i=>by
  have:=Zei xs (i+1);unfold jst;split<;>simp<;>omega
theorem JD:∀{xs:List Zj} {i:Nat} {j:Int},j∈jst xs i->(i:Int)<=j/\j<i+xs.length
 |[],_,_,h=>by cases h
 |x::xs,i,j,h=>by
  unfold jst at h;split at h
  .cases h with
   |head=>simp;omega
   |tail _ h=>have:=JD h;simp;omega
  .have:=JD h;simp;omega
def Zy:WA->WA->Int
 |[],[]=>0
 |[],_::_=>-1
 |_::_,[]=>1
 |a::x,b::y=>if a<b then -1 else if b<a then 1 else Zy x y
def leR(a b:WA):Bool:=decide (Zy a b<=0)
def VW(rows:XS):XS:=rows.mergeSort leR
def Wj:XS->XS
 |[]=>[]
 |[a]=>[a]
 |a::b::l=>if a=b then Wj (b::l)else a::Wj (b::l)
def Z1(l:WA):WA:=l.mergeSort λx y=>decide (x<=y)
def Xq:WA->WA
 |[]=>[]
 |[a]=>[a]
 |a::b::l=>if a=b then Xq (b::l)else a::Xq (b::l)
def ZsL(es:XT)(rows:XS):Prop:=es=rows.map isc/\rows.length<=4096/\∀r∈rows,r.length<=4
def ZsM(es:XT)(l:WA):Prop:=es=l.map ic/\l.length<=4096
open Classical in
def Zb7(es:XT)(k:XS->XR):XP:=if h:∃rows,ZsL es rows then some (k h.choose)else none
open Classical in
def Zb8(es:XT)(k:WA->XR):XP:=if h:∃l,ZsM es l then some (k h.choose)else none
def ext:Z0:=λf xs h0=>match xs,h0 with
 |[.own 0,.fn 205 []],[.arr 42 1 fr es]=>if f=204 then Zb7 es λrows=>(.tup [],[.arr 42 1 fr ((VW rows).map isc)])else none
 |[.own 0,.fn 207 []],[.arr 42 1 fr es]=>if f=206 then Zb7 es λrows=>(.own 1,[.dead,.arr 42 1 fr ((Wj rows).map isc)])else none
 |[.own 0],[.arr 3 1 fr es]=>if f=190 then Zb8 es λl=>(.tup [],[.arr 3 1 fr ((Z1 l).map ic)])else if f=262 then Zb8 es λl=>(.own 1,[.dead,.arr 3 1 fr ((Xq l).map ic)])else none
 |_,_=>none
open Go.ChangeShapes Go.WideShapes Go.ChangeAt Go.RowKit
theorem own:ownKnob Tryz.prog.godebug=none:=by kernel_rfl
theorem laidOut:laidOutB Tryz.prog=true:=by kernel_rfl
def tbl:Nat->Option MFun:=λf=>if f=204\/f=190 then none else tblOf Tryz.prog [9000003,9000004,9000007,10000007,2000008,10000008,10000009,2000012,10000015,9000017,10000017,2000019,10000019,10000020,10000023,10000029,2000030,10000030,10000031,2000035,10000035,10000036,2000037,10000037,9000040,10000040,41,9000042,10000042,42,1000054,6000089,89,94,95,96,10000109,10000117,117,10000118,118,10000119,119,9000120,10000120,120,121,153,163,165,166,173,9000174,10000174,174,175,10000177,177,7000178,6000184,6000185,185,6000186,186,6000187,187,12000188,6000188,188,12000189,189,190,7000191,192,195,1000196,204,206,210,211,236,237,239,9000242,10000242,242,12000243,6000243,6000246,6000247,6000250,258,259,261,262,1000265,1000277,280,1000286,1000289,6000297,306,317,318,1000331,6000339,348,356,1000358,362,6000363,369,8000374,6000375,6000382,7000382,6000385,6000389,9000390,6000391,6000392,8000392,6000393,6000394,6000396,7000396,9000400,6000400,7000400,6000401] f
def Zh(f:Nat)(fn:Func):Option MFun:=QC Tryz.prog (inlOf [9000003,9000004,9000007,10000007,2000008,10000008,10000009,2000012,10000015,9000017,10000017,2000019,10000019,10000020,10000023,10000029,2000030,10000030,10000031,2000035,10000035,10000036,2000037,10000037,9000040,10000040,41,9000042,10000042,42,1000054,6000089,89,94,95,96,10000109,10000117,117,10000118,118,10000119,119,9000120,10000120,120,121,153,163,165,166,173,9000174,10000174,174,175,10000177,177,7000178,6000184,6000185,185,6000186,186,6000187,187,12000188,6000188,188,12000189,189,190,7000191,192,195,1000196,204,206,210,211,236,237,239,9000242,10000242,242,12000243,6000243,6000246,6000247,6000250,258,259,261,262,1000265,1000277,280,1000286,1000289,6000297,306,317,318,1000331,6000339,348,356,1000358,362,6000363,369,8000374,6000375,6000382,7000382,6000385,6000389,9000390,6000391,6000392,8000392,6000393,6000394,6000396,7000396,9000400,6000400,7000400,6000401] f) (Zee fn) fn
theorem tbl_ok:TblOK Tryz.prog tbl:=by
 intro f m h;unfold tbl at h;split at h
 .cases h
 .exact tblOK _ _ f m h
theorem Zi{f:Nat}{fn:Func}{m:MFun}(hf:Tryz.prog.funcs[f]?=some fn)(hc:UB Tryz.prog f=true:=by kernel_rfl)(h:QC Tryz.prog (inlOf [9000003,9000004,9000007,10000007,2000008,10000008,10000009,2000012,10000015,9000017,10000017,2000019,10000019,10000020,10000023,10000029,2000030,10000030,10000031,2000035,10000035,10000036,2000037,10000037,9000040,10000040,41,9000042,10000042,42,1000054,6000089,89,94,95,96,10000109,10000117,117,10000118,118,10000119,119,9000120,10000120,120,121,153,163,165,166,173,9000174,10000174,174,175,10000177,177,7000178,6000184,6000185,185,6000186,186,6000187,187,12000188,6000188,188,12000189,189,190,7000191,192,195,1000196,204,206,210,211,236,237,239,9000242,10000242,242,12000243,6000243,6000246,6000247,6000250,258,259,261,262,1000265,1000277,280,1000286,1000289,6000297,306,317,318,1000331,6000339,348,356,1000358,362,6000363,369,8000374,6000375,6000382,7000382,6000385,6000389,9000390,6000391,6000392,8000392,6000393,6000394,6000396,7000396,9000400,6000400,7000400,6000401] f) (Zee fn) fn=some m:=by kernel_rfl)(hne:¬(f=204\/f=190):=by decide):tbl f=some m:=by
 unfold tbl;rw[Yb hne];exact tblOf_eq hf hc h
def C:Z0:=Xy ext tbl
theorem run{f:Nat}{xs:XQ}{m:MFun}(ht:tbl f=some m)(hl:xs.length=m.np){r:XR}(h:Ev C [.fin 0 m.res] m.body ⟨UA xs 0,[[]],[]⟩=some r):C f xs []=some r:=Zsj (h0:=[]) ht hl h
theorem ZR{f:Nat}{xs:XQ}{h0:V1}{m:MFun}(ht:tbl f=some m)(hl:xs.length=m.np){r:XR}(h:Ev C [.fin h0.length m.res] m.body ⟨UA xs 0,[Um h0 0],h0⟩=some r):C f xs h0=some r:=Zsj ht hl h
abbrev Z33:Nat:=3
abbrev ZU:Nat:=3
abbrev t_bool:Nat:=4
abbrev Z34:Nat:=9
abbrev ZsN:Nat:=42
abbrev Z35:Nat:=97
abbrev JE:Nat:=113
abbrev ZsO:Nat:=185
end
end Go.Proofs.YtgbipcfdgfjplaaGreat
