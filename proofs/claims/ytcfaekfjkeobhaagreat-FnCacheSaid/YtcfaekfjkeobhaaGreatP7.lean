/-
  Parts of the proofs for this seat: TY TX PW EX H.
-/
import Derived.Test.YtcfaekfjkeobhaaGreatRows
import Derived.Test.YtcfaekfjkeobhaaGreatP4
import Derived.Test.YtcfaekfjkeobhaaGreatP5
set_option linter.unusedSectionVars false
set_option linter.unusedSimpArgs false
set_option linter.unusedVariables false
set_option maxRecDepth 100000
set_option maxHeartbeats 4000000
namespace Go.Proofs.YtcfaekfjkeobhaaGreat
open Go.AM
@[ext] structure Zj where
 From:Int
 Add:Int
 deriving DecidableEq
def Zj.c(x:Zj):List T:=[.int .i64 x.From,.int .i64 x.Add]
@[simp] theorem Zj.c_def(x:Zj):x.c=[.int .i64 x.From,.int .i64 x.Add]:=rfl
@[simp] theorem Zj.map_inj(xs ys:List Zj):xs.map Zj.c=ys.map Zj.c↔xs=ys:=Zcq (by
 intro a b h;simp at h
 simp[Zj.ext_iff,h])
@[simp] theorem Zj.flat(xs:List Zj):(xs.map Zj.c).all (λx=>x.all Zbh)=true:=Zk0 (λ_=>rfl) xs
@[simp] theorem Zj.flat2(xs:List Zj):xs.all ((λx=>x.all Zbh) ∘ Zj.c)=true:=Zk1 (λ_=>rfl) xs
@[ext] structure Zm where
 Fixed:Int
 Zq:Int
 Zs:Int
 Zu:Int
 Zt:Int
 Steps:List Zj
 deriving DecidableEq
def Zm.c(x:Zm):List T:=[.int .i64 x.Fixed,.int .i64 x.Zq,.int .i64 x.Zs,.int .i64 x.Zu,.int .i64 x.Zt,.lst 2 (x.Steps.map Zj.c)]
@[simp] theorem Zm.c_def(x:Zm):x.c=[.int .i64 x.Fixed,.int .i64 x.Zq,.int .i64 x.Zs,.int .i64 x.Zu,.int .i64 x.Zt,.lst 2 (x.Steps.map Zj.c)]:=rfl
@[simp] theorem Zm.map_inj(xs ys:List Zm):xs.map Zm.c=ys.map Zm.c↔xs=ys:=Zcq (by
 intro a b h;simp at h
 simp[Zm.ext_iff,h])
@[ext] structure Ze where
 Scan:Zm
 Sort_:Zm
 Hash:Zm
 Merge:Zm
 Nested:Zm
 deriving DecidableEq
def Ze.c(x:Ze):List T:=[.int .i64 x.Scan.Fixed,.int .i64 x.Scan.Zq,.int .i64 x.Scan.Zs,.int .i64 x.Scan.Zu,.int .i64 x.Scan.Zt,.lst 2 (x.Scan.Steps.map Zj.c),.int .i64 x.Sort_.Fixed,.int .i64 x.Sort_.Zq,.int .i64 x.Sort_.Zs,.int .i64 x.Sort_.Zu,.int .i64 x.Sort_.Zt,.lst 2 (x.Sort_.Steps.map Zj.c),.int .i64 x.Hash.Fixed,.int .i64 x.Hash.Zq,.int .i64 x.Hash.Zs,.int .i64 x.Hash.Zu,.int .i64 x.Hash.Zt,.lst 2 (x.Hash.Steps.map Zj.c),.int .i64 x.Merge.Fixed,.int .i64 x.Merge.Zq,.int .i64 x.Merge.Zs,.int .i64 x.Merge.Zu,.int .i64 x.Merge.Zt,.lst 2 (x.Merge.Steps.map Zj.c),.int .i64 x.Nested.Fixed,.int .i64 x.Nested.Zq,.int .i64 x.Nested.Zs,.int .i64 x.Nested.Zu,.int .i64 x.Nested.Zt,.lst 2 (x.Nested.Steps.map Zj.c)]
@[simp] theorem Ze.c_def(x:Ze):x.c=[.int .i64 x.Scan.Fixed,.int .i64 x.Scan.Zq,.int .i64 x.Scan.Zs,.int .i64 x.Scan.Zu,.int .i64 x.Scan.Zt,.lst 2 (x.Scan.Steps.map Zj.c),.int .i64 x.Sort_.Fixed,.int .i64 x.Sort_.Zq,.int .i64 x.Sort_.Zs,.int .i64 x.Sort_.Zu,.int .i64 x.Sort_.Zt,.lst 2 (x.Sort_.Steps.map Zj.c),.int .i64 x.Hash.Fixed,.int .i64 x.Hash.Zq,.int .i64 x.Hash.Zs,.int .i64 x.Hash.Zu,.int .i64 x.Hash.Zt,.lst 2 (x.Hash.Steps.map Zj.c),.int .i64 x.Merge.Fixed,.int .i64 x.Merge.Zq,.int .i64 x.Merge.Zs,.int .i64 x.Merge.Zu,.int .i64 x.Merge.Zt,.lst 2 (x.Merge.Steps.map Zj.c),.int .i64 x.Nested.Fixed,.int .i64 x.Nested.Zq,.int .i64 x.Nested.Zs,.int .i64 x.Nested.Zu,.int .i64 x.Nested.Zt,.lst 2 (x.Nested.Steps.map Zj.c)]:=rfl
@[simp] theorem Ze.map_inj(xs ys:List Ze):xs.map Ze.c=ys.map Ze.c↔xs=ys:=Zcq (by
 intro a b h;simp at h
 simp[Ze.ext_iff,Zm.ext_iff,h])
@[ext] structure Atom where
 Name:ByteArray
 Vars:List Int
 deriving DecidableEq
def Atom.c(x:Atom):List T:=[.str x.Name,.lst 1 (x.Vars.map ic)]
@[simp] theorem Atom.c_def(x:Atom):x.c=[.str x.Name,.lst 1 (x.Vars.map ic)]:=rfl
@[simp] theorem Atom.map_inj(xs ys:List Atom):xs.map Atom.c=ys.map Atom.c↔xs=ys:=Zcq (by
 intro a b h;simp at h
 simp[Atom.ext_iff,h])
@[ext] structure Zc where
 Zf:Int
 Atoms:List Atom
 deriving DecidableEq
def Zc.c(x:Zc):List T:=[.int .i64 x.Zf,.lst 2 (x.Atoms.map Atom.c)]
@[simp] theorem Zc.c_def(x:Zc):x.c=[.int .i64 x.Zf,.lst 2 (x.Atoms.map Atom.c)]:=rfl
@[simp] theorem Zc.map_inj(xs ys:List Zc):xs.map Zc.c=ys.map Zc.c↔xs=ys:=Zcq (by
 intro a b h;simp at h
 simp[Zc.ext_iff,h])
@[ext] structure Zb where
 Kind:Int
 Atom:Int
 Order:Int
 deriving DecidableEq
def Zb.c(x:Zb):List T:=[.int .i64 x.Kind,.int .i64 x.Atom,.int .i64 x.Order]
@[simp] theorem Zb.c_def(x:Zb):x.c=[.int .i64 x.Kind,.int .i64 x.Atom,.int .i64 x.Order]:=rfl
@[simp] theorem Zb.map_inj(xs ys:List Zb):xs.map Zb.c=ys.map Zb.c↔xs=ys:=Zcq (by
 intro a b h;simp at h
 simp[Zb.ext_iff,h])
@[simp] theorem Zb.flat(xs:List Zb):(xs.map Zb.c).all (λx=>x.all Zbh)=true:=Zk0 (λ_=>rfl) xs
@[simp] theorem Zb.flat2(xs:List Zb):xs.all ((λx=>x.all Zbh) ∘ Zb.c)=true:=Zk1 (λ_=>rfl) xs
@[ext] structure Plan where
 Steps:List Zb
 deriving DecidableEq
def Plan.c(x:Plan):List T:=[.lst 3 (x.Steps.map Zb.c)]
@[simp] theorem Plan.c_def(x:Plan):x.c=[.lst 3 (x.Steps.map Zb.c)]:=rfl
@[simp] theorem Plan.map_inj(xs ys:List Plan):xs.map Plan.c=ys.map Plan.c↔xs=ys:=Zcq (by
 intro a b h;simp at h
 simp[Plan.ext_iff,h])
@[ext] structure Box where
 Low:List Int
 High:List Int
 deriving DecidableEq
def Box.c(x:Box):List T:=[.lst 1 (x.Low.map ic),.lst 1 (x.High.map ic)]
@[simp] theorem Box.c_def(x:Box):x.c=[.lst 1 (x.Low.map ic),.lst 1 (x.High.map ic)]:=rfl
@[simp] theorem Box.map_inj(xs ys:List Box):xs.map Box.c=ys.map Box.c↔xs=ys:=Zcq (by
 intro a b h;simp at h
 simp[Box.ext_iff,h])
@[ext] structure Region where
 Plan:Plan
 Box:Box
 Percent:Int
 deriving DecidableEq
def Region.c(x:Region):List T:=[.lst 3 (x.Plan.Steps.map Zb.c),.lst 1 (x.Box.Low.map ic),.lst 1 (x.Box.High.map ic),.int .i64 x.Percent]
@[simp] theorem Region.c_def(x:Region):x.c=[.lst 3 (x.Plan.Steps.map Zb.c),.lst 1 (x.Box.Low.map ic),.lst 1 (x.Box.High.map ic),.int .i64 x.Percent]:=rfl
@[simp] theorem Region.map_inj(xs ys:List Region):xs.map Region.c=ys.map Region.c↔xs=ys:=Zcq (by
 intro a b h;simp at h
 simp[Region.ext_iff,Plan.ext_iff,Box.ext_iff,h])
@[ext] structure Zd where
 Zc:Zc
 Region:Region
 Version:Int
 Used:Int
 deriving DecidableEq
def Zd.c(x:Zd):List T:=[.int .i64 x.Zc.Zf,.lst 2 (x.Zc.Atoms.map Atom.c),.lst 3 (x.Region.Plan.Steps.map Zb.c),.lst 1 (x.Region.Box.Low.map ic),.lst 1 (x.Region.Box.High.map ic),.int .i64 x.Region.Percent,.int .i64 x.Version,.int .i64 x.Used]
@[simp] theorem Zd.c_def(x:Zd):x.c=[.int .i64 x.Zc.Zf,.lst 2 (x.Zc.Atoms.map Atom.c),.lst 3 (x.Region.Plan.Steps.map Zb.c),.lst 1 (x.Region.Box.Low.map ic),.lst 1 (x.Region.Box.High.map ic),.int .i64 x.Region.Percent,.int .i64 x.Version,.int .i64 x.Used]:=rfl
@[simp] theorem Zd.map_inj(xs ys:List Zd):xs.map Zd.c=ys.map Zd.c↔xs=ys:=Zcq (by
 intro a b h;simp at h
 simp[Zd.ext_iff,Zc.ext_iff,Region.ext_iff,Plan.ext_iff,Box.ext_iff,h])
@[ext] structure Zk where
 Clock:Int
 Entries:List Zd
 deriving DecidableEq
def Zk.c(x:Zk):List T:=[.int .i64 x.Clock,.lst 8 (x.Entries.map Zd.c)]
@[simp] theorem Zk.c_def(x:Zk):x.c=[.int .i64 x.Clock,.lst 8 (x.Entries.map Zd.c)]:=rfl
@[simp] theorem Zk.map_inj(xs ys:List Zk):xs.map Zk.c=ys.map Zk.c↔xs=ys:=Zcq (by
 intro a b h;simp at h
 simp[Zk.ext_iff,h])
@[ext] structure Za where
 Mask:Int
 Order:Int
 Cost:Int
 Plan:Plan
 deriving DecidableEq
def Za.c(x:Za):List T:=[.int .i64 x.Mask,.int .i64 x.Order,.int .i64 x.Cost,.lst 3 (x.Plan.Steps.map Zb.c)]
@[simp] theorem Za.c_def(x:Za):x.c=[.int .i64 x.Mask,.int .i64 x.Order,.int .i64 x.Cost,.lst 3 (x.Plan.Steps.map Zb.c)]:=rfl
@[simp] theorem Za.map_inj(xs ys:List Za):xs.map Za.c=ys.map Za.c↔xs=ys:=Zcq (by
 intro a b h;simp at h
 simp[Za.ext_iff,Plan.ext_iff,h])
@[ext] structure Zi where
 Mask:Int
 Order:Int
 Left:Int
 Right:Int
 deriving DecidableEq
def Zi.c(x:Zi):List T:=[.int .i64 x.Mask,.int .i64 x.Order,.int .i64 x.Left,.int .i64 x.Right]
@[simp] theorem Zi.c_def(x:Zi):x.c=[.int .i64 x.Mask,.int .i64 x.Order,.int .i64 x.Left,.int .i64 x.Right]:=rfl
@[simp] theorem Zi.map_inj(xs ys:List Zi):xs.map Zi.c=ys.map Zi.c↔xs=ys:=Zcq (by
 intro a b h;simp at h
 simp[Zi.ext_iff,h])
@[simp] theorem Zi.flat(xs:List Zi):(xs.map Zi.c).all (λx=>x.all Zbh)=true:=Zk0 (λ_=>rfl) xs
@[simp] theorem Zi.flat2(xs:List Zi):xs.all ((λx=>x.all Zbh) ∘ Zi.c)=true:=Zk1 (λ_=>rfl) xs
@[ext] structure Zg where
 b:List Int
 i:Int
 h:Int
 deriving DecidableEq
def Zg.c(x:Zg):List T:=[.lst 1 (x.b.map (kc .u8)),.int .i64 x.i,.int .i64 x.h]
@[simp] theorem Zg.c_def(x:Zg):x.c=[.lst 1 (x.b.map (kc .u8)),.int .i64 x.i,.int .i64 x.h]:=rfl
@[simp] theorem Zg.map_inj(xs ys:List Zg):xs.map Zg.c=ys.map Zg.c↔xs=ys:=Zcq (by
 intro a b h;simp at h
 simp[Zg.ext_iff,h])
@[ext] structure Z8 where
 mask:Int
 Zz:List Int
 shared:List (List Int)
 deriving DecidableEq
def Z8.c(x:Z8):List T:=[.int .i64 x.mask,.lst 1 (x.Zz.map ic),.lst 1 (x.shared.map isc)]
@[simp] theorem Z8.c_def(x:Z8):x.c=[.int .i64 x.mask,.lst 1 (x.Zz.map ic),.lst 1 (x.shared.map isc)]:=rfl
@[simp] theorem Z8.map_inj(xs ys:List Z8):xs.map Z8.c=ys.map Z8.c↔xs=ys:=Zcq (by
 intro a b h;simp at h
 simp[Z8.ext_iff,h])
theorem bgS{s:ByteArray}{i:Nat}{b:UInt8}:s[i]?=some b↔∃g:i<s.size,s[i]=b:=by
 by_cases g:i<s.size
 .rw[getElem?_pos s i g];exact⟨λh=>⟨g,Option.some.inj h⟩,λ⟨_,h⟩=>congrArg some h⟩
 .rw[getElem?_neg s i g];exact⟨λh=>(by cases h),λ⟨h,_⟩=>absurd h g⟩
def Zff:List Int->List Int->Option Int
 |a::as',b::bs=>if a<b then some (-1)else if a > b then some 1 else Zff as' bs
 |_,_=>none
def Z0r(xs ys:List Int):Int:=match Zff xs ys with
 |some r=>r
 |none=>if xs.length<ys.length then -1 else if xs.length > ys.length then 1 else 0
theorem Zba0{xs ys:List Int}{r:Int}(h:Zff xs ys=some r):r≠0/\xs≠ys:=by
 induction xs generalizing ys with
 |nil=>cases ys<;>simp[Zff]at h
 |cons x xs ih =>
  cases ys with
  |nil=>simp[Zff]at h
  |cons y ys =>
   simp only[Zff]at h;split at h
   .cases h;exact⟨by omega,λhc=>by cases hc;omega⟩
   .split at h
    .cases h;exact⟨by omega,λhc=>by cases hc;omega⟩
    .have:=ih h;exact⟨this.1,λhc=>this.2 (by cases hc;rfl)⟩
theorem Zbqf{xs ys:List Int}(h:Zff xs ys=none)(hl:xs.length=ys.length):xs=ys:=by
 induction xs generalizing ys with
 |nil=>cases ys<;>simp at hl|-
 |cons x xs ih =>
  cases ys with
  |nil=>simp at hl
  |cons y ys =>
   simp only[Zff]at h;split at h
   .cases h
   .split at h
    .cases h
    .have:x=y:=by omega
     rw[this,ih h (by simpa using hl)]
theorem Zvq(xs ys:List Int):Z0r xs ys=0↔xs=ys:=by
 unfold Z0r
 cases hd:Zff xs ys with
 |some r=>simp[(Zba0 hd).1,(Zba0 hd).2]
 |none =>
  simp only;constructor
  .intro h;refine Zbqf hd ?_;split at h
   .omega
   .split at h<;>omega
  .rintro rfl;simp
def inR(a b c:Int):Bool:=decide (b<=a/\a<=c)
def Zbo(c:Int):Int:=if c<0 then -1 else if c=0 then 0 else if c=1 then 1 else if c=2 then 4 else if c=3 then 16 else if c=4 then 64 else if c=5 then 256 else if c=6 then 1024 else if c=7 then 4096 else -1
theorem cls8{c:Int}(h:inR c 0 7=true):c=0\/c=1\/c=2\/c=3\/c=4\/c=5\/c=6\/c=7:=by
 simp[inR]at h;omega
theorem Zba1{c:Int}(h:inR c 0 7=false):Zbo c=-1:=by
 simp[inR]at h;unfold Zbo;split
 .rfl
 .repeat' split
  all_goals omega
theorem Zqp{α:Type}(p:α->Bool){xs:List α}{i:Nat}(h:i<xs.length):(xs.drop i).all p=(p xs[i] && (xs.drop (i+1)).all p):=by
 rw[Yi h,Ybs]
theorem drop_any{α:Type}(p:α->Bool){xs:List α}{i:Nat}(h:i<xs.length):(xs.drop i).any p=(p xs[i] || (xs.drop (i+1)).any p):=by
 rw[Yi h,List.any_cons]
def Zch(xs:List Int):Bool:=xs.all (λx=>inR x 0 7)
def Zbc(xs:List Int):Bool:=Zch xs && decide ((xs.length:Int)<=16)
theorem Zba2{xs:List Int}{i:Nat}(h:i<xs.length):Zch (xs.drop i)=(inR xs[i] 0 7 && Zch (xs.drop (i+1))):=Zqp _ h
def Zbe:List Int->List Int->Bool
 |x::xs,y::ys=>decide (y<=x) && Zbe xs ys
 |_,_=>true
def dom(xs ys:List Int):Bool:=decide (xs.length=ys.length) && Zbe xs ys
theorem Zba3{xs ys:List Int}{i:Nat}(h:i<xs.length)(h':i<ys.length):Zbe (xs.drop i) (ys.drop i)=(decide (ys[i]<=xs[i]) && Zbe (xs.drop (i+1)) (ys.drop (i+1))):=by
 rw[Yi h,Yi h',Zbe]
def Zb2(lo hi:List Int):Bool:=decide (0<lo.length) && Zbc lo && Zbc hi && dom hi lo
def Zgs(lo hi l:List Int):Bool:=Zb2 lo hi && dom l lo && dom hi l
def bit4(a b c d:Bool):Int:=(if a then 1 else 0)+(if b then 2 else 0)+(if c then 4 else 0)+(if d then 8 else 0)
def Zbj(p:Nat->Bool):Int:=bit4 (p 0) (p 1) (p 2) (p 3)
theorem in4{v:Int}(h:inR v 0 3=true):v=0\/v=1\/v=2\/v=3:=by simp[inR]at h;omega
def has(xs:List Int)(v:Int):Bool:=xs.any (λx=>decide (v=x))
theorem Zjg{xs:List Int}{v:Int}:has xs v=true↔v∈xs:=by
 simp only[has,List.any_eq_true,decide_eq_true_eq];exact⟨λ⟨x,h,e⟩=>e▸h,λh=>⟨v,h,rfl⟩⟩
def addV(p:Nat->Bool)(vs:List Int):Nat->Bool:=λu=>p u || has vs u
theorem Z0s(p:Nat->Bool):addV p []=p:=by funext u;simp[addV,has]
theorem Zbqg(p:Nat->Bool)(v:Int)(vs:List Int):addV (addV p [v]) vs=addV p (v::vs):=by funext u;simp[addV,has,Bool.or_assoc]
theorem Z0t(p:Nat->Bool){vs:List Int}{i:Nat}(h:i<vs.length):addV p (vs.drop i)=addV (addV p [vs[i]]) (vs.drop (i+1)):=by
 rw[Yi h,Zbqg]
theorem or_d:∀a b c d:Bool,orI (bit4 a b c d) 1=bit4 true b c d/\orI (bit4 a b c d) 2=bit4 a true c d/\orI (bit4 a b c d) 4=bit4 a b true d/\orI (bit4 a b c d) 8=bit4 a b c true:=by decide
theorem Zvr(p:Nat->Bool){v:Int}(h:inR v 0 3=true):orI (Zbj p) (shlI 1 v)=Zbj (addV p [v]):=by
 have q:=or_d (p 0) (p 1) (p 2) (p 3);rcases in4 h with rfl|rfl|rfl|rfl<;>simp[addV,has,Zbj,shlI,Z7,q]
theorem and_d:∀a b c d:Bool,(andI (shrI (bit4 a b c d) 0) 1=1↔a=true)/\(andI (shrI (bit4 a b c d) 1) 1=1↔b=true)/\(andI (shrI (bit4 a b c d) 2) 1=1↔c=true)/\(andI (shrI (bit4 a b c d) 3) 1=1↔d=true):=by decide
theorem at_bit(p:Nat->Bool){v:Int}(h:inR v 0 3=true):andI (shrI (Zbj p) v) 1=1↔p v.toNat=true:=by
 have q:=and_d (p 0) (p 1) (p 2) (p 3);rcases in4 h with rfl|rfl|rfl|rfl<;>simp[Zbj,q]
theorem and4:∀a b c d a' b' c' d':Bool,andI (bit4 a b c d) (bit4 a' b' c' d')=bit4 (a && a') (b && b') (c && c') (d && d'):=by decide
theorem Zba4(p q:Nat->Bool):andI (Zbj p) (Zbj q)=Zbj (λu=>p u && q u):=and4 _ _ _ _ _ _ _ _
theorem zero4:∀a b c d:Bool,bit4 a b c d=0↔(a=false/\b=false/\c=false/\d=false):=by decide
theorem Zbqh(p:Nat->Bool):Zbj p=0↔∀u,u<4->p u=false:=by
 rw[Zbj,zero4];constructor
 .rintro⟨h0,h1,h2,h3⟩ u hu
  match u,hu with
  |0,_=>exact h0
  |1,_=>exact h1
  |2,_=>exact h2
  |3,_=>exact h3
 .intro h;exact⟨h 0 (by omega),h 1 (by omega),h 2 (by omega),h 3 (by omega)⟩
def Zb3{α:Type}(p:α->Bool):List α->Nat->Int
 |[],_=>-1
 |x::xs,i=>if p x=true then i else Zb3 p xs (i+1)
theorem Zvs{α:Type}(p:α->Bool){xs:List α}{i:Nat}(h:i<xs.length):Zb3 p (xs.drop i) i=if p xs[i]=true then(i:Int)else Zb3 p (xs.drop (i+1)) (i+1):=by
 rw[Yi h,Zb3]
theorem Zba5{α:Type}(p:α->Bool)(xs:List α):∀i,xs.any p=false->Zb3 p xs i=-1:=by
 induction xs with
 |nil=>intro i _;rfl
 |cons x xs ih=>intro i h;simp at h;simp[Zb3,h];apply ih;simp;exact h.2
theorem Zba6{α:Type}(p:α->Bool)(xs:List α):∀i,xs.any p=true->0<=Zb3 p xs i:=by
 induction xs with
 |nil=>intro i h;simp at h
 |cons x xs ih =>
  intro i h;unfold Zb3;split
  .omega
  .rename_i hx;simp only[List.any_cons,hx,Ycp]at h;exact ih _ h
abbrev tB(xs:List Bool):T:=.lst 1 (xs.map λb=>[T.bool b])
def nmOk(s:ByteArray):Bool:=match s[0]? with
 |some b=>decide (s.size=1) && decide (97<=(b.toNat:Int)) && decide ((b.toNat:Int)<=122)
 |none=>false
theorem get0{s:ByteArray}(h:s.size=1):∃b,s[0]?=some b:=⟨s[0],getElem?_pos s 0 (by omega)⟩
def Zfg(n:Int)(c:List Int):List Int->Bool
 |[]=>true
 |v::rest=>inR v 0 (n-1) && !has c v && Zfg n (c++[v]) rest
theorem Zba7(n:Int){vs:List Int}{k:Nat}(h:k<vs.length):Zfg n (vs.take k) (vs.drop k)=(inR vs[k] 0 (n-1) && !has (vs.take k) vs[k] && Zfg n (vs.take (k+1)) (vs.drop (k+1))):=by
 conv=>lhs;rw[Yi h,Zfg]
 rw[List.take_add_one,Ya h];rfl
theorem Z0u{n:Int}:∀{vs c:List Int},Zfg n c vs=true->∀v∈vs,inR v 0 (n-1)=true
 |[],_,_,v,hv=>by cases hv
 |x::xs,c,h,v,hv=>by
  simp only[Zfg,Yc]at h
  cases hv with
  |head=>exact h.1.1
  |tail _ hv=>exact Z0u h.2 v hv
def Zcr(n:Int)(a:Atom):Bool:=nmOk a.Name && inR a.Vars.length 1 3 && Zfg n [] a.Vars
def addA(p:Nat->Bool)(qa:List Atom):Nat->Bool:=λu=>p u || qa.any λa=>has a.Vars u
theorem Zba8(p:Nat->Bool){qa:List Atom}{i:Nat}(h:i<qa.length):addA p (qa.drop i)=addA (addV p qa[i].Vars) (qa.drop (i+1)):=by
 rw[Yi h];funext u;simp only[addA,List.any_cons,addV,Bool.or_assoc]
def Zn(n:Int)(qa:List Atom):Bool :=
 inR n 1 4 && inR qa.length 1 4 && qa.all (Zcr n) && (List.range n.toNat).all (addA (λ_=>false) qa)
def bl(p:Nat->Bool)(n:Nat):List (List T):=(List.range n).map λu=>[T.bool (p u)]
@[simp] theorem bl_get(p:Nat->Bool)(n i:Nat)(h:i<(bl p n).length):(bl p n)[i]=[T.bool (p i)]:=by simp[bl]
theorem bl_any(p:Nat->Bool)(n:Nat):((List.range n).map p).any (λx=>false == x)=!(List.range n).all p:=by
 rw[List.any_map,Ybo];simp
theorem Zvt:∀a b c d:Bool,(bit4 a b c d=1↔(a=true/\b=false/\c=false/\d=false))/\(bit4 a b c d=3↔(a=true/\b=true/\c=false/\d=false))/\(bit4 a b c d=7↔(a=true/\b=true/\c=true/\d=false))/\(bit4 a b c d=15↔(a=true/\b=true/\c=true/\d=true)):=by decide
theorem all_in{n:Int}{qa:List Atom}(h:qa.all (Zcr n)=true):∀u:Int,n<=u->qa.any (λa=>has a.Vars u)=false:=by
 intro u hu;rw[Ycs];intro a ha hc;rw[Zjg]at hc;have:=Ym.1 h a ha;simp only[Zcr,Yc]at this;have:=Z0u this.2 _ hc;simp[inR]at this;omega
def Zx(n:Int)(qa:List Atom):Int:=if Zn n qa=true then shlI 1 qa.length-1 else 0
theorem Zjh{n:Int}{qa:List Atom}(h:Zn n qa=true):(qa.length=1\/qa.length=2\/qa.length=3\/qa.length=4)/\shlI 1 qa.length=2 ^ qa.length/\IntKind.wrap .i64 (shlI 1 qa.length-1)=shlI 1 qa.length-1/\IntKind.wrap .i64 (shlI 1 qa.length-1+1)=shlI 1 qa.length-1+1:=by
 simp only[Zn,Yc]at h;have h2:=h.1.1.2;simp[inR]at h2;have h3:qa.length=1\/qa.length=2\/qa.length=3\/qa.length=4:=by omega
 refine⟨h3,?_⟩;rcases h3 with h3|h3|h3|h3<;>rw[h3]<;>decide
theorem Zvu(n:Int)(qa:List Atom):IntKind.wrap .i64 (Zx n qa+1)=Zx n qa+1:=by
 unfold Zx;split
 .rename_i h;exact(Zjh h).2.2.2
 .decide
def Zk2(n:Int)(qa:List Atom)(lo hi:List Int):Bool:=Zb2 lo hi && decide ((lo.length:Int)=Zx n qa+1)
def Z1(m:Int)(i:Nat):Bool:=decide (andI (shrI m i) 1=1)
def hasV(m:Int):List Atom->Nat->Int->Bool
 |[],_,_=>false
 |a::as',i,u=>(Z1 m i && has a.Vars u) || hasV m as' (i+1) u
theorem Z0v(m:Int){qa:List Atom}{i:Nat}(h:i<qa.length)(u:Int):hasV m (qa.drop i) i u=((Z1 m i && has qa[i].Vars u) || hasV m (qa.drop (i+1)) (i+1) u):=by
 rw[Yi h,hasV]
def pV(m:Int)(qa:List Atom):Nat->Bool:=λu=>hasV m qa 0 u
def Var4(qa:List Atom):Prop:=∀a∈qa,∀v∈a.Vars,inR v 0 3=true
theorem Zvv{n:Int}{qa:List Atom}(h:Zn n qa=true):∀a∈qa,∀v∈a.Vars,inR v 0 (n-1)=true:=by
 intro a ha v hv;simp only[Zn,Yc]at h;have:=Ym.1 h.1.2 a ha;simp only[Zcr,Yc]at this;exact Z0u this.2 v hv
theorem Zf1{n:Int}{qa:List Atom}(h:Zn n qa=true):1<=n/\n<=4:=by
 simp only[Zn,Yc]at h;have:=h.1.1.1;simpa[inR]using this
theorem Zcs{n:Int}{qa:List Atom}(h:Zn n qa=true):1<=qa.length/\qa.length<=4:=by
 simp only[Zn,Yc]at h;have:=h.1.1.2;simp[inR]at this;omega
theorem Zk3{n:Int}{qa:List Atom}(h:Zn n qa=true):∀a∈qa,1<=a.Vars.length/\a.Vars.length<=3:=by
 intro a ha;simp only[Zn,Yc]at h;have:=Ym.1 h.1.2 a ha;simp only[Zcr,Yc]at this;have:=this.1.2;simp[inR]at this;omega
theorem Zk4{n:Int}{qa:List Atom}(h:Zn n qa=true):Var4 qa:=by
 intro a ha v hv;have:=Zvv h a ha v hv;have h2:=Zf1 h;simp[inR]at this|-;omega
def addM(m:Int)(p:Nat->Bool)(qa:List Atom)(i:Nat):Nat->Bool:=λu=>p u || hasV m (qa.drop i) i u
theorem Zbqi(m:Int)(p:Nat->Bool){qa:List Atom}{i:Nat}(h:i<qa.length):addM m p qa i=addM m (if Z1 m i=true then addV p qa[i].Vars else p) qa (i+1):=by
 funext u;rw[addM,Z0v _ h];rcases tf (Z1 m i)with e|e<;>simp[addM,addV,e,Bool.or_assoc]
def varL(m:Int)(qa:List Atom)(k:Nat):List Int:=((List.range k).filter (pV m qa)).map λu:Nat=>(u:Int)
theorem Zbqj(m:Int)(qa:List Atom)(k:Nat):varL m qa (k+1)=varL m qa k++if hasV m qa 0 k=true then[(k:Int)]else[]:=by
 unfold varL;rw[Yc0,Ydd,Ycf];rcases tf (hasV m qa 0 k)with e|e<;>simp[pV,e]
theorem Zm6(m:Int)(qa:List Atom)(k:Nat):(varL m qa k).length<=k:=by
 unfold varL;simp;exact Y0 (Ybr _ _) (by simp)
theorem Z0w{α:Type}(p:α->Bool){xs:List α}{i:Nat}(h:i<xs.length):(xs.take (i+1)).filter p=(xs.take i).filter p++if p xs[i]=true then[xs[i]]else[]:=by
 rw[List.take_add_one,Ya h,Ydd];rcases tf (p xs[i])with e|e<;>simp[e]
def vin(qa:List Atom)(m v:Int):Bool:=inR v 0 3 && pV m qa v.toNat
def shr(qa:List Atom)(a b:Int):Bool:=(List.range 4).any λu=>pV a qa u && pV b qa u
def Zca(st:List Int)(info:List Zi)(k:Nat):Option (Int×Zi):=if k<=st.length then(match st[st.length-k]? with
 |some s=>(info[s.toNat]?).map (s,·)
 |none=>none)else none
def Zc5(qa:List Atom)(x:Zb)(y z:Zi):Option Int :=
 if x.Kind=3/\x.Order=0 then some (-1)
 else if x.Kind=5/\x.Order=0 then some y.Order
 else if x.Kind=4/\vin qa y.Mask x.Order=true/\vin qa z.Mask x.Order=true/\y.Order=x.Order/\z.Order=x.Order then some x.Order
 else none
def Zdv(qa:List Atom)(x:Zb)(info:List Zi)(st:List Int):Option Zi :=
 if x.Kind=1 then(if inR x.Atom 0 (qa.length-1)=true/\x.Order=0 then some ⟨shlI 1 x.Atom,(match qa[x.Atom.toNat]? with|some a=>a.Vars.headD 0|none=>0),-1,-1⟩else none)
 else if x.Atom≠0 then none
 else if x.Kind=2 then(match Zca st info 1 with
  |some (s,y)=>if vin qa y.Mask x.Order=true/\y.Order≠x.Order then some ⟨y.Mask,x.Order,s,-1⟩else none
  |none=>none)
 else match Zca st info 2,Zca st info 1 with
  |some (s,y),some (t,z)=>if andI y.Mask z.Mask=0/\shr qa y.Mask z.Mask=true then(Zc5 qa x y z).map (⟨orI y.Mask z.Mask,·,s,t⟩)else none
  |_,_=>none
def StOk(info:List Zi)(st:List Int):Prop:=∀s∈st,0<=s/\s.toNat<info.length
theorem Zk5{info:List Zi}{st:List Int}(h:StOk info st){k:Nat}(h1:1<=k)(h2:k<=st.length) :
  ∃s y,Zca st info k=some (s,y)/\st[st.length-k]?=some s/\0<=s/\info[s.toNat]?=some y:=by
 have hlt:st.length-k<st.length:=by omega
 obtain⟨h3,h4⟩:=h _ (Yf hlt);refine⟨st[st.length-k],info[(st[st.length-k]).toNat],?_,Ya hlt,h3,Ya h4⟩;simp[Zca,h2,Ya hlt,Ya h4]
theorem pV_lt{n:Int}{qa:List Atom}(h:Zn n qa=true){m:Int}{u:Nat}(hp:pV m qa u=true):(u:Int)<n:=by
 have:∀(l:List Atom) (i:Nat),(∀a∈l,a∈qa)->hasV m l i u=true->(u:Int)<n:=by
  intro l
  induction l with
  |nil=>intro i _ hh;simp[hasV]at hh
  |cons a l ih =>
   intro i hs hh;simp only[hasV,Ycy,Yc]at hh;rcases hh with hh|hh
   .have:=Zvv h a (hs a (by simp)) u (Zjg.1 hh.2);simp[inR]at this;omega
   .exact ih (i+1) (λb hb=>hs b (by simp[hb])) hh
 exact this qa 0 (λa ha=>ha) hp
theorem Zqq{n:Int}{qa:List Atom}(h:Zn n qa=true)(m v:Int):has (varL m qa n.toNat) v=vin qa m v:=by
 have hn:=Zf1 h;rw[Ybo,Zjg];simp only[varL,Y3,Y4,Ybp,vin,Yc];constructor
 .rintro⟨u,⟨h1,h2⟩,rfl⟩;refine⟨by simp[inR];omega,by simpa using h2⟩
 .rintro⟨h1,h2⟩;have h3:=pV_lt h h2;simp[inR]at h1;exact⟨v.toNat,⟨by omega,h2⟩,by omega⟩
theorem Zbqk{n:Int}{qa:List Atom}(h:Zn n qa=true)(a b:Int):((varL a qa n.toNat).filter (has (varL b qa n.toNat))).length=0↔shr qa a b=false:=by
 have hn:=Zf1 h;rw[Yca,Ycz,shr,Ycs];simp only[Zqq h];constructor
 .intro hh u hu;simp only[Ybp]at hu;simp only[Yc,not_and];intro h1 h2;have h3:=pV_lt h h1;refine hh (u:Int) ?_ ?_
  .simp only[varL,Y3,Y4,Ybp];exact⟨u,⟨by omega,h1⟩,rfl⟩
  .simp only[vin,Yc];exact⟨by simp[inR];omega,by simpa using h2⟩
 .intro hh v hv;simp only[varL,Y3,Y4,Ybp]at hv;obtain⟨u,⟨h1,h2⟩,rfl⟩:=hv;have:=hh u (by simp only[Ybp];omega);simp only[Yc,not_and]at this;simp only[vin,Yc,not_and];intro _;simpa using this h2
theorem Zbql{n:Int}{qa:List Atom}(h:Zn n qa=true)(a b v:Int):has ((varL a qa n.toNat).filter (has (varL b qa n.toNat))) v=(vin qa a v && vin qa b v):=by
 rw[Ybo,Zjg,Y4,<-Zjg,Zqq h,Zqq h,Yc]
theorem Z0x(qa:List Atom)(a b:Int):andI (Zbj (pV a qa)) (Zbj (pV b qa))=0↔shr qa a b=false:=by
 rw[Zba4,Zbqh,shr,Ycs];simp
def popsI(x:Zb):Int:=if x.Kind=1 then 0 else if x.Kind=2 then 1 else 2
theorem hd0{xs:List Int}(h:0<xs.length):xs.head?.getD 0=xs[0]:=by cases xs with|nil=>simp at h|cons x xs=>rfl
def pops(y:Zi):Nat:=if 0<=y.Right then 2 else if 0<=y.Left then 1 else 0
def Zci(qa:List Atom):List Zb->Nat->List Zi->List Int->Option (List Zi×List Int)
 |[],_,info,st=>some (info,st)
 |x::xs,i,info,st=>match Zdv qa x info st with
  |none=>none
  |some y=>Zci qa xs (i+1) (info++[y]) (st.take (st.length-pops y)++[(i:Int)])
theorem Zba9(qa:List Atom){xs:List Zb}{i:Nat}(h:i<xs.length)(info:List Zi)(st:List Int):Zci qa (xs.drop i) i info st=match Zdv qa xs[i] info st with
  |none=>none
  |some y=>Zci qa (xs.drop (i+1)) (i+1) (info++[y]) (st.take (st.length-pops y)++[(i:Int)]):=by
 rw[Yi h,Zci]
def Zcb(n:Int)(qa:List Atom)(steps:List Zb):Option (List Zi) :=
 if Zn n qa=true/\inR steps.length 1 14=true then(match Zci qa steps 0 [] []with
  |some (info,st)=>if st.length=1 then some info else none
  |none=>none)else none
theorem Zia{st:List Int}{info:List Zi}{k:Nat}{s:Int}{y:Zi}(hs:StOk info st)(h1:1<=k)(h:Zca st info k=some (s,y)):k<=st.length/\0<=s/\s.toNat<info.length/\info[s.toNat]?=some y:=by
 have hk:k<=st.length:=by
  unfold Zca at h;split at h
  .assumption
  .cases h
 obtain⟨s',y',q1,q2,q3,q4⟩:=Zk5 hs h1 hk;rw[q1]at h;cases h;exact⟨hk,q3,(Yn.1 q4).1,q4⟩
theorem Z0y{qa:List Atom}{x:Zb}{info:List Zi}{st:List Int}{y:Zi}(hs:StOk info st)(h:Zdv qa x info st=some y) :
  popsI x=pops y/\pops y<=st.length/\(0<=y.Right↔3<=x.Kind):=by
 unfold Zdv at h;unfold popsI pops;split at h
 .rename_i k1;split at h
  .cases h;simp[k1]
  .cases h
 .rename_i k1;split at h
  .cases h
  .split at h
   .rename_i k2;split at h
    .rename_i s y' ht;split at h
     .cases h;obtain⟨t1,t2,_⟩:=Zia hs (Ye 1) ht;simp[k2,t2,t1]
     .cases h
    .cases h
   .rename_i k2;split at h
    .rename_i s y' t z ht hu;split at h
     .obtain⟨t1,t2,_⟩:=Zia hs (by omega:1<=2) ht;obtain⟨u1,u2,_⟩:=Zia hs (by omega:1<=1) hu;obtain⟨o,ho,rfl⟩:=Yl.1 h;have hk:x.Kind=3\/x.Kind=4\/x.Kind=5:=by
       unfold Zc5 at ho;split at ho
       .omega
       .split at ho
        .omega
        .split at ho
         .omega
         .cases ho
      simp only[u2,if_true,k1,k2,if_false];refine⟨rfl,t1,?_⟩;simp;omega
     .cases h
    .cases h
theorem Zqr{info:List Zi}{st:List Int}(hs:StOk info st)(y:Zi)(k:Nat):StOk (info++[y]) (st.take k++[(info.length:Int)]):=by
 intro s h;rcases Yh.1 h with h|h
 .obtain⟨h1,h2⟩:=hs s (Yt h);exact⟨h1,by simp;omega⟩
 .simp at h;subst h;simp
theorem st_len{st:List Int}{i k:Nat}(h:st.length<=i)(x:Int):(st.take k++[x]).length<=i+1:=by simp;omega
theorem Zbba{qa:List Atom}:∀{xs:List Zb} {i:Nat} {info:List Zi} {st:List Int} {c:List Zi} {cc:List Int},Zci qa xs i info st=some (c,cc)->c.length=info.length+xs.length
 |[],_,_,_,_,_,h=>by simp[Zci]at h;simp[h.1]
 |x::xs,i,info,st,c,cc,h=>by
  rw[Zci]at h;split at h
  .cases h
  .have:=Zbba h;simp at this|-;omega
theorem Zji{n:Int}{qa:List Atom}{steps:List Zb}{info:List Zi}(h:Zcb n qa steps=some info):Zn n qa=true/\info.length=steps.length/\1<=steps.length/\steps.length<=14:=by
 unfold Zcb at h;split at h
 .rename_i hc;have h2:=hc.2;simp[inR]at h2;split at h
  .rename_i info' st hg;split at h
   .cases h;have:=Zbba hg;simp at this;exact⟨hc.1,this,by omega,by omega⟩
   .cases h
  .cases h
 .cases h
def Zjj(n:Int)(qa:List Atom)(steps:List Zb):Int:=match Zcb n qa steps with
 |some info=>match info[info.length-1]? with
  |some y=>y.Mask
  |none=>0
 |none=>0
def Zib(n:Int)(qa:List Atom)(steps:List Zb)(lo hi:List Int)(pc:Int):Bool :=
 Zn n qa && Zk2 n qa lo hi && decide (Zjj n qa steps=Zx n qa) && inR pc 100 1000
theorem Zvw{n:Int}{qa:List Atom}(h:Zn n qa=true):0<Zx n qa:=by
 obtain⟨h1,h2,_⟩:=Zjh h;unfold Zx;rw[if_pos h,h2];rcases h1 with h1|h1|h1|h1<;>rw[h1]<;>decide
theorem or16:∀a b:Fin 16,orI (a.1:Int) (b.1:Int)=((a.1 ||| b.1:Nat):Int):=by decide
theorem or_lt{k:Nat}(hk:k<=4){a b:Int}(ha:0<=a/\a<2 ^ k)(hb:0<=b/\b<2 ^ k):0<=orI a b/\orI a b<2 ^ k:=by
 have h16:(2:Int) ^ k<=16:=by
  have:k=0\/k=1\/k=2\/k=3\/k=4:=by omega
  rcases this with rfl|rfl|rfl|rfl|rfl<;>decide
 have e1:a=(a.toNat:Int):=by omega
 have e2:b=(b.toNat:Int):=by omega
 have l1:a.toNat<16:=by omega
 have l2:b.toNat<16:=by omega
 have e:=or16 ⟨a.toNat,l1⟩ ⟨b.toNat,l2⟩;simp only at e;rw[e1,e2,e];have c:((2 ^ k:Nat):Int)=2 ^ k:=by simp
 have m1:a.toNat<2 ^ k:=by omega
 have m2:b.toNat<2 ^ k:=by omega
 have:=Nat.or_lt_two_pow m1 m2;omega
theorem shl_lt{k:Nat}(hk:k<=4){v:Int}(h0:0<=v)(h1:v<k):0<=shlI 1 v/\shlI 1 v<2 ^ k:=by
 have h2:v=0\/v=1\/v=2\/v=3:=by omega
 have h3:k=0\/k=1\/k=2\/k=3\/k=4:=by omega
 rcases h2 with rfl|rfl|rfl|rfl<;>rcases h3 with rfl|rfl|rfl|rfl|rfl<;>first|omega|decide
def Zk6(k:Nat)(y:Zi):Prop:=0<=y.Mask/\y.Mask<2 ^ k
theorem Zbqm{qa:List Atom}(hk:qa.length<=4){x:Zb}{info:List Zi}{st:List Int}{y:Zi}(hs:StOk info st)(hm:∀y∈info,Zk6 qa.length y)(h:Zdv qa x info st=some y):Zk6 qa.length y:=by
 unfold Zdv at h;split at h
 .split at h
  .rename_i hc;cases h;have:=hc.1;simp[inR]at this;exact shl_lt hk this.1 (by omega)
  .cases h
 .split at h
  .cases h
  .split at h
   .split at h
    .rename_i s y' ht;split at h
     .cases h;obtain⟨_,_,t3,t4⟩:=Zia hs (Ye 1) ht;exact hm y' (Yu t4)
     .cases h
    .cases h
   .split at h
    .rename_i s y' t z ht hu;split at h
     .obtain⟨_,_,_,t4⟩:=Zia hs (by omega:1<=2) ht;obtain⟨_,_,_,u4⟩:=Zia hs (by omega:1<=1) hu;obtain⟨o,ho,rfl⟩:=Yl.1 h;exact or_lt hk (hm y' (Yu t4)) (hm z (Yu u4))
     .cases h
    .cases h
theorem Zbbb{qa:List Atom}(hk:qa.length<=4):∀{xs:List Zb} {i:Nat} {info:List Zi} {st:List Int} {c:List Zi} {cc:List Int},Zci qa xs i info st=some (c,cc)->
  StOk info st->info.length=i->(∀y∈info,Zk6 qa.length y)->(∀y∈c,Zk6 qa.length y)/\∃tail,c=info++tail/\tail.length=xs.length/\∀(j:Nat) (y:Zi) (x:Zb),tail[j]?=some y->xs[j]?=some x->(0<=y.Right↔3<=x.Kind)
 |[],i,info,st,c,cc,h,hs,hi,hm=>by
  simp[Zci]at h;obtain⟨rfl,rfl⟩:=h
  exact⟨hm,[],by simp,rfl,by intro j y x hj;simp at hj⟩
 |x::xs,i,info,st,c,cc,h,hs,hi,hm=>by
  rw[Zci]at h;split at h
  .cases h
  .rename_i y hy;have hn:=Zqr hs y (st.length-pops y);rw[hi]at hn;have hm2:∀z∈info++[y],Zk6 qa.length z:=by
    intro z hz;rcases Yh.1 hz with hz|hz
    .exact hm z hz
    .simp at hz;subst hz;exact Zbqm hk hs hm hy
   obtain⟨g1,tail,g2,g3,g4⟩:=Zbbb hk h hn (by simp[hi]) hm2;refine⟨g1,y::tail,by simp[g2],by simp[g3],?_⟩;intro j y' x' hj hx
   cases j with
   |zero=>simp at hj hx;subst hj;subst hx;exact(Z0y hs hy).2.2
   |succ j=>exact g4 j y' x' (by simpa using hj) (by simpa using hx)
theorem Zbbc{n:Int}{qa:List Atom}{steps:List Zb}{info:List Zi}(h:Zcb n qa steps=some info) :
  (∀y∈info,Zk6 qa.length y)/\∀(j:Nat) (y:Zi) (x:Zb),info[j]?=some y->steps[j]?=some x->(0<=y.Right↔3<=x.Kind):=by
 have hq:=(Zji h).1;unfold Zcb at h;split at h
 .split at h
  .rename_i info' st hg;split at h
   .cases h;obtain⟨g1,tail,g2,g3,g4⟩:=Zbbb (Zcs hq).2 hg (λs hs=>by cases hs) rfl (λy hy=>by cases hy);simp at g2;subst g2;exact⟨g1,g4⟩
   .cases h
  .cases h
 .cases h
theorem dom_len{a b:List Int}(h:dom a b=true):a.length=b.length:=by
 simp only[dom,Yc,decide_eq_true_eq]at h;exact h.1
def vol:List Int->List Int->Int
 |l::ls,h::hs=>(h-l+1)*vol ls hs
 |_,_=>1
def capV(v:Int):Int:=if 401<v then 401 else v
theorem Z0z:∀{xs ys:List Int} (h:Zbe xs ys=true) (i:Nat) (h1:i<xs.length) (h2:i<ys.length),ys[i]<=xs[i]
 |x::xs,y::ys,h,0,_,_=>by simp only[Zbe,Yc,decide_eq_true_eq]at h;exact h.1
 |x::xs,y::ys,h,i+1,h1,h2=>by
  simp only[Zbe,Yc,decide_eq_true_eq]at h;exact Z0z h.2 i (by simpa using h1) (by simpa using h2)
theorem box_get{lo hi:List Int}(h:Zb2 lo hi=true):hi.length=lo.length/\1<=lo.length/\lo.length<=16/\∀(i:Nat) (h1:i<lo.length) (h2:i<hi.length),0<=lo[i]/\lo[i]<=hi[i]/\hi[i]<=7:=by
 simp only[Zb2,Yc,decide_eq_true_eq,Zbc,Zch,Ym]at h;have hl:=dom_len h.2;refine⟨hl,by omega,by omega,λi h1 h2=>?_⟩;have a:=h.1.1.2.1 _ (Yf h1);have b:=h.1.2.1 _ (Yf h2);have hd:=h.2;simp only[dom,Yc]at hd;have c:=Z0z hd.2 i h2 h1;simp[inR]at a b;omega
def boxVol(lo hi:List Int):Int:=if Zb2 lo hi=true then capV (vol lo hi)else 0
def Zeo(v:Int):List T->Bool
 |[_,_,_,_,_,_,.int .i64 x,_]=>x == v
 |_=>true
def entB:List T->Bool
 |[_,_,_,_,_,_,.int .i64 _,_]=>true
 |_=>false
def ext:Zy:=λf xs h0=>match xs,h0 with
 |[.own 0,.t (.int .i64 i),.t (.int .i64 j)],[.arr 63 8 fr es]=>if f=106/\0<=i/\i<j/\j<=(es.length:Int)then some (.own 1,[.dead,.arr 63 8 fr (es.take i.toNat++es.drop j.toNat)])else none
 |[.own 0,.fn 114 [.ptr 1 0]],[.arr 63 8 fr es,.box [.t (.int .i64 v)]]=>if f=113/\es.all entB=true then some (.own 2,[.dead,.box [.t (.int .i64 v)],.arr 63 8 fr (es.filter (Zeo v))])else none
 |[.t .nil,.fn 114 [.ptr 0 0]],[.box [.t (.int .i64 v)]]=>if f=113 then some (.t .nil,[.box [.t (.int .i64 v)]])else none
 |_,_=>none
open Go.ChangeShapes Go.WideShapes Go.ChangeAt Go.RowKit
theorem own:ownKnob Tryz.prog.godebug=none:=by kernel_rfl
theorem laidOut:laidOutB Tryz.prog=true:=by kernel_rfl
noncomputable def tbl:Nat->Option MFun:=tblOf Tryz.prog [20000054,9000004,9000005,9000006,9000008,10000008,9000016,10000016,2000017,6000018,9000022,10000022,2000023,6000023,6000024,9000032,10000032,2000033,6000033,6000034,34,9000038,10000038,2000039,6000039,9000040,10000040,2000041,2000045,9000050,10000050,2000052,10000056,9000062,10000062,62,2000076,1000082,9000084,10000084,84,10000085,85,86,9000092,10000092,104,9000105,11000105,10000105,105,106,6000109,112,113,9000115,10000115,116,9000117,10000117,117,1000128,6000160,160,162,10000166,6000184,1000185,10000187,187,9000188,10000188,188,10000189,189,10000190,190,6000191,6000193,201,9000202,11000202,10000202,202,206,10000207,207,10000208,208,9000209,10000209,209,210,240,261,1000263,6000264,6000265,265,9000266,10000266,266,6000267,270,6000271,271,6000272,272,10000273,273,6000274,274,7000275,276,7000277,278,281,1000282,290,292,296,297,317,325,327,328,1000331,1000340,342,1000348,351,362,363,382,389]
noncomputable def C:Zy:=Zb8 ext tbl
theorem run{f:Nat}{xs:List AV}{m:MFun}(ht:tbl f=some m)(hl:xs.length=m.np){r:AV×List Blk}(h:Ev C [.fin 0 m.res] m.body ⟨Zgr xs 0,[[]],[]⟩=some r):C f xs []=some r:=Zbag (h0:=[]) ht hl h
theorem runM{f:Nat}{xs:List AV}{h0:List Blk}{m:MFun}(ht:tbl f=some m)(hl:xs.length=m.np){r:AV×List Blk}(h:Ev C [.fin h0.length m.res] m.body ⟨Zgr xs 0,[Zfw h0 0],h0⟩=some r):C f xs h0=some r:=Zbag ht hl h
abbrev Zbqn:Nat:=4
abbrev Z4:Nat:=3
abbrev t_bool:Nat:=4
abbrev Z00:Nat:=9
abbrev Zbbd:Nat:=35
abbrev Zbqo:Nat:=126
abbrev Zqs:Nat:=162
abbrev Zk7:Nat:=178
abbrev Zbbe:Nat:=213
end Go.Proofs.YtcfaekfjkeobhaaGreat
