/-
  Parts of the proofs for this seat: AMSx AMCbv AMDel.
-/
import Derived.Test.YthdihnbeifcppaaGreatP4
set_option linter.all false
namespace Go.AM
abbrev Rs:=V1
abbrev w(n:Int):Int:=IntKind.wrap .i64 n
def kc(k:IntKind)(n:Int):UD:=[.int k n]
def bc(b:Bool):UD:=[.bool b]
def lc{α:Type}(sz:Nat)(c:α->UD)(xs:List α):UD:=[.lst sz (xs.map c)]
@[simp] def kc_def(k:IntKind)(n:Int):kc k n=[.int k n]:=rfl
@[simp] def bc_def(b:Bool):bc b=[.bool b]:=rfl
@[simp] def lc_def{α:Type}(sz:Nat)(c:α->UD)(xs:List α):lc sz c xs=[.lst sz (xs.map c)]:=rfl
@[simp] def gt_nil(n:Nat):gt [] n=.dead:=by simp[gt]
def Ev_eq{C:ZG}{ks:List Fr}{s:S}{B c:MCode}(hB:B=c):Ev C ks B s=Ev C ks c s:=by rw[hB]
def Wd{α:Type}{xs:List α}{i:Nat}{x:α}(h:xs[i]?=some x):i<xs.length:=(Y2.1 h).1
def Wm{α:Type}{xs:List α}{i:Nat}{x:α}(h:xs[i]?=some x):xs[i]'(Wd h)=x:=(Y2.1 h).2
def Vw{n b:Nat}(h:n<=68719476736)(hb:b<=2048):n*b<=room:=Y1 (Ydj h hb) (by decide)
def Vx{n:Nat}(h:n<=68719476736):n<=room:=Y1 h (by decide)
def itb{b:Bool}{A B:Prop}:(if b=true then A else B)=((b=true/\A)\/(b=false/\B)):=by cases b<;>simp
def itf{c:Prop}[Decidable c]{A B:Prop}:(if c then A else B)=(((c=True)/\A)\/((c=False)/\B)):=by by_cases h:c<;>simp[h]
def kA{n:Nat}:(0<(n:Int))=(0<n):=propext Int.natCast_pos
def kB{a b:Nat}:((a:Int)<(b:Int))=(a<b):=propext Int.ofNat_lt
def kC{a b:Nat}:((a:Int)<=(b:Int))=(a<=b):=propext Int.ofNat_le
def kD{a b:Nat}:((a:Int)=(b:Int))=(a=b):=propext Int.natCast_inj
def kE{n:Nat}:((n:Int)=0)=(n=0):=propext Int.natCast_eq_zero
def kF{α:Type}{l:List α}:(l.length=0)=(l=[]):=propext Ycn
def gS{α:Type}{l:List α}{i:Nat}{a:α}:l[i]?=some a↔∃h:i<l.length,l[i]=a:=Y2
def kk:(∀n:Nat,(0<(n:Int))=(0<n))/\(∀a b:Nat,((a:Int)<(b:Int))=(a<b))/\(∀a b:Nat,((a:Int)<=(b:Int))=(a<=b))/\(∀a b:Nat,((a:Int)=(b:Int))=(a=b))/\(∀n:Nat,((n:Int)=0)=(n=0))/\∀(α:Type) (l:List α),(l.length=0)=(l=[]) :=
 ⟨λ_=>kA,λ_ _=>kB,λ_ _=>kC,λ_ _=>kD,λ_=>kE,λ_ _=>kF⟩
def mpl{α β:Type}(f:α->β):([].map f=[])/\(∀a l,(a::l).map f=f a::l.map f)/\(∀(l:List α) n,(l.take n).map f=(l.map f).take n)/\(∀(l:List α) n,(l.drop n).map f=(l.map f).drop n)/\(∀l k:List α,(l++k).map f=l.map f++k.map f)/\(∀(l:List α) n a,(l.set n a).map f=(l.map f).set n (f a))/\(∀n a,(List.replicate n a).map f=List.replicate n (f a)) :=
 ⟨rfl,λ_ _=>rfl,λ_ _=>List.map_take,λ_ _=>List.map_drop,λ_ _=>Ybi,λ_ _ _=>List.map_set,λ_ _=>Ydk⟩
def dfs:(∀n,ic n=[.int .i64 n])/\(∀l,isc l=[.lst 1 (l.map ic)])/\(∀s,sc s=[.str s])/\(∀b,bc b=[.bool b])/\(∀k n,kc k n=[.int k n])/\(∀(α:Type) (sz:Nat) (c:α->UD) (xs:List α),lc sz c xs=[.lst sz (xs.map c)]) :=
 ⟨λ_=>rfl,λ_=>rfl,λ_=>rfl,λ_=>rfl,λ_ _=>rfl,λ_ _ _ _=>rfl⟩
@[simp] def MO.o(d:Nat)(k:MOp):MO:=⟨some d,none,k⟩
@[simp] def MO.m(d x:Nat):MO:=⟨some d,none,.mov (.s x)⟩
@[simp] def MO.g(d g:Nat)(k:MOp):MO:=⟨some d,some (g,true),k⟩
@[simp] def MO.h(d g:Nat)(k:MOp):MO:=⟨some d,some (g,false),k⟩
@[simp] def MO.n(k:MOp):MO:=⟨none,none,k⟩
@[simp] def Opd.k(n:Int):Opd:=.c (.t (.int .i64 n))
@[simp] def T.z:T:=.int .i64 0
@[simp] def AV.z:AV:=.t (.int .i64 0)
@[simp] def Opd.q(b:Bool):Opd:=.c (.t (.bool b))
@[simp] def MOp.l(s:Nat):MOp:=.load none (.s s)
@[simp] def MOp.ln(n s:Nat):MOp:=.load (some n) (.s s)
@[simp] def MOp.fa(k s:Nat):MOp:=.faddr k (.s s)
@[simp] def MOp.ia(k s t:Nat):MOp:=.iaddr k (.s s) (.s t)
@[simp] def MOp.b(p:BinOp)(s t:Nat):MOp:=.bin p (.s s) (.s t)
@[simp] def MOp.bk(p:BinOp)(s:Nat)(n:Int):MOp:=.bin p (.s s) (.k n)
@[simp] def MOp.ll(s:Nat):MOp:=.len false (.s s)
@[simp] def MOp.cl(f:Nat)(xs:UB):MOp:=.call f (xs.map .s)
@[simp] def MOp.xl(f:Nat)(xs:UB):MOp:=.xcall f (xs.map .s)
@[simp] def MOp.st(k s t:Nat):MOp:=.store k (.s s) (.s t)
@[simp] def MOp.bx(s:Nat):MOp:=.box (.s s)
@[simp] def MOp.mk(n:Int):MOp:=.mov (.k n)
@[simp] def MO.l(d s:Nat):MO:=.o d (.l s)
@[simp] def MO.ln(d n s:Nat):MO:=.o d (.ln n s)
@[simp] def MO.fa(d k s:Nat):MO:=.o d (.fa k s)
@[simp] def MO.ia(d k s t:Nat):MO:=.o d (.ia k s t)
@[simp] def MO.b(d:Nat)(p:BinOp)(s t:Nat):MO:=.o d (.b p s t)
@[simp] def MO.bk(d:Nat)(p:BinOp)(s:Nat)(n:Int):MO:=.o d (.bk p s n)
@[simp] def MO.ll(d s:Nat):MO:=.o d (.ll s)
@[simp] def MO.cl(d f:Nat)(xs:UB):MO:=.o d (.cl f xs)
@[simp] def MO.xl(d f:Nat)(xs:UB):MO:=.o d (.xl f xs)
@[simp] def MO.bx(d s:Nat):MO:=.o d (.bx s)
@[simp] def MO.mk'(d:Nat)(n:Int):MO:=.o d (.mk n)
@[simp] def MO.st(k s t:Nat):MO:=.n (.st k s t)
@[simp] def MCode.r(a:List MO)(k:UB)(c:MCode):MCode:=.seq (.reg a k) c
@[simp] def MCode.we(a:List MO)(k:UB)(s x:Nat)(c:MCode):MCode:=.seq (.r a k (.cond (.s s) .skip (.exit x))) c
@[simp] def MCode.wc(a:List MO)(k:UB)(s:Nat)(b c:MCode):MCode:=.seq (.r a k (.cond (.s s) b .skip)) c
@[simp] def MOp.nt(s:Nat):MOp:=.un .not (.s s)
@[simp] def MOp.m(s:Nat):MOp:=.mov (.s s)
@[simp] def MOp.mn:MOp:=.mov (.c (.t .nil))
@[simp] def MOp.mq(b:Bool):MOp:=.mov (.q b)
@[simp] def MOp.an(s t:Nat):MOp:=.pick (.s s) (.s t) (.q false)
@[simp] def MOp.or(s t:Nat):MOp:=.pick (.s s) (.q true) (.s t)
@[simp] def MOp.al(l:UD):MOp:=.alloc (l.map .t)
@[simp] def MOp.b1(e s:Nat):MOp:=.bslice e 1 1 [.z] [(0,.s s)]
@[simp] def MOp.ap(e n b s t:Nat):MOp:=.append e n b true (.s s) (.s t)
@[simp] def MO.nt(d s:Nat):MO:=.o d (.nt s)
@[simp] def MO.mn(d:Nat):MO:=.o d .mn
@[simp] def MO.mq(d:Nat)(b:Bool):MO:=.o d (.mq b)
@[simp] def MO.an(d s t:Nat):MO:=.o d (.an s t)
@[simp] def MO.or(d s t:Nat):MO:=.o d (.or s t)
@[simp] def MCode.rq(d:Nat)(b:Bool):MCode:=.r [.mq d b] [d] .ret
@[simp] def MCode.rk(d:Nat)(n:Int):MCode:=.r [.mk' d n] [d] .ret
@[simp] def MCode.rm(t s d:Nat):MCode:=.r [.m t s,.m d t] [d] .ret
@[simp] def MCode.id(t i:Nat)(k:UB):MCode:=.reg [.bk t .add i 1,.m i t] k
@[simp] def MCode.ic(a i t:Nat)(k:UB):MCode:=.reg [.m a i,.bk t .add a 1,.m i t] k
@[simp] def MCode.fq(k:UB)(t i l x:Nat)(b c:MCode):MCode:=.r [.b t .lss i l] (k++[t]) (.seq (.cond (.s t) .skip (.exit x)) (.seq (.block (x+1) b) c))
@[simp] def MCode.fr(k:UB)(t i l u x:Nat)(b:MCode):MCode:=.fq k t i l x b (.id u i k)
@[simp] def MCode.lo(a:List MO)(k:UB)(n:Nat)(b:MCode):MCode:=.r a k (.block n (.loop k b))
@[simp] def roomA'{n b:Nat}(h:n<=68719476736)(hb:b<=2048):n*b<=room:=Y1 (Ydj h hb) (by decide)
@[simp] def roomB'{n:Nat}(h:n<=68719476736):n<=room:=Y1 h (by decide)
def JV{α:Type}{c:α->UD}(h:∀x,(c x).all Xe=true)(xs:List α):(xs.map c).all (λx=>x.all Xe)=true:=by
 grind
@[simp] def flat_ic(xs:V6):(xs.map ic).all (λx=>x.all Xe)=true:=JV (λ_=>rfl) xs
@[simp] def flat_sc(xs:List UP):(xs.map sc).all (λx=>x.all Xe)=true:=JV (λ_=>rfl) xs
@[simp] def flat_bc(xs:List Bool):(xs.map bc).all (λx=>x.all Xe)=true:=JV (λ_=>rfl) xs
@[simp] def flat_kc(k:IntKind)(xs:V6):(xs.map (kc k)).all (λx=>x.all Xe)=true:=JV (λ_=>rfl) xs
def JW{α:Type}{c:α->UD}(h:∀x,(c x).all Xe=true)(xs:List α):xs.all ((λx=>x.all Xe) ∘ c)=true:=by
 grind
@[simp] def flat_ic'(xs:V6):xs.all ((λx=>x.all Xe) ∘ ic)=true:=JW (λ_=>rfl) xs
@[simp] def flat_sc'(xs:List UP):xs.all ((λx=>x.all Xe) ∘ sc)=true:=JW (λ_=>rfl) xs
@[simp] def flat_bc'(xs:List Bool):xs.all ((λx=>x.all Xe) ∘ bc)=true:=JW (λ_=>rfl) xs
@[simp] def flat_kc'(k:IntKind)(xs:V6):xs.all ((λx=>x.all Xe) ∘ kc k)=true:=JW (λ_=>rfl) xs
@[simp] def all_take{α:Type}{p:α->Bool}{l:List α}{n:Nat}(h:l.all p=true):(l.take n).all p=true:=by
 grind
@[simp] def all_drop{α:Type}{p:α->Bool}{l:List α}{n:Nat}(h:l.all p=true):(l.drop n).all p=true:=by
 grind
@[simp] def all_set{α:Type}{p:α->Bool}{l:List α}{n:Nat}{a:α}(h:l.all p=true)(ha:p a=true):(l.set n a).all p=true:=by
 grind
def XF{α:Type}{c:α->UD}(h:∀a b,c a=c b->a=b):∀{xs ys:List α},xs.map c=ys.map c↔xs=ys
 |[],[]=>by simp
 |[],_::_=>by simp
 |_::_,[]=>by simp
 |x::xs,y::ys=>by
  simp only[Yx,Yc5,XF h (xs:=xs) (ys:=ys)]
  grind
@[simp] def map_ic(xs ys:V6):xs.map ic=ys.map ic↔xs=ys:=XF (by intro a b h;simpa using h)
@[simp] def map_sc(xs ys:List UP):xs.map sc=ys.map sc↔xs=ys:=XF (by intro a b h;simpa using h)
@[simp] def map_bc(xs ys:List Bool):xs.map bc=ys.map bc↔xs=ys:=XF (by intro a b h;simpa using h)
@[simp] def map_kc(k:IntKind)(xs ys:V6):xs.map (kc k)=ys.map (kc k)↔xs=ys:=XF (by intro a b h;simpa using h)
@[simp] def map_isc(xs ys:V4):xs.map isc=ys.map isc↔xs=ys:=XF (by intro a b h;simpa using h)
@[simp] def map_lcic(xs ys:V4):xs.map (lc 1 ic)=ys.map (lc 1 ic)↔xs=ys:=XF (by intro a b h;simpa using h)
def Im(b a:Prop):Prop:=a->b
def anI{A B Q:Prop}(f:A->B->Q)(h:A/\B):Q:=f h.1 h.2
def anJ{a:Prop}{P:a->Prop}{B Q:Prop}(f:∀x,P x->B->Q)(h:(∃x,P x)/\B):Q:=h.1.elim λx hx=>f x hx h.2
def exI{α:Type}{P:α->Prop}{Q:Prop}(f:∀x,P x->Q)(h:∃x,P x):Q:=h.elim f
def orE2{A B Q:Prop}(f:A->Q)(g:B->Q)(h:A\/B):Q:=h.elim f g
@[simp] def getset_ic{s:V6}{i j:Nat}{a:Int}(h:j<((s.map ic).set i [T.int .i64 a]).length):((s.map ic).set i [T.int .i64 a])[j]=[T.int .i64 ((s.set i a)[j]'(by simpa using h))]:=by
 have e:(s.map ic).set i [T.int .i64 a]=(s.set i a).map ic:=by rw[List.map_set];rfl
 simp only[e,List.getElem_map];rfl
@[simp] def getset_rep{n i j:Nat}{z a:Int}(h:j<((List.replicate n [T.int .i64 z]).set i [T.int .i64 a]).length):((List.replicate n [T.int .i64 z]).set i [T.int .i64 a])[j]=[T.int .i64 (((List.replicate n z).set i a)[j]'(by simpa using h))]:=by
 grind
@[simp] def getapp_ic{s:V6}{i:Nat}{a:Int}(h:i<(s.map ic++[[T.int .i64 a]]).length):(s.map ic++[[T.int .i64 a]])[i]=[T.int .i64 ((s++[a])[i]'(by simpa using h))]:=by
 have e:s.map ic++[[T.int .i64 a]]=(s++[a]).map ic:=by rw[Ybi];rfl
 simp only[e,List.getElem_map];rfl
@[simp] def take_len_map{α β:Type}(f:α->β)(l:List α):List.take l.length (l.map f)=l.map f:=Yb3 (by simp)
def qB(c:Rs)(A B:Prop):Prop:=∃v,c=some (Bo v,[])/\if v=true then A else B
def qV(c:Rs)(A:Bool->Prop):Prop:=∃v,c=some (Bo v,[])/\A v
def qI(c:Rs)(A:Int->Prop):Prop:=∃v,c=some (I v,[])/\A v
def qH{α:Type}(l:List α)(i:Int)(A:α->Prop):Prop:=∃e,l[i.toNat]?=some e/\A e
def qG{α:Type}(l:List α)(i:Int)(A:α->Prop):Prop:=0<=i/\∃e,l[i.toNat]?=some e/\A e
def qO{α:Type}(n m:Nat)(c:α->UD)(x:Rs)(A:List α->Prop):Prop:=∃v,x=some (.own 0,[.arr n m true (v.map c)])/\A v
def qA{α:Type}(c:α->UD)(x:Rs)(A:α->Prop):Prop:=∃v,x=some (.agg ((c v).map .t),[])/\A v
def qS{α:Type}(c:α->UD)(x:Rs)(A:α->Bool->Prop):Prop:=∃v u,x=some (.tup [.agg ((c v).map .t),Bo u],[])/\A v u
def qb(b:Bool)(r:V3):Prop:=some (Bo b,[])=some r
def qi(n:Int)(r:V3):Prop:=some (I n,[])=some r
def qs:(∀c A B,qB c A B=∃v,c=some (Bo v,[])/\if v=true then A else B)/\(∀c A,qV c A=∃v,c=some (Bo v,[])/\A v)/\(∀c A,qI c A=∃v,c=some (I v,[])/\A v)/\(∀(α:Type) (l:List α) i A,qH l i A=∃e,l[i.toNat]?=some e/\A e)/\(∀(α:Type) (l:List α) i A,qG l i A=(0<=i/\∃e,l[i.toNat]?=some e/\A e))/\(∀(α:Type) n m (c:α->UD) x A,qO n m c x A=∃v,x=some (.own 0,[.arr n m true (v.map c)])/\A v)/\(∀(α:Type) (c:α->UD) x A,qA c x A=∃v,x=some (.agg ((c v).map .t),[])/\A v)/\(∀(α:Type) (c:α->UD) x A,qS c x A=∃v u,x=some (.tup [.agg ((c v).map .t),Bo u],[])/\A v u)/\(∀b r,qb b r=(some (Bo b,[])=some r))/\∀n r,qi n r=(some (I n,[])=some r) :=
 ⟨λ_ _ _=>rfl,λ_ _=>rfl,λ_ _=>rfl,λ_ _ _ _=>rfl,λ_ _ _ _=>rfl,λ_ _ _ _ _ _=>rfl,λ_ _ _ _=>rfl,λ_ _ _ _=>rfl,λ_ _=>rfl,λ_ _=>rfl⟩
def MCode.sz:MCode->Nat
 |.seq a b=>a.sz+b.sz+1
 |.cond _ a b=>a.sz+b.sz+1
 |.block _ b=>b.sz+1
 |.loop _ b=>b.sz+1
 |_=>1
def MCode.at:MCode->Nat->MCode
 |c,0=>c
 |.seq a b,n+1=>if n<a.sz then a.at n else b.at (n-a.sz)
 |.cond _ a b,n+1=>if n<a.sz then a.at n else b.at (n-a.sz)
 |.block _ b,n+1=>b.at n
 |.loop _ b,n+1=>b.at n
 |c,_=>c
def MCode.puts(l:List (Nat×MCode)):MCode->Nat->MCode×Nat
 |.seq a b,k=>match l.lookup k with
  |some x=>(x,k+(a.sz+b.sz+1))
  |none=>match a.puts l (k+1)with
   |(a',i)=>match b.puts l i with
    |(b',j)=>(.seq a' b',j)
 |.cond c a b,k=>match l.lookup k with
  |some x=>(x,k+(a.sz+b.sz+1))
  |none=>match a.puts l (k+1)with
   |(a',i)=>match b.puts l i with
    |(b',j)=>(.cond c a' b',j)
 |.block n b,k=>match l.lookup k with
  |some x=>(x,k+(b.sz+1))
  |none=>match b.puts l (k+1)with
   |(b',j)=>(.block n b',j)
 |.loop n b,k=>match l.lookup k with
  |some x=>(x,k+(b.sz+1))
  |none=>match b.puts l (k+1)with
   |(b',j)=>(.loop n b',j)
 |c,k=>match l.lookup k with
  |some x=>(x,k+1)
  |none=>(c,k+1)
structure RawF (o:Option MFun) where
 m:MFun
 h:o=some m:=by conv=>lhs;cbv
def mkF(o:Option MFun){c:MFun}(_:o=some c:=by conv=>lhs;cbv):MFun:=c
def pcs(r:MFun)(q:Nat)(l:List (Nat×MCode)):MCode:=(MCode.puts l (r.body.at q) 0).1
def pcF(r:MFun)(l:List (Nat×MCode)):MFun:={ r with body:=(MCode.puts l r.body 0).1 }
variable{o:Option MFun}(r:RawF o)(q:Nat)
def cut0{c:MCode}(_:r.m.body.at q=c:=by conv=>lhs;cbv):MCode:=c
def cut1(a:Nat)(x:MCode){c:MCode->MCode}(_:∀x,pcs r.m q [(a,x)]=c x:=by intros;conv=>lhs;cbv):MCode:=c x
def cut2(a:Nat)(x:MCode)(b:Nat)(y:MCode){c:MCode->MCode->MCode}(_:∀x y,pcs r.m q [(a,x),(b,y)]=c x y:=by intros;conv=>lhs;cbv):MCode:=c x y
def cut3(a:Nat)(x:MCode)(b:Nat)(y:MCode)(d:Nat)(z:MCode){c:MCode->MCode->MCode->MCode}(_:∀x y z,pcs r.m q [(a,x),(b,y),(d,z)]=c x y z:=by intros;conv=>lhs;cbv):MCode:=c x y z
def cut4(a:Nat)(x:MCode)(b:Nat)(y:MCode)(d:Nat)(z:MCode)(e:Nat)(u:MCode){c:MCode->MCode->MCode->MCode->MCode}(_:∀x y z u,pcs r.m q [(a,x),(b,y),(d,z),(e,u)]=c x y z u:=by intros;conv=>lhs;cbv):MCode:=c x y z u
def XH(a:Nat)(x:MCode){c:MCode->MFun}(_:∀x,pcF r.m [(a,x)]=c x:=by intros;conv=>lhs;cbv):MFun:=c x
def Z3(a:Nat)(x:MCode)(b:Nat)(y:MCode){c:MCode->MCode->MFun}(_:∀x y,pcF r.m [(a,x),(b,y)]=c x y:=by intros;conv=>lhs;cbv):MFun:=c x y
def cutF3(a:Nat)(x:MCode)(b:Nat)(y:MCode)(d:Nat)(z:MCode){c:MCode->MCode->MCode->MFun}(_:∀x y z,pcF r.m [(a,x),(b,y),(d,z)]=c x y z:=by intros;conv=>lhs;cbv):MFun:=c x y z
def cutF4(a:Nat)(x:MCode)(b:Nat)(y:MCode)(d:Nat)(z:MCode)(e:Nat)(u:MCode){c:MCode->MCode->MCode->MCode->MFun}(_:∀x y z u,pcF r.m [(a,x),(b,y),(d,z),(e,u)]=c x y z u:=by intros;conv=>lhs;cbv):MFun:=c x y z u
@[simp ↓] theorem mkF_eq {o:Option MFun} {c:MFun} {h}:@mkF o c h=c:=rfl
@[simp ↓] theorem cut0_eq {c:MCode} {h}:@cut0 o r q c h=c:=rfl
@[simp ↓] theorem cut1_eq {a x c h}:@cut1 o r q a x c h=c x:=rfl
@[simp ↓] theorem cut2_eq {a x b y c h}:@cut2 o r q a x b y c h=c x y:=rfl
@[simp ↓] theorem cut3_eq {a x b y d z c h}:@cut3 o r q a x b y d z c h=c x y z:=rfl
@[simp ↓] theorem cut4_eq {a x b y d z e u c h}:@cut4 o r q a x b y d z e u c h=c x y z u:=rfl
@[simp ↓] theorem cutF1_eq {a x c h}:@XH o r a x c h=c x:=rfl
@[simp ↓] theorem cutF2_eq {a x b y c h}:@Z3 o r a x b y c h=c x y:=rfl
@[simp ↓] theorem cutF3_eq {a x b y d z c h}:@cutF3 o r a x b y d z c h=c x y z:=rfl
@[simp ↓] theorem cutF4_eq {a x b y d z e u c h}:@cutF4 o r a x b y d z e u c h=c x y z u:=rfl
open Go.RowKit (Below)
variable{es:V5}{i j:Nat}
theorem Z9j(hij:i<=j):es.flatten=(es.take i).flatten++((es.take j).drop i).flatten++(es.drop j).flatten:=by
 grind [List.flatten_append,Nat.min_eq_left,List.take_append_drop]
theorem del_rel{N:Par}{base:Nat}{ρ:Map}{w w':World}{el sz:Nat}{fr:Bool}(R:Rel N base ρ [.arr el sz fr es] w){r:Root}(hr:ρ 0=some r)(hdom:∀b,1<=b->ρ b=none)
  {g cap e':Nat} {cur:Array Value} (hrv:r.v=.slice (some ⟨g,0,none⟩) es.length cap) (hg:w.heap[g]?=some (.cells cur e' (0,0))) (hij:i<=j) (hj:j<=es.length) {zs:UC} (hz:zs.length=(j-i)*sz) (hcs:∃c2,w'.heap[g]?=some (.cells c2 e' (0,0))/\c2.toList=cur.toList.take (i*sz)++(cur.toList.take (es.length*sz)).drop (j*sz)++zs++cur.toList.drop (es.length*sz))
  (hgr:w.grownBy w' (some g)) :
  ∃fp',Rel N base (updM ρ 1 ⟨.slice (some ⟨g,0,none⟩) (i+(es.length-j)) cap,fp',[]⟩) [.dead,.arr el sz fr (es.take i++es.drop j)] w'/\
   Keeps ρ w (Free N ρ [.arr el sz fr es]) (updM ρ 1 ⟨.slice (some ⟨g,0,none⟩) (i+(es.length-j)) cap,fp',[]⟩) w' (Free N (updM ρ 1 ⟨.slice (some ⟨g,0,none⟩) (i+(es.length-j)) cap,fp',[]⟩) [.dead,.arr el sz fr (es.take i++es.drop j)])/\
   ∀g,g<w.heap.size->¬N.a g->w'.heap[g]?=w.heap[g]?:=by
 have hb:gt [Blk.arr el sz fr es] 0=.arr el sz fr es:=by simp[gt]
 have hd:gt [Blk.arr el sz fr es] 0≠.dead:=by rw[hb];intro hc;cases hc
 obtain⟨r1,h1,h2⟩:=R.blk 0 hd;rw[hr]at h1;cases h1;rw[hb]at h2;obtain⟨hex,e2,xs,hel,ho,hsz,hlen,htr,hfree,hfr,how⟩:=h2;obtain⟨hxl,ho⟩:=ho;rcases ho with⟨ho,_⟩|⟨g2,cap2,cur2,ho,hbg,hg2,hcap,hcm,hcur,htake⟩
 .rw[hrv]at ho;cases ho
 rw[hrv]at ho;cases ho;rw[hg]at hg2;cases hg2;have hblk:Xm r.v=some g:=by rw[hrv];rfl
 have hmul:j*sz<=es.length*sz:=Ybd _ hj;have hmul1:i*sz<=j*sz:=Ybd _ hij;have hmul2:es.length*sz<=cap*sz:=Ybd _ hcap;have hms:(j-i)*sz=j*sz-i*sz:=Nat.sub_mul _ _ _;have hms2:(i+(es.length-j))*sz=i*sz+(es.length*sz-j*sz):=by rw[Ybu,Nat.sub_mul]
 have hcut:=Z9j (es:=es) hij;rw[hcut]at htr how;obtain⟨fa,fb,fc,hfp,hnew⟩:=htr.splice (ts:=[]) (ys:=[]) (fq:=[]) .nil;have hnewo:fr=true->_:=λhff=>(how hff).splice (ts:=[]) (ys:=[]) .nil
 have hAl:(es.take i).flatten.length=i*sz:=by
  rw[Vu λx hx=>hlen x (Ybe hx),Yt];rw[Yba (by omega)]
 have hBl:((es.take j).drop i).flatten.length=(j-i)*sz:=by
  rw[Vu λx hx=>hlen x (Ybe (Yb8 hx)),Ybj,Yt,Yba hj]
 rw[hAl,hBl,show i*sz+(j-i)*sz=j*sz by omega,Ybb,Ybb,<-Ybk,Ybb]at hnew;simp only[hAl,hBl,show i*sz+(j-i)*sz=j*sz by omega,Ybb,<-Ybk]at hnewo;have hlt1:=htr.lt;have hgx:∀g∈fa++fc,g∈r.fp:=by
  intro x hx;rw[hfp];simp only[Yl]at hx|-;rcases hx with hx|hx
  .exact .inl (.inl hx)
  .exact .inr hx
 have hset:∀x∈es.take i++es.drop j,x.length=sz:=by
  intro x hx;rcases Yl.1 hx with hx|hx
  .exact hlen x (Ybe hx)
  .exact hlen x (Yb8 hx)
 have hln:(es.take i++es.drop j).length=i+(es.length-j):=by
  rw[Yn,Yt,Ybj,Yba (by omega)]
 obtain⟨c2,hg2,hc2⟩:=hcs;have hup:upd [Blk.arr el sz fr es] (kill [0]++[(1,.arr el sz fr (es.take i++es.drop j))])=[.dead,.arr el sz fr (es.take i++es.drop j)]:=by simp[upd,kill,stB]
 have hp:=UW R (n:=1) (ks:=[0]) (x:=.arr el sz fr (es.take i++es.drop j)) (r:=⟨.slice (some ⟨g,0,none⟩) (i+(es.length-j)) cap,fa++fc,[]⟩) (row:=some g) (w':=w')
  (by intro r0 h0;rw[hdom 1 (Yh _)]at h0;cases h0) hgr
  (by intro g' hg';cases hg';exact⟨0,.inl (by simp),r,hr,hd,.inl hblk⟩)
  (by intro g' hg';cases hg';exact .inr ⟨0,.inl (by simp),r,hr,hd,.inl hblk⟩)
  (λhk=>by
   have hall:∀g'∈fa++fc,Free N (updM ρ 1 ⟨.slice (some ⟨g,0,none⟩) (i+(es.length-j)) cap,fa++fc,[]⟩) (upd [Blk.arr el sz fr es] (kill [0]++[(1,.arr el sz fr (es.take i++es.drop j))])) g'/\w'.heap[g']?=w.heap[g']?:=λg' hg'=>hk.free g' (hlt1 g' (hgx g' hg')) (hfree g' (hgx g' hg'))
   refine⟨rfl,e',xs.take (i*sz)++xs.drop (j*sz),hel,⟨?_,.inr ⟨g,cap,c2,by rw[hln],hbg,hg2,by rw[hln];omega,hcm,?_,?_⟩⟩,hsz,hset,hnew.frame λg' hg'=>(hall g' hg').2,λg' hg'=>(hall g' hg').1,?_,λhff=>(hnewo hff).frame hnew λg' hg'=>(hall g' hg').2⟩
   .rw[hln,Yn,Yt,Ybj,hxl];omega
   .rw[<-Yv,hc2];simp only[Yn,Yt,Ybj,Yv,hcur,hz];omega
   .rw[hc2,hln,<-htake,Ybo,Ybo];have e1:(cur.toList.take (es.length*sz)).take (i*sz)=cur.toList.take (i*sz):=by rw[Yb2];congr 1;omega
    rw[e1,<-Ybo];exact Ycb (by simp only[Yn,Yt,Ybj,Yv,hcur];omega)
   .intro hff;have h1:=hfr hff;refine⟨?_,λx hx=>h1.2 x (hgx x hx)⟩;have h3:=h1.1;rw[hfp]at h3;rw[Ybg,Ybg]at h3;rw[Ybg]
    exact⟨h3.1.1,h3.2.1,λx hx y hy=>h3.2.2 x (by simp[hx]) y hy⟩)
  (by
   intro hff x hx d rd hdk hdn hrd hfd
   cases d with
   |zero=>simp at hdk
   |succ d=>rw[hdom (d+1) (by omega)]at hrd;cases hrd)
 rw[hup]at hp;exact⟨fa++fc,hp⟩
end Go.AM
