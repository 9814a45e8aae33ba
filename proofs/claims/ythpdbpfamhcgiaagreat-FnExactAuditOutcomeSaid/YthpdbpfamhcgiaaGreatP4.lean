/-
  Parts of the proofs for this seat: AMSx AMCbv.
-/
import Derived.Test.YthpdbpfamhcgiaaGreatP3
set_option linter.all false
namespace Go.AM
abbrev Rs:=V1
abbrev w(n:Int):Int:=IntKind.wrap .i64 n
def kc(k:IntKind)(n:Int):KS:=[.int k n]
def bc(b:Bool):KS:=[.bool b]
def lc{α:Type}(sz:Nat)(c:α->KS)(xs:List α):KS:=[.lst sz (xs.map c)]
@[simp] def kc_def(k:IntKind)(n:Int):kc k n=[.int k n]:=rfl
@[simp] def bc_def(b:Bool):bc b=[.bool b]:=rfl
@[simp] def lc_def{α:Type}(sz:Nat)(c:α->KS)(xs:List α):lc sz c xs=[.lst sz (xs.map c)]:=rfl
@[simp] def gt_nil(n:Nat):gt [] n=.dead:=by simp[gt]
def Zbh{C:Xe}{ks:List Fr}{s:S}{B c:Zc}(hB:B=c):Ev C ks B s=Ev C ks c s:=by rw[hB]
def X3{α:Type}{xs:List α}{i:Nat}{x:α}(h:xs[i]?=some x):i<xs.length:=(Ybh.1 h).1
def X4{α:Type}{xs:List α}{i:Nat}{x:α}(h:xs[i]?=some x):xs[i]'(X3 h)=x:=(Ybh.1 h).2
def Vb{n b:Nat}(h:n<=68719476736)(hb:b<=2048):n*b<=room:=Yr (Ycb h hb) (by decide)
def Vc{n:Nat}(h:n<=68719476736):n<=room:=Yr h (by decide)
def itb{b:Bool}{A B:Prop}:(if b=true then A else B)=((b=true/\A)\/(b=false/\B)):=by cases b<;>simp
def itf{c:Prop}[Decidable c]{A B:Prop}:(if c then A else B)=(((c=True)/\A)\/((c=False)/\B)):=by by_cases h:c<;>simp[h]
def kA{n:Nat}:(0<(n:Int))=(0<n):=propext Int.natCast_pos
def kB{a b:Nat}:((a:Int)<(b:Int))=(a<b):=propext Int.ofNat_lt
def kC{a b:Nat}:((a:Int)<=(b:Int))=(a<=b):=propext Int.ofNat_le
def kD{a b:Nat}:((a:Int)=(b:Int))=(a=b):=propext Int.natCast_inj
def kE{n:Nat}:((n:Int)=0)=(n=0):=propext Int.natCast_eq_zero
def kF{α:Type}{l:List α}:(l.length=0)=(l=[]):=propext Ydj
def gS{α:Type}{l:List α}{i:Nat}{a:α}:l[i]?=some a↔∃h:i<l.length,l[i]=a:=Ybh
def kk:(∀n:Nat,(0<(n:Int))=(0<n))/\(∀a b:Nat,((a:Int)<(b:Int))=(a<b))/\(∀a b:Nat,((a:Int)<=(b:Int))=(a<=b))/\(∀a b:Nat,((a:Int)=(b:Int))=(a=b))/\(∀n:Nat,((n:Int)=0)=(n=0))/\∀(α:Type) (l:List α),(l.length=0)=(l=[]) :=
 ⟨λ_=>kA,λ_ _=>kB,λ_ _=>kC,λ_ _=>kD,λ_=>kE,λ_ _=>kF⟩
def mpl{α β:Type}(f:α->β):([].map f=[])/\(∀a l,(a::l).map f=f a::l.map f)/\(∀(l:List α) n,(l.take n).map f=(l.map f).take n)/\(∀(l:List α) n,(l.drop n).map f=(l.map f).drop n)/\(∀l k:List α,(l++k).map f=l.map f++k.map f)/\(∀(l:List α) n a,(l.set n a).map f=(l.map f).set n (f a))/\(∀n a,(List.replicate n a).map f=List.replicate n (f a)) :=
 ⟨rfl,λ_ _=>rfl,λ_ _=>List.map_take,λ_ _=>List.map_drop,λ_ _=>Y3,λ_ _ _=>List.map_set,λ_ _=>Ydk⟩
def dfs:(∀n,ic n=[.int .i64 n])/\(∀l,isc l=[.lst 1 (l.map ic)])/\(∀s,sc s=[.str s])/\(∀b,bc b=[.bool b])/\(∀k n,kc k n=[.int k n])/\(∀(α:Type) (sz:Nat) (c:α->KS) (xs:List α),lc sz c xs=[.lst sz (xs.map c)]) :=
 ⟨λ_=>rfl,λ_=>rfl,λ_=>rfl,λ_=>rfl,λ_ _=>rfl,λ_ _ _ _=>rfl⟩
@[simp] def MO.o(d:Nat)(k:MOp):MO:=⟨some d,none,k⟩
@[simp] def MO.m(d x:Nat):MO:=⟨some d,none,.mov (.s x)⟩
@[simp] def MO.g(d g:Nat)(k:MOp):MO:=⟨some d,some (g,true),k⟩
@[simp] def MO.h(d g:Nat)(k:MOp):MO:=⟨some d,some (g,false),k⟩
@[simp] def MO.n(k:MOp):MO:=⟨none,none,k⟩
@[simp] def Opd.k(n:Int):Opd:=.c (.t (.int .i64 n))
@[simp] def T.z:T:=.int .i64 0
@[simp] def AV.z:AV:=.t (.int .i64 0)
@[simp] def Opd.q(b:Bool):Opd:=.c (.t (.bool b))
@[simp] def MOp.l(s:Nat):MOp:=.load none (.s s)
@[simp] def MOp.ln(n s:Nat):MOp:=.load (some n) (.s s)
@[simp] def MOp.fa(k s:Nat):MOp:=.faddr k (.s s)
@[simp] def MOp.ia(k s t:Nat):MOp:=.iaddr k (.s s) (.s t)
@[simp] def MOp.b(p:BinOp)(s t:Nat):MOp:=.bin p (.s s) (.s t)
@[simp] def MOp.bk(p:BinOp)(s:Nat)(n:Int):MOp:=.bin p (.s s) (.k n)
@[simp] def MOp.ll(s:Nat):MOp:=.len false (.s s)
@[simp] def MOp.cl(f:Nat)(xs:V8):MOp:=.call f (xs.map .s)
@[simp] def MOp.st(k s t:Nat):MOp:=.store k (.s s) (.s t)
@[simp] def MOp.bx(s:Nat):MOp:=.box (.s s)
@[simp] def MOp.mk(n:Int):MOp:=.mov (.k n)
@[simp] def MO.l(d s:Nat):MO:=.o d (.l s)
@[simp] def MO.ln(d n s:Nat):MO:=.o d (.ln n s)
@[simp] def MO.fa(d k s:Nat):MO:=.o d (.fa k s)
@[simp] def MO.ia(d k s t:Nat):MO:=.o d (.ia k s t)
@[simp] def MO.b(d:Nat)(p:BinOp)(s t:Nat):MO:=.o d (.b p s t)
@[simp] def MO.bk(d:Nat)(p:BinOp)(s:Nat)(n:Int):MO:=.o d (.bk p s n)
@[simp] def MO.ll(d s:Nat):MO:=.o d (.ll s)
@[simp] def MO.cl(d f:Nat)(xs:V8):MO:=.o d (.cl f xs)
@[simp] def MO.bx(d s:Nat):MO:=.o d (.bx s)
@[simp] def MO.mk'(d:Nat)(n:Int):MO:=.o d (.mk n)
@[simp] def MO.st(k s t:Nat):MO:=.n (.st k s t)
@[simp] def Zc.r(a:List MO)(k:V8)(c:Zc):Zc:=.seq (.reg a k) c
@[simp] def Zc.we(a:List MO)(k:V8)(s x:Nat)(c:Zc):Zc:=.seq (.r a k (.cond (.s s) .skip (.exit x))) c
@[simp] def Zc.wc(a:List MO)(k:V8)(s:Nat)(b c:Zc):Zc:=.seq (.r a k (.cond (.s s) b .skip)) c
@[simp] def MOp.nt(s:Nat):MOp:=.un .not (.s s)
@[simp] def MOp.m(s:Nat):MOp:=.mov (.s s)
@[simp] def MOp.mn:MOp:=.mov (.c (.t .nil))
@[simp] def MOp.mq(b:Bool):MOp:=.mov (.q b)
@[simp] def MOp.an(s t:Nat):MOp:=.pick (.s s) (.s t) (.q false)
@[simp] def MOp.or(s t:Nat):MOp:=.pick (.s s) (.q true) (.s t)
@[simp] def MOp.al(l:KS):MOp:=.alloc (l.map .t)
@[simp] def MOp.b1(e s:Nat):MOp:=.bslice e 1 1 [.z] [(0,.s s)]
@[simp] def MOp.ap(e n b s t:Nat):MOp:=.append e n b true (.s s) (.s t)
@[simp] def MO.nt(d s:Nat):MO:=.o d (.nt s)
@[simp] def MO.mn(d:Nat):MO:=.o d .mn
@[simp] def MO.mq(d:Nat)(b:Bool):MO:=.o d (.mq b)
@[simp] def MO.an(d s t:Nat):MO:=.o d (.an s t)
@[simp] def MO.or(d s t:Nat):MO:=.o d (.or s t)
@[simp] def Zc.rq(d:Nat)(b:Bool):Zc:=.r [.mq d b] [d] .ret
@[simp] def Zc.rk(d:Nat)(n:Int):Zc:=.r [.mk' d n] [d] .ret
@[simp] def Zc.rm(t s d:Nat):Zc:=.r [.m t s,.m d t] [d] .ret
@[simp] def Zc.id(t i:Nat)(k:V8):Zc:=.reg [.bk t .add i 1,.m i t] k
@[simp] def Zc.ic(a i t:Nat)(k:V8):Zc:=.reg [.m a i,.bk t .add a 1,.m i t] k
@[simp] def Zc.fq(k:V8)(t i l x:Nat)(b c:Zc):Zc:=.r [.b t .lss i l] (k++[t]) (.seq (.cond (.s t) .skip (.exit x)) (.seq (.block (x+1) b) c))
@[simp] def Zc.fr(k:V8)(t i l u x:Nat)(b:Zc):Zc:=.fq k t i l x b (.id u i k)
@[simp] def Zc.lo(a:List MO)(k:V8)(n:Nat)(b:Zc):Zc:=.r a k (.block n (.loop k b))
@[simp] def roomA'{n b:Nat}(h:n<=68719476736)(hb:b<=2048):n*b<=room:=Yr (Ycb h hb) (by decide)
@[simp] def roomB'{n:Nat}(h:n<=68719476736):n<=room:=Yr h (by decide)
def KD{α:Type}{c:α->KS}(h:∀x,(c x).all XN=true)(xs:List α):(xs.map c).all (λx=>x.all XN)=true:=by
 grind
@[simp] def flat_ic(xs:V6):(xs.map ic).all (λx=>x.all XN)=true:=KD (λ_=>rfl) xs
@[simp] def flat_sc(xs:List YA):(xs.map sc).all (λx=>x.all XN)=true:=KD (λ_=>rfl) xs
@[simp] def flat_bc(xs:List Bool):(xs.map bc).all (λx=>x.all XN)=true:=KD (λ_=>rfl) xs
@[simp] def flat_kc(k:IntKind)(xs:V6):(xs.map (kc k)).all (λx=>x.all XN)=true:=KD (λ_=>rfl) xs
def KE{α:Type}{c:α->KS}(h:∀x,(c x).all XN=true)(xs:List α):xs.all ((λx=>x.all XN) ∘ c)=true:=by
 grind
@[simp] def flat_ic'(xs:V6):xs.all ((λx=>x.all XN) ∘ ic)=true:=KE (λ_=>rfl) xs
@[simp] def flat_sc'(xs:List YA):xs.all ((λx=>x.all XN) ∘ sc)=true:=KE (λ_=>rfl) xs
@[simp] def flat_bc'(xs:List Bool):xs.all ((λx=>x.all XN) ∘ bc)=true:=KE (λ_=>rfl) xs
@[simp] def flat_kc'(k:IntKind)(xs:V6):xs.all ((λx=>x.all XN) ∘ kc k)=true:=KE (λ_=>rfl) xs
@[simp] def all_take{α:Type}{p:α->Bool}{l:List α}{n:Nat}(h:l.all p=true):(l.take n).all p=true:=by
 grind
@[simp] def all_drop{α:Type}{p:α->Bool}{l:List α}{n:Nat}(h:l.all p=true):(l.drop n).all p=true:=by
 grind
@[simp] def all_set{α:Type}{p:α->Bool}{l:List α}{n:Nat}{a:α}(h:l.all p=true)(ha:p a=true):(l.set n a).all p=true:=by
 grind
def XX{α:Type}{c:α->KS}(h:∀a b,c a=c b->a=b):∀{xs ys:List α},xs.map c=ys.map c↔xs=ys
 |[],[]=>by simp
 |[],_::_=>by simp
 |_::_,[]=>by simp
 |x::xs,y::ys=>by
  simp only[Y0,Yc0,XX h (xs:=xs) (ys:=ys)]
  grind
@[simp] def map_ic(xs ys:V6):xs.map ic=ys.map ic↔xs=ys:=XX (by intro a b h;simpa using h)
@[simp] def map_sc(xs ys:List YA):xs.map sc=ys.map sc↔xs=ys:=XX (by intro a b h;simpa using h)
@[simp] def map_bc(xs ys:List Bool):xs.map bc=ys.map bc↔xs=ys:=XX (by intro a b h;simpa using h)
@[simp] def map_kc(k:IntKind)(xs ys:V6):xs.map (kc k)=ys.map (kc k)↔xs=ys:=XX (by intro a b h;simpa using h)
@[simp] def map_isc(xs ys:V4):xs.map isc=ys.map isc↔xs=ys:=XX (by intro a b h;simpa using h)
@[simp] def map_lcic(xs ys:V4):xs.map (lc 1 ic)=ys.map (lc 1 ic)↔xs=ys:=XX (by intro a b h;simpa using h)
def Im(b a:Prop):Prop:=a->b
def anI{A B Q:Prop}(f:A->B->Q)(h:A/\B):Q:=f h.1 h.2
def anJ{a:Prop}{P:a->Prop}{B Q:Prop}(f:∀x,P x->B->Q)(h:(∃x,P x)/\B):Q:=h.1.elim λx hx=>f x hx h.2
def exI{α:Type}{P:α->Prop}{Q:Prop}(f:∀x,P x->Q)(h:∃x,P x):Q:=h.elim f
def orE2{A B Q:Prop}(f:A->Q)(g:B->Q)(h:A\/B):Q:=h.elim f g
@[simp] def getset_ic{s:V6}{i j:Nat}{a:Int}(h:j<((s.map ic).set i [T.int .i64 a]).length):((s.map ic).set i [T.int .i64 a])[j]=[T.int .i64 ((s.set i a)[j]'(by simpa using h))]:=by
 have e:(s.map ic).set i [T.int .i64 a]=(s.set i a).map ic:=by rw[List.map_set];rfl
 simp only[e,List.getElem_map];rfl
@[simp] def getset_rep{n i j:Nat}{z a:Int}(h:j<((List.replicate n [T.int .i64 z]).set i [T.int .i64 a]).length):((List.replicate n [T.int .i64 z]).set i [T.int .i64 a])[j]=[T.int .i64 (((List.replicate n z).set i a)[j]'(by simpa using h))]:=by
 grind
@[simp] def getapp_ic{s:V6}{i:Nat}{a:Int}(h:i<(s.map ic++[[T.int .i64 a]]).length):(s.map ic++[[T.int .i64 a]])[i]=[T.int .i64 ((s++[a])[i]'(by simpa using h))]:=by
 have e:s.map ic++[[T.int .i64 a]]=(s++[a]).map ic:=by rw[Y3];rfl
 simp only[e,List.getElem_map];rfl
@[simp] def take_len_map{α β:Type}(f:α->β)(l:List α):List.take l.length (l.map f)=l.map f:=Ybp (by simp)
def qB(c:Rs)(A B:Prop):Prop:=∃v,c=some (Bo v,[])/\if v=true then A else B
def qV(c:Rs)(A:Bool->Prop):Prop:=∃v,c=some (Bo v,[])/\A v
def qI(c:Rs)(A:Int->Prop):Prop:=∃v,c=some (I v,[])/\A v
def qH{α:Type}(l:List α)(i:Int)(A:α->Prop):Prop:=∃e,l[i.toNat]?=some e/\A e
def qG{α:Type}(l:List α)(i:Int)(A:α->Prop):Prop:=0<=i/\∃e,l[i.toNat]?=some e/\A e
def qO{α:Type}(n m:Nat)(c:α->KS)(x:Rs)(A:List α->Prop):Prop:=∃v,x=some (.own 0,[.arr n m true (v.map c)])/\A v
def qA{α:Type}(c:α->KS)(x:Rs)(A:α->Prop):Prop:=∃v,x=some (.agg ((c v).map .t),[])/\A v
def qS{α:Type}(c:α->KS)(x:Rs)(A:α->Bool->Prop):Prop:=∃v u,x=some (.tup [.agg ((c v).map .t),Bo u],[])/\A v u
def qb(b:Bool)(r:V3):Prop:=some (Bo b,[])=some r
def qi(n:Int)(r:V3):Prop:=some (I n,[])=some r
def qs:(∀c A B,qB c A B=∃v,c=some (Bo v,[])/\if v=true then A else B)/\(∀c A,qV c A=∃v,c=some (Bo v,[])/\A v)/\(∀c A,qI c A=∃v,c=some (I v,[])/\A v)/\(∀(α:Type) (l:List α) i A,qH l i A=∃e,l[i.toNat]?=some e/\A e)/\(∀(α:Type) (l:List α) i A,qG l i A=(0<=i/\∃e,l[i.toNat]?=some e/\A e))/\(∀(α:Type) n m (c:α->KS) x A,qO n m c x A=∃v,x=some (.own 0,[.arr n m true (v.map c)])/\A v)/\(∀(α:Type) (c:α->KS) x A,qA c x A=∃v,x=some (.agg ((c v).map .t),[])/\A v)/\(∀(α:Type) (c:α->KS) x A,qS c x A=∃v u,x=some (.tup [.agg ((c v).map .t),Bo u],[])/\A v u)/\(∀b r,qb b r=(some (Bo b,[])=some r))/\∀n r,qi n r=(some (I n,[])=some r) :=
 ⟨λ_ _ _=>rfl,λ_ _=>rfl,λ_ _=>rfl,λ_ _ _ _=>rfl,λ_ _ _ _=>rfl,λ_ _ _ _ _ _=>rfl,λ_ _ _ _=>rfl,λ_ _ _ _=>rfl,λ_ _=>rfl,λ_ _=>rfl⟩
def Zc.sz:Zc->Nat
 |.seq a b=>a.sz+b.sz+1
 |.cond _ a b=>a.sz+b.sz+1
 |.block _ b=>b.sz+1
 |.loop _ b=>b.sz+1
 |_=>1
def Zc.at:Zc->Nat->Zc
 |c,0=>c
 |.seq a b,n+1=>if n<a.sz then a.at n else b.at (n-a.sz)
 |.cond _ a b,n+1=>if n<a.sz then a.at n else b.at (n-a.sz)
 |.block _ b,n+1=>b.at n
 |.loop _ b,n+1=>b.at n
 |c,_=>c
def Zc.puts(l:List (Nat×Zc)):Zc->Nat->Zc×Nat
 |.seq a b,k=>match l.lookup k with
  |some x=>(x,k+(a.sz+b.sz+1))
  |none=>match a.puts l (k+1)with
   |(a',i)=>match b.puts l i with
    |(b',j)=>(.seq a' b',j)
 |.cond c a b,k=>match l.lookup k with
  |some x=>(x,k+(a.sz+b.sz+1))
  |none=>match a.puts l (k+1)with
   |(a',i)=>match b.puts l i with
    |(b',j)=>(.cond c a' b',j)
 |.block n b,k=>match l.lookup k with
  |some x=>(x,k+(b.sz+1))
  |none=>match b.puts l (k+1)with
   |(b',j)=>(.block n b',j)
 |.loop n b,k=>match l.lookup k with
  |some x=>(x,k+(b.sz+1))
  |none=>match b.puts l (k+1)with
   |(b',j)=>(.loop n b',j)
 |c,k=>match l.lookup k with
  |some x=>(x,k+1)
  |none=>(c,k+1)
structure RawF (o:Option MFun) where
 m:MFun
 h:o=some m:=by conv=>lhs;cbv
def mkF(o:Option MFun){c:MFun}(_:o=some c:=by conv=>lhs;cbv):MFun:=c
def pcs(r:MFun)(q:Nat)(l:List (Nat×Zc)):Zc:=(Zc.puts l (r.body.at q) 0).1
def pcF(r:MFun)(l:List (Nat×Zc)):MFun:={ r with body:=(Zc.puts l r.body 0).1 }
variable{o:Option MFun}(r:RawF o)(q:Nat)
def cut0{c:Zc}(_:r.m.body.at q=c:=by conv=>lhs;cbv):Zc:=c
def cut1(a:Nat)(x:Zc){c:Zc->Zc}(_:∀x,pcs r.m q [(a,x)]=c x:=by intros;conv=>lhs;cbv):Zc:=c x
def cut2(a:Nat)(x:Zc)(b:Nat)(y:Zc){c:Zc->Zc->Zc}(_:∀x y,pcs r.m q [(a,x),(b,y)]=c x y:=by intros;conv=>lhs;cbv):Zc:=c x y
def cut3(a:Nat)(x:Zc)(b:Nat)(y:Zc)(d:Nat)(z:Zc){c:Zc->Zc->Zc->Zc}(_:∀x y z,pcs r.m q [(a,x),(b,y),(d,z)]=c x y z:=by intros;conv=>lhs;cbv):Zc:=c x y z
def cut4(a:Nat)(x:Zc)(b:Nat)(y:Zc)(d:Nat)(z:Zc)(e:Nat)(u:Zc){c:Zc->Zc->Zc->Zc->Zc}(_:∀x y z u,pcs r.m q [(a,x),(b,y),(d,z),(e,u)]=c x y z u:=by intros;conv=>lhs;cbv):Zc:=c x y z u
def Kd(a:Nat)(x:Zc){c:Zc->MFun}(_:∀x,pcF r.m [(a,x)]=c x:=by intros;conv=>lhs;cbv):MFun:=c x
def Z0(a:Nat)(x:Zc)(b:Nat)(y:Zc){c:Zc->Zc->MFun}(_:∀x y,pcF r.m [(a,x),(b,y)]=c x y:=by intros;conv=>lhs;cbv):MFun:=c x y
def cutF3(a:Nat)(x:Zc)(b:Nat)(y:Zc)(d:Nat)(z:Zc){c:Zc->Zc->Zc->MFun}(_:∀x y z,pcF r.m [(a,x),(b,y),(d,z)]=c x y z:=by intros;conv=>lhs;cbv):MFun:=c x y z
def cutF4(a:Nat)(x:Zc)(b:Nat)(y:Zc)(d:Nat)(z:Zc)(e:Nat)(u:Zc){c:Zc->Zc->Zc->Zc->MFun}(_:∀x y z u,pcF r.m [(a,x),(b,y),(d,z),(e,u)]=c x y z u:=by intros;conv=>lhs;cbv):MFun:=c x y z u
@[simp ↓] theorem mkF_eq {o:Option MFun} {c:MFun} {h}:@mkF o c h=c:=rfl
@[simp ↓] theorem cut0_eq {c:Zc} {h}:@cut0 o r q c h=c:=rfl
@[simp ↓] theorem cut1_eq {a x c h}:@cut1 o r q a x c h=c x:=rfl
@[simp ↓] theorem cut2_eq {a x b y c h}:@cut2 o r q a x b y c h=c x y:=rfl
@[simp ↓] theorem cut3_eq {a x b y d z c h}:@cut3 o r q a x b y d z c h=c x y z:=rfl
@[simp ↓] theorem cut4_eq {a x b y d z e u c h}:@cut4 o r q a x b y d z e u c h=c x y z u:=rfl
@[simp ↓] theorem cutF1_eq {a x c h}:@Kd o r a x c h=c x:=rfl
@[simp ↓] theorem cutF2_eq {a x b y c h}:@Z0 o r a x b y c h=c x y:=rfl
@[simp ↓] theorem cutF3_eq {a x b y d z c h}:@cutF3 o r a x b y d z c h=c x y z:=rfl
@[simp ↓] theorem cutF4_eq {a x b y d z e u c h}:@cutF4 o r a x b y d z e u c h=c x y z u:=rfl
end Go.AM
