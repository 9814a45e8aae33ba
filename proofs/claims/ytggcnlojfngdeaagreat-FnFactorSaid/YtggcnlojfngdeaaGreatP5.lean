/-
  Parts of the proofs for this seat: AMSx AMCbv.
-/
import Derived.Test.YtggcnlojfngdeaaGreatP4
set_option linter.all false
namespace Go.AM
abbrev Rs:=XP
abbrev w(n:Int):Int:=IntKind.wrap .i64 n
def kc(k:IntKind)(n:Int):V4:=[.int k n]
def bc(b:Bool):V4:=[.bool b]
def lc{α:Type}(sz:Nat)(c:α->V4)(xs:List α):V4:=[.lst sz (xs.map c)]
@[simp] def Aat(k:IntKind)(n:Int):kc k n=[.int k n]:=rfl
@[simp] def Aau(b:Bool):bc b=[.bool b]:=rfl
@[simp] def Aav{α:Type}(sz:Nat)(c:α->V4)(xs:List α):lc sz c xs=[.lst sz (xs.map c)]:=rfl
@[simp] def Aaw(n:Nat):gt [] n=.dead:=by simp[gt]
def B8{C:ZE}{ks:List Fr}{s:S}{B c:Za}(hB:B=c):Ev C ks B s=Ev C ks c s:=by rw[hB]
def Wi{α:Type}{xs:List α}{i:Nat}{x:α}(h:xs[i]?=some x):i<xs.length:=(Y0.1 h).1
def Wo{α:Type}{xs:List α}{i:Nat}{x:α}(h:xs[i]?=some x):xs[i]'(Wi h)=x:=(Y0.1 h).2
def Up{n b:Nat}(h:n<=68719476736)(hb:b<=2048):n*b<=room:=Y8 (Nat.mul_le_mul h hb) Sm
def Uq{n:Nat}(h:n<=68719476736):n<=room:=Y8 h Sm
def Bc{b:Bool}{A B:Prop}:(if b=true then A else B)=((b=true/\A)\/(b=false/\B)):=by cases b<;>simp
def Bd{c:Prop}[Decidable c]{A B:Prop}:(if c then A else B)=(((c=True)/\A)\/((c=False)/\B)):=by by_cases h:c<;>simp[h]
def kA{n:Nat}:(0<(n:Int))=(0<n):=propext Int.natCast_pos
def kB{a b:Nat}:((a:Int)<(b:Int))=(a<b):=propext Int.ofNat_lt
def kC{a b:Nat}:((a:Int)<=(b:Int))=(a<=b):=propext Int.ofNat_le
def kD{a b:Nat}:((a:Int)=(b:Int))=(a=b):=propext Int.natCast_inj
def kE{n:Nat}:((n:Int)=0)=(n=0):=propext Int.natCast_eq_zero
def kF{α:Type}{l:List α}:(l.length=0)=(l=[]):=propext Tz
def gS{α:Type}{l:List α}{i:Nat}{a:α}:l[i]?=some a↔∃h:i<l.length,l[i]=a:=Y0
def kk:(∀n:Nat,(0<(n:Int))=(0<n))/\(∀a b:Nat,((a:Int)<(b:Int))=(a<b))/\(∀a b:Nat,((a:Int)<=(b:Int))=(a<=b))/\(∀a b:Nat,((a:Int)=(b:Int))=(a=b))/\(∀n:Nat,((n:Int)=0)=(n=0))/\∀(α:Type) (l:List α),(l.length=0)=(l=[]) :=
 ⟨λ_=>kA,λ_ _=>kB,λ_ _=>kC,λ_ _=>kD,λ_=>kE,λ_ _=>kF⟩
def Bf{α β:Type}(f:α->β):([].map f=[])/\(∀a l,(a::l).map f=f a::l.map f)/\(∀(l:List α) n,(l.take n).map f=(l.map f).take n)/\(∀(l:List α) n,(l.drop n).map f=(l.map f).drop n)/\(∀l k:List α,(l++k).map f=l.map f++k.map f)/\(∀(l:List α) n a,(l.set n a).map f=(l.map f).set n (f a))/\(∀n a,(List.replicate n a).map f=List.replicate n (f a)) :=
 ⟨rfl,λ_ _=>rfl,λ_ _=>List.map_take,λ_ _=>List.map_drop,λ_ _=>CE,λ_ _ _=>List.map_set,λ_ _=>List.map_replicate⟩
def A7:(∀n,ic n=[.int .i64 n])/\(∀l,AA l=[.lst 1 (l.map ic)])/\(∀s,sc s=[.str s])/\(∀b,bc b=[.bool b])/\(∀k n,kc k n=[.int k n])/\(∀(α:Type) (sz:Nat) (c:α->V4) (xs:List α),lc sz c xs=[.lst sz (xs.map c)]) :=
 ⟨λ_=>rfl,λ_=>rfl,λ_=>rfl,λ_=>rfl,λ_ _=>rfl,λ_ _ _ _=>rfl⟩
@[simp] def MO.o(d:Nat)(k:AY):MO:=⟨some d,none,k⟩
@[simp] def MO.m(d x:Nat):MO:=⟨some d,none,.mov (.s x)⟩
@[simp] def MO.g(d g:Nat)(k:AY):MO:=⟨some d,some (g,true),k⟩
@[simp] def MO.h(d g:Nat)(k:AY):MO:=⟨some d,some (g,false),k⟩
@[simp] def MO.n(k:AY):MO:=⟨none,none,k⟩
@[simp] def AO.k(n:Int):AO:=.c (.t (.int .i64 n))
@[simp] def T.z:T:=.int .i64 0
@[simp] def AV.z:AV:=.t (.int .i64 0)
@[simp] def AO.q(b:Bool):AO:=.c (.t (.bool b))
@[simp] def AY.l(s:Nat):AY:=.load none (.s s)
@[simp] def AY.ln(n s:Nat):AY:=.load (some n) (.s s)
@[simp] def AY.fa(k s:Nat):AY:=.faddr k (.s s)
@[simp] def AY.ia(k s t:Nat):AY:=.iaddr k (.s s) (.s t)
@[simp] def AY.b(p:BinOp)(s t:Nat):AY:=.bin p (.s s) (.s t)
@[simp] def AY.bk(p:BinOp)(s:Nat)(n:Int):AY:=.bin p (.s s) (.k n)
@[simp] def AY.ll(s:Nat):AY:=.len false (.s s)
@[simp] def AY.cl(f:Nat)(xs:V2):AY:=.call f (xs.map .s)
@[simp] def AY.xl(f:Nat)(xs:V2):AY:=.xcall f (xs.map .s)
@[simp] def AY.st(k s t:Nat):AY:=.store k (.s s) (.s t)
@[simp] def AY.bx(s:Nat):AY:=.box (.s s)
@[simp] def AY.mk(n:Int):AY:=.mov (.k n)
@[simp] def MO.l(d s:Nat):MO:=.o d (.l s)
@[simp] def MO.ln(d n s:Nat):MO:=.o d (.ln n s)
@[simp] def MO.fa(d k s:Nat):MO:=.o d (.fa k s)
@[simp] def MO.ia(d k s t:Nat):MO:=.o d (.ia k s t)
@[simp] def MO.b(d:Nat)(p:BinOp)(s t:Nat):MO:=.o d (.b p s t)
@[simp] def MO.bk(d:Nat)(p:BinOp)(s:Nat)(n:Int):MO:=.o d (.bk p s n)
@[simp] def MO.ll(d s:Nat):MO:=.o d (.ll s)
@[simp] def MO.cl(d f:Nat)(xs:V2):MO:=.o d (.cl f xs)
@[simp] def MO.xl(d f:Nat)(xs:V2):MO:=.o d (.xl f xs)
@[simp] def MO.bx(d s:Nat):MO:=.o d (.bx s)
@[simp] def MO.mk'(d:Nat)(n:Int):MO:=.o d (.mk n)
@[simp] def MO.st(k s t:Nat):MO:=.n (.st k s t)
@[simp] def Za.r(a:List MO)(k:V2)(c:Za):Za:=.seq (.reg a k) c
@[simp] def Za.we(a:List MO)(k:V2)(s x:Nat)(c:Za):Za:=.seq (.r a k (.cond (.s s) .skip (.exit x))) c
@[simp] def Za.wc(a:List MO)(k:V2)(s:Nat)(b c:Za):Za:=.seq (.r a k (.cond (.s s) b .skip)) c
@[simp] def AY.nt(s:Nat):AY:=.un .not (.s s)
@[simp] def AY.m(s:Nat):AY:=.mov (.s s)
@[simp] def AY.mn:AY:=.mov (.c (.t .nil))
@[simp] def AY.mq(b:Bool):AY:=.mov (.q b)
@[simp] def AY.an(s t:Nat):AY:=.pick (.s s) (.s t) (.q false)
@[simp] def AY.or(s t:Nat):AY:=.pick (.s s) (.q true) (.s t)
@[simp] def AY.al(l:V4):AY:=.alloc (l.map .t)
@[simp] def AY.b1(e s:Nat):AY:=.bslice e 1 1 [.z] [(0,.s s)]
@[simp] def AY.ap(e n b s t:Nat):AY:=.append e n b true (.s s) (.s t)
@[simp] def MO.nt(d s:Nat):MO:=.o d (.nt s)
@[simp] def MO.mn(d:Nat):MO:=.o d .mn
@[simp] def MO.mq(d:Nat)(b:Bool):MO:=.o d (.mq b)
@[simp] def MO.an(d s t:Nat):MO:=.o d (.an s t)
@[simp] def MO.or(d s t:Nat):MO:=.o d (.or s t)
@[simp] def Za.rq(d:Nat)(b:Bool):Za:=.r [.mq d b] [d] .ret
@[simp] def Za.rk(d:Nat)(n:Int):Za:=.r [.mk' d n] [d] .ret
@[simp] def Za.rm(t s d:Nat):Za:=.r [.m t s,.m d t] [d] .ret
@[simp] def Za.id(t i:Nat)(k:V2):Za:=.reg [.bk t .add i 1,.m i t] k
@[simp] def Za.ic(a i t:Nat)(k:V2):Za:=.reg [.m a i,.bk t .add a 1,.m i t] k
@[simp] def Za.fq(k:V2)(t i l x:Nat)(b c:Za):Za:=.r [.b t .lss i l] (k++[t]) (.seq (.cond (.s t) .skip (.exit x)) (.seq (.block (x+1) b) c))
@[simp] def Za.fr(k:V2)(t i l u x:Nat)(b:Za):Za:=.fq k t i l x b (.id u i k)
@[simp] def Za.lo(a:List MO)(k:V2)(n:Nat)(b:Za):Za:=.r a k (.block n (.loop k b))
@[simp] def Aax{n b:Nat}(h:n<=68719476736)(hb:b<=2048):n*b<=room:=Y8 (Nat.mul_le_mul h hb) Sm
@[simp] def Aay{n:Nat}(h:n<=68719476736):n<=room:=Y8 h Sm
def KY{α:Type}{c:α->V4}(h:∀x,(c x).all ZX=true)(xs:List α):(xs.map c).all (λx=>x.all ZX)=true:=by
 grind
@[simp] def tZ(xs:WL):(xs.map ic).all (λx=>x.all ZX)=true:=KY (λ_=>rfl) xs
@[simp] def t5(xs:List V5):(xs.map sc).all (λx=>x.all ZX)=true:=KY (λ_=>rfl) xs
@[simp] def t6(xs:List Bool):(xs.map bc).all (λx=>x.all ZX)=true:=KY (λ_=>rfl) xs
@[simp] def t7(k:IntKind)(xs:WL):(xs.map (kc k)).all (λx=>x.all ZX)=true:=KY (λ_=>rfl) xs
def KZ{α:Type}{c:α->V4}(h:∀x,(c x).all ZX=true)(xs:List α):xs.all ((λx=>x.all ZX) ∘ c)=true:=by
 grind
@[simp] def YV(xs:WL):xs.all ((λx=>x.all ZX) ∘ ic)=true:=KZ (λ_=>rfl) xs
@[simp] def YW(xs:List V5):xs.all ((λx=>x.all ZX) ∘ sc)=true:=KZ (λ_=>rfl) xs
@[simp] def YX(xs:List Bool):xs.all ((λx=>x.all ZX) ∘ bc)=true:=KZ (λ_=>rfl) xs
@[simp] def YY(k:IntKind)(xs:WL):xs.all ((λx=>x.all ZX) ∘ kc k)=true:=KZ (λ_=>rfl) xs
@[simp] def t8{α:Type}{p:α->Bool}{l:List α}{n:Nat}(h:l.all p=true):(l.take n).all p=true:=by
 grind
@[simp] def ZqY{α:Type}{p:α->Bool}{l:List α}{n:Nat}(h:l.all p=true):(l.drop n).all p=true:=by
 grind
@[simp] def t9{α:Type}{p:α->Bool}{l:List α}{n:Nat}{a:α}(h:l.all p=true)(ha:p a=true):(l.set n a).all p=true:=by
 grind
def X4{α:Type}{c:α->V4}(h:∀a b,c a=c b->a=b):∀{xs ys:List α},xs.map c=ys.map c↔xs=ys
 |[],[]=>by simp
 |[],_::_=>by simp
 |_::_,[]=>by simp
 |x::xs,y::ys=>by
  simp only[Yx,Tv,X4 h (xs:=xs) (ys:=ys)]
  grind
@[simp] def Aaz(xs ys:WL):xs.map ic=ys.map ic↔xs=ys:=X4 (by intro a b h;simpa using h)
@[simp] def AaA(xs ys:List V5):xs.map sc=ys.map sc↔xs=ys:=X4 (by intro a b h;simpa using h)
@[simp] def AaB(xs ys:List Bool):xs.map bc=ys.map bc↔xs=ys:=X4 (by intro a b h;simpa using h)
@[simp] def AaC(k:IntKind)(xs ys:WL):xs.map (kc k)=ys.map (kc k)↔xs=ys:=X4 (by intro a b h;simpa using h)
@[simp] def uA(xs ys:XV):xs.map AA=ys.map AA↔xs=ys:=X4 (by intro a b h;simpa using h)
@[simp] def YZ(xs ys:XV):xs.map (lc 1 ic)=ys.map (lc 1 ic)↔xs=ys:=X4 (by intro a b h;simpa using h)
def Im(b a:Prop):Prop:=a->b
def Bp{A B Q:Prop}(f:A->B->Q)(h:A/\B):Q:=f h.1 h.2
def Bq{a:Prop}{P:a->Prop}{B Q:Prop}(f:∀x,P x->B->Q)(h:(∃x,P x)/\B):Q:=h.1.elim λx hx=>f x hx h.2
def Br{α:Type}{P:α->Prop}{Q:Prop}(f:∀x,P x->Q)(h:∃x,P x):Q:=h.elim f
def AL{A B Q:Prop}(f:A->Q)(g:B->Q)(h:A\/B):Q:=h.elim f g
@[simp] def Pg{s:WL}{i j:Nat}{a:Int}(h:j<((s.map ic).set i [T.int .i64 a]).length):((s.map ic).set i [T.int .i64 a])[j]=[T.int .i64 ((s.set i a)[j]'(by simpa using h))]:=by
 have e:(s.map ic).set i [T.int .i64 a]=(s.set i a).map ic:=by rw[List.map_set];rfl
 simp only[e,List.getElem_map];rfl
@[simp] def I5{n i j:Nat}{z a:Int}(h:j<((List.replicate n [T.int .i64 z]).set i [T.int .i64 a]).length):((List.replicate n [T.int .i64 z]).set i [T.int .i64 a])[j]=[T.int .i64 (((List.replicate n z).set i a)[j]'(by simpa using h))]:=by
 grind
@[simp] def Ph{s:WL}{i:Nat}{a:Int}(h:i<(s.map ic++[[T.int .i64 a]]).length):(s.map ic++[[T.int .i64 a]])[i]=[T.int .i64 ((s++[a])[i]'(by simpa using h))]:=by
 have e:s.map ic++[[T.int .i64 a]]=(s++[a]).map ic:=by rw[CE];rfl
 simp only[e,List.getElem_map];rfl
@[simp] def FQ{α β:Type}(f:α->β)(l:List α):List.take l.length (l.map f)=l.map f:=Tu Om
def qB(c:Rs)(A B:Prop):Prop:=∃v,c=some (Bo v,[])/\if v=true then A else B
def qV(c:Rs)(A:Bool->Prop):Prop:=∃v,c=some (Bo v,[])/\A v
def qI(c:Rs)(A:Int->Prop):Prop:=∃v,c=some (I v,[])/\A v
def qH{α:Type}(l:List α)(i:Int)(A:α->Prop):Prop:=∃e,l[i.toNat]?=some e/\A e
def qG{α:Type}(l:List α)(i:Int)(A:α->Prop):Prop:=0<=i/\∃e,l[i.toNat]?=some e/\A e
def qO{α:Type}(n m:Nat)(c:α->V4)(x:Rs)(A:List α->Prop):Prop:=∃v,x=some (.own 0,[.arr n m true (v.map c)])/\A v
def qA{α:Type}(c:α->V4)(x:Rs)(A:α->Prop):Prop:=∃v,x=some (.agg ((c v).map .t),[])/\A v
def qS{α:Type}(c:α->V4)(x:Rs)(A:α->Bool->Prop):Prop:=∃v u,x=some (.tup [.agg ((c v).map .t),Bo u],[])/\A v u
def qb(b:Bool)(r:XS):Prop:=some (Bo b,[])=some r
def qi(n:Int)(r:XS):Prop:=some (I n,[])=some r
def qs:(∀c A B,qB c A B=∃v,c=some (Bo v,[])/\if v=true then A else B)/\(∀c A,qV c A=∃v,c=some (Bo v,[])/\A v)/\(∀c A,qI c A=∃v,c=some (I v,[])/\A v)/\(∀(α:Type) (l:List α) i A,qH l i A=∃e,l[i.toNat]?=some e/\A e)/\(∀(α:Type) (l:List α) i A,qG l i A=(0<=i/\∃e,l[i.toNat]?=some e/\A e))/\(∀(α:Type) n m (c:α->V4) x A,qO n m c x A=∃v,x=some (.own 0,[.arr n m true (v.map c)])/\A v)/\(∀(α:Type) (c:α->V4) x A,qA c x A=∃v,x=some (.agg ((c v).map .t),[])/\A v)/\(∀(α:Type) (c:α->V4) x A,qS c x A=∃v u,x=some (.tup [.agg ((c v).map .t),Bo u],[])/\A v u)/\(∀b r,qb b r=(some (Bo b,[])=some r))/\∀n r,qi n r=(some (I n,[])=some r) :=
 ⟨λ_ _ _=>rfl,λ_ _=>rfl,λ_ _=>rfl,λ_ _ _ _=>rfl,λ_ _ _ _=>rfl,λ_ _ _ _ _ _=>rfl,λ_ _ _ _=>rfl,λ_ _ _ _=>rfl,λ_ _=>rfl,λ_ _=>rfl⟩
def Za.sz:Za->Nat
 |.seq a b=>a.sz+b.sz+1
 |.cond _ a b=>a.sz+b.sz+1
 |.block _ b=>b.sz+1
 |.loop _ b=>b.sz+1
 |_=>1
def Za.at:Za->Nat->Za
 |c,0=>c
 |.seq a b,n+1=>if n<a.sz then a.at n else b.at (n-a.sz)
 |.cond _ a b,n+1=>if n<a.sz then a.at n else b.at (n-a.sz)
 |.block _ b,n+1=>b.at n
 |.loop _ b,n+1=>b.at n
 |c,_=>c
def Za.puts(l:List (Nat×Za)):Za->Nat->Za×Nat
 |.seq a b,k=>match l.lookup k with
  |some x=>(x,k+(a.sz+b.sz+1))
  |none=>match a.puts l (k+1)with
   |(a',i)=>match b.puts l i with
    |(b',j)=>(.seq a' b',j)
 |.cond c a b,k=>match l.lookup k with
  |some x=>(x,k+(a.sz+b.sz+1))
  |none=>match a.puts l (k+1)with
   |(a',i)=>match b.puts l i with
    |(b',j)=>(.cond c a' b',j)
 |.block n b,k=>match l.lookup k with
  |some x=>(x,k+(b.sz+1))
  |none=>match b.puts l (k+1)with
   |(b',j)=>(.block n b',j)
 |.loop n b,k=>match l.lookup k with
  |some x=>(x,k+(b.sz+1))
  |none=>match b.puts l (k+1)with
   |(b',j)=>(.loop n b',j)
 |c,k=>match l.lookup k with
  |some x=>(x,k+1)
  |none=>(c,k+1)
structure Ag (o:Option Ab) where
 m:Ab
 h:o=some m:=by conv=>lhs;cbv
def AB(o:Option Ab){c:Ab}(_:o=some c:=by conv=>lhs;cbv):Ab:=c
def uB(r:Ab)(q:Nat)(l:List (Nat×Za)):Za:=(Za.puts l (r.body.at q) 0).1
def uC(r:Ab)(l:List (Nat×Za)):Ab:={ r with body:=(Za.puts l r.body 0).1 }
variable{o:Option Ab}(r:Ag o)(q:Nat)
def Aa{c:Za}(_:r.m.body.at q=c:=by conv=>lhs;cbv):Za:=c
def Av(a:Nat)(x:Za){c:Za->Za}(_:∀x,uB r.m q [(a,x)]=c x:=by intros;conv=>lhs;cbv):Za:=c x
def AD(a:Nat)(x:Za)(b:Nat)(y:Za){c:Za->Za->Za}(_:∀x y,uB r.m q [(a,x),(b,y)]=c x y:=by intros;conv=>lhs;cbv):Za:=c x y
def BM(a:Nat)(x:Za)(b:Nat)(y:Za)(d:Nat)(z:Za){c:Za->Za->Za->Za}(_:∀x y z,uB r.m q [(a,x),(b,y),(d,z)]=c x y z:=by intros;conv=>lhs;cbv):Za:=c x y z
def aA(a:Nat)(x:Za)(b:Nat)(y:Za)(d:Nat)(z:Za)(e:Nat)(u:Za){c:Za->Za->Za->Za->Za}(_:∀x y z u,uB r.m q [(a,x),(b,y),(d,z),(e,u)]=c x y z u:=by intros;conv=>lhs;cbv):Za:=c x y z u
def VY(a:Nat)(x:Za){c:Za->Ab}(_:∀x,uC r.m [(a,x)]=c x:=by intros;conv=>lhs;cbv):Ab:=c x
def Zs(a:Nat)(x:Za)(b:Nat)(y:Za){c:Za->Za->Ab}(_:∀x y,uC r.m [(a,x),(b,y)]=c x y:=by intros;conv=>lhs;cbv):Ab:=c x y
def aB(a:Nat)(x:Za)(b:Nat)(y:Za)(d:Nat)(z:Za){c:Za->Za->Za->Ab}(_:∀x y z,uC r.m [(a,x),(b,y),(d,z)]=c x y z:=by intros;conv=>lhs;cbv):Ab:=c x y z
def aC(a:Nat)(x:Za)(b:Nat)(y:Za)(d:Nat)(z:Za)(e:Nat)(u:Za){c:Za->Za->Za->Za->Ab}(_:∀x y z u,uC r.m [(a,x),(b,y),(d,z),(e,u)]=c x y z u:=by intros;conv=>lhs;cbv):Ab:=c x y z u
@[simp ↓] theorem AaD {o:Option Ab} {c:Ab} {h}:@AB o c h=c:=rfl
@[simp ↓] theorem uD {c:Za} {h}:@Aa o r q c h=c:=rfl
@[simp ↓] theorem uE {a x c h}:@Av o r q a x c h=c x:=rfl
@[simp ↓] theorem uF {a x b y c h}:@AD o r q a x b y c h=c x y:=rfl
@[simp ↓] theorem uG {a x b y d z c h}:@BM o r q a x b y d z c h=c x y z:=rfl
@[simp ↓] theorem uH {a x b y d z e u c h}:@aA o r q a x b y d z e u c h=c x y z u:=rfl
@[simp ↓] theorem aD {a x c h}:@VY o r a x c h=c x:=rfl
@[simp ↓] theorem aE {a x b y c h}:@Zs o r a x b y c h=c x y:=rfl
@[simp ↓] theorem aF {a x b y d z c h}:@aB o r a x b y d z c h=c x y z:=rfl
@[simp ↓] theorem aG {a x b y d z e u c h}:@aC o r a x b y d z e u c h=c x y z u:=rfl
end Go.AM
