/-
  Parts of the proofs for this seat: AMSx.
-/
import Derived.Test.YtgnfoghkbpkgjaaGreatP4
set_option linter.unusedSimpArgs false
set_option linter.unusedVariables false
namespace Go.AM
abbrev Rs:=Option (AV×List Blk)
abbrev w(n:Int):Int:=IntKind.wrap .i64 n
def kc(k:IntKind)(n:Int):List T:=[.int k n]
def bc(b:Bool):List T:=[.bool b]
def lc{α:Type}(sz:Nat)(c:α->List T)(xs:List α):List T:=[.lst sz (xs.map c)]
@[simp] theorem kc_def(k:IntKind)(n:Int):kc k n=[.int k n]:=rfl
@[simp] theorem bc_def(b:Bool):bc b=[.bool b]:=rfl
@[simp] theorem lc_def{α:Type}(sz:Nat)(c:α->List T)(xs:List α):lc sz c xs=[.lst sz (xs.map c)]:=rfl
@[simp] theorem gt_nil(n:Nat):gt [] n=.dead:=by simp[gt]
theorem Ev_eq{C:Zt}{ks:List Fr}{s:S}{B c:MCode}(hB:B=c):Ev C ks B s=Ev C ks c s:=by rw[hB]
theorem Zbx{α:Type}{xs:List α}{i:Nat}{x:α}(h:xs[i]?=some x):i<xs.length:=(Yy.1 h).1
theorem Zb0{α:Type}{xs:List α}{i:Nat}{x:α}(h:xs[i]?=some x):xs[i]'(Zbx h)=x:=(Yy.1 h).2
theorem roomA{n b:Nat}(h:n<=68719476736)(hb:b<=2048):n*b<=room:=Yo (Yby h hb) (by decide)
theorem roomB{n:Nat}(h:n<=68719476736):n<=room:=Yo h (by decide)
theorem itb{b:Bool}{A B:Prop}:(if b=true then A else B)=((b=true/\A)\/(b=false/\B)):=by cases b<;>simp
theorem itf{c:Prop}[Decidable c]{A B:Prop}:(if c then A else B)=(((c=True)/\A)\/((c=False)/\B)):=by by_cases h:c<;>simp[h]
theorem kA{n:Nat}:(0<(n:Int))=(0<n):=propext Yck
theorem kB{a b:Nat}:((a:Int)<(b:Int))=(a<b):=propext Ycl
theorem kC{a b:Nat}:((a:Int)<=(b:Int))=(a<=b):=propext Ycm
theorem kD{a b:Nat}:((a:Int)=(b:Int))=(a=b):=propext Ycn
theorem kE{n:Nat}:((n:Int)=0)=(n=0):=propext Yco
theorem kF{α:Type}{l:List α}:(l.length=0)=(l=[]):=propext Yb4
theorem gS{α:Type}{l:List α}{i:Nat}{a:α}:l[i]?=some a↔∃h:i<l.length,l[i]=a:=Yy
theorem kk:(∀n:Nat,(0<(n:Int))=(0<n))/\(∀a b:Nat,((a:Int)<(b:Int))=(a<b))/\(∀a b:Nat,((a:Int)<=(b:Int))=(a<=b))/\(∀a b:Nat,((a:Int)=(b:Int))=(a=b))/\(∀n:Nat,((n:Int)=0)=(n=0))/\∀(α:Type) (l:List α),(l.length=0)=(l=[]) :=
 ⟨λ_=>kA,λ_ _=>kB,λ_ _=>kC,λ_ _=>kD,λ_=>kE,λ_ _=>kF⟩
theorem mpl{α β:Type}(f:α->β):([].map f=[])/\(∀a l,(a::l).map f=f a::l.map f)/\(∀(l:List α) n,(l.take n).map f=(l.map f).take n)/\(∀(l:List α) n,(l.drop n).map f=(l.map f).drop n)/\(∀l k:List α,(l++k).map f=l.map f++k.map f)/\(∀(l:List α) n a,(l.set n a).map f=(l.map f).set n (f a))/\(∀n a,(List.replicate n a).map f=List.replicate n (f a)) :=
 ⟨rfl,λ_ _=>rfl,λ_ _=>List.map_take,λ_ _=>List.map_drop,λ_ _=>Ybm,λ_ _ _=>List.map_set,λ_ _=>Yd0⟩
theorem dfs:(∀n,ic n=[.int .i64 n])/\(∀l,isc l=[.lst 1 (l.map ic)])/\(∀s,sc s=[.str s])/\(∀b,bc b=[.bool b])/\(∀k n,kc k n=[.int k n])/\(∀(α:Type) (sz:Nat) (c:α->List T) (xs:List α),lc sz c xs=[.lst sz (xs.map c)]) :=
 ⟨λ_=>rfl,λ_=>rfl,λ_=>rfl,λ_=>rfl,λ_ _=>rfl,λ_ _ _ _=>rfl⟩
def MO.o(d:Nat)(k:MOp):MO:=⟨some d,none,k⟩
def MO.m(d x:Nat):MO:=⟨some d,none,.mov (.s x)⟩
def MO.g(d g:Nat)(k:MOp):MO:=⟨some d,some (g,true),k⟩
def MO.h(d g:Nat)(k:MOp):MO:=⟨some d,some (g,false),k⟩
def MO.n(k:MOp):MO:=⟨none,none,k⟩
def Opd.k(n:Int):Opd:=.c (.t (.int .i64 n))
@[simp] theorem MO.g_def(d g:Nat)(k:MOp):MO.g d g k=⟨some d,some (g,true),k⟩:=rfl
@[simp] theorem MO.h_def(d g:Nat)(k:MOp):MO.h d g k=⟨some d,some (g,false),k⟩:=rfl
@[simp] theorem MO.n_def(k:MOp):MO.n k=⟨none,none,k⟩:=rfl
@[simp] theorem Opd.k_def(n:Int):Opd.k n=.c (.t (.int .i64 n)):=rfl
@[simp] theorem MO.o_def(d:Nat)(k:MOp):MO.o d k=⟨some d,none,k⟩:=rfl
@[simp] theorem MO.m_def(d x:Nat):MO.m d x=⟨some d,none,.mov (.s x)⟩:=rfl
def T.z:T:=.int .i64 0
def AV.z:AV:=.t (.int .i64 0)
def Opd.q(b:Bool):Opd:=.c (.t (.bool b))
def MOp.l(s:Nat):MOp:=.load none (.s s)
def MOp.ln(n s:Nat):MOp:=.load (some n) (.s s)
def MOp.fa(k s:Nat):MOp:=.faddr k (.s s)
def MOp.ia(k s t:Nat):MOp:=.iaddr k (.s s) (.s t)
def MOp.b(p:BinOp)(s t:Nat):MOp:=.bin p (.s s) (.s t)
def MOp.bk(p:BinOp)(s:Nat)(n:Int):MOp:=.bin p (.s s) (.k n)
def MOp.ll(s:Nat):MOp:=.len false (.s s)
def MOp.cl(f:Nat)(xs:List Nat):MOp:=.call f (xs.map .s)
def MOp.xl(f:Nat)(xs:List Nat):MOp:=.xcall f (xs.map .s)
def MOp.st(k s t:Nat):MOp:=.store k (.s s) (.s t)
def MOp.bx(s:Nat):MOp:=.box (.s s)
def MOp.mk(n:Int):MOp:=.mov (.k n)
@[simp] theorem T.z_def:T.z=.int .i64 0:=rfl
@[simp] theorem AV.z_def:AV.z=.t (.int .i64 0):=rfl
@[simp] theorem Opd.q_def(b:Bool):Opd.q b=.c (.t (.bool b)):=rfl
@[simp] theorem MOp.l_def(s:Nat):MOp.l s=.load none (.s s):=rfl
@[simp] theorem MOp.ln_def(n s:Nat):MOp.ln n s=.load (some n) (.s s):=rfl
@[simp] theorem MOp.fa_def(k s:Nat):MOp.fa k s=.faddr k (.s s):=rfl
@[simp] theorem MOp.ia_def(k s t:Nat):MOp.ia k s t=.iaddr k (.s s) (.s t):=rfl
@[simp] theorem MOp.b_def(p:BinOp)(s t:Nat):MOp.b p s t=.bin p (.s s) (.s t):=rfl
@[simp] theorem MOp.bk_def(p:BinOp)(s:Nat)(n:Int):MOp.bk p s n=.bin p (.s s) (.c (.t (.int .i64 n))):=rfl
@[simp] theorem MOp.ll_def(s:Nat):MOp.ll s=.len false (.s s):=rfl
@[simp] theorem MOp.cl_def(f:Nat)(xs:List Nat):MOp.cl f xs=.call f (xs.map .s):=rfl
@[simp] theorem MOp.xl_def(f:Nat)(xs:List Nat):MOp.xl f xs=.xcall f (xs.map .s):=rfl
@[simp] theorem MOp.st_def(k s t:Nat):MOp.st k s t=.store k (.s s) (.s t):=rfl
@[simp] theorem MOp.bx_def(s:Nat):MOp.bx s=.box (.s s):=rfl
@[simp] theorem MOp.mk_def(n:Int):MOp.mk n=.mov (.c (.t (.int .i64 n))):=rfl
def MO.l(d s:Nat):MO:=.o d (.l s)
def MO.ln(d n s:Nat):MO:=.o d (.ln n s)
def MO.fa(d k s:Nat):MO:=.o d (.fa k s)
def MO.ia(d k s t:Nat):MO:=.o d (.ia k s t)
def MO.b(d:Nat)(p:BinOp)(s t:Nat):MO:=.o d (.b p s t)
def MO.bk(d:Nat)(p:BinOp)(s:Nat)(n:Int):MO:=.o d (.bk p s n)
def MO.ll(d s:Nat):MO:=.o d (.ll s)
def MO.cl(d f:Nat)(xs:List Nat):MO:=.o d (.cl f xs)
def MO.xl(d f:Nat)(xs:List Nat):MO:=.o d (.xl f xs)
def MO.bx(d s:Nat):MO:=.o d (.bx s)
def MO.mk'(d:Nat)(n:Int):MO:=.o d (.mk n)
def MO.st(k s t:Nat):MO:=.n (.st k s t)
@[simp] theorem MO.l_def(d s:Nat):MO.l d s=.o d (.l s):=rfl
@[simp] theorem MO.ln_def(d n s:Nat):MO.ln d n s=.o d (.ln n s):=rfl
@[simp] theorem MO.fa_def(d k s:Nat):MO.fa d k s=.o d (.fa k s):=rfl
@[simp] theorem MO.ia_def(d k s t:Nat):MO.ia d k s t=.o d (.ia k s t):=rfl
@[simp] theorem MO.b_def(d:Nat)(p:BinOp)(s t:Nat):MO.b d p s t=.o d (.b p s t):=rfl
@[simp] theorem MO.bk_def(d:Nat)(p:BinOp)(s:Nat)(n:Int):MO.bk d p s n=.o d (.bk p s n):=rfl
@[simp] theorem MO.ll_def(d s:Nat):MO.ll d s=.o d (.ll s):=rfl
@[simp] theorem MO.cl_def(d f:Nat)(xs:List Nat):MO.cl d f xs=.o d (.cl f xs):=rfl
@[simp] theorem MO.xl_def(d f:Nat)(xs:List Nat):MO.xl d f xs=.o d (.xl f xs):=rfl
@[simp] theorem MO.bx_def(d s:Nat):MO.bx d s=.o d (.bx s):=rfl
@[simp] theorem MO.mk'_def(d:Nat)(n:Int):MO.mk' d n=.o d (.mk n):=rfl
@[simp] theorem MO.st_def(k s t:Nat):MO.st k s t=.n (.st k s t):=rfl
def MCode.r(a:List MO)(k:List Nat)(c:MCode):MCode:=.seq (.reg a k) c
def MCode.we(a:List MO)(k:List Nat)(s x:Nat)(c:MCode):MCode:=.seq (.r a k (.cond (.s s) .skip (.exit x))) c
def MCode.wc(a:List MO)(k:List Nat)(s:Nat)(b c:MCode):MCode:=.seq (.r a k (.cond (.s s) b .skip)) c
@[simp] theorem MCode.r_def(a:List MO)(k:List Nat)(c:MCode):MCode.r a k c=.seq (.reg a k) c:=rfl
@[simp] theorem MCode.we_def(a:List MO)(k:List Nat)(s x:Nat)(c:MCode):MCode.we a k s x c=.seq (.r a k (.cond (.s s) .skip (.exit x))) c:=rfl
@[simp] theorem MCode.wc_def(a:List MO)(k:List Nat)(s:Nat)(b c:MCode):MCode.wc a k s b c=.seq (.r a k (.cond (.s s) b .skip)) c:=rfl
@[simp] theorem roomA'{n b:Nat}(h:n<=68719476736)(hb:b<=2048):n*b<=room:=Yo (Yby h hb) (by decide)
@[simp] theorem roomB'{n:Nat}(h:n<=68719476736):n<=room:=Yo h (by decide)
theorem Zg5{α:Type}{c:α->List T}(h:∀x,(c x).all Z8=true)(xs:List α):(xs.map c).all (λx=>x.all Z8)=true:=by
 rw[Yq];intro x hx;obtain⟨a,_,rfl⟩:=Y3.1 hx;exact h a
@[simp] theorem flat_ic(xs:List Int):(xs.map ic).all (λx=>x.all Z8)=true:=Zg5 (λ_=>rfl) xs
@[simp] theorem flat_sc(xs:List ByteArray):(xs.map sc).all (λx=>x.all Z8)=true:=Zg5 (λ_=>rfl) xs
@[simp] theorem flat_bc(xs:List Bool):(xs.map bc).all (λx=>x.all Z8)=true:=Zg5 (λ_=>rfl) xs
@[simp] theorem flat_kc(k:IntKind)(xs:List Int):(xs.map (kc k)).all (λx=>x.all Z8)=true:=Zg5 (λ_=>rfl) xs
theorem Zg6{α:Type}{c:α->List T}(h:∀x,(c x).all Z8=true)(xs:List α):xs.all ((λx=>x.all Z8) ∘ c)=true:=by
 rw[Yq];exact λx _=>h x
@[simp] theorem flat_ic'(xs:List Int):xs.all ((λx=>x.all Z8) ∘ ic)=true:=Zg6 (λ_=>rfl) xs
@[simp] theorem flat_sc'(xs:List ByteArray):xs.all ((λx=>x.all Z8) ∘ sc)=true:=Zg6 (λ_=>rfl) xs
@[simp] theorem flat_bc'(xs:List Bool):xs.all ((λx=>x.all Z8) ∘ bc)=true:=Zg6 (λ_=>rfl) xs
@[simp] theorem flat_kc'(k:IntKind)(xs:List Int):xs.all ((λx=>x.all Z8) ∘ kc k)=true:=Zg6 (λ_=>rfl) xs
@[simp] theorem all_take{α:Type}{p:α->Bool}{l:List α}{n:Nat}(h:l.all p=true):(l.take n).all p=true:=by
 rw[Yq]at h|-;exact λx hx=>h x (Y4 hx)
@[simp] theorem all_drop{α:Type}{p:α->Bool}{l:List α}{n:Nat}(h:l.all p=true):(l.drop n).all p=true:=by
 rw[Yq]at h|-;exact λx hx=>h x (Yb2 hx)
@[simp] theorem all_set{α:Type}{p:α->Bool}{l:List α}{n:Nat}{a:α}(h:l.all p=true)(ha:p a=true):(l.set n a).all p=true:=by
 rw[Yq]at h|-;intro x hx;rcases Ydb hx with hx|rfl
 .exact h x hx
 .exact ha
theorem Zcg{α:Type}{c:α->List T}(h:∀a b,c a=c b->a=b):∀{xs ys:List α},xs.map c=ys.map c↔xs=ys
 |[],[]=>by simp
 |[],_::_=>by simp
 |_::_,[]=>by simp
 |x::xs,y::ys=>by
  simp only[Yv,Ydz,Zcg h (xs:=xs) (ys:=ys)];exact⟨λ⟨a,b⟩=>⟨h _ _ a,b⟩,λ⟨a,b⟩=>⟨by rw[a],b⟩⟩
@[simp] theorem map_ic(xs ys:List Int):xs.map ic=ys.map ic↔xs=ys:=Zcg (by intro a b h;simpa using h)
@[simp] theorem map_sc(xs ys:List ByteArray):xs.map sc=ys.map sc↔xs=ys:=Zcg (by intro a b h;simpa using h)
@[simp] theorem map_bc(xs ys:List Bool):xs.map bc=ys.map bc↔xs=ys:=Zcg (by intro a b h;simpa using h)
@[simp] theorem map_kc(k:IntKind)(xs ys:List Int):xs.map (kc k)=ys.map (kc k)↔xs=ys:=Zcg (by intro a b h;simpa using h)
@[simp] theorem map_isc(xs ys:List (List Int)):xs.map isc=ys.map isc↔xs=ys:=Zcg (by intro a b h;simpa using h)
@[simp] theorem map_lcic(xs ys:List (List Int)):xs.map (lc 1 ic)=ys.map (lc 1 ic)↔xs=ys:=Zcg (by intro a b h;simpa using h)
def Im(b a:Prop):Prop:=a->b
theorem anI{A B Q:Prop}(f:A->B->Q)(h:A/\B):Q:=f h.1 h.2
theorem anJ{a:Prop}{P:a->Prop}{B Q:Prop}(f:∀x,P x->B->Q)(h:(∃x,P x)/\B):Q:=h.1.elim λx hx=>f x hx h.2
theorem exI{α:Type}{P:α->Prop}{Q:Prop}(f:∀x,P x->Q)(h:∃x,P x):Q:=h.elim f
theorem orE2{A B Q:Prop}(f:A->Q)(g:B->Q)(h:A\/B):Q:=h.elim f g
end Go.AM
