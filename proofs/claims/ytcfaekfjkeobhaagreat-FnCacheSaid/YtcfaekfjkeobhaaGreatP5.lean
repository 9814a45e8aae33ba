/-
  Parts of the proofs for this seat: AMSx AMDel.
-/
import Derived.Test.YtcfaekfjkeobhaaGreatP1
import Derived.Test.YtcfaekfjkeobhaaGreatP4
set_option linter.unusedSectionVars false
set_option linter.unusedSimpArgs false
set_option linter.unusedVariables false
namespace Go.AM
abbrev Rs:=Option (AV×List Blk)
abbrev w(n:Int):Int:=IntKind.wrap .i64 n
def kc(k:IntKind)(n:Int):List T:=[.int k n]
def bc(b:Bool):List T:=[.bool b]
def lc{α:Type}(sz:Nat)(c:α->List T)(xs:List α):List T:=[.lst sz (xs.map c)]
@[simp] theorem kc_def(k:IntKind)(n:Int):kc k n=[.int k n]:=rfl
@[simp] theorem bc_def(b:Bool):bc b=[.bool b]:=rfl
@[simp] theorem lc_def{α:Type}(sz:Nat)(c:α->List T)(xs:List α):lc sz c xs=[.lst sz (xs.map c)]:=rfl
@[simp] theorem gt_nil(n:Nat):gt [] n=.dead:=by simp[gt]
theorem Zhn{C:Zy}{ks:List Fr}{s:S}{B c:MCode}(hB:B=c):Ev C ks B s=Ev C ks c s:=by rw[hB]
theorem Zb9{α:Type}{xs:List α}{i:Nat}{x:α}(h:xs[i]?=some x):i<xs.length:=(Yn.1 h).1
theorem Zcg{α:Type}{xs:List α}{i:Nat}{x:α}(h:xs[i]?=some x):xs[i]'(Zb9 h)=x:=(Yn.1 h).2
theorem Zem{n b:Nat}(h:n<=68719476736)(hb:b<=2048):n*b<=room:=Y0 (Nat.mul_le_mul h hb) (by decide)
theorem Zen{n:Nat}(h:n<=68719476736):n<=room:=Y0 h (by decide)
theorem itb{b:Bool}{A B:Prop}:(if b=true then A else B)=((b=true/\A)\/(b=false/\B)):=by cases b<;>simp
theorem itf{c:Prop}[Decidable c]{A B:Prop}:(if c then A else B)=(((c=True)/\A)\/((c=False)/\B)):=by by_cases h:c<;>simp[h]
theorem kA{n:Nat}:(0<(n:Int))=(0<n):=propext Int.natCast_pos
theorem kB{a b:Nat}:((a:Int)<(b:Int))=(a<b):=propext Int.ofNat_lt
theorem kC{a b:Nat}:((a:Int)<=(b:Int))=(a<=b):=propext Int.ofNat_le
theorem kD{a b:Nat}:((a:Int)=(b:Int))=(a=b):=propext Int.natCast_inj
theorem kE{n:Nat}:((n:Int)=0)=(n=0):=propext Int.natCast_eq_zero
theorem kF{α:Type}{l:List α}:(l.length=0)=(l=[]):=propext Yca
theorem gS{α:Type}{l:List α}{i:Nat}{a:α}:l[i]?=some a↔∃h:i<l.length,l[i]=a:=Yn
theorem kk:(∀n:Nat,(0<(n:Int))=(0<n))/\(∀a b:Nat,((a:Int)<(b:Int))=(a<b))/\(∀a b:Nat,((a:Int)<=(b:Int))=(a<=b))/\(∀a b:Nat,((a:Int)=(b:Int))=(a=b))/\(∀n:Nat,((n:Int)=0)=(n=0))/\∀(α:Type) (l:List α),(l.length=0)=(l=[]) :=
 ⟨λ_=>kA,λ_ _=>kB,λ_ _=>kC,λ_ _=>kD,λ_=>kE,λ_ _=>kF⟩
theorem mpl{α β:Type}(f:α->β):([].map f=[])/\(∀a l,(a::l).map f=f a::l.map f)/\(∀(l:List α) n,(l.take n).map f=(l.map f).take n)/\(∀(l:List α) n,(l.drop n).map f=(l.map f).drop n)/\(∀l k:List α,(l++k).map f=l.map f++k.map f)/\(∀(l:List α) n a,(l.set n a).map f=(l.map f).set n (f a))/\(∀n a,(List.replicate n a).map f=List.replicate n (f a)) :=
 ⟨rfl,λ_ _=>rfl,λ_ _=>List.map_take,λ_ _=>List.map_drop,λ_ _=>Ycf,λ_ _ _=>List.map_set,λ_ _=>List.map_replicate⟩
theorem dfs:(∀n,ic n=[.int .i64 n])/\(∀l,isc l=[.lst 1 (l.map ic)])/\(∀s,sc s=[.str s])/\(∀b,bc b=[.bool b])/\(∀k n,kc k n=[.int k n])/\(∀(α:Type) (sz:Nat) (c:α->List T) (xs:List α),lc sz c xs=[.lst sz (xs.map c)]) :=
 ⟨λ_=>rfl,λ_=>rfl,λ_=>rfl,λ_=>rfl,λ_ _=>rfl,λ_ _ _ _=>rfl⟩
@[simp] def MO.o(d:Nat)(k:MOp):MO:=⟨some d,none,k⟩
@[simp] def MO.m(d x:Nat):MO:=⟨some d,none,.mov (.s x)⟩
@[simp] def MO.g(d g:Nat)(k:MOp):MO:=⟨some d,some (g,true),k⟩
@[simp] def MO.h(d g:Nat)(k:MOp):MO:=⟨some d,some (g,false),k⟩
@[simp] def MO.n(k:MOp):MO:=⟨none,none,k⟩
@[simp] def Opd.k(n:Int):Opd:=.c (.t (.int .i64 n))
@[simp] def T.z:T:=.int .i64 0
@[simp] def AV.z:AV:=.t (.int .i64 0)
@[simp] def Opd.q(b:Bool):Opd:=.c (.t (.bool b))
@[simp] def MOp.l(s:Nat):MOp:=.load none (.s s)
@[simp] def MOp.ln(n s:Nat):MOp:=.load (some n) (.s s)
@[simp] def MOp.fa(k s:Nat):MOp:=.faddr k (.s s)
@[simp] def MOp.ia(k s t:Nat):MOp:=.iaddr k (.s s) (.s t)
@[simp] def MOp.b(p:BinOp)(s t:Nat):MOp:=.bin p (.s s) (.s t)
@[simp] def MOp.bk(p:BinOp)(s:Nat)(n:Int):MOp:=.bin p (.s s) (.k n)
@[simp] def MOp.ll(s:Nat):MOp:=.len false (.s s)
@[simp] def MOp.cl(f:Nat)(xs:List Nat):MOp:=.call f (xs.map .s)
@[simp] def MOp.xl(f:Nat)(xs:List Nat):MOp:=.xcall f (xs.map .s)
@[simp] def MOp.st(k s t:Nat):MOp:=.store k (.s s) (.s t)
@[simp] def MOp.bx(s:Nat):MOp:=.box (.s s)
@[simp] def MOp.mk(n:Int):MOp:=.mov (.k n)
@[simp] def MO.l(d s:Nat):MO:=.o d (.l s)
@[simp] def MO.ln(d n s:Nat):MO:=.o d (.ln n s)
@[simp] def MO.fa(d k s:Nat):MO:=.o d (.fa k s)
@[simp] def MO.ia(d k s t:Nat):MO:=.o d (.ia k s t)
@[simp] def MO.b(d:Nat)(p:BinOp)(s t:Nat):MO:=.o d (.b p s t)
@[simp] def MO.bk(d:Nat)(p:BinOp)(s:Nat)(n:Int):MO:=.o d (.bk p s n)
@[simp] def MO.ll(d s:Nat):MO:=.o d (.ll s)
@[simp] def MO.cl(d f:Nat)(xs:List Nat):MO:=.o d (.cl f xs)
@[simp] def MO.xl(d f:Nat)(xs:List Nat):MO:=.o d (.xl f xs)
@[simp] def MO.bx(d s:Nat):MO:=.o d (.bx s)
@[simp] def MO.mk'(d:Nat)(n:Int):MO:=.o d (.mk n)
@[simp] def MO.st(k s t:Nat):MO:=.n (.st k s t)
@[simp] def MCode.r(a:List MO)(k:List Nat)(c:MCode):MCode:=.seq (.reg a k) c
@[simp] def MCode.we(a:List MO)(k:List Nat)(s x:Nat)(c:MCode):MCode:=.seq (.r a k (.cond (.s s) .skip (.exit x))) c
@[simp] def MCode.wc(a:List MO)(k:List Nat)(s:Nat)(b c:MCode):MCode:=.seq (.r a k (.cond (.s s) b .skip)) c
@[simp] def MOp.nt(s:Nat):MOp:=.un .not (.s s)
@[simp] def MOp.m(s:Nat):MOp:=.mov (.s s)
@[simp] def MOp.mn:MOp:=.mov (.c (.t .nil))
@[simp] def MOp.mq(b:Bool):MOp:=.mov (.q b)
@[simp] def MOp.an(s t:Nat):MOp:=.pick (.s s) (.s t) (.q false)
@[simp] def MOp.or(s t:Nat):MOp:=.pick (.s s) (.q true) (.s t)
@[simp] def MOp.al(l:List T):MOp:=.alloc (l.map .t)
@[simp] def MOp.b1(e s:Nat):MOp:=.bslice e 1 1 [.z] [(0,.s s)]
@[simp] def MOp.ap(e n b s t:Nat):MOp:=.append e n b true (.s s) (.s t)
@[simp] def MO.nt(d s:Nat):MO:=.o d (.nt s)
@[simp] def MO.mn(d:Nat):MO:=.o d .mn
@[simp] def MO.mq(d:Nat)(b:Bool):MO:=.o d (.mq b)
@[simp] def MO.an(d s t:Nat):MO:=.o d (.an s t)
@[simp] def MO.or(d s t:Nat):MO:=.o d (.or s t)
@[simp] def MCode.rq(d:Nat)(b:Bool):MCode:=.r [.mq d b] [d] .ret
@[simp] def MCode.rk(d:Nat)(n:Int):MCode:=.r [.mk' d n] [d] .ret
@[simp] def MCode.rm(t s d:Nat):MCode:=.r [.m t s,.m d t] [d] .ret
@[simp] def MCode.id(t i:Nat)(k:List Nat):MCode:=.reg [.bk t .add i 1,.m i t] k
@[simp] def MCode.ic(a i t:Nat)(k:List Nat):MCode:=.reg [.m a i,.bk t .add a 1,.m i t] k
@[simp] def MCode.fq(k:List Nat)(t i l x:Nat)(b c:MCode):MCode:=.r [.b t .lss i l] (k++[t]) (.seq (.cond (.s t) .skip (.exit x)) (.seq (.block (x+1) b) c))
@[simp] def MCode.fr(k:List Nat)(t i l u x:Nat)(b:MCode):MCode:=.fq k t i l x b (.id u i k)
@[simp] def MCode.lo(a:List MO)(k:List Nat)(n:Nat)(b:MCode):MCode:=.r a k (.block n (.loop k b))
@[simp] theorem roomA'{n b:Nat}(h:n<=68719476736)(hb:b<=2048):n*b<=room:=Y0 (Nat.mul_le_mul h hb) (by decide)
@[simp] theorem roomB'{n:Nat}(h:n<=68719476736):n<=room:=Y0 h (by decide)
theorem Zk0{α:Type}{c:α->List T}(h:∀x,(c x).all Zbh=true)(xs:List α):(xs.map c).all (λx=>x.all Zbh)=true:=by
 rw[Ym];intro x hx;obtain⟨a,_,rfl⟩:=Y3.1 hx;exact h a
@[simp] theorem flat_ic(xs:List Int):(xs.map ic).all (λx=>x.all Zbh)=true:=Zk0 (λ_=>rfl) xs
@[simp] theorem flat_sc(xs:List ByteArray):(xs.map sc).all (λx=>x.all Zbh)=true:=Zk0 (λ_=>rfl) xs
@[simp] theorem flat_bc(xs:List Bool):(xs.map bc).all (λx=>x.all Zbh)=true:=Zk0 (λ_=>rfl) xs
@[simp] theorem flat_kc(k:IntKind)(xs:List Int):(xs.map (kc k)).all (λx=>x.all Zbh)=true:=Zk0 (λ_=>rfl) xs
theorem Zk1{α:Type}{c:α->List T}(h:∀x,(c x).all Zbh=true)(xs:List α):xs.all ((λx=>x.all Zbh) ∘ c)=true:=by
 rw[Ym];exact λx _=>h x
@[simp] theorem flat_ic'(xs:List Int):xs.all ((λx=>x.all Zbh) ∘ ic)=true:=Zk1 (λ_=>rfl) xs
@[simp] theorem flat_sc'(xs:List ByteArray):xs.all ((λx=>x.all Zbh) ∘ sc)=true:=Zk1 (λ_=>rfl) xs
@[simp] theorem flat_bc'(xs:List Bool):xs.all ((λx=>x.all Zbh) ∘ bc)=true:=Zk1 (λ_=>rfl) xs
@[simp] theorem flat_kc'(k:IntKind)(xs:List Int):xs.all ((λx=>x.all Zbh) ∘ kc k)=true:=Zk1 (λ_=>rfl) xs
@[simp] theorem all_take{α:Type}{p:α->Bool}{l:List α}{n:Nat}(h:l.all p=true):(l.take n).all p=true:=by
 rw[Ym]at h|-;exact λx hx=>h x (Yt hx)
@[simp] theorem all_drop{α:Type}{p:α->Bool}{l:List α}{n:Nat}(h:l.all p=true):(l.drop n).all p=true:=by
 rw[Ym]at h|-;exact λx hx=>h x (Y9 hx)
@[simp] theorem all_set{α:Type}{p:α->Bool}{l:List α}{n:Nat}{a:α}(h:l.all p=true)(ha:p a=true):(l.set n a).all p=true:=by
 rw[Ym]at h|-;intro x hx;rcases Yb4 hx with hx|rfl
 .exact h x hx
 .exact ha
theorem Zcq{α:Type}{c:α->List T}(h:∀a b,c a=c b->a=b):∀{xs ys:List α},xs.map c=ys.map c↔xs=ys
 |[],[]=>by simp
 |[],_::_=>by simp
 |_::_,[]=>by simp
 |x::xs,y::ys=>by
  simp only[Y2,List.cons.injEq,Zcq h (xs:=xs) (ys:=ys)];exact⟨λ⟨a,b⟩=>⟨h _ _ a,b⟩,λ⟨a,b⟩=>⟨by rw[a],b⟩⟩
@[simp] theorem map_ic(xs ys:List Int):xs.map ic=ys.map ic↔xs=ys:=Zcq (by intro a b h;simpa using h)
@[simp] theorem map_sc(xs ys:List ByteArray):xs.map sc=ys.map sc↔xs=ys:=Zcq (by intro a b h;simpa using h)
@[simp] theorem map_bc(xs ys:List Bool):xs.map bc=ys.map bc↔xs=ys:=Zcq (by intro a b h;simpa using h)
@[simp] theorem map_kc(k:IntKind)(xs ys:List Int):xs.map (kc k)=ys.map (kc k)↔xs=ys:=Zcq (by intro a b h;simpa using h)
@[simp] theorem map_isc(xs ys:List (List Int)):xs.map isc=ys.map isc↔xs=ys:=Zcq (by intro a b h;simpa using h)
@[simp] theorem map_lcic(xs ys:List (List Int)):xs.map (lc 1 ic)=ys.map (lc 1 ic)↔xs=ys:=Zcq (by intro a b h;simpa using h)
def Im(b a:Prop):Prop:=a->b
theorem anI{A B Q:Prop}(f:A->B->Q)(h:A/\B):Q:=f h.1 h.2
theorem anJ{a:Prop}{P:a->Prop}{B Q:Prop}(f:∀x,P x->B->Q)(h:(∃x,P x)/\B):Q:=h.1.elim λx hx=>f x hx h.2
theorem exI{α:Type}{P:α->Prop}{Q:Prop}(f:∀x,P x->Q)(h:∃x,P x):Q:=h.elim f
theorem orE2{A B Q:Prop}(f:A->Q)(g:B->Q)(h:A\/B):Q:=h.elim f g
@[simp] theorem getset_ic{s:List Int}{i j:Nat}{a:Int}(h:j<((s.map ic).set i [T.int .i64 a]).length):((s.map ic).set i [T.int .i64 a])[j]=[T.int .i64 ((s.set i a)[j]'(by simpa using h))]:=by
 have e:(s.map ic).set i [T.int .i64 a]=(s.set i a).map ic:=by rw[List.map_set];rfl
 simp only[e,List.getElem_map];rfl
@[simp] theorem getset_rep{n i j:Nat}{z a:Int}(h:j<((List.replicate n [T.int .i64 z]).set i [T.int .i64 a]).length):((List.replicate n [T.int .i64 z]).set i [T.int .i64 a])[j]=[T.int .i64 (((List.replicate n z).set i a)[j]'(by simpa using h))]:=by
 have e:(List.replicate n [T.int .i64 z]).set i [T.int .i64 a]=((List.replicate n z).set i a).map ic:=by rw[List.map_set,List.map_replicate];rfl
 simp only[e,List.getElem_map];rfl
@[simp] theorem getapp_ic{s:List Int}{i:Nat}{a:Int}(h:i<(s.map ic++[[T.int .i64 a]]).length):(s.map ic++[[T.int .i64 a]])[i]=[T.int .i64 ((s++[a])[i]'(by simpa using h))]:=by
 have e:s.map ic++[[T.int .i64 a]]=(s++[a]).map ic:=by rw[Ycf];rfl
 simp only[e,List.getElem_map];rfl
@[simp] theorem take_len_map{α β:Type}(f:α->β)(l:List α):List.take l.length (l.map f)=l.map f:=Ycv (by simp)
def qB(c:Rs)(A B:Prop):Prop:=∃v,c=some (Bo v,[])/\if v=true then A else B
def qV(c:Rs)(A:Bool->Prop):Prop:=∃v,c=some (Bo v,[])/\A v
def qI(c:Rs)(A:Int->Prop):Prop:=∃v,c=some (I v,[])/\A v
def qH{α:Type}(l:List α)(i:Int)(A:α->Prop):Prop:=∃e,l[i.toNat]?=some e/\A e
def qG{α:Type}(l:List α)(i:Int)(A:α->Prop):Prop:=0<=i/\∃e,l[i.toNat]?=some e/\A e
def qO{α:Type}(n m:Nat)(c:α->List T)(x:Rs)(A:List α->Prop):Prop:=∃v,x=some (.own 0,[.arr n m true (v.map c)])/\A v
def qA{α:Type}(c:α->List T)(x:Rs)(A:α->Prop):Prop:=∃v,x=some (.agg ((c v).map .t),[])/\A v
def qS{α:Type}(c:α->List T)(x:Rs)(A:α->Bool->Prop):Prop:=∃v u,x=some (.tup [.agg ((c v).map .t),Bo u],[])/\A v u
def qb(b:Bool)(r:AV×List Blk):Prop:=some (Bo b,[])=some r
def qi(n:Int)(r:AV×List Blk):Prop:=some (I n,[])=some r
theorem uq{P Q:Prop}(h:P)(e:P=Q:=by conv=>lhs;try dsimp only[qB,qV,qI,qH,qG,qO,qA,qS,qb,qi]):Q:=e▸h
theorem qs:(∀c A B,qB c A B=∃v,c=some (Bo v,[])/\if v=true then A else B)/\(∀c A,qV c A=∃v,c=some (Bo v,[])/\A v)/\(∀c A,qI c A=∃v,c=some (I v,[])/\A v)/\(∀(α:Type) (l:List α) i A,qH l i A=∃e,l[i.toNat]?=some e/\A e)/\(∀(α:Type) (l:List α) i A,qG l i A=(0<=i/\∃e,l[i.toNat]?=some e/\A e))/\(∀(α:Type) n m (c:α->List T) x A,qO n m c x A=∃v,x=some (.own 0,[.arr n m true (v.map c)])/\A v)/\(∀(α:Type) (c:α->List T) x A,qA c x A=∃v,x=some (.agg ((c v).map .t),[])/\A v)/\(∀(α:Type) (c:α->List T) x A,qS c x A=∃v u,x=some (.tup [.agg ((c v).map .t),Bo u],[])/\A v u)/\(∀b r,qb b r=(some (Bo b,[])=some r))/\∀n r,qi n r=(some (I n,[])=some r) :=
 ⟨λ_ _ _=>rfl,λ_ _=>rfl,λ_ _=>rfl,λ_ _ _ _=>rfl,λ_ _ _ _=>rfl,λ_ _ _ _ _ _=>rfl,λ_ _ _ _=>rfl,λ_ _ _ _=>rfl,λ_ _=>rfl,λ_ _=>rfl⟩
open Go.RowKit (Below)
variable{es:List (List T)}{i j:Nat}
theorem Zbqe(hij:i<=j):es.flatten=(es.take i).flatten++((es.take j).drop i).flatten++(es.drop j).flatten:=by
 rw[<-Ybf,<-Ybf];congr 1;have h1:es.take i=(es.take j).take i:=by rw[Ybk,Yw hij]
 rw[h1,Ybl,Ybl]
theorem del_rel{N:Par}{base:Nat}{ρ:Map}{w w':World}{el sz:Nat}{fr:Bool}(R:Rel N base ρ [.arr el sz fr es] w){r:Root}(hr:ρ 0=some r)(hdom:∀b,1<=b->ρ b=none)
  {g cap e':Nat} {cur:Array Value} (hrv:r.v=.slice (some ⟨g,0,none⟩) es.length cap) (hg:w.heap[g]?=some (.cells cur e' (0,0))) (hij:i<=j) (hj:j<=es.length) {zs:List Value} (hz:zs.length=(j-i)*sz) (hcs:∃c2,w'.heap[g]?=some (.cells c2 e' (0,0))/\c2.toList=cur.toList.take (i*sz)++(cur.toList.take (es.length*sz)).drop (j*sz)++zs++cur.toList.drop (es.length*sz))
  (hgr:w.grownBy w' (some g)) :
  ∃fp',Rel N base (updM ρ 1 ⟨.slice (some ⟨g,0,none⟩) (i+(es.length-j)) cap,fp',[]⟩) [.dead,.arr el sz fr (es.take i++es.drop j)] w'/\
   Keeps ρ w (Free N ρ [.arr el sz fr es]) (updM ρ 1 ⟨.slice (some ⟨g,0,none⟩) (i+(es.length-j)) cap,fp',[]⟩) w' (Free N (updM ρ 1 ⟨.slice (some ⟨g,0,none⟩) (i+(es.length-j)) cap,fp',[]⟩) [.dead,.arr el sz fr (es.take i++es.drop j)])/\
   ∀g,g<w.heap.size->¬N.a g->w'.heap[g]?=w.heap[g]?:=by
 have hb:gt [Blk.arr el sz fr es] 0=.arr el sz fr es:=by simp[gt]
 have hd:gt [Blk.arr el sz fr es] 0≠.dead:=by rw[hb];intro hc;cases hc
 obtain⟨r1,h1,h2⟩:=R.blk 0 hd;rw[hr]at h1;cases h1;rw[hb]at h2;obtain⟨hex,e2,xs,hel,ho,hsz,hlen,htr,hfree,hfr,how⟩:=h2;obtain⟨hxl,ho⟩:=ho;rcases ho with⟨ho,_⟩|⟨g2,cap2,cur2,ho,hbg,hg2,hcap,hcm,hcur,htake⟩
 .rw[hrv]at ho;cases ho
 rw[hrv]at ho;cases ho;rw[hg]at hg2;cases hg2;have hblk:Zbm r.v=some g:=by rw[hrv];rfl
 have hmul:j*sz<=es.length*sz:=Y5 _ hj;have hmul1:i*sz<=j*sz:=Y5 _ hij;have hmul2:es.length*sz<=cap*sz:=Y5 _ hcap;have hms:(j-i)*sz=j*sz-i*sz:=Nat.sub_mul _ _ _;have hms2:(i+(es.length-j))*sz=i*sz+(es.length*sz-j*sz):=by rw[Yba,Nat.sub_mul]
 have hcut:=Zbqe (es:=es) hij;rw[hcut]at htr how;obtain⟨fa,fb,fc,hfp,hnew⟩:=htr.splice (ts:=[]) (ys:=[]) (fq:=[]) .nil;have hnewo:fr=true->_:=λhff=>(how hff).splice (ts:=[]) (ys:=[]) .nil
 have hAl:(es.take i).flatten.length=i*sz:=by
  rw[Zey λx hx=>hlen x (Yt hx),Yo];rw[Yw (by omega)]
 have hBl:((es.take j).drop i).flatten.length=(j-i)*sz:=by
  rw[Zey λx hx=>hlen x (Yt (Y9 hx)),Y7,Yo,Yw hj]
 rw[hAl,hBl,show i*sz+(j-i)*sz=j*sz by omega,Ybd,Ybd,<-Ybf,Ybd]at hnew;simp only[hAl,hBl,show i*sz+(j-i)*sz=j*sz by omega,Ybd,<-Ybf]at hnewo;have hlt1:=htr.lt;have hgx:∀g∈fa++fc,g∈r.fp:=by
  intro x hx;rw[hfp];simp only[Yh]at hx|-;rcases hx with hx|hx
  .exact .inl (.inl hx)
  .exact .inr hx
 have hset:∀x∈es.take i++es.drop j,x.length=sz:=by
  intro x hx;rcases Yh.1 hx with hx|hx
  .exact hlen x (Yt hx)
  .exact hlen x (Y9 hx)
 have hln:(es.take i++es.drop j).length=i+(es.length-j):=by
  rw[Yj,Yo,Y7,Yw (by omega)]
 obtain⟨c2,hg2,hc2⟩:=hcs;have hup:upd [Blk.arr el sz fr es] (kill [0]++[(1,.arr el sz fr (es.take i++es.drop j))])=[.dead,.arr el sz fr (es.take i++es.drop j)]:=by simp[upd,kill,stB]
 have hp:=Zhj R (n:=1) (ks:=[0]) (x:=.arr el sz fr (es.take i++es.drop j)) (r:=⟨.slice (some ⟨g,0,none⟩) (i+(es.length-j)) cap,fa++fc,[]⟩) (row:=some g) (w':=w')
  (by intro r0 h0;rw[hdom 1 (Ye _)]at h0;cases h0) hgr
  (by intro g' hg';cases hg';exact⟨0,.inl (by simp),r,hr,hd,.inl hblk⟩)
  (by intro g' hg';cases hg';exact .inr ⟨0,.inl (by simp),r,hr,hd,.inl hblk⟩)
  (λhk=>by
   have hall:∀g'∈fa++fc,Free N (updM ρ 1 ⟨.slice (some ⟨g,0,none⟩) (i+(es.length-j)) cap,fa++fc,[]⟩) (upd [Blk.arr el sz fr es] (kill [0]++[(1,.arr el sz fr (es.take i++es.drop j))])) g'/\w'.heap[g']?=w.heap[g']?:=λg' hg'=>hk.free g' (hlt1 g' (hgx g' hg')) (hfree g' (hgx g' hg'))
   refine⟨rfl,e',xs.take (i*sz)++xs.drop (j*sz),hel,⟨?_,.inr ⟨g,cap,c2,by rw[hln],hbg,hg2,by rw[hln];omega,hcm,?_,?_⟩⟩,hsz,hset,hnew.frame λg' hg'=>(hall g' hg').2,λg' hg'=>(hall g' hg').1,?_,λhff=>(hnewo hff).frame hnew λg' hg'=>(hall g' hg').2⟩
   .rw[hln,Yj,Yo,Y7,hxl];omega
   .rw[<-Ys,hc2];simp only[Yj,Yo,Y7,Ys,hcur,hz];omega
   .rw[hc2,hln,<-htake,Yz,Yz];have e1:(cur.toList.take (es.length*sz)).take (i*sz)=cur.toList.take (i*sz):=by rw[Ybk];congr 1;omega
    rw[e1,<-Yz];exact Ych (by simp only[Yj,Yo,Y7,Ys,hcur];omega)
   .intro hff;have h1:=hfr hff;refine⟨?_,λx hx=>h1.2 x (hgx x hx)⟩;have h3:=h1.1;rw[hfp]at h3;rw[Y1,Y1]at h3;rw[Y1]
    exact⟨h3.1.1,h3.2.1,λx hx y hy=>h3.2.2 x (by simp[hx]) y hy⟩)
  (by
   intro hff x hx d rd hdk hdn hrd hfd
   cases d with
   |zero=>simp at hdk
   |succ d=>rw[hdom (d+1) (by omega)]at hrd;cases hrd)
 rw[hup]at hp;exact⟨fa++fc,hp⟩
end Go.AM
