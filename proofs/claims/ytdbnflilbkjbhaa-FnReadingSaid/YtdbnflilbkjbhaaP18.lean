/-
  Parts of the proofs for this seat: XQ TB.
-/
import Derived.Test.YtdbnflilbkjbhaaP16
import Derived.Test.YtdbnflilbkjbhaaP17
set_option linter.unusedSectionVars false
set_option linter.unusedSimpArgs false
set_option linter.unusedVariables false
set_option maxRecDepth 100000
set_option maxHeartbeats 4000000
namespace Go.Proofs.Ytdbnflilbkjbhaa
open Go.AM
theorem wN(n:Nat)(h:n<=1000000000000):w ((n:Int)+1)=((n+1:Nat):Int):=by
 rw[w_id (by omega) (by omega)];omega
theorem Zbbo(n:Int):Zlu n=some (Bo false,[]):=by
 refine Z9z ⟨_,Zcl _ _ _,?_⟩;rcases tf (inR n 1 4)with h|h
 .rw[h,if_neg (by simp)]
 .rw[h,if_pos rfl];exact⟨_,Zcl _ _ _,by rw[if_neg (by decide)]⟩
def AtB(k:Nat)(x:List Atom):Prop:=x.length<=k/\∀a∈x,a.Vars.length<=1000
theorem AtB.le{k:Nat}{x:List Atom}(h:AtB k x)(hk:k<=1000000000)(n:Int):LeQ ⟨n,x⟩:=⟨by show x.length<=_;have:=h.1;omega,λa ha=>by have:=h.2 a ha;show a.Vars.length<=_;omega⟩
theorem AtB.add{k:Nat}{x:List Atom}(h:AtB k x)(s:ByteArray)(vs:List Int)(hv:vs.length<=1000):AtB (k+1) (x++[⟨s,vs⟩]):=by
 refine⟨by have:=h.1;simp;omega,λa ha=>?_⟩;rcases Yc.1 ha with ha|ha
 .exact h.2 a ha
 .simp at ha;subst ha;exact hv
theorem AtB.one(k:Nat)(s:ByteArray)(vs:List Int)(hv:vs.length<=1000):AtB (k+1) [⟨s,vs⟩]:=⟨by simp,λa ha=>by simp at ha;subst ha;exact hv⟩
def GW(R:Rs):Prop:=∃(c:Za) (n:Int) (x:List Atom),R=some (.agg [I n,.own 1],[cB c,.xarr Zwj 2 (x.map Atom.c)])/\GC c/\Zs n x=true
theorem GW.of{R R':Rs}(h:GW R')(k:∀r,R'=some r->R=some r):GW R:=by
 obtain⟨c,n,x,e,l⟩:=h;exact⟨c,n,x,k _ e,l⟩
section
variable(vc v1:Int)(x:List Atom)
theorem q0c(b:Nat)(hb:b<=1000)(x1:List Atom)(hx:AtB b x1)(n:Nat)(hn:n<=100)(m:Nat)(hm:m<=3)(H:∀c n2 x',GC c->AtB (b+1) x'->GW (Zcz c vc v1 x n2 x' n))(nm:ByteArray):∀i,i<=m->∀c n2 vs v,GC c->vs.length<=i->GW (Zii c vc v1 x n2 x1 nm vs ((n+1:Nat):Int) m v i):=by
 refine down _ ?_ ?_
 .intro c n2 vs v g hvs;refine(H c n2 (x1++[(⟨nm,vs⟩:Atom)]) g (hx.add nm vs (by omega))).of λr e=>Z04 ?_
  rw[if_neg (by omega),show w (((n+1:Nat):Int)-1)=(n:Int) by rw[w_id (by omega) (by omega)];omega];refine⟨by have:=hx.1;omega,?_⟩;exact e
 .intro i hi ih c n2 vs v g hvs;refine(ih c (if n2<(w (v+1))then(w (v+1))else n2) (vs++[v]) (Int.tmod (w (v+1)) 4) g (by simp;omega)).of λr e=>Z04 ?_
  rw[if_pos (by omega),wN i (by omega)];exact⟨by omega,e⟩
theorem q0b(b:Nat)(hb:b<=1000)(x1:List Atom)(hx:AtB b x1)(n:Nat)(hn:n<=100)(m:Nat)(hm:m<=3)(H:∀c n2 x',GC c->AtB (b+1) x'->GW (Zcz c vc v1 x n2 x' n))(nm:ByteArray)(c:Za)(n2 v:Int)(g:GC c):GW (Zlx c vc v1 x n2 x1 nm ((n+1:Nat):Int) m v 0):=by
 by_cases h:0<m
 .refine(q0c vc v1 x b hb x1 hx n hn m hm H nm 1 h c (if n2<(w (v+1))then(w (v+1))else n2) [v] (Int.tmod (w (v+1)) 4) g (by simp)).of λr e=>Z03 ?_
  rw[if_pos (by omega),show w ((0:Int)+1)=((1:Nat):Int)from by decide];exact e
 .refine(H c n2 (x1++[(⟨nm,[]⟩:Atom)]) g (hx.add nm [] (by simp))).of λr e=>Z03 ?_
  rw[if_neg (by omega),show w (((n+1:Nat):Int)-1)=(n:Int) by rw[w_id (by omega) (by omega)];omega];refine⟨by have:=hx.1;omega,?_⟩;exact e
theorem q0a(b:Nat)(hb:b<=1000)(n:Nat)(hn:n<=100)(m:Nat)(hm:m<=3)(H:∀c n2 x',GC c->AtB (b+1) x'->GW (Zcz c vc v1 x n2 x' n))(nm:ByteArray):∀i,i<=m->∀c n2 vs v,GC c->vs.length<=i->GW (Zih c vc v1 x n2 nm vs ((n+1:Nat):Int) m v i):=by
 refine down _ ?_ ?_
 .intro c n2 vs v g hvs;refine(H c n2 [(⟨nm,vs⟩:Atom)] g (AtB.one b nm vs (by omega))).of λr e=>Z02 ?_
  rw[if_neg (by omega),show w (((n+1:Nat):Int)-1)=(n:Int) by rw[w_id (by omega) (by omega)];omega];exact e
 .intro i hi ih c n2 vs v g hvs;refine(ih c (if n2<(w (v+1))then(w (v+1))else n2) (vs++[v]) (Int.tmod (w (v+1)) 4) g (by simp;omega)).of λr e=>Z02 ?_
  rw[if_pos (by omega),wN i (by omega)];exact⟨by omega,e⟩
theorem q0(b:Nat)(hb:b<=1000)(n:Nat)(hn:n<=100)(m:Nat)(hm:m<=3)(H:∀c n2 x',GC c->AtB (b+1) x'->GW (Zcz c vc v1 x n2 x' n))(nm:ByteArray)(c:Za)(n2 v:Int)(g:GC c):GW (Zlw c vc v1 x n2 nm ((n+1:Nat):Int) m v 0):=by
 by_cases h:0<m
 .refine(q0a vc v1 x b hb n hn m hm H nm 1 h c (if n2<(w (v+1))then(w (v+1))else n2) [v] (Int.tmod (w (v+1)) 4) g (by simp)).of λr e=>Z01 ?_
  rw[if_pos (by omega),show w ((0:Int)+1)=((1:Nat):Int)from by decide];exact e
 .refine(H c n2 [(⟨nm,[]⟩:Atom)] g (AtB.one b nm [] (by simp))).of λr e=>Z01 ?_
  rw[if_neg (by omega),show w (((n+1:Nat):Int)-1)=(n:Int) by rw[w_id (by omega) (by omega)];omega];exact e
theorem tab5{n:Int}(h0:0<=n)(h1:n<5):(∃e2,([(⟨#[114]⟩:ByteArray),(⟨#[115]⟩:ByteArray),(⟨#[116]⟩:ByteArray),(⟨#[117]⟩:ByteArray),(⟨#[118]⟩:ByteArray)])[n.toNat]?=some e2)/\∃m:Nat,([2,2,2,3,1]:List Int)[n.toNat]?=some (m:Int)/\m<=3:=by
 obtain⟨k,rfl⟩:∃k:Nat,n=k:=⟨n.toNat,by omega⟩;have hk:k=0\/k=1\/k=2\/k=3\/k=4:=by omega
 rcases hk with rfl|rfl|rfl|rfl|rfl
 .exact⟨⟨_,rfl⟩,2,rfl,by omega⟩
 .exact⟨⟨_,rfl⟩,2,rfl,by omega⟩
 .exact⟨⟨_,rfl⟩,2,rfl,by omega⟩
 .exact⟨⟨_,rfl⟩,3,rfl,by omega⟩
 .exact⟨⟨_,rfl⟩,1,rfl,by omega⟩
theorem q1a(hx:Zs v1 x=true):∀n,n<=100->∀c n2 x1,GC c->AtB (100-n) x1->GW (Zcz c vc v1 x n2 x1 n):=by
 intro n
 induction n with
 |zero =>
  intro _ c n2 x1 g hx1;have hq:=hx1.le (by omega) n2;rcases tf (Zs n2 x1)with hv|hv
  .refine⟨c,v1,x,Zss ?_,g,hx⟩;rw[if_neg (by omega)];exact⟨_,Zju _ hq,by rw[show Zs (⟨n2,x1⟩:Zb).Zp (⟨n2,x1⟩:Zb).Atoms=false from hv,if_neg (by simp)]⟩
  .refine⟨c,n2,x1,Zss ?_,g,hv⟩;rw[if_neg (by omega)]
   exact⟨_,Zju _ hq,by rw[show Zs (⟨n2,x1⟩:Zb).Zp (⟨n2,x1⟩:Zb).Atoms=true from hv,if_pos rfl]⟩
 |succ n ih =>
  intro hn c n2 x1 g hx1;obtain⟨c1,k,e1,g1,k0,k1⟩:=Z7 g 5;obtain⟨⟨nm,t1⟩,m,t2,hm⟩:=tab5 k0 (k1 (by omega));obtain⟨c2,v,e2,g2,_⟩:=Z7 g1 4;refine(q0b vc v1 x (100-(n+1)) (by omega) x1 hx1 n (by omega) m hm (λc n2 x' g hx'=>ih (by omega) c n2 x' g (by rw[show 100-n=100-(n+1)+1 by omega];exact hx')) nm c2 n2 v g2).of λr e=>Zss ?_
  rw[if_pos (by omega)];exact⟨c1,k,e1,k0,nm,t1,m,t2,c2,v,e2,e⟩
theorem q1(hx:Zs v1 x=true)(n:Nat)(hn:n<=99)(c:Za)(n2:Int)(g:GC c):GW (Zlv c vc v1 x n2 n):=by
 cases n with
 |zero =>
  refine⟨c,v1,x,Z00 ?_,g,hx⟩;rw[if_neg (by omega)]
  exact⟨_,Zbbo n2,by rw[if_neg (by simp)]⟩
 |succ n =>
  obtain⟨c1,k,e1,g1,k0,k1⟩:=Z7 g 5;obtain⟨⟨nm,t1⟩,m,t2,hm⟩:=tab5 k0 (k1 (by omega));obtain⟨c2,v,e2,g2,_⟩:=Z7 g1 4;refine(q0 vc v1 x (99-n) (by omega) n (by omega) m hm (λc n2 x' g hx'=>q1a vc v1 x hx n (by omega) c n2 x' g (by rw[show 100-n=99-n+1 by omega];exact hx')) nm c2 n2 v g2).of λr e=>Z00 ?_
  rw[if_pos (by omega)];exact⟨c1,k,e1,k0,nm,t1,m,t2,c2,v,e2,e⟩
end
theorem Z2e{c:Za}(g:GC c):GW (Zig c):=by
 obtain⟨c1,s,e1,g1,hs⟩:=Z2a g knownQ (by simp) (by simp);obtain⟨n,x,e2,hx⟩:=Zbbn s hs;obtain⟨c3,b3,e3,g3⟩:=Zej g1 4;rcases tf b3 with hb|hb
 .subst hb;exact⟨c3,n,x,Z05 ⟨c1,_,s,e1,x,n,true,e2,c3,false,e3,by rw[if_neg (by simp)]⟩,g3,hx⟩
 .subst hb;obtain⟨c4,k,e4,g4,k0,k1⟩:=Z7 g3 4;have k4:=k1 (by omega);refine(q1 0 n x hx (1+k).toNat (by omega) c4 0 g4).of λr e=>Z05 ⟨c1,_,s,e1,x,n,true,e2,c3,true,e3,?_⟩
  rw[if_pos rfl];refine⟨c4,k,e4,?_⟩;rw[show w (1+k)=(((1+k).toNat:Nat):Int) by rw[w_id (by omega) (by omega)];omega];exact e
def GA(R:Rs):Prop:=∃(c:Za) (n:Int) (x:List Atom),R=some (.agg [I n,.own 1],[cB c,.xarr Zwj 2 (x.map Atom.c)])/\GC c/\LeQ ⟨n,x⟩
theorem Zs9{n n':Int}{x:List Atom}(h:Zs n x=true):LeQ ⟨n',x⟩:=⟨by have:=Zdv h;show x.length<=_;omega,λa ha=>by have:=Zp6 h a ha;show a.Vars.length<=_;omega⟩
theorem x_l7Any{c:Za}(g:GC c):GA (Zl4 c):=by
 obtain⟨c1,n,x,e1,g1,hv⟩:=Z2e g;have hl:=Zdv hv;have hvv:=Zp6 hv;obtain⟨c2,k,e2,g2,_⟩:=Z7 g1 14;by_cases h0:k=0
 .obtain⟨c3,v,e3,g3,_⟩:=Zd1 g2 [0,5,w (n+1),9223372036854775807] (by simp) (by simp);exact⟨c3,v,x,Zmk ⟨c1,x,n,e1,c2,k,e2,by rw[if_pos h0];exact⟨c3,_,v,e3,rfl⟩⟩,g3,Zs9 hv⟩
 by_cases h1:k=1
 .obtain⟨c3,v,e3,g3,_⟩:=Z2a g2 [(⟨#[]⟩:ByteArray),(⟨#[119]⟩:ByteArray),(⟨#[114]⟩:ByteArray)] (by simp) (by simp);refine⟨c3,n,x++[(⟨v,[0]⟩:Atom)],Zmk ⟨c1,x,n,e1,c2,k,e2,by rw[if_neg h0,if_pos h1];exact⟨c3,_,v,e3,by omega,rfl⟩⟩,g3,?_,?_⟩
  .show(x++[_]).length<=_;simp;omega
  .intro a ha;rcases Yc.1 ha with ha|ha
   .have:=hvv a ha;show a.Vars.length<=_;omega
   .simp at ha;subst ha;simp
 obtain⟨a,l,rfl⟩:∃a l,x=a::l:=by
  cases x with
  |nil=>simp at hl
  |cons a l=>exact⟨a,l,rfl⟩
 have ha:=hvv a (by simp);have hset:∀vs:List Int,Le vs->LeQ ⟨n,(⟨a.Name,vs⟩:Atom)::l⟩:=by
  intro vs hvs;refine⟨by show(_::l).length<=_;simp at hl|-;omega,λb hb=>?_⟩;rcases Yr.1 hb with hb|hb
  .subst hb;exact hvs
  .have:=hvv b (by simp[hb]);show b.Vars.length<=_;omega
 by_cases h2:k=2
 .exact⟨c2,n,(⟨a.Name,[]⟩:Atom)::l,Zmk ⟨c1,_,n,e1,c2,k,e2,by rw[if_neg h0,if_neg h1,if_pos h2];exact⟨a,rfl,rfl⟩⟩,g2,hset [] (by simp)⟩
 by_cases h3:k=3
 .obtain⟨c3,v,e3,g3,_⟩:=Zd1 g2 [(-1),4,1] (by simp) (by simp);obtain⟨y,t,hy⟩:∃y t,a.Vars=y::t:=by
   cases hh:a.Vars with
   |nil=>rw[hh]at ha;simp at ha
   |cons y t=>exact⟨y,t,rfl⟩
  refine⟨c3,n,(⟨a.Name,(y::t).set 0 v⟩:Atom)::l,Zmk ⟨c1,_,n,e1,c2,k,e2,by rw[if_neg h0,if_neg h1,if_neg h2,if_pos h3];exact⟨a,rfl,y,t,hy,c3,_,v,e3,y,rfl,rfl⟩⟩,g3,hset _ ?_⟩
  have:(y::t).length=a.Vars.length:=by rw[hy]
  show((y::t).set 0 v).length<=_;rw[Ybd,this];omega
 .exact⟨c2,n,a::l,Zmk ⟨c1,_,n,e1,c2,k,e2,by rw[if_neg h0,if_neg h1,if_neg h2,if_neg h3]⟩,g2,Zs9 hv⟩
theorem Z2f(a:Int):Zjn a=some (.agg [.own 0],[.arr 105 3 true (([(⟨1,a,0⟩:Zf)]).map Zf.c)]):=Zbaa rfl
def Zb2(a b:List Zf)(k v:Int):List Zf:=a++b++[(⟨k,0,v⟩:Zf)]
def Zbh(a:List Zf)(v:Int):List Zf:=a++[(⟨2,0,v⟩:Zf)]
theorem Zj5(a b:Plan)(k v:Int)(ha:a.Steps.length<=1000)(hb:b.Steps.length<=1000):Zex a b k v=some (.agg [.own 0],[.arr 105 3 true ((Zb2 a.Steps b.Steps k v).map Zf.c)]) :=
 Zbab ⟨by omega,by omega,by omega,rfl⟩
theorem Zou(a:Plan)(v:Int)(ha:a.Steps.length<=1000):Zir a v=some (.agg [.own 0],[.arr 105 3 true ((Zbh a.Steps v).map Zf.c)]) :=
 Zbai ⟨by omega,by omega,rfl⟩
end Go.Proofs.Ytdbnflilbkjbhaa
