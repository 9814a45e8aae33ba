/-
  Parts of the proofs for this seat: XQ.
-/
import Derived.Test.YtgbipcfdgfjplaaGreatP20
import Derived.Test.YtgbipcfdgfjplaaGreatP21
set_option linter.unusedSectionVars false
set_option linter.unusedSimpArgs false
set_option linter.unusedVariables false
set_option maxRecDepth 100000
set_option maxHeartbeats 4000000
namespace Go.Proofs.YtgbipcfdgfjplaaGreat
open Go.AM
theorem wN(n:Nat)(h:n<=1000000000000):w ((n:Int)+1)=((n+1:Nat):Int):=by
 rw[XL (by omega) (by omega)];omega
theorem ZAf(n:Int):Zev n=some (Bo false,[]):=by
 refine Z6M _ _ ⟨_,XD _ _ _,?_⟩;rcases tf (inR n 1 4)with h|h
 .rw[h,Yb (by simp)]
 .rw[h,Ya rfl];exact⟨_,XD _ _ _,by rw[Yb (by decide)]⟩
def AtB(k:Nat)(x:List Zc):Prop:=x.length<=k/\∀a∈x,a.Vars.length<=1000
theorem AtB.le{k:Nat}{x:List Zc}(h:AtB k x)(hk:k<=1000000000)(n:Int):LeQ ⟨n,x⟩:=⟨by show x.length<=_;have:=h.1;omega,λa ha=>by have:=h.2 a ha;show a.Vars.length<=_;omega⟩
theorem AtB.add{k:Nat}{x:List Zc}(h:AtB k x)(s:V5)(vs:WA)(hv:vs.length<=1000):AtB (k+1) (x++[⟨s,vs⟩]):=by
 refine⟨by have:=h.1;simp;omega,λa ha=>?_⟩;rcases Yk.1 ha with ha|ha
 .exact h.2 a ha
 .simp at ha;subst ha;exact hv
theorem AtB.one(k:Nat)(s:V5)(vs:WA)(hv:vs.length<=1000):AtB (k+1) [⟨s,vs⟩]:=⟨by simp,λa ha=>by simp at ha;subst ha;exact hv⟩
def GW(R:Rs):Prop:=∃(c:Zf) (n:Int) (x:List Zc),R=some (.agg [I n,.own 1],[cB c,.xarr ZsO 2 (x.map Zc.c)])/\GC c/\Zu n x=true
theorem GW.of{R R':Rs}(h:GW R')(k:∀r,R'=some r->R=some r):GW R:=by
 obtain⟨c,n,x,e,l⟩:=h;exact⟨c,n,x,k _ e,l⟩
section
variable(vc v1:Int)(x:List Zc)
theorem q0c(b:Nat)(hb:b<=1000)(x1:List Zc)(hx:AtB b x1)(n:Nat)(hn:n<=100)(m:Nat)(hm:m<=3)(H:∀c n2 x',GC c->AtB (b+1) x'->GW (Ur c vc v1 x n2 x' n))(nm:V5):∀i,i<=m->∀c n2 vs v,GC c->vs.length<=i->GW (Ze2 c vc v1 x n2 x1 nm vs ((n+1:Nat):Int) m v i):=by
 refine down _ ?_ ?_
 .intro c n2 vs v g hvs;refine(H c n2 (x1++[(⟨nm,vs⟩:Zc)]) g (hx.add nm vs (by omega))).of λr e=>ZwY _ _ _ _ _ _ _ _ _ _ _ _ _ ?_
  rw[Yb (by omega),show w (((n+1:Nat):Int)-1)=(n:Int) by rw[XL (by omega) (by omega)];omega];refine⟨by have:=hx.1;omega,?_⟩;exact e
 .intro i hi ih c n2 vs v g hvs;refine(ih c (if n2<(w (v+1))then(w (v+1))else n2) (vs++[v]) (Int.tmod (w (v+1)) 4) g (by simp;omega)).of λr e=>ZwY _ _ _ _ _ _ _ _ _ _ _ _ _ ?_
  rw[Ya (by omega),wN i (by omega)];exact⟨by omega,e⟩
theorem q0b(b:Nat)(hb:b<=1000)(x1:List Zc)(hx:AtB b x1)(n:Nat)(hn:n<=100)(m:Nat)(hm:m<=3)(H:∀c n2 x',GC c->AtB (b+1) x'->GW (Ur c vc v1 x n2 x' n))(nm:V5)(c:Zf)(n2 v:Int)(g:GC c):GW (Ze1 c vc v1 x n2 x1 nm ((n+1:Nat):Int) m v 0):=by
 by_cases h:0<m
 .refine(q0c vc v1 x b hb x1 hx n hn m hm H nm 1 h c (if n2<(w (v+1))then(w (v+1))else n2) [v] (Int.tmod (w (v+1)) 4) g (by simp)).of λr e=>ZwX _ _ _ _ _ _ _ _ _ _ _ _ ?_
  rw[Ya (by omega),show w ((0:Int)+1)=((1:Nat):Int)from by decide];exact e
 .refine(H c n2 (x1++[(⟨nm,[]⟩:Zc)]) g (hx.add nm [] (by simp))).of λr e=>ZwX _ _ _ _ _ _ _ _ _ _ _ _ ?_
  rw[Yb (by omega),show w (((n+1:Nat):Int)-1)=(n:Int) by rw[XL (by omega) (by omega)];omega];refine⟨by have:=hx.1;omega,?_⟩;exact e
theorem q0a(b:Nat)(hb:b<=1000)(n:Nat)(hn:n<=100)(m:Nat)(hm:m<=3)(H:∀c n2 x',GC c->AtB (b+1) x'->GW (Ur c vc v1 x n2 x' n))(nm:V5):∀i,i<=m->∀c n2 vs v,GC c->vs.length<=i->GW (Ze0 c vc v1 x n2 nm vs ((n+1:Nat):Int) m v i):=by
 refine down _ ?_ ?_
 .intro c n2 vs v g hvs;refine(H c n2 [(⟨nm,vs⟩:Zc)] g (AtB.one b nm vs (by omega))).of λr e=>ZwW _ _ _ _ _ _ _ _ _ _ _ _ ?_
  rw[Yb (by omega),show w (((n+1:Nat):Int)-1)=(n:Int) by rw[XL (by omega) (by omega)];omega];exact e
 .intro i hi ih c n2 vs v g hvs;refine(ih c (if n2<(w (v+1))then(w (v+1))else n2) (vs++[v]) (Int.tmod (w (v+1)) 4) g (by simp;omega)).of λr e=>ZwW _ _ _ _ _ _ _ _ _ _ _ _ ?_
  rw[Ya (by omega),wN i (by omega)];exact⟨by omega,e⟩
theorem q0(b:Nat)(hb:b<=1000)(n:Nat)(hn:n<=100)(m:Nat)(hm:m<=3)(H:∀c n2 x',GC c->AtB (b+1) x'->GW (Ur c vc v1 x n2 x' n))(nm:V5)(c:Zf)(n2 v:Int)(g:GC c):GW (Zez c vc v1 x n2 nm ((n+1:Nat):Int) m v 0):=by
 by_cases h:0<m
 .refine(q0a vc v1 x b hb n hn m hm H nm 1 h c (if n2<(w (v+1))then(w (v+1))else n2) [v] (Int.tmod (w (v+1)) 4) g (by simp)).of λr e=>ZwV _ _ _ _ _ _ _ _ _ _ _ ?_
  rw[Ya (by omega),show w ((0:Int)+1)=((1:Nat):Int)from by decide];exact e
 .refine(H c n2 [(⟨nm,[]⟩:Zc)] g (AtB.one b nm [] (by simp))).of λr e=>ZwV _ _ _ _ _ _ _ _ _ _ _ ?_
  rw[Yb (by omega),show w (((n+1:Nat):Int)-1)=(n:Int) by rw[XL (by omega) (by omega)];omega];exact e
theorem tab5{n:Int}(h0:0<=n)(h1:n<5):(∃e2,([(⟨#[114]⟩:V5),(⟨#[115]⟩:V5),(⟨#[116]⟩:V5),(⟨#[117]⟩:V5),(⟨#[118]⟩:V5)])[n.toNat]?=some e2)/\∃m:Nat,([2,2,2,3,1]:WA)[n.toNat]?=some (m:Int)/\m<=3:=by
 obtain⟨k,rfl⟩:∃k:Nat,n=k:=⟨n.toNat,by omega⟩;have hk:k=0\/k=1\/k=2\/k=3\/k=4:=by omega
 rcases hk with rfl|rfl|rfl|rfl|rfl
 .exact⟨⟨_,rfl⟩,2,rfl,by omega⟩
 .exact⟨⟨_,rfl⟩,2,rfl,by omega⟩
 .exact⟨⟨_,rfl⟩,2,rfl,by omega⟩
 .exact⟨⟨_,rfl⟩,3,rfl,by omega⟩
 .exact⟨⟨_,rfl⟩,1,rfl,by omega⟩
theorem q1a(hx:Zu v1 x=true):∀n,n<=100->∀c n2 x1,GC c->AtB (100-n) x1->GW (Ur c vc v1 x n2 x1 n):=by
 intro n
 induction n with
 |zero =>
  intro _ c n2 x1 g hx1;have hq:=hx1.le (by omega) n2;rcases tf (Zu n2 x1)with hv|hv
  .refine⟨c,v1,x,Zpr ?_,g,hx⟩;rw[Yb (by omega)];exact⟨_,ZaU _ hq,by rw[show Zu (⟨n2,x1⟩:Ze).Zk (⟨n2,x1⟩:Ze).Atoms=false from hv,Yb (by simp)]⟩
  .refine⟨c,n2,x1,Zpr ?_,g,hv⟩;rw[Yb (by omega)]
   exact⟨_,ZaU _ hq,by rw[show Zu (⟨n2,x1⟩:Ze).Zk (⟨n2,x1⟩:Ze).Atoms=true from hv,Ya rfl]⟩
 |succ n ih =>
  intro hn c n2 x1 g hx1;obtain⟨c1,k,e1,g1,k0,k1⟩:=ZZ g 5;obtain⟨⟨nm,t1⟩,m,t2,hm⟩:=tab5 k0 (k1 (by omega));obtain⟨c2,v,e2,g2,_⟩:=ZZ g1 4;refine(q0b vc v1 x (100-(n+1)) (by omega) x1 hx1 n (by omega) m hm (λc n2 x' g hx'=>ih (by omega) c n2 x' g (by rw[show 100-n=100-(n+1)+1 by omega];exact hx')) nm c2 n2 v g2).of λr e=>Zpr ?_
  rw[Ya (by omega)];exact⟨c1,k,e1,k0,nm,t1,m,t2,c2,v,e2,e⟩
theorem q1(hx:Zu v1 x=true)(n:Nat)(hn:n<=99)(c:Zf)(n2:Int)(g:GC c):GW (Zey c vc v1 x n2 n):=by
 cases n with
 |zero =>
  refine⟨c,v1,x,ZwU ?_,g,hx⟩;rw[Yb (by omega)]
  exact⟨_,ZAf n2,by rw[Yb (by simp)]⟩
 |succ n =>
  obtain⟨c1,k,e1,g1,k0,k1⟩:=ZZ g 5;obtain⟨⟨nm,t1⟩,m,t2,hm⟩:=tab5 k0 (k1 (by omega));obtain⟨c2,v,e2,g2,_⟩:=ZZ g1 4;refine(q0 vc v1 x (99-n) (by omega) n (by omega) m hm (λc n2 x' g hx'=>q1a vc v1 x hx n (by omega) c n2 x' g (by rw[show 100-n=99-n+1 by omega];exact hx')) nm c2 n2 v g2).of λr e=>ZwU ?_
  rw[Ya (by omega)];exact⟨c1,k,e1,k0,nm,t1,m,t2,c2,v,e2,e⟩
end
theorem ZzB{c:Zf}(g:GC c):GW (JG c):=by
 obtain⟨c1,s,e1,g1,hs⟩:=Zz7 g ZpQ (by simp) (by simp);obtain⟨n,x,e2,hx⟩:=ZAe s hs;obtain⟨c3,b3,e3,g3⟩:=U1 g1 4;rcases tf b3 with hb|hb
 .subst hb;exact⟨c3,n,x,ZwZ _ _ ⟨c1,_,s,e1,x,n,true,e2,c3,false,e3,by rw[Yb (by simp)]⟩,g3,hx⟩
 .subst hb;obtain⟨c4,k,e4,g4,k0,k1⟩:=ZZ g3 4;have k4:=k1 (by omega);refine(q1 0 n x hx (1+k).toNat (by omega) c4 0 g4).of λr e=>ZwZ _ _ ⟨c1,_,s,e1,x,n,true,e2,c3,true,e3,?_⟩
  rw[Ya rfl];refine⟨c4,k,e4,?_⟩;rw[show w (1+k)=(((1+k).toNat:Nat):Int) by rw[XL (by omega) (by omega)];omega];exact e
def GA(R:Rs):Prop:=∃(c:Zf) (n:Int) (x:List Zc),R=some (.agg [I n,.own 1],[cB c,.xarr ZsO 2 (x.map Zc.c)])/\GC c/\LeQ ⟨n,x⟩
theorem ZpR{n n':Int}{x:List Zc}(h:Zu n x=true):LeQ ⟨n',x⟩:=⟨by have:=Xx h;show x.length<=_;omega,λa ha=>by have:=J7 h a ha;show a.Vars.length<=_;omega⟩
theorem ZAg{c:Zf}(g:GC c):GA (Ze8 c):=by
 obtain⟨c1,n,x,e1,g1,hv⟩:=ZzB g;have hl:=Xx hv;have hvv:=J7 hv;obtain⟨c2,k,e2,g2,_⟩:=ZZ g1 14;by_cases h0:k=0
 .obtain⟨c3,v,e3,g3,_⟩:=Uc g2 [0,5,w (n+1),9223372036854775807] (by simp) (by simp);exact⟨c3,v,x,Zgf _ _ ⟨c1,x,n,e1,c2,k,e2,by rw[Ya h0];exact⟨c3,_,v,e3,rfl⟩⟩,g3,ZpR hv⟩
 by_cases h1:k=1
 .obtain⟨c3,v,e3,g3,_⟩:=Zz7 g2 [(⟨#[]⟩:V5),(⟨#[119]⟩:V5),(⟨#[114]⟩:V5)] (by simp) (by simp);refine⟨c3,n,x++[(⟨v,[0]⟩:Zc)],Zgf _ _ ⟨c1,x,n,e1,c2,k,e2,by rw[Yb h0,Ya h1];exact⟨c3,_,v,e3,by omega,rfl⟩⟩,g3,?_,?_⟩
  .show(x++[_]).length<=_;simp;omega
  .intro a ha;rcases Yk.1 ha with ha|ha
   .have:=hvv a ha;show a.Vars.length<=_;omega
   .simp at ha;subst ha;simp
 obtain⟨a,l,rfl⟩:∃a l,x=a::l:=by
  cases x with
  |nil=>simp at hl
  |cons a l=>exact⟨a,l,rfl⟩
 have ha:=hvv a (by simp);have hset:∀vs:WA,Le vs->LeQ ⟨n,(⟨a.Name,vs⟩:Zc)::l⟩:=by
  intro vs hvs;refine⟨by show(_::l).length<=_;simp at hl|-;omega,λb hb=>?_⟩;rcases Yl.1 hb with hb|hb
  .subst hb;exact hvs
  .have:=hvv b (by simp[hb]);show b.Vars.length<=_;omega
 by_cases h2:k=2
 .exact⟨c2,n,(⟨a.Name,[]⟩:Zc)::l,Zgf _ _ ⟨c1,_,n,e1,c2,k,e2,by rw[Yb h0,Yb h1,Ya h2];exact⟨a,rfl,rfl⟩⟩,g2,hset [] (by simp)⟩
 by_cases h3:k=3
 .obtain⟨c3,v,e3,g3,_⟩:=Uc g2 [(-1),4,1] (by simp) (by simp);obtain⟨y,t,hy⟩:∃y t,a.Vars=y::t:=by
   cases hh:a.Vars with
   |nil=>rw[hh]at ha;simp at ha
   |cons y t=>exact⟨y,t,rfl⟩
  refine⟨c3,n,(⟨a.Name,(y::t).set 0 v⟩:Zc)::l,Zgf _ _ ⟨c1,_,n,e1,c2,k,e2,by rw[Yb h0,Yb h1,Yb h2,Ya h3];exact⟨a,rfl,y,t,hy,c3,_,v,e3,y,rfl,rfl⟩⟩,g3,hset _ ?_⟩
  have:(y::t).length=a.Vars.length:=by rw[hy]
  show((y::t).set 0 v).length<=_;rw[Ybq,this];omega
 .exact⟨c2,n,a::l,Zgf _ _ ⟨c1,_,n,e1,c2,k,e2,by rw[Yb h0,Yb h1,Yb h2,Yb h3]⟩,g2,ZpR hv⟩
end Go.Proofs.YtgbipcfdgfjplaaGreat
