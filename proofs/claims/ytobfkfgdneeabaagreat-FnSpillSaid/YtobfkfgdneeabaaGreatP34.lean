/-
  Parts of the proofs for this seat: XP XQ XR XS RA RB RC RD RE RF RG RH RI RJ RK RL.
-/
import Derived.Test.YtobfkfgdneeabaaGreatP33
set_option linter.all false
set_option maxRecDepth 100000
set_option maxHeartbeats 4000000
namespace Go.Proofs.YtobfkfgdneeabaaGreat
open Go.AM
def ZFi{X:ZC}{Ad t1:Nat->Option Ab}(h:∀f m,t1 f=some m->Ad f=some m):∀n,Fc (Wf (λ_ _ _=>none) t1 n) (Wf X Ad n)
 |0=>λ_ _ _ _ h=>by cases h
 |n+1=>λf xs h0 r hr=>by
  simp only[Wf]at hr|-
  cases hm:t1 f with
  |none=>simp only[hm]at hr;cases hr
  |some m =>
   simp only[hm,h f m hm]at hr|-;split at hr
   .rename_i hl;rw[Ya hl];exact eJ (ZFi h n) n hr
   .cases hr
def Zr5:List (Nat×Ab)->Nat->Option Ab
 |[],_=>none
 |(k,m)::l,f=>match Nat.beq k f with
  |true=>some m
  |false=>Zr5 l f
def ZFj{Ad:Nat->Option Ab}:∀(l:List (Nat×Ab)),(∀p∈l,Ad p.1=some p.2)->∀f m,Zr5 l f=some m->Ad f=some m
 |[],_,f,m,h=>by cases h
 |(k,m')::l,hl,f,m,h=>by
  unfold Zr5 at h;split at h
  .rename_i e;rw[<-Nat.eq_of_beq_eq_true e,<-w7 h];exact hl (k,m') Z
  .exact ZFj l (λp hp=>hl p (by simp[hp])) f m h
noncomputable def pqT:List (Nat×Ab):=[(99,Z7i),(32,Zti),(169,Z7d),(65,ZnT),(171,Z7f),(170,Z7g),(127,Zth),(128,Zt9),(209,Z7h)]
def Pf:∀p∈pqT,Ad p.1=some p.2:=by
 intro p hp;simp only[pqT,Yy,List.not_mem_nil,or_false]at hp;rcases hp with rfl|rfl|rfl|rfl|rfl|rfl|rfl|rfl|rfl
 .exact ZJl
 .exact ZCf
 .exact ZJh
 .exact Z1U
 .exact ZJi
 .exact ZJj
 .exact ZCe
 .exact ZCg
 .exact ZJk
def QP{f:Nat}{xs:XQ}{h0:V3}{r:XR}(h:Wf (λ_ _ _=>none) (Zr5 pqT) 20000 f xs h0=some r):C f xs h0=some r :=
 ZsE 20000 f xs h0 r (ZFi (ZFj pqT Pf) 20000 f xs h0 r h)
def UQ(s:KI):Prop:=∃(n:Int) (x:List Zd),i6 s=some (.tup [.agg [I n,.own 0],Bo true],[.arr 110 2 true (x.map Zd.c)])/\Zx n x=true
def pq0:UQ ⟨#[114,40,88,89,41]⟩:=⟨2,[⟨⟨#[114]⟩,[0,1]⟩],QP (by kernel_rfl),Om⟩
theorem pq1:UQ ⟨#[114,40,88,89,41,32,115,40,89,90,41]⟩:=⟨3,[⟨⟨#[114]⟩,[0,1]⟩,⟨⟨#[115]⟩,[1,2]⟩],QP (by kernel_rfl),Om⟩
def pq2:UQ ⟨#[114,40,88,89,41,32,115,40,89,90,41,32,116,40,90,85,41]⟩:=⟨4,[⟨⟨#[114]⟩,[0,1]⟩,⟨⟨#[115]⟩,[1,2]⟩,⟨⟨#[116]⟩,[2,3]⟩],QP (by kernel_rfl),Om⟩
theorem pq3:UQ ⟨#[114,40,88,89,41,32,115,40,89,90,41,32,116,40,90,88,41]⟩:=⟨3,[⟨⟨#[114]⟩,[0,1]⟩,⟨⟨#[115]⟩,[1,2]⟩,⟨⟨#[116]⟩,[2,0]⟩],QP (by kernel_rfl),Om⟩
def pq4:UQ ⟨#[114,40,88,89,41,32,115,40,88,90,41,32,116,40,88,85,41]⟩:=⟨4,[⟨⟨#[114]⟩,[0,1]⟩,⟨⟨#[115]⟩,[0,2]⟩,⟨⟨#[116]⟩,[0,3]⟩],QP (by kernel_rfl),Om⟩
theorem pq5:UQ ⟨#[114,40,88,89,41,32,115,40,89,90,41,32,118,40,89,41]⟩:=⟨3,[⟨⟨#[114]⟩,[0,1]⟩,⟨⟨#[115]⟩,[1,2]⟩,⟨⟨#[118]⟩,[1]⟩],QP (by kernel_rfl),Om⟩
def pq6:UQ ⟨#[117,40,88,89,90,41,32,115,40,90,85,41]⟩:=⟨4,[⟨⟨#[117]⟩,[0,1,2]⟩,⟨⟨#[115]⟩,[2,3]⟩],QP (by kernel_rfl),Om⟩
def pq7:UQ ⟨#[117,40,88,89,90,41,32,114,40,88,89,41,32,118,40,90,41]⟩:=⟨3,[⟨⟨#[117]⟩,[0,1,2]⟩,⟨⟨#[114]⟩,[0,1]⟩,⟨⟨#[118]⟩,[2]⟩],QP (by kernel_rfl),Om⟩
def pq8:UQ ⟨#[114,40,88,89,41,32,115,40,89,90,41,32,116,40,90,85,41,32,118,40,88,41]⟩:=⟨4,[⟨⟨#[114]⟩,[0,1]⟩,⟨⟨#[115]⟩,[1,2]⟩,⟨⟨#[116]⟩,[2,3]⟩,⟨⟨#[118]⟩,[0]⟩],QP (by kernel_rfl),Om⟩
theorem pq9:UQ ⟨#[114,40,88,89,41,32,114,40,89,90,41]⟩:=⟨3,[⟨⟨#[114]⟩,[0,1]⟩,⟨⟨#[114]⟩,[1,2]⟩],QP (by kernel_rfl),Om⟩
def Abn:UQ ⟨#[114,40,88,89,41,32,115,40,89,88,41]⟩:=⟨2,[⟨⟨#[114]⟩,[0,1]⟩,⟨⟨#[115]⟩,[1,0]⟩],QP (by kernel_rfl),Om⟩
def Abp:UQ ⟨#[118,40,88,41,32,114,40,88,89,41,32,115,40,89,90,41,32,116,40,90,85,41]⟩:=⟨4,[⟨⟨#[118]⟩,[0]⟩,⟨⟨#[114]⟩,[0,1]⟩,⟨⟨#[115]⟩,[1,2]⟩,⟨⟨#[116]⟩,[2,3]⟩],QP (by kernel_rfl),Om⟩
def Abq:UQ ⟨#[114,40,88,89,41,32,115,40,89,90,41,32,116,40,90,85,41,32,115,40,85,88,41]⟩:=⟨4,[⟨⟨#[114]⟩,[0,1]⟩,⟨⟨#[115]⟩,[1,2]⟩,⟨⟨#[116]⟩,[2,3]⟩,⟨⟨#[115]⟩,[3,0]⟩],QP (by kernel_rfl),Om⟩
abbrev Z30:List KI:=[(⟨#[114,40,88,89,41]⟩:KI),(⟨#[114,40,88,89,41,32,115,40,89,90,41]⟩:KI),(⟨#[114,40,88,89,41,32,115,40,89,90,41,32,116,40,90,85,41]⟩:KI),(⟨#[114,40,88,89,41,32,115,40,89,90,41,32,116,40,90,88,41]⟩:KI),(⟨#[114,40,88,89,41,32,115,40,88,90,41,32,116,40,88,85,41]⟩:KI),(⟨#[114,40,88,89,41,32,115,40,89,90,41,32,118,40,89,41]⟩:KI),(⟨#[117,40,88,89,90,41,32,115,40,90,85,41]⟩:KI),(⟨#[117,40,88,89,90,41,32,114,40,88,89,41,32,118,40,90,41]⟩:KI),(⟨#[114,40,88,89,41,32,115,40,89,90,41,32,116,40,90,85,41,32,118,40,88,41]⟩:KI),(⟨#[114,40,88,89,41,32,114,40,89,90,41]⟩:KI),(⟨#[114,40,88,89,41,32,115,40,89,88,41]⟩:KI),(⟨#[118,40,88,41,32,114,40,88,89,41,32,115,40,89,90,41,32,116,40,90,85,41]⟩:KI),(⟨#[114,40,88,89,41,32,115,40,89,90,41,32,116,40,90,85,41,32,115,40,85,88,41]⟩:KI)]
def ZSm:∀s∈Z30,UQ s:=by
 intro s hs;simp only[Z30,Yy,List.not_mem_nil,or_false]at hs;rcases hs with rfl|rfl|rfl|rfl|rfl|rfl|rfl|rfl|rfl|rfl|rfl|rfl|rfl
 .exact pq0
 .exact pq1
 .exact pq2
 .exact pq3
 .exact pq4
 .exact pq5
 .exact pq6
 .exact pq7
 .exact pq8
 .exact pq9
 .exact Abn
 .exact Abp
 .exact Abq
theorem wN(n:Nat)(h:n<=1000000000000):w ((n:Int)+1)=((n+1:Nat):Int):=by
 grind [WX]
def ZSn(n:Int):iY n=some (Bo false,[]):=by
 refine ZNm _ _ ⟨_,ZS _ _ _,?_⟩;rcases tf (Am n 1 4)with h|h
 .rw[h,Yb Z]
 .rw[h,Ya rfl];exact⟨_,ZS _ _ _,by rw[Yb Om]⟩
def AtB(k:Nat)(x:List Zd):Prop:=x.length<=k/\∀a∈x,a.Vars.length<=1000
def AtB.le{k:Nat}{x:List Zd}(h:AtB k x)(hk:k<=1000000000)(n:Int):AW ⟨n,x⟩:=⟨by show x.length<=_;have:=h.1;omega,λa ha=>by have:=h.2 a ha;show a.Vars.length<=_;omega⟩
def AtB.add{k:Nat}{x:List Zd}(h:AtB k x)(s:KI)(vs:V2)(hv:vs.length<=1000):AtB (k+1) (x++[⟨s,vs⟩]):=by
 refine⟨by have:=h.1;simp;omega,λa ha=>?_⟩;rcases Yp.1 ha with ha|ha
 .exact h.2 a ha
 .simp_all
def AtB.one(k:Nat)(s:KI)(vs:V2)(hv:vs.length<=1000):AtB (k+1) [⟨s,vs⟩]:=⟨Z,λa ha=>by simp at ha;subst ha;exact hv⟩
def GW(R:Rs):Prop:=∃(c:Zo) (n:Int) (x:List Zd),R=some (.agg [I n,.own 1],[cB c,.arr Z6j 2 true (x.map Zd.c)])/\GC c/\Zx n x=true
def GW.of{R R':Rs}(h:GW R')(k:∀r,R'=some r->R=some r):GW R:=by
 obtain⟨c,n,x,e,l⟩:=h;exact⟨c,n,x,k _ e,l⟩
section
variable(vc v1:Int)(x:List Zd)
theorem q0c(b:Nat)(hb:b<=1000)(x1:List Zd)(hx:AtB b x1)(n:Nat)(hn:n<=100)(m:Nat)(hm:m<=3)(H:∀c n2 x',GC c->AtB (b+1) x'->GW (Kk c vc v1 x n2 x' n))(nm:KI):∀i,i<=m->∀c n2 vs v,GC c->vs.length<=i->GW (jB c vc v1 x n2 x1 nm vs ((n+1:Nat):Int) m v i):=by
 refine down _ ?_ ?_
 .intro c n2 vs v g hvs;refine(H c n2 (x1++[(⟨nm,vs⟩:Zd)]) g (hx.add nm vs E)).of λr e=>XG.1.1.2.2 _ _ _ _ _ _ _ _ _ _ _ _ _ ?_
  rw[Ao,show w (((n+1:Nat):Int)-1)=(n:Int) by rw[WX E E];omega];refine⟨by have:=hx.1;omega,?_⟩;exact e
 .intro i hi ih c n2 vs v g hvs;refine(ih c (if n2<(w (v+1))then(w (v+1))else n2) (vs++[v]) (Int.tmod (w (v+1)) 4) g (by simp;omega)).of λr e=>XG.1.1.2.2 _ _ _ _ _ _ _ _ _ _ _ _ _ ?_
  grind [wN]
theorem q0b(b:Nat)(hb:b<=1000)(x1:List Zd)(hx:AtB b x1)(n:Nat)(hn:n<=100)(m:Nat)(hm:m<=3)(H:∀c n2 x',GC c->AtB (b+1) x'->GW (Kk c vc v1 x n2 x' n))(nm:KI)(c:Zo)(n2 v:Int)(g:GC c):GW (jA c vc v1 x n2 x1 nm ((n+1:Nat):Int) m v 0):=by
 by_cases h:0<m
 .refine(q0c vc v1 x b hb x1 hx n hn m hm H nm 1 h c (if n2<(w (v+1))then(w (v+1))else n2) [v] (Int.tmod (w (v+1)) 4) g Z).of λr e=>XG.1.1.2.1 _ _ _ _ _ _ _ _ _ _ _ _ ?_
  rw[An,show w ((0:Int)+1)=((1:Nat):Int)from by decide];exact e
 .refine(H c n2 (x1++[(⟨nm,[]⟩:Zd)]) g (hx.add nm [] Z)).of λr e=>XG.1.1.2.1 _ _ _ _ _ _ _ _ _ _ _ _ ?_
  rw[Ao,show w (((n+1:Nat):Int)-1)=(n:Int) by rw[WX E E];omega];refine⟨by have:=hx.1;omega,?_⟩;exact e
theorem q0a(b:Nat)(hb:b<=1000)(n:Nat)(hn:n<=100)(m:Nat)(hm:m<=3)(H:∀c n2 x',GC c->AtB (b+1) x'->GW (Kk c vc v1 x n2 x' n))(nm:KI):∀i,i<=m->∀c n2 vs v,GC c->vs.length<=i->GW (i9 c vc v1 x n2 nm vs ((n+1:Nat):Int) m v i):=by
 refine down _ ?_ ?_
 .intro c n2 vs v g hvs;refine(H c n2 [(⟨nm,vs⟩:Zd)] g (AtB.one b nm vs E)).of λr e=>XG.1.1.1.2 _ _ _ _ _ _ _ _ _ _ _ _ ?_
  grind [WX]
 .intro i hi ih c n2 vs v g hvs;refine(ih c (if n2<(w (v+1))then(w (v+1))else n2) (vs++[v]) (Int.tmod (w (v+1)) 4) g (by simp;omega)).of λr e=>XG.1.1.1.2 _ _ _ _ _ _ _ _ _ _ _ _ ?_
  grind [wN]
theorem q0(b:Nat)(hb:b<=1000)(n:Nat)(hn:n<=100)(m:Nat)(hm:m<=3)(H:∀c n2 x',GC c->AtB (b+1) x'->GW (Kk c vc v1 x n2 x' n))(nm:KI)(c:Zo)(n2 v:Int)(g:GC c):GW (i8 c vc v1 x n2 nm ((n+1:Nat):Int) m v 0):=by
 by_cases h:0<m
 .refine(q0a vc v1 x b hb n hn m hm H nm 1 h c (if n2<(w (v+1))then(w (v+1))else n2) [v] (Int.tmod (w (v+1)) 4) g Z).of λr e=>XG.1.1.1.1 _ _ _ _ _ _ _ _ _ _ _ ?_
  rw[An,show w ((0:Int)+1)=((1:Nat):Int)from by decide];exact e
 .refine(H c n2 [(⟨nm,[]⟩:Zd)] g (AtB.one b nm [] Z)).of λr e=>XG.1.1.1.1 _ _ _ _ _ _ _ _ _ _ _ ?_
  grind [WX]
theorem Pg{n:Int}(h0:0<=n)(h1:n<5):(∃e2,([(⟨#[114]⟩:KI),(⟨#[115]⟩:KI),(⟨#[116]⟩:KI),(⟨#[117]⟩:KI),(⟨#[118]⟩:KI)])[n.toNat]?=some e2)/\∃m:Nat,([2,2,2,3,1]:V2)[n.toNat]?=some (m:Int)/\m<=3:=by
 obtain⟨k,rfl⟩:∃k:Nat,n=k:=⟨n.toNat,E⟩;have hk:k=0\/k=1\/k=2\/k=3\/k=4:=by omega
 rcases hk with rfl|rfl|rfl|rfl|rfl
 .exact⟨⟨_,rfl⟩,2,rfl,E⟩
 .exact⟨⟨_,rfl⟩,2,rfl,E⟩
 .exact⟨⟨_,rfl⟩,2,rfl,E⟩
 .exact⟨⟨_,rfl⟩,3,rfl,E⟩
 .exact⟨⟨_,rfl⟩,1,rfl,E⟩
theorem q1a(hx:Zx v1 x=true):∀n,n<=100->∀c n2 x1,GC c->AtB (100-n) x1->GW (Kk c vc v1 x n2 x1 n):=by
 intro n
 induction n with
 |zero =>
  intro _ c n2 x1 g hx1;have hq:=hx1.le E n2;rcases tf (Zx n2 x1)with hv|hv
  .refine⟨c,v1,x,Z1V _ _ _ _ _ _ _ _ ?_,g,hx⟩
   simp_all
  .refine⟨c,n2,x1,Z1V _ _ _ _ _ _ _ _ ?_,g,hv⟩
   simp_all
 |succ n ih =>
  intro hn c n2 x1 g hx1;obtain⟨c1,k,e1,g1,k0,k1⟩:=XI g 5;obtain⟨⟨nm,t1⟩,m,t2,hm⟩:=Pg k0 (k1 E);obtain⟨c2,v,e2,g2,_⟩:=XI g1 4;refine(q0b vc v1 x (100-(n+1)) E x1 hx1 n E m hm (λc n2 x' g hx'=>ih E c n2 x' g (by rw[show 100-n=100-(n+1)+1 by omega];exact hx')) nm c2 n2 v g2).of λr e=>Z1V _ _ _ _ _ _ _ _ ?_
  grind
theorem q1(hx:Zx v1 x=true)(n:Nat)(hn:n<=99)(c:Zo)(n2:Int)(g:GC c):GW (i7 c vc v1 x n2 n):=by
 cases n with
 |zero =>
  refine⟨c,v1,x,ZCk _ _ _ _ _ _ _ ?_,g,hx⟩
  simp[ZSn]
 |succ n =>
  obtain⟨c1,k,e1,g1,k0,k1⟩:=XI g 5;obtain⟨⟨nm,t1⟩,m,t2,hm⟩:=Pg k0 (k1 E);obtain⟨c2,v,e2,g2,_⟩:=XI g1 4;refine(q0 vc v1 x (99-n) E n E m hm (λc n2 x' g hx'=>q1a vc v1 x hx n E c n2 x' g (by rw[show 100-n=99-n+1 by omega];exact hx')) nm c2 n2 v g2).of λr e=>ZCk _ _ _ _ _ _ _ ?_
  grind
end
def ZSo{c:Zo}(g:GC c):GW (ZnX c):=by
 obtain⟨c1,s,e1,g1,hs⟩:=Z3u g Z30 Z Z;obtain⟨n,x,e2,hx⟩:=ZSm s hs;obtain⟨c3,b3,e3,g3⟩:=Vh g1 4;rcases tf b3 with hb|hb
 .subst hb;exact⟨c3,n,x,XG.1.2.1.1 _ _ ⟨c1,_,s,e1,x,n,true,e2,c3,false,e3,by rw[Yb Z]⟩,g3,hx⟩
 .subst hb;obtain⟨c4,k,e4,g4,k0,k1⟩:=XI g3 4;have k4:=k1 E;refine(q1 0 n x hx (1+k).toNat E c4 0 g4).of λr e=>XG.1.2.1.1 _ _ ⟨c1,_,s,e1,x,n,true,e2,c3,true,e3,?_⟩
  grind [WX]
def GA(R:Rs):Prop:=∃(c:Zo) (n:Int) (x:List Zd),R=some (.agg [I n,.own 1],[cB c,.arr Z6j 2 true (x.map Zd.c)])/\GC c/\AW ⟨n,x⟩
def Zr6{n n':Int}{x:List Zd}(h:Zx n x=true):AW ⟨n',x⟩:=⟨by have:=XF h;show x.length<=_;omega,λa ha=>by have:=Sg h a ha;show a.Vars.length<=_;omega⟩
def ZSp{q:Zc}(hv:Zx q.Zi q.Atoms=true):MQ q.Atoms (ZU q.Zi q.Atoms):=by
 have:=Lh hv;have:=ZIl hv;omega
def ZSq(q:Zc)(hq:AW q)(m:Int)(hc:WW q.Zi q.Atoms m=false):MD q m=some (.own 0,[.arr X5 1 true (([]:V2).map ic)]) :=
 Ur.1.1.2 _ _ _ ⟨_,QM q hq _,by rw[hc,Yb Z]⟩
def ZFk(q:Zc)(hq:AW q)(p:Zr):∃o,S0 q p=some (I o,[]):=by
 have e:=G4 q p hq
 cases h:ZG q.Zi q.Atoms p.Steps with
 |none =>
  simp_all [X6.2.2.1]
 |some info =>
  rw[h]at e;obtain⟨_,h1,h2,h3⟩:=Um h;have h0:info.length-1<info.length:=by omega
  refine⟨info[info.length-1].Order,X6.2.2.1 _ _ _ ⟨info,true,e,?_⟩⟩;rw[Ya rfl,WX E E];refine⟨E,info[info.length-1],?_,rfl⟩;simp
def GP(n:Nat)(R:Rs):Prop:=∃(c:Zo) (p:List Zn),R=some (.agg [.own 1],[cB c,.arr ZIo 3 true (p.map Zn.c)])/\GC c/\1<=p.length/\p.length<=n
def ZSr{q:Zc}(hv:Zx q.Zi q.Atoms=true){a b:Int}(h:shr q.Atoms a b=true):Ub q a b≠[]:=by
 intro hc;have h1:(Ub q a b).length=0:=by rw[hc];rfl
 have:=(Z5X hv a b).1 h1
 simp_all
def ZSs(q:Zc)(hq:AW q):∀m:Nat,m<=15->∀c,GC c->GP (if m=0 then 1 else 4*m-3) (MJ c q m):=by
 intro m
 induction m using Nat.strongRecOn with
 |_ m ih =>
 intro hm c g;by_cases he:WW q.Zi q.Atoms m=true/\KZ q.Atoms m≠[]
 .obtain⟨hc,hne⟩:=he;have hc0:=hc;unfold WW at hc0;simp only[Yf,decide_eq_true_eq]at hc0;obtain⟨⟨⟨hv,hin⟩,h0⟩,hcn⟩:=hc0;have hin:=JG.1 hin;have hMQ:MQ q.Atoms m:=⟨E,by have:=(ZSp hv).2;omega⟩;have Dc:=ZRS (qa:=q.Atoms) (M:=(m:Int)) ⟨E,E⟩;have hp:0<(KZ q.Atoms m).length:=CE.2 hne;obtain⟨c1,n,e1,g1,h1,h2⟩:=XI g (KZ q.Atoms m).length;obtain⟨y,hy,hmem⟩:=bL h1 (h2 E);obtain⟨y1,y2,_,_,_⟩:=ZET hmem;have pr:=ZRU hv hMQ hcn hmem;obtain⟨a,ha⟩:∃a:Nat,y=a:=⟨y.toNat,E⟩;subst ha;have hw:w ((m:Int)-(a:Int))=((m-a:Nat):Int):=by rw[WX E E];omega
  obtain⟨c2,p1,e2,g2,k1,l1⟩:=ih a E E c1 g1;obtain⟨c3,p2,e3,g3,k2,l2⟩:=ih (m-a) E E c2 g2;rw[Ao]at l1 l2;have z1:(⟨p1⟩:Zr).Steps.length<=1000:=by show p1.length<=_;omega
  have z2:(⟨p2⟩:Zr).Steps.length<=1000:=by show p2.length<=_;omega
  rw[Ao];obtain⟨c4,k,e4,g4,k0,k3⟩:=XI g3 3;have hs:=ZEj q hq m hc;by_cases k0':k=0
  .exact⟨c4,V7 p1 p2 3 0,X6.2.2.2.2 _ _ _ _ ⟨_,hs,by rw[Ao];exact⟨c1,n,e1,h1,(a:Int),hy,c2,p1,e2,by rw[hw];exact⟨c3,p2,e3,c4,k,e4,by rw[Ya k0'];exact⟨_,bB ⟨p1⟩ ⟨p2⟩ 3 0 E E,rfl⟩⟩⟩⟩,g4,by simp only[V7,XA,Yo,Ys];omega,by simp only[V7,XA,Yo,Ys,DJ];omega⟩
  by_cases k1':k=1
  .exact⟨c4,V7 p1 p2 5 0,X6.2.2.2.2 _ _ _ _ ⟨_,hs,by rw[Ao];exact⟨c1,n,e1,h1,(a:Int),hy,c2,p1,e2,by rw[hw];exact⟨c3,p2,e3,c4,k,e4,by rw[Yb k0',Ya k1'];exact⟨_,bB ⟨p1⟩ ⟨p2⟩ 5 0 E E,rfl⟩⟩⟩⟩,g4,by simp only[V7,XA,Yo,Ys];omega,by simp only[V7,XA,Yo,Ys,DJ];omega⟩
  have hsh:=Z2R q hq hv (a:Int) ((m-a:Nat):Int) ⟨E,E⟩ ⟨E,E⟩;have hsn:=ZSr hv (a:=(a:Int)) (b:=((m-a:Nat):Int)) (by rw[show((m-a:Nat):Int)=(m:Int)-a by omega];exact pr.shr);obtain⟨c5,n2,e5,g5,h3,h4⟩:=XI g4 (Ub q (a:Int) ((m-a:Nat):Int)).length;have hp2:0<(Ub q (a:Int) ((m-a:Nat):Int)).length:=CE.2 hsn;obtain⟨v,hv',_⟩:=bL h3 (h4 E);obtain⟨o1,eo1⟩:=ZFk q hq ⟨p1⟩;obtain⟨o2,eo2⟩:=ZFk q hq ⟨p2⟩;by_cases q1:o1=v
  .by_cases q2:o2=v
   .exact⟨c5,V7 p1 p2 4 v,X6.2.2.2.2 _ _ _ _ ⟨_,hs,by rw[Ao];exact⟨c1,n,e1,h1,(a:Int),hy,c2,p1,e2,by rw[hw];exact⟨c3,p2,e3,c4,k,e4,by rw[Yb k0',Yb k1'];exact⟨_,hsh,c5,n2,e5,h3,v,hv',o1,eo1,by rw[Ya q1];exact⟨o2,eo2,by rw[Ya q2];exact⟨_,bB ⟨p1⟩ ⟨p2⟩ 4 v (by first|omega|(simp[XA];omega)) (by first|omega|(simp[XA];omega)),rfl⟩⟩⟩⟩⟩⟩,g5,by simp only[V7,XA,Yo,Ys];omega,by simp only[V7,XA,Yo,Ys,DJ];omega⟩
   .exact⟨c5,V7 p1 (XA p2 v) 4 v,X6.2.2.2.2 _ _ _ _ ⟨_,hs,by rw[Ao];exact⟨c1,n,e1,h1,(a:Int),hy,c2,p1,e2,by rw[hw];exact⟨c3,p2,e3,c4,k,e4,by rw[Yb k0',Yb k1'];exact⟨_,hsh,c5,n2,e5,h3,v,hv',o1,eo1,by rw[Ya q1];exact⟨o2,eo2,by rw[Yb q2];exact⟨_,Zro ⟨p2⟩ v E,_,bB ⟨p1⟩ (⟨XA p2 v⟩:Zr) 4 v (by first|omega|(simp[XA];omega)) (by first|omega|(simp[XA];omega)),rfl⟩⟩⟩⟩⟩⟩,g5,by simp only[V7,XA,Yo,Ys];omega,by simp only[V7,XA,Yo,Ys,DJ];omega⟩
  .by_cases q2:o2=v
   .exact⟨c5,V7 (XA p1 v) p2 4 v,X6.2.2.2.2 _ _ _ _ ⟨_,hs,by rw[Ao];exact⟨c1,n,e1,h1,(a:Int),hy,c2,p1,e2,by rw[hw];exact⟨c3,p2,e3,c4,k,e4,by rw[Yb k0',Yb k1'];exact⟨_,hsh,c5,n2,e5,h3,v,hv',o1,eo1,by rw[Yb q1];exact⟨_,Zro ⟨p1⟩ v E,o2,eo2,by rw[Ya q2];exact⟨_,bB (⟨XA p1 v⟩:Zr) ⟨p2⟩ 4 v (by first|omega|(simp[XA];omega)) (by first|omega|(simp[XA];omega)),rfl⟩⟩⟩⟩⟩⟩,g5,by simp only[V7,XA,Yo,Ys];omega,by simp only[V7,XA,Yo,Ys,DJ];omega⟩
   .exact⟨c5,V7 (XA p1 v) (XA p2 v) 4 v,X6.2.2.2.2 _ _ _ _ ⟨_,hs,by rw[Ao];exact⟨c1,n,e1,h1,(a:Int),hy,c2,p1,e2,by rw[hw];exact⟨c3,p2,e3,c4,k,e4,by rw[Yb k0',Yb k1'];exact⟨_,hsh,c5,n2,e5,h3,v,hv',o1,eo1,by rw[Yb q1];exact⟨_,Zro ⟨p1⟩ v E,o2,eo2,by rw[Yb q2];exact⟨_,Zro ⟨p2⟩ v E,_,bB (⟨XA p1 v⟩:Zr) (⟨XA p2 v⟩:Zr) 4 v (by first|omega|(simp[XA];omega)) (by first|omega|(simp[XA];omega)),rfl⟩⟩⟩⟩⟩⟩,g5,by simp only[V7,XA,Yo,Ys];omega,by simp only[V7,XA,Yo,Ys,DJ];omega⟩
 .have hs0:MD q m=some (.own 0,[.arr X5 1 true (([]:V2).map ic)]):=by
   rcases tf (WW q.Zi q.Atoms m)with hc|hc
   .simp_all [ZSq]
   .simp_all [ZEj]
  have hl:1<=(if m=0 then 1 else 4*m-3):=by split<;>omega
  cases ha:sB m with
  |nil =>
   refine⟨c,[⟨1,0,0⟩],X6.2.2.2.2 _ _ _ _ ⟨_,hs0,?_⟩,g,Z,hl⟩
   grind [Z2Q,ZEp]
  |cons x l =>
   refine⟨c,[⟨1,x,0⟩],X6.2.2.2.2 _ _ _ _ ⟨_,hs0,?_⟩,g,Z,hl⟩;rw[Ya Z];exact⟨_,Z2Q ⟨E,E⟩,by rw[ha,Yb (by simp;omega)];exact⟨x,rfl,_,ZEp x,rfl⟩⟩
def s9(rows:XS)(row:V2)(hr:rows.length<=1000)(h3:∀r∈rows,r.length<=3)(cc:row.length<=3):∀i,i<=rows.length->∀(c:XS) (b:Bool),c.length<=2*i->∃ys:XS,Qg c rows row b i=some (.own 0,[.arr 38 1 true ((c++ys).map Ae)])/\ys.length+i<=rows.length+(if b=true then 0 else 1)/\∀r∈ys,r.length<=3:=by
 refine down _ ?_ ?_
 .intro c b ho;rcases tf b with hb|hb
  .subst hb
   grind [Xl.2.2.2.1]
  .simp_all [Xl.2.2.2.1]
 .intro i hi ih c b ho;have Dg:=h3 _ (Ye hi);have e:=KV rows[i] row E E;have go:∀{r},(if ZH rows[i] row=0 then(if 0<ZH rows[i] row then(rows[i].length<=68719476736/\c.length+1<=68719476736/\Qg (c++[rows[i]]) rows row true (w ((i:Int)+1))=some r)else(rows[i].length<=68719476736/\c.length+1<=68719476736/\Qg (c++[rows[i]]) rows row true (w ((i:Int)+1))=some r))else(if 0<ZH rows[i] row then(if b=true then(rows[i].length<=68719476736/\c.length+1<=68719476736/\Qg (c++[rows[i]]) rows row true (w ((i:Int)+1))=some r)else(row.length<=68719476736/\c.length+1<=68719476736/\rows[i].length<=68719476736/\c.length+1+1<=68719476736/\Qg ((c++[row])++[rows[i]]) rows row true (w ((i:Int)+1))=some r))else(rows[i].length<=68719476736/\c.length+1<=68719476736/\Qg (c++[rows[i]]) rows row b (w ((i:Int)+1))=some r)))->Qg c rows row b i=some r:=λ{r} h=>Xl.2.2.2.1 _ _ _ _ _ r (by rw[An];exact⟨E,rows[i],gE hi,_,e,h⟩)
  have one:∀b',(b=true->b'=true)->∃ys:XS,Qg (c++[rows[i]]) rows row b' (w ((i:Int)+1))=some (.own 0,[.arr 38 1 true ((c++ys).map Ae)])/\ys.length+i<=rows.length+(if b=true then 0 else 1)/\∀r∈ys,r.length<=3:=by
   intro b' hb';obtain⟨ys,e,hl,hy⟩:=ih (c++[rows[i]]) b' (by simp;omega);refine⟨rows[i]::ys,?_,?_,?_⟩
   .grind [wN,List.append_assoc]
   .grind
   .simp_all
  by_cases c0:ZH rows[i] row=0
  .obtain⟨ys,e,hl,hy⟩:=one true (λ_=>rfl);exact⟨ys,go (by rw[Ya c0,Ao];exact⟨E,E,e⟩),hl,hy⟩
  by_cases c1:0<ZH rows[i] row
  .rcases tf b with hb|hb
   .subst hb;obtain⟨ys,e,hl,hy⟩:=ih ((c++[row])++[rows[i]]) true (by simp;omega);refine⟨row::rows[i]::ys,go (by rw[Yb c0,Ya c1,Yb Z];exact⟨E,E,E,E,by rw[wN i E,e];simp⟩),?_,?_⟩
    .simp at hl|-;omega
    .simp_all
   .subst hb;obtain⟨ys,e,hl,hy⟩:=one true (λ_=>rfl);exact⟨ys,go (by rw[Yb c0,Ya c1,Ya rfl];exact⟨E,E,e⟩),hl,hy⟩
  .obtain⟨ys,e,hl,hy⟩:=one b (λh=>h);exact⟨ys,go (by rw[Yb c0,Yb c1];exact⟨E,E,e⟩),hl,hy⟩
def tA(rows:XS)(row:V2)(hr:rows.length<=1000)(h3:∀r∈rows,r.length<=3)(c:row.length<=3):∃ys:XS,Kh rows row=some (.own 0,[.arr 38 1 true (ys.map Ae)])/\ys.length<=rows.length+1/\∀r∈ys,r.length<=3:=by
 obtain⟨ys,e,hl,hy⟩:=s9 rows row hr h3 c 0 E [] false Z
 simp_all [Xl.2.2.2.2.1]
theorem Ph(row:V2)(h:row.length<=3):KE row=some (.own 0,[.arr 38 1 true (([row]:XS).map Ae)]) :=
 Xl.2.1.2.1 _ _ (Xl.2.1.1.2 _ _ _ _ _ (by rw[Ao,Yb Z];exact⟨E,Z,rfl⟩))
def GT(nm:KI)(ar:Int)(k:Nat)(R:Rs):Prop:=∃(c:Zo) (x:XS),R=some (.agg [.t (.str nm),I ar,.own 1],[cB c,.arr 38 1 true (x.map Ae)])/\GC c/\x.length<=k/\∀r∈x,r.length<=3
def GT.of{nm:KI}{ar:Int}{k:Nat}{R R':Rs}(h:GT nm ar k R')(q:∀r,R'=some r->R=some r):GT nm ar k R:=by
 obtain⟨c,x,e,l⟩:=h;exact⟨c,x,q _ e,l⟩
section
variable(Name:KI)(Arity:Int)(nm:KI)(ar:Int)
theorem t0a(m:Nat)(hm:m<=3)(val:Int)(n K:Nat)(hK:K<=1000)(hn:n<=1000)(x:XS)(hx:x.length+(n+1)<=K)(h3:∀r∈x,r.length<=3)(H:∀c (x:XS),GC c->x.length+n<=K->(∀r∈x,r.length<=3)->GT nm ar K (Sm c Name Arity nm ar x m val n)):∀i,i<=m->∀c row,GC c->row.length<=i->GT nm ar K (gQ c Name Arity nm ar x row m val ((n+1:Nat):Int) i):=by
 refine down _ ?_ ?_
 .intro c row g hr;obtain⟨ys,e,hl,hy⟩:=tA x row E h3 E;refine(H c ys g E hy).of λr er=>IM.2.1 _ _ _ _ _ _ _ _ _ _ _ _ ?_
  grind [WX]
 .intro i hi ih c row g hr;obtain⟨c1,v,e,g1,_⟩:=XI g val;refine(ih c1 (row++[v]) g1 (by simp;omega)).of λr er=>IM.2.1 _ _ _ _ _ _ _ _ _ _ _ _ ?_
  grind [wN]
theorem t1a(m:Nat)(hm:m<=3)(val:Int)(K:Nat)(hK:K<=1000):∀n:Nat,n<=1000->∀c (x:XS),GC c->x.length+n<=K->(∀r∈x,r.length<=3)->GT nm ar K (Sm c Name Arity nm ar x m val n)
 |0,_,c,x,g,hx,h3=>⟨c,x,IM.1.2 _ _ _ _ _ _ _ _ _ _ (by rw[Ao]),g,E,h3⟩
 |n+1,hn,c,x,g,hx,h3=>(t0a Name Arity nm ar m hm val n K hK E x hx h3 (λc x g hx h3=>t1a m hm val K hK n E c x g hx h3) 0 E c [] g Z).of λr e=>IM.1.2 _ _ _ _ _ _ _ _ _ _ (by rw[An];exact e)
theorem t0(m:Nat)(hm:m<=3)(val:Int)(n K:Nat)(hK:K<=1000)(hn:n+1<=K):∀i,i<=m->∀c row,GC c->row.length<=i->GT nm ar K (Sl c Name Arity nm ar row m val ((n+1:Nat):Int) i):=by
 refine down _ ?_ ?_
 .intro c row g hr;refine(t1a Name Arity nm ar m hm val K hK n E c [row] g (by simp;omega) (by simp;omega)).of λr er=>IM.1.1 _ _ _ _ _ _ _ _ _ _ _ ?_
  grind [WX,Ph]
 .intro i hi ih c row g hr;obtain⟨c1,v,e,g1,_⟩:=XI g val;refine(ih c1 (row++[v]) g1 (by simp;omega)).of λr er=>IM.1.1 _ _ _ _ _ _ _ _ _ _ _ ?_
  grind [wN]
end
def ZFl{c:Zo}(g:GC c)(nm:KI)(m:Nat)(hm:m<=3)(most val:Int)(h0:0<=most)(h1:most<=100):GT nm m 100 (Q8 c nm m most val):=by
 obtain⟨c1,n,e1,g1,n0,n1⟩:=XI g (w (most+1));have hw:w (most+1)=most+1:=WX E E;rw[hw]at n1 e1;have:=n1 E;obtain⟨k,rfl⟩:∃k:Nat,n=k:=⟨n.toNat,E⟩
 cases k with
 |zero=>exact⟨c1,[],IM.2.2 _ _ _ _ _ _ ⟨c1,0,by rw[hw];exact e1,Xl.2.2.2.2.2 _ _ _ _ _ _ _ _ _ (by rw[Ao])⟩,g1,Z,Z⟩
 |succ k=>exact(t0 ⟨#[]⟩ 0 nm m m hm val k 100 E E 0 E c1 [] g1 Z).of λr e=>IM.2.2 _ _ _ _ _ _ ⟨c1,_,by rw[hw];exact e1,Xl.2.2.2.2.2 _ _ _ _ _ _ _ _ _ (by rw[An];exact e)⟩
def Hm(t:Zl):Prop:=t.Rows.length<=100/\∀r∈t.Rows,r.length<=3
def GD(R:Rs):Prop:=∃(c:Zo) (d:Zj),R=some (.agg (d.c.map .t),[cB c])/\GC c/\d.Tables.length<=5/\∀t∈d.Tables,Hm t
def GD.of{R R':Rs}(h:GD R')(q:∀r,R'=some r->R=some r):GD R:=by
 obtain⟨c,x,e,l⟩:=h;exact⟨c,x,q _ e,l⟩
abbrev QQ:List KI:=[(⟨#[114]⟩:KI),(⟨#[115]⟩:KI),(⟨#[116]⟩:KI),(⟨#[117]⟩:KI),(⟨#[118]⟩:KI)]
def d0a(val most:Int)(h0:0<=most)(h1:most<=100):∀i,i<=5->∀c (x:List Zl),GC c->x.length=i->1<=i->(∀t∈x,Hm t)->GD (Ki c x QQ val most 5 i):=by
 refine down _ ?_ ?_
 .intro c x g hx _ ht;obtain⟨c1,b,e1,g1⟩:=Vh g 8;rcases tf b with hb|hb
  .subst hb;exact⟨c1,⟨x⟩,o8 _ _ _ _ _ _ _ _ (by rw[Ao];exact⟨c1,false,e1,by rw[Yb Z];rfl⟩),g1,by show x.length<=5;omega,ht⟩
  .subst hb;obtain⟨c2,k,e2,g2,k0,k1⟩:=XI g1 5;obtain⟨t,he,hm⟩:=bL (l:=x) k0 (by have:=k1 E;omega);refine⟨c2,⟨x.set k.toNat ⟨t.Name,t.Arity,[]⟩⟩,o8 _ _ _ _ _ _ _ _ (by rw[Ao];exact⟨c1,true,e1,by rw[Ya rfl];exact⟨c2,k,e2,k0,t,he,rfl⟩⟩),g2,by show(x.set _ _).length<=5;rw[Y7];omega,?_⟩;intro u hu;rcases cT hu with h|h
   .exact ht u h
   .subst h;exact⟨Z,Z⟩
 .intro i hi ih c x g hx h1i ht;have go:∀(nm:KI) (m:Nat),m<=3->GT nm m 100 (Q8 c nm m most val):=λnm m hm=>ZFl g nm m hm most val h0 h1
  have hn:QQ[(i:Int).toNat]?=some QQ[i]:=gE (xs:=QQ) hi;have BD:∀(m:Nat),m<=3->∃c1 y,Q8 c QQ[i] m most val=some (.agg [.t (.str QQ[i]),I m,.own 1],[cB c1,.arr 38 1 true (y.map Ae)])/\GD (Ki c1 (x++[(⟨QQ[i],m,y⟩:Zl)]) QQ val most 5 (w ((i:Int)+1))):=by
   intro m hm;obtain⟨c1,y,e,g1,hl,h3⟩:=go QQ[i] m hm;refine⟨c1,y,e,?_⟩;rw[wN i E];refine ih c1 _ g1 (by simp;omega) E ?_;intro t hm;rcases Yp.1 hm with hm|hm
   .exact ht t hm
   .simp at hm;subst hm;exact⟨hl,h3⟩
  by_cases u:QQ[i]=(⟨#[117]⟩:KI)
  .obtain⟨c1,y,e,G⟩:=BD 3 E;refine G.of λr er=>o8 _ _ _ _ _ _ _ _ ?_
   grind
  by_cases v:QQ[i]=(⟨#[118]⟩:KI)
  .obtain⟨c1,y,e,G⟩:=BD 1 E;refine G.of λr er=>o8 _ _ _ _ _ _ _ _ ?_
   grind
  .obtain⟨c1,y,e,G⟩:=BD 2 E;refine G.of λr er=>o8 _ _ _ _ _ _ _ _ ?_
   grind
def Pi{c:Zo}(g:GC c):GD (gV c):=by
 obtain⟨c1,val,e1,g1,_⟩:=QO g [2,3,4,6] Z Z;obtain⟨c2,most,e2,g2,hm⟩:=QO g1 [2,4,6,8] Z Z;have hm:0<=most/\most<=100:=by
  grind
 obtain⟨c3,y,e3,g3,hl,h3⟩:=ZFl g2 (⟨#[114]⟩:KI) 2 E most val hm.1 hm.2;refine(d0a val most hm.1 hm.2 1 E c3 [⟨(⟨#[114]⟩:KI),2,y⟩] g3 rfl E (by intro t ht;simp at ht;subst ht;exact⟨hl,h3⟩)).of λr e=>Xg.1.1.1.1 _ _ ⟨c1,_,val,e1,c2,_,most,e2,ZNa _ _ _ _ _ _ _ ?_⟩
 rw[Ya Om];refine⟨E,(⟨#[114]⟩:KI),rfl,?_⟩;rw[Yb Om,Yb Om];exact⟨c3,y,_,_,e3,e⟩
def Hm.le{d:Zj}(h5:d.Tables.length<=5)(h:∀t∈d.Tables,Hm t):BA d:=⟨E,λt ht=>⟨by have:=(h t ht).1;omega,λr hr=>by have:=(h t ht).2 r hr;omega⟩⟩
theorem ZK{x a b:Int}:Am x a b=true↔a<=x/\x<=b:=by simp[Am]
def ft(b:Bool):b=true\/b=false:=by cases b<;>simp
def vR(r:Zb):Bool:=Am r.Den 1 2147483647 && Am r.Num (-2147483647) 2147483647 && decide (Int.gcd r.Num r.Den=1)
def nR(r:Zb):Zb:=⟨-r.Num,r.Den⟩
def r0:Zb:=⟨0,0⟩
def DT(n d:Int):Option Zb:=if vR ⟨n.tdiv (Int.gcd n d),d.tdiv (Int.gcd n d)⟩then some ⟨n.tdiv (Int.gcd n d),d.tdiv (Int.gcd n d)⟩else none
def Cv(n d:Int):Option Zb:=if d=0 then none else if d<0 then DT (-n) (-d)else DT n d
def V8(a b:Zb):Option Zb:=if vR a && vR b then Cv (a.Num*b.Den+b.Num*a.Den) (a.Den*b.Den)else none
def Ue(a b:Zb):Option Zb:=if vR a && vR b then Cv (a.Num*b.Den-b.Num*a.Den) (a.Den*b.Den)else none
def Wb(a b:Zb):Option Zb:=if vR a && vR b then Cv (a.Num*b.Num) (a.Den*b.Den)else none
def Wd(a b:Zb):Option Zb:=if vR a && vR b then Cv (a.Num*b.Den) (a.Den*b.Num)else none
def UR{r:Zb}:vR r=true↔(1<=r.Den/\r.Den<=2147483647)/\(-2147483647<=r.Num/\r.Num<=2147483647)/\Int.gcd r.Num r.Den=1:=by
 unfold vR;rw[Yf,Yf,ZK,ZK,decide_eq_true_iff,and_assoc]
def tB(r:Zb):vR (nR r)=vR r:=by
 have h:vR (nR r)=true↔vR r=true:=by
  rw[UR,UR];simp only[nR,Int.neg_gcd];omega
 simp_all
def ZFm(n d:Int):DT (-n) d=(DT n d).map nR:=by
 unfold DT;have e:(⟨(-n).tdiv (Int.gcd (-n) d),d.tdiv (Int.gcd (-n) d)⟩:Zb)=nR ⟨n.tdiv (Int.gcd n d),d.tdiv (Int.gcd n d)⟩:=by
  simp[nR,Int.neg_tdiv]
 simp_all [tB]
def ZSt(n d:Int):Cv (-n) d=(Cv n d).map nR:=by
 unfold Cv;split
 .rfl
 split
 .exact ZFm _ _
 .exact ZFm _ _
def ZFn(n d:Int):Cv (-n) (-d)=Cv n d:=by
 unfold Cv
 grind
def ZSu(a b:Zb):Wb (nR a) b=(Wb a b).map nR:=by
 unfold Wb;rw[tB];split
 .rw[<-ZSt];simp[nR,Int.neg_mul]
 .rfl
def ZFo(a b:Zb):Ue a b=V8 a (nR b):=by
 unfold Ue V8;rw[tB];split
 .simp only[nR,Int.neg_mul,Int.sub_eq_add_neg]
 .rfl
def Zr7{n d:Int}{r:Zb}(h:Cv n d=some r):vR r=true:=by
 unfold Cv DT at h
 grind
def ZFp{a b r:Zb}(h:V8 a b=some r):vR r=true:=by
 unfold V8 at h;split at h
 .exact Zr7 h
 .cases h
def Z31{a b r:Zb}(h:Ue a b=some r):vR r=true:=by
 unfold Ue at h;split at h
 .exact Zr7 h
 .cases h
def ZFq{a b r:Zb}(h:Wb a b=some r):vR r=true:=by
 unfold Wb at h;split at h
 .exact Zr7 h
 .cases h
theorem JH{a b r:Zb}(h:Wd a b=some r):vR r=true:=by
 unfold Wd at h;split at h
 .exact Zr7 h
 .cases h
def FE(a b c:Zb):Option Zb:=if b.Num=0\/c.Num=0 then some a else(Wb b c).bind (V8 a)
def Ct(a b c:Zb):Option Zb:=if b.Num=0\/c.Num=0 then some a else(Wb b c).bind (Ue a)
def tC(a b c:Zb):FE a (nR b) c=Ct a b c:=by
 unfold FE Ct;have e:(nR b).Num=0↔b.Num=0:=by simp[nR]
 rw[ZSu];by_cases h:b.Num=0\/c.Num=0
 .simp_all
 .rw[Yb h,Yb (by rw[e];exact h)]
  cases Wb b c with
  |none=>rfl
  |some x=>show V8 a (nR x)=Ue a x;rw[ZFo]
theorem ZSv{r:Zb}(h:vR r=true):DT r.Num r.Den=some r:=by
 have g:=(UR.1 h).2.2;unfold DT
 simp_all
def Zr8{r:Zb}(h:vR r=true):Cv r.Num r.Den=some r:=by
 have:=(UR.1 h).1;unfold Cv
 grind [ZSv]
theorem v0:vR ⟨0,1⟩=true:=by decide
def v1:vR ⟨1,1⟩=true:=by decide
def ZFr{a:Zb}(h:vR a=true)(h0:a.Num≠0):∃i,Wd ⟨1,1⟩ a=some i/\vR i=true/\((a.Num<0/\i=⟨-a.Den,-a.Num⟩)\/(0<a.Num/\i=⟨a.Den,a.Num⟩)):=by
 have g:=UR.1 h;unfold Wd;rw[v1,h];simp only[Bool.and_self,if_true,Int.one_mul];by_cases hn:a.Num<0
 .have hv:vR (⟨-a.Den,-a.Num⟩:Zb)=true:=UR.2 ⟨by simp only;omega,by simp only;omega,by simp only[Int.neg_gcd,Int.gcd_neg];rw[Int.gcd_comm];exact g.2.2⟩;have e:=Zr8 hv
  simp_all [ZFn]
 .have hv:vR (⟨a.Den,a.Num⟩:Zb)=true:=UR.2 ⟨by simp only;omega,by simp only;omega,by simp only;rw[Int.gcd_comm];exact g.2.2⟩;exact⟨_,Zr8 hv,hv,.inr ⟨E,rfl⟩⟩
def Pj{c a i:Zb}(hc:vR c=true)(ha:vR a=true)(h0:a.Num≠0)(hi:Wd ⟨1,1⟩ a=some i):Ct ⟨0,1⟩ c i=(Wd c a).map nR:=by
 obtain⟨j,hj,hv,hs⟩:=ZFr ha h0;obtain rfl:i=j:=w7 (hi.symm.trans hj);have gc:=UR.1 hc;have ga:=UR.1 ha;have hd:Wd c a=Wb c i:=by
  unfold Wd Wb;rw[hc,ha,hv];simp only[Bool.and_self,if_true];rcases hs with⟨_,rfl⟩|⟨_,rfl⟩
  .simp[ZFn,Int.mul_neg]
  .rfl
 rw[hd];unfold Ct;have hin:i.Num≠0:=by
  grind
 by_cases hcn:c.Num=0
 .rw[Ya (.inl hcn)];have hid:=(UR.1 hv).1;have h1:c.Den=1:=by have:=gc.2.2;rw[hcn,Int.gcd_zero_left]at this;omega
  unfold Wb;rw[hc,hv];simp only[Bool.and_self,if_true];rw[hcn,h1,Int.zero_mul,Int.one_mul];unfold Cv DT;rw[Ao,Ao];have e:(⟨(0:Int).tdiv (Int.gcd 0 i.Den),i.Den.tdiv (Int.gcd 0 i.Den)⟩:Zb)=⟨0,1⟩:=by
   grind [Int.gcd_zero_left,Int.zero_tdiv,Int.tdiv_self]
  rw[e,v0];rfl
 .rw[Yb (by simp[hcn,hin])]
  cases hm:Wb c i with
  |none=>rfl
  |some x =>
   have hx:=ZFq hm;show Ue ⟨0,1⟩ x=some (nR x);rw[ZFo];unfold V8;rw[v0,tB,hx];simp only[Bool.and_self,if_true,Int.zero_mul,Int.zero_add,Int.mul_one,Int.one_mul]
   simp_all [Zr8,tB]
def ZSw{d:Int}(h:1<=d):Cv 0 d=some ⟨0,1⟩:=by
 have hg:(Int.gcd 0 d:Int)=d:=by
  rw[Int.gcd_zero_left];omega
 unfold Cv;rw[Ao,Ao];unfold DT;rw[hg,Int.zero_tdiv,Int.tdiv_self E,Ya v0]
def ZSx{b c:Zb}(hb:vR b=true)(hc:vR c=true)(h:b.Num=0\/c.Num=0):Wb b c=some ⟨0,1⟩:=by
 unfold Wb;rw[hb,hc,Ya (by rfl)];have e:b.Num*c.Num=0:=by rcases h with h|h<;>rw[h]<;>simp
 rw[e];have h1:=(UR.1 hb).1.1;have h2:=(UR.1 hc).1.1;exact ZSw (by have:=Int.mul_le_mul h1 h2 E E;simpa using this)
def ZSy{a:Zb}(h:vR a=true):V8 a ⟨0,1⟩=some a:=by
 unfold V8;rw[h,v0,Ya (by rfl)];have e:a.Num*1+0*a.Den=a.Num:=by omega
 have e2:a.Den*1=a.Den:=by omega
 show Cv (a.Num*1+0*a.Den) (a.Den*1)=some a;rw[e,e2,Zr8 h]
def ZSz{a b c:Zb}(ha:vR a=true)(hb:vR b=true)(hc:vR c=true):FE a b c=(Wb b c).bind (V8 a):=by
 unfold FE;split
 .rename_i h;rw[ZSx hb hc h];exact(ZSy ha).symm
 .rfl
def Z32(k j:Nat)(x c a p:Zb):Option Zb:=if k=j then(Wd c a).map nR else FE x (nR c) p
def Jd(k j:Nat)(x c p:Zb):Option Zb:=Ct (if k=j then⟨0,1⟩else x) c p
theorem Pk{k j:Nat}{x c a p:Zb}(hc:vR c=true)(ha:vR a=true)(h0:a.Num≠0)(hp:k=j->Wd ⟨1,1⟩ a=some p):Z32 k j x c a p=Jd k j x c p:=by
 unfold Z32 Jd;by_cases h:k=j
 .rw[Ya h,Ya h];exact(Pj hc ha h0 (hp h)).symm
 .rw[Yb h,Yb h];exact tC x c p
def ZFs{l:V2}{i:Nat}(h:i<l.length)(a:Int):a∈l.set i a:=by
 rw[List.mem_iff_getElem];exact⟨i,by rw[Y7];exact h,Z⟩
def ZFt{l:V2}{i:Nat}{a x:Int}(h:x∈l)(h':∀hi:i<l.length,x≠l[i]):x∈l.set i a:=by
 obtain⟨p,hp,rfl⟩:=List.mem_iff_getElem.1 h;rw[List.mem_iff_getElem];refine⟨p,by rw[Y7];exact hp,?_⟩;rw[List.getElem_set,Yb];rintro rfl;exact h' hp rfl
theorem ZS0{B F:V2}{r c:Nat}(hr:r<B.length)(hc:c<F.length)(x:Int):x∈B.set r F[c]++F.set c B[r]↔x∈B++F:=by
 simp only[Yp];constructor
 .rintro(h|h)
  .rcases cT h with h|h
   .exact .inl h
   .exact .inr (h▸Ye hc)
  .rcases cT h with h|h
   .exact .inr h
   .exact .inl (h▸Ye hr)
 .rintro(h|h)
  .by_cases e:x=B[r]
   .rw[e];exact .inr (ZFs hc _)
   .exact .inl (ZFt h λ_=>e)
  .by_cases e:x=F[c]
   .rw[e];exact .inl (ZFs hr _)
   .exact .inr (ZFt h λ_=>e)
def Xa(l:List (Option Zb)):Bool:=l.all Option.isSome
def vals(l:List (Option Zb)):List Zb:=l.map λo=>o.getD r0
def ZS1(l k:List (Option Zb)):Xa (l++k)=(Xa l && Xa k):=by simp[Xa]
def ZS2(l k:List (Option Zb)):vals (l++k)=vals l++vals k:=by simp[vals]
def Z33{l:List (Option Zb)}(h:Xa l=true)(hv:∀o∈l,∀r,o=some r->vR r=true):∀r∈vals l,vR r=true:=by
 intro r hr;obtain⟨o,ho,rfl⟩:=Yn.1 hr;have:=Ym.1 h o ho
 cases o with
 |none=>cases this
 |some x=>exact hv _ ho x rfl
def ZFu{n d:Int}{r:Zb}(hd:0<d)(h:DT n d=some r):r.Num*d=n*r.Den:=by
 unfold DT at h;split at h
 .cases h;have hg:(Int.gcd n d:Int) ∣ n:=Int.gcd_dvd_left ..;have hg2:(Int.gcd n d:Int) ∣ d:=Int.gcd_dvd_right ..;obtain⟨x,hx⟩:=hg;obtain⟨y,hy⟩:=hg2;have hpos:(0:Int)<Int.gcd n d:=by
   grind
  generalize hG:(Int.gcd n d:Int)=G at *
  have e1:n.tdiv G=x:=by rw[hx,Int.mul_tdiv_cancel_left _ E]
  have e2:d.tdiv G=y:=by rw[hy,Int.mul_tdiv_cancel_left _ E]
  grind
 .cases h
def Zr9{n d:Int}{r:Zb}(h:Cv n d=some r):r.Num*d=n*r.Den:=by
 unfold Cv at h;split at h
 .cases h
 split at h
 .have:=ZFu E h
  grind
 .exact ZFu E h
def WY{r:Zb}(h:vR r=true):0<r.Den:=by have:=(UR.1 h).1.1;omega
def ZS3{a b r:Zb}(h:V8 a b=some r):r.Num*(a.Den*b.Den)=(a.Num*b.Den+b.Num*a.Den)*r.Den:=by
 unfold V8 at h;split at h
 .exact Zr9 h
 .cases h
def ZFv{a b r:Zb}(h:Ue a b=some r):r.Num*(a.Den*b.Den)=(a.Num*b.Den-b.Num*a.Den)*r.Den:=by
 unfold Ue at h;split at h
 .exact Zr9 h
 .cases h
def Z34{a b r:Zb}(h:Wb a b=some r):r.Num*(a.Den*b.Den)=(a.Num*b.Num)*r.Den:=by
 unfold Wb at h;split at h
 .exact Zr9 h
 .cases h
def ZFw{a b r:Zb}(h:Wd a b=some r):r.Num*(a.Den*b.Num)=(a.Num*b.Den)*r.Den:=by
 unfold Wd at h;split at h
 .exact Zr9 h
 .cases h
def bN{a b r:Zb}:(V8 a b=some r\/Ue a b=some r\/Wb a b=some r\/Wd a b=some r)->vR a=true/\vR b=true:=by
 intro h;rcases h with h|h|h|h
 .unfold V8 at h;split at h
  .simp_all
  .cases h
 .unfold Ue at h;split at h
  .simp_all
  .cases h
 .unfold Wb at h;split at h
  .simp_all
  .cases h
 .unfold Wd at h;split at h
  .simp_all
  .cases h
def Dd(a b:Zb):Prop:=a.Num*b.Den<=b.Num*a.Den
def Hn{x y:Int}(hy:0<y)(h:0<=x*y):0<=x:=by
 rcases Int.lt_or_le x 0 with hx|hx
 .have:=Int.mul_neg_of_neg_of_pos hx hy;omega
 .exact hx
def ZS4{a b c q y:Zb}(ha:0<=a.Num)(hb:0<b.Num)(hq:Wd a b=some q)(hc:vR c=true)(cc:Dd c q)(h:Ct a b c=some y):0<=y.Num:=by
 obtain⟨va,vb⟩:=bN (.inr (.inr (.inr hq)));have vq:=JH hq;unfold Ct at h;split at h
 .cases h;exact ha
 .cases hx:Wb b c with
  |none=>rw[hx]at h;cases h
  |some x =>
   rw[hx]at h;have h:Ue a x=some y:=h;have vx:=ZFq hx;have vy:=Z31 h;have e1:=ZFv h;have e2:=Z34 hx;have e3:=ZFw hq;have pa:=WY va;have pb:=WY vb;have pc:=WY hc;have pq:=WY vq;have px:=WY vx;have py:=WY vy;unfold Dd at cc;have k1:0<=(a.Num*(b.Den*c.Den)-b.Num*c.Num*a.Den)*q.Den:=by
    have m:=Int.mul_le_mul_of_nonneg_left cc (show 0<=b.Num*a.Den from Int.mul_nonneg E E)
    have:(a.Num*(b.Den*c.Den)-b.Num*c.Num*a.Den)*q.Den=b.Num*a.Den*(q.Num*c.Den)-b.Num*a.Den*(c.Num*q.Den):=by grind
    omega
   have k2:=Hn pq k1;have k3:0<=(a.Num*x.Den-x.Num*a.Den)*(b.Den*c.Den):=by
    have:(a.Num*x.Den-x.Num*a.Den)*(b.Den*c.Den)=(a.Num*(b.Den*c.Den)-b.Num*c.Num*a.Den)*x.Den:=by grind
    rw[this];exact Int.mul_nonneg k2 E
   have k4:=Hn (Int.mul_pos pb pc) k3;have k5:0<=y.Num*(a.Den*x.Den):=by rw[e1];exact Int.mul_nonneg k4 E
   exact Hn (Int.mul_pos pa px) k5
def ZS5{a b c y:Zb}(ha:0<=a.Num)(hb:b.Num<=0)(hc:0<=c.Num)(h:Ct a b c=some y):0<=y.Num:=by
 unfold Ct at h;split at h
 .cases h;exact ha
 .cases hx:Wb b c with
  |none=>rw[hx]at h;cases h
  |some x =>
   rw[hx]at h;have h:Ue a x=some y:=h;obtain⟨va,vx⟩:=bN (.inr (.inl h));obtain⟨vb,vc⟩:=bN (.inr (.inr (.inl hx)));have e1:=ZFv h;have e2:=Z34 hx;have pa:=WY va;have pb:=WY vb;have pc:=WY vc;have px:=WY vx;have py:=WY (Z31 h);have k0:0<=(-x.Num)*(b.Den*c.Den):=by
    have:(-x.Num)*(b.Den*c.Den)=(-b.Num)*c.Num*x.Den:=by grind
    rw[this];exact Int.mul_nonneg (Int.mul_nonneg E hc) E
   have k1:=Hn (Int.mul_pos pb pc) k0;have k2:0<=a.Num*x.Den-x.Num*a.Den:=by
    have p:=Int.mul_nonneg ha (show 0<=x.Den by omega);have q:=Int.mul_nonneg k1 (show 0<=a.Den by omega)
    grind
   have k5:0<=y.Num*(a.Den*x.Den):=by rw[e1];exact Int.mul_nonneg k2 E
   exact Hn (Int.mul_pos pa px) k5
def ZS6{a b q:Zb}(ha:0<=a.Num)(hb:0<b.Num)(h:Wd a b=some q):0<=q.Num:=by
 obtain⟨va,vb⟩:=bN (.inr (.inr (.inr h)));have e:=ZFw h;have pa:=WY va;have pb:=WY vb;have pq:=WY (JH h);refine Hn (Int.mul_pos pa hb) ?_;rw[e];exact Int.mul_nonneg (Int.mul_nonneg ha E) E
def ZS7{a b c y:Zb}(ha:0<=a.Num)(hb:0<=b.Num)(hc:0<=c.Num)(h:FE a b c=some y):0<=y.Num:=by
 unfold FE at h;split at h
 .cases h;exact ha
 .cases hx:Wb b c with
  |none=>rw[hx]at h;cases h
  |some x =>
   rw[hx]at h;have h:V8 a x=some y:=h;obtain⟨va,vx⟩:=bN (.inl h);obtain⟨vb,vc⟩:=bN (.inr (.inr (.inl hx)));have e1:=ZS3 h;have e2:=Z34 hx;have pa:=WY va;have px:=WY vx;have py:=WY (ZFp h);have pb:=WY vb;have pc:=WY vc;have k1:0<=x.Num:=Hn (Int.mul_pos pb pc) (by rw[e2];exact Int.mul_nonneg (Int.mul_nonneg hb hc) E);have k5:0<=y.Num*(a.Den*x.Den):=by
    rw[e1];exact Int.mul_nonneg (by have p:=Int.mul_nonneg ha (show 0<=x.Den by omega);have q:=Int.mul_nonneg k1 (show 0<=a.Den by omega);omega) E
   exact Hn (Int.mul_pos pa px) k5
def Uy(x:Int):V2->V2
 |[]=>[x]
 |y::ys=>if y<x/\∀z∈ys,z<x then x::y::ys else y::Uy x ys
def ZrA(x:Int):∀l,(Uy x l).Perm (x::l)
 |[]=>.refl _
 |y::ys=>by
  unfold Uy;split
  .exact .refl _
  .exact((ZrA x ys).cons y).trans (.swap x y ys)
def ZS8{x z:Int}{l:V2}:z∈Uy x l↔z=x\/z∈l:=by
 rw[(ZrA x l).mem_iff,Yy]
def ZFx{x:Int}:∀{l:V2},l.Pairwise (· >= ·)->(Uy x l).Pairwise (· >= ·)
 |[],_=>by simp[Uy]
 |y::ys,h=>by
  rw[Y4]at h;unfold Uy;split
  .rename_i c;rw[Y4,Y4];refine⟨λz hz=>?_,h⟩;rcases Yy.1 hz with rfl|hz
   .exact Int.le_of_lt c.1
   .exact Int.le_of_lt (c.2 z hz)
  .rename_i c;rw[Y4];refine⟨λz hz=>?_,ZFx h.2⟩;rcases ZS8.1 hz with rfl|hz
   .show z<=y;rcases Int.lt_or_le y z with h1|h1
    .exact absurd ⟨h1,λt ht=>Int.lt_of_le_of_lt (h.1 t ht) h1⟩ c
    .exact h1
   .exact h.1 z hz
def dwn(l:V2):V2:=l.foldl (λout x=>Uy x out) []
def ZFy:∀(l c:V2),c.Pairwise (· >= ·)->(l.foldl (λc x=>Uy x c) c).Pairwise (· >= ·)/\(l.foldl (λc x=>Uy x c) c).Perm (l++c)
 |[],c,h=>⟨h,.refl _⟩
 |x::l,c,h=>by
  obtain⟨h1,h2⟩:=ZFy l (Uy x c) (ZFx h);refine⟨h1,h2.trans ?_⟩;exact((ZrA x c).append_left l).trans List.perm_middle
def ZFz:∀{a b:V2},a.Pairwise (· >= ·)->b.Pairwise (· >= ·)->a.Perm b->a=b
 |[],b,_,_,h=>h.symm.eq_nil.symm
 |x::a,[],_,_,h=>absurd h.eq_nil Z
 |x::a,y::b,ha,hb,h=>by
  have e:x=y:=by
   have h1:x∈y::b:=h.mem_iff.1 (.head _);have h2:y∈x::a:=h.mem_iff.2 (.head _);rw[Y4]at ha hb;have q1:x<=y:=by rcases Yy.1 h1 with h1|h1;exact Int.le_of_eq h1;exact hb.1 x h1
   have q2:y<=x:=by rcases Yy.1 h2 with h2|h2;exact Int.le_of_eq h2;exact ha.1 y h2
   omega
  subst e;rw[ZFz (Y4.1 ha).2 (Y4.1 hb).2 (h.cons_inv)]
def Pl(l:V2):dwn l=(ZE l).reverse:=by
 obtain⟨h1,h2⟩:=ZFy l [] List.Pairwise.nil;refine ZFz h1 ?_ ?_
 .rw[List.pairwise_reverse];have:=List.pairwise_mergeSort (le:=λx y:Int=>decide (x<=y)) (by intro a b c;simp;omega) (by intro a b;simp;omega) l;exact this.imp λ{a b} h=>by simpa using h
 .rw[CX]at h2;exact h2.trans ((RH l _).symm.trans (List.reverse_perm _).symm)
def Uz(row:List Zb)(j:Nat):List (Option Zb):=(List.range row.length).map λk=>if k=j then Wd ⟨1,1⟩ (row.getD j r0)else Wd (row.getD k r0) (row.getD j r0)
def Pm(l p:List Zb)(a:Zb)(j:Nat):List (Option Zb):=(List.range l.length).map λk=>Z32 k j (l.getD k r0) (l.getD j r0) a (p.getD k r0)
def X7(l p:List Zb)(j:Nat):List (Option Zb):=(List.range l.length).map λk=>Jd k j (l.getD k r0) (l.getD j r0) (p.getD k r0)
theorem ZS9{row:List Zb}{j:Nat}(hj:j<row.length)(ha:vR (row.getD j r0)=true)(h0:(row.getD j r0).Num≠0):Wd ⟨1,1⟩ (row.getD j r0)=some ((vals (Uz row j)).getD j r0):=by
 obtain⟨i,hi,_⟩:=ZFr ha h0;rw[hi];congr 1;unfold vals Uz
 simp_all
def Pn{l row:List Zb}{j:Nat}(hj:j<row.length)(hc:vR (l.getD j r0)=true)(ha:vR (row.getD j r0)=true)(h0:(row.getD j r0).Num≠0) :
  Pm l (vals (Uz row j)) (row.getD j r0) j=X7 l (vals (Uz row j)) j:=by
 unfold Pm X7
 grind [List.map_congr_left,Pk,ZS9]
def Qr(l:List Zb):Prop:=∀r∈l,vR r=true
theorem bO{l:List Zb}(h:Qr l){k:Nat}(hk:k<l.length):vR (l.getD k r0)=true:=by
 rw[CF,Yh hk];exact h _ (Ye hk)
theorem ZF0{a b c y:Zb}(ha:vR a=true)(h:Ct a b c=some y):vR y=true:=by
 unfold Ct at h;split at h
 .cases h;exact ha
 .cases hx:Wb b c with
  |none=>rw[hx]at h;cases h
  |some x=>rw[hx]at h;exact Z31 h
def Po{a b c y:Zb}(ha:vR a=true)(h:FE a b c=some y):vR y=true:=by
 unfold FE at h;split at h
 .cases h;exact ha
 .cases hx:Wb b c with
  |none=>rw[hx]at h;cases h
  |some x=>rw[hx]at h;exact ZFp h
def ZF1{l p:List Zb}{j:Nat}(hl:Qr l)(h:Xa (X7 l p j)=true):Qr (vals (X7 l p j)):=by
 refine Z33 h λo ho r e=>?_
 unfold X7 at ho;obtain⟨k,hk,rfl⟩:=Yn.1 ho;have hk:=Y8.1 hk;unfold Jd at e
 grind [ZF0,v0,bO]
def ZSA{row:List Zb}{j:Nat}(h:Xa (Uz row j)=true):Qr (vals (Uz row j)):=by
 refine Z33 h λo ho r e=>?_
 unfold Uz at ho
 grind [JH]
def tD(l p:List Zb)(j:Nat):(X7 l p j).length=l.length:=by simp[X7]
def ZF2(row:List Zb)(j:Nat):(Uz row j).length=row.length:=by simp[Uz]
def QR(l:List (Option Zb)):(vals l).length=l.length:=by simp[vals]
def Je(d:Zv)(i j:Nat):List (List (Option Zb)):=(List.range d.Cells.length).map λr=>if r=i then Uz (d.Cells.getD i []) j else X7 (d.Cells.getD r []) (vals (Uz (d.Cells.getD i []) j)) j
def US(d:Zv)(i j:Nat):Option Zb:=Wd (d.Limits.getD i r0) ((d.Cells.getD i []).getD j r0)
def VM(d:Zv)(i j:Nat):List (Option Zb):=(List.range d.Limits.length).map λr=>if r=i then US d i j else Ct (d.Limits.getD r r0) ((d.Cells.getD r []).getD j r0) ((US d i j).getD r0)
def UT(d:Zv)(i j:Nat):List (Option Zb):=X7 d.Costs (vals (Uz (d.Cells.getD i []) j)) j
def Kz(d:Zv)(i j:Nat):Option Zb:=FE d.Value (d.Costs.getD j r0) ((US d i j).getD r0)
def okO(d:Zv)(i j:Nat):Bool:=Xa (Uz (d.Cells.getD i []) j) && (US d i j).isSome && (Je d i j).all Xa && Xa (VM d i j) && Xa (UT d i j) && (Kz d i j).isSome
def Wr(d:Zv)(i j:Nat):Zv :=
 ⟨d.Basic.set i (d.Free.getD j 0),d.Free.set j (d.Basic.getD i 0),(Je d i j).map vals,vals (VM d i j),vals (UT d i j),(Kz d i j).getD r0⟩
structure QS (d:Zv):Prop where
 m:d.Basic.length<=64
 n:1<=d.Free.length/\d.Free.length<=15
 lc:d.Cells.length=d.Basic.length
 ll:d.Limits.length=d.Basic.length
 lk:d.Costs.length=d.Free.length
 vs:∀v:Nat,v<d.Basic.length+d.Free.length->(v:Int)∈d.Basic++d.Free
 rw':∀r∈d.Cells,r.length=d.Free.length/\Qr r
 vl:Qr d.Limits
 vk:Qr d.Costs
 vv:vR d.Value=true
def ZSB{d:Zv}(h:QS d){i j:Nat}(hi:i<d.Basic.length)(hj:j<d.Free.length)(ok:okO d i j=true):QS (Wr d i j):=by
 unfold okO at ok;simp only[Yf]at ok;obtain⟨⟨⟨⟨⟨o1,o2⟩,o3⟩,o4⟩,o5⟩,o6⟩:=ok;have hci:i<d.Cells.length:=by rw[h.lc];exact hi
 have cell:∀r,r<d.Cells.length->(d.Cells.getD r []).length=d.Free.length/\Qr (d.Cells.getD r []):=by
  intro r hr;rw[CF,Yh hr];exact h.rw' _ (Ye hr)
 refine⟨by simpa[Wr]using h.m,by simpa[Wr]using h.n,by simp[Wr,Je,h.lc],by simp[Wr,vals,VM,h.ll],by simp[Wr,vals,UT,X7,h.lk],?_,?_,?_,ZF1 h.vk o5,?_⟩
 .intro v hv;have hv:v<d.Basic.length+d.Free.length:=by simpa[Wr]using hv
  have:=h.vs v hv;have e1:d.Free.getD j 0=d.Free[j]:=by rw[CF,Yh hj];rfl
  have e2:d.Basic.getD i 0=d.Basic[i]:=by rw[CF,Yh hi];rfl
  show(v:Int)∈d.Basic.set i (d.Free.getD j 0)++d.Free.set j (d.Basic.getD i 0)
  grind [ZS0]
 .intro r hr;obtain⟨l,hl,rfl⟩:=Yn.1 hr;have hok:=Ym.1 o3 l hl;unfold Je at hl;obtain⟨k,hk,rfl⟩:=Yn.1 hl;have hk:=Y8.1 hk;split at hok
  .rename_i e;rw[Ya e];refine⟨?_,ZSA o1⟩;rw[QR,ZF2];show _=(d.Free.set j _).length
   simp_all
  .rename_i e;rw[Yb e];refine⟨?_,ZF1 (cell k hk).2 hok⟩;rw[QR,tD];show _=(d.Free.set j _).length
   simp_all
 .refine Z33 o4 λo ho r e=>?_
  unfold VM at ho;obtain⟨k,hk,rfl⟩:=Yn.1 ho;have hk:=Y8.1 hk;split at e
  .exact JH e
  .exact ZF0 (bO h.vl hk) e
 .show vR ((Kz d i j).getD r0)=true
  cases e:Kz d i j with
  |none=>rw[e]at o6;cases o6
  |some y=>exact Po h.vv e
def ZSC{a b c:Zb}(ha:vR a=true)(hb:vR b=true)(hc:vR c=true)(h1:Dd a b)(h2:Dd b c):Dd a c:=by
 unfold Dd at *
 have pa:=WY ha;have pb:=WY hb;have pc:=WY hc;have k1:=Int.mul_le_mul_of_nonneg_right h1 (show 0<=c.Den by omega);have k2:=Int.mul_le_mul_of_nonneg_right h2 (show 0<=a.Den by omega);have k3:0<=(c.Num*a.Den-a.Num*c.Den)*b.Den:=by
  have:(c.Num*a.Den-a.Num*c.Den)*b.Den=c.Num*b.Den*a.Den-a.Num*b.Den*c.Den:=by grind
  have e:b.Num*a.Den*c.Den=b.Num*c.Den*a.Den:=by grind
  omega
 have:=Hn pb k3;omega
def ZSD(a:Zb):Dd a a:=Int.le_refl _
def JI(a b:Zb):Int:=if vR a && vR b then(if a.Num*b.Den<b.Num*a.Den then -1 else if b.Num*a.Den<a.Num*b.Den then 1 else 0)else 0
def ZSE{a b:Zb}(h:JI a b<0):Dd a b:=by
 unfold JI at h;unfold Dd;split at h
 .split at h
  .omega
  .split at h<;>omega
 .omega
def ZSF{a b:Zb}(ha:vR a=true)(hb:vR b=true)(h:JI a b=0):Dd a b:=by
 unfold JI at h;unfold Dd;rw[ha,hb]at h;split at h
 .split at h
  .omega
  .split at h<;>omega
 .rename_i hh;exact absurd rfl hh
def ZSG{a b:Zb}(ha:vR a=true)(hb:vR b=true)(h:¬JI a b<0):Dd b a:=by
 unfold JI at h;unfold Dd;rw[ha,hb]at h;split at h
 .split at h
  .omega
  .split at h<;>omega
 .rename_i hh;exact absurd rfl hh
def ZrB(l:List Zb):Prop:=∀r∈l,0<=r.Num
def Z35{l:List Zb}(h:ZrB l){k:Nat}(hk:k<l.length):0<=(l.getD k r0).Num:=by
 rw[CF,Yh hk];exact h _ (Ye hk)
def ZSH{d:Zv}(h:QS d)(hl:ZrB d.Limits)(hv:0<=d.Value.Num){i j:Nat}(hi:i<d.Basic.length)(hj:j<d.Free.length)
  (hc:0<(d.Costs.getD j r0).Num) (ha:0<((d.Cells.getD i []).getD j r0).Num)
  (c:∀k,k<d.Basic.length->0<((d.Cells.getD k []).getD j r0).Num->∃q,Wd (d.Limits.getD k r0) ((d.Cells.getD k []).getD j r0)=some q/\Dd ((US d i j).getD r0) q)
  (ok:okO d i j=true):ZrB (Wr d i j).Limits/\0<=(Wr d i j).Value.Num:=by
 unfold okO at ok;simp only[Yf]at ok;obtain⟨⟨⟨⟨⟨o1,o2⟩,o3⟩,o4⟩,o5⟩,o6⟩:=ok;have hii:i<d.Limits.length:=by rw[h.ll];exact hi
 cases e:US d i j with
 |none=>rw[e]at o2;cases o2
 |some lim =>
  have Abr:vR lim=true:=JH e;have Pp:0<=lim.Num:=ZS6 (Z35 hl hii) ha e;constructor
  .intro r hr;obtain⟨o,ho,rfl⟩:=Yn.1 hr;have hs:=Ym.1 o4 o ho;unfold VM at ho;obtain⟨k,hk,rfl⟩:=Yn.1 ho;have hk:=Y8.1 hk;by_cases hki:k=i
   .rw[Ya hki,e];exact Pp
   .rw[Yb hki]at hs|-;rw[e]at hs|-
    cases hy:Ct (d.Limits.getD k r0) ((d.Cells.getD k []).getD j r0) ((some lim).getD r0)with
    |none=>rw[hy]at hs;cases hs
    |some y =>
     show 0<=y.Num;by_cases hp:0<((d.Cells.getD k []).getD j r0).Num
     .obtain⟨q,hq,hle⟩:=c k (by rw[<-h.ll];exact hk) hp;rw[e]at hle;exact ZS4 (Z35 hl hk) hp hq Abr hle hy
     .exact ZS5 (Z35 hl hk) E Pp hy
  .show 0<=((Kz d i j).getD r0).Num
   cases hy:Kz d i j with
   |none=>rw[hy]at o6;cases o6
   |some y =>
    unfold Kz at hy;rw[e]at hy;exact ZS7 hv E Pp hy
def Ho(F:V2):List Zb->Nat->Int->Int
 |[],_,best=>best
 |c::cs,k,best=>Ho F cs (k+1) (if 0<c.Num/\(best<0\/F.getD k 0<F.getD best.toNat 0)then(k:Int)else best)
def BM(d:Zv):Int:=Ho d.Free d.Costs 0 (-1)
def ZF3{F:V2}{C:List Zb}:∀(cs:List Zb) (k:Nat) (cc:Int),cs=C.drop k->(cc=-1\/(0<=cc/\cc<C.length/\0<(C.getD cc.toNat r0).Num))->
  Ho F cs k cc=-1\/(0<=Ho F cs k cc/\Ho F cs k cc<C.length/\0<(C.getD (Ho F cs k cc).toNat r0).Num)
 |[],_,_,_,h=>h
 |c::cs,k,cc,e,h=>by
  have hk:k<C.length:=by
   grind [Nat.lt_or_ge,List.drop_eq_nil_of_le]
  rw[Yg hk]at e;obtain⟨rfl,e2⟩:=List.cons.inj e;unfold Ho;refine ZF3 cs (k+1) _ e2 ?_
  grind
theorem Z36(d:Zv):BM d=-1\/(0<=BM d/\BM d<d.Costs.length/\0<(d.Costs.getD (BM d).toNat r0).Num):=ZF3 d.Costs 0 (-1) rfl (.inl rfl)
def Vi(d:Zv)(i j:Nat):Zb:=(d.Cells.getD i []).getD j r0
def FF(d:Zv)(j:Nat):Nat->Nat->Int->Zb->Int
 |0,_,best,_=>best
 |n+1,i,best,least =>
  if(Vi d i j).Num<=0 then FF d j n (i+1) best least
  else match Wd (d.Limits.getD i r0) (Vi d i j)with
   |none=>-1
   |some q=>if best<0\/JI q least<0\/(JI q least=0/\d.Basic.getD i 0<d.Basic.getD best.toNat 0)then FF d j n (i+1) i q else FF d j n (i+1) best least
def Cw(d:Zv)(j:Nat):Int:=FF d j d.Basic.length 0 (-1) r0
def FG(d:Zv)(j k:Nat):Prop:=0<(Vi d k j).Num
def ZF4(d:Zv)(j i:Nat)(c:Int)(cc:Zb):Prop :=
 (c=-1/\∀k,k<i->¬FG d j k)\/(0<=c/\c<i/\FG d j c.toNat/\Wd (d.Limits.getD c.toNat r0) (Vi d c.toNat j)=some cc/\∀k,k<i->FG d j k->∃q,Wd (d.Limits.getD k r0) (Vi d k j)=some q/\Dd cc q)
def ZrC(d:Zv)(j:Nat):∀(n i:Nat) (cc:Int) (c:Zb),ZF4 d j i cc c->FF d j n i cc c=-1\/∃l,ZF4 d j (i+n) (FF d j n i cc c) l/\0<=FF d j n i cc c
 |0,i,cc,c,h=>by
  rcases h with h|h
  .exact .inl h.1
  .exact .inr ⟨c,.inr h,h.1⟩
 |n+1,i,cc,c,h=>by
  unfold FF;split
  .rename_i h0;rw[show i+(n+1)=(i+1)+n by omega];refine ZrC d j n (i+1) cc c ?_;have hno:¬FG d j i:=by unfold FG;omega
   rcases h with h|⟨h1,h2,h3,h4,h5⟩
   .refine .inl ⟨h.1,λk hk=>?_⟩;rcases D7 k i with hl|hl
    .exact h.2 k hl
    .have:k=i:=by omega
     subst this;exact hno
   .refine .inr ⟨h1,E,h3,h4,λk hk hon=>?_⟩;rcases D7 k i with hl|hl
    .exact h5 k hl hon
    .have:k=i:=by omega
     subst this;exact absurd hon hno
  .rename_i h0;have hon:FG d j i:=by unfold FG;omega
   split
   .exact .inl rfl
   .rename_i q hq;have vq:=JH hq;rw[show i+(n+1)=(i+1)+n by omega];split
    .rename_i hc;refine ZrC d j n (i+1) i q (.inr ⟨E,E,by rw[Yj];exact hon,by rw[Yj];exact hq,λk hk hk2=>?_⟩);rcases D7 k i with hl|hl
     .rcases h with h|⟨h1,h2,h3,h4,h5⟩
      .exact absurd hk2 (h.2 k hl)
      .have vl:=JH h4;have hle:Dd q c:=by
        rcases hc with hc|hc|hc
        .omega
        .exact ZSE hc
        .exact ZSF vq vl hc.1
       obtain⟨q',hq',Abs⟩:=h5 k hl hk2;exact⟨q',hq',ZSC vq vl (JH hq') hle Abs⟩
     .have:k=i:=by omega
      subst this;exact⟨q,hq,ZSD q⟩
    .rename_i hc;refine ZrC d j n (i+1) cc c ?_;rcases h with h|⟨h1,h2,h3,h4,h5⟩
     .exact absurd (.inl E) hc
     .have vl:=JH h4;refine .inr ⟨h1,E,h3,h4,λk hk hk2=>?_⟩;rcases D7 k i with hl|hl
      .exact h5 k hl hk2
      .have:k=i:=by omega
       subst this;exact⟨q,hq,ZSG vq vl λhx=>hc (.inr (.inl hx))⟩
def ZF5(d:Zv)(j:Nat):Cw d j=-1\/(0<=Cw d j/\Cw d j<d.Basic.length/\FG d j (Cw d j).toNat/\∀k,k<d.Basic.length->FG d j k->∃q,Wd (d.Limits.getD k r0) (Vi d k j)=some q/\Dd ((US d (Cw d j).toNat j).getD r0) q):=by
 rcases ZrC d j d.Basic.length 0 (-1) r0 (.inl ⟨rfl,λk hk=>absurd hk (Nat.not_lt_zero k)⟩)with h|⟨l,h,h0⟩
 .exact .inl h
 .rw[Yt]at h;rcases h with h|⟨h1,h2,h3,h4,h5⟩
  .exact .inl h.1
  .refine .inr ⟨h1,h2,h3,λk hk hon=>?_⟩;have e:US d (Cw d j).toNat j=some l:=h4
   simp_all
def Ll:Nat->Zv->Option Zv
 |0,_=>none
 |f+1,d=>if BM d<0 then some d else if Cw d (BM d).toNat<0 then none else if okO d (Cw d (BM d).toNat).toNat (BM d).toNat then Ll f (Wr d (Cw d (BM d).toNat).toNat (BM d).toNat)else none
structure Lm (d:Zv):Prop where
 v:QS d
 l:ZrB d.Limits
 x:0<=d.Value.Num
def ZF6{d:Zv}(h:Lm d)(h1:¬BM d<0)(h2:¬Cw d (BM d).toNat<0)(ok:okO d (Cw d (BM d).toNat).toNat (BM d).toNat=true):Lm (Wr d (Cw d (BM d).toNat).toNat (BM d).toNat):=by
 have hk:=h.v.lk;rcases Z36 d with e|⟨e1,e2,e3⟩
 .omega
 rcases ZF5 d (BM d).toNat with l|⟨l1,l2,l3,l4⟩
 .omega
 have:=ZSH h.v h.l h.x (i:=(Cw d (BM d).toNat).toNat) (j:=(BM d).toNat) E E e3 l3 l4 ok;exact⟨ZSB h.v E E ok,this.1,this.2⟩
theorem ZF7:∀(f:Nat) {d d':Zv},Lm d->Ll f d=some d'->Lm d'
 |0,d,d',_,h=>by cases h
 |f+1,d,d',hd,h=>by
  unfold Ll at h;split at h
  .cases h;exact hd
  rename_i h1;split at h
  .cases h
  rename_i h2;split at h
  .rename_i h3;exact ZF7 f (ZF6 hd h1 h2 h3) h
  .cases h
def ZF8:∀(k:V2) {l:V2},k.Nodup->(∀x∈k,x∈l)->l.length<=k.length->∀x∈l,x∈k
 |[],l,_,_,hl,x,hx=>by
  have:l=[]:=Yds.1 (by simpa using hl)
  subst this;cases hx
 |a::k,l,hn,hs,hl,x,hx=>by
  have hn':=LA.1 hn;have ha:a∈l:=hs a Z;by_cases e:x=a
  .simp[e]
  .have hx':x∈l.erase a:=(List.mem_erase_of_ne e).2 hx
   have:=ZF8 k hn'.2 (l:=l.erase a) (λy hy=>by
    have hya:y≠a:=λh=>hn'.1 (h▸hy)
    exact(List.mem_erase_of_ne hya).2 (hs y (by simp[hy]))) (by
    rw[List.length_erase_of_mem ha];simp only[Ys]at hl;omega) x hx'
   simp[this]
def ZF9{d:Zv}(h:QS d):∀x∈d.Basic++d.Free,0<=x/\x<d.Basic.length+d.Free.length:=by
 intro x hx
 have:=ZF8 ((List.range (d.Basic.length+d.Free.length)).map λn:Nat=>(n:Int)) (l:=d.Basic++d.Free) (by
  refine List.pairwise_map.2 (List.nodup_range.imp ?_)
  intro a b hab h;exact hab E) (by
  intro y hy;obtain⟨n,hn,rfl⟩:=Yn.1 hy
  exact h.vs n (Y8.1 hn)) Z x hx
 obtain⟨n,hn,rfl⟩:=Yn.1 this;have:=Y8.1 hn;omega
def tF(k B:Int):Nat->Int->Bool
 |0,_=>true
 |n+1,p=>if B<p*k then false else tF k B n (p*k)
def pfG(B:Int)(c:Nat):Nat->Int->Int
 |0,k=>k
 |f+1,k=>if tF (k+1) B c 1 then pfG B c f (k+1)else k
def bP(r:Zb):Int:=if r.Num.tdiv r.Den*r.Den<r.Num then r.Num.tdiv r.Den+1 else r.Num.tdiv r.Den
def Pq(b:Int):Int:=if 12<=b then 4096 else 2 ^ b.toNat
def tG(r:Zb):Int:=if 40<r.Num then Pq (bP r)else pfG (2 ^ r.Num.toNat) r.Den.toNat 4095 1
def Jf(v:Int):V2->V2->V2
 |[],row=>row
 |s::ss,row=>Jf v ss (if 0<s then row.set (s-1).toNat v else row)
def V9(full:Nat)(cc c:V2):V2:=Jf (-1) c (Jf 1 cc (List.replicate full 0))
def Z37(v:Int):∀(ss row:V2),(Jf v ss row).length=row.length
 |[],_=>rfl
 |s::ss,row=>by
  unfold Jf;rw[Z37 v ss];split<;>simp
def O7(ss:V2):Prop:=(ss.filter λs=>decide (0<s)).Nodup
def bst(c n:Int):Int:=if c<0\/n<c then n else c
def ZFA{M:Int}(hM:0<=M):∀(l:V4) (g:Nat->Int) (b:Int),(∀i∈l,0<=g i/\g i<=M)->b<=M->(l≠[]\/0<=b)->0<=l.foldl (λbest i=>bst best (g i)) b/\l.foldl (λbest i=>bst best (g i)) b<=M
 |[],_,b,_,hb,h=>by
  rcases h with h|h
  .exact absurd rfl h
  .exact⟨h,hb⟩
 |i::l,g,b,hg,hb,h=>by
  have h1:=hg i Z;refine ZFA hM l g (bst b (g i)) (λk hk=>hg k (by simp[hk])) ?_ ?_
  .unfold bst;split<;>omega
  .right;unfold bst;split<;>omega
