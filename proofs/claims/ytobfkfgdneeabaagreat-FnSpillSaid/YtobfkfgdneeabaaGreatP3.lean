/-
  Parts of the proofs for this seat: AMDraw AMDraw2 AMZ AMTop AMFun AMEv AMLive AMList AMSimp AMLaw AMLaw2 AMTy.
-/
import Derived.Carry
import Derived.Laws.Strings
import Derived.OpenShut
import Derived.Orders
import Derived.ProofKit
import Derived.Test.YtobfkfgdneeabaaGreatP2
set_option linter.all false
namespace Go.AM
open Go.RowKit (Below)
structure Tr where
 dst:Option Nat
 v:AV
 u:List (Nat×AF)
 foot:AU
def A5(t:Tr)(s:S):S:={ s with env:=put t.dst t.v s.env,h:=upd s.h t.u }
def ZQ(L:Nat->Bool):Nat->List Tr->S->S
 |_,[],s=>s
 |i,t::ts,s=>ZQ L (i+1) ts (if L i then A5 t s else s)
def dT(o:MO)(e:Env):Prop:=o.guard=none\/∃g b,o.guard=some (g,b)/\lk g e=.t (.bool b)
def HK(o:MO)(e:Env):Prop:=∃g b,o.guard=some (g,b)/\(lk g e=.tup []\/∃c,lk g e=.t (.bool c)/\c≠b)
def dU(Γ:Df)(o:MO)(t:Tr)(s:S):Prop:=t.dst=o.dst/\t.foot=VE o s (t.u.map Prod.fst)/\
 ((dT o s.env/\DO Γ s.h s.h.length s.env o.op t.v t.u)\/(HK o s.env/\t.v=.tup []/\t.u=[]))
def Steps(Γ:Df):List MO->List Tr->S->Prop
 |[],[],_=>True
 |o::os,t::ts,s=>dU Γ o t s/\Steps Γ os ts (A5 t s)
 |_,_,_=>False
variable{Γ:Df}{h h':V3}{nx f:Nat}{u:List (Nat×AF)}{vs:XQ}{K:AV->List (Nat×AF)->Prop}
theorem ZH8{o:MO}{s:S}{K:AU->S->Prop}(h:C6 Γ o s K):∃t,dU Γ o t s/\K t.foot (A5 t s):=by
 have run:dT o s.env->UZ Γ o s K->∃t,dU Γ o t s/\K t.foot (A5 t s):=by
  intro hg h
  cases ho:o.op with
  |call f args =>
   simp only[UZ,ho]at h;obtain⟨as,h1,r,hr,h2,h3,h4⟩:=h
   exact⟨⟨o.dst,shift s.h.length r,Bk s.h.length hr 0,_⟩,⟨rfl,rfl,.inl ⟨hg,by rw[ho];exact⟨as,h1,r,hr,h2,h3,rfl,rfl⟩⟩⟩,h4⟩
  |fcall f args =>
   simp only[UZ,ho]at h;obtain⟨as,h1,hno,r,hr,d,h2,h3,h4⟩:=h
   exact⟨⟨o.dst,_,_,_⟩,⟨rfl,rfl,.inl ⟨hg,by rw[ho];exact⟨as,h1,hno,r,hr,h2,h3,rfl⟩⟩⟩,h4⟩
  |icall f args =>
   simp only[UZ,ho,UY]at h;obtain⟨h1,r,h2,h3,h4⟩:=h
   exact⟨⟨o.dst,_,_,_⟩,⟨rfl,rfl,.inl ⟨hg,by rw[ho];exact⟨h1,r,h2,h3,rfl,rfl⟩⟩⟩,h4⟩
  |pcall f args =>
   simp only[UZ,ho,Jj]at h;obtain⟨h1,r,h2,h3,h4⟩:=h
   exact⟨⟨o.dst,_,_,_⟩,⟨rfl,rfl,.inl ⟨hg,by rw[ho];exact⟨h1,r,h2,h3,rfl,rfl⟩⟩⟩,h4⟩
  |dcall f args =>
   simp only[UZ,ho]at h;split at h
   .rename_i g caps hgc;obtain⟨h1,r,h2,h3,h4⟩:=h;exact⟨⟨o.dst,_,_,_⟩,⟨rfl,rfl,.inl ⟨hg,by rw[ho];exact⟨g,caps,hgc,h1,r,h2,h3,rfl,rfl⟩⟩⟩,h4⟩
   .exact h.elim
  |_ =>
   simp only[UZ,ho]at h;split at h
   .rename_i v u hev;exact⟨⟨o.dst,v,u,_⟩,⟨rfl,rfl,.inl ⟨hg,by rw[ho];exact hev⟩⟩,h⟩
   .exact h.elim
 have skip:HK o s.env->K (VE o s []) { s with env:=put o.dst (.tup []) s.env }->∃t,dU Γ o t s/\K t.foot (A5 t s):=λhg h =>
  ⟨⟨o.dst,.tup [],[],VE o s []⟩,⟨rfl,rfl,.inr ⟨hg,rfl,rfl⟩⟩,h⟩
 unfold C6 at h;split at h
 .rename_i hg;exact run (.inl hg) h
 .rename_i g want hg;split at h
  .rename_i b hb;split at h
   .rename_i hbw;subst hbw;exact run (.inr ⟨g,b,hg,hb⟩) h
   .rename_i hbw;exact skip ⟨g,want,hg,.inr ⟨b,hb,hbw⟩⟩ h
  .rename_i hb;exact skip ⟨g,want,hg,.inl hb⟩ h
  .exact h.elim
theorem Z4X{Γ:Df}:∀(os:List MO) (s:S) (AA:List AU) (K:List AU->S->Prop) (i:Nat),C7 Γ os s AA K->∃ts,Steps Γ os ts s/\K (AA++ts.map (·.foot)) (ZQ (λ_=>true) i ts s)
 |[],s,AA,K,i,h=>⟨[],trivial,by simp only[De,CX,ZQ];exact h⟩
 |o::os,s,AA,K,i,h=>by
  obtain⟨t,h1,h2⟩:=ZH8 h;obtain⟨ts,h3,h4⟩:=Z4X os (A5 t s) _ K (i+1) h2;refine⟨t::ts,⟨h1,h3⟩,?_⟩;simpa[ZQ]using h4
theorem dV{L:Nat->Bool}:∀(ts:List Tr) (k:Nat) (s:S),(∀j,k<=j->L j=false)->ZQ L k ts s=s
 |[],_,_,_=>rfl
 |t::ts,k,s,h=>by
  simp only[ZQ,h k (Yi _),Fy,if_false];exact dV ts (k+1) s λj hj=>h j E
theorem Z4Y{Γ:Df}:∀(os:List MO) (ts:List Tr) (s:S) (k:Nat),Steps Γ os ts s->ts.length=os.length/\∀i o,os[i]?=some o->∃t,ts[i]?=some t/\dU Γ o t (ZQ (λj=>decide (j<k+i)) k ts s)
 |[],[],_,_,_=>⟨rfl,Z⟩
 |o::os,t::ts,s,k,h=>by
  obtain⟨h1,h2⟩:=h;obtain⟨h3,h4⟩:=Z4Y os ts (A5 t s) (k+1) h2;refine⟨by simp[h3],?_⟩;intro i o' ho
  cases i with
  |zero =>
   simp_all [dV]
  |succ i =>
   obtain⟨t',h5,h6⟩:=h4 i o' (by simpa using ho);refine⟨t',by simpa using h5,?_⟩;have e:ZQ (λj=>decide (j<k+(i+1))) k (t::ts) s=ZQ (λj=>decide (j<k+1+i)) (k+1) ts (A5 t s):=by
    simp only[ZQ]
    grind
   rw[e]
   exact h6
 |[],_::_,_,_,h=>h.elim
 |_::_,[],_,_,h=>h.elim
theorem dW(d:Option Nat)(v:AV)(e:Env)(r:Nat):lk r (put d v e)=if d=some r then v else lk r e:=by
 cases d with
 |none=>simp[put]
 |some d=>simp[put,lk]
theorem Z4Z:∀{h h':V3} {b:Nat},b∈u.map Prod.fst->gt (upd h u) b=gt (upd h' u) b:=by
 induction u with
 |nil=>intro h h' b hb;simp at hb
 |cons p u ih =>
  intro h h' b hb;obtain⟨c,x⟩:=p;by_cases hu:b∈u.map Prod.fst
  .exact ih hu
  .simp only[upd];rw[dS hu,dS hu,K7,K7]
   simp_all
theorem dX{L L':Nat->Bool}(r:Nat):∀(ts:List Tr) (k:Nat) (s s':S),(∀j t,ts[j]?=some t->t.dst=some r->L (k+j)=L' (k+j))->lk r s.env=lk r s'.env->lk r (ZQ L k ts s).env=lk r (ZQ L' k ts s').env
 |[],_,_,_,_,h=>h
 |t::ts,k,s,s',hL,h=>by
  simp only[ZQ];refine dX r ts (k+1) _ _ (λj t' hj hd=>?_) ?_
  .have:=hL (j+1) t' (by simpa using hj) hd
   grind
  .have h0:=hL 0 t rfl;rw[D8]at h0;by_cases hd:t.dst=some r
   .rw[h0 hd];cases L' k
    .simpa using h
    .simp[A5,dW,hd]
   .have key:∀(b:Bool) (x:S),lk r (if b=true then A5 t x else x).env=lk r x.env:=by
     intro b x;cases b
     .rfl
     .simp[A5,dW,hd]
    rw[key,key,h]
theorem dY{L L':Nat->Bool}(b:Nat):∀(ts:List Tr) (k:Nat) (s s':S),(∀j t,ts[j]?=some t->b∈t.u.map Prod.fst->L (k+j)=L' (k+j))->gt s.h b=gt s'.h b->gt (ZQ L k ts s).h b=gt (ZQ L' k ts s').h b
 |[],_,_,_,_,h=>h
 |t::ts,k,s,s',hL,h=>by
  simp only[ZQ];refine dY b ts (k+1) _ _ (λj t' hj hd=>?_) ?_
  .have:=hL (j+1) t' (by simpa using hj) hd
   grind
  .have h0:=hL 0 t rfl;rw[D8]at h0;by_cases hd:b∈t.u.map Prod.fst
   .rw[h0 hd];cases L' k
    .simpa using h
    .simp only[if_true,A5];exact Z4Z hd
   .have key:∀(c:Bool) (x:S),gt (if c=true then A5 t x else x).h b=gt x.h b:=by
     intro c x;cases c
     .rfl
     .simp only[if_true,A5];exact dS hd
    rw[key,key,h]
theorem dZ{L:Nat->Bool}:∀(ts:List Tr) (k:Nat) (s:S),(ZQ L k ts s).stk=s.stk
 |[],_,_=>rfl
 |t::ts,k,s=>by
  simp only[ZQ];rw[dZ ts];split<;>rfl
theorem x9{L:Nat->Bool}:∀(ts:List Tr) (k:Nat) (s:S),s.h.length<=(ZQ L k ts s).h.length/\∀j t,ts[j]?=some t->L (k+j)=true->∀b∈t.u.map Prod.fst,b<(ZQ L k ts s).h.length
 |[],_,_=>⟨Yi _,Z⟩
 |t::ts,k,s=>by
  simp only[ZQ];obtain⟨h1,h2⟩:=x9 ts (k+1) (if L k=true then A5 t s else s);have h3:s.h.length<=(if L k=true then A5 t s else s).h.length:=by
   split
   .exact(Zsz t.u s.h).1
   .exact Yi _
  refine⟨Yz h3 h1,?_⟩;intro j t' hj hL b hb
  cases j with
  |zero =>
   simp at hj;subst hj;rw[D8]at hL;rw[hL]at h1|-;simp only[if_true]at h1|-
   exact Fx ((Zsz t.u s.h).2 b hb) h1
  |succ j =>
   grind
theorem Z5a{L:Nat->Bool}{i:Nat}{t:Tr}(hi:L i=false):∀(ts:List Tr) (k:Nat) (s:S),(∃m,i=k+m/\ts[m]?=some t)->
  ((∀r,t.dst=some r->∀j t',ts[j]?=some t'->i<k+j->L (k+j)=true->t'.dst≠some r)->∀r,lk r (ZQ (λj=>L j || decide (j=i)) k ts s).env=lk r (A5 t (ZQ L k ts s)).env)/\
  ((∀b∈t.u.map Prod.fst,∀j t',ts[j]?=some t'->i<k+j->L (k+j)=true->b ∉ t'.u.map Prod.fst)->∀b,gt (ZQ (λj=>L j || decide (j=i)) k ts s).h b=gt (A5 t (ZQ L k ts s)).h b)
 |[],_,_,⟨m,_,h⟩=>by simp at h
 |t0::ts,k,s,⟨m,hm,ht⟩=>by
  cases m with
  |zero =>
   simp at ht;subst ht;have hik:i=k:=by omega
   subst hik;simp only[ZQ,hi,HA,decide_true,if_true,Fy,if_false];constructor
   .intro hw r;by_cases hd:t0.dst=some r
    .have e1:=dX (L:=λj=>L j || decide (j=i)) (L':=λ_=>false) r ts (i+1) (A5 t0 s) (A5 t0 s) (λj t' hj hd'=>by
      have:=hw r hd (j+1) t' (by simpa using hj) E;cases hx:L (i+1+j)
      .simp;omega
      .exact absurd hd' (this (by rw[show i+(j+1)=i+1+j by omega];exact hx))) rfl
     rw[e1,dV ts (i+1) _ (λ_ _=>rfl)];simp[A5,dW,hd]
    .have e1:=dX (L:=λj=>L j || decide (j=i)) (L':=L) r ts (i+1) (A5 t0 s) s (λj t' hj hd'=>by
      have:(decide (i+1+j=i))=false:=by simp;omega
      simp[this]) (by simp[A5,dW,hd])
     rw[e1];simp[A5,dW,hd]
   .intro hw b;by_cases hd:b∈t0.u.map Prod.fst
    .have e1:=dY (L:=λj=>L j || decide (j=i)) (L':=λ_=>false) b ts (i+1) (A5 t0 s) (A5 t0 s) (λj t' hj hd'=>by
      have:=hw b hd (j+1) t' (by simpa using hj) E;cases hx:L (i+1+j)
      .simp;omega
      .exact absurd hd' (this (by rw[show i+(j+1)=i+1+j by omega];exact hx))) rfl
     rw[e1,dV ts (i+1) _ (λ_ _=>rfl)];exact Z4Z hd
    .have e1:=dY (L:=λj=>L j || decide (j=i)) (L':=L) b ts (i+1) (A5 t0 s) s (λj t' hj hd'=>by
      have:(decide (i+1+j=i))=false:=by simp;omega
      simp[this]) (by simp only[A5];exact dS hd)
     rw[e1];simp only[A5]
     exact(dS hd).symm
  |succ m =>
   have hne:decide (k=i)=false:=by simp;omega
   simp only[ZQ,hne,Bool.or_false];have ih:=Z5a hi ts (k+1) (if L k=true then A5 t0 s else s) ⟨m,E,by simpa using ht⟩;constructor
   .intro hw;exact ih.1 λr hr j t' hj hlt hL=>hw r hr (j+1) t' (by simpa using hj) E (by rw[show k+(j+1)=k+1+j by omega];exact hL)
   .intro hw;exact ih.2 λb hb j t' hj hlt hL=>hw b hb (j+1) t' (by simpa using hj) E (by rw[show k+(j+1)=k+1+j by omega];exact hL)
theorem Zs7{L:Nat->Bool}:∀(bs:List (V4)) (acc:List (V4)),(∀j b,bs[j]?=some b->L (acc.length+j)=true->∀i∈b,L i=true)->(∀j c,acc[j]?=some c->L j=true->∀i∈c,L i=true)->
  ∀j c,(dB bs acc)[j]?=some c->L j=true->∀i∈c,L i=true
 |[],acc,_,h=>h
 |b::bs,acc,hb,h=>by
  simp only[dB];refine Zs7 bs _ (λj b' hj hL=>hb (j+1) b' (by simpa using hj) (by simp at hL;rw[show acc.length+(j+1)=acc.length+1+j by omega];exact hL)) ?_;intro j c hj hL i hi;rw[List.getElem?_append]at hj;split at hj
  .exact h j c hj hL i hi
  .rename_i hlt;have hj0:j=acc.length:=by
    grind
   subst hj0;simp at hj;subst hj;have h0:=hb 0 b rfl (by simpa using hL)
   grind
theorem Z5b{before:List (V4)}{AA:List AU}(h:JT before AA=true){i j:Nat}{f g:AU}(hi:AA[i]?=some f)(hj:AA[j]?=some g)(hij:i<j)(hc:QY f g=true) :
  ∃c,(dB before [])[j]?=some c/\i∈c:=by
 unfold JT at h;have hjl:j<AA.length:=by
  grind
 have h1:=Ym.1 h j (Y8.2 hjl);unfold Z4o at h1
 grind
theorem Z5c(hh:∀b∈X2 h 200 (Z5 vs) [],gt h b=gt h' b)(hr:UY Γ f vs h nx K):UY Γ f vs h' nx K:=by
 obtain⟨e1,e2,e3⟩:=Z4V hh;unfold UY;rw[e1,e2,e3];exact hr
theorem ZH9(hh:∀b∈X2 h 200 (Z5 vs) [],gt h b=gt h' b)(hr:Jj Γ f vs h nx K):Jj Γ f vs h' nx K:=by
 obtain⟨e1,e2,e3⟩:=Z4V hh;unfold Jj;rw[e1,e2,e3];exact hr
theorem ZHA{e e':Env}{k:Bb}{v:AV}(he:∀x∈Z8 k,ev e x=ev e' x)(hh:∀b∈FO k h e,gt h b=gt h' b)
  (hr:DO Γ h nx e k v u):DO Γ h' nx e' k v u:=by
 cases k with
 |call f args =>
  obtain⟨as,h1,r,hr,h2,h3,h4,h5⟩:=hr;have e1:args.map (ev e')=args.map (ev e):=CZ λx hx=>(he x (by simpa[Z8]using hx)).symm
  refine⟨as,?_,r,hr,h2,by rw[e1];exact h3,h4,h5⟩;rw[e1,<-h1]
  exact(Z4U (Z4S hh)).symm
 |fcall f args =>
  obtain⟨as,h1,hno,r,hr,h2,h3,h4⟩:=hr;have e1:args.map (ev e')=args.map (ev e):=CZ λx hx=>(he x (by simpa[Z8]using hx)).symm
  refine⟨as,?_,by rw[e1];exact hno,r,hr,h2,h3,h4⟩;rw[e1,<-h1]
  exact(Z4U (Z4S hh)).symm
 |icall f args =>
  have e1:args.map (ev e')=args.map (ev e):=CZ λx hx=>(he x (by simpa[Z8]using hx)).symm
  simp only[DO]at hr|-;rw[e1]
  exact Z5c (λb hb=>hh b (Zs4 hb)) hr
 |pcall f args =>
  have e1:args.map (ev e')=args.map (ev e):=CZ λx hx=>(he x (by simpa[Z8]using hx)).symm
  simp only[DO]at hr|-;rw[e1]
  exact ZH9 (λb hb=>hh b (Zs4 hb)) hr
 |dcall f args =>
  obtain⟨g,caps,hg,hr⟩:=hr;have e1:args.map (ev e')=args.map (ev e):=CZ λx hx=>(he x (by simp[Z8,hx])).symm
  refine⟨g,caps,by rw[<-he f (by simp[Z8])];exact hg,?_⟩;rw[e1];refine Z5c (λb hb=>hh b (Zs4 ?_)) hr;simp only[HD,hg]
  exact hb
 |mov x =>
  change Zz h nx e (.mov x)=some (v,u)at hr;show Zz h' nx e' (.mov x)=some (v,u);simp only[Zz]at hr|-;rw[<-he x (by simp[Z8])]
  exact hr
 |_ =>
  show Zz h' nx e' _=some (v,u);rw[<-ZH6 he (λx hx b hb=>hh b (ZHv (Yn.2 ⟨x,hx,rfl⟩) hb))];exact hr
section
variable{P:Program}{N:Bv}{base:Nat}{w0:World}{nt:Nat}{ts:List (Array Value)}{inl:V4}{D D':Nat->Prop}{ρ:Map}{s:S}{a:Act}{w:World}{d:Option Nat}
structure Ce (N:Bv) (base:Nat) (w0:World) (nt:Nat) (ts:List (Array Value)) (D:Nat->Prop) (ρ:Map) (s:S) (a:Act) (w:World):Prop where
 rel:Rel N base ρ s.h w
 env:XJ ρ w (Free N ρ s.h) s.env a.tmps
 stk:U8 ρ w (Free N ρ s.h) s.stk ts
 dom:∀b,D b->ρ b=none
 defers:a.defers=[]
 size:a.tmps.size=nt
 below:Below base w0 w
 kn:∀g,g<w0.heap.size->¬N.a g->w.heap[g]?=w0.heap[g]?
 fz:∀g,g<w0.heap.size->N.z g->Free N ρ s.h g/\w.heap[g]?=w0.heap[g]?
theorem Ce.congr{s':S}(h:Ce N base w0 nt ts D ρ s a w)(hl:∀r,lk r s.env=lk r s'.env)(hg:∀b,gt s.h b=gt s'.h b)(hk:s.stk=s'.stk)(hD:∀b,D' b->D b) :
  Ce N base w0 nt ts D' ρ s' a w:=by
 refine⟨h.rel.congr hg,?_,?_,λb hb=>h.dom b (hD b hb),h.defers,h.size,h.below,h.kn,by rw[<-Free.congr hg];exact h.fz⟩
 .intro r;rw[<-hl,<-Free.congr hg];exact h.env r
 .rw[<-hk,<-Free.congr hg];exact h.stk
theorem Ce.after{ρ':Map}{w':World}(hS:Ce N base w0 nt ts D ρ s a w){v:AV}{u:List (Nat×AF)}{val:Value}(hA:Kb N base ρ s.h w v u val w' ρ')(hd:∀x,d=some x->x<nt)
  (hD:∀b,D' b->D b/\b ∉ u.map Prod.fst):Ce N base w0 nt ts D' ρ' { s with env:=put d v s.env,h:=upd s.h u } (a.put d val) w':=by
 refine⟨hA.rel,xX (λs=>(hS.env s).keep hA.keeps) hA.val λx hx=>by rw[hS.size];exact hd x hx,hS.stk.keep hA.keeps,?_,by rw[xY];exact hS.defers,by rw[xZ];exact hS.size,hS.below.trans hA.below,
  λg hg hn=>(hA.kn g (Fx hg hS.below.size) hn).trans (hS.kn g hg hn),λg hg hz=>?_⟩
 .intro b hb;exact hA.same b (hD b hb).2 (hS.dom b (hD b hb).1)
 .obtain⟨h1,h2⟩:=hS.fz g hg hz;obtain⟨h3,h4⟩:=hA.keeps.free g (Fx hg hS.below.size) h1
  simp_all
theorem Ce.skip(hS:Ce N base w0 nt ts D ρ s a w)(hd:∀x,d=some x->x<nt) :
  Ce N base w0 nt ts D ρ { s with env:=put d (.tup []) s.env } (a.put d undef) w :=
 ⟨hS.rel,xX hS.env (RV.tup (c:=#[]) .nil) λx hx=>by rw[hS.size];exact hd x hx,hS.stk,hS.dom,by rw[xY];exact hS.defers,by rw[xZ];exact hS.size,hS.below,hS.kn,hS.fz⟩
theorem LW{a b:V4}{x:Nat}(h:x∈a)(h':x∈b):meets a b=true:=by
 unfold meets
 grind
end
open Go.RowKit (Below)
section
variable{P:Program}{N:Bv}{base:Nat}{w0:World}{nt:Nat}{ts:List (Array Value)}{inl:V4}
theorem Z5d{α β:Type}{f:α->Option β}:∀{l:List α} {os:List β},A3 f l=some os->∀{i:Nat} {o:α},l[i]?=some o->∃m,os[i]?=some m/\f o=some m
 |[],_,_,_,_,h=>by simp at h
 |x::l,os,hm,i,o,h=>by
  obtain⟨m,ms,h1,h2,rfl⟩:=K8 hm
  cases i with
  |zero=>simp at h;subst h;exact⟨m,rfl,h1⟩
  |succ i =>
   obtain⟨m',h3,h4⟩:=Z5d h2 (i:=i) (o:=o) (by simpa using h)
   simp_all
theorem Z5e:∀{bs:List (V4)} {k:Nat},Cp bs k=true->∀{j:Nat} {b:V4},bs[j]?=some b->∀i∈b,i<k+j
 |[],_,_,_,_,h=>by simp at h
 |x::bs,k,hb,j,b,h=>by
  simp only[Cp,Yf,Ym,decide_eq_true_eq]at hb;intro i hi
  cases j with
  |zero=>simp at h;subst h;exact hb.1 i hi
  |succ j=>have:=Z5e hb.2 (j:=j) (b:=b) (by simpa using h) i hi;omega
theorem yA{listed:Array Bool}{i j:Nat}(hi:i<listed.size):(listed.setIfInBounds i true).getD j false=(listed.getD j false || decide (j=i)):=by
 simp only[LC,Array.getElem?_setIfInBounds]
 grind
variable{ops:Array Oper}{os:List MO}{tr:List Tr}{s0:S}{Qc:Exit->Act->World->Prop}
def Ds(tr:List Tr)(s0:S)(L:Nat->Bool)(b:Nat):Prop:=s0.h.length<=b/\∀j t,tr[j]?=some t->L j=true->b ∉ t.u.map Prod.fst
theorem ZHB(hback:Cp (ops.toList.map VQ) 0=true){listed:Array Bool}(hsz:listed.size=ops.size)(hr:Region.ready .any ops listed=[]):∀j,j<ops.size->listed.getD j false=true:=by
 intro j
 induction j using Nat.strongRecOn with
 |ind j ih =>
  intro hj
  cases hc:listed.getD j false with
  |true=>rfl
  |false =>
   exfalso;have hmem:j∈Region.ready .any ops listed:=by
    unfold Region.ready;refine Ep.2 ⟨Y8.2 hj,?_⟩;have h1:listed.getD j true=false:=by
     simp_all
    have h2:ops[j]?=some ops[j]:=by simp[hj]
    rw[h1,h2];simp only[Bool.not_false,Yk,Option.map_some,Option.getD_some];rw[Array.all_eq_true_iff_forall_mem];intro e he
    cases hb:Region.binds .any e with
    |false=>rfl
    |true =>
     simp only[Bool.not_true,HA];have hin:e.on∈VQ ops[j]:=by
      unfold VQ
      grind
     have hlt:=Z5e hback (j:=j) (b:=VQ ops[j]) (by simp[hj]) e.on hin
     grind
   simp_all
theorem Z5f{K:S->Prop}(hQ:∀s a w ρ,K s->AO N base w0 nt ts ρ s a w->Qc .normal a w)(hlen:tr.length=ops.size)(hK:K (ZQ (λ_=>true) 0 tr s0)){listed:Array Bool}(hall:∀j,j<ops.size->listed.getD j false=true)
  {ρ:Map} {a:Act} {w:World} (hS:Ce N base w0 nt ts (Ds tr s0 (listed.getD · false)) ρ (ZQ (listed.getD · false) 0 tr s0) a w):Qc .normal a w:=by
 have hj:∀(j:Nat) (t:Tr),tr[j]?=some t->listed.getD (0+j) false=true:=by
  grind
 have h1:=hS.congr (s':=ZQ (λ_=>true) 0 tr s0) (D':=Ds tr s0 (listed.getD · false)) (λr=>dX r tr 0 _ _ (λj t h _=>hj j t h) rfl) (λb=>dY b tr 0 _ _ (λj t h _=>hj j t h) rfl) (by rw[dZ,dZ]) (λ_ h=>h);refine hQ _ a w ρ hK ⟨h1.rel,h1.env,h1.stk,?_,h1.defers,h1.size,h1.below,h1.kn,h1.fz⟩;intro b hb;have hl:=x9 (L:=λ_=>true) tr 0 s0;refine h1.dom b ⟨E,?_⟩
 grind
theorem F6(hos:A3 (Co P inl nt ops) ops.toList=some os)(hback:Cp (ops.toList.map VQ) 0=true)(hst:Steps (XX P) os tr s0)(hord:JT (ops.toList.map VQ) (tr.map (·.foot))=true)
  {K:S->Prop} (hQ:∀s a w ρ,K s->AO N base w0 nt ts ρ s a w->Qc .normal a w) (hK:K (ZQ (λ_=>true) 0 tr s0)) :
  ∀(fuel:Nat) (listed:Array Bool) (a:Act) (w:World) (ρ:Map),listed.size=ops.size->listed.toList.count false<=fuel->
   (∀j b,(ops.toList.map VQ)[j]?=some b->listed.getD j false=true->∀i∈b,listed.getD i false=true)->
   Ce N base w0 nt ts (Ds tr s0 (listed.getD · false)) ρ (ZQ (listed.getD · false) 0 tr s0) a w->wpAny P .any ops Qc fuel listed a w:=by
 obtain⟨hl1,hat⟩:=Z4Y os tr s0 0 hst;have hlen:tr.length=ops.size:=by rw[hl1,Zsp hos];simp
 have hdst:∀(j:Nat) (t:Tr),tr[j]?=some t->(∀r,t.dst=some r->r∈t.foot.ws)/\t.u.map Prod.fst=t.foot.wb:=by
  intro j t h;have hj:j<os.length:=by
   grind
  obtain⟨t',h1,h2,h3,_⟩:=hat j os[j] (by simp[hj]);rw[h]at h1;cases h1;rw[h3];exact⟨λr hr=>by simp[VE,<-h2,hr],rfl⟩
 intro fuel
 induction fuel with
 |zero =>
  intro listed a w ρ hsz hc hcl hS;have hall:∀j,j<ops.size->listed.getD j false=true:=by
   intro j hj
   cases hx:listed.getD j false with
   |true=>rfl
   |false =>
    exfalso
    have:false∈listed.toList:=by
     rw[LC]at hx
     grind
    grind
  refine⟨?_,Z5f hQ hlen hK hall hS⟩;unfold Region.ready
  simp_all
 |succ fuel ih =>
  intro listed a w ρ hsz hc hcl hS;refine⟨λhr=>Z5f hQ hlen hK (ZHB hback hsz hr) hS,?_⟩;intro i hi;unfold Region.ready at hi;obtain⟨hir,hcond⟩:=Ep.1 hi;have hin:i<ops.size:=Y8.1 hir;have hil:i<listed.size:=by omega
  have hops:ops[i]?=some ops[i]:=by simp[hin]
  rw[hops]at hcond;simp only[Option.map_some,Option.getD_some,Yf,Bool.not_eq_true',Array.all_eq_true_iff_forall_mem]at hcond;obtain⟨hLt,haft⟩:=hcond;have hLi:listed.getD i false=false:=by
   simp_all
  have hbef:∀j∈VQ ops[i],listed.getD j false=true:=by
   intro j hj;unfold VQ at hj
   grind
  -- the operation
  obtain⟨m,hm,hcm⟩:=Z5d hos (i:=i) (o:=ops[i]) (by simp[hin]);obtain⟨hk,hmd,hd,hguard⟩:=Zs0 hcm;obtain⟨t,ht,htd,htf,hstep⟩:=hat i m hm
  -- the new list
  have hcl':∀(j:Nat) (b:V4),(ops.toList.map VQ)[j]?=some b->(listed.setIfInBounds i true).getD j false=true->∀x∈b,(listed.setIfInBounds i true).getD x false=true:=by
   intro j b hb hj x hx;rw[yA hil]at hj|-
   grind
  -- who is in QY
  have low:∀(j:Nat) (t':Tr),tr[j]?=some t'->j<i->QY t'.foot t.foot=true->listed.getD j false=true:=by
   intro j t' hj hlt hcf;obtain⟨c,h1,h2⟩:=Z5b hord (i:=j) (j:=i) (f:=t'.foot) (g:=t.foot) (by simp[hj]) (by simp[ht]) hlt hcf;have h3:=Zs7 (L:=λj=>(listed.setIfInBounds i true).getD j false) (ops.toList.map VQ) [] (λj b hb hL=>hcl' j b hb (by simpa using hL)) Z i c h1 (by simp only[yA hil,decide_true,Bool.or_true]) j h2
   grind [yA]
  have high:∀(j:Nat) (t':Tr),tr[j]?=some t'->i<j->QY t.foot t'.foot=true->listed.getD j false=true->False:=by
   intro j t' hj hlt hcf hL;obtain⟨c,h1,h2⟩:=Z5b hord (i:=i) (j:=j) (f:=t.foot) (g:=t'.foot) (by simp[ht]) (by simp[hj]) hlt hcf;have h3:=Zs7 (L:=λj=>listed.getD j false) (ops.toList.map VQ) [] (λj b hb hL=>hcl j b hb (by simpa using hL)) Z j c h1 hL i h2
   simp_all
  -- what it looks at stands as in the text's order
  have hlk:∀r∈t.foot.rs,lk r (ZQ (λj=>decide (j<0+i)) 0 tr s0).env=lk r (ZQ (listed.getD · false) 0 tr s0).env:=by
   intro r hr;refine dX r tr 0 _ _ (λj t' hj hd'=>?_) rfl;have hw:=(hdst j t' hj).1 r hd';rcases w9 j i with hlt|rfl|hgt
   .rw[Yt,Yt,low j t' hj hlt (by simp[QY,LW hw (LD t.foot.ws hr)])];simpa using hlt
   .grind
   .rw[Yt,Yt]
    cases hx:listed.getD j false with
    |true=>exact(high j t' hj hgt (by simp[QY,LW hw hr]) hx).elim
    |false=>simp;omega
  have Aac:∀b∈t.foot.rb,gt (ZQ (λj=>decide (j<0+i)) 0 tr s0).h b=gt (ZQ (listed.getD · false) 0 tr s0).h b:=by
   intro b hb;refine dY b tr 0 _ _ (λj t' hj hd'=>?_) rfl;have hw:b∈t'.foot.wb:=by rw[<-(hdst j t' hj).2];exact hd'
   rcases w9 j i with hlt|rfl|hgt
   .rw[Yt,Yt,low j t' hj hlt (by simp[QY,LW hw (LD t.foot.wb hb)])];simpa using hlt
   .grind
   .rw[Yt,Yt]
    cases hx:listed.getD j false with
    |true=>exact(high j t' hj hgt (by simp[QY,LW hw hb]) hx).elim
    |false=>simp;omega
  have d6:(λj=>(listed.setIfInBounds i true).getD j false)=(λj=>listed.getD j false || decide (j=i)):=by
   funext j;exact yA hil
  have hins:=Z5a (L:=λj=>listed.getD j false) (i:=i) (t:=t) hLi tr 0 s0 ⟨i,E,ht⟩;have hcount:(listed.setIfInBounds i true).toList.count false<=fuel:=by
   rw[Array.toList_setIfInBounds,List.count_set (by simpa using hil)];have hx:listed.toList[i]'(by simpa using hil)=false:=by
    rw[LC]at hLi;simpa[hil]using hLi
   grind
  -- the state behind it
  have next:∀a' w' ρ',Ce N base w0 nt ts (Ds tr s0 λj=>listed.getD j false || decide (j=i)) ρ' (A5 t (ZQ (listed.getD · false) 0 tr s0)) a' w'->wpAny P .any ops Qc fuel (listed.setIfInBounds i true) a' w':=by
   intro a' w' ρ' hR;refine ih _ a' w' ρ' (by simpa using hsz) hcount hcl' ?_;rw[d6];refine hR.congr (λr=>(hins.1 ?_ r).symm) (λb=>(hins.2 ?_ b).symm) (by rw[dZ];exact dZ tr 0 s0) (λ_ h=>h)
   .intro r hr j t' hj hlt hL hd';rw[Yt]at hlt hL;exact high j t' hj hlt (by simp[QY,LW ((hdst i t ht).1 r hr) (LE t'.foot.rs ((hdst j t' hj).1 r hd'))]) hL
   .intro b hb j t' hj hlt hL hd';rw[Yt]at hlt hL;have hb1:b∈t.foot.wb:=by rw[<-(hdst i t ht).2];exact hb
    have hb2:b∈t'.foot.wb:=by rw[<-(hdst j t' hj).2];exact hd'
    exact high j t' hj hlt (by simp[QY,LW hb1 (LE t'.foot.rb hb2)]) hL
  have hrs:∀x∈Z8 m.op,∀r∈xK x,r∈t.foot.rs:=by
   intro x hx r hr;rw[htf];simp only[VE]
   grind
  have hgs:∀g b,m.guard=some (g,b)->g∈t.foot.rs:=by
   intro g b hg;rw[htf];simp only[VE,hg];simp
  have he:∀x∈Z8 m.op,ev (ZQ (λj=>decide (j<0+i)) 0 tr s0).env x=ev (ZQ (listed.getD · false) 0 tr s0).env x:=by
   intro x hx
   cases x with
   |c v=>rfl
   |s r=>exact hlk r (hrs _ hx r (by simp[xK]))
  have hh:∀b∈FO m.op (ZQ (λj=>decide (j<0+i)) 0 tr s0).h (ZQ (λj=>decide (j<0+i)) 0 tr s0).env,gt (ZQ (λj=>decide (j<0+i)) 0 tr s0).h b=gt (ZQ (listed.getD · false) 0 tr s0).h b:=by
   intro b hb;refine Aac b ?_;rw[htf];exact hb
  have hlI:=x9 (L:=λj=>decide (j<0+i)) tr 0 s0;have hlT:=x9 (L:=λ_=>true) tr 0 s0;have hu:∀b,b∈t.u.map Prod.fst->(ZQ (λj=>decide (j<0+i)) 0 tr s0).h.length<=b->ρ b=none:=by
   intro b hb hle;refine hS.dom b ⟨E,?_⟩;intro j t' hj hL hin';have hw:b∈t'.foot.wb:=by rw[<-(hdst j t' hj).2];exact hin'
   have hb':b∈t.foot.wb:=by rw[<-(hdst i t ht).2];exact hb
   rcases w9 j i with hlt|rfl|hgt
   .grind
   .simp_all
   .exact high j t' hj hgt (by simp[QY,LW hb' (LE t'.foot.rb hw)]) hL
  have HL:∀b,Ds tr s0 (λj=>listed.getD j false || decide (j=i)) b->Ds tr s0 (listed.getD · false) b/\b ∉ t.u.map Prod.fst:=by
   intro b hb;refine⟨⟨hb.1,λj t' hj hL=>hb.2 j t' hj (by simp only at hL|-;rw[hL];rfl)⟩,hb.2 i t ht Z⟩
  have hrun:DO (XX P) (ZQ (λj=>decide (j<0+i)) 0 tr s0).h (ZQ (λj=>decide (j<0+i)) 0 tr s0).h.length (ZQ (λj=>decide (j<0+i)) 0 tr s0).env m.op t.v t.u->
    (ops[i]).wp P a w (wpAny P .any ops Qc fuel (listed.setIfInBounds i true)) Qc:=by
   intro hop;have hop':=ZHA he hh hop;have fin:∀val w' ρ',Kb N base ρ (ZQ (listed.getD · false) 0 tr s0).h w t.v t.u val w' ρ'->wpAny P .any ops Qc fuel (listed.setIfInBounds i true) (a.put (ops[i]).dst val) w':=by
    intro val w' ρ' hA;refine next _ _ ρ' ?_
    have:=hS.after hA (d:=(ops[i]).dst) hd HL;rw[<-hmd,<-htd]at this|-;exact this
   by_cases hcall:isC m.op
   .exact dQ hk hS.env hS.rel (.inl hcall) hu hop' fin
   .by_cases hnx:(ZQ (λj=>decide (j<0+i)) 0 tr s0).h.length∈t.u.map Prod.fst
    .exact dQ hk hS.env hS.rel (.inr (hu _ hnx (Yi _))) hu hop' fin
    .have hM:DO (XX P) (ZQ (listed.getD · false) 0 tr s0).h (ZQ (λ_=>true) 0 tr s0).h.length (ZQ (listed.getD · false) 0 tr s0).env m.op t.v t.u:=by
      cases DZ:m.op with
      |call f args=>rw[DZ]at hcall;exact absurd trivial hcall
      |fcall f args=>rw[DZ]at hcall;exact absurd trivial hcall
      |icall f args=>rw[DZ]at hcall;exact absurd trivial hcall
      |pcall f args=>rw[DZ]at hcall;exact absurd trivial hcall
      |dcall f args=>rw[DZ]at hcall;exact absurd trivial hcall
      |_=>rw[DZ]at hop';exact ZH7 hop' hnx _
     refine dQ hk hS.env hS.rel (nx:=(ZQ (λ_=>true) 0 tr s0).h.length) (.inr ?_) ?_ hM fin
     .refine hS.dom _ ⟨hlT.1,?_⟩
      grind
     .grind
  have AbN:t.v=.tup []->t.u=[]->wpAny P .any ops Qc fuel (listed.setIfInBounds i true) (a.put (ops[i]).dst undef) w:=by
   intro hv hu0;refine next _ _ ρ ?_
   have:=(hS.skip (d:=(ops[i]).dst) hd).congr (D':=Ds tr s0 λj=>listed.getD j false || decide (j=i)) (s':=A5 t (ZQ (listed.getD · false) 0 tr s0)) (λr=>by rw[<-hmd,<-htd];simp[A5,hv]) (λb=>by simp[A5,hu0,upd]) rfl (λb hb=>(HL b hb).1);exact this
  unfold wpOp;rw[hops];simp only;rcases hguard with⟨hg1,hg2⟩|⟨j,b,d,hg1,hg2,hg3⟩
  .simp only[Region.wanted,hg1,if_true];rcases hstep with⟨_,hop⟩|⟨⟨g,b,hg,_⟩,_,_⟩
   .exact .inl (hrun hop)
   .grind
  .have hw:=Zs1 hS.env hg1 hg2;have AbT:=hlk d (hgs d b hg3);rcases hstep with⟨hgr,hop⟩|⟨⟨g,b',hg,hsk⟩,hv,hu0⟩
   .rcases hgr with hgn|⟨g,b',hg,hb'⟩
    .grind
    .grind
   .grind
theorem AO.drew{ρ:Map}{s:S}{a:Act}{w:World}(hS:AO N base w0 nt ts ρ s a w):AO N base w0 nt ts ρ s a { w with drawn:=w.drawn+1 }:=by
 have hk:Xr ρ w (Free N ρ s.h) ρ { w with drawn:=w.drawn+1 } (Free N ρ s.h):=⟨λ_ r h=>⟨r,h,rfl⟩,λ_ _ h=>⟨h,rfl⟩⟩;have hb:Below base w { w with drawn:=w.drawn+1 }:=⟨rfl,rfl,rfl,Yi _,λ_ _=>rfl⟩;obtain⟨R,hE,hst,hdom,hdf,hsz,hB,hkn,hfz⟩:=hS;obtain⟨h1,h2,h0,h3,h4,h5⟩:=R;refine⟨⟨h1,h2,h0,?_,h4,h5⟩,λs=>(hE s).keep hk,hst.keep hk,hdom,hdf,hsz,hB.trans hb,hkn,hfz⟩;intro b hne;obtain⟨r,q1,q2⟩:=h3 b hne;exact⟨r,q1,q2.keep hk λ_ _=>rfl⟩
theorem Z5g{Γ:Df}(hΓ:Γ=XX P){ops:Array Oper}{os:List MO}(hos:A3 (Co P inl nt ops) ops.toList=some os)(hback:Cp (ops.toList.map VQ) 0=true)(Aad:P.follows .mixedOrders=true)
  {Qc:Exit->Act->World->Prop} {K:S->Prop} (hQ:∀s a w ρ,K s->AO N base w0 nt ts ρ s a w->Qc .normal a w) {id:Nat} {s:S} {a:Act} {w:World} {ρ:Map}
  (hW:C7 Γ os s [] λAA s'=>JT (ops.toList.map VQ) AA=true/\K s') (hS:AO N base w0 nt ts ρ s a w):(Code.region id ops true).wp P Qc a w:=by
 obtain⟨tr,hst,hord,hK⟩:=Z4X os s [] _ 0 hW;rw[hΓ]at hst;rw[Er]at hord;refine wp_region_any Aad ?_;have hD:=hS.drew;have hf:∀j,(Array.replicate ops.size false).getD j false=false:=by
  intro j;rw[LC]
  grind
 have hfun:(λj=>(Array.replicate ops.size false).getD j false)=λ_=>false:=funext hf
 refine F6 hos hback hst hord hQ hK ops.size _ a _ ρ Z ?_ ?_ ?_
 .simp
 .simp_all
 .rw[hfun,dV tr 0 s (λ_ _=>rfl)];exact⟨hD.rel,hD.env,hD.stk,λb hb=>hD.dom b hb.1,hD.defers,hD.size,hD.below,hD.kn,hD.fz⟩
end
open Go.RowKit (Below)
variable{b:Nat}{h:V3}{d:AV}
theorem LX{f:AF->AF}(hf:f .dead=.dead)(h:V3)(c:Nat):gt (h.map f) c=f (gt h c):=by
 unfold gt
 grind
theorem yB(b:Nat)(d:AV)(h:V3)(c:Nat):gt (Dl b d h) c=if c=b then .dead else xJ b d (gt h c):=by
 unfold Dl;rw[K7,LX rfl]
theorem Z5h:∀(h:V3) (b:Nat) (x:AF),b<h.length->(stB h b x).length=h.length
 |[],_,_,hb=>by simp at hb
 |_::h,0,x,_=>rfl
 |_::h,b+1,x,hb=>by simp[stB,Z5h h b x (by simpa using hb)]
theorem HM(hd:gt h b≠.dead):b<h.length:=by
 by_cases hl:b<h.length
 .exact hl
 .exfalso;apply hd;unfold gt
  simp_all
theorem Zs8(hb:b<h.length):(Dl b d h).length=h.length:=by
 unfold Dl
 simp_all [Z5h,Y1]
theorem Dt(b:Nat)(d:AV)(s:Nat):∀e:Env,lk s (LI b d e)=LH b d (lk s e)
 |[]=>rfl
 |(k,v)::e=>by
  simp only[LI,lk];split
  .rfl
  .exact Dt b d s e
theorem ZHC{x:AF}:XB (xJ b d x)=XB x:=by cases x<;>rfl
section
variable{N:Bv}{base:Nat}{ρ:Map}{h:V3}{w:World}{F F':Nat->Prop}{b:Nat}{d:AV}
theorem RV.sb(hk:∀g,F g->F' g)(hd:∀r,ρ b=some r->RV ρ w F' d r.v){a:AV}{v:Value}(h:RV ρ w F a v):RV ρ w F' (LH b d a) v:=by
 refine RV.rec (motive_1:=λa v _=>RV ρ w F' (LH b d a) v) (motive_2:=λas vs _=>AH ρ w F' (C3 b d as) vs) ?_ ?_ ?_ ?_ ?_ ?_ ?_ ?_ ?_ ?_ ?_ ?_ ?_ h
 .exact λv=>.top v
 .exact .nilp
 .intro x v fp h hf;exact .t h λg hg=>hk g (hf g hg)
 .intro cs c _ h1 ih;exact .agg ih h1
 .intro cs c _ ih;exact .tup ih
 .intro b off g r hr hv;exact .ptr hr hv
 .intro b i sz off g n cap r hr hv;exact .eptr hr hv
 .intro cs off g o c e fz fp hg hF hc hf;exact .iptr hg (hk _ hF) hc λg hg=>hk g (hf g hg)
 .intro c r hr ho;unfold LH;split
  .simp_all
  .exact .own hr ho
 .intro b n g r hr hv;exact .bsl hr hv
 .intro f cs c _ ih;exact .fn ih
 .exact .nil
 .intro a v as vs _ _ ih1 ih2;exact .cons ih1 ih2
theorem AH.sb(hk:∀g,F g->F' g){b:Nat}{d:AV}(hd:∀r,ρ b=some r->RV ρ w F' d r.v):∀{as:XQ} {vs:V5},AH ρ w F as vs->AH ρ w F' (C3 b d as) vs
 |[],_,h=>by cases h;exact .nil
 |a::as,_,h=>by cases h with|cons h hs=>exact .cons (h.sb hk hd) (AH.sb hk hd hs)
theorem HO{g:Nat}(hg:Free N ρ h g):Free N ρ (Dl b d h) g:=by
 refine⟨hg.1,λc r hr hc=>hg.2 c r hr λe=>hc ?_⟩;rw[yB];split
 .rfl
 .rw[e];rfl
theorem ET(R:Rel N base ρ h w){sz:Nat}{es:WA}{el:TypeId}{fr:Bool}(hb:gt h b=.arr el sz fr es) :
  Rel N base ρ (Dl b (.t (.lst sz es)) h) w/\∀r,ρ b=some r->RV ρ w (Free N ρ (Dl b (.t (.lst sz es)) h)) (.t (.lst sz es)) r.v:=by
 have hd:gt h b≠.dead:=by rw[hb];intro hc;cases hc
 have live:∀c,gt (Dl b (.t (.lst sz es)) h) c≠.dead->c≠b/\gt h c≠.dead:=by
  intro c hc;rw[yB]at hc;by_cases e:c=b
  .simp_all
  .rw[Yb e]at hc;exact⟨e,λe2=>hc (by rw[e2];rfl)⟩
 have hfr:∀r,ρ b=some r->∀g,Xe r.v=some g->Free N ρ (Dl b (.t (.lst sz es)) h) g:=by
  intro r hr g hg;refine⟨(R.hO b r g hr hd hg).1,λc r' hr' hc ho=>?_⟩;obtain⟨h1,h2⟩:=live c hc;exact h1 (R.inj c b r' r g hr' hr h2 hd ho hg)
 have hdat:∀r,ρ b=some r->RV ρ w (Free N ρ (Dl b (.t (.lst sz es)) h)) (.t (.lst sz es)) r.v:=by
  intro r hr;obtain⟨fp,hT,_,hg⟩:=dE R hr hb;obtain⟨r',h1,h2⟩:=R.blk b hd;rw[hr]at h1;cases h1;rw[hb]at h2;obtain⟨_,_,_,_,_,_,_,hfree,_⟩:=h2;exact .t hT λg hg'=>(hg g hg').elim (λq=>hfr r hr g q) λq=>HO (hfree g q)
 have hK:Xr ρ w (Free N ρ h) ρ w (Free N ρ (Dl b (.t (.lst sz es)) h)):=⟨λc r hr=>⟨r,hr,rfl⟩,λg _ hg=>⟨HO hg,rfl⟩⟩;refine⟨⟨R.hb,R.hN,λc r g hr hc ho=>R.hO c r g hr (live c hc).2 ho,λc hc=>?_,λc c' r r' g hr hr' hc hc'=>R.inj c c' r r' g hr hr' (live c hc).2 (live c' hc').2,λc c' r r' g hr hr' hc hc'=>?_⟩,hdat⟩
 .obtain⟨h1,h2⟩:=live c hc;obtain⟨r,hr,hx⟩:=R.blk c h2;refine⟨r,hr,?_⟩;rw[yB,Yb h1]
  cases e:gt h c with
  |box cs =>
   rw[e]at hx;obtain⟨g,c',e',hv,hb',hh,q1,q2⟩:=hx
   exact⟨g,c',e',hv,hb',hh,q1.sb (λ_=>HO) hdat,q2⟩
  |dead=>exact absurd e h2
  |arr a1 a2 a3 a4=>rw[e]at hx;exact hx.keep hK λ_ _=>rfl
 .have f:∀c,XB (gt (Dl b (.t (.lst sz es)) h) c)=true->XB (gt h c)=true:=by
   intro c hc;rw[yB]at hc;split at hc
   .cases hc
   .rwa [ZHC]at hc
  exact R.apart c c' r r' g hr hr' (f c hc) (f c' hc')
end
theorem AO.fzS{N:Bv}{base:Nat}{w0:World}{nt:Nat}{ts:List (Array Value)}{ρ:Map}{s s':S}{a:Act}{w:World}(hS:AO N base w0 nt ts ρ s a w){b:Nat}(hs:Go.AM.fzS b s=some s') :
  AO N base w0 nt ts ρ s' a w/\Xr ρ w (Free N ρ s.h) ρ w (Free N ρ s'.h)/\s'.h.length=s.h.length:=by
 unfold Go.AM.fzS at hs;split at hs
 .rename_i el sz fr es hb;cases hs;obtain⟨R,hd⟩:=ET hS.rel hb;have hl:b<s.h.length:=HM (by rw[hb];intro hc;cases hc);refine⟨⟨R,λx=>?_,?_,?_,hS.defers,hS.size,hS.below,hS.kn,λg hg hz=>⟨HO (hS.fz g hg hz).1,(hS.fz g hg hz).2⟩⟩,⟨λc r hr=>⟨r,hr,rfl⟩,λg _ hg=>⟨HO hg,rfl⟩⟩,Zs8 hl⟩
  .show RV _ _ _ (lk x (LI b _ s.env)) _;rw[Dt];exact(hS.env x).sb (λ_=>HO) hd
  .show U8 _ _ _ (s.stk.map _) _;have hk:=hS.stk;generalize s.stk=st at hk;generalize ts=tt at hk
   induction st generalizing tt with
   |nil=>cases tt<;>exact hk
   |cons e st ih =>
    cases tt with
    |nil=>exact hk
    |cons t tt =>
     refine⟨λx=>?_,ih _ hk.2⟩;rw[Dt];exact(hk.1 x).sb (λ_=>HO) hd
  .intro c hc;exact hS.dom c (by rw[Zs8 hl]at hc;exact hc)
 .cases hs
theorem AO.fzVs{N:Bv}{base:Nat}{w0:World}{nt:Nat}{ts:List (Array Value)}{ρ:Map}{a:Act}{w:World}:∀(vs:XQ) {s:S},AO N base w0 nt ts ρ s a w->AO N base w0 nt ts ρ (Go.AM.fzVs vs s) a w
 |[],_,hS=>hS
 |v::vs,s,hS=>by
  cases v with
  |own b =>
   simp only[Go.AM.fzVs]
   cases h:Go.AM.fzS b s with
   |none=>exact AO.fzVs vs hS
   |some s'=>exact AO.fzVs vs (hS.fzS h).1
  |_=>exact AO.fzVs vs hS
theorem AO.fzO{N:Bv}{base:Nat}{w0:World}{nt:Nat}{ts:List (Array Value)}{ρ:Map}{a:Act}{w:World}{s:S}(o:MO)(hS:AO N base w0 nt ts ρ s a w):AO N base w0 nt ts ρ (Go.AM.fzO o s) a w:=by
 unfold Go.AM.fzO
 grind [AO.fzVs]
section
variable{P:Program}{N:Bv}{base:Nat}{w0:World}{nt:Nat}{ts:List (Array Value)}{inl:V4}
theorem Z5i{Γ:Df}(hΓ:Γ=XX P){ops:Array Oper}{Qc:Exit->Act->World->Prop}{K:S->Prop}
  (hQ:∀s a w ρ,K s->AO N base w0 nt ts ρ s a w->Qc .normal a w):∀(l:List Oper) (os:List MO),A3 (Co P inl nt ops) l=some os->∀(s:S) (a:Act) (w:World) (ρ:Map),Jk Γ os s K->AO N base w0 nt ts ρ s a w->wpList P ops Qc l a w
 |[],os,hm,s,a,w,ρ,hr,hS=>by cases hm;exact hQ s a w ρ hr hS
 |o::l,os,hm,s,a,w,ρ,hr,hS=>by
  obtain⟨m,ms,h1,h2,rfl⟩:=K8 hm;obtain⟨hk,hdst,hd,hguard⟩:=Zs0 h1;simp only[Jk]at hr;replace hS:=hS.fzO m;generalize Go.AM.fzO m s=s at hr hS;have ih:=Z5i hΓ hQ l ms h2;have run:BJ Γ m s (λs'=>Jk Γ ms s' K)->o.wp P a w (wpList P ops Qc l) Qc:=by
   intro hrun;obtain⟨v,u,hop,hK⟩:=Z4P hrun;rw[hΓ]at hop;refine dQ hk hS.env hS.rel (nx:=s.h.length) (.inr (hS.dom _ (Yi _))) (λb _ hb=>hS.dom b hb) hop λval w' ρ' hA=>?_
   exact ih _ _ _ ρ' hK (by rw[hdst];exact hS.after hA hd)
  have skip:Jk Γ ms { s with env:=put m.dst (.tup []) s.env } K->wpList P ops Qc l (a.put o.dst undef) w:=λhK=>ih _ _ _ ρ hK (by rw[hdst];exact hS.skip hd)
  refine wpList_step λK' hK'=>?_
  have run':BJ Γ m s (λs'=>Jk Γ ms s' K)->o.wp P a w K' Qc:=λh=>Oper.wp_mono hK' (run h)
  rcases hguard with⟨hg1,hg2⟩|⟨j,b,d,hg1,hg2,hg3⟩
  .simp only[Ex,hg2]at hr;simp only[Region.wanted,hg1,if_true];exact run' hr
  .have hw:=Zs1 hS.env hg1 hg2;simp only[Ex,hg3]at hr
   grind
end
open Go.RowKit (Below)
section
variable{P:Program}{N:Bv}{base:Nat}{w0:World}{nt:Nat}{ts:List (Array Value)}{inl:V4}{ρ:Map}{s:S}{a:Act}{w:World}
theorem U8.ren{ρ ρ':Map}{w:World}{F F':Nat->Prop}(f:Nat->Nat)(hF:∀g,g<w.heap.size->F g->F' g):∀{es:List Env} {ts:List (Array Value)},U8 ρ w F es ts->(∀b∈es.flatMap K4,∀r,ρ b=some r->ρ' (f b)=some r)->U8 ρ' w F' (es.map (Dk f)) ts
 |[],[],_,_=>trivial
 |_::_,_::_,h,hr=>⟨h.1.ren f (λb hb=>hr b (by simp only[Es,Yp];exact .inl hb)) hF,U8.ren f hF h.2 λb hb=>hr b (by simp only[Es,Yp];exact .inr hb)⟩
 |[],_::_,h,_=>h.elim
 |_::_,[],h,_=>h.elim
theorem Z5j(hS:AO N base w0 nt ts ρ s a w)(keep:V4):∃ρ',AO N base w0 nt ts ρ' (Qy keep s) a w:=by
 unfold Qy;simp only;split
 .rename_i hc;obtain⟨h1,h2⟩:=xT hc;have hnd:(X2 s.h 200 (K4 (LG s.h (rst keep s.env))++s.stk.flatMap K4) []).Nodup:=xR _ _ _ C2;generalize X2 s.h 200 (K4 (LG s.h (rst keep s.env))++s.stk.flatMap K4) []=ids at *
  refine⟨Be ρ ids,hS.rel.ren hnd h2,?_,?_,?_,hS.defers,hS.size,hS.below,hS.kn,λg hg hz=>⟨dM (hS.fz g hg hz).1,(hS.fz g hg hz).2⟩⟩
  .exact((hS.env.rst keep).scrub (h:=s.h)).ren _ (λb hb r hr=>by rw[dL (h1 b (by simp[hb]))];exact hr) λg _ hg=>dM hg
  .exact hS.stk.ren _ (λg _ hg=>dM hg) λb hb r hr=>by rw[dL (h1 b (Yp.2 (.inr hb)))];exact hr
  .simp_all [Zsq]
 .exact⟨ρ,hS.rel,λ_=>.top _,hS.stk,hS.dom,hS.defers,hS.size,hS.below,hS.kn,hS.fz⟩
def PQ(N:Bv)(base:Nat)(w0:World)(nt:Nat)(ts:List (Array Value))(Q:X->S->Prop):Exit->Act->World->Prop
 |.normal,a,w=>∃s ρ,Q .n s/\AO N base w0 nt ts ρ s a w
 |.exit id,a,w=>∃s ρ,Q (.x id) s/\AO N base w0 nt ts ρ s a w
 |.ret,a,w=>∃s ρ,Q .r s/\AO N base w0 nt ts ρ s a w
 |_,_,_=>False
theorem AO.rst(hS:AO N base w0 nt ts ρ s a w)(keep:V4):AO N base w0 nt ts ρ { s with env:=rst keep s.env } a w :=
 ⟨hS.rel,hS.env.rst keep,hS.stk,hS.dom,hS.defers,hS.size,hS.below,hS.kn,hS.fz⟩
theorem EU{Γ:Df}(hΓ:Γ=XX P):∀(c:Code) (ks:List (V4)) (m:Za) (ks':List (V4)),comp P inl nt c ks=some (m,ks')->∀(Q:X->S->Prop) (s:S) (a:Act) (w:World) (ρ:Map),
  Wc Γ m Q s->AO N base w0 nt ts ρ s a w->c.wp P (PQ N base w0 nt ts Q) a w:=by
 intro c
 induction c with
 |skip =>
  intro ks m ks' hc Q s a w ρ hW hS;simp[comp]at hc;obtain⟨rfl,rfl⟩:=hc
  exact wp_skip ⟨s,ρ,hW,hS⟩
 |region id ops draw =>
  intro ks m ks' hc Q s a w ρ hW hS
  cases ks with
  |nil=>simp[comp]at hc
  |cons k ks =>
   simp only[comp]at hc;split at hc
   .rename_i os hos;split at hc
    .rename_i EV;subst EV;split at hc
     .rename_i hcond;cases hc;split at hW
      .simp only[Wc]at hW;exact Z5g hΓ hos hcond.1 hcond.2.1 (λs a w ρ hq hS=>⟨_,ρ,hq,hS.rst k⟩) hW (AO.fzVs _ hS)
      .simp only[Wc]at hW;exact Z5g hΓ hos hcond.1 hcond.2.1 (λs a w ρ hq hS=>⟨_,ρ,hq,hS.rst k⟩) hW hS
     .cases hc
    .rename_i EV;cases hc;have LY:draw=false:=by simpa using EV
     subst LY;split at hW
     .simp only[Wc]at hW;exact wp_region_list (Z5i hΓ (λs a w ρ hq hS=>⟨_,ρ,hq,hS.rst k⟩) ops.toList os hos s a w ρ hW hS)
     .simp only[Wc]at hW;exact wp_region_list (Z4Q hΓ (λs a w ρ hq hS=>⟨_,ρ,hq,hS.rst k⟩) ops.toList os hos s a w ρ hW hS)
   .cases hc
 |seq x y ihx ihy =>
  intro ks m ks' hc Q s a w ρ hW hS;simp only[comp]at hc;split at hc
  .rename_i mx k1 h1;split at hc
   .rename_i my k2 h2;cases hc;simp only[Wc]at hW;refine wp_seq (wp_mono (ihx ks mx k1 h1 _ s a w ρ hW hS) ?_);intro e a' w' hq
    cases e with
    |normal=>obtain⟨s',ρ',h3,h4⟩:=hq;exact ihy k1 my _ h2 Q s' a' w' ρ' h3 h4
    |exit id=>exact hq
    |ret=>exact hq
    |goto l=>exact hq.elim
    |panic ch=>exact hq.elim
    |outgrown=>exact hq.elim
   .cases hc
  .cases hc
 |cond o x y ihx ihy =>
  intro ks m ks' hc Q s a w ρ hW hS;simp only[comp]at hc;split at hc
  .rename_i o' mx k1 ho h1;split at hc
   .rename_i my k2 h2;cases hc;simp only[Wc]at hW;have hr:=Xc hS.env ho;split at hW
    .rename_i b hb;rw[hb]at hr;refine wp_cond hr.bool_inv ?_
     grind
    .exact hW.elim
   .cases hc
  .cases hc
 |block id b ih =>
  intro ks m ks' hc Q s a w ρ hW hS;simp only[comp]at hc;split at hc
  .rename_i mb k1 h1;cases hc;simp only[Wc]at hW;refine wp_block (wp_mono (ih ks mb _ h1 _ s a w ρ hW hS) ?_);intro e a' w' hq
   cases e with
   |normal=>exact hq
   |exit id' =>
    obtain⟨s',ρ',h3,h4⟩:=hq;simp only[Exit.inBlock];simp only at h3;split at h3
    .rename_i hid;rw[Ya hid];exact⟨s',ρ',h3,h4⟩
    .rename_i hid;rw[Yb hid];exact⟨s',ρ',h3,h4⟩
   |ret=>exact hq
   |goto l=>exact hq.elim
   |panic ch=>exact hq.elim
   |outgrown=>exact hq.elim
  .cases hc
 |loop b ih =>
  intro ks m ks' hc Q s a w ρ hW hS
  cases ks with
  |nil=>simp[comp]at hc
  |cons k ks =>
   simp only[comp]at hc;split at hc
   .rename_i mb k1 h1;cases hc;simp only[Wc,HE]at hW;obtain⟨I,μ,h0,LZ⟩:=hW;obtain⟨ρ0,hS0⟩:=Z5j hS k;refine wp_loop_ghost (λn a w=>∃s ρ,I s/\μ s=n/\AO N base w0 nt ts ρ s a w) (μ (Qy k s)) ⟨_,ρ0,h0,rfl,hS0⟩ ?_;rintro n a' w' ⟨s1,ρ1,hI,rfl,hS1⟩;refine wp_mono (ih ks mb _ h1 _ s1 a' w' ρ1 (LZ s1 hI) hS1) ?_;intro e a2 w2 hq
    cases e with
    |normal =>
     obtain⟨s2,ρ2,⟨h3,h4⟩,h5⟩:=hq;obtain⟨ρ3,h6⟩:=Z5j h5 k
     exact⟨μ (Qy k s2),h4,_,ρ3,h3,rfl,h6⟩
    |exit id=>exact hq
    |ret=>exact hq
    |goto l=>exact hq.elim
    |panic ch=>exact hq.elim
    |outgrown=>exact hq.elim
   .cases hc
 |exit id =>
  intro ks m ks' hc Q s a w ρ hW hS;simp[comp]at hc;obtain⟨rfl,rfl⟩:=hc
  exact wp_exit ⟨s,ρ,hW,hS⟩
 |ret =>
  intro ks m ks' hc Q s a w ρ hW hS;simp[comp]at hc;obtain⟨rfl,rfl⟩:=hc
  exact wp_ret ⟨s,ρ,hW,hS⟩
 |rangeFunc f ps x y _ _=>intro ks m ks' hc;cases ks<;>simp[comp]at hc
 |scope b _=>intro ks m ks' hc;cases ks<;>simp[comp]at hc
 |label l=>intro ks m ks' hc;cases ks<;>simp[comp]at hc
 |goto l=>intro ks m ks' hc;cases ks<;>simp[comp]at hc
 |refuse wy=>intro ks m ks' hc;cases ks<;>simp[comp]at hc
end
open Go.RowKit (Below)
section
variable{P:Program}{N:Bv}{base:Nat}{w0:World}{nt:Nat}{ts:List (Array Value)}{inl:V4}{w:World}{ρ:Map}{s:S}{fn:Func}{v r:AV}{args:XQ}{ks:List (V4)}{m:Ab}{a:Act}{vs:Array Value}{f k:Nat}{h0 hr h:V3}
def d7(tmps:Array Value):ResultVar->Sem Value
 |.tmp t=>pure (tmps.getD t undef)
 |.cell ad t=>do loadVar t (<-asAddr (tmps.getD ad undef))
theorem Z5k(fn:Func)(tmps:Array Value):results fn tmps=(do let vs <-fn.results.mapM (d7 tmps);pure (if h:vs.size=1 then vs[0]else .tuple vs)):=by
 unfold results;congr 1
theorem ZHD(hS:AO N base w0 nt ts ρ s a w){rv:ResultVar}{r:CG}(hc:LL P rv=some r)(hv:JS s r=some v) :
  ∃val,(d7 a.tmps rv).run P w=.ok val w/\RV ρ w (Free N ρ s.h) v val:=by
 cases rv with
 |tmp t =>
  simp[LL]at hc;subst hc;simp[JS]at hv;subst hv
  exact⟨_,rfl,hS.env t⟩
 |cell ad t =>
  simp only[LL]at hc;obtain⟨n,hn,rfl⟩:=Yr.1 hc;simp only[JS]at hv;split at hv
  .rename_i b off hb;split at hv
   .rename_i cs hgb;have hr:=hS.env ad;rw[hb]at hr;obtain⟨p,hp⟩:∃g,a.tmps.getD ad undef=.pointer (some ⟨g,off,none⟩)/\∃r,ρ b=some r/\r.v=.pointer (some ⟨g,0,none⟩):=by
     generalize a.tmps.getD ad undef=x at hr
     cases hr with
     |ptr h1 h2=>exact⟨_,rfl,_,h1,h2⟩
    obtain⟨hp1,r,hr1,hr2⟩:=hp;obtain⟨r',h1,h2⟩:=hS.rel.blk b (by rw[hgb];intro hc;cases hc);rw[hr1]at h1;cases h1;rw[hgb]at h2;obtain⟨g',c,te,hv2,_,hh,hcs,hone⟩:=h2;rw[hr2]at hv2;cases hv2;obtain⟨val,h3,h4⟩:=Z4w (P:=P) hn hh hcs hone hv;exact⟨val,by simp only[d7,Sem.run_bind,hp1,asAddr,Sem.run_pure,Result.andThen_ok,h3],h4⟩
   .cases hv
  .cases hv
theorem Z5l{ρ:Map}{s:S}{a:Act}{w:World}(hS:AO N base w0 nt ts ρ s a w):∀(l:List ResultVar) (rs:List CG),A3 (LL P) l=some rs->∀vs,U5 s rs=some vs->
  ∃vals,(l.mapM (d7 a.tmps)).run P w=.ok vals w/\AH ρ w (Free N ρ s.h) vs vals
 |[],rs,hm,vs,hv=>by cases hm;simp[U5]at hv;subst hv;exact⟨[],Z,.nil⟩
 |rv::l,rs,hm,vs,hv=>by
  obtain⟨r,rs',h1,h2,rfl⟩:=K8 hm;simp only[U5]at hv;split at hv
  .rename_i v vs' h3 h4;cases hv;obtain⟨val,h5,h6⟩:=ZHD hS h1 h3;obtain⟨vals,h7,h8⟩:=Z5l hS l rs' h2 vs' h4;refine⟨val::vals,?_,.cons h6 h8⟩
   simp_all
  .cases hv
theorem ZHE(hS:AO N base w0 nt ts ρ s a w){rs:List CG}(hm:A3 (LL P) fn.results.toList=some rs)(hv:CH rs s=some v) :
  ∃val,(results fn a.tmps).run P w=.ok val w/\RV ρ w (Free N ρ s.h) v val:=by
 unfold CH at hv;have key:∀vs,U5 s rs=some vs->∃vals,(fn.results.mapM (d7 a.tmps)).run P w=.ok vals.toArray w/\AH ρ w (Free N ρ s.h) vs vals:=by
  intro vs hvs;obtain⟨vals,h1,h2⟩:=Z5l hS fn.results.toList rs hm vs hvs
  simp_all [Array.mapM_eq_mapM_toList]
 split at hv
 .rename_i v' hvs;cases hv;obtain⟨vals,h1,h2⟩:=key _ hvs;have hl:=h2.length
  match vals,hl,h1,h2 with
  |[val],_,h1,h2 =>
   cases h2 with
   |cons h3 _ =>
    refine⟨val,?_,h3⟩;rw[Z5k,Sem.run_bind,h1];simp
 .rename_i vs hne hvs;cases hv;obtain⟨vals,h1,h2⟩:=key _ hvs;have hl:=h2.length;refine⟨.tuple vals.toArray,?_,.tup (by simpa using h2)⟩;rw[Z5k,Sem.run_bind,h1];have hn1:vals.length≠1:=by
   intro hc;rw[hc]at hl
   match vs,hl,hne with
   |[v0],_,hne=>exact hne v0 rfl
  simp[hn1]
 .cases hv
theorem EW(args:XQ)(k i:Nat):lk (k+i) (K5 args k)=(args[i]?).getD .top:=by
 induction args generalizing k i with
 |nil=>rfl
 |cons v args ih =>
  simp only[K5,lk]
  cases i with
  |zero=>simp
  |succ i =>
   rw[Ao];have:=ih (k+1) i
   grind
theorem EX{F:Nat->Prop}(hv:AH ρ w F args vs.toList)(n:Nat):XJ ρ w F (K5 args 0) (vs++Array.replicate n undef):=by
 intro s;have h1:=EW args 0 s;rw[Yt]at h1;rw[h1]
 cases hs:args[s]? with
 |none=>exact .top _
 |some a =>
  obtain⟨v,h2,h3⟩:=hv.at hs;have h2':vs[s]?=some v:=by simpa using h2
  have hlt:s<vs.size:=(Hy.1 h2').1
  have:(vs++Array.replicate n undef).getD s undef=v:=by
   simp_all [LC,Array.getElem?_append_left]
  rw[this];exact h3
theorem d8(d:TypeId->Bool)(s:S):∀(rs:List CG) (C8:List TypeId),U5 s (CA P d rs C8)=U5 s rs
 |[],C8=>by cases C8<;>rfl
 |r::rs,[]=>by cases r<;>rfl
 |.tmp t::rs,ty::C8=>by simp only[CA,U5,JS,d8 d s rs C8]
 |.cell a n::rs,ty::C8=>by simp only[CA,U5,JS,d8 d s rs C8]
 |.tmpO t l::rs,ty::C8=>by simp only[CA,U5,JS,d8 d s rs C8]
 |.cellO a n l::rs,ty::C8=>by simp only[CA,U5,JS,d8 d s rs C8]
theorem ZHF(hc:JU P inl ks fn=some m):∃c,fn.body=some c/\comp P inl fn.ntmps c ks=some (m.body,[])/\(∃rs,A3 (LL P) fn.results.toList=some rs/\∀s,U5 s m.res=U5 s rs)/\m.nt=fn.ntmps/\m.np<=m.nt:=by
 unfold JU at hc
 grind [d8]
theorem ZHG{Γ:Df}(hΓ:Γ=XX P)(hf:P.funcs[f]?=some fn)(hc:JU P inl ks fn=some m)(hl:args.length=m.np){K:AV->S->Prop}
  (hW:Wc Γ m.body (Cn m.res K) { s with env:=K5 args 0 }) (hR:Rel N base ρ s.h w) (hst:U8 ρ w (Free N ρ s.h) s.stk ts) (hdom:∀b,s.h.length<=b->ρ b=none)
  (hv:AH ρ w (Free N ρ s.h) args vs.toList) (hz:∀g,N.z g->Free N ρ s.h g) :
  Calls P f vs w λe w'=>∃val v s' ρ',e=.returned val/\K v s'/\RV ρ' w' (Free N ρ' s'.h) v val/\Rel N base ρ' s'.h w'/\U8 ρ' w' (Free N ρ' s'.h) s'.stk ts/\(∀b,s'.h.length<=b->ρ' b=none)/\Below base w w'/\
   (∀g,g<w.heap.size->¬N.a g->w'.heap[g]?=w.heap[g]?)/\∀g,g<w.heap.size->N.z g->Free N ρ' s'.h g/\w'.heap[g]?=w.heap[g]?:=by
 obtain⟨c,hb,hcc,⟨rs,hres,hrr⟩,hnt,hnp⟩:=ZHF hc;have hvl:=hv.length;simp only[Y3]at hvl;refine calls_of_wp hf hb (wp_mono (EU (N:=N) (base:=base) (w0:=w) (ts:=ts) hΓ c ks m.body [] hcc _ _ _ w ρ hW ⟨hR,EX hv _,hst,hdom,rfl,by simp;omega,Below.refl _ _,λ_ _ _=>rfl,λg _ hg=>⟨hz g hg,rfl⟩⟩) ?_);intro e a' w' hq;have fin:∀s' ρ',Cn m.res K .n s'->AO N base w fn.ntmps ts ρ' s' a' w'->a'.defers=[]/\∃v,(results fn a'.tmps).run P w'=.ok v w'/\∃val v_1 s' ρ',Ending.returned v=.returned val/\K v_1 s'/\RV ρ' w' (Free N ρ' s'.h) v_1 val/\Rel N base ρ' s'.h w'/\
   U8 ρ' w' (Free N ρ' s'.h) s'.stk ts/\(∀b,s'.h.length<=b->ρ' b=none)/\Below base w w'/\(∀g,g<w.heap.size->¬N.a g->w'.heap[g]?=w.heap[g]?)/\∀g,g<w.heap.size->N.z g->Free N ρ' s'.h g/\w'.heap[g]?=w.heap[g]?:=by
  intro s' ρ' hQ hS;simp only[Cn]at hQ;split at hQ
  .rename_i v hvr;obtain⟨val,h1,h2⟩:=ZHE (rs:=rs) hS hres (by unfold CH at hvr|-;rw[<-hrr];exact hvr);exact⟨hS.defers,val,h1,val,v,s',ρ',rfl,hQ,h2,hS.rel,hS.stk,hS.dom,hS.below,hS.kn,hS.fz⟩
  .exact hQ.elim
 cases e with
 |normal=>obtain⟨s',ρ',h1,h2⟩:=hq;exact fin s' ρ' h1 h2
 |ret=>obtain⟨s',ρ',h1,h2⟩:=hq;exact fin s' ρ' h1 h2
 |exit id=>obtain⟨s',ρ',h1,h2⟩:=hq;exact h1.elim
 |goto l=>exact hq.elim
 |panic ch=>exact hq.elim
 |outgrown=>exact hq.elim
theorem Zs9{h:V3}:∀(n:Nat) (todo acc:V4),∃more,X2 h n todo acc=acc++more
 |0,_,acc=>⟨[],by simp[X2]⟩
 |n+1,[],acc=>⟨[],by simp[X2]⟩
 |n+1,c::todo,acc=>by
  simp only[X2];split
  .exact Zs9 n todo acc
  .obtain⟨more,hm⟩:=Zs9 (h:=h) n (Vs (gt h c)++todo) (acc++[c])
   simp_all
theorem Z5m:∀(bs:V3) (k i:Nat),lk (k+i) (QZ bs k)=match bs[i]? with|some (.box _)=>.ptr (k+i) 0|some (.arr _ _ _ _)=>.own (k+i)|_=>.top
 |[],k,i=>by simp[QZ,lk]
 |b::bs,k,0=>by cases b<;>simp[QZ,lk]
 |b::bs,k,i+1=>by
  simp only[QZ,lk];rw[Ao];have:=Z5m bs (k+1) i
  grind
def d9(ρ:Map)(k:Nat):Array Value:=((List.range k).map λi=>match ρ i with|some r=>r.v|none=>undef).toArray
theorem ZsA{i:Nat}{r:Root}(hi:i<k)(hr:ρ i=some r):(d9 ρ k).getD i undef=r.v:=by
 simp[d9,hi,hr]
theorem ZHH(R:Rel N base ρ h0 w):XJ ρ w (Free N ρ h0) (QZ h0 0) (d9 ρ h0.length):=by
 intro i;have:=Z5m h0 0 i;rw[Yt]at this;rw[this]
 cases hb:h0[i]? with
 |none=>exact .top _
 |some b =>
  have hi:i<h0.length:=(Y2.1 hb).1;have hg:gt h0 i=b:=by simp[gt,hb]
  cases b with
  |dead=>exact .top _
  |box cs =>
   obtain⟨r,h1,h2⟩:=R.blk i (by rw[hg];intro hc;cases hc);rw[hg]at h2;obtain⟨g,c,e,h3,_⟩:=h2;rw[ZsA hi h1,h3]
   exact .ptr h1 h3
  |arr e sz fr es =>
   obtain⟨r,h1,h2⟩:=R.blk i (by rw[hg];intro hc;cases hc);rw[hg]at h2;obtain⟨_,xs,_,h3,_⟩:=h2;rw[ZsA hi h1];exact .own h1 (Z41 h3)
theorem ZHI{ρ0:Map}{val:Value}(R:Rel N base ρ s.h w)(hv:RV ρ w (Free N ρ s.h) v val)(hdom:∀b,s.h.length<=b->ρ b=none){e:Env}(Aae:s.stk=[e])(hE:XJ ρ w (Free N ρ s.h) e (d9 ρ0 k))(hc:xL k v s=some (r,hr)) :
  ∃ρ',Rel N base ρ' hr w/\RV ρ' w (Free N ρ' hr) r val/\(∀b,hr.length<=b->ρ' b=none)/\k<=hr.length/\(∀g,Free N ρ s.h g->Free N ρ' hr g)/\∀b r0,b<k->ρ0 b=some r0->∃r1,ρ' b=some r1/\r1.v=r0.v:=by
 unfold xL at hc;simp only[Aae]at hc;split at hc
 .rename_i hcond;simp only[Yf]at hcond;obtain⟨hcl,hndB⟩:=hcond;obtain⟨h1,h2⟩:=xT hcl;have Aaf:((List.range k).map (Xf s.h e)).Nodup:=dD.1 hndB;have hnd:=xR (h:=s.h) 200 ((((List.range k).map (Xf s.h e)).flatMap λb=>Vs (gt s.h b))++refs (scrub s.h v)) ((List.range k).map (Xf s.h e)) Aaf;obtain⟨more,hpre⟩:=Zs9 (h:=s.h) 200 ((((List.range k).map (Xf s.h e)).flatMap λb=>Vs (gt s.h b))++refs (scrub s.h v)) ((List.range k).map (Xf s.h e));generalize X2 s.h 200 ((((List.range k).map (Xf s.h e)).flatMap λb=>Vs (gt s.h b))++refs (scrub s.h v)) ((List.range k).map (Xf s.h e))=ids at *
  cases hc;have hat:∀i,i<k->ids[i]?=some (Xf s.h e i):=by
   grind
  have hkl:k<=ids.length:=by rw[hpre];simp
  -- where a root handed over is
  have hroot:∀i r0,i<k->ρ0 i=some r0->ρ (Xf s.h e i)=none\/∃r1,ρ (Xf s.h e i)=some r1/\r1.v=r0.v:=by
   intro i r0 hi hr0;have hEi:=(hE i).scrub (h:=s.h);rw[ZsA hi hr0]at hEi;unfold Xf
   cases hx:scrub s.h (lk i e)with
   |ptr b off =>
    rw[hx]at hEi
    cases off with
    |zero =>
     right;generalize Aag:r0.v=x at hEi
     cases hEi with
     |ptr q1 q2=>exact⟨_,q1,q2⟩
    |succ off=>left;exact hdom _ Z
   |own b =>
    rw[hx]at hEi;right;generalize Aag:r0.v=x at hEi
    cases hEi with
    |own q1 q2=>exact⟨_,q1,rfl⟩
   |_=>left;exact hdom _ Z
  let ρ':Map:=λb=>if hb:b<k/\Be ρ ids b=none then ρ0 b else Be ρ ids b
  have hlive:∀b,gt (ids.map λb=>Bj (λb=>idx b ids 0) (gt s.h b)) b≠.dead->ρ' b=Be ρ ids b:=by
   intro b hb;obtain⟨r1,q1,_⟩:=(R.ren hnd h2).blk b hb
   grind
  have hsome:∀b r,Be ρ ids b=some r->ρ' b=some r:=by
   grind
  have HP:∀g,Free N (Be ρ ids) (ids.map λb=>Bj (λb=>idx b ids 0) (gt s.h b)) g->Free N ρ' (ids.map λb=>Bj (λb=>idx b ids 0) (gt s.h b)) g:=by
   intro g hg;refine⟨hg.1,λb r hb hd=>?_⟩;rw[hlive b hd]at hb;exact hg.2 b r hb hd
  have hKp:Xr (Be ρ ids) w (Free N (Be ρ ids) (ids.map λb=>Bj (λb=>idx b ids 0) (gt s.h b))) ρ' w (Free N ρ' (ids.map λb=>Bj (λb=>idx b ids 0) (gt s.h b))) :=
   ⟨λb r hb=>⟨r,hsome b r hb,rfl⟩,λg _ hg=>⟨HP g hg,rfl⟩⟩
  have R':=R.ren hnd h2;refine⟨ρ',⟨R'.hb,R'.hN,?_,?_,?_,?_⟩,?_,?_,by simpa using hkl,λg hg=>HP g (dM hg),?_⟩
  .intro b r g hb hd;rw[hlive b hd]at hb;exact R'.hO b r g hb hd
  .intro b hd;obtain⟨r1,q1,q2⟩:=R'.blk b hd;exact⟨r1,hsome b r1 q1,q2.keep hKp λ_ _=>rfl⟩
  .intro b b' r1 r2 g hb hb' hd hd';rw[hlive b hd]at hb;rw[hlive b' hd']at hb';exact R'.inj b b' r1 r2 g hb hb' hd hd'
  .intro b b' r1 r2 g hb hb' hf hf';rw[hlive b (JV hf)]at hb;rw[hlive b' (JV hf')]at hb';exact R'.apart b b' r1 r2 g hb hb' hf hf'
  .refine RV.keep hKp ((hv.scrub (h:=s.h)).ren _ (λb hb r hr=>?_) λg _ hg=>dM hg)
   simp_all [dL,Yp]
  .grind [List.length_map,Zsq]
  .intro b r0 hb hr0;rcases hroot b r0 hb hr0 with hn|⟨r1,q1,q2⟩
   .refine⟨r0,?_,rfl⟩;show(if hb:b<k/\Be ρ ids b=none then ρ0 b else Be ρ ids b)=some r0;rw[dif_pos ⟨hb,by simp[Be,hat b hb,hn]⟩];exact hr0
   .exact⟨r1,hsome b r1 (by simp[Be,hat b hb,q1]),q2⟩
 .cases hc
theorem Z5n:∀(l:V3) (x:AF),stB l l.length x=l++[x]
 |[],x=>rfl
 |y::l,x=>by simp[stB,Z5n l x]
structure Own (N:Bv) (base:Nat) (ρ:Map) (h:V3) (w:World) (ρ':Map) (h':V3):Prop where
 rel:Rel N base ρ' h' w
 keep:Xr ρ w (Free N ρ h) ρ' w (Free N ρ' h')
 dom:∀b,h'.length<=b->ρ' b=none
theorem Own.trans{ρ1 ρ2:Map}{h1 h2:V3}(a:Own N base ρ h w ρ1 h1)(b:Own N base ρ1 h1 w ρ2 h2):Own N base ρ h w ρ2 h2 :=
 ⟨b.rel,a.keep.trans b.keep (Yi _),b.dom⟩
theorem Z5o(R:Rel N base ρ h w)(hd:∀b,h.length<=b->ρ b=none)(e sz:Nat) :
  Own N base ρ h w (Au ρ h.length ⟨.slice none 0 0,[]⟩) (h++[.arr e (sz+1) true []]):=by
 have hp:=Jn R (n:=h.length) (ks:=[]) (x:=.arr e (sz+1) true []) (r:=⟨.slice none 0 0,[]⟩) (row:=none) (w':=w)
  (by intro r0 h0;rw[hd _ (Yi _)]at h0;cases h0) ⟨rfl,rfl,rfl,Yi _,λ_ _ _=>rfl⟩ (by intro g' hg';cases hg') (by intro g' hg';cases hg')
  (λ_=>⟨e,[],.inr rfl,World.ownsRow_nil w base e (sz+1),Nat.succ_pos _,Z,.nil,Z,λ_=>⟨C2,Z⟩⟩)
  (by intro _ x hx;cases hx)
 have hu:upd h (kill []++[(h.length,AF.arr e (sz+1) true [])])=h++[.arr e (sz+1) true []]:=by simp only[kill,De,Er,upd,Z5n]
 rw[hu]at hp;refine⟨hp.1,hp.2.1,λb hb=>?_⟩;simp only[Yo,Ys,DJ]at hb;simp only[Au]
 grind
theorem ZsB{ρ:Map}{h:V3}{w:World}{F:Nat->Prop}{v:Value}(h1:RV ρ w F (.t .nil) v):v=.slice none 0 0:=by
 cases h1 with|t h _=>cases h;rfl
theorem ZHJ:∀(l:List (Option (Nat×Nat))) (cs:XQ) (ρ:Map) (h:V3) (vs:V5),Rel N base ρ h w->(∀b,h.length<=b->ρ b=none)->AH ρ w (Free N ρ h) cs vs->
  ∃ρ',Own N base ρ h w ρ' (Qz l cs h).2/\AH ρ' w (Free N ρ' (Qz l cs h).2) (Qz l cs h).1 vs:=by
 intro l cs ρ h
 induction l,cs,h using Qz.induct generalizing ρ with
 |case1 e sz ps cs h cs' h' heq ih =>
  intro vs R hd hv
  cases hv with|cons q hv =>
  have hs:=ZsB (h:=h) q;subst hs;have A:=Z5o R hd e sz;obtain⟨ρ',B,hv'⟩:=ih _ _ A.rel A.dom (hv.keep A.keep);rw[heq]at B hv';simp only[Qz,heq];refine⟨ρ',A.trans B,.cons ?_ hv'⟩;have hk:Au ρ h.length ⟨.slice none 0 0,[]⟩ h.length=some ⟨.slice none 0 0,[]⟩:=by simp[Au]
  exact(RV.own (w:=w) (F:=Free N _ (h++[.arr e (sz+1) true []])) hk rfl).keep B.keep
 |case2 o c ps cs h hne cs' h' heq ih =>
  intro vs R hd hv
  cases hv with|cons q hv =>
  obtain⟨ρ',B,hv'⟩:=ih _ _ R hd hv;rw[heq]at B hv';have he:Qz (o::c) (ps::cs) h=(ps::cs',h'):=by
   rw[Qz]
   .rw[heq]
   .exact hne
  rw[he]
  exact⟨ρ',B,.cons (q.keep B.keep) hv'⟩
 |case3 cs h =>
  intro vs R hd hv;simp only[Qz]
  exact⟨ρ,⟨R,.refl,hd⟩,hv⟩
 |case4 l h hne =>
  intro vs R hd hv
  cases l with
  |nil=>exact absurd rfl hne
  |cons o l=>simp only[Qz];exact⟨ρ,⟨R,.refl,hd⟩,hv⟩
theorem Z5p(n:Nat)(v:AV)(ρ:Map)(h:V3)(val:Value)(R:Rel N base ρ h w)(hd:∀b,h.length<=b->ρ b=none)(hv:RV ρ w (Free N ρ h) v val) :
  ∃ρ',Own N base ρ h w ρ' (Dm n v h).2/\RV ρ' w (Free N ρ' (Dm n v h).2) (Dm n v h).1 val:=by
 unfold Dm;split
 .have hs:=ZsB (h:=h) hv;subst hs;exact⟨ρ,⟨R,.refl,hd⟩,.t (.lst0 _ _ _) λg hg=>by cases hg⟩
 .rename_i b;split
  .rename_i el sz fr es hb;obtain⟨h1,h2⟩:=ET R hb;have hl:b<h.length:=HM (by rw[hb];intro hc;cases hc);refine⟨ρ,⟨h1,⟨λc r hr=>⟨r,hr,rfl⟩,λg _ hg=>⟨HO hg,rfl⟩⟩,λc hc=>hd c (by rw[Zs8 hl]at hc;exact hc)⟩,?_⟩
   cases hv with
   |own hr hone=>exact h2 _ hr
  .exact⟨ρ,⟨R,.refl,hd⟩,hv⟩
 .exact⟨ρ,⟨R,.refl,hd⟩,hv⟩
theorem ZsC{w:World}:∀(l:List (Option (Nat×Nat))) (cs:XQ) (ρ:Map) (h:V3) (vs:V5),Rel N base ρ h w->(∀b,h.length<=b->ρ b=none)->AH ρ w (Free N ρ h) cs vs->
  ∃ρ',Own N base ρ h w ρ' (U6 l cs h).2/\AH ρ' w (Free N ρ' (U6 l cs h).2) (U6 l cs h).1 vs
 |[],cs,ρ,h,vs,R,hd,hv=>by
  unfold U6
  exact⟨ρ,⟨R,.refl,hd⟩,hv⟩
 |o::ps,[],ρ,h,vs,R,hd,hv=>by
  have e:U6 (o::ps) [] h=([],h):=by rcases o with _|⟨n,_|z⟩<;>rfl
  rw[e]
  exact⟨ρ,⟨R,.refl,hd⟩,hv⟩
 |o::ps,c::cs,ρ,h,[],R,hd,hv=>by cases hv
 |o::ps,c::cs,ρ,h,v0::vs,R,hd,hv=>by
  cases hv with|cons q hv =>
  have go:∃ρ',Own N base ρ h w ρ' (U6 ps cs h).2/\AH ρ' w (Free N ρ' (U6 ps cs h).2) (c::(U6 ps cs h).1) (v0::vs):=by
   obtain⟨ρ',A,B⟩:=ZsC ps cs ρ h _ R hd hv;exact⟨ρ',A,.cons (q.keep A.keep) B⟩
  cases o with
  |none=>simpa only[U6]using go
  |some p =>
   obtain⟨n,z⟩:=p
   cases z with
   |succ z=>simpa only[U6]using go
   |zero =>
    obtain⟨ρ1,A1,B1⟩:=Z5p n c ρ h _ R hd q;obtain⟨ρ',A,B⟩:=ZsC ps cs ρ1 _ _ A1.rel A1.dom (hv.keep A1.keep);simp only[U6];exact⟨ρ',A1.trans A,.cons (B1.keep A.keep) B⟩
theorem yC(l:List (Option (Nat×Nat)))(v:AV)(ρ:Map)(h:V3)(val:Value)(R:Rel N base ρ h w)(hd:∀b,h.length<=b->ρ b=none)(hv:RV ρ w (Free N ρ h) v val) :
  ∃ρ',Own N base ρ h w ρ' (CR l v h).2/\RV ρ' w (Free N ρ' (CR l v h).2) (CR l v h).1 val:=by
 unfold CR;split
 .rename_i cs
  cases hv with|agg hv h1 =>
  obtain⟨ρ1,A1,B1⟩:=ZHJ l cs ρ h _ R hd hv;obtain⟨ρ',A,B⟩:=ZsC l _ ρ1 _ _ A1.rel A1.dom B1;exact⟨ρ',A1.trans A,.agg B h1⟩
 .split
  .rename_i e sz;split
   .have hs:=ZsB (h:=h) hv;subst hs;have A:=Z5o R hd e sz;exact⟨_,A,RV.own (r:=⟨.slice none 0 0,[]⟩) (by simp[Au]) rfl⟩
   .exact⟨ρ,⟨R,.refl,hd⟩,hv⟩
  .simp_all [Z5p]
  .exact⟨ρ,⟨R,.refl,hd⟩,hv⟩
theorem eC{w:World}:∀(rs:List CG) (vs:XQ) (ρ:Map) (h:V3) (vals:V5),Rel N base ρ h w->(∀b,h.length<=b->ρ b=none)->AH ρ w (Free N ρ h) vs vals->
  ∃ρ',Own N base ρ h w ρ' (Qa rs vs h).2/\AH ρ' w (Free N ρ' (Qa rs vs h).2) (Qa rs vs h).1 vals
 |[],vs,ρ,h,vals,R,hd,hv=>by simp only[Qa];exact⟨ρ,⟨R,.refl,hd⟩,hv⟩
 |r::rs,[],ρ,h,vals,R,hd,hv=>by cases r<;>(simp only[Qa];exact⟨ρ,⟨R,.refl,hd⟩,hv⟩)
 |.tmp t::rs,v::vs,ρ,h,vals,R,hd,hv=>by
  cases hv with|cons q hv =>
  obtain⟨ρ',A,B⟩:=eC rs vs ρ h _ R hd hv;simp only[Qa]
  exact⟨ρ',A,.cons (q.keep A.keep) B⟩
 |.cell a n::rs,v::vs,ρ,h,vals,R,hd,hv=>by
  cases hv with|cons q hv =>
  obtain⟨ρ',A,B⟩:=eC rs vs ρ h _ R hd hv;simp only[Qa]
  exact⟨ρ',A,.cons (q.keep A.keep) B⟩
 |.tmpO t l::rs,v::vs,ρ,h,vals,R,hd,hv=>by
  cases hv with|cons q hv =>
  obtain⟨ρ1,A1,B1⟩:=yC l v ρ h _ R hd q;obtain⟨ρ',A,B⟩:=eC rs vs ρ1 _ _ A1.rel A1.dom (hv.keep A1.keep);simp only[Qa]
  exact⟨ρ',A1.trans A,.cons (B1.keep A.keep) B⟩
 |.cellO a n l::rs,v::vs,ρ,h,vals,R,hd,hv=>by
  cases hv with|cons q hv =>
  obtain⟨ρ1,A1,B1⟩:=yC l v ρ h _ R hd q;obtain⟨ρ',A,B⟩:=eC rs vs ρ1 _ _ A1.rel A1.dom (hv.keep A1.keep);simp only[Qa];exact⟨ρ',A1.trans A,.cons (B1.keep A.keep) B⟩
theorem ZHK(rs:List CG)(v:AV)(ρ:Map)(h:V3)(val:Value)(R:Rel N base ρ h w)(hd:∀b,h.length<=b->ρ b=none)(hv:RV ρ w (Free N ρ h) v val) :
  ∃ρ',Own N base ρ h w ρ' (Dn rs v h).2/\RV ρ' w (Free N ρ' (Dn rs v h).2) (Dn rs v h).1 val:=by
 unfold Dn;split
 .simp_all [yC]
 .simp_all [yC]
 .cases hv with|tup hv =>
  obtain⟨ρ',A,B⟩:=eC _ _ ρ h _ R hd hv;exact⟨ρ',A,.tup B⟩
 .exact⟨ρ,⟨R,.refl,hd⟩,hv⟩
def DP(P:Program)(Ad:Nat->Option Ab):Prop:=∀f m,Ad f=some m->∃fn ks inl,P.funcs[f]?=some fn/\JU P inl ks fn=some m/\K6 P f=true
theorem EY(hf:P.funcs[f]?=some fn)(hcl:K6 P f=true)(hc:JU P inl ks fn=some m)
  (hW:FW (XX P) m args h0 r hr):XX P f args h0 r hr:=by
 refine⟨hcl,?_⟩;intro N base w ρ vs hR hdom hv hz;have hb:=ZHG (N:=N) (base:=base) (ts:=[d9 ρ h0.length]) rfl hf hc hW.1 (s:={ env:=[],stk:=[QZ h0 0],h:=h0 }) hW.2 hR ⟨ZHH hR,trivial⟩ hdom hv hz;refine hb.mono ?_;rintro e w' ⟨val,v,s',ρ1,rfl,hK,hv',hR',hst,eD,hB,hkn,hfz⟩
 match hs:s'.stk,hst with
 |[e],hst =>
  obtain⟨ρ1',A,hv2⟩:=ZHK m.res v ρ1 s'.h val hR' eD hv';obtain⟨ρ2,h1,h2,h3,h4,h5,h6⟩:=ZHI (s:={ s' with h:=(Dn m.res v s'.h).2 }) A.rel hv2 A.dom hs (λt=>(hst.1 t).keep A.keep) hK;exact⟨val,ρ2,rfl,hB,h1,h2,h3,h4,hkn,λg hg hz'=>⟨h5 g (A.keep.free g (Fx hg hB.size) (hfz g hg hz').1).1,(hfz g hg hz').2⟩,h6⟩
end
inductive Fr where
 |seq (b:Za)
 |blk (id:Nat)
 |loop (keep:V4) (b:Za)
 |fin (k:Nat) (rs:List CG)
inductive Cf where
 |code (c:Za)
 |ops (os:List MO) (keep:V4)
 |opsF (os:List MO) (keep:V4)
 |drw (os:List MO) (AA:List AU) (before:List (V4)) (keep:V4)
 |out (x:X)
abbrev ZC:=Nat->XQ->V3->XP
def EZ(args:XQ)(nx:Nat):XP->Option (AV×List (Nat×AF))
 |some (r,hr)=>if(U4 args || Fz r hr)=true then some (shift nx r,Bk nx hr 0)else none
 |none=>none
def CL(C:ZC)(f:Nat)(args:XQ)(nx:Nat):Option (XQ)->Option (AV×List (Nat×AF))
 |some as=>EZ args nx (C f as [])
 |none=>none
def Du:XP->Option (AV×List (Nat×AF))
 |some (r,hr)=>match CQ hr r with
  |some d=>some (d,[])
  |none=>none
 |none=>none
def RP(C:ZC)(f:Nat)(args:XQ):Option (XQ)->Option (AV×List (Nat×AF))
 |some as=>if U4 args=true then Du (C f as [])else none
 |none=>none
def E0(ids:V4)(nx:Nat):XP->Option (AV×List (Nat×AF))
 |some (r,h1)=>some (ren (bk ids nx) r,XW ids nx h1 0)
 |none=>none
def K9(C:ZC)(f:Nat)(vs:XQ)(h:V3)(nx:Nat)(ids:V4):Option (AV×List (Nat×AF)) :=
 if UX h ids (Z5 vs)=true then E0 ids nx (C f (B5 ids vs) (A9 h ids))else none
open Classical in
noncomputable def Dv(ids:V4)(h0:V3)(nx:Nat):XP->Option (AV×List (Nat×AF))
 |some (r,h1)=>if h1.take ids.length=h0 then some (ren (bk ids nx) r,XW ids nx (h1.drop ids.length) ids.length)else none
 |none=>none
noncomputable def RQ(C:ZC)(f:Nat)(vs:XQ)(h:V3)(nx:Nat)(ids:V4):Option (AV×List (Nat×AF)) :=
 if UX h ids (Z5 vs)=true then Dv ids (A9 h ids) nx (C f (B5 ids vs) (A9 h ids))else none
def RR(C:ZC)(args:XQ)(h:V3)(nx:Nat):AV->Option (AV×List (Nat×AF))
 |.fn g caps=>K9 C g (args++caps) h nx (ZL h (args++caps))
 |_=>none
noncomputable def AB(C:ZC)(k:Bb)(s:S):Option (AV×List (Nat×AF)):=match k with
 |.call f args=>CL C f (args.map (ev s.env)) s.h.length (A8 s.h (args.map (ev s.env)))
 |.fcall f args=>RP C f (args.map (ev s.env)) (A8 s.h (args.map (ev s.env)))
 |.icall f args=>K9 C f (args.map (ev s.env)) s.h s.h.length (ZL s.h (args.map (ev s.env)))
 |.pcall f args=>RQ C f (args.map (ev s.env)) s.h s.h.length (ZL s.h (args.map (ev s.env)))
 |.dcall f args=>RR C (args.map (ev s.env)) s.h s.h.length (ev s.env f)
 |k=>Zz s.h s.h.length s.env k
def eE(o:MO)(s:S):Option (AV×List (Nat×AF))->Option S
 |some (v,u)=>some { s with env:=put o.dst v s.env,h:=upd s.h u }
 |none=>none
noncomputable def Cq(C:ZC)(o:MO)(s:S):Option S:=eE o s (AB C o.op s)
def C9(o:MO)(s:S):S:={ s with env:=put o.dst (.tup []) s.env }
noncomputable def eF(C:ZC)(o:MO)(s:S)(want:Bool):AV->Option S
 |.t (.bool b)=>if b=want then Cq C o s else some (C9 o s)
 |.tup []=>some (C9 o s)
 |_=>none
noncomputable def CB(C:ZC)(o:MO)(s:S):Option S:=match o.guard with
 |none=>Cq C o s
 |some (g,want)=>eF C o s want (lk g s.env)
def HQ(o:MO)(s:S):Option (AV×List (Nat×AF))->Option (AU×S)
 |some (v,u)=>some (VE o s (u.map Prod.fst),{ s with env:=put o.dst v s.env,h:=upd s.h u })
 |none=>none
noncomputable def A6(C:ZC)(o:MO)(s:S):Option (AU×S):=HQ o s (AB C o.op s)
noncomputable def eG(C:ZC)(o:MO)(s:S)(want:Bool):AV->Option (AU×S)
 |.t (.bool b)=>if b=want then A6 C o s else some (VE o s [],C9 o s)
 |.tup []=>some (VE o s [],C9 o s)
 |_=>none
noncomputable def Dw(C:ZC)(o:MO)(s:S):Option (AU×S):=match o.guard with
 |none=>A6 C o s
 |some (g,want)=>eG C o s want (lk g s.env)
def Dx(k:Nat)(rs:List CG)(s:S):XP:=match CH rs s with
 |some v=>xM rs k v s
 |none=>none
abbrev Step:=Sum (List Fr×Cf×S) (XP)
def CM(ks:List Fr)(os:List MO)(keep:V4):Option S->Step
 |some s=>.inl (ks,.ops os keep,s)
 |none=>.inr none
def RS(ks:List Fr)(os:List MO)(keep:V4):Option S->Step
 |some s=>.inl (ks,.opsF os keep,s)
 |none=>.inr none
def Wr(ks:List Fr)(os:List MO)(AA:List AU)(before:List (V4))(keep:V4):Option (AU×S)->Step
 |some (f,s)=>.inl (ks,.drw os (AA++[f]) before keep,s)
 |none=>.inr none
def Q1(ks:List Fr)(x y:Za)(s:S):AV->Step
 |.t (.bool b)=>if b=true then .inl (ks,.code x,s)else .inl (ks,.code y,s)
 |_=>.inr none
noncomputable def step(C:ZC):List Fr->Cf->S->Step
 |ks,.code .skip,s=>.inl (ks,.out .n,s)
 |ks,.code (.reg ops keep),s=>.inl (ks,.ops ops keep,s)
 |ks,.code (.regF ops keep),s=>.inl (ks,.opsF ops keep,s)
 |ks,.code (.drw ops b keep),s=>.inl (ks,.drw ops [] b keep,s)
 |ks,.code (.drwF ops b keep),s=>.inl (ks,.drw ops [] b keep,dA ops s)
 |ks,.code (.seq a b),s=>.inl (.seq b::ks,.code a,s)
 |ks,.code (.cond c x y),s=>Q1 ks x y s (ev s.env c)
 |ks,.code (.block id b),s=>.inl (.blk id::ks,.code b,s)
 |ks,.code (.loop keep b),s=>.inl (.loop keep b::ks,.code b,Qy keep s)
 |ks,.code (.exit id),s=>.inl (ks,.out (.x id),s)
 |ks,.code .ret,s=>.inl (ks,.out .r,s)
 |ks,.ops [] keep,s=>.inl (ks,.out .n,{ s with env:=rst keep s.env })
 |ks,.ops (o::os) keep,s=>CM ks os keep (CB C o s)
 |ks,.opsF [] keep,s=>.inl (ks,.out .n,{ s with env:=rst keep s.env })
 |ks,.opsF (o::os) keep,s=>RS ks os keep (CB C o (fzO o s))
 |ks,.drw [] AA before keep,s=>if JT before AA=true then .inl (ks,.out .n,{ s with env:=rst keep s.env })else .inr none
 |ks,.drw (o::os) AA before keep,s=>Wr ks os AA before keep (Dw C o s)
 |[],.out _,_=>.inr none
 |.fin _ _::_,.out (.x _),_=>.inr none
 |.fin k rs::_,.out .n,s=>.inr (Dx k rs s)
 |.fin k rs::_,.out .r,s=>.inr (Dx k rs s)
 |.seq b::ks,.out .n,s=>.inl (ks,.code b,s)
 |.seq _::ks,.out x,s=>.inl (ks,.out x,s)
 |.blk id::ks,.out (.x i),s=>if i=id then .inl (ks,.out .n,s)else .inl (ks,.out (.x i),s)
 |.blk _::ks,.out x,s=>.inl (ks,.out x,s)
 |.loop keep b::ks,.out .n,s=>.inl (ks,.code (.loop keep b),s)
 |.loop _ _::ks,.out x,s=>.inl (ks,.out x,s)
noncomputable def runN(C:ZC):Nat->List Fr->Cf->S->XP
 |0,_,_,_=>none
 |n+1,ks,cf,s=>match step C ks cf s with
  |.inl (ks',cf',s')=>runN C n ks' cf' s'
  |.inr r=>r
theorem yD{C:ZC}:∀(n:Nat) {m:Nat} {ks:List Fr} {cf:Cf} {s:S} {r:XR},runN C n ks cf s=some r->n<=m->runN C m ks cf s=some r
 |0,_,_,_,_,_,h,_=>by cases h
 |n+1,0,_,_,_,_,_,hm=>by omega
 |n+1,m+1,ks,cf,s,r,h,hm=>by
  simp only[runN]at h|-;split at h
  .rename_i h1;exact yD n h E
  .rename_i h1;exact h
variable{s:S}{r:XR}{p:Nat->XP}{n:Nat}
theorem E1{C:ZC}{m:Nat}{ks:List Fr}{cf:Cf}{r':XR}(h:runN C n ks cf s=some r)(h':runN C m ks cf s=some r'):r=r':=by
 grind [Nat.le_total,yD]
open Classical in
noncomputable def L0(p:XR->Prop):XP:=if h:∃r,p r then some h.choose else none
noncomputable def lim(p:Nat->XP):XP:=L0 λr=>∃n,p n=some r
theorem RT(h:lim p=some r):∃n,p n=some r:=by
 unfold lim L0 at h;split at h
 .grind
 .cases h
theorem E2(det:∀n m r r',p n=some r->p m=some r'->r=r')(h:p n=some r):lim p=some r:=by
 have hx:∃r,∃n,p n=some r:=⟨r,n,h⟩;unfold lim L0
 grind
theorem ZHL{q:Nat->XP}(h:∀r,(∃n,p n=some r)↔∃n,q n=some r):lim p=lim q:=by
 have:(λr=>∃n,p n=some r)=λr=>∃n,q n=some r:=funext λr=>propext (h r)
 unfold lim;rw[this]
noncomputable def D0(C:ZC)(ks:List Fr)(cf:Cf)(s:S):XP:=lim λn=>runN C n ks cf s
theorem Z5q{C:ZC}{ks:List Fr}{cf:Cf}(h:D0 C ks cf s=some r):∃n,runN C n ks cf s=some r:=RT h
theorem We{C:ZC}{ks ks':List Fr}{cf cf':Cf}{s':S}(h:step C ks cf s=.inl (ks',cf',s')):D0 C ks cf s=D0 C ks' cf' s':=by
 refine ZHL λr=>⟨?_,?_⟩
 .rintro⟨n,hn⟩
  cases n with
  |zero=>cases hn
  |succ n=>simp only[runN,h]at hn;exact⟨n,hn⟩
 .rintro⟨n,hn⟩;exact⟨n+1,by simp only[runN,h];exact hn⟩
theorem L1{C:ZC}{ks:List Fr}{cf:Cf}{r:XP}(h:step C ks cf s=.inr r):D0 C ks cf s=r:=by
 cases r with
 |some r=>exact E2 (λn m r r' h h'=>E1 h h') (n:=1) (by simp only[runN,h])
 |none =>
  cases hl:D0 C ks cf s with
  |none=>rfl
  |some r =>
   obtain⟨n,hn⟩:=Z5q hl
   cases n with
   |zero=>cases hn
   |succ n=>simp only[runN,h]at hn;cases hn
noncomputable def Ev(C:ZC)(ks:List Fr)(c:Za)(s:S):XP:=D0 C ks (.code c) s
noncomputable def B7(C:ZC)(ks:List Fr)(x:X)(s:S):XP:=D0 C ks (.out x) s
noncomputable def eH(C:ZC)(ks:List Fr)(os:List MO)(keep:V4)(s:S):XP:=D0 C ks (.ops os keep) s
noncomputable def E3(C:ZC)(ks:List Fr)(os:List MO)(keep:V4)(s:S):XP:=D0 C ks (.opsF os keep) s
noncomputable def RU(C:ZC)(ks:List Fr)(os:List MO)(AA:List AU)(before:List (V4))(keep:V4)(s:S):XP:=D0 C ks (.drw os AA before keep) s
noncomputable def EvL(C:ZC)(ks:List Fr)(keep:V4)(b:Za)(s:S):XP:=Ev C (.loop keep b::ks) b s
noncomputable def EvS(C:ZC)(ks:List Fr)(os:List MO)(keep:V4):Option S->XP
 |some s=>eH C ks os keep s
 |none=>none
noncomputable def eI(C:ZC)(ks:List Fr)(os:List MO)(keep:V4):Option S->XP
 |some s=>E3 C ks os keep s
 |none=>none
noncomputable def EvF(C:ZC)(ks:List Fr)(os:List MO)(AA:List AU)(before:List (V4))(keep:V4):Option (AU×S)->XP
 |some (f,s)=>RU C ks os (AA++[f]) before keep s
 |none=>none
noncomputable def EvC(C:ZC)(ks:List Fr)(x y:Za)(s:S):AV->XP
 |.t (.bool b)=>if b=true then Ev C ks x s else Ev C ks y s
 |_=>none
section
variable{C:ZC}{ks:List Fr}{s:S}{a b x y:Za}{os:List MO}{o:MO}{keep:V4}{id i:Nat}{AA:List AU}{before:List (V4)}{k:Nat}{rs:List CG}
theorem F7:Ev C ks .skip s=B7 C ks .n s:=We rfl
theorem L2:Ev C ks (.reg os keep) s=eH C ks os keep s:=We rfl
theorem F8:Ev C ks (.regF os keep) s=E3 C ks os keep s:=We rfl
theorem L3:Ev C ks (.drw os before keep) s=RU C ks os [] before keep s:=We rfl
theorem F9:Ev C ks (.drwF os before keep) s=RU C ks os [] before keep (dA os s):=We rfl
theorem L4:Ev C ks (.seq a b) s=Ev C (.seq b::ks) a s:=We rfl
theorem Ga{c:A4}:Ev C ks (.cond c x y) s=EvC C ks x y s (ev s.env c):=by
 unfold EvC;split
 .rename_i b hb;cases b
  .exact We (by simp[step,hb,Q1])
  .exact We (by simp[step,hb,Q1])
 .rename_i hb;refine L1 ?_;simp only[step];unfold Q1;simp
theorem E4:Ev C ks (.block id b) s=Ev C (.blk id::ks) b s:=We rfl
theorem Gb:Ev C ks (.loop keep b) s=Ev C (.loop keep b::ks) b (Qy keep s):=We rfl
theorem Zk{B c:Za}(hB:B=c):EvL C ks keep B s=Ev C (.loop keep B::ks) c s:=by subst hB;rfl
theorem Z5r:Ev C ks (.loop keep b) s=EvL C ks keep b (Qy keep s):=Gb
theorem E5:RU C ks [] AA before keep s=if JT before AA=true then B7 C ks .n { s with env:=rst keep s.env } else none:=by
 split
 .rename_i h;exact We (by simp[step,h])
 .rename_i h;exact L1 (by simp[step,h])
theorem Gc:Ev C ks (.exit id) s=B7 C ks (.x id) s:=We rfl
theorem L5:Ev C ks .ret s=B7 C ks .r s:=We rfl
theorem Gd:eH C ks [] keep s=B7 C ks .n { s with env:=rst keep s.env }:=We rfl
theorem E6:eH C ks (o::os) keep s=EvS C ks os keep (CB C o s):=by
 cases h:CB C o s with
 |some s'=>exact We (by simp[step,h,CM])
 |none =>
  show D0 C ks (.ops (o::os) keep) s=none;exact L1 (by simp[step,h,CM])
theorem E7:E3 C ks [] keep s=B7 C ks .n { s with env:=rst keep s.env }:=We rfl
theorem ZHM:E3 C ks (o::os) keep s=eI C ks os keep (CB C o (fzO o s)):=by
 cases h:CB C o (fzO o s)with
 |some s'=>exact We (by simp[step,h,RS])
 |none =>
  show D0 C ks (.opsF (o::os) keep) s=none;exact L1 (by simp[step,h,RS])
theorem ZHN:eI C ks os keep (some s)=E3 C ks os keep s:=rfl
theorem E8:EvS C ks os keep (some s)=eH C ks os keep s:=rfl
theorem E9:RU C ks (o::os) AA before keep s=EvF C ks os AA before keep (Dw C o s):=by
 cases h:Dw C o s with
 |some p=>obtain⟨f,s'⟩:=p;exact We (by simp[step,h,Wr])
 |none =>
  show D0 C ks (.drw (o::os) AA before keep) s=none;exact L1 (by simp[step,h,Wr])
theorem Fa{f:AU}:EvF C ks os AA before keep (some (f,s))=RU C ks os (AA++[f]) before keep s:=rfl
theorem Fb{v:Bool}:EvC C ks x y s (.t (.bool v))=if v=true then Ev C ks x s else Ev C ks y s:=rfl
theorem ZHO:B7 C (.fin k rs::ks) .n s=Dx k rs s:=L1 rfl
theorem ZHP:B7 C (.fin k rs::ks) .r s=Dx k rs s:=L1 rfl
theorem ZHQ:B7 C (.seq b::ks) .n s=Ev C ks b s:=We rfl
theorem ZHR:B7 C (.seq b::ks) (.x i) s=B7 C ks (.x i) s:=We rfl
theorem ZHS:B7 C (.seq b::ks) .r s=B7 C ks .r s:=We rfl
theorem ZHT:B7 C (.blk id::ks) .n s=B7 C ks .n s:=We rfl
theorem ZHU:B7 C (.blk id::ks) (.x i) s=if i=id then B7 C ks .n s else B7 C ks (.x i) s:=by
 split
 .rename_i h;exact We (by simp[step,h])
 .rename_i h;exact We (by simp[step,h])
theorem ZHV:B7 C (.blk id::ks) .r s=B7 C ks .r s:=We rfl
theorem ZHW:B7 C (.loop keep b::ks) .n s=Ev C ks (.loop keep b) s:=We rfl
theorem ZHX:B7 C (.loop keep b::ks) .n s=EvL C ks keep b (Qy keep s):=by rw[ZHW,Z5r]
theorem ZHY:B7 C (.loop keep b::ks) (.x i) s=B7 C ks (.x i) s:=We rfl
theorem ZHZ:B7 C (.loop keep b::ks) .r s=B7 C ks .r s:=We rfl
end
noncomputable def Wf(X:ZC)(Ad:Nat->Option Ab):Nat->ZC
 |0=>λ_ _ _=>none
 |n+1=>λf as h0=>match Ad f with
  |some m=>if as.length=m.np then runN (Wf X Ad n) n [.fin h0.length m.res] (.code m.body) ⟨K5 as 0,[QZ h0 0],h0⟩else none
  |none=>X f as h0
def Fc(C C':ZC):Prop:=∀f as h0 r,C f as h0=some r->C' f as h0=some r
theorem Z5s{C C':ZC}(h:Fc C C'){k:Bb}{s:S}{p:AV×List (Nat×AF)}(hr:AB C k s=some p):AB C' k s=some p:=by
 have m:∀f vs ids,K9 C f vs s.h s.h.length ids=some p->K9 C' f vs s.h s.h.length ids=some p:=by
  intro f vs ids hr;unfold K9 at hr|-;split at hr
  .rename_i hc;rw[Ya hc]
   cases hx:C f (B5 ids vs) (A9 s.h ids)with
   |none=>rw[hx]at hr;cases hr
   |some q=>rw[h _ _ _ _ hx];rw[hx]at hr;exact hr
  .cases hr
 cases k<;>first|exact hr|skip
 .rename_i f args;simp only[AB]at hr|-
  cases hf:A8 s.h (args.map (ev s.env))with
  |none=>rw[hf]at hr;cases hr
  |some as =>
   rw[hf]at hr;simp only[CL]at hr|-
   cases hx:C f as []with
   |none=>rw[hx]at hr;cases hr
   |some q=>rw[h _ _ _ _ hx];rw[hx]at hr;exact hr
 .rename_i f args;simp only[AB]at hr|-
  cases hf:A8 s.h (args.map (ev s.env))with
  |none=>rw[hf]at hr;cases hr
  |some as =>
   rw[hf]at hr;simp only[RP]at hr|-;split at hr
   .rename_i hno;rw[Ya hno]
    cases hx:C f as []with
    |none=>rw[hx]at hr;cases hr
    |some q=>rw[h _ _ _ _ hx];rw[hx]at hr;exact hr
   .cases hr
 .exact m _ _ _ hr
 .rename_i f args;simp only[AB,RQ]at hr|-;split at hr
  .rename_i hc;rw[Ya hc]
   cases hx:C f (B5 (ZL s.h (args.map (ev s.env))) (args.map (ev s.env))) (A9 s.h (ZL s.h (args.map (ev s.env))))with
   |none=>rw[hx]at hr;cases hr
   |some q=>rw[h _ _ _ _ hx];rw[hx]at hr;exact hr
  .cases hr
 .rename_i x args;simp only[AB]at hr|-;unfold RR at hr|-
  grind
theorem Z5t{C C':ZC}(h:Fc C C'){o:MO}{s s':S}(hr:Cq C o s=some s'):Cq C' o s=some s':=by
 unfold Cq at hr|-
 cases hx:AB C o.op s with
 |none=>rw[hx]at hr;cases hr
 |some p=>rw[Z5s h hx];rw[hx]at hr;exact hr
theorem Z5u{C C':ZC}(h:Fc C C'){o:MO}{s:S}{s':AU×S}(hr:A6 C o s=some s'):A6 C' o s=some s':=by
 unfold A6 at hr|-
 cases hx:AB C o.op s with
 |none=>rw[hx]at hr;cases hr
 |some p=>rw[Z5s h hx];rw[hx]at hr;exact hr
theorem Z5v{C C':ZC}(h:Fc C C'){o:MO}{s s':S}(hr:CB C o s=some s'):CB C' o s=some s':=by
 unfold CB at hr|-
 cases hg:o.guard with
 |none=>simp only[hg]at hr|-;exact Z5t h hr
 |some p =>
  obtain⟨g,want⟩:=p;simp only[hg]at hr|-;unfold eF at hr|-
  grind [Z5t]
theorem Fd{C C':ZC}(h:Fc C C'){o:MO}{s:S}{s':AU×S}(hr:Dw C o s=some s'):Dw C' o s=some s':=by
 unfold Dw at hr|-
 cases hg:o.guard with
 |none=>simp only[hg]at hr|-;exact Z5u h hr
 |some p =>
  obtain⟨g,want⟩:=p;simp only[hg]at hr|-;unfold eG at hr|-
  grind [Z5u]
theorem ZsD{C C':ZC}(h:Fc C C'){ks:List Fr}{cf:Cf}{s:S}:(∀c,step C ks cf s=.inl c->step C' ks cf s=.inl c)/\∀r,step C ks cf s=.inr (some r)->step C' ks cf s=.inr (some r):=by
 have key:(∃o os keep,cf=.ops (o::os) keep)\/(∃o os AA before keep,cf=.drw (o::os) AA before keep)\/(∃o os keep,cf=.opsF (o::os) keep)\/step C ks cf s=step C' ks cf s:=by
  cases cf with
  |code c=>cases c<;>exact .inr (.inr (.inr rfl))
  |ops os keep =>
   cases os with
   |nil=>exact .inr (.inr (.inr rfl))
   |cons o os=>exact .inl ⟨o,os,keep,rfl⟩
  |opsF os keep =>
   cases os with
   |nil=>exact .inr (.inr (.inr rfl))
   |cons o os=>exact .inr (.inr (.inl ⟨o,os,keep,rfl⟩))
  |drw os AA before keep =>
   cases os with
   |nil=>exact .inr (.inr (.inr rfl))
   |cons o os=>exact .inr (.inl ⟨o,os,AA,before,keep,rfl⟩)
  |out x =>
   refine .inr (.inr (.inr ?_))
   cases ks with
   |nil=>rfl
   |cons k ks=>cases k<;>cases x<;>rfl
 rcases key with⟨o,os,keep,rfl⟩|⟨o,os,AA,before,keep,rfl⟩|⟨o,os,keep,rfl⟩|he
 .simp only[step]
  cases hx:CB C o s with
  |none=>simp[CM]
  |some s'=>rw[Z5v h hx];exact⟨λ_ h=>h,λ_ h=>h⟩
 .simp only[step]
  cases hx:Dw C o s with
  |none=>simp[Wr]
  |some s'=>rw[Fd h hx];exact⟨λ_ h=>h,λ_ h=>h⟩
 .simp only[step]
  cases hx:CB C o (fzO o s)with
  |none=>simp[RS]
  |some s'=>rw[Z5v h hx];exact⟨λ_ h=>h,λ_ h=>h⟩
 .simp_all
theorem eJ{C C':ZC}(h:Fc C C'):∀(n:Nat) {ks:List Fr} {cf:Cf} {s:S} {r:XR},runN C n ks cf s=some r->runN C' n ks cf s=some r
 |0,_,_,_,_,hr=>by cases hr
 |n+1,ks,cf,s,r,hr=>by
  simp only[runN]at hr|-;split at hr
  .rename_i h1;rw[(ZsD h).1 _ h1];exact eJ h n hr
  .rename_i h1;subst hr;rw[(ZsD h).2 _ h1]
theorem Z5w{X:ZC}{Ad:Nat->Option Ab}:∀n,Fc (Wf X Ad n) (Wf X Ad (n+1))
 |0=>λ_ _ _ _ h=>by cases h
 |n+1=>λf as h0 r h=>by
  simp only[Wf]at h;rw[Wf]
  cases hm:Ad f with
  |none=>simp only[hm]at h|-;exact h
  |some m =>
   simp only[hm]at h|-;split at h
   .rename_i hl;rw[Ya hl];exact yD _ (eJ (Z5w n) n h) (Nat.le_succ n)
   .cases h
theorem eK{X:ZC}{Ad:Nat->Option Ab}{n m:Nat}(h:n<=m):Fc (Wf X Ad n) (Wf X Ad m):=by
 induction h with
 |refl=>exact λ_ _ _ _ h=>h
 |step _ ih=>exact λf as h0 r h=>Z5w _ f as h0 r (ih f as h0 r h)
theorem ZIa{X:ZC}{Ad:Nat->Option Ab}{f:Nat}{as:XQ}{h0:V3}(n m:Nat)(r r':XR)(h:Wf X Ad n f as h0=some r)(h':Wf X Ad m f as h0=some r'):r=r':=by
 have h1:=eK (Nat.le_max_left n m) f as h0 r h;have h2:=eK (Nat.le_max_right n m) f as h0 r' h'
 simp_all
noncomputable def WD(X:ZC)(Ad:Nat->Option Ab):ZC:=λf as h0=>lim λn=>Wf X Ad n f as h0
theorem ZsE{X:ZC}{Ad:Nat->Option Ab}(n:Nat):Fc (Wf X Ad n) (WD X Ad):=λ_ _ _ _ h=>E2 (λn m r r' h h'=>ZIa n m r r' h h') h
theorem yE{X:ZC}{Ad:Nat->Option Ab}{f:Nat}{as:XQ}{h0:V3}(ht:Ad f=none){r:XR}(h:X f as h0=some r):WD X Ad f as h0=some r:=ZsE 1 f as h0 r (by simp only[Wf,ht];exact h)
theorem Z5x{X:ZC}{Ad:Nat->Option Ab}{k:Bb}{s:S}{p:AV×List (Nat×AF)}(hr:AB (WD X Ad) k s=some p):∃n,AB (Wf X Ad n) k s=some p:=by
 have m:∀p f vs ids,K9 (WD X Ad) f vs s.h s.h.length ids=some p->∃n,K9 (Wf X Ad n) f vs s.h s.h.length ids=some p:=by
  intro p f vs ids hr;unfold K9 at hr|-;split at hr
  .rename_i hc
   cases hx:WD X Ad f (B5 ids vs) (A9 s.h ids)with
   |none=>rw[hx]at hr;cases hr
   |some q =>
    obtain⟨n,hn⟩:=RT hx
    grind
  .cases hr
 cases k<;>first|exact⟨0,hr⟩|skip
 .rename_i f args;simp only[AB]at hr|-
  cases hf:A8 s.h (args.map (ev s.env))with
  |none=>rw[hf]at hr;cases hr
  |some as =>
   rw[hf]at hr;simp only[CL]at hr|-
   cases hx:WD X Ad f as []with
   |none=>rw[hx]at hr;cases hr
   |some q =>
    obtain⟨n,hn⟩:=RT hx
    grind
 .rename_i f args;simp only[AB]at hr|-
  cases hf:A8 s.h (args.map (ev s.env))with
  |none=>rw[hf]at hr;cases hr
  |some as =>
   rw[hf]at hr;simp only[RP]at hr|-;split at hr
   .rename_i hno;simp only[Ya hno]
    cases hx:WD X Ad f as []with
    |none=>rw[hx]at hr;cases hr
    |some q =>
     obtain⟨n,hn⟩:=RT hx
     grind
   .cases hr
 .exact m _ _ _ _ hr
 .rename_i f args;simp only[AB,RQ]at hr|-;split at hr
  .rename_i hc
   cases hx:WD X Ad f (B5 (ZL s.h (args.map (ev s.env))) (args.map (ev s.env))) (A9 s.h (ZL s.h (args.map (ev s.env))))with
   |none=>rw[hx]at hr;cases hr
   |some q =>
    obtain⟨n,hn⟩:=RT hx
    grind
  .cases hr
 .rename_i x args;simp only[AB]at hr|-;unfold RR at hr|-;split at hr
  .exact m _ _ _ _ hr
  .cases hr
theorem Z5y{X:ZC}{Ad:Nat->Option Ab}{o:MO}{s s':S}(hr:Cq (WD X Ad) o s=some s'):∃n,Cq (Wf X Ad n) o s=some s':=by
 unfold Cq at hr|-
 cases hx:AB (WD X Ad) o.op s with
 |none=>rw[hx]at hr;cases hr
 |some p =>
  grind [Z5x]
theorem Z5z{X:ZC}{Ad:Nat->Option Ab}{o:MO}{s:S}{s':AU×S}(hr:A6 (WD X Ad) o s=some s'):∃n,A6 (Wf X Ad n) o s=some s':=by
 unfold A6 at hr|-
 cases hx:AB (WD X Ad) o.op s with
 |none=>rw[hx]at hr;cases hr
 |some p =>
  grind [Z5x]
theorem Z50{X:ZC}{Ad:Nat->Option Ab}{o:MO}{s s':S}(hr:CB (WD X Ad) o s=some s'):∃n,CB (Wf X Ad n) o s=some s':=by
 unfold CB at hr|-
 cases hg:o.guard with
 |none=>simp only[hg]at hr|-;exact Z5y hr
 |some p =>
  obtain⟨g,want⟩:=p;simp only[hg]at hr|-;unfold eF at hr|-;split at hr
  .split at hr
   .simp_all [Z5y]
   .simp_all
  .exact⟨0,hr⟩
  .cases hr
theorem Ge{X:ZC}{Ad:Nat->Option Ab}{o:MO}{s:S}{s':AU×S}(hr:Dw (WD X Ad) o s=some s'):∃n,Dw (Wf X Ad n) o s=some s':=by
 unfold Dw at hr|-
 cases hg:o.guard with
 |none=>simp only[hg]at hr|-;exact Z5z hr
 |some p =>
  obtain⟨g,want⟩:=p;simp only[hg]at hr|-;unfold eG at hr|-;split at hr
  .split at hr
   .simp_all [Z5z]
   .simp_all
  .exact⟨0,hr⟩
  .cases hr
theorem Z51{X:ZC}{Ad:Nat->Option Ab}{ks:List Fr}{cf:Cf}{s:S}{c:Step}(hc:c≠.inr none)(h:step (WD X Ad) ks cf s=c):∃n,step (Wf X Ad n) ks cf s=c:=by
 have key:(∃o os keep,cf=.ops (o::os) keep)\/(∃o os AA before keep,cf=.drw (o::os) AA before keep)\/(∃o os keep,cf=.opsF (o::os) keep)\/step (Wf X Ad 0) ks cf s=step (WD X Ad) ks cf s:=by
  cases cf with
  |code c=>cases c<;>exact .inr (.inr (.inr rfl))
  |ops os keep =>
   cases os with
   |nil=>exact .inr (.inr (.inr rfl))
   |cons o os=>exact .inl ⟨o,os,keep,rfl⟩
  |opsF os keep =>
   cases os with
   |nil=>exact .inr (.inr (.inr rfl))
   |cons o os=>exact .inr (.inr (.inl ⟨o,os,keep,rfl⟩))
  |drw os AA before keep =>
   cases os with
   |nil=>exact .inr (.inr (.inr rfl))
   |cons o os=>exact .inr (.inl ⟨o,os,AA,before,keep,rfl⟩)
  |out x =>
   refine .inr (.inr (.inr ?_))
   cases ks with
   |nil=>rfl
   |cons k ks=>cases k<;>cases x<;>rfl
 rcases key with⟨o,os,keep,rfl⟩|⟨o,os,AA,before,keep,rfl⟩|⟨o,os,keep,rfl⟩|he
 .simp only[step]at h|-
  cases hx:CB (WD X Ad) o s with
  |none=>rw[hx]at h;exact absurd h.symm hc
  |some s' =>
   grind [Z50]
 .simp only[step]at h|-
  cases hx:Dw (WD X Ad) o s with
  |none=>rw[hx]at h;exact absurd h.symm hc
  |some s' =>
   grind [Ge]
 .simp only[step]at h|-
  cases hx:CB (WD X Ad) o (fzO o s)with
  |none=>rw[hx]at h;exact absurd h.symm hc
  |some s' =>
   grind [Z50]
 .grind
theorem Z52{X:ZC}{Ad:Nat->Option Ab}:∀(n:Nat) {ks:List Fr} {cf:Cf} {s:S} {r:XR},runN (WD X Ad) n ks cf s=some r->∃k,runN (Wf X Ad k) n ks cf s=some r
 |0,_,_,_,_,h=>by cases h
 |n+1,ks,cf,s,r,h=>by
  simp only[runN]at h;split at h
  .rename_i ks' cf' s' h1;obtain⟨k,hk⟩:=Z51 (by intro hc;cases hc) h1;obtain⟨k2,hk2⟩:=Z52 n h;refine⟨max k k2,?_⟩;simp only[runN];rw[(ZsD (eK (Nat.le_max_left k k2))).1 _ hk];exact eJ (eK (Nat.le_max_right k k2)) n hk2
  .rename_i h1;subst h;obtain⟨k,hk⟩:=Z51 (by intro hc;cases hc) h1;exact⟨k,by simp only[runN,hk]⟩
theorem Z53{X:ZC}{Ad:Nat->Option Ab}{f:Nat}{as:XQ}{h0:V3}{m:Ab}(ht:Ad f=some m)(hl:as.length=m.np){r:XR}(h:Ev (WD X Ad) [.fin h0.length m.res] m.body ⟨K5 as 0,[QZ h0 0],h0⟩=some r):WD X Ad f as h0=some r:=by
 obtain⟨n,hn⟩:=Z5q h;obtain⟨k,hk⟩:=Z52 n hn;refine ZsE (max n k+1) f as h0 r ?_;simp only[Wf,ht,hl,if_true];exact yD n (eJ (eK (Nat.le_max_right n k)) n hk) (Nat.le_max_left n k)
theorem ZIb{p:Nat->Prop}(h:∃n,p n):∃n,p n/\∀m,p m->n<=m:=by
 obtain⟨n,hn⟩:=h
 induction n using Nat.strongRecOn with
 |ind n ih =>
  grind
section
variable{Γ:Df}{C:ZC}{s s':S}{o:MO}{K K':S->Prop}{f nx:Nat}{h:V3}{v:AV}{u:List (Nat×AF)}{args vs:XQ}{r:XR}
def Qf(C:ZC)(r:XR)(m:Nat)(ks:List Fr):X->S->Prop:=λx s=>∃k,k<m/\runN C k ks (.out x) s=some r
theorem Z54(hK:∀s,K s->K' s)(h:BJ Γ o s K):BJ Γ o s K':=by
 unfold BJ at h|-;split at h
 .grind
 .grind
 .obtain⟨h1,r,h2,h3,h4⟩:=h;exact⟨h1,r,h2,h3,hK _ h4⟩
 .obtain⟨h1,r,h2,h3,h4⟩:=h;exact⟨h1,r,h2,h3,hK _ h4⟩
 .split at h
  .obtain⟨h1,r,h2,h3,h4⟩:=h;exact⟨h1,r,h2,h3,hK _ h4⟩
  .exact h.elim
 .grind
theorem Z55(hK:∀s,K s->K' s)(h:Ex Γ o s K):Ex Γ o s K':=by
 unfold Ex at h|-;split at h
 .exact Z54 hK h
 .grind [Z54]
theorem yF:∀(os:List MO) {s:S} {K K':S->Prop},(∀s,K s->K' s)->Cz Γ os s K->Cz Γ os s K'
 |[],_,_,_,hK,h=>hK _ h
 |_::os,_,_,_,hK,h=>Z55 (λ_ h'=>yF os hK h') h
theorem yG:∀(os:List MO) {s:S} {K K':S->Prop},(∀s,K s->K' s)->Jk Γ os s K->Jk Γ os s K'
 |[],_,_,_,hK,h=>hK _ h
 |_::os,_,_,_,hK,h=>Z55 (λ_ h'=>yG os hK h') h
theorem Z56{K K':AU->S->Prop}(hK:∀f s,K f s->K' f s)(h:UZ Γ o s K):UZ Γ o s K':=by
 unfold UZ at h|-;split at h
 .grind
 .grind
 .obtain⟨h1,r,h2,h3,h4⟩:=h;exact⟨h1,r,h2,h3,hK _ _ h4⟩
 .obtain⟨h1,r,h2,h3,h4⟩:=h;exact⟨h1,r,h2,h3,hK _ _ h4⟩
 .split at h
  .obtain⟨h1,r,h2,h3,h4⟩:=h;exact⟨h1,r,h2,h3,hK _ _ h4⟩
  .exact h.elim
 .grind
theorem ZIc{K K':AU->S->Prop}(hK:∀f s,K f s->K' f s)(h:C6 Γ o s K):C6 Γ o s K':=by
 unfold C6 at h|-;split at h
 .exact Z56 hK h
 .grind [Z56]
theorem RW:∀(os:List MO) {s:S} {AA:List AU} {K K':List AU->S->Prop},(∀f s,K f s->K' f s)->C7 Γ os s AA K->C7 Γ os s AA K'
 |[],_,_,_,_,hK,h=>hK _ _ h
 |_::os,_,_,_,_,hK,h=>ZIc (λ_ _ h'=>RW os hK h') h
theorem Q2:∀(c:Za) {s:S} {Q Q':X->S->Prop},(∀x s,Q x s->Q' x s)->Wc Γ c Q s->Wc Γ c Q' s
 |.skip,_,_,_,hQ,h=>hQ _ _ h
 |.reg os _,_,_,_,hQ,h=>yF os (λ_ h'=>hQ _ _ h') h
 |.regF os _,_,_,_,hQ,h=>yG os (λ_ h'=>hQ _ _ h') h
 |.drw os _ _,_,_,_,hQ,h=>RW os (λ_ _ h'=>⟨h'.1,hQ _ _ h'.2⟩) h
 |.drwF os _ _,_,_,_,hQ,h=>RW os (λ_ _ h'=>⟨h'.1,hQ _ _ h'.2⟩) h
 |.seq a b,_,_,_,hQ,h=>Q2 a (λx s' h'=>by cases x with|n=>exact Q2 b hQ h'|x i=>exact hQ _ _ h'|r=>exact hQ _ _ h') h
 |.cond c x y,s,_,_,hQ,h=>by
  unfold Wc at h|-;split at h
  .split at h
   .rename_i hb;simp only[hb,if_true];exact Q2 x hQ h
   .rename_i hb;simp only[hb];exact Q2 y hQ h
  .exact h.elim
 |.block id b,_,_,_,hQ,h=>Q2 b (λx s' h'=>by
   cases x with
   |n=>exact hQ _ _ h'
   |x i=>simp only at h'|-;split at h'<;>rename_i hi<;>simp only[hi,if_true,if_false]<;>exact hQ _ _ h'
   |r=>exact hQ _ _ h') h
 |.loop keep b,_,_,_,hQ,h=>by
  obtain⟨I,μ,h0,hr⟩:=h;refine⟨I,μ,h0,λs hs=>Q2 b (λx s' h'=>?_) (hr s hs)⟩
  cases x with
  |n=>exact h'
  |x i=>exact hQ _ _ h'
  |r=>exact hQ _ _ h'
 |.exit _,_,_,_,hQ,h=>hQ _ _ h
 |.ret,_,_,_,hQ,h=>hQ _ _ h
theorem Z57(hC:∀f as h0 r hr,C f as h0=some (r,hr)->Γ f as h0 r hr)(hr:CL C f args nx (A8 h args)=some (v,u)) :
  ∃as,A8 h args=some as/\∃r hr,Γ f as [] r hr/\(U4 args || Fz r hr)=true/\v=shift nx r/\u=Bk nx hr 0:=by
 cases hf:A8 h args with
 |none=>rw[hf]at hr;cases hr
 |some as =>
  rw[hf]at hr;simp only[CL]at hr
  cases hc:C f as []with
  |none=>rw[hc]at hr;cases hr
  |some p =>
   obtain⟨r,hr'⟩:=p;rw[hc]at hr;simp only[EZ]at hr
   grind
theorem yH(hC:∀f as h0 r hr,C f as h0=some (r,hr)->Γ f as h0 r hr)(hr:K9 C f vs h nx (ZL h vs)=some (v,u)){K:AV->List (Nat×AF)->Prop}(hK:K v u):UY Γ f vs h nx K:=by
 unfold K9 at hr;split at hr
 .rename_i hc
  cases hx:C f (B5 (ZL h vs) vs) (A9 h (ZL h vs))with
  |none=>rw[hx]at hr;cases hr
  |some p =>
   obtain⟨r,h1⟩:=p;rw[hx]at hr;cases hr;exact⟨hc,r,h1,hC _ _ _ _ _ hx,hK⟩
 .cases hr
theorem Z58(hC:∀f as h0 r hr,C f as h0=some (r,hr)->Γ f as h0 r hr)(hr:RQ C f vs h nx (ZL h vs)=some (v,u)){K:AV->List (Nat×AF)->Prop}(hK:K v u):Jj Γ f vs h nx K:=by
 unfold RQ at hr;split at hr
 .rename_i hc
  cases hx:C f (B5 (ZL h vs) vs) (A9 h (ZL h vs))with
  |none=>rw[hx]at hr;cases hr
  |some p =>
   obtain⟨r,h1⟩:=p;rw[hx]at hr;simp only[Dv]at hr;split at hr
   .rename_i ht;cases hr;refine⟨hc,r,h1.drop (ZL h vs).length,?_,hK⟩
    grind [List.take_append_drop]
   .cases hr
 .cases hr
theorem Z59(hC:∀f as h0 r hr,C f as h0=some (r,hr)->Γ f as h0 r hr)(hr:RP C f args (A8 h args)=some (v,u)) :
  ∃as,A8 h args=some as/\U4 args=true/\∃r hr,Γ f as [] r hr/\CQ hr r=some v/\u=[]:=by
 cases hf:A8 h args with
 |none=>rw[hf]at hr;cases hr
 |some as =>
  rw[hf]at hr;simp only[RP]at hr;split at hr
  .rename_i hno
   cases hc:C f as []with
   |none=>rw[hc]at hr;cases hr
   |some p =>
    obtain⟨r,hr'⟩:=p;rw[hc]at hr;simp only[Du]at hr
    grind
  .cases hr
theorem Z5A(hC:∀f as h0 r hr,C f as h0=some (r,hr)->Γ f as h0 r hr)(h:Cq C o s=some s')(hK:K s'):BJ Γ o s K:=by
 unfold Cq at h
 cases hv:AB C o.op s with
 |none=>rw[hv]at h;cases h
 |some p =>
  obtain⟨v,u⟩:=p;rw[hv]at h;cases h;unfold BJ;cases ho:o.op<;>simp only[ho,AB]at hv|-<;>try (rw[hv];exact hK)
  .obtain⟨as,h1,r,hr,h2,h3,rfl,rfl⟩:=Z57 hC hv
   grind
  .obtain⟨as,h1,hno,r,hr,h2,h3,rfl⟩:=Z59 hC hv
   grind
  .exact yH hC hv hK
  .exact Z58 hC hv hK
  .unfold RR at hv
   grind [yH]
theorem Z5B(hC:∀f as h0 r hr,C f as h0=some (r,hr)->Γ f as h0 r hr)(h:CB C o s=some s')(hK:K s'):Ex Γ o s K:=by
 unfold CB at h;unfold Ex
 cases hg:o.guard with
 |none=>simp only[hg]at h|-;exact Z5A hC h hK
 |some p =>
  obtain⟨g,want⟩:=p;simp only[hg]at h|-;unfold eF at h;split at h
  .rename_i b hb;rw[hb];simp only;split at h
   .grind [Z5A]
   .rename_i hb;rw[Yb hb];cases h;exact hK
  .rename_i hb;rw[hb];cases h;exact hK
  .cases h
theorem Z5C(hC:∀f as h0 r hr,C f as h0=some (r,hr)->Γ f as h0 r hr){f:AU}(h:A6 C o s=some (f,s')){K:AU->S->Prop}(hK:K f s'):UZ Γ o s K:=by
 unfold A6 at h
 cases hv:AB C o.op s with
 |none=>rw[hv]at h;cases h
 |some p =>
  obtain⟨v,u⟩:=p;rw[hv]at h;cases h;unfold UZ;cases ho:o.op<;>simp only[ho,AB]at hv|-<;>try (rw[hv];exact hK)
  .obtain⟨as,h1,r,hr,h2,h3,rfl,rfl⟩:=Z57 hC hv
   grind
  .obtain⟨as,h1,hno,r,hr,h2,h3,rfl⟩:=Z59 hC hv
   grind
  .exact yH hC hv hK
  .exact Z58 hC hv hK
  .unfold RR at hv
   grind [yH]
theorem Fe(hC:∀f as h0 r hr,C f as h0=some (r,hr)->Γ f as h0 r hr){f:AU}(h:Dw C o s=some (f,s')){K:AU->S->Prop}(hK:K f s'):C6 Γ o s K:=by
 unfold Dw at h;unfold C6
 cases hg:o.guard with
 |none=>simp only[hg]at h|-;exact Z5C hC h hK
 |some p =>
  obtain⟨g,want⟩:=p;simp only[hg]at h|-;unfold eG at h;split at h
  .rename_i b hb;rw[hb];simp only;split at h
   .grind [Z5C]
   .rename_i hb;rw[Yb hb];cases h;exact hK
  .rename_i hb;rw[hb];cases h;exact hK
  .cases h
theorem Z5D(hC:∀f as h0 r hr,C f as h0=some (r,hr)->Γ f as h0 r hr){r:XR}{keep:V4}{ks:List Fr}:∀(os:List MO) (m:Nat) (s:S),runN C m ks (.ops os keep) s=some r->
  Cz Γ os s λs'=>Qf C r m ks .n { s' with env:=rst keep s'.env }
 |_,0,_,h=>by cases h
 |[],m+1,s,h=>⟨m,Fu m,h⟩
 |o::os,m+1,s,h=>by
  simp only[runN,step]at h
  cases ho:CB C o s with
  |none=>simp only[ho,CM]at h;cases h
  |some s' =>
   simp only[ho,CM]at h;exact Z5B hC ho (yF os (λs ⟨k,h1,h2⟩=>⟨k,E,h2⟩) (Z5D hC os m s' h))
theorem Z5E(hC:∀f as h0 r hr,C f as h0=some (r,hr)->Γ f as h0 r hr){r:XR}{keep:V4}{ks:List Fr}:∀(os:List MO) (m:Nat) (s:S),runN C m ks (.opsF os keep) s=some r->
  Jk Γ os s λs'=>Qf C r m ks .n { s' with env:=rst keep s'.env }
 |_,0,_,h=>by cases h
 |[],m+1,s,h=>⟨m,Fu m,h⟩
 |o::os,m+1,s,h=>by
  simp only[runN,step]at h
  cases ho:CB C o (fzO o s)with
  |none=>simp only[ho,RS]at h;cases h
  |some s' =>
   simp only[ho,RS]at h;exact Z5B hC ho (yG os (λs ⟨k,h1,h2⟩=>⟨k,E,h2⟩) (Z5E hC os m s' h))
theorem ZsF(hC:∀f as h0 r hr,C f as h0=some (r,hr)->Γ f as h0 r hr){r:XR}{before:List (V4)}{keep:V4}{ks:List Fr}:∀(os:List MO) (AA:List AU) (m:Nat) (s:S),runN C m ks (.drw os AA before keep) s=some r->
  C7 Γ os s AA λAA s'=>JT before AA=true/\Qf C r m ks .n { s' with env:=rst keep s'.env }
 |_,_,0,_,h=>by cases h
 |[],AA,m+1,s,h=>by
  simp only[runN,step]at h;split at h
  .rename_i h1;split at h1
   .rename_i ho;cases h1;exact⟨ho,m,Fu m,h⟩
   .cases h1
  .grind
 |o::os,AA,m+1,s,h=>by
  simp only[runN,step]at h
  cases ho:Dw C o s with
  |none=>simp only[ho,Wr]at h;cases h
  |some p =>
   obtain⟨f,s'⟩:=p;simp only[ho,Wr]at h;exact Fe hC ho (RW os (λ_ s ⟨h0,k,h1,h2⟩=>⟨h0,k,E,h2⟩) (ZsF hC os _ m s' h))
theorem RX{m:Nat}{ks:List Fr}{cf:Cf}(h:runN C m ks cf s=some r):∃k,m=k+1:=by
 cases m with
 |zero=>cases h
 |succ k=>exact⟨k,rfl⟩
open Classical in
theorem L6(hC:∀f as h0 r hr,C f as h0=some (r,hr)->Γ f as h0 r hr)(m:Nat):∀(c:Za) (ks:List Fr) (s:S),runN C m ks (.code c) s=some r->Wc Γ c (Qf C r m ks) s:=by
 induction m using Nat.strongRecOn with
 |ind m ih =>
  intro c ks s h;obtain⟨m,rfl⟩:=RX h
  cases c with
  |skip=>exact⟨m,Fu m,h⟩
  |reg os keep=>exact yF os (λs ⟨k,h1,h2⟩=>⟨k,E,h2⟩) (Z5D hC os m s h)
  |regF os keep=>exact yG os (λs ⟨k,h1,h2⟩=>⟨k,E,h2⟩) (Z5E hC os m s h)
  |drw os before keep=>exact RW os (λ_ s ⟨h0,k,h1,h2⟩=>⟨h0,k,E,h2⟩) (ZsF hC os [] m s h)
  |drwF os before keep=>exact RW os (λ_ s ⟨h0,k,h1,h2⟩=>⟨h0,k,E,h2⟩) (ZsF hC os [] m (dA os s) h)
  |seq a b =>
   refine Q2 a (λx s' hq=>?_) (ih m (Fu m) a (.seq b::ks) s h);obtain⟨k,hk,h2⟩:=hq;obtain⟨k,rfl⟩:=RX h2
   cases x with
   |n=>exact Q2 b (λx s ⟨j,h3,h4⟩=>⟨j,E,h4⟩) (ih k E b ks s' h2)
   |x i=>exact⟨k,E,h2⟩
   |r=>exact⟨k,E,h2⟩
  |cond c x y =>
   simp only[runN,step]at h;unfold Wc;unfold Q1 at h
   cases hv:ev s.env c with
   |t v =>
    simp only[hv]at h
    cases v with
    |bool b =>
     simp only at h|-;cases b
     .exact Q2 y (λx s ⟨j,h3,h4⟩=>⟨j,E,h4⟩) (ih m (Fu m) y ks s h)
     .exact Q2 x (λx s ⟨j,h3,h4⟩=>⟨j,E,h4⟩) (ih m (Fu m) x ks s h)
    |_=>cases h
   |_=>simp only[hv]at h;cases h
  |block id b =>
   refine Q2 b (λx s' hq=>?_) (ih m (Fu m) b (.blk id::ks) s h);obtain⟨k,hk,h2⟩:=hq;obtain⟨k,rfl⟩:=RX h2
   cases x with
   |n=>exact⟨k,E,h2⟩
   |x i =>
    simp only[runN,step]at h2;simp only;by_cases hi:i=id
    .simp only[hi,if_true]at h2|-;exact⟨k,E,h2⟩
    .simp only[hi,if_false]at h2|-
     exact⟨k,E,h2⟩
   |r=>exact⟨k,E,h2⟩
  |loop keep b =>
   let p:S->Nat->Prop:=λt k=>k<=m/\runN C k (.loop keep b::ks) (.code b) t=some r
   let μ:S->Nat:=λt=>if hx:∃k,p t k then(ZIb hx).choose else 0
   have hμ:∀t,(∃k,p t k)->p t (μ t)/\∀k,p t k->μ t<=k:=by
    intro t hx
    grind
   refine⟨λt=>∃k,p t k,μ,⟨m,Yi m,h⟩,?_⟩;intro t ht;obtain⟨⟨h1,h2⟩,h3⟩:=hμ t ht;refine Q2 b (λx s' hq=>?_) (ih (μ t) E b _ t h2);obtain⟨k,hk,h4⟩:=hq;obtain⟨k,rfl⟩:=RX h4
   cases x with
   |n =>
    have h5:runN C k ks (.code (.loop keep b)) s'=some r:=h4;obtain⟨k,rfl⟩:=RX h5;have h6:p (Qy keep s') k:=⟨E,h5⟩
    grind
   |x i=>exact⟨k,E,h4⟩
   |r=>exact⟨k,E,h4⟩
  |exit id=>exact⟨m,Fu m,h⟩
  |ret=>exact⟨m,Fu m,h⟩
end
theorem Z5F{P:Program}{X:ZC}{Ad:Nat->Option Ab}(hT:DP P Ad)(hX:∀f as h0 r hr,X f as h0=some (r,hr)->XX P f as h0 r hr):∀(n f:Nat) (as:XQ) (h0:V3) (r:AV) (hr:V3),Wf X Ad n f as h0=some (r,hr)->XX P f as h0 r hr
 |0,_,_,_,_,_,h=>by cases h
 |n+1,f,as,h0,r,hr,h=>by
  simp only[Wf]at h
  cases hm:Ad f with
  |none=>simp only[hm]at h;exact hX f as h0 r hr h
  |some m =>
   simp only[hm]at h;split at h
   .rename_i hl;obtain⟨fn,ks,inl,h1,h2,h3⟩:=hT f m hm;have hW:=L6 (Γ:=XX P) (Z5F hT hX n) n m.body _ _ h;refine EY h1 h3 h2 ⟨hl,?_⟩;refine Q2 m.body (λx s hq=>?_) hW;obtain⟨k,hk,h4⟩:=hq;obtain⟨k,rfl⟩:=RX h4;have fin:Dx h0.length m.res s=some (r,hr)->∀x,(∀i,x≠.x i)->Cn m.res (λv s=>xM m.res h0.length v s=some (r,hr)) x s:=by
     intro hf x hx;unfold Dx at hf
     cases x with
     |x i=>exact absurd rfl (hx i)
     |n =>
      simp only[Cn]
      grind
     |r =>
      simp only[Cn]
      grind
    cases x with
    |n=>exact fin h4 _ (λi hc=>by cases hc)
    |r=>exact fin h4 _ (λi hc=>by cases hc)
    |x i=>simp only[runN,step]at h4;cases h4
   .cases h
theorem ZId{P:Program}{X:ZC}{Ad:Nat->Option Ab}(hT:DP P Ad)(hX:∀f as h0 r hr,X f as h0=some (r,hr)->XX P f as h0 r hr){f:Nat}{as:XQ}{h0:V3}{r:AV}{hr:V3}(h:WD X Ad f as h0=some (r,hr)):XX P f as h0 r hr:=by
 obtain⟨n,hn⟩:=RT h
 grind [Z5F]
def ins(x:Nat):V4->V4
 |[]=>[x]
 |y::ys=>if x<y then x::y::ys else if x=y then y::ys else y::ins x ys
def union(a b:V4):V4:=b.foldl (λacc x=>ins x acc) a
def HT:Operand->V4
 |.tmp t=>[t]
 |_=>[]
def L7(o:Op):V4:=o.operands.toList.flatMap HT
def eN(ops:List Oper)(out:V4):V4 :=
 ops.reverse.foldl (λlive o=>union (match o.dst with|some d=>live.filter (· != d)|none=>live) (L7 o.op)) out
def Gf(ops:Array Oper):V4:=ops.toList.flatMap λo=>match o.guard with
 |some (j,_)=>(match ops[j]? with|some p=>p.dst.toList|none=>[])
 |none=>[]
def eO(f:V4->V4×List (V4)):Nat->V4->V4×List (V4)
 |0,L=>(L,L::(f L).2)
 |n+1,L=>match f L with
  |(l,k)=>if l.all (L.contains ·)then(L,L::k)else eO f n (union L l)
def live(ret:V4)(Cr:List (Nat×V4)):Code->V4->V4×List (V4)
 |.region _ ops _,out =>
  let defs:=ops.toList.flatMap λo=>o.dst.toList
  (union (eN ops.toList out) ((Gf ops).filter (λg=>!defs.contains g)),[out])
 |.seq a b,out=>match live ret Cr b out with
  |(lb,kb)=>match live ret Cr a lb with
   |(la,ka)=>(la,ka++kb)
 |.cond c a b,out=>match live ret Cr a out,live ret Cr b out with
  |(la,ka),(lb,kb)=>(union (union la lb) (HT c),ka++kb)
 |.block id b,out=>live ret ((id,out)::Cr) b out
 |.loop b,_=>eO (live ret Cr b) 12 []
 |.exit id,_=>((Cr.lookup id).getD [],[])
 |.ret,_=>(ret,[])
 |_,out=>(out,[])
def yI(fn:Func):List (V4):=match fn.body with
 |some c =>
  let rs:=fn.results.toList.foldl (λacc r=>ins (match r with|.tmp t=>t|.cell a _=>a) acc) []
  (live rs [] c rs).2
 |none=>[]
def DQ(inl:V4)(f:Nat):V4:=(if inl.contains (f+10000000)then[9999994]else[])++(if inl.contains (f+11000000)then[9999993]else[])++(if inl.contains (f+12000000)then[9999992]else[])++(if inl.contains (f+9000000)then[9999995]else[])++(if inl.contains (f+8000000)then[9999996]else[])++(if inl.contains (f+6000000)then[9999997]else[])++(if inl.contains (f+5000000)then[9999998]else[])++(if inl.contains (f+4000000)then 9999999::inl else inl)
def Da(P:Program)(inl:V4)(f:Nat):Option Ab:=match P.funcs[f]? with
 |some fn=>if K6 P f=true then JU P (DQ inl f) (yI fn) fn else none
 |none=>none
theorem eQ(P:Program)(inl:V4):DP P (Da P inl):=by
 intro f m h;unfold Da at h
 grind
theorem Ff{P:Program}{inl:V4}{f:Nat}{fn:Func}{m:Ab}(hf:P.funcs[f]?=some fn)(hc:K6 P f=true)(h:JU P (DQ inl f) (yI fn) fn=some m):Da P inl f=some m:=by
 unfold Da
 simp_all
def fill{α:Type}(f:α->V6)(z:V6)(xs:List α)(i:Nat):WA:=(xs.take i).map f++List.replicate (xs.length-i) z
section
variable{α:Type}{f:α->V6}{z:V6}{xs:List α}{i:Nat}
theorem Fg(h:i<xs.length):(fill f z xs i)[i]?=some z:=by
 unfold fill
 grind
@[simp] theorem yJ(h:i<(fill f z xs i).length):(fill f z xs i)[i]=z:=by
 have h1:i<xs.length:=by
  unfold fill at h;simp at h;omega
 have h2:=Fg (f:=f) (z:=z) h1
 simp_all
end
theorem ZF{n:Int}(h1:-9223372036854775808<=n)(h2:n<=9223372036854775807):IntKind.wrap .i64 n=n:=by
 simp only[IntKind.wrap,IntKind.signed,IntKind.bits,Yk]
 grind
attribute [simp] Cl cY F9 dA DM C4 F8 E7 ZHM ZHN fzO c8 Cm C5 c9 fzVs fzS Dl LH C3 xJ LI F7 L2 L3 L4 Ga E4 Gc L5 Gd E6 E8 E5 E9 Fa Fb ZHO ZHP ZHQ ZHR ZHS ZHT ZHU ZHV
 ZHX Z5r ZHY ZHZ
attribute [simp]   RP Du CQ DW         CB Cq AB eE eF C9 CL EZ E0 K9 Dv RQ RR Dw A6 HQ eG Dx ZL A9 B5 bk XW QZ Xf HD CH U5 JS Zz ev lk put upd stB cellsOf setCells BX FN BN kill U2 RJ   VD VP Ew parts elems Ji HC Qv
 Qw bnd BU Qx BE JR DL A8 ren rens Bj refs Z5 Vs rst scrub LG X2 idx K4 Dk UX Qy shift Bk QX U3 cZ Fz U4 xL xM Dn Qa CR Dm U6 Qz  K5 Xq flat VE FO Jl Z8 xK
@[simp] theorem Aah(xs:V6):wk [] xs=xs:=by unfold wk;rfl
@[simp] theorem yK(cs:V6):wk cs []=[]:=by cases cs<;>(unfold wk;rfl)
@[simp] theorem yL(c x:T)(cs xs:V6):wk (c::cs) (x::xs)=Ea c x::wk cs xs:=by conv=>lhs;unfold wk
@[simp] theorem yM(k:IntKind)(n:Int)(c:T):Ea c (.int k n)=.int k n:=by cases c<;>rfl
@[simp] theorem eR(b:Bool)(c:T):Ea c (.bool b)=.bool b:=by cases c<;>rfl
@[simp] theorem yN(b:KI)(c:T):Ea c (.str b)=.str b:=by cases c<;>rfl
@[simp] theorem yO(s:Nat)(es:WA)(c:T):Ea c (.lst s es)=.lst s es:=by cases c<;>rfl
@[simp] theorem yP(s:Nat)(es:WA):Ea (.lst s es) .nil=.lst s []:=rfl
@[simp] theorem yQ(xs:V6):Cj [] xs=xs.map .t:=by cases xs<;>rfl
@[simp] theorem AbO(c x:T)(cs:XQ)(xs:V6):Cj (.t c::cs) (x::xs)=.t (Ea c x)::Cj cs xs:=by conv=>lhs;unfold Cj
@[simp] theorem yR(b:Nat)(x:T)(cs:XQ)(xs:V6):Cj (.own b::cs) (x::xs)=.t x::Cj cs xs:=by conv=>lhs;unfold Cj
@[simp] theorem eS(cs:XQ):Cj cs []=[]:=by cases cs with|nil=>rfl|cons c cs=>cases c<;>rfl
def Az(a b:Int):Int:=IntKind.wrap .i64 ((BitVec.ofInt 64 a ||| BitVec.ofInt 64 b).toNat)
def Ai(a b:Int):Int:=IntKind.wrap .i64 ((BitVec.ofInt 64 a &&& BitVec.ofInt 64 b).toNat)
def Gg(a b:Int):Int:=IntKind.wrap .i64 ((BitVec.ofInt 64 a ^^^ BitVec.ofInt 64 b).toNat)
def Z6(a b:Int):Int:=IntKind.wrap .i64 ((BitVec.ofInt 64 a &&& ~~~ BitVec.ofInt 64 b).toNat)
def Ac(a b:Int):Int:=IntKind.wrap .i64 (a*2 ^ (min b.toNat 64))
def As(a b:Int):Int:=a.fdiv (2 ^ (min b.toNat 64))
@[simp] theorem Aai(a b:Int):AK .or (.int .i64 a) (.int .i64 b)=some (.int .i64 (Az a b)):=by unfold AK;exact Ya rfl
@[simp] theorem yS(a b:Int):AK .and (.int .i64 a) (.int .i64 b)=some (.int .i64 (Ai a b)):=by unfold AK;exact Ya rfl
@[simp] theorem yT(a b:Int):AK .xor (.int .i64 a) (.int .i64 b)=some (.int .i64 (Gg a b)):=by unfold AK;exact Ya rfl
@[simp] theorem L8(a b:Int):AK .andNot (.int .i64 a) (.int .i64 b)=some (.int .i64 (Z6 a b)):=by unfold AK;exact Ya rfl
@[simp] theorem yU(a b:Int)(k:IntKind):AK .shl (.int .i64 a) (.int k b)=if b<0 then none else some (.int .i64 (Ac a b)):=by simp[AK,Ac,IntKind.bits]
@[simp] theorem yV(a b:Int)(k:IntKind):AK .shr (.int .i64 a) (.int k b)=if b<0 then none else some (.int .i64 (As a b)):=by simp[AK,As,IntKind.bits]
@[simp] theorem yW(k:IntKind)(a b:Int):AK .add (.int k a) (.int k b)=some (.int k (k.wrap (a+b))):=by simp[AK]
@[simp] theorem yX(k:IntKind)(a b:Int):AK .sub (.int k a) (.int k b)=some (.int k (k.wrap (a-b))):=by simp[AK]
@[simp] theorem yY(k:IntKind)(a b:Int):AK .mul (.int k a) (.int k b)=some (.int k (k.wrap (a*b))):=by simp[AK]
@[simp] theorem yZ(k:IntKind)(a b:Int):AK .quo (.int k a) (.int k b)=if b=0 then none else some (.int k (k.wrap (a.tdiv b))):=by simp[AK]
@[simp] theorem y6(k:IntKind)(a b:Int):AK .rem (.int k a) (.int k b)=if b=0 then none else some (.int k (a.tmod b)):=by simp[AK]
@[simp] theorem y7(k:IntKind)(a b:Int):AK .eql (.int k a) (.int k b)=some (.bool (a == b)):=by simp[AK]
@[simp] theorem y8(k:IntKind)(a b:Int):AK .neq (.int k a) (.int k b)=some (.bool (a != b)):=by simp[AK]
@[simp] theorem y9(k:IntKind)(a b:Int):AK .lss (.int k a) (.int k b)=some (.bool (a<b)):=by simp[AK]
@[simp] theorem zA(k:IntKind)(a b:Int):AK .leq (.int k a) (.int k b)=some (.bool (a<=b)):=by simp[AK]
@[simp] theorem zB(k:IntKind)(a b:Int):AK .gtr (.int k a) (.int k b)=some (.bool (a > b)):=by simp[AK]
@[simp] theorem zC(k:IntKind)(a b:Int):AK .geq (.int k a) (.int k b)=some (.bool (a>=b)):=by simp[AK]
@[simp] theorem eT(a b:KI):AK .add (.str a) (.str b)=if a.size+b.size<=9223372036854775807 then some (.str (a++b))else none:=rfl
@[simp] theorem eU(a b:KI):AK .eql (.str a) (.str b)=some (.bool (a.toList == b.toList)):=rfl
@[simp] theorem eW(a b:KI):AK .neq (.str a) (.str b)=some (.bool (!(a.toList == b.toList))):=rfl
@[simp] theorem eX(a b:KI):AK .lss (.str a) (.str b)=some (.bool (Op.bytesLess a.toList b.toList)):=rfl
@[simp] theorem eY(a b:KI):AK .leq (.str a) (.str b)=some (.bool (Op.bytesLess a.toList b.toList || a.toList == b.toList)):=rfl
@[simp] theorem eZ(a b:KI):AK .gtr (.str a) (.str b)=some (.bool (!(Op.bytesLess a.toList b.toList || a.toList == b.toList))):=rfl
@[simp] theorem e9(a b:KI):AK .geq (.str a) (.str b)=some (.bool (!Op.bytesLess a.toList b.toList)):=rfl
@[simp] theorem zD(x:AF)(h:V3):gt (x::h) 0=x:=rfl
@[simp] theorem zE(x:AF)(h:V3)(n:Nat):gt (x::h) (n+1)=gt h n:=rfl
@[simp] theorem ZsG(a b:KI):a.toList=b.toList↔a=b:=by
 grind [ByteArray.toList_eq,ByteArray.ext,Array.toList_inj]
@[simp] theorem zF(a b:Int):(a == b)=decide (a=b):=by
 grind
@[simp] theorem zG(a b:Int):(a != b)=!decide (a=b):=by
 grind
@[simp] theorem zH(a b:KI):(a.toList == b.toList)=decide (a=b):=by
 grind [ZsG]
@[simp] theorem rn0(h:V3)(e:Env):(List.range 0).map (Xf h e)=[]:=rfl
@[simp] theorem rn1(h:V3)(e:Env):(List.range 1).map (Xf h e)=[Xf h e 0]:=rfl
@[simp] theorem rn2(h:V3)(e:Env):(List.range 2).map (Xf h e)=[Xf h e 0,Xf h e 1]:=rfl
@[simp] theorem rn3(h:V3)(e:Env):(List.range 3).map (Xf h e)=[Xf h e 0,Xf h e 1,Xf h e 2]:=rfl
@[simp] theorem rn4(h:V3)(e:Env):(List.range 4).map (Xf h e)=[Xf h e 0,Xf h e 1,Xf h e 2,Xf h e 3]:=rfl
@[simp] theorem rn6(h:V3)(e:Env):(List.range 6).map (Xf h e)=[Xf h e 0,Xf h e 1,Xf h e 2,Xf h e 3,Xf h e 4,Xf h e 5]:=rfl
@[simp] theorem rn5(h:V3)(e:Env):(List.range 5).map (Xf h e)=[Xf h e 0,Xf h e 1,Xf h e 2,Xf h e 3,Xf h e 4]:=rfl
theorem down{Q:Nat->Prop}(n:Nat)(h0:Q n)(hs:∀i,i<n->Q (i+1)->Q i):∀i,i<=n->Q i:=by
 intro i hi;obtain⟨k,rfl⟩:∃k,n=i+k:=⟨n-i,E⟩
 induction k generalizing i with
 |zero=>exact h0
 |succ k ih=>exact hs i E (ih (i+1) (by rw[show i+1+k=i+(k+1) by omega];exact h0) (by intro j hj;exact hs j E) E)
abbrev I(n:Int):AV:=.t (.int .i64 n)
abbrev Bo(b:Bool):AV:=.t (.bool b)
abbrev L(sz:Nat)(es:WA):AV:=.t (.lst sz es)
open Go.RowKit (Below)
open Go.ChangeShapes Go.WideShapes Go.ChangeAt Go.RowKit
inductive B8 where
 |int (k:IntKind)
 |bool
 |str
 |slice (cs:List B8)
def zI(rec:TypeId->Option (List B8))(P:Program):List Field->Nat->Option (List B8)
 |[],_=>some []
 |f::fs,o=>if f.offset=o then(match rec f.type with
  |some cs=>if cs.length=P.cellsOf f.type then(match zI rec P fs (o+cs.length)with
   |some ds=>some (cs++ds)
   |none=>none)else none
  |none=>none)else none
def U9(P:Program):Nat->TypeId->Option (List B8)
 |0,_=>none
 |n+1,t=>match P.underlying t with
  |some .bool=>some [.bool]
  |some (.int k)=>some [.int k]
  |some .string=>some [.str]
  |some (.slice e)=>match U9 P n e with
   |some cs=>if cs.length=P.cellsOf e/\0<cs.length then some [.slice cs]else none
   |none=>none
  |some (.struct fs)=>match zI (U9 P n) P fs.toList 0 with
   |some cs=>if cs.length=P.cellsOf t then some cs else none
   |none=>none
  |_=>none
mutual
inductive HU:B8->T->Prop
 |int {k:IntKind} {n:Int} (h:(Lit.int k n).wf=true):HU (.int k) (.int k n)
 |bool (b:Bool):HU .bool (.bool b)
 |str {s:KI} (h:s.size<=maxLen):HU .str (.str s)
 |slice {cs:List B8} {es:WA} (hl:es.length<=maxLen) (h:JW cs es):HU (.slice cs) (.lst cs.length es)
inductive WQ:List B8->V6->Prop
 |nil:WQ [] []
 |cons {c:B8} {t:T} {cs:List B8} {ts:V6} (h:HU c t) (hs:WQ cs ts):WQ (c::cs) (t::ts)
inductive JW:List B8->WA->Prop
 |nil (cs:List B8):JW cs []
 |cons {cs:List B8} {e:V6} {es:WA} (h:WQ cs e) (hs:JW cs es):JW cs (e::es)
end
variable{ts:V6}
theorem WQ.append{cs ds:List B8}{us:V6}(h:WQ cs ts)(h':WQ ds us):WQ (cs++ds) (ts++us):=by
 induction cs generalizing ts with
 |nil=>cases h;exact h'
 |cons c cs ih=>cases h with|cons h hs=>exact .cons h (ih hs)
theorem WQ.len{cs:List B8}(h:WQ cs ts):ts.length=cs.length:=by
 induction cs generalizing ts with
 |nil=>cases h;rfl
 |cons c cs ih=>cases h with|cons h hs=>simp[ih hs]
theorem JW.snoc{cs:List B8}{es:WA}{e:V6}(h:JW cs es)(h':WQ cs e):JW cs (es++[e]):=by
 induction es with
 |nil=>exact .cons h' (.nil _)
 |cons x es ih=>cases h with|cons h hs=>exact .cons h (ih hs)
section
variable{H:Type}{enc:TypeId×Value->H}{P:Program}{w:World}{sp:Nat->Bool}{held:Bool}{n:Nat}
theorem Z5G{α:Type}{f:Nat->Option α}{xs:List α}(h:(List.range n).mapM f=some xs):xs.length=n/\∀i,i<n->∃x,xs[i]?=some x/\f i=some x:=by
 have key:∀(l:V4) (xs:List α),l.mapM f=some xs->xs.length=l.length/\∀(i:Nat) (a:Nat),l[i]?=some a->∃x,xs[i]?=some x/\f a=some x:=by
  intro l
  induction l with
  |nil=>intro xs h;simp at h;subst h;exact⟨rfl,Z⟩
  |cons a l ih =>
   intro xs h;simp only[List.mapM_cons,Option.bind_eq_bind,Ydj,Option.pure_def,C0]at h
   grind
 obtain⟨h1,h2⟩:=key _ xs h;refine⟨by simpa using h1,λi hi=>h2 i i (by simp[hi])⟩
theorem Z5H{a:Addr}{cs:V5}(h:w.cells? 0 a n=some cs)(hn:0<n):∃g off c e fz,a=⟨g,off,none⟩/\w.heap[g]?=some (.cells c e fz)/\(c.toList.drop off).take n=cs/\cs.length=n:=by
 unfold World.cells? at h;simp only[Yc,if_true]at h;obtain⟨h1,h2⟩:=Z5G h;obtain⟨x,_,h4⟩:=h2 0 hn;have ha0:a.add 0=a:=by simp[Addr.add]
 rw[ha0]at h4;have h5:=h4;unfold World.cell? at h5;split at h5
 .rename_i c e fz hb;split at h5
  .cases h5
  .rename_i hs;obtain⟨g,off,spot⟩:=a
   have:spot=none:=by simpa using hs
   subst this;refine⟨g,off,c,e,fz,rfl,hb,?_,h1⟩;apply List.ext_getElem?;intro i;rw[RG];by_cases hi:i<n
   .rw[Ya hi];obtain⟨y,h6,h7⟩:=h2 i hi;rw[Jo,cell_of_row w g (off+i) c e fz hb]at h7;rw[h6,<-h7];simp
   .grind
 .cases h5
theorem ZIe:∀(fuel:Nat) (t:TypeId) (cs:V5) (d:DataW H) (ps:List MemPlace),DataW.trod enc P w 0 sp held fuel t cs=some (d,ps)->∀(n:Nat) (sh:List B8),U9 P n t=some sh->∃ts fp,AS w ts cs fp/\WQ sh ts:=by
 intro fuel
 induction fuel with
 |zero=>intro t cs d ps h;simp[DataW.trod]at h
 |succ fuel ih =>
  intro t cs d ps h n sh hsh
  cases n with
  |zero=>simp[U9]at hsh
  |succ n =>
   cases hu:P.underlying t with
   |none=>simp[U9,hu]at hsh
   |some dd =>
    cases dd<;>try (simp[U9,hu]at hsh;done)
    case bool =>
     simp[U9,hu]at hsh;subst hsh;simp only[DataW.trod,hu]at h;split at h<;>try (simp_all;done)
     rename_i b _;exact⟨[.bool b],[],.cons (.bool b) .nil,.cons (.bool b) .nil⟩
    case int k =>
     simp[U9,hu]at hsh;subst hsh;simp only[DataW.trod,hu]at h;split at h<;>try (simp_all;done)
     rename_i k1 k2 m heq;cases heq;split at h
     .rename_i hc;obtain⟨rfl,hwf⟩:=hc;exact⟨[.int _ m],[],.cons (.int _ m) .nil,.cons (.int hwf) .nil⟩
     .cases h
    case string =>
     simp[U9,hu]at hsh;subst hsh;simp only[DataW.trod,hu]at h;split at h<;>try (simp_all;done)
     rename_i s heq;split at h
     .rename_i hc;exact⟨[.str s],[],.cons (.str s) .nil,.cons (.str hc) .nil⟩
     .cases h
    case slice e =>
     simp only[U9,hu]at hsh;split at hsh
     .rename_i ecs AbU;split at hsh
      .rename_i hcond;cases hsh;simp only[DataW.trod,hu]at h;split at h<;>try (simp_all;done)
       .exact⟨[.lst ecs.length []],[],.cons (.lst0 _ _ _) .nil,.cons (.slice Z (.nil _)) .nil⟩
       .rename_i e' a len cap heq;cases heq;split at h
        .rename_i hb;simp only[Ydj]at h;obtain⟨elems,hel,_⟩:=h;obtain⟨hlen,hget⟩:=Z5G hel
         -- every element reads
         by_cases hl0:len=0
         .subst hl0;exact⟨[.lst ecs.length []],[],.cons (.lst0 _ _ _) .nil,.cons (.slice Z (.nil _)) .nil⟩
         .have hsz:0<P.cellsOf e:=by omega
          have helem:∀i,i<len->∃vs ts fp,w.cells? 0 (a.add (i*P.cellsOf e)) (P.cellsOf e)=some vs/\AS w ts vs fp/\WQ ecs ts:=by
           grind [Option.bind_eq_some_iff]
          obtain⟨vs0,ts0,fp0,h3,_,_⟩:=helem 0 E;rw[Nat.zero_mul]at h3;have ha0:a.add 0=a:=by simp[Addr.add]
          rw[ha0]at h3;obtain⟨g,off,c,te,fz,rfl,hg,_,_⟩:=Z5H h3 hsz;have build:∀m,m<=len->∃es fp,es.length=m/\JW ecs es/\(∀x∈es,x.length=P.cellsOf e)/\AS w es.flatten ((c.toList.drop off).take (m*P.cellsOf e)) fp:=by
           intro m
           induction m with
           |zero=>intro _;exact⟨[],[],rfl,.nil _,Z,by simpa using AS.nil⟩
           |succ m ihm =>
            intro hm;obtain⟨es,fp,h5,h6,h7,h8⟩:=ihm E;obtain⟨vs,ts,fq,h9,h10,h11⟩:=helem m E;rw[Jo]at h9;obtain⟨g',off',c',te',fz',he,hg',hseg,hvl⟩:=Z5H h9 hsz;cases he;rw[hg]at hg';cases hg';refine⟨es++[ts],fp++fq,by simp[h5],?_,?_,?_⟩
            .exact h6.snoc h11
            .intro x hx;rcases Yp.1 hx with hx|hx
             .exact h7 x hx
             .simp at hx;subst hx;rw[h11.len];exact hcond.1
            .rw[LB];simp only[C1,List.flatten_nil,CX];have e1:(c.toList.drop off).take ((m+1)*P.cellsOf e)=(c.toList.drop off).take (m*P.cellsOf e)++vs:=by
              simp_all [Fq,RD,List.take_add,Ly]
             rw[e1];exact h8.append h10
          obtain⟨es,fp,h5,h6,h7,h8⟩:=build len (Yi _);subst h5;refine⟨[.lst ecs.length es],(g::fp)++[],.cons ?_ .nil,.cons (.slice E h6) .nil⟩;rw[hcond.1];exact .lst (by intro hc;subst hc;simp at hl0) hsz hb.2.1 hg h7 h8
        .cases h
      .cases hsh
     .cases hsh
    case struct fs =>
     simp only[U9,hu]at hsh;split at hsh
     .rename_i L9 AbV;split at hsh
      .rename_i hcl;cases hsh;simp only[DataW.trod,hu]at h;split at h
       .rename_i hlen;simp only[Yr]at h;obtain⟨xs,hxs,_⟩:=h;have key:∀(l:List Field) (o:Nat) (L9:List B8) (xs:List (DataW H×List MemPlace)),zI (U9 P n) P l o=some L9->o+L9.length<=cs.length->
          l.mapM (λf=>DataW.trod enc P w 0 sp held fuel f.type ((cs.drop f.offset).take (P.cellsOf f.type)))=some xs->∃ts fp,AS w ts ((cs.drop o).take L9.length) fp/\WQ L9 ts:=by
         intro l
         induction l with
         |nil =>
          intro o L9 xs h1 _ _;cases h1
          exact⟨[],[],by simpa using AS.nil,.nil⟩
         |cons f l ihl =>
          intro o L9 xs h1 h2 h3;simp only[zI]at h1;split at h1
          .rename_i ho;split at h1
           .rename_i c1 hc1;split at h1
            .rename_i hl1;split at h1
             .rename_i c2 hc2;cases h1;simp only[List.mapM_cons,Option.bind_eq_bind,Ydj,Option.pure_def,C0]at h3;obtain⟨x,hx,ys,hys,rfl⟩:=h3;rw[Yo]at h2;obtain⟨t1,f1,q1,q2⟩:=ih f.type _ x.1 x.2 hx n c1 hc1;obtain⟨t2,f2,q3,q4⟩:=ihl (o+c1.length) c2 ys hc2 E hys;refine⟨t1++t2,f1++f2,?_,q2.append q4⟩;rw[ho,<-hl1]at q1;have e1:(cs.drop o).take (c1++c2).length=(cs.drop o).take c1.length++(cs.drop (o+c1.length)).take c2.length:=by
               rw[Yo,List.take_add,Ly]
              rw[e1];exact q1.append q3
             .cases h1
            .cases h1
           .cases h1
          .cases h1
        grind
       .cases h
      .cases hsh
     .cases hsh
end
open Go.RowKit (Below)
open Go.ChangeShapes Go.WideShapes Go.ChangeAt Go.RowKit
def HV:Bool×List B8->AV->Prop
 |(true,shs),a=>∃xs,a=.agg (xs.map .t)/\WQ shs xs
 |(false,shs),a=>∃x,a=.t x/\WQ shs [x]
def Dy:List (Bool×List B8)->XQ->Prop
 |[],as=>as=[]
 |p::ps,as=>∃a as',as=a::as'/\HV p a/\Dy ps as'
def Fh(P:Program)(t:TypeId):Option (Bool×List B8):=match U9 P 16 t with
 |some cs=>match P.underlying t with
  |some (.struct _)=>some (true,cs)
  |some (.array _ _)=>none
  |some _=>some (false,cs)
  |none=>none
 |none=>none
def zJ(P:Program):List TypeId->Option (List (Bool×List B8))
 |[]=>some []
 |t::ts=>match Fh P t with
  |some p=>match zJ P ts with
   |some ps=>some (p::ps)
   |none=>none
  |none=>none
def Dz(P:Program)(ts:List TypeId):Bool:=ts.all λt=>P.readableRec t && decide (t<P.types.size)
section
variable{H:Type}{enc:TypeId×Value->H}{P:Program}{w:World}{sp:Nat->Bool}{held:Bool}
theorem AS.rvs{ts:V6}{vs:V5}{fp:V4}(h:AS w ts vs fp):AH VF w (λ_=>True) (ts.map .t) vs:=by
 induction ts generalizing vs fp with
 |nil=>cases h;exact .nil
 |cons t ts ih=>cases h with|cons h hs=>exact .cons (.t h λ_ _=>trivial) (ih hs)
theorem Gh{t:TypeId}{v:Value}{d:DataW H}{ps:List MemPlace}{base:Nat}(h:DataW.Trod enc P w 0 sp held t v d ps)(hok:Value.okWide P w .any base t v){p:Bool×List B8}(hp:Fh P t=some p) :
  ∃a,RV VF w (λ_=>True) a v/\HV p a:=by
 obtain⟨fuel,h⟩:=h;unfold Fh at hp;split at hp
 .rename_i cs hcs;obtain⟨ts,fp,h1,h2⟩:=ZIe fuel t _ d ps h 16 cs hcs;split at hp
  .rename_i fs hu;cases hp;obtain⟨c,rfl,_⟩:=okWide_struct hu hok;refine⟨.agg (ts.map .t),.agg h1.rvs h1.one,ts,rfl,h2⟩
  .cases hp
  .rename_i dd hns hna hu;cases hp;have hone:cs.length=1:=by
    unfold U9 at hcs
    grind
   match ts,h2,h1 with
   |[],h2,h1=>have:=h2.len;simp at this;omega
   |[x],h2,h1 =>
    have hv:v.cells.toList=[v]:=by
     unfold U9 at hcs;rw[hu]at hcs;cases dd<;>simp at hcs
     .obtain⟨_,rfl⟩:=okWide_bool hu hok;rfl
     .obtain⟨_,rfl⟩:=okWide_int hu hok;rfl
     .obtain⟨_,rfl⟩:=okWide_string hu hok;rfl
     .obtain⟨_,_,_,rfl⟩:=okWide_slice hu hok;rfl
     .simp_all
    rw[hv]at h1
    cases h1 with|cons h hs =>
    exact⟨.t x,.t h λ_ _=>trivial,x,rfl,h2⟩
   |_::_::_,h2,h1=>have:=h2.len;simp at this;omega
  .cases hp
 .cases hp
theorem Z5I{base:Nat}:∀(ts:List TypeId) (vs:V5) (ds:List (DataW H)) (ps:List MemPlace),DataW.TrodAll enc P w 0 sp held ts vs ds ps->
  (∀(j:Nat) t v,ts[j]?=some t->vs[j]?=some v->Value.okWide P w .any base t v)->∀l,zJ P ts=some l->∃as,AH VF w (λ_=>True) as vs/\Dy l as
 |[],[],[],_,_,_,l,hl=>by cases hl;exact⟨[],.nil,rfl⟩
 |t::ts,v::vs,d::ds,_,⟨p,q,h1,h2,_⟩,hok,l,hl=>by
  unfold zJ at hl;split at hl
  .rename_i p1 hp1;split at hl
   .rename_i ps1 hps1;cases hl;obtain⟨a,ha,hpa⟩:=Gh h1 (hok 0 t v rfl rfl) hp1;obtain⟨as,has,Aaj⟩:=Z5I ts vs ds q h2 (λj t v h h'=>hok (j+1) t v (by simpa using h) (by simpa using h')) ps1 hps1;exact⟨a::as,.cons ha has,a,as,rfl,hpa,Aaj⟩
   .cases hl
  .cases hl
theorem Z5J(hl:laidOutB P=true){W W':World}(hb:Below W.heap.size W W'):∀(ts:List TypeId) (vs:V5) (ds:List (DataW H)) (ps:List MemPlace),Dz P ts=true->DataW.TrodAll enc P W 0 (λ_=>true) true ts vs ds ps->
  (∀x∈ps,x.block<W.heap.size)->DataW.TrodAll enc P W' 0 (λb=>decide (b<W.heap.size)) true ts vs ds ps
 |[],[],[],_,_,h,_=>h
 |t::ts,v::vs,d::ds,_,hr,⟨p,q,h1,h2,e⟩,hlt=>by
  subst e;simp only[Dz,Y6,Yf,decide_eq_true_eq]at hr;exact⟨p,q,Below.trod hl hr.1.1 hr.1.2 h1 hb (λx hx=>hlt x (LD _ hx)),Z5J hl hb ts vs ds q hr.2 h2 (λx hx=>hlt x (LE _ hx)),rfl⟩
theorem Z5K:∀(ts:List TypeId) (vs:V5) (ds:List (DataW H)) (ps:List MemPlace),DataW.TrodAll enc P w 0 sp held ts vs ds ps->ds.length=ts.length
 |[],[],[],_,_=>rfl
 |_::ts,_::vs,_::ds,_,⟨_,q,_,h2,_⟩=>by simp[Z5K ts vs ds q h2]
theorem ZGX(hl:laidOutB P=true){f:Nat}{fn:Func}{s:ChangeSpec}{tb:TypeId}{l:List (Bool×List B8)}(hrd:Dz P fn.params.toList=true)(hsh:zJ P fn.params.toList=some l)
  (hres:fn.resultTypes=#[tb]) (htb:P.underlying tb=some .bool) (hvars:s.vars=[])
  (hfn:∀(H:Type) (ds:List (DataW H)),ds.length=fn.params.toList.length->(s.fn H ds).results=[.lit (.bool true)]/\(s.fn H ds).args=ds/\(s.fn H ds).vars=[])
  (hS:∀as,Dy l as->∃hr,XX P f as [] (.t (.bool true)) hr)
  (W:World) (base:Nat) (args:Array Value) (ds gs:List (DataW H)) (before:List MemPlace)
  (hval:∀(j:Nat) t v,fn.params[j]?=some t->args[j]?=some v->Value.okWide P W .any base t v)
  (hW:DataW.Whole enc P fn.params.toList s.vars false W args.toList ds gs before) :
  Calls P f args W λe W'=>∃v,e=.returned v/\s.post enc P fn false true false false W args v W':=by
 have hW':=hW;obtain⟨p,q,hA,hV,rfl,hfz,hnd⟩:=hW;have hV0:=hV;rw[hvars]at hV;obtain⟨rfl,rfl⟩:gs=[]/\q=[]:=by
  cases gs with
  |nil=>exact⟨rfl,hV⟩
  |cons _ _=>exact hV.elim
 obtain⟨as,hRV,hP⟩:=Z5I fn.params.toList args.toList ds p hA (λj t v h h'=>hval j t v (by simpa using h) (by simpa using h')) l hsh;obtain⟨hr,hC⟩:=hS as hP;refine(hC.data W (λ_=>True) args hRV).mono λe W' ⟨v,ρ,he,hB,_,hv,_⟩=>?_
 subst he;obtain⟨h1,h2,h3⟩:=hfn H (ds++[]) (by rw[CX];exact Z5K _ _ _ _ hA)
 cases hv with|t h _ =>
 cases h;have hlt:=hW'.lt;refine⟨_,rfl,ds,[],p++[],[],p,[],hW',?_,?_,?_,hB.frame _,(by intro h;cases h)⟩
 .rw[h1,hres];exact trodAll_cons_mk (p:=[]) (p':=[]) (shut_bool htb _) trodAll_mk0
 .simp_all [CX,Z5J]
 .rw[h3,hvars];rfl
end
def ic(n:Int):V6:=[.int .i64 n]
def Ae(xs:V2):V6:=[.lst 1 (xs.map ic)]
def sc(s:KI):V6:=[.str s]
variable{cs:List B8}{ts:V6}
@[simp] theorem Aak(n:Int):ic n=[.int .i64 n]:=rfl
@[simp] theorem zK(xs:V2):Ae xs=[.lst 1 (xs.map ic)]:=rfl
@[simp] theorem Aal(s:KI):sc s=[.str s]:=rfl
abbrev tI(xs:V2):T:=.lst 1 (xs.map ic)
abbrev Ax(xs:XS):T:=.lst 1 (xs.map Ae)
abbrev OkL{α:Type}(p:α->Prop)(xs:List α):Prop:=xs.length<=maxLen/\∀x∈xs,p x
abbrev Le{α:Type}(xs:List α):Prop:=xs.length<=1099511627776
theorem Xn{i:Nat}(h:i<1099511627776):IntKind.wrap .i64 ((i:Int)+1)=(i:Int)+1:=ZF E E
theorem fA{n:Nat}(h:n<=4398046511104):n<=room:=Yz h Om
theorem tf(b:Bool):b=false\/b=true:=by cases b<;>simp
theorem Z5L{α:Type}{c:α->V6}{p:α->Prop}{cs:List B8}(hd:∀ts,WQ cs ts->∃a,ts=c a/\p a):∀{es:WA},JW cs es->∃xs:List α,es=xs.map c/\∀x∈xs,p x
 |[],_=>⟨[],rfl,λx hx=>by cases hx⟩
 |e::es,h=>by
  cases h with
  |cons h hs =>
   obtain⟨a,rfl,ha⟩:=hd e h;obtain⟨xs,rfl,hx⟩:=Z5L hd hs;exact⟨a::xs,rfl,λx hm=>by cases hm with|head=>exact ha|tail _ hm=>exact hx x hm⟩
theorem ZIf{α:Type}{c:α->V6}{p:α->Prop}{t:T}(hd:∀ts,WQ cs ts->∃a,ts=c a/\p a)(h:HU (.slice cs) t):∃xs:List α,t=.lst cs.length (xs.map c)/\OkL p xs:=by
 cases h with
 |slice hl h =>
  obtain⟨xs,rfl,hx⟩:=Z5L hd h
  grind
theorem Z4n{c:B8}(h:WQ (c::cs) ts):∃t us,ts=t::us/\HU c t/\WQ cs us:=by
 cases h with
 |cons h hs=>exact⟨_,_,rfl,h,hs⟩
theorem Gi(h:WQ [] ts):ts=[]:=by cases h;rfl
end Go.AM
