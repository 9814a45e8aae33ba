/-
  Parts of the proofs for this seat: AMDraw AMDraw2 AMZ AMTop AMFun AMEv AMLive AMList AMSimp AMLaw AMLaw2 AMTy.
-/
import Derived.Carry
import Derived.Laws.Strings
import Derived.OpenShut
import Derived.Orders
import Derived.ProofKit
import Derived.Test.YteaiinkcanpleaaGreatP2
set_option linter.all false
namespace Go.AM
open Go.RowKit (Below)
structure Tr where
 dst:Option Nat
 v:AV
 u:List (Nat×AK)
 foot:AN
def AY(t:Tr)(s:S):S:={ s with env:=put t.dst t.v s.env,h:=upd s.h t.u }
def ZW(L:Nat->Bool):Nat->List Tr->S->S
 |_,[],s=>s
 |i,t::ts,s=>ZW L (i+1) ts (if L i then AY t s else s)
def T1(o:MO)(e:Env):Prop:=o.guard=none\/∃g b,o.guard=some (g,b)/\lk g e=.t (.bool b)
def G0(o:MO)(e:Env):Prop:=∃g b,o.guard=some (g,b)/\(lk g e=.tup []\/∃c,lk g e=.t (.bool c)/\c≠b)
def T2(Γ:CS)(o:MO)(t:Tr)(s:S):Prop:=t.dst=o.dst/\t.foot=VI o s (t.u.map Prod.fst)/\
 ((T1 o s.env/\Dk Γ s.h s.h.length s.env o.op t.v t.u)\/(G0 o s.env/\t.v=.tup []/\t.u=[]))
def Steps(Γ:CS):List MO->List Tr->S->Prop
 |[],[],_=>True
 |o::os,t::ts,s=>T2 Γ o t s/\Steps Γ os ts (AY t s)
 |_,_,_=>False
variable{Γ:CS}{h h':V2}{nx f:Nat}{u:List (Nat×AK)}{vs:XQ}{K:AV->List (Nat×AK)->Prop}
theorem ZEK{o:MO}{s:S}{K:AN->S->Prop}(h:CL Γ o s K):∃t,T2 Γ o t s/\K t.foot (AY t s):=by
 have run:T1 o s.env->Qj Γ o s K->∃t,T2 Γ o t s/\K t.foot (AY t s):=by
  intro hg h
  cases ho:o.op with
  |call f args =>
   simp only[Qj,ho]at h;obtain⟨as,h1,r,hr,h2,h3,h4⟩:=h
   exact⟨⟨o.dst,shift s.h.length r,Bk s.h.length hr 0,_⟩,⟨rfl,rfl,.inl ⟨hg,by rw[ho];exact⟨as,h1,r,hr,h2,h3,rfl,rfl⟩⟩⟩,h4⟩
  |fcall f args =>
   simp only[Qj,ho]at h;obtain⟨as,h1,hno,r,hr,d,h2,h3,h4⟩:=h
   exact⟨⟨o.dst,_,_,_⟩,⟨rfl,rfl,.inl ⟨hg,by rw[ho];exact⟨as,h1,hno,r,hr,h2,h3,rfl⟩⟩⟩,h4⟩
  |icall f args =>
   simp only[Qj,ho,Qi]at h;obtain⟨h1,r,h2,h3,h4⟩:=h
   exact⟨⟨o.dst,_,_,_⟩,⟨rfl,rfl,.inl ⟨hg,by rw[ho];exact⟨h1,r,h2,h3,rfl,rfl⟩⟩⟩,h4⟩
  |pcall f args =>
   simp only[Qj,ho,Jh]at h;obtain⟨h1,r,h2,h3,h4⟩:=h
   exact⟨⟨o.dst,_,_,_⟩,⟨rfl,rfl,.inl ⟨hg,by rw[ho];exact⟨h1,r,h2,h3,rfl,rfl⟩⟩⟩,h4⟩
  |dcall f args =>
   simp only[Qj,ho]at h;split at h
   .rename_i g caps hgc;obtain⟨h1,r,h2,h3,h4⟩:=h;exact⟨⟨o.dst,_,_,_⟩,⟨rfl,rfl,.inl ⟨hg,by rw[ho];exact⟨g,caps,hgc,h1,r,h2,h3,rfl,rfl⟩⟩⟩,h4⟩
   .exact h.elim
  |_ =>
   simp only[Qj,ho]at h;split at h
   .rename_i v u hev;exact⟨⟨o.dst,v,u,_⟩,⟨rfl,rfl,.inl ⟨hg,by rw[ho];exact hev⟩⟩,h⟩
   .exact h.elim
 have skip:G0 o s.env->K (VI o s []) { s with env:=put o.dst (.tup []) s.env }->∃t,T2 Γ o t s/\K t.foot (AY t s):=λhg h =>
  ⟨⟨o.dst,.tup [],[],VI o s []⟩,⟨rfl,rfl,.inr ⟨hg,rfl,rfl⟩⟩,h⟩
 unfold CL at h;split at h
 .rename_i hg;exact run (.inl hg) h
 .rename_i g want hg;split at h
  .rename_i b hb;split at h
   .rename_i hbw;subst hbw;exact run (.inr ⟨g,b,hg,hb⟩) h
   .rename_i hbw;exact skip ⟨g,want,hg,.inr ⟨b,hb,hbw⟩⟩ h
  .rename_i hb;exact skip ⟨g,want,hg,.inl hb⟩ h
  .exact h.elim
theorem Z3z{Γ:CS}:∀(os:List MO) (s:S) (Ax:List AN) (K:List AN->S->Prop) (i:Nat),CM Γ os s Ax K->∃ts,Steps Γ os ts s/\K (Ax++ts.map (·.foot)) (ZW (λ_=>true) i ts s)
 |[],s,Ax,K,i,h=>⟨[],trivial,by simp only[Dr,E0,ZW];exact h⟩
 |o::os,s,Ax,K,i,h=>by
  obtain⟨t,h1,h2⟩:=ZEK h;obtain⟨ts,h3,h4⟩:=Z3z os (AY t s) _ K (i+1) h2;refine⟨t::ts,⟨h1,h3⟩,?_⟩;simpa[ZW]using h4
theorem T3{L:Nat->Bool}:∀(ts:List Tr) (k:Nat) (s:S),(∀j,k<=j->L j=false)->ZW L k ts s=s
 |[],_,_,_=>rfl
 |t::ts,k,s,h=>by
  simp only[ZW,h k (Yj _),rS,if_false];exact T3 ts (k+1) s λj hj=>h j Z
theorem Z30{Γ:CS}:∀(os:List MO) (ts:List Tr) (s:S) (k:Nat),Steps Γ os ts s->ts.length=os.length/\∀i o,os[i]?=some o->∃t,ts[i]?=some t/\T2 Γ o t (ZW (λj=>decide (j<k+i)) k ts s)
 |[],[],_,_,_=>⟨rfl,Om⟩
 |o::os,t::ts,s,k,h=>by
  obtain⟨h1,h2⟩:=h;obtain⟨h3,h4⟩:=Z30 os ts (AY t s) (k+1) h2;refine⟨by simp[h3],?_⟩;intro i o' ho
  cases i with
  |zero =>
   simp_all [T3]
  |succ i =>
   obtain⟨t',h5,h6⟩:=h4 i o' (by simpa using ho);refine⟨t',by simpa using h5,?_⟩;have e:ZW (λj=>decide (j<k+(i+1))) k (t::ts) s=ZW (λj=>decide (j<k+1+i)) (k+1) ts (AY t s):=by
    simp only[ZW]
    grind
   rw[e]
   exact h6
 |[],_::_,_,_,h=>h.elim
 |_::_,[],_,_,h=>h.elim
theorem T4(d:Option Nat)(v:AV)(e:Env)(r:Nat):lk r (put d v e)=if d=some r then v else lk r e:=by
 cases d with
 |none=>simp[put]
 |some d=>simp[put,lk]
theorem Z31:∀{h h':V2} {b:Nat},b∈u.map Prod.fst->gt (upd h u) b=gt (upd h' u) b:=by
 induction u with
 |nil=>intro h h' b hb;simp at hb
 |cons p u ih =>
  intro h h' b hb;obtain⟨c,x⟩:=p;by_cases hu:b∈u.map Prod.fst
  .exact ih hu
  .simp only[upd];rw[T0 hu,T0 hu,K9,K9]
   simp_all
theorem T5{L L':Nat->Bool}(r:Nat):∀(ts:List Tr) (k:Nat) (s s':S),(∀j t,ts[j]?=some t->t.dst=some r->L (k+j)=L' (k+j))->lk r s.env=lk r s'.env->lk r (ZW L k ts s).env=lk r (ZW L' k ts s').env
 |[],_,_,_,_,h=>h
 |t::ts,k,s,s',hL,h=>by
  simp only[ZW];refine T5 r ts (k+1) _ _ (λj t' hj hd=>?_) ?_
  .have:=hL (j+1) t' (by simpa using hj) hd
   grind
  .have h0:=hL 0 t rfl;rw[DE]at h0;by_cases hd:t.dst=some r
   .rw[h0 hd];cases L' k
    .simpa using h
    .simp[AY,T4,hd]
   .have key:∀(b:Bool) (x:S),lk r (if b=true then AY t x else x).env=lk r x.env:=by
     intro b x;cases b
     .rfl
     .simp[AY,T4,hd]
    rw[key,key,h]
theorem T6{L L':Nat->Bool}(b:Nat):∀(ts:List Tr) (k:Nat) (s s':S),(∀j t,ts[j]?=some t->b∈t.u.map Prod.fst->L (k+j)=L' (k+j))->gt s.h b=gt s'.h b->gt (ZW L k ts s).h b=gt (ZW L' k ts s').h b
 |[],_,_,_,_,h=>h
 |t::ts,k,s,s',hL,h=>by
  simp only[ZW];refine T6 b ts (k+1) _ _ (λj t' hj hd=>?_) ?_
  .have:=hL (j+1) t' (by simpa using hj) hd
   grind
  .have h0:=hL 0 t rfl;rw[DE]at h0;by_cases hd:b∈t.u.map Prod.fst
   .rw[h0 hd];cases L' k
    .simpa using h
    .simp only[if_true,AY];exact Z31 hd
   .have key:∀(c:Bool) (x:S),gt (if c=true then AY t x else x).h b=gt x.h b:=by
     intro c x;cases c
     .rfl
     .simp only[if_true,AY];exact T0 hd
    rw[key,key,h]
theorem T7{L:Nat->Bool}:∀(ts:List Tr) (k:Nat) (s:S),(ZW L k ts s).stk=s.stk
 |[],_,_=>rfl
 |t::ts,k,s=>by
  simp only[ZW];rw[T7 ts];split<;>rfl
theorem sN{L:Nat->Bool}:∀(ts:List Tr) (k:Nat) (s:S),s.h.length<=(ZW L k ts s).h.length/\∀j t,ts[j]?=some t->L (k+j)=true->∀b∈t.u.map Prod.fst,b<(ZW L k ts s).h.length
 |[],_,_=>⟨Yj _,Om⟩
 |t::ts,k,s=>by
  simp only[ZW];obtain⟨h1,h2⟩:=sN ts (k+1) (if L k=true then AY t s else s);have h3:s.h.length<=(if L k=true then AY t s else s).h.length:=by
   split
   .exact(Zr5 t.u s.h).1
   .exact Yj _
  refine⟨Y6 h3 h1,?_⟩;intro j t' hj hL b hb
  cases j with
  |zero =>
   simp at hj;subst hj;rw[DE]at hL;rw[hL]at h1|-;simp only[if_true]at h1|-
   exact OR ((Zr5 t.u s.h).2 b hb) h1
  |succ j =>
   grind
theorem Z32{L:Nat->Bool}{i:Nat}{t:Tr}(hi:L i=false):∀(ts:List Tr) (k:Nat) (s:S),(∃m,i=k+m/\ts[m]?=some t)->
  ((∀r,t.dst=some r->∀j t',ts[j]?=some t'->i<k+j->L (k+j)=true->t'.dst≠some r)->∀r,lk r (ZW (λj=>L j || decide (j=i)) k ts s).env=lk r (AY t (ZW L k ts s)).env)/\
  ((∀b∈t.u.map Prod.fst,∀j t',ts[j]?=some t'->i<k+j->L (k+j)=true->b ∉ t'.u.map Prod.fst)->∀b,gt (ZW (λj=>L j || decide (j=i)) k ts s).h b=gt (AY t (ZW L k ts s)).h b)
 |[],_,_,⟨m,_,h⟩=>by simp at h
 |t0::ts,k,s,⟨m,hm,ht⟩=>by
  cases m with
  |zero =>
   simp at ht;subst ht;have hik:i=k:=by omega
   subst hik;simp only[ZW,hi,E1,decide_true,if_true,rS,if_false];constructor
   .intro hw r;by_cases hd:t0.dst=some r
    .have e1:=T5 (L:=λj=>L j || decide (j=i)) (L':=λ_=>false) r ts (i+1) (AY t0 s) (AY t0 s) (λj t' hj hd'=>by
      have:=hw r hd (j+1) t' (by simpa using hj) Z;cases hx:L (i+1+j)
      .simp;omega
      .exact absurd hd' (this (by rw[show i+(j+1)=i+1+j by omega];exact hx))) rfl
     rw[e1,T3 ts (i+1) _ (λ_ _=>rfl)];simp[AY,T4,hd]
    .have e1:=T5 (L:=λj=>L j || decide (j=i)) (L':=L) r ts (i+1) (AY t0 s) s (λj t' hj hd'=>by
      have:(decide (i+1+j=i))=false:=by simp;omega
      simp[this]) (by simp[AY,T4,hd])
     rw[e1];simp[AY,T4,hd]
   .intro hw b;by_cases hd:b∈t0.u.map Prod.fst
    .have e1:=T6 (L:=λj=>L j || decide (j=i)) (L':=λ_=>false) b ts (i+1) (AY t0 s) (AY t0 s) (λj t' hj hd'=>by
      have:=hw b hd (j+1) t' (by simpa using hj) Z;cases hx:L (i+1+j)
      .simp;omega
      .exact absurd hd' (this (by rw[show i+(j+1)=i+1+j by omega];exact hx))) rfl
     rw[e1,T3 ts (i+1) _ (λ_ _=>rfl)];exact Z31 hd
    .have e1:=T6 (L:=λj=>L j || decide (j=i)) (L':=L) b ts (i+1) (AY t0 s) s (λj t' hj hd'=>by
      have:(decide (i+1+j=i))=false:=by simp;omega
      simp[this]) (by simp only[AY];exact T0 hd)
     rw[e1];simp only[AY]
     exact(T0 hd).symm
  |succ m =>
   have hne:decide (k=i)=false:=by simp;omega
   simp only[ZW,hne,Bool.or_false];have ih:=Z32 hi ts (k+1) (if L k=true then AY t0 s else s) ⟨m,Z,by simpa using ht⟩;constructor
   .intro hw;exact ih.1 λr hr j t' hj hlt hL=>hw r hr (j+1) t' (by simpa using hj) Z (by rw[show k+(j+1)=k+1+j by omega];exact hL)
   .intro hw;exact ih.2 λb hb j t' hj hlt hL=>hw b hb (j+1) t' (by simpa using hj) Z (by rw[show k+(j+1)=k+1+j by omega];exact hL)
theorem ZrD{L:Nat->Bool}:∀(bs:List (V3)) (acc:List (V3)),(∀j b,bs[j]?=some b->L (acc.length+j)=true->∀i∈b,L i=true)->(∀j c,acc[j]?=some c->L j=true->∀i∈c,L i=true)->
  ∀j c,(TI bs acc)[j]?=some c->L j=true->∀i∈c,L i=true
 |[],acc,_,h=>h
 |b::bs,acc,hb,h=>by
  simp only[TI];refine ZrD bs _ (λj b' hj hL=>hb (j+1) b' (by simpa using hj) (by simp at hL;rw[show acc.length+(j+1)=acc.length+1+j by omega];exact hL)) ?_;intro j c hj hL i hi;rw[List.getElem?_append]at hj;split at hj
  .exact h j c hj hL i hi
  .rename_i hlt;have hj0:j=acc.length:=by
    grind
   subst hj0;simp at hj;subst hj;have h0:=hb 0 b rfl (by simpa using hL)
   grind
theorem Z33{before:List (V3)}{Ax:List AN}(h:JX before Ax=true){i j:Nat}{f g:AN}(hi:Ax[i]?=some f)(hj:Ax[j]?=some g)(hij:i<j)(hc:QW f g=true) :
  ∃c,(TI before [])[j]?=some c/\i∈c:=by
 unfold JX at h;have hjl:j<Ax.length:=by
  grind
 have h1:=Yp.1 h j (Y3.2 hjl);unfold Z2G at h1
 grind
theorem Z34(hh:∀b∈X7 h 200 (ZA vs) [],gt h b=gt h' b)(hr:Qi Γ f vs h nx K):Qi Γ f vs h' nx K:=by
 obtain⟨e1,e2,e3⟩:=Z3x hh;unfold Qi;rw[e1,e2,e3];exact hr
theorem ZEL(hh:∀b∈X7 h 200 (ZA vs) [],gt h b=gt h' b)(hr:Jh Γ f vs h nx K):Jh Γ f vs h' nx K:=by
 obtain⟨e1,e2,e3⟩:=Z3x hh;unfold Jh;rw[e1,e2,e3];exact hr
theorem ZEM{e e':Env}{k:A5}{v:AV}(he:∀x∈ZC k,ev e x=ev e' x)(hh:∀b∈E5 k h e,gt h b=gt h' b)
  (hr:Dk Γ h nx e k v u):Dk Γ h' nx e' k v u:=by
 cases k with
 |call f args =>
  obtain⟨as,h1,r,hr,h2,h3,h4,h5⟩:=hr;have e1:args.map (ev e')=args.map (ev e):=EY λx hx=>(he x (by simpa[ZC]using hx)).symm
  refine⟨as,?_,r,hr,h2,by rw[e1];exact h3,h4,h5⟩;rw[e1,<-h1]
  exact(Z3w (Z3u hh)).symm
 |fcall f args =>
  obtain⟨as,h1,hno,r,hr,h2,h3,h4⟩:=hr;have e1:args.map (ev e')=args.map (ev e):=EY λx hx=>(he x (by simpa[ZC]using hx)).symm
  refine⟨as,?_,by rw[e1];exact hno,r,hr,h2,h3,h4⟩;rw[e1,<-h1]
  exact(Z3w (Z3u hh)).symm
 |icall f args =>
  have e1:args.map (ev e')=args.map (ev e):=EY λx hx=>(he x (by simpa[ZC]using hx)).symm
  simp only[Dk]at hr|-;rw[e1]
  exact Z34 (λb hb=>hh b (ZrA hb)) hr
 |pcall f args =>
  have e1:args.map (ev e')=args.map (ev e):=EY λx hx=>(he x (by simpa[ZC]using hx)).symm
  simp only[Dk]at hr|-;rw[e1]
  exact ZEL (λb hb=>hh b (ZrA hb)) hr
 |dcall f args =>
  obtain⟨g,caps,hg,hr⟩:=hr;have e1:args.map (ev e')=args.map (ev e):=EY λx hx=>(he x (by simp[ZC,hx])).symm
  refine⟨g,caps,by rw[<-he f (by simp[ZC])];exact hg,?_⟩;rw[e1];refine Z34 (λb hb=>hh b (ZrA ?_)) hr;simp only[GR,hg]
  exact hb
 |mov x =>
  change Z1 h nx e (.mov x)=some (v,u)at hr;show Z1 h' nx e' (.mov x)=some (v,u);simp only[Z1]at hr|-;rw[<-he x (by simp[ZC])]
  exact hr
 |_ =>
  show Z1 h' nx e' _=some (v,u);rw[<-ZEI he (λx hx b hb=>hh b (ZE7 (Yn.2 ⟨x,hx,rfl⟩) hb))];exact hr
section
variable{P:Program}{N:Bu}{base:Nat}{w0:World}{nt:Nat}{ts:List (Array Value)}{inl:V3}{D D':Nat->Prop}{ρ:Map}{s:S}{a:Act}{w:World}{d:Option Nat}
structure BW (N:Bu) (base:Nat) (w0:World) (nt:Nat) (ts:List (Array Value)) (D:Nat->Prop) (ρ:Map) (s:S) (a:Act) (w:World):Prop where
 rel:Rel N base ρ s.h w
 env:XO ρ w (Free N ρ s.h) s.env a.tmps
 stk:UK ρ w (Free N ρ s.h) s.stk ts
 dom:∀b,D b->ρ b=none
 defers:a.defers=[]
 size:a.tmps.size=nt
 below:Below base w0 w
 kn:∀g,g<w0.heap.size->¬N.a g->w.heap[g]?=w0.heap[g]?
 fz:∀g,g<w0.heap.size->N.z g->Free N ρ s.h g/\w.heap[g]?=w0.heap[g]?
theorem BW.congr{s':S}(h:BW N base w0 nt ts D ρ s a w)(hl:∀r,lk r s.env=lk r s'.env)(hg:∀b,gt s.h b=gt s'.h b)(hk:s.stk=s'.stk)(hD:∀b,D' b->D b) :
  BW N base w0 nt ts D' ρ s' a w:=by
 refine⟨h.rel.congr hg,?_,?_,λb hb=>h.dom b (hD b hb),h.defers,h.size,h.below,h.kn,by rw[<-Free.congr hg];exact h.fz⟩
 .intro r;rw[<-hl,<-Free.congr hg];exact h.env r
 .rw[<-hk,<-Free.congr hg];exact h.stk
theorem BW.after{ρ':Map}{w':World}(hS:BW N base w0 nt ts D ρ s a w){v:AV}{u:List (Nat×AK)}{val:Value}(hA:QZ N base ρ s.h w v u val w' ρ')(hd:∀x,d=some x->x<nt)
  (hD:∀b,D' b->D b/\b ∉ u.map Prod.fst):BW N base w0 nt ts D' ρ' { s with env:=put d v s.env,h:=upd s.h u } (a.put d val) w':=by
 refine⟨hA.rel,sK (λs=>(hS.env s).keep hA.keeps) hA.val λx hx=>by rw[hS.size];exact hd x hx,hS.stk.keep hA.keeps,?_,by rw[sL];exact hS.defers,by rw[sM];exact hS.size,hS.below.trans hA.below,
  λg hg hn=>(hA.kn g (OR hg hS.below.size) hn).trans (hS.kn g hg hn),λg hg hz=>?_⟩
 .intro b hb;exact hA.same b (hD b hb).2 (hS.dom b (hD b hb).1)
 .obtain⟨h1,h2⟩:=hS.fz g hg hz;obtain⟨h3,h4⟩:=hA.keeps.free g (OR hg hS.below.size) h1
  simp_all
theorem BW.skip(hS:BW N base w0 nt ts D ρ s a w)(hd:∀x,d=some x->x<nt) :
  BW N base w0 nt ts D ρ { s with env:=put d (.tup []) s.env } (a.put d undef) w :=
 ⟨hS.rel,sK hS.env (RV.tup (c:=#[]) .nil) λx hx=>by rw[hS.size];exact hd x hx,hS.stk,hS.dom,by rw[sL];exact hS.defers,by rw[sM];exact hS.size,hS.below,hS.kn,hS.fz⟩
theorem IR{a b:V3}{x:Nat}(h:x∈a)(h':x∈b):meets a b=true:=by
 unfold meets
 grind
end
open Go.RowKit (Below)
section
variable{P:Program}{N:Bu}{base:Nat}{w0:World}{nt:Nat}{ts:List (Array Value)}{inl:V3}
theorem Z35{α β:Type}{f:α->Option β}:∀{l:List α} {os:List β},AW f l=some os->∀{i:Nat} {o:α},l[i]?=some o->∃m,os[i]?=some m/\f o=some m
 |[],_,_,_,_,h=>by simp at h
 |x::l,os,hm,i,o,h=>by
  obtain⟨m,ms,h1,h2,rfl⟩:=KA hm
  cases i with
  |zero=>simp at h;subst h;exact⟨m,rfl,h1⟩
  |succ i =>
   obtain⟨m',h3,h4⟩:=Z35 h2 (i:=i) (o:=o) (by simpa using h)
   simp_all
theorem Z36:∀{bs:List (V3)} {k:Nat},B7 bs k=true->∀{j:Nat} {b:V3},bs[j]?=some b->∀i∈b,i<k+j
 |[],_,_,_,_,h=>by simp at h
 |x::bs,k,hb,j,b,h=>by
  simp only[B7,Yg,Yp,decide_eq_true_eq]at hb;intro i hi
  cases j with
  |zero=>simp at h;subst h;exact hb.1 i hi
  |succ j=>have:=Z36 hb.2 (j:=j) (b:=b) (by simpa using h) i hi;omega
theorem sO{listed:Array Bool}{i j:Nat}(hi:i<listed.size):(listed.setIfInBounds i true).getD j false=(listed.getD j false || decide (j=i)):=by
 simp only[Ix,Array.getElem?_setIfInBounds]
 grind
variable{ops:Array Oper}{os:List MO}{tr:List Tr}{s0:S}{Qc:Exit->Act->World->Prop}
def C4(tr:List Tr)(s0:S)(L:Nat->Bool)(b:Nat):Prop:=s0.h.length<=b/\∀j t,tr[j]?=some t->L j=true->b ∉ t.u.map Prod.fst
theorem ZEN(hback:B7 (ops.toList.map Ua) 0=true){listed:Array Bool}(hsz:listed.size=ops.size)(hr:Region.ready .any ops listed=[]):∀j,j<ops.size->listed.getD j false=true:=by
 intro j
 induction j using Nat.strongRecOn with
 |ind j ih =>
  intro hj
  cases hc:listed.getD j false with
  |true=>rfl
  |false =>
   exfalso;have hmem:j∈Region.ready .any ops listed:=by
    unfold Region.ready;refine CR.2 ⟨Y3.2 hj,?_⟩;have h1:listed.getD j true=false:=by
     simp_all
    have h2:ops[j]?=some ops[j]:=by simp[hj]
    rw[h1,h2];simp only[Bool.not_false,Yk,Option.map_some,Option.getD_some];rw[Array.all_eq_true_iff_forall_mem];intro e he
    cases hb:Region.binds .any e with
    |false=>rfl
    |true =>
     simp only[Bool.not_true,E1];have hin:e.on∈Ua ops[j]:=by
      unfold Ua
      grind
     have hlt:=Z36 hback (j:=j) (b:=Ua ops[j]) (by simp[hj]) e.on hin
     grind
   simp_all
theorem Z37{K:S->Prop}(hQ:∀s a w ρ,K s->AL N base w0 nt ts ρ s a w->Qc .normal a w)(hlen:tr.length=ops.size)(hK:K (ZW (λ_=>true) 0 tr s0)){listed:Array Bool}(hall:∀j,j<ops.size->listed.getD j false=true)
  {ρ:Map} {a:Act} {w:World} (hS:BW N base w0 nt ts (C4 tr s0 (listed.getD · false)) ρ (ZW (listed.getD · false) 0 tr s0) a w):Qc .normal a w:=by
 have hj:∀(j:Nat) (t:Tr),tr[j]?=some t->listed.getD (0+j) false=true:=by
  grind
 have h1:=hS.congr (s':=ZW (λ_=>true) 0 tr s0) (D':=C4 tr s0 (listed.getD · false)) (λr=>T5 r tr 0 _ _ (λj t h _=>hj j t h) rfl) (λb=>T6 b tr 0 _ _ (λj t h _=>hj j t h) rfl) (by rw[T7,T7]) (λ_ h=>h);refine hQ _ a w ρ hK ⟨h1.rel,h1.env,h1.stk,?_,h1.defers,h1.size,h1.below,h1.kn,h1.fz⟩;intro b hb;have hl:=sN (L:=λ_=>true) tr 0 s0;refine h1.dom b ⟨Z,?_⟩
 grind
theorem Fm(hos:AW (B6 P inl nt ops) ops.toList=some os)(hback:B7 (ops.toList.map Ua) 0=true)(hst:Steps (W5 P) os tr s0)(hord:JX (ops.toList.map Ua) (tr.map (·.foot))=true)
  {K:S->Prop} (hQ:∀s a w ρ,K s->AL N base w0 nt ts ρ s a w->Qc .normal a w) (hK:K (ZW (λ_=>true) 0 tr s0)) :
  ∀(fuel:Nat) (listed:Array Bool) (a:Act) (w:World) (ρ:Map),listed.size=ops.size->listed.toList.count false<=fuel->
   (∀j b,(ops.toList.map Ua)[j]?=some b->listed.getD j false=true->∀i∈b,listed.getD i false=true)->
   BW N base w0 nt ts (C4 tr s0 (listed.getD · false)) ρ (ZW (listed.getD · false) 0 tr s0) a w->wpAny P .any ops Qc fuel listed a w:=by
 obtain⟨hl1,hat⟩:=Z30 os tr s0 0 hst;have hlen:tr.length=ops.size:=by rw[hl1,Zrv hos];simp
 have hdst:∀(j:Nat) (t:Tr),tr[j]?=some t->(∀r,t.dst=some r->r∈t.foot.ws)/\t.u.map Prod.fst=t.foot.wb:=by
  intro j t h;have hj:j<os.length:=by
   grind
  obtain⟨t',h1,h2,h3,_⟩:=hat j os[j] (by simp[hj]);rw[h]at h1;cases h1;rw[h3];exact⟨λr hr=>by simp[VI,<-h2,hr],rfl⟩
 intro fuel
 induction fuel with
 |zero =>
  intro listed a w ρ hsz hc hcl hS;have hall:∀j,j<ops.size->listed.getD j false=true:=by
   intro j hj
   cases hx:listed.getD j false with
   |true=>rfl
   |false =>
    exfalso
    have:false∈listed.toList:=by
     rw[Ix]at hx
     grind
    grind
  refine⟨?_,Z37 hQ hlen hK hall hS⟩;unfold Region.ready
  simp_all
 |succ fuel ih =>
  intro listed a w ρ hsz hc hcl hS;refine⟨λhr=>Z37 hQ hlen hK (ZEN hback hsz hr) hS,?_⟩;intro i hi;unfold Region.ready at hi;obtain⟨hir,hcond⟩:=CR.1 hi;have hin:i<ops.size:=Y3.1 hir;have hil:i<listed.size:=by omega
  have hops:ops[i]?=some ops[i]:=by simp[hin]
  rw[hops]at hcond;simp only[Option.map_some,Option.getD_some,Yg,Bool.not_eq_true',Array.all_eq_true_iff_forall_mem]at hcond;obtain⟨hLt,haft⟩:=hcond;have hLi:listed.getD i false=false:=by
   simp_all
  have hbef:∀j∈Ua ops[i],listed.getD j false=true:=by
   intro j hj;unfold Ua at hj
   grind
  -- the operation
  obtain⟨m,hm,hcm⟩:=Z35 hos (i:=i) (o:=ops[i]) (by simp[hin]);obtain⟨hk,hmd,hd,hguard⟩:=Zr6 hcm;obtain⟨t,ht,htd,htf,hstep⟩:=hat i m hm
  -- the new list
  have hcl':∀(j:Nat) (b:V3),(ops.toList.map Ua)[j]?=some b->(listed.setIfInBounds i true).getD j false=true->∀x∈b,(listed.setIfInBounds i true).getD x false=true:=by
   intro j b hb hj x hx;rw[sO hil]at hj|-
   grind
  -- who is in QW
  have low:∀(j:Nat) (t':Tr),tr[j]?=some t'->j<i->QW t'.foot t.foot=true->listed.getD j false=true:=by
   intro j t' hj hlt hcf;obtain⟨c,h1,h2⟩:=Z33 hord (i:=j) (j:=i) (f:=t'.foot) (g:=t.foot) (by simp[hj]) (by simp[ht]) hlt hcf;have h3:=ZrD (L:=λj=>(listed.setIfInBounds i true).getD j false) (ops.toList.map Ua) [] (λj b hb hL=>hcl' j b hb (by simpa using hL)) Om i c h1 (by simp only[sO hil,decide_true,Bool.or_true]) j h2
   grind [sO]
  have high:∀(j:Nat) (t':Tr),tr[j]?=some t'->i<j->QW t.foot t'.foot=true->listed.getD j false=true->False:=by
   intro j t' hj hlt hcf hL;obtain⟨c,h1,h2⟩:=Z33 hord (i:=i) (j:=j) (f:=t.foot) (g:=t'.foot) (by simp[ht]) (by simp[hj]) hlt hcf;have h3:=ZrD (L:=λj=>listed.getD j false) (ops.toList.map Ua) [] (λj b hb hL=>hcl j b hb (by simpa using hL)) Om j c h1 hL i h2
   simp_all
  -- what it looks at stands as in the text's order
  have hlk:∀r∈t.foot.rs,lk r (ZW (λj=>decide (j<0+i)) 0 tr s0).env=lk r (ZW (listed.getD · false) 0 tr s0).env:=by
   intro r hr;refine T5 r tr 0 _ _ (λj t' hj hd'=>?_) rfl;have hw:=(hdst j t' hj).1 r hd';rcases rO j i with hlt|rfl|hgt
   .rw[Yw,Yw,low j t' hj hlt (by simp[QW,IR hw (GL t.foot.ws hr)])];simpa using hlt
   .grind
   .rw[Yw,Yw]
    cases hx:listed.getD j false with
    |true=>exact(high j t' hj hgt (by simp[QW,IR hw hr]) hx).elim
    |false=>simp;omega
  have Aac:∀b∈t.foot.rb,gt (ZW (λj=>decide (j<0+i)) 0 tr s0).h b=gt (ZW (listed.getD · false) 0 tr s0).h b:=by
   intro b hb;refine T6 b tr 0 _ _ (λj t' hj hd'=>?_) rfl;have hw:b∈t'.foot.wb:=by rw[<-(hdst j t' hj).2];exact hd'
   rcases rO j i with hlt|rfl|hgt
   .rw[Yw,Yw,low j t' hj hlt (by simp[QW,IR hw (GL t.foot.wb hb)])];simpa using hlt
   .grind
   .rw[Yw,Yw]
    cases hx:listed.getD j false with
    |true=>exact(high j t' hj hgt (by simp[QW,IR hw hb]) hx).elim
    |false=>simp;omega
  have T8:(λj=>(listed.setIfInBounds i true).getD j false)=(λj=>listed.getD j false || decide (j=i)):=by
   funext j;exact sO hil
  have hins:=Z32 (L:=λj=>listed.getD j false) (i:=i) (t:=t) hLi tr 0 s0 ⟨i,Z,ht⟩;have hcount:(listed.setIfInBounds i true).toList.count false<=fuel:=by
   rw[Array.toList_setIfInBounds,List.count_set (by simpa using hil)];have hx:listed.toList[i]'(by simpa using hil)=false:=by
    rw[Ix]at hLi;simpa[hil]using hLi
   grind
  -- the state behind it
  have next:∀a' w' ρ',BW N base w0 nt ts (C4 tr s0 λj=>listed.getD j false || decide (j=i)) ρ' (AY t (ZW (listed.getD · false) 0 tr s0)) a' w'->wpAny P .any ops Qc fuel (listed.setIfInBounds i true) a' w':=by
   intro a' w' ρ' hR;refine ih _ a' w' ρ' (by simpa using hsz) hcount hcl' ?_;rw[T8];refine hR.congr (λr=>(hins.1 ?_ r).symm) (λb=>(hins.2 ?_ b).symm) (by rw[T7];exact T7 tr 0 s0) (λ_ h=>h)
   .intro r hr j t' hj hlt hL hd';rw[Yw]at hlt hL;exact high j t' hj hlt (by simp[QW,IR ((hdst i t ht).1 r hr) (Iy t'.foot.rs ((hdst j t' hj).1 r hd'))]) hL
   .intro b hb j t' hj hlt hL hd';rw[Yw]at hlt hL;have hb1:b∈t.foot.wb:=by rw[<-(hdst i t ht).2];exact hb
    have hb2:b∈t'.foot.wb:=by rw[<-(hdst j t' hj).2];exact hd'
    exact high j t' hj hlt (by simp[QW,IR hb1 (Iy t'.foot.rb hb2)]) hL
  have hrs:∀x∈ZC m.op,∀r∈rZ x,r∈t.foot.rs:=by
   intro x hx r hr;rw[htf];simp only[VI]
   grind
  have hgs:∀g b,m.guard=some (g,b)->g∈t.foot.rs:=by
   intro g b hg;rw[htf];simp only[VI,hg];simp
  have he:∀x∈ZC m.op,ev (ZW (λj=>decide (j<0+i)) 0 tr s0).env x=ev (ZW (listed.getD · false) 0 tr s0).env x:=by
   intro x hx
   cases x with
   |c v=>rfl
   |s r=>exact hlk r (hrs _ hx r (by simp[rZ]))
  have hh:∀b∈E5 m.op (ZW (λj=>decide (j<0+i)) 0 tr s0).h (ZW (λj=>decide (j<0+i)) 0 tr s0).env,gt (ZW (λj=>decide (j<0+i)) 0 tr s0).h b=gt (ZW (listed.getD · false) 0 tr s0).h b:=by
   intro b hb;refine Aac b ?_;rw[htf];exact hb
  have hlI:=sN (L:=λj=>decide (j<0+i)) tr 0 s0;have hlT:=sN (L:=λ_=>true) tr 0 s0;have hu:∀b,b∈t.u.map Prod.fst->(ZW (λj=>decide (j<0+i)) 0 tr s0).h.length<=b->ρ b=none:=by
   intro b hb hle;refine hS.dom b ⟨Z,?_⟩;intro j t' hj hL hin';have hw:b∈t'.foot.wb:=by rw[<-(hdst j t' hj).2];exact hin'
   have hb':b∈t.foot.wb:=by rw[<-(hdst i t ht).2];exact hb
   rcases rO j i with hlt|rfl|hgt
   .grind
   .simp_all
   .exact high j t' hj hgt (by simp[QW,IR hb' (Iy t'.foot.rb hw)]) hL
  have G1:∀b,C4 tr s0 (λj=>listed.getD j false || decide (j=i)) b->C4 tr s0 (listed.getD · false) b/\b ∉ t.u.map Prod.fst:=by
   intro b hb;refine⟨⟨hb.1,λj t' hj hL=>hb.2 j t' hj (by simp only at hL|-;rw[hL];rfl)⟩,hb.2 i t ht Om⟩
  have hrun:Dk (W5 P) (ZW (λj=>decide (j<0+i)) 0 tr s0).h (ZW (λj=>decide (j<0+i)) 0 tr s0).h.length (ZW (λj=>decide (j<0+i)) 0 tr s0).env m.op t.v t.u->
    (ops[i]).wp P a w (wpAny P .any ops Qc fuel (listed.setIfInBounds i true)) Qc:=by
   intro hop;have hop':=ZEM he hh hop;have fin:∀val w' ρ',QZ N base ρ (ZW (listed.getD · false) 0 tr s0).h w t.v t.u val w' ρ'->wpAny P .any ops Qc fuel (listed.setIfInBounds i true) (a.put (ops[i]).dst val) w':=by
    intro val w' ρ' hA;refine next _ _ ρ' ?_
    have:=hS.after hA (d:=(ops[i]).dst) hd G1;rw[<-hmd,<-htd]at this|-;exact this
   by_cases hcall:isC m.op
   .exact TY hk hS.env hS.rel (.inl hcall) hu hop' fin
   .by_cases hnx:(ZW (λj=>decide (j<0+i)) 0 tr s0).h.length∈t.u.map Prod.fst
    .exact TY hk hS.env hS.rel (.inr (hu _ hnx (Yj _))) hu hop' fin
    .have hM:Dk (W5 P) (ZW (listed.getD · false) 0 tr s0).h (ZW (λ_=>true) 0 tr s0).h.length (ZW (listed.getD · false) 0 tr s0).env m.op t.v t.u:=by
      cases Dx:m.op with
      |call f args=>rw[Dx]at hcall;exact absurd trivial hcall
      |fcall f args=>rw[Dx]at hcall;exact absurd trivial hcall
      |icall f args=>rw[Dx]at hcall;exact absurd trivial hcall
      |pcall f args=>rw[Dx]at hcall;exact absurd trivial hcall
      |dcall f args=>rw[Dx]at hcall;exact absurd trivial hcall
      |_=>rw[Dx]at hop';exact ZEJ hop' hnx _
     refine TY hk hS.env hS.rel (nx:=(ZW (λ_=>true) 0 tr s0).h.length) (.inr ?_) ?_ hM fin
     .refine hS.dom _ ⟨hlT.1,?_⟩
      grind
     .grind
  have Ab4:t.v=.tup []->t.u=[]->wpAny P .any ops Qc fuel (listed.setIfInBounds i true) (a.put (ops[i]).dst undef) w:=by
   intro hv hu0;refine next _ _ ρ ?_
   have:=(hS.skip (d:=(ops[i]).dst) hd).congr (D':=C4 tr s0 λj=>listed.getD j false || decide (j=i)) (s':=AY t (ZW (listed.getD · false) 0 tr s0)) (λr=>by rw[<-hmd,<-htd];simp[AY,hv]) (λb=>by simp[AY,hu0,upd]) rfl (λb hb=>(G1 b hb).1);exact this
  unfold wpOp;rw[hops];simp only;rcases hguard with⟨hg1,hg2⟩|⟨j,b,d,hg1,hg2,hg3⟩
  .simp only[Region.wanted,hg1,if_true];rcases hstep with⟨_,hop⟩|⟨⟨g,b,hg,_⟩,_,_⟩
   .exact .inl (hrun hop)
   .grind
  .have hw:=Zr7 hS.env hg1 hg2;have Ab7:=hlk d (hgs d b hg3);rcases hstep with⟨hgr,hop⟩|⟨⟨g,b',hg,hsk⟩,hv,hu0⟩
   .rcases hgr with hgn|⟨g,b',hg,hb'⟩
    .grind
    .grind
   .grind
theorem AL.drew{ρ:Map}{s:S}{a:Act}{w:World}(hS:AL N base w0 nt ts ρ s a w):AL N base w0 nt ts ρ s a { w with drawn:=w.drawn+1 }:=by
 have hk:W4 ρ w (Free N ρ s.h) ρ { w with drawn:=w.drawn+1 } (Free N ρ s.h):=⟨λ_ r h=>⟨r,h,rfl⟩,λ_ _ h=>⟨h,rfl⟩⟩;have hb:Below base w { w with drawn:=w.drawn+1 }:=⟨rfl,rfl,rfl,Yj _,λ_ _=>rfl⟩;obtain⟨R,hE,hst,hdom,hdf,hsz,hB,hkn,hfz⟩:=hS;obtain⟨h1,h2,h0,h3,h4,h5⟩:=R;refine⟨⟨h1,h2,h0,?_,h4,h5⟩,λs=>(hE s).keep hk,hst.keep hk,hdom,hdf,hsz,hB.trans hb,hkn,hfz⟩;intro b hne;obtain⟨r,q1,q2⟩:=h3 b hne;exact⟨r,q1,q2.keep hk λ_ _=>rfl⟩
theorem Z38{Γ:CS}(hΓ:Γ=W5 P){ops:Array Oper}{os:List MO}(hos:AW (B6 P inl nt ops) ops.toList=some os)(hback:B7 (ops.toList.map Ua) 0=true)(Aad:P.follows .mixedOrders=true)
  {Qc:Exit->Act->World->Prop} {K:S->Prop} (hQ:∀s a w ρ,K s->AL N base w0 nt ts ρ s a w->Qc .normal a w) {id:Nat} {s:S} {a:Act} {w:World} {ρ:Map}
  (hW:CM Γ os s [] λAx s'=>JX (ops.toList.map Ua) Ax=true/\K s') (hS:AL N base w0 nt ts ρ s a w):(Code.region id ops true).wp P Qc a w:=by
 obtain⟨tr,hst,hord,hK⟩:=Z3z os s [] _ 0 hW;rw[hΓ]at hst;rw[EZ]at hord;refine wp_region_any Aad ?_;have hD:=hS.drew;have hf:∀j,(Array.replicate ops.size false).getD j false=false:=by
  intro j;rw[Ix]
  grind
 have hfun:(λj=>(Array.replicate ops.size false).getD j false)=λ_=>false:=funext hf
 refine Fm hos hback hst hord hQ hK ops.size _ a _ ρ Om ?_ ?_ ?_
 .simp
 .simp_all
 .rw[hfun,T3 tr 0 s (λ_ _=>rfl)];exact⟨hD.rel,hD.env,hD.stk,λb hb=>hD.dom b hb.1,hD.defers,hD.size,hD.below,hD.kn,hD.fz⟩
end
open Go.RowKit (Below)
variable{b:Nat}{h:V2}{d:AV}
theorem IS{f:AK->AK}(hf:f .dead=.dead)(h:V2)(c:Nat):gt (h.map f) c=f (gt h c):=by
 unfold gt
 grind
theorem sP(b:Nat)(d:AV)(h:V2)(c:Nat):gt (CX b d h) c=if c=b then .dead else rY b d (gt h c):=by
 unfold CX;rw[K9,IS rfl]
theorem Z39:∀(h:V2) (b:Nat) (x:AK),b<h.length->(stB h b x).length=h.length
 |[],_,_,hb=>by simp at hb
 |_::h,0,x,_=>rfl
 |_::h,b+1,x,hb=>by simp[stB,Z39 h b x (by simpa using hb)]
theorem G2(hd:gt h b≠.dead):b<h.length:=by
 by_cases hl:b<h.length
 .exact hl
 .exfalso;apply hd;unfold gt
  simp_all
theorem ZrE(hb:b<h.length):(CX b d h).length=h.length:=by
 unfold CX
 simp_all [Z39,DL]
theorem C5(b:Nat)(d:AV)(s:Nat):∀e:Env,lk s (IB b d e)=IA b d (lk s e)
 |[]=>rfl
 |(k,v)::e=>by
  simp only[IB,lk];split
  .rfl
  .exact C5 b d s e
theorem ZEO{x:AK}:XG (rY b d x)=XG x:=by cases x<;>rfl
section
variable{N:Bu}{base:Nat}{ρ:Map}{h:V2}{w:World}{F F':Nat->Prop}{b:Nat}{d:AV}
theorem RV.sb(hk:∀g,F g->F' g)(hd:∀r,ρ b=some r->RV ρ w F' d r.v){a:AV}{v:Value}(h:RV ρ w F a v):RV ρ w F' (IA b d a) v:=by
 refine RV.rec (motive_1:=λa v _=>RV ρ w F' (IA b d a) v) (motive_2:=λas vs _=>AE ρ w F' (CH b d as) vs) ?_ ?_ ?_ ?_ ?_ ?_ ?_ ?_ ?_ ?_ ?_ ?_ ?_ h
 .exact λv=>.top v
 .exact .nilp
 .intro x v fp h hf;exact .t h λg hg=>hk g (hf g hg)
 .intro cs c _ h1 ih;exact .agg ih h1
 .intro cs c _ ih;exact .tup ih
 .intro b off g r hr hv;exact .ptr hr hv
 .intro b i sz off g n cap r hr hv;exact .eptr hr hv
 .intro cs off g o c e fz fp hg hF hc hf;exact .iptr hg (hk _ hF) hc λg hg=>hk g (hf g hg)
 .intro c r hr ho;unfold IA;split
  .simp_all
  .exact .own hr ho
 .intro b n g r hr hv;exact .bsl hr hv
 .intro f cs c _ ih;exact .fn ih
 .exact .nil
 .intro a v as vs _ _ ih1 ih2;exact .cons ih1 ih2
theorem AE.sb(hk:∀g,F g->F' g){b:Nat}{d:AV}(hd:∀r,ρ b=some r->RV ρ w F' d r.v):∀{as:XQ} {vs:V4},AE ρ w F as vs->AE ρ w F' (CH b d as) vs
 |[],_,h=>by cases h;exact .nil
 |a::as,_,h=>by cases h with|cons h hs=>exact .cons (h.sb hk hd) (AE.sb hk hd hs)
theorem G3{g:Nat}(hg:Free N ρ h g):Free N ρ (CX b d h) g:=by
 refine⟨hg.1,λc r hr hc=>hg.2 c r hr λe=>hc ?_⟩;rw[sP];split
 .rfl
 .rw[e];rfl
theorem Eb(R:Rel N base ρ h w){sz:Nat}{es:WI}{el:TypeId}{fr:Bool}(hb:gt h b=.arr el sz fr es) :
  Rel N base ρ (CX b (.t (.lst sz es)) h) w/\∀r,ρ b=some r->RV ρ w (Free N ρ (CX b (.t (.lst sz es)) h)) (.t (.lst sz es)) r.v:=by
 have hd:gt h b≠.dead:=by rw[hb];intro hc;cases hc
 have live:∀c,gt (CX b (.t (.lst sz es)) h) c≠.dead->c≠b/\gt h c≠.dead:=by
  intro c hc;rw[sP]at hc;by_cases e:c=b
  .simp_all
  .rw[Yb e]at hc;exact⟨e,λe2=>hc (by rw[e2];rfl)⟩
 have hfr:∀r,ρ b=some r->∀g,Xu r.v=some g->Free N ρ (CX b (.t (.lst sz es)) h) g:=by
  intro r hr g hg;refine⟨(R.hO b r g hr hd hg).1,λc r' hr' hc ho=>?_⟩;obtain⟨h1,h2⟩:=live c hc;exact h1 (R.inj c b r' r g hr' hr h2 hd ho hg)
 have hdat:∀r,ρ b=some r->RV ρ w (Free N ρ (CX b (.t (.lst sz es)) h)) (.t (.lst sz es)) r.v:=by
  intro r hr;obtain⟨fp,hT,_,hg⟩:=TL R hr hb;obtain⟨r',h1,h2⟩:=R.blk b hd;rw[hr]at h1;cases h1;rw[hb]at h2;obtain⟨_,_,_,_,_,_,_,hfree,_⟩:=h2;exact .t hT λg hg'=>(hg g hg').elim (λq=>hfr r hr g q) λq=>G3 (hfree g q)
 have hK:W4 ρ w (Free N ρ h) ρ w (Free N ρ (CX b (.t (.lst sz es)) h)):=⟨λc r hr=>⟨r,hr,rfl⟩,λg _ hg=>⟨G3 hg,rfl⟩⟩;refine⟨⟨R.hb,R.hN,λc r g hr hc ho=>R.hO c r g hr (live c hc).2 ho,λc hc=>?_,λc c' r r' g hr hr' hc hc'=>R.inj c c' r r' g hr hr' (live c hc).2 (live c' hc').2,λc c' r r' g hr hr' hc hc'=>?_⟩,hdat⟩
 .obtain⟨h1,h2⟩:=live c hc;obtain⟨r,hr,hx⟩:=R.blk c h2;refine⟨r,hr,?_⟩;rw[sP,Yb h1]
  cases e:gt h c with
  |box cs =>
   rw[e]at hx;obtain⟨g,c',e',hv,hb',hh,q1,q2⟩:=hx
   exact⟨g,c',e',hv,hb',hh,q1.sb (λ_=>G3) hdat,q2⟩
  |dead=>exact absurd e h2
  |arr a1 a2 a3 a4=>rw[e]at hx;exact hx.keep hK λ_ _=>rfl
 .have f:∀c,XG (gt (CX b (.t (.lst sz es)) h) c)=true->XG (gt h c)=true:=by
   intro c hc;rw[sP]at hc;split at hc
   .cases hc
   .rwa [ZEO]at hc
  exact R.apart c c' r r' g hr hr' (f c hc) (f c' hc')
end
theorem AL.fzS{N:Bu}{base:Nat}{w0:World}{nt:Nat}{ts:List (Array Value)}{ρ:Map}{s s':S}{a:Act}{w:World}(hS:AL N base w0 nt ts ρ s a w){b:Nat}(hs:Go.AM.fzS b s=some s') :
  AL N base w0 nt ts ρ s' a w/\W4 ρ w (Free N ρ s.h) ρ w (Free N ρ s'.h)/\s'.h.length=s.h.length:=by
 unfold Go.AM.fzS at hs;split at hs
 .rename_i el sz fr es hb;cases hs;obtain⟨R,hd⟩:=Eb hS.rel hb;have hl:b<s.h.length:=G2 (by rw[hb];intro hc;cases hc);refine⟨⟨R,λx=>?_,?_,?_,hS.defers,hS.size,hS.below,hS.kn,λg hg hz=>⟨G3 (hS.fz g hg hz).1,(hS.fz g hg hz).2⟩⟩,⟨λc r hr=>⟨r,hr,rfl⟩,λg _ hg=>⟨G3 hg,rfl⟩⟩,ZrE hl⟩
  .show RV _ _ _ (lk x (IB b _ s.env)) _;rw[C5];exact(hS.env x).sb (λ_=>G3) hd
  .show UK _ _ _ (s.stk.map _) _;have hk:=hS.stk;generalize s.stk=st at hk;generalize ts=tt at hk
   induction st generalizing tt with
   |nil=>cases tt<;>exact hk
   |cons e st ih =>
    cases tt with
    |nil=>exact hk
    |cons t tt =>
     refine⟨λx=>?_,ih _ hk.2⟩;rw[C5];exact(hk.1 x).sb (λ_=>G3) hd
  .intro c hc;exact hS.dom c (by rw[ZrE hl]at hc;exact hc)
 .cases hs
theorem AL.fzVs{N:Bu}{base:Nat}{w0:World}{nt:Nat}{ts:List (Array Value)}{ρ:Map}{a:Act}{w:World}:∀(vs:XQ) {s:S},AL N base w0 nt ts ρ s a w->AL N base w0 nt ts ρ (Go.AM.fzVs vs s) a w
 |[],_,hS=>hS
 |v::vs,s,hS=>by
  cases v with
  |own b =>
   simp only[Go.AM.fzVs]
   cases h:Go.AM.fzS b s with
   |none=>exact AL.fzVs vs hS
   |some s'=>exact AL.fzVs vs (hS.fzS h).1
  |_=>exact AL.fzVs vs hS
theorem AL.fzO{N:Bu}{base:Nat}{w0:World}{nt:Nat}{ts:List (Array Value)}{ρ:Map}{a:Act}{w:World}{s:S}(o:MO)(hS:AL N base w0 nt ts ρ s a w):AL N base w0 nt ts ρ (Go.AM.fzO o s) a w:=by
 unfold Go.AM.fzO
 grind [AL.fzVs]
section
variable{P:Program}{N:Bu}{base:Nat}{w0:World}{nt:Nat}{ts:List (Array Value)}{inl:V3}
theorem Z3A{Γ:CS}(hΓ:Γ=W5 P){ops:Array Oper}{Qc:Exit->Act->World->Prop}{K:S->Prop}
  (hQ:∀s a w ρ,K s->AL N base w0 nt ts ρ s a w->Qc .normal a w):∀(l:List Oper) (os:List MO),AW (B6 P inl nt ops) l=some os->∀(s:S) (a:Act) (w:World) (ρ:Map),Ji Γ os s K->AL N base w0 nt ts ρ s a w->wpList P ops Qc l a w
 |[],os,hm,s,a,w,ρ,hr,hS=>by cases hm;exact hQ s a w ρ hr hS
 |o::l,os,hm,s,a,w,ρ,hr,hS=>by
  obtain⟨m,ms,h1,h2,rfl⟩:=KA hm;obtain⟨hk,hdst,hd,hguard⟩:=Zr6 h1;simp only[Ji]at hr;replace hS:=hS.fzO m;generalize Go.AM.fzO m s=s at hr hS;have ih:=Z3A hΓ hQ l ms h2;have run:BB Γ m s (λs'=>Ji Γ ms s' K)->o.wp P a w (wpList P ops Qc l) Qc:=by
   intro hrun;obtain⟨v,u,hop,hK⟩:=Z3r hrun;rw[hΓ]at hop;refine TY hk hS.env hS.rel (nx:=s.h.length) (.inr (hS.dom _ (Yj _))) (λb _ hb=>hS.dom b hb) hop λval w' ρ' hA=>?_
   exact ih _ _ _ ρ' hK (by rw[hdst];exact hS.after hA hd)
  have skip:Ji Γ ms { s with env:=put m.dst (.tup []) s.env } K->wpList P ops Qc l (a.put o.dst undef) w:=λhK=>ih _ _ _ ρ hK (by rw[hdst];exact hS.skip hd)
  refine wpList_step λK' hK'=>?_
  have run':BB Γ m s (λs'=>Ji Γ ms s' K)->o.wp P a w K' Qc:=λh=>Oper.wp_mono hK' (run h)
  rcases hguard with⟨hg1,hg2⟩|⟨j,b,d,hg1,hg2,hg3⟩
  .simp only[DP,hg2]at hr;simp only[Region.wanted,hg1,if_true];exact run' hr
  .have hw:=Zr7 hS.env hg1 hg2;simp only[DP,hg3]at hr
   grind
end
open Go.RowKit (Below)
section
variable{P:Program}{N:Bu}{base:Nat}{w0:World}{nt:Nat}{ts:List (Array Value)}{inl:V3}{ρ:Map}{s:S}{a:Act}{w:World}
theorem UK.ren{ρ ρ':Map}{w:World}{F F':Nat->Prop}(f:Nat->Nat)(hF:∀g,g<w.heap.size->F g->F' g):∀{es:List Env} {ts:List (Array Value)},UK ρ w F es ts->(∀b∈es.flatMap K7,∀r,ρ b=some r->ρ' (f b)=some r)->UK ρ' w F' (es.map (CW f)) ts
 |[],[],_,_=>trivial
 |_::_,_::_,h,hr=>⟨h.1.ren f (λb hb=>hr b (by simp only[Yc4,Yl];exact .inl hb)) hF,UK.ren f hF h.2 λb hb=>hr b (by simp only[Yc4,Yl];exact .inr hb)⟩
 |[],_::_,h,_=>h.elim
 |_::_,[],h,_=>h.elim
theorem Z3B(hS:AL N base w0 nt ts ρ s a w)(keep:V3):∃ρ',AL N base w0 nt ts ρ' (Q2 keep s) a w:=by
 unfold Q2;simp only;split
 .rename_i hc;obtain⟨h1,h2⟩:=sG hc;have hnd:(X7 s.h 200 (K7 (Iz s.h (rst keep s.env))++s.stk.flatMap K7) []).Nodup:=sE _ _ _ Y8;generalize X7 s.h 200 (K7 (Iz s.h (rst keep s.env))++s.stk.flatMap K7) []=ids at *
  refine⟨A9 ρ ids,hS.rel.ren hnd h2,?_,?_,?_,hS.defers,hS.size,hS.below,hS.kn,λg hg hz=>⟨TU (hS.fz g hg hz).1,(hS.fz g hg hz).2⟩⟩
  .exact((hS.env.rst keep).scrub (h:=s.h)).ren _ (λb hb r hr=>by rw[TT (h1 b (by simp[hb]))];exact hr) λg _ hg=>TU hg
  .exact hS.stk.ren _ (λg _ hg=>TU hg) λb hb r hr=>by rw[TT (h1 b (Yl.2 (.inr hb)))];exact hr
  .simp_all [Zrw]
 .exact⟨ρ,hS.rel,λ_=>.top _,hS.stk,hS.dom,hS.defers,hS.size,hS.below,hS.kn,hS.fz⟩
def PQ(N:Bu)(base:Nat)(w0:World)(nt:Nat)(ts:List (Array Value))(Q:X->S->Prop):Exit->Act->World->Prop
 |.normal,a,w=>∃s ρ,Q .n s/\AL N base w0 nt ts ρ s a w
 |.exit id,a,w=>∃s ρ,Q (.x id) s/\AL N base w0 nt ts ρ s a w
 |.ret,a,w=>∃s ρ,Q .r s/\AL N base w0 nt ts ρ s a w
 |_,_,_=>False
theorem AL.rst(hS:AL N base w0 nt ts ρ s a w)(keep:V3):AL N base w0 nt ts ρ { s with env:=rst keep s.env } a w :=
 ⟨hS.rel,hS.env.rst keep,hS.stk,hS.dom,hS.defers,hS.size,hS.below,hS.kn,hS.fz⟩
theorem Ec{Γ:CS}(hΓ:Γ=W5 P):∀(c:Code) (ks:List (V3)) (m:Za) (ks':List (V3)),comp P inl nt c ks=some (m,ks')->∀(Q:X->S->Prop) (s:S) (a:Act) (w:World) (ρ:Map),
  Wc Γ m Q s->AL N base w0 nt ts ρ s a w->c.wp P (PQ N base w0 nt ts Q) a w:=by
 intro c
 induction c with
 |skip =>
  intro ks m ks' hc Q s a w ρ hW hS;simp[comp]at hc;obtain⟨rfl,rfl⟩:=hc
  exact wp_skip ⟨s,ρ,hW,hS⟩
 |region id ops draw =>
  intro ks m ks' hc Q s a w ρ hW hS
  cases ks with
  |nil=>simp[comp]at hc
  |cons k ks =>
   simp only[comp]at hc;split at hc
   .rename_i os hos;split at hc
    .rename_i Ee;subst Ee;split at hc
     .rename_i hcond;cases hc;split at hW
      .simp only[Wc]at hW;exact Z38 hΓ hos hcond.1 hcond.2.1 (λs a w ρ hq hS=>⟨_,ρ,hq,hS.rst k⟩) hW (AL.fzVs _ hS)
      .simp only[Wc]at hW;exact Z38 hΓ hos hcond.1 hcond.2.1 (λs a w ρ hq hS=>⟨_,ρ,hq,hS.rst k⟩) hW hS
     .cases hc
    .rename_i Ee;cases hc;have IT:draw=false:=by simpa using Ee
     subst IT;split at hW
     .simp only[Wc]at hW;exact wp_region_list (Z3A hΓ (λs a w ρ hq hS=>⟨_,ρ,hq,hS.rst k⟩) ops.toList os hos s a w ρ hW hS)
     .simp only[Wc]at hW;exact wp_region_list (Z3s hΓ (λs a w ρ hq hS=>⟨_,ρ,hq,hS.rst k⟩) ops.toList os hos s a w ρ hW hS)
   .cases hc
 |seq x y ihx ihy =>
  intro ks m ks' hc Q s a w ρ hW hS;simp only[comp]at hc;split at hc
  .rename_i mx k1 h1;split at hc
   .rename_i my k2 h2;cases hc;simp only[Wc]at hW;refine wp_seq (wp_mono (ihx ks mx k1 h1 _ s a w ρ hW hS) ?_);intro e a' w' hq
    cases e with
    |normal=>obtain⟨s',ρ',h3,h4⟩:=hq;exact ihy k1 my _ h2 Q s' a' w' ρ' h3 h4
    |exit id=>exact hq
    |ret=>exact hq
    |goto l=>exact hq.elim
    |panic ch=>exact hq.elim
    |outgrown=>exact hq.elim
   .cases hc
  .cases hc
 |cond o x y ihx ihy =>
  intro ks m ks' hc Q s a w ρ hW hS;simp only[comp]at hc;split at hc
  .rename_i o' mx k1 ho h1;split at hc
   .rename_i my k2 h2;cases hc;simp only[Wc]at hW;have hr:=Xi hS.env ho;split at hW
    .rename_i b hb;rw[hb]at hr;refine wp_cond hr.bool_inv ?_
     grind
    .exact hW.elim
   .cases hc
  .cases hc
 |block id b ih =>
  intro ks m ks' hc Q s a w ρ hW hS;simp only[comp]at hc;split at hc
  .rename_i mb k1 h1;cases hc;simp only[Wc]at hW;refine wp_block (wp_mono (ih ks mb _ h1 _ s a w ρ hW hS) ?_);intro e a' w' hq
   cases e with
   |normal=>exact hq
   |exit id' =>
    obtain⟨s',ρ',h3,h4⟩:=hq;simp only[Exit.inBlock];simp only at h3;split at h3
    .rename_i hid;rw[Ya hid];exact⟨s',ρ',h3,h4⟩
    .rename_i hid;rw[Yb hid];exact⟨s',ρ',h3,h4⟩
   |ret=>exact hq
   |goto l=>exact hq.elim
   |panic ch=>exact hq.elim
   |outgrown=>exact hq.elim
  .cases hc
 |loop b ih =>
  intro ks m ks' hc Q s a w ρ hW hS
  cases ks with
  |nil=>simp[comp]at hc
  |cons k ks =>
   simp only[comp]at hc;split at hc
   .rename_i mb k1 h1;cases hc;simp only[Wc,GS]at hW;obtain⟨I,μ,h0,IU⟩:=hW;obtain⟨ρ0,hS0⟩:=Z3B hS k;refine wp_loop_ghost (λn a w=>∃s ρ,I s/\μ s=n/\AL N base w0 nt ts ρ s a w) (μ (Q2 k s)) ⟨_,ρ0,h0,rfl,hS0⟩ ?_;rintro n a' w' ⟨s1,ρ1,hI,rfl,hS1⟩;refine wp_mono (ih ks mb _ h1 _ s1 a' w' ρ1 (IU s1 hI) hS1) ?_;intro e a2 w2 hq
    cases e with
    |normal =>
     obtain⟨s2,ρ2,⟨h3,h4⟩,h5⟩:=hq;obtain⟨ρ3,h6⟩:=Z3B h5 k
     exact⟨μ (Q2 k s2),h4,_,ρ3,h3,rfl,h6⟩
    |exit id=>exact hq
    |ret=>exact hq
    |goto l=>exact hq.elim
    |panic ch=>exact hq.elim
    |outgrown=>exact hq.elim
   .cases hc
 |exit id =>
  intro ks m ks' hc Q s a w ρ hW hS;simp[comp]at hc;obtain⟨rfl,rfl⟩:=hc
  exact wp_exit ⟨s,ρ,hW,hS⟩
 |ret =>
  intro ks m ks' hc Q s a w ρ hW hS;simp[comp]at hc;obtain⟨rfl,rfl⟩:=hc
  exact wp_ret ⟨s,ρ,hW,hS⟩
 |rangeFunc f ps x y _ _=>intro ks m ks' hc;cases ks<;>simp[comp]at hc
 |scope b _=>intro ks m ks' hc;cases ks<;>simp[comp]at hc
 |label l=>intro ks m ks' hc;cases ks<;>simp[comp]at hc
 |goto l=>intro ks m ks' hc;cases ks<;>simp[comp]at hc
 |refuse wy=>intro ks m ks' hc;cases ks<;>simp[comp]at hc
end
open Go.RowKit (Below)
section
variable{P:Program}{N:Bu}{base:Nat}{w0:World}{nt:Nat}{ts:List (Array Value)}{inl:V3}{w:World}{ρ:Map}{s:S}{fn:Func}{v r:AV}{args:XQ}{ks:List (V3)}{m:Ab}{a:Act}{vs:Array Value}{f k:Nat}{h0 hr h:V2}
def T9(tmps:Array Value):ResultVar->Sem Value
 |.tmp t=>pure (tmps.getD t undef)
 |.cell ad t=>do loadVar t (<-asAddr (tmps.getD ad undef))
theorem Z3C(fn:Func)(tmps:Array Value):results fn tmps=(do let vs <-fn.results.mapM (T9 tmps);pure (if h:vs.size=1 then vs[0]else .tuple vs)):=by
 unfold results;congr 1
theorem ZEP(hS:AL N base w0 nt ts ρ s a w){rv:ResultVar}{r:Cr}(hc:IE P rv=some r)(hv:JW s r=some v) :
  ∃val,(T9 a.tmps rv).run P w=.ok val w/\RV ρ w (Free N ρ s.h) v val:=by
 cases rv with
 |tmp t =>
  simp[IE]at hc;subst hc;simp[JW]at hv;subst hv
  exact⟨_,rfl,hS.env t⟩
 |cell ad t =>
  simp only[IE]at hc;obtain⟨n,hn,rfl⟩:=Yr.1 hc;simp only[JW]at hv;split at hv
  .rename_i b off hb;split at hv
   .rename_i cs hgb;have hr:=hS.env ad;rw[hb]at hr;obtain⟨p,hp⟩:∃g,a.tmps.getD ad undef=.pointer (some ⟨g,off,none⟩)/\∃r,ρ b=some r/\r.v=.pointer (some ⟨g,0,none⟩):=by
     generalize a.tmps.getD ad undef=x at hr
     cases hr with
     |ptr h1 h2=>exact⟨_,rfl,_,h1,h2⟩
    obtain⟨hp1,r,hr1,hr2⟩:=hp;obtain⟨r',h1,h2⟩:=hS.rel.blk b (by rw[hgb];intro hc;cases hc);rw[hr1]at h1;cases h1;rw[hgb]at h2;obtain⟨g',c,te,hv2,_,hh,hcs,hone⟩:=h2;rw[hr2]at hv2;cases hv2;obtain⟨val,h3,h4⟩:=Z2O (P:=P) hn hh hcs hone hv;exact⟨val,by simp only[T9,Sem.run_bind,hp1,asAddr,Sem.run_pure,Result.andThen_ok,h3],h4⟩
   .cases hv
  .cases hv
theorem Z3D{ρ:Map}{s:S}{a:Act}{w:World}(hS:AL N base w0 nt ts ρ s a w):∀(l:List ResultVar) (rs:List Cr),AW (IE P) l=some rs->∀vs,UH s rs=some vs->
  ∃vals,(l.mapM (T9 a.tmps)).run P w=.ok vals w/\AE ρ w (Free N ρ s.h) vs vals
 |[],rs,hm,vs,hv=>by cases hm;simp[UH]at hv;subst hv;exact⟨[],Om,.nil⟩
 |rv::l,rs,hm,vs,hv=>by
  obtain⟨r,rs',h1,h2,rfl⟩:=KA hm;simp only[UH]at hv;split at hv
  .rename_i v vs' h3 h4;cases hv;obtain⟨val,h5,h6⟩:=ZEP hS h1 h3;obtain⟨vals,h7,h8⟩:=Z3D hS l rs' h2 vs' h4;refine⟨val::vals,?_,.cons h6 h8⟩
   simp_all
  .cases hv
theorem ZEQ(hS:AL N base w0 nt ts ρ s a w){rs:List Cr}(hm:AW (IE P) fn.results.toList=some rs)(hv:Cs rs s=some v) :
  ∃val,(results fn a.tmps).run P w=.ok val w/\RV ρ w (Free N ρ s.h) v val:=by
 unfold Cs at hv;have key:∀vs,UH s rs=some vs->∃vals,(fn.results.mapM (T9 a.tmps)).run P w=.ok vals.toArray w/\AE ρ w (Free N ρ s.h) vs vals:=by
  intro vs hvs;obtain⟨vals,h1,h2⟩:=Z3D hS fn.results.toList rs hm vs hvs
  simp_all [Array.mapM_eq_mapM_toList]
 split at hv
 .rename_i v' hvs;cases hv;obtain⟨vals,h1,h2⟩:=key _ hvs;have hl:=h2.length
  match vals,hl,h1,h2 with
  |[val],_,h1,h2 =>
   cases h2 with
   |cons h3 _ =>
    refine⟨val,?_,h3⟩;rw[Z3C,Sem.run_bind,h1];simp
 .rename_i vs hne hvs;cases hv;obtain⟨vals,h1,h2⟩:=key _ hvs;have hl:=h2.length;refine⟨.tuple vals.toArray,?_,.tup (by simpa using h2)⟩;rw[Z3C,Sem.run_bind,h1];have hn1:vals.length≠1:=by
   intro hc;rw[hc]at hl
   match vs,hl,hne with
   |[v0],_,hne=>exact hne v0 rfl
  simp[hn1]
 .cases hv
theorem Ef(args:XQ)(k i:Nat):lk (k+i) (K8 args k)=(args[i]?).getD .top:=by
 induction args generalizing k i with
 |nil=>rfl
 |cons v args ih =>
  simp only[K8,lk]
  cases i with
  |zero=>simp
  |succ i =>
   rw[Ao];have:=ih (k+1) i
   grind
theorem Eg{F:Nat->Prop}(hv:AE ρ w F args vs.toList)(n:Nat):XO ρ w F (K8 args 0) (vs++Array.replicate n undef):=by
 intro s;have h1:=Ef args 0 s;rw[Yw]at h1;rw[h1]
 cases hs:args[s]? with
 |none=>exact .top _
 |some a =>
  obtain⟨v,h2,h3⟩:=hv.at hs;have h2':vs[s]?=some v:=by simpa using h2
  have hlt:s<vs.size:=(Yc3.1 h2').1
  have:(vs++Array.replicate n undef).getD s undef=v:=by
   simp_all [Ix,Array.getElem?_append_left]
  rw[this];exact h3
theorem UA(d:TypeId->Bool)(s:S):∀(rs:List Cr) (CN:List TypeId),UH s (Co P d rs CN)=UH s rs
 |[],CN=>by cases CN<;>rfl
 |r::rs,[]=>by cases r<;>rfl
 |.tmp t::rs,ty::CN=>by simp only[Co,UH,JW,UA d s rs CN]
 |.cell a n::rs,ty::CN=>by simp only[Co,UH,JW,UA d s rs CN]
 |.tmpO t l::rs,ty::CN=>by simp only[Co,UH,JW,UA d s rs CN]
 |.cellO a n l::rs,ty::CN=>by simp only[Co,UH,JW,UA d s rs CN]
theorem ZER(hc:GV P inl ks fn=some m):∃c,fn.body=some c/\comp P inl fn.ntmps c ks=some (m.body,[])/\(∃rs,AW (IE P) fn.results.toList=some rs/\∀s,UH s m.res=UH s rs)/\m.nt=fn.ntmps/\m.np<=m.nt:=by
 unfold GV at hc
 grind [UA]
theorem ZES{Γ:CS}(hΓ:Γ=W5 P)(hf:P.funcs[f]?=some fn)(hc:GV P inl ks fn=some m)(hl:args.length=m.np){K:AV->S->Prop}
  (hW:Wc Γ m.body (B5 m.res K) { s with env:=K8 args 0 }) (hR:Rel N base ρ s.h w) (hst:UK ρ w (Free N ρ s.h) s.stk ts) (hdom:∀b,s.h.length<=b->ρ b=none)
  (hv:AE ρ w (Free N ρ s.h) args vs.toList) (hz:∀g,N.z g->Free N ρ s.h g) :
  Calls P f vs w λe w'=>∃val v s' ρ',e=.returned val/\K v s'/\RV ρ' w' (Free N ρ' s'.h) v val/\Rel N base ρ' s'.h w'/\UK ρ' w' (Free N ρ' s'.h) s'.stk ts/\(∀b,s'.h.length<=b->ρ' b=none)/\Below base w w'/\
   (∀g,g<w.heap.size->¬N.a g->w'.heap[g]?=w.heap[g]?)/\∀g,g<w.heap.size->N.z g->Free N ρ' s'.h g/\w'.heap[g]?=w.heap[g]?:=by
 obtain⟨c,hb,hcc,⟨rs,hres,hrr⟩,hnt,hnp⟩:=ZER hc;have hvl:=hv.length;simp only[Y7]at hvl;refine calls_of_wp hf hb (wp_mono (Ec (N:=N) (base:=base) (w0:=w) (ts:=ts) hΓ c ks m.body [] hcc _ _ _ w ρ hW ⟨hR,Eg hv _,hst,hdom,rfl,by simp;omega,Below.refl _ _,λ_ _ _=>rfl,λg _ hg=>⟨hz g hg,rfl⟩⟩) ?_);intro e a' w' hq;have fin:∀s' ρ',B5 m.res K .n s'->AL N base w fn.ntmps ts ρ' s' a' w'->a'.defers=[]/\∃v,(results fn a'.tmps).run P w'=.ok v w'/\∃val v_1 s' ρ',Ending.returned v=.returned val/\K v_1 s'/\RV ρ' w' (Free N ρ' s'.h) v_1 val/\Rel N base ρ' s'.h w'/\
   UK ρ' w' (Free N ρ' s'.h) s'.stk ts/\(∀b,s'.h.length<=b->ρ' b=none)/\Below base w w'/\(∀g,g<w.heap.size->¬N.a g->w'.heap[g]?=w.heap[g]?)/\∀g,g<w.heap.size->N.z g->Free N ρ' s'.h g/\w'.heap[g]?=w.heap[g]?:=by
  intro s' ρ' hQ hS;simp only[B5]at hQ;split at hQ
  .rename_i v hvr;obtain⟨val,h1,h2⟩:=ZEQ (rs:=rs) hS hres (by unfold Cs at hvr|-;rw[<-hrr];exact hvr);exact⟨hS.defers,val,h1,val,v,s',ρ',rfl,hQ,h2,hS.rel,hS.stk,hS.dom,hS.below,hS.kn,hS.fz⟩
  .exact hQ.elim
 cases e with
 |normal=>obtain⟨s',ρ',h1,h2⟩:=hq;exact fin s' ρ' h1 h2
 |ret=>obtain⟨s',ρ',h1,h2⟩:=hq;exact fin s' ρ' h1 h2
 |exit id=>obtain⟨s',ρ',h1,h2⟩:=hq;exact h1.elim
 |goto l=>exact hq.elim
 |panic ch=>exact hq.elim
 |outgrown=>exact hq.elim
theorem ZrF{h:V2}:∀(n:Nat) (todo acc:V3),∃more,X7 h n todo acc=acc++more
 |0,_,acc=>⟨[],by simp[X7]⟩
 |n+1,[],acc=>⟨[],by simp[X7]⟩
 |n+1,c::todo,acc=>by
  simp only[X7];split
  .exact ZrF n todo acc
  .obtain⟨more,hm⟩:=ZrF (h:=h) n (Vu (gt h c)++todo) (acc++[c])
   simp_all
theorem Z3E:∀(bs:V2) (k i:Nat),lk (k+i) (QX bs k)=match bs[i]? with|some (.box _)=>.ptr (k+i) 0|some (.arr _ _ _ _)=>.own (k+i)|_=>.top
 |[],k,i=>by simp[QX,lk]
 |b::bs,k,0=>by cases b<;>simp[QX,lk]
 |b::bs,k,i+1=>by
  simp only[QX,lk];rw[Ao];have:=Z3E bs (k+1) i
  grind
def UB(ρ:Map)(k:Nat):Array Value:=((List.range k).map λi=>match ρ i with|some r=>r.v|none=>undef).toArray
theorem ZrG{i:Nat}{r:Root}(hi:i<k)(hr:ρ i=some r):(UB ρ k).getD i undef=r.v:=by
 simp[UB,hi,hr]
theorem ZET(R:Rel N base ρ h0 w):XO ρ w (Free N ρ h0) (QX h0 0) (UB ρ h0.length):=by
 intro i;have:=Z3E h0 0 i;rw[Yw]at this;rw[this]
 cases hb:h0[i]? with
 |none=>exact .top _
 |some b =>
  have hi:i<h0.length:=(Dq.1 hb).1;have hg:gt h0 i=b:=by simp[gt,hb]
  cases b with
  |dead=>exact .top _
  |box cs =>
   obtain⟨r,h1,h2⟩:=R.blk i (by rw[hg];intro hc;cases hc);rw[hg]at h2;obtain⟨g,c,e,h3,_⟩:=h2;rw[ZrG hi h1,h3]
   exact .ptr h1 h3
  |arr e sz fr es =>
   obtain⟨r,h1,h2⟩:=R.blk i (by rw[hg];intro hc;cases hc);rw[hg]at h2;obtain⟨_,xs,_,h3,_⟩:=h2;rw[ZrG hi h1];exact .own h1 (Z2T h3)
theorem ZEU{ρ0:Map}{val:Value}(R:Rel N base ρ s.h w)(hv:RV ρ w (Free N ρ s.h) v val)(hdom:∀b,s.h.length<=b->ρ b=none){e:Env}(Aae:s.stk=[e])(hE:XO ρ w (Free N ρ s.h) e (UB ρ0 k))(hc:r8 k v s=some (r,hr)) :
  ∃ρ',Rel N base ρ' hr w/\RV ρ' w (Free N ρ' hr) r val/\(∀b,hr.length<=b->ρ' b=none)/\k<=hr.length/\(∀g,Free N ρ s.h g->Free N ρ' hr g)/\∀b r0,b<k->ρ0 b=some r0->∃r1,ρ' b=some r1/\r1.v=r0.v:=by
 unfold r8 at hc;simp only[Aae]at hc;split at hc
 .rename_i hcond;simp only[Yg]at hcond;obtain⟨hcl,hndB⟩:=hcond;obtain⟨h1,h2⟩:=sG hcl;have Aaf:((List.range k).map (Xo s.h e)).Nodup:=TK.1 hndB;have hnd:=sE (h:=s.h) 200 ((((List.range k).map (Xo s.h e)).flatMap λb=>Vu (gt s.h b))++refs (scrub s.h v)) ((List.range k).map (Xo s.h e)) Aaf;obtain⟨more,hpre⟩:=ZrF (h:=s.h) 200 ((((List.range k).map (Xo s.h e)).flatMap λb=>Vu (gt s.h b))++refs (scrub s.h v)) ((List.range k).map (Xo s.h e));generalize X7 s.h 200 ((((List.range k).map (Xo s.h e)).flatMap λb=>Vu (gt s.h b))++refs (scrub s.h v)) ((List.range k).map (Xo s.h e))=ids at *
  cases hc;have hat:∀i,i<k->ids[i]?=some (Xo s.h e i):=by
   grind
  have hkl:k<=ids.length:=by rw[hpre];simp
  -- where a root handed over is
  have hroot:∀i r0,i<k->ρ0 i=some r0->ρ (Xo s.h e i)=none\/∃r1,ρ (Xo s.h e i)=some r1/\r1.v=r0.v:=by
   intro i r0 hi hr0;have hEi:=(hE i).scrub (h:=s.h);rw[ZrG hi hr0]at hEi;unfold Xo
   cases hx:scrub s.h (lk i e)with
   |ptr b off =>
    rw[hx]at hEi
    cases off with
    |zero =>
     right;generalize Aag:r0.v=x at hEi
     cases hEi with
     |ptr q1 q2=>exact⟨_,q1,q2⟩
    |succ off=>left;exact hdom _ Om
   |own b =>
    rw[hx]at hEi;right;generalize Aag:r0.v=x at hEi
    cases hEi with
    |own q1 q2=>exact⟨_,q1,rfl⟩
   |_=>left;exact hdom _ Om
  let ρ':Map:=λb=>if hb:b<k/\A9 ρ ids b=none then ρ0 b else A9 ρ ids b
  have hlive:∀b,gt (ids.map λb=>Bi (λb=>idx b ids 0) (gt s.h b)) b≠.dead->ρ' b=A9 ρ ids b:=by
   intro b hb;obtain⟨r1,q1,_⟩:=(R.ren hnd h2).blk b hb
   grind
  have hsome:∀b r,A9 ρ ids b=some r->ρ' b=some r:=by
   grind
  have G4:∀g,Free N (A9 ρ ids) (ids.map λb=>Bi (λb=>idx b ids 0) (gt s.h b)) g->Free N ρ' (ids.map λb=>Bi (λb=>idx b ids 0) (gt s.h b)) g:=by
   intro g hg;refine⟨hg.1,λb r hb hd=>?_⟩;rw[hlive b hd]at hb;exact hg.2 b r hb hd
  have hKp:W4 (A9 ρ ids) w (Free N (A9 ρ ids) (ids.map λb=>Bi (λb=>idx b ids 0) (gt s.h b))) ρ' w (Free N ρ' (ids.map λb=>Bi (λb=>idx b ids 0) (gt s.h b))) :=
   ⟨λb r hb=>⟨r,hsome b r hb,rfl⟩,λg _ hg=>⟨G4 g hg,rfl⟩⟩
  have R':=R.ren hnd h2;refine⟨ρ',⟨R'.hb,R'.hN,?_,?_,?_,?_⟩,?_,?_,by simpa using hkl,λg hg=>G4 g (TU hg),?_⟩
  .intro b r g hb hd;rw[hlive b hd]at hb;exact R'.hO b r g hb hd
  .intro b hd;obtain⟨r1,q1,q2⟩:=R'.blk b hd;exact⟨r1,hsome b r1 q1,q2.keep hKp λ_ _=>rfl⟩
  .intro b b' r1 r2 g hb hb' hd hd';rw[hlive b hd]at hb;rw[hlive b' hd']at hb';exact R'.inj b b' r1 r2 g hb hb' hd hd'
  .intro b b' r1 r2 g hb hb' hf hf';rw[hlive b (JY hf)]at hb;rw[hlive b' (JY hf')]at hb';exact R'.apart b b' r1 r2 g hb hb' hf hf'
  .refine RV.keep hKp ((hv.scrub (h:=s.h)).ren _ (λb hb r hr=>?_) λg _ hg=>TU hg)
   simp_all [TT,Yl]
  .grind [List.length_map,Zrw]
  .intro b r0 hb hr0;rcases hroot b r0 hb hr0 with hn|⟨r1,q1,q2⟩
   .refine⟨r0,?_,rfl⟩;show(if hb:b<k/\A9 ρ ids b=none then ρ0 b else A9 ρ ids b)=some r0;rw[dif_pos ⟨hb,by simp[A9,hat b hb,hn]⟩];exact hr0
   .exact⟨r1,hsome b r1 (by simp[A9,hat b hb,q1]),q2⟩
 .cases hc
theorem Z3F:∀(l:V2) (x:AK),stB l l.length x=l++[x]
 |[],x=>rfl
 |y::l,x=>by simp[stB,Z3F l x]
structure Own (N:Bu) (base:Nat) (ρ:Map) (h:V2) (w:World) (ρ':Map) (h':V2):Prop where
 rel:Rel N base ρ' h' w
 keep:W4 ρ w (Free N ρ h) ρ' w (Free N ρ' h')
 dom:∀b,h'.length<=b->ρ' b=none
theorem Own.trans{ρ1 ρ2:Map}{h1 h2:V2}(a:Own N base ρ h w ρ1 h1)(b:Own N base ρ1 h1 w ρ2 h2):Own N base ρ h w ρ2 h2 :=
 ⟨b.rel,a.keep.trans b.keep (Yj _),b.dom⟩
theorem Z3G(R:Rel N base ρ h w)(hd:∀b,h.length<=b->ρ b=none)(e sz:Nat) :
  Own N base ρ h w (Ay ρ h.length ⟨.slice none 0 0,[]⟩) (h++[.arr e (sz+1) true []]):=by
 have hp:=IG R (n:=h.length) (ks:=[]) (x:=.arr e (sz+1) true []) (r:=⟨.slice none 0 0,[]⟩) (row:=none) (w':=w)
  (by intro r0 h0;rw[hd _ (Yj _)]at h0;cases h0) ⟨rfl,rfl,rfl,Yj _,λ_ _ _=>rfl⟩ (by intro g' hg';cases hg') (by intro g' hg';cases hg')
  (λ_=>⟨e,[],.inr rfl,World.ownsRow_nil w base e (sz+1),Nat.succ_pos _,Om,.nil,Om,λ_=>⟨Y8,Om⟩⟩)
  (by intro _ x hx;cases hx)
 have hu:upd h (kill []++[(h.length,AK.arr e (sz+1) true [])])=h++[.arr e (sz+1) true []]:=by simp only[kill,Dr,EZ,upd,Z3F]
 rw[hu]at hp;refine⟨hp.1,hp.2.1,λb hb=>?_⟩;simp only[Yu,Yx,Df]at hb;simp only[Ay]
 grind
theorem ZrH{ρ:Map}{h:V2}{w:World}{F:Nat->Prop}{v:Value}(h1:RV ρ w F (.t .nil) v):v=.slice none 0 0:=by
 cases h1 with|t h _=>cases h;rfl
theorem ZEV:∀(l:List (Option (Nat×Nat))) (cs:XQ) (ρ:Map) (h:V2) (vs:V4),Rel N base ρ h w->(∀b,h.length<=b->ρ b=none)->AE ρ w (Free N ρ h) cs vs->
  ∃ρ',Own N base ρ h w ρ' (Q3 l cs h).2/\AE ρ' w (Free N ρ' (Q3 l cs h).2) (Q3 l cs h).1 vs:=by
 intro l cs ρ h
 induction l,cs,h using Q3.induct generalizing ρ with
 |case1 e sz ps cs h cs' h' heq ih =>
  intro vs R hd hv
  cases hv with|cons q hv =>
  have hs:=ZrH (h:=h) q;subst hs;have A:=Z3G R hd e sz;obtain⟨ρ',B,hv'⟩:=ih _ _ A.rel A.dom (hv.keep A.keep);rw[heq]at B hv';simp only[Q3,heq];refine⟨ρ',A.trans B,.cons ?_ hv'⟩;have hk:Ay ρ h.length ⟨.slice none 0 0,[]⟩ h.length=some ⟨.slice none 0 0,[]⟩:=by simp[Ay]
  exact(RV.own (w:=w) (F:=Free N _ (h++[.arr e (sz+1) true []])) hk rfl).keep B.keep
 |case2 o c ps cs h hne cs' h' heq ih =>
  intro vs R hd hv
  cases hv with|cons q hv =>
  obtain⟨ρ',B,hv'⟩:=ih _ _ R hd hv;rw[heq]at B hv';have he:Q3 (o::c) (ps::cs) h=(ps::cs',h'):=by
   rw[Q3]
   .rw[heq]
   .exact hne
  rw[he]
  exact⟨ρ',B,.cons (q.keep B.keep) hv'⟩
 |case3 cs h =>
  intro vs R hd hv;simp only[Q3]
  exact⟨ρ,⟨R,.refl,hd⟩,hv⟩
 |case4 l h hne =>
  intro vs R hd hv
  cases l with
  |nil=>exact absurd rfl hne
  |cons o l=>simp only[Q3];exact⟨ρ,⟨R,.refl,hd⟩,hv⟩
theorem Z3H(n:Nat)(v:AV)(ρ:Map)(h:V2)(val:Value)(R:Rel N base ρ h w)(hd:∀b,h.length<=b->ρ b=none)(hv:RV ρ w (Free N ρ h) v val) :
  ∃ρ',Own N base ρ h w ρ' (CY n v h).2/\RV ρ' w (Free N ρ' (CY n v h).2) (CY n v h).1 val:=by
 unfold CY;split
 .have hs:=ZrH (h:=h) hv;subst hs;exact⟨ρ,⟨R,.refl,hd⟩,.t (.lst0 _ _ _) λg hg=>by cases hg⟩
 .rename_i b;split
  .rename_i el sz fr es hb;obtain⟨h1,h2⟩:=Eb R hb;have hl:b<h.length:=G2 (by rw[hb];intro hc;cases hc);refine⟨ρ,⟨h1,⟨λc r hr=>⟨r,hr,rfl⟩,λg _ hg=>⟨G3 hg,rfl⟩⟩,λc hc=>hd c (by rw[ZrE hl]at hc;exact hc)⟩,?_⟩
   cases hv with
   |own hr hone=>exact h2 _ hr
  .exact⟨ρ,⟨R,.refl,hd⟩,hv⟩
 .exact⟨ρ,⟨R,.refl,hd⟩,hv⟩
theorem ZrI{w:World}:∀(l:List (Option (Nat×Nat))) (cs:XQ) (ρ:Map) (h:V2) (vs:V4),Rel N base ρ h w->(∀b,h.length<=b->ρ b=none)->AE ρ w (Free N ρ h) cs vs->
  ∃ρ',Own N base ρ h w ρ' (UI l cs h).2/\AE ρ' w (Free N ρ' (UI l cs h).2) (UI l cs h).1 vs
 |[],cs,ρ,h,vs,R,hd,hv=>by
  unfold UI
  exact⟨ρ,⟨R,.refl,hd⟩,hv⟩
 |o::ps,[],ρ,h,vs,R,hd,hv=>by
  have e:UI (o::ps) [] h=([],h):=by rcases o with _|⟨n,_|z⟩<;>rfl
  rw[e]
  exact⟨ρ,⟨R,.refl,hd⟩,hv⟩
 |o::ps,c::cs,ρ,h,[],R,hd,hv=>by cases hv
 |o::ps,c::cs,ρ,h,v0::vs,R,hd,hv=>by
  cases hv with|cons q hv =>
  have go:∃ρ',Own N base ρ h w ρ' (UI ps cs h).2/\AE ρ' w (Free N ρ' (UI ps cs h).2) (c::(UI ps cs h).1) (v0::vs):=by
   obtain⟨ρ',A,B⟩:=ZrI ps cs ρ h _ R hd hv;exact⟨ρ',A,.cons (q.keep A.keep) B⟩
  cases o with
  |none=>simpa only[UI]using go
  |some p =>
   obtain⟨n,z⟩:=p
   cases z with
   |succ z=>simpa only[UI]using go
   |zero =>
    obtain⟨ρ1,A1,B1⟩:=Z3H n c ρ h _ R hd q;obtain⟨ρ',A,B⟩:=ZrI ps cs ρ1 _ _ A1.rel A1.dom (hv.keep A1.keep);simp only[UI];exact⟨ρ',A1.trans A,.cons (B1.keep A.keep) B⟩
theorem sQ(l:List (Option (Nat×Nat)))(v:AV)(ρ:Map)(h:V2)(val:Value)(R:Rel N base ρ h w)(hd:∀b,h.length<=b->ρ b=none)(hv:RV ρ w (Free N ρ h) v val) :
  ∃ρ',Own N base ρ h w ρ' (Cz l v h).2/\RV ρ' w (Free N ρ' (Cz l v h).2) (Cz l v h).1 val:=by
 unfold Cz;split
 .rename_i cs
  cases hv with|agg hv h1 =>
  obtain⟨ρ1,A1,B1⟩:=ZEV l cs ρ h _ R hd hv;obtain⟨ρ',A,B⟩:=ZrI l _ ρ1 _ _ A1.rel A1.dom B1;exact⟨ρ',A1.trans A,.agg B h1⟩
 .split
  .rename_i e sz;split
   .have hs:=ZrH (h:=h) hv;subst hs;have A:=Z3G R hd e sz;exact⟨_,A,RV.own (r:=⟨.slice none 0 0,[]⟩) (by simp[Ay]) rfl⟩
   .exact⟨ρ,⟨R,.refl,hd⟩,hv⟩
  .simp_all [Z3H]
  .exact⟨ρ,⟨R,.refl,hd⟩,hv⟩
theorem UC{w:World}:∀(rs:List Cr) (vs:XQ) (ρ:Map) (h:V2) (vals:V4),Rel N base ρ h w->(∀b,h.length<=b->ρ b=none)->AE ρ w (Free N ρ h) vs vals->
  ∃ρ',Own N base ρ h w ρ' (Qk rs vs h).2/\AE ρ' w (Free N ρ' (Qk rs vs h).2) (Qk rs vs h).1 vals
 |[],vs,ρ,h,vals,R,hd,hv=>by simp only[Qk];exact⟨ρ,⟨R,.refl,hd⟩,hv⟩
 |r::rs,[],ρ,h,vals,R,hd,hv=>by cases r<;>(simp only[Qk];exact⟨ρ,⟨R,.refl,hd⟩,hv⟩)
 |.tmp t::rs,v::vs,ρ,h,vals,R,hd,hv=>by
  cases hv with|cons q hv =>
  obtain⟨ρ',A,B⟩:=UC rs vs ρ h _ R hd hv;simp only[Qk]
  exact⟨ρ',A,.cons (q.keep A.keep) B⟩
 |.cell a n::rs,v::vs,ρ,h,vals,R,hd,hv=>by
  cases hv with|cons q hv =>
  obtain⟨ρ',A,B⟩:=UC rs vs ρ h _ R hd hv;simp only[Qk]
  exact⟨ρ',A,.cons (q.keep A.keep) B⟩
 |.tmpO t l::rs,v::vs,ρ,h,vals,R,hd,hv=>by
  cases hv with|cons q hv =>
  obtain⟨ρ1,A1,B1⟩:=sQ l v ρ h _ R hd q;obtain⟨ρ',A,B⟩:=UC rs vs ρ1 _ _ A1.rel A1.dom (hv.keep A1.keep);simp only[Qk]
  exact⟨ρ',A1.trans A,.cons (B1.keep A.keep) B⟩
 |.cellO a n l::rs,v::vs,ρ,h,vals,R,hd,hv=>by
  cases hv with|cons q hv =>
  obtain⟨ρ1,A1,B1⟩:=sQ l v ρ h _ R hd q;obtain⟨ρ',A,B⟩:=UC rs vs ρ1 _ _ A1.rel A1.dom (hv.keep A1.keep);simp only[Qk];exact⟨ρ',A1.trans A,.cons (B1.keep A.keep) B⟩
theorem ZEW(rs:List Cr)(v:AV)(ρ:Map)(h:V2)(val:Value)(R:Rel N base ρ h w)(hd:∀b,h.length<=b->ρ b=none)(hv:RV ρ w (Free N ρ h) v val) :
  ∃ρ',Own N base ρ h w ρ' (CZ rs v h).2/\RV ρ' w (Free N ρ' (CZ rs v h).2) (CZ rs v h).1 val:=by
 unfold CZ;split
 .simp_all [sQ]
 .simp_all [sQ]
 .cases hv with|tup hv =>
  obtain⟨ρ',A,B⟩:=UC _ _ ρ h _ R hd hv;exact⟨ρ',A,.tup B⟩
 .exact⟨ρ,⟨R,.refl,hd⟩,hv⟩
def Eh(P:Program)(Ae:Nat->Option Ab):Prop:=∀f m,Ae f=some m->∃fn ks inl,P.funcs[f]?=some fn/\GV P inl ks fn=some m/\Jk P f=true
theorem Ei(hf:P.funcs[f]?=some fn)(hcl:Jk P f=true)(hc:GV P inl ks fn=some m)
  (hW:FW (W5 P) m args h0 r hr):W5 P f args h0 r hr:=by
 refine⟨hcl,?_⟩;intro N base w ρ vs hR hdom hv hz;have hb:=ZES (N:=N) (base:=base) (ts:=[UB ρ h0.length]) rfl hf hc hW.1 (s:={ env:=[],stk:=[QX h0 0],h:=h0 }) hW.2 hR ⟨ZET hR,trivial⟩ hdom hv hz;refine hb.mono ?_;rintro e w' ⟨val,v,s',ρ1,rfl,hK,hv',hR',hst,UD,hB,hkn,hfz⟩
 match hs:s'.stk,hst with
 |[e],hst =>
  obtain⟨ρ1',A,hv2⟩:=ZEW m.res v ρ1 s'.h val hR' UD hv';obtain⟨ρ2,h1,h2,h3,h4,h5,h6⟩:=ZEU (s:={ s' with h:=(CZ m.res v s'.h).2 }) A.rel hv2 A.dom hs (λt=>(hst.1 t).keep A.keep) hK;exact⟨val,ρ2,rfl,hB,h1,h2,h3,h4,hkn,λg hg hz'=>⟨h5 g (A.keep.free g (OR hg hB.size) (hfz g hg hz').1).1,(hfz g hg hz').2⟩,h6⟩
end
inductive Fr where
 |seq (b:Za)
 |blk (id:Nat)
 |loop (keep:V3) (b:Za)
 |fin (k:Nat) (rs:List Cr)
inductive Cf where
 |code (c:Za)
 |ops (os:List MO) (keep:V3)
 |opsF (os:List MO) (keep:V3)
 |drw (os:List MO) (Ax:List AN) (before:List (V3)) (keep:V3)
 |out (x:X)
abbrev ZK:=Nat->XQ->V2->XP
def Ej(args:XQ)(nx:Nat):XP->Option (AV×List (Nat×AK))
 |some (r,hr)=>if(UG args || EO r hr)=true then some (shift nx r,Bk nx hr 0)else none
 |none=>none
def Cw(C:ZK)(f:Nat)(args:XQ)(nx:Nat):Option (XQ)->Option (AV×List (Nat×AK))
 |some as=>Ej args nx (C f as [])
 |none=>none
def C6:XP->Option (AV×List (Nat×AK))
 |some (r,hr)=>match Cy hr r with
  |some d=>some (d,[])
  |none=>none
 |none=>none
def O0(C:ZK)(f:Nat)(args:XQ):Option (XQ)->Option (AV×List (Nat×AK))
 |some as=>if UG args=true then C6 (C f as [])else none
 |none=>none
def Ek(ids:V3)(nx:Nat):XP->Option (AV×List (Nat×AK))
 |some (r,h1)=>some (ren (bk ids nx) r,Wd ids nx h1 0)
 |none=>none
def KB(C:ZK)(f:Nat)(vs:XQ)(h:V2)(nx:Nat)(ids:V3):Option (AV×List (Nat×AK)) :=
 if Qh h ids (ZA vs)=true then Ek ids nx (C f (BQ ids vs) (A2 h ids))else none
open Classical in
noncomputable def C7(ids:V3)(h0:V2)(nx:Nat):XP->Option (AV×List (Nat×AK))
 |some (r,h1)=>if h1.take ids.length=h0 then some (ren (bk ids nx) r,Wd ids nx (h1.drop ids.length) ids.length)else none
 |none=>none
noncomputable def O1(C:ZK)(f:Nat)(vs:XQ)(h:V2)(nx:Nat)(ids:V3):Option (AV×List (Nat×AK)) :=
 if Qh h ids (ZA vs)=true then C7 ids (A2 h ids) nx (C f (BQ ids vs) (A2 h ids))else none
def O2(C:ZK)(args:XQ)(h:V2)(nx:Nat):AV->Option (AV×List (Nat×AK))
 |.fn g caps=>KB C g (args++caps) h nx (ZQ h (args++caps))
 |_=>none
noncomputable def Bq(C:ZK)(k:A5)(s:S):Option (AV×List (Nat×AK)):=match k with
 |.call f args=>Cw C f (args.map (ev s.env)) s.h.length (A0 s.h (args.map (ev s.env)))
 |.fcall f args=>O0 C f (args.map (ev s.env)) (A0 s.h (args.map (ev s.env)))
 |.icall f args=>KB C f (args.map (ev s.env)) s.h s.h.length (ZQ s.h (args.map (ev s.env)))
 |.pcall f args=>O1 C f (args.map (ev s.env)) s.h s.h.length (ZQ s.h (args.map (ev s.env)))
 |.dcall f args=>O2 C (args.map (ev s.env)) s.h s.h.length (ev s.env f)
 |k=>Z1 s.h s.h.length s.env k
def UE(o:MO)(s:S):Option (AV×List (Nat×AK))->Option S
 |some (v,u)=>some { s with env:=put o.dst v s.env,h:=upd s.h u }
 |none=>none
noncomputable def B8(C:ZK)(o:MO)(s:S):Option S:=UE o s (Bq C o.op s)
def CO(o:MO)(s:S):S:={ s with env:=put o.dst (.tup []) s.env }
noncomputable def V7(C:ZK)(o:MO)(s:S)(want:Bool):AV->Option S
 |.t (.bool b)=>if b=want then B8 C o s else some (CO o s)
 |.tup []=>some (CO o s)
 |_=>none
noncomputable def Cp(C:ZK)(o:MO)(s:S):Option S:=match o.guard with
 |none=>B8 C o s
 |some (g,want)=>V7 C o s want (lk g s.env)
def G5(o:MO)(s:S):Option (AV×List (Nat×AK))->Option (AN×S)
 |some (v,u)=>some (VI o s (u.map Prod.fst),{ s with env:=put o.dst v s.env,h:=upd s.h u })
 |none=>none
noncomputable def B9(C:ZK)(o:MO)(s:S):Option (AN×S):=G5 o s (Bq C o.op s)
noncomputable def V8(C:ZK)(o:MO)(s:S)(want:Bool):AV->Option (AN×S)
 |.t (.bool b)=>if b=want then B9 C o s else some (VI o s [],CO o s)
 |.tup []=>some (VI o s [],CO o s)
 |_=>none
noncomputable def C8(C:ZK)(o:MO)(s:S):Option (AN×S):=match o.guard with
 |none=>B9 C o s
 |some (g,want)=>V8 C o s want (lk g s.env)
def C9(k:Nat)(rs:List Cr)(s:S):XP:=match Cs rs s with
 |some v=>r9 rs k v s
 |none=>none
abbrev Step:=Sum (List Fr×Cf×S) (XP)
def Cx(ks:List Fr)(os:List MO)(keep:V3):Option S->Step
 |some s=>.inl (ks,.ops os keep,s)
 |none=>.inr none
def O3(ks:List Fr)(os:List MO)(keep:V3):Option S->Step
 |some s=>.inl (ks,.opsF os keep,s)
 |none=>.inr none
def Ww(ks:List Fr)(os:List MO)(Ax:List AN)(before:List (V3))(keep:V3):Option (AN×S)->Step
 |some (f,s)=>.inl (ks,.drw os (Ax++[f]) before keep,s)
 |none=>.inr none
def Q5(ks:List Fr)(x y:Za)(s:S):AV->Step
 |.t (.bool b)=>if b=true then .inl (ks,.code x,s)else .inl (ks,.code y,s)
 |_=>.inr none
noncomputable def step(C:ZK):List Fr->Cf->S->Step
 |ks,.code .skip,s=>.inl (ks,.out .n,s)
 |ks,.code (.reg ops keep),s=>.inl (ks,.ops ops keep,s)
 |ks,.code (.regF ops keep),s=>.inl (ks,.opsF ops keep,s)
 |ks,.code (.drw ops b keep),s=>.inl (ks,.drw ops [] b keep,s)
 |ks,.code (.drwF ops b keep),s=>.inl (ks,.drw ops [] b keep,TH ops s)
 |ks,.code (.seq a b),s=>.inl (.seq b::ks,.code a,s)
 |ks,.code (.cond c x y),s=>Q5 ks x y s (ev s.env c)
 |ks,.code (.block id b),s=>.inl (.blk id::ks,.code b,s)
 |ks,.code (.loop keep b),s=>.inl (.loop keep b::ks,.code b,Q2 keep s)
 |ks,.code (.exit id),s=>.inl (ks,.out (.x id),s)
 |ks,.code .ret,s=>.inl (ks,.out .r,s)
 |ks,.ops [] keep,s=>.inl (ks,.out .n,{ s with env:=rst keep s.env })
 |ks,.ops (o::os) keep,s=>Cx ks os keep (Cp C o s)
 |ks,.opsF [] keep,s=>.inl (ks,.out .n,{ s with env:=rst keep s.env })
 |ks,.opsF (o::os) keep,s=>O3 ks os keep (Cp C o (fzO o s))
 |ks,.drw [] Ax before keep,s=>if JX before Ax=true then .inl (ks,.out .n,{ s with env:=rst keep s.env })else .inr none
 |ks,.drw (o::os) Ax before keep,s=>Ww ks os Ax before keep (C8 C o s)
 |[],.out _,_=>.inr none
 |.fin _ _::_,.out (.x _),_=>.inr none
 |.fin k rs::_,.out .n,s=>.inr (C9 k rs s)
 |.fin k rs::_,.out .r,s=>.inr (C9 k rs s)
 |.seq b::ks,.out .n,s=>.inl (ks,.code b,s)
 |.seq _::ks,.out x,s=>.inl (ks,.out x,s)
 |.blk id::ks,.out (.x i),s=>if i=id then .inl (ks,.out .n,s)else .inl (ks,.out (.x i),s)
 |.blk _::ks,.out x,s=>.inl (ks,.out x,s)
 |.loop keep b::ks,.out .n,s=>.inl (ks,.code (.loop keep b),s)
 |.loop _ _::ks,.out x,s=>.inl (ks,.out x,s)
noncomputable def runN(C:ZK):Nat->List Fr->Cf->S->XP
 |0,_,_,_=>none
 |n+1,ks,cf,s=>match step C ks cf s with
  |.inl (ks',cf',s')=>runN C n ks' cf' s'
  |.inr r=>r
theorem sR{C:ZK}:∀(n:Nat) {m:Nat} {ks:List Fr} {cf:Cf} {s:S} {r:XS},runN C n ks cf s=some r->n<=m->runN C m ks cf s=some r
 |0,_,_,_,_,_,h,_=>by cases h
 |n+1,0,_,_,_,_,_,hm=>by omega
 |n+1,m+1,ks,cf,s,r,h,hm=>by
  simp only[runN]at h|-;split at h
  .rename_i h1;exact sR n h Z
  .rename_i h1;exact h
variable{s:S}{r:XS}{p:Nat->XP}{n:Nat}
theorem El{C:ZK}{m:Nat}{ks:List Fr}{cf:Cf}{r':XS}(h:runN C n ks cf s=some r)(h':runN C m ks cf s=some r'):r=r':=by
 grind [Nat.le_total,sR]
open Classical in
noncomputable def IV(p:XS->Prop):XP:=if h:∃r,p r then some h.choose else none
noncomputable def lim(p:Nat->XP):XP:=IV λr=>∃n,p n=some r
theorem O4(h:lim p=some r):∃n,p n=some r:=by
 unfold lim IV at h;split at h
 .grind
 .cases h
theorem Em(det:∀n m r r',p n=some r->p m=some r'->r=r')(h:p n=some r):lim p=some r:=by
 have hx:∃r,∃n,p n=some r:=⟨r,n,h⟩;unfold lim IV
 grind
theorem ZEX{q:Nat->XP}(h:∀r,(∃n,p n=some r)↔∃n,q n=some r):lim p=lim q:=by
 have:(λr=>∃n,p n=some r)=λr=>∃n,q n=some r:=funext λr=>propext (h r)
 unfold lim;rw[this]
noncomputable def Dy(C:ZK)(ks:List Fr)(cf:Cf)(s:S):XP:=lim λn=>runN C n ks cf s
theorem Z3I{C:ZK}{ks:List Fr}{cf:Cf}(h:Dy C ks cf s=some r):∃n,runN C n ks cf s=some r:=O4 h
theorem Wl{C:ZK}{ks ks':List Fr}{cf cf':Cf}{s':S}(h:step C ks cf s=.inl (ks',cf',s')):Dy C ks cf s=Dy C ks' cf' s':=by
 refine ZEX λr=>⟨?_,?_⟩
 .rintro⟨n,hn⟩
  cases n with
  |zero=>cases hn
  |succ n=>simp only[runN,h]at hn;exact⟨n,hn⟩
 .rintro⟨n,hn⟩;exact⟨n+1,by simp only[runN,h];exact hn⟩
theorem IW{C:ZK}{ks:List Fr}{cf:Cf}{r:XP}(h:step C ks cf s=.inr r):Dy C ks cf s=r:=by
 cases r with
 |some r=>exact Em (λn m r r' h h'=>El h h') (n:=1) (by simp only[runN,h])
 |none =>
  cases hl:Dy C ks cf s with
  |none=>rfl
  |some r =>
   obtain⟨n,hn⟩:=Z3I hl
   cases n with
   |zero=>cases hn
   |succ n=>simp only[runN,h]at hn;cases hn
noncomputable def Ev(C:ZK)(ks:List Fr)(c:Za)(s:S):XP:=Dy C ks (.code c) s
noncomputable def BT(C:ZK)(ks:List Fr)(x:X)(s:S):XP:=Dy C ks (.out x) s
noncomputable def YA(C:ZK)(ks:List Fr)(os:List MO)(keep:V3)(s:S):XP:=Dy C ks (.ops os keep) s
noncomputable def En(C:ZK)(ks:List Fr)(os:List MO)(keep:V3)(s:S):XP:=Dy C ks (.opsF os keep) s
noncomputable def O5(C:ZK)(ks:List Fr)(os:List MO)(Ax:List AN)(before:List (V3))(keep:V3)(s:S):XP:=Dy C ks (.drw os Ax before keep) s
noncomputable def EvL(C:ZK)(ks:List Fr)(keep:V3)(b:Za)(s:S):XP:=Ev C (.loop keep b::ks) b s
noncomputable def EvS(C:ZK)(ks:List Fr)(os:List MO)(keep:V3):Option S->XP
 |some s=>YA C ks os keep s
 |none=>none
noncomputable def YB(C:ZK)(ks:List Fr)(os:List MO)(keep:V3):Option S->XP
 |some s=>En C ks os keep s
 |none=>none
noncomputable def EvF(C:ZK)(ks:List Fr)(os:List MO)(Ax:List AN)(before:List (V3))(keep:V3):Option (AN×S)->XP
 |some (f,s)=>O5 C ks os (Ax++[f]) before keep s
 |none=>none
noncomputable def EvC(C:ZK)(ks:List Fr)(x y:Za)(s:S):AV->XP
 |.t (.bool b)=>if b=true then Ev C ks x s else Ev C ks y s
 |_=>none
section
variable{C:ZK}{ks:List Fr}{s:S}{a b x y:Za}{os:List MO}{o:MO}{keep:V3}{id i:Nat}{Ax:List AN}{before:List (V3)}{k:Nat}{rs:List Cr}
theorem Fn:Ev C ks .skip s=BT C ks .n s:=Wl rfl
theorem IX:Ev C ks (.reg os keep) s=YA C ks os keep s:=Wl rfl
theorem Fo:Ev C ks (.regF os keep) s=En C ks os keep s:=Wl rfl
theorem IY:Ev C ks (.drw os before keep) s=O5 C ks os [] before keep s:=Wl rfl
theorem Fp:Ev C ks (.drwF os before keep) s=O5 C ks os [] before keep (TH os s):=Wl rfl
theorem IZ:Ev C ks (.seq a b) s=Ev C (.seq b::ks) a s:=Wl rfl
theorem Fq{c:AX}:Ev C ks (.cond c x y) s=EvC C ks x y s (ev s.env c):=by
 unfold EvC;split
 .rename_i b hb;cases b
  .exact Wl (by simp[step,hb,Q5])
  .exact Wl (by simp[step,hb,Q5])
 .rename_i hb;refine IW ?_;simp only[step];unfold Q5;simp
theorem Eo:Ev C ks (.block id b) s=Ev C (.blk id::ks) b s:=Wl rfl
theorem Fs:Ev C ks (.loop keep b) s=Ev C (.loop keep b::ks) b (Q2 keep s):=Wl rfl
theorem Zl{B c:Za}(hB:B=c):EvL C ks keep B s=Ev C (.loop keep B::ks) c s:=by subst hB;rfl
theorem Z3J:Ev C ks (.loop keep b) s=EvL C ks keep b (Q2 keep s):=Fs
theorem Ep:O5 C ks [] Ax before keep s=if JX before Ax=true then BT C ks .n { s with env:=rst keep s.env } else none:=by
 split
 .rename_i h;exact Wl (by simp[step,h])
 .rename_i h;exact IW (by simp[step,h])
theorem Ft:Ev C ks (.exit id) s=BT C ks (.x id) s:=Wl rfl
theorem I0:Ev C ks .ret s=BT C ks .r s:=Wl rfl
theorem Fu:YA C ks [] keep s=BT C ks .n { s with env:=rst keep s.env }:=Wl rfl
theorem Er:YA C ks (o::os) keep s=EvS C ks os keep (Cp C o s):=by
 cases h:Cp C o s with
 |some s'=>exact Wl (by simp[step,h,Cx])
 |none =>
  show Dy C ks (.ops (o::os) keep) s=none;exact IW (by simp[step,h,Cx])
theorem Es:En C ks [] keep s=BT C ks .n { s with env:=rst keep s.env }:=Wl rfl
theorem ZEY:En C ks (o::os) keep s=YB C ks os keep (Cp C o (fzO o s)):=by
 cases h:Cp C o (fzO o s)with
 |some s'=>exact Wl (by simp[step,h,O3])
 |none =>
  show Dy C ks (.opsF (o::os) keep) s=none;exact IW (by simp[step,h,O3])
theorem ZEZ:YB C ks os keep (some s)=En C ks os keep s:=rfl
theorem Et:EvS C ks os keep (some s)=YA C ks os keep s:=rfl
theorem Eu:O5 C ks (o::os) Ax before keep s=EvF C ks os Ax before keep (C8 C o s):=by
 cases h:C8 C o s with
 |some p=>obtain⟨f,s'⟩:=p;exact Wl (by simp[step,h,Ww])
 |none =>
  show Dy C ks (.drw (o::os) Ax before keep) s=none;exact IW (by simp[step,h,Ww])
theorem Ew{f:AN}:EvF C ks os Ax before keep (some (f,s))=O5 C ks os (Ax++[f]) before keep s:=rfl
theorem Ex{v:Bool}:EvC C ks x y s (.t (.bool v))=if v=true then Ev C ks x s else Ev C ks y s:=rfl
theorem ZFa:BT C (.fin k rs::ks) .n s=C9 k rs s:=IW rfl
theorem ZFb:BT C (.fin k rs::ks) .r s=C9 k rs s:=IW rfl
theorem ZFc:BT C (.seq b::ks) .n s=Ev C ks b s:=Wl rfl
theorem ZFd:BT C (.seq b::ks) (.x i) s=BT C ks (.x i) s:=Wl rfl
theorem ZFe:BT C (.seq b::ks) .r s=BT C ks .r s:=Wl rfl
theorem ZFf:BT C (.blk id::ks) .n s=BT C ks .n s:=Wl rfl
theorem ZFg:BT C (.blk id::ks) (.x i) s=if i=id then BT C ks .n s else BT C ks (.x i) s:=by
 split
 .rename_i h;exact Wl (by simp[step,h])
 .rename_i h;exact Wl (by simp[step,h])
theorem ZFh:BT C (.blk id::ks) .r s=BT C ks .r s:=Wl rfl
theorem ZFi:BT C (.loop keep b::ks) .n s=Ev C ks (.loop keep b) s:=Wl rfl
theorem ZFj:BT C (.loop keep b::ks) .n s=EvL C ks keep b (Q2 keep s):=by rw[ZFi,Z3J]
theorem ZFk:BT C (.loop keep b::ks) (.x i) s=BT C ks (.x i) s:=Wl rfl
theorem ZFl:BT C (.loop keep b::ks) .r s=BT C ks .r s:=Wl rfl
end
noncomputable def Wr(X:ZK)(Ae:Nat->Option Ab):Nat->ZK
 |0=>λ_ _ _=>none
 |n+1=>λf as h0=>match Ae f with
  |some m=>if as.length=m.np then runN (Wr X Ae n) n [.fin h0.length m.res] (.code m.body) ⟨K8 as 0,[QX h0 0],h0⟩else none
  |none=>X f as h0
def Ey(C C':ZK):Prop:=∀f as h0 r,C f as h0=some r->C' f as h0=some r
theorem Z3K{C C':ZK}(h:Ey C C'){k:A5}{s:S}{p:AV×List (Nat×AK)}(hr:Bq C k s=some p):Bq C' k s=some p:=by
 have m:∀f vs ids,KB C f vs s.h s.h.length ids=some p->KB C' f vs s.h s.h.length ids=some p:=by
  intro f vs ids hr;unfold KB at hr|-;split at hr
  .rename_i hc;rw[Ya hc]
   cases hx:C f (BQ ids vs) (A2 s.h ids)with
   |none=>rw[hx]at hr;cases hr
   |some q=>rw[h _ _ _ _ hx];rw[hx]at hr;exact hr
  .cases hr
 cases k<;>first|exact hr|skip
 .rename_i f args;simp only[Bq]at hr|-
  cases hf:A0 s.h (args.map (ev s.env))with
  |none=>rw[hf]at hr;cases hr
  |some as =>
   rw[hf]at hr;simp only[Cw]at hr|-
   cases hx:C f as []with
   |none=>rw[hx]at hr;cases hr
   |some q=>rw[h _ _ _ _ hx];rw[hx]at hr;exact hr
 .rename_i f args;simp only[Bq]at hr|-
  cases hf:A0 s.h (args.map (ev s.env))with
  |none=>rw[hf]at hr;cases hr
  |some as =>
   rw[hf]at hr;simp only[O0]at hr|-;split at hr
   .rename_i hno;rw[Ya hno]
    cases hx:C f as []with
    |none=>rw[hx]at hr;cases hr
    |some q=>rw[h _ _ _ _ hx];rw[hx]at hr;exact hr
   .cases hr
 .exact m _ _ _ hr
 .rename_i f args;simp only[Bq,O1]at hr|-;split at hr
  .rename_i hc;rw[Ya hc]
   cases hx:C f (BQ (ZQ s.h (args.map (ev s.env))) (args.map (ev s.env))) (A2 s.h (ZQ s.h (args.map (ev s.env))))with
   |none=>rw[hx]at hr;cases hr
   |some q=>rw[h _ _ _ _ hx];rw[hx]at hr;exact hr
  .cases hr
 .rename_i x args;simp only[Bq]at hr|-;unfold O2 at hr|-
  grind
theorem Z3L{C C':ZK}(h:Ey C C'){o:MO}{s s':S}(hr:B8 C o s=some s'):B8 C' o s=some s':=by
 unfold B8 at hr|-
 cases hx:Bq C o.op s with
 |none=>rw[hx]at hr;cases hr
 |some p=>rw[Z3K h hx];rw[hx]at hr;exact hr
theorem Z3M{C C':ZK}(h:Ey C C'){o:MO}{s:S}{s':AN×S}(hr:B9 C o s=some s'):B9 C' o s=some s':=by
 unfold B9 at hr|-
 cases hx:Bq C o.op s with
 |none=>rw[hx]at hr;cases hr
 |some p=>rw[Z3K h hx];rw[hx]at hr;exact hr
theorem Z3N{C C':ZK}(h:Ey C C'){o:MO}{s s':S}(hr:Cp C o s=some s'):Cp C' o s=some s':=by
 unfold Cp at hr|-
 cases hg:o.guard with
 |none=>simp only[hg]at hr|-;exact Z3L h hr
 |some p =>
  obtain⟨g,want⟩:=p;simp only[hg]at hr|-;unfold V7 at hr|-
  grind [Z3L]
theorem Ez{C C':ZK}(h:Ey C C'){o:MO}{s:S}{s':AN×S}(hr:C8 C o s=some s'):C8 C' o s=some s':=by
 unfold C8 at hr|-
 cases hg:o.guard with
 |none=>simp only[hg]at hr|-;exact Z3M h hr
 |some p =>
  obtain⟨g,want⟩:=p;simp only[hg]at hr|-;unfold V8 at hr|-
  grind [Z3M]
theorem ZrJ{C C':ZK}(h:Ey C C'){ks:List Fr}{cf:Cf}{s:S}:(∀c,step C ks cf s=.inl c->step C' ks cf s=.inl c)/\∀r,step C ks cf s=.inr (some r)->step C' ks cf s=.inr (some r):=by
 have key:(∃o os keep,cf=.ops (o::os) keep)\/(∃o os Ax before keep,cf=.drw (o::os) Ax before keep)\/(∃o os keep,cf=.opsF (o::os) keep)\/step C ks cf s=step C' ks cf s:=by
  cases cf with
  |code c=>cases c<;>exact .inr (.inr (.inr rfl))
  |ops os keep =>
   cases os with
   |nil=>exact .inr (.inr (.inr rfl))
   |cons o os=>exact .inl ⟨o,os,keep,rfl⟩
  |opsF os keep =>
   cases os with
   |nil=>exact .inr (.inr (.inr rfl))
   |cons o os=>exact .inr (.inr (.inl ⟨o,os,keep,rfl⟩))
  |drw os Ax before keep =>
   cases os with
   |nil=>exact .inr (.inr (.inr rfl))
   |cons o os=>exact .inr (.inl ⟨o,os,Ax,before,keep,rfl⟩)
  |out x =>
   refine .inr (.inr (.inr ?_))
   cases ks with
   |nil=>rfl
   |cons k ks=>cases k<;>cases x<;>rfl
 rcases key with⟨o,os,keep,rfl⟩|⟨o,os,Ax,before,keep,rfl⟩|⟨o,os,keep,rfl⟩|he
 .simp only[step]
  cases hx:Cp C o s with
  |none=>simp[Cx]
  |some s'=>rw[Z3N h hx];exact⟨λ_ h=>h,λ_ h=>h⟩
 .simp only[step]
  cases hx:C8 C o s with
  |none=>simp[Ww]
  |some s'=>rw[Ez h hx];exact⟨λ_ h=>h,λ_ h=>h⟩
 .simp only[step]
  cases hx:Cp C o (fzO o s)with
  |none=>simp[O3]
  |some s'=>rw[Z3N h hx];exact⟨λ_ h=>h,λ_ h=>h⟩
 .simp_all
theorem YC{C C':ZK}(h:Ey C C'):∀(n:Nat) {ks:List Fr} {cf:Cf} {s:S} {r:XS},runN C n ks cf s=some r->runN C' n ks cf s=some r
 |0,_,_,_,_,hr=>by cases hr
 |n+1,ks,cf,s,r,hr=>by
  simp only[runN]at hr|-;split at hr
  .rename_i h1;rw[(ZrJ h).1 _ h1];exact YC h n hr
  .rename_i h1;subst hr;rw[(ZrJ h).2 _ h1]
theorem Z3O{X:ZK}{Ae:Nat->Option Ab}:∀n,Ey (Wr X Ae n) (Wr X Ae (n+1))
 |0=>λ_ _ _ _ h=>by cases h
 |n+1=>λf as h0 r h=>by
  simp only[Wr]at h;rw[Wr]
  cases hm:Ae f with
  |none=>simp only[hm]at h|-;exact h
  |some m =>
   simp only[hm]at h|-;split at h
   .rename_i hl;rw[Ya hl];exact sR _ (YC (Z3O n) n h) (Nat.le_succ n)
   .cases h
theorem YD{X:ZK}{Ae:Nat->Option Ab}{n m:Nat}(h:n<=m):Ey (Wr X Ae n) (Wr X Ae m):=by
 induction h with
 |refl=>exact λ_ _ _ _ h=>h
 |step _ ih=>exact λf as h0 r h=>Z3O _ f as h0 r (ih f as h0 r h)
theorem ZFm{X:ZK}{Ae:Nat->Option Ab}{f:Nat}{as:XQ}{h0:V2}(n m:Nat)(r r':XS)(h:Wr X Ae n f as h0=some r)(h':Wr X Ae m f as h0=some r'):r=r':=by
 have h1:=YD (Nat.le_max_left n m) f as h0 r h;have h2:=YD (Nat.le_max_right n m) f as h0 r' h'
 simp_all
noncomputable def WH(X:ZK)(Ae:Nat->Option Ab):ZK:=λf as h0=>lim λn=>Wr X Ae n f as h0
theorem Z3P{X:ZK}{Ae:Nat->Option Ab}(n:Nat):Ey (Wr X Ae n) (WH X Ae):=λ_ _ _ _ h=>Em (λn m r r' h h'=>ZFm n m r r' h h') h
theorem Z3Q{X:ZK}{Ae:Nat->Option Ab}{k:A5}{s:S}{p:AV×List (Nat×AK)}(hr:Bq (WH X Ae) k s=some p):∃n,Bq (Wr X Ae n) k s=some p:=by
 have m:∀p f vs ids,KB (WH X Ae) f vs s.h s.h.length ids=some p->∃n,KB (Wr X Ae n) f vs s.h s.h.length ids=some p:=by
  intro p f vs ids hr;unfold KB at hr|-;split at hr
  .rename_i hc
   cases hx:WH X Ae f (BQ ids vs) (A2 s.h ids)with
   |none=>rw[hx]at hr;cases hr
   |some q =>
    obtain⟨n,hn⟩:=O4 hx
    grind
  .cases hr
 cases k<;>first|exact⟨0,hr⟩|skip
 .rename_i f args;simp only[Bq]at hr|-
  cases hf:A0 s.h (args.map (ev s.env))with
  |none=>rw[hf]at hr;cases hr
  |some as =>
   rw[hf]at hr;simp only[Cw]at hr|-
   cases hx:WH X Ae f as []with
   |none=>rw[hx]at hr;cases hr
   |some q =>
    obtain⟨n,hn⟩:=O4 hx
    grind
 .rename_i f args;simp only[Bq]at hr|-
  cases hf:A0 s.h (args.map (ev s.env))with
  |none=>rw[hf]at hr;cases hr
  |some as =>
   rw[hf]at hr;simp only[O0]at hr|-;split at hr
   .rename_i hno;simp only[Ya hno]
    cases hx:WH X Ae f as []with
    |none=>rw[hx]at hr;cases hr
    |some q =>
     obtain⟨n,hn⟩:=O4 hx
     grind
   .cases hr
 .exact m _ _ _ _ hr
 .rename_i f args;simp only[Bq,O1]at hr|-;split at hr
  .rename_i hc
   cases hx:WH X Ae f (BQ (ZQ s.h (args.map (ev s.env))) (args.map (ev s.env))) (A2 s.h (ZQ s.h (args.map (ev s.env))))with
   |none=>rw[hx]at hr;cases hr
   |some q =>
    obtain⟨n,hn⟩:=O4 hx
    grind
  .cases hr
 .rename_i x args;simp only[Bq]at hr|-;unfold O2 at hr|-;split at hr
  .exact m _ _ _ _ hr
  .cases hr
theorem Z3R{X:ZK}{Ae:Nat->Option Ab}{o:MO}{s s':S}(hr:B8 (WH X Ae) o s=some s'):∃n,B8 (Wr X Ae n) o s=some s':=by
 unfold B8 at hr|-
 cases hx:Bq (WH X Ae) o.op s with
 |none=>rw[hx]at hr;cases hr
 |some p =>
  grind [Z3Q]
theorem Z3S{X:ZK}{Ae:Nat->Option Ab}{o:MO}{s:S}{s':AN×S}(hr:B9 (WH X Ae) o s=some s'):∃n,B9 (Wr X Ae n) o s=some s':=by
 unfold B9 at hr|-
 cases hx:Bq (WH X Ae) o.op s with
 |none=>rw[hx]at hr;cases hr
 |some p =>
  grind [Z3Q]
theorem Z3T{X:ZK}{Ae:Nat->Option Ab}{o:MO}{s s':S}(hr:Cp (WH X Ae) o s=some s'):∃n,Cp (Wr X Ae n) o s=some s':=by
 unfold Cp at hr|-
 cases hg:o.guard with
 |none=>simp only[hg]at hr|-;exact Z3R hr
 |some p =>
  obtain⟨g,want⟩:=p;simp only[hg]at hr|-;unfold V7 at hr|-;split at hr
  .split at hr
   .simp_all [Z3R]
   .simp_all
  .exact⟨0,hr⟩
  .cases hr
theorem Fv{X:ZK}{Ae:Nat->Option Ab}{o:MO}{s:S}{s':AN×S}(hr:C8 (WH X Ae) o s=some s'):∃n,C8 (Wr X Ae n) o s=some s':=by
 unfold C8 at hr|-
 cases hg:o.guard with
 |none=>simp only[hg]at hr|-;exact Z3S hr
 |some p =>
  obtain⟨g,want⟩:=p;simp only[hg]at hr|-;unfold V8 at hr|-;split at hr
  .split at hr
   .simp_all [Z3S]
   .simp_all
  .exact⟨0,hr⟩
  .cases hr
theorem Z3U{X:ZK}{Ae:Nat->Option Ab}{ks:List Fr}{cf:Cf}{s:S}{c:Step}(hc:c≠.inr none)(h:step (WH X Ae) ks cf s=c):∃n,step (Wr X Ae n) ks cf s=c:=by
 have key:(∃o os keep,cf=.ops (o::os) keep)\/(∃o os Ax before keep,cf=.drw (o::os) Ax before keep)\/(∃o os keep,cf=.opsF (o::os) keep)\/step (Wr X Ae 0) ks cf s=step (WH X Ae) ks cf s:=by
  cases cf with
  |code c=>cases c<;>exact .inr (.inr (.inr rfl))
  |ops os keep =>
   cases os with
   |nil=>exact .inr (.inr (.inr rfl))
   |cons o os=>exact .inl ⟨o,os,keep,rfl⟩
  |opsF os keep =>
   cases os with
   |nil=>exact .inr (.inr (.inr rfl))
   |cons o os=>exact .inr (.inr (.inl ⟨o,os,keep,rfl⟩))
  |drw os Ax before keep =>
   cases os with
   |nil=>exact .inr (.inr (.inr rfl))
   |cons o os=>exact .inr (.inl ⟨o,os,Ax,before,keep,rfl⟩)
  |out x =>
   refine .inr (.inr (.inr ?_))
   cases ks with
   |nil=>rfl
   |cons k ks=>cases k<;>cases x<;>rfl
 rcases key with⟨o,os,keep,rfl⟩|⟨o,os,Ax,before,keep,rfl⟩|⟨o,os,keep,rfl⟩|he
 .simp only[step]at h|-
  cases hx:Cp (WH X Ae) o s with
  |none=>rw[hx]at h;exact absurd h.symm hc
  |some s' =>
   grind [Z3T]
 .simp only[step]at h|-
  cases hx:C8 (WH X Ae) o s with
  |none=>rw[hx]at h;exact absurd h.symm hc
  |some s' =>
   grind [Fv]
 .simp only[step]at h|-
  cases hx:Cp (WH X Ae) o (fzO o s)with
  |none=>rw[hx]at h;exact absurd h.symm hc
  |some s' =>
   grind [Z3T]
 .grind
theorem Z3V{X:ZK}{Ae:Nat->Option Ab}:∀(n:Nat) {ks:List Fr} {cf:Cf} {s:S} {r:XS},runN (WH X Ae) n ks cf s=some r->∃k,runN (Wr X Ae k) n ks cf s=some r
 |0,_,_,_,_,h=>by cases h
 |n+1,ks,cf,s,r,h=>by
  simp only[runN]at h;split at h
  .rename_i ks' cf' s' h1;obtain⟨k,hk⟩:=Z3U (by intro hc;cases hc) h1;obtain⟨k2,hk2⟩:=Z3V n h;refine⟨max k k2,?_⟩;simp only[runN];rw[(ZrJ (YD (Nat.le_max_left k k2))).1 _ hk];exact YC (YD (Nat.le_max_right k k2)) n hk2
  .rename_i h1;subst h;obtain⟨k,hk⟩:=Z3U (by intro hc;cases hc) h1;exact⟨k,by simp only[runN,hk]⟩
theorem Z3W{X:ZK}{Ae:Nat->Option Ab}{f:Nat}{as:XQ}{h0:V2}{m:Ab}(ht:Ae f=some m)(hl:as.length=m.np){r:XS}(h:Ev (WH X Ae) [.fin h0.length m.res] m.body ⟨K8 as 0,[QX h0 0],h0⟩=some r):WH X Ae f as h0=some r:=by
 obtain⟨n,hn⟩:=Z3I h;obtain⟨k,hk⟩:=Z3V n hn;refine Z3P (max n k+1) f as h0 r ?_;simp only[Wr,ht,hl,if_true];exact sR n (YC (YD (Nat.le_max_right n k)) n hk) (Nat.le_max_left n k)
theorem ZFn{p:Nat->Prop}(h:∃n,p n):∃n,p n/\∀m,p m->n<=m:=by
 obtain⟨n,hn⟩:=h
 induction n using Nat.strongRecOn with
 |ind n ih =>
  grind
section
variable{Γ:CS}{C:ZK}{s s':S}{o:MO}{K K':S->Prop}{f nx:Nat}{h:V2}{v:AV}{u:List (Nat×AK)}{args vs:XQ}{r:XS}
def Qf(C:ZK)(r:XS)(m:Nat)(ks:List Fr):X->S->Prop:=λx s=>∃k,k<m/\runN C k ks (.out x) s=some r
theorem Z3X(hK:∀s,K s->K' s)(h:BB Γ o s K):BB Γ o s K':=by
 unfold BB at h|-;split at h
 .grind
 .grind
 .obtain⟨h1,r,h2,h3,h4⟩:=h;exact⟨h1,r,h2,h3,hK _ h4⟩
 .obtain⟨h1,r,h2,h3,h4⟩:=h;exact⟨h1,r,h2,h3,hK _ h4⟩
 .split at h
  .obtain⟨h1,r,h2,h3,h4⟩:=h;exact⟨h1,r,h2,h3,hK _ h4⟩
  .exact h.elim
 .grind
theorem Z3Y(hK:∀s,K s->K' s)(h:DP Γ o s K):DP Γ o s K':=by
 unfold DP at h|-;split at h
 .exact Z3X hK h
 .grind [Z3X]
theorem sS:∀(os:List MO) {s:S} {K K':S->Prop},(∀s,K s->K' s)->Cn Γ os s K->Cn Γ os s K'
 |[],_,_,_,hK,h=>hK _ h
 |_::os,_,_,_,hK,h=>Z3Y (λ_ h'=>sS os hK h') h
theorem sT:∀(os:List MO) {s:S} {K K':S->Prop},(∀s,K s->K' s)->Ji Γ os s K->Ji Γ os s K'
 |[],_,_,_,hK,h=>hK _ h
 |_::os,_,_,_,hK,h=>Z3Y (λ_ h'=>sT os hK h') h
theorem Z3Z{K K':AN->S->Prop}(hK:∀f s,K f s->K' f s)(h:Qj Γ o s K):Qj Γ o s K':=by
 unfold Qj at h|-;split at h
 .grind
 .grind
 .obtain⟨h1,r,h2,h3,h4⟩:=h;exact⟨h1,r,h2,h3,hK _ _ h4⟩
 .obtain⟨h1,r,h2,h3,h4⟩:=h;exact⟨h1,r,h2,h3,hK _ _ h4⟩
 .split at h
  .obtain⟨h1,r,h2,h3,h4⟩:=h;exact⟨h1,r,h2,h3,hK _ _ h4⟩
  .exact h.elim
 .grind
theorem ZFo{K K':AN->S->Prop}(hK:∀f s,K f s->K' f s)(h:CL Γ o s K):CL Γ o s K':=by
 unfold CL at h|-;split at h
 .exact Z3Z hK h
 .grind [Z3Z]
theorem O6:∀(os:List MO) {s:S} {Ax:List AN} {K K':List AN->S->Prop},(∀f s,K f s->K' f s)->CM Γ os s Ax K->CM Γ os s Ax K'
 |[],_,_,_,_,hK,h=>hK _ _ h
 |_::os,_,_,_,_,hK,h=>ZFo (λ_ _ h'=>O6 os hK h') h
theorem Q6:∀(c:Za) {s:S} {Q Q':X->S->Prop},(∀x s,Q x s->Q' x s)->Wc Γ c Q s->Wc Γ c Q' s
 |.skip,_,_,_,hQ,h=>hQ _ _ h
 |.reg os _,_,_,_,hQ,h=>sS os (λ_ h'=>hQ _ _ h') h
 |.regF os _,_,_,_,hQ,h=>sT os (λ_ h'=>hQ _ _ h') h
 |.drw os _ _,_,_,_,hQ,h=>O6 os (λ_ _ h'=>⟨h'.1,hQ _ _ h'.2⟩) h
 |.drwF os _ _,_,_,_,hQ,h=>O6 os (λ_ _ h'=>⟨h'.1,hQ _ _ h'.2⟩) h
 |.seq a b,_,_,_,hQ,h=>Q6 a (λx s' h'=>by cases x with|n=>exact Q6 b hQ h'|x i=>exact hQ _ _ h'|r=>exact hQ _ _ h') h
 |.cond c x y,s,_,_,hQ,h=>by
  unfold Wc at h|-;split at h
  .split at h
   .rename_i hb;simp only[hb,if_true];exact Q6 x hQ h
   .rename_i hb;simp only[hb];exact Q6 y hQ h
  .exact h.elim
 |.block id b,_,_,_,hQ,h=>Q6 b (λx s' h'=>by
   cases x with
   |n=>exact hQ _ _ h'
   |x i=>simp only at h'|-;split at h'<;>rename_i hi<;>simp only[hi,if_true,if_false]<;>exact hQ _ _ h'
   |r=>exact hQ _ _ h') h
 |.loop keep b,_,_,_,hQ,h=>by
  obtain⟨I,μ,h0,hr⟩:=h;refine⟨I,μ,h0,λs hs=>Q6 b (λx s' h'=>?_) (hr s hs)⟩
  cases x with
  |n=>exact h'
  |x i=>exact hQ _ _ h'
  |r=>exact hQ _ _ h'
 |.exit _,_,_,_,hQ,h=>hQ _ _ h
 |.ret,_,_,_,hQ,h=>hQ _ _ h
theorem Z4a(hC:∀f as h0 r hr,C f as h0=some (r,hr)->Γ f as h0 r hr)(hr:Cw C f args nx (A0 h args)=some (v,u)) :
  ∃as,A0 h args=some as/\∃r hr,Γ f as [] r hr/\(UG args || EO r hr)=true/\v=shift nx r/\u=Bk nx hr 0:=by
 cases hf:A0 h args with
 |none=>rw[hf]at hr;cases hr
 |some as =>
  rw[hf]at hr;simp only[Cw]at hr
  cases hc:C f as []with
  |none=>rw[hc]at hr;cases hr
  |some p =>
   obtain⟨r,hr'⟩:=p;rw[hc]at hr;simp only[Ej]at hr
   grind
theorem sU(hC:∀f as h0 r hr,C f as h0=some (r,hr)->Γ f as h0 r hr)(hr:KB C f vs h nx (ZQ h vs)=some (v,u)){K:AV->List (Nat×AK)->Prop}(hK:K v u):Qi Γ f vs h nx K:=by
 unfold KB at hr;split at hr
 .rename_i hc
  cases hx:C f (BQ (ZQ h vs) vs) (A2 h (ZQ h vs))with
  |none=>rw[hx]at hr;cases hr
  |some p =>
   obtain⟨r,h1⟩:=p;rw[hx]at hr;cases hr;exact⟨hc,r,h1,hC _ _ _ _ _ hx,hK⟩
 .cases hr
theorem Z4b(hC:∀f as h0 r hr,C f as h0=some (r,hr)->Γ f as h0 r hr)(hr:O1 C f vs h nx (ZQ h vs)=some (v,u)){K:AV->List (Nat×AK)->Prop}(hK:K v u):Jh Γ f vs h nx K:=by
 unfold O1 at hr;split at hr
 .rename_i hc
  cases hx:C f (BQ (ZQ h vs) vs) (A2 h (ZQ h vs))with
  |none=>rw[hx]at hr;cases hr
  |some p =>
   obtain⟨r,h1⟩:=p;rw[hx]at hr;simp only[C7]at hr;split at hr
   .rename_i ht;cases hr;refine⟨hc,r,h1.drop (ZQ h vs).length,?_,hK⟩
    grind [List.take_append_drop]
   .cases hr
 .cases hr
theorem Z4c(hC:∀f as h0 r hr,C f as h0=some (r,hr)->Γ f as h0 r hr)(hr:O0 C f args (A0 h args)=some (v,u)) :
  ∃as,A0 h args=some as/\UG args=true/\∃r hr,Γ f as [] r hr/\Cy hr r=some v/\u=[]:=by
 cases hf:A0 h args with
 |none=>rw[hf]at hr;cases hr
 |some as =>
  rw[hf]at hr;simp only[O0]at hr;split at hr
  .rename_i hno
   cases hc:C f as []with
   |none=>rw[hc]at hr;cases hr
   |some p =>
    obtain⟨r,hr'⟩:=p;rw[hc]at hr;simp only[C6]at hr
    grind
  .cases hr
theorem Z4d(hC:∀f as h0 r hr,C f as h0=some (r,hr)->Γ f as h0 r hr)(h:B8 C o s=some s')(hK:K s'):BB Γ o s K:=by
 unfold B8 at h
 cases hv:Bq C o.op s with
 |none=>rw[hv]at h;cases h
 |some p =>
  obtain⟨v,u⟩:=p;rw[hv]at h;cases h;unfold BB;cases ho:o.op<;>simp only[ho,Bq]at hv|-<;>try (rw[hv];exact hK)
  .obtain⟨as,h1,r,hr,h2,h3,rfl,rfl⟩:=Z4a hC hv
   grind
  .obtain⟨as,h1,hno,r,hr,h2,h3,rfl⟩:=Z4c hC hv
   grind
  .exact sU hC hv hK
  .exact Z4b hC hv hK
  .unfold O2 at hv
   grind [sU]
theorem Z4e(hC:∀f as h0 r hr,C f as h0=some (r,hr)->Γ f as h0 r hr)(h:Cp C o s=some s')(hK:K s'):DP Γ o s K:=by
 unfold Cp at h;unfold DP
 cases hg:o.guard with
 |none=>simp only[hg]at h|-;exact Z4d hC h hK
 |some p =>
  obtain⟨g,want⟩:=p;simp only[hg]at h|-;unfold V7 at h;split at h
  .rename_i b hb;rw[hb];simp only;split at h
   .grind [Z4d]
   .rename_i hb;rw[Yb hb];cases h;exact hK
  .rename_i hb;rw[hb];cases h;exact hK
  .cases h
theorem Z4f(hC:∀f as h0 r hr,C f as h0=some (r,hr)->Γ f as h0 r hr){f:AN}(h:B9 C o s=some (f,s')){K:AN->S->Prop}(hK:K f s'):Qj Γ o s K:=by
 unfold B9 at h
 cases hv:Bq C o.op s with
 |none=>rw[hv]at h;cases h
 |some p =>
  obtain⟨v,u⟩:=p;rw[hv]at h;cases h;unfold Qj;cases ho:o.op<;>simp only[ho,Bq]at hv|-<;>try (rw[hv];exact hK)
  .obtain⟨as,h1,r,hr,h2,h3,rfl,rfl⟩:=Z4a hC hv
   grind
  .obtain⟨as,h1,hno,r,hr,h2,h3,rfl⟩:=Z4c hC hv
   grind
  .exact sU hC hv hK
  .exact Z4b hC hv hK
  .unfold O2 at hv
   grind [sU]
theorem EA(hC:∀f as h0 r hr,C f as h0=some (r,hr)->Γ f as h0 r hr){f:AN}(h:C8 C o s=some (f,s')){K:AN->S->Prop}(hK:K f s'):CL Γ o s K:=by
 unfold C8 at h;unfold CL
 cases hg:o.guard with
 |none=>simp only[hg]at h|-;exact Z4f hC h hK
 |some p =>
  obtain⟨g,want⟩:=p;simp only[hg]at h|-;unfold V8 at h;split at h
  .rename_i b hb;rw[hb];simp only;split at h
   .grind [Z4f]
   .rename_i hb;rw[Yb hb];cases h;exact hK
  .rename_i hb;rw[hb];cases h;exact hK
  .cases h
theorem Z4g(hC:∀f as h0 r hr,C f as h0=some (r,hr)->Γ f as h0 r hr){r:XS}{keep:V3}{ks:List Fr}:∀(os:List MO) (m:Nat) (s:S),runN C m ks (.ops os keep) s=some r->
  Cn Γ os s λs'=>Qf C r m ks .n { s' with env:=rst keep s'.env }
 |_,0,_,h=>by cases h
 |[],m+1,s,h=>⟨m,EN m,h⟩
 |o::os,m+1,s,h=>by
  simp only[runN,step]at h
  cases ho:Cp C o s with
  |none=>simp only[ho,Cx]at h;cases h
  |some s' =>
   simp only[ho,Cx]at h;exact Z4e hC ho (sS os (λs ⟨k,h1,h2⟩=>⟨k,Z,h2⟩) (Z4g hC os m s' h))
theorem Z4h(hC:∀f as h0 r hr,C f as h0=some (r,hr)->Γ f as h0 r hr){r:XS}{keep:V3}{ks:List Fr}:∀(os:List MO) (m:Nat) (s:S),runN C m ks (.opsF os keep) s=some r->
  Ji Γ os s λs'=>Qf C r m ks .n { s' with env:=rst keep s'.env }
 |_,0,_,h=>by cases h
 |[],m+1,s,h=>⟨m,EN m,h⟩
 |o::os,m+1,s,h=>by
  simp only[runN,step]at h
  cases ho:Cp C o (fzO o s)with
  |none=>simp only[ho,O3]at h;cases h
  |some s' =>
   simp only[ho,O3]at h;exact Z4e hC ho (sT os (λs ⟨k,h1,h2⟩=>⟨k,Z,h2⟩) (Z4h hC os m s' h))
theorem ZrK(hC:∀f as h0 r hr,C f as h0=some (r,hr)->Γ f as h0 r hr){r:XS}{before:List (V3)}{keep:V3}{ks:List Fr}:∀(os:List MO) (Ax:List AN) (m:Nat) (s:S),runN C m ks (.drw os Ax before keep) s=some r->
  CM Γ os s Ax λAx s'=>JX before Ax=true/\Qf C r m ks .n { s' with env:=rst keep s'.env }
 |_,_,0,_,h=>by cases h
 |[],Ax,m+1,s,h=>by
  simp only[runN,step]at h;split at h
  .rename_i h1;split at h1
   .rename_i ho;cases h1;exact⟨ho,m,EN m,h⟩
   .cases h1
  .grind
 |o::os,Ax,m+1,s,h=>by
  simp only[runN,step]at h
  cases ho:C8 C o s with
  |none=>simp only[ho,Ww]at h;cases h
  |some p =>
   obtain⟨f,s'⟩:=p;simp only[ho,Ww]at h;exact EA hC ho (O6 os (λ_ s ⟨h0,k,h1,h2⟩=>⟨h0,k,Z,h2⟩) (ZrK hC os _ m s' h))
theorem O7{m:Nat}{ks:List Fr}{cf:Cf}(h:runN C m ks cf s=some r):∃k,m=k+1:=by
 cases m with
 |zero=>cases h
 |succ k=>exact⟨k,rfl⟩
open Classical in
theorem I1(hC:∀f as h0 r hr,C f as h0=some (r,hr)->Γ f as h0 r hr)(m:Nat):∀(c:Za) (ks:List Fr) (s:S),runN C m ks (.code c) s=some r->Wc Γ c (Qf C r m ks) s:=by
 induction m using Nat.strongRecOn with
 |ind m ih =>
  intro c ks s h;obtain⟨m,rfl⟩:=O7 h
  cases c with
  |skip=>exact⟨m,EN m,h⟩
  |reg os keep=>exact sS os (λs ⟨k,h1,h2⟩=>⟨k,Z,h2⟩) (Z4g hC os m s h)
  |regF os keep=>exact sT os (λs ⟨k,h1,h2⟩=>⟨k,Z,h2⟩) (Z4h hC os m s h)
  |drw os before keep=>exact O6 os (λ_ s ⟨h0,k,h1,h2⟩=>⟨h0,k,Z,h2⟩) (ZrK hC os [] m s h)
  |drwF os before keep=>exact O6 os (λ_ s ⟨h0,k,h1,h2⟩=>⟨h0,k,Z,h2⟩) (ZrK hC os [] m (TH os s) h)
  |seq a b =>
   refine Q6 a (λx s' hq=>?_) (ih m (EN m) a (.seq b::ks) s h);obtain⟨k,hk,h2⟩:=hq;obtain⟨k,rfl⟩:=O7 h2
   cases x with
   |n=>exact Q6 b (λx s ⟨j,h3,h4⟩=>⟨j,Z,h4⟩) (ih k Z b ks s' h2)
   |x i=>exact⟨k,Z,h2⟩
   |r=>exact⟨k,Z,h2⟩
  |cond c x y =>
   simp only[runN,step]at h;unfold Wc;unfold Q5 at h
   cases hv:ev s.env c with
   |t v =>
    simp only[hv]at h
    cases v with
    |bool b =>
     simp only at h|-;cases b
     .exact Q6 y (λx s ⟨j,h3,h4⟩=>⟨j,Z,h4⟩) (ih m (EN m) y ks s h)
     .exact Q6 x (λx s ⟨j,h3,h4⟩=>⟨j,Z,h4⟩) (ih m (EN m) x ks s h)
    |_=>cases h
   |_=>simp only[hv]at h;cases h
  |block id b =>
   refine Q6 b (λx s' hq=>?_) (ih m (EN m) b (.blk id::ks) s h);obtain⟨k,hk,h2⟩:=hq;obtain⟨k,rfl⟩:=O7 h2
   cases x with
   |n=>exact⟨k,Z,h2⟩
   |x i =>
    simp only[runN,step]at h2;simp only;by_cases hi:i=id
    .simp only[hi,if_true]at h2|-;exact⟨k,Z,h2⟩
    .simp only[hi,if_false]at h2|-
     exact⟨k,Z,h2⟩
   |r=>exact⟨k,Z,h2⟩
  |loop keep b =>
   let p:S->Nat->Prop:=λt k=>k<=m/\runN C k (.loop keep b::ks) (.code b) t=some r
   let μ:S->Nat:=λt=>if hx:∃k,p t k then(ZFn hx).choose else 0
   have hμ:∀t,(∃k,p t k)->p t (μ t)/\∀k,p t k->μ t<=k:=by
    intro t hx
    grind
   refine⟨λt=>∃k,p t k,μ,⟨m,Yj m,h⟩,?_⟩;intro t ht;obtain⟨⟨h1,h2⟩,h3⟩:=hμ t ht;refine Q6 b (λx s' hq=>?_) (ih (μ t) Z b _ t h2);obtain⟨k,hk,h4⟩:=hq;obtain⟨k,rfl⟩:=O7 h4
   cases x with
   |n =>
    have h5:runN C k ks (.code (.loop keep b)) s'=some r:=h4;obtain⟨k,rfl⟩:=O7 h5;have h6:p (Q2 keep s') k:=⟨Z,h5⟩
    grind
   |x i=>exact⟨k,Z,h4⟩
   |r=>exact⟨k,Z,h4⟩
  |exit id=>exact⟨m,EN m,h⟩
  |ret=>exact⟨m,EN m,h⟩
end
theorem Z4i{P:Program}{X:ZK}{Ae:Nat->Option Ab}(hT:Eh P Ae)(hX:∀f as h0 r hr,X f as h0=some (r,hr)->W5 P f as h0 r hr):∀(n f:Nat) (as:XQ) (h0:V2) (r:AV) (hr:V2),Wr X Ae n f as h0=some (r,hr)->W5 P f as h0 r hr
 |0,_,_,_,_,_,h=>by cases h
 |n+1,f,as,h0,r,hr,h=>by
  simp only[Wr]at h
  cases hm:Ae f with
  |none=>simp only[hm]at h;exact hX f as h0 r hr h
  |some m =>
   simp only[hm]at h;split at h
   .rename_i hl;obtain⟨fn,ks,inl,h1,h2,h3⟩:=hT f m hm;have hW:=I1 (Γ:=W5 P) (Z4i hT hX n) n m.body _ _ h;refine Ei h1 h3 h2 ⟨hl,?_⟩;refine Q6 m.body (λx s hq=>?_) hW;obtain⟨k,hk,h4⟩:=hq;obtain⟨k,rfl⟩:=O7 h4;have fin:C9 h0.length m.res s=some (r,hr)->∀x,(∀i,x≠.x i)->B5 m.res (λv s=>r9 m.res h0.length v s=some (r,hr)) x s:=by
     intro hf x hx;unfold C9 at hf
     cases x with
     |x i=>exact absurd rfl (hx i)
     |n =>
      simp only[B5]
      grind
     |r =>
      simp only[B5]
      grind
    cases x with
    |n=>exact fin h4 _ (λi hc=>by cases hc)
    |r=>exact fin h4 _ (λi hc=>by cases hc)
    |x i=>simp only[runN,step]at h4;cases h4
   .cases h
theorem ZFp{P:Program}{X:ZK}{Ae:Nat->Option Ab}(hT:Eh P Ae)(hX:∀f as h0 r hr,X f as h0=some (r,hr)->W5 P f as h0 r hr){f:Nat}{as:XQ}{h0:V2}{r:AV}{hr:V2}(h:WH X Ae f as h0=some (r,hr)):W5 P f as h0 r hr:=by
 obtain⟨n,hn⟩:=O4 h
 grind [Z4i]
def ins(x:Nat):V3->V3
 |[]=>[x]
 |y::ys=>if x<y then x::y::ys else if x=y then y::ys else y::ins x ys
def union(a b:V3):V3:=b.foldl (λacc x=>ins x acc) a
def G6:Operand->V3
 |.tmp t=>[t]
 |_=>[]
def I2(o:Op):V3:=o.operands.toList.flatMap G6
def YE(ops:List Oper)(out:V3):V3 :=
 ops.reverse.foldl (λlive o=>union (match o.dst with|some d=>live.filter (· != d)|none=>live) (I2 o.op)) out
def Fw(ops:Array Oper):V3:=ops.toList.flatMap λo=>match o.guard with
 |some (j,_)=>(match ops[j]? with|some p=>p.dst.toList|none=>[])
 |none=>[]
def YF(f:V3->V3×List (V3)):Nat->V3->V3×List (V3)
 |0,L=>(L,L::(f L).2)
 |n+1,L=>match f L with
  |(l,k)=>if l.all (L.contains ·)then(L,L::k)else YF f n (union L l)
def live(ret:V3)(Ca:List (Nat×V3)):Code->V3->V3×List (V3)
 |.region _ ops _,out =>
  let defs:=ops.toList.flatMap λo=>o.dst.toList
  (union (YE ops.toList out) ((Fw ops).filter (λg=>!defs.contains g)),[out])
 |.seq a b,out=>match live ret Ca b out with
  |(lb,kb)=>match live ret Ca a lb with
   |(la,ka)=>(la,ka++kb)
 |.cond c a b,out=>match live ret Ca a out,live ret Ca b out with
  |(la,ka),(lb,kb)=>(union (union la lb) (G6 c),ka++kb)
 |.block id b,out=>live ret ((id,out)::Ca) b out
 |.loop b,_=>YF (live ret Ca b) 12 []
 |.exit id,_=>((Ca.lookup id).getD [],[])
 |.ret,_=>(ret,[])
 |_,out=>(out,[])
def ZrL(fn:Func):List (V3):=match fn.body with
 |some c =>
  let rs:=fn.results.toList.foldl (λacc r=>ins (match r with|.tmp t=>t|.cell a _=>a) acc) []
  (live rs [] c rs).2
 |none=>[]
def EB(inl:V3)(f:Nat):V3:=(if inl.contains (f+10000000)then[9999994]else[])++(if inl.contains (f+11000000)then[9999993]else[])++(if inl.contains (f+12000000)then[9999992]else[])++(if inl.contains (f+9000000)then[9999995]else[])++(if inl.contains (f+8000000)then[9999996]else[])++(if inl.contains (f+6000000)then[9999997]else[])++(if inl.contains (f+5000000)then[9999998]else[])++(if inl.contains (f+4000000)then 9999999::inl else inl)
def CP(P:Program)(inl:V3)(f:Nat):Option Ab:=match P.funcs[f]? with
 |some fn=>if Jk P f=true then GV P (EB inl f) (ZrL fn) fn else none
 |none=>none
theorem YG(P:Program)(inl:V3):Eh P (CP P inl):=by
 intro f m h;unfold CP at h
 grind
theorem Zi{P:Program}{inl:V3}{f:Nat}{fn:Func}{m:Ab}(hf:P.funcs[f]?=some fn)(hc:Jk P f=true)(h:GV P (EB inl f) (ZrL fn) fn=some m):CP P inl f=some m:=by
 unfold CP
 simp_all
def fill{α:Type}(f:α->V5)(z:V5)(xs:List α)(i:Nat):WI:=(xs.take i).map f++List.replicate (xs.length-i) z
section
variable{α:Type}{f:α->V5}{z:V5}{xs:List α}{i:Nat}
theorem EC(h:i<xs.length):(fill f z xs i)[i]?=some z:=by
 unfold fill
 grind
@[simp] theorem sV(h:i<(fill f z xs i).length):(fill f z xs i)[i]=z:=by
 have h1:i<xs.length:=by
  unfold fill at h;simp at h;omega
 have h2:=EC (f:=f) (z:=z) h1
 simp_all
end
theorem ZE{n:Int}(h1:-9223372036854775808<=n)(h2:n<=9223372036854775807):IntKind.wrap .i64 n=n:=by
 simp only[IntKind.wrap,IntKind.signed,IntKind.bits,Yk]
 grind
attribute [simp] B2 TE Fp TH E4 GP CK Dh CI Fo Es ZEY ZEZ fzO OU B3 CJ TG fzVs fzS CX IA CH rY IB Fn IX IY IZ Fq Eo Ft I0 Fu Er Et Ep Eu Ew Ex ZFa ZFb ZFc ZFd ZFe ZFf ZFg ZFh
 ZFj Z3J ZFk ZFl
attribute [simp]   O0 C6 Cy Du         Cp B8 Bq UE V7 CO Cw Ej Ek KB C7 O1 O2 C8 B9 G5 V8 C9 ZQ A2 BQ bk Wd QX Xo GR Cs UH JW Z1 ev lk put upd stB cellsOf VY BK E3 BD kill U9 OT   VH VZ DO K5 K6 Jg GO Qz
 Q0 bnd BH Q1 Bx JV Dg A0 ren rens Bi refs ZA Vu rst scrub Iz X7 idx K7 CW Qh Q2 shift Bk QV UF TF EO UG r8 r9 CZ Qk Cz CY UI Q3  K8 X5 flat VI E5 Jj ZC rZ
@[simp] theorem Aah(xs:V5):wk [] xs=xs:=by unfold wk;rfl
@[simp] theorem sW(cs:V5):wk cs []=[]:=by cases cs<;>(unfold wk;rfl)
@[simp] theorem sX(c x:T)(cs xs:V5):wk (c::cs) (x::xs)=DF c x::wk cs xs:=by conv=>lhs;unfold wk
@[simp] theorem sY(k:IntKind)(n:Int)(c:T):DF c (.int k n)=.int k n:=by cases c<;>rfl
@[simp] theorem YH(b:Bool)(c:T):DF c (.bool b)=.bool b:=by cases c<;>rfl
@[simp] theorem sZ(b:V6)(c:T):DF c (.str b)=.str b:=by cases c<;>rfl
@[simp] theorem s8(s:Nat)(es:WI)(c:T):DF c (.lst s es)=.lst s es:=by cases c<;>rfl
@[simp] theorem s9(s:Nat)(es:WI):DF (.lst s es) .nil=.lst s []:=rfl
@[simp] theorem tC(xs:V5):BY [] xs=xs.map .t:=by cases xs<;>rfl
@[simp] theorem Ab5(c x:T)(cs:XQ)(xs:V5):BY (.t c::cs) (x::xs)=.t (DF c x)::BY cs xs:=by conv=>lhs;unfold BY
@[simp] theorem tD(b:Nat)(x:T)(cs:XQ)(xs:V5):BY (.own b::cs) (x::xs)=.t x::BY cs xs:=by conv=>lhs;unfold BY
@[simp] theorem YI(cs:XQ):BY cs []=[]:=by cases cs with|nil=>rfl|cons c cs=>cases c<;>rfl
def At(a b:Int):Int:=IntKind.wrap .i64 ((BitVec.ofInt 64 a ||| BitVec.ofInt 64 b).toNat)
def Ah(a b:Int):Int:=IntKind.wrap .i64 ((BitVec.ofInt 64 a &&& BitVec.ofInt 64 b).toNat)
def Fy(a b:Int):Int:=IntKind.wrap .i64 ((BitVec.ofInt 64 a ^^^ BitVec.ofInt 64 b).toNat)
def Z4(a b:Int):Int:=IntKind.wrap .i64 ((BitVec.ofInt 64 a &&& ~~~ BitVec.ofInt 64 b).toNat)
def Ac(a b:Int):Int:=IntKind.wrap .i64 (a*2 ^ (min b.toNat 64))
def Au(a b:Int):Int:=a.fdiv (2 ^ (min b.toNat 64))
@[simp] theorem Aai(a b:Int):AJ .or (.int .i64 a) (.int .i64 b)=some (.int .i64 (At a b)):=by unfold AJ;exact Ya rfl
@[simp] theorem tF(a b:Int):AJ .and (.int .i64 a) (.int .i64 b)=some (.int .i64 (Ah a b)):=by unfold AJ;exact Ya rfl
@[simp] theorem tG(a b:Int):AJ .xor (.int .i64 a) (.int .i64 b)=some (.int .i64 (Fy a b)):=by unfold AJ;exact Ya rfl
@[simp] theorem I3(a b:Int):AJ .andNot (.int .i64 a) (.int .i64 b)=some (.int .i64 (Z4 a b)):=by unfold AJ;exact Ya rfl
@[simp] theorem tH(a b:Int)(k:IntKind):AJ .shl (.int .i64 a) (.int k b)=if b<0 then none else some (.int .i64 (Ac a b)):=by simp[AJ,Ac,IntKind.bits]
@[simp] theorem tJ(a b:Int)(k:IntKind):AJ .shr (.int .i64 a) (.int k b)=if b<0 then none else some (.int .i64 (Au a b)):=by simp[AJ,Au,IntKind.bits]
@[simp] theorem tK(k:IntKind)(a b:Int):AJ .add (.int k a) (.int k b)=some (.int k (k.wrap (a+b))):=by simp[AJ]
@[simp] theorem tL(k:IntKind)(a b:Int):AJ .sub (.int k a) (.int k b)=some (.int k (k.wrap (a-b))):=by simp[AJ]
@[simp] theorem tM(k:IntKind)(a b:Int):AJ .mul (.int k a) (.int k b)=some (.int k (k.wrap (a*b))):=by simp[AJ]
@[simp] theorem tN(k:IntKind)(a b:Int):AJ .quo (.int k a) (.int k b)=if b=0 then none else some (.int k (k.wrap (a.tdiv b))):=by simp[AJ]
@[simp] theorem tO(k:IntKind)(a b:Int):AJ .rem (.int k a) (.int k b)=if b=0 then none else some (.int k (a.tmod b)):=by simp[AJ]
@[simp] theorem tP(k:IntKind)(a b:Int):AJ .eql (.int k a) (.int k b)=some (.bool (a == b)):=by simp[AJ]
@[simp] theorem tQ(k:IntKind)(a b:Int):AJ .neq (.int k a) (.int k b)=some (.bool (a != b)):=by simp[AJ]
@[simp] theorem tR(k:IntKind)(a b:Int):AJ .lss (.int k a) (.int k b)=some (.bool (a<b)):=by simp[AJ]
@[simp] theorem tS(k:IntKind)(a b:Int):AJ .leq (.int k a) (.int k b)=some (.bool (a<=b)):=by simp[AJ]
@[simp] theorem tT(k:IntKind)(a b:Int):AJ .gtr (.int k a) (.int k b)=some (.bool (a > b)):=by simp[AJ]
@[simp] theorem tU(k:IntKind)(a b:Int):AJ .geq (.int k a) (.int k b)=some (.bool (a>=b)):=by simp[AJ]
@[simp] theorem YJ(a b:V6):AJ .add (.str a) (.str b)=if a.size+b.size<=9223372036854775807 then some (.str (a++b))else none:=rfl
@[simp] theorem YK(a b:V6):AJ .eql (.str a) (.str b)=some (.bool (a.toList == b.toList)):=rfl
@[simp] theorem YL(a b:V6):AJ .neq (.str a) (.str b)=some (.bool (!(a.toList == b.toList))):=rfl
@[simp] theorem YM(a b:V6):AJ .lss (.str a) (.str b)=some (.bool (Op.bytesLess a.toList b.toList)):=rfl
@[simp] theorem YN(a b:V6):AJ .leq (.str a) (.str b)=some (.bool (Op.bytesLess a.toList b.toList || a.toList == b.toList)):=rfl
@[simp] theorem YO(a b:V6):AJ .gtr (.str a) (.str b)=some (.bool (!(Op.bytesLess a.toList b.toList || a.toList == b.toList))):=rfl
@[simp] theorem YP(a b:V6):AJ .geq (.str a) (.str b)=some (.bool (!Op.bytesLess a.toList b.toList)):=rfl
@[simp] theorem tV(x:AK)(h:V2):gt (x::h) 0=x:=rfl
@[simp] theorem tW(x:AK)(h:V2)(n:Nat):gt (x::h) (n+1)=gt h n:=rfl
@[simp] theorem ZrM(a b:V6):a.toList=b.toList↔a=b:=by
 grind [ByteArray.toList_eq,ByteArray.ext,Array.toList_inj]
@[simp] theorem tX(a b:Int):(a == b)=decide (a=b):=by
 grind
@[simp] theorem tY(a b:Int):(a != b)=!decide (a=b):=by
 grind
@[simp] theorem tZ(a b:V6):(a.toList == b.toList)=decide (a=b):=by
 grind [ZrM]
@[simp] theorem rn0(h:V2)(e:Env):(List.range 0).map (Xo h e)=[]:=rfl
@[simp] theorem rn1(h:V2)(e:Env):(List.range 1).map (Xo h e)=[Xo h e 0]:=rfl
@[simp] theorem rn2(h:V2)(e:Env):(List.range 2).map (Xo h e)=[Xo h e 0,Xo h e 1]:=rfl
@[simp] theorem rn3(h:V2)(e:Env):(List.range 3).map (Xo h e)=[Xo h e 0,Xo h e 1,Xo h e 2]:=rfl
@[simp] theorem rn4(h:V2)(e:Env):(List.range 4).map (Xo h e)=[Xo h e 0,Xo h e 1,Xo h e 2,Xo h e 3]:=rfl
@[simp] theorem rn6(h:V2)(e:Env):(List.range 6).map (Xo h e)=[Xo h e 0,Xo h e 1,Xo h e 2,Xo h e 3,Xo h e 4,Xo h e 5]:=rfl
@[simp] theorem rn5(h:V2)(e:Env):(List.range 5).map (Xo h e)=[Xo h e 0,Xo h e 1,Xo h e 2,Xo h e 3,Xo h e 4]:=rfl
theorem down{Q:Nat->Prop}(n:Nat)(h0:Q n)(hs:∀i,i<n->Q (i+1)->Q i):∀i,i<=n->Q i:=by
 intro i hi;obtain⟨k,rfl⟩:∃k,n=i+k:=⟨n-i,Z⟩
 induction k generalizing i with
 |zero=>exact h0
 |succ k ih=>exact hs i Z (ih (i+1) (by rw[show i+1+k=i+(k+1) by omega];exact h0) (by intro j hj;exact hs j Z) Z)
abbrev I(n:Int):AV:=.t (.int .i64 n)
abbrev Bo(b:Bool):AV:=.t (.bool b)
abbrev L(sz:Nat)(es:WI):AV:=.t (.lst sz es)
open Go.RowKit (Below)
open Go.ChangeShapes Go.WideShapes Go.ChangeAt Go.RowKit
inductive BU where
 |int (k:IntKind)
 |bool
 |str
 |slice (cs:List BU)
def t5(rec:TypeId->Option (List BU))(P:Program):List Field->Nat->Option (List BU)
 |[],_=>some []
 |f::fs,o=>if f.offset=o then(match rec f.type with
  |some cs=>if cs.length=P.cellsOf f.type then(match t5 rec P fs (o+cs.length)with
   |some ds=>some (cs++ds)
   |none=>none)else none
  |none=>none)else none
def UL(P:Program):Nat->TypeId->Option (List BU)
 |0,_=>none
 |n+1,t=>match P.underlying t with
  |some .bool=>some [.bool]
  |some (.int k)=>some [.int k]
  |some .string=>some [.str]
  |some (.slice e)=>match UL P n e with
   |some cs=>if cs.length=P.cellsOf e/\0<cs.length then some [.slice cs]else none
   |none=>none
  |some (.struct fs)=>match t5 (UL P n) P fs.toList 0 with
   |some cs=>if cs.length=P.cellsOf t then some cs else none
   |none=>none
  |_=>none
mutual
inductive G7:BU->T->Prop
 |int {k:IntKind} {n:Int} (h:(Lit.int k n).wf=true):G7 (.int k) (.int k n)
 |bool (b:Bool):G7 .bool (.bool b)
 |str {s:V6} (h:s.size<=maxLen):G7 .str (.str s)
 |slice {cs:List BU} {es:WI} (hl:es.length<=maxLen) (h:JZ cs es):G7 (.slice cs) (.lst cs.length es)
inductive WV:List BU->V5->Prop
 |nil:WV [] []
 |cons {c:BU} {t:T} {cs:List BU} {ts:V5} (h:G7 c t) (hs:WV cs ts):WV (c::cs) (t::ts)
inductive JZ:List BU->WI->Prop
 |nil (cs:List BU):JZ cs []
 |cons {cs:List BU} {e:V5} {es:WI} (h:WV cs e) (hs:JZ cs es):JZ cs (e::es)
end
variable{ts:V5}
theorem WV.append{cs ds:List BU}{us:V5}(h:WV cs ts)(h':WV ds us):WV (cs++ds) (ts++us):=by
 induction cs generalizing ts with
 |nil=>cases h;exact h'
 |cons c cs ih=>cases h with|cons h hs=>exact .cons h (ih hs)
theorem WV.len{cs:List BU}(h:WV cs ts):ts.length=cs.length:=by
 induction cs generalizing ts with
 |nil=>cases h;rfl
 |cons c cs ih=>cases h with|cons h hs=>simp[ih hs]
theorem JZ.snoc{cs:List BU}{es:WI}{e:V5}(h:JZ cs es)(h':WV cs e):JZ cs (es++[e]):=by
 induction es with
 |nil=>exact .cons h' (.nil _)
 |cons x es ih=>cases h with|cons h hs=>exact .cons h (ih hs)
section
variable{H:Type}{enc:TypeId×Value->H}{P:Program}{w:World}{sp:Nat->Bool}{held:Bool}{n:Nat}
theorem Z4j{α:Type}{f:Nat->Option α}{xs:List α}(h:(List.range n).mapM f=some xs):xs.length=n/\∀i,i<n->∃x,xs[i]?=some x/\f i=some x:=by
 have key:∀(l:V3) (xs:List α),l.mapM f=some xs->xs.length=l.length/\∀(i:Nat) (a:Nat),l[i]?=some a->∃x,xs[i]?=some x/\f a=some x:=by
  intro l
  induction l with
  |nil=>intro xs h;simp at h;subst h;exact⟨rfl,Om⟩
  |cons a l ih =>
   intro xs h;simp only[List.mapM_cons,Option.bind_eq_bind,Ycw,Option.pure_def,Y4]at h
   grind
 obtain⟨h1,h2⟩:=key _ xs h;refine⟨by simpa using h1,λi hi=>h2 i i (by simp[hi])⟩
theorem Z4k{a:Addr}{cs:V4}(h:w.cells? 0 a n=some cs)(hn:0<n):∃g off c e fz,a=⟨g,off,none⟩/\w.heap[g]?=some (.cells c e fz)/\(c.toList.drop off).take n=cs/\cs.length=n:=by
 unfold World.cells? at h;simp only[Yc,if_true]at h;obtain⟨h1,h2⟩:=Z4j h;obtain⟨x,_,h4⟩:=h2 0 hn;have ha0:a.add 0=a:=by simp[Addr.add]
 rw[ha0]at h4;have h5:=h4;unfold World.cell? at h5;split at h5
 .rename_i c e fz hb;split at h5
  .cases h5
  .rename_i hs;obtain⟨g,off,spot⟩:=a
   have:spot=none:=by simpa using hs
   subst this;refine⟨g,off,c,e,fz,rfl,hb,?_,h1⟩;apply List.ext_getElem?;intro i;rw[List.getElem?_take];by_cases hi:i<n
   .rw[Ya hi];obtain⟨y,h6,h7⟩:=h2 i hi;rw[Jm,cell_of_row w g (off+i) c e fz hb]at h7;rw[h6,<-h7];simp
   .grind
 .cases h5
theorem ZFq:∀(fuel:Nat) (t:TypeId) (cs:V4) (d:DataW H) (ps:List MemPlace),DataW.trod enc P w 0 sp held fuel t cs=some (d,ps)->∀(n:Nat) (sh:List BU),UL P n t=some sh->∃ts fp,A6 w ts cs fp/\WV sh ts:=by
 intro fuel
 induction fuel with
 |zero=>intro t cs d ps h;simp[DataW.trod]at h
 |succ fuel ih =>
  intro t cs d ps h n sh hsh
  cases n with
  |zero=>simp[UL]at hsh
  |succ n =>
   cases hu:P.underlying t with
   |none=>simp[UL,hu]at hsh
   |some dd =>
    cases dd<;>try (simp[UL,hu]at hsh;done)
    case bool =>
     simp[UL,hu]at hsh;subst hsh;simp only[DataW.trod,hu]at h;split at h<;>try (simp_all;done)
     rename_i b _;exact⟨[.bool b],[],.cons (.bool b) .nil,.cons (.bool b) .nil⟩
    case int k =>
     simp[UL,hu]at hsh;subst hsh;simp only[DataW.trod,hu]at h;split at h<;>try (simp_all;done)
     rename_i k1 k2 m heq;cases heq;split at h
     .rename_i hc;obtain⟨rfl,hwf⟩:=hc;exact⟨[.int _ m],[],.cons (.int _ m) .nil,.cons (.int hwf) .nil⟩
     .cases h
    case string =>
     simp[UL,hu]at hsh;subst hsh;simp only[DataW.trod,hu]at h;split at h<;>try (simp_all;done)
     rename_i s heq;split at h
     .rename_i hc;exact⟨[.str s],[],.cons (.str s) .nil,.cons (.str hc) .nil⟩
     .cases h
    case slice e =>
     simp only[UL,hu]at hsh;split at hsh
     .rename_i ecs Ab8;split at hsh
      .rename_i hcond;cases hsh;simp only[DataW.trod,hu]at h;split at h<;>try (simp_all;done)
       .exact⟨[.lst ecs.length []],[],.cons (.lst0 _ _ _) .nil,.cons (.slice Om (.nil _)) .nil⟩
       .rename_i e' a len cap heq;cases heq;split at h
        .rename_i hb;simp only[Ycw]at h;obtain⟨K6,hel,_⟩:=h;obtain⟨hlen,hget⟩:=Z4j hel
         -- every element reads
         by_cases hl0:len=0
         .subst hl0;exact⟨[.lst ecs.length []],[],.cons (.lst0 _ _ _) .nil,.cons (.slice Om (.nil _)) .nil⟩
         .have hsz:0<P.cellsOf e:=by omega
          have helem:∀i,i<len->∃vs ts fp,w.cells? 0 (a.add (i*P.cellsOf e)) (P.cellsOf e)=some vs/\A6 w ts vs fp/\WV ecs ts:=by
           grind [Option.bind_eq_some_iff]
          obtain⟨vs0,ts0,fp0,h3,_,_⟩:=helem 0 Z;rw[Nat.zero_mul]at h3;have ha0:a.add 0=a:=by simp[Addr.add]
          rw[ha0]at h3;obtain⟨g,off,c,te,fz,rfl,hg,_,_⟩:=Z4k h3 hsz;have build:∀m,m<=len->∃es fp,es.length=m/\JZ ecs es/\(∀x∈es,x.length=P.cellsOf e)/\A6 w es.flatten ((c.toList.drop off).take (m*P.cellsOf e)) fp:=by
           intro m
           induction m with
           |zero=>intro _;exact⟨[],[],rfl,.nil _,Om,by simpa using A6.nil⟩
           |succ m ihm =>
            intro hm;obtain⟨es,fp,h5,h6,h7,h8⟩:=ihm Z;obtain⟨vs,ts,fq,h9,h10,h11⟩:=helem m Z;rw[Jm]at h9;obtain⟨g',off',c',te',fz',he,hg',hseg,hvl⟩:=Z4k h9 hsz;cases he;rw[hg]at hg';cases hg';refine⟨es++[ts],fp++fq,by simp[h5],?_,?_,?_⟩
            .exact h6.snoc h11
            .intro x hx;rcases Yl.1 hx with hx|hx
             .exact h7 x hx
             .simp at hx;subst hx;rw[h11.len];exact hcond.1
            .rw[Iv];simp only[OL,List.flatten_nil,E0];have e1:(c.toList.drop off).take ((m+1)*P.cellsOf e)=(c.toList.drop off).take (m*P.cellsOf e)++vs:=by
              simp_all [EK,OQ,List.take_add,Iu]
             rw[e1];exact h8.append h10
          obtain⟨es,fp,h5,h6,h7,h8⟩:=build len (Yj _);subst h5;refine⟨[.lst ecs.length es],(g::fp)++[],.cons ?_ .nil,.cons (.slice Z h6) .nil⟩;rw[hcond.1];exact .lst (by intro hc;subst hc;simp at hl0) hsz hb.2.1 hg h7 h8
        .cases h
      .cases hsh
     .cases hsh
    case struct fs =>
     simp only[UL,hu]at hsh;split at hsh
     .rename_i I4 Ab9;split at hsh
      .rename_i hcl;cases hsh;simp only[DataW.trod,hu]at h;split at h
       .rename_i hlen;simp only[Yr]at h;obtain⟨xs,hxs,_⟩:=h;have key:∀(l:List Field) (o:Nat) (I4:List BU) (xs:List (DataW H×List MemPlace)),t5 (UL P n) P l o=some I4->o+I4.length<=cs.length->
          l.mapM (λf=>DataW.trod enc P w 0 sp held fuel f.type ((cs.drop f.offset).take (P.cellsOf f.type)))=some xs->∃ts fp,A6 w ts ((cs.drop o).take I4.length) fp/\WV I4 ts:=by
         intro l
         induction l with
         |nil =>
          intro o I4 xs h1 _ _;cases h1
          exact⟨[],[],by simpa using A6.nil,.nil⟩
         |cons f l ihl =>
          intro o I4 xs h1 h2 h3;simp only[t5]at h1;split at h1
          .rename_i ho;split at h1
           .rename_i c1 hc1;split at h1
            .rename_i hl1;split at h1
             .rename_i c2 hc2;cases h1;simp only[List.mapM_cons,Option.bind_eq_bind,Ycw,Option.pure_def,Y4]at h3;obtain⟨x,hx,ys,hys,rfl⟩:=h3;rw[Yu]at h2;obtain⟨t1,f1,q1,q2⟩:=ih f.type _ x.1 x.2 hx n c1 hc1;obtain⟨t2,f2,q3,q4⟩:=ihl (o+c1.length) c2 ys hc2 Z hys;refine⟨t1++t2,f1++f2,?_,q2.append q4⟩;rw[ho,<-hl1]at q1;have e1:(cs.drop o).take (c1++c2).length=(cs.drop o).take c1.length++(cs.drop (o+c1.length)).take c2.length:=by
               rw[Yu,List.take_add,Iu]
              rw[e1];exact q1.append q3
             .cases h1
            .cases h1
           .cases h1
          .cases h1
        grind
       .cases h
      .cases hsh
     .cases hsh
end
open Go.RowKit (Below)
open Go.ChangeShapes Go.WideShapes Go.ChangeAt Go.RowKit
def G8:Bool×List BU->AV->Prop
 |(true,shs),a=>∃xs,a=.agg (xs.map .t)/\WV shs xs
 |(false,shs),a=>∃x,a=.t x/\WV shs [x]
def Da:List (Bool×List BU)->XQ->Prop
 |[],as=>as=[]
 |p::ps,as=>∃a as',as=a::as'/\G8 p a/\Da ps as'
def ED(P:Program)(t:TypeId):Option (Bool×List BU):=match UL P 16 t with
 |some cs=>match P.underlying t with
  |some (.struct _)=>some (true,cs)
  |some (.array _ _)=>none
  |some _=>some (false,cs)
  |none=>none
 |none=>none
def t6(P:Program):List TypeId->Option (List (Bool×List BU))
 |[]=>some []
 |t::ts=>match ED P t with
  |some p=>match t6 P ts with
   |some ps=>some (p::ps)
   |none=>none
  |none=>none
def Db(P:Program)(ts:List TypeId):Bool:=ts.all λt=>P.readableRec t && decide (t<P.types.size)
section
variable{H:Type}{enc:TypeId×Value->H}{P:Program}{w:World}{sp:Nat->Bool}{held:Bool}
theorem A6.rvs{ts:V5}{vs:V4}{fp:V3}(h:A6 w ts vs fp):AE VJ w (λ_=>True) (ts.map .t) vs:=by
 induction ts generalizing vs fp with
 |nil=>cases h;exact .nil
 |cons t ts ih=>cases h with|cons h hs=>exact .cons (.t h λ_ _=>trivial) (ih hs)
theorem FA{t:TypeId}{v:Value}{d:DataW H}{ps:List MemPlace}{base:Nat}(h:DataW.Trod enc P w 0 sp held t v d ps)(hok:Value.okWide P w .any base t v){p:Bool×List BU}(hp:ED P t=some p) :
  ∃a,RV VJ w (λ_=>True) a v/\G8 p a:=by
 obtain⟨fuel,h⟩:=h;unfold ED at hp;split at hp
 .rename_i cs hcs;obtain⟨ts,fp,h1,h2⟩:=ZFq fuel t _ d ps h 16 cs hcs;split at hp
  .rename_i fs hu;cases hp;obtain⟨c,rfl,_⟩:=okWide_struct hu hok;refine⟨.agg (ts.map .t),.agg h1.rvs h1.one,ts,rfl,h2⟩
  .cases hp
  .rename_i dd hns hna hu;cases hp;have hone:cs.length=1:=by
    unfold UL at hcs
    grind
   match ts,h2,h1 with
   |[],h2,h1=>have:=h2.len;simp at this;omega
   |[x],h2,h1 =>
    have hv:v.cells.toList=[v]:=by
     unfold UL at hcs;rw[hu]at hcs;cases dd<;>simp at hcs
     .obtain⟨_,rfl⟩:=okWide_bool hu hok;rfl
     .obtain⟨_,rfl⟩:=okWide_int hu hok;rfl
     .obtain⟨_,rfl⟩:=okWide_string hu hok;rfl
     .obtain⟨_,_,_,rfl⟩:=okWide_slice hu hok;rfl
     .simp_all
    rw[hv]at h1
    cases h1 with|cons h hs =>
    exact⟨.t x,.t h λ_ _=>trivial,x,rfl,h2⟩
   |_::_::_,h2,h1=>have:=h2.len;simp at this;omega
  .cases hp
 .cases hp
theorem Z4l{base:Nat}:∀(ts:List TypeId) (vs:V4) (ds:List (DataW H)) (ps:List MemPlace),DataW.TrodAll enc P w 0 sp held ts vs ds ps->
  (∀(j:Nat) t v,ts[j]?=some t->vs[j]?=some v->Value.okWide P w .any base t v)->∀l,t6 P ts=some l->∃as,AE VJ w (λ_=>True) as vs/\Da l as
 |[],[],[],_,_,_,l,hl=>by cases hl;exact⟨[],.nil,rfl⟩
 |t::ts,v::vs,d::ds,_,⟨p,q,h1,h2,_⟩,hok,l,hl=>by
  unfold t6 at hl;split at hl
  .rename_i p1 hp1;split at hl
   .rename_i ps1 hps1;cases hl;obtain⟨a,ha,hpa⟩:=FA h1 (hok 0 t v rfl rfl) hp1;obtain⟨as,has,Aaj⟩:=Z4l ts vs ds q h2 (λj t v h h'=>hok (j+1) t v (by simpa using h) (by simpa using h')) ps1 hps1;exact⟨a::as,.cons ha has,a,as,rfl,hpa,Aaj⟩
   .cases hl
  .cases hl
theorem Z4m(hl:laidOutB P=true){W W':World}(hb:Below W.heap.size W W'):∀(ts:List TypeId) (vs:V4) (ds:List (DataW H)) (ps:List MemPlace),Db P ts=true->DataW.TrodAll enc P W 0 (λ_=>true) true ts vs ds ps->
  (∀x∈ps,x.block<W.heap.size)->DataW.TrodAll enc P W' 0 (λb=>decide (b<W.heap.size)) true ts vs ds ps
 |[],[],[],_,_,h,_=>h
 |t::ts,v::vs,d::ds,_,hr,⟨p,q,h1,h2,e⟩,hlt=>by
  subst e;simp only[Db,CU,Yg,decide_eq_true_eq]at hr;exact⟨p,q,Below.trod hl hr.1.1 hr.1.2 h1 hb (λx hx=>hlt x (GL _ hx)),Z4m hl hb ts vs ds q hr.2 h2 (λx hx=>hlt x (Iy _ hx)),rfl⟩
theorem Z4n:∀(ts:List TypeId) (vs:V4) (ds:List (DataW H)) (ps:List MemPlace),DataW.TrodAll enc P w 0 sp held ts vs ds ps->ds.length=ts.length
 |[],[],[],_,_=>rfl
 |_::ts,_::vs,_::ds,_,⟨_,q,_,h2,_⟩=>by simp[Z4n ts vs ds q h2]
theorem ZEj(hl:laidOutB P=true){f:Nat}{fn:Func}{s:ChangeSpec}{tb:TypeId}{l:List (Bool×List BU)}(hrd:Db P fn.params.toList=true)(hsh:t6 P fn.params.toList=some l)
  (hres:fn.resultTypes=#[tb]) (htb:P.underlying tb=some .bool) (hvars:s.vars=[])
  (hfn:∀(H:Type) (ds:List (DataW H)),ds.length=fn.params.toList.length->(s.fn H ds).results=[.lit (.bool true)]/\(s.fn H ds).args=ds/\(s.fn H ds).vars=[])
  (hS:∀as,Da l as->∃hr,W5 P f as [] (.t (.bool true)) hr)
  (W:World) (base:Nat) (args:Array Value) (ds gs:List (DataW H)) (before:List MemPlace)
  (hval:∀(j:Nat) t v,fn.params[j]?=some t->args[j]?=some v->Value.okWide P W .any base t v)
  (hW:DataW.Whole enc P fn.params.toList s.vars false W args.toList ds gs before) :
  Calls P f args W λe W'=>∃v,e=.returned v/\s.post enc P fn false true false false W args v W':=by
 have hW':=hW;obtain⟨p,q,hA,hV,rfl,hfz,hnd⟩:=hW;have hV0:=hV;rw[hvars]at hV;obtain⟨rfl,rfl⟩:gs=[]/\q=[]:=by
  cases gs with
  |nil=>exact⟨rfl,hV⟩
  |cons _ _=>exact hV.elim
 obtain⟨as,hRV,hP⟩:=Z4l fn.params.toList args.toList ds p hA (λj t v h h'=>hval j t v (by simpa using h) (by simpa using h')) l hsh;obtain⟨hr,hC⟩:=hS as hP;refine(hC.data W (λ_=>True) args hRV).mono λe W' ⟨v,ρ,he,hB,_,hv,_⟩=>?_
 subst he;obtain⟨h1,h2,h3⟩:=hfn H (ds++[]) (by rw[E0];exact Z4n _ _ _ _ hA)
 cases hv with|t h _ =>
 cases h;have hlt:=hW'.lt;refine⟨_,rfl,ds,[],p++[],[],p,[],hW',?_,?_,?_,hB.frame _,(by intro h;cases h)⟩
 .rw[h1,hres];exact trodAll_cons_mk (p:=[]) (p':=[]) (shut_bool htb _) trodAll_mk0
 .simp_all [E0,Z4m]
 .rw[h3,hvars];rfl
end
def ic(n:Int):V5:=[.int .i64 n]
def AF(xs:WL):V5:=[.lst 1 (xs.map ic)]
def sc(s:V6):V5:=[.str s]
variable{cs:List BU}{ts:V5}
@[simp] theorem Aak(n:Int):ic n=[.int .i64 n]:=rfl
@[simp] theorem t7(xs:WL):AF xs=[.lst 1 (xs.map ic)]:=rfl
@[simp] theorem Aal(s:V6):sc s=[.str s]:=rfl
abbrev tI(xs:WL):T:=.lst 1 (xs.map ic)
abbrev Av(xs:WA):T:=.lst 1 (xs.map AF)
abbrev OkL{α:Type}(p:α->Prop)(xs:List α):Prop:=xs.length<=maxLen/\∀x∈xs,p x
abbrev Le{α:Type}(xs:List α):Prop:=xs.length<=1099511627776
theorem Z7{i:Nat}(h:i<1099511627776):IntKind.wrap .i64 ((i:Int)+1)=(i:Int)+1:=ZE Z Z
theorem YQ{n:Nat}(h:n<=4398046511104):n<=room:=Y6 h Sm
theorem tf(b:Bool):b=false\/b=true:=by cases b<;>simp
theorem Z4o{α:Type}{c:α->V5}{p:α->Prop}{cs:List BU}(hd:∀ts,WV cs ts->∃a,ts=c a/\p a):∀{es:WI},JZ cs es->∃xs:List α,es=xs.map c/\∀x∈xs,p x
 |[],_=>⟨[],rfl,λx hx=>by cases hx⟩
 |e::es,h=>by
  cases h with
  |cons h hs =>
   obtain⟨a,rfl,ha⟩:=hd e h;obtain⟨xs,rfl,hx⟩:=Z4o hd hs;exact⟨a::xs,rfl,λx hm=>by cases hm with|head=>exact ha|tail _ hm=>exact hx x hm⟩
theorem ZFr{α:Type}{c:α->V5}{p:α->Prop}{t:T}(hd:∀ts,WV cs ts->∃a,ts=c a/\p a)(h:G7 (.slice cs) t):∃xs:List α,t=.lst cs.length (xs.map c)/\OkL p xs:=by
 cases h with
 |slice hl h =>
  obtain⟨xs,rfl,hx⟩:=Z4o hd h
  grind
theorem Z2F{c:BU}(h:WV (c::cs) ts):∃t us,ts=t::us/\G7 c t/\WV cs us:=by
 cases h with
 |cons h hs=>exact⟨_,_,rfl,h,hs⟩
theorem FB(h:WV [] ts):ts=[]:=by cases h;rfl
end Go.AM
