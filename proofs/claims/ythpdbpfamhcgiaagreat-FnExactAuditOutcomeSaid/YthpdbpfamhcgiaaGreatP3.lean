/-
  Parts of the proofs for this seat: AMDraw AMDraw2 AMZ AMTop AMFun AMEv AMLive AMList AMSimp AMLaw AMLaw2 AMTy.
-/
import Derived.Carry
import Derived.Laws.Strings
import Derived.OpenShut
import Derived.Orders
import Derived.ProofKit
import Derived.Test.YthpdbpfamhcgiaaGreatP2
set_option linter.all false
namespace Go.AM
open Go.RowKit (Below)
structure Tr where
 dst:Option Nat
 v:AV
 u:List (Nat×Blk)
 foot:Foot
def appT(t:Tr)(s:S):S:={ s with env:=put t.dst t.v s.env,h:=upd s.h t.u }
def Xn(L:Nat->Bool):Nat->List Tr->S->S
 |_,[],s=>s
 |i,t::ts,s=>Xn L (i+1) ts (if L i then appT t s else s)
def gRun(o:MO)(e:Env):Prop:=o.guard=none\/∃g b,o.guard=some (g,b)/\lk g e=.t (.bool b)
def gSkip(o:MO)(e:Env):Prop:=∃g b,o.guard=some (g,b)/\(lk g e=.tup []\/∃c,lk g e=.t (.bool c)/\c≠b)
def ZhL(Γ:Ctr)(o:MO)(t:Tr)(s:S):Prop:=t.dst=o.dst/\t.foot=VT o s (t.u.map Prod.fst)/\
 ((gRun o s.env/\opR Γ s.h s.h.length s.env o.op t.v t.u)\/(gSkip o s.env/\t.v=.tup []/\t.u=[]))
def Steps(Γ:Ctr):List MO->List Tr->S->Prop
 |[],[],_=>True
 |o::os,t::ts,s=>ZhL Γ o t s/\Steps Γ os ts (appT t s)
 |_,_,_=>False
variable{Γ:Ctr}{h h':V7}{nx f:Nat}{u:List (Nat×Blk)}{vs:V2}{K:AV->List (Nat×Blk)->Prop}
theorem ZE8{o:MO}{s:S}{K:Foot->S->Prop}(h:drwG Γ o s K):∃t,ZhL Γ o t s/\K t.foot (appT t s):=by
 have run:gRun o s.env->Qi Γ o s K->∃t,ZhL Γ o t s/\K t.foot (appT t s):=by
  intro hg h
  cases ho:o.op with
  |call f args =>
   simp only[Qi,ho]at h;obtain⟨as,h1,r,hr,h2,h3,h4⟩:=h
   exact⟨⟨o.dst,shift s.h.length r,newU s.h.length hr 0,_⟩,⟨rfl,rfl,.inl ⟨hg,by rw[ho];exact⟨as,h1,r,hr,h2,h3,rfl,rfl⟩⟩⟩,h4⟩
  |fcall f args =>
   simp only[Qi,ho]at h;obtain⟨as,h1,hno,r,hr,d,h2,h3,h4⟩:=h
   exact⟨⟨o.dst,_,_,_⟩,⟨rfl,rfl,.inl ⟨hg,by rw[ho];exact⟨as,h1,hno,r,hr,h2,h3,rfl⟩⟩⟩,h4⟩
  |icall f args =>
   simp only[Qi,ho,Qh]at h;obtain⟨h1,r,h2,h3,h4⟩:=h
   exact⟨⟨o.dst,_,_,_⟩,⟨rfl,rfl,.inl ⟨hg,by rw[ho];exact⟨h1,r,h2,h3,rfl,rfl⟩⟩⟩,h4⟩
  |pcall f args =>
   simp only[Qi,ho,Jv]at h;obtain⟨h1,r,h2,h3,h4⟩:=h
   exact⟨⟨o.dst,_,_,_⟩,⟨rfl,rfl,.inl ⟨hg,by rw[ho];exact⟨h1,r,h2,h3,rfl,rfl⟩⟩⟩,h4⟩
  |dcall f args =>
   simp only[Qi,ho]at h;split at h
   .rename_i g caps hgc;obtain⟨h1,r,h2,h3,h4⟩:=h;exact⟨⟨o.dst,_,_,_⟩,⟨rfl,rfl,.inl ⟨hg,by rw[ho];exact⟨g,caps,hgc,h1,r,h2,h3,rfl,rfl⟩⟩⟩,h4⟩
   .exact h.elim
  |_ =>
   simp only[Qi,ho]at h;split at h
   .rename_i v u hev;exact⟨⟨o.dst,v,u,_⟩,⟨rfl,rfl,.inl ⟨hg,by rw[ho];exact hev⟩⟩,h⟩
   .exact h.elim
 have skip:gSkip o s.env->K (VT o s []) { s with env:=put o.dst (.tup []) s.env }->∃t,ZhL Γ o t s/\K t.foot (appT t s):=λhg h =>
  ⟨⟨o.dst,.tup [],[],VT o s []⟩,⟨rfl,rfl,.inr ⟨hg,rfl,rfl⟩⟩,h⟩
 unfold drwG at h;split at h
 .rename_i hg;exact run (.inl hg) h
 .rename_i g want hg;split at h
  .rename_i b hb;split at h
   .rename_i hbw;subst hbw;exact run (.inr ⟨g,b,hg,hb⟩) h
   .rename_i hbw;exact skip ⟨g,want,hg,.inr ⟨b,hb,hbw⟩⟩ h
  .rename_i hb;exact skip ⟨g,want,hg,.inl hb⟩ h
  .exact h.elim
theorem Z2o{Γ:Ctr}:∀(os:List MO) (s:S) (feet:List Foot) (K:List Foot->S->Prop) (i:Nat),drwW Γ os s feet K->∃ts,Steps Γ os ts s/\K (feet++ts.map (·.foot)) (Xn (λ_=>true) i ts s)
 |[],s,feet,K,i,h=>⟨[],trivial,by simp only[Yca,Y9,Xn];exact h⟩
 |o::os,s,feet,K,i,h=>by
  obtain⟨t,h1,h2⟩:=ZE8 h;obtain⟨ts,h3,h4⟩:=Z2o os (appT t s) _ K (i+1) h2;refine⟨t::ts,⟨h1,h3⟩,?_⟩;simpa[Xn]using h4
theorem ZhM{L:Nat->Bool}:∀(ts:List Tr) (k:Nat) (s:S),(∀j,k<=j->L j=false)->Xn L k ts s=s
 |[],_,_,_=>rfl
 |t::ts,k,s,h=>by
  simp only[Xn,h k (Yj _),Yby,if_false];exact ZhM ts (k+1) s λj hj=>h j (by omega)
theorem Z2p{Γ:Ctr}:∀(os:List MO) (ts:List Tr) (s:S) (k:Nat),Steps Γ os ts s->ts.length=os.length/\∀i o,os[i]?=some o->∃t,ts[i]?=some t/\ZhL Γ o t (Xn (λj=>decide (j<k+i)) k ts s)
 |[],[],_,_,_=>⟨rfl,by simp⟩
 |o::os,t::ts,s,k,h=>by
  obtain⟨h1,h2⟩:=h;obtain⟨h3,h4⟩:=Z2p os ts (appT t s) (k+1) h2;refine⟨by simp[h3],?_⟩;intro i o' ho
  cases i with
  |zero =>
   simp_all [ZhM]
  |succ i =>
   obtain⟨t',h5,h6⟩:=h4 i o' (by simpa using ho);refine⟨t',by simpa using h5,?_⟩;have e:Xn (λj=>decide (j<k+(i+1))) k (t::ts) s=Xn (λj=>decide (j<k+1+i)) (k+1) ts (appT t s):=by
    simp only[Xn]
    grind
   rw[e]
   exact h6
 |[],_::_,_,_,h=>h.elim
 |_::_,[],_,_,h=>h.elim
theorem ZhN(d:Option Nat)(v:AV)(e:Env)(r:Nat):lk r (put d v e)=if d=some r then v else lk r e:=by
 cases d with
 |none=>simp[put]
 |some d=>simp[put,lk]
theorem Z2q:∀{h h':V7} {b:Nat},b∈u.map Prod.fst->gt (upd h u) b=gt (upd h' u) b:=by
 induction u with
 |nil=>intro h h' b hb;simp at hb
 |cons p u ih =>
  intro h h' b hb;obtain⟨c,x⟩:=p;by_cases hu:b∈u.map Prod.fst
  .exact ih hu
  .simp only[upd];rw[ZhK hu,ZhK hu,K8,K8]
   simp_all
theorem ZhO{L L':Nat->Bool}(r:Nat):∀(ts:List Tr) (k:Nat) (s s':S),(∀j t,ts[j]?=some t->t.dst=some r->L (k+j)=L' (k+j))->lk r s.env=lk r s'.env->lk r (Xn L k ts s).env=lk r (Xn L' k ts s').env
 |[],_,_,_,_,h=>h
 |t::ts,k,s,s',hL,h=>by
  simp only[Xn];refine ZhO r ts (k+1) _ _ (λj t' hj hd=>?_) ?_
  .have:=hL (j+1) t' (by simpa using hj) hd
   grind
  .have h0:=hL 0 t rfl;rw[Ybt]at h0;by_cases hd:t.dst=some r
   .rw[h0 hd];cases L' k
    .simpa using h
    .simp[appT,ZhN,hd]
   .have key:∀(b:Bool) (x:S),lk r (if b=true then appT t x else x).env=lk r x.env:=by
     intro b x;cases b
     .rfl
     .simp[appT,ZhN,hd]
    rw[key,key,h]
theorem ZhP{L L':Nat->Bool}(b:Nat):∀(ts:List Tr) (k:Nat) (s s':S),(∀j t,ts[j]?=some t->b∈t.u.map Prod.fst->L (k+j)=L' (k+j))->gt s.h b=gt s'.h b->gt (Xn L k ts s).h b=gt (Xn L' k ts s').h b
 |[],_,_,_,_,h=>h
 |t::ts,k,s,s',hL,h=>by
  simp only[Xn];refine ZhP b ts (k+1) _ _ (λj t' hj hd=>?_) ?_
  .have:=hL (j+1) t' (by simpa using hj) hd
   grind
  .have h0:=hL 0 t rfl;rw[Ybt]at h0;by_cases hd:b∈t.u.map Prod.fst
   .rw[h0 hd];cases L' k
    .simpa using h
    .simp only[if_true,appT];exact Z2q hd
   .have key:∀(c:Bool) (x:S),gt (if c=true then appT t x else x).h b=gt x.h b:=by
     intro c x;cases c
     .rfl
     .simp only[if_true,appT];exact ZhK hd
    rw[key,key,h]
theorem ZhQ{L:Nat->Bool}:∀(ts:List Tr) (k:Nat) (s:S),(Xn L k ts s).stk=s.stk
 |[],_,_=>rfl
 |t::ts,k,s=>by
  simp only[Xn];rw[ZhQ ts];split<;>rfl
theorem Zmm{L:Nat->Bool}:∀(ts:List Tr) (k:Nat) (s:S),s.h.length<=(Xn L k ts s).h.length/\∀j t,ts[j]?=some t->L (k+j)=true->∀b∈t.u.map Prod.fst,b<(Xn L k ts s).h.length
 |[],_,_=>⟨Yj _,by simp⟩
 |t::ts,k,s=>by
  simp only[Xn];obtain⟨h1,h2⟩:=Zmm ts (k+1) (if L k=true then appT t s else s);have h3:s.h.length<=(if L k=true then appT t s else s).h.length:=by
   split
   .exact(ZqP t.u s.h).1
   .exact Yj _
  refine⟨Yr h3 h1,?_⟩;intro j t' hj hL b hb
  cases j with
  |zero =>
   simp at hj;subst hj;rw[Ybt]at hL;rw[hL]at h1|-;simp only[if_true]at h1|-
   exact Yb0 ((ZqP t.u s.h).2 b hb) h1
  |succ j =>
   grind
theorem Z2r{L:Nat->Bool}{i:Nat}{t:Tr}(hi:L i=false):∀(ts:List Tr) (k:Nat) (s:S),(∃m,i=k+m/\ts[m]?=some t)->
  ((∀r,t.dst=some r->∀j t',ts[j]?=some t'->i<k+j->L (k+j)=true->t'.dst≠some r)->∀r,lk r (Xn (λj=>L j || decide (j=i)) k ts s).env=lk r (appT t (Xn L k ts s)).env)/\
  ((∀b∈t.u.map Prod.fst,∀j t',ts[j]?=some t'->i<k+j->L (k+j)=true->b ∉ t'.u.map Prod.fst)->∀b,gt (Xn (λj=>L j || decide (j=i)) k ts s).h b=gt (appT t (Xn L k ts s)).h b)
 |[],_,_,⟨m,_,h⟩=>by simp at h
 |t0::ts,k,s,⟨m,hm,ht⟩=>by
  cases m with
  |zero =>
   simp at ht;subst ht;have hik:i=k:=by omega
   subst hik;simp only[Xn,hi,Yda,decide_true,if_true,Yby,if_false];constructor
   .intro hw r;by_cases hd:t0.dst=some r
    .have e1:=ZhO (L:=λj=>L j || decide (j=i)) (L':=λ_=>false) r ts (i+1) (appT t0 s) (appT t0 s) (λj t' hj hd'=>by
      have:=hw r hd (j+1) t' (by simpa using hj) (by omega);cases hx:L (i+1+j)
      .simp;omega
      .exact absurd hd' (this (by rw[show i+(j+1)=i+1+j by omega];exact hx))) rfl
     rw[e1,ZhM ts (i+1) _ (λ_ _=>rfl)];simp[appT,ZhN,hd]
    .have e1:=ZhO (L:=λj=>L j || decide (j=i)) (L':=L) r ts (i+1) (appT t0 s) s (λj t' hj hd'=>by
      have:(decide (i+1+j=i))=false:=by simp;omega
      simp[this]) (by simp[appT,ZhN,hd])
     rw[e1];simp[appT,ZhN,hd]
   .intro hw b;by_cases hd:b∈t0.u.map Prod.fst
    .have e1:=ZhP (L:=λj=>L j || decide (j=i)) (L':=λ_=>false) b ts (i+1) (appT t0 s) (appT t0 s) (λj t' hj hd'=>by
      have:=hw b hd (j+1) t' (by simpa using hj) (by omega);cases hx:L (i+1+j)
      .simp;omega
      .exact absurd hd' (this (by rw[show i+(j+1)=i+1+j by omega];exact hx))) rfl
     rw[e1,ZhM ts (i+1) _ (λ_ _=>rfl)];exact Z2q hd
    .have e1:=ZhP (L:=λj=>L j || decide (j=i)) (L':=L) b ts (i+1) (appT t0 s) s (λj t' hj hd'=>by
      have:(decide (i+1+j=i))=false:=by simp;omega
      simp[this]) (by simp only[appT];exact ZhK hd)
     rw[e1];simp only[appT]
     exact(ZhK hd).symm
  |succ m =>
   have hne:decide (k=i)=false:=by simp;omega
   simp only[Xn,hne,Bool.or_false];have ih:=Z2r hi ts (k+1) (if L k=true then appT t0 s else s) ⟨m,by omega,by simpa using ht⟩;constructor
   .intro hw;exact ih.1 λr hr j t' hj hlt hL=>hw r hr (j+1) t' (by simpa using hj) (by omega) (by rw[show k+(j+1)=k+1+j by omega];exact hL)
   .intro hw;exact ih.2 λb hb j t' hj hlt hL=>hw b hb (j+1) t' (by simpa using hj) (by omega) (by rw[show k+(j+1)=k+1+j by omega];exact hL)
theorem ZqV{L:Nat->Bool}:∀(bs:List (V8)) (acc:List (V8)),(∀j b,bs[j]?=some b->L (acc.length+j)=true->∀i∈b,L i=true)->(∀j c,acc[j]?=some c->L j=true->∀i∈c,L i=true)->
  ∀j c,(ZhA bs acc)[j]?=some c->L j=true->∀i∈c,L i=true
 |[],acc,_,h=>h
 |b::bs,acc,hb,h=>by
  simp only[ZhA];refine ZqV bs _ (λj b' hj hL=>hb (j+1) b' (by simpa using hj) (by simp at hL;rw[show acc.length+(j+1)=acc.length+1+j by omega];exact hL)) ?_;intro j c hj hL i hi;rw[List.getElem?_append]at hj;split at hj
  .exact h j c hj hL i hi
  .rename_i hlt;have hj0:j=acc.length:=by
    grind
   subst hj0;simp at hj;subst hj;have h0:=hb 0 b rfl (by simpa using hL)
   grind
theorem Z2s{before:List (V8)}{feet:List Foot}(h:Zbe before feet=true){i j:Nat}{f g:Foot}(hi:feet[i]?=some f)(hj:feet[j]?=some g)(hij:i<j)(hc:QX f g=true) :
  ∃c,(ZhA before [])[j]?=some c/\i∈c:=by
 unfold Zbe at h;have hjl:j<feet.length:=by
  grind
 have h1:=Yl.1 h j (Ybg.2 hjl);unfold Z14 at h1
 grind
theorem Z2t(hh:∀b∈XW h 200 (ZS vs) [],gt h b=gt h' b)(hr:Qh Γ f vs h nx K):Qh Γ f vs h' nx K:=by
 obtain⟨e1,e2,e3⟩:=Z2m hh;unfold Qh;rw[e1,e2,e3];exact hr
theorem ZE9(hh:∀b∈XW h 200 (ZS vs) [],gt h b=gt h' b)(hr:Jv Γ f vs h nx K):Jv Γ f vs h' nx K:=by
 obtain⟨e1,e2,e3⟩:=Z2m hh;unfold Jv;rw[e1,e2,e3];exact hr
theorem ZEA{e e':Env}{k:MOp}{v:AV}(he:∀x∈Xa k,ev e x=ev e' x)(hh:∀b∈rbOf k h e,gt h b=gt h' b)
  (hr:opR Γ h nx e k v u):opR Γ h' nx e' k v u:=by
 cases k with
 |call f args =>
  obtain⟨as,h1,r,hr,h2,h3,h4,h5⟩:=hr;have e1:args.map (ev e')=args.map (ev e):=Yb6 λx hx=>(he x (by simpa[Xa]using hx)).symm
  refine⟨as,?_,r,hr,h2,by rw[e1];exact h3,h4,h5⟩;rw[e1,<-h1]
  exact(Z2l (Z2j hh)).symm
 |fcall f args =>
  obtain⟨as,h1,hno,r,hr,h2,h3,h4⟩:=hr;have e1:args.map (ev e')=args.map (ev e):=Yb6 λx hx=>(he x (by simpa[Xa]using hx)).symm
  refine⟨as,?_,by rw[e1];exact hno,r,hr,h2,h3,h4⟩;rw[e1,<-h1]
  exact(Z2l (Z2j hh)).symm
 |icall f args =>
  have e1:args.map (ev e')=args.map (ev e):=Yb6 λx hx=>(he x (by simpa[Xa]using hx)).symm
  simp only[opR]at hr|-;rw[e1]
  exact Z2t (λb hb=>hh b (ZqS hb)) hr
 |pcall f args =>
  have e1:args.map (ev e')=args.map (ev e):=Yb6 λx hx=>(he x (by simpa[Xa]using hx)).symm
  simp only[opR]at hr|-;rw[e1]
  exact ZE9 (λb hb=>hh b (ZqS hb)) hr
 |dcall f args =>
  obtain⟨g,caps,hg,hr⟩:=hr;have e1:args.map (ev e')=args.map (ev e):=Yb6 λx hx=>(he x (by simp[Xa,hx])).symm
  refine⟨g,caps,by rw[<-he f (by simp[Xa])];exact hg,?_⟩;rw[e1];refine Z2t (λb hb=>hh b (ZqS ?_)) hr;simp only[Zbd,hg]
  exact hb
 |mov x =>
  change ZK h nx e (.mov x)=some (v,u)at hr;show ZK h' nx e' (.mov x)=some (v,u);simp only[ZK]at hr|-;rw[<-he x (by simp[Xa])]
  exact hr
 |_ =>
  show ZK h' nx e' _=some (v,u);rw[<-ZE6 he (λx hx b hb=>hh b (ZEv (Yt.2 ⟨x,hx,rfl⟩) hb))];exact hr
section
variable{P:Program}{N:Par}{base:Nat}{w0:World}{nt:Nat}{ts:List (Array Value)}{inl:V8}{D D':Nat->Prop}{ρ:Map}{s:S}{a:Act}{w:World}{d:Option Nat}
structure RelD (N:Par) (base:Nat) (w0:World) (nt:Nat) (ts:List (Array Value)) (D:Nat->Prop) (ρ:Map) (s:S) (a:Act) (w:World):Prop where
 rel:Rel N base ρ s.h w
 env:Wk ρ w (Free N ρ s.h) s.env a.tmps
 stk:Qk ρ w (Free N ρ s.h) s.stk ts
 dom:∀b,D b->ρ b=none
 defers:a.defers=[]
 size:a.tmps.size=nt
 below:Below base w0 w
 kn:∀g,g<w0.heap.size->¬N.a g->w.heap[g]?=w0.heap[g]?
 fz:∀g,g<w0.heap.size->N.z g->Free N ρ s.h g/\w.heap[g]?=w0.heap[g]?
theorem RelD.congr{s':S}(h:RelD N base w0 nt ts D ρ s a w)(hl:∀r,lk r s.env=lk r s'.env)(hg:∀b,gt s.h b=gt s'.h b)(hk:s.stk=s'.stk)(hD:∀b,D' b->D b) :
  RelD N base w0 nt ts D' ρ s' a w:=by
 refine⟨h.rel.congr hg,?_,?_,λb hb=>h.dom b (hD b hb),h.defers,h.size,h.below,h.kn,by rw[<-Free.congr hg];exact h.fz⟩
 .intro r;rw[<-hl,<-Free.congr hg];exact h.env r
 .rw[<-hk,<-Free.congr hg];exact h.stk
theorem RelD.after{ρ':Map}{w':World}(hS:RelD N base w0 nt ts D ρ s a w){v:AV}{u:List (Nat×Blk)}{val:Value}(hA:Ka N base ρ s.h w v u val w' ρ')(hd:∀x,d=some x->x<nt)
  (hD:∀b,D' b->D b/\b ∉ u.map Prod.fst):RelD N base w0 nt ts D' ρ' { s with env:=put d v s.env,h:=upd s.h u } (a.put d val) w':=by
 refine⟨hA.rel,Zmj (λs=>(hS.env s).keep hA.keeps) hA.val λx hx=>by rw[hS.size];exact hd x hx,hS.stk.keep hA.keeps,?_,by rw[Zmk];exact hS.defers,by rw[Zml];exact hS.size,hS.below.trans hA.below,
  λg hg hn=>(hA.kn g (Yb0 hg hS.below.size) hn).trans (hS.kn g hg hn),λg hg hz=>?_⟩
 .intro b hb;exact hA.same b (hD b hb).2 (hS.dom b (hD b hb).1)
 .obtain⟨h1,h2⟩:=hS.fz g hg hz;obtain⟨h3,h4⟩:=hA.keeps.free g (Yb0 hg hS.below.size) h1
  simp_all
theorem RelD.skip(hS:RelD N base w0 nt ts D ρ s a w)(hd:∀x,d=some x->x<nt) :
  RelD N base w0 nt ts D ρ { s with env:=put d (.tup []) s.env } (a.put d undef) w :=
 ⟨hS.rel,Zmj hS.env (RV.tup (c:=#[]) .nil) λx hx=>by rw[hS.size];exact hd x hx,hS.stk,hS.dom,by rw[Zmk];exact hS.defers,by rw[Zml];exact hS.size,hS.below,hS.kn,hS.fz⟩
theorem Zcv{a b:V8}{x:Nat}(h:x∈a)(h':x∈b):meets a b=true:=by
 unfold meets
 grind
end
open Go.RowKit (Below)
section
variable{P:Program}{N:Par}{base:Nat}{w0:World}{nt:Nat}{ts:List (Array Value)}{inl:V8}
theorem Z2u{α β:Type}{f:α->Option β}:∀{l:List α} {os:List β},mapO f l=some os->∀{i:Nat} {o:α},l[i]?=some o->∃m,os[i]?=some m/\f o=some m
 |[],_,_,_,_,h=>by simp at h
 |x::l,os,hm,i,o,h=>by
  obtain⟨m,ms,h1,h2,rfl⟩:=Jy hm
  cases i with
  |zero=>simp at h;subst h;exact⟨m,rfl,h1⟩
  |succ i =>
   obtain⟨m',h3,h4⟩:=Z2u h2 (i:=i) (o:=o) (by simpa using h)
   simp_all
theorem Z2v:∀{bs:List (V8)} {k:Nat},backB bs k=true->∀{j:Nat} {b:V8},bs[j]?=some b->∀i∈b,i<k+j
 |[],_,_,_,_,h=>by simp at h
 |x::bs,k,hb,j,b,h=>by
  simp only[backB,Yg,Yl,decide_eq_true_eq]at hb;intro i hi
  cases j with
  |zero=>simp at h;subst h;exact hb.1 i hi
  |succ j=>have:=Z2v hb.2 (j:=j) (b:=b) (by simpa using h) i hi;omega
theorem Zmn{listed:Array Bool}{i j:Nat}(hi:i<listed.size):(listed.setIfInBounds i true).getD j false=(listed.getD j false || decide (j=i)):=by
 simp only[Ycg,Array.getElem?_setIfInBounds]
 grind
variable{ops:Array Oper}{os:List MO}{tr:List Tr}{s0:S}{Qc:Exit->Act->World->Prop}
def domD(tr:List Tr)(s0:S)(L:Nat->Bool)(b:Nat):Prop:=s0.h.length<=b/\∀j t,tr[j]?=some t->L j=true->b ∉ t.u.map Prod.fst
theorem ZEB(hback:backB (ops.toList.map Uy) 0=true){listed:Array Bool}(hsz:listed.size=ops.size)(hr:Region.ready .any ops listed=[]):∀j,j<ops.size->listed.getD j false=true:=by
 intro j
 induction j using Nat.strongRecOn with
 |ind j ih =>
  intro hj
  cases hc:listed.getD j false with
  |true=>rfl
  |false =>
   exfalso;have hmem:j∈Region.ready .any ops listed:=by
    unfold Region.ready;refine Ybb.2 ⟨Ybg.2 hj,?_⟩;have h1:listed.getD j true=false:=by
     simp_all
    have h2:ops[j]?=some ops[j]:=by simp[hj]
    rw[h1,h2];simp only[Bool.not_false,Yn,Option.map_some,Option.getD_some];rw[Array.all_eq_true_iff_forall_mem];intro e he
    cases hb:Region.binds .any e with
    |false=>rfl
    |true =>
     simp only[Bool.not_true,Yda];have hin:e.on∈Uy ops[j]:=by
      unfold Uy
      grind
     have hlt:=Z2v hback (j:=j) (b:=Uy ops[j]) (by simp[hj]) e.on hin
     grind
   simp_all
theorem Z2w{K:S->Prop}(hQ:∀s a w ρ,K s->RelS N base w0 nt ts ρ s a w->Qc .normal a w)(hlen:tr.length=ops.size)(hK:K (Xn (λ_=>true) 0 tr s0)){listed:Array Bool}(hall:∀j,j<ops.size->listed.getD j false=true)
  {ρ:Map} {a:Act} {w:World} (hS:RelD N base w0 nt ts (domD tr s0 (listed.getD · false)) ρ (Xn (listed.getD · false) 0 tr s0) a w):Qc .normal a w:=by
 have hj:∀(j:Nat) (t:Tr),tr[j]?=some t->listed.getD (0+j) false=true:=by
  grind
 have h1:=hS.congr (s':=Xn (λ_=>true) 0 tr s0) (D':=domD tr s0 (listed.getD · false)) (λr=>ZhO r tr 0 _ _ (λj t h _=>hj j t h) rfl) (λb=>ZhP b tr 0 _ _ (λj t h _=>hj j t h) rfl) (by rw[ZhQ,ZhQ]) (λ_ h=>h);refine hQ _ a w ρ hK ⟨h1.rel,h1.env,h1.stk,?_,h1.defers,h1.size,h1.below,h1.kn,h1.fz⟩;intro b hb;have hl:=Zmm (L:=λ_=>true) tr 0 s0;refine h1.dom b ⟨by omega,?_⟩
 grind
theorem drw_any(hos:mapO (compO P inl nt ops) ops.toList=some os)(hback:backB (ops.toList.map Uy) 0=true)(hst:Steps (Wr P) os tr s0)(hord:Zbe (ops.toList.map Uy) (tr.map (·.foot))=true)
  {K:S->Prop} (hQ:∀s a w ρ,K s->RelS N base w0 nt ts ρ s a w->Qc .normal a w) (hK:K (Xn (λ_=>true) 0 tr s0)) :
  ∀(fuel:Nat) (listed:Array Bool) (a:Act) (w:World) (ρ:Map),listed.size=ops.size->listed.toList.count false<=fuel->
   (∀j b,(ops.toList.map Uy)[j]?=some b->listed.getD j false=true->∀i∈b,listed.getD i false=true)->
   RelD N base w0 nt ts (domD tr s0 (listed.getD · false)) ρ (Xn (listed.getD · false) 0 tr s0) a w->wpAny P .any ops Qc fuel listed a w:=by
 obtain⟨hl1,hat⟩:=Z2p os tr s0 0 hst;have hlen:tr.length=ops.size:=by rw[hl1,ZqF hos];simp
 have hdst:∀(j:Nat) (t:Tr),tr[j]?=some t->(∀r,t.dst=some r->r∈t.foot.ws)/\t.u.map Prod.fst=t.foot.wb:=by
  intro j t h;have hj:j<os.length:=by
   grind
  obtain⟨t',h1,h2,h3,_⟩:=hat j os[j] (by simp[hj]);rw[h]at h1;cases h1;rw[h3];exact⟨λr hr=>by simp[VT,<-h2,hr],rfl⟩
 intro fuel
 induction fuel with
 |zero =>
  intro listed a w ρ hsz hc hcl hS;have hall:∀j,j<ops.size->listed.getD j false=true:=by
   intro j hj
   cases hx:listed.getD j false with
   |true=>rfl
   |false =>
    exfalso
    have:false∈listed.toList:=by
     rw[Ycg]at hx
     grind
    grind
  refine⟨?_,Z2w hQ hlen hK hall hS⟩;unfold Region.ready
  simp_all
 |succ fuel ih =>
  intro listed a w ρ hsz hc hcl hS;refine⟨λhr=>Z2w hQ hlen hK (ZEB hback hsz hr) hS,?_⟩;intro i hi;unfold Region.ready at hi;obtain⟨hir,hcond⟩:=Ybb.1 hi;have hin:i<ops.size:=Ybg.1 hir;have hil:i<listed.size:=by omega
  have hops:ops[i]?=some ops[i]:=by simp[hin]
  rw[hops]at hcond;simp only[Option.map_some,Option.getD_some,Yg,Bool.not_eq_true',Array.all_eq_true_iff_forall_mem]at hcond;obtain⟨hLt,haft⟩:=hcond;have hLi:listed.getD i false=false:=by
   simp_all
  have hbef:∀j∈Uy ops[i],listed.getD j false=true:=by
   intro j hj;unfold Uy at hj
   grind
  -- the operation
  obtain⟨m,hm,hcm⟩:=Z2u hos (i:=i) (o:=ops[i]) (by simp[hin]);obtain⟨hk,hmd,hd,hguard⟩:=Z2f hcm;obtain⟨t,ht,htd,htf,hstep⟩:=hat i m hm
  -- the new list
  have hcl':∀(j:Nat) (b:V8),(ops.toList.map Uy)[j]?=some b->(listed.setIfInBounds i true).getD j false=true->∀x∈b,(listed.setIfInBounds i true).getD x false=true:=by
   intro j b hb hj x hx;rw[Zmn hil]at hj|-
   grind
  -- who is in QX
  have low:∀(j:Nat) (t':Tr),tr[j]?=some t'->j<i->QX t'.foot t.foot=true->listed.getD j false=true:=by
   intro j t' hj hlt hcf;obtain⟨c,h1,h2⟩:=Z2s hord (i:=j) (j:=i) (f:=t'.foot) (g:=t.foot) (by simp[hj]) (by simp[ht]) hlt hcf;have h3:=ZqV (L:=λj=>(listed.setIfInBounds i true).getD j false) (ops.toList.map Uy) [] (λj b hb hL=>hcl' j b hb (by simpa using hL)) (by simp) i c h1 (by simp only[Zmn hil,decide_true,Bool.or_true]) j h2
   grind [Zmn]
  have high:∀(j:Nat) (t':Tr),tr[j]?=some t'->i<j->QX t.foot t'.foot=true->listed.getD j false=true->False:=by
   intro j t' hj hlt hcf hL;obtain⟨c,h1,h2⟩:=Z2s hord (i:=i) (j:=j) (f:=t.foot) (g:=t'.foot) (by simp[ht]) (by simp[hj]) hlt hcf;have h3:=ZqV (L:=λj=>listed.getD j false) (ops.toList.map Uy) [] (λj b hb hL=>hcl j b hb (by simpa using hL)) (by simp) j c h1 hL i h2
   simp_all
  -- what it looks at stands as in the text's order
  have hlk:∀r∈t.foot.rs,lk r (Xn (λj=>decide (j<0+i)) 0 tr s0).env=lk r (Xn (listed.getD · false) 0 tr s0).env:=by
   intro r hr;refine ZhO r tr 0 _ _ (λj t' hj hd'=>?_) rfl;have hw:=(hdst j t' hj).1 r hd';rcases Ycx j i with hlt|rfl|hgt
   .rw[Yv,Yv,low j t' hj hlt (by simp[QX,Zcv hw (Ycm t.foot.ws hr)])];simpa using hlt
   .grind
   .rw[Yv,Yv]
    cases hx:listed.getD j false with
    |true=>exact(high j t' hj hgt (by simp[QX,Zcv hw hr]) hx).elim
    |false=>simp;omega
  have hgt':∀b∈t.foot.rb,gt (Xn (λj=>decide (j<0+i)) 0 tr s0).h b=gt (Xn (listed.getD · false) 0 tr s0).h b:=by
   intro b hb;refine ZhP b tr 0 _ _ (λj t' hj hd'=>?_) rfl;have hw:b∈t'.foot.wb:=by rw[<-(hdst j t' hj).2];exact hd'
   rcases Ycx j i with hlt|rfl|hgt
   .rw[Yv,Yv,low j t' hj hlt (by simp[QX,Zcv hw (Ycm t.foot.wb hb)])];simpa using hlt
   .grind
   .rw[Yv,Yv]
    cases hx:listed.getD j false with
    |true=>exact(high j t' hj hgt (by simp[QX,Zcv hw hb]) hx).elim
    |false=>simp;omega
  have hLfun:(λj=>(listed.setIfInBounds i true).getD j false)=(λj=>listed.getD j false || decide (j=i)):=by
   funext j;exact Zmn hil
  have hins:=Z2r (L:=λj=>listed.getD j false) (i:=i) (t:=t) hLi tr 0 s0 ⟨i,by omega,ht⟩;have hcount:(listed.setIfInBounds i true).toList.count false<=fuel:=by
   rw[Array.toList_setIfInBounds,List.count_set (by simpa using hil)];have hx:listed.toList[i]'(by simpa using hil)=false:=by
    rw[Ycg]at hLi;simpa[hil]using hLi
   grind
  -- the state behind it
  have next:∀a' w' ρ',RelD N base w0 nt ts (domD tr s0 λj=>listed.getD j false || decide (j=i)) ρ' (appT t (Xn (listed.getD · false) 0 tr s0)) a' w'->wpAny P .any ops Qc fuel (listed.setIfInBounds i true) a' w':=by
   intro a' w' ρ' hR;refine ih _ a' w' ρ' (by simpa using hsz) hcount hcl' ?_;rw[hLfun];refine hR.congr (λr=>(hins.1 ?_ r).symm) (λb=>(hins.2 ?_ b).symm) (by rw[ZhQ];exact ZhQ tr 0 s0) (λ_ h=>h)
   .intro r hr j t' hj hlt hL hd';rw[Yv]at hlt hL;exact high j t' hj hlt (by simp[QX,Zcv ((hdst i t ht).1 r hr) (Ycz t'.foot.rs ((hdst j t' hj).1 r hd'))]) hL
   .intro b hb j t' hj hlt hL hd';rw[Yv]at hlt hL;have hb1:b∈t.foot.wb:=by rw[<-(hdst i t ht).2];exact hb
    have hb2:b∈t'.foot.wb:=by rw[<-(hdst j t' hj).2];exact hd'
    exact high j t' hj hlt (by simp[QX,Zcv hb1 (Ycz t'.foot.rb hb2)]) hL
  have hrs:∀x∈Xa m.op,∀r∈ZlX x,r∈t.foot.rs:=by
   intro x hx r hr;rw[htf];simp only[VT]
   grind
  have hgs:∀g b,m.guard=some (g,b)->g∈t.foot.rs:=by
   intro g b hg;rw[htf];simp only[VT,hg];simp
  have he:∀x∈Xa m.op,ev (Xn (λj=>decide (j<0+i)) 0 tr s0).env x=ev (Xn (listed.getD · false) 0 tr s0).env x:=by
   intro x hx
   cases x with
   |c v=>rfl
   |s r=>exact hlk r (hrs _ hx r (by simp[ZlX]))
  have hh:∀b∈rbOf m.op (Xn (λj=>decide (j<0+i)) 0 tr s0).h (Xn (λj=>decide (j<0+i)) 0 tr s0).env,gt (Xn (λj=>decide (j<0+i)) 0 tr s0).h b=gt (Xn (listed.getD · false) 0 tr s0).h b:=by
   intro b hb;refine hgt' b ?_;rw[htf];exact hb
  have hlI:=Zmm (L:=λj=>decide (j<0+i)) tr 0 s0;have hlT:=Zmm (L:=λ_=>true) tr 0 s0;have hu:∀b,b∈t.u.map Prod.fst->(Xn (λj=>decide (j<0+i)) 0 tr s0).h.length<=b->ρ b=none:=by
   intro b hb hle;refine hS.dom b ⟨by omega,?_⟩;intro j t' hj hL hin';have hw:b∈t'.foot.wb:=by rw[<-(hdst j t' hj).2];exact hin'
   have hb':b∈t.foot.wb:=by rw[<-(hdst i t ht).2];exact hb
   rcases Ycx j i with hlt|rfl|hgt
   .grind
   .simp_all
   .exact high j t' hj hgt (by simp[QX,Zcv hb' (Ycz t'.foot.rb hw)]) hL
  have hDnew:∀b,domD tr s0 (λj=>listed.getD j false || decide (j=i)) b->domD tr s0 (listed.getD · false) b/\b ∉ t.u.map Prod.fst:=by
   intro b hb;refine⟨⟨hb.1,λj t' hj hL=>hb.2 j t' hj (by simp only at hL|-;rw[hL];rfl)⟩,hb.2 i t ht (by simp)⟩
  have hrun:opR (Wr P) (Xn (λj=>decide (j<0+i)) 0 tr s0).h (Xn (λj=>decide (j<0+i)) 0 tr s0).h.length (Xn (λj=>decide (j<0+i)) 0 tr s0).env m.op t.v t.u->
    (ops[i]).wp P a w (wpAny P .any ops Qc fuel (listed.setIfInBounds i true)) Qc:=by
   intro hop;have hop':=ZEA he hh hop;have fin:∀val w' ρ',Ka N base ρ (Xn (listed.getD · false) 0 tr s0).h w t.v t.u val w' ρ'->wpAny P .any ops Qc fuel (listed.setIfInBounds i true) (a.put (ops[i]).dst val) w':=by
    intro val w' ρ' hA;refine next _ _ ρ' ?_
    have:=hS.after hA (d:=(ops[i]).dst) hd hDnew;rw[<-hmd,<-htd]at this|-;exact this
   by_cases hcall:isC m.op
   .exact Zmi hk hS.env hS.rel (.inl hcall) hu hop' fin
   .by_cases hnx:(Xn (λj=>decide (j<0+i)) 0 tr s0).h.length∈t.u.map Prod.fst
    .exact Zmi hk hS.env hS.rel (.inr (hu _ hnx (Yj _))) hu hop' fin
    .have hM:opR (Wr P) (Xn (listed.getD · false) 0 tr s0).h (Xn (λ_=>true) 0 tr s0).h.length (Xn (listed.getD · false) 0 tr s0).env m.op t.v t.u:=by
      cases hmop:m.op with
      |call f args=>rw[hmop]at hcall;exact absurd trivial hcall
      |fcall f args=>rw[hmop]at hcall;exact absurd trivial hcall
      |icall f args=>rw[hmop]at hcall;exact absurd trivial hcall
      |pcall f args=>rw[hmop]at hcall;exact absurd trivial hcall
      |dcall f args=>rw[hmop]at hcall;exact absurd trivial hcall
      |_=>rw[hmop]at hop';exact ZE7 hop' hnx _
     refine Zmi hk hS.env hS.rel (nx:=(Xn (λ_=>true) 0 tr s0).h.length) (.inr ?_) ?_ hM fin
     .refine hS.dom _ ⟨hlT.1,?_⟩
      grind
     .grind
  have hskip:t.v=.tup []->t.u=[]->wpAny P .any ops Qc fuel (listed.setIfInBounds i true) (a.put (ops[i]).dst undef) w:=by
   intro hv hu0;refine next _ _ ρ ?_
   have:=(hS.skip (d:=(ops[i]).dst) hd).congr (D':=domD tr s0 λj=>listed.getD j false || decide (j=i)) (s':=appT t (Xn (listed.getD · false) 0 tr s0)) (λr=>by rw[<-hmd,<-htd];simp[appT,hv]) (λb=>by simp[appT,hu0,upd]) rfl (λb hb=>(hDnew b hb).1);exact this
  unfold wpOp;rw[hops];simp only;rcases hguard with⟨hg1,hg2⟩|⟨j,b,d,hg1,hg2,hg3⟩
  .simp only[Region.wanted,hg1,if_true];rcases hstep with⟨_,hop⟩|⟨⟨g,b,hg,_⟩,_,_⟩
   .exact .inl (hrun hop)
   .grind
  .have hw:=Z2g hS.env hg1 hg2;have hlkd:=hlk d (hgs d b hg3);rcases hstep with⟨hgr,hop⟩|⟨⟨g,b',hg,hsk⟩,hv,hu0⟩
   .rcases hgr with hgn|⟨g,b',hg,hb'⟩
    .grind
    .grind
   .grind
theorem RelS.drew{ρ:Map}{s:S}{a:Act}{w:World}(hS:RelS N base w0 nt ts ρ s a w):RelS N base w0 nt ts ρ s a { w with drawn:=w.drawn+1 }:=by
 have hk:WD ρ w (Free N ρ s.h) ρ { w with drawn:=w.drawn+1 } (Free N ρ s.h):=⟨λ_ r h=>⟨r,h,rfl⟩,λ_ _ h=>⟨h,rfl⟩⟩;have hb:Below base w { w with drawn:=w.drawn+1 }:=⟨rfl,rfl,rfl,Yj _,λ_ _=>rfl⟩;obtain⟨R,hE,hst,hdom,hdf,hsz,hB,hkn,hfz⟩:=hS;obtain⟨h1,h2,h0,h3,h4,h5⟩:=R;refine⟨⟨h1,h2,h0,?_,h4,h5⟩,λs=>(hE s).keep hk,hst.keep hk,hdom,hdf,hsz,hB.trans hb,hkn,hfz⟩;intro b hne;obtain⟨r,q1,q2⟩:=h3 b hne;exact⟨r,q1,q2.keep hk λ_ _=>rfl⟩
theorem ZEC{Γ:Ctr}(hΓ:Γ=Wr P){ops:Array Oper}{os:List MO}(hos:mapO (compO P inl nt ops) ops.toList=some os)(hback:backB (ops.toList.map Uy) 0=true)(hmix:P.follows .mixedOrders=true)
  {Qc:Exit->Act->World->Prop} {K:S->Prop} (hQ:∀s a w ρ,K s->RelS N base w0 nt ts ρ s a w->Qc .normal a w) {id:Nat} {s:S} {a:Act} {w:World} {ρ:Map}
  (hW:drwW Γ os s [] λfeet s'=>Zbe (ops.toList.map Uy) feet=true/\K s') (hS:RelS N base w0 nt ts ρ s a w):(Code.region id ops true).wp P Qc a w:=by
 obtain⟨tr,hst,hord,hK⟩:=Z2o os s [] _ 0 hW;rw[hΓ]at hst;rw[Ybi]at hord;refine wp_region_any hmix ?_;have hD:=hS.drew;have hf:∀j,(Array.replicate ops.size false).getD j false=false:=by
  intro j;rw[Ycg]
  grind
 have hfun:(λj=>(Array.replicate ops.size false).getD j false)=λ_=>false:=funext hf
 refine drw_any hos hback hst hord hQ hK ops.size _ a _ ρ (by simp) ?_ ?_ ?_
 .simp
 .simp_all
 .rw[hfun,ZhM tr 0 s (λ_ _=>rfl)];exact⟨hD.rel,hD.env,hD.stk,λb hb=>hD.dom b hb.1,hD.defers,hD.size,hD.below,hD.kn,hD.fz⟩
end
open Go.RowKit (Below)
variable{b:Nat}{h:V7}{d:AV}
theorem gt_map{f:Blk->Blk}(hf:f .dead=.dead)(h:V7)(c:Nat):gt (h.map f) c=f (gt h c):=by
 unfold gt
 grind
theorem Zmo(b:Nat)(d:AV)(h:V7)(c:Nat):gt (fzH b d h) c=if c=b then .dead else sbB b d (gt h c):=by
 unfold fzH;rw[K8,gt_map rfl]
theorem Z2x:∀(h:V7) (b:Nat) (x:Blk),b<h.length->(stB h b x).length=h.length
 |[],_,_,hb=>by simp at hb
 |_::h,0,x,_=>rfl
 |_::h,b+1,x,hb=>by simp[stB,Z2x h b x (by simpa using hb)]
theorem gt_lt(hd:gt h b≠.dead):b<h.length:=by
 by_cases hl:b<h.length
 .exact hl
 .exfalso;apply hd;unfold gt
  simp_all
theorem fzH_len(hb:b<h.length):(fzH b d h).length=h.length:=by
 unfold fzH
 simp_all [Z2x,Y1]
theorem ZED{x:Blk}:Wf (sbB b d x)=Wf x:=by cases x<;>rfl
section
variable{N:Par}{base:Nat}{ρ:Map}{h:V7}{w:World}{F F':Nat->Prop}{b:Nat}{d:AV}
theorem RV.sb(hk:∀g,F g->F' g)(hd:∀r,ρ b=some r->RV ρ w F' d r.v){a:AV}{v:Value}(h:RV ρ w F a v):RV ρ w F' (sbV b d a) v:=by
 refine RV.rec (motive_1:=λa v _=>RV ρ w F' (sbV b d a) v) (motive_2:=λas vs _=>RVs ρ w F' (sbVs b d as) vs) ?_ ?_ ?_ ?_ ?_ ?_ ?_ ?_ ?_ ?_ ?_ ?_ ?_ h
 .exact λv=>.top v
 .exact .nilp
 .intro x v fp h hf;exact .t h λg hg=>hk g (hf g hg)
 .intro cs c _ h1 ih;exact .agg ih h1
 .intro cs c _ ih;exact .tup ih
 .intro b off g r hr hv;exact .ptr hr hv
 .intro b i sz off g n cap r hr hv;exact .eptr hr hv
 .intro cs off g o c e fz fp hg hF hc hf;exact .iptr hg (hk _ hF) hc λg hg=>hk g (hf g hg)
 .intro c r hr ho;unfold sbV;split
  .simp_all
  .exact .own hr ho
 .intro b n g r hr hv;exact .bsl hr hv
 .intro f cs c _ ih;exact .fn ih
 .exact .nil
 .intro a v as vs _ _ ih1 ih2;exact .cons ih1 ih2
theorem RVs.sb(hk:∀g,F g->F' g){b:Nat}{d:AV}(hd:∀r,ρ b=some r->RV ρ w F' d r.v):∀{as:V2} {vs:KI},RVs ρ w F as vs->RVs ρ w F' (sbVs b d as) vs
 |[],_,h=>by cases h;exact .nil
 |a::as,_,h=>by cases h with|cons h hs=>exact .cons (h.sb hk hd) (RVs.sb hk hd hs)
theorem Zmp{g:Nat}(hg:Free N ρ h g):Free N ρ (fzH b d h) g:=by
 refine⟨hg.1,λc r hr hc=>hg.2 c r hr λe=>hc ?_⟩;rw[Zmo];split
 .rfl
 .rw[e];rfl
theorem fz_rel(R:Rel N base ρ h w){sz:Nat}{es:V5}{el:TypeId}{fr:Bool}(hb:gt h b=.arr el sz fr es) :
  Rel N base ρ (fzH b (.t (.lst sz es)) h) w/\∀r,ρ b=some r->RV ρ w (Free N ρ (fzH b (.t (.lst sz es)) h)) (.t (.lst sz es)) r.v:=by
 have hd:gt h b≠.dead:=by rw[hb];intro hc;cases hc
 have live:∀c,gt (fzH b (.t (.lst sz es)) h) c≠.dead->c≠b/\gt h c≠.dead:=by
  intro c hc;rw[Zmo]at hc;by_cases e:c=b
  .simp_all
  .rw[Yb e]at hc;exact⟨e,λe2=>hc (by rw[e2];rfl)⟩
 have hfr:∀r,ρ b=some r->∀g,X6 r.v=some g->Free N ρ (fzH b (.t (.lst sz es)) h) g:=by
  intro r hr g hg;refine⟨(R.hO b r g hr hd hg).1,λc r' hr' hc ho=>?_⟩;obtain⟨h1,h2⟩:=live c hc;exact h1 (R.inj c b r' r g hr' hr h2 hd ho hg)
 have hdat:∀r,ρ b=some r->RV ρ w (Free N ρ (fzH b (.t (.lst sz es)) h)) (.t (.lst sz es)) r.v:=by
  intro r hr;obtain⟨fp,hT,_,hg⟩:=ZhD R hr hb;obtain⟨r',h1,h2⟩:=R.blk b hd;rw[hr]at h1;cases h1;rw[hb]at h2;obtain⟨_,_,_,_,_,_,_,hfree,_⟩:=h2;exact .t hT λg hg'=>(hg g hg').elim (λq=>hfr r hr g q) λq=>Zmp (hfree g q)
 have hK:WD ρ w (Free N ρ h) ρ w (Free N ρ (fzH b (.t (.lst sz es)) h)):=⟨λc r hr=>⟨r,hr,rfl⟩,λg _ hg=>⟨Zmp hg,rfl⟩⟩;refine⟨⟨R.hb,R.hN,λc r g hr hc ho=>R.hO c r g hr (live c hc).2 ho,λc hc=>?_,λc c' r r' g hr hr' hc hc'=>R.inj c c' r r' g hr hr' (live c hc).2 (live c' hc').2,λc c' r r' g hr hr' hc hc'=>?_⟩,hdat⟩
 .obtain⟨h1,h2⟩:=live c hc;obtain⟨r,hr,hx⟩:=R.blk c h2;refine⟨r,hr,?_⟩;rw[Zmo,Yb h1]
  cases e:gt h c with
  |box cs =>
   rw[e]at hx;obtain⟨g,c',e',hv,hb',hh,q1,q2⟩:=hx
   exact⟨g,c',e',hv,hb',hh,q1.sb (λ_=>Zmp) hdat,q2⟩
  |dead=>exact absurd e h2
  |arr a1 a2 a3 a4=>rw[e]at hx;exact hx.keep hK λ_ _=>rfl
 .have f:∀c,Wf (gt (fzH b (.t (.lst sz es)) h) c)=true->Wf (gt h c)=true:=by
   intro c hc;rw[Zmo]at hc;split at hc
   .cases hc
   .rwa [ZED]at hc
  exact R.apart c c' r r' g hr hr' (f c hc) (f c' hc')
end
open Go.RowKit (Below)
section
variable{P:Program}{N:Par}{base:Nat}{w0:World}{nt:Nat}{ts:List (Array Value)}{inl:V8}{ρ:Map}{s:S}{a:Act}{w:World}
theorem Qk.ren{ρ ρ':Map}{w:World}{F F':Nat->Prop}(f:Nat->Nat)(hF:∀g,g<w.heap.size->F g->F' g):∀{es:List Env} {ts:List (Array Value)},Qk ρ w F es ts->(∀b∈es.flatMap K5,∀r,ρ b=some r->ρ' (f b)=some r)->Qk ρ' w F' (es.map (renE f)) ts
 |[],[],_,_=>trivial
 |_::_,_::_,h,hr=>⟨h.1.ren f (λb hb=>hr b (by simp only[Ybq,Yu];exact .inl hb)) hF,Qk.ren f hF h.2 λb hb=>hr b (by simp only[Ybq,Yu];exact .inr hb)⟩
 |[],_::_,h,_=>h.elim
 |_::_,[],h,_=>h.elim
theorem Z2y(hS:RelS N base w0 nt ts ρ s a w)(keep:V8):∃ρ',RelS N base w0 nt ts ρ' (Q9 keep s) a w:=by
 unfold Q9;simp only;split
 .rename_i hc;obtain⟨h1,h2⟩:=Zmf hc;have hnd:(XW s.h 200 (K5 (Zcp s.h (rst keep s.env))++s.stk.flatMap K5) []).Nodup:=Zmd _ _ _ Ybf;generalize XW s.h 200 (K5 (Zcp s.h (rst keep s.env))++s.stk.flatMap K5) []=ids at *
  refine⟨renM ρ ids,hS.rel.ren hnd h2,?_,?_,?_,hS.defers,hS.size,hS.below,hS.kn,λg hg hz=>⟨ZhH (hS.fz g hg hz).1,(hS.fz g hg hz).2⟩⟩
  .exact((hS.env.rst keep).scrub (h:=s.h)).ren _ (λb hb r hr=>by rw[ZhG (h1 b (by simp[hb]))];exact hr) λg _ hg=>ZhH hg
  .exact hS.stk.ren _ (λg _ hg=>ZhH hg) λb hb r hr=>by rw[ZhG (h1 b (Yu.2 (.inr hb)))];exact hr
  .simp_all [ZqG]
 .exact⟨ρ,hS.rel,λ_=>.top _,hS.stk,hS.dom,hS.defers,hS.size,hS.below,hS.kn,hS.fz⟩
def PQ(N:Par)(base:Nat)(w0:World)(nt:Nat)(ts:List (Array Value))(Q:X->S->Prop):Exit->Act->World->Prop
 |.normal,a,w=>∃s ρ,Q .n s/\RelS N base w0 nt ts ρ s a w
 |.exit id,a,w=>∃s ρ,Q (.x id) s/\RelS N base w0 nt ts ρ s a w
 |.ret,a,w=>∃s ρ,Q .r s/\RelS N base w0 nt ts ρ s a w
 |_,_,_=>False
theorem RelS.rst(hS:RelS N base w0 nt ts ρ s a w)(keep:V8):RelS N base w0 nt ts ρ { s with env:=rst keep s.env } a w :=
 ⟨hS.rel,hS.env.rst keep,hS.stk,hS.dom,hS.defers,hS.size,hS.below,hS.kn,hS.fz⟩
theorem Wc_sound{Γ:Ctr}(hΓ:Γ=Wr P):∀(c:Code) (ks:List (V8)) (m:Zc) (ks':List (V8)),comp P inl nt c ks=some (m,ks')->∀(Q:X->S->Prop) (s:S) (a:Act) (w:World) (ρ:Map),
  Wc Γ m Q s->RelS N base w0 nt ts ρ s a w->c.wp P (PQ N base w0 nt ts Q) a w:=by
 intro c
 induction c with
 |skip =>
  intro ks m ks' hc Q s a w ρ hW hS;simp[comp]at hc;obtain⟨rfl,rfl⟩:=hc
  exact wp_skip ⟨s,ρ,hW,hS⟩
 |region id ops draw =>
  intro ks m ks' hc Q s a w ρ hW hS
  cases ks with
  |nil=>simp[comp]at hc
  |cons k ks =>
   simp only[comp]at hc;split at hc
   .rename_i os hos;split at hc
    .rename_i hdraw;subst hdraw;split at hc
     .rename_i hcond;cases hc;simp only[Wc]at hW;exact ZEC hΓ hos hcond.1 hcond.2.1 (λs a w ρ hq hS=>⟨_,ρ,hq,hS.rst k⟩) hW hS
     .cases hc
    .rename_i hdraw;cases hc;have hdraw':draw=false:=by simpa using hdraw
     subst hdraw';simp only[Wc]at hW;exact wp_region_list (Z2h hΓ (λs a w ρ hq hS=>⟨_,ρ,hq,hS.rst k⟩) ops.toList os hos s a w ρ hW hS)
   .cases hc
 |seq x y ihx ihy =>
  intro ks m ks' hc Q s a w ρ hW hS;simp only[comp]at hc;split at hc
  .rename_i mx k1 h1;split at hc
   .rename_i my k2 h2;cases hc;simp only[Wc]at hW;refine wp_seq (wp_mono (ihx ks mx k1 h1 _ s a w ρ hW hS) ?_);intro e a' w' hq
    cases e with
    |normal=>obtain⟨s',ρ',h3,h4⟩:=hq;exact ihy k1 my _ h2 Q s' a' w' ρ' h3 h4
    |exit id=>exact hq
    |ret=>exact hq
    |goto l=>exact hq.elim
    |panic ch=>exact hq.elim
    |outgrown=>exact hq.elim
   .cases hc
  .cases hc
 |cond o x y ihx ihy =>
  intro ks m ks' hc Q s a w ρ hW hS;simp only[comp]at hc;split at hc
  .rename_i o' mx k1 ho h1;split at hc
   .rename_i my k2 h2;cases hc;simp only[Wc]at hW;have hr:=X2 hS.env ho;split at hW
    .rename_i b hb;rw[hb]at hr;refine wp_cond hr.bool_inv ?_
     grind
    .exact hW.elim
   .cases hc
  .cases hc
 |block id b ih =>
  intro ks m ks' hc Q s a w ρ hW hS;simp only[comp]at hc;split at hc
  .rename_i mb k1 h1;cases hc;simp only[Wc]at hW;refine wp_block (wp_mono (ih ks mb _ h1 _ s a w ρ hW hS) ?_);intro e a' w' hq
   cases e with
   |normal=>exact hq
   |exit id' =>
    obtain⟨s',ρ',h3,h4⟩:=hq;simp only[Exit.inBlock];simp only at h3;split at h3
    .rename_i hid;rw[Ya hid];exact⟨s',ρ',h3,h4⟩
    .rename_i hid;rw[Yb hid];exact⟨s',ρ',h3,h4⟩
   |ret=>exact hq
   |goto l=>exact hq.elim
   |panic ch=>exact hq.elim
   |outgrown=>exact hq.elim
  .cases hc
 |loop b ih =>
  intro ks m ks' hc Q s a w ρ hW hS
  cases ks with
  |nil=>simp[comp]at hc
  |cons k ks =>
   simp only[comp]at hc;split at hc
   .rename_i mb k1 h1;cases hc;simp only[Wc,LoopW]at hW;obtain⟨I,μ,h0,hround⟩:=hW;obtain⟨ρ0,hS0⟩:=Z2y hS k;refine wp_loop_ghost (λn a w=>∃s ρ,I s/\μ s=n/\RelS N base w0 nt ts ρ s a w) (μ (Q9 k s)) ⟨_,ρ0,h0,rfl,hS0⟩ ?_;rintro n a' w' ⟨s1,ρ1,hI,rfl,hS1⟩;refine wp_mono (ih ks mb _ h1 _ s1 a' w' ρ1 (hround s1 hI) hS1) ?_;intro e a2 w2 hq
    cases e with
    |normal =>
     obtain⟨s2,ρ2,⟨h3,h4⟩,h5⟩:=hq;obtain⟨ρ3,h6⟩:=Z2y h5 k
     exact⟨μ (Q9 k s2),h4,_,ρ3,h3,rfl,h6⟩
    |exit id=>exact hq
    |ret=>exact hq
    |goto l=>exact hq.elim
    |panic ch=>exact hq.elim
    |outgrown=>exact hq.elim
   .cases hc
 |exit id =>
  intro ks m ks' hc Q s a w ρ hW hS;simp[comp]at hc;obtain⟨rfl,rfl⟩:=hc
  exact wp_exit ⟨s,ρ,hW,hS⟩
 |ret =>
  intro ks m ks' hc Q s a w ρ hW hS;simp[comp]at hc;obtain⟨rfl,rfl⟩:=hc
  exact wp_ret ⟨s,ρ,hW,hS⟩
 |rangeFunc f ps x y _ _=>intro ks m ks' hc;cases ks<;>simp[comp]at hc
 |scope b _=>intro ks m ks' hc;cases ks<;>simp[comp]at hc
 |label l=>intro ks m ks' hc;cases ks<;>simp[comp]at hc
 |goto l=>intro ks m ks' hc;cases ks<;>simp[comp]at hc
 |refuse wy=>intro ks m ks' hc;cases ks<;>simp[comp]at hc
end
open Go.RowKit (Below)
section
variable{P:Program}{N:Par}{base:Nat}{w0:World}{nt:Nat}{ts:List (Array Value)}{inl:V8}{w:World}{ρ:Map}{s:S}{fn:Func}{v r:AV}{args:V2}{ks:List (V8)}{m:MFun}{a:Act}{vs:Array Value}{f k:Nat}{h0 hr h:V7}
def ZhR(tmps:Array Value):ResultVar->Sem Value
 |.tmp t=>pure (tmps.getD t undef)
 |.cell ad t=>do loadVar t (<-asAddr (tmps.getD ad undef))
theorem Z2z(fn:Func)(tmps:Array Value):results fn tmps=(do let vs <-fn.results.mapM (ZhR tmps);pure (if h:vs.size=1 then vs[0]else .tuple vs)):=by
 unfold results;congr 1
theorem ZEE(hS:RelS N base w0 nt ts ρ s a w){rv:ResultVar}{r:Res}(hc:Zcq P rv=some r)(hv:JW s r=some v) :
  ∃val,(ZhR a.tmps rv).run P w=.ok val w/\RV ρ w (Free N ρ s.h) v val:=by
 cases rv with
 |tmp t =>
  simp[Zcq]at hc;subst hc;simp[JW]at hv;subst hv
  exact⟨_,rfl,hS.env t⟩
 |cell ad t =>
  simp only[Zcq]at hc;obtain⟨n,hn,rfl⟩:=Ys.1 hc;simp only[JW]at hv;split at hv
  .rename_i b off hb;split at hv
   .rename_i cs hgb;have hr:=hS.env ad;rw[hb]at hr;obtain⟨p,hp⟩:∃g,a.tmps.getD ad undef=.pointer (some ⟨g,off,none⟩)/\∃r,ρ b=some r/\r.v=.pointer (some ⟨g,0,none⟩):=by
     generalize a.tmps.getD ad undef=x at hr
     cases hr with
     |ptr h1 h2=>exact⟨_,rfl,_,h1,h2⟩
    obtain⟨hp1,r,hr1,hr2⟩:=hp;obtain⟨r',h1,h2⟩:=hS.rel.blk b (by rw[hgb];intro hc;cases hc);rw[hr1]at h1;cases h1;rw[hgb]at h2;obtain⟨g',c,te,hv2,_,hh,hcs,hone⟩:=h2;rw[hr2]at hv2;cases hv2;obtain⟨val,h3,h4⟩:=Z1C (P:=P) hn hh hcs hone hv;exact⟨val,by simp only[ZhR,Sem.run_bind,hp1,asAddr,Sem.run_pure,Result.andThen_ok,h3],h4⟩
   .cases hv
  .cases hv
theorem Z20{ρ:Map}{s:S}{a:Act}{w:World}(hS:RelS N base w0 nt ts ρ s a w):∀(l:List ResultVar) (rs:List Res),mapO (Zcq P) l=some rs->∀vs,UM s rs=some vs->
  ∃vals,(l.mapM (ZhR a.tmps)).run P w=.ok vals w/\RVs ρ w (Free N ρ s.h) vs vals
 |[],rs,hm,vs,hv=>by cases hm;simp[UM]at hv;subst hv;exact⟨[],by simp,.nil⟩
 |rv::l,rs,hm,vs,hv=>by
  obtain⟨r,rs',h1,h2,rfl⟩:=Jy hm;simp only[UM]at hv;split at hv
  .rename_i v vs' h3 h4;cases hv;obtain⟨val,h5,h6⟩:=ZEE hS h1 h3;obtain⟨vals,h7,h8⟩:=Z20 hS l rs' h2 vs' h4;refine⟨val::vals,?_,.cons h6 h8⟩
   simp_all
  .cases hv
theorem ZEF(hS:RelS N base w0 nt ts ρ s a w){rs:List Res}(hm:mapO (Zcq P) fn.results.toList=some rs)(hv:resAV rs s=some v) :
  ∃val,(results fn a.tmps).run P w=.ok val w/\RV ρ w (Free N ρ s.h) v val:=by
 unfold resAV at hv;have key:∀vs,UM s rs=some vs->∃vals,(fn.results.mapM (ZhR a.tmps)).run P w=.ok vals.toArray w/\RVs ρ w (Free N ρ s.h) vs vals:=by
  intro vs hvs;obtain⟨vals,h1,h2⟩:=Z20 hS fn.results.toList rs hm vs hvs
  simp_all [Array.mapM_eq_mapM_toList]
 split at hv
 .rename_i v' hvs;cases hv;obtain⟨vals,h1,h2⟩:=key _ hvs;have hl:=h2.length
  match vals,hl,h1,h2 with
  |[val],_,h1,h2 =>
   cases h2 with
   |cons h3 _ =>
    refine⟨val,?_,h3⟩;rw[Z2z,Sem.run_bind,h1];simp
 .rename_i vs hne hvs;cases hv;obtain⟨vals,h1,h2⟩:=key _ hvs;have hl:=h2.length;refine⟨.tuple vals.toArray,?_,.tup (by simpa using h2)⟩;rw[Z2z,Sem.run_bind,h1];have hn1:vals.length≠1:=by
   intro hc;rw[hc]at hl
   match vs,hl,hne with
   |[v0],_,hne=>exact hne v0 rfl
  simp[hn1]
 .cases hv
theorem lk_initE(args:V2)(k i:Nat):lk (k+i) (K6 args k)=(args[i]?).getD .top:=by
 induction args generalizing k i with
 |nil=>rfl
 |cons v args ih =>
  simp only[K6,lk]
  cases i with
  |zero=>simp
  |succ i =>
   rw[Ynx];have:=ih (k+1) i
   grind
theorem init_env{F:Nat->Prop}(hv:RVs ρ w F args vs.toList)(n:Nat):Wk ρ w F (K6 args 0) (vs++Array.replicate n undef):=by
 intro s;have h1:=lk_initE args 0 s;rw[Yv]at h1;rw[h1]
 cases hs:args[s]? with
 |none=>exact .top _
 |some a =>
  obtain⟨v,h2,h3⟩:=hv.at hs;have h2':vs[s]?=some v:=by simpa using h2
  have hlt:s<vs.size:=(Ycd.1 h2').1
  have:(vs++Array.replicate n undef).getD s undef=v:=by
   simp_all [Ycg,Array.getElem?_append_left]
  rw[this];exact h3
theorem ZhS(d:TypeId->Bool)(s:S):∀(rs:List Res) (tys:List TypeId),UM s (resO P d rs tys)=UM s rs
 |[],tys=>by cases tys<;>rfl
 |r::rs,[]=>by cases r<;>rfl
 |.tmp t::rs,ty::tys=>by simp only[resO,UM,JW,ZhS d s rs tys]
 |.cell a n::rs,ty::tys=>by simp only[resO,UM,JW,ZhS d s rs tys]
 |.tmpO t l::rs,ty::tys=>by simp only[resO,UM,JW,ZhS d s rs tys]
 |.cellO a n l::rs,ty::tys=>by simp only[resO,UM,JW,ZhS d s rs tys]
theorem ZEG(hc:JX P inl ks fn=some m):∃c,fn.body=some c/\comp P inl fn.ntmps c ks=some (m.body,[])/\(∃rs,mapO (Zcq P) fn.results.toList=some rs/\∀s,UM s m.res=UM s rs)/\m.nt=fn.ntmps/\m.np<=m.nt:=by
 unfold JX at hc
 grind [ZhS]
theorem ZEH{Γ:Ctr}(hΓ:Γ=Wr P)(hf:P.funcs[f]?=some fn)(hc:JX P inl ks fn=some m)(hl:args.length=m.np){K:AV->S->Prop}
  (hW:Wc Γ m.body (bodyQ m.res K) { s with env:=K6 args 0 }) (hR:Rel N base ρ s.h w) (hst:Qk ρ w (Free N ρ s.h) s.stk ts) (hdom:∀b,s.h.length<=b->ρ b=none)
  (hv:RVs ρ w (Free N ρ s.h) args vs.toList) (hz:∀g,N.z g->Free N ρ s.h g) :
  Calls P f vs w λe w'=>∃val v s' ρ',e=.returned val/\K v s'/\RV ρ' w' (Free N ρ' s'.h) v val/\Rel N base ρ' s'.h w'/\Qk ρ' w' (Free N ρ' s'.h) s'.stk ts/\(∀b,s'.h.length<=b->ρ' b=none)/\Below base w w'/\
   (∀g,g<w.heap.size->¬N.a g->w'.heap[g]?=w.heap[g]?)/\∀g,g<w.heap.size->N.z g->Free N ρ' s'.h g/\w'.heap[g]?=w.heap[g]?:=by
 obtain⟨c,hb,hcc,⟨rs,hres,hrr⟩,hnt,hnp⟩:=ZEG hc;have hvl:=hv.length;simp only[Yz]at hvl;refine calls_of_wp hf hb (wp_mono (Wc_sound (N:=N) (base:=base) (w0:=w) (ts:=ts) hΓ c ks m.body [] hcc _ _ _ w ρ hW ⟨hR,init_env hv _,hst,hdom,rfl,by simp;omega,Below.refl _ _,λ_ _ _=>rfl,λg _ hg=>⟨hz g hg,rfl⟩⟩) ?_);intro e a' w' hq;have fin:∀s' ρ',bodyQ m.res K .n s'->RelS N base w fn.ntmps ts ρ' s' a' w'->a'.defers=[]/\∃v,(results fn a'.tmps).run P w'=.ok v w'/\∃val v_1 s' ρ',Ending.returned v=.returned val/\K v_1 s'/\RV ρ' w' (Free N ρ' s'.h) v_1 val/\Rel N base ρ' s'.h w'/\
   Qk ρ' w' (Free N ρ' s'.h) s'.stk ts/\(∀b,s'.h.length<=b->ρ' b=none)/\Below base w w'/\(∀g,g<w.heap.size->¬N.a g->w'.heap[g]?=w.heap[g]?)/\∀g,g<w.heap.size->N.z g->Free N ρ' s'.h g/\w'.heap[g]?=w.heap[g]?:=by
  intro s' ρ' hQ hS;simp only[bodyQ]at hQ;split at hQ
  .rename_i v hvr;obtain⟨val,h1,h2⟩:=ZEF (rs:=rs) hS hres (by unfold resAV at hvr|-;rw[<-hrr];exact hvr);exact⟨hS.defers,val,h1,val,v,s',ρ',rfl,hQ,h2,hS.rel,hS.stk,hS.dom,hS.below,hS.kn,hS.fz⟩
  .exact hQ.elim
 cases e with
 |normal=>obtain⟨s',ρ',h1,h2⟩:=hq;exact fin s' ρ' h1 h2
 |ret=>obtain⟨s',ρ',h1,h2⟩:=hq;exact fin s' ρ' h1 h2
 |exit id=>obtain⟨s',ρ',h1,h2⟩:=hq;exact h1.elim
 |goto l=>exact hq.elim
 |panic ch=>exact hq.elim
 |outgrown=>exact hq.elim
theorem ZqW{h:V7}:∀(n:Nat) (todo acc:V8),∃more,XW h n todo acc=acc++more
 |0,_,acc=>⟨[],by simp[XW]⟩
 |n+1,[],acc=>⟨[],by simp[XW]⟩
 |n+1,c::todo,acc=>by
  simp only[XW];split
  .exact ZqW n todo acc
  .obtain⟨more,hm⟩:=ZqW (h:=h) n (VB (gt h c)++todo) (acc++[c])
   simp_all
theorem Z21:∀(bs:V7) (k i:Nat),lk (k+i) (QY bs k)=match bs[i]? with|some (.box _)=>.ptr (k+i) 0|some (.arr _ _ _ _)=>.own (k+i)|_=>.top
 |[],k,i=>by simp[QY,lk]
 |b::bs,k,0=>by cases b<;>simp[QY,lk]
 |b::bs,k,i+1=>by
  simp only[QY,lk];rw[Ynx];have:=Z21 bs (k+1) i
  grind
def ZhT(ρ:Map)(k:Nat):Array Value:=((List.range k).map λi=>match ρ i with|some r=>r.v|none=>undef).toArray
theorem ZqX{i:Nat}{r:Root}(hi:i<k)(hr:ρ i=some r):(ZhT ρ k).getD i undef=r.v:=by
 simp[ZhT,hi,hr]
theorem ZEI(R:Rel N base ρ h0 w):Wk ρ w (Free N ρ h0) (QY h0 0) (ZhT ρ h0.length):=by
 intro i;have:=Z21 h0 0 i;rw[Yv]at this;rw[this]
 cases hb:h0[i]? with
 |none=>exact .top _
 |some b =>
  have hi:i<h0.length:=(Ybh.1 hb).1;have hg:gt h0 i=b:=by simp[gt,hb]
  cases b with
  |dead=>exact .top _
  |box cs =>
   obtain⟨r,h1,h2⟩:=R.blk i (by rw[hg];intro hc;cases hc);rw[hg]at h2;obtain⟨g,c,e,h3,_⟩:=h2;rw[ZqX hi h1,h3]
   exact .ptr h1 h3
  |arr e sz fr es =>
   obtain⟨r,h1,h2⟩:=R.blk i (by rw[hg];intro hc;cases hc);rw[hg]at h2;obtain⟨_,xs,_,h3,_⟩:=h2;rw[ZqX hi h1];exact .own h1 (Z1H h3)
theorem ZEJ{ρ0:Map}{val:Value}(R:Rel N base ρ s.h w)(hv:RV ρ w (Free N ρ s.h) v val)(hdom:∀b,s.h.length<=b->ρ b=none){e:Env}(hstk:s.stk=[e])(hE:Wk ρ w (Free N ρ s.h) e (ZhT ρ0 k))(hc:ZlY k v s=some (r,hr)) :
  ∃ρ',Rel N base ρ' hr w/\RV ρ' w (Free N ρ' hr) r val/\(∀b,hr.length<=b->ρ' b=none)/\k<=hr.length/\(∀g,Free N ρ s.h g->Free N ρ' hr g)/\∀b r0,b<k->ρ0 b=some r0->∃r1,ρ' b=some r1/\r1.v=r0.v:=by
 unfold ZlY at hc;simp only[hstk]at hc;split at hc
 .rename_i hcond;simp only[Yg]at hcond;obtain⟨hcl,hndB⟩:=hcond;obtain⟨h1,h2⟩:=Zmf hcl;have hnd0:((List.range k).map (XA s.h e)).Nodup:=ZhC.1 hndB;have hnd:=Zmd (h:=s.h) 200 ((((List.range k).map (XA s.h e)).flatMap λb=>VB (gt s.h b))++refs (scrub s.h v)) ((List.range k).map (XA s.h e)) hnd0;obtain⟨more,hpre⟩:=ZqW (h:=s.h) 200 ((((List.range k).map (XA s.h e)).flatMap λb=>VB (gt s.h b))++refs (scrub s.h v)) ((List.range k).map (XA s.h e));generalize XW s.h 200 ((((List.range k).map (XA s.h e)).flatMap λb=>VB (gt s.h b))++refs (scrub s.h v)) ((List.range k).map (XA s.h e))=ids at *
  cases hc;have hat:∀i,i<k->ids[i]?=some (XA s.h e i):=by
   grind
  have hkl:k<=ids.length:=by rw[hpre];simp
  -- where a root handed over is
  have hroot:∀i r0,i<k->ρ0 i=some r0->ρ (XA s.h e i)=none\/∃r1,ρ (XA s.h e i)=some r1/\r1.v=r0.v:=by
   intro i r0 hi hr0;have hEi:=(hE i).scrub (h:=s.h);rw[ZqX hi hr0]at hEi;unfold XA
   cases hx:scrub s.h (lk i e)with
   |ptr b off =>
    rw[hx]at hEi
    cases off with
    |zero =>
     right;generalize hr0v:r0.v=x at hEi
     cases hEi with
     |ptr q1 q2=>exact⟨_,q1,q2⟩
    |succ off=>left;exact hdom _ (by simp)
   |own b =>
    rw[hx]at hEi;right;generalize hr0v:r0.v=x at hEi
    cases hEi with
    |own q1 q2=>exact⟨_,q1,rfl⟩
   |_=>left;exact hdom _ (by simp)
  let ρ':Map:=λb=>if hb:b<k/\renM ρ ids b=none then ρ0 b else renM ρ ids b
  have hlive:∀b,gt (ids.map λb=>renB (λb=>idx b ids 0) (gt s.h b)) b≠.dead->ρ' b=renM ρ ids b:=by
   intro b hb;obtain⟨r1,q1,_⟩:=(R.ren hnd h2).blk b hb
   grind
  have hsome:∀b r,renM ρ ids b=some r->ρ' b=some r:=by
   grind
  have hFree:∀g,Free N (renM ρ ids) (ids.map λb=>renB (λb=>idx b ids 0) (gt s.h b)) g->Free N ρ' (ids.map λb=>renB (λb=>idx b ids 0) (gt s.h b)) g:=by
   intro g hg;refine⟨hg.1,λb r hb hd=>?_⟩;rw[hlive b hd]at hb;exact hg.2 b r hb hd
  have hKp:WD (renM ρ ids) w (Free N (renM ρ ids) (ids.map λb=>renB (λb=>idx b ids 0) (gt s.h b))) ρ' w (Free N ρ' (ids.map λb=>renB (λb=>idx b ids 0) (gt s.h b))) :=
   ⟨λb r hb=>⟨r,hsome b r hb,rfl⟩,λg _ hg=>⟨hFree g hg,rfl⟩⟩
  have R':=R.ren hnd h2;refine⟨ρ',⟨R'.hb,R'.hN,?_,?_,?_,?_⟩,?_,?_,by simpa using hkl,λg hg=>hFree g (ZhH hg),?_⟩
  .intro b r g hb hd;rw[hlive b hd]at hb;exact R'.hO b r g hb hd
  .intro b hd;obtain⟨r1,q1,q2⟩:=R'.blk b hd;exact⟨r1,hsome b r1 q1,q2.keep hKp λ_ _=>rfl⟩
  .intro b b' r1 r2 g hb hb' hd hd';rw[hlive b hd]at hb;rw[hlive b' hd']at hb';exact R'.inj b b' r1 r2 g hb hb' hd hd'
  .intro b b' r1 r2 g hb hb' hf hf';rw[hlive b (JY hf)]at hb;rw[hlive b' (JY hf')]at hb';exact R'.apart b b' r1 r2 g hb hb' hf hf'
  .refine RV.keep hKp ((hv.scrub (h:=s.h)).ren _ (λb hb r hr=>?_) λg _ hg=>ZhH hg)
   simp_all [ZhG,Yu]
  .grind [List.length_map,ZqG]
  .intro b r0 hb hr0;rcases hroot b r0 hb hr0 with hn|⟨r1,q1,q2⟩
   .refine⟨r0,?_,rfl⟩;show(if hb:b<k/\renM ρ ids b=none then ρ0 b else renM ρ ids b)=some r0;rw[dif_pos ⟨hb,by simp[renM,hat b hb,hn]⟩];exact hr0
   .exact⟨r1,hsome b r1 (by simp[renM,hat b hb,q1]),q2⟩
 .cases hc
theorem Z22:∀(l:V7) (x:Blk),stB l l.length x=l++[x]
 |[],x=>rfl
 |y::l,x=>by simp[stB,Z22 l x]
structure Own (N:Par) (base:Nat) (ρ:Map) (h:V7) (w:World) (ρ':Map) (h':V7):Prop where
 rel:Rel N base ρ' h' w
 keep:WD ρ w (Free N ρ h) ρ' w (Free N ρ' h')
 dom:∀b,h'.length<=b->ρ' b=none
theorem Own.trans{ρ1 ρ2:Map}{h1 h2:V7}(a:Own N base ρ h w ρ1 h1)(b:Own N base ρ1 h1 w ρ2 h2):Own N base ρ h w ρ2 h2 :=
 ⟨b.rel,a.keep.trans b.keep (Yj _),b.dom⟩
theorem Z23(R:Rel N base ρ h w)(hd:∀b,h.length<=b->ρ b=none)(e sz:Nat) :
  Own N base ρ h w (updM ρ h.length ⟨.slice none 0 0,[]⟩) (h++[.arr e (sz+1) true []]):=by
 have hp:=K9 R (n:=h.length) (ks:=[]) (x:=.arr e (sz+1) true []) (r:=⟨.slice none 0 0,[]⟩) (row:=none) (w':=w)
  (by intro r0 h0;rw[hd _ (Yj _)]at h0;cases h0) ⟨rfl,rfl,rfl,Yj _,λ_ _ _=>rfl⟩ (by intro g' hg';cases hg') (by intro g' hg';cases hg')
  (λ_=>⟨e,[],.inr rfl,World.ownsRow_nil w base e (sz+1),Nat.succ_pos _,by simp,.nil,by simp,λ_=>⟨Ybf,by simp⟩⟩)
  (by intro _ x hx;cases hx)
 have hu:upd h (kill []++[(h.length,Blk.arr e (sz+1) true [])])=h++[.arr e (sz+1) true []]:=by simp only[kill,Yca,Ybi,upd,Z22]
 rw[hu]at hp;refine⟨hp.1,hp.2.1,λb hb=>?_⟩;simp only[Yq,Yw,Ybj]at hb;simp only[updM]
 grind
theorem ZqY{ρ:Map}{h:V7}{w:World}{F:Nat->Prop}{v:Value}(h1:RV ρ w F (.t .nil) v):v=.slice none 0 0:=by
 cases h1 with|t h _=>cases h;rfl
theorem ZEK:∀(l:List (Option (Nat×Nat))) (cs:V2) (ρ:Map) (h:V7) (vs:KI),Rel N base ρ h w->(∀b,h.length<=b->ρ b=none)->RVs ρ w (Free N ρ h) cs vs->
  ∃ρ',Own N base ρ h w ρ' (QA l cs h).2/\RVs ρ' w (Free N ρ' (QA l cs h).2) (QA l cs h).1 vs:=by
 intro l cs ρ h
 induction l,cs,h using QA.induct generalizing ρ with
 |case1 e sz ps cs h cs' h' heq ih =>
  intro vs R hd hv
  cases hv with|cons q hv =>
  have hs:=ZqY (h:=h) q;subst hs;have A:=Z23 R hd e sz;obtain⟨ρ',B,hv'⟩:=ih _ _ A.rel A.dom (hv.keep A.keep);rw[heq]at B hv';simp only[QA,heq];refine⟨ρ',A.trans B,.cons ?_ hv'⟩;have hk:updM ρ h.length ⟨.slice none 0 0,[]⟩ h.length=some ⟨.slice none 0 0,[]⟩:=by simp[updM]
  exact(RV.own (w:=w) (F:=Free N _ (h++[.arr e (sz+1) true []])) hk rfl).keep B.keep
 |case2 o c ps cs h hne cs' h' heq ih =>
  intro vs R hd hv
  cases hv with|cons q hv =>
  obtain⟨ρ',B,hv'⟩:=ih _ _ R hd hv;rw[heq]at B hv';have he:QA (o::c) (ps::cs) h=(ps::cs',h'):=by
   rw[QA]
   .rw[heq]
   .exact hne
  rw[he]
  exact⟨ρ',B,.cons (q.keep B.keep) hv'⟩
 |case3 cs h =>
  intro vs R hd hv;simp only[QA]
  exact⟨ρ,⟨R,.refl,hd⟩,hv⟩
 |case4 l h hne =>
  intro vs R hd hv
  cases l with
  |nil=>exact absurd rfl hne
  |cons o l=>simp only[QA];exact⟨ρ,⟨R,.refl,hd⟩,hv⟩
theorem Z24(n:Nat)(v:AV)(ρ:Map)(h:V7)(val:Value)(R:Rel N base ρ h w)(hd:∀b,h.length<=b->ρ b=none)(hv:RV ρ w (Free N ρ h) v val) :
  ∃ρ',Own N base ρ h w ρ' (dat1 n v h).2/\RV ρ' w (Free N ρ' (dat1 n v h).2) (dat1 n v h).1 val:=by
 unfold dat1;split
 .have hs:=ZqY (h:=h) hv;subst hs;exact⟨ρ,⟨R,.refl,hd⟩,.t (.lst0 _ _ _) λg hg=>by cases hg⟩
 .rename_i b;split
  .rename_i el sz fr es hb;obtain⟨h1,h2⟩:=fz_rel R hb;have hl:b<h.length:=gt_lt (by rw[hb];intro hc;cases hc);refine⟨ρ,⟨h1,⟨λc r hr=>⟨r,hr,rfl⟩,λg _ hg=>⟨Zmp hg,rfl⟩⟩,λc hc=>hd c (by rw[fzH_len hl]at hc;exact hc)⟩,?_⟩
   cases hv with
   |own hr hone=>exact h2 _ hr
  .exact⟨ρ,⟨R,.refl,hd⟩,hv⟩
 .exact⟨ρ,⟨R,.refl,hd⟩,hv⟩
theorem ZqZ{w:World}:∀(l:List (Option (Nat×Nat))) (cs:V2) (ρ:Map) (h:V7) (vs:KI),Rel N base ρ h w->(∀b,h.length<=b->ρ b=none)->RVs ρ w (Free N ρ h) cs vs->
  ∃ρ',Own N base ρ h w ρ' (UN l cs h).2/\RVs ρ' w (Free N ρ' (UN l cs h).2) (UN l cs h).1 vs
 |[],cs,ρ,h,vs,R,hd,hv=>by
  unfold UN
  exact⟨ρ,⟨R,.refl,hd⟩,hv⟩
 |o::ps,[],ρ,h,vs,R,hd,hv=>by
  have e:UN (o::ps) [] h=([],h):=by rcases o with _|⟨n,_|z⟩<;>rfl
  rw[e]
  exact⟨ρ,⟨R,.refl,hd⟩,hv⟩
 |o::ps,c::cs,ρ,h,[],R,hd,hv=>by cases hv
 |o::ps,c::cs,ρ,h,v0::vs,R,hd,hv=>by
  cases hv with|cons q hv =>
  have go:∃ρ',Own N base ρ h w ρ' (UN ps cs h).2/\RVs ρ' w (Free N ρ' (UN ps cs h).2) (c::(UN ps cs h).1) (v0::vs):=by
   obtain⟨ρ',A,B⟩:=ZqZ ps cs ρ h _ R hd hv;exact⟨ρ',A,.cons (q.keep A.keep) B⟩
  cases o with
  |none=>simpa only[UN]using go
  |some p =>
   obtain⟨n,z⟩:=p
   cases z with
   |succ z=>simpa only[UN]using go
   |zero =>
    obtain⟨ρ1,A1,B1⟩:=Z24 n c ρ h _ R hd q;obtain⟨ρ',A,B⟩:=ZqZ ps cs ρ1 _ _ A1.rel A1.dom (hv.keep A1.keep);simp only[UN];exact⟨ρ',A1.trans A,.cons (B1.keep A.keep) B⟩
theorem Zmq(l:List (Option (Nat×Nat)))(v:AV)(ρ:Map)(h:V7)(val:Value)(R:Rel N base ρ h w)(hd:∀b,h.length<=b->ρ b=none)(hv:RV ρ w (Free N ρ h) v val) :
  ∃ρ',Own N base ρ h w ρ' (own1 l v h).2/\RV ρ' w (Free N ρ' (own1 l v h).2) (own1 l v h).1 val:=by
 unfold own1;split
 .rename_i cs
  cases hv with|agg hv h1 =>
  obtain⟨ρ1,A1,B1⟩:=ZEK l cs ρ h _ R hd hv;obtain⟨ρ',A,B⟩:=ZqZ l _ ρ1 _ _ A1.rel A1.dom B1;exact⟨ρ',A1.trans A,.agg B h1⟩
 .split
  .rename_i e sz;split
   .have hs:=ZqY (h:=h) hv;subst hs;have A:=Z23 R hd e sz;exact⟨_,A,RV.own (r:=⟨.slice none 0 0,[]⟩) (by simp[updM]) rfl⟩
   .exact⟨ρ,⟨R,.refl,hd⟩,hv⟩
  .simp_all [Z24]
  .exact⟨ρ,⟨R,.refl,hd⟩,hv⟩
theorem ZhU{w:World}:∀(rs:List Res) (vs:V2) (ρ:Map) (h:V7) (vals:KI),Rel N base ρ h w->(∀b,h.length<=b->ρ b=none)->RVs ρ w (Free N ρ h) vs vals->
  ∃ρ',Own N base ρ h w ρ' (Qj rs vs h).2/\RVs ρ' w (Free N ρ' (Qj rs vs h).2) (Qj rs vs h).1 vals
 |[],vs,ρ,h,vals,R,hd,hv=>by simp only[Qj];exact⟨ρ,⟨R,.refl,hd⟩,hv⟩
 |r::rs,[],ρ,h,vals,R,hd,hv=>by cases r<;>(simp only[Qj];exact⟨ρ,⟨R,.refl,hd⟩,hv⟩)
 |.tmp t::rs,v::vs,ρ,h,vals,R,hd,hv=>by
  cases hv with|cons q hv =>
  obtain⟨ρ',A,B⟩:=ZhU rs vs ρ h _ R hd hv;simp only[Qj]
  exact⟨ρ',A,.cons (q.keep A.keep) B⟩
 |.cell a n::rs,v::vs,ρ,h,vals,R,hd,hv=>by
  cases hv with|cons q hv =>
  obtain⟨ρ',A,B⟩:=ZhU rs vs ρ h _ R hd hv;simp only[Qj]
  exact⟨ρ',A,.cons (q.keep A.keep) B⟩
 |.tmpO t l::rs,v::vs,ρ,h,vals,R,hd,hv=>by
  cases hv with|cons q hv =>
  obtain⟨ρ1,A1,B1⟩:=Zmq l v ρ h _ R hd q;obtain⟨ρ',A,B⟩:=ZhU rs vs ρ1 _ _ A1.rel A1.dom (hv.keep A1.keep);simp only[Qj]
  exact⟨ρ',A1.trans A,.cons (B1.keep A.keep) B⟩
 |.cellO a n l::rs,v::vs,ρ,h,vals,R,hd,hv=>by
  cases hv with|cons q hv =>
  obtain⟨ρ1,A1,B1⟩:=Zmq l v ρ h _ R hd q;obtain⟨ρ',A,B⟩:=ZhU rs vs ρ1 _ _ A1.rel A1.dom (hv.keep A1.keep);simp only[Qj];exact⟨ρ',A1.trans A,.cons (B1.keep A.keep) B⟩
theorem ZEL(rs:List Res)(v:AV)(ρ:Map)(h:V7)(val:Value)(R:Rel N base ρ h w)(hd:∀b,h.length<=b->ρ b=none)(hv:RV ρ w (Free N ρ h) v val) :
  ∃ρ',Own N base ρ h w ρ' (ownR rs v h).2/\RV ρ' w (Free N ρ' (ownR rs v h).2) (ownR rs v h).1 val:=by
 unfold ownR;split
 .simp_all [Zmq]
 .simp_all [Zmq]
 .cases hv with|tup hv =>
  obtain⟨ρ',A,B⟩:=ZhU _ _ ρ h _ R hd hv;exact⟨ρ',A,.tup B⟩
 .exact⟨ρ,⟨R,.refl,hd⟩,hv⟩
def TblOK(P:Program)(tbl:Nat->Option MFun):Prop:=∀f m,tbl f=some m->∃fn ks inl,P.funcs[f]?=some fn/\JX P inl ks fn=some m/\K7 P f=true
theorem sound_of(hf:P.funcs[f]?=some fn)(hcl:K7 P f=true)(hc:JX P inl ks fn=some m)
  (hW:FW (Wr P) m args h0 r hr):Wr P f args h0 r hr:=by
 refine⟨hcl,?_⟩;intro N base w ρ vs hR hdom hv hz;have hb:=ZEH (N:=N) (base:=base) (ts:=[ZhT ρ h0.length]) rfl hf hc hW.1 (s:={ env:=[],stk:=[QY h0 0],h:=h0 }) hW.2 hR ⟨ZEI hR,trivial⟩ hdom hv hz;refine hb.mono ?_;rintro e w' ⟨val,v,s',ρ1,rfl,hK,hv',hR',hst,hdom',hB,hkn,hfz⟩
 match hs:s'.stk,hst with
 |[e],hst =>
  obtain⟨ρ1',A,hv2⟩:=ZEL m.res v ρ1 s'.h val hR' hdom' hv';obtain⟨ρ2,h1,h2,h3,h4,h5,h6⟩:=ZEJ (s:={ s' with h:=(ownR m.res v s'.h).2 }) A.rel hv2 A.dom hs (λt=>(hst.1 t).keep A.keep) hK;exact⟨val,ρ2,rfl,hB,h1,h2,h3,h4,hkn,λg hg hz'=>⟨h5 g (A.keep.free g (Yb0 hg hB.size) (hfz g hg hz').1).1,(hfz g hg hz').2⟩,h6⟩
end
inductive Fr where
 |seq (b:Zc)
 |blk (id:Nat)
 |loop (keep:V8) (b:Zc)
 |fin (k:Nat) (rs:List Res)
inductive Cf where
 |code (c:Zc)
 |ops (os:List MO) (keep:V8)
 |drw (os:List MO) (feet:List Foot) (before:List (V8)) (keep:V8)
 |out (x:X)
abbrev Xe:=Nat->V2->V7->V1
def callB(args:V2)(nx:Nat):V1->Option (AV×List (Nat×Blk))
 |some (r,hr)=>if(UL args || frR r hr)=true then some (shift nx r,newU nx hr 0)else none
 |none=>none
def callA(C:Xe)(f:Nat)(args:V2)(nx:Nat):Option (V2)->Option (AV×List (Nat×Blk))
 |some as=>callB args nx (C f as [])
 |none=>none
def fcallB:V1->Option (AV×List (Nat×Blk))
 |some (r,hr)=>match frzR hr r with
  |some d=>some (d,[])
  |none=>none
 |none=>none
def Ze7(C:Xe)(f:Nat)(args:V2):Option (V2)->Option (AV×List (Nat×Blk))
 |some as=>if UL args=true then fcallB (C f as [])else none
 |none=>none
def mcallB(ids:V8)(nx:Nat):V1->Option (AV×List (Nat×Blk))
 |some (r,h1)=>some (ren (bk ids nx) r,W1 ids nx h1 0)
 |none=>none
def KA(C:Xe)(f:Nat)(vs:V2)(h:V7)(nx:Nat)(ids:V8):Option (AV×List (Nat×Blk)) :=
 if Qg h ids (ZS vs)=true then mcallB ids nx (C f (subA ids vs) (subH h ids))else none
open Classical in
noncomputable def pcallB(ids:V8)(h0:V7)(nx:Nat):V1->Option (AV×List (Nat×Blk))
 |some (r,h1)=>if h1.take ids.length=h0 then some (ren (bk ids nx) r,W1 ids nx (h1.drop ids.length) ids.length)else none
 |none=>none
noncomputable def Ze8(C:Xe)(f:Nat)(vs:V2)(h:V7)(nx:Nat)(ids:V8):Option (AV×List (Nat×Blk)) :=
 if Qg h ids (ZS vs)=true then pcallB ids (subH h ids) nx (C f (subA ids vs) (subH h ids))else none
def Ze9(C:Xe)(args:V2)(h:V7)(nx:Nat):AV->Option (AV×List (Nat×Blk))
 |.fn g caps=>KA C g (args++caps) h nx (Xj h (args++caps))
 |_=>none
noncomputable def runV(C:Xe)(k:MOp)(s:S):Option (AV×List (Nat×Blk)):=match k with
 |.call f args=>callA C f (args.map (ev s.env)) s.h.length (frzs s.h (args.map (ev s.env)))
 |.fcall f args=>Ze7 C f (args.map (ev s.env)) (frzs s.h (args.map (ev s.env)))
 |.icall f args=>KA C f (args.map (ev s.env)) s.h s.h.length (Xj s.h (args.map (ev s.env)))
 |.pcall f args=>Ze8 C f (args.map (ev s.env)) s.h s.h.length (Xj s.h (args.map (ev s.env)))
 |.dcall f args=>Ze9 C (args.map (ev s.env)) s.h s.h.length (ev s.env f)
 |k=>ZK s.h s.h.length s.env k
def runD(o:MO)(s:S):Option (AV×List (Nat×Blk))->Option S
 |some (v,u)=>some { s with env:=put o.dst v s.env,h:=upd s.h u }
 |none=>none
noncomputable def runE(C:Xe)(o:MO)(s:S):Option S:=runD o s (runV C o.op s)
def skipE(o:MO)(s:S):S:={ s with env:=put o.dst (.tup []) s.env }
noncomputable def ZhV(C:Xe)(o:MO)(s:S)(want:Bool):AV->Option S
 |.t (.bool b)=>if b=want then runE C o s else some (skipE o s)
 |.tup []=>some (skipE o s)
 |_=>none
noncomputable def opE(C:Xe)(o:MO)(s:S):Option S:=match o.guard with
 |none=>runE C o s
 |some (g,want)=>ZhV C o s want (lk g s.env)
def runFD(o:MO)(s:S):Option (AV×List (Nat×Blk))->Option (Foot×S)
 |some (v,u)=>some (VT o s (u.map Prod.fst),{ s with env:=put o.dst v s.env,h:=upd s.h u })
 |none=>none
noncomputable def runF(C:Xe)(o:MO)(s:S):Option (Foot×S):=runFD o s (runV C o.op s)
noncomputable def ZhW(C:Xe)(o:MO)(s:S)(want:Bool):AV->Option (Foot×S)
 |.t (.bool b)=>if b=want then runF C o s else some (VT o s [],skipE o s)
 |.tup []=>some (VT o s [],skipE o s)
 |_=>none
noncomputable def opF(C:Xe)(o:MO)(s:S):Option (Foot×S):=match o.guard with
 |none=>runF C o s
 |some (g,want)=>ZhW C o s want (lk g s.env)
def finE(k:Nat)(rs:List Res)(s:S):V1:=match resAV rs s with
 |some v=>ZlZ rs k v s
 |none=>none
abbrev Step:=Sum (List Fr×Cf×S) (V1)
def stepO(ks:List Fr)(os:List MO)(keep:V8):Option S->Step
 |some s=>.inl (ks,.ops os keep,s)
 |none=>.inr none
def stepD(ks:List Fr)(os:List MO)(feet:List Foot)(before:List (V8))(keep:V8):Option (Foot×S)->Step
 |some (f,s)=>.inl (ks,.drw os (feet++[f]) before keep,s)
 |none=>.inr none
def stepC(ks:List Fr)(x y:Zc)(s:S):AV->Step
 |.t (.bool b)=>if b=true then .inl (ks,.code x,s)else .inl (ks,.code y,s)
 |_=>.inr none
noncomputable def step(C:Xe):List Fr->Cf->S->Step
 |ks,.code .skip,s=>.inl (ks,.out .n,s)
 |ks,.code (.reg ops keep),s=>.inl (ks,.ops ops keep,s)
 |ks,.code (.drw ops b keep),s=>.inl (ks,.drw ops [] b keep,s)
 |ks,.code (.seq a b),s=>.inl (.seq b::ks,.code a,s)
 |ks,.code (.cond c x y),s=>stepC ks x y s (ev s.env c)
 |ks,.code (.block id b),s=>.inl (.blk id::ks,.code b,s)
 |ks,.code (.loop keep b),s=>.inl (.loop keep b::ks,.code b,Q9 keep s)
 |ks,.code (.exit id),s=>.inl (ks,.out (.x id),s)
 |ks,.code .ret,s=>.inl (ks,.out .r,s)
 |ks,.ops [] keep,s=>.inl (ks,.out .n,{ s with env:=rst keep s.env })
 |ks,.ops (o::os) keep,s=>stepO ks os keep (opE C o s)
 |ks,.drw [] feet before keep,s=>if Zbe before feet=true then .inl (ks,.out .n,{ s with env:=rst keep s.env })else .inr none
 |ks,.drw (o::os) feet before keep,s=>stepD ks os feet before keep (opF C o s)
 |[],.out _,_=>.inr none
 |.fin _ _::_,.out (.x _),_=>.inr none
 |.fin k rs::_,.out .n,s=>.inr (finE k rs s)
 |.fin k rs::_,.out .r,s=>.inr (finE k rs s)
 |.seq b::ks,.out .n,s=>.inl (ks,.code b,s)
 |.seq _::ks,.out x,s=>.inl (ks,.out x,s)
 |.blk id::ks,.out (.x i),s=>if i=id then .inl (ks,.out .n,s)else .inl (ks,.out (.x i),s)
 |.blk _::ks,.out x,s=>.inl (ks,.out x,s)
 |.loop keep b::ks,.out .n,s=>.inl (ks,.code (.loop keep b),s)
 |.loop _ _::ks,.out x,s=>.inl (ks,.out x,s)
noncomputable def runN(C:Xe):Nat->List Fr->Cf->S->V1
 |0,_,_,_=>none
 |n+1,ks,cf,s=>match step C ks cf s with
  |.inl (ks',cf',s')=>runN C n ks' cf' s'
  |.inr r=>r
theorem Zmr{C:Xe}:∀(n:Nat) {m:Nat} {ks:List Fr} {cf:Cf} {s:S} {r:V3},runN C n ks cf s=some r->n<=m->runN C m ks cf s=some r
 |0,_,_,_,_,_,h,_=>by cases h
 |n+1,0,_,_,_,_,_,hm=>by omega
 |n+1,m+1,ks,cf,s,r,h,hm=>by
  simp only[runN]at h|-;split at h
  .rename_i h1;exact Zmr n h (by omega)
  .rename_i h1;exact h
variable{s:S}{r:V3}{p:Nat->V1}{n:Nat}
theorem runN_det{C:Xe}{m:Nat}{ks:List Fr}{cf:Cf}{r':V3}(h:runN C n ks cf s=some r)(h':runN C m ks cf s=some r'):r=r':=by
 grind [Nat.le_total,Zmr]
open Classical in
noncomputable def limP(p:V3->Prop):V1:=if h:∃r,p r then some h.choose else none
noncomputable def lim(p:Nat->V1):V1:=limP λr=>∃n,p n=some r
theorem ZeA(h:lim p=some r):∃n,p n=some r:=by
 unfold lim limP at h;split at h
 .grind
 .cases h
theorem lim_eq(det:∀n m r r',p n=some r->p m=some r'->r=r')(h:p n=some r):lim p=some r:=by
 have hx:∃r,∃n,p n=some r:=⟨r,n,h⟩;unfold lim limP
 grind
theorem ZEM{q:Nat->V1}(h:∀r,(∃n,p n=some r)↔∃n,q n=some r):lim p=lim q:=by
 have:(λr=>∃n,p n=some r)=λr=>∃n,q n=some r:=funext λr=>propext (h r)
 unfold lim;rw[this]
noncomputable def Lim(C:Xe)(ks:List Fr)(cf:Cf)(s:S):V1:=lim λn=>runN C n ks cf s
theorem Z25{C:Xe}{ks:List Fr}{cf:Cf}(h:Lim C ks cf s=some r):∃n,runN C n ks cf s=some r:=ZeA h
theorem WS{C:Xe}{ks ks':List Fr}{cf cf':Cf}{s':S}(h:step C ks cf s=.inl (ks',cf',s')):Lim C ks cf s=Lim C ks' cf' s':=by
 refine ZEM λr=>⟨?_,?_⟩
 .rintro⟨n,hn⟩
  cases n with
  |zero=>cases hn
  |succ n=>simp only[runN,h]at hn;exact⟨n,hn⟩
 .rintro⟨n,hn⟩;exact⟨n+1,by simp only[runN,h];exact hn⟩
theorem ZeB{C:Xe}{ks:List Fr}{cf:Cf}{r:V1}(h:step C ks cf s=.inr r):Lim C ks cf s=r:=by
 cases r with
 |some r=>exact lim_eq (λn m r r' h h'=>runN_det h h') (n:=1) (by simp only[runN,h])
 |none =>
  cases hl:Lim C ks cf s with
  |none=>rfl
  |some r =>
   obtain⟨n,hn⟩:=Z25 hl
   cases n with
   |zero=>cases hn
   |succ n=>simp only[runN,h]at hn;cases hn
noncomputable def Ev(C:Xe)(ks:List Fr)(c:Zc)(s:S):V1:=Lim C ks (.code c) s
noncomputable def EvX(C:Xe)(ks:List Fr)(x:X)(s:S):V1:=Lim C ks (.out x) s
noncomputable def EvO(C:Xe)(ks:List Fr)(os:List MO)(keep:V8)(s:S):V1:=Lim C ks (.ops os keep) s
noncomputable def EvD(C:Xe)(ks:List Fr)(os:List MO)(feet:List Foot)(before:List (V8))(keep:V8)(s:S):V1:=Lim C ks (.drw os feet before keep) s
noncomputable def EvL(C:Xe)(ks:List Fr)(keep:V8)(b:Zc)(s:S):V1:=Ev C (.loop keep b::ks) b s
noncomputable def EvS(C:Xe)(ks:List Fr)(os:List MO)(keep:V8):Option S->V1
 |some s=>EvO C ks os keep s
 |none=>none
noncomputable def EvF(C:Xe)(ks:List Fr)(os:List MO)(feet:List Foot)(before:List (V8))(keep:V8):Option (Foot×S)->V1
 |some (f,s)=>EvD C ks os (feet++[f]) before keep s
 |none=>none
noncomputable def EvC(C:Xe)(ks:List Fr)(x y:Zc)(s:S):AV->V1
 |.t (.bool b)=>if b=true then Ev C ks x s else Ev C ks y s
 |_=>none
section
variable{C:Xe}{ks:List Fr}{s:S}{a b x y:Zc}{os:List MO}{o:MO}{keep:V8}{id i:Nat}{feet:List Foot}{before:List (V8)}{k:Nat}{rs:List Res}
theorem Ev_skip:Ev C ks .skip s=EvX C ks .n s:=WS rfl
theorem Ev_reg:Ev C ks (.reg os keep) s=EvO C ks os keep s:=WS rfl
theorem Ev_drw:Ev C ks (.drw os before keep) s=EvD C ks os [] before keep s:=WS rfl
theorem Ev_seq:Ev C ks (.seq a b) s=Ev C (.seq b::ks) a s:=WS rfl
theorem Ev_cond{c:Opd}:Ev C ks (.cond c x y) s=EvC C ks x y s (ev s.env c):=by
 unfold EvC;split
 .rename_i b hb;cases b
  .exact WS (by simp[step,hb,stepC])
  .exact WS (by simp[step,hb,stepC])
 .rename_i hb;refine ZeB ?_;simp only[step];unfold stepC;simp
theorem Ev_block:Ev C ks (.block id b) s=Ev C (.blk id::ks) b s:=WS rfl
theorem Ev_loop:Ev C ks (.loop keep b) s=Ev C (.loop keep b::ks) b (Q9 keep s):=WS rfl
theorem Zr{B c:Zc}(hB:B=c):EvL C ks keep B s=Ev C (.loop keep B::ks) c s:=by subst hB;rfl
theorem Z26:Ev C ks (.loop keep b) s=EvL C ks keep b (Q9 keep s):=Ev_loop
theorem EvD_nil':EvD C ks [] feet before keep s=if Zbe before feet=true then EvX C ks .n { s with env:=rst keep s.env } else none:=by
 split
 .rename_i h;exact WS (by simp[step,h])
 .rename_i h;exact ZeB (by simp[step,h])
theorem Ev_exit:Ev C ks (.exit id) s=EvX C ks (.x id) s:=WS rfl
theorem Ev_ret:Ev C ks .ret s=EvX C ks .r s:=WS rfl
theorem EvO_nil:EvO C ks [] keep s=EvX C ks .n { s with env:=rst keep s.env }:=WS rfl
theorem EvO_cons:EvO C ks (o::os) keep s=EvS C ks os keep (opE C o s):=by
 cases h:opE C o s with
 |some s'=>exact WS (by simp[step,h,stepO])
 |none =>
  show Lim C ks (.ops (o::os) keep) s=none;exact ZeB (by simp[step,h,stepO])
theorem EvS_some:EvS C ks os keep (some s)=EvO C ks os keep s:=rfl
theorem EvD_cons:EvD C ks (o::os) feet before keep s=EvF C ks os feet before keep (opF C o s):=by
 cases h:opF C o s with
 |some p=>obtain⟨f,s'⟩:=p;exact WS (by simp[step,h,stepD])
 |none =>
  show Lim C ks (.drw (o::os) feet before keep) s=none;exact ZeB (by simp[step,h,stepD])
theorem EvF_some{f:Foot}:EvF C ks os feet before keep (some (f,s))=EvD C ks os (feet++[f]) before keep s:=rfl
theorem EvC_bool{v:Bool}:EvC C ks x y s (.t (.bool v))=if v=true then Ev C ks x s else Ev C ks y s:=rfl
theorem ZEN:EvX C (.fin k rs::ks) .n s=finE k rs s:=ZeB rfl
theorem ZEO:EvX C (.fin k rs::ks) .r s=finE k rs s:=ZeB rfl
theorem ZEP:EvX C (.seq b::ks) .n s=Ev C ks b s:=WS rfl
theorem ZEQ:EvX C (.seq b::ks) (.x i) s=EvX C ks (.x i) s:=WS rfl
theorem ZER:EvX C (.seq b::ks) .r s=EvX C ks .r s:=WS rfl
theorem ZES:EvX C (.blk id::ks) .n s=EvX C ks .n s:=WS rfl
theorem ZET:EvX C (.blk id::ks) (.x i) s=if i=id then EvX C ks .n s else EvX C ks (.x i) s:=by
 split
 .rename_i h;exact WS (by simp[step,h])
 .rename_i h;exact WS (by simp[step,h])
theorem ZEU:EvX C (.blk id::ks) .r s=EvX C ks .r s:=WS rfl
theorem ZEV:EvX C (.loop keep b::ks) .n s=Ev C ks (.loop keep b) s:=WS rfl
theorem ZEW:EvX C (.loop keep b::ks) .n s=EvL C ks keep b (Q9 keep s):=by rw[ZEV,Z26]
theorem ZEX:EvX C (.loop keep b::ks) (.x i) s=EvX C ks (.x i) s:=WS rfl
theorem ZEY:EvX C (.loop keep b::ks) .r s=EvX C ks .r s:=WS rfl
end
noncomputable def WT(X:Xe)(tbl:Nat->Option MFun):Nat->Xe
 |0=>λ_ _ _=>none
 |n+1=>λf as h0=>match tbl f with
  |some m=>if as.length=m.np then runN (WT X tbl n) n [.fin h0.length m.res] (.code m.body) ⟨K6 as 0,[QY h0 0],h0⟩else none
  |none=>X f as h0
def LeE(C C':Xe):Prop:=∀f as h0 r,C f as h0=some r->C' f as h0=some r
theorem Z27{C C':Xe}(h:LeE C C'){k:MOp}{s:S}{p:AV×List (Nat×Blk)}(hr:runV C k s=some p):runV C' k s=some p:=by
 have m:∀f vs ids,KA C f vs s.h s.h.length ids=some p->KA C' f vs s.h s.h.length ids=some p:=by
  intro f vs ids hr;unfold KA at hr|-;split at hr
  .rename_i hc;rw[Ya hc]
   cases hx:C f (subA ids vs) (subH s.h ids)with
   |none=>rw[hx]at hr;cases hr
   |some q=>rw[h _ _ _ _ hx];rw[hx]at hr;exact hr
  .cases hr
 cases k<;>first|exact hr|skip
 .rename_i f args;simp only[runV]at hr|-
  cases hf:frzs s.h (args.map (ev s.env))with
  |none=>rw[hf]at hr;cases hr
  |some as =>
   rw[hf]at hr;simp only[callA]at hr|-
   cases hx:C f as []with
   |none=>rw[hx]at hr;cases hr
   |some q=>rw[h _ _ _ _ hx];rw[hx]at hr;exact hr
 .rename_i f args;simp only[runV]at hr|-
  cases hf:frzs s.h (args.map (ev s.env))with
  |none=>rw[hf]at hr;cases hr
  |some as =>
   rw[hf]at hr;simp only[Ze7]at hr|-;split at hr
   .rename_i hno;rw[Ya hno]
    cases hx:C f as []with
    |none=>rw[hx]at hr;cases hr
    |some q=>rw[h _ _ _ _ hx];rw[hx]at hr;exact hr
   .cases hr
 .exact m _ _ _ hr
 .rename_i f args;simp only[runV,Ze8]at hr|-;split at hr
  .rename_i hc;rw[Ya hc]
   cases hx:C f (subA (Xj s.h (args.map (ev s.env))) (args.map (ev s.env))) (subH s.h (Xj s.h (args.map (ev s.env))))with
   |none=>rw[hx]at hr;cases hr
   |some q=>rw[h _ _ _ _ hx];rw[hx]at hr;exact hr
  .cases hr
 .rename_i x args;simp only[runV]at hr|-;unfold Ze9 at hr|-
  grind
theorem Z28{C C':Xe}(h:LeE C C'){o:MO}{s s':S}(hr:runE C o s=some s'):runE C' o s=some s':=by
 unfold runE at hr|-
 cases hx:runV C o.op s with
 |none=>rw[hx]at hr;cases hr
 |some p=>rw[Z27 h hx];rw[hx]at hr;exact hr
theorem Z29{C C':Xe}(h:LeE C C'){o:MO}{s:S}{s':Foot×S}(hr:runF C o s=some s'):runF C' o s=some s':=by
 unfold runF at hr|-
 cases hx:runV C o.op s with
 |none=>rw[hx]at hr;cases hr
 |some p=>rw[Z27 h hx];rw[hx]at hr;exact hr
theorem opE_mono{C C':Xe}(h:LeE C C'){o:MO}{s s':S}(hr:opE C o s=some s'):opE C' o s=some s':=by
 unfold opE at hr|-
 cases hg:o.guard with
 |none=>simp only[hg]at hr|-;exact Z28 h hr
 |some p =>
  obtain⟨g,want⟩:=p;simp only[hg]at hr|-;unfold ZhV at hr|-
  grind [Z28]
theorem opF_mono{C C':Xe}(h:LeE C C'){o:MO}{s:S}{s':Foot×S}(hr:opF C o s=some s'):opF C' o s=some s':=by
 unfold opF at hr|-
 cases hg:o.guard with
 |none=>simp only[hg]at hr|-;exact Z29 h hr
 |some p =>
  obtain⟨g,want⟩:=p;simp only[hg]at hr|-;unfold ZhW at hr|-
  grind [Z29]
theorem Zra{C C':Xe}(h:LeE C C'){ks:List Fr}{cf:Cf}{s:S}:(∀c,step C ks cf s=.inl c->step C' ks cf s=.inl c)/\∀r,step C ks cf s=.inr (some r)->step C' ks cf s=.inr (some r):=by
 have key:(∃o os keep,cf=.ops (o::os) keep)\/(∃o os feet before keep,cf=.drw (o::os) feet before keep)\/step C ks cf s=step C' ks cf s:=by
  cases cf with
  |code c=>cases c<;>exact .inr (.inr rfl)
  |ops os keep =>
   cases os with
   |nil=>exact .inr (.inr rfl)
   |cons o os=>exact .inl ⟨o,os,keep,rfl⟩
  |drw os feet before keep =>
   cases os with
   |nil=>exact .inr (.inr rfl)
   |cons o os=>exact .inr (.inl ⟨o,os,feet,before,keep,rfl⟩)
  |out x =>
   refine .inr (.inr ?_)
   cases ks with
   |nil=>rfl
   |cons k ks=>cases k<;>cases x<;>rfl
 rcases key with⟨o,os,keep,rfl⟩|⟨o,os,feet,before,keep,rfl⟩|he
 .simp only[step]
  cases hx:opE C o s with
  |none=>simp[stepO]
  |some s'=>rw[opE_mono h hx];exact⟨λ_ h=>h,λ_ h=>h⟩
 .simp only[step]
  cases hx:opF C o s with
  |none=>simp[stepD]
  |some s'=>rw[opF_mono h hx];exact⟨λ_ h=>h,λ_ h=>h⟩
 .simp_all
theorem Zms{C C':Xe}(h:LeE C C'):∀(n:Nat) {ks:List Fr} {cf:Cf} {s:S} {r:V3},runN C n ks cf s=some r->runN C' n ks cf s=some r
 |0,_,_,_,_,hr=>by cases hr
 |n+1,ks,cf,s,r,hr=>by
  simp only[runN]at hr|-;split at hr
  .rename_i h1;rw[(Zra h).1 _ h1];exact Zms h n hr
  .rename_i h1;subst hr;rw[(Zra h).2 _ h1]
theorem Z2A{X:Xe}{tbl:Nat->Option MFun}:∀n,LeE (WT X tbl n) (WT X tbl (n+1))
 |0=>λ_ _ _ _ h=>by cases h
 |n+1=>λf as h0 r h=>by
  simp only[WT]at h;rw[WT]
  cases hm:tbl f with
  |none=>simp only[hm]at h|-;exact h
  |some m =>
   simp only[hm]at h|-;split at h
   .rename_i hl;rw[Ya hl];exact Zmr _ (Zms (Z2A n) n h) (Nat.le_succ n)
   .cases h
theorem ZhX{X:Xe}{tbl:Nat->Option MFun}{n m:Nat}(h:n<=m):LeE (WT X tbl n) (WT X tbl m):=by
 induction h with
 |refl=>exact λ_ _ _ _ h=>h
 |step _ ih=>exact λf as h0 r h=>Z2A _ f as h0 r (ih f as h0 r h)
theorem ZEZ{X:Xe}{tbl:Nat->Option MFun}{f:Nat}{as:V2}{h0:V7}(n m:Nat)(r r':V3)(h:WT X tbl n f as h0=some r)(h':WT X tbl m f as h0=some r'):r=r':=by
 have h1:=ZhX (Nat.le_max_left n m) f as h0 r h;have h2:=ZhX (Nat.le_max_right n m) f as h0 r' h'
 simp_all
noncomputable def XJ(X:Xe)(tbl:Nat->Option MFun):Xe:=λf as h0=>lim λn=>WT X tbl n f as h0
theorem Z2B{X:Xe}{tbl:Nat->Option MFun}(n:Nat):LeE (WT X tbl n) (XJ X tbl):=λ_ _ _ _ h=>lim_eq (λn m r r' h h'=>ZEZ n m r r' h h') h
theorem ZhY{X:Xe}{tbl:Nat->Option MFun}{f:Nat}{as:V2}{h0:V7}(ht:tbl f=none){r:V3}(h:X f as h0=some r):XJ X tbl f as h0=some r:=Z2B 1 f as h0 r (by simp only[WT,ht];exact h)
theorem Z2C{X:Xe}{tbl:Nat->Option MFun}{k:MOp}{s:S}{p:AV×List (Nat×Blk)}(hr:runV (XJ X tbl) k s=some p):∃n,runV (WT X tbl n) k s=some p:=by
 have m:∀p f vs ids,KA (XJ X tbl) f vs s.h s.h.length ids=some p->∃n,KA (WT X tbl n) f vs s.h s.h.length ids=some p:=by
  intro p f vs ids hr;unfold KA at hr|-;split at hr
  .rename_i hc
   cases hx:XJ X tbl f (subA ids vs) (subH s.h ids)with
   |none=>rw[hx]at hr;cases hr
   |some q =>
    obtain⟨n,hn⟩:=ZeA hx
    grind
  .cases hr
 cases k<;>first|exact⟨0,hr⟩|skip
 .rename_i f args;simp only[runV]at hr|-
  cases hf:frzs s.h (args.map (ev s.env))with
  |none=>rw[hf]at hr;cases hr
  |some as =>
   rw[hf]at hr;simp only[callA]at hr|-
   cases hx:XJ X tbl f as []with
   |none=>rw[hx]at hr;cases hr
   |some q =>
    obtain⟨n,hn⟩:=ZeA hx
    grind
 .rename_i f args;simp only[runV]at hr|-
  cases hf:frzs s.h (args.map (ev s.env))with
  |none=>rw[hf]at hr;cases hr
  |some as =>
   rw[hf]at hr;simp only[Ze7]at hr|-;split at hr
   .rename_i hno;simp only[Ya hno]
    cases hx:XJ X tbl f as []with
    |none=>rw[hx]at hr;cases hr
    |some q =>
     obtain⟨n,hn⟩:=ZeA hx
     grind
   .cases hr
 .exact m _ _ _ _ hr
 .rename_i f args;simp only[runV,Ze8]at hr|-;split at hr
  .rename_i hc
   cases hx:XJ X tbl f (subA (Xj s.h (args.map (ev s.env))) (args.map (ev s.env))) (subH s.h (Xj s.h (args.map (ev s.env))))with
   |none=>rw[hx]at hr;cases hr
   |some q =>
    obtain⟨n,hn⟩:=ZeA hx
    grind
  .cases hr
 .rename_i x args;simp only[runV]at hr|-;unfold Ze9 at hr|-;split at hr
  .exact m _ _ _ _ hr
  .cases hr
theorem Z2D{X:Xe}{tbl:Nat->Option MFun}{o:MO}{s s':S}(hr:runE (XJ X tbl) o s=some s'):∃n,runE (WT X tbl n) o s=some s':=by
 unfold runE at hr|-
 cases hx:runV (XJ X tbl) o.op s with
 |none=>rw[hx]at hr;cases hr
 |some p =>
  grind [Z2C]
theorem Z2E{X:Xe}{tbl:Nat->Option MFun}{o:MO}{s:S}{s':Foot×S}(hr:runF (XJ X tbl) o s=some s'):∃n,runF (WT X tbl n) o s=some s':=by
 unfold runF at hr|-
 cases hx:runV (XJ X tbl) o.op s with
 |none=>rw[hx]at hr;cases hr
 |some p =>
  grind [Z2C]
theorem opE_fin{X:Xe}{tbl:Nat->Option MFun}{o:MO}{s s':S}(hr:opE (XJ X tbl) o s=some s'):∃n,opE (WT X tbl n) o s=some s':=by
 unfold opE at hr|-
 cases hg:o.guard with
 |none=>simp only[hg]at hr|-;exact Z2D hr
 |some p =>
  obtain⟨g,want⟩:=p;simp only[hg]at hr|-;unfold ZhV at hr|-;split at hr
  .split at hr
   .simp_all [Z2D]
   .simp_all
  .exact⟨0,hr⟩
  .cases hr
theorem opF_fin{X:Xe}{tbl:Nat->Option MFun}{o:MO}{s:S}{s':Foot×S}(hr:opF (XJ X tbl) o s=some s'):∃n,opF (WT X tbl n) o s=some s':=by
 unfold opF at hr|-
 cases hg:o.guard with
 |none=>simp only[hg]at hr|-;exact Z2E hr
 |some p =>
  obtain⟨g,want⟩:=p;simp only[hg]at hr|-;unfold ZhW at hr|-;split at hr
  .split at hr
   .simp_all [Z2E]
   .simp_all
  .exact⟨0,hr⟩
  .cases hr
theorem Z2F{X:Xe}{tbl:Nat->Option MFun}{ks:List Fr}{cf:Cf}{s:S}{c:Step}(hc:c≠.inr none)(h:step (XJ X tbl) ks cf s=c):∃n,step (WT X tbl n) ks cf s=c:=by
 have key:(∃o os keep,cf=.ops (o::os) keep)\/(∃o os feet before keep,cf=.drw (o::os) feet before keep)\/step (WT X tbl 0) ks cf s=step (XJ X tbl) ks cf s:=by
  cases cf with
  |code c=>cases c<;>exact .inr (.inr rfl)
  |ops os keep =>
   cases os with
   |nil=>exact .inr (.inr rfl)
   |cons o os=>exact .inl ⟨o,os,keep,rfl⟩
  |drw os feet before keep =>
   cases os with
   |nil=>exact .inr (.inr rfl)
   |cons o os=>exact .inr (.inl ⟨o,os,feet,before,keep,rfl⟩)
  |out x =>
   refine .inr (.inr ?_)
   cases ks with
   |nil=>rfl
   |cons k ks=>cases k<;>cases x<;>rfl
 rcases key with⟨o,os,keep,rfl⟩|⟨o,os,feet,before,keep,rfl⟩|he
 .simp only[step]at h|-
  cases hx:opE (XJ X tbl) o s with
  |none=>rw[hx]at h;exact absurd h.symm hc
  |some s' =>
   grind [opE_fin]
 .simp only[step]at h|-
  cases hx:opF (XJ X tbl) o s with
  |none=>rw[hx]at h;exact absurd h.symm hc
  |some s' =>
   grind [opF_fin]
 .grind
theorem Z2G{X:Xe}{tbl:Nat->Option MFun}:∀(n:Nat) {ks:List Fr} {cf:Cf} {s:S} {r:V3},runN (XJ X tbl) n ks cf s=some r->∃k,runN (WT X tbl k) n ks cf s=some r
 |0,_,_,_,_,h=>by cases h
 |n+1,ks,cf,s,r,h=>by
  simp only[runN]at h;split at h
  .rename_i ks' cf' s' h1;obtain⟨k,hk⟩:=Z2F (by intro hc;cases hc) h1;obtain⟨k2,hk2⟩:=Z2G n h;refine⟨max k k2,?_⟩;simp only[runN];rw[(Zra (ZhX (Nat.le_max_left k k2))).1 _ hk];exact Zms (ZhX (Nat.le_max_right k k2)) n hk2
  .rename_i h1;subst h;obtain⟨k,hk⟩:=Z2F (by intro hc;cases hc) h1;exact⟨k,by simp only[runN,hk]⟩
theorem ZhZ{X:Xe}{tbl:Nat->Option MFun}{f:Nat}{as:V2}{h0:V7}{m:MFun}(ht:tbl f=some m)(hl:as.length=m.np){r:V3}(h:Ev (XJ X tbl) [.fin h0.length m.res] m.body ⟨K6 as 0,[QY h0 0],h0⟩=some r):XJ X tbl f as h0=some r:=by
 obtain⟨n,hn⟩:=Z25 h;obtain⟨k,hk⟩:=Z2G n hn;refine Z2B (max n k+1) f as h0 r ?_;simp only[WT,ht,hl,if_true];exact Zmr n (Zms (ZhX (Nat.le_max_right n k)) n hk) (Nat.le_max_left n k)
theorem ZFa{p:Nat->Prop}(h:∃n,p n):∃n,p n/\∀m,p m->n<=m:=by
 obtain⟨n,hn⟩:=h
 induction n using Nat.strongRecOn with
 |ind n ih =>
  grind
section
variable{Γ:Ctr}{C:Xe}{s s':S}{o:MO}{K K':S->Prop}{f nx:Nat}{h:V7}{v:AV}{u:List (Nat×Blk)}{args vs:V2}{r:V3}
def Qf(C:Xe)(r:V3)(m:Nat)(ks:List Fr):X->S->Prop:=λx s=>∃k,k<m/\runN C k ks (.out x) s=some r
theorem Z2H(hK:∀s,K s->K' s)(h:runW Γ o s K):runW Γ o s K':=by
 unfold runW at h|-;split at h
 .grind
 .grind
 .obtain⟨h1,r,h2,h3,h4⟩:=h;exact⟨h1,r,h2,h3,hK _ h4⟩
 .obtain⟨h1,r,h2,h3,h4⟩:=h;exact⟨h1,r,h2,h3,hK _ h4⟩
 .split at h
  .obtain⟨h1,r,h2,h3,h4⟩:=h;exact⟨h1,r,h2,h3,hK _ h4⟩
  .exact h.elim
 .grind
theorem opW_mono(hK:∀s,K s->K' s)(h:opW Γ o s K):opW Γ o s K':=by
 unfold opW at h|-;split at h
 .exact Z2H hK h
 .grind [Z2H]
theorem Zmt:∀(os:List MO) {s:S} {K K':S->Prop},(∀s,K s->K' s)->regW Γ os s K->regW Γ os s K'
 |[],_,_,_,hK,h=>hK _ h
 |_::os,_,_,_,hK,h=>opW_mono (λ_ h'=>Zmt os hK h') h
theorem Z2I{K K':Foot->S->Prop}(hK:∀f s,K f s->K' f s)(h:Qi Γ o s K):Qi Γ o s K':=by
 unfold Qi at h|-;split at h
 .grind
 .grind
 .obtain⟨h1,r,h2,h3,h4⟩:=h;exact⟨h1,r,h2,h3,hK _ _ h4⟩
 .obtain⟨h1,r,h2,h3,h4⟩:=h;exact⟨h1,r,h2,h3,hK _ _ h4⟩
 .split at h
  .obtain⟨h1,r,h2,h3,h4⟩:=h;exact⟨h1,r,h2,h3,hK _ _ h4⟩
  .exact h.elim
 .grind
theorem ZFb{K K':Foot->S->Prop}(hK:∀f s,K f s->K' f s)(h:drwG Γ o s K):drwG Γ o s K':=by
 unfold drwG at h|-;split at h
 .exact Z2I hK h
 .grind [Z2I]
theorem Zmu:∀(os:List MO) {s:S} {feet:List Foot} {K K':List Foot->S->Prop},(∀f s,K f s->K' f s)->drwW Γ os s feet K->drwW Γ os s feet K'
 |[],_,_,_,_,hK,h=>hK _ _ h
 |_::os,_,_,_,_,hK,h=>ZFb (λ_ _ h'=>Zmu os hK h') h
theorem QC:∀(c:Zc) {s:S} {Q Q':X->S->Prop},(∀x s,Q x s->Q' x s)->Wc Γ c Q s->Wc Γ c Q' s
 |.skip,_,_,_,hQ,h=>hQ _ _ h
 |.reg os _,_,_,_,hQ,h=>Zmt os (λ_ h'=>hQ _ _ h') h
 |.drw os _ _,_,_,_,hQ,h=>Zmu os (λ_ _ h'=>⟨h'.1,hQ _ _ h'.2⟩) h
 |.seq a b,_,_,_,hQ,h=>QC a (λx s' h'=>by cases x with|n=>exact QC b hQ h'|x i=>exact hQ _ _ h'|r=>exact hQ _ _ h') h
 |.cond c x y,s,_,_,hQ,h=>by
  unfold Wc at h|-;split at h
  .split at h
   .rename_i hb;simp only[hb,if_true];exact QC x hQ h
   .rename_i hb;simp only[hb];exact QC y hQ h
  .exact h.elim
 |.block id b,_,_,_,hQ,h=>QC b (λx s' h'=>by
   cases x with
   |n=>exact hQ _ _ h'
   |x i=>simp only at h'|-;split at h'<;>rename_i hi<;>simp only[hi,if_true,if_false]<;>exact hQ _ _ h'
   |r=>exact hQ _ _ h') h
 |.loop keep b,_,_,_,hQ,h=>by
  obtain⟨I,μ,h0,hr⟩:=h;refine⟨I,μ,h0,λs hs=>QC b (λx s' h'=>?_) (hr s hs)⟩
  cases x with
  |n=>exact h'
  |x i=>exact hQ _ _ h'
  |r=>exact hQ _ _ h'
 |.exit _,_,_,_,hQ,h=>hQ _ _ h
 |.ret,_,_,_,hQ,h=>hQ _ _ h
theorem Z2J(hC:∀f as h0 r hr,C f as h0=some (r,hr)->Γ f as h0 r hr)(hr:callA C f args nx (frzs h args)=some (v,u)) :
  ∃as,frzs h args=some as/\∃r hr,Γ f as [] r hr/\(UL args || frR r hr)=true/\v=shift nx r/\u=newU nx hr 0:=by
 cases hf:frzs h args with
 |none=>rw[hf]at hr;cases hr
 |some as =>
  rw[hf]at hr;simp only[callA]at hr
  cases hc:C f as []with
  |none=>rw[hc]at hr;cases hr
  |some p =>
   obtain⟨r,hr'⟩:=p;rw[hc]at hr;simp only[callB]at hr
   grind
theorem Zmv(hC:∀f as h0 r hr,C f as h0=some (r,hr)->Γ f as h0 r hr)(hr:KA C f vs h nx (Xj h vs)=some (v,u)){K:AV->List (Nat×Blk)->Prop}(hK:K v u):Qh Γ f vs h nx K:=by
 unfold KA at hr;split at hr
 .rename_i hc
  cases hx:C f (subA (Xj h vs) vs) (subH h (Xj h vs))with
  |none=>rw[hx]at hr;cases hr
  |some p =>
   obtain⟨r,h1⟩:=p;rw[hx]at hr;cases hr;exact⟨hc,r,h1,hC _ _ _ _ _ hx,hK⟩
 .cases hr
theorem Z2K(hC:∀f as h0 r hr,C f as h0=some (r,hr)->Γ f as h0 r hr)(hr:Ze8 C f vs h nx (Xj h vs)=some (v,u)){K:AV->List (Nat×Blk)->Prop}(hK:K v u):Jv Γ f vs h nx K:=by
 unfold Ze8 at hr;split at hr
 .rename_i hc
  cases hx:C f (subA (Xj h vs) vs) (subH h (Xj h vs))with
  |none=>rw[hx]at hr;cases hr
  |some p =>
   obtain⟨r,h1⟩:=p;rw[hx]at hr;simp only[pcallB]at hr;split at hr
   .rename_i ht;cases hr;refine⟨hc,r,h1.drop (Xj h vs).length,?_,hK⟩
    grind [List.take_append_drop]
   .cases hr
 .cases hr
theorem Z2L(hC:∀f as h0 r hr,C f as h0=some (r,hr)->Γ f as h0 r hr)(hr:Ze7 C f args (frzs h args)=some (v,u)) :
  ∃as,frzs h args=some as/\UL args=true/\∃r hr,Γ f as [] r hr/\frzR hr r=some v/\u=[]:=by
 cases hf:frzs h args with
 |none=>rw[hf]at hr;cases hr
 |some as =>
  rw[hf]at hr;simp only[Ze7]at hr;split at hr
  .rename_i hno
   cases hc:C f as []with
   |none=>rw[hc]at hr;cases hr
   |some p =>
    obtain⟨r,hr'⟩:=p;rw[hc]at hr;simp only[fcallB]at hr
    grind
  .cases hr
theorem Z2M(hC:∀f as h0 r hr,C f as h0=some (r,hr)->Γ f as h0 r hr)(h:runE C o s=some s')(hK:K s'):runW Γ o s K:=by
 unfold runE at h
 cases hv:runV C o.op s with
 |none=>rw[hv]at h;cases h
 |some p =>
  obtain⟨v,u⟩:=p;rw[hv]at h;cases h;unfold runW;cases ho:o.op<;>simp only[ho,runV]at hv|-<;>try (rw[hv];exact hK)
  .obtain⟨as,h1,r,hr,h2,h3,rfl,rfl⟩:=Z2J hC hv
   grind
  .obtain⟨as,h1,hno,r,hr,h2,h3,rfl⟩:=Z2L hC hv
   grind
  .exact Zmv hC hv hK
  .exact Z2K hC hv hK
  .unfold Ze9 at hv
   grind [Zmv]
theorem opE_opW(hC:∀f as h0 r hr,C f as h0=some (r,hr)->Γ f as h0 r hr)(h:opE C o s=some s')(hK:K s'):opW Γ o s K:=by
 unfold opE at h;unfold opW
 cases hg:o.guard with
 |none=>simp only[hg]at h|-;exact Z2M hC h hK
 |some p =>
  obtain⟨g,want⟩:=p;simp only[hg]at h|-;unfold ZhV at h;split at h
  .rename_i b hb;rw[hb];simp only;split at h
   .grind [Z2M]
   .rename_i hb;rw[Yb hb];cases h;exact hK
  .rename_i hb;rw[hb];cases h;exact hK
  .cases h
theorem Z2N(hC:∀f as h0 r hr,C f as h0=some (r,hr)->Γ f as h0 r hr){f:Foot}(h:runF C o s=some (f,s')){K:Foot->S->Prop}(hK:K f s'):Qi Γ o s K:=by
 unfold runF at h
 cases hv:runV C o.op s with
 |none=>rw[hv]at h;cases h
 |some p =>
  obtain⟨v,u⟩:=p;rw[hv]at h;cases h;unfold Qi;cases ho:o.op<;>simp only[ho,runV]at hv|-<;>try (rw[hv];exact hK)
  .obtain⟨as,h1,r,hr,h2,h3,rfl,rfl⟩:=Z2J hC hv
   grind
  .obtain⟨as,h1,hno,r,hr,h2,h3,rfl⟩:=Z2L hC hv
   grind
  .exact Zmv hC hv hK
  .exact Z2K hC hv hK
  .unfold Ze9 at hv
   grind [Zmv]
theorem opF_drwG(hC:∀f as h0 r hr,C f as h0=some (r,hr)->Γ f as h0 r hr){f:Foot}(h:opF C o s=some (f,s')){K:Foot->S->Prop}(hK:K f s'):drwG Γ o s K:=by
 unfold opF at h;unfold drwG
 cases hg:o.guard with
 |none=>simp only[hg]at h|-;exact Z2N hC h hK
 |some p =>
  obtain⟨g,want⟩:=p;simp only[hg]at h|-;unfold ZhW at h;split at h
  .rename_i b hb;rw[hb];simp only;split at h
   .grind [Z2N]
   .rename_i hb;rw[Yb hb];cases h;exact hK
  .rename_i hb;rw[hb];cases h;exact hK
  .cases h
theorem Z2O(hC:∀f as h0 r hr,C f as h0=some (r,hr)->Γ f as h0 r hr){r:V3}{keep:V8}{ks:List Fr}:∀(os:List MO) (m:Nat) (s:S),runN C m ks (.ops os keep) s=some r->
  regW Γ os s λs'=>Qf C r m ks .n { s' with env:=rst keep s'.env }
 |_,0,_,h=>by cases h
 |[],m+1,s,h=>⟨m,Yb7 m,h⟩
 |o::os,m+1,s,h=>by
  simp only[runN,step]at h
  cases ho:opE C o s with
  |none=>simp only[ho,stepO]at h;cases h
  |some s' =>
   simp only[ho,stepO]at h;exact opE_opW hC ho (Zmt os (λs ⟨k,h1,h2⟩=>⟨k,by omega,h2⟩) (Z2O hC os m s' h))
theorem Z2P(hC:∀f as h0 r hr,C f as h0=some (r,hr)->Γ f as h0 r hr){r:V3}{before:List (V8)}{keep:V8}{ks:List Fr}:∀(os:List MO) (feet:List Foot) (m:Nat) (s:S),runN C m ks (.drw os feet before keep) s=some r->
  drwW Γ os s feet λfeet s'=>Zbe before feet=true/\Qf C r m ks .n { s' with env:=rst keep s'.env }
 |_,_,0,_,h=>by cases h
 |[],feet,m+1,s,h=>by
  simp only[runN,step]at h;split at h
  .rename_i h1;split at h1
   .rename_i ho;cases h1;exact⟨ho,m,Yb7 m,h⟩
   .cases h1
  .grind
 |o::os,feet,m+1,s,h=>by
  simp only[runN,step]at h
  cases ho:opF C o s with
  |none=>simp only[ho,stepD]at h;cases h
  |some p =>
   obtain⟨f,s'⟩:=p;simp only[ho,stepD]at h;exact opF_drwG hC ho (Zmu os (λ_ s ⟨h0,k,h1,h2⟩=>⟨h0,k,by omega,h2⟩) (Z2P hC os _ m s' h))
theorem ZeC{m:Nat}{ks:List Fr}{cf:Cf}(h:runN C m ks cf s=some r):∃k,m=k+1:=by
 cases m with
 |zero=>cases h
 |succ k=>exact⟨k,rfl⟩
open Classical in
theorem runN_W(hC:∀f as h0 r hr,C f as h0=some (r,hr)->Γ f as h0 r hr)(m:Nat):∀(c:Zc) (ks:List Fr) (s:S),runN C m ks (.code c) s=some r->Wc Γ c (Qf C r m ks) s:=by
 induction m using Nat.strongRecOn with
 |ind m ih =>
  intro c ks s h;obtain⟨m,rfl⟩:=ZeC h
  cases c with
  |skip=>exact⟨m,Yb7 m,h⟩
  |reg os keep=>exact Zmt os (λs ⟨k,h1,h2⟩=>⟨k,by omega,h2⟩) (Z2O hC os m s h)
  |drw os before keep=>exact Zmu os (λ_ s ⟨h0,k,h1,h2⟩=>⟨h0,k,by omega,h2⟩) (Z2P hC os [] m s h)
  |seq a b =>
   refine QC a (λx s' hq=>?_) (ih m (Yb7 m) a (.seq b::ks) s h);obtain⟨k,hk,h2⟩:=hq;obtain⟨k,rfl⟩:=ZeC h2
   cases x with
   |n=>exact QC b (λx s ⟨j,h3,h4⟩=>⟨j,by omega,h4⟩) (ih k (by omega) b ks s' h2)
   |x i=>exact⟨k,by omega,h2⟩
   |r=>exact⟨k,by omega,h2⟩
  |cond c x y =>
   simp only[runN,step]at h;unfold Wc;unfold stepC at h
   cases hv:ev s.env c with
   |t v =>
    simp only[hv]at h
    cases v with
    |bool b =>
     simp only at h|-;cases b
     .exact QC y (λx s ⟨j,h3,h4⟩=>⟨j,by omega,h4⟩) (ih m (Yb7 m) y ks s h)
     .exact QC x (λx s ⟨j,h3,h4⟩=>⟨j,by omega,h4⟩) (ih m (Yb7 m) x ks s h)
    |_=>cases h
   |_=>simp only[hv]at h;cases h
  |block id b =>
   refine QC b (λx s' hq=>?_) (ih m (Yb7 m) b (.blk id::ks) s h);obtain⟨k,hk,h2⟩:=hq;obtain⟨k,rfl⟩:=ZeC h2
   cases x with
   |n=>exact⟨k,by omega,h2⟩
   |x i =>
    simp only[runN,step]at h2;simp only;by_cases hi:i=id
    .simp only[hi,if_true]at h2|-;exact⟨k,by omega,h2⟩
    .simp only[hi,if_false]at h2|-
     exact⟨k,by omega,h2⟩
   |r=>exact⟨k,by omega,h2⟩
  |loop keep b =>
   let p:S->Nat->Prop:=λt k=>k<=m/\runN C k (.loop keep b::ks) (.code b) t=some r
   let μ:S->Nat:=λt=>if hx:∃k,p t k then(ZFa hx).choose else 0
   have hμ:∀t,(∃k,p t k)->p t (μ t)/\∀k,p t k->μ t<=k:=by
    intro t hx
    grind
   refine⟨λt=>∃k,p t k,μ,⟨m,Yj m,h⟩,?_⟩;intro t ht;obtain⟨⟨h1,h2⟩,h3⟩:=hμ t ht;refine QC b (λx s' hq=>?_) (ih (μ t) (by omega) b _ t h2);obtain⟨k,hk,h4⟩:=hq;obtain⟨k,rfl⟩:=ZeC h4
   cases x with
   |n =>
    have h5:runN C k ks (.code (.loop keep b)) s'=some r:=h4;obtain⟨k,rfl⟩:=ZeC h5;have h6:p (Q9 keep s') k:=⟨by omega,h5⟩
    grind
   |x i=>exact⟨k,by omega,h4⟩
   |r=>exact⟨k,by omega,h4⟩
  |exit id=>exact⟨m,Yb7 m,h⟩
  |ret=>exact⟨m,Yb7 m,h⟩
end
theorem Z2Q{P:Program}{X:Xe}{tbl:Nat->Option MFun}(hT:TblOK P tbl)(hX:∀f as h0 r hr,X f as h0=some (r,hr)->Wr P f as h0 r hr):∀(n f:Nat) (as:V2) (h0:V7) (r:AV) (hr:V7),WT X tbl n f as h0=some (r,hr)->Wr P f as h0 r hr
 |0,_,_,_,_,_,h=>by cases h
 |n+1,f,as,h0,r,hr,h=>by
  simp only[WT]at h
  cases hm:tbl f with
  |none=>simp only[hm]at h;exact hX f as h0 r hr h
  |some m =>
   simp only[hm]at h;split at h
   .rename_i hl;obtain⟨fn,ks,inl,h1,h2,h3⟩:=hT f m hm;have hW:=runN_W (Γ:=Wr P) (Z2Q hT hX n) n m.body _ _ h;refine sound_of h1 h3 h2 ⟨hl,?_⟩;refine QC m.body (λx s hq=>?_) hW;obtain⟨k,hk,h4⟩:=hq;obtain⟨k,rfl⟩:=ZeC h4;have fin:finE h0.length m.res s=some (r,hr)->∀x,(∀i,x≠.x i)->bodyQ m.res (λv s=>ZlZ m.res h0.length v s=some (r,hr)) x s:=by
     intro hf x hx;unfold finE at hf
     cases x with
     |x i=>exact absurd rfl (hx i)
     |n =>
      simp only[bodyQ]
      grind
     |r =>
      simp only[bodyQ]
      grind
    cases x with
    |n=>exact fin h4 _ (λi hc=>by cases hc)
    |r=>exact fin h4 _ (λi hc=>by cases hc)
    |x i=>simp only[runN,step]at h4;cases h4
   .cases h
theorem ZFc{P:Program}{X:Xe}{tbl:Nat->Option MFun}(hT:TblOK P tbl)(hX:∀f as h0 r hr,X f as h0=some (r,hr)->Wr P f as h0 r hr){f:Nat}{as:V2}{h0:V7}{r:AV}{hr:V7}(h:XJ X tbl f as h0=some (r,hr)):Wr P f as h0 r hr:=by
 obtain⟨n,hn⟩:=ZeA h
 grind [Z2Q]
def ins(x:Nat):V8->V8
 |[]=>[x]
 |y::ys=>if x<y then x::y::ys else if x=y then y::ys else y::ins x ys
def union(a b:V8):V8:=b.foldl (λacc x=>ins x acc) a
def opdSl:Operand->V8
 |.tmp t=>[t]
 |_=>[]
def opUses(o:Op):V8:=o.operands.toList.flatMap opdSl
def regIn(ops:List Oper)(out:V8):V8 :=
 ops.reverse.foldl (λlive o=>union (match o.dst with|some d=>live.filter (· != d)|none=>live) (opUses o.op)) out
def guardSl(ops:Array Oper):V8:=ops.toList.flatMap λo=>match o.guard with
 |some (j,_)=>(match ops[j]? with|some p=>p.dst.toList|none=>[])
 |none=>[]
def fixL(f:V8->V8×List (V8)):Nat->V8->V8×List (V8)
 |0,L=>(L,L::(f L).2)
 |n+1,L=>match f L with
  |(l,k)=>if l.all (L.contains ·)then(L,L::k)else fixL f n (union L l)
def live(ret:V8)(exits:List (Nat×V8)):Code->V8->V8×List (V8)
 |.region _ ops _,out =>
  let defs:=ops.toList.flatMap λo=>o.dst.toList
  (union (regIn ops.toList out) ((guardSl ops).filter (λg=>!defs.contains g)),[out])
 |.seq a b,out=>match live ret exits b out with
  |(lb,kb)=>match live ret exits a lb with
   |(la,ka)=>(la,ka++kb)
 |.cond c a b,out=>match live ret exits a out,live ret exits b out with
  |(la,ka),(lb,kb)=>(union (union la lb) (opdSl c),ka++kb)
 |.block id b,out=>live ret ((id,out)::exits) b out
 |.loop b,_=>fixL (live ret exits b) 12 []
 |.exit id,_=>((exits.lookup id).getD [],[])
 |.ret,_=>(ret,[])
 |_,out=>(out,[])
def Zmw(fn:Func):List (V8):=match fn.body with
 |some c =>
  let rs:=fn.results.toList.foldl (λacc r=>ins (match r with|.tmp t=>t|.cell a _=>a) acc) []
  (live rs [] c rs).2
 |none=>[]
def inlOf(inl:V8)(f:Nat):V8:=(if inl.contains (f+10000000)then[9999994]else[])++(if inl.contains (f+11000000)then[9999993]else[])++(if inl.contains (f+12000000)then[9999992]else[])++(if inl.contains (f+9000000)then[9999995]else[])++(if inl.contains (f+8000000)then[9999996]else[])++(if inl.contains (f+6000000)then[9999997]else[])++(if inl.contains (f+5000000)then[9999998]else[])++(if inl.contains (f+4000000)then 9999999::inl else inl)
def tblOf(P:Program)(inl:V8)(f:Nat):Option MFun:=match P.funcs[f]? with
 |some fn=>if K7 P f=true then JX P (inlOf inl f) (Zmw fn) fn else none
 |none=>none
theorem tblOK(P:Program)(inl:V8):TblOK P (tblOf P inl):=by
 intro f m h;unfold tblOf at h
 grind
theorem tblOf_eq{P:Program}{inl:V8}{f:Nat}{fn:Func}{m:MFun}(hf:P.funcs[f]?=some fn)(hc:K7 P f=true)(h:JX P (inlOf inl f) (Zmw fn) fn=some m):tblOf P inl f=some m:=by
 unfold tblOf
 simp_all
def fill{α:Type}(f:α->KS)(z:KS)(xs:List α)(i:Nat):V5:=(xs.take i).map f++List.replicate (xs.length-i) z
section
variable{α:Type}{f:α->KS}{z:KS}{xs:List α}{i:Nat}
theorem Z2R:fill f z xs 0=List.replicate xs.length z:=by simp[fill]
theorem Z2S:fill f z xs xs.length=xs.map f:=by simp[fill]
theorem Z2T(h:i<=xs.length):(fill f z xs i).length=xs.length:=by
 simp[fill];omega
theorem fill_get(h:i<xs.length):(fill f z xs i)[i]?=some z:=by
 unfold fill
 grind
@[simp] theorem fill_at(h:i<(fill f z xs i).length):(fill f z xs i)[i]=z:=by
 have h1:i<xs.length:=by
  unfold fill at h;simp at h;omega
 have h2:=fill_get (f:=f) (z:=z) h1
 simp_all
theorem Z2U(h:i<xs.length):(fill f z xs i).set i (f xs[i])=fill f z xs (i+1):=by
 unfold fill;have e:xs.length-i=(xs.length-(i+1))+1:=by omega
 rw[e,Ycv,List.set_append_right _ _ (by simp;omega)];have e2:i-(List.map f (List.take i xs)).length=0:=by simp;omega
 rw[e2,List.set_cons_zero,List.take_add_one,Yf h]
 grind
end
theorem ZL{n:Int}(h1:-9223372036854775808<=n)(h2:n<=9223372036854775807):IntKind.wrap .i64 n=n:=by
 simp only[IntKind.wrap,IntKind.signed,IntKind.bits,Yn]
 grind
attribute [simp]                fzH sbV sbVs sbB sbE Ev_skip Ev_reg Ev_drw Ev_seq Ev_cond Ev_block Ev_exit Ev_ret EvO_nil EvO_cons EvS_some EvD_nil' EvD_cons EvF_some EvC_bool ZEN ZEO ZEP ZEQ ZER ZES ZET ZEU
 ZEW Z26 ZEX ZEY
attribute [simp]   Ze7 fcallB frzR givA         opE runE runV runD ZhV skipE callA callB mcallB KA pcallB Ze8 Ze9 opF runF runFD ZhW finE Xj subH subA bk W1 QY XA Zbd resAV UM JW ZK ev lk put upd stB cellsOf setCells setT toT toTs kill UJ unT   VR Uj natOf parts elems Ju Zbc Q7
 Q8 bnd frzT Ux frz1 JV frz frzs ren rens renB refs ZS VB rst scrub Zcp XW idx K5 renE Qg Q9 shift newU QW UK frB frR UL ZlY ZlZ ownR Qj own1 dat1 UN QA  K6 XN flat VT rbOf Jw Xa ZlX
@[simp] theorem wk_nil(xs:KS):wk [] xs=xs:=by unfold wk;rfl
@[simp] theorem wk_nil'(cs:KS):wk cs []=[]:=by cases cs<;>(unfold wk;rfl)
@[simp] theorem wk_cons(c x:T)(cs xs:KS):wk (c::cs) (x::xs)=wk1 c x::wk cs xs:=by conv=>lhs;unfold wk
@[simp] theorem wk1_int(k:IntKind)(n:Int)(c:T):wk1 c (.int k n)=.int k n:=by cases c<;>rfl
@[simp] theorem wk1_bool(b:Bool)(c:T):wk1 c (.bool b)=.bool b:=by cases c<;>rfl
@[simp] theorem wk1_str(b:YA)(c:T):wk1 c (.str b)=.str b:=by cases c<;>rfl
@[simp] theorem wk1_lst(s:Nat)(es:V5)(c:T):wk1 c (.lst s es)=.lst s es:=by cases c<;>rfl
@[simp] theorem wk1_nil(s:Nat)(es:V5):wk1 (.lst s es) .nil=.lst s []:=rfl
@[simp] theorem wkA_nil(xs:KS):wkA [] xs=xs.map .t:=by cases xs<;>rfl
@[simp] theorem wkA_t(c x:T)(cs:V2)(xs:KS):wkA (.t c::cs) (x::xs)=.t (wk1 c x)::wkA cs xs:=by conv=>lhs;unfold wkA
@[simp] theorem wkA_own(b:Nat)(x:T)(cs:V2)(xs:KS):wkA (.own b::cs) (x::xs)=.t x::wkA cs xs:=by conv=>lhs;unfold wkA
@[simp] theorem wkA_nil'(cs:V2):wkA cs []=[]:=by cases cs with|nil=>rfl|cons c cs=>cases c<;>rfl
def orI(a b:Int):Int:=IntKind.wrap .i64 ((BitVec.ofInt 64 a ||| BitVec.ofInt 64 b).toNat)
def andI(a b:Int):Int:=IntKind.wrap .i64 ((BitVec.ofInt 64 a &&& BitVec.ofInt 64 b).toNat)
def xorI(a b:Int):Int:=IntKind.wrap .i64 ((BitVec.ofInt 64 a ^^^ BitVec.ofInt 64 b).toNat)
def J4(a b:Int):Int:=IntKind.wrap .i64 ((BitVec.ofInt 64 a &&& ~~~ BitVec.ofInt 64 b).toNat)
def shlI(a b:Int):Int:=IntKind.wrap .i64 (a*2 ^ (min b.toNat 64))
def shrI(a b:Int):Int:=a.fdiv (2 ^ (min b.toNat 64))
@[simp] theorem bin_or(a b:Int):binT .or (.int .i64 a) (.int .i64 b)=some (.int .i64 (orI a b)):=by unfold binT;exact Ya rfl
@[simp] theorem bin_and(a b:Int):binT .and (.int .i64 a) (.int .i64 b)=some (.int .i64 (andI a b)):=by unfold binT;exact Ya rfl
@[simp] theorem bin_xor(a b:Int):binT .xor (.int .i64 a) (.int .i64 b)=some (.int .i64 (xorI a b)):=by unfold binT;exact Ya rfl
@[simp] theorem bin_andNot(a b:Int):binT .andNot (.int .i64 a) (.int .i64 b)=some (.int .i64 (J4 a b)):=by unfold binT;exact Ya rfl
@[simp] theorem bin_shl(a b:Int)(k:IntKind):binT .shl (.int .i64 a) (.int k b)=if b<0 then none else some (.int .i64 (shlI a b)):=by simp[binT,shlI,IntKind.bits]
@[simp] theorem bin_shr(a b:Int)(k:IntKind):binT .shr (.int .i64 a) (.int k b)=if b<0 then none else some (.int .i64 (shrI a b)):=by simp[binT,shrI,IntKind.bits]
@[simp] theorem bin_add(k:IntKind)(a b:Int):binT .add (.int k a) (.int k b)=some (.int k (k.wrap (a+b))):=by simp[binT]
@[simp] theorem bin_sub(k:IntKind)(a b:Int):binT .sub (.int k a) (.int k b)=some (.int k (k.wrap (a-b))):=by simp[binT]
@[simp] theorem bin_mul(k:IntKind)(a b:Int):binT .mul (.int k a) (.int k b)=some (.int k (k.wrap (a*b))):=by simp[binT]
@[simp] theorem bin_quo(k:IntKind)(a b:Int):binT .quo (.int k a) (.int k b)=if b=0 then none else some (.int k (k.wrap (a.tdiv b))):=by simp[binT]
@[simp] theorem bin_rem(k:IntKind)(a b:Int):binT .rem (.int k a) (.int k b)=if b=0 then none else some (.int k (a.tmod b)):=by simp[binT]
@[simp] theorem bin_eql(k:IntKind)(a b:Int):binT .eql (.int k a) (.int k b)=some (.bool (a == b)):=by simp[binT]
@[simp] theorem bin_neq(k:IntKind)(a b:Int):binT .neq (.int k a) (.int k b)=some (.bool (a != b)):=by simp[binT]
@[simp] theorem bin_lss(k:IntKind)(a b:Int):binT .lss (.int k a) (.int k b)=some (.bool (a<b)):=by simp[binT]
@[simp] theorem bin_leq(k:IntKind)(a b:Int):binT .leq (.int k a) (.int k b)=some (.bool (a<=b)):=by simp[binT]
@[simp] theorem bin_gtr(k:IntKind)(a b:Int):binT .gtr (.int k a) (.int k b)=some (.bool (a > b)):=by simp[binT]
@[simp] theorem bin_geq(k:IntKind)(a b:Int):binT .geq (.int k a) (.int k b)=some (.bool (a>=b)):=by simp[binT]
@[simp] theorem bin_sadd(a b:YA):binT .add (.str a) (.str b)=if a.size+b.size<=9223372036854775807 then some (.str (a++b))else none:=rfl
@[simp] theorem bin_seql(a b:YA):binT .eql (.str a) (.str b)=some (.bool (a.toList == b.toList)):=rfl
@[simp] theorem bin_sneq(a b:YA):binT .neq (.str a) (.str b)=some (.bool (!(a.toList == b.toList))):=rfl
@[simp] theorem bin_slss(a b:YA):binT .lss (.str a) (.str b)=some (.bool (Op.bytesLess a.toList b.toList)):=rfl
@[simp] theorem bin_sleq(a b:YA):binT .leq (.str a) (.str b)=some (.bool (Op.bytesLess a.toList b.toList || a.toList == b.toList)):=rfl
@[simp] theorem bin_sgtr(a b:YA):binT .gtr (.str a) (.str b)=some (.bool (!(Op.bytesLess a.toList b.toList || a.toList == b.toList))):=rfl
@[simp] theorem bin_sgeq(a b:YA):binT .geq (.str a) (.str b)=some (.bool (!Op.bytesLess a.toList b.toList)):=rfl
@[simp] theorem gt_zero(x:Blk)(h:V7):gt (x::h) 0=x:=rfl
@[simp] theorem gt_succ(x:Blk)(h:V7)(n:Nat):gt (x::h) (n+1)=gt h n:=rfl
@[simp] theorem str_inj(a b:YA):a.toList=b.toList↔a=b:=by
 grind [ByteArray.toList_eq,ByteArray.ext,Array.toList_inj]
@[simp] theorem int_beq(a b:Int):(a == b)=decide (a=b):=by
 grind
@[simp] theorem int_bne(a b:Int):(a != b)=!decide (a=b):=by
 grind
@[simp] theorem str_beq(a b:YA):(a.toList == b.toList)=decide (a=b):=by
 grind [str_inj]
@[simp] theorem rn0(h:V7)(e:Env):(List.range 0).map (XA h e)=[]:=rfl
@[simp] theorem rn1(h:V7)(e:Env):(List.range 1).map (XA h e)=[XA h e 0]:=rfl
@[simp] theorem rn2(h:V7)(e:Env):(List.range 2).map (XA h e)=[XA h e 0,XA h e 1]:=rfl
@[simp] theorem rn3(h:V7)(e:Env):(List.range 3).map (XA h e)=[XA h e 0,XA h e 1,XA h e 2]:=rfl
@[simp] theorem rn4(h:V7)(e:Env):(List.range 4).map (XA h e)=[XA h e 0,XA h e 1,XA h e 2,XA h e 3]:=rfl
@[simp] theorem rn6(h:V7)(e:Env):(List.range 6).map (XA h e)=[XA h e 0,XA h e 1,XA h e 2,XA h e 3,XA h e 4,XA h e 5]:=rfl
@[simp] theorem rn5(h:V7)(e:Env):(List.range 5).map (XA h e)=[XA h e 0,XA h e 1,XA h e 2,XA h e 3,XA h e 4]:=rfl
theorem down{Q:Nat->Prop}(n:Nat)(h0:Q n)(hs:∀i,i<n->Q (i+1)->Q i):∀i,i<=n->Q i:=by
 intro i hi;obtain⟨k,rfl⟩:∃k,n=i+k:=⟨n-i,by omega⟩
 induction k generalizing i with
 |zero=>exact h0
 |succ k ih=>exact hs i (by omega) (ih (i+1) (by rw[show i+1+k=i+(k+1) by omega];exact h0) (by intro j hj;exact hs j (by omega)) (by omega))
abbrev I(n:Int):AV:=.t (.int .i64 n)
abbrev Bo(b:Bool):AV:=.t (.bool b)
abbrev L(sz:Nat)(es:V5):AV:=.t (.lst sz es)
open Go.RowKit (Below)
open Go.ChangeShapes Go.WideShapes Go.ChangeAt Go.RowKit
inductive CSh where
 |int (k:IntKind)
 |bool
 |str
 |slice (cs:List CSh)
def Zmx(rec:TypeId->Option (List CSh))(P:Program):List Field->Nat->Option (List CSh)
 |[],_=>some []
 |f::fs,o=>if f.offset=o then(match rec f.type with
  |some cs=>if cs.length=P.cellsOf f.type then(match Zmx rec P fs (o+cs.length)with
   |some ds=>some (cs++ds)
   |none=>none)else none
  |none=>none)else none
def UP(P:Program):Nat->TypeId->Option (List CSh)
 |0,_=>none
 |n+1,t=>match P.underlying t with
  |some .bool=>some [.bool]
  |some (.int k)=>some [.int k]
  |some .string=>some [.str]
  |some (.slice e)=>match UP P n e with
   |some cs=>if cs.length=P.cellsOf e/\0<cs.length then some [.slice cs]else none
   |none=>none
  |some (.struct fs)=>match Zmx (UP P n) P fs.toList 0 with
   |some cs=>if cs.length=P.cellsOf t then some cs else none
   |none=>none
  |_=>none
mutual
inductive Kc:CSh->T->Prop
 |int {k:IntKind} {n:Int} (h:(Lit.int k n).wf=true):Kc (.int k) (.int k n)
 |bool (b:Bool):Kc .bool (.bool b)
 |str {s:YA} (h:s.size<=maxLen):Kc .str (.str s)
 |slice {cs:List CSh} {es:V5} (hl:es.length<=maxLen) (h:JZ cs es):Kc (.slice cs) (.lst cs.length es)
inductive XK:List CSh->KS->Prop
 |nil:XK [] []
 |cons {c:CSh} {t:T} {cs:List CSh} {ts:KS} (h:Kc c t) (hs:XK cs ts):XK (c::cs) (t::ts)
inductive JZ:List CSh->V5->Prop
 |nil (cs:List CSh):JZ cs []
 |cons {cs:List CSh} {e:KS} {es:V5} (h:XK cs e) (hs:JZ cs es):JZ cs (e::es)
end
variable{ts:KS}
theorem XK.append{cs ds:List CSh}{us:KS}(h:XK cs ts)(h':XK ds us):XK (cs++ds) (ts++us):=by
 induction cs generalizing ts with
 |nil=>cases h;exact h'
 |cons c cs ih=>cases h with|cons h hs=>exact .cons h (ih hs)
theorem XK.len{cs:List CSh}(h:XK cs ts):ts.length=cs.length:=by
 induction cs generalizing ts with
 |nil=>cases h;rfl
 |cons c cs ih=>cases h with|cons h hs=>simp[ih hs]
theorem JZ.snoc{cs:List CSh}{es:V5}{e:KS}(h:JZ cs es)(h':XK cs e):JZ cs (es++[e]):=by
 induction es with
 |nil=>exact .cons h' (.nil _)
 |cons x es ih=>cases h with|cons h hs=>exact .cons h (ih hs)
section
variable{H:Type}{enc:TypeId×Value->H}{P:Program}{w:World}{sp:Nat->Bool}{held:Bool}{n:Nat}
theorem Z2V{α:Type}{f:Nat->Option α}{xs:List α}(h:(List.range n).mapM f=some xs):xs.length=n/\∀i,i<n->∃x,xs[i]?=some x/\f i=some x:=by
 have key:∀(l:V8) (xs:List α),l.mapM f=some xs->xs.length=l.length/\∀(i:Nat) (a:Nat),l[i]?=some a->∃x,xs[i]?=some x/\f a=some x:=by
  intro l
  induction l with
  |nil=>intro xs h;simp at h;subst h;exact⟨rfl,by simp⟩
  |cons a l ih =>
   intro xs h;simp only[List.mapM_cons,Option.bind_eq_bind,Ydi,Option.pure_def,Ybe]at h
   grind
 obtain⟨h1,h2⟩:=key _ xs h;refine⟨by simpa using h1,λi hi=>h2 i i (by simp[hi])⟩
theorem Z2W{a:Addr}{cs:KI}(h:w.cells? 0 a n=some cs)(hn:0<n):∃g off c e fz,a=⟨g,off,none⟩/\w.heap[g]?=some (.cells c e fz)/\(c.toList.drop off).take n=cs/\cs.length=n:=by
 unfold World.cells? at h;simp only[Yc,if_true]at h;obtain⟨h1,h2⟩:=Z2V h;obtain⟨x,_,h4⟩:=h2 0 hn;have ha0:a.add 0=a:=by simp[Addr.add]
 rw[ha0]at h4;have h5:=h4;unfold World.cell? at h5;split at h5
 .rename_i c e fz hb;split at h5
  .cases h5
  .rename_i hs;obtain⟨g,off,spot⟩:=a
   have:spot=none:=by simpa using hs
   subst this;refine⟨g,off,c,e,fz,rfl,hb,?_,h1⟩;apply List.ext_getElem?;intro i;rw[Ydb];by_cases hi:i<n
   .rw[Ya hi];obtain⟨y,h6,h7⟩:=h2 i hi;rw[Jz,cell_of_row w g (off+i) c e fz hb]at h7;rw[h6,<-h7];simp
   .grind
 .cases h5
theorem ZFd:∀(fuel:Nat) (t:TypeId) (cs:KI) (d:DataW H) (ps:List MemPlace),DataW.trod enc P w 0 sp held fuel t cs=some (d,ps)->∀(n:Nat) (sh:List CSh),UP P n t=some sh->∃ts fp,TRs w ts cs fp/\XK sh ts:=by
 intro fuel
 induction fuel with
 |zero=>intro t cs d ps h;simp[DataW.trod]at h
 |succ fuel ih =>
  intro t cs d ps h n sh hsh
  cases n with
  |zero=>simp[UP]at hsh
  |succ n =>
   cases hu:P.underlying t with
   |none=>simp[UP,hu]at hsh
   |some dd =>
    cases dd<;>try (simp[UP,hu]at hsh;done)
    case bool =>
     simp[UP,hu]at hsh;subst hsh;simp only[DataW.trod,hu]at h;split at h<;>try (simp_all;done)
     rename_i b _;exact⟨[.bool b],[],.cons (.bool b) .nil,.cons (.bool b) .nil⟩
    case int k =>
     simp[UP,hu]at hsh;subst hsh;simp only[DataW.trod,hu]at h;split at h<;>try (simp_all;done)
     rename_i k1 k2 m heq;cases heq;split at h
     .rename_i hc;obtain⟨rfl,hwf⟩:=hc;exact⟨[.int _ m],[],.cons (.int _ m) .nil,.cons (.int hwf) .nil⟩
     .cases h
    case string =>
     simp[UP,hu]at hsh;subst hsh;simp only[DataW.trod,hu]at h;split at h<;>try (simp_all;done)
     rename_i s heq;split at h
     .rename_i hc;exact⟨[.str s],[],.cons (.str s) .nil,.cons (.str hc) .nil⟩
     .cases h
    case slice e =>
     simp only[UP,hu]at hsh;split at hsh
     .rename_i ecs hecs;split at hsh
      .rename_i hcond;cases hsh;simp only[DataW.trod,hu]at h;split at h<;>try (simp_all;done)
       .exact⟨[.lst ecs.length []],[],.cons (.lst0 _ _ _) .nil,.cons (.slice (by simp) (.nil _)) .nil⟩
       .rename_i e' a len cap heq;cases heq;split at h
        .rename_i hb;simp only[Ydi]at h;obtain⟨elems,hel,_⟩:=h;obtain⟨hlen,hget⟩:=Z2V hel
         -- every element reads
         by_cases hl0:len=0
         .subst hl0;exact⟨[.lst ecs.length []],[],.cons (.lst0 _ _ _) .nil,.cons (.slice (by simp) (.nil _)) .nil⟩
         .have hsz:0<P.cellsOf e:=by omega
          have helem:∀i,i<len->∃vs ts fp,w.cells? 0 (a.add (i*P.cellsOf e)) (P.cellsOf e)=some vs/\TRs w ts vs fp/\XK ecs ts:=by
           grind [Option.bind_eq_some_iff]
          obtain⟨vs0,ts0,fp0,h3,_,_⟩:=helem 0 (by omega);rw[Nat.zero_mul]at h3;have ha0:a.add 0=a:=by simp[Addr.add]
          rw[ha0]at h3;obtain⟨g,off,c,te,fz,rfl,hg,_,_⟩:=Z2W h3 hsz;have build:∀m,m<=len->∃es fp,es.length=m/\JZ ecs es/\(∀x∈es,x.length=P.cellsOf e)/\TRs w es.flatten ((c.toList.drop off).take (m*P.cellsOf e)) fp:=by
           intro m
           induction m with
           |zero=>intro _;exact⟨[],[],rfl,.nil _,by simp,by simpa using TRs.nil⟩
           |succ m ihm =>
            intro hm;obtain⟨es,fp,h5,h6,h7,h8⟩:=ihm (by omega);obtain⟨vs,ts,fq,h9,h10,h11⟩:=helem m (by omega);rw[Jz]at h9;obtain⟨g',off',c',te',fz',he,hg',hseg,hvl⟩:=Z2W h9 hsz;cases he;rw[hg]at hg';cases hg';refine⟨es++[ts],fp++fq,by simp[h5],?_,?_,?_⟩
            .exact h6.snoc h11
            .intro x hx;rcases Yu.1 hx with hx|hx
             .exact h7 x hx
             .simp at hx;subst hx;rw[h11.len];exact hcond.1
            .rw[Yce];simp only[Ybc,List.flatten_nil,Y9];have e1:(c.toList.drop off).take ((m+1)*P.cellsOf e)=(c.toList.drop off).take (m*P.cellsOf e)++vs:=by
              simp_all [Ybu,Yct,List.take_add,Yb2]
             rw[e1];exact h8.append h10
          obtain⟨es,fp,h5,h6,h7,h8⟩:=build len (Yj _);subst h5;refine⟨[.lst ecs.length es],(g::fp)++[],.cons ?_ .nil,.cons (.slice (by omega) h6) .nil⟩;rw[hcond.1];exact .lst (by intro hc;subst hc;simp at hl0) hsz hb.2.1 hg h7 h8
        .cases h
      .cases hsh
     .cases hsh
    case struct fs =>
     simp only[UP,hu]at hsh;split at hsh
     .rename_i scs hscs;split at hsh
      .rename_i hcl;cases hsh;simp only[DataW.trod,hu]at h;split at h
       .rename_i hlen;simp only[Ys]at h;obtain⟨xs,hxs,_⟩:=h;have key:∀(l:List Field) (o:Nat) (scs:List CSh) (xs:List (DataW H×List MemPlace)),Zmx (UP P n) P l o=some scs->o+scs.length<=cs.length->
          l.mapM (λf=>DataW.trod enc P w 0 sp held fuel f.type ((cs.drop f.offset).take (P.cellsOf f.type)))=some xs->∃ts fp,TRs w ts ((cs.drop o).take scs.length) fp/\XK scs ts:=by
         intro l
         induction l with
         |nil =>
          intro o scs xs h1 _ _;cases h1
          exact⟨[],[],by simpa using TRs.nil,.nil⟩
         |cons f l ihl =>
          intro o scs xs h1 h2 h3;simp only[Zmx]at h1;split at h1
          .rename_i ho;split at h1
           .rename_i c1 hc1;split at h1
            .rename_i hl1;split at h1
             .rename_i c2 hc2;cases h1;simp only[List.mapM_cons,Option.bind_eq_bind,Ydi,Option.pure_def,Ybe]at h3;obtain⟨x,hx,ys,hys,rfl⟩:=h3;rw[Yq]at h2;obtain⟨t1,f1,q1,q2⟩:=ih f.type _ x.1 x.2 hx n c1 hc1;obtain⟨t2,f2,q3,q4⟩:=ihl (o+c1.length) c2 ys hc2 (by omega) hys;refine⟨t1++t2,f1++f2,?_,q2.append q4⟩;rw[ho,<-hl1]at q1;have e1:(cs.drop o).take (c1++c2).length=(cs.drop o).take c1.length++(cs.drop (o+c1.length)).take c2.length:=by
               rw[Yq,List.take_add,Yb2]
              rw[e1];exact q1.append q3
             .cases h1
            .cases h1
           .cases h1
          .cases h1
        grind
       .cases h
      .cases hsh
     .cases hsh
end
open Go.RowKit (Below)
open Go.ChangeShapes Go.WideShapes Go.ChangeAt Go.RowKit
def ParOK:Bool×List CSh->AV->Prop
 |(true,shs),a=>∃xs,a=.agg (xs.map .t)/\XK shs xs
 |(false,shs),a=>∃x,a=.t x/\XK shs [x]
def ParsOK:List (Bool×List CSh)->V2->Prop
 |[],as=>as=[]
 |p::ps,as=>∃a as',as=a::as'/\ParOK p a/\ParsOK ps as'
def parSh(P:Program)(t:TypeId):Option (Bool×List CSh):=match UP P 16 t with
 |some cs=>match P.underlying t with
  |some (.struct _)=>some (true,cs)
  |some (.array _ _)=>none
  |some _=>some (false,cs)
  |none=>none
 |none=>none
def Zmy(P:Program):List TypeId->Option (List (Bool×List CSh))
 |[]=>some []
 |t::ts=>match parSh P t with
  |some p=>match Zmy P ts with
   |some ps=>some (p::ps)
   |none=>none
  |none=>none
def parsOK(P:Program)(ts:List TypeId):Bool:=ts.all λt=>P.readableRec t && decide (t<P.types.size)
section
variable{H:Type}{enc:TypeId×Value->H}{P:Program}{w:World}{sp:Nat->Bool}{held:Bool}
theorem TRs.rvs{ts:KS}{vs:KI}{fp:V8}(h:TRs w ts vs fp):RVs VU w (λ_=>True) (ts.map .t) vs:=by
 induction ts generalizing vs fp with
 |nil=>cases h;exact .nil
 |cons t ts ih=>cases h with|cons h hs=>exact .cons (.t h λ_ _=>trivial) (ih hs)
theorem par_arg{t:TypeId}{v:Value}{d:DataW H}{ps:List MemPlace}{base:Nat}(h:DataW.Trod enc P w 0 sp held t v d ps)(hok:Value.okWide P w .any base t v){p:Bool×List CSh}(hp:parSh P t=some p) :
  ∃a,RV VU w (λ_=>True) a v/\ParOK p a:=by
 obtain⟨fuel,h⟩:=h;unfold parSh at hp;split at hp
 .rename_i cs hcs;obtain⟨ts,fp,h1,h2⟩:=ZFd fuel t _ d ps h 16 cs hcs;split at hp
  .rename_i fs hu;cases hp;obtain⟨c,rfl,_⟩:=okWide_struct hu hok;refine⟨.agg (ts.map .t),.agg h1.rvs h1.one,ts,rfl,h2⟩
  .cases hp
  .rename_i dd hns hna hu;cases hp;have hone:cs.length=1:=by
    unfold UP at hcs
    grind
   match ts,h2,h1 with
   |[],h2,h1=>have:=h2.len;simp at this;omega
   |[x],h2,h1 =>
    have hv:v.cells.toList=[v]:=by
     unfold UP at hcs;rw[hu]at hcs;cases dd<;>simp at hcs
     .obtain⟨_,rfl⟩:=okWide_bool hu hok;rfl
     .obtain⟨_,rfl⟩:=okWide_int hu hok;rfl
     .obtain⟨_,rfl⟩:=okWide_string hu hok;rfl
     .obtain⟨_,_,_,rfl⟩:=okWide_slice hu hok;rfl
     .simp_all
    rw[hv]at h1
    cases h1 with|cons h hs =>
    exact⟨.t x,.t h λ_ _=>trivial,x,rfl,h2⟩
   |_::_::_,h2,h1=>have:=h2.len;simp at this;omega
  .cases hp
 .cases hp
theorem Z2X{base:Nat}:∀(ts:List TypeId) (vs:KI) (ds:List (DataW H)) (ps:List MemPlace),DataW.TrodAll enc P w 0 sp held ts vs ds ps->
  (∀(j:Nat) t v,ts[j]?=some t->vs[j]?=some v->Value.okWide P w .any base t v)->∀l,Zmy P ts=some l->∃as,RVs VU w (λ_=>True) as vs/\ParsOK l as
 |[],[],[],_,_,_,l,hl=>by cases hl;exact⟨[],.nil,rfl⟩
 |t::ts,v::vs,d::ds,_,⟨p,q,h1,h2,_⟩,hok,l,hl=>by
  unfold Zmy at hl;split at hl
  .rename_i p1 hp1;split at hl
   .rename_i ps1 hps1;cases hl;obtain⟨a,ha,hpa⟩:=par_arg h1 (hok 0 t v rfl rfl) hp1;obtain⟨as,has,hpas⟩:=Z2X ts vs ds q h2 (λj t v h h'=>hok (j+1) t v (by simpa using h) (by simpa using h')) ps1 hps1;exact⟨a::as,.cons ha has,a,as,rfl,hpa,hpas⟩
   .cases hl
  .cases hl
theorem Z2Y(hl:laidOutB P=true){W W':World}(hb:Below W.heap.size W W'):∀(ts:List TypeId) (vs:KI) (ds:List (DataW H)) (ps:List MemPlace),parsOK P ts=true->DataW.TrodAll enc P W 0 (λ_=>true) true ts vs ds ps->
  (∀x∈ps,x.block<W.heap.size)->DataW.TrodAll enc P W' 0 (λb=>decide (b<W.heap.size)) true ts vs ds ps
 |[],[],[],_,_,h,_=>h
 |t::ts,v::vs,d::ds,_,hr,⟨p,q,h1,h2,e⟩,hlt=>by
  subst e;simp only[parsOK,Y5,Yg,decide_eq_true_eq]at hr;exact⟨p,q,Below.trod hl hr.1.1 hr.1.2 h1 hb (λx hx=>hlt x (Ycm _ hx)),Z2Y hl hb ts vs ds q hr.2 h2 (λx hx=>hlt x (Ycz _ hx)),rfl⟩
theorem Z2Z:∀(ts:List TypeId) (vs:KI) (ds:List (DataW H)) (ps:List MemPlace),DataW.TrodAll enc P w 0 sp held ts vs ds ps->ds.length=ts.length
 |[],[],[],_,_=>rfl
 |_::ts,_::vs,_::ds,_,⟨_,q,_,h2,_⟩=>by simp[Z2Z ts vs ds q h2]
theorem ZDY(hl:laidOutB P=true){f:Nat}{fn:Func}{s:ChangeSpec}{tb:TypeId}{l:List (Bool×List CSh)}(hrd:parsOK P fn.params.toList=true)(hsh:Zmy P fn.params.toList=some l)
  (hres:fn.resultTypes=#[tb]) (htb:P.underlying tb=some .bool) (hvars:s.vars=[])
  (hfn:∀(H:Type) (ds:List (DataW H)),ds.length=fn.params.toList.length->(s.fn H ds).results=[.lit (.bool true)]/\(s.fn H ds).args=ds/\(s.fn H ds).vars=[])
  (hS:∀as,ParsOK l as->∃hr,Wr P f as [] (.t (.bool true)) hr)
  (W:World) (base:Nat) (args:Array Value) (ds gs:List (DataW H)) (before:List MemPlace)
  (hval:∀(j:Nat) t v,fn.params[j]?=some t->args[j]?=some v->Value.okWide P W .any base t v)
  (hW:DataW.Whole enc P fn.params.toList s.vars false W args.toList ds gs before) :
  Calls P f args W λe W'=>∃v,e=.returned v/\s.post enc P fn false true false false W args v W':=by
 have hW':=hW;obtain⟨p,q,hA,hV,rfl,hfz,hnd⟩:=hW;have hV0:=hV;rw[hvars]at hV;obtain⟨rfl,rfl⟩:gs=[]/\q=[]:=by
  cases gs with
  |nil=>exact⟨rfl,hV⟩
  |cons _ _=>exact hV.elim
 obtain⟨as,hRV,hP⟩:=Z2X fn.params.toList args.toList ds p hA (λj t v h h'=>hval j t v (by simpa using h) (by simpa using h')) l hsh;obtain⟨hr,hC⟩:=hS as hP;refine(hC.data W (λ_=>True) args hRV).mono λe W' ⟨v,ρ,he,hB,_,hv,_⟩=>?_
 subst he;obtain⟨h1,h2,h3⟩:=hfn H (ds++[]) (by rw[Y9];exact Z2Z _ _ _ _ hA)
 cases hv with|t h _ =>
 cases h;have hlt:=hW'.lt;refine⟨_,rfl,ds,[],p++[],[],p,[],hW',?_,?_,?_,hB.frame _,(by intro h;cases h)⟩
 .rw[h1,hres];exact trodAll_cons_mk (p:=[]) (p':=[]) (shut_bool htb _) trodAll_mk0
 .simp_all [Y9,Z2Y]
 .rw[h3,hvars];rfl
end
def ic(n:Int):KS:=[.int .i64 n]
def isc(xs:V6):KS:=[.lst 1 (xs.map ic)]
def sc(s:YA):KS:=[.str s]
variable{t:T}{left:Int}{n i:Nat}{cs:List CSh}{ts:KS}
@[simp] theorem ic_def(n:Int):ic n=[.int .i64 n]:=rfl
@[simp] theorem isc_def(xs:V6):isc xs=[.lst 1 (xs.map ic)]:=rfl
@[simp] theorem sc_def(s:YA):sc s=[.str s]:=rfl
abbrev tI(xs:V6):T:=.lst 1 (xs.map ic)
abbrev tII(xs:V4):T:=.lst 1 (xs.map isc)
abbrev SmA{α:Type}(xs:List α):Prop:=xs.length<=4294967296
abbrev SmL{α:Type}(p:α->Prop)(xs:List α):Prop:=xs.length<=4294967296/\∀x∈xs,p x
abbrev SsA(s:YA):Prop:=s.size<=4294967296
abbrev OkI(n:Int):Prop:=-9223372036854775808<=n/\n<=9223372036854775807
abbrev OkS(s:YA):Prop:=s.size<=maxLen
abbrev OkL{α:Type}(p:α->Prop)(xs:List α):Prop:=xs.length<=maxLen/\∀x∈xs,p x
theorem Z3a{α:Type}{xs ys:List α}(h:i<xs.length)(h':i<ys.length):xs.drop i=ys.drop i↔xs[i]=ys[i]/\xs.drop (i+1)=ys.drop (i+1):=by
 grind [List.drop_eq_getElem_cons,List.cons.injEq]
abbrev Le{α:Type}(xs:List α):Prop:=xs.length<=1099511627776
theorem Xd(h:i<1099511627776):IntKind.wrap .i64 ((i:Int)+1)=(i:Int)+1:=ZL (by omega) (by omega)
theorem room2(h:n<=4398046511104):n<=room:=Yr h (by decide)
theorem tf(b:Bool):b=false\/b=true:=by cases b<;>simp
def sz1(n:Nat)(left:Int):Int:=if IntKind.wrap .i64 (left-n)<0 then -1 else IntKind.wrap .i64 (left-n)
abbrev szI(y:V6)(l:Int):Int:=sz1 y.length l
def ZV(l:Int)(f:Int->Int):Int:=if l<0 then -1 else f l
def Zaa{α:Type}(f:α->Int->Int):List α->Int->Int
 |[],l=>l
 |x::xs,l=>if f x l<0 then -1 else Zaa f xs (f x l)
def szL{α:Type}(f:α->Int->Int)(xs:List α)(left:Int):Int:=ZV (sz1 xs.length left) (Zaa f xs)
theorem sz1_ok(hn:n<=maxLen)(h0:0<=left)(h1:left<=1048576)(h:0<=sz1 n left):sz1 n left<=left/\n<=1048576:=by
 unfold maxLen at hn;have hw:IntKind.wrap .i64 (left-n)=left-n:=ZL (by omega) (by omega);unfold sz1 at h|-;omega
theorem Vh(hn:n<=maxLen)(h0:0<=left)(h1:left<=1048576)(h:0<=sz1 n left):sz1 n left<=left/\n<=4294967296:=by
 have:=sz1_ok hn h0 h1 h;omega
theorem andSz_ok{l:Int}{f:Int->Int}{p q:Prop}(h:0<=ZV l f)(hl:0<=l->l<=left/\p)(hf:0<=l->0<=f l->f l<=l/\q):ZV l f<=left/\p/\q:=by
 unfold ZV at h|-
 grind
theorem Z3b{α:Type}{f:α->Int->Int}{p:α->Prop}{M:Int}:∀(xs:List α) (left:Int),(∀x∈xs,∀l,0<=l->l<=M->0<=f x l->f x l<=l/\p x)->0<=left->left<=M->0<=Zaa f xs left->Zaa f xs left<=left/\∀x∈xs,p x
 |[],left,_,_,_,h=>⟨Int.le_refl _,λx hx=>by cases hx⟩
 |x::xs,left,hf,h0,h1,h=>by
  unfold Zaa at h|-;split at h
  .omega
  .rename_i hx;rw[Yb hx];obtain⟨h2,h3⟩:=hf x (by simp) left h0 h1 (by omega);obtain⟨h4,h5⟩:=Z3b xs (f x left) (λy hy=>hf y (by simp[hy])) (by omega) (by omega) h
   grind
theorem KB{α:Type}{f:α->Int->Int}{p:α->Prop}{xs:List α}(hn:xs.length<=maxLen)(hf:∀x∈xs,∀l,0<=l->l<=1048576->0<=f x l->f x l<=l/\p x)(h0:0<=left)(h1:left<=1048576)(h:0<=szL f xs left) :
  szL f xs left<=left/\SmL p xs:=by
 refine andSz_ok h (λhl=>Vh hn h0 h1 hl) (λhl hfl=>?_);have:=sz1_ok hn h0 h1 hl;exact Z3b xs _ hf hl (by omega) hfl
theorem Xy(h:Kc (.int .i64) t):∃n,t=.int .i64 n/\OkI n:=by
 cases h with
 |int h=>exact⟨_,rfl,by simp[Lit.wf,IntKind.min,IntKind.max,IntKind.signed,IntKind.bits]at h;exact h⟩
theorem dec_bool(h:Kc .bool t):∃b,t=.bool b:=by
 cases h with
 |bool b=>exact⟨_,rfl⟩
theorem ZeD(h:Kc .str t):∃s,t=.str s/\OkS s:=by
 cases h with
 |str h=>exact⟨_,rfl,h⟩
theorem Z3c{α:Type}{c:α->KS}{p:α->Prop}{cs:List CSh}(hd:∀ts,XK cs ts->∃a,ts=c a/\p a):∀{es:V5},JZ cs es->∃xs:List α,es=xs.map c/\∀x∈xs,p x
 |[],_=>⟨[],rfl,λx hx=>by cases hx⟩
 |e::es,h=>by
  cases h with
  |cons h hs =>
   obtain⟨a,rfl,ha⟩:=hd e h;obtain⟨xs,rfl,hx⟩:=Z3c hd hs;exact⟨a::xs,rfl,λx hm=>by cases hm with|head=>exact ha|tail _ hm=>exact hx x hm⟩
theorem Uz{α:Type}{c:α->KS}{p:α->Prop}(hd:∀ts,XK cs ts->∃a,ts=c a/\p a)(h:Kc (.slice cs) t):∃xs:List α,t=.lst cs.length (xs.map c)/\OkL p xs:=by
 cases h with
 |slice hl h =>
  obtain⟨xs,rfl,hx⟩:=Z3c hd h
  grind
theorem ZP{c:CSh}(h:XK (c::cs) ts):∃t us,ts=t::us/\Kc c t/\XK cs us:=by
 cases h with
 |cons h hs=>exact⟨_,_,rfl,h,hs⟩
theorem Uk(h:XK [] ts):ts=[]:=by cases h;rfl
theorem dec_ic(ts:KS)(h:XK [.int .i64] ts):∃n,ts=ic n/\OkI n:=by
 obtain⟨t,us,rfl,h1,h2⟩:=ZP h;cases Uk h2
 simp_all [Xy]
theorem KC(h:Kc (.slice [.int .i64]) t):∃xs,t=tI xs/\OkL OkI xs:=Uz dec_ic h
theorem dec_isc(ts:KS)(h:XK [.slice [.int .i64]] ts):∃n,ts=isc n/\OkL OkI n:=by
 obtain⟨t,us,rfl,h1,h2⟩:=ZP h;cases Uk h2
 simp_all [KC]
theorem Zmz(h:Kc (.slice [.slice [.int .i64]]) t):∃xs,t=tII xs/\OkL (OkL OkI) xs:=Uz dec_isc h
end Go.AM
