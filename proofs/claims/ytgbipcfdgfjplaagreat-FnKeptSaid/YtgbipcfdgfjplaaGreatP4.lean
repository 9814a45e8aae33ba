/-
  Parts of the proofs for this seat: AMZ AMTop AMFun AMEv AMLive AMList AMSimp AMLaw AMLaw2 AMTy.
-/
import Derived.Carry
import Derived.Laws.Strings
import Derived.OpenShut
import Derived.ProofKit
import Derived.Test.YtgbipcfdgfjplaaGreatP3
set_option linter.unusedSectionVars false
set_option linter.unusedSimpArgs false
set_option linter.unusedVariables false
namespace Go.AM
open Go.RowKit (Below)
variable{b:Nat}{h:V1}{d:AV}
theorem gt_map{f:Blk->Blk}(hf:f .dead=.dead)(h:V1)(c:Nat):gt (h.map f) c=f (gt h c):=by
 unfold gt;rw[Ych]
 cases h[c]? with
 |none=>exact hf.symm
 |some x=>rfl
theorem ZgZ(b:Nat)(d:AV)(h:V1)(c:Nat):gt (fzH b d h) c=if c=b then .dead else sbB b d (gt h c):=by
 unfold fzH;rw[Wb,gt_map rfl]
theorem ZrO:∀(h:V1) (b:Nat) (x:Blk),b<h.length->(stB h b x).length=h.length
 |[],_,_,hb=>by simp at hb
 |_::h,0,x,_=>rfl
 |_::h,b+1,x,hb=>by simp[stB,ZrO h b x (by simpa using hb)]
theorem gt_lt(hd:gt h b≠.dead):b<h.length:=by
 by_cases hl:b<h.length
 .exact hl
 .exfalso;apply hd;unfold gt;rw[Yb2 (by omega)];rfl
theorem Zbw(hb:b<h.length):(fzH b d h).length=h.length:=by
 unfold fzH;rw[ZrO _ _ _ (by simpa using hb),Y6]
theorem ZdV(b:Nat)(d:AV)(s:Nat):∀e:Env,lk s (sbE b d e)=sbV b d (lk s e)
 |[]=>rfl
 |(k,v)::e=>by
  simp only[sbE,lk];split
  .rfl
  .exact ZdV b d s e
theorem Z2S{x:Blk}:ZG (sbB b d x)=ZG x:=by cases x<;>rfl
section
variable{N:Par}{base:Nat}{ρ:Map}{h:V1}{w:World}{F F':Nat->Prop}{b:Nat}{d:AV}
theorem RV.sb(hk:∀g,F g->F' g)(hd:∀r,ρ b=some r->RV ρ w F' d r.v){a:AV}{v:Value}(h:RV ρ w F a v):RV ρ w F' (sbV b d a) v:=by
 refine RV.rec (motive_1:=λa v _=>RV ρ w F' (sbV b d a) v) (motive_2:=λas vs _=>RVs ρ w F' (sbVs b d as) vs) ?_ ?_ ?_ ?_ ?_ ?_ ?_ ?_ ?_ ?_ ?_ ?_ ?_ h
 .exact λv=>.top v
 .exact .nilp
 .intro x v fp h hf;exact .t h λg hg=>hk g (hf g hg)
 .intro cs c _ h1 ih;exact .agg ih h1
 .intro cs c _ ih;exact .tup ih
 .intro b off g r hr hv;exact .ptr hr hv
 .intro b i sz off g n cap r hr hv;exact .eptr hr hv
 .intro cs off g o c e fz fp hg hF hc hf;exact .iptr hg (hk _ hF) hc λg hg=>hk g (hf g hg)
 .intro c r hr ho;unfold sbV;split
  .rename_i e;subst e;exact hd _ hr
  .exact .own hr ho
 .intro b n g r hr hv;exact .bsl hr hv
 .intro f cs c _ ih;exact .fn ih
 .exact .nil
 .intro a v as vs _ _ ih1 ih2;exact .cons ih1 ih2
theorem RVs.sb(hk:∀g,F g->F' g){b:Nat}{d:AV}(hd:∀r,ρ b=some r->RV ρ w F' d r.v):∀{as:XQ} {vs:V3},RVs ρ w F as vs->RVs ρ w F' (sbVs b d as) vs
 |[],_,h=>by cases h;exact .nil
 |a::as,_,h=>by cases h with|cons h hs=>exact .cons (h.sb hk hd) (RVs.sb hk hd hs)
theorem VT{g:Nat}(hg:Free N ρ h g):Free N ρ (fzH b d h) g:=by
 refine⟨hg.1,λc r hr hc=>hg.2 c r hr λe=>hc ?_⟩;rw[ZgZ];split
 .rfl
 .rw[e];rfl
theorem Zha(R:Rel N base ρ h w){sz:Nat}{es:XT}(hb:(∃el fr,gt h b=.arr el sz fr es)\/∃el,gt h b=.xarr el sz es) :
  Rel N base ρ (fzH b (.t (.lst sz es)) h) w/\∀r,ρ b=some r->RV ρ w (Free N ρ (fzH b (.t (.lst sz es)) h)) (.t (.lst sz es)) r.v:=by
 have hd:gt h b≠.dead:=by rcases hb with⟨el,fr,hb⟩|⟨el,hb⟩<;>(rw[hb];intro hc;cases hc)
 have live:∀c,gt (fzH b (.t (.lst sz es)) h) c≠.dead->c≠b/\gt h c≠.dead:=by
  intro c hc;rw[ZgZ]at hc;by_cases e:c=b
  .rw[Ya e]at hc;exact absurd rfl hc
  .rw[Yb e]at hc;exact⟨e,λe2=>hc (by rw[e2];rfl)⟩
 have hfr:∀r,ρ b=some r->∀g,ZS r g->Free N ρ (fzH b (.t (.lst sz es)) h) g:=by
  intro r hr g hg;refine⟨(R.hO b r g hr hd hg).1,λc r' hr' hc ho=>?_⟩;obtain⟨h1,h2⟩:=live c hc;exact h1 (R.inj c b r' r g hr' hr h2 hd ho hg)
 have hdat:∀r,ρ b=some r->RV ρ w (Free N ρ (fzH b (.t (.lst sz es)) h)) (.t (.lst sz es)) r.v:=by
  intro r hr;rcases hb with⟨el,fr,hb⟩|⟨el,hb⟩
  .obtain⟨fp,hT,_,hg,_⟩:=ZdI R hr hb;obtain⟨r',h1,h2⟩:=R.blk b hd;rw[hr]at h1;cases h1;rw[hb]at h2;obtain⟨_,_,_,_,_,_,_,_,hfree,_⟩:=h2;exact .t hT λg hg'=>(hg g hg').elim (λq=>hfr r hr g (.inl q)) λq=>VT (hfree g q)
  .obtain⟨fp,hT,hg⟩:=Zru R hr hb;exact .t hT λg hg'=>hfr r hr g (hg g hg')
 have hK:Keeps ρ w (Free N ρ h) ρ w (Free N ρ (fzH b (.t (.lst sz es)) h)):=⟨λc r hr=>⟨r,hr,rfl⟩,λg _ hg=>⟨VT hg,rfl⟩⟩;refine⟨⟨R.hb,R.hN,λc r g hr hc ho=>R.hO c r g hr (live c hc).2 ho,λc hc=>?_,λc c' r r' g hr hr' hc hc'=>R.inj c c' r r' g hr hr' (live c hc).2 (live c' hc').2,λc c' r r' g hr hr' hc hc'=>?_⟩,hdat⟩
 .obtain⟨h1,h2⟩:=live c hc;obtain⟨r,hr,hx⟩:=R.blk c h2;refine⟨r,hr,?_⟩;rw[ZgZ,Yb h1]
  cases e:gt h c with
  |box cs =>
   rw[e]at hx;obtain⟨h0,g,c',e',hv,hb',hh,q1,q2⟩:=hx
   exact⟨h0,g,c',e',hv,hb',hh,q1.sb (λ_=>VT) hdat,q2⟩
  |dead=>exact absurd e h2
  |arr a1 a2 a3 a4=>rw[e]at hx;exact hx.keep hK λ_ _=>rfl
  |xarr a1 a2 a3=>rw[e]at hx;exact hx.keep hK λ_ _=>rfl
  |det a1 a2 a3 a4 a5 a6=>rw[e]at hx;exact hx.keep hK λ_ _=>rfl
 .have f:∀c,ZG (gt (fzH b (.t (.lst sz es)) h) c)=true->ZG (gt h c)=true:=by
   intro c hc;rw[ZgZ]at hc;split at hc
   .cases hc
   .rwa [Z2S]at hc
  exact R.apart c c' r r' g hr hr' (f c hc) (f c' hc')
end
theorem RelS.fzS{N:Par}{base:Nat}{w0:World}{nt:Nat}{ts:List (Array Value)}{ρ:Map}{s s':S}{a:Act}{w:World}(hS:RelS N base w0 nt ts ρ s a w){b:Nat}(hs:Go.AM.fzS b s=some s') :
  RelS N base w0 nt ts ρ s' a w/\Keeps ρ w (Free N ρ s.h) ρ w (Free N ρ s'.h)/\s'.h.length=s.h.length:=by
 unfold Go.AM.fzS at hs;split at hs
 .rename_i el sz fr es hb;cases hs;obtain⟨R,hd⟩:=Zha hS.rel (.inl ⟨_,_,hb⟩);have hl:b<s.h.length:=gt_lt (by rw[hb];intro hc;cases hc);refine⟨⟨R,λx=>?_,?_,?_,hS.defers,hS.size,hS.below,hS.kn,λg hg hz=>⟨VT (hS.fz g hg hz).1,(hS.fz g hg hz).2⟩⟩,⟨λc r hr=>⟨r,hr,rfl⟩,λg _ hg=>⟨VT hg,rfl⟩⟩,Zbw hl⟩
  .show RV _ _ _ (lk x (sbE b _ s.env)) _;rw[ZdV];exact(hS.env x).sb (λ_=>VT) hd
  .show WS _ _ _ (s.stk.map _) _;have hk:=hS.stk;generalize s.stk=st at hk;generalize ts=tt at hk
   induction st generalizing tt with
   |nil=>cases tt<;>exact hk
   |cons e st ih =>
    cases tt with
    |nil=>exact hk
    |cons t tt =>
     refine⟨λx=>?_,ih _ hk.2⟩;rw[ZdV];exact(hk.1 x).sb (λ_=>VT) hd
  .intro c hc;exact hS.dom c (by rw[Zbw hl]at hc;exact hc)
 .rename_i el sz es hb;cases hs;obtain⟨R,hd⟩:=Zha hS.rel (.inr ⟨_,hb⟩);have hl:b<s.h.length:=gt_lt (by rw[hb];intro hc;cases hc);refine⟨⟨R,λx=>?_,?_,?_,hS.defers,hS.size,hS.below,hS.kn,λg hg hz=>⟨VT (hS.fz g hg hz).1,(hS.fz g hg hz).2⟩⟩,⟨λc r hr=>⟨r,hr,rfl⟩,λg _ hg=>⟨VT hg,rfl⟩⟩,Zbw hl⟩
  .show RV _ _ _ (lk x (sbE b _ s.env)) _;rw[ZdV];exact(hS.env x).sb (λ_=>VT) hd
  .show WS _ _ _ (s.stk.map _) _;have hk:=hS.stk;generalize s.stk=st at hk;generalize ts=tt at hk
   induction st generalizing tt with
   |nil=>cases tt<;>exact hk
   |cons e st ih =>
    cases tt with
    |nil=>exact hk
    |cons t tt =>
     refine⟨λx=>?_,ih _ hk.2⟩;rw[ZdV];exact(hk.1 x).sb (λ_=>VT) hd
  .intro c hc;exact hS.dom c (by rw[Zbw hl]at hc;exact hc)
 .cases hs
theorem RelS.fzVs{N:Par}{base:Nat}{w0:World}{nt:Nat}{ts:List (Array Value)}{ρ:Map}{a:Act}{w:World}:∀(vs:XQ) {s:S},RelS N base w0 nt ts ρ s a w->RelS N base w0 nt ts ρ (Go.AM.fzVs vs s) a w
 |[],_,hS=>hS
 |v::vs,s,hS=>by
  cases v with
  |own b =>
   simp only[Go.AM.fzVs]
   cases h:Go.AM.fzS b s with
   |none=>exact RelS.fzVs vs hS
   |some s'=>exact RelS.fzVs vs (hS.fzS h).1
  |_=>exact RelS.fzVs vs hS
theorem RelS.fzO{N:Par}{base:Nat}{w0:World}{nt:Nat}{ts:List (Array Value)}{ρ:Map}{a:Act}{w:World}{s:S}(o:MO)(hS:RelS N base w0 nt ts ρ s a w):RelS N base w0 nt ts ρ (Go.AM.fzO o s) a w:=by
 unfold Go.AM.fzO;split
 .exact RelS.fzVs _ hS
 .exact RelS.fzVs _ hS
 .exact RelS.fzVs _ hS
 .exact RelS.fzVs _ hS
 .exact hS
section
variable{P:Program}{N:Par}{base:Nat}{w0:World}{nt:Nat}{ts:List (Array Value)}{inl:V2}
theorem ZrP{Γ:Ctr}(hΓ:Γ=Xg P){ops:Array Oper}{Qc:Exit->Act->World->Prop}{K:S->Prop}
  (hQ:∀s a w ρ,K s->RelS N base w0 nt ts ρ s a w->Qc .normal a w):∀(l:List Oper) (os:List MO),mapO (compO P inl nt ops) l=some os->∀(s:S) (a:Act) (w:World) (ρ:Map),Qh Γ os s K->RelS N base w0 nt ts ρ s a w->wpList P ops Qc l a w
 |[],os,hm,s,a,w,ρ,hr,hS=>by cases hm;exact hQ s a w ρ hr hS
 |o::l,os,hm,s,a,w,ρ,hr,hS=>by
  obtain⟨m,ms,h1,h2,rfl⟩:=Un hm;obtain⟨hk,hdst,hd,hguard⟩:=Zk4 h1;simp only[Qh]at hr;replace hS:=hS.fzO m;generalize Go.AM.fzO m s=s at hr hS;have ih:=ZrP hΓ hQ l ms h2;have run:runW Γ m s (λs'=>Qh Γ ms s' K)->o.wp P a w (wpList P ops Qc l) Qc:=by
   intro hrun;obtain⟨v,u,hop,hK⟩:=Zr5 hrun;rw[hΓ]at hop;refine ZdN hk hS.env hS.rel (nx:=s.h.length) (.inr (hS.dom _ (Yg _))) (λb _ hb=>hS.dom b hb) hop λval w' ρ' hA=>?_
   exact ih _ _ _ ρ' hK (by rw[hdst];exact hS.after hA hd)
  have skip:Qh Γ ms { s with env:=put m.dst (.tup []) s.env } K->wpList P ops Qc l (a.put o.dst undef) w:=λhK=>ih _ _ _ ρ hK (by rw[hdst];exact hS.skip hd)
  refine wpList_step λK' hK'=>?_
  have run':runW Γ m s (λs'=>Qh Γ ms s' K)->o.wp P a w K' Qc:=λh=>Oper.wp_mono hK' (run h)
  rcases hguard with⟨hg1,hg2⟩|⟨j,b,d,hg1,hg2,hg3⟩
  .simp only[opW,hg2]at hr;simp only[Region.wanted,hg1,if_true];exact run' hr
  .have hw:=Zk5 hS.env hg1 hg2;simp only[opW,hg3]at hr;split at hr
   .rename_i c hc;rw[hw.1 c hc];split at hr
    .rename_i hcb;simp only[hcb,decide_true,if_true];exact run' hr
    .rename_i hcb;simp only[hcb,decide_false,Y7,if_false];exact hK' _ _ (skip hr)
   .rename_i hc;rw[hw.2 hc];simp only[Y7,if_false];exact hK' _ _ (skip hr)
   .exact hr.elim
end
open Go.RowKit (Below)
section
variable{P:Program}{N:Par}{base:Nat}{w0:World}{nt:Nat}{ts:List (Array Value)}{inl:V2}{ρ:Map}{s:S}{a:Act}{w:World}
theorem WS.ren{ρ ρ':Map}{w:World}{F F':Nat->Prop}(f:Nat->Nat)(hF:∀g,g<w.heap.size->F g->F' g):∀{es:List Env} {ts:List (Array Value)},WS ρ w F es ts->(∀b∈es.flatMap U9,∀r,ρ b=some r->ρ' (f b)=some r)->WS ρ' w F' (es.map (renE f)) ts
 |[],[],_,_=>trivial
 |_::_,_::_,h,hr=>⟨h.1.ren f (λb hb=>hr b (by simp only[Ybx,Yk];exact .inl hb)) hF,WS.ren f hF h.2 λb hb=>hr b (by simp only[Ybx,Yk];exact .inr hb)⟩
 |[],_::_,h,_=>h.elim
 |_::_,[],h,_=>h.elim
theorem ZrQ(hS:RelS N base w0 nt ts ρ s a w)(keep:V2):∃ρ',RelS N base w0 nt ts ρ' (VQ keep s) a w:=by
 unfold VQ;simp only;split
 .rename_i hc;obtain⟨h1,h2⟩:=ZgN hc;have hnd:(ZK s.h 200 (U9 (Jy s.h (rst keep s.env))++s.stk.flatMap U9) []).Nodup:=ZgL _ _ _ Ybi;generalize ZK s.h 200 (U9 (Jy s.h (rst keep s.env))++s.stk.flatMap U9) []=ids at *
  refine⟨renM ρ ids,hS.rel.ren hnd h2,?_,?_,?_,hS.defers,hS.size,hS.below,hS.kn,λg hg hz=>⟨ZdL (hS.fz g hg hz).1,(hS.fz g hg hz).2⟩⟩
  .exact((hS.env.rst keep).scrub (h:=s.h)).ren _ (λb hb r hr=>by rw[Zbs (h1 b (by simp[hb]))];exact hr) λg _ hg=>ZdL hg
  .exact hS.stk.ren _ (λg _ hg=>ZdL hg) λb hb r hr=>by rw[Zbs (h1 b (Yk.2 (.inr hb)))];exact hr
  .intro b hb;exact Zkw (by simpa using hb)
 .exact⟨ρ,hS.rel,λ_=>.top _,hS.stk,hS.dom,hS.defers,hS.size,hS.below,hS.kn,hS.fz⟩
def PQ(N:Par)(base:Nat)(w0:World)(nt:Nat)(ts:List (Array Value))(Q:X->S->Prop):Exit->Act->World->Prop
 |.normal,a,w=>∃s ρ,Q .n s/\RelS N base w0 nt ts ρ s a w
 |.exit id,a,w=>∃s ρ,Q (.x id) s/\RelS N base w0 nt ts ρ s a w
 |.ret,a,w=>∃s ρ,Q .r s/\RelS N base w0 nt ts ρ s a w
 |_,_,_=>False
theorem RelS.rst(hS:RelS N base w0 nt ts ρ s a w)(keep:V2):RelS N base w0 nt ts ρ { s with env:=rst keep s.env } a w :=
 ⟨hS.rel,hS.env.rst keep,hS.stk,hS.dom,hS.defers,hS.size,hS.below,hS.kn,hS.fz⟩
theorem Wc_sound{Γ:Ctr}(hΓ:Γ=Xg P):∀(c:Code) (ks:List (V2)) (m:MCode) (ks':List (V2)),comp P inl nt c ks=some (m,ks')->∀(Q:X->S->Prop) (s:S) (a:Act) (w:World) (ρ:Map),
  Wc Γ m Q s->RelS N base w0 nt ts ρ s a w->c.wp P (PQ N base w0 nt ts Q) a w:=by
 intro c
 induction c with
 |skip =>
  intro ks m ks' hc Q s a w ρ hW hS;simp[comp]at hc;obtain⟨rfl,rfl⟩:=hc
  exact wp_skip ⟨s,ρ,hW,hS⟩
 |region id ops draw =>
  intro ks m ks' hc Q s a w ρ hW hS
  cases ks with
  |nil=>simp[comp]at hc
  |cons k ks =>
   simp only[comp]at hc;split at hc
   .rename_i os hos;split at hc
    .rename_i hdraw;subst hdraw;split at hc
     .rename_i hcond;cases hc;split at hW
      .simp only[Wc]at hW;exact ZrN hΓ hos hcond.1 hcond.2.1 (λs a w ρ hq hS=>⟨_,ρ,hq,hS.rst k⟩) hW (RelS.fzVs _ hS)
      .simp only[Wc]at hW;exact ZrN hΓ hos hcond.1 hcond.2.1 (λs a w ρ hq hS=>⟨_,ρ,hq,hS.rst k⟩) hW hS
     .cases hc
    .rename_i hdraw;cases hc;have hdraw':draw=false:=by simpa using hdraw
     subst hdraw';split at hW
     .simp only[Wc]at hW;exact wp_region_list (ZrP hΓ (λs a w ρ hq hS=>⟨_,ρ,hq,hS.rst k⟩) ops.toList os hos s a w ρ hW hS)
     .simp only[Wc]at hW;exact wp_region_list (Zr6 hΓ (λs a w ρ hq hS=>⟨_,ρ,hq,hS.rst k⟩) ops.toList os hos s a w ρ hW hS)
   .cases hc
 |seq x y ihx ihy =>
  intro ks m ks' hc Q s a w ρ hW hS;simp only[comp]at hc;split at hc
  .rename_i mx k1 h1;split at hc
   .rename_i my k2 h2;cases hc;simp only[Wc]at hW;refine wp_seq (wp_mono (ihx ks mx k1 h1 _ s a w ρ hW hS) ?_);intro e a' w' hq
    cases e with
    |normal=>obtain⟨s',ρ',h3,h4⟩:=hq;exact ihy k1 my _ h2 Q s' a' w' ρ' h3 h4
    |exit id=>exact hq
    |ret=>exact hq
    |goto l=>exact hq.elim
    |panic ch=>exact hq.elim
    |outgrown=>exact hq.elim
   .cases hc
  .cases hc
 |cond o x y ihx ihy =>
  intro ks m ks' hc Q s a w ρ hW hS;simp only[comp]at hc;split at hc
  .rename_i o' mx k1 ho h1;split at hc
   .rename_i my k2 h2;cases hc;simp only[Wc]at hW;have hr:=Z4 hS.env ho;split at hW
    .rename_i b hb;rw[hb]at hr;refine wp_cond hr.bool_inv ?_;split at hW
     .rename_i hbt;subst hbt;exact ihx ks mx k1 h1 Q s a w ρ hW hS
     .rename_i hbt
      have:b=false:=by simpa using hbt
      subst this;exact ihy k1 my _ h2 Q s a w ρ hW hS
    .exact hW.elim
   .cases hc
  .cases hc
 |block id b ih =>
  intro ks m ks' hc Q s a w ρ hW hS;simp only[comp]at hc;split at hc
  .rename_i mb k1 h1;cases hc;simp only[Wc]at hW;refine wp_block (wp_mono (ih ks mb _ h1 _ s a w ρ hW hS) ?_);intro e a' w' hq
   cases e with
   |normal=>exact hq
   |exit id' =>
    obtain⟨s',ρ',h3,h4⟩:=hq;simp only[Exit.inBlock];simp only at h3;split at h3
    .rename_i hid;rw[Ya hid];exact⟨s',ρ',h3,h4⟩
    .rename_i hid;rw[Yb hid];exact⟨s',ρ',h3,h4⟩
   |ret=>exact hq
   |goto l=>exact hq.elim
   |panic ch=>exact hq.elim
   |outgrown=>exact hq.elim
  .cases hc
 |loop b ih =>
  intro ks m ks' hc Q s a w ρ hW hS
  cases ks with
  |nil=>simp[comp]at hc
  |cons k ks =>
   simp only[comp]at hc;split at hc
   .rename_i mb k1 h1;cases hc;simp only[Wc,LoopW]at hW;obtain⟨I,μ,h0,hround⟩:=hW;obtain⟨ρ0,hS0⟩:=ZrQ hS k;refine wp_loop_ghost (λn a w=>∃s ρ,I s/\μ s=n/\RelS N base w0 nt ts ρ s a w) (μ (VQ k s)) ⟨_,ρ0,h0,rfl,hS0⟩ ?_;rintro n a' w' ⟨s1,ρ1,hI,rfl,hS1⟩;refine wp_mono (ih ks mb _ h1 _ s1 a' w' ρ1 (hround s1 hI) hS1) ?_;intro e a2 w2 hq
    cases e with
    |normal =>
     obtain⟨s2,ρ2,⟨h3,h4⟩,h5⟩:=hq;obtain⟨ρ3,h6⟩:=ZrQ h5 k
     exact⟨μ (VQ k s2),h4,_,ρ3,h3,rfl,h6⟩
    |exit id=>exact hq
    |ret=>exact hq
    |goto l=>exact hq.elim
    |panic ch=>exact hq.elim
    |outgrown=>exact hq.elim
   .cases hc
 |exit id =>
  intro ks m ks' hc Q s a w ρ hW hS;simp[comp]at hc;obtain⟨rfl,rfl⟩:=hc
  exact wp_exit ⟨s,ρ,hW,hS⟩
 |ret =>
  intro ks m ks' hc Q s a w ρ hW hS;simp[comp]at hc;obtain⟨rfl,rfl⟩:=hc
  exact wp_ret ⟨s,ρ,hW,hS⟩
 |rangeFunc f ps x y _ _=>intro ks m ks' hc;cases ks<;>simp[comp]at hc
 |scope b _=>intro ks m ks' hc;cases ks<;>simp[comp]at hc
 |label l=>intro ks m ks' hc;cases ks<;>simp[comp]at hc
 |goto l=>intro ks m ks' hc;cases ks<;>simp[comp]at hc
 |refuse wy=>intro ks m ks' hc;cases ks<;>simp[comp]at hc
end
open Go.RowKit (Below)
section
variable{P:Program}{N:Par}{base:Nat}{w0:World}{nt:Nat}{ts:List (Array Value)}{inl:V2}{w:World}{ρ:Map}{s:S}{fn:Func}{h h0 hr:V1}{v r:AV}{args:XQ}{ks:List (V2)}{m:MFun}{a:Act}{vs:Array Value}{f k:Nat}
def ZdW(tmps:Array Value):ResultVar->Sem Value
 |.tmp t=>pure (tmps.getD t undef)
 |.cell ad t=>do loadVar t (<-asAddr (tmps.getD ad undef))
theorem ZrR(fn:Func)(tmps:Array Value):results fn tmps=(do let vs <-fn.results.mapM (ZdW tmps);pure (if h:vs.size=1 then vs[0]else .tuple vs)):=by
 unfold results;congr 1
theorem Z2T(hS:RelS N base w0 nt ts ρ s a w){rv:ResultVar}{r:Res}(hc:Jz P rv=some r)(hv:Q9 s r=some v) :
  ∃val,(ZdW a.tmps rv).run P w=.ok val w/\RV ρ w (Free N ρ s.h) v val:=by
 cases rv with
 |tmp t =>
  simp[Jz]at hc;subst hc;simp[Q9]at hv;subst hv
  exact⟨_,rfl,hS.env t⟩
 |cell ad t =>
  simp only[Jz]at hc;obtain⟨n,hn,rfl⟩:=Yr.1 hc;simp only[Q9]at hv;split at hv
  .rename_i b off hb;split at hv
   .rename_i cs hgb;have hr:=hS.env ad;rw[hb]at hr;obtain⟨p,hp⟩:∃g,a.tmps.getD ad undef=.pointer (some ⟨g,off,none⟩)/\∃r,ρ b=some r/\r.v=.pointer (some ⟨g,0,none⟩):=by
     generalize a.tmps.getD ad undef=x at hr
     cases hr with
     |ptr h1 h2=>exact⟨_,rfl,_,h1,h2⟩
    obtain⟨hp1,r,hr1,hr2⟩:=hp;obtain⟨r',h1,h2⟩:=hS.rel.blk b (by rw[hgb];intro hc;cases hc);rw[hr1]at h1;cases h1;rw[hgb]at h2;obtain⟨hx0,g',c,te,hv2,_,hh,hcs,hone⟩:=h2;rw[hr2]at hv2;cases hv2;obtain⟨val,h3,h4⟩:=Zko (P:=P) hn hh hcs hone hv;exact⟨val,by simp only[ZdW,Sem.run_bind,hp1,asAddr,Sem.run_pure,Result.andThen_ok,h3],h4⟩
   .cases hv
  .cases hv
theorem ZrS{ρ:Map}{s:S}{a:Act}{w:World}(hS:RelS N base w0 nt ts ρ s a w):∀(l:List ResultVar) (rs:List Res),mapO (Jz P) l=some rs->∀vs,Vk s rs=some vs->
  ∃vals,(l.mapM (ZdW a.tmps)).run P w=.ok vals w/\RVs ρ w (Free N ρ s.h) vs vals
 |[],rs,hm,vs,hv=>by cases hm;simp[Vk]at hv;subst hv;exact⟨[],by simp,.nil⟩
 |rv::l,rs,hm,vs,hv=>by
  obtain⟨r,rs',h1,h2,rfl⟩:=Un hm;simp only[Vk]at hv;split at hv
  .rename_i v vs' h3 h4;cases hv;obtain⟨val,h5,h6⟩:=Z2T hS h1 h3;obtain⟨vals,h7,h8⟩:=ZrS hS l rs' h2 vs' h4;refine⟨val::vals,?_,.cons h6 h8⟩;simp only[List.mapM_cons,Sem.run_bind];rw[h5];simp only[Result.andThen_ok];rw[h7];simp
  .cases hv
theorem Z2U(hS:RelS N base w0 nt ts ρ s a w){rs:List Res}(hm:mapO (Jz P) fn.results.toList=some rs)(hv:resAV rs s=some v) :
  ∃val,(results fn a.tmps).run P w=.ok val w/\RV ρ w (Free N ρ s.h) v val:=by
 unfold resAV at hv;have key:∀vs,Vk s rs=some vs->∃vals,(fn.results.mapM (ZdW a.tmps)).run P w=.ok vals.toArray w/\RVs ρ w (Free N ρ s.h) vs vals:=by
  intro vs hvs;obtain⟨vals,h1,h2⟩:=ZrS hS fn.results.toList rs hm vs hvs;refine⟨vals,?_,h2⟩;rw[Array.mapM_eq_mapM_toList];simp only[Sem.run_map];rw[h1];rfl
 split at hv
 .rename_i v' hvs;cases hv;obtain⟨vals,h1,h2⟩:=key _ hvs;have hl:=h2.length
  match vals,hl,h1,h2 with
  |[val],_,h1,h2 =>
   cases h2 with
   |cons h3 _ =>
    refine⟨val,?_,h3⟩;rw[ZrR,Sem.run_bind,h1];simp
 .rename_i vs hne hvs;cases hv;obtain⟨vals,h1,h2⟩:=key _ hvs;have hl:=h2.length;refine⟨.tuple vals.toArray,?_,.tup (by simpa using h2)⟩;rw[ZrR,Sem.run_bind,h1];have hn1:vals.length≠1:=by
   intro hc;rw[hc]at hl
   match vs,hl,hne with
   |[v0],_,hne=>exact hne v0 rfl
  simp[hn1]
 .cases hv
theorem lk_initE(args:XQ)(k i:Nat):lk (k+i) (UA args k)=(args[i]?).getD .top:=by
 induction args generalizing k i with
 |nil=>rfl
 |cons v args ih =>
  simp only[UA,lk]
  cases i with
  |zero=>simp
  |succ i =>
   rw[Yb (by omega)];have:=ih (k+1) i;rw[show k+1+i=k+(i+1) by omega]at this;simpa using this
theorem init_env{F:Nat->Prop}(hv:RVs ρ w F args vs.toList)(n:Nat):ZX ρ w F (UA args 0) (vs++Array.replicate n undef):=by
 intro s;have h1:=lk_initE args 0 s;rw[Yq]at h1;rw[h1]
 cases hs:args[s]? with
 |none=>exact .top _
 |some a =>
  obtain⟨v,h2,h3⟩:=hv.at hs;have h2':vs[s]?=some v:=by simpa using h2
  have hlt:s<vs.size:=(Ycd.1 h2').1
  have:(vs++Array.replicate n undef).getD s undef=v:=by
   rw[Ycb,Yeb hlt,h2'];rfl
  rw[this];exact h3
theorem Zbx(x:Bool)(d:TypeId->Bool)(s:S):∀(rs:List Res) (tys:List TypeId),Vk s (resO P x d rs tys)=Vk s rs
 |[],tys=>by cases tys<;>rfl
 |r::rs,[]=>by cases r<;>rfl
 |.tmp t::rs,ty::tys=>by simp only[resO,Vk,Q9,Zbx x d s rs tys]
 |.cell a n::rs,ty::tys=>by simp only[resO,Vk,Q9,Zbx x d s rs tys]
 |.tmpO t l::rs,ty::tys=>by simp only[resO,Vk,Q9,Zbx x d s rs tys]
 |.cellO a n l::rs,ty::tys=>by simp only[resO,Vk,Q9,Zbx x d s rs tys]
theorem Z2V(hc:QC P inl ks fn=some m):∃c,fn.body=some c/\comp P inl fn.ntmps c ks=some (m.body,[])/\(∃rs,mapO (Jz P) fn.results.toList=some rs/\∀s,Vk s m.res=Vk s rs)/\m.nt=fn.ntmps/\m.np<=m.nt:=by
 unfold QC at hc;split at hc
 .rename_i c hb;split at hc
  .rename_i b rs h1 h2;split at hc
   .rename_i hle;cases hc;exact⟨c,hb,h1,⟨rs,h2,λs=>by dsimp only;split;exact Zbx _ _ s rs _;split;exact Zbx _ _ s rs _;rfl⟩,rfl,hle⟩
   .cases hc
  .cases hc
 .cases hc
theorem Z2W{Γ:Ctr}(hΓ:Γ=Xg P)(hf:P.funcs[f]?=some fn)(hc:QC P inl ks fn=some m)(hl:args.length=m.np){K:AV->S->Prop}
  (hW:Wc Γ m.body (bodyQ m.res K) { s with env:=UA args 0 }) (hR:Rel N base ρ s.h w) (hst:WS ρ w (Free N ρ s.h) s.stk ts) (hdom:∀b,s.h.length<=b->ρ b=none)
  (hv:RVs ρ w (Free N ρ s.h) args vs.toList) (hz:∀g,N.z g->Free N ρ s.h g) :
  Calls P f vs w λe w'=>∃val v s' ρ',e=.returned val/\K v s'/\RV ρ' w' (Free N ρ' s'.h) v val/\Rel N base ρ' s'.h w'/\WS ρ' w' (Free N ρ' s'.h) s'.stk ts/\(∀b,s'.h.length<=b->ρ' b=none)/\Below base w w'/\
   (∀g,g<w.heap.size->¬N.a g->w'.heap[g]?=w.heap[g]?)/\∀g,g<w.heap.size->N.z g->Free N ρ' s'.h g/\w'.heap[g]?=w.heap[g]?:=by
 obtain⟨c,hb,hcc,⟨rs,hres,hrr⟩,hnt,hnp⟩:=Z2V hc;have hvl:=hv.length;simp only[Yx]at hvl;refine calls_of_wp hf hb (wp_mono (Wc_sound (N:=N) (base:=base) (w0:=w) (ts:=ts) hΓ c ks m.body [] hcc _ _ _ w ρ hW ⟨hR,init_env hv _,hst,hdom,rfl,by simp;omega,Below.refl _ _,λ_ _ _=>rfl,λg _ hg=>⟨hz g hg,rfl⟩⟩) ?_);intro e a' w' hq;have fin:∀s' ρ',bodyQ m.res K .n s'->RelS N base w fn.ntmps ts ρ' s' a' w'->a'.defers=[]/\∃v,(results fn a'.tmps).run P w'=.ok v w'/\∃val v_1 s' ρ',Ending.returned v=.returned val/\K v_1 s'/\RV ρ' w' (Free N ρ' s'.h) v_1 val/\Rel N base ρ' s'.h w'/\
   WS ρ' w' (Free N ρ' s'.h) s'.stk ts/\(∀b,s'.h.length<=b->ρ' b=none)/\Below base w w'/\(∀g,g<w.heap.size->¬N.a g->w'.heap[g]?=w.heap[g]?)/\∀g,g<w.heap.size->N.z g->Free N ρ' s'.h g/\w'.heap[g]?=w.heap[g]?:=by
  intro s' ρ' hQ hS;simp only[bodyQ]at hQ;split at hQ
  .rename_i v hvr;obtain⟨val,h1,h2⟩:=Z2U (rs:=rs) hS hres (by unfold resAV at hvr|-;rw[<-hrr];exact hvr);exact⟨hS.defers,val,h1,val,v,s',ρ',rfl,hQ,h2,hS.rel,hS.stk,hS.dom,hS.below,hS.kn,hS.fz⟩
  .exact hQ.elim
 cases e with
 |normal=>obtain⟨s',ρ',h1,h2⟩:=hq;exact fin s' ρ' h1 h2
 |ret=>obtain⟨s',ρ',h1,h2⟩:=hq;exact fin s' ρ' h1 h2
 |exit id=>obtain⟨s',ρ',h1,h2⟩:=hq;exact h1.elim
 |goto l=>exact hq.elim
 |panic ch=>exact hq.elim
 |outgrown=>exact hq.elim
theorem ZkD{h:V1}:∀(n:Nat) (todo acc:V2),∃more,ZK h n todo acc=acc++more
 |0,_,acc=>⟨[],by simp[ZK]⟩
 |n+1,[],acc=>⟨[],by simp[ZK]⟩
 |n+1,c::todo,acc=>by
  simp only[ZK];split
  .exact ZkD n todo acc
  .obtain⟨more,hm⟩:=ZkD (h:=h) n (X4 (gt h c)++todo) (acc++[c]);exact⟨c::more,by rw[hm];simp⟩
theorem ZrT:∀(bs:V1) (k i:Nat),lk (k+i) (Um bs k)=match bs[i]? with|some (.box _)=>.ptr (k+i) 0|some (.arr _ _ _ _)=>.own (k+i)|some (.xarr _ _ _)=>.own (k+i)|_=>.top
 |[],k,i=>by simp[Um,lk]
 |b::bs,k,0=>by cases b<;>simp[Um,lk]
 |b::bs,k,i+1=>by
  simp only[Um,lk];rw[Yb (by omega)];have:=ZrT bs (k+1) i;rw[show k+1+i=k+(i+1) by omega]at this;simpa using this
def ZdX(ρ:Map)(k:Nat):Array Value:=((List.range k).map λi=>match ρ i with|some r=>r.v|none=>undef).toArray
theorem Zhb{i:Nat}{r:Root}(hi:i<k)(hr:ρ i=some r):(ZdX ρ k).getD i undef=r.v:=by
 simp[ZdX,hi,hr]
theorem Z2X(R:Rel N base ρ h0 w):ZX ρ w (Free N ρ h0) (Um h0 0) (ZdX ρ h0.length):=by
 intro i;have:=ZrT h0 0 i;rw[Yq]at this;rw[this]
 cases hb:h0[i]? with
 |none=>exact .top _
 |some b =>
  have hi:i<h0.length:=(Yv.1 hb).1;have hg:gt h0 i=b:=by simp[gt,hb]
  cases b with
  |dead=>exact .top _
  |box cs =>
   obtain⟨r,h1,h2⟩:=R.blk i (by rw[hg];intro hc;cases hc);rw[hg]at h2;obtain⟨_,g,c,e,h3,_⟩:=h2;rw[Zhb hi h1,h3]
   exact .ptr h1 h3
  |arr e sz fr es =>
   obtain⟨r,h1,h2⟩:=R.blk i (by rw[hg];intro hc;cases hc);rw[hg]at h2;obtain⟨_,_,xs,_,h3,_⟩:=h2;rw[Zhb hi h1]
   exact .own h1 (ZgD h3)
  |xarr e sz es =>
   obtain⟨r,h1,h2⟩:=R.blk i (by rw[hg];intro hc;cases hc);rw[hg]at h2;obtain⟨_,xs,_,h3,_⟩:=h2;rw[Zhb hi h1]
   exact .own h1 (ZgD h3)
  |det e sz es i' off c=>exact .top _
theorem Z2Y{ρ0:Map}{val:Value}(R:Rel N base ρ s.h w)(hv:RV ρ w (Free N ρ s.h) v val)(hdom:∀b,s.h.length<=b->ρ b=none){e:Env}(hstk:s.stk=[e])(hE:ZX ρ w (Free N ρ s.h) e (ZdX ρ0 k))(hc:Zg6 k v s=some (r,hr)) :
  ∃ρ',Rel N base ρ' hr w/\RV ρ' w (Free N ρ' hr) r val/\(∀b,hr.length<=b->ρ' b=none)/\k<=hr.length/\(∀g,Free N ρ s.h g->Free N ρ' hr g)/\∀b r0,b<k->ρ0 b=some r0->∃r1,ρ' b=some r1/\r1.v=r0.v:=by
 unfold Zg6 at hc;simp only[hstk]at hc;split at hc
 .rename_i hcond;simp only[Ye]at hcond;obtain⟨hcl,hndB⟩:=hcond;obtain⟨h1,h2⟩:=ZgN hcl;have hnd0:((List.range k).map (ZE s.h e)).Nodup:=Zbr.1 hndB;have hnd:=ZgL (h:=s.h) 200 ((((List.range k).map (ZE s.h e)).flatMap λb=>X4 (gt s.h b))++refs (scrub s.h v)) ((List.range k).map (ZE s.h e)) hnd0;obtain⟨more,hpre⟩:=ZkD (h:=s.h) 200 ((((List.range k).map (ZE s.h e)).flatMap λb=>X4 (gt s.h b))++refs (scrub s.h v)) ((List.range k).map (ZE s.h e));generalize ZK s.h 200 ((((List.range k).map (ZE s.h e)).flatMap λb=>X4 (gt s.h b))++refs (scrub s.h v)) ((List.range k).map (ZE s.h e))=ids at *
  cases hc;have hat:∀i,i<k->ids[i]?=some (ZE s.h e i):=by
   intro i hi;rw[hpre,Ybl (by simpa using hi)];simp[hi]
  have hkl:k<=ids.length:=by rw[hpre];simp
  -- where a root handed over is
  have hroot:∀i r0,i<k->ρ0 i=some r0->ρ (ZE s.h e i)=none\/∃r1,ρ (ZE s.h e i)=some r1/\r1.v=r0.v:=by
   intro i r0 hi hr0;have hEi:=(hE i).scrub (h:=s.h);rw[Zhb hi hr0]at hEi;unfold ZE
   cases hx:scrub s.h (lk i e)with
   |ptr b off =>
    rw[hx]at hEi
    cases off with
    |zero =>
     right;generalize hr0v:r0.v=x at hEi
     cases hEi with
     |ptr q1 q2=>exact⟨_,q1,q2⟩
    |succ off=>left;exact hdom _ (by simp)
   |own b =>
    rw[hx]at hEi;right;generalize hr0v:r0.v=x at hEi
    cases hEi with
    |own q1 q2=>exact⟨_,q1,rfl⟩
   |_=>left;exact hdom _ (by simp)
  let ρ':Map:=λb=>if hb:b<k/\renM ρ ids b=none then ρ0 b else renM ρ ids b
  have hlive:∀b,gt (ids.map λb=>renB (λb=>idx b ids 0) (gt s.h b)) b≠.dead->ρ' b=renM ρ ids b:=by
   intro b hb;obtain⟨r1,q1,_⟩:=(R.ren hnd h2).blk b hb;show(if hb:b<k/\renM ρ ids b=none then ρ0 b else renM ρ ids b)=renM ρ ids b;rw[dif_neg (by rw[q1];simp)]
  have hsome:∀b r,renM ρ ids b=some r->ρ' b=some r:=by
   intro b r hb;show(if hb:b<k/\renM ρ ids b=none then ρ0 b else renM ρ ids b)=some r;rw[dif_neg (by rw[hb];simp)];exact hb
  have hFree:∀g,Free N (renM ρ ids) (ids.map λb=>renB (λb=>idx b ids 0) (gt s.h b)) g->Free N ρ' (ids.map λb=>renB (λb=>idx b ids 0) (gt s.h b)) g:=by
   intro g hg;refine⟨hg.1,λb r hb hd=>?_⟩;rw[hlive b hd]at hb;exact hg.2 b r hb hd
  have hKp:Keeps (renM ρ ids) w (Free N (renM ρ ids) (ids.map λb=>renB (λb=>idx b ids 0) (gt s.h b))) ρ' w (Free N ρ' (ids.map λb=>renB (λb=>idx b ids 0) (gt s.h b))) :=
   ⟨λb r hb=>⟨r,hsome b r hb,rfl⟩,λg _ hg=>⟨hFree g hg,rfl⟩⟩
  have R':=R.ren hnd h2;refine⟨ρ',⟨R'.hb,R'.hN,?_,?_,?_,?_⟩,?_,?_,by simpa using hkl,λg hg=>hFree g (ZdL hg),?_⟩
  .intro b r g hb hd;rw[hlive b hd]at hb;exact R'.hO b r g hb hd
  .intro b hd;obtain⟨r1,q1,q2⟩:=R'.blk b hd;exact⟨r1,hsome b r1 q1,q2.keep hKp λ_ _=>rfl⟩
  .intro b b' r1 r2 g hb hb' hd hd';rw[hlive b hd]at hb;rw[hlive b' hd']at hb';exact R'.inj b b' r1 r2 g hb hb' hd hd'
  .intro b b' r1 r2 g hb hb' hf hf';rw[hlive b (Ws hf)]at hb;rw[hlive b' (Ws hf')]at hb';exact R'.apart b b' r1 r2 g hb hb' hf hf'
  .refine RV.keep hKp ((hv.scrub (h:=s.h)).ren _ (λb hb r hr=>?_) λg _ hg=>ZdL hg);rw[Zbs (h1 b (Yk.2 (.inr hb)))];exact hr
  .intro b hb;simp only[Y6]at hb;show(if hb:b<k/\renM ρ ids b=none then ρ0 b else renM ρ ids b)=none;rw[dif_neg (by omega)];exact Zkw hb
  .intro b r0 hb hr0;rcases hroot b r0 hb hr0 with hn|⟨r1,q1,q2⟩
   .refine⟨r0,?_,rfl⟩;show(if hb:b<k/\renM ρ ids b=none then ρ0 b else renM ρ ids b)=some r0;rw[dif_pos ⟨hb,by simp[renM,hat b hb,hn]⟩];exact hr0
   .exact⟨r1,hsome b r1 (by simp[renM,hat b hb,q1]),q2⟩
 .cases hc
theorem ZkE:∀(l:V1) (x:Blk),stB l l.length x=l++[x]
 |[],x=>rfl
 |y::l,x=>by simp[stB,ZkE l x]
structure Own (N:Par) (base:Nat) (ρ:Map) (h:V1) (w:World) (ρ':Map) (h':V1):Prop where
 rel:Rel N base ρ' h' w
 keep:Keeps ρ w (Free N ρ h) ρ' w (Free N ρ' h')
 dom:∀b,h'.length<=b->ρ' b=none
theorem Own.trans{ρ1 ρ2:Map}{h1 h2:V1}(a:Own N base ρ h w ρ1 h1)(b:Own N base ρ1 h1 w ρ2 h2):Own N base ρ h w ρ2 h2 :=
 ⟨b.rel,a.keep.trans b.keep (Yg _),b.dom⟩
theorem own_addA(R:Rel N base ρ h w)(hd:∀b,h.length<=b->ρ b=none)(e sz:Nat) :
  Own N base ρ h w (updM ρ h.length ⟨.slice none 0 0,[],[]⟩) (h++[.arr e (sz+1) true []]):=by
 have hp:=Qi R (n:=h.length) (ks:=[]) (x:=.arr e (sz+1) true []) (r:=⟨.slice none 0 0,[],[]⟩) (row:=none) (w':=w)
  (by intro r0 h0;rw[hd _ (Yg _)]at h0;cases h0) ⟨rfl,rfl,rfl,Yg _,λ_ _ _=>rfl⟩ (by intro g' hg';cases hg') (by intro g' hg';cases hg')
  (λ_=>⟨rfl,e,[],.inr rfl,World.ownsRow_nil w base e (sz+1),Nat.succ_pos _,by simp,.nil,by simp,λ_=>⟨Ybi,by simp⟩,λ_=>OWs.nil⟩)
  (by intro _ x hx;cases hx)
 have hu:upd h (kill []++[(h.length,Blk.arr e (sz+1) true [])])=h++[.arr e (sz+1) true []]:=by simp only[kill,Yb5,Ybk,upd,ZkE]
 rw[hu]at hp;refine⟨hp.1,hp.2.1,λb hb=>?_⟩;simp only[Ym,Ys,Ybu]at hb;simp only[updM];rw[Yb (by omega)];exact hd b (by omega)
theorem own_addX(R:Rel N base ρ h w)(hd:∀b,h.length<=b->ρ b=none)(e sz:Nat) :
  Own N base ρ h w (updM ρ h.length ⟨.slice none 0 0,[],[]⟩) (h++[.xarr e (sz+1) []]):=by
 have hp:=ZdH R (n:=h.length) (ks:=[]) (x:=.xarr e (sz+1) []) (r:=⟨.slice none 0 0,[],[]⟩) (row:=none) (w':=w)
  (by intro r0 h0;rw[hd _ (Yg _)]at h0;cases h0) ⟨rfl,rfl,rfl,Yg _,λ_ _ _=>rfl⟩ (by intro g' hg';cases hg') (by intro g' hg';rcases hg' with hg'|hg'<;>cases hg')
  (λ_=>⟨e,[],.inr rfl,World.ownsRow_nil w base e (sz+1),Nat.succ_pos _,by simp,.nil,OWs.nil,Ybi,by simp⟩)
  (by intro hf;cases hf)
 have hu:upd h (kill []++[(h.length,Blk.xarr e (sz+1) [])])=h++[.xarr e (sz+1) []]:=by simp only[kill,Yb5,Ybk,upd,ZkE]
 rw[hu]at hp;refine⟨hp.1,hp.2.1,λb hb=>?_⟩;simp only[Ym,Ys,Ybu]at hb;simp only[updM];rw[Yb (by omega)];exact hd b (by omega)
theorem ZrU(R:Rel N base ρ h w)(hd:∀b,h.length<=b->ρ b=none)(e sz:Nat) :
  Own N base ρ h w (updM ρ h.length ⟨.slice none 0 0,[],[]⟩) (h++[nilB e (sz+1)]):=by
 unfold nilB;split
 .exact own_addX R hd _ sz
 .exact own_addA R hd _ sz
theorem ZkF{ρ:Map}{h:V1}{w:World}{F:Nat->Prop}{v:Value}(h1:RV ρ w F (.t .nil) v):v=.slice none 0 0:=by
 cases h1 with|t h _=>cases h;rfl
theorem Z2Z:∀(l:List (Option (Nat×Nat))) (cs:XQ) (ρ:Map) (h:V1) (vs:V3),Rel N base ρ h w->(∀b,h.length<=b->ρ b=none)->RVs ρ w (Free N ρ h) cs vs->
  ∃ρ',Own N base ρ h w ρ' (VR l cs h).2/\RVs ρ' w (Free N ρ' (VR l cs h).2) (VR l cs h).1 vs:=by
 intro l cs ρ h
 induction l,cs,h using VR.induct generalizing ρ with
 |case1 e sz ps cs h cs' h' heq ih =>
  intro vs R hd hv
  cases hv with|cons q hv =>
  have hs:=ZkF (h:=h) q;subst hs;have A:=ZrU R hd e sz;obtain⟨ρ',B,hv'⟩:=ih _ _ A.rel A.dom (hv.keep A.keep);rw[heq]at B hv';simp only[VR,heq];refine⟨ρ',A.trans B,.cons ?_ hv'⟩;have hk:updM ρ h.length ⟨.slice none 0 0,[],[]⟩ h.length=some ⟨.slice none 0 0,[],[]⟩:=by simp[updM]
  exact(RV.own (w:=w) (F:=Free N _ (h++[nilB e (sz+1)])) hk rfl).keep B.keep
 |case2 o c ps cs h hne cs' h' heq ih =>
  intro vs R hd hv
  cases hv with|cons q hv =>
  obtain⟨ρ',B,hv'⟩:=ih _ _ R hd hv;rw[heq]at B hv';have he:VR (o::c) (ps::cs) h=(ps::cs',h'):=by
   rw[VR]
   .rw[heq]
   .exact hne
  rw[he]
  exact⟨ρ',B,.cons (q.keep B.keep) hv'⟩
 |case3 cs h =>
  intro vs R hd hv;simp only[VR]
  exact⟨ρ,⟨R,.refl,hd⟩,hv⟩
 |case4 l h hne =>
  intro vs R hd hv
  cases l with
  |nil=>exact absurd rfl hne
  |cons o l=>simp only[VR];exact⟨ρ,⟨R,.refl,hd⟩,hv⟩
theorem ZrV(n:Nat)(v:AV)(ρ:Map)(h:V1)(val:Value)(R:Rel N base ρ h w)(hd:∀b,h.length<=b->ρ b=none)(hv:RV ρ w (Free N ρ h) v val) :
  ∃ρ',Own N base ρ h w ρ' (dat1 n v h).2/\RV ρ' w (Free N ρ' (dat1 n v h).2) (dat1 n v h).1 val:=by
 unfold dat1;split
 .have hs:=ZkF (h:=h) hv;subst hs;exact⟨ρ,⟨R,.refl,hd⟩,.t (.lst0 _ _ _) λg hg=>by cases hg⟩
 .rename_i b;split
  .rename_i el sz fr es hb;obtain⟨h1,h2⟩:=Zha R (.inl ⟨_,_,hb⟩);have hl:b<h.length:=gt_lt (by rw[hb];intro hc;cases hc);refine⟨ρ,⟨h1,⟨λc r hr=>⟨r,hr,rfl⟩,λg _ hg=>⟨VT hg,rfl⟩⟩,λc hc=>hd c (by rw[Zbw hl]at hc;exact hc)⟩,?_⟩
   cases hv with
   |own hr hone=>exact h2 _ hr
  .rename_i el sz es hb;obtain⟨h1,h2⟩:=Zha R (.inr ⟨_,hb⟩);have hl:b<h.length:=gt_lt (by rw[hb];intro hc;cases hc);refine⟨ρ,⟨h1,⟨λc r hr=>⟨r,hr,rfl⟩,λg _ hg=>⟨VT hg,rfl⟩⟩,λc hc=>hd c (by rw[Zbw hl]at hc;exact hc)⟩,?_⟩
   cases hv with
   |own hr hone=>exact h2 _ hr
  .exact⟨ρ,⟨R,.refl,hd⟩,hv⟩
 .exact⟨ρ,⟨R,.refl,hd⟩,hv⟩
theorem ZkG{w:World}:∀(l:List (Option (Nat×Nat))) (cs:XQ) (ρ:Map) (h:V1) (vs:V3),Rel N base ρ h w->(∀b,h.length<=b->ρ b=none)->RVs ρ w (Free N ρ h) cs vs->
  ∃ρ',Own N base ρ h w ρ' (Vl l cs h).2/\RVs ρ' w (Free N ρ' (Vl l cs h).2) (Vl l cs h).1 vs
 |[],cs,ρ,h,vs,R,hd,hv=>by
  unfold Vl
  exact⟨ρ,⟨R,.refl,hd⟩,hv⟩
 |o::ps,[],ρ,h,vs,R,hd,hv=>by
  have e:Vl (o::ps) [] h=([],h):=by rcases o with _|⟨n,_|z⟩<;>rfl
  rw[e]
  exact⟨ρ,⟨R,.refl,hd⟩,hv⟩
 |o::ps,c::cs,ρ,h,[],R,hd,hv=>by cases hv
 |o::ps,c::cs,ρ,h,v0::vs,R,hd,hv=>by
  cases hv with|cons q hv =>
  have go:∃ρ',Own N base ρ h w ρ' (Vl ps cs h).2/\RVs ρ' w (Free N ρ' (Vl ps cs h).2) (c::(Vl ps cs h).1) (v0::vs):=by
   obtain⟨ρ',A,B⟩:=ZkG ps cs ρ h _ R hd hv;exact⟨ρ',A,.cons (q.keep A.keep) B⟩
  cases o with
  |none=>simpa only[Vl]using go
  |some p =>
   obtain⟨n,z⟩:=p
   cases z with
   |succ z=>simpa only[Vl]using go
   |zero =>
    obtain⟨ρ1,A1,B1⟩:=ZrV n c ρ h _ R hd q;obtain⟨ρ',A,B⟩:=ZkG ps cs ρ1 _ _ A1.rel A1.dom (hv.keep A1.keep);simp only[Vl];exact⟨ρ',A1.trans A,.cons (B1.keep A.keep) B⟩
theorem Zhc(l:List (Option (Nat×Nat)))(v:AV)(ρ:Map)(h:V1)(val:Value)(R:Rel N base ρ h w)(hd:∀b,h.length<=b->ρ b=none)(hv:RV ρ w (Free N ρ h) v val) :
  ∃ρ',Own N base ρ h w ρ' (own1 l v h).2/\RV ρ' w (Free N ρ' (own1 l v h).2) (own1 l v h).1 val:=by
 unfold own1;split
 .rename_i cs
  cases hv with|agg hv h1 =>
  obtain⟨ρ1,A1,B1⟩:=Z2Z l cs ρ h _ R hd hv;obtain⟨ρ',A,B⟩:=ZkG l _ ρ1 _ _ A1.rel A1.dom B1;exact⟨ρ',A1.trans A,.agg B h1⟩
 .split
  .rename_i e sz;split
   .have hs:=ZkF (h:=h) hv;subst hs;have A:=ZrU R hd e sz;exact⟨_,A,RV.own (r:=⟨.slice none 0 0,[],[]⟩) (by simp[updM]) rfl⟩
   .exact⟨ρ,⟨R,.refl,hd⟩,hv⟩
  .exact ZrV _ _ ρ h val R hd hv
  .exact⟨ρ,⟨R,.refl,hd⟩,hv⟩
theorem ZdY{w:World}:∀(rs:List Res) (vs:XQ) (ρ:Map) (h:V1) (vals:V3),Rel N base ρ h w->(∀b,h.length<=b->ρ b=none)->RVs ρ w (Free N ρ h) vs vals->
  ∃ρ',Own N base ρ h w ρ' (VA rs vs h).2/\RVs ρ' w (Free N ρ' (VA rs vs h).2) (VA rs vs h).1 vals
 |[],vs,ρ,h,vals,R,hd,hv=>by simp only[VA];exact⟨ρ,⟨R,.refl,hd⟩,hv⟩
 |r::rs,[],ρ,h,vals,R,hd,hv=>by cases r<;>(simp only[VA];exact⟨ρ,⟨R,.refl,hd⟩,hv⟩)
 |.tmp t::rs,v::vs,ρ,h,vals,R,hd,hv=>by
  cases hv with|cons q hv =>
  obtain⟨ρ',A,B⟩:=ZdY rs vs ρ h _ R hd hv;simp only[VA]
  exact⟨ρ',A,.cons (q.keep A.keep) B⟩
 |.cell a n::rs,v::vs,ρ,h,vals,R,hd,hv=>by
  cases hv with|cons q hv =>
  obtain⟨ρ',A,B⟩:=ZdY rs vs ρ h _ R hd hv;simp only[VA]
  exact⟨ρ',A,.cons (q.keep A.keep) B⟩
 |.tmpO t l::rs,v::vs,ρ,h,vals,R,hd,hv=>by
  cases hv with|cons q hv =>
  obtain⟨ρ1,A1,B1⟩:=Zhc l v ρ h _ R hd q;obtain⟨ρ',A,B⟩:=ZdY rs vs ρ1 _ _ A1.rel A1.dom (hv.keep A1.keep);simp only[VA]
  exact⟨ρ',A1.trans A,.cons (B1.keep A.keep) B⟩
 |.cellO a n l::rs,v::vs,ρ,h,vals,R,hd,hv=>by
  cases hv with|cons q hv =>
  obtain⟨ρ1,A1,B1⟩:=Zhc l v ρ h _ R hd q;obtain⟨ρ',A,B⟩:=ZdY rs vs ρ1 _ _ A1.rel A1.dom (hv.keep A1.keep);simp only[VA];exact⟨ρ',A1.trans A,.cons (B1.keep A.keep) B⟩
theorem Z3a(rs:List Res)(v:AV)(ρ:Map)(h:V1)(val:Value)(R:Rel N base ρ h w)(hd:∀b,h.length<=b->ρ b=none)(hv:RV ρ w (Free N ρ h) v val) :
  ∃ρ',Own N base ρ h w ρ' (ownR rs v h).2/\RV ρ' w (Free N ρ' (ownR rs v h).2) (ownR rs v h).1 val:=by
 unfold ownR;split
 .exact Zhc _ v ρ h val R hd hv
 .exact Zhc _ v ρ h val R hd hv
 .cases hv with|tup hv =>
  obtain⟨ρ',A,B⟩:=ZdY _ _ ρ h _ R hd hv;exact⟨ρ',A,.tup B⟩
 .exact⟨ρ,⟨R,.refl,hd⟩,hv⟩
def TblOK(P:Program)(tbl:Nat->Option MFun):Prop:=∀f m,tbl f=some m->∃fn ks inl,P.funcs[f]?=some fn/\QC P inl ks fn=some m/\UB P f=true
theorem sound_of(hf:P.funcs[f]?=some fn)(hcl:UB P f=true)(hc:QC P inl ks fn=some m)
  (hW:FW (Xg P) m args h0 r hr):Xg P f args h0 r hr:=by
 refine⟨hcl,?_⟩;intro N base w ρ vs hR hdom hv hz;have hb:=Z2W (N:=N) (base:=base) (ts:=[ZdX ρ h0.length]) rfl hf hc hW.1 (s:={ env:=[],stk:=[Um h0 0],h:=h0 }) hW.2 hR ⟨Z2X hR,trivial⟩ hdom hv hz;refine hb.mono ?_;rintro e w' ⟨val,v,s',ρ1,rfl,hK,hv',hR',hst,hdom',hB,hkn,hfz⟩
 match hs:s'.stk,hst with
 |[e],hst =>
  obtain⟨ρ1',A,hv2⟩:=Z3a m.res v ρ1 s'.h val hR' hdom' hv';obtain⟨ρ2,h1,h2,h3,h4,h5,h6⟩:=Z2Y (s:={ s' with h:=(ownR m.res v s'.h).2 }) A.rel hv2 A.dom hs (λt=>(hst.1 t).keep A.keep) hK;exact⟨val,ρ2,rfl,hB,h1,h2,h3,h4,hkn,λg hg hz'=>⟨h5 g (A.keep.free g (Yco hg hB.size) (hfz g hg hz').1).1,(hfz g hg hz').2⟩,h6⟩
end
inductive Fr where
 |seq (b:MCode)
 |blk (id:Nat)
 |loop (keep:V2) (b:MCode)
 |fin (k:Nat) (rs:List Res)
inductive Cf where
 |code (c:MCode)
 |ops (os:List MO) (keep:V2)
 |opsF (os:List MO) (keep:V2)
 |drw (os:List MO) (feet:List Foot) (before:List (V2)) (keep:V2)
 |out (x:X)
abbrev Z0:=Nat->XQ->V1->XP
def callB(args:XQ)(nx:Nat):XP->Option (AV×List (Nat×Blk))
 |some (r,hr)=>if(Vj args || frR r hr)=true then some (shift nx r,newU nx hr 0)else none
 |none=>none
def callA(C:Z0)(f:Nat)(args:XQ)(nx:Nat):Option (XQ)->Option (AV×List (Nat×Blk))
 |some as=>callB args nx (C f as [])
 |none=>none
def xcallB(nx:Nat):XP->Option (AV×List (Nat×Blk))
 |some (r,hr)=>if frR r hr=true then some (shift nx r,newU nx (hr.map xB) 0)else none
 |none=>none
def Zby(C:Z0)(f nx:Nat):Option (XQ)->Option (AV×List (Nat×Blk))
 |some as=>xcallB nx (C f as [])
 |none=>none
def fcallB:XP->Option (AV×List (Nat×Blk))
 |some (r,hr)=>match frzR hr r with
  |some d=>some (d,[])
  |none=>none
 |none=>none
def Zbz(C:Z0)(f:Nat)(args:XQ):Option (XQ)->Option (AV×List (Nat×Blk))
 |some as=>if Vj args=true then fcallB (C f as [])else none
 |none=>none
def packW(v:AV)(u:List (Nat×Blk)):Option (List (Nat×Blk))->Option (AV×List (Nat×Blk))
 |some u2=>some (v,u++u2)
 |none=>none
def packV(h:V1)(x:AV):Option (AV×List (Nat×Blk))->Option (AV×List (Nat×Blk))
 |some (v,u)=>packW v u (Ui h u x)
 |none=>none
def mcallB(ids:V2)(nx:Nat):XP->Option (AV×List (Nat×Blk))
 |some (r,h1)=>some (ren (bk ids nx) r,Xk ids nx h1 0)
 |none=>none
def Vm(C:Z0)(f:Nat)(vs:XQ)(h:V1)(nx:Nat)(ids:V2):Option (AV×List (Nat×Blk)) :=
 if V9 h ids (Zw vs)=true then mcallB ids nx (C f (subA ids vs) (subH h ids))else none
open Classical in
noncomputable def pcallB(ids:V2)(h0:V1)(nx:Nat):XP->Option (AV×List (Nat×Blk))
 |some (r,h1)=>if h1.take ids.length=h0 then some (ren (bk ids nx) r,Xk ids nx (h1.drop ids.length) ids.length)else none
 |none=>none
noncomputable def Zb0(C:Z0)(f:Nat)(vs:XQ)(h:V1)(nx:Nat)(ids:V2):Option (AV×List (Nat×Blk)) :=
 if V9 h ids (Zw vs)=true then pcallB ids (subH h ids) nx (C f (subA ids vs) (subH h ids))else none
def Zb1(C:Z0)(args:XQ)(h:V1)(nx:Nat):AV->Option (AV×List (Nat×Blk))
 |.fn g caps=>Vm C g (args++caps) h nx (Z2 h (args++caps))
 |_=>none
noncomputable def runV(C:Z0)(k:MOp)(s:S):Option (AV×List (Nat×Blk)):=match k with
 |.call f args=>callA C f (args.map (ev s.env)) s.h.length (frzs s.h (args.map (ev s.env)))
 |.xcall f args=>Zby C f s.h.length (frzs s.h (args.map (ev s.env)))
 |.fcall f args=>Zbz C f (args.map (ev s.env)) (frzs s.h (args.map (ev s.env)))
 |.icall f args=>Vm C f (args.map (ev s.env)) s.h s.h.length (Z2 s.h (args.map (ev s.env)))
 |.scall f args p=>packV s.h (ev s.env p) (Vm C f (args.map (ev s.env)) s.h s.h.length (Z2 s.h (args.map (ev s.env))))
 |.pcall f args=>Zb0 C f (args.map (ev s.env)) s.h s.h.length (Z2 s.h (args.map (ev s.env)))
 |.dcall f args=>Zb1 C (args.map (ev s.env)) s.h s.h.length (ev s.env f)
 |k=>Zs s.h s.h.length s.env k
def runD(o:MO)(s:S):Option (AV×List (Nat×Blk))->Option S
 |some (v,u)=>some { s with env:=put o.dst v s.env,h:=upd s.h u }
 |none=>none
noncomputable def runE(C:Z0)(o:MO)(s:S):Option S:=runD o s (runV C o.op s)
def skipE(o:MO)(s:S):S:={ s with env:=put o.dst (.tup []) s.env }
noncomputable def ZdZ(C:Z0)(o:MO)(s:S)(want:Bool):AV->Option S
 |.t (.bool b)=>if b=want then runE C o s else some (skipE o s)
 |.tup []=>some (skipE o s)
 |_=>none
noncomputable def opE(C:Z0)(o:MO)(s:S):Option S:=match o.guard with
 |none=>runE C o s
 |some (g,want)=>ZdZ C o s want (lk g s.env)
def runFD(o:MO)(s:S):Option (AV×List (Nat×Blk))->Option (Foot×S)
 |some (v,u)=>some (Wa o s (u.map Prod.fst),{ s with env:=put o.dst v s.env,h:=upd s.h u })
 |none=>none
noncomputable def runF(C:Z0)(o:MO)(s:S):Option (Foot×S):=runFD o s (runV C o.op s)
noncomputable def Zea(C:Z0)(o:MO)(s:S)(want:Bool):AV->Option (Foot×S)
 |.t (.bool b)=>if b=want then runF C o s else some (Wa o s [],skipE o s)
 |.tup []=>some (Wa o s [],skipE o s)
 |_=>none
noncomputable def opF(C:Z0)(o:MO)(s:S):Option (Foot×S):=match o.guard with
 |none=>runF C o s
 |some (g,want)=>Zea C o s want (lk g s.env)
def finE(k:Nat)(rs:List Res)(s:S):XP:=match resAV rs s with
 |some v=>Zg7 rs k v s
 |none=>none
abbrev Step:=Sum (List Fr×Cf×S) (XP)
def stepO(ks:List Fr)(os:List MO)(keep:V2):Option S->Step
 |some s=>.inl (ks,.ops os keep,s)
 |none=>.inr none
def Zb2(ks:List Fr)(os:List MO)(keep:V2):Option S->Step
 |some s=>.inl (ks,.opsF os keep,s)
 |none=>.inr none
def stepD(ks:List Fr)(os:List MO)(feet:List Foot)(before:List (V2))(keep:V2):Option (Foot×S)->Step
 |some (f,s)=>.inl (ks,.drw os (feet++[f]) before keep,s)
 |none=>.inr none
def stepC(ks:List Fr)(x y:MCode)(s:S):AV->Step
 |.t (.bool b)=>if b=true then .inl (ks,.code x,s)else .inl (ks,.code y,s)
 |_=>.inr none
noncomputable def step(C:Z0):List Fr->Cf->S->Step
 |ks,.code .skip,s=>.inl (ks,.out .n,s)
 |ks,.code (.reg ops keep),s=>.inl (ks,.ops ops keep,s)
 |ks,.code (.regF ops keep),s=>.inl (ks,.opsF ops keep,s)
 |ks,.code (.drw ops b keep),s=>.inl (ks,.drw ops [] b keep,s)
 |ks,.code (.drwF ops b keep),s=>.inl (ks,.drw ops [] b keep,fzD ops s)
 |ks,.code (.seq a b),s=>.inl (.seq b::ks,.code a,s)
 |ks,.code (.cond c x y),s=>stepC ks x y s (ev s.env c)
 |ks,.code (.block id b),s=>.inl (.blk id::ks,.code b,s)
 |ks,.code (.loop keep b),s=>.inl (.loop keep b::ks,.code b,VQ keep s)
 |ks,.code (.exit id),s=>.inl (ks,.out (.x id),s)
 |ks,.code .ret,s=>.inl (ks,.out .r,s)
 |ks,.ops [] keep,s=>.inl (ks,.out .n,{ s with env:=rst keep s.env })
 |ks,.ops (o::os) keep,s=>stepO ks os keep (opE C o s)
 |ks,.opsF [] keep,s=>.inl (ks,.out .n,{ s with env:=rst keep s.env })
 |ks,.opsF (o::os) keep,s=>Zb2 ks os keep (opE C o (fzO o s))
 |ks,.drw [] feet before keep,s=>if QB before feet=true then .inl (ks,.out .n,{ s with env:=rst keep s.env })else .inr none
 |ks,.drw (o::os) feet before keep,s=>stepD ks os feet before keep (opF C o s)
 |[],.out _,_=>.inr none
 |.fin _ _::_,.out (.x _),_=>.inr none
 |.fin k rs::_,.out .n,s=>.inr (finE k rs s)
 |.fin k rs::_,.out .r,s=>.inr (finE k rs s)
 |.seq b::ks,.out .n,s=>.inl (ks,.code b,s)
 |.seq _::ks,.out x,s=>.inl (ks,.out x,s)
 |.blk id::ks,.out (.x i),s=>if i=id then .inl (ks,.out .n,s)else .inl (ks,.out (.x i),s)
 |.blk _::ks,.out x,s=>.inl (ks,.out x,s)
 |.loop keep b::ks,.out .n,s=>.inl (ks,.code (.loop keep b),s)
 |.loop _ _::ks,.out x,s=>.inl (ks,.out x,s)
noncomputable def runN(C:Z0):Nat->List Fr->Cf->S->XP
 |0,_,_,_=>none
 |n+1,ks,cf,s=>match step C ks cf s with
  |.inl (ks',cf',s')=>runN C n ks' cf' s'
  |.inr r=>r
theorem Zeb{C:Z0}:∀(n:Nat) {m:Nat} {ks:List Fr} {cf:Cf} {s:S} {r:XR},runN C n ks cf s=some r->n<=m->runN C m ks cf s=some r
 |0,_,_,_,_,_,h,_=>by cases h
 |n+1,0,_,_,_,_,_,hm=>by omega
 |n+1,m+1,ks,cf,s,r,h,hm=>by
  simp only[runN]at h|-;split at h
  .rename_i h1;exact Zeb n h (by omega)
  .rename_i h1;exact h
variable{s:S}{r:XR}{p:Nat->XP}{n:Nat}
theorem runN_det{C:Z0}{m:Nat}{ks:List Fr}{cf:Cf}{r':XR}(h:runN C n ks cf s=some r)(h':runN C m ks cf s=some r'):r=r':=by
 rcases Nat.le_total n m with hl|hl
 .have:=Zeb n h hl;rw[h']at this;cases this;rfl
 .have:=Zeb m h' hl;rw[h]at this;cases this;rfl
open Classical in
noncomputable def limP(p:XR->Prop):XP:=if h:∃r,p r then some h.choose else none
noncomputable def lim(p:Nat->XP):XP:=limP λr=>∃n,p n=some r
theorem J5(h:lim p=some r):∃n,p n=some r:=by
 unfold lim limP at h;split at h
 .rename_i hx;cases h;exact hx.choose_spec
 .cases h
theorem lim_eq(det:∀n m r r',p n=some r->p m=some r'->r=r')(h:p n=some r):lim p=some r:=by
 have hx:∃r,∃n,p n=some r:=⟨r,n,h⟩;unfold lim limP;rw[dif_pos hx];obtain⟨m,hm⟩:=hx.choose_spec;rw[det _ _ _ _ hm h]
theorem Z3b{q:Nat->XP}(h:∀r,(∃n,p n=some r)↔∃n,q n=some r):lim p=lim q:=by
 have:(λr=>∃n,p n=some r)=λr=>∃n,q n=some r:=funext λr=>propext (h r)
 unfold lim;rw[this]
noncomputable def Lim(C:Z0)(ks:List Fr)(cf:Cf)(s:S):XP:=lim λn=>runN C n ks cf s
theorem ZrW{C:Z0}{ks:List Fr}{cf:Cf}(h:Lim C ks cf s=some r):∃n,runN C n ks cf s=some r:=J5 h
theorem Xo{C:Z0}{ks ks':List Fr}{cf cf':Cf}{s':S}(h:step C ks cf s=.inl (ks',cf',s')):Lim C ks cf s=Lim C ks' cf' s':=by
 refine Z3b λr=>⟨?_,?_⟩
 .rintro⟨n,hn⟩
  cases n with
  |zero=>cases hn
  |succ n=>simp only[runN,h]at hn;exact⟨n,hn⟩
 .rintro⟨n,hn⟩;exact⟨n+1,by simp only[runN,h];exact hn⟩
theorem J6{C:Z0}{ks:List Fr}{cf:Cf}{r:XP}(h:step C ks cf s=.inr r):Lim C ks cf s=r:=by
 cases r with
 |some r=>exact lim_eq (λn m r r' h h'=>runN_det h h') (n:=1) (by simp only[runN,h])
 |none =>
  cases hl:Lim C ks cf s with
  |none=>rfl
  |some r =>
   obtain⟨n,hn⟩:=ZrW hl
   cases n with
   |zero=>cases hn
   |succ n=>simp only[runN,h]at hn;cases hn
noncomputable def Ev(C:Z0)(ks:List Fr)(c:MCode)(s:S):XP:=Lim C ks (.code c) s
noncomputable def EvX(C:Z0)(ks:List Fr)(x:X)(s:S):XP:=Lim C ks (.out x) s
noncomputable def EvO(C:Z0)(ks:List Fr)(os:List MO)(keep:V2)(s:S):XP:=Lim C ks (.ops os keep) s
noncomputable def EvOF(C:Z0)(ks:List Fr)(os:List MO)(keep:V2)(s:S):XP:=Lim C ks (.opsF os keep) s
noncomputable def EvD(C:Z0)(ks:List Fr)(os:List MO)(feet:List Foot)(before:List (V2))(keep:V2)(s:S):XP:=Lim C ks (.drw os feet before keep) s
noncomputable def EvL(C:Z0)(ks:List Fr)(keep:V2)(b:MCode)(s:S):XP:=Ev C (.loop keep b::ks) b s
noncomputable def EvS(C:Z0)(ks:List Fr)(os:List MO)(keep:V2):Option S->XP
 |some s=>EvO C ks os keep s
 |none=>none
noncomputable def EvSF(C:Z0)(ks:List Fr)(os:List MO)(keep:V2):Option S->XP
 |some s=>EvOF C ks os keep s
 |none=>none
noncomputable def EvF(C:Z0)(ks:List Fr)(os:List MO)(feet:List Foot)(before:List (V2))(keep:V2):Option (Foot×S)->XP
 |some (f,s)=>EvD C ks os (feet++[f]) before keep s
 |none=>none
noncomputable def EvC(C:Z0)(ks:List Fr)(x y:MCode)(s:S):AV->XP
 |.t (.bool b)=>if b=true then Ev C ks x s else Ev C ks y s
 |_=>none
section
variable{C:Z0}{ks:List Fr}{s:S}{a b x y:MCode}{os:List MO}{o:MO}{keep:V2}{id i:Nat}{feet:List Foot}{before:List (V2)}{k:Nat}{rs:List Res}
theorem Ev_skip:Ev C ks .skip s=EvX C ks .n s:=Xo rfl
theorem Ev_reg:Ev C ks (.reg os keep) s=EvO C ks os keep s:=Xo rfl
theorem Ev_regF:Ev C ks (.regF os keep) s=EvOF C ks os keep s:=Xo rfl
theorem Ev_drw:Ev C ks (.drw os before keep) s=EvD C ks os [] before keep s:=Xo rfl
theorem Ev_drwF:Ev C ks (.drwF os before keep) s=EvD C ks os [] before keep (fzD os s):=Xo rfl
theorem Ev_seq:Ev C ks (.seq a b) s=Ev C (.seq b::ks) a s:=Xo rfl
theorem Ev_cond{c:Opd}:Ev C ks (.cond c x y) s=EvC C ks x y s (ev s.env c):=by
 unfold EvC;split
 .rename_i b hb;cases b
  .exact Xo (by simp[step,hb,stepC])
  .exact Xo (by simp[step,hb,stepC])
 .rename_i hb;refine J6 ?_;simp only[step];unfold stepC;split
  .rename_i b hb2;exact absurd hb2 (hb b)
  .rfl
theorem Ev_block:Ev C ks (.block id b) s=Ev C (.blk id::ks) b s:=Xo rfl
theorem Ev_loop:Ev C ks (.loop keep b) s=Ev C (.loop keep b::ks) b (VQ keep s):=Xo rfl
theorem Zl{B c:MCode}(hB:B=c):EvL C ks keep B s=Ev C (.loop keep B::ks) c s:=by subst hB;rfl
theorem ZrX:Ev C ks (.loop keep b) s=EvL C ks keep b (VQ keep s):=Ev_loop
theorem EvD_nil':EvD C ks [] feet before keep s=if QB before feet=true then EvX C ks .n { s with env:=rst keep s.env } else none:=by
 split
 .rename_i h;exact Xo (by simp[step,h])
 .rename_i h;exact J6 (by simp[step,h])
theorem Ev_exit:Ev C ks (.exit id) s=EvX C ks (.x id) s:=Xo rfl
theorem Ev_ret:Ev C ks .ret s=EvX C ks .r s:=Xo rfl
theorem EvO_nil:EvO C ks [] keep s=EvX C ks .n { s with env:=rst keep s.env }:=Xo rfl
theorem EvO_cons:EvO C ks (o::os) keep s=EvS C ks os keep (opE C o s):=by
 cases h:opE C o s with
 |some s'=>exact Xo (by simp[step,h,stepO])
 |none =>
  show Lim C ks (.ops (o::os) keep) s=none;exact J6 (by simp[step,h,stepO])
theorem EvOF_nil:EvOF C ks [] keep s=EvX C ks .n { s with env:=rst keep s.env }:=Xo rfl
theorem Z3c:EvOF C ks (o::os) keep s=EvSF C ks os keep (opE C o (fzO o s)):=by
 cases h:opE C o (fzO o s)with
 |some s'=>exact Xo (by simp[step,h,Zb2])
 |none =>
  show Lim C ks (.opsF (o::os) keep) s=none;exact J6 (by simp[step,h,Zb2])
theorem Z3d:EvSF C ks os keep (some s)=EvOF C ks os keep s:=rfl
theorem EvS_some:EvS C ks os keep (some s)=EvO C ks os keep s:=rfl
theorem EvD_cons:EvD C ks (o::os) feet before keep s=EvF C ks os feet before keep (opF C o s):=by
 cases h:opF C o s with
 |some p=>obtain⟨f,s'⟩:=p;exact Xo (by simp[step,h,stepD])
 |none =>
  show Lim C ks (.drw (o::os) feet before keep) s=none;exact J6 (by simp[step,h,stepD])
theorem EvF_some{f:Foot}:EvF C ks os feet before keep (some (f,s))=EvD C ks os (feet++[f]) before keep s:=rfl
theorem EvC_bool{v:Bool}:EvC C ks x y s (.t (.bool v))=if v=true then Ev C ks x s else Ev C ks y s:=rfl
theorem Z3e:EvX C (.fin k rs::ks) .n s=finE k rs s:=J6 rfl
theorem Z3f:EvX C (.fin k rs::ks) .r s=finE k rs s:=J6 rfl
theorem Z3g:EvX C (.seq b::ks) .n s=Ev C ks b s:=Xo rfl
theorem Z3h:EvX C (.seq b::ks) (.x i) s=EvX C ks (.x i) s:=Xo rfl
theorem Z3i:EvX C (.seq b::ks) .r s=EvX C ks .r s:=Xo rfl
theorem Z3j:EvX C (.blk id::ks) .n s=EvX C ks .n s:=Xo rfl
theorem Z3k:EvX C (.blk id::ks) (.x i) s=if i=id then EvX C ks .n s else EvX C ks (.x i) s:=by
 split
 .rename_i h;exact Xo (by simp[step,h])
 .rename_i h;exact Xo (by simp[step,h])
theorem Z3l:EvX C (.blk id::ks) .r s=EvX C ks .r s:=Xo rfl
theorem Z3m:EvX C (.loop keep b::ks) .n s=Ev C ks (.loop keep b) s:=Xo rfl
theorem Z3n:EvX C (.loop keep b::ks) .n s=EvL C ks keep b (VQ keep s):=by rw[Z3m,ZrX]
theorem Z3o:EvX C (.loop keep b::ks) (.x i) s=EvX C ks (.x i) s:=Xo rfl
theorem Z3p:EvX C (.loop keep b::ks) .r s=EvX C ks .r s:=Xo rfl
end
noncomputable def Xp(X:Z0)(tbl:Nat->Option MFun):Nat->Z0
 |0=>λ_ _ _=>none
 |n+1=>λf as h0=>match tbl f with
  |some m=>if as.length=m.np then runN (Xp X tbl n) n [.fin h0.length m.res] (.code m.body) ⟨UA as 0,[Um h0 0],h0⟩else none
  |none=>X f as h0
def LeE(C C':Z0):Prop:=∀f as h0 r,C f as h0=some r->C' f as h0=some r
theorem Zhd{h:V1}{x:AV}{q:Option (AV×List (Nat×Blk))}{v:AV}{u:List (Nat×Blk)}(hp:packV h x q=some (v,u)):∃u1 u2,q=some (v,u1)/\Ui h u1 x=some u2/\u=u1++u2:=by
 cases q with
 |none=>cases hp
 |some p =>
  obtain⟨v1,u1⟩:=p;simp only[packV]at hp
  cases hx:Ui h u1 x with
  |none=>rw[hx]at hp;cases hp
  |some u2=>rw[hx]at hp;cases hp;exact⟨u1,u2,rfl,hx,rfl⟩
theorem ZrY{C C':Z0}(h:LeE C C'){k:MOp}{s:S}{p:AV×List (Nat×Blk)}(hr:runV C k s=some p):runV C' k s=some p:=by
 have m:∀f vs ids,Vm C f vs s.h s.h.length ids=some p->Vm C' f vs s.h s.h.length ids=some p:=by
  intro f vs ids hr;unfold Vm at hr|-;split at hr
  .rename_i hc;rw[Ya hc]
   cases hx:C f (subA ids vs) (subH s.h ids)with
   |none=>rw[hx]at hr;cases hr
   |some q=>rw[h _ _ _ _ hx];rw[hx]at hr;exact hr
  .cases hr
 cases k<;>first|exact hr|skip
 .rename_i f args;simp only[runV]at hr|-
  cases hf:frzs s.h (args.map (ev s.env))with
  |none=>rw[hf]at hr;cases hr
  |some as =>
   rw[hf]at hr;simp only[callA]at hr|-
   cases hx:C f as []with
   |none=>rw[hx]at hr;cases hr
   |some q=>rw[h _ _ _ _ hx];rw[hx]at hr;exact hr
 .rename_i f args;simp only[runV]at hr|-
  cases hf:frzs s.h (args.map (ev s.env))with
  |none=>rw[hf]at hr;cases hr
  |some as =>
   rw[hf]at hr;simp only[Zby]at hr|-
   cases hx:C f as []with
   |none=>rw[hx]at hr;cases hr
   |some q=>rw[h _ _ _ _ hx];rw[hx]at hr;exact hr
 .rename_i f args;simp only[runV]at hr|-
  cases hf:frzs s.h (args.map (ev s.env))with
  |none=>rw[hf]at hr;cases hr
  |some as =>
   rw[hf]at hr;simp only[Zbz]at hr|-;split at hr
   .rename_i hno;rw[Ya hno]
    cases hx:C f as []with
    |none=>rw[hx]at hr;cases hr
    |some q=>rw[h _ _ _ _ hx];rw[hx]at hr;exact hr
   .cases hr
 .exact m _ _ _ hr
 .rename_i f args p';simp only[runV]at hr|-;obtain⟨v,u⟩:=p;obtain⟨u1,u2,q1,q2,rfl⟩:=Zhd hr;have m':∀p f vs ids,Vm C f vs s.h s.h.length ids=some p->Vm C' f vs s.h s.h.length ids=some p:=by
   intro p f vs ids hr;unfold Vm at hr|-;split at hr
   .rename_i hc;rw[Ya hc]
    cases hx:C f (subA ids vs) (subH s.h ids)with
    |none=>rw[hx]at hr;cases hr
    |some q=>rw[h _ _ _ _ hx];rw[hx]at hr;exact hr
   .cases hr
  rw[m' _ _ _ _ q1];simp[packV,q2,packW]
 .rename_i f args;simp only[runV,Zb0]at hr|-;split at hr
  .rename_i hc;rw[Ya hc]
   cases hx:C f (subA (Z2 s.h (args.map (ev s.env))) (args.map (ev s.env))) (subH s.h (Z2 s.h (args.map (ev s.env))))with
   |none=>rw[hx]at hr;cases hr
   |some q=>rw[h _ _ _ _ hx];rw[hx]at hr;exact hr
  .cases hr
 .rename_i x args;simp only[runV]at hr|-;unfold Zb1 at hr|-;split at hr
  .exact m _ _ _ hr
  .cases hr
theorem ZrZ{C C':Z0}(h:LeE C C'){o:MO}{s s':S}(hr:runE C o s=some s'):runE C' o s=some s':=by
 unfold runE at hr|-
 cases hx:runV C o.op s with
 |none=>rw[hx]at hr;cases hr
 |some p=>rw[ZrY h hx];rw[hx]at hr;exact hr
theorem Zsa{C C':Z0}(h:LeE C C'){o:MO}{s:S}{s':Foot×S}(hr:runF C o s=some s'):runF C' o s=some s':=by
 unfold runF at hr|-
 cases hx:runV C o.op s with
 |none=>rw[hx]at hr;cases hr
 |some p=>rw[ZrY h hx];rw[hx]at hr;exact hr
theorem Zsb{C C':Z0}(h:LeE C C'){o:MO}{s s':S}(hr:opE C o s=some s'):opE C' o s=some s':=by
 unfold opE at hr|-
 cases hg:o.guard with
 |none=>simp only[hg]at hr|-;exact ZrZ h hr
 |some p =>
  obtain⟨g,want⟩:=p;simp only[hg]at hr|-;unfold ZdZ at hr|-;split at hr
  .split at hr
   .rename_i hb;simp only[hb,if_true];exact ZrZ h hr
   .rename_i hb;simp only[hb,if_false];exact hr
  .exact hr
  .cases hr
theorem opF_mono{C C':Z0}(h:LeE C C'){o:MO}{s:S}{s':Foot×S}(hr:opF C o s=some s'):opF C' o s=some s':=by
 unfold opF at hr|-
 cases hg:o.guard with
 |none=>simp only[hg]at hr|-;exact Zsa h hr
 |some p =>
  obtain⟨g,want⟩:=p;simp only[hg]at hr|-;unfold Zea at hr|-;split at hr
  .split at hr
   .rename_i hb;simp only[hb,if_true];exact Zsa h hr
   .rename_i hb;simp only[hb,if_false];exact hr
  .exact hr
  .cases hr
theorem ZkH{C C':Z0}(h:LeE C C'){ks:List Fr}{cf:Cf}{s:S}:(∀c,step C ks cf s=.inl c->step C' ks cf s=.inl c)/\∀r,step C ks cf s=.inr (some r)->step C' ks cf s=.inr (some r):=by
 have key:(∃o os keep,cf=.ops (o::os) keep)\/(∃o os feet before keep,cf=.drw (o::os) feet before keep)\/(∃o os keep,cf=.opsF (o::os) keep)\/step C ks cf s=step C' ks cf s:=by
  cases cf with
  |code c=>cases c<;>exact .inr (.inr (.inr rfl))
  |ops os keep =>
   cases os with
   |nil=>exact .inr (.inr (.inr rfl))
   |cons o os=>exact .inl ⟨o,os,keep,rfl⟩
  |opsF os keep =>
   cases os with
   |nil=>exact .inr (.inr (.inr rfl))
   |cons o os=>exact .inr (.inr (.inl ⟨o,os,keep,rfl⟩))
  |drw os feet before keep =>
   cases os with
   |nil=>exact .inr (.inr (.inr rfl))
   |cons o os=>exact .inr (.inl ⟨o,os,feet,before,keep,rfl⟩)
  |out x =>
   refine .inr (.inr (.inr ?_))
   cases ks with
   |nil=>rfl
   |cons k ks=>cases k<;>cases x<;>rfl
 rcases key with⟨o,os,keep,rfl⟩|⟨o,os,feet,before,keep,rfl⟩|⟨o,os,keep,rfl⟩|he
 .simp only[step]
  cases hx:opE C o s with
  |none=>simp[stepO]
  |some s'=>rw[Zsb h hx];exact⟨λ_ h=>h,λ_ h=>h⟩
 .simp only[step]
  cases hx:opF C o s with
  |none=>simp[stepD]
  |some s'=>rw[opF_mono h hx];exact⟨λ_ h=>h,λ_ h=>h⟩
 .simp only[step]
  cases hx:opE C o (fzO o s)with
  |none=>simp[Zb2]
  |some s'=>rw[Zsb h hx];exact⟨λ_ h=>h,λ_ h=>h⟩
 .rw[he];exact⟨λ_ h=>h,λ_ h=>h⟩
theorem Zec{C C':Z0}(h:LeE C C'):∀(n:Nat) {ks:List Fr} {cf:Cf} {s:S} {r:XR},runN C n ks cf s=some r->runN C' n ks cf s=some r
 |0,_,_,_,_,hr=>by cases hr
 |n+1,ks,cf,s,r,hr=>by
  simp only[runN]at hr|-;split at hr
  .rename_i h1;rw[(ZkH h).1 _ h1];exact Zec h n hr
  .rename_i h1;subst hr;rw[(ZkH h).2 _ h1]
theorem Zsc{X:Z0}{tbl:Nat->Option MFun}:∀n,LeE (Xp X tbl n) (Xp X tbl (n+1))
 |0=>λ_ _ _ _ h=>by cases h
 |n+1=>λf as h0 r h=>by
  simp only[Xp]at h;rw[Xp]
  cases hm:tbl f with
  |none=>simp only[hm]at h|-;exact h
  |some m =>
   simp only[hm]at h|-;split at h
   .rename_i hl;rw[Ya hl];exact Zeb _ (Zec (Zsc n) n h) (Nat.le_succ n)
   .cases h
theorem Zed{X:Z0}{tbl:Nat->Option MFun}{n m:Nat}(h:n<=m):LeE (Xp X tbl n) (Xp X tbl m):=by
 induction h with
 |refl=>exact λ_ _ _ _ h=>h
 |step _ ih=>exact λf as h0 r h=>Zsc _ f as h0 r (ih f as h0 r h)
theorem Z3q{X:Z0}{tbl:Nat->Option MFun}{f:Nat}{as:XQ}{h0:V1}(n m:Nat)(r r':XR)(h:Xp X tbl n f as h0=some r)(h':Xp X tbl m f as h0=some r'):r=r':=by
 have h1:=Zed (Nat.le_max_left n m) f as h0 r h;have h2:=Zed (Nat.le_max_right n m) f as h0 r' h';rw[h1]at h2;cases h2;rfl
noncomputable def Xy(X:Z0)(tbl:Nat->Option MFun):Z0:=λf as h0=>lim λn=>Xp X tbl n f as h0
theorem ZkI{X:Z0}{tbl:Nat->Option MFun}(n:Nat):LeE (Xp X tbl n) (Xy X tbl):=λ_ _ _ _ h=>lim_eq (λn m r r' h h'=>Z3q n m r r' h h') h
theorem Zhe{X:Z0}{tbl:Nat->Option MFun}{f:Nat}{as:XQ}{h0:V1}(ht:tbl f=none){r:XR}(h:X f as h0=some r):Xy X tbl f as h0=some r:=ZkI 1 f as h0 r (by simp only[Xp,ht];exact h)
theorem Zsd{X:Z0}{tbl:Nat->Option MFun}{k:MOp}{s:S}{p:AV×List (Nat×Blk)}(hr:runV (Xy X tbl) k s=some p):∃n,runV (Xp X tbl n) k s=some p:=by
 have m:∀p f vs ids,Vm (Xy X tbl) f vs s.h s.h.length ids=some p->∃n,Vm (Xp X tbl n) f vs s.h s.h.length ids=some p:=by
  intro p f vs ids hr;unfold Vm at hr|-;split at hr
  .rename_i hc
   cases hx:Xy X tbl f (subA ids vs) (subH s.h ids)with
   |none=>rw[hx]at hr;cases hr
   |some q =>
    obtain⟨n,hn⟩:=J5 hx;exact⟨n,by rw[Ya hc,hn];rw[hx]at hr;exact hr⟩
  .cases hr
 cases k<;>first|exact⟨0,hr⟩|skip
 .rename_i f args;simp only[runV]at hr|-
  cases hf:frzs s.h (args.map (ev s.env))with
  |none=>rw[hf]at hr;cases hr
  |some as =>
   rw[hf]at hr;simp only[callA]at hr|-
   cases hx:Xy X tbl f as []with
   |none=>rw[hx]at hr;cases hr
   |some q =>
    obtain⟨n,hn⟩:=J5 hx;exact⟨n,by rw[hn];rw[hx]at hr;exact hr⟩
 .rename_i f args;simp only[runV]at hr|-
  cases hf:frzs s.h (args.map (ev s.env))with
  |none=>rw[hf]at hr;cases hr
  |some as =>
   rw[hf]at hr;simp only[Zby]at hr|-
   cases hx:Xy X tbl f as []with
   |none=>rw[hx]at hr;cases hr
   |some q =>
    obtain⟨n,hn⟩:=J5 hx;exact⟨n,by rw[hn];rw[hx]at hr;exact hr⟩
 .rename_i f args;simp only[runV]at hr|-
  cases hf:frzs s.h (args.map (ev s.env))with
  |none=>rw[hf]at hr;cases hr
  |some as =>
   rw[hf]at hr;simp only[Zbz]at hr|-;split at hr
   .rename_i hno;simp only[Ya hno]
    cases hx:Xy X tbl f as []with
    |none=>rw[hx]at hr;cases hr
    |some q =>
     obtain⟨n,hn⟩:=J5 hx;exact⟨n,by rw[hn];rw[hx]at hr;exact hr⟩
   .cases hr
 .exact m _ _ _ _ hr
 .rename_i f args p';simp only[runV]at hr|-;obtain⟨v,u⟩:=p;obtain⟨u1,u2,q1,q2,rfl⟩:=Zhd hr;obtain⟨n,hn⟩:=m _ _ _ _ q1;exact⟨n,by rw[hn];simp[packV,q2,packW]⟩
 .rename_i f args;simp only[runV,Zb0]at hr|-;split at hr
  .rename_i hc
   cases hx:Xy X tbl f (subA (Z2 s.h (args.map (ev s.env))) (args.map (ev s.env))) (subH s.h (Z2 s.h (args.map (ev s.env))))with
   |none=>rw[hx]at hr;cases hr
   |some q =>
    obtain⟨n,hn⟩:=J5 hx;exact⟨n,by rw[Ya hc,hn];rw[hx]at hr;exact hr⟩
  .cases hr
 .rename_i x args;simp only[runV]at hr|-;unfold Zb1 at hr|-;split at hr
  .exact m _ _ _ _ hr
  .cases hr
theorem Zse{X:Z0}{tbl:Nat->Option MFun}{o:MO}{s s':S}(hr:runE (Xy X tbl) o s=some s'):∃n,runE (Xp X tbl n) o s=some s':=by
 unfold runE at hr|-
 cases hx:runV (Xy X tbl) o.op s with
 |none=>rw[hx]at hr;cases hr
 |some p =>
  obtain⟨n,hn⟩:=Zsd hx;exact⟨n,by rw[hn];rw[hx]at hr;exact hr⟩
theorem Zsf{X:Z0}{tbl:Nat->Option MFun}{o:MO}{s:S}{s':Foot×S}(hr:runF (Xy X tbl) o s=some s'):∃n,runF (Xp X tbl n) o s=some s':=by
 unfold runF at hr|-
 cases hx:runV (Xy X tbl) o.op s with
 |none=>rw[hx]at hr;cases hr
 |some p =>
  obtain⟨n,hn⟩:=Zsd hx;exact⟨n,by rw[hn];rw[hx]at hr;exact hr⟩
theorem Zsg{X:Z0}{tbl:Nat->Option MFun}{o:MO}{s s':S}(hr:opE (Xy X tbl) o s=some s'):∃n,opE (Xp X tbl n) o s=some s':=by
 unfold opE at hr|-
 cases hg:o.guard with
 |none=>simp only[hg]at hr|-;exact Zse hr
 |some p =>
  obtain⟨g,want⟩:=p;simp only[hg]at hr|-;unfold ZdZ at hr|-;split at hr
  .split at hr
   .rename_i hb;simp only[hb,if_true];exact Zse hr
   .rename_i hb;simp only[hb,if_false];exact⟨0,hr⟩
  .exact⟨0,hr⟩
  .cases hr
theorem opF_fin{X:Z0}{tbl:Nat->Option MFun}{o:MO}{s:S}{s':Foot×S}(hr:opF (Xy X tbl) o s=some s'):∃n,opF (Xp X tbl n) o s=some s':=by
 unfold opF at hr|-
 cases hg:o.guard with
 |none=>simp only[hg]at hr|-;exact Zsf hr
 |some p =>
  obtain⟨g,want⟩:=p;simp only[hg]at hr|-;unfold Zea at hr|-;split at hr
  .split at hr
   .rename_i hb;simp only[hb,if_true];exact Zsf hr
   .rename_i hb;simp only[hb,if_false];exact⟨0,hr⟩
  .exact⟨0,hr⟩
  .cases hr
theorem Zsh{X:Z0}{tbl:Nat->Option MFun}{ks:List Fr}{cf:Cf}{s:S}{c:Step}(hc:c≠.inr none)(h:step (Xy X tbl) ks cf s=c):∃n,step (Xp X tbl n) ks cf s=c:=by
 have key:(∃o os keep,cf=.ops (o::os) keep)\/(∃o os feet before keep,cf=.drw (o::os) feet before keep)\/(∃o os keep,cf=.opsF (o::os) keep)\/step (Xp X tbl 0) ks cf s=step (Xy X tbl) ks cf s:=by
  cases cf with
  |code c=>cases c<;>exact .inr (.inr (.inr rfl))
  |ops os keep =>
   cases os with
   |nil=>exact .inr (.inr (.inr rfl))
   |cons o os=>exact .inl ⟨o,os,keep,rfl⟩
  |opsF os keep =>
   cases os with
   |nil=>exact .inr (.inr (.inr rfl))
   |cons o os=>exact .inr (.inr (.inl ⟨o,os,keep,rfl⟩))
  |drw os feet before keep =>
   cases os with
   |nil=>exact .inr (.inr (.inr rfl))
   |cons o os=>exact .inr (.inl ⟨o,os,feet,before,keep,rfl⟩)
  |out x =>
   refine .inr (.inr (.inr ?_))
   cases ks with
   |nil=>rfl
   |cons k ks=>cases k<;>cases x<;>rfl
 rcases key with⟨o,os,keep,rfl⟩|⟨o,os,feet,before,keep,rfl⟩|⟨o,os,keep,rfl⟩|he
 .simp only[step]at h|-
  cases hx:opE (Xy X tbl) o s with
  |none=>rw[hx]at h;exact absurd h.symm hc
  |some s' =>
   obtain⟨n,hn⟩:=Zsg hx;exact⟨n,by rw[hn,<-hx];exact h⟩
 .simp only[step]at h|-
  cases hx:opF (Xy X tbl) o s with
  |none=>rw[hx]at h;exact absurd h.symm hc
  |some s' =>
   obtain⟨n,hn⟩:=opF_fin hx;exact⟨n,by rw[hn,<-hx];exact h⟩
 .simp only[step]at h|-
  cases hx:opE (Xy X tbl) o (fzO o s)with
  |none=>rw[hx]at h;exact absurd h.symm hc
  |some s' =>
   obtain⟨n,hn⟩:=Zsg hx;exact⟨n,by rw[hn,<-hx];exact h⟩
 .exact⟨0,by rw[he];exact h⟩
theorem Zsi{X:Z0}{tbl:Nat->Option MFun}:∀(n:Nat) {ks:List Fr} {cf:Cf} {s:S} {r:XR},runN (Xy X tbl) n ks cf s=some r->∃k,runN (Xp X tbl k) n ks cf s=some r
 |0,_,_,_,_,h=>by cases h
 |n+1,ks,cf,s,r,h=>by
  simp only[runN]at h;split at h
  .rename_i ks' cf' s' h1;obtain⟨k,hk⟩:=Zsh (by intro hc;cases hc) h1;obtain⟨k2,hk2⟩:=Zsi n h;refine⟨max k k2,?_⟩;simp only[runN];rw[(ZkH (Zed (Nat.le_max_left k k2))).1 _ hk];exact Zec (Zed (Nat.le_max_right k k2)) n hk2
  .rename_i h1;subst h;obtain⟨k,hk⟩:=Zsh (by intro hc;cases hc) h1;exact⟨k,by simp only[runN,hk]⟩
theorem Zsj{X:Z0}{tbl:Nat->Option MFun}{f:Nat}{as:XQ}{h0:V1}{m:MFun}(ht:tbl f=some m)(hl:as.length=m.np){r:XR}(h:Ev (Xy X tbl) [.fin h0.length m.res] m.body ⟨UA as 0,[Um h0 0],h0⟩=some r):Xy X tbl f as h0=some r:=by
 obtain⟨n,hn⟩:=ZrW h;obtain⟨k,hk⟩:=Zsi n hn;refine ZkI (max n k+1) f as h0 r ?_;simp only[Xp,ht,hl,if_true];exact Zeb n (Zec (Zed (Nat.le_max_right n k)) n hk) (Nat.le_max_left n k)
theorem ZkJ{p:Nat->Prop}(h:∃n,p n):∃n,p n/\∀m,p m->n<=m:=by
 obtain⟨n,hn⟩:=h
 induction n using Nat.strongRecOn with
 |ind n ih =>
  by_cases hx:∃m,m<n/\p m
  .obtain⟨m,h1,h2⟩:=hx;exact ih m h1 h2
  .refine⟨n,hn,λm hm=>?_⟩;by_cases hl:m<n
   .exact absurd ⟨m,hl,hm⟩ hx
   .omega
section
variable{Γ:Ctr}{C:Z0}{s s':S}{o:MO}{f nx:Nat}{h:V1}{v:AV}{u:List (Nat×Blk)}{K K':S->Prop}{args vs:XQ}{r:XR}
def Qf(C:Z0)(r:XR)(m:Nat)(ks:List Fr):X->S->Prop:=λx s=>∃k,k<m/\runN C k ks (.out x) s=some r
theorem Zsk(hK:∀s,K s->K' s)(h:runW Γ o s K):runW Γ o s K':=by
 unfold runW at h|-;split at h
 .obtain⟨as,h1,r,hr,h2,h3,h4⟩:=h;exact⟨as,h1,r,hr,h2,h3,hK _ h4⟩
 .obtain⟨as,h1,r,hr,h2,h3,h4⟩:=h;exact⟨as,h1,r,hr,h2,h3,hK _ h4⟩
 .obtain⟨as,h1,hno,r,hr,d,h2,h3,h4⟩:=h;exact⟨as,h1,hno,r,hr,d,h2,h3,hK _ h4⟩
 .obtain⟨h1,r,h2,h3,h4⟩:=h;exact⟨h1,r,h2,h3,hK _ h4⟩
 .obtain⟨h1,r,h2,h3,u2,h4,h5⟩:=h;exact⟨h1,r,h2,h3,u2,h4,hK _ h5⟩
 .obtain⟨h1,r,h2,h3,h4⟩:=h;exact⟨h1,r,h2,h3,hK _ h4⟩
 .split at h
  .obtain⟨h1,r,h2,h3,h4⟩:=h;exact⟨h1,r,h2,h3,hK _ h4⟩
  .exact h.elim
 .split at h
  .exact hK _ h
  .exact h.elim
theorem Zsl(hK:∀s,K s->K' s)(h:opW Γ o s K):opW Γ o s K':=by
 unfold opW at h|-;split at h
 .exact Zsk hK h
 .split at h
  .split at h
   .rename_i hb;simp only[hb,if_true];exact Zsk hK h
   .rename_i hb;simp only[hb,if_false];exact hK _ h
  .exact hK _ h
  .exact h.elim
theorem Zhf:∀(os:List MO) {s:S} {K K':S->Prop},(∀s,K s->K' s)->regW Γ os s K->regW Γ os s K'
 |[],_,_,_,hK,h=>hK _ h
 |_::os,_,_,_,hK,h=>Zsl (λ_ h'=>Zhf os hK h') h
theorem Zhg:∀(os:List MO) {s:S} {K K':S->Prop},(∀s,K s->K' s)->Qh Γ os s K->Qh Γ os s K'
 |[],_,_,_,hK,h=>hK _ h
 |_::os,_,_,_,hK,h=>Zsl (λ_ h'=>Zhg os hK h') h
theorem Zsm{K K':Foot->S->Prop}(hK:∀f s,K f s->K' f s)(h:WQ Γ o s K):WQ Γ o s K':=by
 unfold WQ at h|-;split at h
 .obtain⟨as,h1,r,hr,h2,h3,h4⟩:=h;exact⟨as,h1,r,hr,h2,h3,hK _ _ h4⟩
 .obtain⟨as,h1,r,hr,h2,h3,h4⟩:=h;exact⟨as,h1,r,hr,h2,h3,hK _ _ h4⟩
 .obtain⟨as,h1,hno,r,hr,d,h2,h3,h4⟩:=h;exact⟨as,h1,hno,r,hr,d,h2,h3,hK _ _ h4⟩
 .obtain⟨h1,r,h2,h3,u2,h4,h5⟩:=h;exact⟨h1,r,h2,h3,u2,h4,hK _ _ h5⟩
 .obtain⟨h1,r,h2,h3,h4⟩:=h;exact⟨h1,r,h2,h3,hK _ _ h4⟩
 .obtain⟨h1,r,h2,h3,h4⟩:=h;exact⟨h1,r,h2,h3,hK _ _ h4⟩
 .split at h
  .obtain⟨h1,r,h2,h3,h4⟩:=h;exact⟨h1,r,h2,h3,hK _ _ h4⟩
  .exact h.elim
 .split at h
  .exact hK _ _ h
  .exact h.elim
theorem Z3r{K K':Foot->S->Prop}(hK:∀f s,K f s->K' f s)(h:drwG Γ o s K):drwG Γ o s K':=by
 unfold drwG at h|-;split at h
 .exact Zsm hK h
 .split at h
  .split at h
   .rename_i hb;simp only[hb,if_true];exact Zsm hK h
   .rename_i hb;simp only[hb,if_false];exact hK _ _ h
  .exact hK _ _ h
  .exact h.elim
theorem Zb3:∀(os:List MO) {s:S} {feet:List Foot} {K K':List Foot->S->Prop},(∀f s,K f s->K' f s)->drwW Γ os s feet K->drwW Γ os s feet K'
 |[],_,_,_,_,hK,h=>hK _ _ h
 |_::os,_,_,_,_,hK,h=>Z3r (λ_ _ h'=>Zb3 os hK h') h
theorem VU:∀(c:MCode) {s:S} {Q Q':X->S->Prop},(∀x s,Q x s->Q' x s)->Wc Γ c Q s->Wc Γ c Q' s
 |.skip,_,_,_,hQ,h=>hQ _ _ h
 |.reg os _,_,_,_,hQ,h=>Zhf os (λ_ h'=>hQ _ _ h') h
 |.regF os _,_,_,_,hQ,h=>Zhg os (λ_ h'=>hQ _ _ h') h
 |.drw os _ _,_,_,_,hQ,h=>Zb3 os (λ_ _ h'=>⟨h'.1,hQ _ _ h'.2⟩) h
 |.drwF os _ _,_,_,_,hQ,h=>Zb3 os (λ_ _ h'=>⟨h'.1,hQ _ _ h'.2⟩) h
 |.seq a b,_,_,_,hQ,h=>VU a (λx s' h'=>by cases x with|n=>exact VU b hQ h'|x i=>exact hQ _ _ h'|r=>exact hQ _ _ h') h
 |.cond c x y,s,_,_,hQ,h=>by
  unfold Wc at h|-;split at h
  .split at h
   .rename_i hb;simp only[hb,if_true];exact VU x hQ h
   .rename_i hb;simp only[hb];exact VU y hQ h
  .exact h.elim
 |.block id b,_,_,_,hQ,h=>VU b (λx s' h'=>by
   cases x with
   |n=>exact hQ _ _ h'
   |x i=>simp only at h'|-;split at h'<;>rename_i hi<;>simp only[hi,if_true,if_false]<;>exact hQ _ _ h'
   |r=>exact hQ _ _ h') h
 |.loop keep b,_,_,_,hQ,h=>by
  obtain⟨I,μ,h0,hr⟩:=h;refine⟨I,μ,h0,λs hs=>VU b (λx s' h'=>?_) (hr s hs)⟩
  cases x with
  |n=>exact h'
  |x i=>exact hQ _ _ h'
  |r=>exact hQ _ _ h'
 |.exit _,_,_,_,hQ,h=>hQ _ _ h
 |.ret,_,_,_,hQ,h=>hQ _ _ h
theorem Zsn(hC:∀f as h0 r hr,C f as h0=some (r,hr)->Γ f as h0 r hr)(hr:callA C f args nx (frzs h args)=some (v,u)) :
  ∃as,frzs h args=some as/\∃r hr,Γ f as [] r hr/\(Vj args || frR r hr)=true/\v=shift nx r/\u=newU nx hr 0:=by
 cases hf:frzs h args with
 |none=>rw[hf]at hr;cases hr
 |some as =>
  rw[hf]at hr;simp only[callA]at hr
  cases hc:C f as []with
  |none=>rw[hc]at hr;cases hr
  |some p =>
   obtain⟨r,hr'⟩:=p;rw[hc]at hr;simp only[callB]at hr;split at hr
   .rename_i hcond;cases hr;exact⟨as,rfl,r,hr',hC _ _ _ _ _ hc,hcond,rfl,rfl⟩
   .cases hr
theorem Zb4(hC:∀f as h0 r hr,C f as h0=some (r,hr)->Γ f as h0 r hr)(hr:Vm C f vs h nx (Z2 h vs)=some (v,u)){K:AV->List (Nat×Blk)->Prop}(hK:K v u):XH Γ f vs h nx K:=by
 unfold Vm at hr;split at hr
 .rename_i hc
  cases hx:C f (subA (Z2 h vs) vs) (subH h (Z2 h vs))with
  |none=>rw[hx]at hr;cases hr
  |some p =>
   obtain⟨r,h1⟩:=p;rw[hx]at hr;cases hr;exact⟨hc,r,h1,hC _ _ _ _ _ hx,hK⟩
 .cases hr
theorem Zso(hC:∀f as h0 r hr,C f as h0=some (r,hr)->Γ f as h0 r hr)(hr:Zb0 C f vs h nx (Z2 h vs)=some (v,u)){K:AV->List (Nat×Blk)->Prop}(hK:K v u):Qg Γ f vs h nx K:=by
 unfold Zb0 at hr;split at hr
 .rename_i hc
  cases hx:C f (subA (Z2 h vs) vs) (subH h (Z2 h vs))with
  |none=>rw[hx]at hr;cases hr
  |some p =>
   obtain⟨r,h1⟩:=p;rw[hx]at hr;simp only[pcallB]at hr;split at hr
   .rename_i ht;cases hr;refine⟨hc,r,h1.drop (Z2 h vs).length,?_,hK⟩;have:=hC _ _ _ _ _ hx;have e:subH h (Z2 h vs)++h1.drop (Z2 h vs).length=h1:=by
     rw[<-ht];exact Ybp _ _
    rw[e];exact this
   .cases hr
 .cases hr
theorem Zsp(hC:∀f as h0 r hr,C f as h0=some (r,hr)->Γ f as h0 r hr)(hr:Zby C f nx (frzs h args)=some (v,u)) :
  ∃as,frzs h args=some as/\∃r hr,Γ f as [] r hr/\frR r hr=true/\v=shift nx r/\u=newU nx (hr.map xB) 0:=by
 cases hf:frzs h args with
 |none=>rw[hf]at hr;cases hr
 |some as =>
  rw[hf]at hr;simp only[Zby]at hr
  cases hc:C f as []with
  |none=>rw[hc]at hr;cases hr
  |some p =>
   obtain⟨r,hr'⟩:=p;rw[hc]at hr;simp only[xcallB]at hr;split at hr
   .rename_i hcond;cases hr;exact⟨as,rfl,r,hr',hC _ _ _ _ _ hc,hcond,rfl,rfl⟩
   .cases hr
theorem Zsq(hC:∀f as h0 r hr,C f as h0=some (r,hr)->Γ f as h0 r hr)(hr:Zbz C f args (frzs h args)=some (v,u)) :
  ∃as,frzs h args=some as/\Vj args=true/\∃r hr,Γ f as [] r hr/\frzR hr r=some v/\u=[]:=by
 cases hf:frzs h args with
 |none=>rw[hf]at hr;cases hr
 |some as =>
  rw[hf]at hr;simp only[Zbz]at hr;split at hr
  .rename_i hno
   cases hc:C f as []with
   |none=>rw[hc]at hr;cases hr
   |some p =>
    obtain⟨r,hr'⟩:=p;rw[hc]at hr;simp only[fcallB]at hr;split at hr
    .rename_i d hd;cases hr;exact⟨as,rfl,hno,r,hr',hC _ _ _ _ _ hc,hd,rfl⟩
    .cases hr
  .cases hr
theorem Zsr(hC:∀f as h0 r hr,C f as h0=some (r,hr)->Γ f as h0 r hr)(h:runE C o s=some s')(hK:K s'):runW Γ o s K:=by
 unfold runE at h
 cases hv:runV C o.op s with
 |none=>rw[hv]at h;cases h
 |some p =>
  obtain⟨v,u⟩:=p;rw[hv]at h;cases h;unfold runW;cases ho:o.op<;>simp only[ho,runV]at hv|-<;>try (rw[hv];exact hK)
  .obtain⟨as,h1,r,hr,h2,h3,rfl,rfl⟩:=Zsn hC hv;exact⟨as,h1,r,hr,h2,h3,hK⟩
  .obtain⟨as,h1,r,hr,h2,h3,rfl,rfl⟩:=Zsp hC hv;exact⟨as,h1,r,hr,h2,h3,hK⟩
  .obtain⟨as,h1,hno,r,hr,h2,h3,rfl⟩:=Zsq hC hv;exact⟨as,h1,hno,r,hr,_,h2,h3,hK⟩
  .exact Zb4 hC hv hK
  .obtain⟨u1,u2,q1,q2,rfl⟩:=Zhd hv;exact Zb4 hC q1 ⟨u2,q2,hK⟩
  .exact Zso hC hv hK
  .unfold Zb1 at hv;split at hv
   .rename_i g caps hg;rw[hg];exact Zb4 hC hv hK
   .cases hv
theorem Zss(hC:∀f as h0 r hr,C f as h0=some (r,hr)->Γ f as h0 r hr)(h:opE C o s=some s')(hK:K s'):opW Γ o s K:=by
 unfold opE at h;unfold opW
 cases hg:o.guard with
 |none=>simp only[hg]at h|-;exact Zsr hC h hK
 |some p =>
  obtain⟨g,want⟩:=p;simp only[hg]at h|-;unfold ZdZ at h;split at h
  .rename_i b hb;rw[hb];simp only;split at h
   .rename_i hb;rw[Ya hb];exact Zsr hC h hK
   .rename_i hb;rw[Yb hb];cases h;exact hK
  .rename_i hb;rw[hb];cases h;exact hK
  .cases h
theorem Zst(hC:∀f as h0 r hr,C f as h0=some (r,hr)->Γ f as h0 r hr){f:Foot}(h:runF C o s=some (f,s')){K:Foot->S->Prop}(hK:K f s'):WQ Γ o s K:=by
 unfold runF at h
 cases hv:runV C o.op s with
 |none=>rw[hv]at h;cases h
 |some p =>
  obtain⟨v,u⟩:=p;rw[hv]at h;cases h;unfold WQ;cases ho:o.op<;>simp only[ho,runV]at hv|-<;>try (rw[hv];exact hK)
  .obtain⟨as,h1,r,hr,h2,h3,rfl,rfl⟩:=Zsn hC hv;exact⟨as,h1,r,hr,h2,h3,hK⟩
  .obtain⟨as,h1,r,hr,h2,h3,rfl,rfl⟩:=Zsp hC hv;exact⟨as,h1,r,hr,h2,h3,hK⟩
  .obtain⟨as,h1,hno,r,hr,h2,h3,rfl⟩:=Zsq hC hv;exact⟨as,h1,hno,r,hr,_,h2,h3,hK⟩
  .exact Zb4 hC hv hK
  .obtain⟨u1,u2,q1,q2,rfl⟩:=Zhd hv;exact Zb4 hC q1 ⟨u2,q2,hK⟩
  .exact Zso hC hv hK
  .unfold Zb1 at hv;split at hv
   .rename_i g caps hg;rw[hg];exact Zb4 hC hv hK
   .cases hv
theorem opF_drwG(hC:∀f as h0 r hr,C f as h0=some (r,hr)->Γ f as h0 r hr){f:Foot}(h:opF C o s=some (f,s')){K:Foot->S->Prop}(hK:K f s'):drwG Γ o s K:=by
 unfold opF at h;unfold drwG
 cases hg:o.guard with
 |none=>simp only[hg]at h|-;exact Zst hC h hK
 |some p =>
  obtain⟨g,want⟩:=p;simp only[hg]at h|-;unfold Zea at h;split at h
  .rename_i b hb;rw[hb];simp only;split at h
   .rename_i hb;rw[Ya hb];exact Zst hC h hK
   .rename_i hb;rw[Yb hb];cases h;exact hK
  .rename_i hb;rw[hb];cases h;exact hK
  .cases h
theorem Zsu(hC:∀f as h0 r hr,C f as h0=some (r,hr)->Γ f as h0 r hr){r:XR}{keep:V2}{ks:List Fr}:∀(os:List MO) (m:Nat) (s:S),runN C m ks (.ops os keep) s=some r->
  regW Γ os s λs'=>Qf C r m ks .n { s' with env:=rst keep s'.env }
 |_,0,_,h=>by cases h
 |[],m+1,s,h=>⟨m,Ycj m,h⟩
 |o::os,m+1,s,h=>by
  simp only[runN,step]at h
  cases ho:opE C o s with
  |none=>simp only[ho,stepO]at h;cases h
  |some s' =>
   simp only[ho,stepO]at h;exact Zss hC ho (Zhf os (λs ⟨k,h1,h2⟩=>⟨k,by omega,h2⟩) (Zsu hC os m s' h))
theorem Zsv(hC:∀f as h0 r hr,C f as h0=some (r,hr)->Γ f as h0 r hr){r:XR}{keep:V2}{ks:List Fr}:∀(os:List MO) (m:Nat) (s:S),runN C m ks (.opsF os keep) s=some r->
  Qh Γ os s λs'=>Qf C r m ks .n { s' with env:=rst keep s'.env }
 |_,0,_,h=>by cases h
 |[],m+1,s,h=>⟨m,Ycj m,h⟩
 |o::os,m+1,s,h=>by
  simp only[runN,step]at h
  cases ho:opE C o (fzO o s)with
  |none=>simp only[ho,Zb2]at h;cases h
  |some s' =>
   simp only[ho,Zb2]at h;exact Zss hC ho (Zhg os (λs ⟨k,h1,h2⟩=>⟨k,by omega,h2⟩) (Zsv hC os m s' h))
theorem ZkK(hC:∀f as h0 r hr,C f as h0=some (r,hr)->Γ f as h0 r hr){r:XR}{before:List (V2)}{keep:V2}{ks:List Fr}:∀(os:List MO) (feet:List Foot) (m:Nat) (s:S),runN C m ks (.drw os feet before keep) s=some r->
  drwW Γ os s feet λfeet s'=>QB before feet=true/\Qf C r m ks .n { s' with env:=rst keep s'.env }
 |_,_,0,_,h=>by cases h
 |[],feet,m+1,s,h=>by
  simp only[runN,step]at h;split at h
  .rename_i h1;split at h1
   .rename_i ho;cases h1;exact⟨ho,m,Ycj m,h⟩
   .cases h1
  .rename_i h1;split at h1
   .cases h1
   .cases h1;cases h
 |o::os,feet,m+1,s,h=>by
  simp only[runN,step]at h
  cases ho:opF C o s with
  |none=>simp only[ho,stepD]at h;cases h
  |some p =>
   obtain⟨f,s'⟩:=p;simp only[ho,stepD]at h;exact opF_drwG hC ho (Zb3 os (λ_ s ⟨h0,k,h1,h2⟩=>⟨h0,k,by omega,h2⟩) (ZkK hC os _ m s' h))
theorem Zb5{m:Nat}{ks:List Fr}{cf:Cf}(h:runN C m ks cf s=some r):∃k,m=k+1:=by
 cases m with
 |zero=>cases h
 |succ k=>exact⟨k,rfl⟩
open Classical in
theorem runN_W(hC:∀f as h0 r hr,C f as h0=some (r,hr)->Γ f as h0 r hr)(m:Nat):∀(c:MCode) (ks:List Fr) (s:S),runN C m ks (.code c) s=some r->Wc Γ c (Qf C r m ks) s:=by
 induction m using Nat.strongRecOn with
 |ind m ih =>
  intro c ks s h;obtain⟨m,rfl⟩:=Zb5 h
  cases c with
  |skip=>exact⟨m,Ycj m,h⟩
  |reg os keep=>exact Zhf os (λs ⟨k,h1,h2⟩=>⟨k,by omega,h2⟩) (Zsu hC os m s h)
  |regF os keep=>exact Zhg os (λs ⟨k,h1,h2⟩=>⟨k,by omega,h2⟩) (Zsv hC os m s h)
  |drw os before keep=>exact Zb3 os (λ_ s ⟨h0,k,h1,h2⟩=>⟨h0,k,by omega,h2⟩) (ZkK hC os [] m s h)
  |drwF os before keep=>exact Zb3 os (λ_ s ⟨h0,k,h1,h2⟩=>⟨h0,k,by omega,h2⟩) (ZkK hC os [] m (fzD os s) h)
  |seq a b =>
   refine VU a (λx s' hq=>?_) (ih m (Ycj m) a (.seq b::ks) s h);obtain⟨k,hk,h2⟩:=hq;obtain⟨k,rfl⟩:=Zb5 h2
   cases x with
   |n=>exact VU b (λx s ⟨j,h3,h4⟩=>⟨j,by omega,h4⟩) (ih k (by omega) b ks s' h2)
   |x i=>exact⟨k,by omega,h2⟩
   |r=>exact⟨k,by omega,h2⟩
  |cond c x y =>
   simp only[runN,step]at h;unfold Wc;unfold stepC at h
   cases hv:ev s.env c with
   |t v =>
    simp only[hv]at h
    cases v with
    |bool b =>
     simp only at h|-;cases b
     .exact VU y (λx s ⟨j,h3,h4⟩=>⟨j,by omega,h4⟩) (ih m (Ycj m) y ks s h)
     .exact VU x (λx s ⟨j,h3,h4⟩=>⟨j,by omega,h4⟩) (ih m (Ycj m) x ks s h)
    |_=>cases h
   |_=>simp only[hv]at h;cases h
  |block id b =>
   refine VU b (λx s' hq=>?_) (ih m (Ycj m) b (.blk id::ks) s h);obtain⟨k,hk,h2⟩:=hq;obtain⟨k,rfl⟩:=Zb5 h2
   cases x with
   |n=>exact⟨k,by omega,h2⟩
   |x i =>
    simp only[runN,step]at h2;simp only;by_cases hi:i=id
    .simp only[hi,if_true]at h2|-;exact⟨k,by omega,h2⟩
    .simp only[hi,if_false]at h2|-
     exact⟨k,by omega,h2⟩
   |r=>exact⟨k,by omega,h2⟩
  |loop keep b =>
   let p:S->Nat->Prop:=λt k=>k<=m/\runN C k (.loop keep b::ks) (.code b) t=some r
   let μ:S->Nat:=λt=>if hx:∃k,p t k then(ZkJ hx).choose else 0
   have hμ:∀t,(∃k,p t k)->p t (μ t)/\∀k,p t k->μ t<=k:=by
    intro t hx;have e:μ t=(ZkJ hx).choose:=dif_pos hx;rw[e];exact(ZkJ hx).choose_spec
   refine⟨λt=>∃k,p t k,μ,⟨m,Yg m,h⟩,?_⟩;intro t ht;obtain⟨⟨h1,h2⟩,h3⟩:=hμ t ht;refine VU b (λx s' hq=>?_) (ih (μ t) (by omega) b _ t h2);obtain⟨k,hk,h4⟩:=hq;obtain⟨k,rfl⟩:=Zb5 h4
   cases x with
   |n =>
    have h5:runN C k ks (.code (.loop keep b)) s'=some r:=h4;obtain⟨k,rfl⟩:=Zb5 h5;have h6:p (VQ keep s') k:=⟨by omega,h5⟩
    exact⟨⟨k,h6⟩,by have:=(hμ _ ⟨k,h6⟩).2 k h6;omega⟩
   |x i=>exact⟨k,by omega,h4⟩
   |r=>exact⟨k,by omega,h4⟩
  |exit id=>exact⟨m,Ycj m,h⟩
  |ret=>exact⟨m,Ycj m,h⟩
end
theorem Zsw{P:Program}{X:Z0}{tbl:Nat->Option MFun}(hT:TblOK P tbl)(hX:∀f as h0 r hr,X f as h0=some (r,hr)->Xg P f as h0 r hr):∀(n f:Nat) (as:XQ) (h0:V1) (r:AV) (hr:V1),Xp X tbl n f as h0=some (r,hr)->Xg P f as h0 r hr
 |0,_,_,_,_,_,h=>by cases h
 |n+1,f,as,h0,r,hr,h=>by
  simp only[Xp]at h
  cases hm:tbl f with
  |none=>simp only[hm]at h;exact hX f as h0 r hr h
  |some m =>
   simp only[hm]at h;split at h
   .rename_i hl;obtain⟨fn,ks,inl,h1,h2,h3⟩:=hT f m hm;have hW:=runN_W (Γ:=Xg P) (Zsw hT hX n) n m.body _ _ h;refine sound_of h1 h3 h2 ⟨hl,?_⟩;refine VU m.body (λx s hq=>?_) hW;obtain⟨k,hk,h4⟩:=hq;obtain⟨k,rfl⟩:=Zb5 h4;have fin:finE h0.length m.res s=some (r,hr)->∀x,(∀i,x≠.x i)->bodyQ m.res (λv s=>Zg7 m.res h0.length v s=some (r,hr)) x s:=by
     intro hf x hx;unfold finE at hf
     cases x with
     |x i=>exact absurd rfl (hx i)
     |n =>
      simp only[bodyQ];split at hf
      .rename_i v hv;rw[hv];exact hf
      .cases hf
     |r =>
      simp only[bodyQ];split at hf
      .rename_i v hv;rw[hv];exact hf
      .cases hf
    cases x with
    |n=>exact fin h4 _ (λi hc=>by cases hc)
    |r=>exact fin h4 _ (λi hc=>by cases hc)
    |x i=>simp only[runN,step]at h4;cases h4
   .cases h
theorem Z3s{P:Program}{X:Z0}{tbl:Nat->Option MFun}(hT:TblOK P tbl)(hX:∀f as h0 r hr,X f as h0=some (r,hr)->Xg P f as h0 r hr){f:Nat}{as:XQ}{h0:V1}{r:AV}{hr:V1}(h:Xy X tbl f as h0=some (r,hr)):Xg P f as h0 r hr:=by
 obtain⟨n,hn⟩:=J5 h;exact Zsw hT hX n f as h0 r hr hn
def ins(x:Nat):V2->V2
 |[]=>[x]
 |y::ys=>if x<y then x::y::ys else if x=y then y::ys else y::ins x ys
def union(a b:V2):V2:=b.foldl (λacc x=>ins x acc) a
def opdSl:Operand->V2
 |.tmp t=>[t]
 |_=>[]
def opUses(o:Op):V2:=o.operands.toList.flatMap opdSl
def regIn(ops:List Oper)(out:V2):V2 :=
 ops.reverse.foldl (λlive o=>union (match o.dst with|some d=>live.filter (· != d)|none=>live) (opUses o.op)) out
def guardSl(ops:Array Oper):V2:=ops.toList.flatMap λo=>match o.guard with
 |some (j,_)=>(match ops[j]? with|some p=>p.dst.toList|none=>[])
 |none=>[]
def fixL(f:V2->V2×List (V2)):Nat->V2->V2×List (V2)
 |0,L=>(L,L::(f L).2)
 |n+1,L=>match f L with
  |(l,k)=>if l.all (L.contains ·)then(L,L::k)else fixL f n (union L l)
def live(ret:V2)(exits:List (Nat×V2)):Code->V2->V2×List (V2)
 |.region _ ops _,out =>
  let defs:=ops.toList.flatMap λo=>o.dst.toList
  (union (regIn ops.toList out) ((guardSl ops).filter (λg=>!defs.contains g)),[out])
 |.seq a b,out=>match live ret exits b out with
  |(lb,kb)=>match live ret exits a lb with
   |(la,ka)=>(la,ka++kb)
 |.cond c a b,out=>match live ret exits a out,live ret exits b out with
  |(la,ka),(lb,kb)=>(union (union la lb) (opdSl c),ka++kb)
 |.block id b,out=>live ret ((id,out)::exits) b out
 |.loop b,_=>fixL (live ret exits b) 12 []
 |.exit id,_=>((exits.lookup id).getD [],[])
 |.ret,_=>(ret,[])
 |_,out=>(out,[])
def Zee(fn:Func):List (V2):=match fn.body with
 |some c =>
  let rs:=fn.results.toList.foldl (λacc r=>ins (match r with|.tmp t=>t|.cell a _=>a) acc) []
  (live rs [] c rs).2
 |none=>[]
def inlOf(inl:V2)(f:Nat):V2:=(if inl.contains (f+10000000)then[9999994]else[])++(if inl.contains (f+11000000)then[9999993]else[])++(if inl.contains (f+12000000)then[9999992]else[])++(if inl.contains (f+9000000)then[9999995]else[])++(if inl.contains (f+8000000)then[9999996]else[])++(if inl.contains (f+6000000)then[9999997]else[])++(if inl.contains (f+5000000)then[9999998]else[])++(if inl.contains (f+4000000)then 9999999::inl else inl)
def tblOf(P:Program)(inl:V2)(f:Nat):Option MFun:=match P.funcs[f]? with
 |some fn=>if UB P f=true then QC P (inlOf inl f) (Zee fn) fn else none
 |none=>none
theorem tblOK(P:Program)(inl:V2):TblOK P (tblOf P inl):=by
 intro f m h;unfold tblOf at h;split at h
 .rename_i fn hf;split at h
  .rename_i hc;exact⟨fn,Zee fn,inlOf inl f,hf,h,hc⟩
  .cases h
 .cases h
theorem tblOf_eq{P:Program}{inl:V2}{f:Nat}{fn:Func}{m:MFun}(hf:P.funcs[f]?=some fn)(hc:UB P f=true)(h:QC P (inlOf inl f) (Zee fn) fn=some m):tblOf P inl f=some m:=by
 unfold tblOf;rw[hf];simp only;rw[Ya hc];exact h
def fill{α:Type}(f:α->V4)(z:V4)(xs:List α)(i:Nat):XT:=(xs.take i).map f++List.replicate (xs.length-i) z
section
variable{α:Type}{f:α->V4}{z:V4}{xs:List α}{i:Nat}
theorem fill_get(h:i<xs.length):(fill f z xs i)[i]?=some z:=by
 unfold fill;have e:i-(List.map f (List.take i xs)).length=0:=by simp;omega
 rw[Y1 (by simp;omega),e,List.getElem?_replicate,Ya (by omega)]
@[simp] theorem fill_at(h:i<(fill f z xs i).length):(fill f z xs i)[i]=z:=by
 have h1:i<xs.length:=by
  unfold fill at h;simp at h;omega
 have h2:=fill_get (f:=f) (z:=z) h1;rw[Yi h]at h2;exact Yb8 h2
end
theorem ZD{n:Int}(h1:-9223372036854775808<=n)(h2:n<=9223372036854775807):IntKind.wrap .i64 n=n:=by
 simp only[IntKind.wrap,IntKind.signed,IntKind.bits,Yy];split
 .rename_i h;have h:=of_decide_eq_true h;omega
 .rename_i h;simp at h;omega
attribute [simp] Ev_drwF fzD cutOf movOf Ev_regF EvOF_nil Z3c Z3d fzO flA preOf preOs ZdE fzVs fzS fzH sbV sbVs sbB sbE Ev_skip Ev_reg Ev_drw Ev_seq Ev_cond Ev_block Ev_exit Ev_ret EvO_nil EvO_cons EvS_some EvD_nil' EvD_cons EvF_some EvC_bool Z3e Z3f Z3g Z3h Z3i Z3j Z3k Z3l
 Z3n ZrX Z3o Z3p
attribute [simp] Q7 flatB Zbz fcallB frzR givA Zby xcallB packV packW Ui xB scal1 Zbo opE runE runV runD ZdZ skipE callA callB mcallB Vm pcallB Zb0 Zb1 opF runF runFD Zea finE Z2 subH subA bk Xk Um ZE Uk resAV Vk Q9 Zs ev lk put upd stB cellsOf setCells setT toT toTs kill WE unT tEq eqAs Wq WF natOf U8 WG Qd Qe Vh
 VO bnd frzT VP frz1 Q8 frz frzs ren rens renB refs Zw X4 rst scrub Jy ZK idx U9 renE V9 VQ shift newU Uh Vi frB frR Vj Zg6 Zg7 ownR VA own1 dat1 Vl VR nilB UA Z8 flat Wa rbOf Uj Zv Zg5
@[simp] theorem wk_nil(xs:V4):wk [] xs=xs:=by unfold wk;rfl
@[simp] theorem wk_nil'(cs:V4):wk cs []=[]:=by cases cs<;>(unfold wk;rfl)
@[simp] theorem wk_cons(c x:T)(cs xs:V4):wk (c::cs) (x::xs)=wk1 c x::wk cs xs:=by conv=>lhs;unfold wk
@[simp] theorem wk1_int(k:IntKind)(n:Int)(c:T):wk1 c (.int k n)=.int k n:=by cases c<;>rfl
@[simp] theorem wk1_bool(b:Bool)(c:T):wk1 c (.bool b)=.bool b:=by cases c<;>rfl
@[simp] theorem wk1_str(b:V5)(c:T):wk1 c (.str b)=.str b:=by cases c<;>rfl
@[simp] theorem wk1_lst(s:Nat)(es:XT)(c:T):wk1 c (.lst s es)=.lst s es:=by cases c<;>rfl
@[simp] theorem wk1_nil(s:Nat)(es:XT):wk1 (.lst s es) .nil=.lst s []:=rfl
@[simp] theorem wkA_nil(xs:V4):wkA [] xs=xs.map .t:=by cases xs<;>rfl
@[simp] theorem wkA_t(c x:T)(cs:XQ)(xs:V4):wkA (.t c::cs) (x::xs)=.t (wk1 c x)::wkA cs xs:=by conv=>lhs;unfold wkA
@[simp] theorem wkA_own(b:Nat)(x:T)(cs:XQ)(xs:V4):wkA (.own b::cs) (x::xs)=.t x::wkA cs xs:=by conv=>lhs;unfold wkA
@[simp] theorem wkA_nil'(cs:XQ):wkA cs []=[]:=by cases cs with|nil=>rfl|cons c cs=>cases c<;>rfl
def orI(a b:Int):Int:=IntKind.wrap .i64 ((BitVec.ofInt 64 a ||| BitVec.ofInt 64 b).toNat)
def andI(a b:Int):Int:=IntKind.wrap .i64 ((BitVec.ofInt 64 a &&& BitVec.ofInt 64 b).toNat)
def xorI(a b:Int):Int:=IntKind.wrap .i64 ((BitVec.ofInt 64 a ^^^ BitVec.ofInt 64 b).toNat)
def andNotI(a b:Int):Int:=IntKind.wrap .i64 ((BitVec.ofInt 64 a &&& ~~~ BitVec.ofInt 64 b).toNat)
def shlI(a b:Int):Int:=IntKind.wrap .i64 (a*2 ^ (min b.toNat 64))
def shrI(a b:Int):Int:=a.fdiv (2 ^ (min b.toNat 64))
@[simp] theorem bin_or(a b:Int):binT .or (.int .i64 a) (.int .i64 b)=some (.int .i64 (orI a b)):=by unfold binT;exact Ya rfl
@[simp] theorem bin_and(a b:Int):binT .and (.int .i64 a) (.int .i64 b)=some (.int .i64 (andI a b)):=by unfold binT;exact Ya rfl
@[simp] theorem bin_xor(a b:Int):binT .xor (.int .i64 a) (.int .i64 b)=some (.int .i64 (xorI a b)):=by unfold binT;exact Ya rfl
@[simp] theorem bin_andNot(a b:Int):binT .andNot (.int .i64 a) (.int .i64 b)=some (.int .i64 (andNotI a b)):=by unfold binT;exact Ya rfl
@[simp] theorem bin_shl(a b:Int)(k:IntKind):binT .shl (.int .i64 a) (.int k b)=if b<0 then none else some (.int .i64 (shlI a b)):=by simp[binT,shlI,IntKind.bits]
@[simp] theorem bin_shr(a b:Int)(k:IntKind):binT .shr (.int .i64 a) (.int k b)=if b<0 then none else some (.int .i64 (shrI a b)):=by simp[binT,shrI,IntKind.bits]
@[simp] theorem bin_add(k:IntKind)(a b:Int):binT .add (.int k a) (.int k b)=some (.int k (k.wrap (a+b))):=by simp[binT]
@[simp] theorem bin_sub(k:IntKind)(a b:Int):binT .sub (.int k a) (.int k b)=some (.int k (k.wrap (a-b))):=by simp[binT]
@[simp] theorem bin_mul(k:IntKind)(a b:Int):binT .mul (.int k a) (.int k b)=some (.int k (k.wrap (a*b))):=by simp[binT]
@[simp] theorem bin_quo(k:IntKind)(a b:Int):binT .quo (.int k a) (.int k b)=if b=0 then none else some (.int k (k.wrap (a.tdiv b))):=by simp[binT]
@[simp] theorem bin_rem(k:IntKind)(a b:Int):binT .rem (.int k a) (.int k b)=if b=0 then none else some (.int k (a.tmod b)):=by simp[binT]
@[simp] theorem bin_eql(k:IntKind)(a b:Int):binT .eql (.int k a) (.int k b)=some (.bool (a == b)):=by simp[binT]
@[simp] theorem bin_neq(k:IntKind)(a b:Int):binT .neq (.int k a) (.int k b)=some (.bool (a != b)):=by simp[binT]
@[simp] theorem bin_lss(k:IntKind)(a b:Int):binT .lss (.int k a) (.int k b)=some (.bool (a<b)):=by simp[binT]
@[simp] theorem bin_leq(k:IntKind)(a b:Int):binT .leq (.int k a) (.int k b)=some (.bool (a<=b)):=by simp[binT]
@[simp] theorem bin_gtr(k:IntKind)(a b:Int):binT .gtr (.int k a) (.int k b)=some (.bool (a > b)):=by simp[binT]
@[simp] theorem bin_geq(k:IntKind)(a b:Int):binT .geq (.int k a) (.int k b)=some (.bool (a>=b)):=by simp[binT]
@[simp] theorem bin_sadd(a b:V5):binT .add (.str a) (.str b)=if a.size+b.size<=9223372036854775807 then some (.str (a++b))else none:=rfl
@[simp] theorem bin_seql(a b:V5):binT .eql (.str a) (.str b)=some (.bool (a.toList == b.toList)):=rfl
@[simp] theorem bin_sneq(a b:V5):binT .neq (.str a) (.str b)=some (.bool (!(a.toList == b.toList))):=rfl
@[simp] theorem bin_slss(a b:V5):binT .lss (.str a) (.str b)=some (.bool (Op.bytesLess a.toList b.toList)):=rfl
@[simp] theorem bin_sleq(a b:V5):binT .leq (.str a) (.str b)=some (.bool (Op.bytesLess a.toList b.toList || a.toList == b.toList)):=rfl
@[simp] theorem bin_sgtr(a b:V5):binT .gtr (.str a) (.str b)=some (.bool (!(Op.bytesLess a.toList b.toList || a.toList == b.toList))):=rfl
@[simp] theorem bin_sgeq(a b:V5):binT .geq (.str a) (.str b)=some (.bool (!Op.bytesLess a.toList b.toList)):=rfl
@[simp] theorem gt_zero(x:Blk)(h:V1):gt (x::h) 0=x:=rfl
@[simp] theorem gt_succ(x:Blk)(h:V1)(n:Nat):gt (x::h) (n+1)=gt h n:=rfl
@[simp] theorem Zsx(a b:V5):a.toList=b.toList↔a=b:=by
 rw[ByteArray.toList_eq,ByteArray.toList_eq];exact⟨λh=>ByteArray.ext (Yc9.1 h),λh=>by rw[h]⟩
@[simp] theorem int_beq(a b:Int):(a == b)=decide (a=b):=by
 by_cases h:a=b<;>simp[h]
@[simp] theorem int_bne(a b:Int):(a != b)=!decide (a=b):=by
 by_cases h:a=b<;>simp[h]
@[simp] theorem str_beq(a b:V5):(a.toList == b.toList)=decide (a=b):=by
 by_cases h:a=b
 .simp[h]
 .have:¬a.toList=b.toList:=λhc=>h ((Zsx a b).1 hc)
  simp[h,this]
@[simp] theorem rn0(h:V1)(e:Env):(List.range 0).map (ZE h e)=[]:=rfl
@[simp] theorem rn1(h:V1)(e:Env):(List.range 1).map (ZE h e)=[ZE h e 0]:=rfl
@[simp] theorem rn2(h:V1)(e:Env):(List.range 2).map (ZE h e)=[ZE h e 0,ZE h e 1]:=rfl
@[simp] theorem rn3(h:V1)(e:Env):(List.range 3).map (ZE h e)=[ZE h e 0,ZE h e 1,ZE h e 2]:=rfl
@[simp] theorem rn4(h:V1)(e:Env):(List.range 4).map (ZE h e)=[ZE h e 0,ZE h e 1,ZE h e 2,ZE h e 3]:=rfl
@[simp] theorem rn6(h:V1)(e:Env):(List.range 6).map (ZE h e)=[ZE h e 0,ZE h e 1,ZE h e 2,ZE h e 3,ZE h e 4,ZE h e 5]:=rfl
@[simp] theorem rn5(h:V1)(e:Env):(List.range 5).map (ZE h e)=[ZE h e 0,ZE h e 1,ZE h e 2,ZE h e 3,ZE h e 4]:=rfl
theorem down{Q:Nat->Prop}(n:Nat)(h0:Q n)(hs:∀i,i<n->Q (i+1)->Q i):∀i,i<=n->Q i:=by
 intro i hi;obtain⟨k,rfl⟩:∃k,n=i+k:=⟨n-i,by omega⟩
 induction k generalizing i with
 |zero=>exact h0
 |succ k ih=>exact hs i (by omega) (ih (i+1) (by rw[show i+1+k=i+(k+1) by omega];exact h0) (by intro j hj;exact hs j (by omega)) (by omega))
abbrev I(n:Int):AV:=.t (.int .i64 n)
abbrev Bo(b:Bool):AV:=.t (.bool b)
abbrev L(sz:Nat)(es:XT):AV:=.t (.lst sz es)
open Go.RowKit (Below)
open Go.ChangeShapes Go.WideShapes Go.ChangeAt Go.RowKit
inductive CSh where
 |int (k:IntKind)
 |bool
 |str
 |slice (cs:List CSh)
def Zhh(rec:TypeId->Option (List CSh))(P:Program):List Field->Nat->Option (List CSh)
 |[],_=>some []
 |f::fs,o=>if f.offset=o then(match rec f.type with
  |some cs=>if cs.length=P.cellsOf f.type then(match Zhh rec P fs (o+cs.length)with
   |some ds=>some (cs++ds)
   |none=>none)else none
  |none=>none)else none
def Vn(P:Program):Nat->TypeId->Option (List CSh)
 |0,_=>none
 |n+1,t=>match P.underlying t with
  |some .bool=>some [.bool]
  |some (.int k)=>some [.int k]
  |some .string=>some [.str]
  |some (.slice e)=>match Vn P n e with
   |some cs=>if cs.length=P.cellsOf e/\0<cs.length then some [.slice cs]else none
   |none=>none
  |some (.struct fs)=>match Zhh (Vn P n) P fs.toList 0 with
   |some cs=>if cs.length=P.cellsOf t then some cs else none
   |none=>none
  |_=>none
mutual
inductive HasSh:CSh->T->Prop
 |int {k:IntKind} {n:Int} (h:(Lit.int k n).wf=true):HasSh (.int k) (.int k n)
 |bool (b:Bool):HasSh .bool (.bool b)
 |str {s:V5} (h:s.size<=maxLen):HasSh .str (.str s)
 |slice {cs:List CSh} {es:XT} (hl:es.length<=maxLen) (h:HasAll cs es):HasSh (.slice cs) (.lst cs.length es)
inductive HasShs:List CSh->V4->Prop
 |nil:HasShs [] []
 |cons {c:CSh} {t:T} {cs:List CSh} {ts:V4} (h:HasSh c t) (hs:HasShs cs ts):HasShs (c::cs) (t::ts)
inductive HasAll:List CSh->XT->Prop
 |nil (cs:List CSh):HasAll cs []
 |cons {cs:List CSh} {e:V4} {es:XT} (h:HasShs cs e) (hs:HasAll cs es):HasAll cs (e::es)
end
variable{ts:V4}
theorem HasShs.append{cs ds:List CSh}{us:V4}(h:HasShs cs ts)(h':HasShs ds us):HasShs (cs++ds) (ts++us):=by
 induction cs generalizing ts with
 |nil=>cases h;exact h'
 |cons c cs ih=>cases h with|cons h hs=>exact .cons h (ih hs)
theorem HasShs.len{cs:List CSh}(h:HasShs cs ts):ts.length=cs.length:=by
 induction cs generalizing ts with
 |nil=>cases h;rfl
 |cons c cs ih=>cases h with|cons h hs=>simp[ih hs]
theorem HasAll.snoc{cs:List CSh}{es:XT}{e:V4}(h:HasAll cs es)(h':HasShs cs e):HasAll cs (es++[e]):=by
 induction es with
 |nil=>exact .cons h' (.nil _)
 |cons x es ih=>cases h with|cons h hs=>exact .cons h (ih hs)
section
variable{H:Type}{enc:TypeId×Value->H}{P:Program}{w:World}{sp:Nat->Bool}{held:Bool}{n:Nat}
theorem Zsy{α:Type}{f:Nat->Option α}{xs:List α}(h:(List.range n).mapM f=some xs):xs.length=n/\∀i,i<n->∃x,xs[i]?=some x/\f i=some x:=by
 have key:∀(l:V2) (xs:List α),l.mapM f=some xs->xs.length=l.length/\∀(i:Nat) (a:Nat),l[i]?=some a->∃x,xs[i]?=some x/\f a=some x:=by
  intro l
  induction l with
  |nil=>intro xs h;simp at h;subst h;exact⟨rfl,by simp⟩
  |cons a l ih =>
   intro xs h;simp only[List.mapM_cons,Option.bind_eq_bind,Yd2,Option.pure_def,Ybo]at h;obtain⟨x,hx,ys,hys,rfl⟩:=h;obtain⟨h1,h2⟩:=ih ys hys;refine⟨by simp[h1],?_⟩;intro i b hb
   cases i with
   |zero=>simp at hb;subst hb;exact⟨x,rfl,hx⟩
   |succ i=>simpa using h2 i b (by simpa using hb)
 obtain⟨h1,h2⟩:=key _ xs h;refine⟨by simpa using h1,λi hi=>h2 i i (by simp[hi])⟩
theorem Zsz{a:Addr}{cs:V3}(h:w.cells? 0 a n=some cs)(hn:0<n):∃g off c e fz,a=⟨g,off,none⟩/\w.heap[g]?=some (.cells c e fz)/\(c.toList.drop off).take n=cs/\cs.length=n:=by
 unfold World.cells? at h;simp only[Yd,if_true]at h;obtain⟨h1,h2⟩:=Zsy h;obtain⟨x,_,h4⟩:=h2 0 hn;have ha0:a.add 0=a:=by simp[Addr.add]
 rw[ha0]at h4;have h5:=h4;unfold World.cell? at h5;split at h5
 .rename_i c e fz hb;split at h5
  .cases h5
  .rename_i hs;obtain⟨g,off,spot⟩:=a
   have:spot=none:=by simpa using hs
   subst this;refine⟨g,off,c,e,fz,rfl,hb,?_,h1⟩;apply List.ext_getElem?;intro i;rw[Ybh];by_cases hi:i<n
   .rw[Ya hi];obtain⟨y,h6,h7⟩:=h2 i hi;rw[Uo,cell_of_row w g (off+i) c e fz hb]at h7;rw[h6,<-h7];simp
   .rw[Yb hi];symm;exact Yb2 (by omega)
 .cases h5
theorem Z3t:∀(fuel:Nat) (t:TypeId) (cs:V3) (d:DataW H) (ps:List MemPlace),DataW.trod enc P w 0 sp held fuel t cs=some (d,ps)->∀(n:Nat) (sh:List CSh),Vn P n t=some sh->∃ts fp,TRs w ts cs fp/\HasShs sh ts:=by
 intro fuel
 induction fuel with
 |zero=>intro t cs d ps h;simp[DataW.trod]at h
 |succ fuel ih =>
  intro t cs d ps h n sh hsh
  cases n with
  |zero=>simp[Vn]at hsh
  |succ n =>
   cases hu:P.underlying t with
   |none=>simp[Vn,hu]at hsh
   |some dd =>
    cases dd<;>try (simp[Vn,hu]at hsh;done)
    case bool =>
     simp[Vn,hu]at hsh;subst hsh;simp only[DataW.trod,hu]at h;split at h<;>try (simp_all;done)
     rename_i b _;exact⟨[.bool b],[],.cons (.bool b) .nil,.cons (.bool b) .nil⟩
    case int k =>
     simp[Vn,hu]at hsh;subst hsh;simp only[DataW.trod,hu]at h;split at h<;>try (simp_all;done)
     rename_i k1 k2 m heq;cases heq;split at h
     .rename_i hc;obtain⟨rfl,hwf⟩:=hc;exact⟨[.int _ m],[],.cons (.int _ m) .nil,.cons (.int hwf) .nil⟩
     .cases h
    case string =>
     simp[Vn,hu]at hsh;subst hsh;simp only[DataW.trod,hu]at h;split at h<;>try (simp_all;done)
     rename_i s heq;split at h
     .rename_i hc;exact⟨[.str s],[],.cons (.str s) .nil,.cons (.str hc) .nil⟩
     .cases h
    case slice e =>
     simp only[Vn,hu]at hsh;split at hsh
     .rename_i ecs hecs;split at hsh
      .rename_i hcond;cases hsh;simp only[DataW.trod,hu]at h;split at h<;>try (simp_all;done)
       .exact⟨[.lst ecs.length []],[],.cons (.lst0 _ _ _) .nil,.cons (.slice (by simp) (.nil _)) .nil⟩
       .rename_i e' a len cap heq;cases heq;split at h
        .rename_i hb;simp only[Yd2]at h;obtain⟨WG,hel,_⟩:=h;obtain⟨hlen,hget⟩:=Zsy hel
         -- every element reads
         by_cases hl0:len=0
         .subst hl0;exact⟨[.lst ecs.length []],[],.cons (.lst0 _ _ _) .nil,.cons (.slice (by simp) (.nil _)) .nil⟩
         .have hsz:0<P.cellsOf e:=by omega
          have helem:∀i,i<len->∃vs ts fp,w.cells? 0 (a.add (i*P.cellsOf e)) (P.cellsOf e)=some vs/\TRs w ts vs fp/\HasShs ecs ts:=by
           intro i hi;obtain⟨x,_,h2⟩:=hget i hi;simp only[Yd2]at h2;obtain⟨vs,h3,h4⟩:=h2;obtain⟨ts,fp,h5,h6⟩:=ih e vs x.1 x.2 h4 n ecs hecs;exact⟨vs,ts,fp,h3,h5,h6⟩
          obtain⟨vs0,ts0,fp0,h3,_,_⟩:=helem 0 (by omega);rw[Nat.zero_mul]at h3;have ha0:a.add 0=a:=by simp[Addr.add]
          rw[ha0]at h3;obtain⟨g,off,c,te,fz,rfl,hg,_,_⟩:=Zsz h3 hsz;have build:∀m,m<=len->∃es fp,es.length=m/\HasAll ecs es/\(∀x∈es,x.length=P.cellsOf e)/\TRs w es.flatten ((c.toList.drop off).take (m*P.cellsOf e)) fp:=by
           intro m
           induction m with
           |zero=>intro _;exact⟨[],[],rfl,.nil _,by simp,by simpa using TRs.nil⟩
           |succ m ihm =>
            intro hm;obtain⟨es,fp,h5,h6,h7,h8⟩:=ihm (by omega);obtain⟨vs,ts,fq,h9,h10,h11⟩:=helem m (by omega);rw[Uo]at h9;obtain⟨g',off',c',te',fz',he,hg',hseg,hvl⟩:=Zsz h9 hsz;cases he;rw[hg]at hg';cases hg';refine⟨es++[ts],fp++fq,by simp[h5],?_,?_,?_⟩
            .exact h6.snoc h11
            .intro x hx;rcases Yk.1 hx with hx|hx
             .exact h7 x hx
             .simp at hx;subst hx;rw[h11.len];exact hcond.1
            .rw[Ycg];simp only[Yba,List.flatten_nil,Ybd];have e1:(c.toList.drop off).take ((m+1)*P.cellsOf e)=(c.toList.drop off).take (m*P.cellsOf e)++vs:=by
              rw[Ybb,Yb1,List.take_add,Yb9];rw[hseg]
             rw[e1];exact h8.append h10
          obtain⟨es,fp,h5,h6,h7,h8⟩:=build len (Yg _);subst h5;refine⟨[.lst ecs.length es],(g::fp)++[],.cons ?_ .nil,.cons (.slice (by omega) h6) .nil⟩;rw[hcond.1];exact .lst (by intro hc;subst hc;simp at hl0) hsz hb.2.1 hg h7 h8
        .cases h
      .cases hsh
     .cases hsh
    case struct fs =>
     simp only[Vn,hu]at hsh;split at hsh
     .rename_i scs hscs;split at hsh
      .rename_i hcl;cases hsh;simp only[DataW.trod,hu]at h;split at h
       .rename_i hlen;simp only[Yr]at h;obtain⟨xs,hxs,_⟩:=h;have key:∀(l:List Field) (o:Nat) (scs:List CSh) (xs:List (DataW H×List MemPlace)),Zhh (Vn P n) P l o=some scs->o+scs.length<=cs.length->
          l.mapM (λf=>DataW.trod enc P w 0 sp held fuel f.type ((cs.drop f.offset).take (P.cellsOf f.type)))=some xs->∃ts fp,TRs w ts ((cs.drop o).take scs.length) fp/\HasShs scs ts:=by
         intro l
         induction l with
         |nil =>
          intro o scs xs h1 _ _;cases h1
          exact⟨[],[],by simpa using TRs.nil,.nil⟩
         |cons f l ihl =>
          intro o scs xs h1 h2 h3;simp only[Zhh]at h1;split at h1
          .rename_i ho;split at h1
           .rename_i c1 hc1;split at h1
            .rename_i hl1;split at h1
             .rename_i c2 hc2;cases h1;simp only[List.mapM_cons,Option.bind_eq_bind,Yd2,Option.pure_def,Ybo]at h3;obtain⟨x,hx,ys,hys,rfl⟩:=h3;rw[Ym]at h2;obtain⟨t1,f1,q1,q2⟩:=ih f.type _ x.1 x.2 hx n c1 hc1;obtain⟨t2,f2,q3,q4⟩:=ihl (o+c1.length) c2 ys hc2 (by omega) hys;refine⟨t1++t2,f1++f2,?_,q2.append q4⟩;rw[ho,<-hl1]at q1;have e1:(cs.drop o).take (c1++c2).length=(cs.drop o).take c1.length++(cs.drop (o+c1.length)).take c2.length:=by
               rw[Ym,List.take_add,Yb9]
              rw[e1];exact q1.append q3
             .cases h1
            .cases h1
           .cases h1
          .cases h1
        obtain⟨ts,fp,h1,h2⟩:=key fs.toList 0 sh xs hscs (by omega) hxs;refine⟨ts,fp,?_,h2⟩
        have:(cs.drop 0).take sh.length=cs:=by rw[Yo];exact Yb4 (by omega)
        rw[this]at h1;exact h1
       .cases h
      .cases hsh
     .cases hsh
end
open Go.RowKit (Below)
open Go.ChangeShapes Go.WideShapes Go.ChangeAt Go.RowKit
def ParOK:Bool×List CSh->AV->Prop
 |(true,shs),a=>∃xs,a=.agg (xs.map .t)/\HasShs shs xs
 |(false,shs),a=>∃x,a=.t x/\HasShs shs [x]
def ParsOK:List (Bool×List CSh)->XQ->Prop
 |[],as=>as=[]
 |p::ps,as=>∃a as',as=a::as'/\ParOK p a/\ParsOK ps as'
def parSh(P:Program)(t:TypeId):Option (Bool×List CSh):=match Vn P 16 t with
 |some cs=>match P.underlying t with
  |some (.struct _)=>some (true,cs)
  |some (.array _ _)=>none
  |some _=>some (false,cs)
  |none=>none
 |none=>none
def Zhi(P:Program):List TypeId->Option (List (Bool×List CSh))
 |[]=>some []
 |t::ts=>match parSh P t with
  |some p=>match Zhi P ts with
   |some ps=>some (p::ps)
   |none=>none
  |none=>none
def parsOK(P:Program)(ts:List TypeId):Bool:=ts.all λt=>P.readableRec t && decide (t<P.types.size)
section
variable{H:Type}{enc:TypeId×Value->H}{P:Program}{w:World}{sp:Nat->Bool}{held:Bool}
theorem TRs.rvs{ts:V4}{vs:V3}{fp:V2}(h:TRs w ts vs fp):RVs Wt w (λ_=>True) (ts.map .t) vs:=by
 induction ts generalizing vs fp with
 |nil=>cases h;exact .nil
 |cons t ts ih=>cases h with|cons h hs=>exact .cons (.t h λ_ _=>trivial) (ih hs)
theorem par_arg{t:TypeId}{v:Value}{d:DataW H}{ps:List MemPlace}{base:Nat}(h:DataW.Trod enc P w 0 sp held t v d ps)(hok:Value.okWide P w .any base t v){p:Bool×List CSh}(hp:parSh P t=some p) :
  ∃a,RV Wt w (λ_=>True) a v/\ParOK p a:=by
 obtain⟨fuel,h⟩:=h;unfold parSh at hp;split at hp
 .rename_i cs hcs;obtain⟨ts,fp,h1,h2⟩:=Z3t fuel t _ d ps h 16 cs hcs;split at hp
  .rename_i fs hu;cases hp;obtain⟨c,rfl,_⟩:=okWide_struct hu hok;refine⟨.agg (ts.map .t),.agg h1.rvs h1.one,ts,rfl,h2⟩
  .cases hp
  .rename_i dd hns hna hu;cases hp;have hone:cs.length=1:=by
    unfold Vn at hcs;rw[hu]at hcs;cases dd<;>simp at hcs
    .subst hcs;rfl
    .subst hcs;rfl
    .subst hcs;rfl
    .split at hcs
     .split at hcs
      .cases hcs;rfl
      .cases hcs
     .cases hcs
    .exact absurd rfl (hns _)
   match ts,h2,h1 with
   |[],h2,h1=>have:=h2.len;simp at this;omega
   |[x],h2,h1 =>
    have hv:v.cells.toList=[v]:=by
     unfold Vn at hcs;rw[hu]at hcs;cases dd<;>simp at hcs
     .obtain⟨_,rfl⟩:=okWide_bool hu hok;rfl
     .obtain⟨_,rfl⟩:=okWide_int hu hok;rfl
     .obtain⟨_,rfl⟩:=okWide_string hu hok;rfl
     .obtain⟨_,_,_,rfl⟩:=okWide_slice hu hok;rfl
     .exact absurd rfl (hns _)
    rw[hv]at h1
    cases h1 with|cons h hs =>
    exact⟨.t x,.t h λ_ _=>trivial,x,rfl,h2⟩
   |_::_::_,h2,h1=>have:=h2.len;simp at this;omega
  .cases hp
 .cases hp
theorem Zs0{base:Nat}:∀(ts:List TypeId) (vs:V3) (ds:List (DataW H)) (ps:List MemPlace),DataW.TrodAll enc P w 0 sp held ts vs ds ps->
  (∀(j:Nat) t v,ts[j]?=some t->vs[j]?=some v->Value.okWide P w .any base t v)->∀l,Zhi P ts=some l->∃as,RVs Wt w (λ_=>True) as vs/\ParsOK l as
 |[],[],[],_,_,_,l,hl=>by cases hl;exact⟨[],.nil,rfl⟩
 |t::ts,v::vs,d::ds,_,⟨p,q,h1,h2,_⟩,hok,l,hl=>by
  unfold Zhi at hl;split at hl
  .rename_i p1 hp1;split at hl
   .rename_i ps1 hps1;cases hl;obtain⟨a,ha,hpa⟩:=par_arg h1 (hok 0 t v rfl rfl) hp1;obtain⟨as,has,hpas⟩:=Zs0 ts vs ds q h2 (λj t v h h'=>hok (j+1) t v (by simpa using h) (by simpa using h')) ps1 hps1;exact⟨a::as,.cons ha has,a,as,rfl,hpa,hpas⟩
   .cases hl
  .cases hl
theorem Zs1(hl:laidOutB P=true){W W':World}(hb:Below W.heap.size W W'):∀(ts:List TypeId) (vs:V3) (ds:List (DataW H)) (ps:List MemPlace),parsOK P ts=true->DataW.TrodAll enc P W 0 (λ_=>true) true ts vs ds ps->
  (∀x∈ps,x.block<W.heap.size)->DataW.TrodAll enc P W' 0 (λb=>decide (b<W.heap.size)) true ts vs ds ps
 |[],[],[],_,_,h,_=>h
 |t::ts,v::vs,d::ds,_,hr,⟨p,q,h1,h2,e⟩,hlt=>by
  subst e;simp only[parsOK,Y3,Ye,decide_eq_true_eq]at hr;exact⟨p,q,Below.trod hl hr.1.1 hr.1.2 h1 hb (λx hx=>hlt x (Ydb _ hx)),Zs1 hl hb ts vs ds q hr.2 h2 (λx hx=>hlt x (Ydc _ hx)),rfl⟩
theorem Zs2:∀(ts:List TypeId) (vs:V3) (ds:List (DataW H)) (ps:List MemPlace),DataW.TrodAll enc P w 0 sp held ts vs ds ps->ds.length=ts.length
 |[],[],[],_,_=>rfl
 |_::ts,_::vs,_::ds,_,⟨_,q,_,h2,_⟩=>by simp[Zs2 ts vs ds q h2]
theorem Z2g(hl:laidOutB P=true){f:Nat}{fn:Func}{s:ChangeSpec}{tb:TypeId}{l:List (Bool×List CSh)}(hrd:parsOK P fn.params.toList=true)(hsh:Zhi P fn.params.toList=some l)
  (hres:fn.resultTypes=#[tb]) (htb:P.underlying tb=some .bool) (hvars:s.vars=[])
  (hfn:∀(H:Type) (ds:List (DataW H)),ds.length=fn.params.toList.length->(s.fn H ds).results=[.lit (.bool true)]/\(s.fn H ds).args=ds/\(s.fn H ds).vars=[])
  (hS:∀as,ParsOK l as->∃hr,Xg P f as [] (.t (.bool true)) hr)
  (W:World) (base:Nat) (args:Array Value) (ds gs:List (DataW H)) (before:List MemPlace)
  (hval:∀(j:Nat) t v,fn.params[j]?=some t->args[j]?=some v->Value.okWide P W .any base t v)
  (hW:DataW.Whole enc P fn.params.toList s.vars false W args.toList ds gs before) :
  Calls P f args W λe W'=>∃v,e=.returned v/\s.post enc P fn false true false false W args v W':=by
 have hW':=hW;obtain⟨p,q,hA,hV,rfl,hfz,hnd⟩:=hW;have hV0:=hV;rw[hvars]at hV;obtain⟨rfl,rfl⟩:gs=[]/\q=[]:=by
  cases gs with
  |nil=>exact⟨rfl,hV⟩
  |cons _ _=>exact hV.elim
 obtain⟨as,hRV,hP⟩:=Zs0 fn.params.toList args.toList ds p hA (λj t v h h'=>hval j t v (by simpa using h) (by simpa using h')) l hsh;obtain⟨hr,hC⟩:=hS as hP;refine(hC.data W (λ_=>True) args hRV).mono λe W' ⟨v,ρ,he,hB,_,hv,_⟩=>?_
 subst he;obtain⟨h1,h2,h3⟩:=hfn H (ds++[]) (by rw[Ybd];exact Zs2 _ _ _ _ hA)
 cases hv with|t h _ =>
 cases h;have hlt:=hW'.lt;refine⟨_,rfl,ds,[],p++[],[],p,[],hW',?_,?_,?_,hB.frame _,(by intro h;cases h)⟩
 .rw[h1,hres];exact trodAll_cons_mk (p:=[]) (p':=[]) (shut_bool htb _) trodAll_mk0
 .rw[h2,Ybd];exact Zs1 hl hB _ _ _ _ hrd hA (λx hx=>hlt x (by simpa using hx))
 .rw[h3,hvars];rfl
end
def ic(n:Int):V4:=[.int .i64 n]
def isc(xs:WA):V4:=[.lst 1 (xs.map ic)]
def sc(s:V5):V4:=[.str s]
variable{cs:List CSh}{ts:V4}
@[simp] theorem ic_def(n:Int):ic n=[.int .i64 n]:=rfl
@[simp] theorem isc_def(xs:WA):isc xs=[.lst 1 (xs.map ic)]:=rfl
@[simp] theorem sc_def(s:V5):sc s=[.str s]:=rfl
abbrev tI(xs:WA):T:=.lst 1 (xs.map ic)
abbrev tII(xs:XS):T:=.lst 1 (xs.map isc)
abbrev SmA{α:Type}(xs:List α):Prop:=xs.length<=4294967296
abbrev OkL{α:Type}(p:α->Prop)(xs:List α):Prop:=xs.length<=maxLen/\∀x∈xs,p x
abbrev Le{α:Type}(xs:List α):Prop:=xs.length<=1099511627776
theorem ZL{i:Nat}(h:i<1099511627776):IntKind.wrap .i64 ((i:Int)+1)=(i:Int)+1:=ZD (by omega) (by omega)
theorem room2{n:Nat}(h:n<=4398046511104):n<=room:=Yu h (by decide)
theorem tf(b:Bool):b=false\/b=true:=by cases b<;>simp
theorem Zs3{α:Type}{c:α->V4}{p:α->Prop}{cs:List CSh}(hd:∀ts,HasShs cs ts->∃a,ts=c a/\p a):∀{es:XT},HasAll cs es->∃xs:List α,es=xs.map c/\∀x∈xs,p x
 |[],_=>⟨[],rfl,λx hx=>by cases hx⟩
 |e::es,h=>by
  cases h with
  |cons h hs =>
   obtain⟨a,rfl,ha⟩:=hd e h;obtain⟨xs,rfl,hx⟩:=Zs3 hd hs;exact⟨a::xs,rfl,λx hm=>by cases hm with|head=>exact ha|tail _ hm=>exact hx x hm⟩
theorem Z3u{α:Type}{c:α->V4}{p:α->Prop}{t:T}(hd:∀ts,HasShs cs ts->∃a,ts=c a/\p a)(h:HasSh (.slice cs) t):∃xs:List α,t=.lst cs.length (xs.map c)/\OkL p xs:=by
 cases h with
 |slice hl h =>
  obtain⟨xs,rfl,hx⟩:=Zs3 hd h;exact⟨xs,rfl,by simpa using hl,hx⟩
theorem ZqT{c:CSh}(h:HasShs (c::cs) ts):∃t us,ts=t::us/\HasSh c t/\HasShs cs us:=by
 cases h with
 |cons h hs=>exact⟨_,_,rfl,h,hs⟩
theorem dec_nil(h:HasShs [] ts):ts=[]:=by cases h;rfl
end Go.AM
