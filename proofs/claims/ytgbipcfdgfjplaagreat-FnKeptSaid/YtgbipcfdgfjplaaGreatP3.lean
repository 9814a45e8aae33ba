/-
  Parts of the proofs for this seat: AMRen AMJoin AMFz AMSound AMCall AMCode AMFrame AMDraw AMDraw2.
-/
import Derived.Deep.LoopGhost
import Derived.Orders
import Derived.Test.YtgbipcfdgfjplaaGreatP2
set_option linter.unusedSectionVars false
set_option linter.unusedSimpArgs false
set_option linter.unusedVariables false
namespace Go.AM
open Go.RowKit (Below)
section
variable{N:Par}{base:Nat}{ρ ρ':Map}{h:V1}{w w':World}{F F':Nat->Prop}{ids:V2}{a:AV}{v:Value}{f:Nat->Nat}{as:XQ}{vs:V3}{b g:Nat}{e:Env}{tmps:Array Value}{N':Par}
theorem RV.ren(h:RV ρ w F a v):∀(f:Nat->Nat),(∀b∈refs a,∀r,ρ b=some r->ρ' (f b)=some r)->(∀g,g<w.heap.size->F g->F' g)->RV ρ' w F' (AM.ren f a) v:=by
 refine RV.rec (motive_1:=λa v _=>∀(f:Nat->Nat),(∀b∈refs a,∀r,ρ b=some r->ρ' (f b)=some r)->(∀g,g<w.heap.size->F g->F' g)->RV ρ' w F' (AM.ren f a) v)
  (motive_2:=λas vs _=>∀(f:Nat->Nat),(∀b∈Zw as,∀r,ρ b=some r->ρ' (f b)=some r)->(∀g,g<w.heap.size->F g->F' g)->RVs ρ' w F' (AM.rens f as) vs) ?_ ?_ ?_ ?_ ?_ ?_ ?_ ?_ ?_ ?_ ?_ ?_ ?_ h
 .intro v f _ _;exact .top v
 .intro f _ _;exact .nilp
 .intro x v fp h hf f _ hF;exact .t h λg hg=>hF g (h.lt g hg) (hf g hg)
 .intro cs c _ h1 ih f hr hF;exact .agg (ih f (by simpa[refs]using hr) hF) h1
 .intro cs c _ ih f hr hF;exact .tup (ih f (by simpa[refs]using hr) hF)
 .intro b off g r hr hv f hf _;exact .ptr (hf b (by simp[refs]) r hr) hv
 .intro b i sz off g n cap r hr hv f hf _;exact .eptr (hf b (by simp[refs]) r hr) hv
 .intro cs off g o c e fz fp hg hFg hc hfp f _ hF;exact .iptr hg (hF g (Ycd.1 hg).1 hFg) hc λg hg=>hF g (hc.lt g hg) (hfp g hg)
 .intro b r hr h1 f hf _;exact .own (hf b (by simp[refs]) r hr) h1
 .intro b n g r hr hv f hf _;exact .bsl (hf b (by simp[refs]) r hr) hv
 .intro g cs c _ ih f hr hF;exact .fn (ih f (by simpa[refs]using hr) hF)
 .intro f _ _;exact .nil
 .intro a v as vs _ _ ih1 ih2 f hr hF;exact .cons (ih1 f (λb hb=>hr b (by simp[Zw,hb])) hF) (ih2 f (λb hb=>hr b (by simp[Zw,hb])) hF)
theorem RVs.ren(h:RVs ρ w F as vs)(f:Nat->Nat)(hr:∀b∈Zw as,∀r,ρ b=some r->ρ' (f b)=some r)(hF:∀g,g<w.heap.size->F g->F' g):RVs ρ' w F' (rens f as) vs:=by
 induction as generalizing vs with
 |nil=>cases h;exact .nil
 |cons a as ih=>cases h with|cons h hs=>exact .cons (h.ren f (λb hb=>hr b (by simp[Zw,hb])) hF) (ih hs λb hb=>hr b (by simp[Zw,hb]))
theorem RV.scal(h:RV ρ w F a v):∀(f:Nat->Nat),(∀b∈refs a,∀r,ρ b=some r->ρ' (f b)=some r)->Uh a=true->RV ρ' w F' (AM.ren f a) v:=by
 refine RV.rec (motive_1:=λa v _=>∀(f:Nat->Nat),(∀b∈refs a,∀r,ρ b=some r->ρ' (f b)=some r)->Uh a=true->RV ρ' w F' (AM.ren f a) v)
  (motive_2:=λas vs _=>∀(f:Nat->Nat),(∀b∈Zw as,∀r,ρ b=some r->ρ' (f b)=some r)->Vi as=true->RVs ρ' w F' (AM.rens f as) vs) ?_ ?_ ?_ ?_ ?_ ?_ ?_ ?_ ?_ ?_ ?_ ?_ ?_ h
 .intro v f _ _;exact .top v
 .intro f _ _;exact .nilp
 .intro x v fp h hf f _ hs;refine .t h λg hg=>?_
  cases h<;>first|(simp[Uh,Z8]at hs;done)|cases hg
 .intro cs c _ h1 ih f hr hs;exact .agg (ih f (by simpa[refs]using hr) hs) h1
 .intro cs c _ ih f hr hs;exact .tup (ih f (by simpa[refs]using hr) hs)
 .intro b off g r hr hv f hf _;exact .ptr (hf b (by simp[refs]) r hr) hv
 .intro b i sz off g n cap r hr hv f hf _;exact .eptr (hf b (by simp[refs]) r hr) hv
 .intro cs off g o c e fz fp hg hFg hc hfp f _ hs;simp[Uh]at hs
 .intro b r hr h1 f hf _;exact .own (hf b (by simp[refs]) r hr) h1
 .intro b n g r hr hv f hf _;exact .bsl (hf b (by simp[refs]) r hr) hv
 .intro g cs c _ ih f hr hs;exact .fn (ih f (by simpa[refs]using hr) hs)
 .intro f _ _;exact .nil
 .intro a v as vs _ _ ih1 ih2 f hr hs;simp only[Vi,Ye]at hs;exact .cons (ih1 f (λb hb=>hr b (by simp[Zw,hb])) hs.1) (ih2 f (λb hb=>hr b (by simp[Zw,hb])) hs.2)
theorem RVs.scal(h:RVs ρ w F as vs)(f:Nat->Nat)(hr:∀b∈Zw as,∀r,ρ b=some r->ρ' (f b)=some r)(hs:Vi as=true):RVs ρ' w F' (rens f as) vs:=by
 induction as generalizing vs with
 |nil=>cases h;exact .nil
 |cons a as ih =>
  simp only[Vi,Ye]at hs;cases h with|cons h hs'=>exact .cons (h.scal f (λb hb=>hr b (by simp[Zw,hb])) hs.1) (ih hs' (λb hb=>hr b (by simp[Zw,hb])) hs.2)
theorem RV.scalX(h:RV ρ w F a v):∀(f:Nat->Nat),(∀b∈refs a,∀r,ρ b=some r->∃r1,ρ' (f b)=some r1/\r1.v=r.v)->Uh a=true->RV ρ' w F' (AM.ren f a) v:=by
 refine RV.rec (motive_1:=λa v _=>∀(f:Nat->Nat),(∀b∈refs a,∀r,ρ b=some r->∃r1,ρ' (f b)=some r1/\r1.v=r.v)->Uh a=true->RV ρ' w F' (AM.ren f a) v)
  (motive_2:=λas vs _=>∀(f:Nat->Nat),(∀b∈Zw as,∀r,ρ b=some r->∃r1,ρ' (f b)=some r1/\r1.v=r.v)->Vi as=true->RVs ρ' w F' (AM.rens f as) vs) ?_ ?_ ?_ ?_ ?_ ?_ ?_ ?_ ?_ ?_ ?_ ?_ ?_ h
 .intro v f _ _;exact .top v
 .intro f _ _;exact .nilp
 .intro x v fp h hf f _ hs;refine .t h λg hg=>?_
  cases h<;>first|(simp[Uh,Z8]at hs;done)|cases hg
 .intro cs c _ h1 ih f hr hs;exact .agg (ih f (by simpa[refs]using hr) hs) h1
 .intro cs c _ ih f hr hs;exact .tup (ih f (by simpa[refs]using hr) hs)
 .intro b off g r hr hv f hf _;obtain⟨r1,q1,q2⟩:=hf b (by simp[refs]) r hr;exact .ptr q1 (q2.trans hv)
 .intro b i sz off g n cap r hr hv f hf _;obtain⟨r1,q1,q2⟩:=hf b (by simp[refs]) r hr;exact .eptr q1 (q2.trans hv)
 .intro cs off g o c e fz fp hg hFg hc hfp f _ hs;simp[Uh]at hs
 .intro b r hr h1 f hf _;obtain⟨r1,q1,q2⟩:=hf b (by simp[refs]) r hr;rw[<-q2];exact .own q1 (by rw[q2];exact h1)
 .intro b n g r hr hv f hf _;obtain⟨r1,q1,q2⟩:=hf b (by simp[refs]) r hr;exact .bsl q1 (q2.trans hv)
 .intro g cs c _ ih f hr hs;exact .fn (ih f (by simpa[refs]using hr) hs)
 .intro f _ _;exact .nil
 .intro a v as vs _ _ ih1 ih2 f hr hs;simp only[Vi,Ye]at hs;exact .cons (ih1 f (λb hb=>hr b (by simp[Zw,hb])) hs.1) (ih2 f (λb hb=>hr b (by simp[Zw,hb])) hs.2)
theorem RVs.scalX(h:RVs ρ w F as vs)(f:Nat->Nat)(hr:∀b∈Zw as,∀r,ρ b=some r->∃r1,ρ' (f b)=some r1/\r1.v=r.v)(hs:Vi as=true):RVs ρ' w F' (rens f as) vs:=by
 induction as generalizing vs with
 |nil=>cases h;exact .nil
 |cons a as ih =>
  simp only[Vi,Ye]at hs;cases h with|cons h hs'=>exact .cons (h.scalX f (λb hb=>hr b (by simp[Zw,hb])) hs.1) (ih hs' (λb hb=>hr b (by simp[Zw,hb])) hs.2)
theorem ZgL(n:Nat):∀(todo acc:V2),acc.Nodup->(ZK h n todo acc).Nodup:=by
 induction n with
 |zero=>intro todo acc ha;cases todo<;>simpa[ZK]using ha
 |succ n ih =>
  intro todo acc ha
  cases todo with
  |nil=>simpa[ZK]using ha
  |cons b todo =>
   simp only[ZK];split
   .exact ih _ _ ha
   .rename_i hb;refine ih _ _ ?_;rw[Ybj];refine⟨ha,by simp,?_⟩;intro x hx y hy hxy;simp at hy;subst hy;subst hxy;simp at hb;exact hb hx
theorem Zrs(hb:b∈ids)(k:Nat):∃i,idx b ids k=k+i/\ids[i]?=some b:=by
 induction ids generalizing k with
 |nil=>cases hb
 |cons c ids ih =>
  simp only[idx];split
  .rename_i hc;subst hc;exact⟨0,rfl,rfl⟩
  .rename_i hc
   cases hb with
   |head=>exact absurd rfl hc
   |tail _ hb =>
    obtain⟨i,h1,h2⟩:=ih hb (k+1);exact⟨i+1,by rw[h1];omega,by simpa using h2⟩
def renM(ρ:Map)(ids:V2):Map:=λi=>match ids[i]? with
 |some b=>ρ b
 |none=>none
theorem Zbs(hb:b∈ids):renM ρ ids (idx b ids 0)=ρ b:=by
 obtain⟨i,h1,h2⟩:=Zrs hb 0;simp[renM,h1,h2]
theorem Zbt(i:Nat):gt (ids.map λb=>renB f (gt h b)) i=match ids[i]? with|some b=>renB f (gt h b)|none=>.dead:=by
 unfold gt;rw[Ych];cases ids[i]?<;>rfl
theorem Qk{x:Blk}:ZG (renB f x)=ZG x:=by cases x<;>rfl
theorem ZgM(hg:Free N ρ h g)(hn:N'.a g):Free N' (renM ρ ids) (ids.map λb=>renB f (gt h b)) g:=by
 refine⟨hn,?_⟩;intro i r hr hd;rw[Zbt]at hd;simp only[renM]at hr
 cases hi:ids[i]? with
 |none=>simp[hi]at hr
 |some b =>
  simp only[hi]at hr hd;exact hg.2 b r hr λhc=>hd (by rw[hc];rfl)
theorem ZdL(hg:Free N ρ h g):Free N (renM ρ ids) (ids.map λb=>renB f (gt h b)) g:=ZgM hg hg.1
theorem Rel.renN(R:Rel N base ρ h w)(hnd:ids.Nodup)(hcl:∀b∈ids,∀c∈X4 (gt h b),c∈ids)(hn:∀g,w.heap.size<=g->N'.a g/\N'.f g)
  (hO:∀b∈ids,∀r g,ρ b=some r->gt h b≠.dead->ZS r g->N'.a g/\N'.f g) (hF:∀g,Free N ρ h g->N'.a g) (hfr:∀b∈ids,∀r,ρ b=some r->ZG (gt h b)=true->∀g∈r.fp,N'.f g) :
  Rel N' base (renM ρ ids) (ids.map λb=>renB (λc=>idx c ids 0) (gt h b)) w:=by
 have inj_of:∀{i j:Nat} {b:Nat},ids[i]?=some b->ids[j]?=some b->i=j:=by
  intro i j b hi hj;obtain⟨h1,h2⟩:=Yv.1 hi;obtain⟨h3,h4⟩:=Yv.1 hj;rcases Ydh i j with hlt|rfl|hlt
  .exact absurd (h2.trans h4.symm) (Yci.1 hnd i j h1 h3 hlt)
  .rfl
  .exact absurd (h4.trans h2.symm) (Yci.1 hnd j i h3 h1 hlt)
 refine⟨R.hb,hn,?_,?_,?_,?_⟩
 .intro i r g hr hd hg;rw[Zbt]at hd;simp only[renM]at hr
  cases hi:ids[i]? with
  |none=>simp[hi]at hr
  |some b =>
   simp only[hi]at hr hd;exact hO b (Yz hi) r g hr (λhc=>hd (by rw[hc];rfl)) hg
 .intro i hd;rw[Zbt]at hd|-
  cases hi:ids[i]? with
  |none=>simp[hi]at hd
  |some b =>
   simp only[hi]at hd|-;have hb:b∈ids:=Yz hi;obtain⟨r,h1,h2⟩:=R.blk b λhc=>hd (by rw[hc];rfl)
   refine⟨r,by simp[renM,hi,h1],?_⟩
   cases hx:gt h b with
   |dead=>trivial
   |box cs =>
    rw[hx]at h2;obtain⟨h0,g,c,e,h3,h4,h5,h6,h7⟩:=h2
    exact⟨h0,g,c,e,h3,h4,h5,h6.ren _ (λc hc r hr=>by
     have hci:c∈ids:=hcl b hb c (by rw[hx];exact hc)
     rw[Zbs hci];exact hr) λg _ hg=>ZgM hg (hF g hg),h7⟩
   |arr e sz fr es =>
    rw[hx]at h2;obtain⟨h0,e',xs,he',h3,h4,h5,h6,h7,h8,h9⟩:=h2
    exact⟨h0,e',xs,he',h3,h4,h5,h6,λg hg=>ZgM (h7 g hg) (hF g (h7 g hg)),λhf=>⟨(h8 hf).1,hfr b hb r h1 (by rw[hx];exact hf)⟩,h9⟩
   |det e sz es i' off c =>
    rw[hx]at h2;obtain⟨e',xs,rb,fa,fc,he,ho,hsz,hl,hrb,rest⟩:=h2
    exact⟨e',xs,rb,fa,fc,he,ho,hsz,hl,by rw[Zbs (hcl b hb c (by rw[hx];simp[X4]))];exact hrb,rest⟩
   |xarr e sz es=>rw[hx]at h2;exact h2
 .intro i j r r' g hr hr' hd hd' hg hg';rw[Zbt]at hd hd';simp only[renM]at hr hr'
  cases hi:ids[i]? with
  |none=>simp[hi]at hr
  |some b =>
   cases hj:ids[j]? with
   |none=>simp[hj]at hr'
   |some c =>
    simp only[hi]at hr hd;simp only[hj]at hr' hd';have:=R.inj b c r r' g hr hr' (λhc=>hd (by rw[hc];rfl)) (λhc=>hd' (by rw[hc];rfl)) hg hg';subst this;exact inj_of hi hj
 .intro i j r r' g hr hr' hf hf' hg hg';rw[Zbt]at hf hf';simp only[renM]at hr hr'
  cases hi:ids[i]? with
  |none=>simp[hi]at hr
  |some b =>
   cases hj:ids[j]? with
   |none=>simp[hj]at hr'
   |some c =>
    simp only[hi,Qk]at hr hf;simp only[hj,Qk]at hr' hf';have:=R.apart b c r r' g hr hr' hf hf' hg hg';subst this;exact inj_of hi hj
theorem Rel.fresh(R:Rel N base ρ h w){r:Root}(hr:ρ b=some r)(hf:ZG (gt h b)=true):∀g∈r.fp,N.f g/\Free N ρ h g/\g<w.heap.size:=by
 obtain⟨r',h1,h2⟩:=R.blk b (Ws hf);rw[hr]at h1;cases h1
 cases hx:gt h b with
 |dead=>rw[hx]at hf;cases hf
 |box cs=>rw[hx]at hf;cases hf
 |arr e sz fr es =>
  rw[hx]at h2 hf;obtain⟨_,_,xs,_,_,_,_,h6,h7,h8,_⟩:=h2
  exact λg hg=>⟨(h8 hf).2 g hg,h7 g hg,h6.lt g hg⟩
 |xarr e sz es=>rw[hx]at hf;cases hf
 |det e sz es i off c=>rw[hx]at hf;cases hf
theorem Rel.ren(R:Rel N base ρ h w)(hnd:ids.Nodup)(hcl:∀b∈ids,∀c∈X4 (gt h b),c∈ids) :
  Rel N base (renM ρ ids) (ids.map λb=>renB (λc=>idx c ids 0) (gt h b)) w :=
 R.renN hnd hcl R.hN (λ_ _ _ _=>R.hO _ _ _) (λ_ hg=>hg.1) (λ_ _ _ hr hf g hg=>(R.fresh hr hf g hg).1)
theorem Zkw{i:Nat}(hi:ids.length<=i):renM ρ ids i=none:=by
 simp[renM,Yb2 hi]
theorem lk_ren(f:Nat->Nat)(e:Env)(s:Nat):lk s (renE f e)=ren f (lk s e):=by
 induction e with
 |nil=>rfl
 |cons p e ih =>
  obtain⟨k,v⟩:=p;simp only[renE,Yw,lk]at ih|-;split
  .rfl
  .exact ih
theorem refs_lk(e:Env)(s:Nat):∀b∈refs (lk s e),b∈U9 e:=by
 induction e with
 |nil=>intro b hb;simp[lk,refs]at hb
 |cons p e ih =>
  obtain⟨k,v⟩:=p;intro b hb;simp only[U9,Ybx,Yk]at ih|-;simp only[lk]at hb;split at hb
  .exact .inl hb
  .exact .inr (ih b hb)
theorem ZX.ren(hE:ZX ρ w F e tmps)(f:Nat->Nat)(hr:∀b∈U9 e,∀r,ρ b=some r->ρ' (f b)=some r)(hF:∀g,g<w.heap.size->F g->F' g):ZX ρ' w F' (renE f e) tmps:=by
 intro s;rw[lk_ren];exact(hE s).ren f (λb hb=>hr b (refs_lk e s b hb)) hF
theorem lk_rst(keep:V2)(e:Env)(s:Nat):lk s (rst keep e)=if s∈keep then lk s e else .top:=by
 induction keep with
 |nil=>rfl
 |cons k keep ih =>
  simp only[rst,Yw,lk]at ih|-;rw[ih];by_cases hk:k=s
  .simp[hk]
  .simp[hk,Ne.symm hk]
theorem ZX.rst(hE:ZX ρ w F e tmps)(keep:V2):ZX ρ w F (rst keep e) tmps:=by
 intro s;rw[lk_rst];split
 .exact hE s
 .exact .top _
theorem lk_scrub(e:Env)(s:Nat):lk s (Jy h e)=scrub h (lk s e):=by
 induction e with
 |nil=>rfl
 |cons p e ih =>
  obtain⟨k,v⟩:=p;simp only[Jy,Yw,lk]at ih|-;split
  .rfl
  .exact ih
theorem RV.scrub(hv:RV ρ w F a v):RV ρ w F (scrub h a) v:=by
 unfold AM.scrub;split
 .split
  .exact .top _
  .exact hv
 .exact hv
theorem ZX.scrub(hE:ZX ρ w F e tmps):ZX ρ w F (Jy h e) tmps:=by
 intro s;rw[lk_scrub];exact(hE s).scrub
theorem ZgN{rs:V2}(hc:V9 h ids rs=true):(∀b∈rs,b∈ids)/\∀b∈ids,∀c∈X4 (gt h b),c∈ids:=by
 simp only[V9,Ye,Yn,List.contains_iff_mem]at hc;exact hc
end
open Go.RowKit (Below)
section
variable{N:Par}{A:Nat->Prop}{base:Nat}{ρ ρc:Map}{h hr:V1}{w w':World}{n b:Nat}
def Wi(ρ ρc:Map)(n len:Nat):Map:=λb=>if n<=b/\b<n+len then ρc (b-n)else ρ b
theorem Kw(n:Nat):∀(bs:V1) (i:Nat) (h:V1) (b:Nat),gt (upd h (newU n bs i)) b=if n+i<=b/\b<n+i+bs.length then renB (λc=>c+n) (gt bs (b-(n+i)))else gt h b
 |[],i,h,b=>by simp[newU,upd];intro h1 h2;omega
 |x::bs,i,h,b=>by
  simp only[newU,upd];rw[Kw n bs (i+1),Wb];by_cases h1:b=n+i
  .subst h1;rw[Yb (by omega),Ya rfl,Ya (by simp)];simp[gt]
  .by_cases h2:n+(i+1)<=b/\b<n+(i+1)+bs.length
   .have h3:n+i<=b/\b<n+i+(x::bs).length:=by simp;omega
    rw[Ya h2,Ya h3]
    have:b-(n+i)=(b-(n+(i+1)))+1:=by omega
    rw[this];simp[gt]
   .have h3:¬(n+i<=b/\b<n+i+(x::bs).length):=by simp;omega
    rw[Yb h2,Yb h3,Yb h1]
theorem ZdM(n:Nat):∀(bs:V1) (i b:Nat),b∈(newU n bs i).map Prod.fst↔n+i<=b/\b<n+i+bs.length
 |[],i,b=>by simp[newU]
 |x::bs,i,b=>by
  simp only[newU,Yw,Yl,ZdM n bs (i+1),Ys];omega
theorem Zkx{e sz:Nat}{fr:Bool}{es:XT}(hf:hr.all frB=true)(hb:gt hr b=.arr e sz fr es):fr=true:=by
 unfold gt at hb
 cases hx:hr[b]? with
 |none=>simp[hx]at hb
 |some x =>
  simp[hx]at hb;subst hb;have:=Yn.1 hf _ (Yz hx);exact this
theorem Zrt{cs:XQ}(hf:hr.all frB=true)(hb:gt hr b=.box cs):Vi cs=true:=by
 unfold gt at hb
 cases hx:hr[b]? with
 |none=>simp[hx]at hb
 |some x =>
  simp[hx]at hb;subst hb;exact Yn.1 hf _ (Yz hx)
def calP(w:World)(A:Nat->Prop):Par:=⟨λg=>w.heap.size<=g\/A g,λg=>w.heap.size<=g,λ_=>False⟩
structure JoinH (N:Par) (A:Nat->Prop) (base:Nat) (ρ:Map) (h:V1) (w:World) (ρc:Map) (hr:V1) (w':World) (n:Nat):Prop where
 R:Rel N base ρ h w
 B:Below w.heap.size w w'
 Rc:Rel (calP w A) w.heap.size ρc hr w'
 new:∀b,n<=b->b<n+hr.length->ρ b=none
 dom:∀b,hr.length<=b->ρc b=none
 share:(∀g,A g->Free N ρ h g)\/hr.all frB=true
theorem JoinH.free_new(J:JoinH N A base ρ h w ρc hr w' n){g:Nat}(hg:Free (calP w A) ρc hr g)(hs:w.heap.size<=g\/∀g,A g->Free N ρ h g) :
  Free N (Wi ρ ρc n hr.length) (upd h (newU n hr 0)) g:=by
 have hor:w.heap.size<=g\/Free N ρ h g:=by
  rcases hs with hs|hs
  .exact .inl hs
  .exact hg.1.imp id (hs g)
 refine⟨?_,?_⟩
 .rcases hor with h1|h1
  .exact(J.R.hN g h1).1
  .exact h1.1
 .intro b r hb hd he;rw[Kw]at hd;simp only[Ybs]at hd;simp only[Wi]at hb;by_cases hc:n<=b/\b<n+hr.length
  .rw[Ya hc]at hb hd;exact hg.2 (b-n) r hb (λhx=>hd (by rw[hx];rfl)) he
  .rw[Yb hc]at hb hd;have:=J.R.lt hb hd he;rcases hor with h1|h1
   .omega
   .exact h1.2 b r hb hd he
theorem JoinH.keeps(J:JoinH N A base ρ h w ρc hr w' n):Keeps ρ w (Free N ρ h) (Wi ρ ρc n hr.length) w' (Free N (Wi ρ ρc n hr.length) (upd h (newU n hr 0))):=by
 constructor
 .intro b r hb;refine⟨r,?_,rfl⟩;simp only[Wi];rw[Yb λhc=>by rw[J.new b hc.1 hc.2]at hb;cases hb];exact hb
 .intro g hlt hf;refine⟨⟨hf.1,?_⟩,J.B.block g hlt⟩;intro b r hb hd he;rw[Kw]at hd;simp only[Ybs]at hd;simp only[Wi]at hb;by_cases hc:n<=b/\b<n+hr.length
  .rw[Ya hc]at hb hd;have:=J.Rc.lt hb (λhx=>hd (by rw[hx];rfl)) he;omega
  .rw[Yb hc]at hb hd;exact hf.2 b r hb hd he
theorem JoinH.root(J:JoinH N A base ρ h w ρc hr w' n){r:Root}(hb:ρc b=some r):Wi ρ ρc n hr.length (b+n)=some r:=by
 have hlt:b<hr.length:=by
  rcases Ycr b hr.length with h1|h1
  .exact h1
  .rw[J.dom b h1]at hb;cases hb
 simp only[Wi];rw[Ya (by omega),Ydz];exact hb
theorem JoinH.rel(J:JoinH N A base ρ h w ρc hr w' n):Rel N base (Wi ρ ρc n hr.length) (upd h (newU n hr 0)) w':=by
 have hk:=J.keeps;have hsplit:∀b r,Wi ρ ρc n hr.length b=some r->gt (upd h (newU n hr 0)) b≠.dead->
   (ρ b=some r/\gt h b≠.dead/\gt (upd h (newU n hr 0)) b=gt h b)\/(n<=b/\ρc (b-n)=some r/\gt hr (b-n)≠.dead/\gt (upd h (newU n hr 0)) b=renB (λc=>c+n) (gt hr (b-n))):=by
  intro b r hb hd;rw[Kw]at hd|-;simp only[Ybs]at hd|-;simp only[Wi]at hb;by_cases hc:n<=b/\b<n+hr.length
  .rw[Ya hc]at hb hd|-;exact .inr ⟨hc.1,hb,λhx=>hd (by rw[hx];rfl),rfl⟩
  .rw[Yb hc]at hb hd|-;exact .inl ⟨hb,hd,rfl⟩
 refine⟨Yu J.R.hb J.B.size,λg hl=>J.R.hN g (Yu J.B.size hl),?_,?_,?_,?_⟩
 .intro b r g hb hd hg;rcases hsplit b r hb hd with⟨h1,h2,_⟩|⟨h0,h1,h2,_⟩
  .exact J.R.hO b r g h1 h2 hg
  .exact J.R.hN g (J.Rc.lt h1 h2 hg).1
 .intro b hd;have hd':=hd;rw[Kw]at hd;simp only[Ybs]at hd;by_cases hc:n<=b/\b<n+hr.length
  .rw[Ya hc]at hd;obtain⟨r,h1,h2⟩:=J.Rc.blk (b-n) λhx=>hd (by rw[hx];rfl)
   refine⟨r,by simp only[Wi];rw[Ya hc];exact h1,?_⟩;rw[Kw];simp only[Ybs];rw[Ya hc]
   cases hx:gt hr (b-n)with
   |dead=>trivial
   |box cs =>
    rw[hx]at h2;obtain⟨h0,g,c,e,h3,h4,h5,h6,h7⟩:=h2;refine⟨h0,g,c,e,h3,Yu J.R.hb h4,h5,?_,h7⟩;rcases J.share with hs|hs
    .exact h6.ren _ (λc _ r hr'=>J.root hr') λg _ hg=>J.free_new hg (.inr hs)
    .exact h6.scal _ (λc _ r hr'=>J.root hr') (Zrt hs hx)
   |arr e sz fr es =>
    rw[hx]at h2;obtain⟨h0,e',xs,he',h3,h4,h5,h6,h7,h8,h9⟩:=h2;refine⟨h0,e',xs,he',J0 J.R.hb h3,h4,h5,h6,λg hg=>?_,λhf=>⟨(h8 hf).1,λg hg=>(J.R.hN g ((h8 hf).2 g hg)).2⟩,λhf=>(h9 hf).mono J.R.hb⟩;rcases J.share with hs|hs
    .exact J.free_new (h7 g hg) (.inr hs)
    .exact J.free_new (h7 g hg) (.inl ((h8 (Zkx hs hx)).2 g hg))
   |det e sz es i off c =>
    rw[hx]at h2;obtain⟨e',xs,rb,fa,fc,he,ho,hsz,hl,hrb,hcell,q1,q2,hex,hA,hC,oA,oC,rest⟩:=h2
    exact⟨e',xs,rb,fa,fc,he,J0 J.R.hb ho,hsz,hl,J.root hrb,hcell,q1,q2,hex,hA,hC,oA.mono J.R.hb,oC.mono J.R.hb,rest⟩
   |xarr e sz es =>
    rw[hx]at h2;obtain⟨e',xs,he',h3,h4,h5,h6,h7,rest⟩:=h2;exact⟨e',xs,he',J0 J.R.hb h3,h4,h5,h6,h7.mono J.R.hb,rest⟩
  .rw[Yb hc]at hd;obtain⟨r,h1,h2⟩:=J.R.blk b hd;refine⟨r,by simp only[Wi];rw[Yb hc];exact h1,?_⟩;rw[Kw];simp only[Ybs];rw[Yb hc];exact h2.keep hk λg hg=>J.B.block g (h2.lt hd hg).2
 .intro b b' r r' g hb hb' hd hd' hg hg';rcases hsplit b r hb hd with⟨h1,h2,_⟩|⟨h0,h1,h2,_⟩<;>rcases hsplit b' r' hb' hd' with⟨h3,h4,_⟩|⟨h0',h3,h4,_⟩
  .exact J.R.inj b b' r r' g h1 h3 h2 h4 hg hg'
  .have q1:=(J.R.lt h1 h2 hg).2;have q2:=(J.Rc.lt h3 h4 hg').1;omega
  .have q1:=(J.R.lt h3 h4 hg').2;have q2:=(J.Rc.lt h1 h2 hg).1;omega
  .have:=J.Rc.inj (b-n) (b'-n) r r' g h1 h3 h2 h4 hg hg';omega
 .intro b b' r r' g hb hb' hf hf' hg hg';have lt_of:∀b r,ρ b=some r->ZG (gt h b)=true->∀g∈r.fp,g<w.heap.size:=by
   intro b r hb hf g hg;obtain⟨r2,h1,h2⟩:=J.R.blk b (Ws hf);rw[hb]at h1;cases h1
   cases hx:gt h b with
   |dead=>rw[hx]at hf;cases hf
   |box cs=>rw[hx]at hf;cases hf
   |arr e sz fr es=>rw[hx]at h2;obtain⟨_,_,xs,_,_,_,_,h6,_⟩:=h2;exact h6.lt g hg
   |xarr e sz es=>rw[hx]at hf;cases hf
   |det e sz es i off c=>rw[hx]at hf;cases hf
  have ge_of:∀b r,ρc b=some r->ZG (gt hr b)=true->∀g∈r.fp,w.heap.size<=g:=by
   intro b r hb hf g hg;obtain⟨r2,h1,h2⟩:=J.Rc.blk b (Ws hf);rw[hb]at h1;cases h1
   cases hx:gt hr b with
   |dead=>rw[hx]at hf;cases hf
   |box cs=>rw[hx]at hf;cases hf
   |arr e sz fr es =>
    rw[hx]at h2 hf;obtain⟨_,_,xs,_,_,_,_,_,_,h8,_⟩:=h2
    exact(h8 hf).2 g hg
   |xarr e sz es=>rw[hx]at hf;cases hf
   |det e sz es i off c=>rw[hx]at hf;cases hf
  rcases hsplit b r hb (Ws hf)with⟨h1,h2,e1⟩|⟨h0,h1,h2,e1⟩<;>rcases hsplit b' r' hb' (Ws hf')with⟨h3,h4,e2⟩|⟨h0',h3,h4,e2⟩
  .rw[e1]at hf;rw[e2]at hf';exact J.R.apart b b' r r' g h1 h3 hf hf' hg hg'
  .rw[e1]at hf;rw[e2,Qk]at hf';have q1:=lt_of b r h1 hf g hg;have q2:=ge_of _ r' h3 hf' g hg';omega
  .rw[e1,Qk]at hf;rw[e2]at hf';have q1:=lt_of b' r' h3 hf' g hg';have q2:=ge_of _ r h1 hf g hg;omega
  .rw[e1,Qk]at hf;rw[e2,Qk]at hf';have:=J.Rc.apart (b-n) (b'-n) r r' g h1 h3 hf hf' hg hg';omega
theorem JoinH.val(J:JoinH N A base ρ h w ρc hr w' n){r:AV}{v:Value}(hv:RV ρc w' (Free (calP w A) ρc hr) r v)(hs:(∀g,A g->Free N ρ h g)\/Uh r=true) :
  RV (Wi ρ ρc n hr.length) w' (Free N (Wi ρ ρc n hr.length) (upd h (newU n hr 0))) (shift n r) v:=by
 rcases hs with hs|hs
 .exact hv.ren _ (λb _ r hr'=>J.root hr') λg _ hg=>J.free_new hg (.inr hs)
 .exact hv.scal _ (λb _ r hr'=>J.root hr') hs
end
open Go.RowKit (Below)
section
variable{P:Program}{N:Par}{base:Nat}{ρ:Map}{h:V1}{w:World}{v d:AV}{val:Value}
theorem Zru(R:Rel N base ρ h w){b:Nat}{r:Root}(hr:ρ b=some r){el sz:Nat}{es:XT}(hb:gt h b=.xarr el sz es):∃fp,TR w (.lst sz es) r.v fp/\∀g∈fp,ZS r g:=by
 have hd:gt h b≠.dead:=by rw[hb];intro hc;cases hc
 obtain⟨r',h1,h2⟩:=R.blk b hd;rw[hr]at h1;cases h1;rw[hb]at h2;obtain⟨e',xs,_,hown,hsz,hl,ht,_⟩:=h2;by_cases hz:es=[]
 .subst hz;refine⟨[],?_,λg hg=>by cases hg⟩;rcases hown.2 with⟨hv,_⟩|⟨g,cap,cur,hv,_⟩<;>rw[hv]<;>exact .lst0 _ _ _
 .rcases hown.2 with⟨_,hz'⟩|⟨g,cap,cur,hv,hbg,hg,hcap,_,hcs',htake⟩
  .exact absurd (Ycs hz') hz
  .refine⟨g::r.ex,?_,?_⟩
   .rw[hv];refine .lst hz hsz hcap hg hl ?_;rw[Yo,htake];exact ht
   .intro x hx
    cases hx with
    |head=>exact .inl (by rw[hv];rfl)
    |tail _ hx=>exact .inr hx
theorem Zrv(R:Rel N base ρ h w){x:T}(hf:frzT h v=some x)(hv:RV ρ w (Free N ρ h) v val):∃fp,TR w x val fp/\∀g∈fp,N.a g:=by
 cases v<;>try (simp[frzT]at hf;done)
 .simp[frzT]at hf;subst hf
  cases hv with
  |t hT hf=>exact⟨_,hT,λg hg=>(hf g hg).1⟩
 .rename_i b;simp only[frzT]at hf;split at hf
  .rename_i el sz fr es hb;cases hf
   cases hv with
   |own hr hone =>
    have hd:gt h b≠.dead:=by rw[hb];intro hc;cases hc
    obtain⟨fp,hT,_,hg,_⟩:=ZdI R hr hb;obtain⟨r',h1,h2⟩:=R.blk b hd;rw[hr]at h1;cases h1;rw[hb]at h2;obtain⟨_,_,_,_,_,_,_,_,hfree,_⟩:=h2;exact⟨fp,hT,λg hg'=>(hg g hg').elim (λq=>(R.hO b _ g hr hd (.inl q)).1) λq=>(hfree g q).1⟩
  .rename_i el sz es hb;cases hf
   cases hv with
   |own hr hone =>
    have hd:gt h b≠.dead:=by rw[hb];intro hc;cases hc
    obtain⟨fp,hT,hg⟩:=Zru R hr hb;exact⟨fp,hT,λg hg'=>(R.hO b _ g hr hd (hg g hg')).1⟩
  .cases hf
theorem Zrw(R:Rel N base ρ h w):∀{cs:XQ} {ts:V4} {vs:V3},VP h cs=some ts->RVs ρ w (Free N ρ h) cs vs->∃fp,TRs w ts vs fp/\∀g∈fp,N.a g
 |[],ts,vs,hg,hv=>by simp[VP]at hg;subst hg;cases hv;exact⟨[],.nil,λg hg=>by cases hg⟩
 |c::cs,ts,vs,hg,hv=>by
  cases hv with
  |cons h1 h2 =>
   simp only[VP]at hg;split at hg
   .rename_i x xs hx hxs;cases hg;obtain⟨fp,h3,h4⟩:=Zrv R hx h1;obtain⟨fq,h5,h6⟩:=Zrw R hxs h2;exact⟨fp++fq,.cons h3 h5,λg hg=>(Yk.1 hg).elim (h4 g) (h6 g)⟩
   .cases hg
theorem Zrx(R:Rel N base ρ h w)(hp:givA v=true)(hf:frz h v=some d)(hv:RV ρ w (Free N ρ h) v val):RV (λ_=>none) w N.a d val:=by
 cases v<;>try (simp[givA]at hp;done)
 .simp[frz,frz1]at hf;subst hf
  cases hv with
  |t hT hf=>exact .t hT λg hg=>(hf g hg).1
 .rename_i cs;simp only[frz,frz1]at hf;split at hf
  .rename_i ds hds;cases hf
   cases hv with
   |agg hc h1 =>
    obtain⟨fp,h3,h4⟩:=Zrw R hds hc;exact .agg (RVs.of_TRs h3 h4) h1
  .cases hf
 .rename_i b;have hv':=hv
  have:∃x,frzT h (.own b)=some x/\d=.t x:=by
   simp only[frz,frz1]at hf;simp only[frzT];split at hf
   .cases hf;exact⟨_,rfl,rfl⟩
   .cases hf;exact⟨_,rfl,rfl⟩
   .cases hf
  obtain⟨x,hx,rfl⟩:=this;obtain⟨fp,h3,h4⟩:=Zrv R hx hv';exact .t h3 h4
theorem Zry(R:Rel N base ρ h w):∀{vs ds:XQ} {vals:V3},vs.all givA=true->frzs h vs=some ds->RVs ρ w (Free N ρ h) vs vals->RVs (λ_=>none) w N.a ds vals
 |[],ds,vals,_,hf,hv=>by simp[frzs]at hf;subst hf;cases hv;exact .nil
 |v::vs,ds,vals,hp,hf,hv=>by
  simp only[Y3,Ye]at hp
  cases hv with
  |cons h1 h2 =>
   simp only[frzs]at hf;split at hf
   .rename_i x xs hx hxs;cases hf;exact .cons (Zrx R hp.1 hx h1) (Zry R hp.2 hxs h2)
   .cases hf
theorem Z20(R:Rel N base ρ h w)(hf:frzR h v=some d)(hv:RV ρ w (Free N ρ h) v val):RV (λ_=>none) w N.a d val:=by
 unfold frzR at hf;split at hf
 .split at hf
  .rename_i hg;split at hf
   .rename_i ds hds;cases hf
    cases hv with
    |tup hc=>exact .tup (Zry R hg hds hc)
   .cases hf
  .cases hf
 .split at hf
  .rename_i hg;exact Zrx R hg hf hv
  .cases hf
end
open Go.RowKit (Below)
abbrev Wt:Map:=λ_=>none
def Xg(P:Program):Ctr:=λf args h0 r h1=>UB P f=true/\∀(N:Par) (base:Nat) (w:World) (ρ:Map) (vs:Array Value),Rel N base ρ h0 w->(∀b,h0.length<=b->ρ b=none)->
 RVs ρ w (Free N ρ h0) args vs.toList->(∀g,N.z g->Free N ρ h0 g)->
 Calls P f vs w λe w'=>∃v ρ',e=.returned v/\Below base w w'/\Rel N base ρ' h1 w'/\RV ρ' w' (Free N ρ' h1) r v/\(∀b,h1.length<=b->ρ' b=none)/\h0.length<=h1.length/\
  (∀g,g<w.heap.size->¬N.a g->w'.heap[g]?=w.heap[g]?)/\(∀g,g<w.heap.size->N.z g->Free N ρ' h1 g/\w'.heap[g]?=w.heap[g]?)/\
  ∀b r0,b<h0.length->ρ b=some r0->∃r1,ρ' b=some r1/\r1.v=r0.v
theorem Rel.empty{N:Par}{base:Nat}{w:World}(hb:base<=w.heap.size)(hN:∀g,w.heap.size<=g->N.a g/\N.f g):Rel N base Wt [] w :=
 ⟨hb,hN,λb r g hr=>(by cases hr),λb hb=>absurd (by simp[gt]) hb,λb b' r r' g hb=>(by cases hb),λb b' r r' g hb=>(by cases hb)⟩
theorem Xg.data{P:Program}{f:Nat}{args:XQ}{r:AV}{hr:V1}(h:Xg P f args [] r hr)(w:World)(A:Nat->Prop)(vs:Array Value)(hv:RVs Wt w A args vs.toList) :
  Calls P f vs w λe w'=>∃v ρ,e=.returned v/\Below w.heap.size w w'/\Rel (calP w A) w.heap.size ρ hr w'/\RV ρ w' (Free (calP w A) ρ hr) r v/\∀b,hr.length<=b->ρ b=none:=by
 have hk:Keeps Wt w A Wt w (Free (calP w A) Wt []):=⟨λb r hb=>(by cases hb),λg _ hg=>⟨⟨.inr hg,λb r hb=>(by cases hb)⟩,rfl⟩⟩;refine(h.2 (calP w A) w.heap.size w Wt vs (.empty (Yg _) λg hg=>⟨.inl hg,hg⟩) (λ_ _=>rfl) (hv.keep hk) (λg hg=>hg.elim)).mono ?_;rintro e w' ⟨v,ρ,rfl,h1,h2,h3,h4,_⟩;exact⟨v,ρ,rfl,h1,h2,h3,h4⟩
section
variable{P:Program}{N:Par}{base:Nat}{ρ:Map}{h:V1}{w:World}{e:Env}{a:Act}{inl:V2}{ops:Array Oper}{F:Nat->Prop}{f:Nat}{v d r:AV}{val:Value}{vs as:XQ}{o:Oper}{vals:Array Value}{hr:V1}{K:Act->World->Prop}{Q:Exit->Act->World->Prop}
theorem frzT_rel(R:Rel N base ρ h w){x:T}(hf:frzT h v=some x)(hv:RV ρ w (Free N ρ h) v val)(hF:(refs v=[]/\∀g,Free N ρ h g->F g)\/∀g,F g):∃fp,TR w x val fp/\∀g∈fp,F g:=by
 cases v<;>try (simp[frzT]at hf;done)
 .simp[frzT]at hf;subst hf
  cases hv with
  |t hT hf=>exact⟨_,hT,λg hg=>hF.elim (λh2=>h2.2 g (hf g hg)) λh2=>h2 g⟩
 .rename_i b;simp only[frzT]at hf;split at hf
  .rename_i el sz fr es hb;cases hf;rcases hF with hF|hF
   .simp[refs]at hF
   .cases hv with
    |own hr hone =>
     obtain⟨fp,hT,_,_⟩:=ZdI R hr hb;exact⟨fp,hT,λg _=>hF g⟩
  .rename_i el sz es hb;cases hf;rcases hF with hF|hF
   .simp[refs]at hF
   .cases hv with
    |own hr hone =>
     obtain⟨fp,hT⟩:=Zro R hr hb;exact⟨fp,hT,λg _=>hF g⟩
  .cases hf
theorem Zky{F:Nat->Prop}(R:Rel N base ρ h w):∀{cs:XQ} {ts:V4} {vs:V3},VP h cs=some ts->RVs ρ w (Free N ρ h) cs vs->((Zw cs=[]/\∀g,Free N ρ h g->F g)\/∀g,F g)->∃fp,TRs w ts vs fp/\∀g∈fp,F g
 |[],ts,vs,hg,hv,_=>by simp[VP]at hg;subst hg;cases hv;exact⟨[],.nil,λg hg=>by cases hg⟩
 |c::cs,ts,vs,hg,hv,hF=>by
  cases hv with
  |cons h1 h2 =>
   simp only[VP]at hg;split at hg
   .rename_i x xs hx hxs;cases hg;obtain⟨fp,h3,h4⟩:=frzT_rel R hx h1 (hF.imp (λ⟨q1,q2⟩=>⟨by simp[Zw]at q1;exact q1.1,q2⟩) id);obtain⟨fq,h5,h6⟩:=Zky R hxs h2 (hF.imp (λ⟨q1,q2⟩=>⟨by simp[Zw]at q1;exact q1.2,q2⟩) id);exact⟨fp++fq,.cons h3 h5,λg hg=>(Yk.1 hg).elim (h4 g) (h6 g)⟩
   .cases hg
theorem Zrz(R:Rel N base ρ h w)(hf:frz1 h v=some d)(hv:RV ρ w (Free N ρ h) v val)(hF:(refs v=[]/\∀g,Free N ρ h g->F g)\/∀g,F g):RV Wt w F d val:=by
 cases v<;>try (simp[frz1]at hf;done)
 .simp[frz1]at hf;subst hf;cases hv;exact .nilp
 .simp[frz1]at hf;subst hf
  cases hv with
  |t hT hf=>exact .t hT λg hg=>hF.elim (λh2=>h2.2 g (hf g hg)) λh2=>h2 g
 .rename_i cs;simp only[frz1]at hf;split at hf
  .rename_i ds hds;cases hf
   cases hv with
   |agg hc h1 =>
    obtain⟨fp,h3,h4⟩:=Zky R hds hc (hF.imp (λ⟨q1,q2⟩=>⟨by simpa[refs]using q1,q2⟩) id);exact .agg (RVs.of_TRs h3 h4) h1
  .cases hf
 .rename_i b off;simp only[frz1]at hf;split at hf
  .rename_i cs hb;split at hf
   .rename_i ts hts;cases hf;rcases hF with hF|hF
    .simp[refs]at hF
    .cases hv with
     |ptr hr hv =>
      obtain⟨r',h1,h2⟩:=R.blk b (by rw[hb];intro hc;cases hc);rw[hr]at h1;cases h1;rw[hb]at h2;obtain⟨hx0,g',c,te,hv2,_,hh,hcs,hone⟩:=h2;rw[hv]at hv2;cases hv2;obtain⟨fp,h3,h4⟩:=Zky R hts hcs (.inr hF);have hl:ts.length=c.toList.length:=h3.length;have:=RV.iptr (ρ:=Wt) (F:=F) (o:=0) (off:=off) hh (hF _) (by rw[Yo,hl,Yc4];exact h3) (λg _=>hF g);simpa using this
   .cases hf
  .cases hf
 .simp[frz1]at hf;subst hf
  cases hv with
  |iptr hg hF' hc hf=>exact .iptr hg (hF.elim (λh2=>h2.2 _ hF') λh2=>h2 _) hc λg hg=>hF.elim (λh2=>h2.2 g (hf g hg)) λh2=>h2 g
 .rename_i b;simp only[frz1]at hf;split at hf
  .rename_i el sz fr es hb;cases hf;rcases hF with hF|hF
   .simp[refs]at hF
   .cases hv with
    |own hr hone =>
     obtain⟨fp,hT,_,_⟩:=ZdI R hr hb;exact .t hT λg _=>hF g
  .rename_i el sz es hb;cases hf;rcases hF with hF|hF
   .simp[refs]at hF
   .cases hv with
    |own hr hone =>
     obtain⟨fp,hT⟩:=Zro R hr hb;exact .t hT λg _=>hF g
  .cases hf
theorem Zr0{F:Nat->Prop}(R:Rel N base ρ h w):∀{vs ds:XQ} {vals:V3},Q8 h vs=some ds->RVs ρ w (Free N ρ h) vs vals->((Zw vs=[]/\∀g,Free N ρ h g->F g)\/∀g,F g)->RVs Wt w F ds vals
 |[],ds,vals,hf,hv,_=>by simp[Q8]at hf;subst hf;cases hv;exact .nil
 |v::vs,ds,vals,hf,hv,hF=>by
  cases hv with
  |cons h1 h2 =>
   simp only[Q8]at hf;split at hf
   .rename_i x xs hx hxs;cases hf;exact .cons (Zrz R hx h1 (hF.imp (λ⟨q1,q2⟩=>⟨by simp[Zw]at q1;exact q1.1,q2⟩) id)) (Zr0 R hxs h2 (hF.imp (λ⟨q1,q2⟩=>⟨by simp[Zw]at q1;exact q1.2,q2⟩) id))
   .cases hf
theorem frz_rel(R:Rel N base ρ h w)(hf:frz h v=some d)(hv:RV ρ w (Free N ρ h) v val)(hF:(refs v=[]/\∀g,Free N ρ h g->F g)\/∀g,F g):RV Wt w F d val:=by
 by_cases hx:∃g cs,v=.fn g cs
 .obtain⟨g,cs,rfl⟩:=hx;simp only[frz]at hf;split at hf
  .rename_i ds hds;cases hf
   cases hv with
   |fn hc=>exact .fn (Zr0 R hds hc (hF.imp (λ⟨q1,q2⟩=>⟨by simpa[refs]using q1,q2⟩) id))
  .cases hf
 .have:frz h v=frz1 h v:=by
   cases v<;>first|rfl|exact absurd ⟨_,_,rfl⟩ hx
  rw[this]at hf;exact Zrz R hf hv hF
theorem ZgO(R:Rel N base ρ h w){ds:XQ}{vals:V3}(hf:frzs h vs=some ds)(hv:RVs ρ w (Free N ρ h) vs vals)(hF:(Zw vs=[]/\∀g,Free N ρ h g->F g)\/∀g,F g):RVs Wt w F ds vals:=by
 induction vs generalizing ds vals with
 |nil=>simp[frzs]at hf;subst hf;cases hv;exact .nil
 |cons v vs ih =>
  cases hv with
  |cons h1 h2 =>
   simp only[frzs]at hf;split at hf
   .rename_i x xs hx hxs;cases hf;exact .cons (frz_rel R hx h1 (hF.imp (λ⟨q1,q2⟩=>⟨by simp[Zw]at q1;exact q1.1,q2⟩) id)) (ih hxs h2 (hF.imp (λ⟨q1,q2⟩=>⟨by simp[Zw]at q1;exact q1.2,q2⟩) id))
   .cases hf
theorem Zr1(hc:UB P f=true)(args:Array Value)(w:World):(callFunc f args).run P w=.ok (.enter f args) w:=by
 unfold UB at hc;split at hc
 .rename_i fn hfn;simp only[Ye,bne_iff_ne,ne_eq]at hc
  cases hb:fn.body with
  |none=>simp[hb]at hc
  |some c=>simp[callFunc,hfn,hc.2,hb]
 .cases hc
def opR(Γ:Ctr)(h:V1)(nx:Nat)(e:Env)(k:MOp)(v:AV)(u:List (Nat×Blk)):Prop:=match k with
 |.call f args=>∃as,frzs h (args.map (ev e))=some as/\∃r hr,Γ f as [] r hr/\(Vj (args.map (ev e)) || frR r hr)=true/\v=shift nx r/\u=newU nx hr 0
 |.xcall f args=>∃as,frzs h (args.map (ev e))=some as/\∃r hr,Γ f as [] r hr/\frR r hr=true/\v=shift nx r/\u=newU nx (hr.map xB) 0
 |.fcall f args=>∃as,frzs h (args.map (ev e))=some as/\Vj (args.map (ev e))=true/\∃r hr,Γ f as [] r hr/\frzR hr r=some v/\u=[]
 |.icall f args=>XH Γ f (args.map (ev e)) h nx λv' u'=>v=v'/\u=u'
 |.scall f args p=>XH Γ f (args.map (ev e)) h nx λv' u'=>∃u2,Ui h u' (ev e p)=some u2/\v=v'/\u=u'++u2
 |.pcall f args=>Qg Γ f (args.map (ev e)) h nx λv' u'=>v=v'/\u=u'
 |.dcall f args=>∃g caps,ev e f=.fn g caps/\XH Γ g (args.map (ev e)++caps) h nx λv' u'=>v=v'/\u=u'
 |k=>Zs h nx e k=some (v,u)
structure After (N:Par) (base:Nat) (ρ:Map) (h:V1) (w:World) (v:AV) (u:List (Nat×Blk)) (val:Value) (w':World) (ρ':Map):Prop where
 val:RV ρ' w' (Free N ρ' (upd h u)) v val
 rel:Rel N base ρ' (upd h u) w'
 keeps:Keeps ρ w (Free N ρ h) ρ' w' (Free N ρ' (upd h u))
 same:∀b,b ∉ u.map Prod.fst->ρ b=none->ρ' b=none
 below:Below base w w'
 kn:∀g,g<w.heap.size->¬N.a g->w'.heap[g]?=w.heap[g]?
def named:MOp->Option (Nat×List Opd)
 |.call f args=>some (f,args)
 |.xcall f args=>some (f,args)
 |.fcall f args=>some (f,args)
 |.icall f args=>some (f,args)
 |.scall f args _=>some (f,args)
 |.pcall f args=>some (f,args)
 |_=>none
theorem J3{op:Op}{k:MOp}(hk:ZA P inl ops op=some k) :
  (∀f args,named k=some (f,args)->∃c,op=.call c/\c.callee=.value (.func f)/\mapO opd c.args.toList=some args/\UB P f=true)/\
  (∀x args,k=.dcall x args->∃c y,op=.call c/\c.callee=.value y/\opd y=some x/\mapO opd c.args.toList=some args):=by
 cases op with
 |call c =>
  obtain⟨callee,as,ts⟩:=c
  cases callee with
  |invoke r m=>simp[ZA]at hk
  |builtin b =>
   have:named k=none/\(∀x args,k≠.dcall x args):=by
    cases b<;>simp only[ZA]at hk<;>(repeat' split at hk)<;>first
     |cases hk;done
     |(cases hk;exact⟨rfl,by simp⟩)
     |(obtain⟨_,_,rfl⟩:=Yr.1 hk;exact⟨rfl,by simp⟩)
   exact⟨λf args h=>(by rw[this.1]at h;cases h),λx args h=>absurd h (this.2 x args)⟩
  |value y =>
   cases y with
   |func f =>
    simp only[ZA]at hk;split at hk
    .rename_i hc;obtain⟨as',h1,h2⟩:=Yr.1 hk;have hn:named k=some (f,as')/\∀x args,k≠.dcall x args:=by
      subst h2;unfold callK
      repeat' split
      all_goals exact⟨rfl,by simp⟩
     refine⟨λf' args hq=>?_,λx args hq=>absurd hq (hn.2 x args)⟩;rw[hn.1]at hq;cases hq;exact⟨_,rfl,rfl,h1,hc⟩
    .cases hk
   |tmp t =>
    simp only[ZA]at hk;split at hk
    .rename_i x as' hx has;cases hk;refine⟨by simp[named],?_⟩;intro x' args hq;cases hq;exact⟨_,_,rfl,rfl,hx,has⟩
    .cases hk
   |const v =>
    simp only[ZA]at hk;split at hk
    .rename_i x as' hx has;cases hk;refine⟨by simp[named],?_⟩;intro x' args hq;cases hq;exact⟨_,_,rfl,rfl,hx,has⟩
    .cases hk
   |global g =>
    simp only[ZA]at hk;split at hk
    .rename_i x as' hx has;simp[opd]at hx
    .cases hk
 |makeFunc fn first caps =>
  have:named k=none/\(∀x args,k≠.dcall x args):=by
   cases fn<;>simp only[ZA]at hk<;>(repeat' split at hk)<;>first
    |(cases hk;done)
    |(cases hk;exact⟨rfl,by simp⟩)
    |(obtain⟨_,_,rfl⟩:=Yr.1 hk;exact⟨rfl,by simp⟩)
  exact⟨λf args h=>(by rw[this.1]at h;cases h),λx args h=>absurd h (this.2 x args)⟩
 |slice t x lo hi mx =>
  have:named k=none/\(∀x args,k≠.dcall x args):=by
   cases mx<;>simp only[ZA]at hk<;>(repeat' split at hk)<;>first
    |(cases hk;done)
    |(cases hk;exact⟨rfl,by simp⟩)
    |(obtain⟨_,_,rfl⟩:=Yr.1 hk;exact⟨rfl,by simp⟩)
  exact⟨λf args h=>(by rw[this.1]at h;cases h),λx args h=>absurd h (this.2 x args)⟩
 |_ =>
  have:named k=none/\(∀x args,k≠.dcall x args):=by
   simp only[ZA]at hk<;>(repeat' split at hk)<;>first
    |(cases hk;done)
    |(cases hk;exact⟨rfl,by simp⟩)
    |(obtain⟨_,_,rfl⟩:=Yr.1 hk;exact⟨rfl,by simp⟩)
  exact⟨λf args h=>(by rw[this.1]at h;cases h),λx args h=>absurd h (this.2 x args)⟩
theorem Zbu{c:Call}(ho:o.op=.call c)(hc:c.callee=.value (.func f))(hcl:UB P f=true)(w:World):(execOp a.eval o).run P w=.ok (.enter f (c.args.map a.eval)) w:=by
 unfold execOp;rw[ho];simp[resolve,hc,Act.eval,Deferred.ofValue,invoke,Zr1 hcl]
theorem Z21(R:Rel N base ρ h w){nx:Nat}(hargs:RVs ρ w (Free N ρ h) vs vals.toList)(hu:∀b,b∈(newU nx hr 0).map Prod.fst->nx<=b->ρ b=none)
  (hfz:frzs h vs=some as) (hG:Xg P f as [] r hr) (hsh:(Vj vs || frR r hr)=true) (hex:(execOp a.eval o).run P w=.ok (.enter f vals) w) (hK:∀val w' ρ',After N base ρ h w (shift nx r) (newU nx hr 0) val w' ρ'->K (a.put o.dst val) w'):o.wp P a w K Q:=by
 have hnew:∀b,nx<=b->b<nx+hr.length->ρ b=none:=by
  intro b h1 h2;refine hu b ?_ h1;exact(ZdM nx hr 0 b).2 (by omega)
 have main:∀A:Nat->Prop,RVs Wt w A as vals.toList->((∀g,A g->Free N ρ h g)\/frR r hr=true)->o.wp P a w K Q:=by
  intro A hA hs;unfold Oper.wp;rw[hex];show Calls P f vals w _;refine(hG.data w A _ hA).mono ?_;rintro e w' ⟨val,ρc,rfl,hB,hRc,hv,hdom⟩;have J:JoinH N A base ρ h w ρc hr w' nx:=⟨R,hB,hRc,hnew,hdom,hs.imp id λhf=>by simp only[frR,Ye]at hf;exact hf.2⟩;refine hK val w' (Wi ρ ρc nx hr.length) ⟨J.val hv (hs.imp id λhf=>by simp only[frR,Ye]at hf;exact hf.1),J.rel,J.keeps,?_,hB.mono R.hb,λg hg _=>hB.block g hg⟩;intro b hb hb0;rw[ZdM]at hb;simp only[Wi];rw[Yb (by omega)];exact hb0
 simp only[Yb6]at hsh;rcases hsh with hsh|hsh
 .have h0:Zw vs=[]:=by simpa[Vj]using hsh
  exact main (Free N ρ h) (ZgO R hfz hargs (.inl ⟨h0,λ_ h=>h⟩)) (.inl λ_ h=>h)
 .exact main (λ_=>True) (ZgO R hfz hargs (.inr λ_=>trivial)) (.inr hsh)
theorem Z22(R:Rel N base ρ h w)(hargs:RVs ρ w (Free N ρ h) vs vals.toList)
  (hfz:frzs h vs=some as) (hno:Vj vs=true) (hG:Xg P f as [] r hr) (hd:frzR hr r=some d) (hex:(execOp a.eval o).run P w=.ok (.enter f vals) w) (hK:∀val w' ρ',After N base ρ h w d [] val w' ρ'->K (a.put o.dst val) w'):o.wp P a w K Q:=by
 have h0:Zw vs=[]:=by simpa[Vj]using hno
 have hA:RVs Wt w (Free N ρ h) as vals.toList:=ZgO R hfz hargs (.inl ⟨h0,λ_ h=>h⟩);unfold Oper.wp;rw[hex];show Calls P f vals w _;refine(hG.data w (Free N ρ h) _ hA).mono ?_;rintro e w' ⟨val,ρc,rfl,hB,hRc,hv,hdom⟩;have hv':=Z20 hRc hd hv;have J:JoinH N (Free N ρ h) base ρ h w Wt [] w' h.length:=⟨R,hB,Rel.empty hB.size hRc.hN,λb h1 h2=>absurd h2 (by simp;omega),λb _=>rfl,.inl λ_ h=>h⟩;have e1:Wi ρ Wt h.length ([]:V1).length=ρ:=by
  funext b;simp only[Wi,Ybu,Ybs];rw[Yb (by omega)]
 have e2:upd h (newU h.length [] 0)=h:=rfl;have q1:=J.rel;have q2:=J.keeps;rw[e1,e2]at q1 q2;refine hK val w' ρ ⟨?_,q1,q2,λb _ hb=>hb,hB.mono R.hb,λg hg _=>hB.block g hg⟩;refine hv'.keep ⟨λb r hb=>(by cases hb),λg hg hf=>⟨?_,rfl⟩⟩;have:=J.free_new (g:=g) ⟨hf,λb r hb=>(by cases hb)⟩ (.inr λ_ h=>h);rw[e1,e2]at this;exact this
def xR(b:Blk)(r:Root):Root:=if ZG b=true then⟨r.v,[],r.fp⟩else r
def WH(ρ ρc:Map)(n:Nat)(hr:V1):Map:=λb=>if n<=b/\b<n+hr.length then(ρc (b-n)).map (xR (gt hr (b-n)))else ρ b
theorem gt_mapX(hr:V1)(i:Nat):gt (hr.map xB) i=xB (gt hr i):=by
 unfold gt;rw[Ych];cases hr[i]?<;>rfl
theorem renB_xB(f:Nat->Nat)(b:Blk):renB f (xB b)=xB (renB f b):=by
 cases b with
 |arr e sz fr es=>cases fr<;>rfl
 |_=>rfl
section
variable{A:Nat->Prop}{ρc:Map}{hr:V1}{w':World}{n:Nat}
theorem JoinH.xrel(J:JoinH N A base ρ h w ρc hr w' n)(hfr:hr.all frB=true) :
  Rel N base (WH ρ ρc n hr) (upd h (newU n (hr.map xB) 0)) w'/\Keeps ρ w (Free N ρ h) (WH ρ ρc n hr) w' (Free N (WH ρ ρc n hr) (upd h (newU n (hr.map xB) 0))):=by
 have hgt:∀b,gt (upd h (newU n (hr.map xB) 0)) b=if n<=b/\b<n+hr.length then xB (renB (λc=>c+n) (gt hr (b-n)))else gt h b:=by
  intro b;rw[Kw];simp only[Ybs,Y6];split
  .rw[gt_mapX,renB_xB]
  .rfl
 have hsplit:∀b r,WH ρ ρc n hr b=some r->gt (upd h (newU n (hr.map xB) 0)) b≠.dead->
   (ρ b=some r/\gt h b≠.dead/\gt (upd h (newU n (hr.map xB) 0)) b=gt h b)\/
   (∃r0,n<=b/\b<n+hr.length/\ρc (b-n)=some r0/\r=xR (gt hr (b-n)) r0/\gt hr (b-n)≠.dead/\gt (upd h (newU n (hr.map xB) 0)) b=xB (renB (λc=>c+n) (gt hr (b-n)))):=by
  intro b r hb hd;rw[hgt]at hd|-;simp only[WH]at hb;by_cases hc:n<=b/\b<n+hr.length
  .rw[Ya hc]at hb hd|-;obtain⟨r0,h1,h2⟩:=Yr.1 hb;exact .inr ⟨r0,hc.1,hc.2,h1,h2.symm,λhx=>hd (by rw[hx];rfl),rfl⟩
  .rw[Yb hc]at hb hd|-;exact .inl ⟨hb,hd,rfl⟩
 -- the blocks of a new root are new
 have hnew:∀i r0 g,ρc i=some r0->gt hr i≠.dead->ZS (xR (gt hr i) r0) g->w.heap.size<=g/\(ZS r0 g\/(ZG (gt hr i)=true/\g∈r0.fp)):=by
  intro i r0 g h1 h2 h3;unfold xR at h3;by_cases hf:ZG (gt hr i)=true
  .rw[Ya hf]at h3;rcases h3 with h3|h3
   .exact⟨(J.Rc.lt h1 h2 (.inl h3)).1,.inl (.inl h3)⟩
   .exact⟨(J.Rc.fresh h1 hf g h3).1,.inr ⟨hf,h3⟩⟩
  .rw[Yb hf]at h3;exact⟨(J.Rc.lt h1 h2 h3).1,.inl h3⟩
 have hfree:∀g,g<w.heap.size->Free N ρ h g->Free N (WH ρ ρc n hr) (upd h (newU n (hr.map xB) 0)) g:=by
  intro g hlt hg;refine⟨hg.1,λb r hb hd he=>?_⟩;rcases hsplit b r hb hd with⟨h1,h2,_⟩|⟨r0,_,_,h1,h2,h3,_⟩
  .exact hg.2 b r h1 h2 he
  .rw[h2]at he;have:=(hnew _ r0 g h1 h3 he).1;omega
 have hkeep:Keeps ρ w (Free N ρ h) (WH ρ ρc n hr) w' (Free N (WH ρ ρc n hr) (upd h (newU n (hr.map xB) 0))):=by
  refine⟨λb r hb=>⟨r,?_,rfl⟩,λg hlt hg=>⟨hfree g hlt hg,J.B.block g hlt⟩⟩;simp only[WH];rw[Yb λhc=>by rw[J.new b hc.1 hc.2]at hb;cases hb];exact hb
 have hroot:∀c r0,ρc c=some r0->∃r1,WH ρ ρc n hr (c+n)=some r1/\r1.v=r0.v:=by
  intro c r0 hc;have hlt:c<hr.length:=by
   rcases Ycr c hr.length with q|q
   .exact q
   .rw[J.dom c q]at hc;cases hc
  refine⟨xR (gt hr c) r0,?_,?_⟩
  .simp only[WH];rw[Ya (by omega),Ydz,hc];rfl
  .unfold xR;split<;>rfl
 refine⟨⟨Yu J.R.hb J.B.size,λg hl=>J.R.hN g (Yu J.B.size hl),?_,?_,?_,?_⟩,hkeep⟩
 .intro b r g hb hd hg;rcases hsplit b r hb hd with⟨h1,h2,_⟩|⟨r0,_,_,h1,h2,h3,_⟩
  .exact J.R.hO b r g h1 h2 hg
  .rw[h2]at hg;exact J.R.hN g (hnew _ r0 g h1 h3 hg).1
 .intro b hd;have hd0:=hd;rw[hgt]at hd;by_cases hc:n<=b/\b<n+hr.length
  .rw[Ya hc]at hd;obtain⟨r0,h1,h2⟩:=J.Rc.blk (b-n) λhx=>hd (by rw[hx];rfl)
   refine⟨xR (gt hr (b-n)) r0,by simp only[WH];rw[Ya hc,h1];rfl,?_⟩;rw[hgt,Ya hc]
   cases hx:gt hr (b-n)with
   |dead=>trivial
   |box cs =>
    rw[hx]at h2;obtain⟨h0,g,c,e,h3,h4,h5,h6,h7⟩:=h2
    exact⟨h0,g,c,e,h3,Yu J.R.hb h4,h5,h6.scalX _ (λc _ r hr'=>hroot c r hr') (Zrt hfr hx),h7⟩
   |arr e sz fr es =>
    have hft:fr=true:=Zkx hfr hx;subst hft;rw[hx]at h2;obtain⟨h0,e',xs,he',h3,h4,h5,h6,h7,h8,h9⟩:=h2
    exact⟨e',xs,he',J0 J.R.hb h3,h4,h5,h6,(h9 rfl).mono J.R.hb,(h8 rfl).1,λg hg hv=>(h7 g hg).2 (b-n) r0 h1 (by rw[hx];intro hc;cases hc) (.inl hv)⟩
   |xarr e sz es =>
    rw[hx]at h2;obtain⟨e',xs,he',h3,h4,h5,h6,h7,rest⟩:=h2
    exact⟨e',xs,he',J0 J.R.hb h3,h4,h5,h6,h7.mono J.R.hb,rest⟩
   |det e sz es i off c =>
    rw[hx]at h2;obtain⟨e',xs,rb,fa,fc,he,ho,hsz,hl,hrb,hcell,q1,q2,hex,hA,hC,oA,oC,rest⟩:=h2;obtain⟨r1,k1,k2⟩:=hroot c rb hrb;exact⟨e',xs,r1,fa,fc,he,J0 J.R.hb ho,hsz,hl,k1,by rw[k2];exact hcell,q1,q2,hex,hA,hC,oA.mono J.R.hb,oC.mono J.R.hb,rest⟩
  .rw[Yb hc]at hd;obtain⟨r,h1,h2⟩:=J.R.blk b hd;refine⟨r,by simp only[WH];rw[Yb hc];exact h1,?_⟩;rw[hgt,Yb hc];exact h2.keep hkeep λg hg=>J.B.block g (h2.lt hd hg).2
 .intro b b' r r' g hb hb' hd hd' hg hg';rcases hsplit b r hb hd with⟨h1,h2,_⟩|⟨r0,z1,z2,h1,h2,h3,_⟩<;>rcases hsplit b' r' hb' hd' with⟨h4,h5,_⟩|⟨r1,z3,z4,h4,h5,h6,_⟩
  .exact J.R.inj b b' r r' g h1 h4 h2 h5 hg hg'
  .rw[h5]at hg';have q1:=(J.R.lt h1 h2 hg).2;have q2:=(hnew _ r1 g h4 h6 hg').1;omega
  .rw[h2]at hg;have q1:=(J.R.lt h4 h5 hg').2;have q2:=(hnew _ r0 g h1 h3 hg).1;omega
  .rw[h2]at hg;rw[h5]at hg';have key:b-n=b'-n:=by
    rcases(hnew _ r0 g h1 h3 hg).2 with q|⟨q,q'⟩<;>rcases(hnew _ r1 g h4 h6 hg').2 with p|⟨p,p'⟩
    .exact J.Rc.inj _ _ r0 r1 g h1 h4 h3 h6 q p
    .exact absurd q ((J.Rc.fresh h4 p g p').2.1.2 _ r0 h1 h3)
    .exact absurd p ((J.Rc.fresh h1 q g q').2.1.2 _ r1 h4 h6)
    .exact J.Rc.apart _ _ r0 r1 g h1 h4 q p q' p'
   omega
 .intro b b' r r' g hb hb' hf hf' hg hg';have nofr:∀b r,WH ρ ρc n hr b=some r->ZG (gt (upd h (newU n (hr.map xB) 0)) b)=true->ρ b=some r/\ZG (gt h b)=true:=by
   intro b r hb hf;rcases hsplit b r hb (Ws hf)with⟨h1,h2,e1⟩|⟨r0,_,_,h1,h2,h3,e1⟩
   .rw[e1]at hf;exact⟨h1,hf⟩
   .exfalso;rw[e1]at hf
    cases hx:gt hr (b-n)with
    |arr e sz fr es =>
     have hft:fr=true:=Zkx hfr hx;subst hft
     rw[hx]at hf;cases hf
    |_=>rw[hx]at hf;cases hf
  obtain⟨h1,h2⟩:=nofr b r hb hf;obtain⟨h3,h4⟩:=nofr b' r' hb' hf';exact J.R.apart b b' r r' g h1 h3 h2 h4 hg hg'
end
theorem Z23{o:Oper}(R:Rel N base ρ h w){nx f:Nat}{vs as:XQ}{vals:Array Value}(hargs:RVs ρ w (Free N ρ h) vs vals.toList){r:AV}{hr:V1}(hu:∀b,b∈(newU nx (hr.map xB) 0).map Prod.fst->nx<=b->ρ b=none)
  (hfz:frzs h vs=some as) (hG:Xg P f as [] r hr) (hsh:frR r hr=true) (hex:(execOp a.eval o).run P w=.ok (.enter f vals) w)
  {K:Act->World->Prop} {Q:Exit->Act->World->Prop} (hK:∀val w' ρ',After N base ρ h w (shift nx r) (newU nx (hr.map xB) 0) val w' ρ'->K (a.put o.dst val) w'):o.wp P a w K Q:=by
 have hnew:∀b,nx<=b->b<nx+hr.length->ρ b=none:=by
  intro b h1 h2;refine hu b ?_ h1;exact(ZdM nx (hr.map xB) 0 b).2 (by simp;omega)
 unfold Oper.wp;rw[hex];show Calls P f vals w _;refine(hG.data w (λ_=>True) _ (ZgO R hfz hargs (.inr λ_=>trivial))).mono ?_;rintro e w' ⟨val,ρc,rfl,hB,hRc,hv,hdom⟩;simp only[frR,Ye]at hsh;have J:JoinH N (λ_=>True) base ρ h w ρc hr w' nx:=⟨R,hB,hRc,hnew,hdom,.inr hsh.2⟩;obtain⟨h1,h2⟩:=J.xrel hsh.2;refine hK val w' (WH ρ ρc nx hr) ⟨?_,h1,h2,?_,hB.mono R.hb,λg hg _=>hB.block g hg⟩
 .refine hv.scalX _ (λc _ r0 hc=>?_) hsh.1;have hlt:c<hr.length:=by
   rcases Ycr c hr.length with q|q
   .exact q
   .rw[hdom c q]at hc;cases hc
  refine⟨xR (gt hr c) r0,?_,?_⟩
  .simp only[WH];rw[Ya (by omega),Ydz,hc];rfl
  .unfold xR;split<;>rfl
 .intro b hb hb0;rw[ZdM]at hb;simp only[WH];rw[Yb (by simp at hb;omega)];exact hb0
end
open Go.RowKit (Below)
section
variable{P:Program}{N:Par}{base:Nat}{ρ:Map}{h:V1}{w:World}{e:Env}{a:Act}{inl:V2}{ops:Array Oper}{ids:V2}{i nx b m:Nat}{F:Nat->Prop}{ρ1:Map}
theorem RV.root{x:AV}{v:Value}(hv:RV ρ w F x v):∀b∈refs x,∃r,ρ b=some r:=by
 refine RV.rec (motive_1:=λx v _=>∀b∈refs x,∃r,ρ b=some r) (motive_2:=λxs vs _=>∀b∈Zw xs,∃r,ρ b=some r) ?_ ?_ ?_ ?_ ?_ ?_ ?_ ?_ ?_ ?_ ?_ ?_ ?_ hv
 .intro v b hb;cases hb
 .intro b hb;cases hb
 .intro x v fp _ _ b hb;cases hb
 .intro cs c _ _ ih;simpa[refs]using ih
 .intro cs c _ ih;simpa[refs]using ih
 .intro b off g r hr _ c hc;simp[refs]at hc;subst hc;exact⟨r,hr⟩
 .intro b i sz off g n cap r hr _ c hc;simp[refs]at hc;subst hc;exact⟨r,hr⟩
 .intro cs off g o c e fz fp _ _ _ _ b hb;cases hb
 .intro b r hr _ c hc;simp[refs]at hc;subst hc;exact⟨r,hr⟩
 .intro b n g r hr _ c hc;simp[refs]at hc;subst hc;exact⟨r,hr⟩
 .intro f cs c _ ih;simpa[refs]using ih
 .intro b hb;cases hb
 .intro x v xs vs _ _ ih1 ih2 b hb;simp only[Zw,Yk]at hb;exact hb.elim (ih1 b) (ih2 b)
theorem RVs.root{xs:XQ}{vs:V3}(hv:RVs ρ w F xs vs):∀b∈Zw xs,∃r,ρ b=some r:=by
 induction xs generalizing vs with
 |nil=>intro b hb;cases hb
 |cons x xs ih =>
  cases hv with
  |cons h1 h2 =>
   intro b hb;simp only[Zw,Yk]at hb;exact hb.elim (h1.root b) (ih h2 b)
theorem Zkz{p:Nat->Prop}(hc:∀b,p b->∀c∈X4 (gt h b),p c):∀(n:Nat) (todo acc:V2),(∀b∈todo,p b)->(∀b∈acc,p b)->∀b∈ZK h n todo acc,p b
 |0,_,_,_,ha,b,hb=>ha b (by simpa[ZK]using hb)
 |n+1,[],acc,_,ha,b,hb=>ha b (by simpa[ZK]using hb)
 |n+1,c::todo,acc,ht,ha,b,hb=>by
  simp only[ZK]at hb;split at hb
  .exact Zkz hc n todo acc (λb hb=>ht b (by simp[hb])) ha b hb
  .refine Zkz hc n _ _ (λb hb=>?_) (λb hb=>?_) b hb
   .rcases Yk.1 hb with hb|hb
    .exact hc c (ht c (by simp)) b hb
    .exact ht b (by simp[hb])
   .rcases Yk.1 hb with hb|hb
    .exact ha b hb
    .simp at hb;subst hb;exact ht b (by simp)
theorem Rel.refs_root(R:Rel N base ρ h w)(b:Nat):∀c∈X4 (gt h b),∃r,ρ c=some r:=by
 intro c hc
 cases hx:gt h b with
 |dead=>rw[hx]at hc;cases hc
 |arr e sz fr es=>rw[hx]at hc;cases hc
 |xarr e sz es=>rw[hx]at hc;cases hc
 |det e sz es i off b' =>
  obtain⟨r,h1,h2⟩:=R.blk b (by rw[hx];intro hc;cases hc);rw[hx]at h2 hc;obtain⟨_,_,rb,_,_,_,_,_,_,hrb,_⟩:=h2;simp[X4]at hc;subst hc
  exact⟨rb,hrb⟩
 |box cs =>
  obtain⟨r,h1,h2⟩:=R.blk b (by rw[hx];intro hc;cases hc);rw[hx]at h2 hc;obtain⟨_,g,c',e',_,_,_,h6,_⟩:=h2;exact h6.root c hc
theorem Zr2(R:Rel N base ρ h w){vs:XQ}{vals:V3}(hv:RVs ρ w (Free N ρ h) vs vals):∀b∈Z2 h vs,∃r,ρ b=some r :=
 Zkz (p:=λb=>∃r,ρ b=some r) (λb _ c hc=>R.refs_root b c hc) 200 (Zw vs) [] (λb hb=>hv.root b hb) (λb hb=>by cases hb)
theorem idx_at(hnd:ids.Nodup)(hi:ids[i]?=some b):idx b ids 0=i:=by
 obtain⟨j,h1,h2⟩:=Zrs (Yz hi) 0;rw[Yq]at h1;rw[h1];obtain⟨q1,q2⟩:=Yv.1 hi;obtain⟨q3,q4⟩:=Yv.1 h2;rcases Ydh j i with hlt|rfl|hlt
 .exact absurd (q4.trans q2.symm) (Yci.1 hnd j i q3 q1 hlt)
 .rfl
 .exact absurd (q2.trans q4.symm) (Yci.1 hnd i j q1 q3 hlt)
theorem Ql(hi:ids[i]?=some b):bk ids nx i=b:=by simp[bk,hi]
theorem Kx(hi:ids.length<=i):bk ids nx i=nx+(i-ids.length):=by simp[bk,Yb2 hi]
theorem bk_inj(hnd:ids.Nodup)(hn:∀j,j<m-ids.length->nx+j ∉ ids){j:Nat}(hi:i<m)(hj:j<m)(he:bk ids nx i=bk ids nx j):i=j:=by
 rcases Ycr i ids.length with h1|h1<;>rcases Ycr j ids.length with h2|h2
 .have e1:ids[i]?=some ids[i]:=by simp[h1]
  have e2:ids[j]?=some ids[j]:=by simp[h2]
  rw[Ql e1,Ql e2]at he;rw[<-idx_at hnd e1,<-idx_at hnd e2,he]
 .have e1:ids[i]?=some ids[i]:=by simp[h1]
  rw[Ql e1,Kx h2]at he;exact absurd (he▸Yz e1) (hn _ (by omega))
 .have e2:ids[j]?=some ids[j]:=by simp[h2]
  rw[Ql e2,Kx h1]at he;exact absurd (he.symm▸Yz e2) (hn _ (by omega))
 .rw[Kx h1,Kx h2]at he;omega
theorem Zbv(ids:V2)(nx:Nat):∀(bs:V1) (i b:Nat),b∈(Xk ids nx bs i).map Prod.fst↔∃j,i<=j/\j<i+bs.length/\bk ids nx j=b
 |[],i,b=>by simp[Xk];intro j h1 h2;omega
 |x::bs,i,b=>by
  simp only[Xk,Yw,Yl,Zbv ids nx bs (i+1),Ys];constructor
  .rintro(rfl|⟨j,h1,h2,h3⟩)
   .exact⟨i,Yg _,by omega,rfl⟩
   .exact⟨j,by omega,by omega,h3⟩
  .rintro⟨j,h1,h2,h3⟩;by_cases hj:j=i
   .subst hj;exact .inl h3.symm
   .exact .inr ⟨j,by omega,by omega,h3⟩
theorem ZgP(ids:V2)(nx:Nat):∀(bs:V1) (i:Nat) (h:V1) (b:Nat),(∀j,i<=j->j<i+bs.length->bk ids nx j≠b)->gt (upd h (Xk ids nx bs i)) b=gt h b
 |[],i,h,b,_=>rfl
 |x::bs,i,h,b,hb=>by
  simp only[Xk,upd];rw[ZgP ids nx bs (i+1) _ b (λj h1 h2=>hb j (by omega) (by simp;omega)),Wb,Yb λhe=>hb i (Yg _) (by simp) he.symm]
theorem Zk0(ids:V2)(nx:Nat):∀(bs:V1) (i:Nat) (h:V1),(∀j k,i<=j->j<i+bs.length->i<=k->k<i+bs.length->bk ids nx j=bk ids nx k->j=k)->∀j,i<=j->j<i+bs.length->
  gt (upd h (Xk ids nx bs i)) (bk ids nx j)=renB (bk ids nx) (gt bs (j-i))
 |[],i,h,_,j,h1,h2=>by simp at h2;omega
 |x::bs,i,h,hinj,j,h1,h2=>by
  simp only[Ys]at h2 hinj;simp only[Xk,upd];by_cases hj:j=i
  .subst hj;rw[ZgP ids nx bs (j+1) _ _ (λk h3 h4 he=>by have:=hinj k j (by omega) (by omega) (by omega) (by omega) he;omega),Wb,Ya rfl];simp[gt]
  .rw[Zk0 ids nx bs (i+1) _ (λj k q1 q2 q3 q4=>hinj j k (by omega) (by omega) (by omega) (by omega)) j (by omega) (by omega)]
   have:j-i=(j-(i+1))+1:=by omega
   rw[this];simp[gt]
open Classical in
noncomputable def Up(ρ ρ1:Map)(ids:V2)(nx m:Nat):Map:=λb=>if hx:∃i,i<m/\bk ids nx i=b then ρ1 hx.choose else ρ b
theorem Zk1(hinj:∀i j,i<m->j<m->bk ids nx i=bk ids nx j->i=j)(hi:i<m):Up ρ ρ1 ids nx m (bk ids nx i)=ρ1 i:=by
 have hx:∃j,j<m/\bk ids nx j=bk ids nx i:=⟨i,hi,rfl⟩;unfold Up;rw[dif_pos hx,hinj _ _ hx.choose_spec.1 hi hx.choose_spec.2]
theorem Zr3(hb:∀i,i<m->bk ids nx i≠b):Up ρ ρ1 ids nx m b=ρ b:=by
 unfold Up;rw[dif_neg λ⟨i,h1,h2⟩=>hb i h1 h2]
def subP(N:Par)(ρ:Map)(h:V1)(w:World)(ids:V2):Par :=
 ⟨λg=>N.a g/\∀b r,b ∉ ids->ρ b=some r->gt h b≠.dead->¬ZS r g,
  λg=>w.heap.size<=g\/∃b∈ids,∃r,ρ b=some r/\gt h b≠.dead/\(ZS r g\/ZG (gt h b)=true/\g∈r.fp),Free N ρ h⟩
theorem Rel.sub(R:Rel N base ρ h w)(hnd:ids.Nodup)(hcl:∀b∈ids,∀c∈X4 (gt h b),c∈ids):Rel (subP N ρ h w ids) base (renM ρ ids) (subH h ids) w:=by
 refine R.renN hnd hcl ?_ ?_ ?_ ?_
 .intro g hg;refine⟨⟨(R.hN g hg).1,λb r _ hr hd he=>?_⟩,.inl hg⟩;have:=(R.lt hr hd he).2;omega
 .intro b hb r g hr hd hg;refine⟨⟨(R.hO b r g hr hd hg).1,λc rc hc hrc hdc he=>?_⟩,.inr ⟨b,hb,r,hr,hd,.inl hg⟩⟩;exact hc (R.inj b c r rc g hr hrc hd hdc hg he▸hb)
 .exact λg hg=>⟨hg.1,λb r _=>hg.2 b r⟩
 .intro b hb r hr hf g hg;exact .inr ⟨b,hb,r,hr,Ws hf,.inr ⟨hf,hg⟩⟩
structure BackH (N:Par) (base:Nat) (ρ:Map) (h:V1) (w:World) (ids:V2) (nx:Nat) (ρ1:Map) (h1:V1) (w':World):Prop where
 R:Rel N base ρ h w
 nd:ids.Nodup
 root:∀b∈ids,∃r,ρ b=some r
 len:ids.length<=h1.length
 new:∀j,j<h1.length-ids.length->ρ (nx+j)=none
 R1:Rel (subP N ρ h w ids) base ρ1 h1 w'
 B:Below base w w'
 dom:∀b,h1.length<=b->ρ1 b=none
 kn:∀g,g<w.heap.size->¬(subP N ρ h w ids).a g->w'.heap[g]?=w.heap[g]?
 fz:∀g,g<w.heap.size->Free N ρ h g->Free (subP N ρ h w ids) ρ1 h1 g/\w'.heap[g]?=w.heap[g]?
 rt:∀b r0,b<ids.length->renM ρ ids b=some r0->∃r1,ρ1 b=some r1/\r1.v=r0.v
section
variable{ids:V2}{nx:Nat}{ρ1:Map}{h1:V1}{w':World}
theorem BackH.inj(J:BackH N base ρ h w ids nx ρ1 h1 w'):∀i j,i<h1.length->j<h1.length->bk ids nx i=bk ids nx j->i=j:=by
 intro i j hi hj he;refine bk_inj J.nd (m:=h1.length) (λk hk hm=>?_) hi hj he;obtain⟨r,hr⟩:=J.root _ hm;rw[J.new k hk]at hr;cases hr
theorem BackH.split(J:BackH N base ρ h w ids nx ρ1 h1 w')(b:Nat) :
  (∃i,i<h1.length/\bk ids nx i=b/\Up ρ ρ1 ids nx h1.length b=ρ1 i/\gt (upd h (Xk ids nx h1 0)) b=renB (bk ids nx) (gt h1 i))\/
  (b ∉ ids/\(∀i,i<h1.length->bk ids nx i≠b)/\Up ρ ρ1 ids nx h1.length b=ρ b/\gt (upd h (Xk ids nx h1 0)) b=gt h b):=by
 by_cases hx:∃i,i<h1.length/\bk ids nx i=b
 .obtain⟨i,hi,rfl⟩:=hx;refine .inl ⟨i,hi,rfl,Zk1 J.inj hi,?_⟩;have:=Zk0 ids nx h1 0 h (λj k _ h2 _ h4=>J.inj j k (by omega) (by omega)) i (Yd _) (by omega);simpa using this
 .have hn:∀i,i<h1.length->bk ids nx i≠b:=λi hi he=>hx ⟨i,hi,he⟩
  refine .inr ⟨λhm=>?_,hn,Zr3 hn,ZgP ids nx h1 0 h b λj _ h2=>hn j (by omega)⟩;obtain⟨i,hi⟩:=Yea hm;have hl:=(Yv.1 hi).1;exact hn i (by have:=J.len;omega) (Ql hi)
theorem BackH.free(J:BackH N base ρ h w ids nx ρ1 h1 w'){g:Nat}(hg:Free (subP N ρ h w ids) ρ1 h1 g):Free N (Up ρ ρ1 ids nx h1.length) (upd h (Xk ids nx h1 0)) g:=by
 refine⟨hg.1.1,?_⟩;intro b r hb hd he;rcases J.split b with⟨i,hi,rfl,e1,e2⟩|⟨hm,_,e1,e2⟩
 .rw[e1]at hb;rw[e2]at hd;exact hg.2 i r hb (λhc=>hd (by rw[hc];rfl)) he
 .rw[e1]at hb;rw[e2]at hd;exact hg.1.2 b r hm hb hd he
theorem BackH.keeps(J:BackH N base ρ h w ids nx ρ1 h1 w'):Keeps ρ w (Free N ρ h) (Up ρ ρ1 ids nx h1.length) w' (Free N (Up ρ ρ1 ids nx h1.length) (upd h (Xk ids nx h1 0))):=by
 constructor
 .intro b r hb;rcases J.split b with⟨i,hi,rfl,e1,_⟩|⟨hm,_,e1,_⟩
  .rw[e1];rcases Ycr i ids.length with hl|hl
   .have ei:ids[i]?=some ids[i]:=by simp[hl]
    rw[Ql ei]at hb;exact J.rt i r hl (by simp[renM,ei,hb])
   .rw[Kx hl,J.new _ (by omega)]at hb;cases hb
  .exact⟨r,by rw[e1];exact hb,rfl⟩
 .intro g hl hf;obtain⟨q1,q2⟩:=J.fz g hl hf;exact⟨J.free q1,q2⟩
theorem BackH.rel(J:BackH N base ρ h w ids nx ρ1 h1 w'):Rel N base (Up ρ ρ1 ids nx h1.length) (upd h (Xk ids nx h1 0)) w':=by
 have hk:=J.keeps;have hroot:∀c r,ρ1 c=some r->Up ρ ρ1 ids nx h1.length (bk ids nx c)=some r:=by
  intro c r hc;have hl:c<h1.length:=by
   rcases Ycr c h1.length with q|q
   .exact q
   .rw[J.dom c q]at hc;cases hc
  rw[Zk1 J.inj hl];exact hc
 have hf1:∀g,(subP N ρ h w ids).f g->N.f g:=by
  rintro g (hg|⟨b,hb,r,hr,hd,hg|⟨hf,hg⟩⟩)
  .exact(J.R.hN g hg).2
  .exact(J.R.hO b r g hr hd hg).2
  .exact(J.R.fresh hr hf g hg).1
 refine⟨Yu J.R.hb J.B.size,λg hl=>J.R.hN g (Yu J.B.size hl),?_,?_,?_,?_⟩
 .intro b r g hb hd hg;rcases J.split b with⟨i,hi,rfl,e1,e2⟩|⟨hm,_,e1,e2⟩
  .rw[e1]at hb;rw[e2]at hd;have:=J.R1.hO i r g hb (λhc=>hd (by rw[hc];rfl)) hg;exact⟨this.1.1,hf1 g this.2⟩
  .rw[e1]at hb;rw[e2]at hd;exact J.R.hO b r g hb hd hg
 .intro b hd;rcases J.split b with⟨i,hi,rfl,e1,e2⟩|⟨hm,_,e1,e2⟩
  .rw[e2]at hd|-;rw[e1];obtain⟨r,q1,q2⟩:=J.R1.blk i λhc=>hd (by rw[hc];rfl)
   refine⟨r,q1,?_⟩
   cases hx:gt h1 i with
   |dead=>trivial
   |box cs =>
    rw[hx]at q2;obtain⟨h0,g,c,e',h3,h4,h5,h6,h7⟩:=q2
    exact⟨h0,g,c,e',h3,h4,h5,h6.ren _ (λc _ r hr=>hroot c r hr) λg _ hg=>J.free hg,h7⟩
   |arr e' sz fr es =>
    rw[hx]at q2;obtain⟨h0,e',xs,he',h3,h4,h5,h6,h7,h8,h9⟩:=q2
    exact⟨h0,e',xs,he',h3,h4,h5,h6,λg hg=>J.free (h7 g hg),λhf=>⟨(h8 hf).1,λg hg=>hf1 g ((h8 hf).2 g hg)⟩,h9⟩
   |det e' sz es i' off c =>
    rw[hx]at q2;obtain⟨e',xs,rb,fa,fc,he,ho,hsz,hl,hrb,rest⟩:=q2
    exact⟨e',xs,rb,fa,fc,he,ho,hsz,hl,hroot c rb hrb,rest⟩
   |xarr e' sz es=>rw[hx]at q2;exact q2
  .rw[e2]at hd|-;rw[e1];obtain⟨r,q1,q2⟩:=J.R.blk b hd;exact⟨r,q1,q2.keep hk λg hg=>J.kn g (q2.lt hd hg).2 λhc=>hc.2 b r hm q1 hd hg⟩
 .intro b b' r r' g hb hb' hd hd' hg hg';rcases J.split b with⟨i,hi,rfl,e1,e2⟩|⟨hm,_,e1,e2⟩<;>rcases J.split b' with⟨j,hj,rfl,e3,e4⟩|⟨hm',_,e3,e4⟩
  .rw[e1]at hb;rw[e2]at hd;rw[e3]at hb';rw[e4]at hd';rw[J.R1.inj i j r r' g hb hb' (λhc=>hd (by rw[hc];rfl)) (λhc=>hd' (by rw[hc];rfl)) hg hg']
  .rw[e1]at hb;rw[e2]at hd;rw[e3]at hb';rw[e4]at hd';have:=J.R1.hO i r g hb (λhc=>hd (by rw[hc];rfl)) hg;exact absurd hg' (this.1.2 b' r' hm' hb' hd')
  .rw[e1]at hb;rw[e2]at hd;rw[e3]at hb';rw[e4]at hd';have:=J.R1.hO j r' g hb' (λhc=>hd' (by rw[hc];rfl)) hg';exact absurd hg (this.1.2 b r hm hb hd)
  .rw[e1]at hb;rw[e2]at hd;rw[e3]at hb';rw[e4]at hd';exact J.R.inj b b' r r' g hb hb' hd hd' hg hg'
 .intro b b' r r' g hb hb' hf hf' hg hg';have mixed:∀i r b' r',ρ1 i=some r->ZG (gt h1 i)=true->b' ∉ ids->ρ b'=some r'->ZG (gt h b')=true->g∈r.fp->g∈r'.fp->False:=by
   intro i r b' r' hb hf hm hb' hf' hg hg';have q1:=(J.R1.fresh hb hf g hg).1;obtain⟨_,q2,q3⟩:=J.R.fresh hb' hf' g hg';rcases q1 with q1|⟨c,hc,rc,h3,h4,h5|⟨h5,h6⟩⟩
   .omega
   .exact q2.2 c rc h3 h4 h5
   .exact hm (J.R.apart c b' rc r' g h3 hb' h5 hf' h6 hg'▸hc)
  rcases J.split b with⟨i,hi,rfl,e1,e2⟩|⟨hm,_,e1,e2⟩<;>rcases J.split b' with⟨j,hj,rfl,e3,e4⟩|⟨hm',_,e3,e4⟩
  .rw[e1]at hb;rw[e2,Qk]at hf;rw[e3]at hb';rw[e4,Qk]at hf';rw[J.R1.apart i j r r' g hb hb' hf hf' hg hg']
  .rw[e1]at hb;rw[e2,Qk]at hf;rw[e3]at hb';rw[e4]at hf';exact(mixed i r b' r' hb hf hm' hb' hf' hg hg').elim
  .rw[e1]at hb;rw[e2]at hf;rw[e3]at hb';rw[e4,Qk]at hf';exact(mixed j r' b r hb' hf' hm hb hf hg' hg).elim
  .rw[e1]at hb;rw[e2]at hf;rw[e3]at hb';rw[e4]at hf';exact J.R.apart b b' r r' g hb hb' hf hf' hg hg'
theorem BackH.after(J:BackH N base ρ h w ids nx ρ1 h1 w'){r:AV}{v:Value}(hv:RV ρ1 w' (Free (subP N ρ h w ids) ρ1 h1) r v) :
  After N base ρ h w (ren (bk ids nx) r) (Xk ids nx h1 0) v w' (Up ρ ρ1 ids nx h1.length):=by
 refine⟨hv.ren _ (λb _ r hr=>?_) λg _ hg=>J.free hg,J.rel,J.keeps,?_,J.B,λg hl hn=>J.kn g hl λhc=>hn hc.1⟩
 .have hl:b<h1.length:=by
   rcases Ycr b h1.length with q|q
   .exact q
   .rw[J.dom b q]at hr;cases hr
  rw[Zk1 J.inj hl];exact hr
 .intro b hb hb0;rw[Zbv]at hb;rw[Zr3 λi hi he=>hb ⟨i,Yd _,by omega,he⟩];exact hb0
end
theorem ZgQ{o:Oper}(R:Rel N base ρ h w){nx f:Nat}{vs:XQ}{vals:Array Value}(hargs:RVs ρ w (Free N ρ h) vs vals.toList){r:AV}{h1:V1}
  (hu:∀j,(Z2 h vs).length<=j->j<h1.length->ρ (nx+(j-(Z2 h vs).length))=none) (hcl:V9 h (Z2 h vs) (Zw vs)=true) (hG:Xg P f (subA (Z2 h vs) vs) (subH h (Z2 h vs)) r h1)
  (hex:(execOp a.eval o).run P w=.ok (.enter f vals) w) {K:Act->World->Prop} {Q:Exit->Act->World->Prop}
  (hK:∀val w' ρ',After N base ρ h w (ren (bk (Z2 h vs) nx) r) (Xk (Z2 h vs) nx h1 0) val w' ρ'->K (a.put o.dst val) w'):o.wp P a w K Q:=by
 obtain⟨hin,hcl2⟩:=ZgN hcl;have hnd:(Z2 h vs).Nodup:=ZgL _ _ _ Ybi;have hroot:=Zr2 R hargs;generalize Z2 h vs=ids at *
 unfold Oper.wp;rw[hex];show Calls P f vals w _;have hF:∀g,Free N ρ h g->Free (subP N ρ h w ids) (renM ρ ids) (subH h ids) g:=λg hg=>ZgM hg ⟨hg.1,λb r _=>hg.2 b r⟩
 refine(hG.2 (subP N ρ h w ids) base w (renM ρ ids) vals (R.sub hnd hcl2) (λb hb=>Zkw (by simpa[subH]using hb))
  (hargs.ren _ (λb hb r hr=>by rw[Zbs (hin b hb)];exact hr) λg _ hg=>hF g hg) hF).mono ?_
 rintro e w' ⟨v,ρ1,rfl,hB,hR1,hv,hdom,hlen,hkn,hfz,hrt⟩;have hl:(subH h ids).length=ids.length:=by simp[subH]
 rw[hl]at hlen hrt
 have J:BackH N base ρ h w ids nx ρ1 h1 w':=⟨R,hnd,hroot,hlen,λj hj=>by
  have:=hu (j+ids.length) (by omega) (by omega)
  rwa [Ydz]at this,hR1,hB,hdom,hkn,hfz,hrt⟩
 exact hK v w' _ (J.after hv)
theorem Free.congr{h':V1}(hg:∀b,gt h b=gt h' b):Free N ρ h=Free N ρ h':=by
 funext g;unfold Free;simp only[hg]
theorem Rel.congr{h':V1}(hg:∀b,gt h b=gt h' b)(R:Rel N base ρ h w):Rel N base ρ h' w:=by
 have hF:=Free.congr (N:=N) (ρ:=ρ) hg;refine⟨R.hb,R.hN,?_,?_,?_,?_⟩
 .intro b r g hr hd;rw[<-hg]at hd;exact R.hO b r g hr hd
 .intro b hb;rw[<-hg]at hb;obtain⟨r,h1,h2⟩:=R.blk b hb;exact⟨r,h1,by rw[<-hg,<-hF];exact h2⟩
 .intro b b' r r' g h1 h2 h3 h4;rw[<-hg]at h3 h4;exact R.inj b b' r r' g h1 h2 h3 h4
 .intro b b' r r' g h1 h2 h3 h4;rw[<-hg]at h3 h4;exact R.apart b b' r r' g h1 h2 h3 h4
theorem ren_back{f g:Nat->Nat}:∀(v:AV),(∀c∈refs v,g (f c)=c)->ren g (ren f v)=v:=by
 intro v;refine AV.rec (motive_1:=λv=>(∀c∈refs v,g (f c)=c)->ren g (ren f v)=v) (motive_2:=λvs=>(∀c∈Zw vs,g (f c)=c)->rens g (rens f vs)=vs) ?_ ?_ ?_ ?_ ?_ ?_ ?_ ?_ ?_ ?_ ?_ ?_ ?_ v
 .intro _;rfl
 .intro _;rfl
 .intro x _;rfl
 .intro cs ih h;simp[ren,ih (by simpa[refs]using h)]
 .intro cs ih h;simp[ren,ih (by simpa[refs]using h)]
 .intro b off h;simp[ren,h b (by simp[refs])]
 .intro b i sz off h;simp[ren,h b (by simp[refs])]
 .intro cs off _;rfl
 .intro b h;simp[ren,h b (by simp[refs])]
 .intro b n h;simp[ren,h b (by simp[refs])]
 .intro fn cs ih h;simp[ren,ih (by simpa[refs]using h)]
 .intro _;rfl
 .intro v vs ih1 ih2 h;simp only[Zw,Yk]at h;simp[rens,ih1 (λc hc=>h c (.inl hc)),ih2 (λc hc=>h c (.inr hc))]
theorem Zr4{f g:Nat->Nat}:∀(vs:XQ),(∀c∈Zw vs,g (f c)=c)->rens g (rens f vs)=vs
 |[],_=>rfl
 |v::vs,h=>by
  simp only[Zw,Yk]at h;simp[rens,ren_back v (λc hc=>h c (.inl hc)),Zr4 vs (λc hc=>h c (.inr hc))]
theorem Z24{f g:Nat->Nat}(x:Blk)(h:∀c∈X4 x,g (f c)=c):renB g (renB f x)=x:=by
 cases x with
 |box cs=>simp[renB,Zr4 cs h]
 |det e sz es i off b=>simp[renB,h b (by simp[X4])]
 |_=>rfl
theorem Zk2(ids:V2)(nx:Nat):∀(xs ys:V1) (i:Nat),Xk ids nx (xs++ys) i=Xk ids nx xs i++Xk ids nx ys (i+xs.length)
 |[],ys,i=>by simp[Xk]
 |x::xs,ys,i=>by simp[Xk,Zk2 ids nx xs ys (i+1),Ydg,Nat.add_comm 1]
theorem Z25{u:List (Nat×Blk)}:∀{h h':V1},(∀b,gt h b=gt h' b)->∀b,gt (upd h u) b=gt (upd h' u) b:=by
 induction u with
 |nil=>intro h h' hg b;exact hg b
 |cons p u ih =>
  intro h h' hg b;obtain⟨c,x⟩:=p;exact ih (λb=>by rw[Wb,Wb,hg]) b
theorem Z26{ids:V2}(hnd:ids.Nodup)(hcl:∀b∈ids,∀c∈X4 (gt h b),c∈ids)(nx b:Nat):gt (upd h (Xk ids nx (subH h ids) 0)) b=gt h b:=by
 have hl:(subH h ids).length=ids.length:=by simp[subH]
 by_cases hb:b∈ids
 .obtain⟨i,hi⟩:=Yea hb;have hil:=(Yv.1 hi).1;have hinj:∀j k,j<ids.length->k<ids.length->bk ids nx j=bk ids nx k->j=k:=λj k hj hk he=>bk_inj hnd (m:=ids.length) (λq hq=>by omega) hj hk he
  have:=Zk0 ids nx (subH h ids) 0 h (λj k _ h2 _ h4=>hinj j k (by omega) (by omega)) i (Yd _) (by omega);rw[Ql hi]at this;rw[this];have e:gt (subH h ids) (i-0)=renB (λc=>idx c ids 0) (gt h b):=by
   rw[Yda,subH,Zbt,hi]
  rw[e];refine Z24 _ λc hc=>?_
  obtain⟨j,hj⟩:=Yea (hcl b hb c hc);rw[idx_at hnd hj,Ql hj]
 .exact ZgP ids nx _ 0 h b λj _ h2 he=>hb (by
   have hj:ids[j]?=some (ids[j]'(by omega)):=by simp
   rw[Ql hj]at he
   exact he▸Yz hj)
theorem After.congr{v:AV}{u u':List (Nat×Blk)}{val:Value}{w':World}{ρ':Map}(hA:After N base ρ h w v u val w' ρ')(hg:∀b,gt (upd h u) b=gt (upd h u') b)(hs:∀b,b ∉ u'.map Prod.fst->ρ b=none->ρ' b=none):After N base ρ h w v u' val w' ρ':=by
 have hF:=Free.congr (N:=N) (ρ:=ρ') hg;exact⟨by rw[<-hF];exact hA.val,hA.rel.congr hg,by rw[<-hF];exact hA.keeps,hs,hA.below,hA.kn⟩
theorem Z27{o:Oper}(R:Rel N base ρ h w){nx f:Nat}{vs:XQ}{vals:Array Value}(hargs:RVs ρ w (Free N ρ h) vs vals.toList){r:AV}{hn:V1}
  (hu:∀b,b∈(Xk (Z2 h vs) nx hn (Z2 h vs).length).map Prod.fst->nx<=b->ρ b=none) (hcl:V9 h (Z2 h vs) (Zw vs)=true)
  (hG:Xg P f (subA (Z2 h vs) vs) (subH h (Z2 h vs)) r (subH h (Z2 h vs)++hn)) (hex:(execOp a.eval o).run P w=.ok (.enter f vals) w) {K:Act->World->Prop} {Q:Exit->Act->World->Prop}
  (hK:∀val w' ρ',After N base ρ h w (ren (bk (Z2 h vs) nx) r) (Xk (Z2 h vs) nx hn (Z2 h vs).length) val w' ρ'->K (a.put o.dst val) w'):o.wp P a w K Q:=by
 have hl:(subH h (Z2 h vs)).length=(Z2 h vs).length:=by simp[subH]
 refine ZgQ R (nx:=nx) hargs (λj h1 h2=>?_) hcl hG hex λval w' ρ' hA=>?_
 .rw[Ym,hl]at h2;refine hu _ ((Zbv _ _ _ _ _).2 ⟨j,h1,h2,Kx h1⟩) (Nat.le_add_right _ _)
 .obtain⟨hin,hcl2⟩:=ZgN hcl;have hnd:(Z2 h vs).Nodup:=ZgL _ _ _ Ybi;refine hK val w' ρ' (hA.congr (λb=>?_) λb hb hb0=>?_)
  .rw[Zk2,ZdG,hl,Yq];exact Z25 (λc=>Z26 hnd hcl2 nx c) b
  .refine hA.same b (λhm=>?_) hb0;rw[Zk2,Ybn,Yk,hl,Yq]at hm;rcases hm with hm|hm
   .obtain⟨j,_,h2,h3⟩:=(Zbv _ _ _ _ _).1 hm;rw[Yq,hl]at h2;have hj:(Z2 h vs)[j]?=some ((Z2 h vs)[j]'h2):=by simp[h2]
    rw[Ql hj]at h3;obtain⟨r0,hr0⟩:=Zr2 R hargs b (h3▸Yz hj);rw[hb0]at hr0;cases hr0
   .exact hb hm
def isC:MOp->Prop
 |.call _ _=>True
 |.xcall _ _=>True
 |.fcall _ _=>True
 |.icall _ _=>True
 |.scall _ _ _=>True
 |.pcall _ _=>True
 |.dcall _ _=>True
 |_=>False
theorem ZdN{o:Oper}{k:MOp}(hk:ZA P inl ops o.op=some k)(hE:ZX ρ w (Free N ρ h) e a.tmps)(R:Rel N base ρ h w){nx:Nat}{v:AV}{u:List (Nat×Blk)}(hn:isC k\/ρ nx=none)(hu:∀b,b∈u.map Prod.fst->nx<=b->ρ b=none)
  (hev:opR (Xg P) h nx e k v u) {K:Act->World->Prop} {Q:Exit->Act->World->Prop} (hK:∀val w' ρ',After N base ρ h w v u val w' ρ'->K (a.put o.dst val) w'):o.wp P a w K Q:=by
 have plain:Zs h nx e k=some (v,u)->o.wp P a w K Q:=by
  intro hev;have hnx:ρ nx=none:=by
   rcases hn with hn|hn
   .cases k<;>first|exact hn.elim|cases hev
   .exact hn
  obtain⟨val,w',ρ',hrun,h1,h2,h3,h4,h5,h6⟩:=op_sound hk hE R hnx hev;have:=hK val w' ρ' ⟨h1,h2,h3,λb hb hb0=>by rw[h4 b hb];exact hb0,h5,h6⟩;unfold Oper.wp;rcases hrun with hrun|⟨hrun,rfl⟩
  .rw[hrun];exact this
  .rw[hrun];exact this
 have hul:∀{ids:V2} {h1:V1},u=Xk ids nx h1 0->∀j,ids.length<=j->j<h1.length->ρ (nx+(j-ids.length))=none:=by
  intro ids h1 he j h2 h3;exact hu _ (by rw[he];exact(Zbv _ _ _ _ _).2 ⟨j,Yd _,by omega,Kx h2⟩) (Nat.le_add_right _ _)
 cases k<;>try (exact plain hev)
 .rename_i f args;simp only[opR]at hev;obtain⟨as,hfz,r,hr,hG,hsh,rfl,rfl⟩:=hev;obtain⟨c,hoc,hcc,has,hcl⟩:=(J3 hk).1 f args rfl;exact Z21 R (vals:=c.args.map a.eval) (by rw[Ybt];exact Ks hE has) hu hfz hG hsh (Zbu hoc hcc hcl w) hK
 .rename_i f args;simp only[opR]at hev;obtain⟨as,hfz,r,hr,hG,hsh,rfl,rfl⟩:=hev;obtain⟨c,hoc,hcc,has,hcl⟩:=(J3 hk).1 f args rfl;exact Z23 R (vals:=c.args.map a.eval) (by rw[Ybt];exact Ks hE has) hu hfz hG hsh (Zbu hoc hcc hcl w) hK
 .rename_i f args;simp only[opR]at hev;obtain⟨as,hfz,hno,r,hr,hG,hd,rfl⟩:=hev;obtain⟨c,hoc,hcc,has,hcl⟩:=(J3 hk).1 f args rfl;exact Z22 R (vals:=c.args.map a.eval) (by rw[Ybt];exact Ks hE has) hfz hno hG hd (Zbu hoc hcc hcl w) hK
 .rename_i f args;simp only[opR,XH]at hev;obtain⟨hcl',r,h1,hG,rfl,rfl⟩:=hev;obtain⟨c,hoc,hcc,has,hcl⟩:=(J3 hk).1 f args rfl;exact ZgQ R (vals:=c.args.map a.eval) (by rw[Ybt];exact Ks hE has) (hul rfl) hcl' hG (Zbu hoc hcc hcl w) hK
 .rename_i f args p;simp only[opR,XH]at hev;obtain⟨hcl',r,h1,hG,u2,hp,rfl,rfl⟩:=hev;obtain⟨c,hoc,hcc,has,hcl⟩:=(J3 hk).1 f args rfl;refine ZgQ R (nx:=nx) (vals:=c.args.map a.eval) (by rw[Ybt];exact Ks hE has) (λj h2 h3=>?_) hcl' hG (Zbu hoc hcc hcl w) λval w' ρ' hA=>?_
  .refine hu _ ?_ (Nat.le_add_right _ _);rw[Ybn,Yk];exact .inl ((Zbv _ _ _ _ _).2 ⟨j,Yd _,by omega,Kx h2⟩)
  .obtain⟨ρ2,q1,q2,q3,_⟩:=Zrp hA.rel hp;refine hK val w' ρ2 ⟨?_,?_,?_,λb hb hb0=>q3 b (hA.same b (λhm=>hb (by rw[Ybn,Yk];exact .inl hm)) hb0),hA.below,hA.kn⟩
   .rw[ZdG];exact hA.val.keep q2
   .rw[ZdG];exact q1
   .rw[ZdG];exact hA.keeps.trans q2 hA.below.size
 .rename_i f args;simp only[opR,Qg]at hev;obtain⟨hcl',r,hn,hG,rfl,rfl⟩:=hev;obtain⟨c,hoc,hcc,has,hcl⟩:=(J3 hk).1 f args rfl;exact Z27 R (vals:=c.args.map a.eval) (by rw[Ybt];exact Ks hE has) hu hcl' hG (Zbu hoc hcc hcl w) hK
 .rename_i x args;simp only[opR,XH]at hev;obtain⟨g,caps,hg,hcl',r,h1,hG,rfl,rfl⟩:=hev;obtain⟨c,y,hoc,hcc,hy,has⟩:=(J3 hk).2 x args rfl;have hry:=Z4 hE hy;rw[hg]at hry;obtain⟨cv,hcv,hcaps⟩:=hry.fn_val;have hex:(execOp a.eval o).run P w=.ok (.enter g (c.args.map a.eval++cv)) w:=by
   unfold execOp;rw[hoc];simp[resolve,hcc,hcv,Deferred.ofValue,invoke,Zr1 hG.1]
  exact ZgQ R (vals:=c.args.map a.eval++cv) (by rw[Array.toList_append,Ybt];exact(Ks hE has).append hcaps) (hul rfl) hcl' hG hex hK
end
open Go.RowKit (Below)
def WS(ρ:Map)(w:World)(F:Nat->Prop):List Env->List (Array Value)->Prop
 |[],[]=>True
 |e::es,t::ts=>ZX ρ w F e t/\WS ρ w F es ts
 |_,_=>False
structure RelS (N:Par) (base:Nat) (w0:World) (nt:Nat) (ts:List (Array Value)) (ρ:Map) (s:S) (a:Act) (w:World):Prop where
 rel:Rel N base ρ s.h w
 env:ZX ρ w (Free N ρ s.h) s.env a.tmps
 stk:WS ρ w (Free N ρ s.h) s.stk ts
 dom:∀b,s.h.length<=b->ρ b=none
 defers:a.defers=[]
 size:a.tmps.size=nt
 below:Below base w0 w
 kn:∀g,g<w0.heap.size->¬N.a g->w.heap[g]?=w0.heap[g]?
 fz:∀g,g<w0.heap.size->N.z g->Free N ρ s.h g/\w.heap[g]?=w0.heap[g]?
section
variable{P:Program}{N:Par}{base:Nat}{w0:World}{nt:Nat}{ts:List (Array Value)}{inl:V2}{ρ:Map}{w:World}{a:Act}{d:Option Nat}{s:S}{F:Nat->Prop}{e:Env}{v:AV}{val:Value}{ops:Array Oper}{o:Oper}
theorem WS.keep{ρ ρ':Map}{w w':World}{F F':Nat->Prop}(hk:Keeps ρ w F ρ' w' F'):∀{es:List Env} {ts:List (Array Value)},WS ρ w F es ts->WS ρ' w' F' es ts
 |[],[],_=>trivial
 |_::_,_::_,h=>⟨λs=>(h.1 s).keep hk,WS.keep hk h.2⟩
 |[],_::_,h=>h.elim
 |_::_,[],h=>h.elim
theorem stB_len(h:V1)(b:Nat)(x:Blk):h.length<=(stB h b x).length/\b<(stB h b x).length:=by
 induction h generalizing b with
 |nil =>
  induction b with
  |zero=>simp[stB]
  |succ b ih=>simp[stB];exact ih.2
 |cons y h ih =>
  cases b with
  |zero=>simp[stB]
  |succ b=>simp[stB];exact ih b
theorem Zk3(u:List (Nat×Blk)):∀h:V1,h.length<=(upd h u).length/\∀b∈u.map Prod.fst,b<(upd h u).length:=by
 induction u with
 |nil=>intro h;simp[upd]
 |cons p u ih =>
  intro h;obtain⟨b,x⟩:=p;have h1:=stB_len h b x;have h2:=ih (stB h b x);simp only[upd];refine⟨by omega,?_⟩;intro c hc;simp only[Yw,Yl]at hc;rcases hc with rfl|hc
  .omega
  .exact h2.2 c hc
theorem ZgR(hE:ZX ρ w F e a.tmps)(hv:RV ρ w F v val)(hd:∀x,d=some x->x<a.tmps.size):ZX ρ w F (put d v e) (a.put d val).tmps:=by
 cases d with
 |none=>exact hE
 |some d =>
  intro s;have hlt:=hd d rfl;simp only[put,lk,Act.put];split
  .rename_i hs;subst hs;simpa[Array.getD,hlt]using hv
  .rename_i hs;have:=hE s;simp only[Ycb,Array.getElem?_setIfInBounds]at this|-;rw[Yb hs];exact this
theorem ZgS(a:Act)(d:Option Nat)(v:Value):(a.put d v).defers=a.defers:=by cases d<;>rfl
theorem ZgT(a:Act)(d:Option Nat)(v:Value):(a.put d v).tmps.size=a.tmps.size:=by cases d<;>simp[Act.put]
theorem RelS.after{ρ':Map}{w':World}(hS:RelS N base w0 nt ts ρ s a w){u:List (Nat×Blk)}(hA:After N base ρ s.h w v u val w' ρ')(hd:∀x,d=some x->x<nt) :
  RelS N base w0 nt ts ρ' { s with env:=put d v s.env,h:=upd s.h u } (a.put d val) w':=by
 refine⟨hA.rel,ZgR (λs=>(hS.env s).keep hA.keeps) hA.val λx hx=>by rw[hS.size];exact hd x hx,hS.stk.keep hA.keeps,?_,by rw[ZgS];exact hS.defers,by rw[ZgT];exact hS.size,hS.below.trans hA.below,
  λg hg hn=>(hA.kn g (Yco hg hS.below.size) hn).trans (hS.kn g hg hn),λg hg hz=>?_⟩
 .intro b hb;have h1:=Zk3 u s.h;exact hA.same b (λhc=>by have:=h1.2 b hc;simp only at hb;omega) (hS.dom b (by simp only at hb;omega))
 .obtain⟨h1,h2⟩:=hS.fz g hg hz;obtain⟨h3,h4⟩:=hA.keeps.free g (Yco hg hS.below.size) h1;exact⟨h3,h4.trans h2⟩
theorem RelS.skip(hS:RelS N base w0 nt ts ρ s a w)(hd:∀x,d=some x->x<nt) :
  RelS N base w0 nt ts ρ { s with env:=put d (.tup []) s.env } (a.put d undef) w :=
 ⟨hS.rel,ZgR hS.env (RV.tup (c:=#[]) .nil) λx hx=>by rw[hS.size];exact hd x hx,hS.stk,hS.dom,by rw[ZgS];exact hS.defers,by rw[ZgT];exact hS.size,hS.below,hS.kn,hS.fz⟩
theorem Zr5{Γ:Ctr}{o:MO}{K:S->Prop}(hr:runW Γ o s K):∃v u,opR Γ s.h s.h.length s.env o.op v u/\K { s with env:=put o.dst v s.env,h:=upd s.h u }:=by
 cases ho:o.op with
 |xcall f args =>
  simp only[runW,ho]at hr;obtain⟨as,h1,r,hr',h2,h3,h4⟩:=hr
  exact⟨_,_,⟨as,h1,r,hr',h2,h3,rfl,rfl⟩,h4⟩
 |fcall f args =>
  simp only[runW,ho]at hr;obtain⟨as,h1,hno,r,hr',d,h2,h3,h4⟩:=hr
  exact⟨_,_,⟨as,h1,hno,r,hr',h2,h3,rfl⟩,h4⟩
 |scall f args p =>
  simp only[runW,ho,XH]at hr;obtain⟨h1,r,h2,h3,u2,h4,h5⟩:=hr
  exact⟨_,_,⟨h1,r,h2,h3,u2,h4,rfl,rfl⟩,h5⟩
 |icall f args =>
  simp only[runW,ho,XH]at hr;obtain⟨h1,r,h2,h3,h4⟩:=hr
  exact⟨_,_,⟨h1,r,h2,h3,rfl,rfl⟩,h4⟩
 |pcall f args =>
  simp only[runW,ho,Qg]at hr;obtain⟨h1,r,h2,h3,h4⟩:=hr
  exact⟨_,_,⟨h1,r,h2,h3,rfl,rfl⟩,h4⟩
 |dcall f args =>
  simp only[runW,ho]at hr;split at hr
  .rename_i g caps hg;obtain⟨h1,r,h2,h3,h4⟩:=hr;exact⟨_,_,⟨g,caps,hg,h1,r,h2,h3,rfl,rfl⟩,h4⟩
  .exact hr.elim
 |call f args =>
  simp only[runW,ho]at hr;obtain⟨as,h1,r,hr',h2,h3,h4⟩:=hr
  exact⟨_,_,⟨as,h1,r,hr',h2,h3,rfl,rfl⟩,h4⟩
 |_ =>
  simp only[runW,ho]at hr;split at hr
  .rename_i v u hev;exact⟨v,u,hev,hr⟩
  .exact hr.elim
theorem Zk4{m:MO}(hc:compO P inl nt ops o=some m):ZA P inl ops o.op=some m.op/\m.dst=o.dst/\(∀x,o.dst=some x->x<nt)/\
  ((o.guard=none/\m.guard=none)\/∃j b d,o.guard=some (j,b)/\(ops[j]?).bind (·.dst)=some d/\m.guard=some (d,b)):=by
 unfold compO at hc;split at hc
 .rename_i hd;split at hc
  .rename_i k g hk hg;cases hc;refine⟨hk,rfl,?_,?_⟩
   .intro x hx;rw[hx]at hd;simpa using hd
   .split at hg
    .rename_i hgn;cases hg;exact .inl ⟨hgn,rfl⟩
    .rename_i j b hgn;obtain⟨d,h1,h2⟩:=Yr.1 hg;subst h2;exact .inr ⟨j,b,d,hgn,h1,rfl⟩
  .cases hc
 .cases hc
theorem Zk5(hE:ZX ρ w F e a.tmps){j d:Nat}{b:Bool}(hg:o.guard=some (j,b))(hd:(ops[j]?).bind (·.dst)=some d) :
  (∀c,lk d e=.t (.bool c)->Region.wanted o (yielded ops a.tmps)=decide (c=b))/\(lk d e=.tup []->Region.wanted o (yielded ops a.tmps)=false):=by
 have hr:=hE d;constructor
 .intro c hc;rw[hc]at hr;have h1:=hr.bool_inv;have h2:a.tmps[d]?=some (.bool c):=by
   rw[Ycb]at h1
   cases hx:a.tmps[d]? with
   |none=>rw[hx]at h1;cases h1
   |some y=>rw[hx]at h1;simp at h1;rw[h1]
  simp only[Region.wanted,hg,yielded,hd,Option.bind_some,h2];cases c<;>cases b<;>rfl
 .intro hc;rw[hc]at hr;obtain⟨c,h1,h2⟩:=hr.tup_val;have h3:c=#[]:=by cases h2':c.toList with|nil=>simpa using h2'|cons x xs=>rw[h2']at h2;cases h2
  subst h3;simp only[Region.wanted,hg,yielded,hd,Option.bind_some];rw[Ycb]at h1
  cases hx:a.tmps[d]? with
  |none=>rfl
  |some y=>rw[hx]at h1;simp at h1;subst h1;rfl
theorem Zr6{Γ:Ctr}(hΓ:Γ=Xg P){ops:Array Oper}{Qc:Exit->Act->World->Prop}{K:S->Prop}
  (hQ:∀s a w ρ,K s->RelS N base w0 nt ts ρ s a w->Qc .normal a w):∀(l:List Oper) (os:List MO),mapO (compO P inl nt ops) l=some os->∀(s:S) (a:Act) (w:World) (ρ:Map),regW Γ os s K->RelS N base w0 nt ts ρ s a w->wpList P ops Qc l a w
 |[],os,hm,s,a,w,ρ,hr,hS=>by cases hm;exact hQ s a w ρ hr hS
 |o::l,os,hm,s,a,w,ρ,hr,hS=>by
  obtain⟨m,ms,h1,h2,rfl⟩:=Un hm;obtain⟨hk,hdst,hd,hguard⟩:=Zk4 h1;simp only[regW]at hr;have ih:=Zr6 hΓ hQ l ms h2;have run:runW Γ m s (λs'=>regW Γ ms s' K)->o.wp P a w (wpList P ops Qc l) Qc:=by
   intro hrun;obtain⟨v,u,hop,hK⟩:=Zr5 hrun;rw[hΓ]at hop;refine ZdN hk hS.env hS.rel (nx:=s.h.length) (.inr (hS.dom _ (Yg _))) (λb _ hb=>hS.dom b hb) hop λval w' ρ' hA=>?_
   exact ih _ _ _ ρ' hK (by rw[hdst];exact hS.after hA hd)
  have skip:regW Γ ms { s with env:=put m.dst (.tup []) s.env } K->wpList P ops Qc l (a.put o.dst undef) w:=λhK=>ih _ _ _ ρ hK (by rw[hdst];exact hS.skip hd)
  refine wpList_step λK' hK'=>?_
  have run':runW Γ m s (λs'=>regW Γ ms s' K)->o.wp P a w K' Qc:=λh=>Oper.wp_mono hK' (run h)
  rcases hguard with⟨hg1,hg2⟩|⟨j,b,d,hg1,hg2,hg3⟩
  .simp only[opW,hg2]at hr;simp only[Region.wanted,hg1,if_true];exact run' hr
  .have hw:=Zk5 hS.env hg1 hg2;simp only[opW,hg3]at hr;split at hr
   .rename_i c hc;rw[hw.1 c hc];split at hr
    .rename_i hcb;simp only[hcb,decide_true,if_true];exact run' hr
    .rename_i hcb;simp only[hcb,decide_false,Y7,if_false];exact hK' _ _ (skip hr)
   .rename_i hc;rw[hw.2 hc];simp only[Y7,if_false];exact hK' _ _ (skip hr)
   .exact hr.elim
end
theorem Z28(xs ys:XQ):Zw (xs++ys)=Zw xs++Zw ys:=by
 induction xs with
 |nil=>rfl
 |cons x xs ih=>simp[Zw,ih]
theorem Z29{v:AV}{vs:XQ}(h:v∈vs){b:Nat}(hb:b∈refs v):b∈Zw vs:=by
 induction vs with
 |nil=>cases h
 |cons x xs ih =>
  simp only[Zw,Yk];rcases Yl.1 h with rfl|h
  .exact .inl hb
  .exact .inr (ih h)
section
variable{h h':V1}{e e':Env}{v:AV}{vs cs:XQ}{rs:V2}{b sz nx:Nat}{ps:List (Nat×Opd)}{st:Bool}{k:MOp}
theorem ZdO(hc:cellsOf v=some vs):Zw vs=refs v:=by
 cases v<;>simp[cellsOf]at hc<;>subst hc<;>simp[Zw,refs]
theorem Z2A(hh:∀b∈refs v,gt h b=gt h' b):toT h v=toT h' v:=by
 cases v<;>simp[toT];rename_i b;rw[hh b (by simp[refs])]
theorem ZgU(hh:∀b∈Zw vs,gt h b=gt h' b):toTs h vs=toTs h' vs:=by
 induction vs with
 |nil=>rfl
 |cons v vs ih =>
  simp only[toTs];rw[Z2A (λb hb=>hh b (by simp[Zw,hb])),ih (λb hb=>hh b (by simp[Zw,hb]))]
theorem Z2B(hh:∀b∈refs v,gt h b=gt h' b):frzT h v=frzT h' v:=by
 cases v<;>simp[frzT];rename_i b;rw[hh b (by simp[refs])]
theorem Zr7(hh:∀b∈Zw vs,gt h b=gt h' b):VP h vs=VP h' vs:=by
 induction vs with
 |nil=>rfl
 |cons v vs ih =>
  simp only[VP];rw[Z2B (λb hb=>hh b (by simp[Zw,hb])),ih (λb hb=>hh b (by simp[Zw,hb]))]
theorem Zr8{h:V1}(hb:b∈rs):b∈Uj h rs:=Ydb _ (Ydb _ hb)
theorem Zr9{h:V1}{c:Nat}(hb:b∈rs)(hc:c∈X4 (gt h b)):c∈Uj h rs:=Ydb _ (Ydc _ (Ybv.2 ⟨b,hb,hc⟩))
theorem ZgV{h:V1}(hb:b∈ZK h 200 rs []):b∈Uj h rs:=Ydc _ hb
theorem ZgW{h:V1}:∀(n:Nat) (todo acc:V2),∀b∈acc,b∈ZK h n todo acc
 |0,_,_,b,hb=>by simpa[ZK]using hb
 |n+1,[],acc,b,hb=>by simpa[ZK]using hb
 |n+1,c::todo,acc,b,hb=>by
  simp only[ZK];split
  .exact ZgW n _ _ b hb
  .exact ZgW n _ _ b (by simp[hb])
def Ky(h h':V1)(rs:V2):Prop:=∀b∈rs,gt h b=gt h' b/\∀c∈X4 (gt h b),gt h c=gt h' c
theorem Zk6{h h':V1}(hh:∀b∈Uj h rs,gt h b=gt h' b):Ky h h' rs:=λb hb=>⟨hh b (Zr8 hb),λc hc=>hh c (Zr9 hb hc)⟩
theorem Ky.sub{h h':V1}{rs':V2}(hh:Ky h h' rs)(hs:∀b∈rs',b∈rs):Ky h h' rs':=λb hb=>hh b (hs b hb)
theorem Zk7{h h':V1}:∀(n:Nat) (todo acc:V2),(∀b∈ZK h n todo acc,gt h b=gt h' b)->ZK h' n todo acc=ZK h n todo acc
 |0,_,_,_=>rfl
 |n+1,[],acc,_=>rfl
 |n+1,c::todo,acc,hh=>by
  simp only[ZK]at hh|-;split
  .rename_i hc;rw[Ya hc]at hh;exact Zk7 n todo acc hh
  .rename_i hc;rw[Yb hc]at hh
   have:gt h c=gt h' c:=hh c (ZgW n _ _ c (by simp))
   rw[<-this];exact Zk7 n _ _ hh
theorem ZrA(hh:Ky h h' (refs v)):frz1 h v=frz1 h' v:=by
 cases v<;>simp only[frz1]
 .rename_i cs;rw[Zr7 λb hb=>(hh b (by simpa[refs]using hb)).1]
 .rename_i b off;obtain⟨hb,hc⟩:=hh b (by simp[refs]);rw[<-hb]
  cases hg:gt h b with
  |box cs=>simp only;rw[Zr7 λc hc'=>hc c (by rw[hg];exact hc')]
  |_=>rfl
 .rename_i b;rw[(hh b (by simp[refs])).1]
theorem Z2C(hh:Ky h h' (Zw vs)):Q8 h vs=Q8 h' vs:=by
 induction vs with
 |nil=>rfl
 |cons v vs ih =>
  simp only[Q8];rw[ZrA (hh.sub λc hc=>by simp[Zw,hc]),ih (hh.sub λc hc=>by simp[Zw,hc])]
theorem Z2D(hh:Ky h h' (refs v)):frz h v=frz h' v:=by
 by_cases hx:∃g cs,v=.fn g cs
 .obtain⟨g,cs,rfl⟩:=hx;simp only[frz];rw[Z2C (hh.sub λc hc=>by simpa[refs]using hc)]
 .have e:∀h,frz h v=frz1 h v:=by
   intro h;cases v<;>first|rfl|exact absurd ⟨_,_,rfl⟩ hx
  rw[e,e,ZrA hh]
theorem Zk8(hh:Ky h h' (Zw vs)):frzs h vs=frzs h' vs:=by
 induction vs with
 |nil=>rfl
 |cons v vs ih =>
  simp only[frzs];rw[Z2D (hh.sub λc hc=>by simp[Zw,hc]),ih (hh.sub λc hc=>by simp[Zw,hc])]
theorem ZrB(hh:∀b∈ZK h 200 (Zw vs) [],gt h b=gt h' b):Z2 h' vs=Z2 h vs/\subH h' (Z2 h vs)=subH h (Z2 h vs)/\V9 h' (Z2 h vs) (Zw vs)=V9 h (Z2 h vs) (Zw vs):=by
 refine⟨Zk7 200 _ _ hh,?_,?_⟩
 .unfold subH;exact Ybe λb hb=>by rw[hh b hb]
 .unfold V9;congr 1;rw[Yby,Yn,Yn];constructor
  .intro q b hb;rw[hh b hb];exact q b hb
  .intro q b hb;rw[<-hh b hb];exact q b hb
theorem Z2E{ps:List (Nat×Nat×Opd)}(he:∀p∈ps,ev e p.2.2=ev e' p.2.2):U8 e cs ps=U8 e' cs ps:=by
 induction ps generalizing cs with
 |nil=>rfl
 |cons p ps ih =>
  obtain⟨o,n,x⟩:=p;have h1:=he (o,n,x) (by simp);simp only at h1;have h2:=λcs=>ih (cs:=cs) (λp hp=>he p (by simp[hp]))
  simp only[U8,h1,h2]
theorem Z2F(he:∀p∈ps,ev e p.2=ev e' p.2):Qd e cs ps=Qd e' cs ps:=by
 induction ps generalizing cs with
 |nil=>rfl
 |cons p ps ih =>
  obtain⟨n,x⟩:=p;have h1:=he (n,x) (by simp);simp only at h1;have h2:=λcs=>ih (cs:=cs) (λp hp=>he p (by simp[hp]))
  simp only[Qd,h1,h2]
theorem ZrC{es:XT}(he:∀p∈ps,ev e p.2=ev e' p.2)(hh:∀p∈ps,∀b∈refs (ev e p.2),gt h b=gt h' b):WG h e sz es ps=WG h' e' sz es ps:=by
 induction ps generalizing es with
 |nil=>rfl
 |cons p ps ih =>
  obtain⟨n,x⟩:=p;have h1:=he (n,x) (by simp);have h3:=hh (n,x) (by simp);simp only at h1 h3;have h2:=λes=>ih (es:=es) (λp hp=>he p (by simp[hp])) (λp hp=>hh p (by simp[hp]))
  simp only[WG,h2,<-h1]
  cases hc:cellsOf (ev e x)with
  |none=>rfl
  |some vs =>
   simp only;rw[ZgU (h:=h) (h':=h') (λb hb=>h3 b (by rw[<-ZdO hc];exact hb))]
theorem toT_ks{x:T}{f:Bool}{ks:V2}(h1:toT h v=some (x,f,ks)):∀k∈ks,k∈refs v:=by
 cases v with
 |t y=>simp[toT]at h1;obtain⟨_,_,rfl⟩:=h1;simp
 |own b =>
  simp only[toT]at h1;split at h1
  .cases h1;simp[refs]
  .cases h1
 |_=>simp[toT]at h1
theorem ZrD:∀{vs:XQ} {xs:V4} {f:Bool} {ks:V2},toTs h vs=some (xs,f,ks)->∀k∈ks,k∈Zw vs
 |[],_,_,_,h1=>by simp[toTs]at h1;obtain⟨_,_,rfl⟩:=h1;simp
 |v::vs,xs,f,ks,h1=>by
  simp only[toTs]at h1;split at h1
  .rename_i x f1 k1 y g1 l1 e1 e2;cases h1;intro k hk;rw[Zw,Yk];rcases Yk.1 hk with hk|hk
   .exact .inl (toT_ks e1 k hk)
   .exact .inr (ZrD e2 k hk)
  .cases h1
theorem ZrE{sz:Nat}:∀{ps:List (Nat×Opd)} {es es':XT} {f:Bool} {ks:V2},WG h e sz es ps=some (es',f,ks)->∀k∈ks,∃p∈ps,k∈refs (ev e p.2)
 |[],_,_,_,_,h1=>by simp[WG]at h1;obtain⟨_,_,rfl⟩:=h1;simp
 |(i,x)::ps,es,es',f,ks,h1=>by
  simp only[WG]at h1;split at h1
  .rename_i vs hc;split at h1
   .rename_i ts f1 k1 ht;split at h1
    .split at h1
     .rename_i es2 g2 l2 hr;cases h1;intro k hk;rcases Yk.1 hk with hk|hk
      .exact⟨(i,x),by simp,by rw[<-ZdO hc];exact ZrD ht k hk⟩
      .obtain⟨p,hp,hq⟩:=ZrE hr k hk;exact⟨p,by simp[hp],hq⟩
     .cases h1
    .cases h1
   .cases h1
  .cases h1
theorem Z2G(hh:∀b∈refs v,gt h b=gt h' b):WF h st v=WF h' st v:=by
 cases v with
 |own b=>cases st<;>simp only[WF];rw[hh b (by simp[refs])]
 |t x=>cases st<;>cases x<;>rfl
 |_=>cases st<;>rfl
theorem Z2H(hh:∀b∈refs v,gt h b=gt h' b):Wq h st v=Wq h' st v:=by
 cases v with
 |own b=>cases st<;>simp only[Wq];rw[hh b (by simp[refs])]
 |t x=>cases st<;>cases x<;>first|rfl|(rename_i es;cases es<;>rfl)
 |_=>cases st<;>rfl
theorem Z2I{mv:Bool}(hh:∀b∈refs v,gt h b=gt h' b):VO h sz mv v=VO h' sz mv v:=by
 cases v with
 |own b=>simp only[VO];rw[hh b (by simp[refs])]
 |t x=>cases x<;>rfl
 |_=>rfl
theorem Z2J(hh:∀b∈refs v,gt h b=gt h' b):Q7 h sz v=Q7 h' sz v:=by
 cases v with
 |own b=>simp only[Q7];rw[hh b (by simp[refs])]
 |_=>rfl
theorem ZrF{d:Nat}{o:Option Opd}(he:∀x,o=some x->ev e x=ev e' x):bnd e d o=bnd e' d o:=by
 cases o with
 |none=>rfl
 |some x=>simp[bnd,he x rfl]
theorem Z2K(he:∀x∈Zv k,ev e x=ev e' x)(hh:∀x∈Zv k,∀b∈refs (ev e x),gt h b=gt h' b):Zs h nx e k=Zs h' nx e' k:=by
 cases k with
 |mov x=>simp[Zs,he x (by simp[Zv])]
 |pick c a b=>simp[Zs,he c (by simp[Zv]),he a (by simp[Zv]),he b (by simp[Zv])]
 |alloc zs=>rfl
 |box x=>simp[Zs,he x (by simp[Zv])]
 |build zs ps =>
  simp only[Zs]
  rw[Z2E (λp hp=>he p.2.2 (by simp only[Zv,Y2];exact⟨p,hp,rfl⟩))]
 |bslice el sz n zs ps =>
  simp only[Zs]
  rw[ZrC (λp hp=>he p.2 (by simp only[Zv,Y2];exact⟨p,hp,rfl⟩)) (λp hp=>hh p.2 (by simp only[Zv,Y2];exact⟨p,hp,rfl⟩))]
 |bsliceX el sz n zs ps =>
  simp only[Zs];have hE:=ZrC (h:=h) (h':=h') (e:=e) (e':=e') (sz:=sz) (es:=List.replicate n zs) (ps:=ps) (λp hp=>he p.2 (by simp only[Zv,Y2];exact⟨p,hp,rfl⟩)) (λp hp=>hh p.2 (by simp only[Zv,Y2];exact⟨p,hp,rfl⟩));rw[<-hE]
  cases hq:WG h e sz (List.replicate n zs) ps with
  |none=>rfl
  |some r =>
   obtain⟨es,fr,ks⟩:=r;have hk:∀k∈ks,gt h k=gt h' k:=λk hk=>by
    obtain⟨p,hp,hr⟩:=ZrE hq k hk;exact hh p.2 (by simp only[Zv,Y2];exact⟨p,hp,rfl⟩) k hr
   have:ks.all (λk=>flatB (gt h k))=ks.all (λk=>flatB (gt h' k)):=by
    rw[Yby,Yn,Yn];exact⟨λg k hk'=>by rw[<-hk k hk'];exact g k hk',λg k hk'=>by rw[hk k hk'];exact g k hk'⟩
   simp only[this]
 |bptrs n ps =>
  simp only[Zs]
  rw[Z2F (λp hp=>he p.2 (by simp only[Zv,Y2];exact⟨p,hp,rfl⟩))]
 |load n x =>
  have h1:=he x (by simp[Zv]);have h2:=hh x (by simp[Zv]);simp only[Zs,<-h1];cases hx:ev e x<;>simp only
  .rw[h2 _ (by rw[hx];simp[refs])]
  .rw[h2 _ (by rw[hx];simp[refs])]
 |loadU mv x =>
  have h1:=he x (by simp[Zv]);have h2:=hh x (by simp[Zv]);simp only[Zs,<-h1];cases hx:ev e x<;>simp only
  .rw[h2 _ (by rw[hx];simp[refs])]
  .rw[h2 _ (by rw[hx];simp[refs])]
 |store n x v =>
  have h1:=he x (by simp[Zv]);have h2:=hh x (by simp[Zv]);have h3:=he v (by simp[Zv]);have h4:=hh v (by simp[Zv]);simp only[Zs,<-h1,<-h3]
  cases hc:cellsOf (ev e v)with
  |none=>rfl
  |some vs =>
   simp only;rw[ZgU (h:=h) (h':=h') (λb hb=>h4 b (by rw[<-ZdO hc];exact hb))];cases hx:ev e x<;>simp only
   .rw[h2 _ (by rw[hx];simp[refs])]
   .rw[h2 _ (by rw[hx];simp[refs])]
 |storeF n x v =>
  have h1:=he x (by simp[Zv]);have h2:=hh x (by simp[Zv]);have h3:=he v (by simp[Zv]);have h4:=hh v (by simp[Zv]);simp only[Zs,<-h1,<-h3]
  cases hc:cellsOf (ev e v)with
  |none=>rfl
  |some vs =>
   simp only;rw[ZgU (h:=h) (h':=h') (λb hb=>h4 b (by rw[<-ZdO hc];exact hb))];cases hx:ev e x<;>simp only
   .rw[h2 _ (by rw[hx];simp[refs])]
 |storeP n x v p =>
  have h1:=he x (by simp[Zv]);have h2:=hh x (by simp[Zv]);have h3:=he v (by simp[Zv]);have h4:=hh v (by simp[Zv]);have h5:=he p (by simp[Zv]);have h6:=hh p (by simp[Zv]);simp only[Zs,<-h1,<-h3,<-h5]
  cases hx:ev e x with
  |eptr c j sz off =>
   cases hp:ev e p with
   |eptr b _ _ _ =>
    simp only;rw[<-h2 c (by rw[hx];simp[refs]),<-h6 b (by rw[hp];simp[refs])]
    cases hc:cellsOf (ev e v)with
    |none=>cases gt h c<;>cases gt h b<;>rfl
    |some vs =>
     have ht:toTs h vs=toTs h' vs:=ZgU (λb hb=>h4 b (by rw[<-ZdO hc];exact hb))
     cases gt h c<;>cases gt h b<;>first|rfl|simp only[ht]
   |_=>rfl
  |_=>rfl
 |nilchk x=>simp[Zs,he x (by simp[Zv])]
 |bin op x y=>simp[Zs,he x (by simp[Zv]),he y (by simp[Zv])]
 |beq n x y=>simp[Zs,he x (by simp[Zv]),he y (by simp[Zv])]
 |aeq n ks x y=>simp[Zs,he x (by simp[Zv]),he y (by simp[Zv])]
 |nileq n sl x =>
  simp only[Zs,<-he x (by simp[Zv])]
  rw[Z2H (hh x (by simp[Zv]))]
 |mm m x y=>simp[Zs,he x (by simp[Zv]),he y (by simp[Zv])]
 |un op x=>simp[Zs,he x (by simp[Zv])]
 |conv k x=>simp[Zs,he x (by simp[Zv])]
 |tostr x =>
  have h1:=he x (by simp[Zv]);have h2:=hh x (by simp[Zv]);simp only[Zs,<-h1];cases hx:ev e x<;>simp only
  .rw[h2 _ (by rw[hx];simp[refs])]
 |mkfn f caps =>
  simp only[Zs]
  rw[Ybe (λx hx=>he x (by simpa[Zv]using hx))]
 |mkslice el sz bytes zs l c=>simp[Zs,he l (by simp[Zv]),he c (by simp[Zv])]
 |slice sz x lo hi =>
  have h1:=he x (by simp[Zv]);have h2:∀d,bnd e d lo=bnd e' d lo:=λd=>ZrF λy hy=>he y (by subst hy;simp[Zv])
  have h3:∀d,bnd e d hi=bnd e' d hi:=λd=>ZrF λy hy=>he y (by subst hy;simp[Zv])
  have h4:=hh x (by simp[Zv]);simp only[Zs,<-h1,h2,h3]
  cases hx:ev e x with
  |own b=>cases sz<;>simp only[h4 b (by rw[hx];simp[refs])]
  |t x=>cases sz<;>cases x<;>rfl
  |_=>cases sz<;>rfl
 |faddr off x=>simp[Zs,he x (by simp[Zv])]
 |field off n x=>simp[Zs,he x (by simp[Zv])]
 |iaddr sz x i =>
  have h1:=he x (by simp[Zv]);have h2:=hh x (by simp[Zv]);have h3:=he i (by simp[Zv]);simp only[Zs,<-h1,<-h3]
  cases hx:ev e x with
  |own b=>simp only;rw[h2 b (by rw[hx];simp[refs])]
  |t x=>cases x<;>rfl
  |_=>rfl
 |index x i=>simp[Zs,he x (by simp[Zv]),he i (by simp[Zv])]
 |aaddr n sz x i=>simp[Zs,he x (by simp[Zv]),he i (by simp[Zv])]
 |aidx n sz m x i=>simp[Zs,he x (by simp[Zv]),he i (by simp[Zv])]
 |ext x i=>simp[Zs,he x (by simp[Zv])]
 |len st x =>
  simp only[Zs,<-he x (by simp[Zv])]
  rw[Z2G (hh x (by simp[Zv]))]
 |append el sz bytes mv x y =>
  have h1:=he x (by simp[Zv]);have h2:=hh x (by simp[Zv]);have h3:=he y (by simp[Zv]);have h4:=hh y (by simp[Zv]);simp only[Zs,<-h1,<-h3];rw[Z2I h4,Z2J h4]
  cases hx:ev e x with
  |own b=>simp only;rw[h2 b (by rw[hx];simp[refs])]
  |t x=>cases x<;>rfl
  |_=>rfl
 |call f args=>rfl
 |xcall f args=>rfl
 |fcall f args=>rfl
 |icall f args=>rfl
 |scall f args p=>rfl
 |pcall f args=>rfl
 |dcall f args=>rfl
theorem Z2L{u:List (Nat×Blk)}(hev:Zs h nx e k=some (v,u))(hn:nx ∉ u.map Prod.fst)(nx':Nat):Zs h nx' e k=some (v,u):=by
 cases k<;>try exact hev
 case alloc zs=>simp[Zs]at hev;obtain⟨_,rfl⟩:=hev;simp at hn
 case box x =>
  simp only[Zs]at hev|-;split at hev
  .cases hev;simp at hn
  .cases hev
 case loadU mv x =>
  simp only[Zs]at hev|-
  cases hx:ev e x with
  |ptr b off=>simp only[hx]at hev|-;exact hev
  |eptr b i sz off =>
   simp only[hx]at hev|-
   repeat' split at hev
   all_goals first
    |(cases hev;done)
    |(cases hev;simp at hn;done)
    |(cases hev;simp_all)
  |_=>simp only[hx]at hev;cases hev
 case bslice el sz n zs ps =>
  simp only[Zs]at hev|-
  repeat' split at hev
  all_goals first
   |(cases hev;done)
   |(cases hev;simp at hn)
 case bsliceX el sz n zs ps =>
  simp only[Zs]at hev|-
  repeat' split at hev
  all_goals first
   |(cases hev;done)
   |(cases hev;simp at hn)
 case bptrs n ps =>
  simp only[Zs]at hev|-
  repeat' split at hev
  all_goals first
   |(cases hev;done)
   |(cases hev;simp at hn)
 case mkslice el sz bytes zs l c =>
  simp only[Zs]at hev|-
  repeat' split at hev
  all_goals first
   |(cases hev;done)
   |(cases hev;simp at hn)
 case slice sz x lo hi =>
  simp only[Zs]at hev|-
  cases hb:bnd e 0 lo with
  |none=>simp only[hb]at hev;cases hev
  |some l =>
   simp only[hb]at hev|-
   cases sz with
   |none =>
    cases hx:ev e x with
    |t x=>simp only[hx]at hev|-;cases x<;>exact hev
    |_=>simp only[hx]at hev;cases hev
   |some sz =>
    cases hx:ev e x with
    |own b =>
     simp only[hx]at hev
     repeat' split at hev
     all_goals first
      |(cases hev;done)
      |(cases hev;simp at hn)
    |t x=>simp only[hx]at hev|-;cases x<;>exact hev
    |_=>simp only[hx]at hev;cases hev
 case append el sz bytes mv x y =>
  simp only[Zs]at hev|-
  repeat' split at hev
  all_goals first
   |(cases hev;done)
   |(cases hev;simp at hn)
end
open Go.RowKit (Below)
structure Tr where
 dst:Option Nat
 v:AV
 u:List (Nat×Blk)
 foot:Foot
def appT(t:Tr)(s:S):S:={ s with env:=put t.dst t.v s.env,h:=upd s.h t.u }
def Z3(L:Nat->Bool):Nat->List Tr->S->S
 |_,[],s=>s
 |i,t::ts,s=>Z3 L (i+1) ts (if L i then appT t s else s)
def gRun(o:MO)(e:Env):Prop:=o.guard=none\/∃g b,o.guard=some (g,b)/\lk g e=.t (.bool b)
def gSkip(o:MO)(e:Env):Prop:=∃g b,o.guard=some (g,b)/\(lk g e=.tup []\/∃c,lk g e=.t (.bool c)/\c≠b)
def ZdP(Γ:Ctr)(o:MO)(t:Tr)(s:S):Prop:=t.dst=o.dst/\t.foot=Wa o s (t.u.map Prod.fst)/\
 ((gRun o s.env/\opR Γ s.h s.h.length s.env o.op t.v t.u)\/(gSkip o s.env/\t.v=.tup []/\t.u=[]))
def Steps(Γ:Ctr):List MO->List Tr->S->Prop
 |[],[],_=>True
 |o::os,t::ts,s=>ZdP Γ o t s/\Steps Γ os ts (appT t s)
 |_,_,_=>False
variable{Γ:Ctr}{h h':V1}{nx f:Nat}{u:List (Nat×Blk)}{vs:XQ}{K:AV->List (Nat×Blk)->Prop}
theorem Z2M{o:MO}{s:S}{K:Foot->S->Prop}(h:drwG Γ o s K):∃t,ZdP Γ o t s/\K t.foot (appT t s):=by
 have run:gRun o s.env->WQ Γ o s K->∃t,ZdP Γ o t s/\K t.foot (appT t s):=by
  intro hg h
  cases ho:o.op with
  |call f args =>
   simp only[WQ,ho]at h;obtain⟨as,h1,r,hr,h2,h3,h4⟩:=h
   exact⟨⟨o.dst,shift s.h.length r,newU s.h.length hr 0,_⟩,⟨rfl,rfl,.inl ⟨hg,by rw[ho];exact⟨as,h1,r,hr,h2,h3,rfl,rfl⟩⟩⟩,h4⟩
  |xcall f args =>
   simp only[WQ,ho]at h;obtain⟨as,h1,r,hr,h2,h3,h4⟩:=h
   exact⟨⟨o.dst,_,_,_⟩,⟨rfl,rfl,.inl ⟨hg,by rw[ho];exact⟨as,h1,r,hr,h2,h3,rfl,rfl⟩⟩⟩,h4⟩
  |fcall f args =>
   simp only[WQ,ho]at h;obtain⟨as,h1,hno,r,hr,d,h2,h3,h4⟩:=h
   exact⟨⟨o.dst,_,_,_⟩,⟨rfl,rfl,.inl ⟨hg,by rw[ho];exact⟨as,h1,hno,r,hr,h2,h3,rfl⟩⟩⟩,h4⟩
  |scall f args p =>
   simp only[WQ,ho,XH]at h;obtain⟨h1,r,h2,h3,u2,h4,h5⟩:=h
   exact⟨⟨o.dst,_,_,_⟩,⟨rfl,rfl,.inl ⟨hg,by rw[ho];exact⟨h1,r,h2,h3,u2,h4,rfl,rfl⟩⟩⟩,h5⟩
  |icall f args =>
   simp only[WQ,ho,XH]at h;obtain⟨h1,r,h2,h3,h4⟩:=h
   exact⟨⟨o.dst,_,_,_⟩,⟨rfl,rfl,.inl ⟨hg,by rw[ho];exact⟨h1,r,h2,h3,rfl,rfl⟩⟩⟩,h4⟩
  |pcall f args =>
   simp only[WQ,ho,Qg]at h;obtain⟨h1,r,h2,h3,h4⟩:=h
   exact⟨⟨o.dst,_,_,_⟩,⟨rfl,rfl,.inl ⟨hg,by rw[ho];exact⟨h1,r,h2,h3,rfl,rfl⟩⟩⟩,h4⟩
  |dcall f args =>
   simp only[WQ,ho]at h;split at h
   .rename_i g caps hgc;obtain⟨h1,r,h2,h3,h4⟩:=h;exact⟨⟨o.dst,_,_,_⟩,⟨rfl,rfl,.inl ⟨hg,by rw[ho];exact⟨g,caps,hgc,h1,r,h2,h3,rfl,rfl⟩⟩⟩,h4⟩
   .exact h.elim
  |_ =>
   simp only[WQ,ho]at h;split at h
   .rename_i v u hev;exact⟨⟨o.dst,v,u,_⟩,⟨rfl,rfl,.inl ⟨hg,by rw[ho];exact hev⟩⟩,h⟩
   .exact h.elim
 have skip:gSkip o s.env->K (Wa o s []) { s with env:=put o.dst (.tup []) s.env }->∃t,ZdP Γ o t s/\K t.foot (appT t s):=λhg h =>
  ⟨⟨o.dst,.tup [],[],Wa o s []⟩,⟨rfl,rfl,.inr ⟨hg,rfl,rfl⟩⟩,h⟩
 unfold drwG at h;split at h
 .rename_i hg;exact run (.inl hg) h
 .rename_i g want hg;split at h
  .rename_i b hb;split at h
   .rename_i hbw;subst hbw;exact run (.inr ⟨g,b,hg,hb⟩) h
   .rename_i hbw;exact skip ⟨g,want,hg,.inr ⟨b,hb,hbw⟩⟩ h
  .rename_i hb;exact skip ⟨g,want,hg,.inl hb⟩ h
  .exact h.elim
theorem ZrG{Γ:Ctr}:∀(os:List MO) (s:S) (feet:List Foot) (K:List Foot->S->Prop) (i:Nat),drwW Γ os s feet K->∃ts,Steps Γ os ts s/\K (feet++ts.map (·.foot)) (Z3 (λ_=>true) i ts s)
 |[],s,feet,K,i,h=>⟨[],trivial,by simp only[Yb5,Ybd,Z3];exact h⟩
 |o::os,s,feet,K,i,h=>by
  obtain⟨t,h1,h2⟩:=Z2M h;obtain⟨ts,h3,h4⟩:=ZrG os (appT t s) _ K (i+1) h2;refine⟨t::ts,⟨h1,h3⟩,?_⟩;simpa[Z3]using h4
theorem ZdQ{L:Nat->Bool}:∀(ts:List Tr) (k:Nat) (s:S),(∀j,k<=j->L j=false)->Z3 L k ts s=s
 |[],_,_,_=>rfl
 |t::ts,k,s,h=>by
  simp only[Z3,h k (Yg _),Y7,if_false];exact ZdQ ts (k+1) s λj hj=>h j (by omega)
theorem ZrH{Γ:Ctr}:∀(os:List MO) (ts:List Tr) (s:S) (k:Nat),Steps Γ os ts s->ts.length=os.length/\∀i o,os[i]?=some o->∃t,ts[i]?=some t/\ZdP Γ o t (Z3 (λj=>decide (j<k+i)) k ts s)
 |[],[],_,_,_=>⟨rfl,by simp⟩
 |o::os,t::ts,s,k,h=>by
  obtain⟨h1,h2⟩:=h;obtain⟨h3,h4⟩:=ZrH os ts (appT t s) (k+1) h2;refine⟨by simp[h3],?_⟩;intro i o' ho
  cases i with
  |zero =>
   simp at ho;subst ho;refine⟨t,rfl,?_⟩;rw[ZdQ]
   .exact h1
   .intro j hj;simp;omega
  |succ i =>
   obtain⟨t',h5,h6⟩:=h4 i o' (by simpa using ho);refine⟨t',by simpa using h5,?_⟩;have e:Z3 (λj=>decide (j<k+(i+1))) k (t::ts) s=Z3 (λj=>decide (j<k+1+i)) (k+1) ts (appT t s):=by
    simp only[Z3];rw[Ya (by simp)];congr 1;funext j;congr 1;exact propext (by omega)
   rw[e]
   exact h6
 |[],_::_,_,_,h=>h.elim
 |_::_,[],_,_,h=>h.elim
theorem ZdR(d:Option Nat)(v:AV)(e:Env)(r:Nat):lk r (put d v e)=if d=some r then v else lk r e:=by
 cases d with
 |none=>simp[put]
 |some d=>simp[put,lk]
theorem Zk9:∀{h h':V1} {b:Nat},b∈u.map Prod.fst->gt (upd h u) b=gt (upd h' u) b:=by
 induction u with
 |nil=>intro h h' b hb;simp at hb
 |cons p u ih =>
  intro h h' b hb;obtain⟨c,x⟩:=p;by_cases hu:b∈u.map Prod.fst
  .exact ih hu
  .simp only[upd];rw[Kv hu,Kv hu,Wb,Wb];simp only[Yw,Yl]at hb;rcases hb with rfl|hb
   .simp
   .exact absurd hb hu
theorem Z2N{b:Nat}(hg:gt h b=gt h' b):gt (upd h u) b=gt (upd h' u) b:=by
 by_cases hb:b∈u.map Prod.fst
 .exact Zk9 hb
 .rw[Kv hb,Kv hb,hg]
theorem ZdS{L L':Nat->Bool}(r:Nat):∀(ts:List Tr) (k:Nat) (s s':S),(∀j t,ts[j]?=some t->t.dst=some r->L (k+j)=L' (k+j))->lk r s.env=lk r s'.env->lk r (Z3 L k ts s).env=lk r (Z3 L' k ts s').env
 |[],_,_,_,_,h=>h
 |t::ts,k,s,s',hL,h=>by
  simp only[Z3];refine ZdS r ts (k+1) _ _ (λj t' hj hd=>?_) ?_
  .have:=hL (j+1) t' (by simpa using hj) hd;rw[show k+1+j=k+(j+1) by omega];exact this
  .have h0:=hL 0 t rfl;rw[Ybs]at h0;by_cases hd:t.dst=some r
   .rw[h0 hd];cases L' k
    .simpa using h
    .simp[appT,ZdR,hd]
   .have key:∀(b:Bool) (x:S),lk r (if b=true then appT t x else x).env=lk r x.env:=by
     intro b x;cases b
     .rfl
     .simp[appT,ZdR,hd]
    rw[key,key,h]
theorem ZdT{L L':Nat->Bool}(b:Nat):∀(ts:List Tr) (k:Nat) (s s':S),(∀j t,ts[j]?=some t->b∈t.u.map Prod.fst->L (k+j)=L' (k+j))->gt s.h b=gt s'.h b->gt (Z3 L k ts s).h b=gt (Z3 L' k ts s').h b
 |[],_,_,_,_,h=>h
 |t::ts,k,s,s',hL,h=>by
  simp only[Z3];refine ZdT b ts (k+1) _ _ (λj t' hj hd=>?_) ?_
  .have:=hL (j+1) t' (by simpa using hj) hd;rw[show k+1+j=k+(j+1) by omega];exact this
  .have h0:=hL 0 t rfl;rw[Ybs]at h0;by_cases hd:b∈t.u.map Prod.fst
   .rw[h0 hd];cases L' k
    .simpa using h
    .simp only[if_true,appT];exact Zk9 hd
   .have key:∀(c:Bool) (x:S),gt (if c=true then appT t x else x).h b=gt x.h b:=by
     intro c x;cases c
     .rfl
     .simp only[if_true,appT];exact Kv hd
    rw[key,key,h]
theorem ZdU{L:Nat->Bool}:∀(ts:List Tr) (k:Nat) (s:S),(Z3 L k ts s).stk=s.stk
 |[],_,_=>rfl
 |t::ts,k,s=>by
  simp only[Z3];rw[ZdU ts];split<;>rfl
theorem ZgX{L:Nat->Bool}:∀(ts:List Tr) (k:Nat) (s:S),s.h.length<=(Z3 L k ts s).h.length/\∀j t,ts[j]?=some t->L (k+j)=true->∀b∈t.u.map Prod.fst,b<(Z3 L k ts s).h.length
 |[],_,_=>⟨Yg _,by simp⟩
 |t::ts,k,s=>by
  simp only[Z3];obtain⟨h1,h2⟩:=ZgX ts (k+1) (if L k=true then appT t s else s);have h3:s.h.length<=(if L k=true then appT t s else s).h.length:=by
   split
   .exact(Zk3 t.u s.h).1
   .exact Yg _
  refine⟨Yu h3 h1,?_⟩;intro j t' hj hL b hb
  cases j with
  |zero =>
   simp at hj;subst hj;rw[Ybs]at hL;rw[hL]at h1|-;simp only[if_true]at h1|-
   exact Yco ((Zk3 t.u s.h).2 b hb) h1
  |succ j =>
   exact h2 j t' (by simpa using hj) (by rw[show k+1+j=k+(j+1) by omega];exact hL) b hb
theorem ZrI{L:Nat->Bool}{i:Nat}{t:Tr}(hi:L i=false):∀(ts:List Tr) (k:Nat) (s:S),(∃m,i=k+m/\ts[m]?=some t)->
  ((∀r,t.dst=some r->∀j t',ts[j]?=some t'->i<k+j->L (k+j)=true->t'.dst≠some r)->∀r,lk r (Z3 (λj=>L j || decide (j=i)) k ts s).env=lk r (appT t (Z3 L k ts s)).env)/\
  ((∀b∈t.u.map Prod.fst,∀j t',ts[j]?=some t'->i<k+j->L (k+j)=true->b ∉ t'.u.map Prod.fst)->∀b,gt (Z3 (λj=>L j || decide (j=i)) k ts s).h b=gt (appT t (Z3 L k ts s)).h b)
 |[],_,_,⟨m,_,h⟩=>by simp at h
 |t0::ts,k,s,⟨m,hm,ht⟩=>by
  cases m with
  |zero =>
   simp at ht;subst ht;have hik:i=k:=by omega
   subst hik;simp only[Z3,hi,Ydi,decide_true,if_true,Y7,if_false];constructor
   .intro hw r;by_cases hd:t0.dst=some r
    .have e1:=ZdS (L:=λj=>L j || decide (j=i)) (L':=λ_=>false) r ts (i+1) (appT t0 s) (appT t0 s) (λj t' hj hd'=>by
      have:=hw r hd (j+1) t' (by simpa using hj) (by omega);cases hx:L (i+1+j)
      .simp;omega
      .exact absurd hd' (this (by rw[show i+(j+1)=i+1+j by omega];exact hx))) rfl
     rw[e1,ZdQ ts (i+1) _ (λ_ _=>rfl)];simp[appT,ZdR,hd]
    .have e1:=ZdS (L:=λj=>L j || decide (j=i)) (L':=L) r ts (i+1) (appT t0 s) s (λj t' hj hd'=>by
      have:(decide (i+1+j=i))=false:=by simp;omega
      simp[this]) (by simp[appT,ZdR,hd])
     rw[e1];simp[appT,ZdR,hd]
   .intro hw b;by_cases hd:b∈t0.u.map Prod.fst
    .have e1:=ZdT (L:=λj=>L j || decide (j=i)) (L':=λ_=>false) b ts (i+1) (appT t0 s) (appT t0 s) (λj t' hj hd'=>by
      have:=hw b hd (j+1) t' (by simpa using hj) (by omega);cases hx:L (i+1+j)
      .simp;omega
      .exact absurd hd' (this (by rw[show i+(j+1)=i+1+j by omega];exact hx))) rfl
     rw[e1,ZdQ ts (i+1) _ (λ_ _=>rfl)];exact Zk9 hd
    .have e1:=ZdT (L:=λj=>L j || decide (j=i)) (L':=L) b ts (i+1) (appT t0 s) s (λj t' hj hd'=>by
      have:(decide (i+1+j=i))=false:=by simp;omega
      simp[this]) (by simp only[appT];exact Kv hd)
     rw[e1];simp only[appT]
     exact(Kv hd).symm
  |succ m =>
   have hne:decide (k=i)=false:=by simp;omega
   simp only[Z3,hne,Bool.or_false];have ih:=ZrI hi ts (k+1) (if L k=true then appT t0 s else s) ⟨m,by omega,by simpa using ht⟩;constructor
   .intro hw;exact ih.1 λr hr j t' hj hlt hL=>hw r hr (j+1) t' (by simpa using hj) (by omega) (by rw[show k+(j+1)=k+1+j by omega];exact hL)
   .intro hw;exact ih.2 λb hb j t' hj hlt hL=>hw b hb (j+1) t' (by simpa using hj) (by omega) (by rw[show k+(j+1)=k+1+j by omega];exact hL)
theorem ZkA{L:Nat->Bool}:∀(bs:List (V2)) (acc:List (V2)),(∀j b,bs[j]?=some b->L (acc.length+j)=true->∀i∈b,L i=true)->(∀j c,acc[j]?=some c->L j=true->∀i∈c,L i=true)->
  ∀j c,(ZdF bs acc)[j]?=some c->L j=true->∀i∈c,L i=true
 |[],acc,_,h=>h
 |b::bs,acc,hb,h=>by
  simp only[ZdF];refine ZkA bs _ (λj b' hj hL=>hb (j+1) b' (by simpa using hj) (by simp at hL;rw[show acc.length+(j+1)=acc.length+1+j by omega];exact hL)) ?_;intro j c hj hL i hi;rw[List.getElem?_append]at hj;split at hj
  .exact h j c hj hL i hi
  .rename_i hlt;have hj0:j=acc.length:=by
    by_cases hz:j-acc.length=0
    .omega
    .rw[Yb2 (by simp;omega)]at hj;cases hj
   subst hj0;simp at hj;subst hj;have h0:=hb 0 b rfl (by simpa using hL);rcases Yk.1 hi with hi|hi
   .exact h0 i hi
   .obtain⟨i',h1,h2⟩:=Ybv.1 hi;have hL':=h0 i' h1
    cases hx:acc[i']? with
    |none=>rw[hx]at h2;simp at h2
    |some c'=>rw[hx]at h2;exact h i' c' hx hL' i h2
theorem ZrJ{before:List (V2)}{feet:List Foot}(h:QB before feet=true){i j:Nat}{f g:Foot}(hi:feet[i]?=some f)(hj:feet[j]?=some g)(hij:i<j)(hc:Ul f g=true) :
  ∃c,(ZdF before [])[j]?=some c/\i∈c:=by
 unfold QB at h;have hjl:j<feet.length:=by
  by_cases hx:j<feet.length
  .exact hx
  .rw[Yb2 (by omega)]at hj;cases hj
 have h1:=Yn.1 h j (Ybm.2 hjl);unfold ZqU at h1;rw[hj]at h1;split at h1
 .rename_i g' c hg hcl;cases hg;have h2:=Yn.1 h1 i (Ybm.2 hij);rw[hi]at h2;simp only[hc,Bool.not_true,Ydi]at h2;exact⟨c,hcl,by simpa using h2⟩
 .cases h1
theorem ZkB(hh:∀b∈ZK h 200 (Zw vs) [],gt h b=gt h' b)(hr:XH Γ f vs h nx K):XH Γ f vs h' nx K:=by
 obtain⟨e1,e2,e3⟩:=ZrB hh;unfold XH;rw[e1,e2,e3];exact hr
theorem Z2O(hh:∀b∈ZK h 200 (Zw vs) [],gt h b=gt h' b)(hr:Qg Γ f vs h nx K):Qg Γ f vs h' nx K:=by
 obtain⟨e1,e2,e3⟩:=ZrB hh;unfold Qg;rw[e1,e2,e3];exact hr
theorem Z2P{K':AV->List (Nat×Blk)->Prop}(hr:XH Γ f vs h nx K)(hK:∀v u,K v u->K' v u):XH Γ f vs h nx K':=by
 obtain⟨h1,r,h2,h3,h4⟩:=hr;exact⟨h1,r,h2,h3,hK _ _ h4⟩
theorem ZkC{h:V1}:∀(n:Nat) (A B acc:V2),∀b∈ZK h n A acc,b∈ZK h n (A++B) acc
 |0,_,_,_,b,hb=>by simpa[ZK]using hb
 |n+1,[],B,acc,b,hb=>ZgW _ _ _ b (by simpa[ZK]using hb)
 |n+1,c::A,B,acc,b,hb=>by
  simp only[ZK,Yd0]at hb|-;split
  .rename_i hc;rw[Ya hc]at hb;exact ZkC n A B acc b hb
  .rename_i hc;rw[Yb hc]at hb;have:=ZkC n (X4 (gt h c)++A) B (acc++[c]) b hb
   rwa [Yt]at this
theorem Z2Q{e e':Env}{k:MOp}{v:AV}(he:∀x∈Zv k,ev e x=ev e' x)(hh:∀b∈rbOf k h e,gt h b=gt h' b)
  (hr:opR Γ h nx e k v u):opR Γ h' nx e' k v u:=by
 cases k with
 |call f args =>
  obtain⟨as,h1,r,hr,h2,h3,h4,h5⟩:=hr;have e1:args.map (ev e')=args.map (ev e):=Ybe λx hx=>(he x (by simpa[Zv]using hx)).symm
  refine⟨as,?_,r,hr,h2,by rw[e1];exact h3,h4,h5⟩;rw[e1,<-h1]
  exact(Zk8 (Zk6 hh)).symm
 |xcall f args =>
  obtain⟨as,h1,r,hr,h2,h3,h4,h5⟩:=hr;have e1:args.map (ev e')=args.map (ev e):=Ybe λx hx=>(he x (by simpa[Zv]using hx)).symm
  refine⟨as,?_,r,hr,h2,h3,h4,h5⟩;rw[e1,<-h1]
  exact(Zk8 (Zk6 hh)).symm
 |fcall f args =>
  obtain⟨as,h1,hno,r,hr,h2,h3,h4⟩:=hr;have e1:args.map (ev e')=args.map (ev e):=Ybe λx hx=>(he x (by simpa[Zv]using hx)).symm
  refine⟨as,?_,by rw[e1];exact hno,r,hr,h2,h3,h4⟩;rw[e1,<-h1]
  exact(Zk8 (Zk6 hh)).symm
 |scall f args p =>
  have e1:args.map (ev e')=args.map (ev e):=Ybe λx hx=>(he x (by simp[Zv,hx])).symm
  have e2:ev e' p=ev e p:=(he p (by simp[Zv])).symm;have e3:Uk (.scall f args p) e=Zw (args.map (ev e))++refs (ev e p):=by simp[Uk,Zv,Z28,Zw]
  simp only[rbOf]at hh;rw[e3]at hh;simp only[opR]at hr|-;rw[e1,e2];refine Z2P (ZkB (λb hb=>hh b (ZgV (ZkC 200 _ _ _ b hb))) hr) ?_;rintro v' u' ⟨u2,q1,q2,q3⟩;refine⟨u2,?_,q2,q3⟩;rw[<-q1]
  cases hx:ev e p with
  |eptr b i sz off =>
   have hb:b∈Zw (args.map (ev e))++refs (ev e p):=by rw[hx];simp[refs]
   have hg:=hh b (Zr8 hb);unfold Ui;simp only;split
   .rfl
   .rw[<-hg]
    cases hd:gt h b with
    |det el sz es i off c =>
     simp only
     rw[Z2N (hh c (Zr9 hb (by rw[hd];simp[X4])))]
    |_=>rfl
  |_=>rfl
 |icall f args =>
  have e1:args.map (ev e')=args.map (ev e):=Ybe λx hx=>(he x (by simpa[Zv]using hx)).symm
  simp only[opR]at hr|-;rw[e1]
  exact ZkB (λb hb=>hh b (ZgV hb)) hr
 |pcall f args =>
  have e1:args.map (ev e')=args.map (ev e):=Ybe λx hx=>(he x (by simpa[Zv]using hx)).symm
  simp only[opR]at hr|-;rw[e1]
  exact Z2O (λb hb=>hh b (ZgV hb)) hr
 |dcall f args =>
  obtain⟨g,caps,hg,hr⟩:=hr;have e1:args.map (ev e')=args.map (ev e):=Ybe λx hx=>(he x (by simp[Zv,hx])).symm
  refine⟨g,caps,by rw[<-he f (by simp[Zv])];exact hg,?_⟩;rw[e1];refine ZkB (λb hb=>hh b (ZgV ?_)) hr;simp only[Uk,hg]
  exact hb
 |mov x =>
  change Zs h nx e (.mov x)=some (v,u)at hr;show Zs h' nx e' (.mov x)=some (v,u);simp only[Zs]at hr|-;rw[<-he x (by simp[Zv])]
  exact hr
 |_ =>
  show Zs h' nx e' _=some (v,u);rw[<-Z2K he (λx hx b hb=>hh b (Z29 (Y2.2 ⟨x,hx,rfl⟩) hb))];exact hr
section
variable{P:Program}{N:Par}{base:Nat}{w0:World}{nt:Nat}{ts:List (Array Value)}{inl:V2}{D D':Nat->Prop}{ρ:Map}{s:S}{a:Act}{w:World}{d:Option Nat}
structure RelD (N:Par) (base:Nat) (w0:World) (nt:Nat) (ts:List (Array Value)) (D:Nat->Prop) (ρ:Map) (s:S) (a:Act) (w:World):Prop where
 rel:Rel N base ρ s.h w
 env:ZX ρ w (Free N ρ s.h) s.env a.tmps
 stk:WS ρ w (Free N ρ s.h) s.stk ts
 dom:∀b,D b->ρ b=none
 defers:a.defers=[]
 size:a.tmps.size=nt
 below:Below base w0 w
 kn:∀g,g<w0.heap.size->¬N.a g->w.heap[g]?=w0.heap[g]?
 fz:∀g,g<w0.heap.size->N.z g->Free N ρ s.h g/\w.heap[g]?=w0.heap[g]?
theorem RelD.congr{s':S}(h:RelD N base w0 nt ts D ρ s a w)(hl:∀r,lk r s.env=lk r s'.env)(hg:∀b,gt s.h b=gt s'.h b)(hk:s.stk=s'.stk)(hD:∀b,D' b->D b) :
  RelD N base w0 nt ts D' ρ s' a w:=by
 refine⟨h.rel.congr hg,?_,?_,λb hb=>h.dom b (hD b hb),h.defers,h.size,h.below,h.kn,by rw[<-Free.congr hg];exact h.fz⟩
 .intro r;rw[<-hl,<-Free.congr hg];exact h.env r
 .rw[<-hk,<-Free.congr hg];exact h.stk
theorem RelD.after{ρ':Map}{w':World}(hS:RelD N base w0 nt ts D ρ s a w){v:AV}{u:List (Nat×Blk)}{val:Value}(hA:After N base ρ s.h w v u val w' ρ')(hd:∀x,d=some x->x<nt)
  (hD:∀b,D' b->D b/\b ∉ u.map Prod.fst):RelD N base w0 nt ts D' ρ' { s with env:=put d v s.env,h:=upd s.h u } (a.put d val) w':=by
 refine⟨hA.rel,ZgR (λs=>(hS.env s).keep hA.keeps) hA.val λx hx=>by rw[hS.size];exact hd x hx,hS.stk.keep hA.keeps,?_,by rw[ZgS];exact hS.defers,by rw[ZgT];exact hS.size,hS.below.trans hA.below,
  λg hg hn=>(hA.kn g (Yco hg hS.below.size) hn).trans (hS.kn g hg hn),λg hg hz=>?_⟩
 .intro b hb;exact hA.same b (hD b hb).2 (hS.dom b (hD b hb).1)
 .obtain⟨h1,h2⟩:=hS.fz g hg hz;obtain⟨h3,h4⟩:=hA.keeps.free g (Yco hg hS.below.size) h1;exact⟨h3,h4.trans h2⟩
theorem RelD.skip(hS:RelD N base w0 nt ts D ρ s a w)(hd:∀x,d=some x->x<nt) :
  RelD N base w0 nt ts D ρ { s with env:=put d (.tup []) s.env } (a.put d undef) w :=
 ⟨hS.rel,ZgR hS.env (RV.tup (c:=#[]) .nil) λx hx=>by rw[hS.size];exact hd x hx,hS.stk,hS.dom,by rw[ZgS];exact hS.defers,by rw[ZgT];exact hS.size,hS.below,hS.kn,hS.fz⟩
theorem J4{a b:V2}{x:Nat}(h:x∈a)(h':x∈b):QA a b=true:=by
 unfold QA;exact List.any_eq_true.2 ⟨x,h,by simpa using h'⟩
end
open Go.RowKit (Below)
section
variable{P:Program}{N:Par}{base:Nat}{w0:World}{nt:Nat}{ts:List (Array Value)}{inl:V2}
theorem ZrK{α β:Type}{f:α->Option β}:∀{l:List α} {os:List β},mapO f l=some os->∀{i:Nat} {o:α},l[i]?=some o->∃m,os[i]?=some m/\f o=some m
 |[],_,_,_,_,h=>by simp at h
 |x::l,os,hm,i,o,h=>by
  obtain⟨m,ms,h1,h2,rfl⟩:=Un hm
  cases i with
  |zero=>simp at h;subst h;exact⟨m,rfl,h1⟩
  |succ i =>
   obtain⟨m',h3,h4⟩:=ZrK h2 (i:=i) (o:=o) (by simpa using h);exact⟨m',by simpa using h3,h4⟩
theorem ZrL:∀{bs:List (V2)} {k:Nat},backB bs k=true->∀{j:Nat} {b:V2},bs[j]?=some b->∀i∈b,i<k+j
 |[],_,_,_,_,h=>by simp at h
 |x::bs,k,hb,j,b,h=>by
  simp only[backB,Ye,Yn,decide_eq_true_eq]at hb;intro i hi
  cases j with
  |zero=>simp at h;subst h;exact hb.1 i hi
  |succ j=>have:=ZrL hb.2 (j:=j) (b:=b) (by simpa using h) i hi;omega
theorem ZgY{listed:Array Bool}{i j:Nat}(hi:i<listed.size):(listed.setIfInBounds i true).getD j false=(listed.getD j false || decide (j=i)):=by
 simp only[Ycb,Array.getElem?_setIfInBounds];by_cases h:i=j
 .subst h;simp[hi]
 .have:¬j=i:=λe=>h e.symm
  simp[h,this]
variable{ops:Array Oper}{os:List MO}{tr:List Tr}{s0:S}{Qc:Exit->Act->World->Prop}
def domD(tr:List Tr)(s0:S)(L:Nat->Bool)(b:Nat):Prop:=s0.h.length<=b/\∀j t,tr[j]?=some t->L j=true->b ∉ t.u.map Prod.fst
theorem Z2R(hback:backB (ops.toList.map Wr) 0=true){listed:Array Bool}(hsz:listed.size=ops.size)(hr:Region.ready .any ops listed=[]):∀j,j<ops.size->listed.getD j false=true:=by
 intro j
 induction j using Nat.strongRecOn with
 |ind j ih =>
  intro hj
  cases hc:listed.getD j false with
  |true=>rfl
  |false =>
   exfalso;have hmem:j∈Region.ready .any ops listed:=by
    unfold Region.ready;refine Y0.2 ⟨Ybm.2 hj,?_⟩;have h1:listed.getD j true=false:=by
     rw[Ycb]at hc|-
     have:j<listed.size:=by omega
     simp[this]at hc|-;exact hc
    have h2:ops[j]?=some ops[j]:=by simp[hj]
    rw[h1,h2];simp only[Bool.not_false,Yy,Option.map_some,Option.getD_some];rw[Array.all_eq_true_iff_forall_mem];intro e he
    cases hb:Region.binds .any e with
    |false=>rfl
    |true =>
     simp only[Bool.not_true,Ydi];have hin:e.on∈Wr ops[j]:=by
      unfold Wr;refine Yb7.2 ⟨e,by simpa using he,by simp[hb]⟩
     have hlt:=ZrL hback (j:=j) (b:=Wr ops[j]) (by simp[hj]) e.on hin;exact ih e.on (by omega) (by omega)
   rw[hr]at hmem;cases hmem
theorem ZrM{K:S->Prop}(hQ:∀s a w ρ,K s->RelS N base w0 nt ts ρ s a w->Qc .normal a w)(hlen:tr.length=ops.size)(hK:K (Z3 (λ_=>true) 0 tr s0)){listed:Array Bool}(hall:∀j,j<ops.size->listed.getD j false=true)
  {ρ:Map} {a:Act} {w:World} (hS:RelD N base w0 nt ts (domD tr s0 (listed.getD · false)) ρ (Z3 (listed.getD · false) 0 tr s0) a w):Qc .normal a w:=by
 have hj:∀(j:Nat) (t:Tr),tr[j]?=some t->listed.getD (0+j) false=true:=by
  intro j t h;rw[Yq];refine hall j ?_;by_cases hx:j<tr.length
  .omega
  .rw[Yb2 (by omega)]at h;cases h
 have h1:=hS.congr (s':=Z3 (λ_=>true) 0 tr s0) (D':=domD tr s0 (listed.getD · false)) (λr=>ZdS r tr 0 _ _ (λj t h _=>hj j t h) rfl) (λb=>ZdT b tr 0 _ _ (λj t h _=>hj j t h) rfl) (by rw[ZdU,ZdU]) (λ_ h=>h);refine hQ _ a w ρ hK ⟨h1.rel,h1.env,h1.stk,?_,h1.defers,h1.size,h1.below,h1.kn,h1.fz⟩;intro b hb;have hl:=ZgX (L:=λ_=>true) tr 0 s0;refine h1.dom b ⟨by omega,?_⟩;intro j t h _ hin;have:=hl.2 j t h rfl b hin;omega
theorem drw_any(hos:mapO (compO P inl nt ops) ops.toList=some os)(hback:backB (ops.toList.map Wr) 0=true)(hst:Steps (Xg P) os tr s0)(hord:QB (ops.toList.map Wr) (tr.map (·.foot))=true)
  {K:S->Prop} (hQ:∀s a w ρ,K s->RelS N base w0 nt ts ρ s a w->Qc .normal a w) (hK:K (Z3 (λ_=>true) 0 tr s0)) :
  ∀(fuel:Nat) (listed:Array Bool) (a:Act) (w:World) (ρ:Map),listed.size=ops.size->listed.toList.count false<=fuel->
   (∀j b,(ops.toList.map Wr)[j]?=some b->listed.getD j false=true->∀i∈b,listed.getD i false=true)->
   RelD N base w0 nt ts (domD tr s0 (listed.getD · false)) ρ (Z3 (listed.getD · false) 0 tr s0) a w->wpAny P .any ops Qc fuel listed a w:=by
 obtain⟨hl1,hat⟩:=ZrH os tr s0 0 hst;have hlen:tr.length=ops.size:=by rw[hl1,ZgG hos];simp
 have hdst:∀(j:Nat) (t:Tr),tr[j]?=some t->(∀r,t.dst=some r->r∈t.foot.ws)/\t.u.map Prod.fst=t.foot.wb:=by
  intro j t h;have hj:j<os.length:=by
   by_cases hx:j<tr.length
   .omega
   .rw[Yb2 (by omega)]at h;cases h
  obtain⟨t',h1,h2,h3,_⟩:=hat j os[j] (by simp[hj]);rw[h]at h1;cases h1;rw[h3];exact⟨λr hr=>by simp[Wa,<-h2,hr],rfl⟩
 intro fuel
 induction fuel with
 |zero =>
  intro listed a w ρ hsz hc hcl hS;have hall:∀j,j<ops.size->listed.getD j false=true:=by
   intro j hj
   cases hx:listed.getD j false with
   |true=>rfl
   |false =>
    exfalso
    have:false∈listed.toList:=by
     rw[Ycb]at hx;have hj':j<listed.size:=by omega
     simp[hj']at hx;rw[<-hx];exact Array.getElem_mem_toList hj'
    have:=List.count_pos_iff.2 this;omega
  refine⟨?_,ZrM hQ hlen hK hall hS⟩;unfold Region.ready;refine Yd1.2 ?_;intro i hi;have hi':=Ybm.1 hi;have h1:=hall i hi';have h2:listed.getD i true=true:=by
   rw[Ycb]at h1|-
   have:i<listed.size:=by omega
   simp[this]at h1|-;exact h1
  simp[h2]
 |succ fuel ih =>
  intro listed a w ρ hsz hc hcl hS;refine⟨λhr=>ZrM hQ hlen hK (Z2R hback hsz hr) hS,?_⟩;intro i hi;unfold Region.ready at hi;obtain⟨hir,hcond⟩:=Y0.1 hi;have hin:i<ops.size:=Ybm.1 hir;have hil:i<listed.size:=by omega
  have hops:ops[i]?=some ops[i]:=by simp[hin]
  rw[hops]at hcond;simp only[Option.map_some,Option.getD_some,Ye,Bool.not_eq_true',Array.all_eq_true_iff_forall_mem]at hcond;obtain⟨hLt,haft⟩:=hcond;have hLi:listed.getD i false=false:=by
   rw[Ycb]at hLt|-;simp[hil]at hLt|-;exact hLt
  have hbef:∀j∈Wr ops[i],listed.getD j false=true:=by
   intro j hj;unfold Wr at hj;obtain⟨e,he,hj⟩:=Yb7.1 hj;have h1:=haft e (by simpa using he);split at hj
   .rename_i hb;cases hj;simpa[hb]using h1
   .cases hj
  -- the operation
  obtain⟨m,hm,hcm⟩:=ZrK hos (i:=i) (o:=ops[i]) (by simp[hin]);obtain⟨hk,hmd,hd,hguard⟩:=Zk4 hcm;obtain⟨t,ht,htd,htf,hstep⟩:=hat i m hm
  -- the new list
  have hcl':∀(j:Nat) (b:V2),(ops.toList.map Wr)[j]?=some b->(listed.setIfInBounds i true).getD j false=true->∀x∈b,(listed.setIfInBounds i true).getD x false=true:=by
   intro j b hb hj x hx;rw[ZgY hil]at hj|-;by_cases hji:j=i
   .subst hji
    have:b=Wr ops[j]:=by simp[hin]at hb;exact hb.symm
    subst this;rw[hbef x hx];rfl
   .simp only[hji,decide_false,Bool.or_false]at hj;rw[hcl j b hb hj x hx];rfl
  -- who is in Ul
  have low:∀(j:Nat) (t':Tr),tr[j]?=some t'->j<i->Ul t'.foot t.foot=true->listed.getD j false=true:=by
   intro j t' hj hlt hcf;obtain⟨c,h1,h2⟩:=ZrJ hord (i:=j) (j:=i) (f:=t'.foot) (g:=t.foot) (by simp[hj]) (by simp[ht]) hlt hcf;have h3:=ZkA (L:=λj=>(listed.setIfInBounds i true).getD j false) (ops.toList.map Wr) [] (λj b hb hL=>hcl' j b hb (by simpa using hL)) (by simp) i c h1 (by simp only[ZgY hil,decide_true,Bool.or_true]) j h2;simp only[ZgY hil]at h3
   have:¬j=i:=by omega
   simpa[this]using h3
  have high:∀(j:Nat) (t':Tr),tr[j]?=some t'->i<j->Ul t.foot t'.foot=true->listed.getD j false=true->False:=by
   intro j t' hj hlt hcf hL;obtain⟨c,h1,h2⟩:=ZrJ hord (i:=i) (j:=j) (f:=t.foot) (g:=t'.foot) (by simp[ht]) (by simp[hj]) hlt hcf;have h3:=ZkA (L:=λj=>listed.getD j false) (ops.toList.map Wr) [] (λj b hb hL=>hcl j b hb (by simpa using hL)) (by simp) j c h1 hL i h2;simp only[hLi]at h3;cases h3
  -- what it looks at stands as in the text's order
  have hlk:∀r∈t.foot.rs,lk r (Z3 (λj=>decide (j<0+i)) 0 tr s0).env=lk r (Z3 (listed.getD · false) 0 tr s0).env:=by
   intro r hr;refine ZdS r tr 0 _ _ (λj t' hj hd'=>?_) rfl;have hw:=(hdst j t' hj).1 r hd';rcases Ydh j i with hlt|rfl|hgt
   .rw[Yq,Yq,low j t' hj hlt (by simp[Ul,J4 hw (Ydb t.foot.ws hr)])];simpa using hlt
   .rw[Yq,hLi];simp
   .rw[Yq,Yq]
    cases hx:listed.getD j false with
    |true=>exact(high j t' hj hgt (by simp[Ul,J4 hw hr]) hx).elim
    |false=>simp;omega
  have hgt':∀b∈t.foot.rb,gt (Z3 (λj=>decide (j<0+i)) 0 tr s0).h b=gt (Z3 (listed.getD · false) 0 tr s0).h b:=by
   intro b hb;refine ZdT b tr 0 _ _ (λj t' hj hd'=>?_) rfl;have hw:b∈t'.foot.wb:=by rw[<-(hdst j t' hj).2];exact hd'
   rcases Ydh j i with hlt|rfl|hgt
   .rw[Yq,Yq,low j t' hj hlt (by simp[Ul,J4 hw (Ydb t.foot.wb hb)])];simpa using hlt
   .rw[Yq,hLi];simp
   .rw[Yq,Yq]
    cases hx:listed.getD j false with
    |true=>exact(high j t' hj hgt (by simp[Ul,J4 hw hb]) hx).elim
    |false=>simp;omega
  have hLfun:(λj=>(listed.setIfInBounds i true).getD j false)=(λj=>listed.getD j false || decide (j=i)):=by
   funext j;exact ZgY hil
  have hins:=ZrI (L:=λj=>listed.getD j false) (i:=i) (t:=t) hLi tr 0 s0 ⟨i,by omega,ht⟩;have hcount:(listed.setIfInBounds i true).toList.count false<=fuel:=by
   rw[Yd9,List.count_set (by simpa using hil)];have hx:listed.toList[i]'(by simpa using hil)=false:=by
    rw[Ycb]at hLi;simpa[hil]using hLi
   rw[hx];simp
   have:0<listed.toList.count false:=List.count_pos_iff.2 (by rw[<-hx];exact Yh _)
   simp at this hc;omega
  -- the state behind it
  have next:∀a' w' ρ',RelD N base w0 nt ts (domD tr s0 λj=>listed.getD j false || decide (j=i)) ρ' (appT t (Z3 (listed.getD · false) 0 tr s0)) a' w'->wpAny P .any ops Qc fuel (listed.setIfInBounds i true) a' w':=by
   intro a' w' ρ' hR;refine ih _ a' w' ρ' (by simpa using hsz) hcount hcl' ?_;rw[hLfun];refine hR.congr (λr=>(hins.1 ?_ r).symm) (λb=>(hins.2 ?_ b).symm) (by rw[ZdU];exact ZdU tr 0 s0) (λ_ h=>h)
   .intro r hr j t' hj hlt hL hd';rw[Yq]at hlt hL;exact high j t' hj hlt (by simp[Ul,J4 ((hdst i t ht).1 r hr) (Ydc t'.foot.rs ((hdst j t' hj).1 r hd'))]) hL
   .intro b hb j t' hj hlt hL hd';rw[Yq]at hlt hL;have hb1:b∈t.foot.wb:=by rw[<-(hdst i t ht).2];exact hb
    have hb2:b∈t'.foot.wb:=by rw[<-(hdst j t' hj).2];exact hd'
    exact high j t' hj hlt (by simp[Ul,J4 hb1 (Ydc t'.foot.rb hb2)]) hL
  have hrs:∀x∈Zv m.op,∀r∈Zg5 x,r∈t.foot.rs:=by
   intro x hx r hr;rw[htf];simp only[Wa];exact Ydb _ (Ybv.2 ⟨x,hx,hr⟩)
  have hgs:∀g b,m.guard=some (g,b)->g∈t.foot.rs:=by
   intro g b hg;rw[htf];simp only[Wa,hg];exact Ydc _ (by simp)
  have he:∀x∈Zv m.op,ev (Z3 (λj=>decide (j<0+i)) 0 tr s0).env x=ev (Z3 (listed.getD · false) 0 tr s0).env x:=by
   intro x hx
   cases x with
   |c v=>rfl
   |s r=>exact hlk r (hrs _ hx r (by simp[Zg5]))
  have hh:∀b∈rbOf m.op (Z3 (λj=>decide (j<0+i)) 0 tr s0).h (Z3 (λj=>decide (j<0+i)) 0 tr s0).env,gt (Z3 (λj=>decide (j<0+i)) 0 tr s0).h b=gt (Z3 (listed.getD · false) 0 tr s0).h b:=by
   intro b hb;refine hgt' b ?_;rw[htf];exact hb
  have hlI:=ZgX (L:=λj=>decide (j<0+i)) tr 0 s0;have hlT:=ZgX (L:=λ_=>true) tr 0 s0;have hu:∀b,b∈t.u.map Prod.fst->(Z3 (λj=>decide (j<0+i)) 0 tr s0).h.length<=b->ρ b=none:=by
   intro b hb hle;refine hS.dom b ⟨by omega,?_⟩;intro j t' hj hL hin';have hw:b∈t'.foot.wb:=by rw[<-(hdst j t' hj).2];exact hin'
   have hb':b∈t.foot.wb:=by rw[<-(hdst i t ht).2];exact hb
   rcases Ydh j i with hlt|rfl|hgt
   .have:=hlI.2 j t' hj (by simpa using hlt) b hin';omega
   .simp only[hLi]at hL;cases hL
   .exact high j t' hj hgt (by simp[Ul,J4 hb' (Ydc t'.foot.rb hw)]) hL
  have hDnew:∀b,domD tr s0 (λj=>listed.getD j false || decide (j=i)) b->domD tr s0 (listed.getD · false) b/\b ∉ t.u.map Prod.fst:=by
   intro b hb;refine⟨⟨hb.1,λj t' hj hL=>hb.2 j t' hj (by simp only at hL|-;rw[hL];rfl)⟩,hb.2 i t ht (by simp)⟩
  have hrun:opR (Xg P) (Z3 (λj=>decide (j<0+i)) 0 tr s0).h (Z3 (λj=>decide (j<0+i)) 0 tr s0).h.length (Z3 (λj=>decide (j<0+i)) 0 tr s0).env m.op t.v t.u->
    (ops[i]).wp P a w (wpAny P .any ops Qc fuel (listed.setIfInBounds i true)) Qc:=by
   intro hop;have hop':=Z2Q he hh hop;have fin:∀val w' ρ',After N base ρ (Z3 (listed.getD · false) 0 tr s0).h w t.v t.u val w' ρ'->wpAny P .any ops Qc fuel (listed.setIfInBounds i true) (a.put (ops[i]).dst val) w':=by
    intro val w' ρ' hA;refine next _ _ ρ' ?_
    have:=hS.after hA (d:=(ops[i]).dst) hd hDnew;rw[<-hmd,<-htd]at this|-;exact this
   by_cases hcall:isC m.op
   .exact ZdN hk hS.env hS.rel (.inl hcall) hu hop' fin
   .by_cases hnx:(Z3 (λj=>decide (j<0+i)) 0 tr s0).h.length∈t.u.map Prod.fst
    .exact ZdN hk hS.env hS.rel (.inr (hu _ hnx (Yg _))) hu hop' fin
    .have hM:opR (Xg P) (Z3 (listed.getD · false) 0 tr s0).h (Z3 (λ_=>true) 0 tr s0).h.length (Z3 (listed.getD · false) 0 tr s0).env m.op t.v t.u:=by
      cases hmop:m.op with
      |call f args=>rw[hmop]at hcall;exact absurd trivial hcall
      |xcall f args=>rw[hmop]at hcall;exact absurd trivial hcall
      |fcall f args=>rw[hmop]at hcall;exact absurd trivial hcall
      |scall f args p=>rw[hmop]at hcall;exact absurd trivial hcall
      |icall f args=>rw[hmop]at hcall;exact absurd trivial hcall
      |pcall f args=>rw[hmop]at hcall;exact absurd trivial hcall
      |dcall f args=>rw[hmop]at hcall;exact absurd trivial hcall
      |_=>rw[hmop]at hop';exact Z2L hop' hnx _
     refine ZdN hk hS.env hS.rel (nx:=(Z3 (λ_=>true) 0 tr s0).h.length) (.inr ?_) ?_ hM fin
     .refine hS.dom _ ⟨hlT.1,?_⟩;intro j t' hj _ hin';have:=hlT.2 j t' hj rfl _ hin';omega
     .intro b hb hle;have:=hlT.2 i t ht rfl b hb;omega
  have hskip:t.v=.tup []->t.u=[]->wpAny P .any ops Qc fuel (listed.setIfInBounds i true) (a.put (ops[i]).dst undef) w:=by
   intro hv hu0;refine next _ _ ρ ?_
   have:=(hS.skip (d:=(ops[i]).dst) hd).congr (D':=domD tr s0 λj=>listed.getD j false || decide (j=i)) (s':=appT t (Z3 (listed.getD · false) 0 tr s0)) (λr=>by rw[<-hmd,<-htd];simp[appT,hv]) (λb=>by simp[appT,hu0,upd]) rfl (λb hb=>(hDnew b hb).1);exact this
  unfold wpOp;rw[hops];simp only;rcases hguard with⟨hg1,hg2⟩|⟨j,b,d,hg1,hg2,hg3⟩
  .simp only[Region.wanted,hg1,if_true];rcases hstep with⟨_,hop⟩|⟨⟨g,b,hg,_⟩,_,_⟩
   .exact .inl (hrun hop)
   .rw[hg2]at hg;cases hg
  .have hw:=Zk5 hS.env hg1 hg2;have hlkd:=hlk d (hgs d b hg3);rcases hstep with⟨hgr,hop⟩|⟨⟨g,b',hg,hsk⟩,hv,hu0⟩
   .rcases hgr with hgn|⟨g,b',hg,hb'⟩
    .rw[hg3]at hgn;cases hgn
    .rw[hg3]at hg;cases hg;rw[hlkd]at hb';rw[hw.1 b hb'];simp only[decide_true,if_true];exact .inl (hrun hop)
   .rw[hg3]at hg;cases hg;rw[hlkd]at hsk;rcases hsk with hsk|⟨c,hc',hne⟩
    .rw[hw.2 hsk];simp only[Y7,if_false];exact hskip hv hu0
    .rw[hw.1 c hc'];simp only[hne,decide_false,Y7,if_false];exact hskip hv hu0
theorem RelS.drew{ρ:Map}{s:S}{a:Act}{w:World}(hS:RelS N base w0 nt ts ρ s a w):RelS N base w0 nt ts ρ s a { w with drawn:=w.drawn+1 }:=by
 have hk:Keeps ρ w (Free N ρ s.h) ρ { w with drawn:=w.drawn+1 } (Free N ρ s.h):=⟨λ_ r h=>⟨r,h,rfl⟩,λ_ _ h=>⟨h,rfl⟩⟩;have hb:Below base w { w with drawn:=w.drawn+1 }:=⟨rfl,rfl,rfl,Yg _,λ_ _=>rfl⟩;obtain⟨R,hE,hst,hdom,hdf,hsz,hB,hkn,hfz⟩:=hS;obtain⟨h1,h2,h0,h3,h4,h5⟩:=R;refine⟨⟨h1,h2,h0,?_,h4,h5⟩,λs=>(hE s).keep hk,hst.keep hk,hdom,hdf,hsz,hB.trans hb,hkn,hfz⟩;intro b hne;obtain⟨r,q1,q2⟩:=h3 b hne;exact⟨r,q1,q2.keep hk λ_ _=>rfl⟩
theorem ZrN{Γ:Ctr}(hΓ:Γ=Xg P){ops:Array Oper}{os:List MO}(hos:mapO (compO P inl nt ops) ops.toList=some os)(hback:backB (ops.toList.map Wr) 0=true)(hmix:P.follows .mixedOrders=true)
  {Qc:Exit->Act->World->Prop} {K:S->Prop} (hQ:∀s a w ρ,K s->RelS N base w0 nt ts ρ s a w->Qc .normal a w) {id:Nat} {s:S} {a:Act} {w:World} {ρ:Map}
  (hW:drwW Γ os s [] λfeet s'=>QB (ops.toList.map Wr) feet=true/\K s') (hS:RelS N base w0 nt ts ρ s a w):(Code.region id ops true).wp P Qc a w:=by
 obtain⟨tr,hst,hord,hK⟩:=ZrG os s [] _ 0 hW;rw[hΓ]at hst;rw[Ybk]at hord;refine wp_region_any hmix ?_;have hD:=hS.drew;have hf:∀j,(Array.replicate ops.size false).getD j false=false:=by
  intro j;rw[Ycb];by_cases h:j<ops.size<;>simp[h]
 have hfun:(λj=>(Array.replicate ops.size false).getD j false)=λ_=>false:=funext hf
 refine drw_any hos hback hst hord hQ hK ops.size _ a _ ρ (by simp) ?_ ?_ ?_
 .simp
 .intro j b _ h;rw[hf]at h;cases h
 .rw[hfun,ZdQ tr 0 s (λ_ _=>rfl)];exact⟨hD.rel,hD.env,hD.stk,λb hb=>hD.dom b hb.1,hD.defers,hD.size,hD.below,hD.kn,hD.fz⟩
end
end Go.AM
