/-
  Parts of the proofs for this seat: AMFz AMSound AMCall AMCode AMFrame AMDraw AMDraw2 AMTop.
-/
import Derived.Deep.LoopGhost
import Derived.Orders
import Derived.Test.YtooakifnnhhnhaaGreatP2
set_option linter.unusedSimpArgs false
set_option linter.unusedVariables false
namespace Go.AM
open Go.RowKit (Below)
section
variable{P:Program}{N:Par}{base:Nat}{ρ:Map}{h:List Blk}{w:World}{v d:AV}{val:Value}
theorem xarr_TRA(R:Rel N base ρ h w){b:Nat}{r:Root}(hr:ρ b=some r){el sz:Nat}{es:List (List T)}(hb:gt h b=.xarr el sz es):∃fp,TR w (.lst sz es) r.v fp/\∀g∈fp,Zbi r g:=by
 have hd:gt h b≠.dead:=by rw[hb];intro hc;cases hc
 obtain⟨r',h1,h2⟩:=R.blk b hd;rw[hr]at h1;cases h1;rw[hb]at h2;obtain⟨e',xs,_,hown,hsz,hl,ht,_⟩:=h2;by_cases hz:es=[]
 .subst hz;refine⟨[],?_,λg hg=>by cases hg⟩;rcases hown.2 with⟨hv,_⟩|⟨g,cap,cur,hv,_⟩<;>rw[hv]<;>exact .lst0 _ _ _
 .rcases hown.2 with⟨_,hz'⟩|⟨g,cap,cur,hv,hbg,hg,hcap,_,hcs',htake⟩
  .exact absurd (Ybn hz') hz
  .refine⟨g::r.ex,?_,?_⟩
   .rw[hv];refine .lst hz hsz hcap hg hl ?_;rw[Yu,htake];exact ht
   .intro x hx
    cases hx with
    |head=>exact .inl (by rw[hv];rfl)
    |tail _ hx=>exact .inr hx
theorem Z1d(R:Rel N base ρ h w){x:T}(hf:frzT h v=some x)(hv:RV ρ w (Free N ρ h) v val):∃fp,TR w x val fp/\∀g∈fp,N.a g:=by
 cases v<;>try (simp[frzT]at hf;done)
 .simp[frzT]at hf;subst hf
  cases hv with
  |t hT hf=>exact⟨_,hT,λg hg=>(hf g hg).1⟩
 .rename_i b;simp only[frzT]at hf;split at hf
  .rename_i el sz fr es hb;cases hf
   cases hv with
   |own hr hone =>
    have hd:gt h b≠.dead:=by rw[hb];intro hc;cases hc
    obtain⟨fp,hT,_,hg,_⟩:=Zpp R hr hb;obtain⟨r',h1,h2⟩:=R.blk b hd;rw[hr]at h1;cases h1;rw[hb]at h2;obtain⟨_,_,_,_,_,_,_,_,hfree,_⟩:=h2;exact⟨fp,hT,λg hg'=>(hg g hg').elim (λq=>(R.hO b _ g hr hd (.inl q)).1) λq=>(hfree g q).1⟩
  .rename_i el sz es hb;cases hf
   cases hv with
   |own hr hone =>
    have hd:gt h b≠.dead:=by rw[hb];intro hc;cases hc
    obtain⟨fp,hT,hg⟩:=xarr_TRA R hr hb;exact⟨fp,hT,λg hg'=>(R.hO b _ g hr hd (hg g hg')).1⟩
  .cases hf
theorem Z1e(R:Rel N base ρ h w):∀{cs:List AV} {ts:List T} {vs:List Value},Zdu h cs=some ts->RVs ρ w (Free N ρ h) cs vs->∃fp,TRs w ts vs fp/\∀g∈fp,N.a g
 |[],ts,vs,hg,hv=>by simp[Zdu]at hg;subst hg;cases hv;exact⟨[],.nil,λg hg=>by cases hg⟩
 |c::cs,ts,vs,hg,hv=>by
  cases hv with
  |cons h1 h2 =>
   simp only[Zdu]at hg;split at hg
   .rename_i x xs hx hxs;cases hg;obtain⟨fp,h3,h4⟩:=Z1d R hx h1;obtain⟨fq,h5,h6⟩:=Z1e R hxs h2;exact⟨fp++fq,.cons h3 h5,λg hg=>(Yg.1 hg).elim (h4 g) (h6 g)⟩
   .cases hg
theorem Z1f(R:Rel N base ρ h w)(hp:givA v=true)(hf:frz h v=some d)(hv:RV ρ w (Free N ρ h) v val):RV (λ_=>none) w N.a d val:=by
 cases v<;>try (simp[givA]at hp;done)
 .simp[frz,frz1]at hf;subst hf
  cases hv with
  |t hT hf=>exact .t hT λg hg=>(hf g hg).1
 .rename_i cs;simp only[frz,frz1]at hf;split at hf
  .rename_i ds hds;cases hf
   cases hv with
   |agg hc h1 =>
    obtain⟨fp,h3,h4⟩:=Z1e R hds hc;exact .agg (RVs.of_TRs h3 h4) h1
  .cases hf
 .rename_i b;have hv':=hv
  have:∃x,frzT h (.own b)=some x/\d=.t x:=by
   simp only[frz,frz1]at hf;simp only[frzT];split at hf
   .cases hf;exact⟨_,rfl,rfl⟩
   .cases hf;exact⟨_,rfl,rfl⟩
   .cases hf
  obtain⟨x,hx,rfl⟩:=this;obtain⟨fp,h3,h4⟩:=Z1d R hx hv';exact .t h3 h4
theorem Z1g(R:Rel N base ρ h w):∀{vs ds:List AV} {vals:List Value},vs.all givA=true->frzs h vs=some ds->RVs ρ w (Free N ρ h) vs vals->RVs (λ_=>none) w N.a ds vals
 |[],ds,vals,_,hf,hv=>by simp[frzs]at hf;subst hf;cases hv;exact .nil
 |v::vs,ds,vals,hp,hf,hv=>by
  simp only[Y3,Yf]at hp
  cases hv with
  |cons h1 h2 =>
   simp only[frzs]at hf;split at hf
   .rename_i x xs hx hxs;cases hf;exact .cons (Z1f R hp.1 hx h1) (Z1g R hp.2 hxs h2)
   .cases hf
theorem Zbf7(R:Rel N base ρ h w)(hf:frzR h v=some d)(hv:RV ρ w (Free N ρ h) v val):RV (λ_=>none) w N.a d val:=by
 unfold frzR at hf;split at hf
 .split at hf
  .rename_i hg;split at hf
   .rename_i ds hds;cases hf
    cases hv with
    |tup hc=>exact .tup (Z1g R hg hds hc)
   .cases hf
  .cases hf
 .split at hf
  .rename_i hg;exact Z1f R hg hf hv
  .cases hf
end
open Go.RowKit (Below)
abbrev Zcd:Map:=λ_=>none
def Zbq(P:Program):Ctr:=λf args h0 r h1=>Ze0 P f=true/\∀(N:Par) (base:Nat) (w:World) (ρ:Map) (vs:Array Value),Rel N base ρ h0 w->(∀b,h0.length<=b->ρ b=none)->
 RVs ρ w (Free N ρ h0) args vs.toList->(∀g,N.z g->Free N ρ h0 g)->
 Calls P f vs w λe w'=>∃v ρ',e=.returned v/\Below base w w'/\Rel N base ρ' h1 w'/\RV ρ' w' (Free N ρ' h1) r v/\(∀b,h1.length<=b->ρ' b=none)/\h0.length<=h1.length/\
  (∀g,g<w.heap.size->¬N.a g->w'.heap[g]?=w.heap[g]?)/\(∀g,g<w.heap.size->N.z g->Free N ρ' h1 g/\w'.heap[g]?=w.heap[g]?)/\
  ∀b r0,b<h0.length->ρ b=some r0->∃r1,ρ' b=some r1/\r1.v=r0.v
theorem Rel.empty{N:Par}{base:Nat}{w:World}(hb:base<=w.heap.size)(hN:∀g,w.heap.size<=g->N.a g/\N.f g):Rel N base Zcd [] w :=
 ⟨hb,hN,λb r g hr=>(by cases hr),λb hb=>absurd (by simp[gt]) hb,λb b' r r' g hb=>(by cases hb),λb b' r r' g hb=>(by cases hb)⟩
theorem Zbq.data{P:Program}{f:Nat}{args:List AV}{r:AV}{hr:List Blk}(h:Zbq P f args [] r hr)(w:World)(A:Nat->Prop)(vs:Array Value)(hv:RVs Zcd w A args vs.toList) :
  Calls P f vs w λe w'=>∃v ρ,e=.returned v/\Below w.heap.size w w'/\Rel (calP w A) w.heap.size ρ hr w'/\RV ρ w' (Free (calP w A) ρ hr) r v/\∀b,hr.length<=b->ρ b=none:=by
 have hk:Keeps Zcd w A Zcd w (Free (calP w A) Zcd []):=⟨λb r hb=>(by cases hb),λg _ hg=>⟨⟨.inr hg,λb r hb=>(by cases hb)⟩,rfl⟩⟩;refine(h.2 (calP w A) w.heap.size w Zcd vs (.empty (Yh _) λg hg=>⟨.inl hg,hg⟩) (λ_ _=>rfl) (hv.keep hk) (λg hg=>hg.elim)).mono ?_;rintro e w' ⟨v,ρ,rfl,h1,h2,h3,h4,_⟩;exact⟨v,ρ,rfl,h1,h2,h3,h4⟩
section
variable{P:Program}{N:Par}{base:Nat}{ρ:Map}{h:List Blk}{w:World}{e:Env}{a:Act}{inl:List Nat}{ops:Array Oper}{F:Nat->Prop}{f:Nat}{v d r:AV}{val:Value}{vs as:List AV}{o:Oper}{vals:Array Value}{hr:List Blk}{K:Act->World->Prop}{Q:Exit->Act->World->Prop}
theorem frzT_rel(R:Rel N base ρ h w){x:T}(hf:frzT h v=some x)(hv:RV ρ w (Free N ρ h) v val)(hF:(refs v=[]/\∀g,Free N ρ h g->F g)\/∀g,F g):∃fp,TR w x val fp/\∀g∈fp,F g:=by
 cases v<;>try (simp[frzT]at hf;done)
 .simp[frzT]at hf;subst hf
  cases hv with
  |t hT hf=>exact⟨_,hT,λg hg=>hF.elim (λh2=>h2.2 g (hf g hg)) λh2=>h2 g⟩
 .rename_i b;simp only[frzT]at hf;split at hf
  .rename_i el sz fr es hb;cases hf;rcases hF with hF|hF
   .simp[refs]at hF
   .cases hv with
    |own hr hone =>
     obtain⟨fp,hT,_,_⟩:=Zpp R hr hb;exact⟨fp,hT,λg _=>hF g⟩
  .rename_i el sz es hb;cases hf;rcases hF with hF|hF
   .simp[refs]at hF
   .cases hv with
    |own hr hone =>
     obtain⟨fp,hT⟩:=Z08 R hr hb;exact⟨fp,hT,λg _=>hF g⟩
  .cases hf
theorem Zt7{F:Nat->Prop}(R:Rel N base ρ h w):∀{cs:List AV} {ts:List T} {vs:List Value},Zdu h cs=some ts->RVs ρ w (Free N ρ h) cs vs->((Zv cs=[]/\∀g,Free N ρ h g->F g)\/∀g,F g)->∃fp,TRs w ts vs fp/\∀g∈fp,F g
 |[],ts,vs,hg,hv,_=>by simp[Zdu]at hg;subst hg;cases hv;exact⟨[],.nil,λg hg=>by cases hg⟩
 |c::cs,ts,vs,hg,hv,hF=>by
  cases hv with
  |cons h1 h2 =>
   simp only[Zdu]at hg;split at hg
   .rename_i x xs hx hxs;cases hg;obtain⟨fp,h3,h4⟩:=frzT_rel R hx h1 (hF.imp (λ⟨q1,q2⟩=>⟨by simp[Zv]at q1;exact q1.1,q2⟩) id);obtain⟨fq,h5,h6⟩:=Zt7 R hxs h2 (hF.imp (λ⟨q1,q2⟩=>⟨by simp[Zv]at q1;exact q1.2,q2⟩) id);exact⟨fp++fq,.cons h3 h5,λg hg=>(Yg.1 hg).elim (h4 g) (h6 g)⟩
   .cases hg
theorem Z1h(R:Rel N base ρ h w)(hf:frz1 h v=some d)(hv:RV ρ w (Free N ρ h) v val)(hF:(refs v=[]/\∀g,Free N ρ h g->F g)\/∀g,F g):RV Zcd w F d val:=by
 cases v<;>try (simp[frz1]at hf;done)
 .simp[frz1]at hf;subst hf;cases hv;exact .nilp
 .simp[frz1]at hf;subst hf
  cases hv with
  |t hT hf=>exact .t hT λg hg=>hF.elim (λh2=>h2.2 g (hf g hg)) λh2=>h2 g
 .rename_i cs;simp only[frz1]at hf;split at hf
  .rename_i ds hds;cases hf
   cases hv with
   |agg hc h1 =>
    obtain⟨fp,h3,h4⟩:=Zt7 R hds hc (hF.imp (λ⟨q1,q2⟩=>⟨by simpa[refs]using q1,q2⟩) id);exact .agg (RVs.of_TRs h3 h4) h1
  .cases hf
 .rename_i b off;simp only[frz1]at hf;split at hf
  .rename_i cs hb;split at hf
   .rename_i ts hts;cases hf;rcases hF with hF|hF
    .simp[refs]at hF
    .cases hv with
     |ptr hr hv =>
      obtain⟨r',h1,h2⟩:=R.blk b (by rw[hb];intro hc;cases hc);rw[hr]at h1;cases h1;rw[hb]at h2;obtain⟨hx0,g',c,te,hv2,_,hh,hcs,hone⟩:=h2;rw[hv]at hv2;cases hv2;obtain⟨fp,h3,h4⟩:=Zt7 R hts hcs (.inr hF);have hl:ts.length=c.toList.length:=h3.length;have:=RV.iptr (ρ:=Zcd) (F:=F) (o:=0) (off:=off) hh (hF _) (by rw[Yu,hl,Yo];exact h3) (λg _=>hF g);simpa using this
   .cases hf
  .cases hf
 .simp[frz1]at hf;subst hf
  cases hv with
  |iptr hg hF' hc hf=>exact .iptr hg (hF.elim (λh2=>h2.2 _ hF') λh2=>h2 _) hc λg hg=>hF.elim (λh2=>h2.2 g (hf g hg)) λh2=>h2 g
 .rename_i b;simp only[frz1]at hf;split at hf
  .rename_i el sz fr es hb;cases hf;rcases hF with hF|hF
   .simp[refs]at hF
   .cases hv with
    |own hr hone =>
     obtain⟨fp,hT,_,_⟩:=Zpp R hr hb;exact .t hT λg _=>hF g
  .rename_i el sz es hb;cases hf;rcases hF with hF|hF
   .simp[refs]at hF
   .cases hv with
    |own hr hone =>
     obtain⟨fp,hT⟩:=Z08 R hr hb;exact .t hT λg _=>hF g
  .cases hf
theorem Z1i{F:Nat->Prop}(R:Rel N base ρ h w):∀{vs ds:List AV} {vals:List Value},Zfo h vs=some ds->RVs ρ w (Free N ρ h) vs vals->((Zv vs=[]/\∀g,Free N ρ h g->F g)\/∀g,F g)->RVs Zcd w F ds vals
 |[],ds,vals,hf,hv,_=>by simp[Zfo]at hf;subst hf;cases hv;exact .nil
 |v::vs,ds,vals,hf,hv,hF=>by
  cases hv with
  |cons h1 h2 =>
   simp only[Zfo]at hf;split at hf
   .rename_i x xs hx hxs;cases hf;exact .cons (Z1h R hx h1 (hF.imp (λ⟨q1,q2⟩=>⟨by simp[Zv]at q1;exact q1.1,q2⟩) id)) (Z1i R hxs h2 (hF.imp (λ⟨q1,q2⟩=>⟨by simp[Zv]at q1;exact q1.2,q2⟩) id))
   .cases hf
theorem frz_rel(R:Rel N base ρ h w)(hf:frz h v=some d)(hv:RV ρ w (Free N ρ h) v val)(hF:(refs v=[]/\∀g,Free N ρ h g->F g)\/∀g,F g):RV Zcd w F d val:=by
 by_cases hx:∃g cs,v=.fn g cs
 .obtain⟨g,cs,rfl⟩:=hx;simp only[frz]at hf;split at hf
  .rename_i ds hds;cases hf
   cases hv with
   |fn hc=>exact .fn (Z1i R hds hc (hF.imp (λ⟨q1,q2⟩=>⟨by simpa[refs]using q1,q2⟩) id))
  .cases hf
 .have:frz h v=frz1 h v:=by
   cases v<;>first|rfl|exact absurd ⟨_,_,rfl⟩ hx
  rw[this]at hf;exact Z1h R hf hv hF
theorem Zpy(R:Rel N base ρ h w){ds:List AV}{vals:List Value}(hf:frzs h vs=some ds)(hv:RVs ρ w (Free N ρ h) vs vals)(hF:(Zv vs=[]/\∀g,Free N ρ h g->F g)\/∀g,F g):RVs Zcd w F ds vals:=by
 induction vs generalizing ds vals with
 |nil=>simp[frzs]at hf;subst hf;cases hv;exact .nil
 |cons v vs ih =>
  cases hv with
  |cons h1 h2 =>
   simp only[frzs]at hf;split at hf
   .rename_i x xs hx hxs;cases hf;exact .cons (frz_rel R hx h1 (hF.imp (λ⟨q1,q2⟩=>⟨by simp[Zv]at q1;exact q1.1,q2⟩) id)) (ih hxs h2 (hF.imp (λ⟨q1,q2⟩=>⟨by simp[Zv]at q1;exact q1.2,q2⟩) id))
   .cases hf
theorem Z1j(hc:Ze0 P f=true)(args:Array Value)(w:World):(callFunc f args).run P w=.ok (.enter f args) w:=by
 unfold Ze0 at hc;split at hc
 .rename_i fn hfn;simp only[Yf,bne_iff_ne,ne_eq]at hc
  cases hb:fn.body with
  |none=>simp[hb]at hc
  |some c=>simp[callFunc,hfn,hc.2,hb]
 .cases hc
def opR(Γ:Ctr)(h:List Blk)(nx:Nat)(e:Env)(k:MOp)(v:AV)(u:List (Nat×Blk)):Prop:=match k with
 |.call f args=>∃as,frzs h (args.map (ev e))=some as/\∃r hr,Γ f as [] r hr/\(Zc0 (args.map (ev e)) || frR r hr)=true/\v=shift nx r/\u=newU nx hr 0
 |.xcall f args=>∃as,frzs h (args.map (ev e))=some as/\∃r hr,Γ f as [] r hr/\frR r hr=true/\v=shift nx r/\u=newU nx (hr.map xB) 0
 |.fcall f args=>∃as,frzs h (args.map (ev e))=some as/\Zc0 (args.map (ev e))=true/\∃r hr,Γ f as [] r hr/\frzR hr r=some v/\u=[]
 |.icall f args=>Zb2 Γ f (args.map (ev e)) h nx λv' u'=>v=v'/\u=u'
 |.scall f args p=>Zb2 Γ f (args.map (ev e)) h nx λv' u'=>∃u2,Zfa h u' (ev e p)=some u2/\v=v'/\u=u'++u2
 |.pcall f args=>Zfb Γ f (args.map (ev e)) h nx λv' u'=>v=v'/\u=u'
 |.dcall f args=>∃g caps,ev e f=.fn g caps/\Zb2 Γ g (args.map (ev e)++caps) h nx λv' u'=>v=v'/\u=u'
 |k=>Zs h nx e k=some (v,u)
structure After (N:Par) (base:Nat) (ρ:Map) (h:List Blk) (w:World) (v:AV) (u:List (Nat×Blk)) (val:Value) (w':World) (ρ':Map):Prop where
 val:RV ρ' w' (Free N ρ' (upd h u)) v val
 rel:Rel N base ρ' (upd h u) w'
 keeps:Keeps ρ w (Free N ρ h) ρ' w' (Free N ρ' (upd h u))
 same:∀b,b ∉ u.map Prod.fst->ρ b=none->ρ' b=none
 below:Below base w w'
 kn:∀g,g<w.heap.size->¬N.a g->w'.heap[g]?=w.heap[g]?
def named:MOp->Option (Nat×List Opd)
 |.call f args=>some (f,args)
 |.xcall f args=>some (f,args)
 |.fcall f args=>some (f,args)
 |.icall f args=>some (f,args)
 |.scall f args _=>some (f,args)
 |.pcall f args=>some (f,args)
 |_=>none
theorem Zhl{op:Op}{k:MOp}(hk:Z7 P inl ops op=some k) :
  (∀f args,named k=some (f,args)->∃c,op=.call c/\c.callee=.value (.func f)/\mapO opd c.args.toList=some args/\Ze0 P f=true)/\
  (∀x args,k=.dcall x args->∃c y,op=.call c/\c.callee=.value y/\opd y=some x/\mapO opd c.args.toList=some args):=by
 cases op with
 |call c =>
  obtain⟨callee,as,ts⟩:=c
  cases callee with
  |invoke r m=>simp[Z7]at hk
  |builtin b =>
   have:named k=none/\(∀x args,k≠.dcall x args):=by
    cases b<;>simp only[Z7]at hk<;>(repeat' split at hk)<;>first
     |cases hk;done
     |(cases hk;exact⟨rfl,by simp⟩)
     |(obtain⟨_,_,rfl⟩:=Yi.1 hk;exact⟨rfl,by simp⟩)
   exact⟨λf args h=>(by rw[this.1]at h;cases h),λx args h=>absurd h (this.2 x args)⟩
  |value y =>
   cases y with
   |func f =>
    simp only[Z7]at hk;split at hk
    .rename_i hc;obtain⟨as',h1,h2⟩:=Yi.1 hk;have hn:named k=some (f,as')/\∀x args,k≠.dcall x args:=by
      subst h2;unfold callK
      repeat' split
      all_goals exact⟨rfl,by simp⟩
     refine⟨λf' args hq=>?_,λx args hq=>absurd hq (hn.2 x args)⟩;rw[hn.1]at hq;cases hq;exact⟨_,rfl,rfl,h1,hc⟩
    .cases hk
   |tmp t =>
    simp only[Z7]at hk;split at hk
    .rename_i x as' hx has;cases hk;refine⟨by simp[named],?_⟩;intro x' args hq;cases hq;exact⟨_,_,rfl,rfl,hx,has⟩
    .cases hk
   |const v =>
    simp only[Z7]at hk;split at hk
    .rename_i x as' hx has;cases hk;refine⟨by simp[named],?_⟩;intro x' args hq;cases hq;exact⟨_,_,rfl,rfl,hx,has⟩
    .cases hk
   |global g =>
    simp only[Z7]at hk;split at hk
    .rename_i x as' hx has;simp[opd]at hx
    .cases hk
 |makeFunc fn first caps =>
  have:named k=none/\(∀x args,k≠.dcall x args):=by
   cases fn<;>simp only[Z7]at hk<;>(repeat' split at hk)<;>first
    |(cases hk;done)
    |(cases hk;exact⟨rfl,by simp⟩)
    |(obtain⟨_,_,rfl⟩:=Yi.1 hk;exact⟨rfl,by simp⟩)
  exact⟨λf args h=>(by rw[this.1]at h;cases h),λx args h=>absurd h (this.2 x args)⟩
 |slice t x lo hi mx =>
  have:named k=none/\(∀x args,k≠.dcall x args):=by
   cases mx<;>simp only[Z7]at hk<;>(repeat' split at hk)<;>first
    |(cases hk;done)
    |(cases hk;exact⟨rfl,by simp⟩)
    |(obtain⟨_,_,rfl⟩:=Yi.1 hk;exact⟨rfl,by simp⟩)
  exact⟨λf args h=>(by rw[this.1]at h;cases h),λx args h=>absurd h (this.2 x args)⟩
 |_ =>
  have:named k=none/\(∀x args,k≠.dcall x args):=by
   simp only[Z7]at hk<;>(repeat' split at hk)<;>first
    |(cases hk;done)
    |(cases hk;exact⟨rfl,by simp⟩)
    |(obtain⟨_,_,rfl⟩:=Yi.1 hk;exact⟨rfl,by simp⟩)
  exact⟨λf args h=>(by rw[this.1]at h;cases h),λx args h=>absurd h (this.2 x args)⟩
theorem Zi8{c:Call}(ho:o.op=.call c)(hc:c.callee=.value (.func f))(hcl:Ze0 P f=true)(w:World):(execOp a.eval o).run P w=.ok (.enter f (c.args.map a.eval)) w:=by
 unfold execOp;rw[ho];simp[resolve,hc,Act.eval,Deferred.ofValue,invoke,Z1j hcl]
theorem Zbf8(R:Rel N base ρ h w){nx:Nat}(hargs:RVs ρ w (Free N ρ h) vs vals.toList)(hu:∀b,b∈(newU nx hr 0).map Prod.fst->nx<=b->ρ b=none)
  (hfz:frzs h vs=some as) (hG:Zbq P f as [] r hr) (hsh:(Zc0 vs || frR r hr)=true) (hex:(execOp a.eval o).run P w=.ok (.enter f vals) w) (hK:∀val w' ρ',After N base ρ h w (shift nx r) (newU nx hr 0) val w' ρ'->K (a.put o.dst val) w'):o.wp P a w K Q:=by
 have hnew:∀b,nx<=b->b<nx+hr.length->ρ b=none:=by
  intro b h1 h2;refine hu b ?_ h1;exact(Zll nx hr 0 b).2 (by omega)
 have main:∀A:Nat->Prop,RVs Zcd w A as vals.toList->((∀g,A g->Free N ρ h g)\/frR r hr=true)->o.wp P a w K Q:=by
  intro A hA hs;unfold Oper.wp;rw[hex];show Calls P f vals w _;refine(hG.data w A _ hA).mono ?_;rintro e w' ⟨val,ρc,rfl,hB,hRc,hv,hdom⟩;have J:JoinH N A base ρ h w ρc hr w' nx:=⟨R,hB,hRc,hnew,hdom,hs.imp id λhf=>by simp only[frR,Yf]at hf;exact hf.2⟩;refine hK val w' (Zca ρ ρc nx hr.length) ⟨J.val hv (hs.imp id λhf=>by simp only[frR,Yf]at hf;exact hf.1),J.rel,J.keeps,?_,hB.mono R.hb,λg hg _=>hB.block g hg⟩;intro b hb hb0;rw[Zll]at hb;simp only[Zca];rw[if_neg (by omega)];exact hb0
 simp only[Bool.or_eq_true]at hsh;rcases hsh with hsh|hsh
 .have h0:Zv vs=[]:=by simpa[Zc0]using hsh
  exact main (Free N ρ h) (Zpy R hfz hargs (.inl ⟨h0,λ_ h=>h⟩)) (.inl λ_ h=>h)
 .exact main (λ_=>True) (Zpy R hfz hargs (.inr λ_=>trivial)) (.inr hsh)
theorem Zbf9(R:Rel N base ρ h w)(hargs:RVs ρ w (Free N ρ h) vs vals.toList)
  (hfz:frzs h vs=some as) (hno:Zc0 vs=true) (hG:Zbq P f as [] r hr) (hd:frzR hr r=some d) (hex:(execOp a.eval o).run P w=.ok (.enter f vals) w) (hK:∀val w' ρ',After N base ρ h w d [] val w' ρ'->K (a.put o.dst val) w'):o.wp P a w K Q:=by
 have h0:Zv vs=[]:=by simpa[Zc0]using hno
 have hA:RVs Zcd w (Free N ρ h) as vals.toList:=Zpy R hfz hargs (.inl ⟨h0,λ_ h=>h⟩);unfold Oper.wp;rw[hex];show Calls P f vals w _;refine(hG.data w (Free N ρ h) _ hA).mono ?_;rintro e w' ⟨val,ρc,rfl,hB,hRc,hv,hdom⟩;have hv':=Zbf7 hRc hd hv;have J:JoinH N (Free N ρ h) base ρ h w Zcd [] w' h.length:=⟨R,hB,Rel.empty hB.size hRc.hN,λb h1 h2=>absurd h2 (by simp;omega),λb _=>rfl,.inl λ_ h=>h⟩;have e1:Zca ρ Zcd h.length ([]:List Blk).length=ρ:=by
  funext b;simp only[Zca,Ycw,Ybh];rw[if_neg (by omega)]
 have e2:upd h (newU h.length [] 0)=h:=rfl;have q1:=J.rel;have q2:=J.keeps;rw[e1,e2]at q1 q2;refine hK val w' ρ ⟨?_,q1,q2,λb _ hb=>hb,hB.mono R.hb,λg hg _=>hB.block g hg⟩;refine hv'.keep ⟨λb r hb=>(by cases hb),λg hg hf=>⟨?_,rfl⟩⟩;have:=J.free_new (g:=g) ⟨hf,λb r hb=>(by cases hb)⟩ (.inr λ_ h=>h);rw[e1,e2]at this;exact this
def xR(b:Blk)(r:Root):Root:=if Zbd b=true then⟨r.v,[],r.fp⟩else r
def Zci(ρ ρc:Map)(n:Nat)(hr:List Blk):Map:=λb=>if n<=b/\b<n+hr.length then(ρc (b-n)).map (xR (gt hr (b-n)))else ρ b
theorem gt_mapX(hr:List Blk)(i:Nat):gt (hr.map xB) i=xB (gt hr i):=by
 unfold gt;rw[Yca];cases hr[i]?<;>rfl
theorem renB_xB(f:Nat->Nat)(b:Blk):renB f (xB b)=xB (renB f b):=by
 cases b with
 |arr e sz fr es=>cases fr<;>rfl
 |_=>rfl
section
variable{A:Nat->Prop}{ρc:Map}{hr:List Blk}{w':World}{n:Nat}
theorem JoinH.xrel(J:JoinH N A base ρ h w ρc hr w' n)(hfr:hr.all frB=true) :
  Rel N base (Zci ρ ρc n hr) (upd h (newU n (hr.map xB) 0)) w'/\Keeps ρ w (Free N ρ h) (Zci ρ ρc n hr) w' (Free N (Zci ρ ρc n hr) (upd h (newU n (hr.map xB) 0))):=by
 have hgt:∀b,gt (upd h (newU n (hr.map xB) 0)) b=if n<=b/\b<n+hr.length then xB (renB (λc=>c+n) (gt hr (b-n)))else gt h b:=by
  intro b;rw[Zgj];simp only[Ybh,Ybd];split
  .rw[gt_mapX,renB_xB]
  .rfl
 have hsplit:∀b r,Zci ρ ρc n hr b=some r->gt (upd h (newU n (hr.map xB) 0)) b≠.dead->
   (ρ b=some r/\gt h b≠.dead/\gt (upd h (newU n (hr.map xB) 0)) b=gt h b)\/
   (∃r0,n<=b/\b<n+hr.length/\ρc (b-n)=some r0/\r=xR (gt hr (b-n)) r0/\gt hr (b-n)≠.dead/\gt (upd h (newU n (hr.map xB) 0)) b=xB (renB (λc=>c+n) (gt hr (b-n)))):=by
  intro b r hb hd;rw[hgt]at hd|-;simp only[Zci]at hb;by_cases hc:n<=b/\b<n+hr.length
  .rw[if_pos hc]at hb hd|-;obtain⟨r0,h1,h2⟩:=Yi.1 hb;exact .inr ⟨r0,hc.1,hc.2,h1,h2.symm,λhx=>hd (by rw[hx];rfl),rfl⟩
  .rw[if_neg hc]at hb hd|-;exact .inl ⟨hb,hd,rfl⟩
 -- the blocks of a new root are new
 have hnew:∀i r0 g,ρc i=some r0->gt hr i≠.dead->Zbi (xR (gt hr i) r0) g->w.heap.size<=g/\(Zbi r0 g\/(Zbd (gt hr i)=true/\g∈r0.fp)):=by
  intro i r0 g h1 h2 h3;unfold xR at h3;by_cases hf:Zbd (gt hr i)=true
  .rw[if_pos hf]at h3;rcases h3 with h3|h3
   .exact⟨(J.Rc.lt h1 h2 (.inl h3)).1,.inl (.inl h3)⟩
   .exact⟨(J.Rc.fresh h1 hf g h3).1,.inr ⟨hf,h3⟩⟩
  .rw[if_neg hf]at h3;exact⟨(J.Rc.lt h1 h2 h3).1,.inl h3⟩
 have hfree:∀g,g<w.heap.size->Free N ρ h g->Free N (Zci ρ ρc n hr) (upd h (newU n (hr.map xB) 0)) g:=by
  intro g hlt hg;refine⟨hg.1,λb r hb hd he=>?_⟩;rcases hsplit b r hb hd with⟨h1,h2,_⟩|⟨r0,_,_,h1,h2,h3,_⟩
  .exact hg.2 b r h1 h2 he
  .rw[h2]at he;have:=(hnew _ r0 g h1 h3 he).1;omega
 have hkeep:Keeps ρ w (Free N ρ h) (Zci ρ ρc n hr) w' (Free N (Zci ρ ρc n hr) (upd h (newU n (hr.map xB) 0))):=by
  refine⟨λb r hb=>⟨r,?_,rfl⟩,λg hlt hg=>⟨hfree g hlt hg,J.B.block g hlt⟩⟩;simp only[Zci];rw[if_neg λhc=>by rw[J.new b hc.1 hc.2]at hb;cases hb];exact hb
 have hroot:∀c r0,ρc c=some r0->∃r1,Zci ρ ρc n hr (c+n)=some r1/\r1.v=r0.v:=by
  intro c r0 hc;have hlt:c<hr.length:=by
   rcases Yby c hr.length with q|q
   .exact q
   .rw[J.dom c q]at hc;cases hc
  refine⟨xR (gt hr c) r0,?_,?_⟩
  .simp only[Zci];rw[if_pos (by omega),Ycy,hc];rfl
  .unfold xR;split<;>rfl
 refine⟨⟨Yr J.R.hb J.B.size,λg hl=>J.R.hN g (Yr J.B.size hl),?_,?_,?_,?_⟩,hkeep⟩
 .intro b r g hb hd hg;rcases hsplit b r hb hd with⟨h1,h2,_⟩|⟨r0,_,_,h1,h2,h3,_⟩
  .exact J.R.hO b r g h1 h2 hg
  .rw[h2]at hg;exact J.R.hN g (hnew _ r0 g h1 h3 hg).1
 .intro b hd;have hd0:=hd;rw[hgt]at hd;by_cases hc:n<=b/\b<n+hr.length
  .rw[if_pos hc]at hd;obtain⟨r0,h1,h2⟩:=J.Rc.blk (b-n) λhx=>hd (by rw[hx];rfl)
   refine⟨xR (gt hr (b-n)) r0,by simp only[Zci];rw[if_pos hc,h1];rfl,?_⟩;rw[hgt,if_pos hc]
   cases hx:gt hr (b-n)with
   |dead=>trivial
   |box cs =>
    rw[hx]at h2;obtain⟨h0,g,c,e,h3,h4,h5,h6,h7⟩:=h2
    exact⟨h0,g,c,e,h3,Yr J.R.hb h4,h5,h6.scalX _ (λc _ r hr'=>hroot c r hr') (Z1c hfr hx),h7⟩
   |arr e sz fr es =>
    have hft:fr=true:=Zt6 hfr hx;subst hft;rw[hx]at h2;obtain⟨h0,e',xs,he',h3,h4,h5,h6,h7,h8,h9⟩:=h2
    exact⟨e',xs,he',Zhj J.R.hb h3,h4,h5,h6,(h9 rfl).mono J.R.hb,(h8 rfl).1,λg hg hv=>(h7 g hg).2 (b-n) r0 h1 (by rw[hx];intro hc;cases hc) (.inl hv)⟩
   |xarr e sz es =>
    rw[hx]at h2;obtain⟨e',xs,he',h3,h4,h5,h6,h7,rest⟩:=h2
    exact⟨e',xs,he',Zhj J.R.hb h3,h4,h5,h6,h7.mono J.R.hb,rest⟩
   |det e sz es i off c =>
    rw[hx]at h2;obtain⟨e',xs,rb,fa,fc,he,ho,hsz,hl,hrb,hcell,q1,q2,hex,hA,hC,oA,oC,rest⟩:=h2;obtain⟨r1,k1,k2⟩:=hroot c rb hrb;exact⟨e',xs,r1,fa,fc,he,Zhj J.R.hb ho,hsz,hl,k1,by rw[k2];exact hcell,q1,q2,hex,hA,hC,oA.mono J.R.hb,oC.mono J.R.hb,rest⟩
  .rw[if_neg hc]at hd;obtain⟨r,h1,h2⟩:=J.R.blk b hd;refine⟨r,by simp only[Zci];rw[if_neg hc];exact h1,?_⟩;rw[hgt,if_neg hc];exact h2.keep hkeep λg hg=>J.B.block g (h2.lt hd hg).2
 .intro b b' r r' g hb hb' hd hd' hg hg';rcases hsplit b r hb hd with⟨h1,h2,_⟩|⟨r0,z1,z2,h1,h2,h3,_⟩<;>rcases hsplit b' r' hb' hd' with⟨h4,h5,_⟩|⟨r1,z3,z4,h4,h5,h6,_⟩
  .exact J.R.inj b b' r r' g h1 h4 h2 h5 hg hg'
  .rw[h5]at hg';have q1:=(J.R.lt h1 h2 hg).2;have q2:=(hnew _ r1 g h4 h6 hg').1;omega
  .rw[h2]at hg;have q1:=(J.R.lt h4 h5 hg').2;have q2:=(hnew _ r0 g h1 h3 hg).1;omega
  .rw[h2]at hg;rw[h5]at hg';have key:b-n=b'-n:=by
    rcases(hnew _ r0 g h1 h3 hg).2 with q|⟨q,q'⟩<;>rcases(hnew _ r1 g h4 h6 hg').2 with p|⟨p,p'⟩
    .exact J.Rc.inj _ _ r0 r1 g h1 h4 h3 h6 q p
    .exact absurd q ((J.Rc.fresh h4 p g p').2.1.2 _ r0 h1 h3)
    .exact absurd p ((J.Rc.fresh h1 q g q').2.1.2 _ r1 h4 h6)
    .exact J.Rc.apart _ _ r0 r1 g h1 h4 q p q' p'
   omega
 .intro b b' r r' g hb hb' hf hf' hg hg';have nofr:∀b r,Zci ρ ρc n hr b=some r->Zbd (gt (upd h (newU n (hr.map xB) 0)) b)=true->ρ b=some r/\Zbd (gt h b)=true:=by
   intro b r hb hf;rcases hsplit b r hb (Zch hf)with⟨h1,h2,e1⟩|⟨r0,_,_,h1,h2,h3,e1⟩
   .rw[e1]at hf;exact⟨h1,hf⟩
   .exfalso;rw[e1]at hf
    cases hx:gt hr (b-n)with
    |arr e sz fr es =>
     have hft:fr=true:=Zt6 hfr hx;subst hft
     rw[hx]at hf;cases hf
    |_=>rw[hx]at hf;cases hf
  obtain⟨h1,h2⟩:=nofr b r hb hf;obtain⟨h3,h4⟩:=nofr b' r' hb' hf';exact J.R.apart b b' r r' g h1 h3 h2 h4 hg hg'
end
theorem Zbga{o:Oper}(R:Rel N base ρ h w){nx f:Nat}{vs as:List AV}{vals:Array Value}(hargs:RVs ρ w (Free N ρ h) vs vals.toList){r:AV}{hr:List Blk}(hu:∀b,b∈(newU nx (hr.map xB) 0).map Prod.fst->nx<=b->ρ b=none)
  (hfz:frzs h vs=some as) (hG:Zbq P f as [] r hr) (hsh:frR r hr=true) (hex:(execOp a.eval o).run P w=.ok (.enter f vals) w)
  {K:Act->World->Prop} {Q:Exit->Act->World->Prop} (hK:∀val w' ρ',After N base ρ h w (shift nx r) (newU nx (hr.map xB) 0) val w' ρ'->K (a.put o.dst val) w'):o.wp P a w K Q:=by
 have hnew:∀b,nx<=b->b<nx+hr.length->ρ b=none:=by
  intro b h1 h2;refine hu b ?_ h1;exact(Zll nx (hr.map xB) 0 b).2 (by simp;omega)
 unfold Oper.wp;rw[hex];show Calls P f vals w _;refine(hG.data w (λ_=>True) _ (Zpy R hfz hargs (.inr λ_=>trivial))).mono ?_;rintro e w' ⟨val,ρc,rfl,hB,hRc,hv,hdom⟩;simp only[frR,Yf]at hsh;have J:JoinH N (λ_=>True) base ρ h w ρc hr w' nx:=⟨R,hB,hRc,hnew,hdom,.inr hsh.2⟩;obtain⟨h1,h2⟩:=J.xrel hsh.2;refine hK val w' (Zci ρ ρc nx hr) ⟨?_,h1,h2,?_,hB.mono R.hb,λg hg _=>hB.block g hg⟩
 .refine hv.scalX _ (λc _ r0 hc=>?_) hsh.1;have hlt:c<hr.length:=by
   rcases Yby c hr.length with q|q
   .exact q
   .rw[hdom c q]at hc;cases hc
  refine⟨xR (gt hr c) r0,?_,?_⟩
  .simp only[Zci];rw[if_pos (by omega),Ycy,hc];rfl
  .unfold xR;split<;>rfl
 .intro b hb hb0;rw[Zll]at hb;simp only[Zci];rw[if_neg (by simp at hb;omega)];exact hb0
end
open Go.RowKit (Below)
section
variable{P:Program}{N:Par}{base:Nat}{ρ:Map}{h:List Blk}{w:World}{e:Env}{a:Act}{inl:List Nat}{ops:Array Oper}{ids:List Nat}{i nx b m:Nat}{F:Nat->Prop}{ρ1:Map}
theorem RV.root{x:AV}{v:Value}(hv:RV ρ w F x v):∀b∈refs x,∃r,ρ b=some r:=by
 refine RV.rec (motive_1:=λx v _=>∀b∈refs x,∃r,ρ b=some r) (motive_2:=λxs vs _=>∀b∈Zv xs,∃r,ρ b=some r) ?_ ?_ ?_ ?_ ?_ ?_ ?_ ?_ ?_ ?_ ?_ ?_ ?_ hv
 .intro v b hb;cases hb
 .intro b hb;cases hb
 .intro x v fp _ _ b hb;cases hb
 .intro cs c _ _ ih;simpa[refs]using ih
 .intro cs c _ ih;simpa[refs]using ih
 .intro b off g r hr _ c hc;simp[refs]at hc;subst hc;exact⟨r,hr⟩
 .intro b i sz off g n cap r hr _ c hc;simp[refs]at hc;subst hc;exact⟨r,hr⟩
 .intro cs off g o c e fz fp _ _ _ _ b hb;cases hb
 .intro b r hr _ c hc;simp[refs]at hc;subst hc;exact⟨r,hr⟩
 .intro b n g r hr _ c hc;simp[refs]at hc;subst hc;exact⟨r,hr⟩
 .intro f cs c _ ih;simpa[refs]using ih
 .intro b hb;cases hb
 .intro x v xs vs _ _ ih1 ih2 b hb;simp only[Zv,Yg]at hb;exact hb.elim (ih1 b) (ih2 b)
theorem RVs.root{xs:List AV}{vs:List Value}(hv:RVs ρ w F xs vs):∀b∈Zv xs,∃r,ρ b=some r:=by
 induction xs generalizing vs with
 |nil=>intro b hb;cases hb
 |cons x xs ih =>
  cases hv with
  |cons h1 h2 =>
   intro b hb;simp only[Zv,Yg]at hb;exact hb.elim (h1.root b) (ih h2 b)
theorem Zt8{p:Nat->Prop}(hc:∀b,p b->∀c∈Zbu (gt h b),p c):∀(n:Nat) (todo acc:List Nat),(∀b∈todo,p b)->(∀b∈acc,p b)->∀b∈Z8 h n todo acc,p b
 |0,_,_,_,ha,b,hb=>ha b (by simpa[Z8]using hb)
 |n+1,[],acc,_,ha,b,hb=>ha b (by simpa[Z8]using hb)
 |n+1,c::todo,acc,ht,ha,b,hb=>by
  simp only[Z8]at hb;split at hb
  .exact Zt8 hc n todo acc (λb hb=>ht b (by simp[hb])) ha b hb
  .refine Zt8 hc n _ _ (λb hb=>?_) (λb hb=>?_) b hb
   .rcases Yg.1 hb with hb|hb
    .exact hc c (ht c (by simp)) b hb
    .exact ht b (by simp[hb])
   .rcases Yg.1 hb with hb|hb
    .exact ha b hb
    .simp at hb;subst hb;exact ht b (by simp)
theorem Rel.refs_root(R:Rel N base ρ h w)(b:Nat):∀c∈Zbu (gt h b),∃r,ρ c=some r:=by
 intro c hc
 cases hx:gt h b with
 |dead=>rw[hx]at hc;cases hc
 |arr e sz fr es=>rw[hx]at hc;cases hc
 |xarr e sz es=>rw[hx]at hc;cases hc
 |det e sz es i off b' =>
  obtain⟨r,h1,h2⟩:=R.blk b (by rw[hx];intro hc;cases hc);rw[hx]at h2 hc;obtain⟨_,_,rb,_,_,_,_,_,_,hrb,_⟩:=h2;simp[Zbu]at hc;subst hc
  exact⟨rb,hrb⟩
 |box cs =>
  obtain⟨r,h1,h2⟩:=R.blk b (by rw[hx];intro hc;cases hc);rw[hx]at h2 hc;obtain⟨_,g,c',e',_,_,_,h6,_⟩:=h2;exact h6.root c hc
theorem Z1k(R:Rel N base ρ h w){vs:List AV}{vals:List Value}(hv:RVs ρ w (Free N ρ h) vs vals):∀b∈Z0 h vs,∃r,ρ b=some r :=
 Zt8 (p:=λb=>∃r,ρ b=some r) (λb _ c hc=>R.refs_root b c hc) 200 (Zv vs) [] (λb hb=>hv.root b hb) (λb hb=>by cases hb)
theorem idx_at(hnd:ids.Nodup)(hi:ids[i]?=some b):idx b ids 0=i:=by
 obtain⟨j,h1,h2⟩:=Z1b (Y6 hi) 0;rw[Yj]at h1;rw[h1];obtain⟨q1,q2⟩:=Yz.1 hi;obtain⟨q3,q4⟩:=Yz.1 h2;rcases Ycn j i with hlt|rfl|hlt
 .exact absurd (q4.trans q2.symm) (Yco.1 hnd j i q3 q1 hlt)
 .rfl
 .exact absurd (q2.trans q4.symm) (Yco.1 hnd i j q1 q3 hlt)
theorem Zfe(hi:ids[i]?=some b):bk ids nx i=b:=by simp[bk,hi]
theorem Zgk(hi:ids.length<=i):bk ids nx i=nx+(i-ids.length):=by simp[bk,Ybz hi]
theorem bk_inj(hnd:ids.Nodup)(hn:∀j,j<m-ids.length->nx+j ∉ ids){j:Nat}(hi:i<m)(hj:j<m)(he:bk ids nx i=bk ids nx j):i=j:=by
 rcases Yby i ids.length with h1|h1<;>rcases Yby j ids.length with h2|h2
 .have e1:ids[i]?=some ids[i]:=by simp[h1]
  have e2:ids[j]?=some ids[j]:=by simp[h2]
  rw[Zfe e1,Zfe e2]at he;rw[<-idx_at hnd e1,<-idx_at hnd e2,he]
 .have e1:ids[i]?=some ids[i]:=by simp[h1]
  rw[Zfe e1,Zgk h2]at he;exact absurd (he▸Y6 e1) (hn _ (by omega))
 .have e2:ids[j]?=some ids[j]:=by simp[h2]
  rw[Zfe e2,Zgk h1]at he;exact absurd (he.symm▸Y6 e2) (hn _ (by omega))
 .rw[Zgk h1,Zgk h2]at he;omega
theorem Zi9(ids:List Nat)(nx:Nat):∀(bs:List Blk) (i b:Nat),b∈(Zbp ids nx bs i).map Prod.fst↔∃j,i<=j/\j<i+bs.length/\bk ids nx j=b
 |[],i,b=>by simp[Zbp];intro j h1 h2;omega
 |x::bs,i,b=>by
  simp only[Zbp,Yl,Yw,Zi9 ids nx bs (i+1),Yn];constructor
  .rintro(rfl|⟨j,h1,h2,h3⟩)
   .exact⟨i,Yh _,by omega,rfl⟩
   .exact⟨j,by omega,by omega,h3⟩
  .rintro⟨j,h1,h2,h3⟩;by_cases hj:j=i
   .subst hj;exact .inl h3.symm
   .exact .inr ⟨j,by omega,by omega,h3⟩
theorem Zpz(ids:List Nat)(nx:Nat):∀(bs:List Blk) (i:Nat) (h:List Blk) (b:Nat),(∀j,i<=j->j<i+bs.length->bk ids nx j≠b)->gt (upd h (Zbp ids nx bs i)) b=gt h b
 |[],i,h,b,_=>rfl
 |x::bs,i,h,b,hb=>by
  simp only[Zbp,upd];rw[Zpz ids nx bs (i+1) _ b (λj h1 h2=>hb j (by omega) (by simp;omega)),Zcc,if_neg λhe=>hb i (Yh _) (by simp) he.symm]
theorem Zt9(ids:List Nat)(nx:Nat):∀(bs:List Blk) (i:Nat) (h:List Blk),(∀j k,i<=j->j<i+bs.length->i<=k->k<i+bs.length->bk ids nx j=bk ids nx k->j=k)->∀j,i<=j->j<i+bs.length->
  gt (upd h (Zbp ids nx bs i)) (bk ids nx j)=renB (bk ids nx) (gt bs (j-i))
 |[],i,h,_,j,h1,h2=>by simp at h2;omega
 |x::bs,i,h,hinj,j,h1,h2=>by
  simp only[Yn]at h2 hinj;simp only[Zbp,upd];by_cases hj:j=i
  .subst hj;rw[Zpz ids nx bs (j+1) _ _ (λk h3 h4 he=>by have:=hinj k j (by omega) (by omega) (by omega) (by omega) he;omega),Zcc,if_pos rfl];simp[gt]
  .rw[Zt9 ids nx bs (i+1) _ (λj k q1 q2 q3 q4=>hinj j k (by omega) (by omega) (by omega) (by omega)) j (by omega) (by omega)]
   have:j-i=(j-(i+1))+1:=by omega
   rw[this];simp[gt]
open Classical in
noncomputable def Zea(ρ ρ1:Map)(ids:List Nat)(nx m:Nat):Map:=λb=>if hx:∃i,i<m/\bk ids nx i=b then ρ1 hx.choose else ρ b
theorem Zua(hinj:∀i j,i<m->j<m->bk ids nx i=bk ids nx j->i=j)(hi:i<m):Zea ρ ρ1 ids nx m (bk ids nx i)=ρ1 i:=by
 have hx:∃j,j<m/\bk ids nx j=bk ids nx i:=⟨i,hi,rfl⟩;unfold Zea;rw[dif_pos hx,hinj _ _ hx.choose_spec.1 hi hx.choose_spec.2]
theorem Z1l(hb:∀i,i<m->bk ids nx i≠b):Zea ρ ρ1 ids nx m b=ρ b:=by
 unfold Zea;rw[dif_neg λ⟨i,h1,h2⟩=>hb i h1 h2]
def subP(N:Par)(ρ:Map)(h:List Blk)(w:World)(ids:List Nat):Par :=
 ⟨λg=>N.a g/\∀b r,b ∉ ids->ρ b=some r->gt h b≠.dead->¬Zbi r g,
  λg=>w.heap.size<=g\/∃b∈ids,∃r,ρ b=some r/\gt h b≠.dead/\(Zbi r g\/Zbd (gt h b)=true/\g∈r.fp),Free N ρ h⟩
theorem Rel.sub(R:Rel N base ρ h w)(hnd:ids.Nodup)(hcl:∀b∈ids,∀c∈Zbu (gt h b),c∈ids):Rel (subP N ρ h w ids) base (renM ρ ids) (subH h ids) w:=by
 refine R.renN hnd hcl ?_ ?_ ?_ ?_
 .intro g hg;refine⟨⟨(R.hN g hg).1,λb r _ hr hd he=>?_⟩,.inl hg⟩;have:=(R.lt hr hd he).2;omega
 .intro b hb r g hr hd hg;refine⟨⟨(R.hO b r g hr hd hg).1,λc rc hc hrc hdc he=>?_⟩,.inr ⟨b,hb,r,hr,hd,.inl hg⟩⟩;exact hc (R.inj b c r rc g hr hrc hd hdc hg he▸hb)
 .exact λg hg=>⟨hg.1,λb r _=>hg.2 b r⟩
 .intro b hb r hr hf g hg;exact .inr ⟨b,hb,r,hr,Zch hf,.inr ⟨hf,hg⟩⟩
structure BackH (N:Par) (base:Nat) (ρ:Map) (h:List Blk) (w:World) (ids:List Nat) (nx:Nat) (ρ1:Map) (h1:List Blk) (w':World):Prop where
 R:Rel N base ρ h w
 nd:ids.Nodup
 root:∀b∈ids,∃r,ρ b=some r
 len:ids.length<=h1.length
 new:∀j,j<h1.length-ids.length->ρ (nx+j)=none
 R1:Rel (subP N ρ h w ids) base ρ1 h1 w'
 B:Below base w w'
 dom:∀b,h1.length<=b->ρ1 b=none
 kn:∀g,g<w.heap.size->¬(subP N ρ h w ids).a g->w'.heap[g]?=w.heap[g]?
 fz:∀g,g<w.heap.size->Free N ρ h g->Free (subP N ρ h w ids) ρ1 h1 g/\w'.heap[g]?=w.heap[g]?
 rt:∀b r0,b<ids.length->renM ρ ids b=some r0->∃r1,ρ1 b=some r1/\r1.v=r0.v
section
variable{ids:List Nat}{nx:Nat}{ρ1:Map}{h1:List Blk}{w':World}
theorem BackH.inj(J:BackH N base ρ h w ids nx ρ1 h1 w'):∀i j,i<h1.length->j<h1.length->bk ids nx i=bk ids nx j->i=j:=by
 intro i j hi hj he;refine bk_inj J.nd (m:=h1.length) (λk hk hm=>?_) hi hj he;obtain⟨r,hr⟩:=J.root _ hm;rw[J.new k hk]at hr;cases hr
theorem BackH.split(J:BackH N base ρ h w ids nx ρ1 h1 w')(b:Nat) :
  (∃i,i<h1.length/\bk ids nx i=b/\Zea ρ ρ1 ids nx h1.length b=ρ1 i/\gt (upd h (Zbp ids nx h1 0)) b=renB (bk ids nx) (gt h1 i))\/
  (b ∉ ids/\(∀i,i<h1.length->bk ids nx i≠b)/\Zea ρ ρ1 ids nx h1.length b=ρ b/\gt (upd h (Zbp ids nx h1 0)) b=gt h b):=by
 by_cases hx:∃i,i<h1.length/\bk ids nx i=b
 .obtain⟨i,hi,rfl⟩:=hx;refine .inl ⟨i,hi,rfl,Zua J.inj hi,?_⟩;have:=Zt9 ids nx h1 0 h (λj k _ h2 _ h4=>J.inj j k (by omega) (by omega)) i (Yb _) (by omega);simpa using this
 .have hn:∀i,i<h1.length->bk ids nx i≠b:=λi hi he=>hx ⟨i,hi,he⟩
  refine .inr ⟨λhm=>?_,hn,Z1l hn,Zpz ids nx h1 0 h b λj _ h2=>hn j (by omega)⟩;obtain⟨i,hi⟩:=Ydc hm;have hl:=(Yz.1 hi).1;exact hn i (by have:=J.len;omega) (Zfe hi)
theorem BackH.free(J:BackH N base ρ h w ids nx ρ1 h1 w'){g:Nat}(hg:Free (subP N ρ h w ids) ρ1 h1 g):Free N (Zea ρ ρ1 ids nx h1.length) (upd h (Zbp ids nx h1 0)) g:=by
 refine⟨hg.1.1,?_⟩;intro b r hb hd he;rcases J.split b with⟨i,hi,rfl,e1,e2⟩|⟨hm,_,e1,e2⟩
 .rw[e1]at hb;rw[e2]at hd;exact hg.2 i r hb (λhc=>hd (by rw[hc];rfl)) he
 .rw[e1]at hb;rw[e2]at hd;exact hg.1.2 b r hm hb hd he
theorem BackH.keeps(J:BackH N base ρ h w ids nx ρ1 h1 w'):Keeps ρ w (Free N ρ h) (Zea ρ ρ1 ids nx h1.length) w' (Free N (Zea ρ ρ1 ids nx h1.length) (upd h (Zbp ids nx h1 0))):=by
 constructor
 .intro b r hb;rcases J.split b with⟨i,hi,rfl,e1,_⟩|⟨hm,_,e1,_⟩
  .rw[e1];rcases Yby i ids.length with hl|hl
   .have ei:ids[i]?=some ids[i]:=by simp[hl]
    rw[Zfe ei]at hb;exact J.rt i r hl (by simp[renM,ei,hb])
   .rw[Zgk hl,J.new _ (by omega)]at hb;cases hb
  .exact⟨r,by rw[e1];exact hb,rfl⟩
 .intro g hl hf;obtain⟨q1,q2⟩:=J.fz g hl hf;exact⟨J.free q1,q2⟩
theorem BackH.rel(J:BackH N base ρ h w ids nx ρ1 h1 w'):Rel N base (Zea ρ ρ1 ids nx h1.length) (upd h (Zbp ids nx h1 0)) w':=by
 have hk:=J.keeps;have hroot:∀c r,ρ1 c=some r->Zea ρ ρ1 ids nx h1.length (bk ids nx c)=some r:=by
  intro c r hc;have hl:c<h1.length:=by
   rcases Yby c h1.length with q|q
   .exact q
   .rw[J.dom c q]at hc;cases hc
  rw[Zua J.inj hl];exact hc
 have hf1:∀g,(subP N ρ h w ids).f g->N.f g:=by
  rintro g (hg|⟨b,hb,r,hr,hd,hg|⟨hf,hg⟩⟩)
  .exact(J.R.hN g hg).2
  .exact(J.R.hO b r g hr hd hg).2
  .exact(J.R.fresh hr hf g hg).1
 refine⟨Yr J.R.hb J.B.size,λg hl=>J.R.hN g (Yr J.B.size hl),?_,?_,?_,?_⟩
 .intro b r g hb hd hg;rcases J.split b with⟨i,hi,rfl,e1,e2⟩|⟨hm,_,e1,e2⟩
  .rw[e1]at hb;rw[e2]at hd;have:=J.R1.hO i r g hb (λhc=>hd (by rw[hc];rfl)) hg;exact⟨this.1.1,hf1 g this.2⟩
  .rw[e1]at hb;rw[e2]at hd;exact J.R.hO b r g hb hd hg
 .intro b hd;rcases J.split b with⟨i,hi,rfl,e1,e2⟩|⟨hm,_,e1,e2⟩
  .rw[e2]at hd|-;rw[e1];obtain⟨r,q1,q2⟩:=J.R1.blk i λhc=>hd (by rw[hc];rfl)
   refine⟨r,q1,?_⟩
   cases hx:gt h1 i with
   |dead=>trivial
   |box cs =>
    rw[hx]at q2;obtain⟨h0,g,c,e',h3,h4,h5,h6,h7⟩:=q2
    exact⟨h0,g,c,e',h3,h4,h5,h6.ren _ (λc _ r hr=>hroot c r hr) λg _ hg=>J.free hg,h7⟩
   |arr e' sz fr es =>
    rw[hx]at q2;obtain⟨h0,e',xs,he',h3,h4,h5,h6,h7,h8,h9⟩:=q2
    exact⟨h0,e',xs,he',h3,h4,h5,h6,λg hg=>J.free (h7 g hg),λhf=>⟨(h8 hf).1,λg hg=>hf1 g ((h8 hf).2 g hg)⟩,h9⟩
   |det e' sz es i' off c =>
    rw[hx]at q2;obtain⟨e',xs,rb,fa,fc,he,ho,hsz,hl,hrb,rest⟩:=q2
    exact⟨e',xs,rb,fa,fc,he,ho,hsz,hl,hroot c rb hrb,rest⟩
   |xarr e' sz es=>rw[hx]at q2;exact q2
  .rw[e2]at hd|-;rw[e1];obtain⟨r,q1,q2⟩:=J.R.blk b hd;exact⟨r,q1,q2.keep hk λg hg=>J.kn g (q2.lt hd hg).2 λhc=>hc.2 b r hm q1 hd hg⟩
 .intro b b' r r' g hb hb' hd hd' hg hg';rcases J.split b with⟨i,hi,rfl,e1,e2⟩|⟨hm,_,e1,e2⟩<;>rcases J.split b' with⟨j,hj,rfl,e3,e4⟩|⟨hm',_,e3,e4⟩
  .rw[e1]at hb;rw[e2]at hd;rw[e3]at hb';rw[e4]at hd';rw[J.R1.inj i j r r' g hb hb' (λhc=>hd (by rw[hc];rfl)) (λhc=>hd' (by rw[hc];rfl)) hg hg']
  .rw[e1]at hb;rw[e2]at hd;rw[e3]at hb';rw[e4]at hd';have:=J.R1.hO i r g hb (λhc=>hd (by rw[hc];rfl)) hg;exact absurd hg' (this.1.2 b' r' hm' hb' hd')
  .rw[e1]at hb;rw[e2]at hd;rw[e3]at hb';rw[e4]at hd';have:=J.R1.hO j r' g hb' (λhc=>hd' (by rw[hc];rfl)) hg';exact absurd hg (this.1.2 b r hm hb hd)
  .rw[e1]at hb;rw[e2]at hd;rw[e3]at hb';rw[e4]at hd';exact J.R.inj b b' r r' g hb hb' hd hd' hg hg'
 .intro b b' r r' g hb hb' hf hf' hg hg';have mixed:∀i r b' r',ρ1 i=some r->Zbd (gt h1 i)=true->b' ∉ ids->ρ b'=some r'->Zbd (gt h b')=true->g∈r.fp->g∈r'.fp->False:=by
   intro i r b' r' hb hf hm hb' hf' hg hg';have q1:=(J.R1.fresh hb hf g hg).1;obtain⟨_,q2,q3⟩:=J.R.fresh hb' hf' g hg';rcases q1 with q1|⟨c,hc,rc,h3,h4,h5|⟨h5,h6⟩⟩
   .omega
   .exact q2.2 c rc h3 h4 h5
   .exact hm (J.R.apart c b' rc r' g h3 hb' h5 hf' h6 hg'▸hc)
  rcases J.split b with⟨i,hi,rfl,e1,e2⟩|⟨hm,_,e1,e2⟩<;>rcases J.split b' with⟨j,hj,rfl,e3,e4⟩|⟨hm',_,e3,e4⟩
  .rw[e1]at hb;rw[e2,Zfd]at hf;rw[e3]at hb';rw[e4,Zfd]at hf';rw[J.R1.apart i j r r' g hb hb' hf hf' hg hg']
  .rw[e1]at hb;rw[e2,Zfd]at hf;rw[e3]at hb';rw[e4]at hf';exact(mixed i r b' r' hb hf hm' hb' hf' hg hg').elim
  .rw[e1]at hb;rw[e2]at hf;rw[e3]at hb';rw[e4,Zfd]at hf';exact(mixed j r' b r hb' hf' hm hb hf hg' hg).elim
  .rw[e1]at hb;rw[e2]at hf;rw[e3]at hb';rw[e4]at hf';exact J.R.apart b b' r r' g hb hb' hf hf' hg hg'
theorem BackH.after(J:BackH N base ρ h w ids nx ρ1 h1 w'){r:AV}{v:Value}(hv:RV ρ1 w' (Free (subP N ρ h w ids) ρ1 h1) r v) :
  After N base ρ h w (ren (bk ids nx) r) (Zbp ids nx h1 0) v w' (Zea ρ ρ1 ids nx h1.length):=by
 refine⟨hv.ren _ (λb _ r hr=>?_) λg _ hg=>J.free hg,J.rel,J.keeps,?_,J.B,λg hl hn=>J.kn g hl λhc=>hn hc.1⟩
 .have hl:b<h1.length:=by
   rcases Yby b h1.length with q|q
   .exact q
   .rw[J.dom b q]at hr;cases hr
  rw[Zua J.inj hl];exact hr
 .intro b hb hb0;rw[Zi9]at hb;rw[Z1l λi hi he=>hb ⟨i,Yb _,by omega,he⟩];exact hb0
end
theorem Zp0{o:Oper}(R:Rel N base ρ h w){nx f:Nat}{vs:List AV}{vals:Array Value}(hargs:RVs ρ w (Free N ρ h) vs vals.toList){r:AV}{h1:List Blk}
  (hu:∀j,(Z0 h vs).length<=j->j<h1.length->ρ (nx+(j-(Z0 h vs).length))=none) (hcl:Zdb h (Z0 h vs) (Zv vs)=true) (hG:Zbq P f (subA (Z0 h vs) vs) (subH h (Z0 h vs)) r h1)
  (hex:(execOp a.eval o).run P w=.ok (.enter f vals) w) {K:Act->World->Prop} {Q:Exit->Act->World->Prop}
  (hK:∀val w' ρ',After N base ρ h w (ren (bk (Z0 h vs) nx) r) (Zbp (Z0 h vs) nx h1 0) val w' ρ'->K (a.put o.dst val) w'):o.wp P a w K Q:=by
 obtain⟨hin,hcl2⟩:=Zpx hcl;have hnd:(Z0 h vs).Nodup:=Zpv _ _ _ Yba;have hroot:=Z1k R hargs;generalize Z0 h vs=ids at *
 unfold Oper.wp;rw[hex];show Calls P f vals w _;have hF:∀g,Free N ρ h g->Free (subP N ρ h w ids) (renM ρ ids) (subH h ids) g:=λg hg=>Zpw hg ⟨hg.1,λb r _=>hg.2 b r⟩
 refine(hG.2 (subP N ρ h w ids) base w (renM ρ ids) vals (R.sub hnd hcl2) (λb hb=>Zt5 (by simpa[subH]using hb))
  (hargs.ren _ (λb hb r hr=>by rw[Zi6 (hin b hb)];exact hr) λg _ hg=>hF g hg) hF).mono ?_
 rintro e w' ⟨v,ρ1,rfl,hB,hR1,hv,hdom,hlen,hkn,hfz,hrt⟩;have hl:(subH h ids).length=ids.length:=by simp[subH]
 rw[hl]at hlen hrt
 have J:BackH N base ρ h w ids nx ρ1 h1 w':=⟨R,hnd,hroot,hlen,λj hj=>by
  have:=hu (j+ids.length) (by omega) (by omega)
  rwa [Ycy]at this,hR1,hB,hdom,hkn,hfz,hrt⟩
 exact hK v w' _ (J.after hv)
theorem Free.congr{h':List Blk}(hg:∀b,gt h b=gt h' b):Free N ρ h=Free N ρ h':=by
 funext g;unfold Free;simp only[hg]
theorem Rel.congr{h':List Blk}(hg:∀b,gt h b=gt h' b)(R:Rel N base ρ h w):Rel N base ρ h' w:=by
 have hF:=Free.congr (N:=N) (ρ:=ρ) hg;refine⟨R.hb,R.hN,?_,?_,?_,?_⟩
 .intro b r g hr hd;rw[<-hg]at hd;exact R.hO b r g hr hd
 .intro b hb;rw[<-hg]at hb;obtain⟨r,h1,h2⟩:=R.blk b hb;exact⟨r,h1,by rw[<-hg,<-hF];exact h2⟩
 .intro b b' r r' g h1 h2 h3 h4;rw[<-hg]at h3 h4;exact R.inj b b' r r' g h1 h2 h3 h4
 .intro b b' r r' g h1 h2 h3 h4;rw[<-hg]at h3 h4;exact R.apart b b' r r' g h1 h2 h3 h4
theorem ren_back{f g:Nat->Nat}:∀(v:AV),(∀c∈refs v,g (f c)=c)->ren g (ren f v)=v:=by
 intro v;refine AV.rec (motive_1:=λv=>(∀c∈refs v,g (f c)=c)->ren g (ren f v)=v) (motive_2:=λvs=>(∀c∈Zv vs,g (f c)=c)->rens g (rens f vs)=vs) ?_ ?_ ?_ ?_ ?_ ?_ ?_ ?_ ?_ ?_ ?_ ?_ ?_ v
 .intro _;rfl
 .intro _;rfl
 .intro x _;rfl
 .intro cs ih h;simp[ren,ih (by simpa[refs]using h)]
 .intro cs ih h;simp[ren,ih (by simpa[refs]using h)]
 .intro b off h;simp[ren,h b (by simp[refs])]
 .intro b i sz off h;simp[ren,h b (by simp[refs])]
 .intro cs off _;rfl
 .intro b h;simp[ren,h b (by simp[refs])]
 .intro b n h;simp[ren,h b (by simp[refs])]
 .intro fn cs ih h;simp[ren,ih (by simpa[refs]using h)]
 .intro _;rfl
 .intro v vs ih1 ih2 h;simp only[Zv,Yg]at h;simp[rens,ih1 (λc hc=>h c (.inl hc)),ih2 (λc hc=>h c (.inr hc))]
theorem Z1m{f g:Nat->Nat}:∀(vs:List AV),(∀c∈Zv vs,g (f c)=c)->rens g (rens f vs)=vs
 |[],_=>rfl
 |v::vs,h=>by
  simp only[Zv,Yg]at h;simp[rens,ren_back v (λc hc=>h c (.inl hc)),Z1m vs (λc hc=>h c (.inr hc))]
theorem Zbgb{f g:Nat->Nat}(x:Blk)(h:∀c∈Zbu x,g (f c)=c):renB g (renB f x)=x:=by
 cases x with
 |box cs=>simp[renB,Z1m cs h]
 |det e sz es i off b=>simp[renB,h b (by simp[Zbu])]
 |_=>rfl
theorem Zub(ids:List Nat)(nx:Nat):∀(xs ys:List Blk) (i:Nat),Zbp ids nx (xs++ys) i=Zbp ids nx xs i++Zbp ids nx ys (i+xs.length)
 |[],ys,i=>by simp[Zbp]
 |x::xs,ys,i=>by simp[Zbp,Zub ids nx xs ys (i+1),Yci,Nat.add_comm 1]
theorem Zbgc{u:List (Nat×Blk)}:∀{h h':List Blk},(∀b,gt h b=gt h' b)->∀b,gt (upd h u) b=gt (upd h' u) b:=by
 induction u with
 |nil=>intro h h' hg b;exact hg b
 |cons p u ih =>
  intro h h' hg b;obtain⟨c,x⟩:=p;exact ih (λb=>by rw[Zcc,Zcc,hg]) b
theorem Zbgd{ids:List Nat}(hnd:ids.Nodup)(hcl:∀b∈ids,∀c∈Zbu (gt h b),c∈ids)(nx b:Nat):gt (upd h (Zbp ids nx (subH h ids) 0)) b=gt h b:=by
 have hl:(subH h ids).length=ids.length:=by simp[subH]
 by_cases hb:b∈ids
 .obtain⟨i,hi⟩:=Ydc hb;have hil:=(Yz.1 hi).1;have hinj:∀j k,j<ids.length->k<ids.length->bk ids nx j=bk ids nx k->j=k:=λj k hj hk he=>bk_inj hnd (m:=ids.length) (λq hq=>by omega) hj hk he
  have:=Zt9 ids nx (subH h ids) 0 h (λj k _ h2 _ h4=>hinj j k (by omega) (by omega)) i (Yb _) (by omega);rw[Zfe hi]at this;rw[this];have e:gt (subH h ids) (i-0)=renB (λc=>idx c ids 0) (gt h b):=by
   rw[Nat.sub_zero,subH,Zi7,hi]
  rw[e];refine Zbgb _ λc hc=>?_
  obtain⟨j,hj⟩:=Ydc (hcl b hb c hc);rw[idx_at hnd hj,Zfe hj]
 .exact Zpz ids nx _ 0 h b λj _ h2 he=>hb (by
   have hj:ids[j]?=some (ids[j]'(by omega)):=by simp
   rw[Zfe hj]at he
   exact he▸Y6 hj)
theorem After.congr{v:AV}{u u':List (Nat×Blk)}{val:Value}{w':World}{ρ':Map}(hA:After N base ρ h w v u val w' ρ')(hg:∀b,gt (upd h u) b=gt (upd h u') b)(hs:∀b,b ∉ u'.map Prod.fst->ρ b=none->ρ' b=none):After N base ρ h w v u' val w' ρ':=by
 have hF:=Free.congr (N:=N) (ρ:=ρ') hg;exact⟨by rw[<-hF];exact hA.val,hA.rel.congr hg,by rw[<-hF];exact hA.keeps,hs,hA.below,hA.kn⟩
theorem Zbge{o:Oper}(R:Rel N base ρ h w){nx f:Nat}{vs:List AV}{vals:Array Value}(hargs:RVs ρ w (Free N ρ h) vs vals.toList){r:AV}{hn:List Blk}
  (hu:∀b,b∈(Zbp (Z0 h vs) nx hn (Z0 h vs).length).map Prod.fst->nx<=b->ρ b=none) (hcl:Zdb h (Z0 h vs) (Zv vs)=true)
  (hG:Zbq P f (subA (Z0 h vs) vs) (subH h (Z0 h vs)) r (subH h (Z0 h vs)++hn)) (hex:(execOp a.eval o).run P w=.ok (.enter f vals) w) {K:Act->World->Prop} {Q:Exit->Act->World->Prop}
  (hK:∀val w' ρ',After N base ρ h w (ren (bk (Z0 h vs) nx) r) (Zbp (Z0 h vs) nx hn (Z0 h vs).length) val w' ρ'->K (a.put o.dst val) w'):o.wp P a w K Q:=by
 have hl:(subH h (Z0 h vs)).length=(Z0 h vs).length:=by simp[subH]
 refine Zp0 R (nx:=nx) hargs (λj h1 h2=>?_) hcl hG hex λval w' ρ' hA=>?_
 .rw[Yq,hl]at h2;refine hu _ ((Zi9 _ _ _ _ _).2 ⟨j,h1,h2,Zgk h1⟩) (Nat.le_add_right _ _)
 .obtain⟨hin,hcl2⟩:=Zpx hcl;have hnd:(Z0 h vs).Nodup:=Zpv _ _ _ Yba;refine hK val w' ρ' (hA.congr (λb=>?_) λb hb hb0=>?_)
  .rw[Zub,Zlf,hl,Yj];exact Zbgc (λc=>Zbgd hnd hcl2 nx c) b
  .refine hA.same b (λhm=>?_) hb0;rw[Zub,Y7,Yg,hl,Yj]at hm;rcases hm with hm|hm
   .obtain⟨j,_,h2,h3⟩:=(Zi9 _ _ _ _ _).1 hm;rw[Yj,hl]at h2;have hj:(Z0 h vs)[j]?=some ((Z0 h vs)[j]'h2):=by simp[h2]
    rw[Zfe hj]at h3;obtain⟨r0,hr0⟩:=Z1k R hargs b (h3▸Y6 hj);rw[hb0]at hr0;cases hr0
   .exact hb hm
def isC:MOp->Prop
 |.call _ _=>True
 |.xcall _ _=>True
 |.fcall _ _=>True
 |.icall _ _=>True
 |.scall _ _ _=>True
 |.pcall _ _=>True
 |.dcall _ _=>True
 |_=>False
theorem Zp1{o:Oper}{k:MOp}(hk:Z7 P inl ops o.op=some k)(hE:Zbm ρ w (Free N ρ h) e a.tmps)(R:Rel N base ρ h w){nx:Nat}{v:AV}{u:List (Nat×Blk)}(hn:isC k\/ρ nx=none)(hu:∀b,b∈u.map Prod.fst->nx<=b->ρ b=none)
  (hev:opR (Zbq P) h nx e k v u) {K:Act->World->Prop} {Q:Exit->Act->World->Prop} (hK:∀val w' ρ',After N base ρ h w v u val w' ρ'->K (a.put o.dst val) w'):o.wp P a w K Q:=by
 have plain:Zs h nx e k=some (v,u)->o.wp P a w K Q:=by
  intro hev;have hnx:ρ nx=none:=by
   rcases hn with hn|hn
   .cases k<;>first|exact hn.elim|cases hev
   .exact hn
  obtain⟨val,w',ρ',hrun,h1,h2,h3,h4,h5,h6⟩:=op_sound hk hE R hnx hev;have:=hK val w' ρ' ⟨h1,h2,h3,λb hb hb0=>by rw[h4 b hb];exact hb0,h5,h6⟩;unfold Oper.wp;rcases hrun with hrun|⟨hrun,rfl⟩
  .rw[hrun];exact this
  .rw[hrun];exact this
 have hul:∀{ids:List Nat} {h1:List Blk},u=Zbp ids nx h1 0->∀j,ids.length<=j->j<h1.length->ρ (nx+(j-ids.length))=none:=by
  intro ids h1 he j h2 h3;exact hu _ (by rw[he];exact(Zi9 _ _ _ _ _).2 ⟨j,Yb _,by omega,Zgk h2⟩) (Nat.le_add_right _ _)
 cases k<;>try (exact plain hev)
 .rename_i f args;simp only[opR]at hev;obtain⟨as,hfz,r,hr,hG,hsh,rfl,rfl⟩:=hev;obtain⟨c,hoc,hcc,has,hcl⟩:=(Zhl hk).1 f args rfl;exact Zbf8 R (vals:=c.args.map a.eval) (by rw[Ybe];exact Zgf hE has) hu hfz hG hsh (Zi8 hoc hcc hcl w) hK
 .rename_i f args;simp only[opR]at hev;obtain⟨as,hfz,r,hr,hG,hsh,rfl,rfl⟩:=hev;obtain⟨c,hoc,hcc,has,hcl⟩:=(Zhl hk).1 f args rfl;exact Zbga R (vals:=c.args.map a.eval) (by rw[Ybe];exact Zgf hE has) hu hfz hG hsh (Zi8 hoc hcc hcl w) hK
 .rename_i f args;simp only[opR]at hev;obtain⟨as,hfz,hno,r,hr,hG,hd,rfl⟩:=hev;obtain⟨c,hoc,hcc,has,hcl⟩:=(Zhl hk).1 f args rfl;exact Zbf9 R (vals:=c.args.map a.eval) (by rw[Ybe];exact Zgf hE has) hfz hno hG hd (Zi8 hoc hcc hcl w) hK
 .rename_i f args;simp only[opR,Zb2]at hev;obtain⟨hcl',r,h1,hG,rfl,rfl⟩:=hev;obtain⟨c,hoc,hcc,has,hcl⟩:=(Zhl hk).1 f args rfl;exact Zp0 R (vals:=c.args.map a.eval) (by rw[Ybe];exact Zgf hE has) (hul rfl) hcl' hG (Zi8 hoc hcc hcl w) hK
 .rename_i f args p;simp only[opR,Zb2]at hev;obtain⟨hcl',r,h1,hG,u2,hp,rfl,rfl⟩:=hev;obtain⟨c,hoc,hcc,has,hcl⟩:=(Zhl hk).1 f args rfl;refine Zp0 R (nx:=nx) (vals:=c.args.map a.eval) (by rw[Ybe];exact Zgf hE has) (λj h2 h3=>?_) hcl' hG (Zi8 hoc hcc hcl w) λval w' ρ' hA=>?_
  .refine hu _ ?_ (Nat.le_add_right _ _);rw[Y7,Yg];exact .inl ((Zi9 _ _ _ _ _).2 ⟨j,Yb _,by omega,Zgk h2⟩)
  .obtain⟨ρ2,q1,q2,q3⟩:=pack_rel hA.rel hp;refine hK val w' ρ2 ⟨?_,?_,?_,λb hb hb0=>q3 b (hA.same b (λhm=>hb (by rw[Y7,Yg];exact .inl hm)) hb0),hA.below,hA.kn⟩
   .rw[Zlf];exact hA.val.keep q2
   .rw[Zlf];exact q1
   .rw[Zlf];exact hA.keeps.trans q2 hA.below.size
 .rename_i f args;simp only[opR,Zfb]at hev;obtain⟨hcl',r,hn,hG,rfl,rfl⟩:=hev;obtain⟨c,hoc,hcc,has,hcl⟩:=(Zhl hk).1 f args rfl;exact Zbge R (vals:=c.args.map a.eval) (by rw[Ybe];exact Zgf hE has) hu hcl' hG (Zi8 hoc hcc hcl w) hK
 .rename_i x args;simp only[opR,Zb2]at hev;obtain⟨g,caps,hg,hcl',r,h1,hG,rfl,rfl⟩:=hev;obtain⟨c,y,hoc,hcc,hy,has⟩:=(Zhl hk).2 x args rfl;have hry:=Z6 hE hy;rw[hg]at hry;obtain⟨cv,hcv,hcaps⟩:=hry.fn_val;have hex:(execOp a.eval o).run P w=.ok (.enter g (c.args.map a.eval++cv)) w:=by
   unfold execOp;rw[hoc];simp[resolve,hcc,hcv,Deferred.ofValue,invoke,Z1j hG.1]
  exact Zp0 R (vals:=c.args.map a.eval++cv) (by rw[Array.toList_append,Ybe];exact(Zgf hE has).append hcaps) (hul rfl) hcl' hG hex hK
end
open Go.RowKit (Below)
def Zdd(ρ:Map)(w:World)(F:Nat->Prop):List Env->List (Array Value)->Prop
 |[],[]=>True
 |e::es,t::ts=>Zbm ρ w F e t/\Zdd ρ w F es ts
 |_,_=>False
structure RelS (N:Par) (base:Nat) (w0:World) (nt:Nat) (ts:List (Array Value)) (ρ:Map) (s:S) (a:Act) (w:World):Prop where
 rel:Rel N base ρ s.h w
 env:Zbm ρ w (Free N ρ s.h) s.env a.tmps
 stk:Zdd ρ w (Free N ρ s.h) s.stk ts
 dom:∀b,s.h.length<=b->ρ b=none
 defers:a.defers=[]
 size:a.tmps.size=nt
 below:Below base w0 w
 kn:∀g,g<w0.heap.size->¬N.a g->w.heap[g]?=w0.heap[g]?
 fz:∀g,g<w0.heap.size->N.z g->Free N ρ s.h g/\w.heap[g]?=w0.heap[g]?
section
variable{P:Program}{N:Par}{base:Nat}{w0:World}{nt:Nat}{ts:List (Array Value)}{inl:List Nat}{ρ:Map}{w:World}{a:Act}{d:Option Nat}{s:S}{F:Nat->Prop}{e:Env}{v:AV}{val:Value}{ops:Array Oper}{o:Oper}
theorem Zdd.keep{ρ ρ':Map}{w w':World}{F F':Nat->Prop}(hk:Keeps ρ w F ρ' w' F'):∀{es:List Env} {ts:List (Array Value)},Zdd ρ w F es ts->Zdd ρ' w' F' es ts
 |[],[],_=>trivial
 |_::_,_::_,h=>⟨λs=>(h.1 s).keep hk,Zdd.keep hk h.2⟩
 |[],_::_,h=>h.elim
 |_::_,[],h=>h.elim
theorem stB_len(h:List Blk)(b:Nat)(x:Blk):h.length<=(stB h b x).length/\b<(stB h b x).length:=by
 induction h generalizing b with
 |nil =>
  induction b with
  |zero=>simp[stB]
  |succ b ih=>simp[stB];exact ih.2
 |cons y h ih =>
  cases b with
  |zero=>simp[stB]
  |succ b=>simp[stB];exact ih b
theorem Zuc(u:List (Nat×Blk)):∀h:List Blk,h.length<=(upd h u).length/\∀b∈u.map Prod.fst,b<(upd h u).length:=by
 induction u with
 |nil=>intro h;simp[upd]
 |cons p u ih =>
  intro h;obtain⟨b,x⟩:=p;have h1:=stB_len h b x;have h2:=ih (stB h b x);simp only[upd];refine⟨by omega,?_⟩;intro c hc;simp only[Yl,Yw]at hc;rcases hc with rfl|hc
  .omega
  .exact h2.2 c hc
theorem Zp2(hE:Zbm ρ w F e a.tmps)(hv:RV ρ w F v val)(hd:∀x,d=some x->x<a.tmps.size):Zbm ρ w F (put d v e) (a.put d val).tmps:=by
 cases d with
 |none=>exact hE
 |some d =>
  intro s;have hlt:=hd d rfl;simp only[put,lk,Act.put];split
  .rename_i hs;subst hs;simpa[Array.getD,hlt]using hv
  .rename_i hs;have:=hE s;simp only[Ybj,Array.getElem?_setIfInBounds]at this|-;rw[if_neg hs];exact this
theorem Zp3(a:Act)(d:Option Nat)(v:Value):(a.put d v).defers=a.defers:=by cases d<;>rfl
theorem Zp4(a:Act)(d:Option Nat)(v:Value):(a.put d v).tmps.size=a.tmps.size:=by cases d<;>simp[Act.put]
theorem RelS.after{ρ':Map}{w':World}(hS:RelS N base w0 nt ts ρ s a w){u:List (Nat×Blk)}(hA:After N base ρ s.h w v u val w' ρ')(hd:∀x,d=some x->x<nt) :
  RelS N base w0 nt ts ρ' { s with env:=put d v s.env,h:=upd s.h u } (a.put d val) w':=by
 refine⟨hA.rel,Zp2 (λs=>(hS.env s).keep hA.keeps) hA.val λx hx=>by rw[hS.size];exact hd x hx,hS.stk.keep hA.keeps,?_,by rw[Zp3];exact hS.defers,by rw[Zp4];exact hS.size,hS.below.trans hA.below,
  λg hg hn=>(hA.kn g (Ybs hg hS.below.size) hn).trans (hS.kn g hg hn),λg hg hz=>?_⟩
 .intro b hb;have h1:=Zuc u s.h;exact hA.same b (λhc=>by have:=h1.2 b hc;simp only at hb;omega) (hS.dom b (by simp only at hb;omega))
 .obtain⟨h1,h2⟩:=hS.fz g hg hz;obtain⟨h3,h4⟩:=hA.keeps.free g (Ybs hg hS.below.size) h1;exact⟨h3,h4.trans h2⟩
theorem RelS.skip(hS:RelS N base w0 nt ts ρ s a w)(hd:∀x,d=some x->x<nt) :
  RelS N base w0 nt ts ρ { s with env:=put d (.tup []) s.env } (a.put d undef) w :=
 ⟨hS.rel,Zp2 hS.env (RV.tup (c:=#[]) .nil) λx hx=>by rw[hS.size];exact hd x hx,hS.stk,hS.dom,by rw[Zp3];exact hS.defers,by rw[Zp4];exact hS.size,hS.below,hS.kn,hS.fz⟩
theorem runW_opR{Γ:Ctr}{o:MO}{K:S->Prop}(hr:runW Γ o s K):∃v u,opR Γ s.h s.h.length s.env o.op v u/\K { s with env:=put o.dst v s.env,h:=upd s.h u }:=by
 cases ho:o.op with
 |xcall f args =>
  simp only[runW,ho]at hr;obtain⟨as,h1,r,hr',h2,h3,h4⟩:=hr
  exact⟨_,_,⟨as,h1,r,hr',h2,h3,rfl,rfl⟩,h4⟩
 |fcall f args =>
  simp only[runW,ho]at hr;obtain⟨as,h1,hno,r,hr',d,h2,h3,h4⟩:=hr
  exact⟨_,_,⟨as,h1,hno,r,hr',h2,h3,rfl⟩,h4⟩
 |scall f args p =>
  simp only[runW,ho,Zb2]at hr;obtain⟨h1,r,h2,h3,u2,h4,h5⟩:=hr
  exact⟨_,_,⟨h1,r,h2,h3,u2,h4,rfl,rfl⟩,h5⟩
 |icall f args =>
  simp only[runW,ho,Zb2]at hr;obtain⟨h1,r,h2,h3,h4⟩:=hr
  exact⟨_,_,⟨h1,r,h2,h3,rfl,rfl⟩,h4⟩
 |pcall f args =>
  simp only[runW,ho,Zfb]at hr;obtain⟨h1,r,h2,h3,h4⟩:=hr
  exact⟨_,_,⟨h1,r,h2,h3,rfl,rfl⟩,h4⟩
 |dcall f args =>
  simp only[runW,ho]at hr;split at hr
  .rename_i g caps hg;obtain⟨h1,r,h2,h3,h4⟩:=hr;exact⟨_,_,⟨g,caps,hg,h1,r,h2,h3,rfl,rfl⟩,h4⟩
  .exact hr.elim
 |call f args =>
  simp only[runW,ho]at hr;obtain⟨as,h1,r,hr',h2,h3,h4⟩:=hr
  exact⟨_,_,⟨as,h1,r,hr',h2,h3,rfl,rfl⟩,h4⟩
 |_ =>
  simp only[runW,ho]at hr;split at hr
  .rename_i v u hev;exact⟨v,u,hev,hr⟩
  .exact hr.elim
theorem Z1n{m:MO}(hc:compO P inl nt ops o=some m):Z7 P inl ops o.op=some m.op/\m.dst=o.dst/\(∀x,o.dst=some x->x<nt)/\
  ((o.guard=none/\m.guard=none)\/∃j b d,o.guard=some (j,b)/\(ops[j]?).bind (·.dst)=some d/\m.guard=some (d,b)):=by
 unfold compO at hc;split at hc
 .rename_i hd;split at hc
  .rename_i k g hk hg;cases hc;refine⟨hk,rfl,?_,?_⟩
   .intro x hx;rw[hx]at hd;simpa using hd
   .split at hg
    .rename_i hgn;cases hg;exact .inl ⟨hgn,rfl⟩
    .rename_i j b hgn;obtain⟨d,h1,h2⟩:=Yi.1 hg;subst h2;exact .inr ⟨j,b,d,hgn,h1,rfl⟩
  .cases hc
 .cases hc
theorem Z1o(hE:Zbm ρ w F e a.tmps){j d:Nat}{b:Bool}(hg:o.guard=some (j,b))(hd:(ops[j]?).bind (·.dst)=some d) :
  (∀c,lk d e=.t (.bool c)->Region.wanted o (yielded ops a.tmps)=decide (c=b))/\(lk d e=.tup []->Region.wanted o (yielded ops a.tmps)=false):=by
 have hr:=hE d;constructor
 .intro c hc;rw[hc]at hr;have h1:=hr.bool_inv;have h2:a.tmps[d]?=some (.bool c):=by
   rw[Ybj]at h1
   cases hx:a.tmps[d]? with
   |none=>rw[hx]at h1;cases h1
   |some y=>rw[hx]at h1;simp at h1;rw[h1]
  simp only[Region.wanted,hg,yielded,hd,Option.bind_some,h2];cases c<;>cases b<;>rfl
 .intro hc;rw[hc]at hr;obtain⟨c,h1,h2⟩:=hr.tup_val;have h3:c=#[]:=by cases h2':c.toList with|nil=>simpa using h2'|cons x xs=>rw[h2']at h2;cases h2
  subst h3;simp only[Region.wanted,hg,yielded,hd,Option.bind_some];rw[Ybj]at h1
  cases hx:a.tmps[d]? with
  |none=>rfl
  |some y=>rw[hx]at h1;simp at h1;subst h1;rfl
theorem Z1p{Γ:Ctr}(hΓ:Γ=Zbq P){ops:Array Oper}{Qc:Exit->Act->World->Prop}{K:S->Prop}
  (hQ:∀s a w ρ,K s->RelS N base w0 nt ts ρ s a w->Qc .normal a w):∀(l:List Oper) (os:List MO),mapO (compO P inl nt ops) l=some os->∀(s:S) (a:Act) (w:World) (ρ:Map),regW Γ os s K->RelS N base w0 nt ts ρ s a w->wpList P ops Qc l a w
 |[],os,hm,s,a,w,ρ,hr,hS=>by cases hm;exact hQ s a w ρ hr hS
 |o::l,os,hm,s,a,w,ρ,hr,hS=>by
  obtain⟨m,ms,h1,h2,rfl⟩:=Ze1 hm;obtain⟨hk,hdst,hd,hguard⟩:=Z1n h1;simp only[regW]at hr;have ih:=Z1p hΓ hQ l ms h2;have run:runW Γ m s (λs'=>regW Γ ms s' K)->o.wp P a w (wpList P ops Qc l) Qc:=by
   intro hrun;obtain⟨v,u,hop,hK⟩:=runW_opR hrun;rw[hΓ]at hop;refine Zp1 hk hS.env hS.rel (nx:=s.h.length) (.inr (hS.dom _ (Yh _))) (λb _ hb=>hS.dom b hb) hop λval w' ρ' hA=>?_
   exact ih _ _ _ ρ' hK (by rw[hdst];exact hS.after hA hd)
  have skip:regW Γ ms { s with env:=put m.dst (.tup []) s.env } K->wpList P ops Qc l (a.put o.dst undef) w:=λhK=>ih _ _ _ ρ hK (by rw[hdst];exact hS.skip hd)
  refine wpList_step λK' hK'=>?_
  have run':runW Γ m s (λs'=>regW Γ ms s' K)->o.wp P a w K' Qc:=λh=>Oper.wp_mono hK' (run h)
  rcases hguard with⟨hg1,hg2⟩|⟨j,b,d,hg1,hg2,hg3⟩
  .simp only[opW,hg2]at hr;simp only[Region.wanted,hg1,if_true];exact run' hr
  .have hw:=Z1o hS.env hg1 hg2;simp only[opW,hg3]at hr;split at hr
   .rename_i c hc;rw[hw.1 c hc];split at hr
    .rename_i hcb;simp only[hcb,decide_true,if_true];exact run' hr
    .rename_i hcb;simp only[hcb,decide_false,Ycj,if_false];exact hK' _ _ (skip hr)
   .rename_i hc;rw[hw.2 hc];simp only[Ycj,if_false];exact hK' _ _ (skip hr)
   .exact hr.elim
end
theorem Zbgf(xs ys:List AV):Zv (xs++ys)=Zv xs++Zv ys:=by
 induction xs with
 |nil=>rfl
 |cons x xs ih=>simp[Zv,ih]
theorem Zbgg{v:AV}{vs:List AV}(h:v∈vs){b:Nat}(hb:b∈refs v):b∈Zv vs:=by
 induction vs with
 |nil=>cases h
 |cons x xs ih =>
  simp only[Zv,Yg];rcases Yw.1 h with rfl|h
  .exact .inl hb
  .exact .inr (ih h)
section
variable{h h':List Blk}{e e':Env}{v:AV}{vs cs:List AV}{rs:List Nat}{b sz nx:Nat}{ps:List (Nat×Opd)}{st:Bool}{k:MOp}
theorem Zud(hc:cellsOf v=some vs):Zv vs=refs v:=by
 cases v<;>simp[cellsOf]at hc<;>subst hc<;>simp[Zv,refs]
theorem Zbgh(hh:∀b∈refs v,gt h b=gt h' b):toT h v=toT h' v:=by
 cases v<;>simp[toT];rename_i b;rw[hh b (by simp[refs])]
theorem Zue(hh:∀b∈Zv vs,gt h b=gt h' b):toTs h vs=toTs h' vs:=by
 induction vs with
 |nil=>rfl
 |cons v vs ih =>
  simp only[toTs];rw[Zbgh (λb hb=>hh b (by simp[Zv,hb])),ih (λb hb=>hh b (by simp[Zv,hb]))]
theorem Zbgi(hh:∀b∈refs v,gt h b=gt h' b):frzT h v=frzT h' v:=by
 cases v<;>simp[frzT];rename_i b;rw[hh b (by simp[refs])]
theorem Z1q(hh:∀b∈Zv vs,gt h b=gt h' b):Zdu h vs=Zdu h' vs:=by
 induction vs with
 |nil=>rfl
 |cons v vs ih =>
  simp only[Zdu];rw[Zbgi (λb hb=>hh b (by simp[Zv,hb])),ih (λb hb=>hh b (by simp[Zv,hb]))]
theorem Zuf{h:List Blk}(hb:b∈rs):b∈Zga h rs:=Ycc _ (Ycc _ hb)
theorem Z1r{h:List Blk}{c:Nat}(hb:b∈rs)(hc:c∈Zbu (gt h b)):c∈Zga h rs:=Ycc _ (Ycd _ (Ycz.2 ⟨b,hb,hc⟩))
theorem Zp5{h:List Blk}(hb:b∈Z8 h 200 rs []):b∈Zga h rs:=Ycd _ hb
theorem Zp6{h:List Blk}:∀(n:Nat) (todo acc:List Nat),∀b∈acc,b∈Z8 h n todo acc
 |0,_,_,b,hb=>by simpa[Z8]using hb
 |n+1,[],acc,b,hb=>by simpa[Z8]using hb
 |n+1,c::todo,acc,b,hb=>by
  simp only[Z8];split
  .exact Zp6 n _ _ b hb
  .exact Zp6 n _ _ b (by simp[hb])
def Zgl(h h':List Blk)(rs:List Nat):Prop:=∀b∈rs,gt h b=gt h' b/\∀c∈Zbu (gt h b),gt h c=gt h' c
theorem Zug{h h':List Blk}(hh:∀b∈Zga h rs,gt h b=gt h' b):Zgl h h' rs:=λb hb=>⟨hh b (Zuf hb),λc hc=>hh c (Z1r hb hc)⟩
theorem Zgl.sub{h h':List Blk}{rs':List Nat}(hh:Zgl h h' rs)(hs:∀b∈rs',b∈rs):Zgl h h' rs':=λb hb=>hh b (hs b hb)
theorem Zuh{h h':List Blk}:∀(n:Nat) (todo acc:List Nat),(∀b∈Z8 h n todo acc,gt h b=gt h' b)->Z8 h' n todo acc=Z8 h n todo acc
 |0,_,_,_=>rfl
 |n+1,[],acc,_=>rfl
 |n+1,c::todo,acc,hh=>by
  simp only[Z8]at hh|-;split
  .rename_i hc;rw[if_pos hc]at hh;exact Zuh n todo acc hh
  .rename_i hc;rw[if_neg hc]at hh
   have:gt h c=gt h' c:=hh c (Zp6 n _ _ c (by simp))
   rw[<-this];exact Zuh n _ _ hh
theorem Z1s(hh:Zgl h h' (refs v)):frz1 h v=frz1 h' v:=by
 cases v<;>simp only[frz1]
 .rename_i cs;rw[Z1q λb hb=>(hh b (by simpa[refs]using hb)).1]
 .rename_i b off;obtain⟨hb,hc⟩:=hh b (by simp[refs]);rw[<-hb]
  cases hg:gt h b with
  |box cs=>simp only;rw[Z1q λc hc'=>hc c (by rw[hg];exact hc')]
  |_=>rfl
 .rename_i b;rw[(hh b (by simp[refs])).1]
theorem Zbgj(hh:Zgl h h' (Zv vs)):Zfo h vs=Zfo h' vs:=by
 induction vs with
 |nil=>rfl
 |cons v vs ih =>
  simp only[Zfo];rw[Z1s (hh.sub λc hc=>by simp[Zv,hc]),ih (hh.sub λc hc=>by simp[Zv,hc])]
theorem Zbgk(hh:Zgl h h' (refs v)):frz h v=frz h' v:=by
 by_cases hx:∃g cs,v=.fn g cs
 .obtain⟨g,cs,rfl⟩:=hx;simp only[frz];rw[Zbgj (hh.sub λc hc=>by simpa[refs]using hc)]
 .have e:∀h,frz h v=frz1 h v:=by
   intro h;cases v<;>first|rfl|exact absurd ⟨_,_,rfl⟩ hx
  rw[e,e,Z1s hh]
theorem Zui(hh:Zgl h h' (Zv vs)):frzs h vs=frzs h' vs:=by
 induction vs with
 |nil=>rfl
 |cons v vs ih =>
  simp only[frzs];rw[Zbgk (hh.sub λc hc=>by simp[Zv,hc]),ih (hh.sub λc hc=>by simp[Zv,hc])]
theorem Z1t(hh:∀b∈Z8 h 200 (Zv vs) [],gt h b=gt h' b):Z0 h' vs=Z0 h vs/\subH h' (Z0 h vs)=subH h (Z0 h vs)/\Zdb h' (Z0 h vs) (Zv vs)=Zdb h (Z0 h vs) (Zv vs):=by
 refine⟨Zuh 200 _ _ hh,?_,?_⟩
 .unfold subH;exact Ybt λb hb=>by rw[hh b hb]
 .unfold Zdb;congr 1;rw[Bool.eq_iff_iff,Ys,Ys];constructor
  .intro q b hb;rw[hh b hb];exact q b hb
  .intro q b hb;rw[<-hh b hb];exact q b hb
theorem Zbgl{ps:List (Nat×Nat×Opd)}(he:∀p∈ps,ev e p.2.2=ev e' p.2.2):parts e cs ps=parts e' cs ps:=by
 induction ps generalizing cs with
 |nil=>rfl
 |cons p ps ih =>
  obtain⟨o,n,x⟩:=p;have h1:=he (o,n,x) (by simp);simp only at h1;have h2:=λcs=>ih (cs:=cs) (λp hp=>he p (by simp[hp]))
  simp only[parts,h1,h2]
theorem Zbgm(he:∀p∈ps,ev e p.2=ev e' p.2):Ze8 e cs ps=Ze8 e' cs ps:=by
 induction ps generalizing cs with
 |nil=>rfl
 |cons p ps ih =>
  obtain⟨n,x⟩:=p;have h1:=he (n,x) (by simp);simp only at h1;have h2:=λcs=>ih (cs:=cs) (λp hp=>he p (by simp[hp]))
  simp only[Ze8,h1,h2]
theorem Zbgn{es:List (List T)}(he:∀p∈ps,ev e p.2=ev e' p.2)(hh:∀p∈ps,∀b∈refs (ev e p.2),gt h b=gt h' b):elems h e sz es ps=elems h' e' sz es ps:=by
 induction ps generalizing es with
 |nil=>rfl
 |cons p ps ih =>
  obtain⟨n,x⟩:=p;have h1:=he (n,x) (by simp);have h3:=hh (n,x) (by simp);simp only at h1 h3;have h2:=λes=>ih (es:=es) (λp hp=>he p (by simp[hp])) (λp hp=>hh p (by simp[hp]))
  simp only[elems,h2,<-h1]
  cases hc:cellsOf (ev e x)with
  |none=>rfl
  |some vs =>
   simp only;rw[Zue (h:=h) (h':=h') (λb hb=>h3 b (by rw[<-Zud hc];exact hb))]
theorem Zbgo(hh:∀b∈refs v,gt h b=gt h' b):Zcf h st v=Zcf h' st v:=by
 cases v with
 |own b=>cases st<;>simp only[Zcf];rw[hh b (by simp[refs])]
 |t x=>cases st<;>cases x<;>rfl
 |_=>cases st<;>rfl
theorem Zbgp(hh:∀b∈refs v,gt h b=gt h' b):Zcb h st v=Zcb h' st v:=by
 cases v with
 |own b=>cases st<;>simp only[Zcb];rw[hh b (by simp[refs])]
 |t x=>cases st<;>cases x<;>first|rfl|(rename_i es;cases es<;>rfl)
 |_=>cases st<;>rfl
theorem Zbgq{mv:Bool}(hh:∀b∈refs v,gt h b=gt h' b):Zdt h sz mv v=Zdt h' sz mv v:=by
 cases v with
 |own b=>simp only[Zdt];rw[hh b (by simp[refs])]
 |t x=>cases x<;>rfl
 |_=>rfl
theorem Z1u{d:Nat}{o:Option Opd}(he:∀x,o=some x->ev e x=ev e' x):bnd e d o=bnd e' d o:=by
 cases o with
 |none=>rfl
 |some x=>simp[bnd,he x rfl]
theorem Zbgr(he:∀x∈Zw k,ev e x=ev e' x)(hh:∀x∈Zw k,∀b∈refs (ev e x),gt h b=gt h' b):Zs h nx e k=Zs h' nx e' k:=by
 cases k with
 |mov x=>simp[Zs,he x (by simp[Zw])]
 |pick c a b=>simp[Zs,he c (by simp[Zw]),he a (by simp[Zw]),he b (by simp[Zw])]
 |alloc zs=>rfl
 |box x=>simp[Zs,he x (by simp[Zw])]
 |build zs ps =>
  simp only[Zs]
  rw[Zbgl (λp hp=>he p.2.2 (by simp only[Zw,Y0];exact⟨p,hp,rfl⟩))]
 |bslice el sz n zs ps =>
  simp only[Zs]
  rw[Zbgn (λp hp=>he p.2 (by simp only[Zw,Y0];exact⟨p,hp,rfl⟩)) (λp hp=>hh p.2 (by simp only[Zw,Y0];exact⟨p,hp,rfl⟩))]
 |bptrs n ps =>
  simp only[Zs]
  rw[Zbgm (λp hp=>he p.2 (by simp only[Zw,Y0];exact⟨p,hp,rfl⟩))]
 |load n x =>
  have h1:=he x (by simp[Zw]);have h2:=hh x (by simp[Zw]);simp only[Zs,<-h1];cases hx:ev e x<;>simp only
  .rw[h2 _ (by rw[hx];simp[refs])]
  .rw[h2 _ (by rw[hx];simp[refs])]
 |loadU mv x =>
  have h1:=he x (by simp[Zw]);have h2:=hh x (by simp[Zw]);simp only[Zs,<-h1];cases hx:ev e x<;>simp only
  .rw[h2 _ (by rw[hx];simp[refs])]
  .rw[h2 _ (by rw[hx];simp[refs])]
 |store n x v =>
  have h1:=he x (by simp[Zw]);have h2:=hh x (by simp[Zw]);have h3:=he v (by simp[Zw]);have h4:=hh v (by simp[Zw]);simp only[Zs,<-h1,<-h3]
  cases hc:cellsOf (ev e v)with
  |none=>rfl
  |some vs =>
   simp only;rw[Zue (h:=h) (h':=h') (λb hb=>h4 b (by rw[<-Zud hc];exact hb))];cases hx:ev e x<;>simp only
   .rw[h2 _ (by rw[hx];simp[refs])]
   .rw[h2 _ (by rw[hx];simp[refs])]
 |storeF n x v =>
  have h1:=he x (by simp[Zw]);have h2:=hh x (by simp[Zw]);have h3:=he v (by simp[Zw]);have h4:=hh v (by simp[Zw]);simp only[Zs,<-h1,<-h3]
  cases hc:cellsOf (ev e v)with
  |none=>rfl
  |some vs =>
   simp only;rw[Zue (h:=h) (h':=h') (λb hb=>h4 b (by rw[<-Zud hc];exact hb))];cases hx:ev e x<;>simp only
   .rw[h2 _ (by rw[hx];simp[refs])]
 |nilchk x=>simp[Zs,he x (by simp[Zw])]
 |bin op x y=>simp[Zs,he x (by simp[Zw]),he y (by simp[Zw])]
 |beq n x y=>simp[Zs,he x (by simp[Zw]),he y (by simp[Zw])]
 |aeq n ks x y=>simp[Zs,he x (by simp[Zw]),he y (by simp[Zw])]
 |nileq n sl x =>
  simp only[Zs,<-he x (by simp[Zw])]
  rw[Zbgp (hh x (by simp[Zw]))]
 |mm m x y=>simp[Zs,he x (by simp[Zw]),he y (by simp[Zw])]
 |un op x=>simp[Zs,he x (by simp[Zw])]
 |conv k x=>simp[Zs,he x (by simp[Zw])]
 |tostr x =>
  have h1:=he x (by simp[Zw]);have h2:=hh x (by simp[Zw]);simp only[Zs,<-h1];cases hx:ev e x<;>simp only
  .rw[h2 _ (by rw[hx];simp[refs])]
 |mkfn f caps =>
  simp only[Zs]
  rw[Ybt (λx hx=>he x (by simpa[Zw]using hx))]
 |mkslice el sz bytes zs l c=>simp[Zs,he l (by simp[Zw]),he c (by simp[Zw])]
 |slice sz x lo hi =>
  have h1:=he x (by simp[Zw]);have h2:∀d,bnd e d lo=bnd e' d lo:=λd=>Z1u λy hy=>he y (by subst hy;simp[Zw])
  have h3:∀d,bnd e d hi=bnd e' d hi:=λd=>Z1u λy hy=>he y (by subst hy;simp[Zw])
  have h4:=hh x (by simp[Zw]);simp only[Zs,<-h1,h2,h3]
  cases hx:ev e x with
  |own b=>cases sz<;>simp only[h4 b (by rw[hx];simp[refs])]
  |t x=>cases sz<;>cases x<;>rfl
  |_=>cases sz<;>rfl
 |faddr off x=>simp[Zs,he x (by simp[Zw])]
 |field off n x=>simp[Zs,he x (by simp[Zw])]
 |iaddr sz x i =>
  have h1:=he x (by simp[Zw]);have h2:=hh x (by simp[Zw]);have h3:=he i (by simp[Zw]);simp only[Zs,<-h1,<-h3]
  cases hx:ev e x with
  |own b=>simp only;rw[h2 b (by rw[hx];simp[refs])]
  |t x=>cases x<;>rfl
  |_=>rfl
 |index x i=>simp[Zs,he x (by simp[Zw]),he i (by simp[Zw])]
 |aaddr n sz x i=>simp[Zs,he x (by simp[Zw]),he i (by simp[Zw])]
 |aidx n sz m x i=>simp[Zs,he x (by simp[Zw]),he i (by simp[Zw])]
 |ext x i=>simp[Zs,he x (by simp[Zw])]
 |len st x =>
  simp only[Zs,<-he x (by simp[Zw])]
  rw[Zbgo (hh x (by simp[Zw]))]
 |append el sz bytes mv x y =>
  have h1:=he x (by simp[Zw]);have h2:=hh x (by simp[Zw]);have h3:=he y (by simp[Zw]);have h4:=hh y (by simp[Zw]);simp only[Zs,<-h1,<-h3];rw[Zbgq h4]
  cases hx:ev e x with
  |own b=>simp only;rw[h2 b (by rw[hx];simp[refs])]
  |t x=>cases x<;>rfl
  |_=>rfl
 |call f args=>rfl
 |xcall f args=>rfl
 |fcall f args=>rfl
 |icall f args=>rfl
 |scall f args p=>rfl
 |pcall f args=>rfl
 |dcall f args=>rfl
theorem Zbgs{u:List (Nat×Blk)}(hev:Zs h nx e k=some (v,u))(hn:nx ∉ u.map Prod.fst)(nx':Nat):Zs h nx' e k=some (v,u):=by
 cases k<;>try exact hev
 case alloc zs=>simp[Zs]at hev;obtain⟨_,rfl⟩:=hev;simp at hn
 case box x =>
  simp only[Zs]at hev|-;split at hev
  .cases hev;simp at hn
  .cases hev
 case loadU mv x =>
  simp only[Zs]at hev|-
  cases hx:ev e x with
  |ptr b off=>simp only[hx]at hev|-;exact hev
  |eptr b i sz off =>
   simp only[hx]at hev|-
   repeat' split at hev
   all_goals first
    |(cases hev;done)
    |(cases hev;simp at hn;done)
    |(cases hev;simp_all)
  |_=>simp only[hx]at hev;cases hev
 case bslice el sz n zs ps =>
  simp only[Zs]at hev|-
  repeat' split at hev
  all_goals first
   |(cases hev;done)
   |(cases hev;simp at hn)
 case bptrs n ps =>
  simp only[Zs]at hev|-
  repeat' split at hev
  all_goals first
   |(cases hev;done)
   |(cases hev;simp at hn)
 case mkslice el sz bytes zs l c =>
  simp only[Zs]at hev|-
  repeat' split at hev
  all_goals first
   |(cases hev;done)
   |(cases hev;simp at hn)
 case slice sz x lo hi =>
  simp only[Zs]at hev|-
  cases hb:bnd e 0 lo with
  |none=>simp only[hb]at hev;cases hev
  |some l =>
   simp only[hb]at hev|-
   cases sz with
   |none =>
    cases hx:ev e x with
    |t x=>simp only[hx]at hev|-;cases x<;>exact hev
    |_=>simp only[hx]at hev;cases hev
   |some sz =>
    cases hx:ev e x with
    |own b =>
     simp only[hx]at hev
     repeat' split at hev
     all_goals first
      |(cases hev;done)
      |(cases hev;simp at hn)
    |t x=>simp only[hx]at hev|-;cases x<;>exact hev
    |_=>simp only[hx]at hev;cases hev
 case append el sz bytes mv x y =>
  simp only[Zs]at hev|-
  repeat' split at hev
  all_goals first
   |(cases hev;done)
   |(cases hev;simp at hn)
end
open Go.RowKit (Below)
structure Tr where
 dst:Option Nat
 v:AV
 u:List (Nat×Blk)
 foot:Foot
def appT(t:Tr)(s:S):S:={ s with env:=put t.dst t.v s.env,h:=upd s.h t.u }
def Z3(L:Nat->Bool):Nat->List Tr->S->S
 |_,[],s=>s
 |i,t::ts,s=>Z3 L (i+1) ts (if L i then appT t s else s)
def gRun(o:MO)(e:Env):Prop:=o.guard=none\/∃g b,o.guard=some (g,b)/\lk g e=.t (.bool b)
def gSkip(o:MO)(e:Env):Prop:=∃g b,o.guard=some (g,b)/\(lk g e=.tup []\/∃c,lk g e=.t (.bool c)/\c≠b)
def Zlm(Γ:Ctr)(o:MO)(t:Tr)(s:S):Prop:=t.dst=o.dst/\t.foot=Zb8 o s (t.u.map Prod.fst)/\
 ((gRun o s.env/\opR Γ s.h s.h.length s.env o.op t.v t.u)\/(gSkip o s.env/\t.v=.tup []/\t.u=[]))
def Steps(Γ:Ctr):List MO->List Tr->S->Prop
 |[],[],_=>True
 |o::os,t::ts,s=>Zlm Γ o t s/\Steps Γ os ts (appT t s)
 |_,_,_=>False
variable{Γ:Ctr}{h h':List Blk}{nx f:Nat}{u:List (Nat×Blk)}{vs:List AV}{K:AV->List (Nat×Blk)->Prop}
theorem Zbgt{o:MO}{s:S}{K:Foot->S->Prop}(h:drwG Γ o s K):∃t,Zlm Γ o t s/\K t.foot (appT t s):=by
 have run:gRun o s.env->Zcm Γ o s K->∃t,Zlm Γ o t s/\K t.foot (appT t s):=by
  intro hg h
  cases ho:o.op with
  |call f args =>
   simp only[Zcm,ho]at h;obtain⟨as,h1,r,hr,h2,h3,h4⟩:=h
   exact⟨⟨o.dst,shift s.h.length r,newU s.h.length hr 0,_⟩,⟨rfl,rfl,.inl ⟨hg,by rw[ho];exact⟨as,h1,r,hr,h2,h3,rfl,rfl⟩⟩⟩,h4⟩
  |xcall f args =>
   simp only[Zcm,ho]at h;obtain⟨as,h1,r,hr,h2,h3,h4⟩:=h
   exact⟨⟨o.dst,_,_,_⟩,⟨rfl,rfl,.inl ⟨hg,by rw[ho];exact⟨as,h1,r,hr,h2,h3,rfl,rfl⟩⟩⟩,h4⟩
  |fcall f args =>
   simp only[Zcm,ho]at h;obtain⟨as,h1,hno,r,hr,d,h2,h3,h4⟩:=h
   exact⟨⟨o.dst,_,_,_⟩,⟨rfl,rfl,.inl ⟨hg,by rw[ho];exact⟨as,h1,hno,r,hr,h2,h3,rfl⟩⟩⟩,h4⟩
  |scall f args p =>
   simp only[Zcm,ho,Zb2]at h;obtain⟨h1,r,h2,h3,u2,h4,h5⟩:=h
   exact⟨⟨o.dst,_,_,_⟩,⟨rfl,rfl,.inl ⟨hg,by rw[ho];exact⟨h1,r,h2,h3,u2,h4,rfl,rfl⟩⟩⟩,h5⟩
  |icall f args =>
   simp only[Zcm,ho,Zb2]at h;obtain⟨h1,r,h2,h3,h4⟩:=h
   exact⟨⟨o.dst,_,_,_⟩,⟨rfl,rfl,.inl ⟨hg,by rw[ho];exact⟨h1,r,h2,h3,rfl,rfl⟩⟩⟩,h4⟩
  |pcall f args =>
   simp only[Zcm,ho,Zfb]at h;obtain⟨h1,r,h2,h3,h4⟩:=h
   exact⟨⟨o.dst,_,_,_⟩,⟨rfl,rfl,.inl ⟨hg,by rw[ho];exact⟨h1,r,h2,h3,rfl,rfl⟩⟩⟩,h4⟩
  |dcall f args =>
   simp only[Zcm,ho]at h;split at h
   .rename_i g caps hgc;obtain⟨h1,r,h2,h3,h4⟩:=h;exact⟨⟨o.dst,_,_,_⟩,⟨rfl,rfl,.inl ⟨hg,by rw[ho];exact⟨g,caps,hgc,h1,r,h2,h3,rfl,rfl⟩⟩⟩,h4⟩
   .exact h.elim
  |_ =>
   simp only[Zcm,ho]at h;split at h
   .rename_i v u hev;exact⟨⟨o.dst,v,u,_⟩,⟨rfl,rfl,.inl ⟨hg,by rw[ho];exact hev⟩⟩,h⟩
   .exact h.elim
 have skip:gSkip o s.env->K (Zb8 o s []) { s with env:=put o.dst (.tup []) s.env }->∃t,Zlm Γ o t s/\K t.foot (appT t s):=λhg h =>
  ⟨⟨o.dst,.tup [],[],Zb8 o s []⟩,⟨rfl,rfl,.inr ⟨hg,rfl,rfl⟩⟩,h⟩
 unfold drwG at h;split at h
 .rename_i hg;exact run (.inl hg) h
 .rename_i g want hg;split at h
  .rename_i b hb;split at h
   .rename_i hbw;subst hbw;exact run (.inr ⟨g,b,hg,hb⟩) h
   .rename_i hbw;exact skip ⟨g,want,hg,.inr ⟨b,hb,hbw⟩⟩ h
  .rename_i hb;exact skip ⟨g,want,hg,.inl hb⟩ h
  .exact h.elim
theorem Z1v{Γ:Ctr}:∀(os:List MO) (s:S) (feet:List Foot) (K:List Foot->S->Prop) (i:Nat),drwW Γ os s feet K->∃ts,Steps Γ os ts s/\K (feet++ts.map (·.foot)) (Z3 (λ_=>true) i ts s)
 |[],s,feet,K,i,h=>⟨[],trivial,by simp only[Yck,Ybq,Z3];exact h⟩
 |o::os,s,feet,K,i,h=>by
  obtain⟨t,h1,h2⟩:=Zbgt h;obtain⟨ts,h3,h4⟩:=Z1v os (appT t s) _ K (i+1) h2;refine⟨t::ts,⟨h1,h3⟩,?_⟩;simpa[Z3]using h4
theorem Zln{L:Nat->Bool}:∀(ts:List Tr) (k:Nat) (s:S),(∀j,k<=j->L j=false)->Z3 L k ts s=s
 |[],_,_,_=>rfl
 |t::ts,k,s,h=>by
  simp only[Z3,h k (Yh _),Ycj,if_false];exact Zln ts (k+1) s λj hj=>h j (by omega)
theorem Z1w{Γ:Ctr}:∀(os:List MO) (ts:List Tr) (s:S) (k:Nat),Steps Γ os ts s->ts.length=os.length/\∀i o,os[i]?=some o->∃t,ts[i]?=some t/\Zlm Γ o t (Z3 (λj=>decide (j<k+i)) k ts s)
 |[],[],_,_,_=>⟨rfl,by simp⟩
 |o::os,t::ts,s,k,h=>by
  obtain⟨h1,h2⟩:=h;obtain⟨h3,h4⟩:=Z1w os ts (appT t s) (k+1) h2;refine⟨by simp[h3],?_⟩;intro i o' ho
  cases i with
  |zero =>
   simp at ho;subst ho;refine⟨t,rfl,?_⟩;rw[Zln]
   .exact h1
   .intro j hj;simp;omega
  |succ i =>
   obtain⟨t',h5,h6⟩:=h4 i o' (by simpa using ho);refine⟨t',by simpa using h5,?_⟩;have e:Z3 (λj=>decide (j<k+(i+1))) k (t::ts) s=Z3 (λj=>decide (j<k+1+i)) (k+1) ts (appT t s):=by
    simp only[Z3];rw[if_pos (by simp)];congr 1;funext j;congr 1;exact propext (by omega)
   rw[e]
   exact h6
 |[],_::_,_,_,h=>h.elim
 |_::_,[],_,_,h=>h.elim
theorem Zlo(d:Option Nat)(v:AV)(e:Env)(r:Nat):lk r (put d v e)=if d=some r then v else lk r e:=by
 cases d with
 |none=>simp[put]
 |some d=>simp[put,lk]
theorem Zuj:∀{h h':List Blk} {b:Nat},b∈u.map Prod.fst->gt (upd h u) b=gt (upd h' u) b:=by
 induction u with
 |nil=>intro h h' b hb;simp at hb
 |cons p u ih =>
  intro h h' b hb;obtain⟨c,x⟩:=p;by_cases hu:b∈u.map Prod.fst
  .exact ih hu
  .simp only[upd];rw[Zgi hu,Zgi hu,Zcc,Zcc];simp only[Yl,Yw]at hb;rcases hb with rfl|hb
   .simp
   .exact absurd hb hu
theorem Zbgu{b:Nat}(hg:gt h b=gt h' b):gt (upd h u) b=gt (upd h' u) b:=by
 by_cases hb:b∈u.map Prod.fst
 .exact Zuj hb
 .rw[Zgi hb,Zgi hb,hg]
theorem Zlp{L L':Nat->Bool}(r:Nat):∀(ts:List Tr) (k:Nat) (s s':S),(∀j t,ts[j]?=some t->t.dst=some r->L (k+j)=L' (k+j))->lk r s.env=lk r s'.env->lk r (Z3 L k ts s).env=lk r (Z3 L' k ts s').env
 |[],_,_,_,_,h=>h
 |t::ts,k,s,s',hL,h=>by
  simp only[Z3];refine Zlp r ts (k+1) _ _ (λj t' hj hd=>?_) ?_
  .have:=hL (j+1) t' (by simpa using hj) hd;rw[show k+1+j=k+(j+1) by omega];exact this
  .have h0:=hL 0 t rfl;rw[Ybh]at h0;by_cases hd:t.dst=some r
   .rw[h0 hd];cases L' k
    .simpa using h
    .simp[appT,Zlo,hd]
   .have key:∀(b:Bool) (x:S),lk r (if b=true then appT t x else x).env=lk r x.env:=by
     intro b x;cases b
     .rfl
     .simp[appT,Zlo,hd]
    rw[key,key,h]
theorem Zlq{L L':Nat->Bool}(b:Nat):∀(ts:List Tr) (k:Nat) (s s':S),(∀j t,ts[j]?=some t->b∈t.u.map Prod.fst->L (k+j)=L' (k+j))->gt s.h b=gt s'.h b->gt (Z3 L k ts s).h b=gt (Z3 L' k ts s').h b
 |[],_,_,_,_,h=>h
 |t::ts,k,s,s',hL,h=>by
  simp only[Z3];refine Zlq b ts (k+1) _ _ (λj t' hj hd=>?_) ?_
  .have:=hL (j+1) t' (by simpa using hj) hd;rw[show k+1+j=k+(j+1) by omega];exact this
  .have h0:=hL 0 t rfl;rw[Ybh]at h0;by_cases hd:b∈t.u.map Prod.fst
   .rw[h0 hd];cases L' k
    .simpa using h
    .simp only[if_true,appT];exact Zuj hd
   .have key:∀(c:Bool) (x:S),gt (if c=true then appT t x else x).h b=gt x.h b:=by
     intro c x;cases c
     .rfl
     .simp only[if_true,appT];exact Zgi hd
    rw[key,key,h]
theorem Zlr{L:Nat->Bool}:∀(ts:List Tr) (k:Nat) (s:S),(Z3 L k ts s).stk=s.stk
 |[],_,_=>rfl
 |t::ts,k,s=>by
  simp only[Z3];rw[Zlr ts];split<;>rfl
theorem Zp7{L:Nat->Bool}:∀(ts:List Tr) (k:Nat) (s:S),s.h.length<=(Z3 L k ts s).h.length/\∀j t,ts[j]?=some t->L (k+j)=true->∀b∈t.u.map Prod.fst,b<(Z3 L k ts s).h.length
 |[],_,_=>⟨Yh _,by simp⟩
 |t::ts,k,s=>by
  simp only[Z3];obtain⟨h1,h2⟩:=Zp7 ts (k+1) (if L k=true then appT t s else s);have h3:s.h.length<=(if L k=true then appT t s else s).h.length:=by
   split
   .exact(Zuc t.u s.h).1
   .exact Yh _
  refine⟨Yr h3 h1,?_⟩;intro j t' hj hL b hb
  cases j with
  |zero =>
   simp at hj;subst hj;rw[Ybh]at hL;rw[hL]at h1|-;simp only[if_true]at h1|-
   exact Ybs ((Zuc t.u s.h).2 b hb) h1
  |succ j =>
   exact h2 j t' (by simpa using hj) (by rw[show k+1+j=k+(j+1) by omega];exact hL) b hb
theorem Z1x{L:Nat->Bool}{i:Nat}{t:Tr}(hi:L i=false):∀(ts:List Tr) (k:Nat) (s:S),(∃m,i=k+m/\ts[m]?=some t)->
  ((∀r,t.dst=some r->∀j t',ts[j]?=some t'->i<k+j->L (k+j)=true->t'.dst≠some r)->∀r,lk r (Z3 (λj=>L j || decide (j=i)) k ts s).env=lk r (appT t (Z3 L k ts s)).env)/\
  ((∀b∈t.u.map Prod.fst,∀j t',ts[j]?=some t'->i<k+j->L (k+j)=true->b ∉ t'.u.map Prod.fst)->∀b,gt (Z3 (λj=>L j || decide (j=i)) k ts s).h b=gt (appT t (Z3 L k ts s)).h b)
 |[],_,_,⟨m,_,h⟩=>by simp at h
 |t0::ts,k,s,⟨m,hm,ht⟩=>by
  cases m with
  |zero =>
   simp at ht;subst ht;have hik:i=k:=by omega
   subst hik;simp only[Z3,hi,Yb5,decide_true,if_true,Ycj,if_false];constructor
   .intro hw r;by_cases hd:t0.dst=some r
    .have e1:=Zlp (L:=λj=>L j || decide (j=i)) (L':=λ_=>false) r ts (i+1) (appT t0 s) (appT t0 s) (λj t' hj hd'=>by
      have:=hw r hd (j+1) t' (by simpa using hj) (by omega);cases hx:L (i+1+j)
      .simp;omega
      .exact absurd hd' (this (by rw[show i+(j+1)=i+1+j by omega];exact hx))) rfl
     rw[e1,Zln ts (i+1) _ (λ_ _=>rfl)];simp[appT,Zlo,hd]
    .have e1:=Zlp (L:=λj=>L j || decide (j=i)) (L':=L) r ts (i+1) (appT t0 s) s (λj t' hj hd'=>by
      have:(decide (i+1+j=i))=false:=by simp;omega
      simp[this]) (by simp[appT,Zlo,hd])
     rw[e1];simp[appT,Zlo,hd]
   .intro hw b;by_cases hd:b∈t0.u.map Prod.fst
    .have e1:=Zlq (L:=λj=>L j || decide (j=i)) (L':=λ_=>false) b ts (i+1) (appT t0 s) (appT t0 s) (λj t' hj hd'=>by
      have:=hw b hd (j+1) t' (by simpa using hj) (by omega);cases hx:L (i+1+j)
      .simp;omega
      .exact absurd hd' (this (by rw[show i+(j+1)=i+1+j by omega];exact hx))) rfl
     rw[e1,Zln ts (i+1) _ (λ_ _=>rfl)];exact Zuj hd
    .have e1:=Zlq (L:=λj=>L j || decide (j=i)) (L':=L) b ts (i+1) (appT t0 s) s (λj t' hj hd'=>by
      have:(decide (i+1+j=i))=false:=by simp;omega
      simp[this]) (by simp only[appT];exact Zgi hd)
     rw[e1];simp only[appT]
     exact(Zgi hd).symm
  |succ m =>
   have hne:decide (k=i)=false:=by simp;omega
   simp only[Z3,hne,Bool.or_false];have ih:=Z1x hi ts (k+1) (if L k=true then appT t0 s else s) ⟨m,by omega,by simpa using ht⟩;constructor
   .intro hw;exact ih.1 λr hr j t' hj hlt hL=>hw r hr (j+1) t' (by simpa using hj) (by omega) (by rw[show k+(j+1)=k+1+j by omega];exact hL)
   .intro hw;exact ih.2 λb hb j t' hj hlt hL=>hw b hb (j+1) t' (by simpa using hj) (by omega) (by rw[show k+(j+1)=k+1+j by omega];exact hL)
theorem Zuk{L:Nat->Bool}:∀(bs:List (List Nat)) (acc:List (List Nat)),(∀j b,bs[j]?=some b->L (acc.length+j)=true->∀i∈b,L i=true)->(∀j c,acc[j]?=some c->L j=true->∀i∈c,L i=true)->
  ∀j c,(Zle bs acc)[j]?=some c->L j=true->∀i∈c,L i=true
 |[],acc,_,h=>h
 |b::bs,acc,hb,h=>by
  simp only[Zle];refine Zuk bs _ (λj b' hj hL=>hb (j+1) b' (by simpa using hj) (by simp at hL;rw[show acc.length+(j+1)=acc.length+1+j by omega];exact hL)) ?_;intro j c hj hL i hi;rw[List.getElem?_append]at hj;split at hj
  .exact h j c hj hL i hi
  .rename_i hlt;have hj0:j=acc.length:=by
    by_cases hz:j-acc.length=0
    .omega
    .rw[Ybz (by simp;omega)]at hj;cases hj
   subst hj0;simp at hj;subst hj;have h0:=hb 0 b rfl (by simpa using hL);rcases Yg.1 hi with hi|hi
   .exact h0 i hi
   .obtain⟨i',h1,h2⟩:=Ycz.1 hi;have hL':=h0 i' h1
    cases hx:acc[i']? with
    |none=>rw[hx]at h2;simp at h2
    |some c'=>rw[hx]at h2;exact h i' c' hx hL' i h2
theorem Z1y{before:List (List Nat)}{feet:List Foot}(h:Zgb before feet=true){i j:Nat}{f g:Foot}(hi:feet[i]?=some f)(hj:feet[j]?=some g)(hij:i<j)(hc:Zd6 f g=true) :
  ∃c,(Zle before [])[j]?=some c/\i∈c:=by
 unfold Zgb at h;have hjl:j<feet.length:=by
  by_cases hx:j<feet.length
  .exact hx
  .rw[Ybz (by omega)]at hj;cases hj
 have h1:=Ys.1 h j (Ycp.2 hjl);unfold Z0l at h1;rw[hj]at h1;split at h1
 .rename_i g' c hg hcl;cases hg;have h2:=Ys.1 h1 i (Ycp.2 hij);rw[hi]at h2;simp only[hc,Bool.not_true,Yb5]at h2;exact⟨c,hcl,by simpa using h2⟩
 .cases h1
theorem Zul(hh:∀b∈Z8 h 200 (Zv vs) [],gt h b=gt h' b)(hr:Zb2 Γ f vs h nx K):Zb2 Γ f vs h' nx K:=by
 obtain⟨e1,e2,e3⟩:=Z1t hh;unfold Zb2;rw[e1,e2,e3];exact hr
theorem Zbgv(hh:∀b∈Z8 h 200 (Zv vs) [],gt h b=gt h' b)(hr:Zfb Γ f vs h nx K):Zfb Γ f vs h' nx K:=by
 obtain⟨e1,e2,e3⟩:=Z1t hh;unfold Zfb;rw[e1,e2,e3];exact hr
theorem Zbgw{K':AV->List (Nat×Blk)->Prop}(hr:Zb2 Γ f vs h nx K)(hK:∀v u,K v u->K' v u):Zb2 Γ f vs h nx K':=by
 obtain⟨h1,r,h2,h3,h4⟩:=hr;exact⟨h1,r,h2,h3,hK _ _ h4⟩
theorem Zum{h:List Blk}:∀(n:Nat) (A B acc:List Nat),∀b∈Z8 h n A acc,b∈Z8 h n (A++B) acc
 |0,_,_,_,b,hb=>by simpa[Z8]using hb
 |n+1,[],B,acc,b,hb=>Zp6 _ _ _ b (by simpa[Z8]using hb)
 |n+1,c::A,B,acc,b,hb=>by
  simp only[Z8,List.cons_append]at hb|-;split
  .rename_i hc;rw[if_pos hc]at hb;exact Zum n A B acc b hb
  .rename_i hc;rw[if_neg hc]at hb;have:=Zum n (Zbu (gt h c)++A) B (acc++[c]) b hb
   rwa [Y8]at this
theorem Zbgx{e e':Env}{k:MOp}{v:AV}(he:∀x∈Zw k,ev e x=ev e' x)(hh:∀b∈Zga h (frefs k e),gt h b=gt h' b)
  (hr:opR Γ h nx e k v u):opR Γ h' nx e' k v u:=by
 cases k with
 |call f args =>
  obtain⟨as,h1,r,hr,h2,h3,h4,h5⟩:=hr;have e1:args.map (ev e')=args.map (ev e):=Ybt λx hx=>(he x (by simpa[Zw]using hx)).symm
  refine⟨as,?_,r,hr,h2,by rw[e1];exact h3,h4,h5⟩;rw[e1,<-h1]
  exact(Zui (Zug hh)).symm
 |xcall f args =>
  obtain⟨as,h1,r,hr,h2,h3,h4,h5⟩:=hr;have e1:args.map (ev e')=args.map (ev e):=Ybt λx hx=>(he x (by simpa[Zw]using hx)).symm
  refine⟨as,?_,r,hr,h2,h3,h4,h5⟩;rw[e1,<-h1]
  exact(Zui (Zug hh)).symm
 |fcall f args =>
  obtain⟨as,h1,hno,r,hr,h2,h3,h4⟩:=hr;have e1:args.map (ev e')=args.map (ev e):=Ybt λx hx=>(he x (by simpa[Zw]using hx)).symm
  refine⟨as,?_,by rw[e1];exact hno,r,hr,h2,h3,h4⟩;rw[e1,<-h1]
  exact(Zui (Zug hh)).symm
 |scall f args p =>
  have e1:args.map (ev e')=args.map (ev e):=Ybt λx hx=>(he x (by simp[Zw,hx])).symm
  have e2:ev e' p=ev e p:=(he p (by simp[Zw])).symm;have e3:frefs (.scall f args p) e=Zv (args.map (ev e))++refs (ev e p):=by simp[frefs,Zw,Zbgf,Zv]
  rw[e3]at hh;simp only[opR]at hr|-;rw[e1,e2];refine Zbgw (Zul (λb hb=>hh b (Zp5 (Zum 200 _ _ _ b hb))) hr) ?_;rintro v' u' ⟨u2,q1,q2,q3⟩;refine⟨u2,?_,q2,q3⟩;rw[<-q1]
  cases hx:ev e p with
  |eptr b i sz off =>
   have hb:b∈Zv (args.map (ev e))++refs (ev e p):=by rw[hx];simp[refs]
   have hg:=hh b (Zuf hb);unfold Zfa;simp only;split
   .rfl
   .rw[<-hg]
    cases hd:gt h b with
    |det el sz es i off c =>
     simp only
     rw[Zbgu (hh c (Z1r hb (by rw[hd];simp[Zbu])))]
    |_=>rfl
  |_=>rfl
 |icall f args =>
  have e1:args.map (ev e')=args.map (ev e):=Ybt λx hx=>(he x (by simpa[Zw]using hx)).symm
  simp only[opR]at hr|-;rw[e1]
  exact Zul (λb hb=>hh b (Zp5 hb)) hr
 |pcall f args =>
  have e1:args.map (ev e')=args.map (ev e):=Ybt λx hx=>(he x (by simpa[Zw]using hx)).symm
  simp only[opR]at hr|-;rw[e1]
  exact Zbgv (λb hb=>hh b (Zp5 hb)) hr
 |dcall f args =>
  obtain⟨g,caps,hg,hr⟩:=hr;have e1:args.map (ev e')=args.map (ev e):=Ybt λx hx=>(he x (by simp[Zw,hx])).symm
  refine⟨g,caps,by rw[<-he f (by simp[Zw])];exact hg,?_⟩;rw[e1];refine Zul (λb hb=>hh b (Zp5 ?_)) hr;simp only[frefs,hg]
  exact hb
 |mov x =>
  change Zs h nx e (.mov x)=some (v,u)at hr;show Zs h' nx e' (.mov x)=some (v,u);simp only[Zs]at hr|-;rw[<-he x (by simp[Zw])]
  exact hr
 |_ =>
  show Zs h' nx e' _=some (v,u);rw[<-Zbgr he (λx hx b hb=>hh b (Zuf (Zbgg (Y0.2 ⟨x,hx,rfl⟩) hb)))];exact hr
section
variable{P:Program}{N:Par}{base:Nat}{w0:World}{nt:Nat}{ts:List (Array Value)}{inl:List Nat}{D D':Nat->Prop}{ρ:Map}{s:S}{a:Act}{w:World}{d:Option Nat}
structure RelD (N:Par) (base:Nat) (w0:World) (nt:Nat) (ts:List (Array Value)) (D:Nat->Prop) (ρ:Map) (s:S) (a:Act) (w:World):Prop where
 rel:Rel N base ρ s.h w
 env:Zbm ρ w (Free N ρ s.h) s.env a.tmps
 stk:Zdd ρ w (Free N ρ s.h) s.stk ts
 dom:∀b,D b->ρ b=none
 defers:a.defers=[]
 size:a.tmps.size=nt
 below:Below base w0 w
 kn:∀g,g<w0.heap.size->¬N.a g->w.heap[g]?=w0.heap[g]?
 fz:∀g,g<w0.heap.size->N.z g->Free N ρ s.h g/\w.heap[g]?=w0.heap[g]?
theorem RelD.congr{s':S}(h:RelD N base w0 nt ts D ρ s a w)(hl:∀r,lk r s.env=lk r s'.env)(hg:∀b,gt s.h b=gt s'.h b)(hk:s.stk=s'.stk)(hD:∀b,D' b->D b) :
  RelD N base w0 nt ts D' ρ s' a w:=by
 refine⟨h.rel.congr hg,?_,?_,λb hb=>h.dom b (hD b hb),h.defers,h.size,h.below,h.kn,by rw[<-Free.congr hg];exact h.fz⟩
 .intro r;rw[<-hl,<-Free.congr hg];exact h.env r
 .rw[<-hk,<-Free.congr hg];exact h.stk
theorem RelD.after{ρ':Map}{w':World}(hS:RelD N base w0 nt ts D ρ s a w){v:AV}{u:List (Nat×Blk)}{val:Value}(hA:After N base ρ s.h w v u val w' ρ')(hd:∀x,d=some x->x<nt)
  (hD:∀b,D' b->D b/\b ∉ u.map Prod.fst):RelD N base w0 nt ts D' ρ' { s with env:=put d v s.env,h:=upd s.h u } (a.put d val) w':=by
 refine⟨hA.rel,Zp2 (λs=>(hS.env s).keep hA.keeps) hA.val λx hx=>by rw[hS.size];exact hd x hx,hS.stk.keep hA.keeps,?_,by rw[Zp3];exact hS.defers,by rw[Zp4];exact hS.size,hS.below.trans hA.below,
  λg hg hn=>(hA.kn g (Ybs hg hS.below.size) hn).trans (hS.kn g hg hn),λg hg hz=>?_⟩
 .intro b hb;exact hA.same b (hD b hb).2 (hS.dom b (hD b hb).1)
 .obtain⟨h1,h2⟩:=hS.fz g hg hz;obtain⟨h3,h4⟩:=hA.keeps.free g (Ybs hg hS.below.size) h1;exact⟨h3,h4.trans h2⟩
theorem RelD.skip(hS:RelD N base w0 nt ts D ρ s a w)(hd:∀x,d=some x->x<nt) :
  RelD N base w0 nt ts D ρ { s with env:=put d (.tup []) s.env } (a.put d undef) w :=
 ⟨hS.rel,Zp2 hS.env (RV.tup (c:=#[]) .nil) λx hx=>by rw[hS.size];exact hd x hx,hS.stk,hS.dom,by rw[Zp3];exact hS.defers,by rw[Zp4];exact hS.size,hS.below,hS.kn,hS.fz⟩
theorem Zhm{a b:List Nat}{x:Nat}(h:x∈a)(h':x∈b):Zfq a b=true:=by
 unfold Zfq;exact List.any_eq_true.2 ⟨x,h,by simpa using h'⟩
end
open Go.RowKit (Below)
section
variable{P:Program}{N:Par}{base:Nat}{w0:World}{nt:Nat}{ts:List (Array Value)}{inl:List Nat}
theorem Z1z{α β:Type}{f:α->Option β}:∀{l:List α} {os:List β},mapO f l=some os->∀{i:Nat} {o:α},l[i]?=some o->∃m,os[i]?=some m/\f o=some m
 |[],_,_,_,_,h=>by simp at h
 |x::l,os,hm,i,o,h=>by
  obtain⟨m,ms,h1,h2,rfl⟩:=Ze1 hm
  cases i with
  |zero=>simp at h;subst h;exact⟨m,rfl,h1⟩
  |succ i =>
   obtain⟨m',h3,h4⟩:=Z1z h2 (i:=i) (o:=o) (by simpa using h);exact⟨m',by simpa using h3,h4⟩
theorem Z10:∀{bs:List (List Nat)} {k:Nat},backB bs k=true->∀{j:Nat} {b:List Nat},bs[j]?=some b->∀i∈b,i<k+j
 |[],_,_,_,_,h=>by simp at h
 |x::bs,k,hb,j,b,h=>by
  simp only[backB,Yf,Ys,decide_eq_true_eq]at hb;intro i hi
  cases j with
  |zero=>simp at h;subst h;exact hb.1 i hi
  |succ j=>have:=Z10 hb.2 (j:=j) (b:=b) (by simpa using h) i hi;omega
theorem Zp8{listed:Array Bool}{i j:Nat}(hi:i<listed.size):(listed.setIfInBounds i true).getD j false=(listed.getD j false || decide (j=i)):=by
 simp only[Ybj,Array.getElem?_setIfInBounds];by_cases h:i=j
 .subst h;simp[hi]
 .have:¬j=i:=λe=>h e.symm
  simp[h,this]
variable{ops:Array Oper}{os:List MO}{tr:List Tr}{s0:S}{Qc:Exit->Act->World->Prop}
def domD(tr:List Tr)(s0:S)(L:Nat->Bool)(b:Nat):Prop:=s0.h.length<=b/\∀j t,tr[j]?=some t->L j=true->b ∉ t.u.map Prod.fst
theorem Zbgy(hback:backB (ops.toList.map Zcg) 0=true){listed:Array Bool}(hsz:listed.size=ops.size)(hr:Region.ready .any ops listed=[]):∀j,j<ops.size->listed.getD j false=true:=by
 intro j
 induction j using Nat.strongRecOn with
 |ind j ih =>
  intro hj
  cases hc:listed.getD j false with
  |true=>rfl
  |false =>
   exfalso;have hmem:j∈Region.ready .any ops listed:=by
    unfold Region.ready;refine List.mem_filter.2 ⟨Ycp.2 hj,?_⟩;have h1:listed.getD j true=false:=by
     rw[Ybj]at hc|-
     have:j<listed.size:=by omega
     simp[this]at hc|-;exact hc
    have h2:ops[j]?=some ops[j]:=by simp[hj]
    rw[h1,h2];simp only[Bool.not_false,Ybi,Option.map_some,Option.getD_some];rw[Array.all_eq_true_iff_forall_mem];intro e he
    cases hb:Region.binds .any e with
    |false=>rfl
    |true =>
     simp only[Bool.not_true,Yb5];have hin:e.on∈Zcg ops[j]:=by
      unfold Zcg;refine List.mem_filterMap.2 ⟨e,by simpa using he,by simp[hb]⟩
     have hlt:=Z10 hback (j:=j) (b:=Zcg ops[j]) (by simp[hj]) e.on hin;exact ih e.on (by omega) (by omega)
   rw[hr]at hmem;cases hmem
theorem Z11{K:S->Prop}(hQ:∀s a w ρ,K s->RelS N base w0 nt ts ρ s a w->Qc .normal a w)(hlen:tr.length=ops.size)(hK:K (Z3 (λ_=>true) 0 tr s0)){listed:Array Bool}(hall:∀j,j<ops.size->listed.getD j false=true)
  {ρ:Map} {a:Act} {w:World} (hS:RelD N base w0 nt ts (domD tr s0 (listed.getD · false)) ρ (Z3 (listed.getD · false) 0 tr s0) a w):Qc .normal a w:=by
 have hj:∀(j:Nat) (t:Tr),tr[j]?=some t->listed.getD (0+j) false=true:=by
  intro j t h;rw[Yj];refine hall j ?_;by_cases hx:j<tr.length
  .omega
  .rw[Ybz (by omega)]at h;cases h
 have h1:=hS.congr (s':=Z3 (λ_=>true) 0 tr s0) (D':=domD tr s0 (listed.getD · false)) (λr=>Zlp r tr 0 _ _ (λj t h _=>hj j t h) rfl) (λb=>Zlq b tr 0 _ _ (λj t h _=>hj j t h) rfl) (by rw[Zlr,Zlr]) (λ_ h=>h);refine hQ _ a w ρ hK ⟨h1.rel,h1.env,h1.stk,?_,h1.defers,h1.size,h1.below,h1.kn,h1.fz⟩;intro b hb;have hl:=Zp7 (L:=λ_=>true) tr 0 s0;refine h1.dom b ⟨by omega,?_⟩;intro j t h _ hin;have:=hl.2 j t h rfl b hin;omega
theorem drw_any(hos:mapO (compO P inl nt ops) ops.toList=some os)(hback:backB (ops.toList.map Zcg) 0=true)(hst:Steps (Zbq P) os tr s0)(hord:Zgb (ops.toList.map Zcg) (tr.map (·.foot))=true)
  {K:S->Prop} (hQ:∀s a w ρ,K s->RelS N base w0 nt ts ρ s a w->Qc .normal a w) (hK:K (Z3 (λ_=>true) 0 tr s0)) :
  ∀(fuel:Nat) (listed:Array Bool) (a:Act) (w:World) (ρ:Map),listed.size=ops.size->listed.toList.count false<=fuel->
   (∀j b,(ops.toList.map Zcg)[j]?=some b->listed.getD j false=true->∀i∈b,listed.getD i false=true)->
   RelD N base w0 nt ts (domD tr s0 (listed.getD · false)) ρ (Z3 (listed.getD · false) 0 tr s0) a w->wpAny P .any ops Qc fuel listed a w:=by
 obtain⟨hl1,hat⟩:=Z1w os tr s0 0 hst;have hlen:tr.length=ops.size:=by rw[hl1,Zt2 hos];simp
 have hdst:∀(j:Nat) (t:Tr),tr[j]?=some t->(∀r,t.dst=some r->r∈t.foot.ws)/\t.u.map Prod.fst=t.foot.wb:=by
  intro j t h;have hj:j<os.length:=by
   by_cases hx:j<tr.length
   .omega
   .rw[Ybz (by omega)]at h;cases h
  obtain⟨t',h1,h2,h3,_⟩:=hat j os[j] (by simp[hj]);rw[h]at h1;cases h1;rw[h3];exact⟨λr hr=>by simp[Zb8,<-h2,hr],rfl⟩
 intro fuel
 induction fuel with
 |zero =>
  intro listed a w ρ hsz hc hcl hS;have hall:∀j,j<ops.size->listed.getD j false=true:=by
   intro j hj
   cases hx:listed.getD j false with
   |true=>rfl
   |false =>
    exfalso
    have:false∈listed.toList:=by
     rw[Ybj]at hx;have hj':j<listed.size:=by omega
     simp[hj']at hx;rw[<-hx];exact Array.getElem_mem_toList hj'
    have:=List.count_pos_iff.2 this;omega
  refine⟨?_,Z11 hQ hlen hK hall hS⟩;unfold Region.ready;refine Ycq.2 ?_;intro i hi;have hi':=Ycp.1 hi;have h1:=hall i hi';have h2:listed.getD i true=true:=by
   rw[Ybj]at h1|-
   have:i<listed.size:=by omega
   simp[this]at h1|-;exact h1
  simp[h2]
 |succ fuel ih =>
  intro listed a w ρ hsz hc hcl hS;refine⟨λhr=>Z11 hQ hlen hK (Zbgy hback hsz hr) hS,?_⟩;intro i hi;unfold Region.ready at hi;obtain⟨hir,hcond⟩:=List.mem_filter.1 hi;have hin:i<ops.size:=Ycp.1 hir;have hil:i<listed.size:=by omega
  have hops:ops[i]?=some ops[i]:=by simp[hin]
  rw[hops]at hcond;simp only[Option.map_some,Option.getD_some,Yf,Bool.not_eq_true',Array.all_eq_true_iff_forall_mem]at hcond;obtain⟨hLt,haft⟩:=hcond;have hLi:listed.getD i false=false:=by
   rw[Ybj]at hLt|-;simp[hil]at hLt|-;exact hLt
  have hbef:∀j∈Zcg ops[i],listed.getD j false=true:=by
   intro j hj;unfold Zcg at hj;obtain⟨e,he,hj⟩:=List.mem_filterMap.1 hj;have h1:=haft e (by simpa using he);split at hj
   .rename_i hb;cases hj;simpa[hb]using h1
   .cases hj
  -- the operation
  obtain⟨m,hm,hcm⟩:=Z1z hos (i:=i) (o:=ops[i]) (by simp[hin]);obtain⟨hk,hmd,hd,hguard⟩:=Z1n hcm;obtain⟨t,ht,htd,htf,hstep⟩:=hat i m hm
  -- the new list
  have hcl':∀(j:Nat) (b:List Nat),(ops.toList.map Zcg)[j]?=some b->(listed.setIfInBounds i true).getD j false=true->∀x∈b,(listed.setIfInBounds i true).getD x false=true:=by
   intro j b hb hj x hx;rw[Zp8 hil]at hj|-;by_cases hji:j=i
   .subst hji
    have:b=Zcg ops[j]:=by simp[hin]at hb;exact hb.symm
    subst this;rw[hbef x hx];rfl
   .simp only[hji,decide_false,Bool.or_false]at hj;rw[hcl j b hb hj x hx];rfl
  -- who is in Zd6
  have low:∀(j:Nat) (t':Tr),tr[j]?=some t'->j<i->Zd6 t'.foot t.foot=true->listed.getD j false=true:=by
   intro j t' hj hlt hcf;obtain⟨c,h1,h2⟩:=Z1y hord (i:=j) (j:=i) (f:=t'.foot) (g:=t.foot) (by simp[hj]) (by simp[ht]) hlt hcf;have h3:=Zuk (L:=λj=>(listed.setIfInBounds i true).getD j false) (ops.toList.map Zcg) [] (λj b hb hL=>hcl' j b hb (by simpa using hL)) (by simp) i c h1 (by simp only[Zp8 hil,decide_true,Bool.or_true]) j h2;simp only[Zp8 hil]at h3
   have:¬j=i:=by omega
   simpa[this]using h3
  have high:∀(j:Nat) (t':Tr),tr[j]?=some t'->i<j->Zd6 t.foot t'.foot=true->listed.getD j false=true->False:=by
   intro j t' hj hlt hcf hL;obtain⟨c,h1,h2⟩:=Z1y hord (i:=i) (j:=j) (f:=t.foot) (g:=t'.foot) (by simp[ht]) (by simp[hj]) hlt hcf;have h3:=Zuk (L:=λj=>listed.getD j false) (ops.toList.map Zcg) [] (λj b hb hL=>hcl j b hb (by simpa using hL)) (by simp) j c h1 hL i h2;simp only[hLi]at h3;cases h3
  -- what it looks at stands as in the text's order
  have hlk:∀r∈t.foot.rs,lk r (Z3 (λj=>decide (j<0+i)) 0 tr s0).env=lk r (Z3 (listed.getD · false) 0 tr s0).env:=by
   intro r hr;refine Zlp r tr 0 _ _ (λj t' hj hd'=>?_) rfl;have hw:=(hdst j t' hj).1 r hd';rcases Ycn j i with hlt|rfl|hgt
   .rw[Yj,Yj,low j t' hj hlt (by simp[Zd6,Zhm hw (Ycc t.foot.ws hr)])];simpa using hlt
   .rw[Yj,hLi];simp
   .rw[Yj,Yj]
    cases hx:listed.getD j false with
    |true=>exact(high j t' hj hgt (by simp[Zd6,Zhm hw hr]) hx).elim
    |false=>simp;omega
  have hgt':∀b∈t.foot.rb,gt (Z3 (λj=>decide (j<0+i)) 0 tr s0).h b=gt (Z3 (listed.getD · false) 0 tr s0).h b:=by
   intro b hb;refine Zlq b tr 0 _ _ (λj t' hj hd'=>?_) rfl;have hw:b∈t'.foot.wb:=by rw[<-(hdst j t' hj).2];exact hd'
   rcases Ycn j i with hlt|rfl|hgt
   .rw[Yj,Yj,low j t' hj hlt (by simp[Zd6,Zhm hw (Ycc t.foot.wb hb)])];simpa using hlt
   .rw[Yj,hLi];simp
   .rw[Yj,Yj]
    cases hx:listed.getD j false with
    |true=>exact(high j t' hj hgt (by simp[Zd6,Zhm hw hb]) hx).elim
    |false=>simp;omega
  have hLfun:(λj=>(listed.setIfInBounds i true).getD j false)=(λj=>listed.getD j false || decide (j=i)):=by
   funext j;exact Zp8 hil
  have hins:=Z1x (L:=λj=>listed.getD j false) (i:=i) (t:=t) hLi tr 0 s0 ⟨i,by omega,ht⟩;have hcount:(listed.setIfInBounds i true).toList.count false<=fuel:=by
   rw[Yc9,List.count_set (by simpa using hil)];have hx:listed.toList[i]'(by simpa using hil)=false:=by
    rw[Ybj]at hLi;simpa[hil]using hLi
   rw[hx];simp
   have:0<listed.toList.count false:=List.count_pos_iff.2 (by rw[<-hx];exact Ya _)
   simp at this hc;omega
  -- the state behind it
  have next:∀a' w' ρ',RelD N base w0 nt ts (domD tr s0 λj=>listed.getD j false || decide (j=i)) ρ' (appT t (Z3 (listed.getD · false) 0 tr s0)) a' w'->wpAny P .any ops Qc fuel (listed.setIfInBounds i true) a' w':=by
   intro a' w' ρ' hR;refine ih _ a' w' ρ' (by simpa using hsz) hcount hcl' ?_;rw[hLfun];refine hR.congr (λr=>(hins.1 ?_ r).symm) (λb=>(hins.2 ?_ b).symm) (by rw[Zlr];exact Zlr tr 0 s0) (λ_ h=>h)
   .intro r hr j t' hj hlt hL hd';rw[Yj]at hlt hL;exact high j t' hj hlt (by simp[Zd6,Zhm ((hdst i t ht).1 r hr) (Ycd t'.foot.rs ((hdst j t' hj).1 r hd'))]) hL
   .intro b hb j t' hj hlt hL hd';rw[Yj]at hlt hL;have hb1:b∈t.foot.wb:=by rw[<-(hdst i t ht).2];exact hb
    have hb2:b∈t'.foot.wb:=by rw[<-(hdst j t' hj).2];exact hd'
    exact high j t' hj hlt (by simp[Zd6,Zhm hb1 (Ycd t'.foot.rb hb2)]) hL
  have hrs:∀x∈Zw m.op,∀r∈Zpj x,r∈t.foot.rs:=by
   intro x hx r hr;rw[htf];simp only[Zb8];exact Ycc _ (Ycz.2 ⟨x,hx,hr⟩)
  have hgs:∀g b,m.guard=some (g,b)->g∈t.foot.rs:=by
   intro g b hg;rw[htf];simp only[Zb8,hg];exact Ycd _ (by simp)
  have he:∀x∈Zw m.op,ev (Z3 (λj=>decide (j<0+i)) 0 tr s0).env x=ev (Z3 (listed.getD · false) 0 tr s0).env x:=by
   intro x hx
   cases x with
   |c v=>rfl
   |s r=>exact hlk r (hrs _ hx r (by simp[Zpj]))
  have hh:∀b∈Zga (Z3 (λj=>decide (j<0+i)) 0 tr s0).h (frefs m.op (Z3 (λj=>decide (j<0+i)) 0 tr s0).env),gt (Z3 (λj=>decide (j<0+i)) 0 tr s0).h b=gt (Z3 (listed.getD · false) 0 tr s0).h b:=by
   intro b hb;refine hgt' b ?_;rw[htf];exact hb
  have hlI:=Zp7 (L:=λj=>decide (j<0+i)) tr 0 s0;have hlT:=Zp7 (L:=λ_=>true) tr 0 s0;have hu:∀b,b∈t.u.map Prod.fst->(Z3 (λj=>decide (j<0+i)) 0 tr s0).h.length<=b->ρ b=none:=by
   intro b hb hle;refine hS.dom b ⟨by omega,?_⟩;intro j t' hj hL hin';have hw:b∈t'.foot.wb:=by rw[<-(hdst j t' hj).2];exact hin'
   have hb':b∈t.foot.wb:=by rw[<-(hdst i t ht).2];exact hb
   rcases Ycn j i with hlt|rfl|hgt
   .have:=hlI.2 j t' hj (by simpa using hlt) b hin';omega
   .simp only[hLi]at hL;cases hL
   .exact high j t' hj hgt (by simp[Zd6,Zhm hb' (Ycd t'.foot.rb hw)]) hL
  have hDnew:∀b,domD tr s0 (λj=>listed.getD j false || decide (j=i)) b->domD tr s0 (listed.getD · false) b/\b ∉ t.u.map Prod.fst:=by
   intro b hb;refine⟨⟨hb.1,λj t' hj hL=>hb.2 j t' hj (by simp only at hL|-;rw[hL];rfl)⟩,hb.2 i t ht (by simp)⟩
  have hrun:opR (Zbq P) (Z3 (λj=>decide (j<0+i)) 0 tr s0).h (Z3 (λj=>decide (j<0+i)) 0 tr s0).h.length (Z3 (λj=>decide (j<0+i)) 0 tr s0).env m.op t.v t.u->
    (ops[i]).wp P a w (wpAny P .any ops Qc fuel (listed.setIfInBounds i true)) Qc:=by
   intro hop;have hop':=Zbgx he hh hop;have fin:∀val w' ρ',After N base ρ (Z3 (listed.getD · false) 0 tr s0).h w t.v t.u val w' ρ'->wpAny P .any ops Qc fuel (listed.setIfInBounds i true) (a.put (ops[i]).dst val) w':=by
    intro val w' ρ' hA;refine next _ _ ρ' ?_
    have:=hS.after hA (d:=(ops[i]).dst) hd hDnew;rw[<-hmd,<-htd]at this|-;exact this
   by_cases hcall:isC m.op
   .exact Zp1 hk hS.env hS.rel (.inl hcall) hu hop' fin
   .by_cases hnx:(Z3 (λj=>decide (j<0+i)) 0 tr s0).h.length∈t.u.map Prod.fst
    .exact Zp1 hk hS.env hS.rel (.inr (hu _ hnx (Yh _))) hu hop' fin
    .have hM:opR (Zbq P) (Z3 (listed.getD · false) 0 tr s0).h (Z3 (λ_=>true) 0 tr s0).h.length (Z3 (listed.getD · false) 0 tr s0).env m.op t.v t.u:=by
      cases hmop:m.op with
      |call f args=>rw[hmop]at hcall;exact absurd trivial hcall
      |xcall f args=>rw[hmop]at hcall;exact absurd trivial hcall
      |fcall f args=>rw[hmop]at hcall;exact absurd trivial hcall
      |scall f args p=>rw[hmop]at hcall;exact absurd trivial hcall
      |icall f args=>rw[hmop]at hcall;exact absurd trivial hcall
      |pcall f args=>rw[hmop]at hcall;exact absurd trivial hcall
      |dcall f args=>rw[hmop]at hcall;exact absurd trivial hcall
      |_=>rw[hmop]at hop';exact Zbgs hop' hnx _
     refine Zp1 hk hS.env hS.rel (nx:=(Z3 (λ_=>true) 0 tr s0).h.length) (.inr ?_) ?_ hM fin
     .refine hS.dom _ ⟨hlT.1,?_⟩;intro j t' hj _ hin';have:=hlT.2 j t' hj rfl _ hin';omega
     .intro b hb hle;have:=hlT.2 i t ht rfl b hb;omega
  have hskip:t.v=.tup []->t.u=[]->wpAny P .any ops Qc fuel (listed.setIfInBounds i true) (a.put (ops[i]).dst undef) w:=by
   intro hv hu0;refine next _ _ ρ ?_
   have:=(hS.skip (d:=(ops[i]).dst) hd).congr (D':=domD tr s0 λj=>listed.getD j false || decide (j=i)) (s':=appT t (Z3 (listed.getD · false) 0 tr s0)) (λr=>by rw[<-hmd,<-htd];simp[appT,hv]) (λb=>by simp[appT,hu0,upd]) rfl (λb hb=>(hDnew b hb).1);exact this
  unfold wpOp;rw[hops];simp only;rcases hguard with⟨hg1,hg2⟩|⟨j,b,d,hg1,hg2,hg3⟩
  .simp only[Region.wanted,hg1,if_true];rcases hstep with⟨_,hop⟩|⟨⟨g,b,hg,_⟩,_,_⟩
   .exact .inl (hrun hop)
   .rw[hg2]at hg;cases hg
  .have hw:=Z1o hS.env hg1 hg2;have hlkd:=hlk d (hgs d b hg3);rcases hstep with⟨hgr,hop⟩|⟨⟨g,b',hg,hsk⟩,hv,hu0⟩
   .rcases hgr with hgn|⟨g,b',hg,hb'⟩
    .rw[hg3]at hgn;cases hgn
    .rw[hg3]at hg;cases hg;rw[hlkd]at hb';rw[hw.1 b hb'];simp only[decide_true,if_true];exact .inl (hrun hop)
   .rw[hg3]at hg;cases hg;rw[hlkd]at hsk;rcases hsk with hsk|⟨c,hc',hne⟩
    .rw[hw.2 hsk];simp only[Ycj,if_false];exact hskip hv hu0
    .rw[hw.1 c hc'];simp only[hne,decide_false,Ycj,if_false];exact hskip hv hu0
theorem RelS.drew{ρ:Map}{s:S}{a:Act}{w:World}(hS:RelS N base w0 nt ts ρ s a w):RelS N base w0 nt ts ρ s a { w with drawn:=w.drawn+1 }:=by
 have hk:Keeps ρ w (Free N ρ s.h) ρ { w with drawn:=w.drawn+1 } (Free N ρ s.h):=⟨λ_ r h=>⟨r,h,rfl⟩,λ_ _ h=>⟨h,rfl⟩⟩;have hb:Below base w { w with drawn:=w.drawn+1 }:=⟨rfl,rfl,rfl,Yh _,λ_ _=>rfl⟩;obtain⟨R,hE,hst,hdom,hdf,hsz,hB,hkn,hfz⟩:=hS;obtain⟨h1,h2,h0,h3,h4,h5⟩:=R;refine⟨⟨h1,h2,h0,?_,h4,h5⟩,λs=>(hE s).keep hk,hst.keep hk,hdom,hdf,hsz,hB.trans hb,hkn,hfz⟩;intro b hne;obtain⟨r,q1,q2⟩:=h3 b hne;exact⟨r,q1,q2.keep hk λ_ _=>rfl⟩
theorem Zbgz{Γ:Ctr}(hΓ:Γ=Zbq P){ops:Array Oper}{os:List MO}(hos:mapO (compO P inl nt ops) ops.toList=some os)(hback:backB (ops.toList.map Zcg) 0=true)(hmix:P.follows .mixedOrders=true)
  {Qc:Exit->Act->World->Prop} {K:S->Prop} (hQ:∀s a w ρ,K s->RelS N base w0 nt ts ρ s a w->Qc .normal a w) {id:Nat} {s:S} {a:Act} {w:World} {ρ:Map}
  (hW:drwW Γ os s [] λfeet s'=>Zgb (ops.toList.map Zcg) feet=true/\K s') (hS:RelS N base w0 nt ts ρ s a w):(Code.region id ops true).wp P Qc a w:=by
 obtain⟨tr,hst,hord,hK⟩:=Z1v os s [] _ 0 hW;rw[hΓ]at hst;rw[Yb4]at hord;refine wp_region_any hmix ?_;have hD:=hS.drew;have hf:∀j,(Array.replicate ops.size false).getD j false=false:=by
  intro j;rw[Ybj];by_cases h:j<ops.size<;>simp[h]
 have hfun:(λj=>(Array.replicate ops.size false).getD j false)=λ_=>false:=funext hf
 refine drw_any hos hback hst hord hQ hK ops.size _ a _ ρ (by simp) ?_ ?_ ?_
 .simp
 .intro j b _ h;rw[hf]at h;cases h
 .rw[hfun,Zln tr 0 s (λ_ _=>rfl)];exact⟨hD.rel,hD.env,hD.stk,λb hb=>hD.dom b hb.1,hD.defers,hD.size,hD.below,hD.kn,hD.fz⟩
end
open Go.RowKit (Below)
section
variable{P:Program}{N:Par}{base:Nat}{w0:World}{nt:Nat}{ts:List (Array Value)}{inl:List Nat}{ρ:Map}{s:S}{a:Act}{w:World}
theorem Zdd.ren{ρ ρ':Map}{w:World}{F F':Nat->Prop}(f:Nat->Nat)(hF:∀g,g<w.heap.size->F g->F' g):∀{es:List Env} {ts:List (Array Value)},Zdd ρ w F es ts->(∀b∈es.flatMap Zey,∀r,ρ b=some r->ρ' (f b)=some r)->Zdd ρ' w F' (es.map (renE f)) ts
 |[],[],_,_=>trivial
 |_::_,_::_,h,hr=>⟨h.1.ren f (λb hb=>hr b (by simp only[Ydb,Yg];exact .inl hb)) hF,Zdd.ren f hF h.2 λb hb=>hr b (by simp only[Ydb,Yg];exact .inr hb)⟩
 |[],_::_,h,_=>h.elim
 |_::_,[],h,_=>h.elim
theorem Z12(hS:RelS N base w0 nt ts ρ s a w)(keep:List Nat):∃ρ',RelS N base w0 nt ts ρ' (Zdv keep s) a w:=by
 unfold Zdv;simp only;split
 .rename_i hc;obtain⟨h1,h2⟩:=Zpx hc;have hnd:(Z8 s.h 200 (Zey (Zhh s.h (rst keep s.env))++s.stk.flatMap Zey) []).Nodup:=Zpv _ _ _ Yba;generalize Z8 s.h 200 (Zey (Zhh s.h (rst keep s.env))++s.stk.flatMap Zey) []=ids at *
  refine⟨renM ρ ids,hS.rel.ren hnd h2,?_,?_,?_,hS.defers,hS.size,hS.below,hS.kn,λg hg hz=>⟨Zlk (hS.fz g hg hz).1,(hS.fz g hg hz).2⟩⟩
  .exact((hS.env.rst keep).scrub (h:=s.h)).ren _ (λb hb r hr=>by rw[Zi6 (h1 b (by simp[hb]))];exact hr) λg _ hg=>Zlk hg
  .exact hS.stk.ren _ (λg _ hg=>Zlk hg) λb hb r hr=>by rw[Zi6 (h1 b (Yg.2 (.inr hb)))];exact hr
  .intro b hb;exact Zt5 (by simpa using hb)
 .exact⟨ρ,hS.rel,λ_=>.top _,hS.stk,hS.dom,hS.defers,hS.size,hS.below,hS.kn,hS.fz⟩
def PQ(N:Par)(base:Nat)(w0:World)(nt:Nat)(ts:List (Array Value))(Q:X->S->Prop):Exit->Act->World->Prop
 |.normal,a,w=>∃s ρ,Q .n s/\RelS N base w0 nt ts ρ s a w
 |.exit id,a,w=>∃s ρ,Q (.x id) s/\RelS N base w0 nt ts ρ s a w
 |.ret,a,w=>∃s ρ,Q .r s/\RelS N base w0 nt ts ρ s a w
 |_,_,_=>False
theorem RelS.rst(hS:RelS N base w0 nt ts ρ s a w)(keep:List Nat):RelS N base w0 nt ts ρ { s with env:=rst keep s.env } a w :=
 ⟨hS.rel,hS.env.rst keep,hS.stk,hS.dom,hS.defers,hS.size,hS.below,hS.kn,hS.fz⟩
theorem Wc_sound{Γ:Ctr}(hΓ:Γ=Zbq P):∀(c:Code) (ks:List (List Nat)) (m:MCode) (ks':List (List Nat)),comp P inl nt c ks=some (m,ks')->∀(Q:X->S->Prop) (s:S) (a:Act) (w:World) (ρ:Map),
  Wc Γ m Q s->RelS N base w0 nt ts ρ s a w->c.wp P (PQ N base w0 nt ts Q) a w:=by
 intro c
 induction c with
 |skip =>
  intro ks m ks' hc Q s a w ρ hW hS;simp[comp]at hc;obtain⟨rfl,rfl⟩:=hc
  exact wp_skip ⟨s,ρ,hW,hS⟩
 |region id ops draw =>
  intro ks m ks' hc Q s a w ρ hW hS
  cases ks with
  |nil=>simp[comp]at hc
  |cons k ks =>
   simp only[comp]at hc;split at hc
   .rename_i os hos;split at hc
    .rename_i hdraw;subst hdraw;split at hc
     .rename_i hcond;cases hc;simp only[Wc]at hW;exact Zbgz hΓ hos hcond.1 hcond.2.1 (λs a w ρ hq hS=>⟨_,ρ,hq,hS.rst k⟩) hW hS
     .cases hc
    .rename_i hdraw;cases hc;simp only[Wc]at hW;have hdraw':draw=false:=by simpa using hdraw
     subst hdraw';exact wp_region_list (Z1p hΓ (λs a w ρ hq hS=>⟨_,ρ,hq,hS.rst k⟩) ops.toList os hos s a w ρ hW hS)
   .cases hc
 |seq x y ihx ihy =>
  intro ks m ks' hc Q s a w ρ hW hS;simp only[comp]at hc;split at hc
  .rename_i mx k1 h1;split at hc
   .rename_i my k2 h2;cases hc;simp only[Wc]at hW;refine wp_seq (wp_mono (ihx ks mx k1 h1 _ s a w ρ hW hS) ?_);intro e a' w' hq
    cases e with
    |normal=>obtain⟨s',ρ',h3,h4⟩:=hq;exact ihy k1 my _ h2 Q s' a' w' ρ' h3 h4
    |exit id=>exact hq
    |ret=>exact hq
    |goto l=>exact hq.elim
    |panic ch=>exact hq.elim
    |outgrown=>exact hq.elim
   .cases hc
  .cases hc
 |cond o x y ihx ihy =>
  intro ks m ks' hc Q s a w ρ hW hS;simp only[comp]at hc;split at hc
  .rename_i o' mx k1 ho h1;split at hc
   .rename_i my k2 h2;cases hc;simp only[Wc]at hW;have hr:=Z6 hS.env ho;split at hW
    .rename_i b hb;rw[hb]at hr;refine wp_cond hr.bool_inv ?_;split at hW
     .rename_i hbt;subst hbt;exact ihx ks mx k1 h1 Q s a w ρ hW hS
     .rename_i hbt
      have:b=false:=by simpa using hbt
      subst this;exact ihy k1 my _ h2 Q s a w ρ hW hS
    .exact hW.elim
   .cases hc
  .cases hc
 |block id b ih =>
  intro ks m ks' hc Q s a w ρ hW hS;simp only[comp]at hc;split at hc
  .rename_i mb k1 h1;cases hc;simp only[Wc]at hW;refine wp_block (wp_mono (ih ks mb _ h1 _ s a w ρ hW hS) ?_);intro e a' w' hq
   cases e with
   |normal=>exact hq
   |exit id' =>
    obtain⟨s',ρ',h3,h4⟩:=hq;simp only[Exit.inBlock];simp only at h3;split at h3
    .rename_i hid;rw[if_pos hid];exact⟨s',ρ',h3,h4⟩
    .rename_i hid;rw[if_neg hid];exact⟨s',ρ',h3,h4⟩
   |ret=>exact hq
   |goto l=>exact hq.elim
   |panic ch=>exact hq.elim
   |outgrown=>exact hq.elim
  .cases hc
 |loop b ih =>
  intro ks m ks' hc Q s a w ρ hW hS
  cases ks with
  |nil=>simp[comp]at hc
  |cons k ks =>
   simp only[comp]at hc;split at hc
   .rename_i mb k1 h1;cases hc;simp only[Wc,LoopW]at hW;obtain⟨I,μ,h0,hround⟩:=hW;obtain⟨ρ0,hS0⟩:=Z12 hS k;refine wp_loop_ghost (λn a w=>∃s ρ,I s/\μ s=n/\RelS N base w0 nt ts ρ s a w) (μ (Zdv k s)) ⟨_,ρ0,h0,rfl,hS0⟩ ?_;rintro n a' w' ⟨s1,ρ1,hI,rfl,hS1⟩;refine wp_mono (ih ks mb _ h1 _ s1 a' w' ρ1 (hround s1 hI) hS1) ?_;intro e a2 w2 hq
    cases e with
    |normal =>
     obtain⟨s2,ρ2,⟨h3,h4⟩,h5⟩:=hq;obtain⟨ρ3,h6⟩:=Z12 h5 k
     exact⟨μ (Zdv k s2),h4,_,ρ3,h3,rfl,h6⟩
    |exit id=>exact hq
    |ret=>exact hq
    |goto l=>exact hq.elim
    |panic ch=>exact hq.elim
    |outgrown=>exact hq.elim
   .cases hc
 |exit id =>
  intro ks m ks' hc Q s a w ρ hW hS;simp[comp]at hc;obtain⟨rfl,rfl⟩:=hc
  exact wp_exit ⟨s,ρ,hW,hS⟩
 |ret =>
  intro ks m ks' hc Q s a w ρ hW hS;simp[comp]at hc;obtain⟨rfl,rfl⟩:=hc
  exact wp_ret ⟨s,ρ,hW,hS⟩
 |rangeFunc f ps x y _ _=>intro ks m ks' hc;cases ks<;>simp[comp]at hc
 |scope b _=>intro ks m ks' hc;cases ks<;>simp[comp]at hc
 |label l=>intro ks m ks' hc;cases ks<;>simp[comp]at hc
 |goto l=>intro ks m ks' hc;cases ks<;>simp[comp]at hc
 |refuse wy=>intro ks m ks' hc;cases ks<;>simp[comp]at hc
end
end Go.AM
