/-
  Parts of the proofs for this seat: AMFz AMSound AMCall AMCode AMFrame AMDraw AMDraw2 AMTop AMFun.
-/
import Derived.Deep.LoopGhost
import Derived.Orders
import Derived.Test.YtdioodopdlpinaaGreatP2
set_option linter.unusedSimpArgs false
set_option linter.unusedVariables false
namespace Go.AM
open Go.RowKit (Below)
section
variable{P:Program}{N:Par}{base:Nat}{ρ:Map}{h:List Blk}{w:World}{v d:AV}{val:Value}
theorem xarr_TRA(R:Rel N base ρ h w){b:Nat}{r:Root}(hr:ρ b=some r){el sz:Nat}{es:List (List T)}(hb:gt h b=.xarr el sz es):∃fp,TR w (.lst sz es) r.v fp/\∀g∈fp,Zbx r g:=by
 have hd:gt h b≠.dead:=by rw[hb];intro hc;cases hc
 obtain⟨r',h1,h2⟩:=R.blk b hd;rw[hr]at h1;cases h1;rw[hb]at h2;obtain⟨e',xs,_,hown,hsz,hl,ht,_⟩:=h2;by_cases hz:es=[]
 .subst hz;refine⟨[],?_,λg hg=>by cases hg⟩;rcases hown.2 with⟨hv,_⟩|⟨g,cap,cur,hv,_⟩<;>rw[hv]<;>exact .lst0 _ _ _
 .rcases hown.2 with⟨_,hz'⟩|⟨g,cap,cur,hv,hbg,hg,hcap,_,hcs',htake⟩
  .exact absurd (Ybz hz') hz
  .refine⟨g::r.ex,?_,?_⟩
   .rw[hv];refine .lst hz hsz hcap hg hl ?_;rw[Yj,htake];exact ht
   .intro x hx
    cases hx with
    |head=>exact .inl (by rw[hv];rfl)
    |tail _ hx=>exact .inr hx
theorem Zbab(R:Rel N base ρ h w){x:T}(hf:frzT h v=some x)(hv:RV ρ w (Free N ρ h) v val):∃fp,TR w x val fp/\∀g∈fp,N.a g:=by
 cases v<;>try (simp[frzT]at hf;done)
 .simp[frzT]at hf;subst hf
  cases hv with
  |t hT hf=>exact⟨_,hT,λg hg=>(hf g hg).1⟩
 .rename_i b;simp only[frzT]at hf;split at hf
  .rename_i el sz fr es hb;cases hf
   cases hv with
   |own hr hone =>
    have hd:gt h b≠.dead:=by rw[hb];intro hc;cases hc
    obtain⟨fp,hT,_,hg,_⟩:=Zu4 R hr hb;obtain⟨r',h1,h2⟩:=R.blk b hd;rw[hr]at h1;cases h1;rw[hb]at h2;obtain⟨_,_,_,_,_,_,_,_,hfree,_⟩:=h2;exact⟨fp,hT,λg hg'=>(hg g hg').elim (λq=>(R.hO b _ g hr hd (.inl q)).1) λq=>(hfree g q).1⟩
  .rename_i el sz es hb;cases hf
   cases hv with
   |own hr hone =>
    have hd:gt h b≠.dead:=by rw[hb];intro hc;cases hc
    obtain⟨fp,hT,hg⟩:=xarr_TRA R hr hb;exact⟨fp,hT,λg hg'=>(R.hO b _ g hr hd (hg g hg')).1⟩
  .cases hf
theorem Zbac(R:Rel N base ρ h w):∀{cs:List AV} {ts:List T} {vs:List Value},Zfe h cs=some ts->RVs ρ w (Free N ρ h) cs vs->∃fp,TRs w ts vs fp/\∀g∈fp,N.a g
 |[],ts,vs,hg,hv=>by simp[Zfe]at hg;subst hg;cases hv;exact⟨[],.nil,λg hg=>by cases hg⟩
 |c::cs,ts,vs,hg,hv=>by
  cases hv with
  |cons h1 h2 =>
   simp only[Zfe]at hg;split at hg
   .rename_i x xs hx hxs;cases hg;obtain⟨fp,h3,h4⟩:=Zbab R hx h1;obtain⟨fq,h5,h6⟩:=Zbac R hxs h2;exact⟨fp++fq,.cons h3 h5,λg hg=>(Yi.1 hg).elim (h4 g) (h6 g)⟩
   .cases hg
theorem Zbad(R:Rel N base ρ h w)(hp:givA v=true)(hf:frz h v=some d)(hv:RV ρ w (Free N ρ h) v val):RV (λ_=>none) w N.a d val:=by
 cases v<;>try (simp[givA]at hp;done)
 .simp[frz,frz1]at hf;subst hf
  cases hv with
  |t hT hf=>exact .t hT λg hg=>(hf g hg).1
 .rename_i cs;simp only[frz,frz1]at hf;split at hf
  .rename_i ds hds;cases hf
   cases hv with
   |agg hc h1 =>
    obtain⟨fp,h3,h4⟩:=Zbac R hds hc;exact .agg (RVs.of_TRs h3 h4) h1
  .cases hf
 .rename_i b;have hv':=hv
  have:∃x,frzT h (.own b)=some x/\d=.t x:=by
   simp only[frz,frz1]at hf;simp only[frzT];split at hf
   .cases hf;exact⟨_,rfl,rfl⟩
   .cases hf;exact⟨_,rfl,rfl⟩
   .cases hf
  obtain⟨x,hx,rfl⟩:=this;obtain⟨fp,h3,h4⟩:=Zbab R hx hv';exact .t h3 h4
theorem Zbae(R:Rel N base ρ h w):∀{vs ds:List AV} {vals:List Value},vs.all givA=true->frzs h vs=some ds->RVs ρ w (Free N ρ h) vs vals->RVs (λ_=>none) w N.a ds vals
 |[],ds,vals,_,hf,hv=>by simp[frzs]at hf;subst hf;cases hv;exact .nil
 |v::vs,ds,vals,hp,hf,hv=>by
  simp only[Y9,Ye]at hp
  cases hv with
  |cons h1 h2 =>
   simp only[frzs]at hf;split at hf
   .rename_i x xs hx hxs;cases hf;exact .cons (Zbad R hp.1 hx h1) (Zbae R hp.2 hxs h2)
   .cases hf
theorem Zbsx(R:Rel N base ρ h w)(hf:frzR h v=some d)(hv:RV ρ w (Free N ρ h) v val):RV (λ_=>none) w N.a d val:=by
 unfold frzR at hf;split at hf
 .split at hf
  .rename_i hg;split at hf
   .rename_i ds hds;cases hf
    cases hv with
    |tup hc=>exact .tup (Zbae R hg hds hc)
   .cases hf
  .cases hf
 .split at hf
  .rename_i hg;exact Zbad R hg hf hv
  .cases hf
end
open Go.RowKit (Below)
abbrev Zdf:Map:=λ_=>none
def Zb7(P:Program):Ctr:=λf args h0 r h1=>Zgk P f=true/\∀(N:Par) (base:Nat) (w:World) (ρ:Map) (vs:Array Value),Rel N base ρ h0 w->(∀b,h0.length<=b->ρ b=none)->
 RVs ρ w (Free N ρ h0) args vs.toList->(∀g,N.z g->Free N ρ h0 g)->
 Calls P f vs w λe w'=>∃v ρ',e=.returned v/\Below base w w'/\Rel N base ρ' h1 w'/\RV ρ' w' (Free N ρ' h1) r v/\(∀b,h1.length<=b->ρ' b=none)/\h0.length<=h1.length/\
  (∀g,g<w.heap.size->¬N.a g->w'.heap[g]?=w.heap[g]?)/\(∀g,g<w.heap.size->N.z g->Free N ρ' h1 g/\w'.heap[g]?=w.heap[g]?)/\
  ∀b r0,b<h0.length->ρ b=some r0->∃r1,ρ' b=some r1/\r1.v=r0.v
theorem Rel.empty{N:Par}{base:Nat}{w:World}(hb:base<=w.heap.size)(hN:∀g,w.heap.size<=g->N.a g/\N.f g):Rel N base Zdf [] w :=
 ⟨hb,hN,λb r g hr=>(by cases hr),λb hb=>absurd (by simp[gt]) hb,λb b' r r' g hb=>(by cases hb),λb b' r r' g hb=>(by cases hb)⟩
theorem Zb7.data{P:Program}{f:Nat}{args:List AV}{r:AV}{hr:List Blk}(h:Zb7 P f args [] r hr)(w:World)(A:Nat->Prop)(vs:Array Value)(hv:RVs Zdf w A args vs.toList) :
  Calls P f vs w λe w'=>∃v ρ,e=.returned v/\Below w.heap.size w w'/\Rel (calP w A) w.heap.size ρ hr w'/\RV ρ w' (Free (calP w A) ρ hr) r v/\∀b,hr.length<=b->ρ b=none:=by
 have hk:Keeps Zdf w A Zdf w (Free (calP w A) Zdf []):=⟨λb r hb=>(by cases hb),λg _ hg=>⟨⟨.inr hg,λb r hb=>(by cases hb)⟩,rfl⟩⟩;refine(h.2 (calP w A) w.heap.size w Zdf vs (.empty (Yh _) λg hg=>⟨.inl hg,hg⟩) (λ_ _=>rfl) (hv.keep hk) (λg hg=>hg.elim)).mono ?_;rintro e w' ⟨v,ρ,rfl,h1,h2,h3,h4,_⟩;exact⟨v,ρ,rfl,h1,h2,h3,h4⟩
section
variable{P:Program}{N:Par}{base:Nat}{ρ:Map}{h:List Blk}{w:World}{e:Env}{a:Act}{inl:List Nat}{ops:Array Oper}{F:Nat->Prop}{f:Nat}{v d r:AV}{val:Value}{vs as:List AV}{o:Oper}{vals:Array Value}{hr:List Blk}{K:Act->World->Prop}{Q:Exit->Act->World->Prop}
theorem frzT_rel(R:Rel N base ρ h w){x:T}(hf:frzT h v=some x)(hv:RV ρ w (Free N ρ h) v val)(hF:(refs v=[]/\∀g,Free N ρ h g->F g)\/∀g,F g):∃fp,TR w x val fp/\∀g∈fp,F g:=by
 cases v<;>try (simp[frzT]at hf;done)
 .simp[frzT]at hf;subst hf
  cases hv with
  |t hT hf=>exact⟨_,hT,λg hg=>hF.elim (λh2=>h2.2 g (hf g hg)) λh2=>h2 g⟩
 .rename_i b;simp only[frzT]at hf;split at hf
  .rename_i el sz fr es hb;cases hf;rcases hF with hF|hF
   .simp[refs]at hF
   .cases hv with
    |own hr hone =>
     obtain⟨fp,hT,_,_⟩:=Zu4 R hr hb;exact⟨fp,hT,λg _=>hF g⟩
  .rename_i el sz es hb;cases hf;rcases hF with hF|hF
   .simp[refs]at hF
   .cases hv with
    |own hr hone =>
     obtain⟨fp,hT⟩:=Z96 R hr hb;exact⟨fp,hT,λg _=>hF g⟩
  .cases hf
theorem Z0x{F:Nat->Prop}(R:Rel N base ρ h w):∀{cs:List AV} {ts:List T} {vs:List Value},Zfe h cs=some ts->RVs ρ w (Free N ρ h) cs vs->((Z0 cs=[]/\∀g,Free N ρ h g->F g)\/∀g,F g)->∃fp,TRs w ts vs fp/\∀g∈fp,F g
 |[],ts,vs,hg,hv,_=>by simp[Zfe]at hg;subst hg;cases hv;exact⟨[],.nil,λg hg=>by cases hg⟩
 |c::cs,ts,vs,hg,hv,hF=>by
  cases hv with
  |cons h1 h2 =>
   simp only[Zfe]at hg;split at hg
   .rename_i x xs hx hxs;cases hg;obtain⟨fp,h3,h4⟩:=frzT_rel R hx h1 (hF.imp (λ⟨q1,q2⟩=>⟨by simp[Z0]at q1;exact q1.1,q2⟩) id);obtain⟨fq,h5,h6⟩:=Z0x R hxs h2 (hF.imp (λ⟨q1,q2⟩=>⟨by simp[Z0]at q1;exact q1.2,q2⟩) id);exact⟨fp++fq,.cons h3 h5,λg hg=>(Yi.1 hg).elim (h4 g) (h6 g)⟩
   .cases hg
theorem Zbaf(R:Rel N base ρ h w)(hf:frz1 h v=some d)(hv:RV ρ w (Free N ρ h) v val)(hF:(refs v=[]/\∀g,Free N ρ h g->F g)\/∀g,F g):RV Zdf w F d val:=by
 cases v<;>try (simp[frz1]at hf;done)
 .simp[frz1]at hf;subst hf;cases hv;exact .nilp
 .simp[frz1]at hf;subst hf
  cases hv with
  |t hT hf=>exact .t hT λg hg=>hF.elim (λh2=>h2.2 g (hf g hg)) λh2=>h2 g
 .rename_i cs;simp only[frz1]at hf;split at hf
  .rename_i ds hds;cases hf
   cases hv with
   |agg hc h1 =>
    obtain⟨fp,h3,h4⟩:=Z0x R hds hc (hF.imp (λ⟨q1,q2⟩=>⟨by simpa[refs]using q1,q2⟩) id);exact .agg (RVs.of_TRs h3 h4) h1
  .cases hf
 .rename_i b off;simp only[frz1]at hf;split at hf
  .rename_i cs hb;split at hf
   .rename_i ts hts;cases hf;rcases hF with hF|hF
    .simp[refs]at hF
    .cases hv with
     |ptr hr hv =>
      obtain⟨r',h1,h2⟩:=R.blk b (by rw[hb];intro hc;cases hc);rw[hr]at h1;cases h1;rw[hb]at h2;obtain⟨hx0,g',c,te,hv2,_,hh,hcs,hone⟩:=h2;rw[hv]at hv2;cases hv2;obtain⟨fp,h3,h4⟩:=Z0x R hts hcs (.inr hF);have hl:ts.length=c.toList.length:=h3.length;have:=RV.iptr (ρ:=Zdf) (F:=F) (o:=0) (off:=off) hh (hF _) (by rw[Yj,hl,Y2];exact h3) (λg _=>hF g);simpa using this
   .cases hf
  .cases hf
 .simp[frz1]at hf;subst hf
  cases hv with
  |iptr hg hF' hc hf=>exact .iptr hg (hF.elim (λh2=>h2.2 _ hF') λh2=>h2 _) hc λg hg=>hF.elim (λh2=>h2.2 g (hf g hg)) λh2=>h2 g
 .rename_i b;simp only[frz1]at hf;split at hf
  .rename_i el sz fr es hb;cases hf;rcases hF with hF|hF
   .simp[refs]at hF
   .cases hv with
    |own hr hone =>
     obtain⟨fp,hT,_,_⟩:=Zu4 R hr hb;exact .t hT λg _=>hF g
  .rename_i el sz es hb;cases hf;rcases hF with hF|hF
   .simp[refs]at hF
   .cases hv with
    |own hr hone =>
     obtain⟨fp,hT⟩:=Z96 R hr hb;exact .t hT λg _=>hF g
  .cases hf
theorem Zbag{F:Nat->Prop}(R:Rel N base ρ h w):∀{vs ds:List AV} {vals:List Value},Zht h vs=some ds->RVs ρ w (Free N ρ h) vs vals->((Z0 vs=[]/\∀g,Free N ρ h g->F g)\/∀g,F g)->RVs Zdf w F ds vals
 |[],ds,vals,hf,hv,_=>by simp[Zht]at hf;subst hf;cases hv;exact .nil
 |v::vs,ds,vals,hf,hv,hF=>by
  cases hv with
  |cons h1 h2 =>
   simp only[Zht]at hf;split at hf
   .rename_i x xs hx hxs;cases hf;exact .cons (Zbaf R hx h1 (hF.imp (λ⟨q1,q2⟩=>⟨by simp[Z0]at q1;exact q1.1,q2⟩) id)) (Zbag R hxs h2 (hF.imp (λ⟨q1,q2⟩=>⟨by simp[Z0]at q1;exact q1.2,q2⟩) id))
   .cases hf
theorem frz_rel(R:Rel N base ρ h w)(hf:frz h v=some d)(hv:RV ρ w (Free N ρ h) v val)(hF:(refs v=[]/\∀g,Free N ρ h g->F g)\/∀g,F g):RV Zdf w F d val:=by
 by_cases hx:∃g cs,v=.fn g cs
 .obtain⟨g,cs,rfl⟩:=hx;simp only[frz]at hf;split at hf
  .rename_i ds hds;cases hf
   cases hv with
   |fn hc=>exact .fn (Zbag R hds hc (hF.imp (λ⟨q1,q2⟩=>⟨by simpa[refs]using q1,q2⟩) id))
  .cases hf
 .have:frz h v=frz1 h v:=by
   cases v<;>first|rfl|exact absurd ⟨_,_,rfl⟩ hx
  rw[this]at hf;exact Zbaf R hf hv hF
theorem Zvd(R:Rel N base ρ h w){ds:List AV}{vals:List Value}(hf:frzs h vs=some ds)(hv:RVs ρ w (Free N ρ h) vs vals)(hF:(Z0 vs=[]/\∀g,Free N ρ h g->F g)\/∀g,F g):RVs Zdf w F ds vals:=by
 induction vs generalizing ds vals with
 |nil=>simp[frzs]at hf;subst hf;cases hv;exact .nil
 |cons v vs ih =>
  cases hv with
  |cons h1 h2 =>
   simp only[frzs]at hf;split at hf
   .rename_i x xs hx hxs;cases hf;exact .cons (frz_rel R hx h1 (hF.imp (λ⟨q1,q2⟩=>⟨by simp[Z0]at q1;exact q1.1,q2⟩) id)) (ih hxs h2 (hF.imp (λ⟨q1,q2⟩=>⟨by simp[Z0]at q1;exact q1.2,q2⟩) id))
   .cases hf
theorem Zbah(hc:Zgk P f=true)(args:Array Value)(w:World):(callFunc f args).run P w=.ok (.enter f args) w:=by
 unfold Zgk at hc;split at hc
 .rename_i fn hfn;simp only[Ye,bne_iff_ne,ne_eq]at hc
  cases hb:fn.body with
  |none=>simp[hb]at hc
  |some c=>simp[callFunc,hfn,hc.2,hb]
 .cases hc
def opR(Γ:Ctr)(h:List Blk)(nx:Nat)(e:Env)(k:MOp)(v:AV)(u:List (Nat×Blk)):Prop:=match k with
 |.call f args=>∃as,frzs h (args.map (ev e))=some as/\∃r hr,Γ f as [] r hr/\(Zek (args.map (ev e)) || frR r hr)=true/\v=shift nx r/\u=newU nx hr 0
 |.xcall f args=>∃as,frzs h (args.map (ev e))=some as/\∃r hr,Γ f as [] r hr/\frR r hr=true/\v=shift nx r/\u=newU nx (hr.map xB) 0
 |.fcall f args=>∃as,frzs h (args.map (ev e))=some as/\Zek (args.map (ev e))=true/\∃r hr,Γ f as [] r hr/\frzR hr r=some v/\u=[]
 |.icall f args=>Zcr Γ f (args.map (ev e)) h nx λv' u'=>v=v'/\u=u'
 |.scall f args p=>Zcr Γ f (args.map (ev e)) h nx λv' u'=>∃u2,Zg9 h u' (ev e p)=some u2/\v=v'/\u=u'++u2
 |.pcall f args=>Zha Γ f (args.map (ev e)) h nx λv' u'=>v=v'/\u=u'
 |.dcall f args=>∃g caps,ev e f=.fn g caps/\Zcr Γ g (args.map (ev e)++caps) h nx λv' u'=>v=v'/\u=u'
 |k=>Zw h nx e k=some (v,u)
structure After (N:Par) (base:Nat) (ρ:Map) (h:List Blk) (w:World) (v:AV) (u:List (Nat×Blk)) (val:Value) (w':World) (ρ':Map):Prop where
 val:RV ρ' w' (Free N ρ' (upd h u)) v val
 rel:Rel N base ρ' (upd h u) w'
 keeps:Keeps ρ w (Free N ρ h) ρ' w' (Free N ρ' (upd h u))
 same:∀b,b ∉ u.map Prod.fst->ρ b=none->ρ' b=none
 below:Below base w w'
 kn:∀g,g<w.heap.size->¬N.a g->w'.heap[g]?=w.heap[g]?
def named:MOp->Option (Nat×List Opd)
 |.call f args=>some (f,args)
 |.xcall f args=>some (f,args)
 |.fcall f args=>some (f,args)
 |.icall f args=>some (f,args)
 |.scall f args _=>some (f,args)
 |.pcall f args=>some (f,args)
 |_=>none
theorem Zke{op:Op}{k:MOp}(hk:Zbi P inl ops op=some k) :
  (∀f args,named k=some (f,args)->∃c,op=.call c/\c.callee=.value (.func f)/\mapO opd c.args.toList=some args/\Zgk P f=true)/\
  (∀x args,k=.dcall x args->∃c y,op=.call c/\c.callee=.value y/\opd y=some x/\mapO opd c.args.toList=some args):=by
 cases op with
 |call c =>
  obtain⟨callee,as,ts⟩:=c
  cases callee with
  |invoke r m=>simp[Zbi]at hk
  |builtin b =>
   have:named k=none/\(∀x args,k≠.dcall x args):=by
    cases b<;>simp only[Zbi]at hk<;>(repeat' split at hk)<;>first
     |cases hk;done
     |(cases hk;exact⟨rfl,by simp⟩)
     |(obtain⟨_,_,rfl⟩:=Yl.1 hk;exact⟨rfl,by simp⟩)
   exact⟨λf args h=>(by rw[this.1]at h;cases h),λx args h=>absurd h (this.2 x args)⟩
  |value y =>
   cases y with
   |func f =>
    simp only[Zbi]at hk;split at hk
    .rename_i hc;obtain⟨as',h1,h2⟩:=Yl.1 hk;have hn:named k=some (f,as')/\∀x args,k≠.dcall x args:=by
      subst h2;unfold callK
      repeat' split
      all_goals exact⟨rfl,by simp⟩
     refine⟨λf' args hq=>?_,λx args hq=>absurd hq (hn.2 x args)⟩;rw[hn.1]at hq;cases hq;exact⟨_,rfl,rfl,h1,hc⟩
    .cases hk
   |tmp t =>
    simp only[Zbi]at hk;split at hk
    .rename_i x as' hx has;cases hk;refine⟨by simp[named],?_⟩;intro x' args hq;cases hq;exact⟨_,_,rfl,rfl,hx,has⟩
    .cases hk
   |const v =>
    simp only[Zbi]at hk;split at hk
    .rename_i x as' hx has;cases hk;refine⟨by simp[named],?_⟩;intro x' args hq;cases hq;exact⟨_,_,rfl,rfl,hx,has⟩
    .cases hk
   |global g =>
    simp only[Zbi]at hk;split at hk
    .rename_i x as' hx has;simp[opd]at hx
    .cases hk
 |makeFunc fn first caps =>
  have:named k=none/\(∀x args,k≠.dcall x args):=by
   cases fn<;>simp only[Zbi]at hk<;>(repeat' split at hk)<;>first
    |(cases hk;done)
    |(cases hk;exact⟨rfl,by simp⟩)
    |(obtain⟨_,_,rfl⟩:=Yl.1 hk;exact⟨rfl,by simp⟩)
  exact⟨λf args h=>(by rw[this.1]at h;cases h),λx args h=>absurd h (this.2 x args)⟩
 |slice t x lo hi mx =>
  have:named k=none/\(∀x args,k≠.dcall x args):=by
   cases mx<;>simp only[Zbi]at hk<;>(repeat' split at hk)<;>first
    |(cases hk;done)
    |(cases hk;exact⟨rfl,by simp⟩)
    |(obtain⟨_,_,rfl⟩:=Yl.1 hk;exact⟨rfl,by simp⟩)
  exact⟨λf args h=>(by rw[this.1]at h;cases h),λx args h=>absurd h (this.2 x args)⟩
 |_ =>
  have:named k=none/\(∀x args,k≠.dcall x args):=by
   simp only[Zbi]at hk<;>(repeat' split at hk)<;>first
    |(cases hk;done)
    |(cases hk;exact⟨rfl,by simp⟩)
    |(obtain⟨_,_,rfl⟩:=Yl.1 hk;exact⟨rfl,by simp⟩)
  exact⟨λf args h=>(by rw[this.1]at h;cases h),λx args h=>absurd h (this.2 x args)⟩
theorem Zmq{c:Call}(ho:o.op=.call c)(hc:c.callee=.value (.func f))(hcl:Zgk P f=true)(w:World):(execOp a.eval o).run P w=.ok (.enter f (c.args.map a.eval)) w:=by
 unfold execOp;rw[ho];simp[resolve,hc,Act.eval,Deferred.ofValue,invoke,Zbah hcl]
theorem Zbsy(R:Rel N base ρ h w){nx:Nat}(hargs:RVs ρ w (Free N ρ h) vs vals.toList)(hu:∀b,b∈(newU nx hr 0).map Prod.fst->nx<=b->ρ b=none)
  (hfz:frzs h vs=some as) (hG:Zb7 P f as [] r hr) (hsh:(Zek vs || frR r hr)=true) (hex:(execOp a.eval o).run P w=.ok (.enter f vals) w) (hK:∀val w' ρ',After N base ρ h w (shift nx r) (newU nx hr 0) val w' ρ'->K (a.put o.dst val) w'):o.wp P a w K Q:=by
 have hnew:∀b,nx<=b->b<nx+hr.length->ρ b=none:=by
  intro b h1 h2;refine hu b ?_ h1;exact(Zqd nx hr 0 b).2 (by omega)
 have main:∀A:Nat->Prop,RVs Zdf w A as vals.toList->((∀g,A g->Free N ρ h g)\/frR r hr=true)->o.wp P a w K Q:=by
  intro A hA hs;unfold Oper.wp;rw[hex];show Calls P f vals w _;refine(hG.data w A _ hA).mono ?_;rintro e w' ⟨val,ρc,rfl,hB,hRc,hv,hdom⟩;have J:JoinH N A base ρ h w ρc hr w' nx:=⟨R,hB,hRc,hnew,hdom,hs.imp id λhf=>by simp only[frR,Ye]at hf;exact hf.2⟩;refine hK val w' (Zc6 ρ ρc nx hr.length) ⟨J.val hv (hs.imp id λhf=>by simp only[frR,Ye]at hf;exact hf.1),J.rel,J.keeps,?_,hB.mono R.hb,λg hg _=>hB.block g hg⟩;intro b hb hb0;rw[Zqd]at hb;simp only[Zc6];rw[if_neg (by omega)];exact hb0
 simp only[Ycz]at hsh;rcases hsh with hsh|hsh
 .have h0:Z0 vs=[]:=by simpa[Zek]using hsh
  exact main (Free N ρ h) (Zvd R hfz hargs (.inl ⟨h0,λ_ h=>h⟩)) (.inl λ_ h=>h)
 .exact main (λ_=>True) (Zvd R hfz hargs (.inr λ_=>trivial)) (.inr hsh)
theorem Zbsz(R:Rel N base ρ h w)(hargs:RVs ρ w (Free N ρ h) vs vals.toList)
  (hfz:frzs h vs=some as) (hno:Zek vs=true) (hG:Zb7 P f as [] r hr) (hd:frzR hr r=some d) (hex:(execOp a.eval o).run P w=.ok (.enter f vals) w) (hK:∀val w' ρ',After N base ρ h w d [] val w' ρ'->K (a.put o.dst val) w'):o.wp P a w K Q:=by
 have h0:Z0 vs=[]:=by simpa[Zek]using hno
 have hA:RVs Zdf w (Free N ρ h) as vals.toList:=Zvd R hfz hargs (.inl ⟨h0,λ_ h=>h⟩);unfold Oper.wp;rw[hex];show Calls P f vals w _;refine(hG.data w (Free N ρ h) _ hA).mono ?_;rintro e w' ⟨val,ρc,rfl,hB,hRc,hv,hdom⟩;have hv':=Zbsx hRc hd hv;have J:JoinH N (Free N ρ h) base ρ h w Zdf [] w' h.length:=⟨R,hB,Rel.empty hB.size hRc.hN,λb h1 h2=>absurd h2 (by simp;omega),λb _=>rfl,.inl λ_ h=>h⟩;have e1:Zc6 ρ Zdf h.length ([]:List Blk).length=ρ:=by
  funext b;simp only[Zc6,Ybn,Ybs];rw[if_neg (by omega)]
 have e2:upd h (newU h.length [] 0)=h:=rfl;have q1:=J.rel;have q2:=J.keeps;rw[e1,e2]at q1 q2;refine hK val w' ρ ⟨?_,q1,q2,λb _ hb=>hb,hB.mono R.hb,λg hg _=>hB.block g hg⟩;refine hv'.keep ⟨λb r hb=>(by cases hb),λg hg hf=>⟨?_,rfl⟩⟩;have:=J.free_new (g:=g) ⟨hf,λb r hb=>(by cases hb)⟩ (.inr λ_ h=>h);rw[e1,e2]at this;exact this
def xR(b:Blk)(r:Root):Root:=if Zbr b=true then⟨r.v,[],r.fp⟩else r
def Zdx(ρ ρc:Map)(n:Nat)(hr:List Blk):Map:=λb=>if n<=b/\b<n+hr.length then(ρc (b-n)).map (xR (gt hr (b-n)))else ρ b
theorem gt_mapX(hr:List Blk)(i:Nat):gt (hr.map xB) i=xB (gt hr i):=by
 unfold gt;rw[Ycc];cases hr[i]?<;>rfl
theorem renB_xB(f:Nat->Nat)(b:Blk):renB f (xB b)=xB (renB f b):=by
 cases b with
 |arr e sz fr es=>cases fr<;>rfl
 |_=>rfl
section
variable{A:Nat->Prop}{ρc:Map}{hr:List Blk}{w':World}{n:Nat}
theorem JoinH.xrel(J:JoinH N A base ρ h w ρc hr w' n)(hfr:hr.all frB=true) :
  Rel N base (Zdx ρ ρc n hr) (upd h (newU n (hr.map xB) 0)) w'/\Keeps ρ w (Free N ρ h) (Zdx ρ ρc n hr) w' (Free N (Zdx ρ ρc n hr) (upd h (newU n (hr.map xB) 0))):=by
 have hgt:∀b,gt (upd h (newU n (hr.map xB) 0)) b=if n<=b/\b<n+hr.length then xB (renB (λc=>c+n) (gt hr (b-n)))else gt h b:=by
  intro b;rw[Zi2];simp only[Ybs,Yba];split
  .rw[gt_mapX,renB_xB]
  .rfl
 have hsplit:∀b r,Zdx ρ ρc n hr b=some r->gt (upd h (newU n (hr.map xB) 0)) b≠.dead->
   (ρ b=some r/\gt h b≠.dead/\gt (upd h (newU n (hr.map xB) 0)) b=gt h b)\/
   (∃r0,n<=b/\b<n+hr.length/\ρc (b-n)=some r0/\r=xR (gt hr (b-n)) r0/\gt hr (b-n)≠.dead/\gt (upd h (newU n (hr.map xB) 0)) b=xB (renB (λc=>c+n) (gt hr (b-n)))):=by
  intro b r hb hd;rw[hgt]at hd|-;simp only[Zdx]at hb;by_cases hc:n<=b/\b<n+hr.length
  .rw[if_pos hc]at hb hd|-;obtain⟨r0,h1,h2⟩:=Yl.1 hb;exact .inr ⟨r0,hc.1,hc.2,h1,h2.symm,λhx=>hd (by rw[hx];rfl),rfl⟩
  .rw[if_neg hc]at hb hd|-;exact .inl ⟨hb,hd,rfl⟩
 -- the blocks of a new root are new
 have hnew:∀i r0 g,ρc i=some r0->gt hr i≠.dead->Zbx (xR (gt hr i) r0) g->w.heap.size<=g/\(Zbx r0 g\/(Zbr (gt hr i)=true/\g∈r0.fp)):=by
  intro i r0 g h1 h2 h3;unfold xR at h3;by_cases hf:Zbr (gt hr i)=true
  .rw[if_pos hf]at h3;rcases h3 with h3|h3
   .exact⟨(J.Rc.lt h1 h2 (.inl h3)).1,.inl (.inl h3)⟩
   .exact⟨(J.Rc.fresh h1 hf g h3).1,.inr ⟨hf,h3⟩⟩
  .rw[if_neg hf]at h3;exact⟨(J.Rc.lt h1 h2 h3).1,.inl h3⟩
 have hfree:∀g,g<w.heap.size->Free N ρ h g->Free N (Zdx ρ ρc n hr) (upd h (newU n (hr.map xB) 0)) g:=by
  intro g hlt hg;refine⟨hg.1,λb r hb hd he=>?_⟩;rcases hsplit b r hb hd with⟨h1,h2,_⟩|⟨r0,_,_,h1,h2,h3,_⟩
  .exact hg.2 b r h1 h2 he
  .rw[h2]at he;have:=(hnew _ r0 g h1 h3 he).1;omega
 have hkeep:Keeps ρ w (Free N ρ h) (Zdx ρ ρc n hr) w' (Free N (Zdx ρ ρc n hr) (upd h (newU n (hr.map xB) 0))):=by
  refine⟨λb r hb=>⟨r,?_,rfl⟩,λg hlt hg=>⟨hfree g hlt hg,J.B.block g hlt⟩⟩;simp only[Zdx];rw[if_neg λhc=>by rw[J.new b hc.1 hc.2]at hb;cases hb];exact hb
 have hroot:∀c r0,ρc c=some r0->∃r1,Zdx ρ ρc n hr (c+n)=some r1/\r1.v=r0.v:=by
  intro c r0 hc;have hlt:c<hr.length:=by
   rcases Yb8 c hr.length with q|q
   .exact q
   .rw[J.dom c q]at hc;cases hc
  refine⟨xR (gt hr c) r0,?_,?_⟩
  .simp only[Zdx];rw[if_pos (by omega),Ydd,hc];rfl
  .unfold xR;split<;>rfl
 refine⟨⟨Yq J.R.hb J.B.size,λg hl=>J.R.hN g (Yq J.B.size hl),?_,?_,?_,?_⟩,hkeep⟩
 .intro b r g hb hd hg;rcases hsplit b r hb hd with⟨h1,h2,_⟩|⟨r0,_,_,h1,h2,h3,_⟩
  .exact J.R.hO b r g h1 h2 hg
  .rw[h2]at hg;exact J.R.hN g (hnew _ r0 g h1 h3 hg).1
 .intro b hd;have hd0:=hd;rw[hgt]at hd;by_cases hc:n<=b/\b<n+hr.length
  .rw[if_pos hc]at hd;obtain⟨r0,h1,h2⟩:=J.Rc.blk (b-n) λhx=>hd (by rw[hx];rfl)
   refine⟨xR (gt hr (b-n)) r0,by simp only[Zdx];rw[if_pos hc,h1];rfl,?_⟩;rw[hgt,if_pos hc]
   cases hx:gt hr (b-n)with
   |dead=>trivial
   |box cs =>
    rw[hx]at h2;obtain⟨h0,g,c,e,h3,h4,h5,h6,h7⟩:=h2
    exact⟨h0,g,c,e,h3,Yq J.R.hb h4,h5,h6.scalX _ (λc _ r hr'=>hroot c r hr') (Zbaa hfr hx),h7⟩
   |arr e sz fr es =>
    have hft:fr=true:=Z0w hfr hx;subst hft;rw[hx]at h2;obtain⟨h0,e',xs,he',h3,h4,h5,h6,h7,h8,h9⟩:=h2
    exact⟨e',xs,he',Zkc J.R.hb h3,h4,h5,h6,(h9 rfl).mono J.R.hb,(h8 rfl).1,λg hg hv=>(h7 g hg).2 (b-n) r0 h1 (by rw[hx];intro hc;cases hc) (.inl hv)⟩
   |xarr e sz es =>
    rw[hx]at h2;obtain⟨e',xs,he',h3,h4,h5,h6,h7,rest⟩:=h2
    exact⟨e',xs,he',Zkc J.R.hb h3,h4,h5,h6,h7.mono J.R.hb,rest⟩
   |det e sz es i off c =>
    rw[hx]at h2;obtain⟨e',xs,rb,fa,fc,he,ho,hsz,hl,hrb,hcell,q1,q2,hex,hA,hC,oA,oC,rest⟩:=h2;obtain⟨r1,k1,k2⟩:=hroot c rb hrb;exact⟨e',xs,r1,fa,fc,he,Zkc J.R.hb ho,hsz,hl,k1,by rw[k2];exact hcell,q1,q2,hex,hA,hC,oA.mono J.R.hb,oC.mono J.R.hb,rest⟩
  .rw[if_neg hc]at hd;obtain⟨r,h1,h2⟩:=J.R.blk b hd;refine⟨r,by simp only[Zdx];rw[if_neg hc];exact h1,?_⟩;rw[hgt,if_neg hc];exact h2.keep hkeep λg hg=>J.B.block g (h2.lt hd hg).2
 .intro b b' r r' g hb hb' hd hd' hg hg';rcases hsplit b r hb hd with⟨h1,h2,_⟩|⟨r0,z1,z2,h1,h2,h3,_⟩<;>rcases hsplit b' r' hb' hd' with⟨h4,h5,_⟩|⟨r1,z3,z4,h4,h5,h6,_⟩
  .exact J.R.inj b b' r r' g h1 h4 h2 h5 hg hg'
  .rw[h5]at hg';have q1:=(J.R.lt h1 h2 hg).2;have q2:=(hnew _ r1 g h4 h6 hg').1;omega
  .rw[h2]at hg;have q1:=(J.R.lt h4 h5 hg').2;have q2:=(hnew _ r0 g h1 h3 hg).1;omega
  .rw[h2]at hg;rw[h5]at hg';have key:b-n=b'-n:=by
    rcases(hnew _ r0 g h1 h3 hg).2 with q|⟨q,q'⟩<;>rcases(hnew _ r1 g h4 h6 hg').2 with p|⟨p,p'⟩
    .exact J.Rc.inj _ _ r0 r1 g h1 h4 h3 h6 q p
    .exact absurd q ((J.Rc.fresh h4 p g p').2.1.2 _ r0 h1 h3)
    .exact absurd p ((J.Rc.fresh h1 q g q').2.1.2 _ r1 h4 h6)
    .exact J.Rc.apart _ _ r0 r1 g h1 h4 q p q' p'
   omega
 .intro b b' r r' g hb hb' hf hf' hg hg';have nofr:∀b r,Zdx ρ ρc n hr b=some r->Zbr (gt (upd h (newU n (hr.map xB) 0)) b)=true->ρ b=some r/\Zbr (gt h b)=true:=by
   intro b r hb hf;rcases hsplit b r hb (Zdw hf)with⟨h1,h2,e1⟩|⟨r0,_,_,h1,h2,h3,e1⟩
   .rw[e1]at hf;exact⟨h1,hf⟩
   .exfalso;rw[e1]at hf
    cases hx:gt hr (b-n)with
    |arr e sz fr es =>
     have hft:fr=true:=Z0w hfr hx;subst hft
     rw[hx]at hf;cases hf
    |_=>rw[hx]at hf;cases hf
  obtain⟨h1,h2⟩:=nofr b r hb hf;obtain⟨h3,h4⟩:=nofr b' r' hb' hf';exact J.R.apart b b' r r' g h1 h3 h2 h4 hg hg'
end
theorem Zbs0{o:Oper}(R:Rel N base ρ h w){nx f:Nat}{vs as:List AV}{vals:Array Value}(hargs:RVs ρ w (Free N ρ h) vs vals.toList){r:AV}{hr:List Blk}(hu:∀b,b∈(newU nx (hr.map xB) 0).map Prod.fst->nx<=b->ρ b=none)
  (hfz:frzs h vs=some as) (hG:Zb7 P f as [] r hr) (hsh:frR r hr=true) (hex:(execOp a.eval o).run P w=.ok (.enter f vals) w)
  {K:Act->World->Prop} {Q:Exit->Act->World->Prop} (hK:∀val w' ρ',After N base ρ h w (shift nx r) (newU nx (hr.map xB) 0) val w' ρ'->K (a.put o.dst val) w'):o.wp P a w K Q:=by
 have hnew:∀b,nx<=b->b<nx+hr.length->ρ b=none:=by
  intro b h1 h2;refine hu b ?_ h1;exact(Zqd nx (hr.map xB) 0 b).2 (by simp;omega)
 unfold Oper.wp;rw[hex];show Calls P f vals w _;refine(hG.data w (λ_=>True) _ (Zvd R hfz hargs (.inr λ_=>trivial))).mono ?_;rintro e w' ⟨val,ρc,rfl,hB,hRc,hv,hdom⟩;simp only[frR,Ye]at hsh;have J:JoinH N (λ_=>True) base ρ h w ρc hr w' nx:=⟨R,hB,hRc,hnew,hdom,.inr hsh.2⟩;obtain⟨h1,h2⟩:=J.xrel hsh.2;refine hK val w' (Zdx ρ ρc nx hr) ⟨?_,h1,h2,?_,hB.mono R.hb,λg hg _=>hB.block g hg⟩
 .refine hv.scalX _ (λc _ r0 hc=>?_) hsh.1;have hlt:c<hr.length:=by
   rcases Yb8 c hr.length with q|q
   .exact q
   .rw[hdom c q]at hc;cases hc
  refine⟨xR (gt hr c) r0,?_,?_⟩
  .simp only[Zdx];rw[if_pos (by omega),Ydd,hc];rfl
  .unfold xR;split<;>rfl
 .intro b hb hb0;rw[Zqd]at hb;simp only[Zdx];rw[if_neg (by simp at hb;omega)];exact hb0
end
open Go.RowKit (Below)
section
variable{P:Program}{N:Par}{base:Nat}{ρ:Map}{h:List Blk}{w:World}{e:Env}{a:Act}{inl:List Nat}{ops:Array Oper}{ids:List Nat}{i nx b m:Nat}{F:Nat->Prop}{ρ1:Map}
theorem RV.root{x:AV}{v:Value}(hv:RV ρ w F x v):∀b∈refs x,∃r,ρ b=some r:=by
 refine RV.rec (motive_1:=λx v _=>∀b∈refs x,∃r,ρ b=some r) (motive_2:=λxs vs _=>∀b∈Z0 xs,∃r,ρ b=some r) ?_ ?_ ?_ ?_ ?_ ?_ ?_ ?_ ?_ ?_ ?_ ?_ ?_ hv
 .intro v b hb;cases hb
 .intro b hb;cases hb
 .intro x v fp _ _ b hb;cases hb
 .intro cs c _ _ ih;simpa[refs]using ih
 .intro cs c _ ih;simpa[refs]using ih
 .intro b off g r hr _ c hc;simp[refs]at hc;subst hc;exact⟨r,hr⟩
 .intro b i sz off g n cap r hr _ c hc;simp[refs]at hc;subst hc;exact⟨r,hr⟩
 .intro cs off g o c e fz fp _ _ _ _ b hb;cases hb
 .intro b r hr _ c hc;simp[refs]at hc;subst hc;exact⟨r,hr⟩
 .intro b n g r hr _ c hc;simp[refs]at hc;subst hc;exact⟨r,hr⟩
 .intro f cs c _ ih;simpa[refs]using ih
 .intro b hb;cases hb
 .intro x v xs vs _ _ ih1 ih2 b hb;simp only[Z0,Yi]at hb;exact hb.elim (ih1 b) (ih2 b)
theorem RVs.root{xs:List AV}{vs:List Value}(hv:RVs ρ w F xs vs):∀b∈Z0 xs,∃r,ρ b=some r:=by
 induction xs generalizing vs with
 |nil=>intro b hb;cases hb
 |cons x xs ih =>
  cases hv with
  |cons h1 h2 =>
   intro b hb;simp only[Z0,Yi]at hb;exact hb.elim (h1.root b) (ih h2 b)
theorem Z0y{p:Nat->Prop}(hc:∀b,p b->∀c∈Zch (gt h b),p c):∀(n:Nat) (todo acc:List Nat),(∀b∈todo,p b)->(∀b∈acc,p b)->∀b∈Zbp h n todo acc,p b
 |0,_,_,_,ha,b,hb=>ha b (by simpa[Zbp]using hb)
 |n+1,[],acc,_,ha,b,hb=>ha b (by simpa[Zbp]using hb)
 |n+1,c::todo,acc,ht,ha,b,hb=>by
  simp only[Zbp]at hb;split at hb
  .exact Z0y hc n todo acc (λb hb=>ht b (by simp[hb])) ha b hb
  .refine Z0y hc n _ _ (λb hb=>?_) (λb hb=>?_) b hb
   .rcases Yi.1 hb with hb|hb
    .exact hc c (ht c (by simp)) b hb
    .exact ht b (by simp[hb])
   .rcases Yi.1 hb with hb|hb
    .exact ha b hb
    .simp at hb;subst hb;exact ht b (by simp)
theorem Rel.refs_root(R:Rel N base ρ h w)(b:Nat):∀c∈Zch (gt h b),∃r,ρ c=some r:=by
 intro c hc
 cases hx:gt h b with
 |dead=>rw[hx]at hc;cases hc
 |arr e sz fr es=>rw[hx]at hc;cases hc
 |xarr e sz es=>rw[hx]at hc;cases hc
 |det e sz es i off b' =>
  obtain⟨r,h1,h2⟩:=R.blk b (by rw[hx];intro hc;cases hc);rw[hx]at h2 hc;obtain⟨_,_,rb,_,_,_,_,_,_,hrb,_⟩:=h2;simp[Zch]at hc;subst hc
  exact⟨rb,hrb⟩
 |box cs =>
  obtain⟨r,h1,h2⟩:=R.blk b (by rw[hx];intro hc;cases hc);rw[hx]at h2 hc;obtain⟨_,g,c',e',_,_,_,h6,_⟩:=h2;exact h6.root c hc
theorem Zbai(R:Rel N base ρ h w){vs:List AV}{vals:List Value}(hv:RVs ρ w (Free N ρ h) vs vals):∀b∈Z8 h vs,∃r,ρ b=some r :=
 Z0y (p:=λb=>∃r,ρ b=some r) (λb _ c hc=>R.refs_root b c hc) 200 (Z0 vs) [] (λb hb=>hv.root b hb) (λb hb=>by cases hb)
theorem idx_at(hnd:ids.Nodup)(hi:ids[i]?=some b):idx b ids 0=i:=by
 obtain⟨j,h1,h2⟩:=Z99 (Y4 hi) 0;rw[Ym]at h1;rw[h1];obtain⟨q1,q2⟩:=Y0.1 hi;obtain⟨q3,q4⟩:=Y0.1 h2;rcases Ycy j i with hlt|rfl|hlt
 .exact absurd (q4.trans q2.symm) (Yci.1 hnd j i q3 q1 hlt)
 .rfl
 .exact absurd (q2.trans q4.symm) (Yci.1 hnd i j q1 q3 hlt)
theorem Zhc(hi:ids[i]?=some b):bk ids nx i=b:=by simp[bk,hi]
theorem Zi3(hi:ids.length<=i):bk ids nx i=nx+(i-ids.length):=by simp[bk,Yb9 hi]
theorem bk_inj(hnd:ids.Nodup)(hn:∀j,j<m-ids.length->nx+j ∉ ids){j:Nat}(hi:i<m)(hj:j<m)(he:bk ids nx i=bk ids nx j):i=j:=by
 rcases Yb8 i ids.length with h1|h1<;>rcases Yb8 j ids.length with h2|h2
 .have e1:ids[i]?=some ids[i]:=by simp[h1]
  have e2:ids[j]?=some ids[j]:=by simp[h2]
  rw[Zhc e1,Zhc e2]at he;rw[<-idx_at hnd e1,<-idx_at hnd e2,he]
 .have e1:ids[i]?=some ids[i]:=by simp[h1]
  rw[Zhc e1,Zi3 h2]at he;exact absurd (he▸Y4 e1) (hn _ (by omega))
 .have e2:ids[j]?=some ids[j]:=by simp[h2]
  rw[Zhc e2,Zi3 h1]at he;exact absurd (he.symm▸Y4 e2) (hn _ (by omega))
 .rw[Zi3 h1,Zi3 h2]at he;omega
theorem Zmr(ids:List Nat)(nx:Nat):∀(bs:List Blk) (i b:Nat),b∈(Zb6 ids nx bs i).map Prod.fst↔∃j,i<=j/\j<i+bs.length/\bk ids nx j=b
 |[],i,b=>by simp[Zb6];intro j h1 h2;omega
 |x::bs,i,b=>by
  simp only[Zb6,Yo,Yz,Zmr ids nx bs (i+1),Yw];constructor
  .rintro(rfl|⟨j,h1,h2,h3⟩)
   .exact⟨i,Yh _,by omega,rfl⟩
   .exact⟨j,by omega,by omega,h3⟩
  .rintro⟨j,h1,h2,h3⟩;by_cases hj:j=i
   .subst hj;exact .inl h3.symm
   .exact .inr ⟨j,by omega,by omega,h3⟩
theorem Zve(ids:List Nat)(nx:Nat):∀(bs:List Blk) (i:Nat) (h:List Blk) (b:Nat),(∀j,i<=j->j<i+bs.length->bk ids nx j≠b)->gt (upd h (Zb6 ids nx bs i)) b=gt h b
 |[],i,h,b,_=>rfl
 |x::bs,i,h,b,hb=>by
  simp only[Zb6,upd];rw[Zve ids nx bs (i+1) _ b (λj h1 h2=>hb j (by omega) (by simp;omega)),Zde,if_neg λhe=>hb i (Yh _) (by simp) he.symm]
theorem Z0z(ids:List Nat)(nx:Nat):∀(bs:List Blk) (i:Nat) (h:List Blk),(∀j k,i<=j->j<i+bs.length->i<=k->k<i+bs.length->bk ids nx j=bk ids nx k->j=k)->∀j,i<=j->j<i+bs.length->
  gt (upd h (Zb6 ids nx bs i)) (bk ids nx j)=renB (bk ids nx) (gt bs (j-i))
 |[],i,h,_,j,h1,h2=>by simp at h2;omega
 |x::bs,i,h,hinj,j,h1,h2=>by
  simp only[Yw]at h2 hinj;simp only[Zb6,upd];by_cases hj:j=i
  .subst hj;rw[Zve ids nx bs (j+1) _ _ (λk h3 h4 he=>by have:=hinj k j (by omega) (by omega) (by omega) (by omega) he;omega),Zde,if_pos rfl];simp[gt]
  .rw[Z0z ids nx bs (i+1) _ (λj k q1 q2 q3 q4=>hinj j k (by omega) (by omega) (by omega) (by omega)) j (by omega) (by omega)]
   have:j-i=(j-(i+1))+1:=by omega
   rw[this];simp[gt]
open Classical in
noncomputable def Zfw(ρ ρ1:Map)(ids:List Nat)(nx m:Nat):Map:=λb=>if hx:∃i,i<m/\bk ids nx i=b then ρ1 hx.choose else ρ b
theorem Z00(hinj:∀i j,i<m->j<m->bk ids nx i=bk ids nx j->i=j)(hi:i<m):Zfw ρ ρ1 ids nx m (bk ids nx i)=ρ1 i:=by
 have hx:∃j,j<m/\bk ids nx j=bk ids nx i:=⟨i,hi,rfl⟩;unfold Zfw;rw[dif_pos hx,hinj _ _ hx.choose_spec.1 hi hx.choose_spec.2]
theorem Zbaj(hb:∀i,i<m->bk ids nx i≠b):Zfw ρ ρ1 ids nx m b=ρ b:=by
 unfold Zfw;rw[dif_neg λ⟨i,h1,h2⟩=>hb i h1 h2]
def subP(N:Par)(ρ:Map)(h:List Blk)(w:World)(ids:List Nat):Par :=
 ⟨λg=>N.a g/\∀b r,b ∉ ids->ρ b=some r->gt h b≠.dead->¬Zbx r g,
  λg=>w.heap.size<=g\/∃b∈ids,∃r,ρ b=some r/\gt h b≠.dead/\(Zbx r g\/Zbr (gt h b)=true/\g∈r.fp),Free N ρ h⟩
theorem Rel.sub(R:Rel N base ρ h w)(hnd:ids.Nodup)(hcl:∀b∈ids,∀c∈Zch (gt h b),c∈ids):Rel (subP N ρ h w ids) base (renM ρ ids) (subH h ids) w:=by
 refine R.renN hnd hcl ?_ ?_ ?_ ?_
 .intro g hg;refine⟨⟨(R.hN g hg).1,λb r _ hr hd he=>?_⟩,.inl hg⟩;have:=(R.lt hr hd he).2;omega
 .intro b hb r g hr hd hg;refine⟨⟨(R.hO b r g hr hd hg).1,λc rc hc hrc hdc he=>?_⟩,.inr ⟨b,hb,r,hr,hd,.inl hg⟩⟩;exact hc (R.inj b c r rc g hr hrc hd hdc hg he▸hb)
 .exact λg hg=>⟨hg.1,λb r _=>hg.2 b r⟩
 .intro b hb r hr hf g hg;exact .inr ⟨b,hb,r,hr,Zdw hf,.inr ⟨hf,hg⟩⟩
structure BackH (N:Par) (base:Nat) (ρ:Map) (h:List Blk) (w:World) (ids:List Nat) (nx:Nat) (ρ1:Map) (h1:List Blk) (w':World):Prop where
 R:Rel N base ρ h w
 nd:ids.Nodup
 root:∀b∈ids,∃r,ρ b=some r
 len:ids.length<=h1.length
 new:∀j,j<h1.length-ids.length->ρ (nx+j)=none
 R1:Rel (subP N ρ h w ids) base ρ1 h1 w'
 B:Below base w w'
 dom:∀b,h1.length<=b->ρ1 b=none
 kn:∀g,g<w.heap.size->¬(subP N ρ h w ids).a g->w'.heap[g]?=w.heap[g]?
 fz:∀g,g<w.heap.size->Free N ρ h g->Free (subP N ρ h w ids) ρ1 h1 g/\w'.heap[g]?=w.heap[g]?
 rt:∀b r0,b<ids.length->renM ρ ids b=some r0->∃r1,ρ1 b=some r1/\r1.v=r0.v
section
variable{ids:List Nat}{nx:Nat}{ρ1:Map}{h1:List Blk}{w':World}
theorem BackH.inj(J:BackH N base ρ h w ids nx ρ1 h1 w'):∀i j,i<h1.length->j<h1.length->bk ids nx i=bk ids nx j->i=j:=by
 intro i j hi hj he;refine bk_inj J.nd (m:=h1.length) (λk hk hm=>?_) hi hj he;obtain⟨r,hr⟩:=J.root _ hm;rw[J.new k hk]at hr;cases hr
theorem BackH.split(J:BackH N base ρ h w ids nx ρ1 h1 w')(b:Nat) :
  (∃i,i<h1.length/\bk ids nx i=b/\Zfw ρ ρ1 ids nx h1.length b=ρ1 i/\gt (upd h (Zb6 ids nx h1 0)) b=renB (bk ids nx) (gt h1 i))\/
  (b ∉ ids/\(∀i,i<h1.length->bk ids nx i≠b)/\Zfw ρ ρ1 ids nx h1.length b=ρ b/\gt (upd h (Zb6 ids nx h1 0)) b=gt h b):=by
 by_cases hx:∃i,i<h1.length/\bk ids nx i=b
 .obtain⟨i,hi,rfl⟩:=hx;refine .inl ⟨i,hi,rfl,Z00 J.inj hi,?_⟩;have:=Z0z ids nx h1 0 h (λj k _ h2 _ h4=>J.inj j k (by omega) (by omega)) i (Ya _) (by omega);simpa using this
 .have hn:∀i,i<h1.length->bk ids nx i≠b:=λi hi he=>hx ⟨i,hi,he⟩
  refine .inr ⟨λhm=>?_,hn,Zbaj hn,Zve ids nx h1 0 h b λj _ h2=>hn j (by omega)⟩;obtain⟨i,hi⟩:=Ydt hm;have hl:=(Y0.1 hi).1;exact hn i (by have:=J.len;omega) (Zhc hi)
theorem BackH.free(J:BackH N base ρ h w ids nx ρ1 h1 w'){g:Nat}(hg:Free (subP N ρ h w ids) ρ1 h1 g):Free N (Zfw ρ ρ1 ids nx h1.length) (upd h (Zb6 ids nx h1 0)) g:=by
 refine⟨hg.1.1,?_⟩;intro b r hb hd he;rcases J.split b with⟨i,hi,rfl,e1,e2⟩|⟨hm,_,e1,e2⟩
 .rw[e1]at hb;rw[e2]at hd;exact hg.2 i r hb (λhc=>hd (by rw[hc];rfl)) he
 .rw[e1]at hb;rw[e2]at hd;exact hg.1.2 b r hm hb hd he
theorem BackH.keeps(J:BackH N base ρ h w ids nx ρ1 h1 w'):Keeps ρ w (Free N ρ h) (Zfw ρ ρ1 ids nx h1.length) w' (Free N (Zfw ρ ρ1 ids nx h1.length) (upd h (Zb6 ids nx h1 0))):=by
 constructor
 .intro b r hb;rcases J.split b with⟨i,hi,rfl,e1,_⟩|⟨hm,_,e1,_⟩
  .rw[e1];rcases Yb8 i ids.length with hl|hl
   .have ei:ids[i]?=some ids[i]:=by simp[hl]
    rw[Zhc ei]at hb;exact J.rt i r hl (by simp[renM,ei,hb])
   .rw[Zi3 hl,J.new _ (by omega)]at hb;cases hb
  .exact⟨r,by rw[e1];exact hb,rfl⟩
 .intro g hl hf;obtain⟨q1,q2⟩:=J.fz g hl hf;exact⟨J.free q1,q2⟩
theorem BackH.rel(J:BackH N base ρ h w ids nx ρ1 h1 w'):Rel N base (Zfw ρ ρ1 ids nx h1.length) (upd h (Zb6 ids nx h1 0)) w':=by
 have hk:=J.keeps;have hroot:∀c r,ρ1 c=some r->Zfw ρ ρ1 ids nx h1.length (bk ids nx c)=some r:=by
  intro c r hc;have hl:c<h1.length:=by
   rcases Yb8 c h1.length with q|q
   .exact q
   .rw[J.dom c q]at hc;cases hc
  rw[Z00 J.inj hl];exact hc
 have hf1:∀g,(subP N ρ h w ids).f g->N.f g:=by
  rintro g (hg|⟨b,hb,r,hr,hd,hg|⟨hf,hg⟩⟩)
  .exact(J.R.hN g hg).2
  .exact(J.R.hO b r g hr hd hg).2
  .exact(J.R.fresh hr hf g hg).1
 refine⟨Yq J.R.hb J.B.size,λg hl=>J.R.hN g (Yq J.B.size hl),?_,?_,?_,?_⟩
 .intro b r g hb hd hg;rcases J.split b with⟨i,hi,rfl,e1,e2⟩|⟨hm,_,e1,e2⟩
  .rw[e1]at hb;rw[e2]at hd;have:=J.R1.hO i r g hb (λhc=>hd (by rw[hc];rfl)) hg;exact⟨this.1.1,hf1 g this.2⟩
  .rw[e1]at hb;rw[e2]at hd;exact J.R.hO b r g hb hd hg
 .intro b hd;rcases J.split b with⟨i,hi,rfl,e1,e2⟩|⟨hm,_,e1,e2⟩
  .rw[e2]at hd|-;rw[e1];obtain⟨r,q1,q2⟩:=J.R1.blk i λhc=>hd (by rw[hc];rfl)
   refine⟨r,q1,?_⟩
   cases hx:gt h1 i with
   |dead=>trivial
   |box cs =>
    rw[hx]at q2;obtain⟨h0,g,c,e',h3,h4,h5,h6,h7⟩:=q2
    exact⟨h0,g,c,e',h3,h4,h5,h6.ren _ (λc _ r hr=>hroot c r hr) λg _ hg=>J.free hg,h7⟩
   |arr e' sz fr es =>
    rw[hx]at q2;obtain⟨h0,e',xs,he',h3,h4,h5,h6,h7,h8,h9⟩:=q2
    exact⟨h0,e',xs,he',h3,h4,h5,h6,λg hg=>J.free (h7 g hg),λhf=>⟨(h8 hf).1,λg hg=>hf1 g ((h8 hf).2 g hg)⟩,h9⟩
   |det e' sz es i' off c =>
    rw[hx]at q2;obtain⟨e',xs,rb,fa,fc,he,ho,hsz,hl,hrb,rest⟩:=q2
    exact⟨e',xs,rb,fa,fc,he,ho,hsz,hl,hroot c rb hrb,rest⟩
   |xarr e' sz es=>rw[hx]at q2;exact q2
  .rw[e2]at hd|-;rw[e1];obtain⟨r,q1,q2⟩:=J.R.blk b hd;exact⟨r,q1,q2.keep hk λg hg=>J.kn g (q2.lt hd hg).2 λhc=>hc.2 b r hm q1 hd hg⟩
 .intro b b' r r' g hb hb' hd hd' hg hg';rcases J.split b with⟨i,hi,rfl,e1,e2⟩|⟨hm,_,e1,e2⟩<;>rcases J.split b' with⟨j,hj,rfl,e3,e4⟩|⟨hm',_,e3,e4⟩
  .rw[e1]at hb;rw[e2]at hd;rw[e3]at hb';rw[e4]at hd';rw[J.R1.inj i j r r' g hb hb' (λhc=>hd (by rw[hc];rfl)) (λhc=>hd' (by rw[hc];rfl)) hg hg']
  .rw[e1]at hb;rw[e2]at hd;rw[e3]at hb';rw[e4]at hd';have:=J.R1.hO i r g hb (λhc=>hd (by rw[hc];rfl)) hg;exact absurd hg' (this.1.2 b' r' hm' hb' hd')
  .rw[e1]at hb;rw[e2]at hd;rw[e3]at hb';rw[e4]at hd';have:=J.R1.hO j r' g hb' (λhc=>hd' (by rw[hc];rfl)) hg';exact absurd hg (this.1.2 b r hm hb hd)
  .rw[e1]at hb;rw[e2]at hd;rw[e3]at hb';rw[e4]at hd';exact J.R.inj b b' r r' g hb hb' hd hd' hg hg'
 .intro b b' r r' g hb hb' hf hf' hg hg';have mixed:∀i r b' r',ρ1 i=some r->Zbr (gt h1 i)=true->b' ∉ ids->ρ b'=some r'->Zbr (gt h b')=true->g∈r.fp->g∈r'.fp->False:=by
   intro i r b' r' hb hf hm hb' hf' hg hg';have q1:=(J.R1.fresh hb hf g hg).1;obtain⟨_,q2,q3⟩:=J.R.fresh hb' hf' g hg';rcases q1 with q1|⟨c,hc,rc,h3,h4,h5|⟨h5,h6⟩⟩
   .omega
   .exact q2.2 c rc h3 h4 h5
   .exact hm (J.R.apart c b' rc r' g h3 hb' h5 hf' h6 hg'▸hc)
  rcases J.split b with⟨i,hi,rfl,e1,e2⟩|⟨hm,_,e1,e2⟩<;>rcases J.split b' with⟨j,hj,rfl,e3,e4⟩|⟨hm',_,e3,e4⟩
  .rw[e1]at hb;rw[e2,Zhb]at hf;rw[e3]at hb';rw[e4,Zhb]at hf';rw[J.R1.apart i j r r' g hb hb' hf hf' hg hg']
  .rw[e1]at hb;rw[e2,Zhb]at hf;rw[e3]at hb';rw[e4]at hf';exact(mixed i r b' r' hb hf hm' hb' hf' hg hg').elim
  .rw[e1]at hb;rw[e2]at hf;rw[e3]at hb';rw[e4,Zhb]at hf';exact(mixed j r' b r hb' hf' hm hb hf hg' hg).elim
  .rw[e1]at hb;rw[e2]at hf;rw[e3]at hb';rw[e4]at hf';exact J.R.apart b b' r r' g hb hb' hf hf' hg hg'
theorem BackH.after(J:BackH N base ρ h w ids nx ρ1 h1 w'){r:AV}{v:Value}(hv:RV ρ1 w' (Free (subP N ρ h w ids) ρ1 h1) r v) :
  After N base ρ h w (ren (bk ids nx) r) (Zb6 ids nx h1 0) v w' (Zfw ρ ρ1 ids nx h1.length):=by
 refine⟨hv.ren _ (λb _ r hr=>?_) λg _ hg=>J.free hg,J.rel,J.keeps,?_,J.B,λg hl hn=>J.kn g hl λhc=>hn hc.1⟩
 .have hl:b<h1.length:=by
   rcases Yb8 b h1.length with q|q
   .exact q
   .rw[J.dom b q]at hr;cases hr
  rw[Z00 J.inj hl];exact hr
 .intro b hb hb0;rw[Zmr]at hb;rw[Zbaj λi hi he=>hb ⟨i,Ya _,by omega,he⟩];exact hb0
end
theorem Zvf{o:Oper}(R:Rel N base ρ h w){nx f:Nat}{vs:List AV}{vals:Array Value}(hargs:RVs ρ w (Free N ρ h) vs vals.toList){r:AV}{h1:List Blk}
  (hu:∀j,(Z8 h vs).length<=j->j<h1.length->ρ (nx+(j-(Z8 h vs).length))=none) (hcl:Zey h (Z8 h vs) (Z0 vs)=true) (hG:Zb7 P f (subA (Z8 h vs) vs) (subH h (Z8 h vs)) r h1)
  (hex:(execOp a.eval o).run P w=.ok (.enter f vals) w) {K:Act->World->Prop} {Q:Exit->Act->World->Prop}
  (hK:∀val w' ρ',After N base ρ h w (ren (bk (Z8 h vs) nx) r) (Zb6 (Z8 h vs) nx h1 0) val w' ρ'->K (a.put o.dst val) w'):o.wp P a w K Q:=by
 obtain⟨hin,hcl2⟩:=Zvc hcl;have hnd:(Z8 h vs).Nodup:=Zva _ _ _ Ybi;have hroot:=Zbai R hargs;generalize Z8 h vs=ids at *
 unfold Oper.wp;rw[hex];show Calls P f vals w _;have hF:∀g,Free N ρ h g->Free (subP N ρ h w ids) (renM ρ ids) (subH h ids) g:=λg hg=>Zvb hg ⟨hg.1,λb r _=>hg.2 b r⟩
 refine(hG.2 (subP N ρ h w ids) base w (renM ρ ids) vals (R.sub hnd hcl2) (λb hb=>Z0v (by simpa[subH]using hb))
  (hargs.ren _ (λb hb r hr=>by rw[Zmo (hin b hb)];exact hr) λg _ hg=>hF g hg) hF).mono ?_
 rintro e w' ⟨v,ρ1,rfl,hB,hR1,hv,hdom,hlen,hkn,hfz,hrt⟩;have hl:(subH h ids).length=ids.length:=by simp[subH]
 rw[hl]at hlen hrt
 have J:BackH N base ρ h w ids nx ρ1 h1 w':=⟨R,hnd,hroot,hlen,λj hj=>by
  have:=hu (j+ids.length) (by omega) (by omega)
  rwa [Ydd]at this,hR1,hB,hdom,hkn,hfz,hrt⟩
 exact hK v w' _ (J.after hv)
theorem Free.congr{h':List Blk}(hg:∀b,gt h b=gt h' b):Free N ρ h=Free N ρ h':=by
 funext g;unfold Free;simp only[hg]
theorem Rel.congr{h':List Blk}(hg:∀b,gt h b=gt h' b)(R:Rel N base ρ h w):Rel N base ρ h' w:=by
 have hF:=Free.congr (N:=N) (ρ:=ρ) hg;refine⟨R.hb,R.hN,?_,?_,?_,?_⟩
 .intro b r g hr hd;rw[<-hg]at hd;exact R.hO b r g hr hd
 .intro b hb;rw[<-hg]at hb;obtain⟨r,h1,h2⟩:=R.blk b hb;exact⟨r,h1,by rw[<-hg,<-hF];exact h2⟩
 .intro b b' r r' g h1 h2 h3 h4;rw[<-hg]at h3 h4;exact R.inj b b' r r' g h1 h2 h3 h4
 .intro b b' r r' g h1 h2 h3 h4;rw[<-hg]at h3 h4;exact R.apart b b' r r' g h1 h2 h3 h4
theorem ren_back{f g:Nat->Nat}:∀(v:AV),(∀c∈refs v,g (f c)=c)->ren g (ren f v)=v:=by
 intro v;refine AV.rec (motive_1:=λv=>(∀c∈refs v,g (f c)=c)->ren g (ren f v)=v) (motive_2:=λvs=>(∀c∈Z0 vs,g (f c)=c)->rens g (rens f vs)=vs) ?_ ?_ ?_ ?_ ?_ ?_ ?_ ?_ ?_ ?_ ?_ ?_ ?_ v
 .intro _;rfl
 .intro _;rfl
 .intro x _;rfl
 .intro cs ih h;simp[ren,ih (by simpa[refs]using h)]
 .intro cs ih h;simp[ren,ih (by simpa[refs]using h)]
 .intro b off h;simp[ren,h b (by simp[refs])]
 .intro b i sz off h;simp[ren,h b (by simp[refs])]
 .intro cs off _;rfl
 .intro b h;simp[ren,h b (by simp[refs])]
 .intro b n h;simp[ren,h b (by simp[refs])]
 .intro fn cs ih h;simp[ren,ih (by simpa[refs]using h)]
 .intro _;rfl
 .intro v vs ih1 ih2 h;simp only[Z0,Yi]at h;simp[rens,ih1 (λc hc=>h c (.inl hc)),ih2 (λc hc=>h c (.inr hc))]
theorem Zbak{f g:Nat->Nat}:∀(vs:List AV),(∀c∈Z0 vs,g (f c)=c)->rens g (rens f vs)=vs
 |[],_=>rfl
 |v::vs,h=>by
  simp only[Z0,Yi]at h;simp[rens,ren_back v (λc hc=>h c (.inl hc)),Zbak vs (λc hc=>h c (.inr hc))]
theorem Zbs1{f g:Nat->Nat}(x:Blk)(h:∀c∈Zch x,g (f c)=c):renB g (renB f x)=x:=by
 cases x with
 |box cs=>simp[renB,Zbak cs h]
 |det e sz es i off b=>simp[renB,h b (by simp[Zch])]
 |_=>rfl
theorem Z01(ids:List Nat)(nx:Nat):∀(xs ys:List Blk) (i:Nat),Zb6 ids nx (xs++ys) i=Zb6 ids nx xs i++Zb6 ids nx ys (i+xs.length)
 |[],ys,i=>by simp[Zb6]
 |x::xs,ys,i=>by simp[Zb6,Z01 ids nx xs ys (i+1),Ycx,Nat.add_comm 1]
theorem Zbs2{u:List (Nat×Blk)}:∀{h h':List Blk},(∀b,gt h b=gt h' b)->∀b,gt (upd h u) b=gt (upd h' u) b:=by
 induction u with
 |nil=>intro h h' hg b;exact hg b
 |cons p u ih =>
  intro h h' hg b;obtain⟨c,x⟩:=p;exact ih (λb=>by rw[Zde,Zde,hg]) b
theorem Zbs3{ids:List Nat}(hnd:ids.Nodup)(hcl:∀b∈ids,∀c∈Zch (gt h b),c∈ids)(nx b:Nat):gt (upd h (Zb6 ids nx (subH h ids) 0)) b=gt h b:=by
 have hl:(subH h ids).length=ids.length:=by simp[subH]
 by_cases hb:b∈ids
 .obtain⟨i,hi⟩:=Ydt hb;have hil:=(Y0.1 hi).1;have hinj:∀j k,j<ids.length->k<ids.length->bk ids nx j=bk ids nx k->j=k:=λj k hj hk he=>bk_inj hnd (m:=ids.length) (λq hq=>by omega) hj hk he
  have:=Z0z ids nx (subH h ids) 0 h (λj k _ h2 _ h4=>hinj j k (by omega) (by omega)) i (Ya _) (by omega);rw[Zhc hi]at this;rw[this];have e:gt (subH h ids) (i-0)=renB (λc=>idx c ids 0) (gt h b):=by
   rw[Nat.sub_zero,subH,Zmp,hi]
  rw[e];refine Zbs1 _ λc hc=>?_
  obtain⟨j,hj⟩:=Ydt (hcl b hb c hc);rw[idx_at hnd hj,Zhc hj]
 .exact Zve ids nx _ 0 h b λj _ h2 he=>hb (by
   have hj:ids[j]?=some (ids[j]'(by omega)):=by simp
   rw[Zhc hj]at he
   exact he▸Y4 hj)
theorem After.congr{v:AV}{u u':List (Nat×Blk)}{val:Value}{w':World}{ρ':Map}(hA:After N base ρ h w v u val w' ρ')(hg:∀b,gt (upd h u) b=gt (upd h u') b)(hs:∀b,b ∉ u'.map Prod.fst->ρ b=none->ρ' b=none):After N base ρ h w v u' val w' ρ':=by
 have hF:=Free.congr (N:=N) (ρ:=ρ') hg;exact⟨by rw[<-hF];exact hA.val,hA.rel.congr hg,by rw[<-hF];exact hA.keeps,hs,hA.below,hA.kn⟩
theorem Zbs4{o:Oper}(R:Rel N base ρ h w){nx f:Nat}{vs:List AV}{vals:Array Value}(hargs:RVs ρ w (Free N ρ h) vs vals.toList){r:AV}{hn:List Blk}
  (hu:∀b,b∈(Zb6 (Z8 h vs) nx hn (Z8 h vs).length).map Prod.fst->nx<=b->ρ b=none) (hcl:Zey h (Z8 h vs) (Z0 vs)=true)
  (hG:Zb7 P f (subA (Z8 h vs) vs) (subH h (Z8 h vs)) r (subH h (Z8 h vs)++hn)) (hex:(execOp a.eval o).run P w=.ok (.enter f vals) w) {K:Act->World->Prop} {Q:Exit->Act->World->Prop}
  (hK:∀val w' ρ',After N base ρ h w (ren (bk (Z8 h vs) nx) r) (Zb6 (Z8 h vs) nx hn (Z8 h vs).length) val w' ρ'->K (a.put o.dst val) w'):o.wp P a w K Q:=by
 have hl:(subH h (Z8 h vs)).length=(Z8 h vs).length:=by simp[subH]
 refine Zvf R (nx:=nx) hargs (λj h1 h2=>?_) hcl hG hex λval w' ρ' hA=>?_
 .rw[Yp,hl]at h2;refine hu _ ((Zmr _ _ _ _ _).2 ⟨j,h1,h2,Zi3 h1⟩) (Nat.le_add_right _ _)
 .obtain⟨hin,hcl2⟩:=Zvc hcl;have hnd:(Z8 h vs).Nodup:=Zva _ _ _ Ybi;refine hK val w' ρ' (hA.congr (λb=>?_) λb hb hb0=>?_)
  .rw[Z01,Zp7,hl,Ym];exact Zbs2 (λc=>Zbs3 hnd hcl2 nx c) b
  .refine hA.same b (λhm=>?_) hb0;rw[Z01,Ybb,Yi,hl,Ym]at hm;rcases hm with hm|hm
   .obtain⟨j,_,h2,h3⟩:=(Zmr _ _ _ _ _).1 hm;rw[Ym,hl]at h2;have hj:(Z8 h vs)[j]?=some ((Z8 h vs)[j]'h2):=by simp[h2]
    rw[Zhc hj]at h3;obtain⟨r0,hr0⟩:=Zbai R hargs b (h3▸Y4 hj);rw[hb0]at hr0;cases hr0
   .exact hb hm
def isC:MOp->Prop
 |.call _ _=>True
 |.xcall _ _=>True
 |.fcall _ _=>True
 |.icall _ _=>True
 |.scall _ _ _=>True
 |.pcall _ _=>True
 |.dcall _ _=>True
 |_=>False
theorem Zvg{o:Oper}{k:MOp}(hk:Zbi P inl ops o.op=some k)(hE:Zb1 ρ w (Free N ρ h) e a.tmps)(R:Rel N base ρ h w){nx:Nat}{v:AV}{u:List (Nat×Blk)}(hn:isC k\/ρ nx=none)(hu:∀b,b∈u.map Prod.fst->nx<=b->ρ b=none)
  (hev:opR (Zb7 P) h nx e k v u) {K:Act->World->Prop} {Q:Exit->Act->World->Prop} (hK:∀val w' ρ',After N base ρ h w v u val w' ρ'->K (a.put o.dst val) w'):o.wp P a w K Q:=by
 have plain:Zw h nx e k=some (v,u)->o.wp P a w K Q:=by
  intro hev;have hnx:ρ nx=none:=by
   rcases hn with hn|hn
   .cases k<;>first|exact hn.elim|cases hev
   .exact hn
  obtain⟨val,w',ρ',hrun,h1,h2,h3,h4,h5,h6⟩:=op_sound hk hE R hnx hev;have:=hK val w' ρ' ⟨h1,h2,h3,λb hb hb0=>by rw[h4 b hb];exact hb0,h5,h6⟩;unfold Oper.wp;rcases hrun with hrun|⟨hrun,rfl⟩
  .rw[hrun];exact this
  .rw[hrun];exact this
 have hul:∀{ids:List Nat} {h1:List Blk},u=Zb6 ids nx h1 0->∀j,ids.length<=j->j<h1.length->ρ (nx+(j-ids.length))=none:=by
  intro ids h1 he j h2 h3;exact hu _ (by rw[he];exact(Zmr _ _ _ _ _).2 ⟨j,Ya _,by omega,Zi3 h2⟩) (Nat.le_add_right _ _)
 cases k<;>try (exact plain hev)
 .rename_i f args;simp only[opR]at hev;obtain⟨as,hfz,r,hr,hG,hsh,rfl,rfl⟩:=hev;obtain⟨c,hoc,hcc,has,hcl⟩:=(Zke hk).1 f args rfl;exact Zbsy R (vals:=c.args.map a.eval) (by rw[Ybj];exact Ziy hE has) hu hfz hG hsh (Zmq hoc hcc hcl w) hK
 .rename_i f args;simp only[opR]at hev;obtain⟨as,hfz,r,hr,hG,hsh,rfl,rfl⟩:=hev;obtain⟨c,hoc,hcc,has,hcl⟩:=(Zke hk).1 f args rfl;exact Zbs0 R (vals:=c.args.map a.eval) (by rw[Ybj];exact Ziy hE has) hu hfz hG hsh (Zmq hoc hcc hcl w) hK
 .rename_i f args;simp only[opR]at hev;obtain⟨as,hfz,hno,r,hr,hG,hd,rfl⟩:=hev;obtain⟨c,hoc,hcc,has,hcl⟩:=(Zke hk).1 f args rfl;exact Zbsz R (vals:=c.args.map a.eval) (by rw[Ybj];exact Ziy hE has) hfz hno hG hd (Zmq hoc hcc hcl w) hK
 .rename_i f args;simp only[opR,Zcr]at hev;obtain⟨hcl',r,h1,hG,rfl,rfl⟩:=hev;obtain⟨c,hoc,hcc,has,hcl⟩:=(Zke hk).1 f args rfl;exact Zvf R (vals:=c.args.map a.eval) (by rw[Ybj];exact Ziy hE has) (hul rfl) hcl' hG (Zmq hoc hcc hcl w) hK
 .rename_i f args p;simp only[opR,Zcr]at hev;obtain⟨hcl',r,h1,hG,u2,hp,rfl,rfl⟩:=hev;obtain⟨c,hoc,hcc,has,hcl⟩:=(Zke hk).1 f args rfl;refine Zvf R (nx:=nx) (vals:=c.args.map a.eval) (by rw[Ybj];exact Ziy hE has) (λj h2 h3=>?_) hcl' hG (Zmq hoc hcc hcl w) λval w' ρ' hA=>?_
  .refine hu _ ?_ (Nat.le_add_right _ _);rw[Ybb,Yi];exact .inl ((Zmr _ _ _ _ _).2 ⟨j,Ya _,by omega,Zi3 h2⟩)
  .obtain⟨ρ2,q1,q2,q3⟩:=pack_rel hA.rel hp;refine hK val w' ρ2 ⟨?_,?_,?_,λb hb hb0=>q3 b (hA.same b (λhm=>hb (by rw[Ybb,Yi];exact .inl hm)) hb0),hA.below,hA.kn⟩
   .rw[Zp7];exact hA.val.keep q2
   .rw[Zp7];exact q1
   .rw[Zp7];exact hA.keeps.trans q2 hA.below.size
 .rename_i f args;simp only[opR,Zha]at hev;obtain⟨hcl',r,hn,hG,rfl,rfl⟩:=hev;obtain⟨c,hoc,hcc,has,hcl⟩:=(Zke hk).1 f args rfl;exact Zbs4 R (vals:=c.args.map a.eval) (by rw[Ybj];exact Ziy hE has) hu hcl' hG (Zmq hoc hcc hcl w) hK
 .rename_i x args;simp only[opR,Zcr]at hev;obtain⟨g,caps,hg,hcl',r,h1,hG,rfl,rfl⟩:=hev;obtain⟨c,y,hoc,hcc,hy,has⟩:=(Zke hk).2 x args rfl;have hry:=Zbf hE hy;rw[hg]at hry;obtain⟨cv,hcv,hcaps⟩:=hry.fn_val;have hex:(execOp a.eval o).run P w=.ok (.enter g (c.args.map a.eval++cv)) w:=by
   unfold execOp;rw[hoc];simp[resolve,hcc,hcv,Deferred.ofValue,invoke,Zbah hG.1]
  exact Zvf R (vals:=c.args.map a.eval++cv) (by rw[Array.toList_append,Ybj];exact(Ziy hE has).append hcaps) (hul rfl) hcl' hG hex hK
end
open Go.RowKit (Below)
def Zez(ρ:Map)(w:World)(F:Nat->Prop):List Env->List (Array Value)->Prop
 |[],[]=>True
 |e::es,t::ts=>Zb1 ρ w F e t/\Zez ρ w F es ts
 |_,_=>False
structure RelS (N:Par) (base:Nat) (w0:World) (nt:Nat) (ts:List (Array Value)) (ρ:Map) (s:S) (a:Act) (w:World):Prop where
 rel:Rel N base ρ s.h w
 env:Zb1 ρ w (Free N ρ s.h) s.env a.tmps
 stk:Zez ρ w (Free N ρ s.h) s.stk ts
 dom:∀b,s.h.length<=b->ρ b=none
 defers:a.defers=[]
 size:a.tmps.size=nt
 below:Below base w0 w
 kn:∀g,g<w0.heap.size->¬N.a g->w.heap[g]?=w0.heap[g]?
 fz:∀g,g<w0.heap.size->N.z g->Free N ρ s.h g/\w.heap[g]?=w0.heap[g]?
section
variable{P:Program}{N:Par}{base:Nat}{w0:World}{nt:Nat}{ts:List (Array Value)}{inl:List Nat}{ρ:Map}{w:World}{a:Act}{d:Option Nat}{s:S}{F:Nat->Prop}{e:Env}{v:AV}{val:Value}{ops:Array Oper}{o:Oper}
theorem Zez.keep{ρ ρ':Map}{w w':World}{F F':Nat->Prop}(hk:Keeps ρ w F ρ' w' F'):∀{es:List Env} {ts:List (Array Value)},Zez ρ w F es ts->Zez ρ' w' F' es ts
 |[],[],_=>trivial
 |_::_,_::_,h=>⟨λs=>(h.1 s).keep hk,Zez.keep hk h.2⟩
 |[],_::_,h=>h.elim
 |_::_,[],h=>h.elim
theorem stB_len(h:List Blk)(b:Nat)(x:Blk):h.length<=(stB h b x).length/\b<(stB h b x).length:=by
 induction h generalizing b with
 |nil =>
  induction b with
  |zero=>simp[stB]
  |succ b ih=>simp[stB];exact ih.2
 |cons y h ih =>
  cases b with
  |zero=>simp[stB]
  |succ b=>simp[stB];exact ih b
theorem Z02(u:List (Nat×Blk)):∀h:List Blk,h.length<=(upd h u).length/\∀b∈u.map Prod.fst,b<(upd h u).length:=by
 induction u with
 |nil=>intro h;simp[upd]
 |cons p u ih =>
  intro h;obtain⟨b,x⟩:=p;have h1:=stB_len h b x;have h2:=ih (stB h b x);simp only[upd];refine⟨by omega,?_⟩;intro c hc;simp only[Yo,Yz]at hc;rcases hc with rfl|hc
  .omega
  .exact h2.2 c hc
theorem Zvh(hE:Zb1 ρ w F e a.tmps)(hv:RV ρ w F v val)(hd:∀x,d=some x->x<a.tmps.size):Zb1 ρ w F (put d v e) (a.put d val).tmps:=by
 cases d with
 |none=>exact hE
 |some d =>
  intro s;have hlt:=hd d rfl;simp only[put,lk,Act.put];split
  .rename_i hs;subst hs;simpa[Array.getD,hlt]using hv
  .rename_i hs;have:=hE s;simp only[Ybt,Array.getElem?_setIfInBounds]at this|-;rw[if_neg hs];exact this
theorem Zvi(a:Act)(d:Option Nat)(v:Value):(a.put d v).defers=a.defers:=by cases d<;>rfl
theorem Zvj(a:Act)(d:Option Nat)(v:Value):(a.put d v).tmps.size=a.tmps.size:=by cases d<;>simp[Act.put]
theorem RelS.after{ρ':Map}{w':World}(hS:RelS N base w0 nt ts ρ s a w){u:List (Nat×Blk)}(hA:After N base ρ s.h w v u val w' ρ')(hd:∀x,d=some x->x<nt) :
  RelS N base w0 nt ts ρ' { s with env:=put d v s.env,h:=upd s.h u } (a.put d val) w':=by
 refine⟨hA.rel,Zvh (λs=>(hS.env s).keep hA.keeps) hA.val λx hx=>by rw[hS.size];exact hd x hx,hS.stk.keep hA.keeps,?_,by rw[Zvi];exact hS.defers,by rw[Zvj];exact hS.size,hS.below.trans hA.below,
  λg hg hn=>(hA.kn g (Ycd hg hS.below.size) hn).trans (hS.kn g hg hn),λg hg hz=>?_⟩
 .intro b hb;have h1:=Z02 u s.h;exact hA.same b (λhc=>by have:=h1.2 b hc;simp only at hb;omega) (hS.dom b (by simp only at hb;omega))
 .obtain⟨h1,h2⟩:=hS.fz g hg hz;obtain⟨h3,h4⟩:=hA.keeps.free g (Ycd hg hS.below.size) h1;exact⟨h3,h4.trans h2⟩
theorem RelS.skip(hS:RelS N base w0 nt ts ρ s a w)(hd:∀x,d=some x->x<nt) :
  RelS N base w0 nt ts ρ { s with env:=put d (.tup []) s.env } (a.put d undef) w :=
 ⟨hS.rel,Zvh hS.env (RV.tup (c:=#[]) .nil) λx hx=>by rw[hS.size];exact hd x hx,hS.stk,hS.dom,by rw[Zvi];exact hS.defers,by rw[Zvj];exact hS.size,hS.below,hS.kn,hS.fz⟩
theorem runW_opR{Γ:Ctr}{o:MO}{K:S->Prop}(hr:runW Γ o s K):∃v u,opR Γ s.h s.h.length s.env o.op v u/\K { s with env:=put o.dst v s.env,h:=upd s.h u }:=by
 cases ho:o.op with
 |xcall f args =>
  simp only[runW,ho]at hr;obtain⟨as,h1,r,hr',h2,h3,h4⟩:=hr
  exact⟨_,_,⟨as,h1,r,hr',h2,h3,rfl,rfl⟩,h4⟩
 |fcall f args =>
  simp only[runW,ho]at hr;obtain⟨as,h1,hno,r,hr',d,h2,h3,h4⟩:=hr
  exact⟨_,_,⟨as,h1,hno,r,hr',h2,h3,rfl⟩,h4⟩
 |scall f args p =>
  simp only[runW,ho,Zcr]at hr;obtain⟨h1,r,h2,h3,u2,h4,h5⟩:=hr
  exact⟨_,_,⟨h1,r,h2,h3,u2,h4,rfl,rfl⟩,h5⟩
 |icall f args =>
  simp only[runW,ho,Zcr]at hr;obtain⟨h1,r,h2,h3,h4⟩:=hr
  exact⟨_,_,⟨h1,r,h2,h3,rfl,rfl⟩,h4⟩
 |pcall f args =>
  simp only[runW,ho,Zha]at hr;obtain⟨h1,r,h2,h3,h4⟩:=hr
  exact⟨_,_,⟨h1,r,h2,h3,rfl,rfl⟩,h4⟩
 |dcall f args =>
  simp only[runW,ho]at hr;split at hr
  .rename_i g caps hg;obtain⟨h1,r,h2,h3,h4⟩:=hr;exact⟨_,_,⟨g,caps,hg,h1,r,h2,h3,rfl,rfl⟩,h4⟩
  .exact hr.elim
 |call f args =>
  simp only[runW,ho]at hr;obtain⟨as,h1,r,hr',h2,h3,h4⟩:=hr
  exact⟨_,_,⟨as,h1,r,hr',h2,h3,rfl,rfl⟩,h4⟩
 |_ =>
  simp only[runW,ho]at hr;split at hr
  .rename_i v u hev;exact⟨v,u,hev,hr⟩
  .exact hr.elim
theorem Zbal{m:MO}(hc:compO P inl nt ops o=some m):Zbi P inl ops o.op=some m.op/\m.dst=o.dst/\(∀x,o.dst=some x->x<nt)/\
  ((o.guard=none/\m.guard=none)\/∃j b d,o.guard=some (j,b)/\(ops[j]?).bind (·.dst)=some d/\m.guard=some (d,b)):=by
 unfold compO at hc;split at hc
 .rename_i hd;split at hc
  .rename_i k g hk hg;cases hc;refine⟨hk,rfl,?_,?_⟩
   .intro x hx;rw[hx]at hd;simpa using hd
   .split at hg
    .rename_i hgn;cases hg;exact .inl ⟨hgn,rfl⟩
    .rename_i j b hgn;obtain⟨d,h1,h2⟩:=Yl.1 hg;subst h2;exact .inr ⟨j,b,d,hgn,h1,rfl⟩
  .cases hc
 .cases hc
theorem Zbam(hE:Zb1 ρ w F e a.tmps){j d:Nat}{b:Bool}(hg:o.guard=some (j,b))(hd:(ops[j]?).bind (·.dst)=some d) :
  (∀c,lk d e=.t (.bool c)->Region.wanted o (yielded ops a.tmps)=decide (c=b))/\(lk d e=.tup []->Region.wanted o (yielded ops a.tmps)=false):=by
 have hr:=hE d;constructor
 .intro c hc;rw[hc]at hr;have h1:=hr.bool_inv;have h2:a.tmps[d]?=some (.bool c):=by
   rw[Ybt]at h1
   cases hx:a.tmps[d]? with
   |none=>rw[hx]at h1;cases h1
   |some y=>rw[hx]at h1;simp at h1;rw[h1]
  simp only[Region.wanted,hg,yielded,hd,Option.bind_some,h2];cases c<;>cases b<;>rfl
 .intro hc;rw[hc]at hr;obtain⟨c,h1,h2⟩:=hr.tup_val;have h3:c=#[]:=by cases h2':c.toList with|nil=>simpa using h2'|cons x xs=>rw[h2']at h2;cases h2
  subst h3;simp only[Region.wanted,hg,yielded,hd,Option.bind_some];rw[Ybt]at h1
  cases hx:a.tmps[d]? with
  |none=>rfl
  |some y=>rw[hx]at h1;simp at h1;subst h1;rfl
theorem Zban{Γ:Ctr}(hΓ:Γ=Zb7 P){ops:Array Oper}{Qc:Exit->Act->World->Prop}{K:S->Prop}
  (hQ:∀s a w ρ,K s->RelS N base w0 nt ts ρ s a w->Qc .normal a w):∀(l:List Oper) (os:List MO),mapO (compO P inl nt ops) l=some os->∀(s:S) (a:Act) (w:World) (ρ:Map),regW Γ os s K->RelS N base w0 nt ts ρ s a w->wpList P ops Qc l a w
 |[],os,hm,s,a,w,ρ,hr,hS=>by cases hm;exact hQ s a w ρ hr hS
 |o::l,os,hm,s,a,w,ρ,hr,hS=>by
  obtain⟨m,ms,h1,h2,rfl⟩:=Zgl hm;obtain⟨hk,hdst,hd,hguard⟩:=Zbal h1;simp only[regW]at hr;have ih:=Zban hΓ hQ l ms h2;have run:runW Γ m s (λs'=>regW Γ ms s' K)->o.wp P a w (wpList P ops Qc l) Qc:=by
   intro hrun;obtain⟨v,u,hop,hK⟩:=runW_opR hrun;rw[hΓ]at hop;refine Zvg hk hS.env hS.rel (nx:=s.h.length) (.inr (hS.dom _ (Yh _))) (λb _ hb=>hS.dom b hb) hop λval w' ρ' hA=>?_
   exact ih _ _ _ ρ' hK (by rw[hdst];exact hS.after hA hd)
  have skip:regW Γ ms { s with env:=put m.dst (.tup []) s.env } K->wpList P ops Qc l (a.put o.dst undef) w:=λhK=>ih _ _ _ ρ hK (by rw[hdst];exact hS.skip hd)
  refine wpList_step λK' hK'=>?_
  have run':runW Γ m s (λs'=>regW Γ ms s' K)->o.wp P a w K' Qc:=λh=>Oper.wp_mono hK' (run h)
  rcases hguard with⟨hg1,hg2⟩|⟨j,b,d,hg1,hg2,hg3⟩
  .simp only[opW,hg2]at hr;simp only[Region.wanted,hg1,if_true];exact run' hr
  .have hw:=Zbam hS.env hg1 hg2;simp only[opW,hg3]at hr;split at hr
   .rename_i c hc;rw[hw.1 c hc];split at hr
    .rename_i hcb;simp only[hcb,decide_true,if_true];exact run' hr
    .rename_i hcb;simp only[hcb,decide_false,Ycj,if_false];exact hK' _ _ (skip hr)
   .rename_i hc;rw[hw.2 hc];simp only[Ycj,if_false];exact hK' _ _ (skip hr)
   .exact hr.elim
end
theorem Zbs5(xs ys:List AV):Z0 (xs++ys)=Z0 xs++Z0 ys:=by
 induction xs with
 |nil=>rfl
 |cons x xs ih=>simp[Z0,ih]
theorem Zbs6{v:AV}{vs:List AV}(h:v∈vs){b:Nat}(hb:b∈refs v):b∈Z0 vs:=by
 induction vs with
 |nil=>cases h
 |cons x xs ih =>
  simp only[Z0,Yi];rcases Yz.1 h with rfl|h
  .exact .inl hb
  .exact .inr (ih h)
section
variable{h h':List Blk}{e e':Env}{v:AV}{vs cs:List AV}{rs:List Nat}{b sz nx:Nat}{ps:List (Nat×Opd)}{st:Bool}{k:MOp}
theorem Z03(hc:cellsOf v=some vs):Z0 vs=refs v:=by
 cases v<;>simp[cellsOf]at hc<;>subst hc<;>simp[Z0,refs]
theorem Zbs7(hh:∀b∈refs v,gt h b=gt h' b):toT h v=toT h' v:=by
 cases v<;>simp[toT];rename_i b;rw[hh b (by simp[refs])]
theorem Z04(hh:∀b∈Z0 vs,gt h b=gt h' b):toTs h vs=toTs h' vs:=by
 induction vs with
 |nil=>rfl
 |cons v vs ih =>
  simp only[toTs];rw[Zbs7 (λb hb=>hh b (by simp[Z0,hb])),ih (λb hb=>hh b (by simp[Z0,hb]))]
theorem Zbs8(hh:∀b∈refs v,gt h b=gt h' b):frzT h v=frzT h' v:=by
 cases v<;>simp[frzT];rename_i b;rw[hh b (by simp[refs])]
theorem Zbao(hh:∀b∈Z0 vs,gt h b=gt h' b):Zfe h vs=Zfe h' vs:=by
 induction vs with
 |nil=>rfl
 |cons v vs ih =>
  simp only[Zfe];rw[Zbs8 (λb hb=>hh b (by simp[Z0,hb])),ih (λb hb=>hh b (by simp[Z0,hb]))]
theorem Z05{h:List Blk}(hb:b∈rs):b∈Zit h rs:=Yck _ (Yck _ hb)
theorem Zbap{h:List Blk}{c:Nat}(hb:b∈rs)(hc:c∈Zch (gt h b)):c∈Zit h rs:=Yck _ (Ycr _ (Yde.2 ⟨b,hb,hc⟩))
theorem Zvk{h:List Blk}(hb:b∈Zbp h 200 rs []):b∈Zit h rs:=Ycr _ hb
theorem Zvl{h:List Blk}:∀(n:Nat) (todo acc:List Nat),∀b∈acc,b∈Zbp h n todo acc
 |0,_,_,b,hb=>by simpa[Zbp]using hb
 |n+1,[],acc,b,hb=>by simpa[Zbp]using hb
 |n+1,c::todo,acc,b,hb=>by
  simp only[Zbp];split
  .exact Zvl n _ _ b hb
  .exact Zvl n _ _ b (by simp[hb])
def Zi4(h h':List Blk)(rs:List Nat):Prop:=∀b∈rs,gt h b=gt h' b/\∀c∈Zch (gt h b),gt h c=gt h' c
theorem Z06{h h':List Blk}(hh:∀b∈Zit h rs,gt h b=gt h' b):Zi4 h h' rs:=λb hb=>⟨hh b (Z05 hb),λc hc=>hh c (Zbap hb hc)⟩
theorem Zi4.sub{h h':List Blk}{rs':List Nat}(hh:Zi4 h h' rs)(hs:∀b∈rs',b∈rs):Zi4 h h' rs':=λb hb=>hh b (hs b hb)
theorem Z07{h h':List Blk}:∀(n:Nat) (todo acc:List Nat),(∀b∈Zbp h n todo acc,gt h b=gt h' b)->Zbp h' n todo acc=Zbp h n todo acc
 |0,_,_,_=>rfl
 |n+1,[],acc,_=>rfl
 |n+1,c::todo,acc,hh=>by
  simp only[Zbp]at hh|-;split
  .rename_i hc;rw[if_pos hc]at hh;exact Z07 n todo acc hh
  .rename_i hc;rw[if_neg hc]at hh
   have:gt h c=gt h' c:=hh c (Zvl n _ _ c (by simp))
   rw[<-this];exact Z07 n _ _ hh
theorem Zbaq(hh:Zi4 h h' (refs v)):frz1 h v=frz1 h' v:=by
 cases v<;>simp only[frz1]
 .rename_i cs;rw[Zbao λb hb=>(hh b (by simpa[refs]using hb)).1]
 .rename_i b off;obtain⟨hb,hc⟩:=hh b (by simp[refs]);rw[<-hb]
  cases hg:gt h b with
  |box cs=>simp only;rw[Zbao λc hc'=>hc c (by rw[hg];exact hc')]
  |_=>rfl
 .rename_i b;rw[(hh b (by simp[refs])).1]
theorem Zbs9(hh:Zi4 h h' (Z0 vs)):Zht h vs=Zht h' vs:=by
 induction vs with
 |nil=>rfl
 |cons v vs ih =>
  simp only[Zht];rw[Zbaq (hh.sub λc hc=>by simp[Z0,hc]),ih (hh.sub λc hc=>by simp[Z0,hc])]
theorem Zbta(hh:Zi4 h h' (refs v)):frz h v=frz h' v:=by
 by_cases hx:∃g cs,v=.fn g cs
 .obtain⟨g,cs,rfl⟩:=hx;simp only[frz];rw[Zbs9 (hh.sub λc hc=>by simpa[refs]using hc)]
 .have e:∀h,frz h v=frz1 h v:=by
   intro h;cases v<;>first|rfl|exact absurd ⟨_,_,rfl⟩ hx
  rw[e,e,Zbaq hh]
theorem Z08(hh:Zi4 h h' (Z0 vs)):frzs h vs=frzs h' vs:=by
 induction vs with
 |nil=>rfl
 |cons v vs ih =>
  simp only[frzs];rw[Zbta (hh.sub λc hc=>by simp[Z0,hc]),ih (hh.sub λc hc=>by simp[Z0,hc])]
theorem Zbar(hh:∀b∈Zbp h 200 (Z0 vs) [],gt h b=gt h' b):Z8 h' vs=Z8 h vs/\subH h' (Z8 h vs)=subH h (Z8 h vs)/\Zey h' (Z8 h vs) (Z0 vs)=Zey h (Z8 h vs) (Z0 vs):=by
 refine⟨Z07 200 _ _ hh,?_,?_⟩
 .unfold subH;exact Yb1 λb hb=>by rw[hh b hb]
 .unfold Zey;congr 1;rw[Ybk,Yr,Yr];constructor
  .intro q b hb;rw[hh b hb];exact q b hb
  .intro q b hb;rw[<-hh b hb];exact q b hb
theorem Zbtb{ps:List (Nat×Nat×Opd)}(he:∀p∈ps,ev e p.2.2=ev e' p.2.2):parts e cs ps=parts e' cs ps:=by
 induction ps generalizing cs with
 |nil=>rfl
 |cons p ps ih =>
  obtain⟨o,n,x⟩:=p;have h1:=he (o,n,x) (by simp);simp only at h1;have h2:=λcs=>ih (cs:=cs) (λp hp=>he p (by simp[hp]))
  simp only[parts,h1,h2]
theorem Zbtc(he:∀p∈ps,ev e p.2=ev e' p.2):Zg7 e cs ps=Zg7 e' cs ps:=by
 induction ps generalizing cs with
 |nil=>rfl
 |cons p ps ih =>
  obtain⟨n,x⟩:=p;have h1:=he (n,x) (by simp);simp only at h1;have h2:=λcs=>ih (cs:=cs) (λp hp=>he p (by simp[hp]))
  simp only[Zg7,h1,h2]
theorem Zbtd{es:List (List T)}(he:∀p∈ps,ev e p.2=ev e' p.2)(hh:∀p∈ps,∀b∈refs (ev e p.2),gt h b=gt h' b):elems h e sz es ps=elems h' e' sz es ps:=by
 induction ps generalizing es with
 |nil=>rfl
 |cons p ps ih =>
  obtain⟨n,x⟩:=p;have h1:=he (n,x) (by simp);have h3:=hh (n,x) (by simp);simp only at h1 h3;have h2:=λes=>ih (es:=es) (λp hp=>he p (by simp[hp])) (λp hp=>hh p (by simp[hp]))
  simp only[elems,h2,<-h1]
  cases hc:cellsOf (ev e x)with
  |none=>rfl
  |some vs =>
   simp only;rw[Z04 (h:=h) (h':=h') (λb hb=>h3 b (by rw[<-Z03 hc];exact hb))]
theorem Zbte(hh:∀b∈refs v,gt h b=gt h' b):Zdu h st v=Zdu h' st v:=by
 cases v with
 |own b=>cases st<;>simp only[Zdu];rw[hh b (by simp[refs])]
 |t x=>cases st<;>cases x<;>rfl
 |_=>cases st<;>rfl
theorem Zbtf(hh:∀b∈refs v,gt h b=gt h' b):Zdd h st v=Zdd h' st v:=by
 cases v with
 |own b=>cases st<;>simp only[Zdd];rw[hh b (by simp[refs])]
 |t x=>cases st<;>cases x<;>first|rfl|(rename_i es;cases es<;>rfl)
 |_=>cases st<;>rfl
theorem Zbtg{mv:Bool}(hh:∀b∈refs v,gt h b=gt h' b):Zfd h sz mv v=Zfd h' sz mv v:=by
 cases v with
 |own b=>simp only[Zfd];rw[hh b (by simp[refs])]
 |t x=>cases x<;>rfl
 |_=>rfl
theorem Zbas{d:Nat}{o:Option Opd}(he:∀x,o=some x->ev e x=ev e' x):bnd e d o=bnd e' d o:=by
 cases o with
 |none=>rfl
 |some x=>simp[bnd,he x rfl]
theorem Zbth(he:∀x∈Z1 k,ev e x=ev e' x)(hh:∀x∈Z1 k,∀b∈refs (ev e x),gt h b=gt h' b):Zw h nx e k=Zw h' nx e' k:=by
 cases k with
 |mov x=>simp[Zw,he x (by simp[Z1])]
 |pick c a b=>simp[Zw,he c (by simp[Z1]),he a (by simp[Z1]),he b (by simp[Z1])]
 |alloc zs=>rfl
 |box x=>simp[Zw,he x (by simp[Z1])]
 |build zs ps =>
  simp only[Zw]
  rw[Zbtb (λp hp=>he p.2.2 (by simp only[Z1,Ys];exact⟨p,hp,rfl⟩))]
 |bslice el sz n zs ps =>
  simp only[Zw]
  rw[Zbtd (λp hp=>he p.2 (by simp only[Z1,Ys];exact⟨p,hp,rfl⟩)) (λp hp=>hh p.2 (by simp only[Z1,Ys];exact⟨p,hp,rfl⟩))]
 |bptrs n ps =>
  simp only[Zw]
  rw[Zbtc (λp hp=>he p.2 (by simp only[Z1,Ys];exact⟨p,hp,rfl⟩))]
 |load n x =>
  have h1:=he x (by simp[Z1]);have h2:=hh x (by simp[Z1]);simp only[Zw,<-h1];cases hx:ev e x<;>simp only
  .rw[h2 _ (by rw[hx];simp[refs])]
  .rw[h2 _ (by rw[hx];simp[refs])]
 |loadU mv x =>
  have h1:=he x (by simp[Z1]);have h2:=hh x (by simp[Z1]);simp only[Zw,<-h1];cases hx:ev e x<;>simp only
  .rw[h2 _ (by rw[hx];simp[refs])]
  .rw[h2 _ (by rw[hx];simp[refs])]
 |store n x v =>
  have h1:=he x (by simp[Z1]);have h2:=hh x (by simp[Z1]);have h3:=he v (by simp[Z1]);have h4:=hh v (by simp[Z1]);simp only[Zw,<-h1,<-h3]
  cases hc:cellsOf (ev e v)with
  |none=>rfl
  |some vs =>
   simp only;rw[Z04 (h:=h) (h':=h') (λb hb=>h4 b (by rw[<-Z03 hc];exact hb))];cases hx:ev e x<;>simp only
   .rw[h2 _ (by rw[hx];simp[refs])]
   .rw[h2 _ (by rw[hx];simp[refs])]
 |storeF n x v =>
  have h1:=he x (by simp[Z1]);have h2:=hh x (by simp[Z1]);have h3:=he v (by simp[Z1]);have h4:=hh v (by simp[Z1]);simp only[Zw,<-h1,<-h3]
  cases hc:cellsOf (ev e v)with
  |none=>rfl
  |some vs =>
   simp only;rw[Z04 (h:=h) (h':=h') (λb hb=>h4 b (by rw[<-Z03 hc];exact hb))];cases hx:ev e x<;>simp only
   .rw[h2 _ (by rw[hx];simp[refs])]
 |nilchk x=>simp[Zw,he x (by simp[Z1])]
 |bin op x y=>simp[Zw,he x (by simp[Z1]),he y (by simp[Z1])]
 |beq n x y=>simp[Zw,he x (by simp[Z1]),he y (by simp[Z1])]
 |aeq n ks x y=>simp[Zw,he x (by simp[Z1]),he y (by simp[Z1])]
 |nileq n sl x =>
  simp only[Zw,<-he x (by simp[Z1])]
  rw[Zbtf (hh x (by simp[Z1]))]
 |mm m x y=>simp[Zw,he x (by simp[Z1]),he y (by simp[Z1])]
 |un op x=>simp[Zw,he x (by simp[Z1])]
 |conv k x=>simp[Zw,he x (by simp[Z1])]
 |tostr x =>
  have h1:=he x (by simp[Z1]);have h2:=hh x (by simp[Z1]);simp only[Zw,<-h1];cases hx:ev e x<;>simp only
  .rw[h2 _ (by rw[hx];simp[refs])]
 |mkfn f caps =>
  simp only[Zw]
  rw[Yb1 (λx hx=>he x (by simpa[Z1]using hx))]
 |mkslice el sz bytes zs l c=>simp[Zw,he l (by simp[Z1]),he c (by simp[Z1])]
 |slice sz x lo hi =>
  have h1:=he x (by simp[Z1]);have h2:∀d,bnd e d lo=bnd e' d lo:=λd=>Zbas λy hy=>he y (by subst hy;simp[Z1])
  have h3:∀d,bnd e d hi=bnd e' d hi:=λd=>Zbas λy hy=>he y (by subst hy;simp[Z1])
  have h4:=hh x (by simp[Z1]);simp only[Zw,<-h1,h2,h3]
  cases hx:ev e x with
  |own b=>cases sz<;>simp only[h4 b (by rw[hx];simp[refs])]
  |t x=>cases sz<;>cases x<;>rfl
  |_=>cases sz<;>rfl
 |faddr off x=>simp[Zw,he x (by simp[Z1])]
 |field off n x=>simp[Zw,he x (by simp[Z1])]
 |iaddr sz x i =>
  have h1:=he x (by simp[Z1]);have h2:=hh x (by simp[Z1]);have h3:=he i (by simp[Z1]);simp only[Zw,<-h1,<-h3]
  cases hx:ev e x with
  |own b=>simp only;rw[h2 b (by rw[hx];simp[refs])]
  |t x=>cases x<;>rfl
  |_=>rfl
 |index x i=>simp[Zw,he x (by simp[Z1]),he i (by simp[Z1])]
 |aaddr n sz x i=>simp[Zw,he x (by simp[Z1]),he i (by simp[Z1])]
 |aidx n sz m x i=>simp[Zw,he x (by simp[Z1]),he i (by simp[Z1])]
 |ext x i=>simp[Zw,he x (by simp[Z1])]
 |len st x =>
  simp only[Zw,<-he x (by simp[Z1])]
  rw[Zbte (hh x (by simp[Z1]))]
 |append el sz bytes mv x y =>
  have h1:=he x (by simp[Z1]);have h2:=hh x (by simp[Z1]);have h3:=he y (by simp[Z1]);have h4:=hh y (by simp[Z1]);simp only[Zw,<-h1,<-h3];rw[Zbtg h4]
  cases hx:ev e x with
  |own b=>simp only;rw[h2 b (by rw[hx];simp[refs])]
  |t x=>cases x<;>rfl
  |_=>rfl
 |call f args=>rfl
 |xcall f args=>rfl
 |fcall f args=>rfl
 |icall f args=>rfl
 |scall f args p=>rfl
 |pcall f args=>rfl
 |dcall f args=>rfl
theorem Zbti{u:List (Nat×Blk)}(hev:Zw h nx e k=some (v,u))(hn:nx ∉ u.map Prod.fst)(nx':Nat):Zw h nx' e k=some (v,u):=by
 cases k<;>try exact hev
 case alloc zs=>simp[Zw]at hev;obtain⟨_,rfl⟩:=hev;simp at hn
 case box x =>
  simp only[Zw]at hev|-;split at hev
  .cases hev;simp at hn
  .cases hev
 case loadU mv x =>
  simp only[Zw]at hev|-
  cases hx:ev e x with
  |ptr b off=>simp only[hx]at hev|-;exact hev
  |eptr b i sz off =>
   simp only[hx]at hev|-
   repeat' split at hev
   all_goals first
    |(cases hev;done)
    |(cases hev;simp at hn;done)
    |(cases hev;simp_all)
  |_=>simp only[hx]at hev;cases hev
 case bslice el sz n zs ps =>
  simp only[Zw]at hev|-
  repeat' split at hev
  all_goals first
   |(cases hev;done)
   |(cases hev;simp at hn)
 case bptrs n ps =>
  simp only[Zw]at hev|-
  repeat' split at hev
  all_goals first
   |(cases hev;done)
   |(cases hev;simp at hn)
 case mkslice el sz bytes zs l c =>
  simp only[Zw]at hev|-
  repeat' split at hev
  all_goals first
   |(cases hev;done)
   |(cases hev;simp at hn)
 case slice sz x lo hi =>
  simp only[Zw]at hev|-
  cases hb:bnd e 0 lo with
  |none=>simp only[hb]at hev;cases hev
  |some l =>
   simp only[hb]at hev|-
   cases sz with
   |none =>
    cases hx:ev e x with
    |t x=>simp only[hx]at hev|-;cases x<;>exact hev
    |_=>simp only[hx]at hev;cases hev
   |some sz =>
    cases hx:ev e x with
    |own b =>
     simp only[hx]at hev
     repeat' split at hev
     all_goals first
      |(cases hev;done)
      |(cases hev;simp at hn)
    |t x=>simp only[hx]at hev|-;cases x<;>exact hev
    |_=>simp only[hx]at hev;cases hev
 case append el sz bytes mv x y =>
  simp only[Zw]at hev|-
  repeat' split at hev
  all_goals first
   |(cases hev;done)
   |(cases hev;simp at hn)
end
open Go.RowKit (Below)
structure Tr where
 dst:Option Nat
 v:AV
 u:List (Nat×Blk)
 foot:Foot
def appT(t:Tr)(s:S):S:={ s with env:=put t.dst t.v s.env,h:=upd s.h t.u }
def Zbe(L:Nat->Bool):Nat->List Tr->S->S
 |_,[],s=>s
 |i,t::ts,s=>Zbe L (i+1) ts (if L i then appT t s else s)
def gRun(o:MO)(e:Env):Prop:=o.guard=none\/∃g b,o.guard=some (g,b)/\lk g e=.t (.bool b)
def gSkip(o:MO)(e:Env):Prop:=∃g b,o.guard=some (g,b)/\(lk g e=.tup []\/∃c,lk g e=.t (.bool c)/\c≠b)
def Zqe(Γ:Ctr)(o:MO)(t:Tr)(s:S):Prop:=t.dst=o.dst/\t.foot=Zc1 o s (t.u.map Prod.fst)/\
 ((gRun o s.env/\opR Γ s.h s.h.length s.env o.op t.v t.u)\/(gSkip o s.env/\t.v=.tup []/\t.u=[]))
def Steps(Γ:Ctr):List MO->List Tr->S->Prop
 |[],[],_=>True
 |o::os,t::ts,s=>Zqe Γ o t s/\Steps Γ os ts (appT t s)
 |_,_,_=>False
variable{Γ:Ctr}{h h':List Blk}{nx f:Nat}{u:List (Nat×Blk)}{vs:List AV}{K:AV->List (Nat×Blk)->Prop}
theorem Zbtj{o:MO}{s:S}{K:Foot->S->Prop}(h:drwG Γ o s K):∃t,Zqe Γ o t s/\K t.foot (appT t s):=by
 have run:gRun o s.env->Zd5 Γ o s K->∃t,Zqe Γ o t s/\K t.foot (appT t s):=by
  intro hg h
  cases ho:o.op with
  |call f args =>
   simp only[Zd5,ho]at h;obtain⟨as,h1,r,hr,h2,h3,h4⟩:=h
   exact⟨⟨o.dst,shift s.h.length r,newU s.h.length hr 0,_⟩,⟨rfl,rfl,.inl ⟨hg,by rw[ho];exact⟨as,h1,r,hr,h2,h3,rfl,rfl⟩⟩⟩,h4⟩
  |xcall f args =>
   simp only[Zd5,ho]at h;obtain⟨as,h1,r,hr,h2,h3,h4⟩:=h
   exact⟨⟨o.dst,_,_,_⟩,⟨rfl,rfl,.inl ⟨hg,by rw[ho];exact⟨as,h1,r,hr,h2,h3,rfl,rfl⟩⟩⟩,h4⟩
  |fcall f args =>
   simp only[Zd5,ho]at h;obtain⟨as,h1,hno,r,hr,d,h2,h3,h4⟩:=h
   exact⟨⟨o.dst,_,_,_⟩,⟨rfl,rfl,.inl ⟨hg,by rw[ho];exact⟨as,h1,hno,r,hr,h2,h3,rfl⟩⟩⟩,h4⟩
  |scall f args p =>
   simp only[Zd5,ho,Zcr]at h;obtain⟨h1,r,h2,h3,u2,h4,h5⟩:=h
   exact⟨⟨o.dst,_,_,_⟩,⟨rfl,rfl,.inl ⟨hg,by rw[ho];exact⟨h1,r,h2,h3,u2,h4,rfl,rfl⟩⟩⟩,h5⟩
  |icall f args =>
   simp only[Zd5,ho,Zcr]at h;obtain⟨h1,r,h2,h3,h4⟩:=h
   exact⟨⟨o.dst,_,_,_⟩,⟨rfl,rfl,.inl ⟨hg,by rw[ho];exact⟨h1,r,h2,h3,rfl,rfl⟩⟩⟩,h4⟩
  |pcall f args =>
   simp only[Zd5,ho,Zha]at h;obtain⟨h1,r,h2,h3,h4⟩:=h
   exact⟨⟨o.dst,_,_,_⟩,⟨rfl,rfl,.inl ⟨hg,by rw[ho];exact⟨h1,r,h2,h3,rfl,rfl⟩⟩⟩,h4⟩
  |dcall f args =>
   simp only[Zd5,ho]at h;split at h
   .rename_i g caps hgc;obtain⟨h1,r,h2,h3,h4⟩:=h;exact⟨⟨o.dst,_,_,_⟩,⟨rfl,rfl,.inl ⟨hg,by rw[ho];exact⟨g,caps,hgc,h1,r,h2,h3,rfl,rfl⟩⟩⟩,h4⟩
   .exact h.elim
  |_ =>
   simp only[Zd5,ho]at h;split at h
   .rename_i v u hev;exact⟨⟨o.dst,v,u,_⟩,⟨rfl,rfl,.inl ⟨hg,by rw[ho];exact hev⟩⟩,h⟩
   .exact h.elim
 have skip:gSkip o s.env->K (Zc1 o s []) { s with env:=put o.dst (.tup []) s.env }->∃t,Zqe Γ o t s/\K t.foot (appT t s):=λhg h =>
  ⟨⟨o.dst,.tup [],[],Zc1 o s []⟩,⟨rfl,rfl,.inr ⟨hg,rfl,rfl⟩⟩,h⟩
 unfold drwG at h;split at h
 .rename_i hg;exact run (.inl hg) h
 .rename_i g want hg;split at h
  .rename_i b hb;split at h
   .rename_i hbw;subst hbw;exact run (.inr ⟨g,b,hg,hb⟩) h
   .rename_i hbw;exact skip ⟨g,want,hg,.inr ⟨b,hb,hbw⟩⟩ h
  .rename_i hb;exact skip ⟨g,want,hg,.inl hb⟩ h
  .exact h.elim
theorem Zbat{Γ:Ctr}:∀(os:List MO) (s:S) (feet:List Foot) (K:List Foot->S->Prop) (i:Nat),drwW Γ os s feet K->∃ts,Steps Γ os ts s/\K (feet++ts.map (·.foot)) (Zbe (λ_=>true) i ts s)
 |[],s,feet,K,i,h=>⟨[],trivial,by simp only[Yc0,Ybm,Zbe];exact h⟩
 |o::os,s,feet,K,i,h=>by
  obtain⟨t,h1,h2⟩:=Zbtj h;obtain⟨ts,h3,h4⟩:=Zbat os (appT t s) _ K (i+1) h2;refine⟨t::ts,⟨h1,h3⟩,?_⟩;simpa[Zbe]using h4
theorem Zqf{L:Nat->Bool}:∀(ts:List Tr) (k:Nat) (s:S),(∀j,k<=j->L j=false)->Zbe L k ts s=s
 |[],_,_,_=>rfl
 |t::ts,k,s,h=>by
  simp only[Zbe,h k (Yh _),Ycj,if_false];exact Zqf ts (k+1) s λj hj=>h j (by omega)
theorem Zbau{Γ:Ctr}:∀(os:List MO) (ts:List Tr) (s:S) (k:Nat),Steps Γ os ts s->ts.length=os.length/\∀i o,os[i]?=some o->∃t,ts[i]?=some t/\Zqe Γ o t (Zbe (λj=>decide (j<k+i)) k ts s)
 |[],[],_,_,_=>⟨rfl,by simp⟩
 |o::os,t::ts,s,k,h=>by
  obtain⟨h1,h2⟩:=h;obtain⟨h3,h4⟩:=Zbau os ts (appT t s) (k+1) h2;refine⟨by simp[h3],?_⟩;intro i o' ho
  cases i with
  |zero =>
   simp at ho;subst ho;refine⟨t,rfl,?_⟩;rw[Zqf]
   .exact h1
   .intro j hj;simp;omega
  |succ i =>
   obtain⟨t',h5,h6⟩:=h4 i o' (by simpa using ho);refine⟨t',by simpa using h5,?_⟩;have e:Zbe (λj=>decide (j<k+(i+1))) k (t::ts) s=Zbe (λj=>decide (j<k+1+i)) (k+1) ts (appT t s):=by
    simp only[Zbe];rw[if_pos (by simp)];congr 1;funext j;congr 1;exact propext (by omega)
   rw[e]
   exact h6
 |[],_::_,_,_,h=>h.elim
 |_::_,[],_,_,h=>h.elim
theorem Zqg(d:Option Nat)(v:AV)(e:Env)(r:Nat):lk r (put d v e)=if d=some r then v else lk r e:=by
 cases d with
 |none=>simp[put]
 |some d=>simp[put,lk]
theorem Z09:∀{h h':List Blk} {b:Nat},b∈u.map Prod.fst->gt (upd h u) b=gt (upd h' u) b:=by
 induction u with
 |nil=>intro h h' b hb;simp at hb
 |cons p u ih =>
  intro h h' b hb;obtain⟨c,x⟩:=p;by_cases hu:b∈u.map Prod.fst
  .exact ih hu
  .simp only[upd];rw[Zi1 hu,Zi1 hu,Zde,Zde];simp only[Yo,Yz]at hb;rcases hb with rfl|hb
   .simp
   .exact absurd hb hu
theorem Zbtk{b:Nat}(hg:gt h b=gt h' b):gt (upd h u) b=gt (upd h' u) b:=by
 by_cases hb:b∈u.map Prod.fst
 .exact Z09 hb
 .rw[Zi1 hb,Zi1 hb,hg]
theorem Zqh{L L':Nat->Bool}(r:Nat):∀(ts:List Tr) (k:Nat) (s s':S),(∀j t,ts[j]?=some t->t.dst=some r->L (k+j)=L' (k+j))->lk r s.env=lk r s'.env->lk r (Zbe L k ts s).env=lk r (Zbe L' k ts s').env
 |[],_,_,_,_,h=>h
 |t::ts,k,s,s',hL,h=>by
  simp only[Zbe];refine Zqh r ts (k+1) _ _ (λj t' hj hd=>?_) ?_
  .have:=hL (j+1) t' (by simpa using hj) hd;rw[show k+1+j=k+(j+1) by omega];exact this
  .have h0:=hL 0 t rfl;rw[Ybs]at h0;by_cases hd:t.dst=some r
   .rw[h0 hd];cases L' k
    .simpa using h
    .simp[appT,Zqg,hd]
   .have key:∀(b:Bool) (x:S),lk r (if b=true then appT t x else x).env=lk r x.env:=by
     intro b x;cases b
     .rfl
     .simp[appT,Zqg,hd]
    rw[key,key,h]
theorem Zqi{L L':Nat->Bool}(b:Nat):∀(ts:List Tr) (k:Nat) (s s':S),(∀j t,ts[j]?=some t->b∈t.u.map Prod.fst->L (k+j)=L' (k+j))->gt s.h b=gt s'.h b->gt (Zbe L k ts s).h b=gt (Zbe L' k ts s').h b
 |[],_,_,_,_,h=>h
 |t::ts,k,s,s',hL,h=>by
  simp only[Zbe];refine Zqi b ts (k+1) _ _ (λj t' hj hd=>?_) ?_
  .have:=hL (j+1) t' (by simpa using hj) hd;rw[show k+1+j=k+(j+1) by omega];exact this
  .have h0:=hL 0 t rfl;rw[Ybs]at h0;by_cases hd:b∈t.u.map Prod.fst
   .rw[h0 hd];cases L' k
    .simpa using h
    .simp only[if_true,appT];exact Z09 hd
   .have key:∀(c:Bool) (x:S),gt (if c=true then appT t x else x).h b=gt x.h b:=by
     intro c x;cases c
     .rfl
     .simp only[if_true,appT];exact Zi1 hd
    rw[key,key,h]
theorem Zqj{L:Nat->Bool}:∀(ts:List Tr) (k:Nat) (s:S),(Zbe L k ts s).stk=s.stk
 |[],_,_=>rfl
 |t::ts,k,s=>by
  simp only[Zbe];rw[Zqj ts];split<;>rfl
theorem Zvm{L:Nat->Bool}:∀(ts:List Tr) (k:Nat) (s:S),s.h.length<=(Zbe L k ts s).h.length/\∀j t,ts[j]?=some t->L (k+j)=true->∀b∈t.u.map Prod.fst,b<(Zbe L k ts s).h.length
 |[],_,_=>⟨Yh _,by simp⟩
 |t::ts,k,s=>by
  simp only[Zbe];obtain⟨h1,h2⟩:=Zvm ts (k+1) (if L k=true then appT t s else s);have h3:s.h.length<=(if L k=true then appT t s else s).h.length:=by
   split
   .exact(Z02 t.u s.h).1
   .exact Yh _
  refine⟨Yq h3 h1,?_⟩;intro j t' hj hL b hb
  cases j with
  |zero =>
   simp at hj;subst hj;rw[Ybs]at hL;rw[hL]at h1|-;simp only[if_true]at h1|-
   exact Ycd ((Z02 t.u s.h).2 b hb) h1
  |succ j =>
   exact h2 j t' (by simpa using hj) (by rw[show k+1+j=k+(j+1) by omega];exact hL) b hb
theorem Zbav{L:Nat->Bool}{i:Nat}{t:Tr}(hi:L i=false):∀(ts:List Tr) (k:Nat) (s:S),(∃m,i=k+m/\ts[m]?=some t)->
  ((∀r,t.dst=some r->∀j t',ts[j]?=some t'->i<k+j->L (k+j)=true->t'.dst≠some r)->∀r,lk r (Zbe (λj=>L j || decide (j=i)) k ts s).env=lk r (appT t (Zbe L k ts s)).env)/\
  ((∀b∈t.u.map Prod.fst,∀j t',ts[j]?=some t'->i<k+j->L (k+j)=true->b ∉ t'.u.map Prod.fst)->∀b,gt (Zbe (λj=>L j || decide (j=i)) k ts s).h b=gt (appT t (Zbe L k ts s)).h b)
 |[],_,_,⟨m,_,h⟩=>by simp at h
 |t0::ts,k,s,⟨m,hm,ht⟩=>by
  cases m with
  |zero =>
   simp at ht;subst ht;have hik:i=k:=by omega
   subst hik;simp only[Zbe,hi,Yb4,decide_true,if_true,Ycj,if_false];constructor
   .intro hw r;by_cases hd:t0.dst=some r
    .have e1:=Zqh (L:=λj=>L j || decide (j=i)) (L':=λ_=>false) r ts (i+1) (appT t0 s) (appT t0 s) (λj t' hj hd'=>by
      have:=hw r hd (j+1) t' (by simpa using hj) (by omega);cases hx:L (i+1+j)
      .simp;omega
      .exact absurd hd' (this (by rw[show i+(j+1)=i+1+j by omega];exact hx))) rfl
     rw[e1,Zqf ts (i+1) _ (λ_ _=>rfl)];simp[appT,Zqg,hd]
    .have e1:=Zqh (L:=λj=>L j || decide (j=i)) (L':=L) r ts (i+1) (appT t0 s) s (λj t' hj hd'=>by
      have:(decide (i+1+j=i))=false:=by simp;omega
      simp[this]) (by simp[appT,Zqg,hd])
     rw[e1];simp[appT,Zqg,hd]
   .intro hw b;by_cases hd:b∈t0.u.map Prod.fst
    .have e1:=Zqi (L:=λj=>L j || decide (j=i)) (L':=λ_=>false) b ts (i+1) (appT t0 s) (appT t0 s) (λj t' hj hd'=>by
      have:=hw b hd (j+1) t' (by simpa using hj) (by omega);cases hx:L (i+1+j)
      .simp;omega
      .exact absurd hd' (this (by rw[show i+(j+1)=i+1+j by omega];exact hx))) rfl
     rw[e1,Zqf ts (i+1) _ (λ_ _=>rfl)];exact Z09 hd
    .have e1:=Zqi (L:=λj=>L j || decide (j=i)) (L':=L) b ts (i+1) (appT t0 s) s (λj t' hj hd'=>by
      have:(decide (i+1+j=i))=false:=by simp;omega
      simp[this]) (by simp only[appT];exact Zi1 hd)
     rw[e1];simp only[appT]
     exact(Zi1 hd).symm
  |succ m =>
   have hne:decide (k=i)=false:=by simp;omega
   simp only[Zbe,hne,Bool.or_false];have ih:=Zbav hi ts (k+1) (if L k=true then appT t0 s else s) ⟨m,by omega,by simpa using ht⟩;constructor
   .intro hw;exact ih.1 λr hr j t' hj hlt hL=>hw r hr (j+1) t' (by simpa using hj) (by omega) (by rw[show k+(j+1)=k+1+j by omega];exact hL)
   .intro hw;exact ih.2 λb hb j t' hj hlt hL=>hw b hb (j+1) t' (by simpa using hj) (by omega) (by rw[show k+(j+1)=k+1+j by omega];exact hL)
theorem Z1a{L:Nat->Bool}:∀(bs:List (List Nat)) (acc:List (List Nat)),(∀j b,bs[j]?=some b->L (acc.length+j)=true->∀i∈b,L i=true)->(∀j c,acc[j]?=some c->L j=true->∀i∈c,L i=true)->
  ∀j c,(Zp6 bs acc)[j]?=some c->L j=true->∀i∈c,L i=true
 |[],acc,_,h=>h
 |b::bs,acc,hb,h=>by
  simp only[Zp6];refine Z1a bs _ (λj b' hj hL=>hb (j+1) b' (by simpa using hj) (by simp at hL;rw[show acc.length+(j+1)=acc.length+1+j by omega];exact hL)) ?_;intro j c hj hL i hi;rw[List.getElem?_append]at hj;split at hj
  .exact h j c hj hL i hi
  .rename_i hlt;have hj0:j=acc.length:=by
    by_cases hz:j-acc.length=0
    .omega
    .rw[Yb9 (by simp;omega)]at hj;cases hj
   subst hj0;simp at hj;subst hj;have h0:=hb 0 b rfl (by simpa using hL);rcases Yi.1 hi with hi|hi
   .exact h0 i hi
   .obtain⟨i',h1,h2⟩:=Yde.1 hi;have hL':=h0 i' h1
    cases hx:acc[i']? with
    |none=>rw[hx]at h2;simp at h2
    |some c'=>rw[hx]at h2;exact h i' c' hx hL' i h2
theorem Zbaw{before:List (List Nat)}{feet:List Foot}(h:Ziu before feet=true){i j:Nat}{f g:Foot}(hi:feet[i]?=some f)(hj:feet[j]?=some g)(hij:i<j)(hc:Zfs f g=true) :
  ∃c,(Zp6 before [])[j]?=some c/\i∈c:=by
 unfold Ziu at h;have hjl:j<feet.length:=by
  by_cases hx:j<feet.length
  .exact hx
  .rw[Yb9 (by omega)]at hj;cases hj
 have h1:=Yr.1 h j (Ybu.2 hjl);unfold Z9j at h1;rw[hj]at h1;split at h1
 .rename_i g' c hg hcl;cases hg;have h2:=Yr.1 h1 i (Ybu.2 hij);rw[hi]at h2;simp only[hc,Bool.not_true,Yb4]at h2;exact⟨c,hcl,by simpa using h2⟩
 .cases h1
theorem Z1b(hh:∀b∈Zbp h 200 (Z0 vs) [],gt h b=gt h' b)(hr:Zcr Γ f vs h nx K):Zcr Γ f vs h' nx K:=by
 obtain⟨e1,e2,e3⟩:=Zbar hh;unfold Zcr;rw[e1,e2,e3];exact hr
theorem Zbtl(hh:∀b∈Zbp h 200 (Z0 vs) [],gt h b=gt h' b)(hr:Zha Γ f vs h nx K):Zha Γ f vs h' nx K:=by
 obtain⟨e1,e2,e3⟩:=Zbar hh;unfold Zha;rw[e1,e2,e3];exact hr
theorem Zbtm{K':AV->List (Nat×Blk)->Prop}(hr:Zcr Γ f vs h nx K)(hK:∀v u,K v u->K' v u):Zcr Γ f vs h nx K':=by
 obtain⟨h1,r,h2,h3,h4⟩:=hr;exact⟨h1,r,h2,h3,hK _ _ h4⟩
theorem Z1c{h:List Blk}:∀(n:Nat) (A B acc:List Nat),∀b∈Zbp h n A acc,b∈Zbp h n (A++B) acc
 |0,_,_,_,b,hb=>by simpa[Zbp]using hb
 |n+1,[],B,acc,b,hb=>Zvl _ _ _ b (by simpa[Zbp]using hb)
 |n+1,c::A,B,acc,b,hb=>by
  simp only[Zbp,Yc1]at hb|-;split
  .rename_i hc;rw[if_pos hc]at hb;exact Z1c n A B acc b hb
  .rename_i hc;rw[if_neg hc]at hb;have:=Z1c n (Zch (gt h c)++A) B (acc++[c]) b hb
   rwa [Y8]at this
theorem Zbtn{e e':Env}{k:MOp}{v:AV}(he:∀x∈Z1 k,ev e x=ev e' x)(hh:∀b∈Zit h (frefs k e),gt h b=gt h' b)
  (hr:opR Γ h nx e k v u):opR Γ h' nx e' k v u:=by
 cases k with
 |call f args =>
  obtain⟨as,h1,r,hr,h2,h3,h4,h5⟩:=hr;have e1:args.map (ev e')=args.map (ev e):=Yb1 λx hx=>(he x (by simpa[Z1]using hx)).symm
  refine⟨as,?_,r,hr,h2,by rw[e1];exact h3,h4,h5⟩;rw[e1,<-h1]
  exact(Z08 (Z06 hh)).symm
 |xcall f args =>
  obtain⟨as,h1,r,hr,h2,h3,h4,h5⟩:=hr;have e1:args.map (ev e')=args.map (ev e):=Yb1 λx hx=>(he x (by simpa[Z1]using hx)).symm
  refine⟨as,?_,r,hr,h2,h3,h4,h5⟩;rw[e1,<-h1]
  exact(Z08 (Z06 hh)).symm
 |fcall f args =>
  obtain⟨as,h1,hno,r,hr,h2,h3,h4⟩:=hr;have e1:args.map (ev e')=args.map (ev e):=Yb1 λx hx=>(he x (by simpa[Z1]using hx)).symm
  refine⟨as,?_,by rw[e1];exact hno,r,hr,h2,h3,h4⟩;rw[e1,<-h1]
  exact(Z08 (Z06 hh)).symm
 |scall f args p =>
  have e1:args.map (ev e')=args.map (ev e):=Yb1 λx hx=>(he x (by simp[Z1,hx])).symm
  have e2:ev e' p=ev e p:=(he p (by simp[Z1])).symm;have e3:frefs (.scall f args p) e=Z0 (args.map (ev e))++refs (ev e p):=by simp[frefs,Z1,Zbs5,Z0]
  rw[e3]at hh;simp only[opR]at hr|-;rw[e1,e2];refine Zbtm (Z1b (λb hb=>hh b (Zvk (Z1c 200 _ _ _ b hb))) hr) ?_;rintro v' u' ⟨u2,q1,q2,q3⟩;refine⟨u2,?_,q2,q3⟩;rw[<-q1]
  cases hx:ev e p with
  |eptr b i sz off =>
   have hb:b∈Z0 (args.map (ev e))++refs (ev e p):=by rw[hx];simp[refs]
   have hg:=hh b (Z05 hb);unfold Zg9;simp only;split
   .rfl
   .rw[<-hg]
    cases hd:gt h b with
    |det el sz es i off c =>
     simp only
     rw[Zbtk (hh c (Zbap hb (by rw[hd];simp[Zch])))]
    |_=>rfl
  |_=>rfl
 |icall f args =>
  have e1:args.map (ev e')=args.map (ev e):=Yb1 λx hx=>(he x (by simpa[Z1]using hx)).symm
  simp only[opR]at hr|-;rw[e1]
  exact Z1b (λb hb=>hh b (Zvk hb)) hr
 |pcall f args =>
  have e1:args.map (ev e')=args.map (ev e):=Yb1 λx hx=>(he x (by simpa[Z1]using hx)).symm
  simp only[opR]at hr|-;rw[e1]
  exact Zbtl (λb hb=>hh b (Zvk hb)) hr
 |dcall f args =>
  obtain⟨g,caps,hg,hr⟩:=hr;have e1:args.map (ev e')=args.map (ev e):=Yb1 λx hx=>(he x (by simp[Z1,hx])).symm
  refine⟨g,caps,by rw[<-he f (by simp[Z1])];exact hg,?_⟩;rw[e1];refine Z1b (λb hb=>hh b (Zvk ?_)) hr;simp only[frefs,hg]
  exact hb
 |mov x =>
  change Zw h nx e (.mov x)=some (v,u)at hr;show Zw h' nx e' (.mov x)=some (v,u);simp only[Zw]at hr|-;rw[<-he x (by simp[Z1])]
  exact hr
 |_ =>
  show Zw h' nx e' _=some (v,u);rw[<-Zbth he (λx hx b hb=>hh b (Z05 (Zbs6 (Ys.2 ⟨x,hx,rfl⟩) hb)))];exact hr
section
variable{P:Program}{N:Par}{base:Nat}{w0:World}{nt:Nat}{ts:List (Array Value)}{inl:List Nat}{D D':Nat->Prop}{ρ:Map}{s:S}{a:Act}{w:World}{d:Option Nat}
structure RelD (N:Par) (base:Nat) (w0:World) (nt:Nat) (ts:List (Array Value)) (D:Nat->Prop) (ρ:Map) (s:S) (a:Act) (w:World):Prop where
 rel:Rel N base ρ s.h w
 env:Zb1 ρ w (Free N ρ s.h) s.env a.tmps
 stk:Zez ρ w (Free N ρ s.h) s.stk ts
 dom:∀b,D b->ρ b=none
 defers:a.defers=[]
 size:a.tmps.size=nt
 below:Below base w0 w
 kn:∀g,g<w0.heap.size->¬N.a g->w.heap[g]?=w0.heap[g]?
 fz:∀g,g<w0.heap.size->N.z g->Free N ρ s.h g/\w.heap[g]?=w0.heap[g]?
theorem RelD.congr{s':S}(h:RelD N base w0 nt ts D ρ s a w)(hl:∀r,lk r s.env=lk r s'.env)(hg:∀b,gt s.h b=gt s'.h b)(hk:s.stk=s'.stk)(hD:∀b,D' b->D b) :
  RelD N base w0 nt ts D' ρ s' a w:=by
 refine⟨h.rel.congr hg,?_,?_,λb hb=>h.dom b (hD b hb),h.defers,h.size,h.below,h.kn,by rw[<-Free.congr hg];exact h.fz⟩
 .intro r;rw[<-hl,<-Free.congr hg];exact h.env r
 .rw[<-hk,<-Free.congr hg];exact h.stk
theorem RelD.after{ρ':Map}{w':World}(hS:RelD N base w0 nt ts D ρ s a w){v:AV}{u:List (Nat×Blk)}{val:Value}(hA:After N base ρ s.h w v u val w' ρ')(hd:∀x,d=some x->x<nt)
  (hD:∀b,D' b->D b/\b ∉ u.map Prod.fst):RelD N base w0 nt ts D' ρ' { s with env:=put d v s.env,h:=upd s.h u } (a.put d val) w':=by
 refine⟨hA.rel,Zvh (λs=>(hS.env s).keep hA.keeps) hA.val λx hx=>by rw[hS.size];exact hd x hx,hS.stk.keep hA.keeps,?_,by rw[Zvi];exact hS.defers,by rw[Zvj];exact hS.size,hS.below.trans hA.below,
  λg hg hn=>(hA.kn g (Ycd hg hS.below.size) hn).trans (hS.kn g hg hn),λg hg hz=>?_⟩
 .intro b hb;exact hA.same b (hD b hb).2 (hS.dom b (hD b hb).1)
 .obtain⟨h1,h2⟩:=hS.fz g hg hz;obtain⟨h3,h4⟩:=hA.keeps.free g (Ycd hg hS.below.size) h1;exact⟨h3,h4.trans h2⟩
theorem RelD.skip(hS:RelD N base w0 nt ts D ρ s a w)(hd:∀x,d=some x->x<nt) :
  RelD N base w0 nt ts D ρ { s with env:=put d (.tup []) s.env } (a.put d undef) w :=
 ⟨hS.rel,Zvh hS.env (RV.tup (c:=#[]) .nil) λx hx=>by rw[hS.size];exact hd x hx,hS.stk,hS.dom,by rw[Zvi];exact hS.defers,by rw[Zvj];exact hS.size,hS.below,hS.kn,hS.fz⟩
theorem Zkf{a b:List Nat}{x:Nat}(h:x∈a)(h':x∈b):Zhu a b=true:=by
 unfold Zhu;exact List.any_eq_true.2 ⟨x,h,by simpa using h'⟩
end
open Go.RowKit (Below)
section
variable{P:Program}{N:Par}{base:Nat}{w0:World}{nt:Nat}{ts:List (Array Value)}{inl:List Nat}
theorem Zbax{α β:Type}{f:α->Option β}:∀{l:List α} {os:List β},mapO f l=some os->∀{i:Nat} {o:α},l[i]?=some o->∃m,os[i]?=some m/\f o=some m
 |[],_,_,_,_,h=>by simp at h
 |x::l,os,hm,i,o,h=>by
  obtain⟨m,ms,h1,h2,rfl⟩:=Zgl hm
  cases i with
  |zero=>simp at h;subst h;exact⟨m,rfl,h1⟩
  |succ i =>
   obtain⟨m',h3,h4⟩:=Zbax h2 (i:=i) (o:=o) (by simpa using h);exact⟨m',by simpa using h3,h4⟩
theorem Zbay:∀{bs:List (List Nat)} {k:Nat},backB bs k=true->∀{j:Nat} {b:List Nat},bs[j]?=some b->∀i∈b,i<k+j
 |[],_,_,_,_,h=>by simp at h
 |x::bs,k,hb,j,b,h=>by
  simp only[backB,Ye,Yr,decide_eq_true_eq]at hb;intro i hi
  cases j with
  |zero=>simp at h;subst h;exact hb.1 i hi
  |succ j=>have:=Zbay hb.2 (j:=j) (b:=b) (by simpa using h) i hi;omega
theorem Zvn{listed:Array Bool}{i j:Nat}(hi:i<listed.size):(listed.setIfInBounds i true).getD j false=(listed.getD j false || decide (j=i)):=by
 simp only[Ybt,Array.getElem?_setIfInBounds];by_cases h:i=j
 .subst h;simp[hi]
 .have:¬j=i:=λe=>h e.symm
  simp[h,this]
variable{ops:Array Oper}{os:List MO}{tr:List Tr}{s0:S}{Qc:Exit->Act->World->Prop}
def domD(tr:List Tr)(s0:S)(L:Nat->Bool)(b:Nat):Prop:=s0.h.length<=b/\∀j t,tr[j]?=some t->L j=true->b ∉ t.u.map Prod.fst
theorem Zbto(hback:backB (ops.toList.map Zdv) 0=true){listed:Array Bool}(hsz:listed.size=ops.size)(hr:Region.ready .any ops listed=[]):∀j,j<ops.size->listed.getD j false=true:=by
 intro j
 induction j using Nat.strongRecOn with
 |ind j ih =>
  intro hj
  cases hc:listed.getD j false with
  |true=>rfl
  |false =>
   exfalso;have hmem:j∈Region.ready .any ops listed:=by
    unfold Region.ready;refine Ybe.2 ⟨Ybu.2 hj,?_⟩;have h1:listed.getD j true=false:=by
     rw[Ybt]at hc|-
     have:j<listed.size:=by omega
     simp[this]at hc|-;exact hc
    have h2:ops[j]?=some ops[j]:=by simp[hj]
    rw[h1,h2];simp only[Bool.not_false,Yx,Option.map_some,Option.getD_some];rw[Array.all_eq_true_iff_forall_mem];intro e he
    cases hb:Region.binds .any e with
    |false=>rfl
    |true =>
     simp only[Bool.not_true,Yb4];have hin:e.on∈Zdv ops[j]:=by
      unfold Zdv;refine List.mem_filterMap.2 ⟨e,by simpa using he,by simp[hb]⟩
     have hlt:=Zbay hback (j:=j) (b:=Zdv ops[j]) (by simp[hj]) e.on hin;exact ih e.on (by omega) (by omega)
   rw[hr]at hmem;cases hmem
theorem Zbaz{K:S->Prop}(hQ:∀s a w ρ,K s->RelS N base w0 nt ts ρ s a w->Qc .normal a w)(hlen:tr.length=ops.size)(hK:K (Zbe (λ_=>true) 0 tr s0)){listed:Array Bool}(hall:∀j,j<ops.size->listed.getD j false=true)
  {ρ:Map} {a:Act} {w:World} (hS:RelD N base w0 nt ts (domD tr s0 (listed.getD · false)) ρ (Zbe (listed.getD · false) 0 tr s0) a w):Qc .normal a w:=by
 have hj:∀(j:Nat) (t:Tr),tr[j]?=some t->listed.getD (0+j) false=true:=by
  intro j t h;rw[Ym];refine hall j ?_;by_cases hx:j<tr.length
  .omega
  .rw[Yb9 (by omega)]at h;cases h
 have h1:=hS.congr (s':=Zbe (λ_=>true) 0 tr s0) (D':=domD tr s0 (listed.getD · false)) (λr=>Zqh r tr 0 _ _ (λj t h _=>hj j t h) rfl) (λb=>Zqi b tr 0 _ _ (λj t h _=>hj j t h) rfl) (by rw[Zqj,Zqj]) (λ_ h=>h);refine hQ _ a w ρ hK ⟨h1.rel,h1.env,h1.stk,?_,h1.defers,h1.size,h1.below,h1.kn,h1.fz⟩;intro b hb;have hl:=Zvm (L:=λ_=>true) tr 0 s0;refine h1.dom b ⟨by omega,?_⟩;intro j t h _ hin;have:=hl.2 j t h rfl b hin;omega
theorem drw_any(hos:mapO (compO P inl nt ops) ops.toList=some os)(hback:backB (ops.toList.map Zdv) 0=true)(hst:Steps (Zb7 P) os tr s0)(hord:Ziu (ops.toList.map Zdv) (tr.map (·.foot))=true)
  {K:S->Prop} (hQ:∀s a w ρ,K s->RelS N base w0 nt ts ρ s a w->Qc .normal a w) (hK:K (Zbe (λ_=>true) 0 tr s0)) :
  ∀(fuel:Nat) (listed:Array Bool) (a:Act) (w:World) (ρ:Map),listed.size=ops.size->listed.toList.count false<=fuel->
   (∀j b,(ops.toList.map Zdv)[j]?=some b->listed.getD j false=true->∀i∈b,listed.getD i false=true)->
   RelD N base w0 nt ts (domD tr s0 (listed.getD · false)) ρ (Zbe (listed.getD · false) 0 tr s0) a w->wpAny P .any ops Qc fuel listed a w:=by
 obtain⟨hl1,hat⟩:=Zbau os tr s0 0 hst;have hlen:tr.length=ops.size:=by rw[hl1,Z0s hos];simp
 have hdst:∀(j:Nat) (t:Tr),tr[j]?=some t->(∀r,t.dst=some r->r∈t.foot.ws)/\t.u.map Prod.fst=t.foot.wb:=by
  intro j t h;have hj:j<os.length:=by
   by_cases hx:j<tr.length
   .omega
   .rw[Yb9 (by omega)]at h;cases h
  obtain⟨t',h1,h2,h3,_⟩:=hat j os[j] (by simp[hj]);rw[h]at h1;cases h1;rw[h3];exact⟨λr hr=>by simp[Zc1,<-h2,hr],rfl⟩
 intro fuel
 induction fuel with
 |zero =>
  intro listed a w ρ hsz hc hcl hS;have hall:∀j,j<ops.size->listed.getD j false=true:=by
   intro j hj
   cases hx:listed.getD j false with
   |true=>rfl
   |false =>
    exfalso
    have:false∈listed.toList:=by
     rw[Ybt]at hx;have hj':j<listed.size:=by omega
     simp[hj']at hx;rw[<-hx];exact Array.getElem_mem_toList hj'
    have:=List.count_pos_iff.2 this;omega
  refine⟨?_,Zbaz hQ hlen hK hall hS⟩;unfold Region.ready;refine Yce.2 ?_;intro i hi;have hi':=Ybu.1 hi;have h1:=hall i hi';have h2:listed.getD i true=true:=by
   rw[Ybt]at h1|-
   have:i<listed.size:=by omega
   simp[this]at h1|-;exact h1
  simp[h2]
 |succ fuel ih =>
  intro listed a w ρ hsz hc hcl hS;refine⟨λhr=>Zbaz hQ hlen hK (Zbto hback hsz hr) hS,?_⟩;intro i hi;unfold Region.ready at hi;obtain⟨hir,hcond⟩:=Ybe.1 hi;have hin:i<ops.size:=Ybu.1 hir;have hil:i<listed.size:=by omega
  have hops:ops[i]?=some ops[i]:=by simp[hin]
  rw[hops]at hcond;simp only[Option.map_some,Option.getD_some,Ye,Bool.not_eq_true',Array.all_eq_true_iff_forall_mem]at hcond;obtain⟨hLt,haft⟩:=hcond;have hLi:listed.getD i false=false:=by
   rw[Ybt]at hLt|-;simp[hil]at hLt|-;exact hLt
  have hbef:∀j∈Zdv ops[i],listed.getD j false=true:=by
   intro j hj;unfold Zdv at hj;obtain⟨e,he,hj⟩:=List.mem_filterMap.1 hj;have h1:=haft e (by simpa using he);split at hj
   .rename_i hb;cases hj;simpa[hb]using h1
   .cases hj
  -- the operation
  obtain⟨m,hm,hcm⟩:=Zbax hos (i:=i) (o:=ops[i]) (by simp[hin]);obtain⟨hk,hmd,hd,hguard⟩:=Zbal hcm;obtain⟨t,ht,htd,htf,hstep⟩:=hat i m hm
  -- the new list
  have hcl':∀(j:Nat) (b:List Nat),(ops.toList.map Zdv)[j]?=some b->(listed.setIfInBounds i true).getD j false=true->∀x∈b,(listed.setIfInBounds i true).getD x false=true:=by
   intro j b hb hj x hx;rw[Zvn hil]at hj|-;by_cases hji:j=i
   .subst hji
    have:b=Zdv ops[j]:=by simp[hin]at hb;exact hb.symm
    subst this;rw[hbef x hx];rfl
   .simp only[hji,decide_false,Bool.or_false]at hj;rw[hcl j b hb hj x hx];rfl
  -- who is in Zfs
  have low:∀(j:Nat) (t':Tr),tr[j]?=some t'->j<i->Zfs t'.foot t.foot=true->listed.getD j false=true:=by
   intro j t' hj hlt hcf;obtain⟨c,h1,h2⟩:=Zbaw hord (i:=j) (j:=i) (f:=t'.foot) (g:=t.foot) (by simp[hj]) (by simp[ht]) hlt hcf;have h3:=Z1a (L:=λj=>(listed.setIfInBounds i true).getD j false) (ops.toList.map Zdv) [] (λj b hb hL=>hcl' j b hb (by simpa using hL)) (by simp) i c h1 (by simp only[Zvn hil,decide_true,Bool.or_true]) j h2;simp only[Zvn hil]at h3
   have:¬j=i:=by omega
   simpa[this]using h3
  have high:∀(j:Nat) (t':Tr),tr[j]?=some t'->i<j->Zfs t.foot t'.foot=true->listed.getD j false=true->False:=by
   intro j t' hj hlt hcf hL;obtain⟨c,h1,h2⟩:=Zbaw hord (i:=i) (j:=j) (f:=t.foot) (g:=t'.foot) (by simp[ht]) (by simp[hj]) hlt hcf;have h3:=Z1a (L:=λj=>listed.getD j false) (ops.toList.map Zdv) [] (λj b hb hL=>hcl j b hb (by simpa using hL)) (by simp) j c h1 hL i h2;simp only[hLi]at h3;cases h3
  -- what it looks at stands as in the text's order
  have hlk:∀r∈t.foot.rs,lk r (Zbe (λj=>decide (j<0+i)) 0 tr s0).env=lk r (Zbe (listed.getD · false) 0 tr s0).env:=by
   intro r hr;refine Zqh r tr 0 _ _ (λj t' hj hd'=>?_) rfl;have hw:=(hdst j t' hj).1 r hd';rcases Ycy j i with hlt|rfl|hgt
   .rw[Ym,Ym,low j t' hj hlt (by simp[Zfs,Zkf hw (Yck t.foot.ws hr)])];simpa using hlt
   .rw[Ym,hLi];simp
   .rw[Ym,Ym]
    cases hx:listed.getD j false with
    |true=>exact(high j t' hj hgt (by simp[Zfs,Zkf hw hr]) hx).elim
    |false=>simp;omega
  have hgt':∀b∈t.foot.rb,gt (Zbe (λj=>decide (j<0+i)) 0 tr s0).h b=gt (Zbe (listed.getD · false) 0 tr s0).h b:=by
   intro b hb;refine Zqi b tr 0 _ _ (λj t' hj hd'=>?_) rfl;have hw:b∈t'.foot.wb:=by rw[<-(hdst j t' hj).2];exact hd'
   rcases Ycy j i with hlt|rfl|hgt
   .rw[Ym,Ym,low j t' hj hlt (by simp[Zfs,Zkf hw (Yck t.foot.wb hb)])];simpa using hlt
   .rw[Ym,hLi];simp
   .rw[Ym,Ym]
    cases hx:listed.getD j false with
    |true=>exact(high j t' hj hgt (by simp[Zfs,Zkf hw hb]) hx).elim
    |false=>simp;omega
  have hLfun:(λj=>(listed.setIfInBounds i true).getD j false)=(λj=>listed.getD j false || decide (j=i)):=by
   funext j;exact Zvn hil
  have hins:=Zbav (L:=λj=>listed.getD j false) (i:=i) (t:=t) hLi tr 0 s0 ⟨i,by omega,ht⟩;have hcount:(listed.setIfInBounds i true).toList.count false<=fuel:=by
   rw[Ydq,List.count_set (by simpa using hil)];have hx:listed.toList[i]'(by simpa using hil)=false:=by
    rw[Ybt]at hLi;simpa[hil]using hLi
   rw[hx];simp
   have:0<listed.toList.count false:=List.count_pos_iff.2 (by rw[<-hx];exact Yd _)
   simp at this hc;omega
  -- the state behind it
  have next:∀a' w' ρ',RelD N base w0 nt ts (domD tr s0 λj=>listed.getD j false || decide (j=i)) ρ' (appT t (Zbe (listed.getD · false) 0 tr s0)) a' w'->wpAny P .any ops Qc fuel (listed.setIfInBounds i true) a' w':=by
   intro a' w' ρ' hR;refine ih _ a' w' ρ' (by simpa using hsz) hcount hcl' ?_;rw[hLfun];refine hR.congr (λr=>(hins.1 ?_ r).symm) (λb=>(hins.2 ?_ b).symm) (by rw[Zqj];exact Zqj tr 0 s0) (λ_ h=>h)
   .intro r hr j t' hj hlt hL hd';rw[Ym]at hlt hL;exact high j t' hj hlt (by simp[Zfs,Zkf ((hdst i t ht).1 r hr) (Ycr t'.foot.rs ((hdst j t' hj).1 r hd'))]) hL
   .intro b hb j t' hj hlt hL hd';rw[Ym]at hlt hL;have hb1:b∈t.foot.wb:=by rw[<-(hdst i t ht).2];exact hb
    have hb2:b∈t'.foot.wb:=by rw[<-(hdst j t' hj).2];exact hd'
    exact high j t' hj hlt (by simp[Zfs,Zkf hb1 (Ycr t'.foot.rb hb2)]) hL
  have hrs:∀x∈Z1 m.op,∀r∈Zu0 x,r∈t.foot.rs:=by
   intro x hx r hr;rw[htf];simp only[Zc1];exact Yck _ (Yde.2 ⟨x,hx,hr⟩)
  have hgs:∀g b,m.guard=some (g,b)->g∈t.foot.rs:=by
   intro g b hg;rw[htf];simp only[Zc1,hg];exact Ycr _ (by simp)
  have he:∀x∈Z1 m.op,ev (Zbe (λj=>decide (j<0+i)) 0 tr s0).env x=ev (Zbe (listed.getD · false) 0 tr s0).env x:=by
   intro x hx
   cases x with
   |c v=>rfl
   |s r=>exact hlk r (hrs _ hx r (by simp[Zu0]))
  have hh:∀b∈Zit (Zbe (λj=>decide (j<0+i)) 0 tr s0).h (frefs m.op (Zbe (λj=>decide (j<0+i)) 0 tr s0).env),gt (Zbe (λj=>decide (j<0+i)) 0 tr s0).h b=gt (Zbe (listed.getD · false) 0 tr s0).h b:=by
   intro b hb;refine hgt' b ?_;rw[htf];exact hb
  have hlI:=Zvm (L:=λj=>decide (j<0+i)) tr 0 s0;have hlT:=Zvm (L:=λ_=>true) tr 0 s0;have hu:∀b,b∈t.u.map Prod.fst->(Zbe (λj=>decide (j<0+i)) 0 tr s0).h.length<=b->ρ b=none:=by
   intro b hb hle;refine hS.dom b ⟨by omega,?_⟩;intro j t' hj hL hin';have hw:b∈t'.foot.wb:=by rw[<-(hdst j t' hj).2];exact hin'
   have hb':b∈t.foot.wb:=by rw[<-(hdst i t ht).2];exact hb
   rcases Ycy j i with hlt|rfl|hgt
   .have:=hlI.2 j t' hj (by simpa using hlt) b hin';omega
   .simp only[hLi]at hL;cases hL
   .exact high j t' hj hgt (by simp[Zfs,Zkf hb' (Ycr t'.foot.rb hw)]) hL
  have hDnew:∀b,domD tr s0 (λj=>listed.getD j false || decide (j=i)) b->domD tr s0 (listed.getD · false) b/\b ∉ t.u.map Prod.fst:=by
   intro b hb;refine⟨⟨hb.1,λj t' hj hL=>hb.2 j t' hj (by simp only at hL|-;rw[hL];rfl)⟩,hb.2 i t ht (by simp)⟩
  have hrun:opR (Zb7 P) (Zbe (λj=>decide (j<0+i)) 0 tr s0).h (Zbe (λj=>decide (j<0+i)) 0 tr s0).h.length (Zbe (λj=>decide (j<0+i)) 0 tr s0).env m.op t.v t.u->
    (ops[i]).wp P a w (wpAny P .any ops Qc fuel (listed.setIfInBounds i true)) Qc:=by
   intro hop;have hop':=Zbtn he hh hop;have fin:∀val w' ρ',After N base ρ (Zbe (listed.getD · false) 0 tr s0).h w t.v t.u val w' ρ'->wpAny P .any ops Qc fuel (listed.setIfInBounds i true) (a.put (ops[i]).dst val) w':=by
    intro val w' ρ' hA;refine next _ _ ρ' ?_
    have:=hS.after hA (d:=(ops[i]).dst) hd hDnew;rw[<-hmd,<-htd]at this|-;exact this
   by_cases hcall:isC m.op
   .exact Zvg hk hS.env hS.rel (.inl hcall) hu hop' fin
   .by_cases hnx:(Zbe (λj=>decide (j<0+i)) 0 tr s0).h.length∈t.u.map Prod.fst
    .exact Zvg hk hS.env hS.rel (.inr (hu _ hnx (Yh _))) hu hop' fin
    .have hM:opR (Zb7 P) (Zbe (listed.getD · false) 0 tr s0).h (Zbe (λ_=>true) 0 tr s0).h.length (Zbe (listed.getD · false) 0 tr s0).env m.op t.v t.u:=by
      cases hmop:m.op with
      |call f args=>rw[hmop]at hcall;exact absurd trivial hcall
      |xcall f args=>rw[hmop]at hcall;exact absurd trivial hcall
      |fcall f args=>rw[hmop]at hcall;exact absurd trivial hcall
      |scall f args p=>rw[hmop]at hcall;exact absurd trivial hcall
      |icall f args=>rw[hmop]at hcall;exact absurd trivial hcall
      |pcall f args=>rw[hmop]at hcall;exact absurd trivial hcall
      |dcall f args=>rw[hmop]at hcall;exact absurd trivial hcall
      |_=>rw[hmop]at hop';exact Zbti hop' hnx _
     refine Zvg hk hS.env hS.rel (nx:=(Zbe (λ_=>true) 0 tr s0).h.length) (.inr ?_) ?_ hM fin
     .refine hS.dom _ ⟨hlT.1,?_⟩;intro j t' hj _ hin';have:=hlT.2 j t' hj rfl _ hin';omega
     .intro b hb hle;have:=hlT.2 i t ht rfl b hb;omega
  have hskip:t.v=.tup []->t.u=[]->wpAny P .any ops Qc fuel (listed.setIfInBounds i true) (a.put (ops[i]).dst undef) w:=by
   intro hv hu0;refine next _ _ ρ ?_
   have:=(hS.skip (d:=(ops[i]).dst) hd).congr (D':=domD tr s0 λj=>listed.getD j false || decide (j=i)) (s':=appT t (Zbe (listed.getD · false) 0 tr s0)) (λr=>by rw[<-hmd,<-htd];simp[appT,hv]) (λb=>by simp[appT,hu0,upd]) rfl (λb hb=>(hDnew b hb).1);exact this
  unfold wpOp;rw[hops];simp only;rcases hguard with⟨hg1,hg2⟩|⟨j,b,d,hg1,hg2,hg3⟩
  .simp only[Region.wanted,hg1,if_true];rcases hstep with⟨_,hop⟩|⟨⟨g,b,hg,_⟩,_,_⟩
   .exact .inl (hrun hop)
   .rw[hg2]at hg;cases hg
  .have hw:=Zbam hS.env hg1 hg2;have hlkd:=hlk d (hgs d b hg3);rcases hstep with⟨hgr,hop⟩|⟨⟨g,b',hg,hsk⟩,hv,hu0⟩
   .rcases hgr with hgn|⟨g,b',hg,hb'⟩
    .rw[hg3]at hgn;cases hgn
    .rw[hg3]at hg;cases hg;rw[hlkd]at hb';rw[hw.1 b hb'];simp only[decide_true,if_true];exact .inl (hrun hop)
   .rw[hg3]at hg;cases hg;rw[hlkd]at hsk;rcases hsk with hsk|⟨c,hc',hne⟩
    .rw[hw.2 hsk];simp only[Ycj,if_false];exact hskip hv hu0
    .rw[hw.1 c hc'];simp only[hne,decide_false,Ycj,if_false];exact hskip hv hu0
theorem RelS.drew{ρ:Map}{s:S}{a:Act}{w:World}(hS:RelS N base w0 nt ts ρ s a w):RelS N base w0 nt ts ρ s a { w with drawn:=w.drawn+1 }:=by
 have hk:Keeps ρ w (Free N ρ s.h) ρ { w with drawn:=w.drawn+1 } (Free N ρ s.h):=⟨λ_ r h=>⟨r,h,rfl⟩,λ_ _ h=>⟨h,rfl⟩⟩;have hb:Below base w { w with drawn:=w.drawn+1 }:=⟨rfl,rfl,rfl,Yh _,λ_ _=>rfl⟩;obtain⟨R,hE,hst,hdom,hdf,hsz,hB,hkn,hfz⟩:=hS;obtain⟨h1,h2,h0,h3,h4,h5⟩:=R;refine⟨⟨h1,h2,h0,?_,h4,h5⟩,λs=>(hE s).keep hk,hst.keep hk,hdom,hdf,hsz,hB.trans hb,hkn,hfz⟩;intro b hne;obtain⟨r,q1,q2⟩:=h3 b hne;exact⟨r,q1,q2.keep hk λ_ _=>rfl⟩
theorem Zbtp{Γ:Ctr}(hΓ:Γ=Zb7 P){ops:Array Oper}{os:List MO}(hos:mapO (compO P inl nt ops) ops.toList=some os)(hback:backB (ops.toList.map Zdv) 0=true)(hmix:P.follows .mixedOrders=true)
  {Qc:Exit->Act->World->Prop} {K:S->Prop} (hQ:∀s a w ρ,K s->RelS N base w0 nt ts ρ s a w->Qc .normal a w) {id:Nat} {s:S} {a:Act} {w:World} {ρ:Map}
  (hW:drwW Γ os s [] λfeet s'=>Ziu (ops.toList.map Zdv) feet=true/\K s') (hS:RelS N base w0 nt ts ρ s a w):(Code.region id ops true).wp P Qc a w:=by
 obtain⟨tr,hst,hord,hK⟩:=Zbat os s [] _ 0 hW;rw[hΓ]at hst;rw[Yb0]at hord;refine wp_region_any hmix ?_;have hD:=hS.drew;have hf:∀j,(Array.replicate ops.size false).getD j false=false:=by
  intro j;rw[Ybt];by_cases h:j<ops.size<;>simp[h]
 have hfun:(λj=>(Array.replicate ops.size false).getD j false)=λ_=>false:=funext hf
 refine drw_any hos hback hst hord hQ hK ops.size _ a _ ρ (by simp) ?_ ?_ ?_
 .simp
 .intro j b _ h;rw[hf]at h;cases h
 .rw[hfun,Zqf tr 0 s (λ_ _=>rfl)];exact⟨hD.rel,hD.env,hD.stk,λb hb=>hD.dom b hb.1,hD.defers,hD.size,hD.below,hD.kn,hD.fz⟩
end
open Go.RowKit (Below)
section
variable{P:Program}{N:Par}{base:Nat}{w0:World}{nt:Nat}{ts:List (Array Value)}{inl:List Nat}{ρ:Map}{s:S}{a:Act}{w:World}
theorem Zez.ren{ρ ρ':Map}{w:World}{F F':Nat->Prop}(f:Nat->Nat)(hF:∀g,g<w.heap.size->F g->F' g):∀{es:List Env} {ts:List (Array Value)},Zez ρ w F es ts->(∀b∈es.flatMap Zgi,∀r,ρ b=some r->ρ' (f b)=some r)->Zez ρ' w F' (es.map (renE f)) ts
 |[],[],_,_=>trivial
 |_::_,_::_,h,hr=>⟨h.1.ren f (λb hb=>hr b (by simp only[Yds,Yi];exact .inl hb)) hF,Zez.ren f hF h.2 λb hb=>hr b (by simp only[Yds,Yi];exact .inr hb)⟩
 |[],_::_,h,_=>h.elim
 |_::_,[],h,_=>h.elim
theorem Zba0(hS:RelS N base w0 nt ts ρ s a w)(keep:List Nat):∃ρ',RelS N base w0 nt ts ρ' (Zff keep s) a w:=by
 unfold Zff;simp only;split
 .rename_i hc;obtain⟨h1,h2⟩:=Zvc hc;have hnd:(Zbp s.h 200 (Zgi (Zj9 s.h (rst keep s.env))++s.stk.flatMap Zgi) []).Nodup:=Zva _ _ _ Ybi;generalize Zbp s.h 200 (Zgi (Zj9 s.h (rst keep s.env))++s.stk.flatMap Zgi) []=ids at *
  refine⟨renM ρ ids,hS.rel.ren hnd h2,?_,?_,?_,hS.defers,hS.size,hS.below,hS.kn,λg hg hz=>⟨Zqc (hS.fz g hg hz).1,(hS.fz g hg hz).2⟩⟩
  .exact((hS.env.rst keep).scrub (h:=s.h)).ren _ (λb hb r hr=>by rw[Zmo (h1 b (by simp[hb]))];exact hr) λg _ hg=>Zqc hg
  .exact hS.stk.ren _ (λg _ hg=>Zqc hg) λb hb r hr=>by rw[Zmo (h1 b (Yi.2 (.inr hb)))];exact hr
  .intro b hb;exact Z0v (by simpa using hb)
 .exact⟨ρ,hS.rel,λ_=>.top _,hS.stk,hS.dom,hS.defers,hS.size,hS.below,hS.kn,hS.fz⟩
def PQ(N:Par)(base:Nat)(w0:World)(nt:Nat)(ts:List (Array Value))(Q:X->S->Prop):Exit->Act->World->Prop
 |.normal,a,w=>∃s ρ,Q .n s/\RelS N base w0 nt ts ρ s a w
 |.exit id,a,w=>∃s ρ,Q (.x id) s/\RelS N base w0 nt ts ρ s a w
 |.ret,a,w=>∃s ρ,Q .r s/\RelS N base w0 nt ts ρ s a w
 |_,_,_=>False
theorem RelS.rst(hS:RelS N base w0 nt ts ρ s a w)(keep:List Nat):RelS N base w0 nt ts ρ { s with env:=rst keep s.env } a w :=
 ⟨hS.rel,hS.env.rst keep,hS.stk,hS.dom,hS.defers,hS.size,hS.below,hS.kn,hS.fz⟩
theorem Wc_sound{Γ:Ctr}(hΓ:Γ=Zb7 P):∀(c:Code) (ks:List (List Nat)) (m:MCode) (ks':List (List Nat)),comp P inl nt c ks=some (m,ks')->∀(Q:X->S->Prop) (s:S) (a:Act) (w:World) (ρ:Map),
  Wc Γ m Q s->RelS N base w0 nt ts ρ s a w->c.wp P (PQ N base w0 nt ts Q) a w:=by
 intro c
 induction c with
 |skip =>
  intro ks m ks' hc Q s a w ρ hW hS;simp[comp]at hc;obtain⟨rfl,rfl⟩:=hc
  exact wp_skip ⟨s,ρ,hW,hS⟩
 |region id ops draw =>
  intro ks m ks' hc Q s a w ρ hW hS
  cases ks with
  |nil=>simp[comp]at hc
  |cons k ks =>
   simp only[comp]at hc;split at hc
   .rename_i os hos;split at hc
    .rename_i hdraw;subst hdraw;split at hc
     .rename_i hcond;cases hc;simp only[Wc]at hW;exact Zbtp hΓ hos hcond.1 hcond.2.1 (λs a w ρ hq hS=>⟨_,ρ,hq,hS.rst k⟩) hW hS
     .cases hc
    .rename_i hdraw;cases hc;simp only[Wc]at hW;have hdraw':draw=false:=by simpa using hdraw
     subst hdraw';exact wp_region_list (Zban hΓ (λs a w ρ hq hS=>⟨_,ρ,hq,hS.rst k⟩) ops.toList os hos s a w ρ hW hS)
   .cases hc
 |seq x y ihx ihy =>
  intro ks m ks' hc Q s a w ρ hW hS;simp only[comp]at hc;split at hc
  .rename_i mx k1 h1;split at hc
   .rename_i my k2 h2;cases hc;simp only[Wc]at hW;refine wp_seq (wp_mono (ihx ks mx k1 h1 _ s a w ρ hW hS) ?_);intro e a' w' hq
    cases e with
    |normal=>obtain⟨s',ρ',h3,h4⟩:=hq;exact ihy k1 my _ h2 Q s' a' w' ρ' h3 h4
    |exit id=>exact hq
    |ret=>exact hq
    |goto l=>exact hq.elim
    |panic ch=>exact hq.elim
    |outgrown=>exact hq.elim
   .cases hc
  .cases hc
 |cond o x y ihx ihy =>
  intro ks m ks' hc Q s a w ρ hW hS;simp only[comp]at hc;split at hc
  .rename_i o' mx k1 ho h1;split at hc
   .rename_i my k2 h2;cases hc;simp only[Wc]at hW;have hr:=Zbf hS.env ho;split at hW
    .rename_i b hb;rw[hb]at hr;refine wp_cond hr.bool_inv ?_;split at hW
     .rename_i hbt;subst hbt;exact ihx ks mx k1 h1 Q s a w ρ hW hS
     .rename_i hbt
      have:b=false:=by simpa using hbt
      subst this;exact ihy k1 my _ h2 Q s a w ρ hW hS
    .exact hW.elim
   .cases hc
  .cases hc
 |block id b ih =>
  intro ks m ks' hc Q s a w ρ hW hS;simp only[comp]at hc;split at hc
  .rename_i mb k1 h1;cases hc;simp only[Wc]at hW;refine wp_block (wp_mono (ih ks mb _ h1 _ s a w ρ hW hS) ?_);intro e a' w' hq
   cases e with
   |normal=>exact hq
   |exit id' =>
    obtain⟨s',ρ',h3,h4⟩:=hq;simp only[Exit.inBlock];simp only at h3;split at h3
    .rename_i hid;rw[if_pos hid];exact⟨s',ρ',h3,h4⟩
    .rename_i hid;rw[if_neg hid];exact⟨s',ρ',h3,h4⟩
   |ret=>exact hq
   |goto l=>exact hq.elim
   |panic ch=>exact hq.elim
   |outgrown=>exact hq.elim
  .cases hc
 |loop b ih =>
  intro ks m ks' hc Q s a w ρ hW hS
  cases ks with
  |nil=>simp[comp]at hc
  |cons k ks =>
   simp only[comp]at hc;split at hc
   .rename_i mb k1 h1;cases hc;simp only[Wc,LoopW]at hW;obtain⟨I,μ,h0,hround⟩:=hW;obtain⟨ρ0,hS0⟩:=Zba0 hS k;refine wp_loop_ghost (λn a w=>∃s ρ,I s/\μ s=n/\RelS N base w0 nt ts ρ s a w) (μ (Zff k s)) ⟨_,ρ0,h0,rfl,hS0⟩ ?_;rintro n a' w' ⟨s1,ρ1,hI,rfl,hS1⟩;refine wp_mono (ih ks mb _ h1 _ s1 a' w' ρ1 (hround s1 hI) hS1) ?_;intro e a2 w2 hq
    cases e with
    |normal =>
     obtain⟨s2,ρ2,⟨h3,h4⟩,h5⟩:=hq;obtain⟨ρ3,h6⟩:=Zba0 h5 k
     exact⟨μ (Zff k s2),h4,_,ρ3,h3,rfl,h6⟩
    |exit id=>exact hq
    |ret=>exact hq
    |goto l=>exact hq.elim
    |panic ch=>exact hq.elim
    |outgrown=>exact hq.elim
   .cases hc
 |exit id =>
  intro ks m ks' hc Q s a w ρ hW hS;simp[comp]at hc;obtain⟨rfl,rfl⟩:=hc
  exact wp_exit ⟨s,ρ,hW,hS⟩
 |ret =>
  intro ks m ks' hc Q s a w ρ hW hS;simp[comp]at hc;obtain⟨rfl,rfl⟩:=hc
  exact wp_ret ⟨s,ρ,hW,hS⟩
 |rangeFunc f ps x y _ _=>intro ks m ks' hc;cases ks<;>simp[comp]at hc
 |scope b _=>intro ks m ks' hc;cases ks<;>simp[comp]at hc
 |label l=>intro ks m ks' hc;cases ks<;>simp[comp]at hc
 |goto l=>intro ks m ks' hc;cases ks<;>simp[comp]at hc
 |refuse wy=>intro ks m ks' hc;cases ks<;>simp[comp]at hc
end
open Go.RowKit (Below)
section
variable{P:Program}{N:Par}{base:Nat}{w0:World}{nt:Nat}{ts:List (Array Value)}{inl:List Nat}{ρ:Map}{w:World}{s:S}{fn:Func}{v r:AV}{args:List AV}{ks:List (List Nat)}{m:MFun}{a:Act}{vs:Array Value}{f k:Nat}{h0 hr:List Blk}
def Zqk(tmps:Array Value):ResultVar->Sem Value
 |.tmp t=>pure (tmps.getD t undef)
 |.cell ad t=>do loadVar t (<-asAddr (tmps.getD ad undef))
theorem Zba1(fn:Func)(tmps:Array Value):results fn tmps=(do let vs <-fn.results.mapM (Zqk tmps);pure (if h:vs.size=1 then vs[0]else .tuple vs)):=by
 unfold results;congr 1
theorem Zbtq(hS:RelS N base w0 nt ts ρ s a w){rv:ResultVar}{r:Res}(hc:Zkb P rv=some r)(hv:Zp5 s r=some v) :
  ∃val,(Zqk a.tmps rv).run P w=.ok val w/\RV ρ w (Free N ρ s.h) v val:=by
 cases rv with
 |tmp t =>
  simp[Zkb]at hc;subst hc;simp[Zp5]at hv;subst hv
  exact⟨_,rfl,hS.env t⟩
 |cell ad t =>
  simp only[Zkb]at hc;obtain⟨n,hn,rfl⟩:=Yl.1 hc;simp only[Zp5]at hv;split at hv
  .rename_i b off hb;split at hv
   .rename_i cs hgb;have hr:=hS.env ad;rw[hb]at hr;obtain⟨p,hp⟩:∃g,a.tmps.getD ad undef=.pointer (some ⟨g,off,none⟩)/\∃r,ρ b=some r/\r.v=.pointer (some ⟨g,0,none⟩):=by
     generalize a.tmps.getD ad undef=x at hr
     cases hr with
     |ptr h1 h2=>exact⟨_,rfl,_,h1,h2⟩
    obtain⟨hp1,r,hr1,hr2⟩:=hp;obtain⟨r',h1,h2⟩:=hS.rel.blk b (by rw[hgb];intro hc;cases hc);rw[hr1]at h1;cases h1;rw[hgb]at h2;obtain⟨hx0,g',c,te,hv2,_,hh,hcs,hone⟩:=h2;rw[hr2]at hv2;cases hv2;obtain⟨val,h3,h4⟩:=Z0n (P:=P) hn hh hcs hone hv;exact⟨val,by simp only[Zqk,Sem.run_bind,hp1,asAddr,Sem.run_pure,Result.andThen_ok,h3],h4⟩
   .cases hv
  .cases hv
theorem Zba2{ρ:Map}{s:S}{a:Act}{w:World}(hS:RelS N base w0 nt ts ρ s a w):∀(l:List ResultVar) (rs:List Res),mapO (Zkb P) l=some rs->∀vs,Zka s rs=some vs->
  ∃vals,(l.mapM (Zqk a.tmps)).run P w=.ok vals w/\RVs ρ w (Free N ρ s.h) vs vals
 |[],rs,hm,vs,hv=>by cases hm;simp[Zka]at hv;subst hv;exact⟨[],by simp,.nil⟩
 |rv::l,rs,hm,vs,hv=>by
  obtain⟨r,rs',h1,h2,rfl⟩:=Zgl hm;simp only[Zka]at hv;split at hv
  .rename_i v vs' h3 h4;cases hv;obtain⟨val,h5,h6⟩:=Zbtq hS h1 h3;obtain⟨vals,h7,h8⟩:=Zba2 hS l rs' h2 vs' h4;refine⟨val::vals,?_,.cons h6 h8⟩;simp only[List.mapM_cons,Sem.run_bind];rw[h5];simp only[Result.andThen_ok];rw[h7];simp
  .cases hv
theorem Zbtr(hS:RelS N base w0 nt ts ρ s a w){rs:List Res}(hm:mapO (Zkb P) fn.results.toList=some rs)(hv:resAV rs s=some v) :
  ∃val,(results fn a.tmps).run P w=.ok val w/\RV ρ w (Free N ρ s.h) v val:=by
 unfold resAV at hv;have key:∀vs,Zka s rs=some vs->∃vals,(fn.results.mapM (Zqk a.tmps)).run P w=.ok vals.toArray w/\RVs ρ w (Free N ρ s.h) vs vals:=by
  intro vs hvs;obtain⟨vals,h1,h2⟩:=Zba2 hS fn.results.toList rs hm vs hvs;refine⟨vals,?_,h2⟩;rw[Array.mapM_eq_mapM_toList];simp only[Sem.run_map];rw[h1];rfl
 split at hv
 .rename_i v' hvs;cases hv;obtain⟨vals,h1,h2⟩:=key _ hvs;have hl:=h2.length
  match vals,hl,h1,h2 with
  |[val],_,h1,h2 =>
   cases h2 with
   |cons h3 _ =>
    refine⟨val,?_,h3⟩;rw[Zba1,Sem.run_bind,h1];simp
 .rename_i vs hne hvs;cases hv;obtain⟨vals,h1,h2⟩:=key _ hvs;have hl:=h2.length;refine⟨.tuple vals.toArray,?_,.tup (by simpa using h2)⟩;rw[Zba1,Sem.run_bind,h1];have hn1:vals.length≠1:=by
   intro hc;rw[hc]at hl
   match vs,hl,hne with
   |[v0],_,hne=>exact hne v0 rfl
  simp[hn1]
 .cases hv
theorem lk_initE(args:List AV)(k i:Nat):lk (k+i) (Zgj args k)=(args[i]?).getD .top:=by
 induction args generalizing k i with
 |nil=>rfl
 |cons v args ih =>
  simp only[Zgj,lk]
  cases i with
  |zero=>simp
  |succ i =>
   rw[if_neg (by omega)];have:=ih (k+1) i;rw[show k+1+i=k+(i+1) by omega]at this;simpa using this
theorem init_env{F:Nat->Prop}(hv:RVs ρ w F args vs.toList)(n:Nat):Zb1 ρ w F (Zgj args 0) (vs++Array.replicate n undef):=by
 intro s;have h1:=lk_initE args 0 s;rw[Ym]at h1;rw[h1]
 cases hs:args[s]? with
 |none=>exact .top _
 |some a =>
  obtain⟨v,h2,h3⟩:=hv.at hs;have h2':vs[s]?=some v:=by simpa using h2
  have hlt:s<vs.size:=(Ybx.1 h2').1
  have:(vs++Array.replicate n undef).getD s undef=v:=by
   rw[Ybt,Ydu hlt,h2'];rfl
  rw[this];exact h3
theorem Zbts(hc:Ziv P inl ks fn=some m):∃c,fn.body=some c/\comp P inl fn.ntmps c ks=some (m.body,[])/\mapO (Zkb P) fn.results.toList=some m.res/\m.nt=fn.ntmps/\m.np<=m.nt:=by
 unfold Ziv at hc;split at hc
 .rename_i c hb;split at hc
  .rename_i b rs h1 h2;split at hc
   .rename_i hle;cases hc;exact⟨c,hb,h1,h2,rfl,hle⟩
   .cases hc
  .cases hc
 .cases hc
theorem Zbtt{Γ:Ctr}(hΓ:Γ=Zb7 P)(hf:P.funcs[f]?=some fn)(hc:Ziv P inl ks fn=some m)(hl:args.length=m.np){K:AV->S->Prop}
  (hW:Wc Γ m.body (bodyQ m.res K) { s with env:=Zgj args 0 }) (hR:Rel N base ρ s.h w) (hst:Zez ρ w (Free N ρ s.h) s.stk ts) (hdom:∀b,s.h.length<=b->ρ b=none)
  (hv:RVs ρ w (Free N ρ s.h) args vs.toList) (hz:∀g,N.z g->Free N ρ s.h g) :
  Calls P f vs w λe w'=>∃val v s' ρ',e=.returned val/\K v s'/\RV ρ' w' (Free N ρ' s'.h) v val/\Rel N base ρ' s'.h w'/\Zez ρ' w' (Free N ρ' s'.h) s'.stk ts/\(∀b,s'.h.length<=b->ρ' b=none)/\Below base w w'/\
   (∀g,g<w.heap.size->¬N.a g->w'.heap[g]?=w.heap[g]?)/\∀g,g<w.heap.size->N.z g->Free N ρ' s'.h g/\w'.heap[g]?=w.heap[g]?:=by
 obtain⟨c,hb,hcc,hres,hnt,hnp⟩:=Zbts hc;have hvl:=hv.length;simp only[Yv]at hvl;refine calls_of_wp hf hb (wp_mono (Wc_sound (N:=N) (base:=base) (w0:=w) (ts:=ts) hΓ c ks m.body [] hcc _ _ _ w ρ hW ⟨hR,init_env hv _,hst,hdom,rfl,by simp;omega,Below.refl _ _,λ_ _ _=>rfl,λg _ hg=>⟨hz g hg,rfl⟩⟩) ?_);intro e a' w' hq;have fin:∀s' ρ',bodyQ m.res K .n s'->RelS N base w fn.ntmps ts ρ' s' a' w'->a'.defers=[]/\∃v,(results fn a'.tmps).run P w'=.ok v w'/\∃val v_1 s' ρ',Ending.returned v=.returned val/\K v_1 s'/\RV ρ' w' (Free N ρ' s'.h) v_1 val/\Rel N base ρ' s'.h w'/\
   Zez ρ' w' (Free N ρ' s'.h) s'.stk ts/\(∀b,s'.h.length<=b->ρ' b=none)/\Below base w w'/\(∀g,g<w.heap.size->¬N.a g->w'.heap[g]?=w.heap[g]?)/\∀g,g<w.heap.size->N.z g->Free N ρ' s'.h g/\w'.heap[g]?=w.heap[g]?:=by
  intro s' ρ' hQ hS;simp only[bodyQ]at hQ;split at hQ
  .rename_i v hvr;obtain⟨val,h1,h2⟩:=Zbtr hS hres hvr;exact⟨hS.defers,val,h1,val,v,s',ρ',rfl,hQ,h2,hS.rel,hS.stk,hS.dom,hS.below,hS.kn,hS.fz⟩
  .exact hQ.elim
 cases e with
 |normal=>obtain⟨s',ρ',h1,h2⟩:=hq;exact fin s' ρ' h1 h2
 |ret=>obtain⟨s',ρ',h1,h2⟩:=hq;exact fin s' ρ' h1 h2
 |exit id=>obtain⟨s',ρ',h1,h2⟩:=hq;exact h1.elim
 |goto l=>exact hq.elim
 |panic ch=>exact hq.elim
 |outgrown=>exact hq.elim
theorem Z1d{h:List Blk}:∀(n:Nat) (todo acc:List Nat),∃more,Zbp h n todo acc=acc++more
 |0,_,acc=>⟨[],by simp[Zbp]⟩
 |n+1,[],acc=>⟨[],by simp[Zbp]⟩
 |n+1,c::todo,acc=>by
  simp only[Zbp];split
  .exact Z1d n todo acc
  .obtain⟨more,hm⟩:=Z1d (h:=h) n (Zch (gt h c)++todo) (acc++[c]);exact⟨c::more,by rw[hm];simp⟩
theorem Zba3:∀(bs:List Blk) (k i:Nat),lk (k+i) (Zft bs k)=match bs[i]? with|some (.box _)=>.ptr (k+i) 0|some (.arr _ _ _ _)=>.own (k+i)|some (.xarr _ _ _)=>.own (k+i)|_=>.top
 |[],k,i=>by simp[Zft,lk]
 |b::bs,k,0=>by cases b<;>simp[Zft,lk]
 |b::bs,k,i+1=>by
  simp only[Zft,lk];rw[if_neg (by omega)];have:=Zba3 bs (k+1) i;rw[show k+1+i=k+(i+1) by omega]at this;simpa using this
def Zql(ρ:Map)(k:Nat):Array Value:=((List.range k).map λi=>match ρ i with|some r=>r.v|none=>undef).toArray
theorem Zvo{i:Nat}{r:Root}(hi:i<k)(hr:ρ i=some r):(Zql ρ k).getD i undef=r.v:=by
 simp[Zql,hi,hr]
theorem Zbtu(R:Rel N base ρ h0 w):Zb1 ρ w (Free N ρ h0) (Zft h0 0) (Zql ρ h0.length):=by
 intro i;have:=Zba3 h0 0 i;rw[Ym]at this;rw[this]
 cases hb:h0[i]? with
 |none=>exact .top _
 |some b =>
  have hi:i<h0.length:=(Y0.1 hb).1;have hg:gt h0 i=b:=by simp[gt,hb]
  cases b with
  |dead=>exact .top _
  |box cs =>
   obtain⟨r,h1,h2⟩:=R.blk i (by rw[hg];intro hc;cases hc);rw[hg]at h2;obtain⟨_,g,c,e,h3,_⟩:=h2;rw[Zvo hi h1,h3]
   exact .ptr h1 h3
  |arr e sz fr es =>
   obtain⟨r,h1,h2⟩:=R.blk i (by rw[hg];intro hc;cases hc);rw[hg]at h2;obtain⟨_,_,xs,_,h3,_⟩:=h2;rw[Zvo hi h1]
   exact .own h1 (Z0q h3)
  |xarr e sz es =>
   obtain⟨r,h1,h2⟩:=R.blk i (by rw[hg];intro hc;cases hc);rw[hg]at h2;obtain⟨_,xs,_,h3,_⟩:=h2;rw[Zvo hi h1]
   exact .own h1 (Z0q h3)
  |det e sz es i' off c=>exact .top _
theorem Zbtv{ρ0:Map}{val:Value}(R:Rel N base ρ s.h w)(hv:RV ρ w (Free N ρ s.h) v val)(hdom:∀b,s.h.length<=b->ρ b=none){e:Env}(hstk:s.stk=[e])(hE:Zb1 ρ w (Free N ρ s.h) e (Zql ρ0 k))(hc:Zml k v s=some (r,hr)) :
  ∃ρ',Rel N base ρ' hr w/\RV ρ' w (Free N ρ' hr) r val/\(∀b,hr.length<=b->ρ' b=none)/\k<=hr.length/\(∀g,Free N ρ s.h g->Free N ρ' hr g)/\∀b r0,b<k->ρ0 b=some r0->∃r1,ρ' b=some r1/\r1.v=r0.v:=by
 unfold Zml at hc;simp only[hstk]at hc;split at hc
 .rename_i hcond;simp only[Ye]at hcond;obtain⟨hcl,hndB⟩:=hcond;obtain⟨h1,h2⟩:=Zvc hcl;have hnd0:((List.range k).map (Zbt s.h e)).Nodup:=Zp9.1 hndB;have hnd:=Zva (h:=s.h) 200 ((((List.range k).map (Zbt s.h e)).flatMap λb=>Zch (gt s.h b))++refs (scrub s.h v)) ((List.range k).map (Zbt s.h e)) hnd0;obtain⟨more,hpre⟩:=Z1d (h:=s.h) 200 ((((List.range k).map (Zbt s.h e)).flatMap λb=>Zch (gt s.h b))++refs (scrub s.h v)) ((List.range k).map (Zbt s.h e));generalize Zbp s.h 200 ((((List.range k).map (Zbt s.h e)).flatMap λb=>Zch (gt s.h b))++refs (scrub s.h v)) ((List.range k).map (Zbt s.h e))=ids at *
  cases hc;have hat:∀i,i<k->ids[i]?=some (Zbt s.h e i):=by
   intro i hi;rw[hpre,Ycp (by simpa using hi)];simp[hi]
  have hkl:k<=ids.length:=by rw[hpre];simp
  -- where a root handed over is
  have hroot:∀i r0,i<k->ρ0 i=some r0->ρ (Zbt s.h e i)=none\/∃r1,ρ (Zbt s.h e i)=some r1/\r1.v=r0.v:=by
   intro i r0 hi hr0;have hEi:=(hE i).scrub (h:=s.h);rw[Zvo hi hr0]at hEi;unfold Zbt
   cases hx:scrub s.h (lk i e)with
   |ptr b off =>
    rw[hx]at hEi
    cases off with
    |zero =>
     right;generalize hr0v:r0.v=x at hEi
     cases hEi with
     |ptr q1 q2=>exact⟨_,q1,q2⟩
    |succ off=>left;exact hdom _ (by simp)
   |own b =>
    rw[hx]at hEi;right;generalize hr0v:r0.v=x at hEi
    cases hEi with
    |own q1 q2=>exact⟨_,q1,rfl⟩
   |_=>left;exact hdom _ (by simp)
  let ρ':Map:=λb=>if hb:b<k/\renM ρ ids b=none then ρ0 b else renM ρ ids b
  have hlive:∀b,gt (ids.map λb=>renB (λb=>idx b ids 0) (gt s.h b)) b≠.dead->ρ' b=renM ρ ids b:=by
   intro b hb;obtain⟨r1,q1,_⟩:=(R.ren hnd h2).blk b hb;show(if hb:b<k/\renM ρ ids b=none then ρ0 b else renM ρ ids b)=renM ρ ids b;rw[dif_neg (by rw[q1];simp)]
  have hsome:∀b r,renM ρ ids b=some r->ρ' b=some r:=by
   intro b r hb;show(if hb:b<k/\renM ρ ids b=none then ρ0 b else renM ρ ids b)=some r;rw[dif_neg (by rw[hb];simp)];exact hb
  have hFree:∀g,Free N (renM ρ ids) (ids.map λb=>renB (λb=>idx b ids 0) (gt s.h b)) g->Free N ρ' (ids.map λb=>renB (λb=>idx b ids 0) (gt s.h b)) g:=by
   intro g hg;refine⟨hg.1,λb r hb hd=>?_⟩;rw[hlive b hd]at hb;exact hg.2 b r hb hd
  have hKp:Keeps (renM ρ ids) w (Free N (renM ρ ids) (ids.map λb=>renB (λb=>idx b ids 0) (gt s.h b))) ρ' w (Free N ρ' (ids.map λb=>renB (λb=>idx b ids 0) (gt s.h b))) :=
   ⟨λb r hb=>⟨r,hsome b r hb,rfl⟩,λg _ hg=>⟨hFree g hg,rfl⟩⟩
  have R':=R.ren hnd h2;refine⟨ρ',⟨R'.hb,R'.hN,?_,?_,?_,?_⟩,?_,?_,by simpa using hkl,λg hg=>hFree g (Zqc hg),?_⟩
  .intro b r g hb hd;rw[hlive b hd]at hb;exact R'.hO b r g hb hd
  .intro b hd;obtain⟨r1,q1,q2⟩:=R'.blk b hd;exact⟨r1,hsome b r1 q1,q2.keep hKp λ_ _=>rfl⟩
  .intro b b' r1 r2 g hb hb' hd hd';rw[hlive b hd]at hb;rw[hlive b' hd']at hb';exact R'.inj b b' r1 r2 g hb hb' hd hd'
  .intro b b' r1 r2 g hb hb' hf hf';rw[hlive b (Zdw hf)]at hb;rw[hlive b' (Zdw hf')]at hb';exact R'.apart b b' r1 r2 g hb hb' hf hf'
  .refine RV.keep hKp ((hv.scrub (h:=s.h)).ren _ (λb hb r hr=>?_) λg _ hg=>Zqc hg);rw[Zmo (h1 b (Yi.2 (.inr hb)))];exact hr
  .intro b hb;simp only[Yba]at hb;show(if hb:b<k/\renM ρ ids b=none then ρ0 b else renM ρ ids b)=none;rw[dif_neg (by omega)];exact Z0v hb
  .intro b r0 hb hr0;rcases hroot b r0 hb hr0 with hn|⟨r1,q1,q2⟩
   .refine⟨r0,?_,rfl⟩;show(if hb:b<k/\renM ρ ids b=none then ρ0 b else renM ρ ids b)=some r0;rw[dif_pos ⟨hb,by simp[renM,hat b hb,hn]⟩];exact hr0
   .exact⟨r1,hsome b r1 (by simp[renM,hat b hb,q1]),q2⟩
 .cases hc
def TblOK(P:Program)(tbl:Nat->Option MFun):Prop:=∀f m,tbl f=some m->∃fn ks inl,P.funcs[f]?=some fn/\Ziv P inl ks fn=some m/\Zgk P f=true
theorem sound_of(hf:P.funcs[f]?=some fn)(hcl:Zgk P f=true)(hc:Ziv P inl ks fn=some m)
  (hW:FW (Zb7 P) m args h0 r hr):Zb7 P f args h0 r hr:=by
 refine⟨hcl,?_⟩;intro N base w ρ vs hR hdom hv hz;have hb:=Zbtt (N:=N) (base:=base) (ts:=[Zql ρ h0.length]) rfl hf hc hW.1 (s:={ env:=[],stk:=[Zft h0 0],h:=h0 }) hW.2 hR ⟨Zbtu hR,trivial⟩ hdom hv hz;refine hb.mono ?_;rintro e w' ⟨val,v,s',ρ1,rfl,hK,hv',hR',hst,hdom',hB,hkn,hfz⟩
 match hs:s'.stk,hst with
 |[e],hst =>
  obtain⟨ρ2,h1,h2,h3,h4,h5,h6⟩:=Zbtv hR' hv' hdom' hs hst.1 hK;exact⟨val,ρ2,rfl,hB,h1,h2,h3,h4,hkn,λg hg hz'=>⟨h5 g (hfz g hg hz').1,(hfz g hg hz').2⟩,h6⟩
end
end Go.AM
