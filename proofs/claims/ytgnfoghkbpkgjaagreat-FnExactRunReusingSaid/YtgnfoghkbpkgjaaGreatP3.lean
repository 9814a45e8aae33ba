/-
  Parts of the proofs for this seat: AMSound AMCall AMCode AMFrame AMDraw AMDraw2 AMTop AMFun.
-/
import Derived.Deep.LoopGhost
import Derived.Orders
import Derived.Test.YtgnfoghkbpkgjaaGreatP2
set_option linter.unusedSimpArgs false
set_option linter.unusedVariables false
namespace Go.AM
open Go.RowKit (Below)
abbrev Zdl:Map:=λ_=>none
def Zbt(P:Program):Ctr:=λf args h0 r h1=>Zfi P f=true/\∀(N:Par) (base:Nat) (w:World) (ρ:Map) (vs:Array Value),Rel N base ρ h0 w->(∀b,h0.length<=b->ρ b=none)->
 RVs ρ w (Free N ρ h0) args vs.toList->(∀g,N.z g->Free N ρ h0 g)->
 Calls P f vs w λe w'=>∃v ρ',e=.returned v/\Below base w w'/\Rel N base ρ' h1 w'/\RV ρ' w' (Free N ρ' h1) r v/\(∀b,h1.length<=b->ρ' b=none)/\h0.length<=h1.length/\
  (∀g,g<w.heap.size->¬N.a g->w'.heap[g]?=w.heap[g]?)/\(∀g,g<w.heap.size->N.z g->Free N ρ' h1 g/\w'.heap[g]?=w.heap[g]?)/\
  ∀b r0,b<h0.length->ρ b=some r0->∃r1,ρ' b=some r1/\r1.v=r0.v
theorem Rel.empty{N:Par}{base:Nat}{w:World}(hb:base<=w.heap.size)(hN:∀g,w.heap.size<=g->N.a g/\N.f g):Rel N base Zdl [] w :=
 ⟨hb,hN,λb r g hr=>(by cases hr),λb hb=>absurd (by simp[gt]) hb,λb b' r r' g hb=>(by cases hb),λb b' r r' g hb=>(by cases hb)⟩
theorem Zbt.data{P:Program}{f:Nat}{args:List AV}{r:AV}{hr:List Blk}(h:Zbt P f args [] r hr)(w:World)(A:Nat->Prop)(vs:Array Value)(hv:RVs Zdl w A args vs.toList) :
  Calls P f vs w λe w'=>∃v ρ,e=.returned v/\Below w.heap.size w w'/\Rel (calP w A) w.heap.size ρ hr w'/\RV ρ w' (Free (calP w A) ρ hr) r v/\∀b,hr.length<=b->ρ b=none:=by
 have hk:Keeps Zdl w A Zdl w (Free (calP w A) Zdl []):=⟨λb r hb=>(by cases hb),λg _ hg=>⟨⟨.inr hg,λb r hb=>(by cases hb)⟩,rfl⟩⟩;refine(h.2 (calP w A) w.heap.size w Zdl vs (.empty (Yc _) λg hg=>⟨.inl hg,hg⟩) (λ_ _=>rfl) (hv.keep hk) (λg hg=>hg.elim)).mono ?_;rintro e w' ⟨v,ρ,rfl,h1,h2,h3,h4,_⟩;exact⟨v,ρ,rfl,h1,h2,h3,h4⟩
section
variable{P:Program}{N:Par}{base:Nat}{ρ:Map}{h:List Blk}{w:World}{e:Env}{a:Act}{inl:List Nat}{ops:Array Oper}
theorem frzT_rel{F:Nat->Prop}(R:Rel N base ρ h w){v:AV}{x:T}{val:Value}(hf:frzT h v=some x)(hv:RV ρ w (Free N ρ h) v val)(hF:(refs v=[]/\∀g,Free N ρ h g->F g)\/∀g,F g):∃fp,TR w x val fp/\∀g∈fp,F g:=by
 cases v<;>try (simp[frzT]at hf;done)
 .simp[frzT]at hf;subst hf
  cases hv with
  |t hT hf=>exact⟨_,hT,λg hg=>hF.elim (λh2=>h2.2 g (hf g hg)) λh2=>h2 g⟩
 .rename_i b;simp only[frzT]at hf;split at hf
  .rename_i el sz fr es hb;cases hf;rcases hF with hF|hF
   .simp[refs]at hF
   .cases hv with
    |own hr hone =>
     obtain⟨fp,hT,_,_⟩:=own_TR R hr hb;exact⟨fp,hT,λg _=>hF g⟩
  .rename_i el sz es hb;cases hf;rcases hF with hF|hF
   .simp[refs]at hF
   .cases hv with
    |own hr hone =>
     obtain⟨fp,hT⟩:=Z7g R hr hb;exact⟨fp,hT,λg _=>hF g⟩
  .cases hf
theorem Zyf{F:Nat->Prop}(R:Rel N base ρ h w):∀{cs:List AV} {ts:List T} {vs:List Value},Zf7 h cs=some ts->RVs ρ w (Free N ρ h) cs vs->((Zp cs=[]/\∀g,Free N ρ h g->F g)\/∀g,F g)->∃fp,TRs w ts vs fp/\∀g∈fp,F g
 |[],ts,vs,hg,hv,_=>by simp[Zf7]at hg;subst hg;cases hv;exact⟨[],.nil,λg hg=>by cases hg⟩
 |c::cs,ts,vs,hg,hv,hF=>by
  cases hv with
  |cons h1 h2 =>
   simp only[Zf7]at hg;split at hg
   .rename_i x xs hx hxs;cases hg;obtain⟨fp,h3,h4⟩:=frzT_rel R hx h1 (hF.imp (λ⟨q1,q2⟩=>⟨by simp[Zp]at q1;exact q1.1,q2⟩) id);obtain⟨fq,h5,h6⟩:=Zyf R hxs h2 (hF.imp (λ⟨q1,q2⟩=>⟨by simp[Zp]at q1;exact q1.2,q2⟩) id);exact⟨fp++fq,.cons h3 h5,λg hg=>(Yi.1 hg).elim (h4 g) (h6 g)⟩
   .cases hg
theorem Z7l{F:Nat->Prop}(R:Rel N base ρ h w){v d:AV}{val:Value}(hf:frz1 h v=some d)(hv:RV ρ w (Free N ρ h) v val)(hF:(refs v=[]/\∀g,Free N ρ h g->F g)\/∀g,F g):RV Zdl w F d val:=by
 cases v<;>try (simp[frz1]at hf;done)
 .simp[frz1]at hf;subst hf;cases hv;exact .nilp
 .simp[frz1]at hf;subst hf
  cases hv with
  |t hT hf=>exact .t hT λg hg=>hF.elim (λh2=>h2.2 g (hf g hg)) λh2=>h2 g
 .rename_i cs;simp only[frz1]at hf;split at hf
  .rename_i ds hds;cases hf
   cases hv with
   |agg hc h1 =>
    obtain⟨fp,h3,h4⟩:=Zyf R hds hc (hF.imp (λ⟨q1,q2⟩=>⟨by simpa[refs]using q1,q2⟩) id);exact .agg (RVs.of_TRs h3 h4) h1
  .cases hf
 .rename_i b off;simp only[frz1]at hf;split at hf
  .rename_i cs hb;split at hf
   .rename_i ts hts;cases hf;rcases hF with hF|hF
    .simp[refs]at hF
    .cases hv with
     |ptr hr hv =>
      obtain⟨r',h1,h2⟩:=R.blk b (by rw[hb];intro hc;cases hc);rw[hr]at h1;cases h1;rw[hb]at h2;obtain⟨hx0,g',c,te,hv2,_,hh,hcs,hone⟩:=h2;rw[hv]at hv2;cases hv2;obtain⟨fp,h3,h4⟩:=Zyf R hts hcs (.inr hF);have hl:ts.length=c.toList.length:=h3.length;have:=RV.iptr (ρ:=Zdl) (F:=F) (o:=0) (off:=off) hh (hF _) (by rw[Yj,hl,Ycu];exact h3) (λg _=>hF g);simpa using this
   .cases hf
  .cases hf
 .simp[frz1]at hf;subst hf
  cases hv with
  |iptr hg hF' hc hf=>exact .iptr hg (hF.elim (λh2=>h2.2 _ hF') λh2=>h2 _) hc λg hg=>hF.elim (λh2=>h2.2 g (hf g hg)) λh2=>h2 g
 .rename_i b;simp only[frz1]at hf;split at hf
  .rename_i el sz fr es hb;cases hf;rcases hF with hF|hF
   .simp[refs]at hF
   .cases hv with
    |own hr hone =>
     obtain⟨fp,hT,_,_⟩:=own_TR R hr hb;exact .t hT λg _=>hF g
  .rename_i el sz es hb;cases hf;rcases hF with hF|hF
   .simp[refs]at hF
   .cases hv with
    |own hr hone =>
     obtain⟨fp,hT⟩:=Z7g R hr hb;exact .t hT λg _=>hF g
  .cases hf
theorem Z7m{F:Nat->Prop}(R:Rel N base ρ h w):∀{vs ds:List AV} {vals:List Value},Zg2 h vs=some ds->RVs ρ w (Free N ρ h) vs vals->((Zp vs=[]/\∀g,Free N ρ h g->F g)\/∀g,F g)->RVs Zdl w F ds vals
 |[],ds,vals,hf,hv,_=>by simp[Zg2]at hf;subst hf;cases hv;exact .nil
 |v::vs,ds,vals,hf,hv,hF=>by
  cases hv with
  |cons h1 h2 =>
   simp only[Zg2]at hf;split at hf
   .rename_i x xs hx hxs;cases hf;exact .cons (Z7l R hx h1 (hF.imp (λ⟨q1,q2⟩=>⟨by simp[Zp]at q1;exact q1.1,q2⟩) id)) (Z7m R hxs h2 (hF.imp (λ⟨q1,q2⟩=>⟨by simp[Zp]at q1;exact q1.2,q2⟩) id))
   .cases hf
theorem frz_rel{F:Nat->Prop}(R:Rel N base ρ h w){v d:AV}{val:Value}(hf:frz h v=some d)(hv:RV ρ w (Free N ρ h) v val)(hF:(refs v=[]/\∀g,Free N ρ h g->F g)\/∀g,F g):RV Zdl w F d val:=by
 by_cases hx:∃g cs,v=.fn g cs
 .obtain⟨g,cs,rfl⟩:=hx;simp only[frz]at hf;split at hf
  .rename_i ds hds;cases hf
   cases hv with
   |fn hc=>exact .fn (Z7m R hds hc (hF.imp (λ⟨q1,q2⟩=>⟨by simpa[refs]using q1,q2⟩) id))
  .cases hf
 .have:frz h v=frz1 h v:=by
   cases v<;>first|rfl|exact absurd ⟨_,_,rfl⟩ hx
  rw[this]at hf;exact Z7l R hf hv hF
theorem Zyg{F:Nat->Prop}(R:Rel N base ρ h w){vs ds:List AV}{vals:List Value}(hf:frzs h vs=some ds)(hv:RVs ρ w (Free N ρ h) vs vals)(hF:(Zp vs=[]/\∀g,Free N ρ h g->F g)\/∀g,F g):RVs Zdl w F ds vals:=by
 induction vs generalizing ds vals with
 |nil=>simp[frzs]at hf;subst hf;cases hv;exact .nil
 |cons v vs ih =>
  cases hv with
  |cons h1 h2 =>
   simp only[frzs]at hf;split at hf
   .rename_i x xs hx hxs;cases hf;exact .cons (frz_rel R hx h1 (hF.imp (λ⟨q1,q2⟩=>⟨by simp[Zp]at q1;exact q1.1,q2⟩) id)) (ih hxs h2 (hF.imp (λ⟨q1,q2⟩=>⟨by simp[Zp]at q1;exact q1.2,q2⟩) id))
   .cases hf
theorem Z7n{f:Nat}(hc:Zfi P f=true)(args:Array Value)(w:World):(callFunc f args).run P w=.ok (.enter f args) w:=by
 unfold Zfi at hc;split at hc
 .rename_i fn hfn;simp only[Yf,bne_iff_ne,ne_eq]at hc
  cases hb:fn.body with
  |none=>simp[hb]at hc
  |some c=>simp[callFunc,hfn,hc.2,hb]
 .cases hc
def opR(Γ:Ctr)(h:List Blk)(nx:Nat)(e:Env)(k:MOp)(v:AV)(u:List (Nat×Blk)):Prop:=match k with
 |.call f args=>∃as,frzs h (args.map (ev e))=some as/\∃r hr,Γ f as [] r hr/\(Zhw (args.map (ev e)) || frR r hr)=true/\v=shift nx r/\u=newU nx hr 0
 |.xcall f args=>∃as,frzs h (args.map (ev e))=some as/\∃r hr,Γ f as [] r hr/\frR r hr=true/\v=shift nx r/\u=newU nx (hr.map xB) 0
 |.icall f args=>Zcc Γ f (args.map (ev e)) h nx λv' u'=>v=v'/\u=u'
 |.scall f args p=>Zcc Γ f (args.map (ev e)) h nx λv' u'=>∃u2,Zf8 h u' (ev e p)=some u2/\v=v'/\u=u'++u2
 |.pcall f args=>Zf9 Γ f (args.map (ev e)) h nx λv' u'=>v=v'/\u=u'
 |.dcall f args=>∃g caps,ev e f=.fn g caps/\Zcc Γ g (args.map (ev e)++caps) h nx λv' u'=>v=v'/\u=u'
 |k=>Zn h nx e k=some (v,u)
structure After (N:Par) (base:Nat) (ρ:Map) (h:List Blk) (w:World) (v:AV) (u:List (Nat×Blk)) (val:Value) (w':World) (ρ':Map):Prop where
 val:RV ρ' w' (Free N ρ' (upd h u)) v val
 rel:Rel N base ρ' (upd h u) w'
 keeps:Keeps ρ w (Free N ρ h) ρ' w' (Free N ρ' (upd h u))
 same:∀b,b ∉ u.map Prod.fst->ρ b=none->ρ' b=none
 below:Below base w w'
 kn:∀g,g<w.heap.size->¬N.a g->w'.heap[g]?=w.heap[g]?
def named:MOp->Option (Nat×List Opd)
 |.call f args=>some (f,args)
 |.xcall f args=>some (f,args)
 |.icall f args=>some (f,args)
 |.scall f args _=>some (f,args)
 |.pcall f args=>some (f,args)
 |_=>none
theorem Zly{op:Op}{k:MOp}(hk:Z7 P inl ops op=some k) :
  (∀f args,named k=some (f,args)->∃c,op=.call c/\c.callee=.value (.func f)/\mapO opd c.args.toList=some args/\Zfi P f=true)/\
  (∀x args,k=.dcall x args->∃c y,op=.call c/\c.callee=.value y/\opd y=some x/\mapO opd c.args.toList=some args):=by
 cases op with
 |call c =>
  obtain⟨callee,as,ts⟩:=c
  cases callee with
  |invoke r m=>simp[Z7]at hk
  |builtin b =>
   have:named k=none/\(∀x args,k≠.dcall x args):=by
    cases b<;>simp only[Z7]at hk<;>(repeat' split at hk)<;>first
     |cases hk;done
     |(cases hk;exact⟨rfl,by simp⟩)
     |(obtain⟨_,_,rfl⟩:=Yk.1 hk;exact⟨rfl,by simp⟩)
   exact⟨λf args h=>(by rw[this.1]at h;cases h),λx args h=>absurd h (this.2 x args)⟩
  |value y =>
   cases y with
   |func f =>
    simp only[Z7]at hk;split at hk
    .rename_i hc;obtain⟨as',h1,h2⟩:=Yk.1 hk;have hn:named k=some (f,as')/\∀x args,k≠.dcall x args:=by
      subst h2;unfold callK
      repeat' split
      all_goals exact⟨rfl,by simp⟩
     refine⟨λf' args hq=>?_,λx args hq=>absurd hq (hn.2 x args)⟩;rw[hn.1]at hq;cases hq;exact⟨_,rfl,rfl,h1,hc⟩
    .cases hk
   |tmp t =>
    simp only[Z7]at hk;split at hk
    .rename_i x as' hx has;cases hk;refine⟨by simp[named],?_⟩;intro x' args hq;cases hq;exact⟨_,_,rfl,rfl,hx,has⟩
    .cases hk
   |const v =>
    simp only[Z7]at hk;split at hk
    .rename_i x as' hx has;cases hk;refine⟨by simp[named],?_⟩;intro x' args hq;cases hq;exact⟨_,_,rfl,rfl,hx,has⟩
    .cases hk
   |global g =>
    simp only[Z7]at hk;split at hk
    .rename_i x as' hx has;simp[opd]at hx
    .cases hk
 |makeFunc fn first caps =>
  have:named k=none/\(∀x args,k≠.dcall x args):=by
   cases fn<;>simp only[Z7]at hk<;>(repeat' split at hk)<;>first
    |(cases hk;done)
    |(cases hk;exact⟨rfl,by simp⟩)
    |(obtain⟨_,_,rfl⟩:=Yk.1 hk;exact⟨rfl,by simp⟩)
  exact⟨λf args h=>(by rw[this.1]at h;cases h),λx args h=>absurd h (this.2 x args)⟩
 |slice t x lo hi mx =>
  have:named k=none/\(∀x args,k≠.dcall x args):=by
   cases mx<;>simp only[Z7]at hk<;>(repeat' split at hk)<;>first
    |(cases hk;done)
    |(cases hk;exact⟨rfl,by simp⟩)
    |(obtain⟨_,_,rfl⟩:=Yk.1 hk;exact⟨rfl,by simp⟩)
  exact⟨λf args h=>(by rw[this.1]at h;cases h),λx args h=>absurd h (this.2 x args)⟩
 |_ =>
  have:named k=none/\(∀x args,k≠.dcall x args):=by
   simp only[Z7]at hk<;>(repeat' split at hk)<;>first
    |(cases hk;done)
    |(cases hk;exact⟨rfl,by simp⟩)
    |(obtain⟨_,_,rfl⟩:=Yk.1 hk;exact⟨rfl,by simp⟩)
  exact⟨λf args h=>(by rw[this.1]at h;cases h),λx args h=>absurd h (this.2 x args)⟩
theorem Zo9{o:Oper}{c:Call}{f:Nat}(ho:o.op=.call c)(hc:c.callee=.value (.func f))(hcl:Zfi P f=true)(w:World):(execOp a.eval o).run P w=.ok (.enter f (c.args.map a.eval)) w:=by
 unfold execOp;rw[ho];simp[resolve,hc,Act.eval,Deferred.ofValue,invoke,Z7n hcl]
theorem Zbn5{o:Oper}(R:Rel N base ρ h w){nx f:Nat}{vs as:List AV}{vals:Array Value}(hargs:RVs ρ w (Free N ρ h) vs vals.toList){r:AV}{hr:List Blk}(hu:∀b,b∈(newU nx hr 0).map Prod.fst->nx<=b->ρ b=none)
  (hfz:frzs h vs=some as) (hG:Zbt P f as [] r hr) (hsh:(Zhw vs || frR r hr)=true) (hex:(execOp a.eval o).run P w=.ok (.enter f vals) w)
  {K:Act->World->Prop} {Q:Exit->Act->World->Prop} (hK:∀val w' ρ',After N base ρ h w (shift nx r) (newU nx hr 0) val w' ρ'->K (a.put o.dst val) w'):o.wp P a w K Q:=by
 have hnew:∀b,nx<=b->b<nx+hr.length->ρ b=none:=by
  intro b h1 h2;refine hu b ?_ h1;exact(Zo8 nx hr 0 b).2 (by omega)
 have main:∀A:Nat->Prop,RVs Zdl w A as vals.toList->((∀g,A g->Free N ρ h g)\/frR r hr=true)->o.wp P a w K Q:=by
  intro A hA hs;unfold Oper.wp;rw[hex];show Calls P f vals w _;refine(hG.data w A _ hA).mono ?_;rintro e w' ⟨val,ρc,rfl,hB,hRc,hv,hdom⟩;have J:JoinH N A base ρ h w ρc hr w' nx:=⟨R,hB,hRc,hnew,hdom,hs.imp id λhf=>by simp only[frR,Yf]at hf;exact hf.2⟩;refine hK val w' (Zcz ρ ρc nx hr.length) ⟨J.val hv (hs.imp id λhf=>by simp only[frR,Yf]at hf;exact hf.1),J.rel,J.keeps,?_,hB.mono R.hb,λg hg _=>hB.block g hg⟩;intro b hb hb0;rw[Zo8]at hb;simp only[Zcz];rw[if_neg (by omega)];exact hb0
 simp only[Ydf]at hsh;rcases hsh with hsh|hsh
 .have h0:Zp vs=[]:=by simpa[Zhw]using hsh
  exact main (Free N ρ h) (Zyg R hfz hargs (.inl ⟨h0,λ_ h=>h⟩)) (.inl λ_ h=>h)
 .exact main (λ_=>True) (Zyg R hfz hargs (.inr λ_=>trivial)) (.inr hsh)
def xR(b:Blk)(r:Root):Root:=if Zbh b=true then⟨r.v,[],r.fp⟩else r
def Zc0(ρ ρc:Map)(n:Nat)(hr:List Blk):Map:=λb=>if n<=b/\b<n+hr.length then(ρc (b-n)).map (xR (gt hr (b-n)))else ρ b
theorem gt_mapX(hr:List Blk)(i:Nat):gt (hr.map xB) i=xB (gt hr i):=by
 unfold gt;rw[Ycg];cases hr[i]?<;>rfl
theorem renB_xB(f:Nat->Nat)(b:Blk):renB f (xB b)=xB (renB f b):=by
 cases b with
 |arr e sz fr es=>cases fr<;>rfl
 |_=>rfl
section
variable{A:Nat->Prop}{ρc:Map}{hr:List Blk}{w':World}{n:Nat}
theorem JoinH.xrel(J:JoinH N A base ρ h w ρc hr w' n)(hfr:hr.all frB=true) :
  Rel N base (Zc0 ρ ρc n hr) (upd h (newU n (hr.map xB) 0)) w'/\Keeps ρ w (Free N ρ h) (Zc0 ρ ρc n hr) w' (Free N (Zc0 ρ ρc n hr) (upd h (newU n (hr.map xB) 0))):=by
 have hgt:∀b,gt (upd h (newU n (hr.map xB) 0)) b=if n<=b/\b<n+hr.length then xB (renB (λc=>c+n) (gt hr (b-n)))else gt h b:=by
  intro b;rw[Zh5];simp only[Ybu,Ybf];split
  .rw[gt_mapX,renB_xB]
  .rfl
 have hsplit:∀b r,Zc0 ρ ρc n hr b=some r->gt (upd h (newU n (hr.map xB) 0)) b≠.dead->
   (ρ b=some r/\gt h b≠.dead/\gt (upd h (newU n (hr.map xB) 0)) b=gt h b)\/
   (∃r0,n<=b/\b<n+hr.length/\ρc (b-n)=some r0/\r=xR (gt hr (b-n)) r0/\gt hr (b-n)≠.dead/\gt (upd h (newU n (hr.map xB) 0)) b=xB (renB (λc=>c+n) (gt hr (b-n)))):=by
  intro b r hb hd;rw[hgt]at hd|-;simp only[Zc0]at hb;by_cases hc:n<=b/\b<n+hr.length
  .rw[if_pos hc]at hb hd|-;obtain⟨r0,h1,h2⟩:=Yk.1 hb;exact .inr ⟨r0,hc.1,hc.2,h1,h2.symm,λhx=>hd (by rw[hx];rfl),rfl⟩
  .rw[if_neg hc]at hb hd|-;exact .inl ⟨hb,hd,rfl⟩
 -- the blocks of a new root are new
 have hnew:∀i r0 g,ρc i=some r0->gt hr i≠.dead->Zbm (xR (gt hr i) r0) g->w.heap.size<=g/\(Zbm r0 g\/(Zbh (gt hr i)=true/\g∈r0.fp)):=by
  intro i r0 g h1 h2 h3;unfold xR at h3;by_cases hf:Zbh (gt hr i)=true
  .rw[if_pos hf]at h3;rcases h3 with h3|h3
   .exact⟨(J.Rc.lt h1 h2 (.inl h3)).1,.inl (.inl h3)⟩
   .exact⟨(J.Rc.fresh h1 hf g h3).1,.inr ⟨hf,h3⟩⟩
  .rw[if_neg hf]at h3;exact⟨(J.Rc.lt h1 h2 h3).1,.inl h3⟩
 have hfree:∀g,g<w.heap.size->Free N ρ h g->Free N (Zc0 ρ ρc n hr) (upd h (newU n (hr.map xB) 0)) g:=by
  intro g hlt hg;refine⟨hg.1,λb r hb hd he=>?_⟩;rcases hsplit b r hb hd with⟨h1,h2,_⟩|⟨r0,_,_,h1,h2,h3,_⟩
  .exact hg.2 b r h1 h2 he
  .rw[h2]at he;have:=(hnew _ r0 g h1 h3 he).1;omega
 have hkeep:Keeps ρ w (Free N ρ h) (Zc0 ρ ρc n hr) w' (Free N (Zc0 ρ ρc n hr) (upd h (newU n (hr.map xB) 0))):=by
  refine⟨λb r hb=>⟨r,?_,rfl⟩,λg hlt hg=>⟨hfree g hlt hg,J.B.block g hlt⟩⟩;simp only[Zc0];rw[if_neg λhc=>by rw[J.new b hc.1 hc.2]at hb;cases hb];exact hb
 have hroot:∀c r0,ρc c=some r0->∃r1,Zc0 ρ ρc n hr (c+n)=some r1/\r1.v=r0.v:=by
  intro c r0 hc;have hlt:c<hr.length:=by
   rcases Ycd c hr.length with q|q
   .exact q
   .rw[J.dom c q]at hc;cases hc
  refine⟨xR (gt hr c) r0,?_,?_⟩
  .simp only[Zc0];rw[if_pos (by omega),Ydv,hc];rfl
  .unfold xR;split<;>rfl
 refine⟨⟨Yo J.R.hb J.B.size,λg hl=>J.R.hN g (Yo J.B.size hl),?_,?_,?_,?_⟩,hkeep⟩
 .intro b r g hb hd hg;rcases hsplit b r hb hd with⟨h1,h2,_⟩|⟨r0,_,_,h1,h2,h3,_⟩
  .exact J.R.hO b r g h1 h2 hg
  .rw[h2]at hg;exact J.R.hN g (hnew _ r0 g h1 h3 hg).1
 .intro b hd;have hd0:=hd;rw[hgt]at hd;by_cases hc:n<=b/\b<n+hr.length
  .rw[if_pos hc]at hd;obtain⟨r0,h1,h2⟩:=J.Rc.blk (b-n) λhx=>hd (by rw[hx];rfl)
   refine⟨xR (gt hr (b-n)) r0,by simp only[Zc0];rw[if_pos hc,h1];rfl,?_⟩;rw[hgt,if_pos hc]
   cases hx:gt hr (b-n)with
   |dead=>trivial
   |box cs =>
    rw[hx]at h2;obtain⟨h0,g,c,e,h3,h4,h5,h6,h7⟩:=h2
    exact⟨h0,g,c,e,h3,Yo J.R.hb h4,h5,h6.scalX _ (λc _ r hr'=>hroot c r hr') (Z7k hfr hx),h7⟩
   |arr e sz fr es =>
    have hft:fr=true:=Zye hfr hx;subst hft;rw[hx]at h2;obtain⟨h0,e',xs,he',h3,h4,h5,h6,h7,h8,h9⟩:=h2
    exact⟨e',xs,he',Zji J.R.hb h3,h4,h5,h6,(h9 rfl).mono J.R.hb,(h8 rfl).1,λg hg hv=>(h7 g hg).2 (b-n) r0 h1 (by rw[hx];intro hc;cases hc) (.inl hv)⟩
   |xarr e sz es =>
    rw[hx]at h2;obtain⟨e',xs,he',h3,h4,h5,h6,h7,rest⟩:=h2
    exact⟨e',xs,he',Zji J.R.hb h3,h4,h5,h6,h7.mono J.R.hb,rest⟩
   |det e sz es i off c =>
    rw[hx]at h2;obtain⟨e',xs,rb,fa,fc,he,ho,hsz,hl,hrb,hcell,q1,q2,hex,hA,hC,oA,oC,rest⟩:=h2;obtain⟨r1,k1,k2⟩:=hroot c rb hrb;exact⟨e',xs,r1,fa,fc,he,Zji J.R.hb ho,hsz,hl,k1,by rw[k2];exact hcell,q1,q2,hex,hA,hC,oA.mono J.R.hb,oC.mono J.R.hb,rest⟩
  .rw[if_neg hc]at hd;obtain⟨r,h1,h2⟩:=J.R.blk b hd;refine⟨r,by simp only[Zc0];rw[if_neg hc];exact h1,?_⟩;rw[hgt,if_neg hc];exact h2.keep hkeep λg hg=>J.B.block g (h2.lt hd hg).2
 .intro b b' r r' g hb hb' hd hd' hg hg';rcases hsplit b r hb hd with⟨h1,h2,_⟩|⟨r0,z1,z2,h1,h2,h3,_⟩<;>rcases hsplit b' r' hb' hd' with⟨h4,h5,_⟩|⟨r1,z3,z4,h4,h5,h6,_⟩
  .exact J.R.inj b b' r r' g h1 h4 h2 h5 hg hg'
  .rw[h5]at hg';have q1:=(J.R.lt h1 h2 hg).2;have q2:=(hnew _ r1 g h4 h6 hg').1;omega
  .rw[h2]at hg;have q1:=(J.R.lt h4 h5 hg').2;have q2:=(hnew _ r0 g h1 h3 hg).1;omega
  .rw[h2]at hg;rw[h5]at hg';have key:b-n=b'-n:=by
    rcases(hnew _ r0 g h1 h3 hg).2 with q|⟨q,q'⟩<;>rcases(hnew _ r1 g h4 h6 hg').2 with p|⟨p,p'⟩
    .exact J.Rc.inj _ _ r0 r1 g h1 h4 h3 h6 q p
    .exact absurd q ((J.Rc.fresh h4 p g p').2.1.2 _ r0 h1 h3)
    .exact absurd p ((J.Rc.fresh h1 q g q').2.1.2 _ r1 h4 h6)
    .exact J.Rc.apart _ _ r0 r1 g h1 h4 q p q' p'
   omega
 .intro b b' r r' g hb hb' hf hf' hg hg';have nofr:∀b r,Zc0 ρ ρc n hr b=some r->Zbh (gt (upd h (newU n (hr.map xB) 0)) b)=true->ρ b=some r/\Zbh (gt h b)=true:=by
   intro b r hb hf;rcases hsplit b r hb (Zcy hf)with⟨h1,h2,e1⟩|⟨r0,_,_,h1,h2,h3,e1⟩
   .rw[e1]at hf;exact⟨h1,hf⟩
   .exfalso;rw[e1]at hf
    cases hx:gt hr (b-n)with
    |arr e sz fr es =>
     have hft:fr=true:=Zye hfr hx;subst hft
     rw[hx]at hf;cases hf
    |_=>rw[hx]at hf;cases hf
  obtain⟨h1,h2⟩:=nofr b r hb hf;obtain⟨h3,h4⟩:=nofr b' r' hb' hf';exact J.R.apart b b' r r' g h1 h3 h2 h4 hg hg'
end
theorem Zbn6{o:Oper}(R:Rel N base ρ h w){nx f:Nat}{vs as:List AV}{vals:Array Value}(hargs:RVs ρ w (Free N ρ h) vs vals.toList){r:AV}{hr:List Blk}(hu:∀b,b∈(newU nx (hr.map xB) 0).map Prod.fst->nx<=b->ρ b=none)
  (hfz:frzs h vs=some as) (hG:Zbt P f as [] r hr) (hsh:frR r hr=true) (hex:(execOp a.eval o).run P w=.ok (.enter f vals) w)
  {K:Act->World->Prop} {Q:Exit->Act->World->Prop} (hK:∀val w' ρ',After N base ρ h w (shift nx r) (newU nx (hr.map xB) 0) val w' ρ'->K (a.put o.dst val) w'):o.wp P a w K Q:=by
 have hnew:∀b,nx<=b->b<nx+hr.length->ρ b=none:=by
  intro b h1 h2;refine hu b ?_ h1;exact(Zo8 nx (hr.map xB) 0 b).2 (by simp;omega)
 unfold Oper.wp;rw[hex];show Calls P f vals w _;refine(hG.data w (λ_=>True) _ (Zyg R hfz hargs (.inr λ_=>trivial))).mono ?_;rintro e w' ⟨val,ρc,rfl,hB,hRc,hv,hdom⟩;simp only[frR,Yf]at hsh;have J:JoinH N (λ_=>True) base ρ h w ρc hr w' nx:=⟨R,hB,hRc,hnew,hdom,.inr hsh.2⟩;obtain⟨h1,h2⟩:=J.xrel hsh.2;refine hK val w' (Zc0 ρ ρc nx hr) ⟨?_,h1,h2,?_,hB.mono R.hb,λg hg _=>hB.block g hg⟩
 .refine hv.scalX _ (λc _ r0 hc=>?_) hsh.1;have hlt:c<hr.length:=by
   rcases Ycd c hr.length with q|q
   .exact q
   .rw[hdom c q]at hc;cases hc
  refine⟨xR (gt hr c) r0,?_,?_⟩
  .simp only[Zc0];rw[if_pos (by omega),Ydv,hc];rfl
  .unfold xR;split<;>rfl
 .intro b hb hb0;rw[Zo8]at hb;simp only[Zc0];rw[if_neg (by simp at hb;omega)];exact hb0
end
open Go.RowKit (Below)
section
variable{P:Program}{N:Par}{base:Nat}{ρ:Map}{h:List Blk}{w:World}{e:Env}{a:Act}{inl:List Nat}{ops:Array Oper}
theorem RV.root{F:Nat->Prop}{x:AV}{v:Value}(hv:RV ρ w F x v):∀b∈refs x,∃r,ρ b=some r:=by
 refine RV.rec (motive_1:=λx v _=>∀b∈refs x,∃r,ρ b=some r) (motive_2:=λxs vs _=>∀b∈Zp xs,∃r,ρ b=some r) ?_ ?_ ?_ ?_ ?_ ?_ ?_ ?_ ?_ ?_ ?_ ?_ ?_ hv
 .intro v b hb;cases hb
 .intro b hb;cases hb
 .intro x v fp _ _ b hb;cases hb
 .intro cs c _ _ ih;simpa[refs]using ih
 .intro cs c _ ih;simpa[refs]using ih
 .intro b off g r hr _ c hc;simp[refs]at hc;subst hc;exact⟨r,hr⟩
 .intro b i sz off g n cap r hr _ c hc;simp[refs]at hc;subst hc;exact⟨r,hr⟩
 .intro cs off g o c e fz fp _ _ _ _ b hb;cases hb
 .intro b r hr _ c hc;simp[refs]at hc;subst hc;exact⟨r,hr⟩
 .intro b n g r hr _ c hc;simp[refs]at hc;subst hc;exact⟨r,hr⟩
 .intro f cs c _ ih;simpa[refs]using ih
 .intro b hb;cases hb
 .intro x v xs vs _ _ ih1 ih2 b hb;simp only[Zp,Yi]at hb;exact hb.elim (ih1 b) (ih2 b)
theorem RVs.root{F:Nat->Prop}{xs:List AV}{vs:List Value}(hv:RVs ρ w F xs vs):∀b∈Zp xs,∃r,ρ b=some r:=by
 induction xs generalizing vs with
 |nil=>intro b hb;cases hb
 |cons x xs ih =>
  cases hv with
  |cons h1 h2 =>
   intro b hb;simp only[Zp,Yi]at hb;exact hb.elim (h1.root b) (ih h2 b)
theorem Zyh{p:Nat->Prop}(hc:∀b,p b->∀c∈Zb5 (gt h b),p c):∀(n:Nat) (todo acc:List Nat),(∀b∈todo,p b)->(∀b∈acc,p b)->∀b∈Zbd h n todo acc,p b
 |0,_,_,_,ha,b,hb=>ha b (by simpa[Zbd]using hb)
 |n+1,[],acc,_,ha,b,hb=>ha b (by simpa[Zbd]using hb)
 |n+1,c::todo,acc,ht,ha,b,hb=>by
  simp only[Zbd]at hb;split at hb
  .exact Zyh hc n todo acc (λb hb=>ht b (by simp[hb])) ha b hb
  .refine Zyh hc n _ _ (λb hb=>?_) (λb hb=>?_) b hb
   .rcases Yi.1 hb with hb|hb
    .exact hc c (ht c (by simp)) b hb
    .exact ht b (by simp[hb])
   .rcases Yi.1 hb with hb|hb
    .exact ha b hb
    .simp at hb;subst hb;exact ht b (by simp)
theorem Rel.refs_root(R:Rel N base ρ h w)(b:Nat):∀c∈Zb5 (gt h b),∃r,ρ c=some r:=by
 intro c hc
 cases hx:gt h b with
 |dead=>rw[hx]at hc;cases hc
 |arr e sz fr es=>rw[hx]at hc;cases hc
 |xarr e sz es=>rw[hx]at hc;cases hc
 |det e sz es i off b' =>
  obtain⟨r,h1,h2⟩:=R.blk b (by rw[hx];intro hc;cases hc);rw[hx]at h2 hc;obtain⟨_,_,rb,_,_,_,_,_,_,hrb,_⟩:=h2;simp[Zb5]at hc;subst hc
  exact⟨rb,hrb⟩
 |box cs =>
  obtain⟨r,h1,h2⟩:=R.blk b (by rw[hx];intro hc;cases hc);rw[hx]at h2 hc;obtain⟨_,g,c',e',_,_,_,h6,_⟩:=h2;exact h6.root c hc
theorem Z7o(R:Rel N base ρ h w){vs:List AV}{vals:List Value}(hv:RVs ρ w (Free N ρ h) vs vals):∀b∈Zu h vs,∃r,ρ b=some r :=
 Zyh (p:=λb=>∃r,ρ b=some r) (λb _ c hc=>R.refs_root b c hc) 200 (Zp vs) [] (λb hb=>hv.root b hb) (λb hb=>by cases hb)
theorem idx_at{ids:List Nat}(hnd:ids.Nodup){i b:Nat}(hi:ids[i]?=some b):idx b ids 0=i:=by
 obtain⟨j,h1,h2⟩:=Z7j (Yz hi) 0;rw[Ys]at h1;rw[h1];obtain⟨q1,q2⟩:=Yy.1 hi;obtain⟨q3,q4⟩:=Yy.1 h2;rcases Ydj j i with hlt|rfl|hlt
 .exact absurd (q4.trans q2.symm) (Yb6.1 hnd j i q3 q1 hlt)
 .rfl
 .exact absurd (q2.trans q4.symm) (Yb6.1 hnd i j q1 q3 hlt)
theorem Zgb{ids:List Nat}{nx i b:Nat}(hi:ids[i]?=some b):bk ids nx i=b:=by simp[bk,hi]
theorem Zh6{ids:List Nat}{nx i:Nat}(hi:ids.length<=i):bk ids nx i=nx+(i-ids.length):=by simp[bk,Ybt hi]
theorem bk_inj{ids:List Nat}(hnd:ids.Nodup){nx m:Nat}(hn:∀j,j<m-ids.length->nx+j ∉ ids){i j:Nat}(hi:i<m)(hj:j<m)(he:bk ids nx i=bk ids nx j):i=j:=by
 rcases Ycd i ids.length with h1|h1<;>rcases Ycd j ids.length with h2|h2
 .have e1:ids[i]?=some ids[i]:=by simp[h1]
  have e2:ids[j]?=some ids[j]:=by simp[h2]
  rw[Zgb e1,Zgb e2]at he;rw[<-idx_at hnd e1,<-idx_at hnd e2,he]
 .have e1:ids[i]?=some ids[i]:=by simp[h1]
  rw[Zgb e1,Zh6 h2]at he;exact absurd (he▸Yz e1) (hn _ (by omega))
 .have e2:ids[j]?=some ids[j]:=by simp[h2]
  rw[Zgb e2,Zh6 h1]at he;exact absurd (he.symm▸Yz e2) (hn _ (by omega))
 .rw[Zh6 h1,Zh6 h2]at he;omega
theorem Zlz(ids:List Nat)(nx:Nat):∀(bs:List Blk) (i b:Nat),b∈(Zbq ids nx bs i).map Prod.fst↔∃j,i<=j/\j<i+bs.length/\bk ids nx j=b
 |[],i,b=>by simp[Zbq];intro j h1 h2;omega
 |x::bs,i,b=>by
  simp only[Zbq,Yv,Yt,Zlz ids nx bs (i+1),Yr];constructor
  .rintro(rfl|⟨j,h1,h2,h3⟩)
   .exact⟨i,Yc _,by omega,rfl⟩
   .exact⟨j,by omega,by omega,h3⟩
  .rintro⟨j,h1,h2,h3⟩;by_cases hj:j=i
   .subst hj;exact .inl h3.symm
   .exact .inr ⟨j,by omega,by omega,h3⟩
theorem Zta(ids:List Nat)(nx:Nat):∀(bs:List Blk) (i:Nat) (h:List Blk) (b:Nat),(∀j,i<=j->j<i+bs.length->bk ids nx j≠b)->gt (upd h (Zbq ids nx bs i)) b=gt h b
 |[],i,h,b,_=>rfl
 |x::bs,i,h,b,hb=>by
  simp only[Zbq,upd];rw[Zta ids nx bs (i+1) _ b (λj h1 h2=>hb j (by omega) (by simp;omega)),Zcu,if_neg λhe=>hb i (Yc _) (by simp) he.symm]
theorem Zyi(ids:List Nat)(nx:Nat):∀(bs:List Blk) (i:Nat) (h:List Blk),(∀j k,i<=j->j<i+bs.length->i<=k->k<i+bs.length->bk ids nx j=bk ids nx k->j=k)->∀j,i<=j->j<i+bs.length->
  gt (upd h (Zbq ids nx bs i)) (bk ids nx j)=renB (bk ids nx) (gt bs (j-i))
 |[],i,h,_,j,h1,h2=>by simp at h2;omega
 |x::bs,i,h,hinj,j,h1,h2=>by
  simp only[Yr]at h2 hinj;simp only[Zbq,upd];by_cases hj:j=i
  .subst hj;rw[Zta ids nx bs (j+1) _ _ (λk h3 h4 he=>by have:=hinj k j (by omega) (by omega) (by omega) (by omega) he;omega),Zcu,if_pos rfl];simp[gt]
  .rw[Zyi ids nx bs (i+1) _ (λj k q1 q2 q3 q4=>hinj j k (by omega) (by omega) (by omega) (by omega)) j (by omega) (by omega)];have:j-i=(j-(i+1))+1:=by omega
   rw[this];simp[gt]
open Classical in
noncomputable def Zer(ρ ρ1:Map)(ids:List Nat)(nx m:Nat):Map:=λb=>if hx:∃i,i<m/\bk ids nx i=b then ρ1 hx.choose else ρ b
theorem Zyj{ρ1:Map}{ids:List Nat}{nx m:Nat}(hinj:∀i j,i<m->j<m->bk ids nx i=bk ids nx j->i=j){i:Nat}(hi:i<m):Zer ρ ρ1 ids nx m (bk ids nx i)=ρ1 i:=by
 have hx:∃j,j<m/\bk ids nx j=bk ids nx i:=⟨i,hi,rfl⟩;unfold Zer;rw[dif_pos hx,hinj _ _ hx.choose_spec.1 hi hx.choose_spec.2]
theorem Z7p{ρ1:Map}{ids:List Nat}{nx m b:Nat}(hb:∀i,i<m->bk ids nx i≠b):Zer ρ ρ1 ids nx m b=ρ b:=by
 unfold Zer;rw[dif_neg λ⟨i,h1,h2⟩=>hb i h1 h2]
def subP(N:Par)(ρ:Map)(h:List Blk)(w:World)(ids:List Nat):Par :=
 ⟨λg=>N.a g/\∀b r,b ∉ ids->ρ b=some r->gt h b≠.dead->¬Zbm r g,
  λg=>w.heap.size<=g\/∃b∈ids,∃r,ρ b=some r/\gt h b≠.dead/\(Zbm r g\/Zbh (gt h b)=true/\g∈r.fp),Free N ρ h⟩
theorem Rel.sub(R:Rel N base ρ h w){ids:List Nat}(hnd:ids.Nodup)(hcl:∀b∈ids,∀c∈Zb5 (gt h b),c∈ids):Rel (subP N ρ h w ids) base (renM ρ ids) (subH h ids) w:=by
 refine R.renN hnd hcl ?_ ?_ ?_ ?_
 .intro g hg;refine⟨⟨(R.hN g hg).1,λb r _ hr hd he=>?_⟩,.inl hg⟩;have:=(R.lt hr hd he).2;omega
 .intro b hb r g hr hd hg;refine⟨⟨(R.hO b r g hr hd hg).1,λc rc hc hrc hdc he=>?_⟩,.inr ⟨b,hb,r,hr,hd,.inl hg⟩⟩;exact hc (R.inj b c r rc g hr hrc hd hdc hg he▸hb)
 .exact λg hg=>⟨hg.1,λb r _=>hg.2 b r⟩
 .intro b hb r hr hf g hg;exact .inr ⟨b,hb,r,hr,Zcy hf,.inr ⟨hf,hg⟩⟩
structure BackH (N:Par) (base:Nat) (ρ:Map) (h:List Blk) (w:World) (ids:List Nat) (nx:Nat) (ρ1:Map) (h1:List Blk) (w':World):Prop where
 R:Rel N base ρ h w
 nd:ids.Nodup
 root:∀b∈ids,∃r,ρ b=some r
 len:ids.length<=h1.length
 new:∀j,j<h1.length-ids.length->ρ (nx+j)=none
 R1:Rel (subP N ρ h w ids) base ρ1 h1 w'
 B:Below base w w'
 dom:∀b,h1.length<=b->ρ1 b=none
 kn:∀g,g<w.heap.size->¬(subP N ρ h w ids).a g->w'.heap[g]?=w.heap[g]?
 fz:∀g,g<w.heap.size->Free N ρ h g->Free (subP N ρ h w ids) ρ1 h1 g/\w'.heap[g]?=w.heap[g]?
 rt:∀b r0,b<ids.length->renM ρ ids b=some r0->∃r1,ρ1 b=some r1/\r1.v=r0.v
section
variable{ids:List Nat}{nx:Nat}{ρ1:Map}{h1:List Blk}{w':World}
theorem BackH.inj(J:BackH N base ρ h w ids nx ρ1 h1 w'):∀i j,i<h1.length->j<h1.length->bk ids nx i=bk ids nx j->i=j:=by
 intro i j hi hj he;refine bk_inj J.nd (m:=h1.length) (λk hk hm=>?_) hi hj he;obtain⟨r,hr⟩:=J.root _ hm;rw[J.new k hk]at hr;cases hr
theorem BackH.split(J:BackH N base ρ h w ids nx ρ1 h1 w')(b:Nat) :
  (∃i,i<h1.length/\bk ids nx i=b/\Zer ρ ρ1 ids nx h1.length b=ρ1 i/\gt (upd h (Zbq ids nx h1 0)) b=renB (bk ids nx) (gt h1 i))\/
  (b ∉ ids/\(∀i,i<h1.length->bk ids nx i≠b)/\Zer ρ ρ1 ids nx h1.length b=ρ b/\gt (upd h (Zbq ids nx h1 0)) b=gt h b):=by
 by_cases hx:∃i,i<h1.length/\bk ids nx i=b
 .obtain⟨i,hi,rfl⟩:=hx;refine .inl ⟨i,hi,rfl,Zyj J.inj hi,?_⟩;have:=Zyi ids nx h1 0 h (λj k _ h2 _ h4=>J.inj j k (by omega) (by omega)) i (Yb _) (by omega);simpa using this
 .have hn:∀i,i<h1.length->bk ids nx i≠b:=λi hi he=>hx ⟨i,hi,he⟩
  refine .inr ⟨λhm=>?_,hn,Z7p hn,Zta ids nx h1 0 h b λj _ h2=>hn j (by omega)⟩;obtain⟨i,hi⟩:=Yea hm;have hl:=(Yy.1 hi).1;exact hn i (by have:=J.len;omega) (Zgb hi)
theorem BackH.free(J:BackH N base ρ h w ids nx ρ1 h1 w'){g:Nat}(hg:Free (subP N ρ h w ids) ρ1 h1 g):Free N (Zer ρ ρ1 ids nx h1.length) (upd h (Zbq ids nx h1 0)) g:=by
 refine⟨hg.1.1,?_⟩;intro b r hb hd he;rcases J.split b with⟨i,hi,rfl,e1,e2⟩|⟨hm,_,e1,e2⟩
 .rw[e1]at hb;rw[e2]at hd;exact hg.2 i r hb (λhc=>hd (by rw[hc];rfl)) he
 .rw[e1]at hb;rw[e2]at hd;exact hg.1.2 b r hm hb hd he
theorem BackH.keeps(J:BackH N base ρ h w ids nx ρ1 h1 w'):Keeps ρ w (Free N ρ h) (Zer ρ ρ1 ids nx h1.length) w' (Free N (Zer ρ ρ1 ids nx h1.length) (upd h (Zbq ids nx h1 0))):=by
 constructor
 .intro b r hb;rcases J.split b with⟨i,hi,rfl,e1,_⟩|⟨hm,_,e1,_⟩
  .rw[e1];rcases Ycd i ids.length with hl|hl
   .have ei:ids[i]?=some ids[i]:=by simp[hl]
    rw[Zgb ei]at hb;exact J.rt i r hl (by simp[renM,ei,hb])
   .rw[Zh6 hl,J.new _ (by omega)]at hb;cases hb
  .exact⟨r,by rw[e1];exact hb,rfl⟩
 .intro g hl hf;obtain⟨q1,q2⟩:=J.fz g hl hf;exact⟨J.free q1,q2⟩
theorem BackH.rel(J:BackH N base ρ h w ids nx ρ1 h1 w'):Rel N base (Zer ρ ρ1 ids nx h1.length) (upd h (Zbq ids nx h1 0)) w':=by
 have hk:=J.keeps;have hroot:∀c r,ρ1 c=some r->Zer ρ ρ1 ids nx h1.length (bk ids nx c)=some r:=by
  intro c r hc;have hl:c<h1.length:=by
   rcases Ycd c h1.length with q|q
   .exact q
   .rw[J.dom c q]at hc;cases hc
  rw[Zyj J.inj hl];exact hc
 have hf1:∀g,(subP N ρ h w ids).f g->N.f g:=by
  rintro g (hg|⟨b,hb,r,hr,hd,hg|⟨hf,hg⟩⟩)
  .exact(J.R.hN g hg).2
  .exact(J.R.hO b r g hr hd hg).2
  .exact(J.R.fresh hr hf g hg).1
 refine⟨Yo J.R.hb J.B.size,λg hl=>J.R.hN g (Yo J.B.size hl),?_,?_,?_,?_⟩
 .intro b r g hb hd hg;rcases J.split b with⟨i,hi,rfl,e1,e2⟩|⟨hm,_,e1,e2⟩
  .rw[e1]at hb;rw[e2]at hd;have:=J.R1.hO i r g hb (λhc=>hd (by rw[hc];rfl)) hg;exact⟨this.1.1,hf1 g this.2⟩
  .rw[e1]at hb;rw[e2]at hd;exact J.R.hO b r g hb hd hg
 .intro b hd;rcases J.split b with⟨i,hi,rfl,e1,e2⟩|⟨hm,_,e1,e2⟩
  .rw[e2]at hd|-;rw[e1];obtain⟨r,q1,q2⟩:=J.R1.blk i λhc=>hd (by rw[hc];rfl)
   refine⟨r,q1,?_⟩
   cases hx:gt h1 i with
   |dead=>trivial
   |box cs =>
    rw[hx]at q2;obtain⟨h0,g,c,e',h3,h4,h5,h6,h7⟩:=q2
    exact⟨h0,g,c,e',h3,h4,h5,h6.ren _ (λc _ r hr=>hroot c r hr) λg _ hg=>J.free hg,h7⟩
   |arr e' sz fr es =>
    rw[hx]at q2;obtain⟨h0,e',xs,he',h3,h4,h5,h6,h7,h8,h9⟩:=q2
    exact⟨h0,e',xs,he',h3,h4,h5,h6,λg hg=>J.free (h7 g hg),λhf=>⟨(h8 hf).1,λg hg=>hf1 g ((h8 hf).2 g hg)⟩,h9⟩
   |det e' sz es i' off c =>
    rw[hx]at q2;obtain⟨e',xs,rb,fa,fc,he,ho,hsz,hl,hrb,rest⟩:=q2
    exact⟨e',xs,rb,fa,fc,he,ho,hsz,hl,hroot c rb hrb,rest⟩
   |xarr e' sz es=>rw[hx]at q2;exact q2
  .rw[e2]at hd|-;rw[e1];obtain⟨r,q1,q2⟩:=J.R.blk b hd;exact⟨r,q1,q2.keep hk λg hg=>J.kn g (q2.lt hd hg).2 λhc=>hc.2 b r hm q1 hd hg⟩
 .intro b b' r r' g hb hb' hd hd' hg hg';rcases J.split b with⟨i,hi,rfl,e1,e2⟩|⟨hm,_,e1,e2⟩<;>rcases J.split b' with⟨j,hj,rfl,e3,e4⟩|⟨hm',_,e3,e4⟩
  .rw[e1]at hb;rw[e2]at hd;rw[e3]at hb';rw[e4]at hd';rw[J.R1.inj i j r r' g hb hb' (λhc=>hd (by rw[hc];rfl)) (λhc=>hd' (by rw[hc];rfl)) hg hg']
  .rw[e1]at hb;rw[e2]at hd;rw[e3]at hb';rw[e4]at hd';have:=J.R1.hO i r g hb (λhc=>hd (by rw[hc];rfl)) hg;exact absurd hg' (this.1.2 b' r' hm' hb' hd')
  .rw[e1]at hb;rw[e2]at hd;rw[e3]at hb';rw[e4]at hd';have:=J.R1.hO j r' g hb' (λhc=>hd' (by rw[hc];rfl)) hg';exact absurd hg (this.1.2 b r hm hb hd)
  .rw[e1]at hb;rw[e2]at hd;rw[e3]at hb';rw[e4]at hd';exact J.R.inj b b' r r' g hb hb' hd hd' hg hg'
 .intro b b' r r' g hb hb' hf hf' hg hg';have mixed:∀i r b' r',ρ1 i=some r->Zbh (gt h1 i)=true->b' ∉ ids->ρ b'=some r'->Zbh (gt h b')=true->g∈r.fp->g∈r'.fp->False:=by
   intro i r b' r' hb hf hm hb' hf' hg hg';have q1:=(J.R1.fresh hb hf g hg).1;obtain⟨_,q2,q3⟩:=J.R.fresh hb' hf' g hg';rcases q1 with q1|⟨c,hc,rc,h3,h4,h5|⟨h5,h6⟩⟩
   .omega
   .exact q2.2 c rc h3 h4 h5
   .exact hm (J.R.apart c b' rc r' g h3 hb' h5 hf' h6 hg'▸hc)
  rcases J.split b with⟨i,hi,rfl,e1,e2⟩|⟨hm,_,e1,e2⟩<;>rcases J.split b' with⟨j,hj,rfl,e3,e4⟩|⟨hm',_,e3,e4⟩
  .rw[e1]at hb;rw[e2,Zga]at hf;rw[e3]at hb';rw[e4,Zga]at hf';rw[J.R1.apart i j r r' g hb hb' hf hf' hg hg']
  .rw[e1]at hb;rw[e2,Zga]at hf;rw[e3]at hb';rw[e4]at hf';exact(mixed i r b' r' hb hf hm' hb' hf' hg hg').elim
  .rw[e1]at hb;rw[e2]at hf;rw[e3]at hb';rw[e4,Zga]at hf';exact(mixed j r' b r hb' hf' hm hb hf hg' hg).elim
  .rw[e1]at hb;rw[e2]at hf;rw[e3]at hb';rw[e4]at hf';exact J.R.apart b b' r r' g hb hb' hf hf' hg hg'
theorem BackH.after(J:BackH N base ρ h w ids nx ρ1 h1 w'){r:AV}{v:Value}(hv:RV ρ1 w' (Free (subP N ρ h w ids) ρ1 h1) r v) :
  After N base ρ h w (ren (bk ids nx) r) (Zbq ids nx h1 0) v w' (Zer ρ ρ1 ids nx h1.length):=by
 refine⟨hv.ren _ (λb _ r hr=>?_) λg _ hg=>J.free hg,J.rel,J.keeps,?_,J.B,λg hl hn=>J.kn g hl λhc=>hn hc.1⟩
 .have hl:b<h1.length:=by
   rcases Ycd b h1.length with q|q
   .exact q
   .rw[J.dom b q]at hr;cases hr
  rw[Zyj J.inj hl];exact hr
 .intro b hb hb0;rw[Zlz]at hb;rw[Z7p λi hi he=>hb ⟨i,Yb _,by omega,he⟩];exact hb0
end
theorem Ztb{o:Oper}(R:Rel N base ρ h w){nx f:Nat}{vs:List AV}{vals:Array Value}(hargs:RVs ρ w (Free N ρ h) vs vals.toList){r:AV}{h1:List Blk}
  (hu:∀j,(Zu h vs).length<=j->j<h1.length->ρ (nx+(j-(Zu h vs).length))=none) (hcl:Zdx h (Zu h vs) (Zp vs)=true) (hG:Zbt P f (subA (Zu h vs) vs) (subH h (Zu h vs)) r h1)
  (hex:(execOp a.eval o).run P w=.ok (.enter f vals) w) {K:Act->World->Prop} {Q:Exit->Act->World->Prop}
  (hK:∀val w' ρ',After N base ρ h w (ren (bk (Zu h vs) nx) r) (Zbq (Zu h vs) nx h1 0) val w' ρ'->K (a.put o.dst val) w'):o.wp P a w K Q:=by
 obtain⟨hin,hcl2⟩:=Zs9 hcl;have hnd:(Zu h vs).Nodup:=Zs7 _ _ _ Ybi;have hroot:=Z7o R hargs;generalize Zu h vs=ids at *
 unfold Oper.wp;rw[hex];show Calls P f vals w _;have hF:∀g,Free N ρ h g->Free (subP N ρ h w ids) (renM ρ ids) (subH h ids) g:=λg hg=>Zs8 hg ⟨hg.1,λb r _=>hg.2 b r⟩
 refine(hG.2 (subP N ρ h w ids) base w (renM ρ ids) vals (R.sub hnd hcl2) (λb hb=>Zyd (by simpa[subH]using hb))
  (hargs.ren _ (λb hb r hr=>by rw[Zlw (hin b hb)];exact hr) λg _ hg=>hF g hg) hF).mono ?_
 rintro e w' ⟨v,ρ1,rfl,hB,hR1,hv,hdom,hlen,hkn,hfz,hrt⟩;have hl:(subH h ids).length=ids.length:=by simp[subH]
 rw[hl]at hlen hrt
 have J:BackH N base ρ h w ids nx ρ1 h1 w':=⟨R,hnd,hroot,hlen,λj hj=>by
  have:=hu (j+ids.length) (by omega) (by omega)
  rwa [Ydv]at this,hR1,hB,hdom,hkn,hfz,hrt⟩
 exact hK v w' _ (J.after hv)
theorem Free.congr{h':List Blk}(hg:∀b,gt h b=gt h' b):Free N ρ h=Free N ρ h':=by
 funext g;unfold Free;simp only[hg]
theorem Rel.congr{h':List Blk}(hg:∀b,gt h b=gt h' b)(R:Rel N base ρ h w):Rel N base ρ h' w:=by
 have hF:=Free.congr (N:=N) (ρ:=ρ) hg;refine⟨R.hb,R.hN,?_,?_,?_,?_⟩
 .intro b r g hr hd;rw[<-hg]at hd;exact R.hO b r g hr hd
 .intro b hb;rw[<-hg]at hb;obtain⟨r,h1,h2⟩:=R.blk b hb;exact⟨r,h1,by rw[<-hg,<-hF];exact h2⟩
 .intro b b' r r' g h1 h2 h3 h4;rw[<-hg]at h3 h4;exact R.inj b b' r r' g h1 h2 h3 h4
 .intro b b' r r' g h1 h2 h3 h4;rw[<-hg]at h3 h4;exact R.apart b b' r r' g h1 h2 h3 h4
theorem ren_back{f g:Nat->Nat}:∀(v:AV),(∀c∈refs v,g (f c)=c)->ren g (ren f v)=v:=by
 intro v;refine AV.rec (motive_1:=λv=>(∀c∈refs v,g (f c)=c)->ren g (ren f v)=v) (motive_2:=λvs=>(∀c∈Zp vs,g (f c)=c)->rens g (rens f vs)=vs) ?_ ?_ ?_ ?_ ?_ ?_ ?_ ?_ ?_ ?_ ?_ ?_ ?_ v
 .intro _;rfl
 .intro _;rfl
 .intro x _;rfl
 .intro cs ih h;simp[ren,ih (by simpa[refs]using h)]
 .intro cs ih h;simp[ren,ih (by simpa[refs]using h)]
 .intro b off h;simp[ren,h b (by simp[refs])]
 .intro b i sz off h;simp[ren,h b (by simp[refs])]
 .intro cs off _;rfl
 .intro b h;simp[ren,h b (by simp[refs])]
 .intro b n h;simp[ren,h b (by simp[refs])]
 .intro fn cs ih h;simp[ren,ih (by simpa[refs]using h)]
 .intro _;rfl
 .intro v vs ih1 ih2 h;simp only[Zp,Yi]at h;simp[rens,ih1 (λc hc=>h c (.inl hc)),ih2 (λc hc=>h c (.inr hc))]
theorem Z7q{f g:Nat->Nat}:∀(vs:List AV),(∀c∈Zp vs,g (f c)=c)->rens g (rens f vs)=vs
 |[],_=>rfl
 |v::vs,h=>by
  simp only[Zp,Yi]at h;simp[rens,ren_back v (λc hc=>h c (.inl hc)),Z7q vs (λc hc=>h c (.inr hc))]
theorem Zbn7{f g:Nat->Nat}(x:Blk)(h:∀c∈Zb5 x,g (f c)=c):renB g (renB f x)=x:=by
 cases x with
 |box cs=>simp[renB,Z7q cs h]
 |det e sz es i off b=>simp[renB,h b (by simp[Zb5])]
 |_=>rfl
theorem Zyk(ids:List Nat)(nx:Nat):∀(xs ys:List Blk) (i:Nat),Zbq ids nx (xs++ys) i=Zbq ids nx xs i++Zbq ids nx ys (i+xs.length)
 |[],ys,i=>by simp[Zbq]
 |x::xs,ys,i=>by simp[Zbq,Zyk ids nx xs ys (i+1),Yde,Nat.add_comm 1]
theorem Zbn8{u:List (Nat×Blk)}:∀{h h':List Blk},(∀b,gt h b=gt h' b)->∀b,gt (upd h u) b=gt (upd h' u) b:=by
 induction u with
 |nil=>intro h h' hg b;exact hg b
 |cons p u ih =>
  intro h h' hg b;obtain⟨c,x⟩:=p;exact ih (λb=>by rw[Zcu,Zcu,hg]) b
theorem Zbn9{ids:List Nat}(hnd:ids.Nodup)(hcl:∀b∈ids,∀c∈Zb5 (gt h b),c∈ids)(nx b:Nat):gt (upd h (Zbq ids nx (subH h ids) 0)) b=gt h b:=by
 have hl:(subH h ids).length=ids.length:=by simp[subH]
 by_cases hb:b∈ids
 .obtain⟨i,hi⟩:=Yea hb;have hil:=(Yy.1 hi).1;have hinj:∀j k,j<ids.length->k<ids.length->bk ids nx j=bk ids nx k->j=k:=λj k hj hk he=>bk_inj hnd (m:=ids.length) (λq hq=>by omega) hj hk he
  have:=Zyi ids nx (subH h ids) 0 h (λj k _ h2 _ h4=>hinj j k (by omega) (by omega)) i (Yb _) (by omega);rw[Zgb hi]at this;rw[this];have e:gt (subH h ids) (i-0)=renB (λc=>idx c ids 0) (gt h b):=by
   rw[Yc3,subH,Zlx,hi]
  rw[e];refine Zbn7 _ λc hc=>?_
  obtain⟨j,hj⟩:=Yea (hcl b hb c hc);rw[idx_at hnd hj,Zgb hj]
 .exact Zta ids nx _ 0 h b λj _ h2 he=>hb (by
   have hj:ids[j]?=some (ids[j]'(by omega)):=by simp
   rw[Zgb hj]at he
   exact he▸Yz hj)
theorem After.congr{v:AV}{u u':List (Nat×Blk)}{val:Value}{w':World}{ρ':Map}(hA:After N base ρ h w v u val w' ρ')(hg:∀b,gt (upd h u) b=gt (upd h u') b)(hs:∀b,b ∉ u'.map Prod.fst->ρ b=none->ρ' b=none):After N base ρ h w v u' val w' ρ':=by
 have hF:=Free.congr (N:=N) (ρ:=ρ') hg;exact⟨by rw[<-hF];exact hA.val,hA.rel.congr hg,by rw[<-hF];exact hA.keeps,hs,hA.below,hA.kn⟩
theorem Zboa{o:Oper}(R:Rel N base ρ h w){nx f:Nat}{vs:List AV}{vals:Array Value}(hargs:RVs ρ w (Free N ρ h) vs vals.toList){r:AV}{hn:List Blk}
  (hu:∀b,b∈(Zbq (Zu h vs) nx hn (Zu h vs).length).map Prod.fst->nx<=b->ρ b=none) (hcl:Zdx h (Zu h vs) (Zp vs)=true)
  (hG:Zbt P f (subA (Zu h vs) vs) (subH h (Zu h vs)) r (subH h (Zu h vs)++hn)) (hex:(execOp a.eval o).run P w=.ok (.enter f vals) w) {K:Act->World->Prop} {Q:Exit->Act->World->Prop}
  (hK:∀val w' ρ',After N base ρ h w (ren (bk (Zu h vs) nx) r) (Zbq (Zu h vs) nx hn (Zu h vs).length) val w' ρ'->K (a.put o.dst val) w'):o.wp P a w K Q:=by
 have hl:(subH h (Zu h vs)).length=(Zu h vs).length:=by simp[subH]
 refine Ztb R (nx:=nx) hargs (λj h1 h2=>?_) hcl hG hex λval w' ρ' hA=>?_
 .rw[Yp,hl]at h2;refine hu _ ((Zlz _ _ _ _ _).2 ⟨j,h1,h2,Zh6 h1⟩) (Ydw _ _)
 .obtain⟨hin,hcl2⟩:=Zs9 hcl;have hnd:(Zu h vs).Nodup:=Zs7 _ _ _ Ybi;refine hK val w' ρ' (hA.congr (λb=>?_) λb hb hb0=>?_)
  .rw[Zyk,Zo2,hl,Ys];exact Zbn8 (λc=>Zbn9 hnd hcl2 nx c) b
  .refine hA.same b (λhm=>?_) hb0;rw[Zyk,Ybm,Yi,hl,Ys]at hm;rcases hm with hm|hm
   .obtain⟨j,_,h2,h3⟩:=(Zlz _ _ _ _ _).1 hm;rw[Ys,hl]at h2;have hj:(Zu h vs)[j]?=some ((Zu h vs)[j]'h2):=by simp[h2]
    rw[Zgb hj]at h3;obtain⟨r0,hr0⟩:=Z7o R hargs b (h3▸Yz hj);rw[hb0]at hr0;cases hr0
   .exact hb hm
def isC:MOp->Prop
 |.call _ _=>True
 |.xcall _ _=>True
 |.icall _ _=>True
 |.scall _ _ _=>True
 |.pcall _ _=>True
 |.dcall _ _=>True
 |_=>False
theorem Ztc{o:Oper}{k:MOp}(hk:Z7 P inl ops o.op=some k)(hE:Zbo ρ w (Free N ρ h) e a.tmps)(R:Rel N base ρ h w){nx:Nat}{v:AV}{u:List (Nat×Blk)}(hn:isC k\/ρ nx=none)(hu:∀b,b∈u.map Prod.fst->nx<=b->ρ b=none)
  (hev:opR (Zbt P) h nx e k v u) {K:Act->World->Prop} {Q:Exit->Act->World->Prop} (hK:∀val w' ρ',After N base ρ h w v u val w' ρ'->K (a.put o.dst val) w'):o.wp P a w K Q:=by
 have plain:Zn h nx e k=some (v,u)->o.wp P a w K Q:=by
  intro hev;have hnx:ρ nx=none:=by
   rcases hn with hn|hn
   .cases k<;>first|exact hn.elim|cases hev
   .exact hn
  obtain⟨val,w',ρ',hrun,h1,h2,h3,h4,h5,h6⟩:=op_sound hk hE R hnx hev;have:=hK val w' ρ' ⟨h1,h2,h3,λb hb hb0=>by rw[h4 b hb];exact hb0,h5,h6⟩;unfold Oper.wp;rcases hrun with hrun|⟨hrun,rfl⟩
  .rw[hrun];exact this
  .rw[hrun];exact this
 have hul:∀{ids:List Nat} {h1:List Blk},u=Zbq ids nx h1 0->∀j,ids.length<=j->j<h1.length->ρ (nx+(j-ids.length))=none:=by
  intro ids h1 he j h2 h3;exact hu _ (by rw[he];exact(Zlz _ _ _ _ _).2 ⟨j,Yb _,by omega,Zh6 h2⟩) (Ydw _ _)
 cases k<;>try (exact plain hev)
 .rename_i f args;simp only[opR]at hev;obtain⟨as,hfz,r,hr,hG,hsh,rfl,rfl⟩:=hev;obtain⟨c,hoc,hcc,has,hcl⟩:=(Zly hk).1 f args rfl;exact Zbn5 R (vals:=c.args.map a.eval) (by rw[Ybq];exact Zjj hE has) hu hfz hG hsh (Zo9 hoc hcc hcl w) hK
 .rename_i f args;simp only[opR]at hev;obtain⟨as,hfz,r,hr,hG,hsh,rfl,rfl⟩:=hev;obtain⟨c,hoc,hcc,has,hcl⟩:=(Zly hk).1 f args rfl;exact Zbn6 R (vals:=c.args.map a.eval) (by rw[Ybq];exact Zjj hE has) hu hfz hG hsh (Zo9 hoc hcc hcl w) hK
 .rename_i f args;simp only[opR,Zcc]at hev;obtain⟨hcl',r,h1,hG,rfl,rfl⟩:=hev;obtain⟨c,hoc,hcc,has,hcl⟩:=(Zly hk).1 f args rfl;exact Ztb R (vals:=c.args.map a.eval) (by rw[Ybq];exact Zjj hE has) (hul rfl) hcl' hG (Zo9 hoc hcc hcl w) hK
 .rename_i f args p;simp only[opR,Zcc]at hev;obtain⟨hcl',r,h1,hG,u2,hp,rfl,rfl⟩:=hev;obtain⟨c,hoc,hcc,has,hcl⟩:=(Zly hk).1 f args rfl;refine Ztb R (nx:=nx) (vals:=c.args.map a.eval) (by rw[Ybq];exact Zjj hE has) (λj h2 h3=>?_) hcl' hG (Zo9 hoc hcc hcl w) λval w' ρ' hA=>?_
  .refine hu _ ?_ (Ydw _ _);rw[Ybm,Yi];exact .inl ((Zlz _ _ _ _ _).2 ⟨j,Yb _,by omega,Zh6 h2⟩)
  .obtain⟨ρ2,q1,q2,q3⟩:=pack_rel hA.rel hp;refine hK val w' ρ2 ⟨?_,?_,?_,λb hb hb0=>q3 b (hA.same b (λhm=>hb (by rw[Ybm,Yi];exact .inl hm)) hb0),hA.below,hA.kn⟩
   .rw[Zo2];exact hA.val.keep q2
   .rw[Zo2];exact q1
   .rw[Zo2];exact hA.keeps.trans q2 hA.below.size
 .rename_i f args;simp only[opR,Zf9]at hev;obtain⟨hcl',r,hn,hG,rfl,rfl⟩:=hev;obtain⟨c,hoc,hcc,has,hcl⟩:=(Zly hk).1 f args rfl;exact Zboa R (vals:=c.args.map a.eval) (by rw[Ybq];exact Zjj hE has) hu hcl' hG (Zo9 hoc hcc hcl w) hK
 .rename_i x args;simp only[opR,Zcc]at hev;obtain⟨g,caps,hg,hcl',r,h1,hG,rfl,rfl⟩:=hev;obtain⟨c,y,hoc,hcc,hy,has⟩:=(Zly hk).2 x args rfl;have hry:=Z0 hE hy;rw[hg]at hry;obtain⟨cv,hcv,hcaps⟩:=hry.fn_val;have hex:(execOp a.eval o).run P w=.ok (.enter g (c.args.map a.eval++cv)) w:=by
   unfold execOp;rw[hoc];simp[resolve,hcc,hcv,Deferred.ofValue,invoke,Z7n hG.1]
  exact Ztb R (vals:=c.args.map a.eval++cv) (by rw[Array.toList_append,Ybq];exact(Zjj hE has).append hcaps) (hul rfl) hcl' hG hex hK
end
open Go.RowKit (Below)
def Zdy(ρ:Map)(w:World)(F:Nat->Prop):List Env->List (Array Value)->Prop
 |[],[]=>True
 |e::es,t::ts=>Zbo ρ w F e t/\Zdy ρ w F es ts
 |_,_=>False
structure RelS (N:Par) (base:Nat) (w0:World) (nt:Nat) (ts:List (Array Value)) (ρ:Map) (s:S) (a:Act) (w:World):Prop where
 rel:Rel N base ρ s.h w
 env:Zbo ρ w (Free N ρ s.h) s.env a.tmps
 stk:Zdy ρ w (Free N ρ s.h) s.stk ts
 dom:∀b,s.h.length<=b->ρ b=none
 defers:a.defers=[]
 size:a.tmps.size=nt
 below:Below base w0 w
 kn:∀g,g<w0.heap.size->¬N.a g->w.heap[g]?=w0.heap[g]?
 fz:∀g,g<w0.heap.size->N.z g->Free N ρ s.h g/\w.heap[g]?=w0.heap[g]?
section
variable{P:Program}{N:Par}{base:Nat}{w0:World}{nt:Nat}{ts:List (Array Value)}{inl:List Nat}
theorem Zdy.keep{ρ ρ':Map}{w w':World}{F F':Nat->Prop}(hk:Keeps ρ w F ρ' w' F'):∀{es:List Env} {ts:List (Array Value)},Zdy ρ w F es ts->Zdy ρ' w' F' es ts
 |[],[],_=>trivial
 |_::_,_::_,h=>⟨λs=>(h.1 s).keep hk,Zdy.keep hk h.2⟩
 |[],_::_,h=>h.elim
 |_::_,[],h=>h.elim
theorem stB_len(h:List Blk)(b:Nat)(x:Blk):h.length<=(stB h b x).length/\b<(stB h b x).length:=by
 induction h generalizing b with
 |nil =>
  induction b with
  |zero=>simp[stB]
  |succ b ih=>simp[stB];exact ih.2
 |cons y h ih =>
  cases b with
  |zero=>simp[stB]
  |succ b=>simp[stB];exact ih b
theorem Zyl(u:List (Nat×Blk)):∀h:List Blk,h.length<=(upd h u).length/\∀b∈u.map Prod.fst,b<(upd h u).length:=by
 induction u with
 |nil=>intro h;simp[upd]
 |cons p u ih =>
  intro h;obtain⟨b,x⟩:=p;have h1:=stB_len h b x;have h2:=ih (stB h b x);simp only[upd];refine⟨by omega,?_⟩;intro c hc;simp only[Yv,Yt]at hc;rcases hc with rfl|hc
  .omega
  .exact h2.2 c hc
theorem Ztd{ρ:Map}{w:World}{F:Nat->Prop}{e:Env}{a:Act}{d:Option Nat}{v:AV}{val:Value}(hE:Zbo ρ w F e a.tmps)(hv:RV ρ w F v val)(hd:∀x,d=some x->x<a.tmps.size):Zbo ρ w F (put d v e) (a.put d val).tmps:=by
 cases d with
 |none=>exact hE
 |some d =>
  intro s;have hlt:=hd d rfl;simp only[put,lk,Act.put];split
  .rename_i hs;subst hs;simpa[Array.getD,hlt]using hv
  .rename_i hs;have:=hE s;simp only[Ybx,Array.getElem?_setIfInBounds]at this|-;rw[if_neg hs];exact this
theorem Zte(a:Act)(d:Option Nat)(v:Value):(a.put d v).defers=a.defers:=by cases d<;>rfl
theorem Ztf(a:Act)(d:Option Nat)(v:Value):(a.put d v).tmps.size=a.tmps.size:=by cases d<;>simp[Act.put]
theorem RelS.after{ρ ρ':Map}{s:S}{a:Act}{w w':World}(hS:RelS N base w0 nt ts ρ s a w){v:AV}{u:List (Nat×Blk)}{val:Value}(hA:After N base ρ s.h w v u val w' ρ'){d:Option Nat}(hd:∀x,d=some x->x<nt) :
  RelS N base w0 nt ts ρ' { s with env:=put d v s.env,h:=upd s.h u } (a.put d val) w':=by
 refine⟨hA.rel,Ztd (λs=>(hS.env s).keep hA.keeps) hA.val λx hx=>by rw[hS.size];exact hd x hx,hS.stk.keep hA.keeps,?_,by rw[Zte];exact hS.defers,by rw[Ztf];exact hS.size,hS.below.trans hA.below,
  λg hg hn=>(hA.kn g (Ych hg hS.below.size) hn).trans (hS.kn g hg hn),λg hg hz=>?_⟩
 .intro b hb;have h1:=Zyl u s.h;exact hA.same b (λhc=>by have:=h1.2 b hc;simp only at hb;omega) (hS.dom b (by simp only at hb;omega))
 .obtain⟨h1,h2⟩:=hS.fz g hg hz;obtain⟨h3,h4⟩:=hA.keeps.free g (Ych hg hS.below.size) h1;exact⟨h3,h4.trans h2⟩
theorem RelS.skip{ρ:Map}{s:S}{a:Act}{w:World}(hS:RelS N base w0 nt ts ρ s a w){d:Option Nat}(hd:∀x,d=some x->x<nt) :
  RelS N base w0 nt ts ρ { s with env:=put d (.tup []) s.env } (a.put d undef) w :=
 ⟨hS.rel,Ztd hS.env (RV.tup (c:=#[]) .nil) λx hx=>by rw[hS.size];exact hd x hx,hS.stk,hS.dom,by rw[Zte];exact hS.defers,by rw[Ztf];exact hS.size,hS.below,hS.kn,hS.fz⟩
theorem runW_opR{Γ:Ctr}{o:MO}{s:S}{K:S->Prop}(hr:runW Γ o s K):∃v u,opR Γ s.h s.h.length s.env o.op v u/\K { s with env:=put o.dst v s.env,h:=upd s.h u }:=by
 cases ho:o.op with
 |xcall f args =>
  simp only[runW,ho]at hr;obtain⟨as,h1,r,hr',h2,h3,h4⟩:=hr
  exact⟨_,_,⟨as,h1,r,hr',h2,h3,rfl,rfl⟩,h4⟩
 |scall f args p =>
  simp only[runW,ho,Zcc]at hr;obtain⟨h1,r,h2,h3,u2,h4,h5⟩:=hr
  exact⟨_,_,⟨h1,r,h2,h3,u2,h4,rfl,rfl⟩,h5⟩
 |icall f args =>
  simp only[runW,ho,Zcc]at hr;obtain⟨h1,r,h2,h3,h4⟩:=hr
  exact⟨_,_,⟨h1,r,h2,h3,rfl,rfl⟩,h4⟩
 |pcall f args =>
  simp only[runW,ho,Zf9]at hr;obtain⟨h1,r,h2,h3,h4⟩:=hr
  exact⟨_,_,⟨h1,r,h2,h3,rfl,rfl⟩,h4⟩
 |dcall f args =>
  simp only[runW,ho]at hr;split at hr
  .rename_i g caps hg;obtain⟨h1,r,h2,h3,h4⟩:=hr;exact⟨_,_,⟨g,caps,hg,h1,r,h2,h3,rfl,rfl⟩,h4⟩
  .exact hr.elim
 |call f args =>
  simp only[runW,ho]at hr;obtain⟨as,h1,r,hr',h2,h3,h4⟩:=hr
  exact⟨_,_,⟨as,h1,r,hr',h2,h3,rfl,rfl⟩,h4⟩
 |_ =>
  simp only[runW,ho]at hr;split at hr
  .rename_i v u hev;exact⟨v,u,hev,hr⟩
  .exact hr.elim
theorem Z7r{ops:Array Oper}{o:Oper}{m:MO}(hc:compO P inl nt ops o=some m):Z7 P inl ops o.op=some m.op/\m.dst=o.dst/\(∀x,o.dst=some x->x<nt)/\
  ((o.guard=none/\m.guard=none)\/∃j b d,o.guard=some (j,b)/\(ops[j]?).bind (·.dst)=some d/\m.guard=some (d,b)):=by
 unfold compO at hc;split at hc
 .rename_i hd;split at hc
  .rename_i k g hk hg;cases hc;refine⟨hk,rfl,?_,?_⟩
   .intro x hx;rw[hx]at hd;simpa using hd
   .split at hg
    .rename_i hgn;cases hg;exact .inl ⟨hgn,rfl⟩
    .rename_i j b hgn;obtain⟨d,h1,h2⟩:=Yk.1 hg;subst h2;exact .inr ⟨j,b,d,hgn,h1,rfl⟩
  .cases hc
 .cases hc
theorem Z7s{ρ:Map}{w:World}{F:Nat->Prop}{e:Env}{a:Act}(hE:Zbo ρ w F e a.tmps){ops:Array Oper}{o:Oper}{j d:Nat}{b:Bool}(hg:o.guard=some (j,b))(hd:(ops[j]?).bind (·.dst)=some d) :
  (∀c,lk d e=.t (.bool c)->Region.wanted o (yielded ops a.tmps)=decide (c=b))/\(lk d e=.tup []->Region.wanted o (yielded ops a.tmps)=false):=by
 have hr:=hE d;constructor
 .intro c hc;rw[hc]at hr;have h1:=hr.bool_inv;have h2:a.tmps[d]?=some (.bool c):=by
   rw[Ybx]at h1
   cases hx:a.tmps[d]? with
   |none=>rw[hx]at h1;cases h1
   |some y=>rw[hx]at h1;simp at h1;rw[h1]
  simp only[Region.wanted,hg,yielded,hd,Option.bind_some,h2];cases c<;>cases b<;>rfl
 .intro hc;rw[hc]at hr;obtain⟨c,h1,h2⟩:=hr.tup_val;have h3:c=#[]:=by cases h2':c.toList with|nil=>simpa using h2'|cons x xs=>rw[h2']at h2;cases h2
  subst h3;simp only[Region.wanted,hg,yielded,hd,Option.bind_some];rw[Ybx]at h1
  cases hx:a.tmps[d]? with
  |none=>rfl
  |some y=>rw[hx]at h1;simp at h1;subst h1;rfl
theorem Z7t{Γ:Ctr}(hΓ:Γ=Zbt P){ops:Array Oper}{Qc:Exit->Act->World->Prop}{K:S->Prop}
  (hQ:∀s a w ρ,K s->RelS N base w0 nt ts ρ s a w->Qc .normal a w):∀(l:List Oper) (os:List MO),mapO (compO P inl nt ops) l=some os->∀(s:S) (a:Act) (w:World) (ρ:Map),regW Γ os s K->RelS N base w0 nt ts ρ s a w->wpList P ops Qc l a w
 |[],os,hm,s,a,w,ρ,hr,hS=>by cases hm;exact hQ s a w ρ hr hS
 |o::l,os,hm,s,a,w,ρ,hr,hS=>by
  obtain⟨m,ms,h1,h2,rfl⟩:=Zfj hm;obtain⟨hk,hdst,hd,hguard⟩:=Z7r h1;simp only[regW]at hr;have ih:=Z7t hΓ hQ l ms h2;have run:runW Γ m s (λs'=>regW Γ ms s' K)->o.wp P a w (wpList P ops Qc l) Qc:=by
   intro hrun;obtain⟨v,u,hop,hK⟩:=runW_opR hrun;rw[hΓ]at hop;refine Ztc hk hS.env hS.rel (nx:=s.h.length) (.inr (hS.dom _ (Yc _))) (λb _ hb=>hS.dom b hb) hop λval w' ρ' hA=>?_
   exact ih _ _ _ ρ' hK (by rw[hdst];exact hS.after hA hd)
  have skip:regW Γ ms { s with env:=put m.dst (.tup []) s.env } K->wpList P ops Qc l (a.put o.dst undef) w:=λhK=>ih _ _ _ ρ hK (by rw[hdst];exact hS.skip hd)
  refine wpList_step λK' hK'=>?_
  have run':runW Γ m s (λs'=>regW Γ ms s' K)->o.wp P a w K' Qc:=λh=>Oper.wp_mono hK' (run h)
  rcases hguard with⟨hg1,hg2⟩|⟨j,b,d,hg1,hg2,hg3⟩
  .simp only[opW,hg2]at hr;simp only[Region.wanted,hg1,if_true];exact run' hr
  .have hw:=Z7s hS.env hg1 hg2;simp only[opW,hg3]at hr;split at hr
   .rename_i c hc;rw[hw.1 c hc];split at hr
    .rename_i hcb;simp only[hcb,decide_true,if_true];exact run' hr
    .rename_i hcb;simp only[hcb,decide_false,Y9,if_false];exact hK' _ _ (skip hr)
   .rename_i hc;rw[hw.2 hc];simp only[Y9,if_false];exact hK' _ _ (skip hr)
   .exact hr.elim
end
theorem Zbob(xs ys:List AV):Zp (xs++ys)=Zp xs++Zp ys:=by
 induction xs with
 |nil=>rfl
 |cons x xs ih=>simp[Zp,ih]
theorem Zboc{v:AV}{vs:List AV}(h:v∈vs){b:Nat}(hb:b∈refs v):b∈Zp vs:=by
 induction vs with
 |nil=>cases h
 |cons x xs ih =>
  simp only[Zp,Yi];rcases Yt.1 h with rfl|h
  .exact .inl hb
  .exact .inr (ih h)
section
variable{h h':List Blk}{e e':Env}
theorem Zym{v:AV}{vs:List AV}(hc:cellsOf v=some vs):Zp vs=refs v:=by
 cases v<;>simp[cellsOf]at hc<;>subst hc<;>simp[Zp,refs]
theorem Zbod{v:AV}(hh:∀b∈refs v,gt h b=gt h' b):toT h v=toT h' v:=by
 cases v<;>simp[toT];rename_i b;rw[hh b (by simp[refs])]
theorem Zyn{vs:List AV}(hh:∀b∈Zp vs,gt h b=gt h' b):toTs h vs=toTs h' vs:=by
 induction vs with
 |nil=>rfl
 |cons v vs ih =>
  simp only[toTs];rw[Zbod (λb hb=>hh b (by simp[Zp,hb])),ih (λb hb=>hh b (by simp[Zp,hb]))]
theorem Zboe{v:AV}(hh:∀b∈refs v,gt h b=gt h' b):frzT h v=frzT h' v:=by
 cases v<;>simp[frzT];rename_i b;rw[hh b (by simp[refs])]
theorem Z7u{vs:List AV}(hh:∀b∈Zp vs,gt h b=gt h' b):Zf7 h vs=Zf7 h' vs:=by
 induction vs with
 |nil=>rfl
 |cons v vs ih =>
  simp only[Zf7];rw[Zboe (λb hb=>hh b (by simp[Zp,hb])),ih (λb hb=>hh b (by simp[Zp,hb]))]
theorem Zyo{h:List Blk}{rs:List Nat}{b:Nat}(hb:b∈rs):b∈Zhx h rs:=Yc4 _ (Yc4 _ hb)
theorem Z7v{h:List Blk}{rs:List Nat}{b c:Nat}(hb:b∈rs)(hc:c∈Zb5 (gt h b)):c∈Zhx h rs:=Yc4 _ (Yc5 _ (Yc6.2 ⟨b,hb,hc⟩))
theorem Ztg{h:List Blk}{rs:List Nat}{b:Nat}(hb:b∈Zbd h 200 rs []):b∈Zhx h rs:=Yc5 _ hb
theorem Zth{h:List Blk}:∀(n:Nat) (todo acc:List Nat),∀b∈acc,b∈Zbd h n todo acc
 |0,_,_,b,hb=>by simpa[Zbd]using hb
 |n+1,[],acc,b,hb=>by simpa[Zbd]using hb
 |n+1,c::todo,acc,b,hb=>by
  simp only[Zbd];split
  .exact Zth n _ _ b hb
  .exact Zth n _ _ b (by simp[hb])
def Zh7(h h':List Blk)(rs:List Nat):Prop:=∀b∈rs,gt h b=gt h' b/\∀c∈Zb5 (gt h b),gt h c=gt h' c
theorem Z7w{h h':List Blk}{rs:List Nat}(hh:∀b∈Zhx h rs,gt h b=gt h' b):Zh7 h h' rs:=λb hb=>⟨hh b (Zyo hb),λc hc=>hh c (Z7v hb hc)⟩
theorem Zh7.sub{h h':List Blk}{rs rs':List Nat}(hh:Zh7 h h' rs)(hs:∀b∈rs',b∈rs):Zh7 h h' rs':=λb hb=>hh b (hs b hb)
theorem Zyp{h h':List Blk}:∀(n:Nat) (todo acc:List Nat),(∀b∈Zbd h n todo acc,gt h b=gt h' b)->Zbd h' n todo acc=Zbd h n todo acc
 |0,_,_,_=>rfl
 |n+1,[],acc,_=>rfl
 |n+1,c::todo,acc,hh=>by
  simp only[Zbd]at hh|-;split
  .rename_i hc;rw[if_pos hc]at hh;exact Zyp n todo acc hh
  .rename_i hc;rw[if_neg hc]at hh;have:gt h c=gt h' c:=hh c (Zth n _ _ c (by simp));rw[<-this];exact Zyp n _ _ hh
theorem Z7x{v:AV}(hh:Zh7 h h' (refs v)):frz1 h v=frz1 h' v:=by
 cases v<;>simp only[frz1]
 .rename_i cs;rw[Z7u λb hb=>(hh b (by simpa[refs]using hb)).1]
 .rename_i b off;obtain⟨hb,hc⟩:=hh b (by simp[refs]);rw[<-hb]
  cases hg:gt h b with
  |box cs=>simp only;rw[Z7u λc hc'=>hc c (by rw[hg];exact hc')]
  |_=>rfl
 .rename_i b;rw[(hh b (by simp[refs])).1]
theorem Zbof{vs:List AV}(hh:Zh7 h h' (Zp vs)):Zg2 h vs=Zg2 h' vs:=by
 induction vs with
 |nil=>rfl
 |cons v vs ih =>
  simp only[Zg2];rw[Z7x (hh.sub λc hc=>by simp[Zp,hc]),ih (hh.sub λc hc=>by simp[Zp,hc])]
theorem Zbog{v:AV}(hh:Zh7 h h' (refs v)):frz h v=frz h' v:=by
 by_cases hx:∃g cs,v=.fn g cs
 .obtain⟨g,cs,rfl⟩:=hx;simp only[frz];rw[Zbof (hh.sub λc hc=>by simpa[refs]using hc)]
 .have e:∀h,frz h v=frz1 h v:=by
   intro h;cases v<;>first|rfl|exact absurd ⟨_,_,rfl⟩ hx
  rw[e,e,Z7x hh]
theorem Z7y{vs:List AV}(hh:Zh7 h h' (Zp vs)):frzs h vs=frzs h' vs:=by
 induction vs with
 |nil=>rfl
 |cons v vs ih =>
  simp only[frzs];rw[Zbog (hh.sub λc hc=>by simp[Zp,hc]),ih (hh.sub λc hc=>by simp[Zp,hc])]
theorem Z7z{vs:List AV}(hh:∀b∈Zbd h 200 (Zp vs) [],gt h b=gt h' b):Zu h' vs=Zu h vs/\subH h' (Zu h vs)=subH h (Zu h vs)/\Zdx h' (Zu h vs) (Zp vs)=Zdx h (Zu h vs) (Zp vs):=by
 refine⟨Zyp 200 _ _ hh,?_,?_⟩
 .unfold subH;exact Yb7 λb hb=>by rw[hh b hb]
 .unfold Zdx;congr 1;rw[Yb8,Yq,Yq];constructor
  .intro q b hb;rw[hh b hb];exact q b hb
  .intro q b hb;rw[<-hh b hb];exact q b hb
theorem Zboh{cs:List AV}{ps:List (Nat×Nat×Opd)}(he:∀p∈ps,ev e p.2.2=ev e' p.2.2):parts e cs ps=parts e' cs ps:=by
 induction ps generalizing cs with
 |nil=>rfl
 |cons p ps ih =>
  obtain⟨o,n,x⟩:=p;have h1:=he (o,n,x) (by simp);simp only at h1;have h2:=λcs=>ih (cs:=cs) (λp hp=>he p (by simp[hp]))
  simp only[parts,h1,h2]
theorem Zboi{cs:List AV}{ps:List (Nat×Opd)}(he:∀p∈ps,ev e p.2=ev e' p.2):Zf5 e cs ps=Zf5 e' cs ps:=by
 induction ps generalizing cs with
 |nil=>rfl
 |cons p ps ih =>
  obtain⟨n,x⟩:=p;have h1:=he (n,x) (by simp);simp only at h1;have h2:=λcs=>ih (cs:=cs) (λp hp=>he p (by simp[hp]))
  simp only[Zf5,h1,h2]
theorem Zboj{sz:Nat}{es:List (List T)}{ps:List (Nat×Opd)}(he:∀p∈ps,ev e p.2=ev e' p.2)(hh:∀p∈ps,∀b∈refs (ev e p.2),gt h b=gt h' b):elems h e sz es ps=elems h' e' sz es ps:=by
 induction ps generalizing es with
 |nil=>rfl
 |cons p ps ih =>
  obtain⟨n,x⟩:=p;have h1:=he (n,x) (by simp);have h3:=hh (n,x) (by simp);simp only at h1 h3;have h2:=λes=>ih (es:=es) (λp hp=>he p (by simp[hp])) (λp hp=>hh p (by simp[hp]))
  simp only[elems,h2,<-h1]
  cases hc:cellsOf (ev e x)with
  |none=>rfl
  |some vs =>
   simp only;rw[Zyn (h:=h) (h':=h') (λb hb=>h3 b (by rw[<-Zym hc];exact hb))]
theorem Zbok{st:Bool}{v:AV}(hh:∀b∈refs v,gt h b=gt h' b):Zcw h st v=Zcw h' st v:=by
 cases v with
 |own b=>cases st<;>simp only[Zcw];rw[hh b (by simp[refs])]
 |t x=>cases st<;>cases x<;>rfl
 |_=>cases st<;>rfl
theorem Zbol{st:Bool}{v:AV}(hh:∀b∈refs v,gt h b=gt h' b):Zct h st v=Zct h' st v:=by
 cases v with
 |own b=>cases st<;>simp only[Zct];rw[hh b (by simp[refs])]
 |t x=>cases st<;>cases x<;>first|rfl|(rename_i es;cases es<;>rfl)
 |_=>cases st<;>rfl
theorem Zbom{sz:Nat}{mv:Bool}{v:AV}(hh:∀b∈refs v,gt h b=gt h' b):Zea h sz mv v=Zea h' sz mv v:=by
 cases v with
 |own b=>simp only[Zea];rw[hh b (by simp[refs])]
 |t x=>cases x<;>rfl
 |_=>rfl
theorem Z70{d:Nat}{o:Option Opd}(he:∀x,o=some x->ev e x=ev e' x):bnd e d o=bnd e' d o:=by
 cases o with
 |none=>rfl
 |some x=>simp[bnd,he x rfl]
theorem Zbon{nx:Nat}{k:MOp}(he:∀x∈Zq k,ev e x=ev e' x)(hh:∀x∈Zq k,∀b∈refs (ev e x),gt h b=gt h' b):Zn h nx e k=Zn h' nx e' k:=by
 cases k with
 |mov x=>simp[Zn,he x (by simp[Zq])]
 |pick c a b=>simp[Zn,he c (by simp[Zq]),he a (by simp[Zq]),he b (by simp[Zq])]
 |alloc zs=>rfl
 |box x=>simp[Zn,he x (by simp[Zq])]
 |build zs ps =>
  simp only[Zn]
  rw[Zboh (λp hp=>he p.2.2 (by simp only[Zq,Y3];exact⟨p,hp,rfl⟩))]
 |bslice el sz n zs ps =>
  simp only[Zn]
  rw[Zboj (λp hp=>he p.2 (by simp only[Zq,Y3];exact⟨p,hp,rfl⟩)) (λp hp=>hh p.2 (by simp only[Zq,Y3];exact⟨p,hp,rfl⟩))]
 |bptrs n ps =>
  simp only[Zn]
  rw[Zboi (λp hp=>he p.2 (by simp only[Zq,Y3];exact⟨p,hp,rfl⟩))]
 |load n x =>
  have h1:=he x (by simp[Zq]);have h2:=hh x (by simp[Zq]);simp only[Zn,<-h1];cases hx:ev e x<;>simp only
  .rw[h2 _ (by rw[hx];simp[refs])]
  .rw[h2 _ (by rw[hx];simp[refs])]
 |loadU mv x =>
  have h1:=he x (by simp[Zq]);have h2:=hh x (by simp[Zq]);simp only[Zn,<-h1];cases hx:ev e x<;>simp only
  .rw[h2 _ (by rw[hx];simp[refs])]
  .rw[h2 _ (by rw[hx];simp[refs])]
 |store n x v =>
  have h1:=he x (by simp[Zq]);have h2:=hh x (by simp[Zq]);have h3:=he v (by simp[Zq]);have h4:=hh v (by simp[Zq]);simp only[Zn,<-h1,<-h3]
  cases hc:cellsOf (ev e v)with
  |none=>rfl
  |some vs =>
   simp only;rw[Zyn (h:=h) (h':=h') (λb hb=>h4 b (by rw[<-Zym hc];exact hb))];cases hx:ev e x<;>simp only
   .rw[h2 _ (by rw[hx];simp[refs])]
   .rw[h2 _ (by rw[hx];simp[refs])]
 |storeF n x v =>
  have h1:=he x (by simp[Zq]);have h2:=hh x (by simp[Zq]);have h3:=he v (by simp[Zq]);have h4:=hh v (by simp[Zq]);simp only[Zn,<-h1,<-h3]
  cases hc:cellsOf (ev e v)with
  |none=>rfl
  |some vs =>
   simp only;rw[Zyn (h:=h) (h':=h') (λb hb=>h4 b (by rw[<-Zym hc];exact hb))];cases hx:ev e x<;>simp only
   .rw[h2 _ (by rw[hx];simp[refs])]
 |nilchk x=>simp[Zn,he x (by simp[Zq])]
 |bin op x y=>simp[Zn,he x (by simp[Zq]),he y (by simp[Zq])]
 |beq n x y=>simp[Zn,he x (by simp[Zq]),he y (by simp[Zq])]
 |aeq n ks x y=>simp[Zn,he x (by simp[Zq]),he y (by simp[Zq])]
 |nileq n sl x =>
  simp only[Zn,<-he x (by simp[Zq])]
  rw[Zbol (hh x (by simp[Zq]))]
 |mm m x y=>simp[Zn,he x (by simp[Zq]),he y (by simp[Zq])]
 |un op x=>simp[Zn,he x (by simp[Zq])]
 |conv k x=>simp[Zn,he x (by simp[Zq])]
 |tostr x =>
  have h1:=he x (by simp[Zq]);have h2:=hh x (by simp[Zq]);simp only[Zn,<-h1];cases hx:ev e x<;>simp only
  .rw[h2 _ (by rw[hx];simp[refs])]
 |mkfn f caps =>
  simp only[Zn]
  rw[Yb7 (λx hx=>he x (by simpa[Zq]using hx))]
 |mkslice el sz bytes zs l c=>simp[Zn,he l (by simp[Zq]),he c (by simp[Zq])]
 |slice sz x lo hi =>
  have h1:=he x (by simp[Zq]);have h2:∀d,bnd e d lo=bnd e' d lo:=λd=>Z70 λy hy=>he y (by subst hy;simp[Zq])
  have h3:∀d,bnd e d hi=bnd e' d hi:=λd=>Z70 λy hy=>he y (by subst hy;simp[Zq])
  have h4:=hh x (by simp[Zq]);simp only[Zn,<-h1,h2,h3]
  cases hx:ev e x with
  |own b=>cases sz<;>simp only[h4 b (by rw[hx];simp[refs])]
  |t x=>cases sz<;>cases x<;>rfl
  |_=>cases sz<;>rfl
 |faddr off x=>simp[Zn,he x (by simp[Zq])]
 |field off n x=>simp[Zn,he x (by simp[Zq])]
 |iaddr sz x i =>
  have h1:=he x (by simp[Zq]);have h2:=hh x (by simp[Zq]);have h3:=he i (by simp[Zq]);simp only[Zn,<-h1,<-h3]
  cases hx:ev e x with
  |own b=>simp only;rw[h2 b (by rw[hx];simp[refs])]
  |t x=>cases x<;>rfl
  |_=>rfl
 |index x i=>simp[Zn,he x (by simp[Zq]),he i (by simp[Zq])]
 |aaddr n sz x i=>simp[Zn,he x (by simp[Zq]),he i (by simp[Zq])]
 |aidx n sz m x i=>simp[Zn,he x (by simp[Zq]),he i (by simp[Zq])]
 |ext x i=>simp[Zn,he x (by simp[Zq])]
 |len st x =>
  simp only[Zn,<-he x (by simp[Zq])]
  rw[Zbok (hh x (by simp[Zq]))]
 |append el sz bytes mv x y =>
  have h1:=he x (by simp[Zq]);have h2:=hh x (by simp[Zq]);have h3:=he y (by simp[Zq]);have h4:=hh y (by simp[Zq]);simp only[Zn,<-h1,<-h3];rw[Zbom h4]
  cases hx:ev e x with
  |own b=>simp only;rw[h2 b (by rw[hx];simp[refs])]
  |t x=>cases x<;>rfl
  |_=>rfl
 |call f args=>rfl
 |xcall f args=>rfl
 |icall f args=>rfl
 |scall f args p=>rfl
 |pcall f args=>rfl
 |dcall f args=>rfl
theorem Zboo{nx:Nat}{k:MOp}{v:AV}{u:List (Nat×Blk)}(hev:Zn h nx e k=some (v,u))(hn:nx ∉ u.map Prod.fst)(nx':Nat):Zn h nx' e k=some (v,u):=by
 cases k<;>try exact hev
 case alloc zs=>simp[Zn]at hev;obtain⟨_,rfl⟩:=hev;simp at hn
 case box x =>
  simp only[Zn]at hev|-;split at hev
  .cases hev;simp at hn
  .cases hev
 case loadU mv x =>
  simp only[Zn]at hev|-
  cases hx:ev e x with
  |ptr b off=>simp only[hx]at hev|-;exact hev
  |eptr b i sz off =>
   simp only[hx]at hev|-
   repeat' split at hev
   all_goals first
    |(cases hev;done)
    |(cases hev;simp at hn;done)
    |(cases hev;simp_all)
  |_=>simp only[hx]at hev;cases hev
 case bslice el sz n zs ps =>
  simp only[Zn]at hev|-
  repeat' split at hev
  all_goals first
   |(cases hev;done)
   |(cases hev;simp at hn)
 case bptrs n ps =>
  simp only[Zn]at hev|-
  repeat' split at hev
  all_goals first
   |(cases hev;done)
   |(cases hev;simp at hn)
 case mkslice el sz bytes zs l c =>
  simp only[Zn]at hev|-
  repeat' split at hev
  all_goals first
   |(cases hev;done)
   |(cases hev;simp at hn)
 case slice sz x lo hi =>
  simp only[Zn]at hev|-
  cases hb:bnd e 0 lo with
  |none=>simp only[hb]at hev;cases hev
  |some l =>
   simp only[hb]at hev|-
   cases sz with
   |none =>
    cases hx:ev e x with
    |t x=>simp only[hx]at hev|-;cases x<;>exact hev
    |_=>simp only[hx]at hev;cases hev
   |some sz =>
    cases hx:ev e x with
    |own b =>
     simp only[hx]at hev
     repeat' split at hev
     all_goals first
      |(cases hev;done)
      |(cases hev;simp at hn)
    |t x=>simp only[hx]at hev|-;cases x<;>exact hev
    |_=>simp only[hx]at hev;cases hev
 case append el sz bytes mv x y =>
  simp only[Zn]at hev|-
  repeat' split at hev
  all_goals first
   |(cases hev;done)
   |(cases hev;simp at hn)
end
open Go.RowKit (Below)
structure Tr where
 dst:Option Nat
 v:AV
 u:List (Nat×Blk)
 foot:Foot
def appT(t:Tr)(s:S):S:={ s with env:=put t.dst t.v s.env,h:=upd s.h t.u }
def Zx(L:Nat->Bool):Nat->List Tr->S->S
 |_,[],s=>s
 |i,t::ts,s=>Zx L (i+1) ts (if L i then appT t s else s)
def gRun(o:MO)(e:Env):Prop:=o.guard=none\/∃g b,o.guard=some (g,b)/\lk g e=.t (.bool b)
def gSkip(o:MO)(e:Env):Prop:=∃g b,o.guard=some (g,b)/\(lk g e=.tup []\/∃c,lk g e=.t (.bool c)/\c≠b)
def Zpa(Γ:Ctr)(o:MO)(t:Tr)(s:S):Prop:=t.dst=o.dst/\t.foot=Zcr o s (t.u.map Prod.fst)/\
 ((gRun o s.env/\opR Γ s.h s.h.length s.env o.op t.v t.u)\/(gSkip o s.env/\t.v=.tup []/\t.u=[]))
def Steps(Γ:Ctr):List MO->List Tr->S->Prop
 |[],[],_=>True
 |o::os,t::ts,s=>Zpa Γ o t s/\Steps Γ os ts (appT t s)
 |_,_,_=>False
theorem Zbop{Γ:Ctr}{o:MO}{s:S}{K:Foot->S->Prop}(h:drwG Γ o s K):∃t,Zpa Γ o t s/\K t.foot (appT t s):=by
 have run:gRun o s.env->Zdk Γ o s K->∃t,Zpa Γ o t s/\K t.foot (appT t s):=by
  intro hg h
  cases ho:o.op with
  |call f args =>
   simp only[Zdk,ho]at h;obtain⟨as,h1,r,hr,h2,h3,h4⟩:=h
   exact⟨⟨o.dst,shift s.h.length r,newU s.h.length hr 0,_⟩,⟨rfl,rfl,.inl ⟨hg,by rw[ho];exact⟨as,h1,r,hr,h2,h3,rfl,rfl⟩⟩⟩,h4⟩
  |xcall f args =>
   simp only[Zdk,ho]at h;obtain⟨as,h1,r,hr,h2,h3,h4⟩:=h
   exact⟨⟨o.dst,_,_,_⟩,⟨rfl,rfl,.inl ⟨hg,by rw[ho];exact⟨as,h1,r,hr,h2,h3,rfl,rfl⟩⟩⟩,h4⟩
  |scall f args p =>
   simp only[Zdk,ho,Zcc]at h;obtain⟨h1,r,h2,h3,u2,h4,h5⟩:=h
   exact⟨⟨o.dst,_,_,_⟩,⟨rfl,rfl,.inl ⟨hg,by rw[ho];exact⟨h1,r,h2,h3,u2,h4,rfl,rfl⟩⟩⟩,h5⟩
  |icall f args =>
   simp only[Zdk,ho,Zcc]at h;obtain⟨h1,r,h2,h3,h4⟩:=h
   exact⟨⟨o.dst,_,_,_⟩,⟨rfl,rfl,.inl ⟨hg,by rw[ho];exact⟨h1,r,h2,h3,rfl,rfl⟩⟩⟩,h4⟩
  |pcall f args =>
   simp only[Zdk,ho,Zf9]at h;obtain⟨h1,r,h2,h3,h4⟩:=h
   exact⟨⟨o.dst,_,_,_⟩,⟨rfl,rfl,.inl ⟨hg,by rw[ho];exact⟨h1,r,h2,h3,rfl,rfl⟩⟩⟩,h4⟩
  |dcall f args =>
   simp only[Zdk,ho]at h;split at h
   .rename_i g caps hgc;obtain⟨h1,r,h2,h3,h4⟩:=h;exact⟨⟨o.dst,_,_,_⟩,⟨rfl,rfl,.inl ⟨hg,by rw[ho];exact⟨g,caps,hgc,h1,r,h2,h3,rfl,rfl⟩⟩⟩,h4⟩
   .exact h.elim
  |_ =>
   simp only[Zdk,ho]at h;split at h
   .rename_i v u hev;exact⟨⟨o.dst,v,u,_⟩,⟨rfl,rfl,.inl ⟨hg,by rw[ho];exact hev⟩⟩,h⟩
   .exact h.elim
 have skip:gSkip o s.env->K (Zcr o s []) { s with env:=put o.dst (.tup []) s.env }->∃t,Zpa Γ o t s/\K t.foot (appT t s):=λhg h =>
  ⟨⟨o.dst,.tup [],[],Zcr o s []⟩,⟨rfl,rfl,.inr ⟨hg,rfl,rfl⟩⟩,h⟩
 unfold drwG at h;split at h
 .rename_i hg;exact run (.inl hg) h
 .rename_i g want hg;split at h
  .rename_i b hb;split at h
   .rename_i hbw;subst hbw;exact run (.inr ⟨g,b,hg,hb⟩) h
   .rename_i hbw;exact skip ⟨g,want,hg,.inr ⟨b,hb,hbw⟩⟩ h
  .rename_i hb;exact skip ⟨g,want,hg,.inl hb⟩ h
  .exact h.elim
theorem Z71{Γ:Ctr}:∀(os:List MO) (s:S) (feet:List Foot) (K:List Foot->S->Prop) (i:Nat),drwW Γ os s feet K->∃ts,Steps Γ os ts s/\K (feet++ts.map (·.foot)) (Zx (λ_=>true) i ts s)
 |[],s,feet,K,i,h=>⟨[],trivial,by simp only[Yci,Y6,Zx];exact h⟩
 |o::os,s,feet,K,i,h=>by
  obtain⟨t,h1,h2⟩:=Zbop h;obtain⟨ts,h3,h4⟩:=Z71 os (appT t s) _ K (i+1) h2;refine⟨t::ts,⟨h1,h3⟩,?_⟩;simpa[Zx]using h4
theorem Zpb{L:Nat->Bool}:∀(ts:List Tr) (k:Nat) (s:S),(∀j,k<=j->L j=false)->Zx L k ts s=s
 |[],_,_,_=>rfl
 |t::ts,k,s,h=>by
  simp only[Zx,h k (Yc _),Y9,if_false];exact Zpb ts (k+1) s λj hj=>h j (by omega)
theorem Z72{Γ:Ctr}:∀(os:List MO) (ts:List Tr) (s:S) (k:Nat),Steps Γ os ts s->ts.length=os.length/\∀i o,os[i]?=some o->∃t,ts[i]?=some t/\Zpa Γ o t (Zx (λj=>decide (j<k+i)) k ts s)
 |[],[],_,_,_=>⟨rfl,by simp⟩
 |o::os,t::ts,s,k,h=>by
  obtain⟨h1,h2⟩:=h;obtain⟨h3,h4⟩:=Z72 os ts (appT t s) (k+1) h2;refine⟨by simp[h3],?_⟩;intro i o' ho
  cases i with
  |zero =>
   simp at ho;subst ho;refine⟨t,rfl,?_⟩;rw[Zpb]
   .exact h1
   .intro j hj;simp;omega
  |succ i =>
   obtain⟨t',h5,h6⟩:=h4 i o' (by simpa using ho);refine⟨t',by simpa using h5,?_⟩;have e:Zx (λj=>decide (j<k+(i+1))) k (t::ts) s=Zx (λj=>decide (j<k+1+i)) (k+1) ts (appT t s):=by
    simp only[Zx];rw[if_pos (by simp)];congr 1;funext j;congr 1;exact propext (by omega)
   rw[e]
   exact h6
 |[],_::_,_,_,h=>h.elim
 |_::_,[],_,_,h=>h.elim
theorem Zpc(d:Option Nat)(v:AV)(e:Env)(r:Nat):lk r (put d v e)=if d=some r then v else lk r e:=by
 cases d with
 |none=>simp[put]
 |some d=>simp[put,lk]
theorem Zyq{u:List (Nat×Blk)}:∀{h h':List Blk} {b:Nat},b∈u.map Prod.fst->gt (upd h u) b=gt (upd h' u) b:=by
 induction u with
 |nil=>intro h h' b hb;simp at hb
 |cons p u ih =>
  intro h h' b hb;obtain⟨c,x⟩:=p;by_cases hu:b∈u.map Prod.fst
  .exact ih hu
  .simp only[upd];rw[Zh4 hu,Zh4 hu,Zcu,Zcu];simp only[Yv,Yt]at hb;rcases hb with rfl|hb
   .simp
   .exact absurd hb hu
theorem Zboq{u:List (Nat×Blk)}{h h':List Blk}{b:Nat}(hg:gt h b=gt h' b):gt (upd h u) b=gt (upd h' u) b:=by
 by_cases hb:b∈u.map Prod.fst
 .exact Zyq hb
 .rw[Zh4 hb,Zh4 hb,hg]
theorem Zpd{L L':Nat->Bool}(r:Nat):∀(ts:List Tr) (k:Nat) (s s':S),(∀j t,ts[j]?=some t->t.dst=some r->L (k+j)=L' (k+j))->lk r s.env=lk r s'.env->lk r (Zx L k ts s).env=lk r (Zx L' k ts s').env
 |[],_,_,_,_,h=>h
 |t::ts,k,s,s',hL,h=>by
  simp only[Zx];refine Zpd r ts (k+1) _ _ (λj t' hj hd=>?_) ?_
  .have:=hL (j+1) t' (by simpa using hj) hd;rw[show k+1+j=k+(j+1) by omega];exact this
  .have h0:=hL 0 t rfl;rw[Ybu]at h0;by_cases hd:t.dst=some r
   .rw[h0 hd];cases L' k
    .simpa using h
    .simp[appT,Zpc,hd]
   .have key:∀(b:Bool) (x:S),lk r (if b=true then appT t x else x).env=lk r x.env:=by
     intro b x;cases b
     .rfl
     .simp[appT,Zpc,hd]
    rw[key,key,h]
theorem Zpe{L L':Nat->Bool}(b:Nat):∀(ts:List Tr) (k:Nat) (s s':S),(∀j t,ts[j]?=some t->b∈t.u.map Prod.fst->L (k+j)=L' (k+j))->gt s.h b=gt s'.h b->gt (Zx L k ts s).h b=gt (Zx L' k ts s').h b
 |[],_,_,_,_,h=>h
 |t::ts,k,s,s',hL,h=>by
  simp only[Zx];refine Zpe b ts (k+1) _ _ (λj t' hj hd=>?_) ?_
  .have:=hL (j+1) t' (by simpa using hj) hd;rw[show k+1+j=k+(j+1) by omega];exact this
  .have h0:=hL 0 t rfl;rw[Ybu]at h0;by_cases hd:b∈t.u.map Prod.fst
   .rw[h0 hd];cases L' k
    .simpa using h
    .simp only[if_true,appT];exact Zyq hd
   .have key:∀(c:Bool) (x:S),gt (if c=true then appT t x else x).h b=gt x.h b:=by
     intro c x;cases c
     .rfl
     .simp only[if_true,appT];exact Zh4 hd
    rw[key,key,h]
theorem Zpf{L:Nat->Bool}:∀(ts:List Tr) (k:Nat) (s:S),(Zx L k ts s).stk=s.stk
 |[],_,_=>rfl
 |t::ts,k,s=>by
  simp only[Zx];rw[Zpf ts];split<;>rfl
theorem Zti{L:Nat->Bool}:∀(ts:List Tr) (k:Nat) (s:S),s.h.length<=(Zx L k ts s).h.length/\∀j t,ts[j]?=some t->L (k+j)=true->∀b∈t.u.map Prod.fst,b<(Zx L k ts s).h.length
 |[],_,_=>⟨Yc _,by simp⟩
 |t::ts,k,s=>by
  simp only[Zx];obtain⟨h1,h2⟩:=Zti ts (k+1) (if L k=true then appT t s else s);have h3:s.h.length<=(if L k=true then appT t s else s).h.length:=by
   split
   .exact(Zyl t.u s.h).1
   .exact Yc _
  refine⟨Yo h3 h1,?_⟩;intro j t' hj hL b hb
  cases j with
  |zero =>
   simp at hj;subst hj;rw[Ybu]at hL;rw[hL]at h1|-;simp only[if_true]at h1|-
   exact Ych ((Zyl t.u s.h).2 b hb) h1
  |succ j =>
   exact h2 j t' (by simpa using hj) (by rw[show k+1+j=k+(j+1) by omega];exact hL) b hb
theorem Z73{L:Nat->Bool}{i:Nat}{t:Tr}(hi:L i=false):∀(ts:List Tr) (k:Nat) (s:S),(∃m,i=k+m/\ts[m]?=some t)->
  ((∀r,t.dst=some r->∀j t',ts[j]?=some t'->i<k+j->L (k+j)=true->t'.dst≠some r)->∀r,lk r (Zx (λj=>L j || decide (j=i)) k ts s).env=lk r (appT t (Zx L k ts s)).env)/\
  ((∀b∈t.u.map Prod.fst,∀j t',ts[j]?=some t'->i<k+j->L (k+j)=true->b ∉ t'.u.map Prod.fst)->∀b,gt (Zx (λj=>L j || decide (j=i)) k ts s).h b=gt (appT t (Zx L k ts s)).h b)
 |[],_,_,⟨m,_,h⟩=>by simp at h
 |t0::ts,k,s,⟨m,hm,ht⟩=>by
  cases m with
  |zero =>
   simp at ht;subst ht;have hik:i=k:=by omega
   subst hik;simp only[Zx,hi,Ydk,decide_true,if_true,Y9,if_false];constructor
   .intro hw r;by_cases hd:t0.dst=some r
    .have e1:=Zpd (L:=λj=>L j || decide (j=i)) (L':=λ_=>false) r ts (i+1) (appT t0 s) (appT t0 s) (λj t' hj hd'=>by
      have:=hw r hd (j+1) t' (by simpa using hj) (by omega);cases hx:L (i+1+j)
      .simp;omega
      .exact absurd hd' (this (by rw[show i+(j+1)=i+1+j by omega];exact hx))) rfl
     rw[e1,Zpb ts (i+1) _ (λ_ _=>rfl)];simp[appT,Zpc,hd]
    .have e1:=Zpd (L:=λj=>L j || decide (j=i)) (L':=L) r ts (i+1) (appT t0 s) s (λj t' hj hd'=>by
      have:(decide (i+1+j=i))=false:=by simp;omega
      simp[this]) (by simp[appT,Zpc,hd])
     rw[e1];simp[appT,Zpc,hd]
   .intro hw b;by_cases hd:b∈t0.u.map Prod.fst
    .have e1:=Zpe (L:=λj=>L j || decide (j=i)) (L':=λ_=>false) b ts (i+1) (appT t0 s) (appT t0 s) (λj t' hj hd'=>by
      have:=hw b hd (j+1) t' (by simpa using hj) (by omega);cases hx:L (i+1+j)
      .simp;omega
      .exact absurd hd' (this (by rw[show i+(j+1)=i+1+j by omega];exact hx))) rfl
     rw[e1,Zpb ts (i+1) _ (λ_ _=>rfl)];exact Zyq hd
    .have e1:=Zpe (L:=λj=>L j || decide (j=i)) (L':=L) b ts (i+1) (appT t0 s) s (λj t' hj hd'=>by
      have:(decide (i+1+j=i))=false:=by simp;omega
      simp[this]) (by simp only[appT];exact Zh4 hd)
     rw[e1];simp only[appT]
     exact(Zh4 hd).symm
  |succ m =>
   have hne:decide (k=i)=false:=by simp;omega
   simp only[Zx,hne,Bool.or_false];have ih:=Z73 hi ts (k+1) (if L k=true then appT t0 s else s) ⟨m,by omega,by simpa using ht⟩;constructor
   .intro hw;exact ih.1 λr hr j t' hj hlt hL=>hw r hr (j+1) t' (by simpa using hj) (by omega) (by rw[show k+(j+1)=k+1+j by omega];exact hL)
   .intro hw;exact ih.2 λb hb j t' hj hlt hL=>hw b hb (j+1) t' (by simpa using hj) (by omega) (by rw[show k+(j+1)=k+1+j by omega];exact hL)
theorem Zyr{L:Nat->Bool}:∀(bs:List (List Nat)) (acc:List (List Nat)),(∀j b,bs[j]?=some b->L (acc.length+j)=true->∀i∈b,L i=true)->(∀j c,acc[j]?=some c->L j=true->∀i∈c,L i=true)->
  ∀j c,(Zo1 bs acc)[j]?=some c->L j=true->∀i∈c,L i=true
 |[],acc,_,h=>h
 |b::bs,acc,hb,h=>by
  simp only[Zo1];refine Zyr bs _ (λj b' hj hL=>hb (j+1) b' (by simpa using hj) (by simp at hL;rw[show acc.length+(j+1)=acc.length+1+j by omega];exact hL)) ?_;intro j c hj hL i hi;rw[List.getElem?_append]at hj;split at hj
  .exact h j c hj hL i hi
  .rename_i hlt;have hj0:j=acc.length:=by
    by_cases hz:j-acc.length=0
    .omega
    .rw[Ybt (by simp;omega)]at hj;cases hj
   subst hj0;simp at hj;subst hj;have h0:=hb 0 b rfl (by simpa using hL);rcases Yi.1 hi with hi|hi
   .exact h0 i hi
   .obtain⟨i',h1,h2⟩:=Yc6.1 hi;have hL':=h0 i' h1
    cases hx:acc[i']? with
    |none=>rw[hx]at h2;simp at h2
    |some c'=>rw[hx]at h2;exact h i' c' hx hL' i h2
theorem Z74{before:List (List Nat)}{feet:List Foot}(h:Zhy before feet=true){i j:Nat}{f g:Foot}(hi:feet[i]?=some f)(hj:feet[j]?=some g)(hij:i<j)(hc:Zen f g=true) :
  ∃c,(Zo1 before [])[j]?=some c/\i∈c:=by
 unfold Zhy at h;have hjl:j<feet.length:=by
  by_cases hx:j<feet.length
  .exact hx
  .rw[Ybt (by omega)]at hj;cases hj
 have h1:=Yq.1 h j (Ybj.2 hjl);unfold Z6t at h1;rw[hj]at h1;split at h1
 .rename_i g' c hg hcl;cases hg;have h2:=Yq.1 h1 i (Ybj.2 hij);rw[hi]at h2;simp only[hc,Bool.not_true,Ydk]at h2;exact⟨c,hcl,by simpa using h2⟩
 .cases h1
theorem Zys{Γ:Ctr}{f:Nat}{vs:List AV}{h h':List Blk}{nx:Nat}{K:AV->List (Nat×Blk)->Prop}(hh:∀b∈Zbd h 200 (Zp vs) [],gt h b=gt h' b)(hr:Zcc Γ f vs h nx K):Zcc Γ f vs h' nx K:=by
 obtain⟨e1,e2,e3⟩:=Z7z hh;unfold Zcc;rw[e1,e2,e3];exact hr
theorem Zbor{Γ:Ctr}{f:Nat}{vs:List AV}{h h':List Blk}{nx:Nat}{K:AV->List (Nat×Blk)->Prop}(hh:∀b∈Zbd h 200 (Zp vs) [],gt h b=gt h' b)(hr:Zf9 Γ f vs h nx K):Zf9 Γ f vs h' nx K:=by
 obtain⟨e1,e2,e3⟩:=Z7z hh;unfold Zf9;rw[e1,e2,e3];exact hr
theorem Zbos{Γ:Ctr}{f:Nat}{vs:List AV}{h:List Blk}{nx:Nat}{K K':AV->List (Nat×Blk)->Prop}(hr:Zcc Γ f vs h nx K)(hK:∀v u,K v u->K' v u):Zcc Γ f vs h nx K':=by
 obtain⟨h1,r,h2,h3,h4⟩:=hr;exact⟨h1,r,h2,h3,hK _ _ h4⟩
theorem Zyt{h:List Blk}:∀(n:Nat) (A B acc:List Nat),∀b∈Zbd h n A acc,b∈Zbd h n (A++B) acc
 |0,_,_,_,b,hb=>by simpa[Zbd]using hb
 |n+1,[],B,acc,b,hb=>Zth _ _ _ b (by simpa[Zbd]using hb)
 |n+1,c::A,B,acc,b,hb=>by
  simp only[Zbd,Ydx]at hb|-;split
  .rename_i hc;rw[if_pos hc]at hb;exact Zyt n A B acc b hb
  .rename_i hc;rw[if_neg hc]at hb;have:=Zyt n (Zb5 (gt h c)++A) B (acc++[c]) b hb
   rwa [Yn]at this
theorem Zbot{Γ:Ctr}{h h':List Blk}{e e':Env}{nx:Nat}{k:MOp}{v:AV}{u:List (Nat×Blk)}(he:∀x∈Zq k,ev e x=ev e' x)(hh:∀b∈Zhx h (frefs k e),gt h b=gt h' b)
  (hr:opR Γ h nx e k v u):opR Γ h' nx e' k v u:=by
 cases k with
 |call f args =>
  obtain⟨as,h1,r,hr,h2,h3,h4,h5⟩:=hr;have e1:args.map (ev e')=args.map (ev e):=Yb7 λx hx=>(he x (by simpa[Zq]using hx)).symm
  refine⟨as,?_,r,hr,h2,by rw[e1];exact h3,h4,h5⟩;rw[e1,<-h1]
  exact(Z7y (Z7w hh)).symm
 |xcall f args =>
  obtain⟨as,h1,r,hr,h2,h3,h4,h5⟩:=hr;have e1:args.map (ev e')=args.map (ev e):=Yb7 λx hx=>(he x (by simpa[Zq]using hx)).symm
  refine⟨as,?_,r,hr,h2,h3,h4,h5⟩;rw[e1,<-h1]
  exact(Z7y (Z7w hh)).symm
 |scall f args p =>
  have e1:args.map (ev e')=args.map (ev e):=Yb7 λx hx=>(he x (by simp[Zq,hx])).symm
  have e2:ev e' p=ev e p:=(he p (by simp[Zq])).symm;have e3:frefs (.scall f args p) e=Zp (args.map (ev e))++refs (ev e p):=by simp[frefs,Zq,Zbob,Zp]
  rw[e3]at hh;simp only[opR]at hr|-;rw[e1,e2];refine Zbos (Zys (λb hb=>hh b (Ztg (Zyt 200 _ _ _ b hb))) hr) ?_;rintro v' u' ⟨u2,q1,q2,q3⟩;refine⟨u2,?_,q2,q3⟩;rw[<-q1]
  cases hx:ev e p with
  |eptr b i sz off =>
   have hb:b∈Zp (args.map (ev e))++refs (ev e p):=by rw[hx];simp[refs]
   have hg:=hh b (Zyo hb);unfold Zf8;simp only;split
   .rfl
   .rw[<-hg]
    cases hd:gt h b with
    |det el sz es i off c =>
     simp only
     rw[Zboq (hh c (Z7v hb (by rw[hd];simp[Zb5])))]
    |_=>rfl
  |_=>rfl
 |icall f args =>
  have e1:args.map (ev e')=args.map (ev e):=Yb7 λx hx=>(he x (by simpa[Zq]using hx)).symm
  simp only[opR]at hr|-;rw[e1]
  exact Zys (λb hb=>hh b (Ztg hb)) hr
 |pcall f args =>
  have e1:args.map (ev e')=args.map (ev e):=Yb7 λx hx=>(he x (by simpa[Zq]using hx)).symm
  simp only[opR]at hr|-;rw[e1]
  exact Zbor (λb hb=>hh b (Ztg hb)) hr
 |dcall f args =>
  obtain⟨g,caps,hg,hr⟩:=hr;have e1:args.map (ev e')=args.map (ev e):=Yb7 λx hx=>(he x (by simp[Zq,hx])).symm
  refine⟨g,caps,by rw[<-he f (by simp[Zq])];exact hg,?_⟩;rw[e1];refine Zys (λb hb=>hh b (Ztg ?_)) hr;simp only[frefs,hg]
  exact hb
 |mov x =>
  change Zn h nx e (.mov x)=some (v,u)at hr;show Zn h' nx e' (.mov x)=some (v,u);simp only[Zn]at hr|-;rw[<-he x (by simp[Zq])]
  exact hr
 |_ =>
  show Zn h' nx e' _=some (v,u);rw[<-Zbon he (λx hx b hb=>hh b (Zyo (Zboc (Y3.2 ⟨x,hx,rfl⟩) hb)))];exact hr
section
variable{P:Program}{N:Par}{base:Nat}{w0:World}{nt:Nat}{ts:List (Array Value)}{inl:List Nat}
structure RelD (N:Par) (base:Nat) (w0:World) (nt:Nat) (ts:List (Array Value)) (D:Nat->Prop) (ρ:Map) (s:S) (a:Act) (w:World):Prop where
 rel:Rel N base ρ s.h w
 env:Zbo ρ w (Free N ρ s.h) s.env a.tmps
 stk:Zdy ρ w (Free N ρ s.h) s.stk ts
 dom:∀b,D b->ρ b=none
 defers:a.defers=[]
 size:a.tmps.size=nt
 below:Below base w0 w
 kn:∀g,g<w0.heap.size->¬N.a g->w.heap[g]?=w0.heap[g]?
 fz:∀g,g<w0.heap.size->N.z g->Free N ρ s.h g/\w.heap[g]?=w0.heap[g]?
theorem RelD.congr{D D':Nat->Prop}{ρ:Map}{s s':S}{a:Act}{w:World}(h:RelD N base w0 nt ts D ρ s a w)(hl:∀r,lk r s.env=lk r s'.env)(hg:∀b,gt s.h b=gt s'.h b)(hk:s.stk=s'.stk)(hD:∀b,D' b->D b) :
  RelD N base w0 nt ts D' ρ s' a w:=by
 refine⟨h.rel.congr hg,?_,?_,λb hb=>h.dom b (hD b hb),h.defers,h.size,h.below,h.kn,by rw[<-Free.congr hg];exact h.fz⟩
 .intro r;rw[<-hl,<-Free.congr hg];exact h.env r
 .rw[<-hk,<-Free.congr hg];exact h.stk
theorem RelD.after{D D':Nat->Prop}{ρ ρ':Map}{s:S}{a:Act}{w w':World}(hS:RelD N base w0 nt ts D ρ s a w){v:AV}{u:List (Nat×Blk)}{val:Value}(hA:After N base ρ s.h w v u val w' ρ'){d:Option Nat}(hd:∀x,d=some x->x<nt)
  (hD:∀b,D' b->D b/\b ∉ u.map Prod.fst):RelD N base w0 nt ts D' ρ' { s with env:=put d v s.env,h:=upd s.h u } (a.put d val) w':=by
 refine⟨hA.rel,Ztd (λs=>(hS.env s).keep hA.keeps) hA.val λx hx=>by rw[hS.size];exact hd x hx,hS.stk.keep hA.keeps,?_,by rw[Zte];exact hS.defers,by rw[Ztf];exact hS.size,hS.below.trans hA.below,
  λg hg hn=>(hA.kn g (Ych hg hS.below.size) hn).trans (hS.kn g hg hn),λg hg hz=>?_⟩
 .intro b hb;exact hA.same b (hD b hb).2 (hS.dom b (hD b hb).1)
 .obtain⟨h1,h2⟩:=hS.fz g hg hz;obtain⟨h3,h4⟩:=hA.keeps.free g (Ych hg hS.below.size) h1;exact⟨h3,h4.trans h2⟩
theorem RelD.skip{D:Nat->Prop}{ρ:Map}{s:S}{a:Act}{w:World}(hS:RelD N base w0 nt ts D ρ s a w){d:Option Nat}(hd:∀x,d=some x->x<nt) :
  RelD N base w0 nt ts D ρ { s with env:=put d (.tup []) s.env } (a.put d undef) w :=
 ⟨hS.rel,Ztd hS.env (RV.tup (c:=#[]) .nil) λx hx=>by rw[hS.size];exact hd x hx,hS.stk,hS.dom,by rw[Zte];exact hS.defers,by rw[Ztf];exact hS.size,hS.below,hS.kn,hS.fz⟩
theorem Zjl{a b:List Nat}{x:Nat}(h:x∈a)(h':x∈b):Zg3 a b=true:=by
 unfold Zg3;exact List.any_eq_true.2 ⟨x,h,by simpa using h'⟩
end
open Go.RowKit (Below)
section
variable{P:Program}{N:Par}{base:Nat}{w0:World}{nt:Nat}{ts:List (Array Value)}{inl:List Nat}
theorem Z75{α β:Type}{f:α->Option β}:∀{l:List α} {os:List β},mapO f l=some os->∀{i:Nat} {o:α},l[i]?=some o->∃m,os[i]?=some m/\f o=some m
 |[],_,_,_,_,h=>by simp at h
 |x::l,os,hm,i,o,h=>by
  obtain⟨m,ms,h1,h2,rfl⟩:=Zfj hm
  cases i with
  |zero=>simp at h;subst h;exact⟨m,rfl,h1⟩
  |succ i =>
   obtain⟨m',h3,h4⟩:=Z75 h2 (i:=i) (o:=o) (by simpa using h);exact⟨m',by simpa using h3,h4⟩
theorem Z76:∀{bs:List (List Nat)} {k:Nat},backB bs k=true->∀{j:Nat} {b:List Nat},bs[j]?=some b->∀i∈b,i<k+j
 |[],_,_,_,_,h=>by simp at h
 |x::bs,k,hb,j,b,h=>by
  simp only[backB,Yf,Yq,decide_eq_true_eq]at hb;intro i hi
  cases j with
  |zero=>simp at h;subst h;exact hb.1 i hi
  |succ j=>have:=Z76 hb.2 (j:=j) (b:=b) (by simpa using h) i hi;omega
theorem Ztj{listed:Array Bool}{i j:Nat}(hi:i<listed.size):(listed.setIfInBounds i true).getD j false=(listed.getD j false || decide (j=i)):=by
 simp only[Ybx,Array.getElem?_setIfInBounds];by_cases h:i=j
 .subst h;simp[hi]
 .have:¬j=i:=λe=>h e.symm
  simp[h,this]
variable{ops:Array Oper}{os:List MO}{tr:List Tr}{s0:S}{Qc:Exit->Act->World->Prop}
def domD(tr:List Tr)(s0:S)(L:Nat->Bool)(b:Nat):Prop:=s0.h.length<=b/\∀j t,tr[j]?=some t->L j=true->b ∉ t.u.map Prod.fst
theorem Zbou(hback:backB (ops.toList.map Zcx) 0=true){listed:Array Bool}(hsz:listed.size=ops.size)(hr:Region.ready .any ops listed=[]):∀j,j<ops.size->listed.getD j false=true:=by
 intro j
 induction j using Nat.strongRecOn with
 |ind j ih =>
  intro hj
  cases hc:listed.getD j false with
  |true=>rfl
  |false =>
   exfalso;have hmem:j∈Region.ready .any ops listed:=by
    unfold Region.ready;refine Y7.2 ⟨Ybj.2 hj,?_⟩;have h1:listed.getD j true=false:=by
     rw[Ybx]at hc|-;have:j<listed.size:=by omega
     simp[this]at hc|-;exact hc
    have h2:ops[j]?=some ops[j]:=by simp[hj]
    rw[h1,h2];simp only[Bool.not_false,Yx,Option.map_some,Option.getD_some];rw[Array.all_eq_true_iff_forall_mem];intro e he
    cases hb:Region.binds .any e with
    |false=>rfl
    |true =>
     simp only[Bool.not_true,Ydk];have hin:e.on∈Zcx ops[j]:=by
      unfold Zcx;refine Ydl.2 ⟨e,by simpa using he,by simp[hb]⟩
     have hlt:=Z76 hback (j:=j) (b:=Zcx ops[j]) (by simp[hj]) e.on hin;exact ih e.on (by omega) (by omega)
   rw[hr]at hmem;cases hmem
theorem Z77{K:S->Prop}(hQ:∀s a w ρ,K s->RelS N base w0 nt ts ρ s a w->Qc .normal a w)(hlen:tr.length=ops.size)(hK:K (Zx (λ_=>true) 0 tr s0)){listed:Array Bool}(hall:∀j,j<ops.size->listed.getD j false=true)
  {ρ:Map} {a:Act} {w:World} (hS:RelD N base w0 nt ts (domD tr s0 (listed.getD · false)) ρ (Zx (listed.getD · false) 0 tr s0) a w):Qc .normal a w:=by
 have hj:∀(j:Nat) (t:Tr),tr[j]?=some t->listed.getD (0+j) false=true:=by
  intro j t h;rw[Ys];refine hall j ?_;by_cases hx:j<tr.length
  .omega
  .rw[Ybt (by omega)]at h;cases h
 have h1:=hS.congr (s':=Zx (λ_=>true) 0 tr s0) (D':=domD tr s0 (listed.getD · false)) (λr=>Zpd r tr 0 _ _ (λj t h _=>hj j t h) rfl) (λb=>Zpe b tr 0 _ _ (λj t h _=>hj j t h) rfl) (by rw[Zpf,Zpf]) (λ_ h=>h);refine hQ _ a w ρ hK ⟨h1.rel,h1.env,h1.stk,?_,h1.defers,h1.size,h1.below,h1.kn,h1.fz⟩;intro b hb;have hl:=Zti (L:=λ_=>true) tr 0 s0;refine h1.dom b ⟨by omega,?_⟩;intro j t h _ hin;have:=hl.2 j t h rfl b hin;omega
theorem drw_any(hos:mapO (compO P inl nt ops) ops.toList=some os)(hback:backB (ops.toList.map Zcx) 0=true)(hst:Steps (Zbt P) os tr s0)(hord:Zhy (ops.toList.map Zcx) (tr.map (·.foot))=true)
  {K:S->Prop} (hQ:∀s a w ρ,K s->RelS N base w0 nt ts ρ s a w->Qc .normal a w) (hK:K (Zx (λ_=>true) 0 tr s0)) :
  ∀(fuel:Nat) (listed:Array Bool) (a:Act) (w:World) (ρ:Map),listed.size=ops.size->listed.toList.count false<=fuel->
   (∀j b,(ops.toList.map Zcx)[j]?=some b->listed.getD j false=true->∀i∈b,listed.getD i false=true)->
   RelD N base w0 nt ts (domD tr s0 (listed.getD · false)) ρ (Zx (listed.getD · false) 0 tr s0) a w->wpAny P .any ops Qc fuel listed a w:=by
 obtain⟨hl1,hat⟩:=Z72 os tr s0 0 hst;have hlen:tr.length=ops.size:=by rw[hl1,Zya hos];simp
 have hdst:∀(j:Nat) (t:Tr),tr[j]?=some t->(∀r,t.dst=some r->r∈t.foot.ws)/\t.u.map Prod.fst=t.foot.wb:=by
  intro j t h;have hj:j<os.length:=by
   by_cases hx:j<tr.length
   .omega
   .rw[Ybt (by omega)]at h;cases h
  obtain⟨t',h1,h2,h3,_⟩:=hat j os[j] (by simp[hj]);rw[h]at h1;cases h1;rw[h3];exact⟨λr hr=>by simp[Zcr,<-h2,hr],rfl⟩
 intro fuel
 induction fuel with
 |zero =>
  intro listed a w ρ hsz hc hcl hS;have hall:∀j,j<ops.size->listed.getD j false=true:=by
   intro j hj
   cases hx:listed.getD j false with
   |true=>rfl
   |false =>
    exfalso;have:false∈listed.toList:=by
     rw[Ybx]at hx;have hj':j<listed.size:=by omega
     simp[hj']at hx;rw[<-hx];exact Array.getElem_mem_toList hj'
    have:=List.count_pos_iff.2 this;omega
  refine⟨?_,Z77 hQ hlen hK hall hS⟩;unfold Region.ready;refine Yeb.2 ?_;intro i hi;have hi':=Ybj.1 hi;have h1:=hall i hi';have h2:listed.getD i true=true:=by
   rw[Ybx]at h1|-;have:i<listed.size:=by omega
   simp[this]at h1|-;exact h1
  simp[h2]
 |succ fuel ih =>
  intro listed a w ρ hsz hc hcl hS;refine⟨λhr=>Z77 hQ hlen hK (Zbou hback hsz hr) hS,?_⟩;intro i hi;unfold Region.ready at hi;obtain⟨hir,hcond⟩:=Y7.1 hi;have hin:i<ops.size:=Ybj.1 hir;have hil:i<listed.size:=by omega
  have hops:ops[i]?=some ops[i]:=by simp[hin]
  rw[hops]at hcond;simp only[Option.map_some,Option.getD_some,Yf,Bool.not_eq_true',Array.all_eq_true_iff_forall_mem]at hcond;obtain⟨hLt,haft⟩:=hcond;have hLi:listed.getD i false=false:=by
   rw[Ybx]at hLt|-;simp[hil]at hLt|-;exact hLt
  have hbef:∀j∈Zcx ops[i],listed.getD j false=true:=by
   intro j hj;unfold Zcx at hj;obtain⟨e,he,hj⟩:=Ydl.1 hj;have h1:=haft e (by simpa using he);split at hj
   .rename_i hb;cases hj;simpa[hb]using h1
   .cases hj
  -- the operation
  obtain⟨m,hm,hcm⟩:=Z75 hos (i:=i) (o:=ops[i]) (by simp[hin]);obtain⟨hk,hmd,hd,hguard⟩:=Z7r hcm;obtain⟨t,ht,htd,htf,hstep⟩:=hat i m hm
  -- the new list
  have hcl':∀(j:Nat) (b:List Nat),(ops.toList.map Zcx)[j]?=some b->(listed.setIfInBounds i true).getD j false=true->∀x∈b,(listed.setIfInBounds i true).getD x false=true:=by
   intro j b hb hj x hx;rw[Ztj hil]at hj|-;by_cases hji:j=i
   .subst hji;have:b=Zcx ops[j]:=by simp[hin]at hb;exact hb.symm
    subst this;rw[hbef x hx];rfl
   .simp only[hji,decide_false,Bool.or_false]at hj;rw[hcl j b hb hj x hx];rfl
  -- who is in Zen
  have low:∀(j:Nat) (t':Tr),tr[j]?=some t'->j<i->Zen t'.foot t.foot=true->listed.getD j false=true:=by
   intro j t' hj hlt hcf;obtain⟨c,h1,h2⟩:=Z74 hord (i:=j) (j:=i) (f:=t'.foot) (g:=t.foot) (by simp[hj]) (by simp[ht]) hlt hcf;have h3:=Zyr (L:=λj=>(listed.setIfInBounds i true).getD j false) (ops.toList.map Zcx) [] (λj b hb hL=>hcl' j b hb (by simpa using hL)) (by simp) i c h1 (by simp only[Ztj hil,decide_true,Bool.or_true]) j h2;simp only[Ztj hil]at h3;have:¬j=i:=by omega
   simpa[this]using h3
  have high:∀(j:Nat) (t':Tr),tr[j]?=some t'->i<j->Zen t.foot t'.foot=true->listed.getD j false=true->False:=by
   intro j t' hj hlt hcf hL;obtain⟨c,h1,h2⟩:=Z74 hord (i:=i) (j:=j) (f:=t.foot) (g:=t'.foot) (by simp[ht]) (by simp[hj]) hlt hcf;have h3:=Zyr (L:=λj=>listed.getD j false) (ops.toList.map Zcx) [] (λj b hb hL=>hcl j b hb (by simpa using hL)) (by simp) j c h1 hL i h2;simp only[hLi]at h3;cases h3
  -- what it looks at stands as in the text's order
  have hlk:∀r∈t.foot.rs,lk r (Zx (λj=>decide (j<0+i)) 0 tr s0).env=lk r (Zx (listed.getD · false) 0 tr s0).env:=by
   intro r hr;refine Zpd r tr 0 _ _ (λj t' hj hd'=>?_) rfl;have hw:=(hdst j t' hj).1 r hd';rcases Ydj j i with hlt|rfl|hgt
   .rw[Ys,Ys,low j t' hj hlt (by simp[Zen,Zjl hw (Yc4 t.foot.ws hr)])];simpa using hlt
   .rw[Ys,hLi];simp
   .rw[Ys,Ys]
    cases hx:listed.getD j false with
    |true=>exact(high j t' hj hgt (by simp[Zen,Zjl hw hr]) hx).elim
    |false=>simp;omega
  have hgt':∀b∈t.foot.rb,gt (Zx (λj=>decide (j<0+i)) 0 tr s0).h b=gt (Zx (listed.getD · false) 0 tr s0).h b:=by
   intro b hb;refine Zpe b tr 0 _ _ (λj t' hj hd'=>?_) rfl;have hw:b∈t'.foot.wb:=by rw[<-(hdst j t' hj).2];exact hd'
   rcases Ydj j i with hlt|rfl|hgt
   .rw[Ys,Ys,low j t' hj hlt (by simp[Zen,Zjl hw (Yc4 t.foot.wb hb)])];simpa using hlt
   .rw[Ys,hLi];simp
   .rw[Ys,Ys]
    cases hx:listed.getD j false with
    |true=>exact(high j t' hj hgt (by simp[Zen,Zjl hw hb]) hx).elim
    |false=>simp;omega
  have hLfun:(λj=>(listed.setIfInBounds i true).getD j false)=(λj=>listed.getD j false || decide (j=i)):=by
   funext j;exact Ztj hil
  have hins:=Z73 (L:=λj=>listed.getD j false) (i:=i) (t:=t) hLi tr 0 s0 ⟨i,by omega,ht⟩;have hcount:(listed.setIfInBounds i true).toList.count false<=fuel:=by
   rw[Yd8,List.count_set (by simpa using hil)];have hx:listed.toList[i]'(by simpa using hil)=false:=by
    rw[Ybx]at hLi;simpa[hil]using hLi
   rw[hx];simp;have:0<listed.toList.count false:=List.count_pos_iff.2 (by rw[<-hx];exact Yd _);simp at this hc;omega
  -- the state behind it
  have next:∀a' w' ρ',RelD N base w0 nt ts (domD tr s0 λj=>listed.getD j false || decide (j=i)) ρ' (appT t (Zx (listed.getD · false) 0 tr s0)) a' w'->wpAny P .any ops Qc fuel (listed.setIfInBounds i true) a' w':=by
   intro a' w' ρ' hR;refine ih _ a' w' ρ' (by simpa using hsz) hcount hcl' ?_;rw[hLfun];refine hR.congr (λr=>(hins.1 ?_ r).symm) (λb=>(hins.2 ?_ b).symm) (by rw[Zpf];exact Zpf tr 0 s0) (λ_ h=>h)
   .intro r hr j t' hj hlt hL hd';rw[Ys]at hlt hL;exact high j t' hj hlt (by simp[Zen,Zjl ((hdst i t ht).1 r hr) (Yc5 t'.foot.rs ((hdst j t' hj).1 r hd'))]) hL
   .intro b hb j t' hj hlt hL hd';rw[Ys]at hlt hL;have hb1:b∈t.foot.wb:=by rw[<-(hdst i t ht).2];exact hb
    have hb2:b∈t'.foot.wb:=by rw[<-(hdst j t' hj).2];exact hd'
    exact high j t' hj hlt (by simp[Zen,Zjl hb1 (Yc5 t'.foot.rb hb2)]) hL
  have hrs:∀x∈Zq m.op,∀r∈Zsy x,r∈t.foot.rs:=by
   intro x hx r hr;rw[htf];simp only[Zcr];exact Yc4 _ (Yc6.2 ⟨x,hx,hr⟩)
  have hgs:∀g b,m.guard=some (g,b)->g∈t.foot.rs:=by
   intro g b hg;rw[htf];simp only[Zcr,hg];exact Yc5 _ (by simp)
  have he:∀x∈Zq m.op,ev (Zx (λj=>decide (j<0+i)) 0 tr s0).env x=ev (Zx (listed.getD · false) 0 tr s0).env x:=by
   intro x hx
   cases x with
   |c v=>rfl
   |s r=>exact hlk r (hrs _ hx r (by simp[Zsy]))
  have hh:∀b∈Zhx (Zx (λj=>decide (j<0+i)) 0 tr s0).h (frefs m.op (Zx (λj=>decide (j<0+i)) 0 tr s0).env),gt (Zx (λj=>decide (j<0+i)) 0 tr s0).h b=gt (Zx (listed.getD · false) 0 tr s0).h b:=by
   intro b hb;refine hgt' b ?_;rw[htf];exact hb
  have hlI:=Zti (L:=λj=>decide (j<0+i)) tr 0 s0;have hlT:=Zti (L:=λ_=>true) tr 0 s0;have hu:∀b,b∈t.u.map Prod.fst->(Zx (λj=>decide (j<0+i)) 0 tr s0).h.length<=b->ρ b=none:=by
   intro b hb hle;refine hS.dom b ⟨by omega,?_⟩;intro j t' hj hL hin';have hw:b∈t'.foot.wb:=by rw[<-(hdst j t' hj).2];exact hin'
   have hb':b∈t.foot.wb:=by rw[<-(hdst i t ht).2];exact hb
   rcases Ydj j i with hlt|rfl|hgt
   .have:=hlI.2 j t' hj (by simpa using hlt) b hin';omega
   .simp only[hLi]at hL;cases hL
   .exact high j t' hj hgt (by simp[Zen,Zjl hb' (Yc5 t'.foot.rb hw)]) hL
  have hDnew:∀b,domD tr s0 (λj=>listed.getD j false || decide (j=i)) b->domD tr s0 (listed.getD · false) b/\b ∉ t.u.map Prod.fst:=by
   intro b hb;refine⟨⟨hb.1,λj t' hj hL=>hb.2 j t' hj (by simp only at hL|-;rw[hL];rfl)⟩,hb.2 i t ht (by simp)⟩
  have hrun:opR (Zbt P) (Zx (λj=>decide (j<0+i)) 0 tr s0).h (Zx (λj=>decide (j<0+i)) 0 tr s0).h.length (Zx (λj=>decide (j<0+i)) 0 tr s0).env m.op t.v t.u->
    (ops[i]).wp P a w (wpAny P .any ops Qc fuel (listed.setIfInBounds i true)) Qc:=by
   intro hop;have hop':=Zbot he hh hop;have fin:∀val w' ρ',After N base ρ (Zx (listed.getD · false) 0 tr s0).h w t.v t.u val w' ρ'->wpAny P .any ops Qc fuel (listed.setIfInBounds i true) (a.put (ops[i]).dst val) w':=by
    intro val w' ρ' hA;refine next _ _ ρ' ?_
    have:=hS.after hA (d:=(ops[i]).dst) hd hDnew;rw[<-hmd,<-htd]at this|-;exact this
   by_cases hcall:isC m.op
   .exact Ztc hk hS.env hS.rel (.inl hcall) hu hop' fin
   .by_cases hnx:(Zx (λj=>decide (j<0+i)) 0 tr s0).h.length∈t.u.map Prod.fst
    .exact Ztc hk hS.env hS.rel (.inr (hu _ hnx (Yc _))) hu hop' fin
    .have hM:opR (Zbt P) (Zx (listed.getD · false) 0 tr s0).h (Zx (λ_=>true) 0 tr s0).h.length (Zx (listed.getD · false) 0 tr s0).env m.op t.v t.u:=by
      cases hmop:m.op with
      |call f args=>rw[hmop]at hcall;exact absurd trivial hcall
      |xcall f args=>rw[hmop]at hcall;exact absurd trivial hcall
      |scall f args p=>rw[hmop]at hcall;exact absurd trivial hcall
      |icall f args=>rw[hmop]at hcall;exact absurd trivial hcall
      |pcall f args=>rw[hmop]at hcall;exact absurd trivial hcall
      |dcall f args=>rw[hmop]at hcall;exact absurd trivial hcall
      |_=>rw[hmop]at hop';exact Zboo hop' hnx _
     refine Ztc hk hS.env hS.rel (nx:=(Zx (λ_=>true) 0 tr s0).h.length) (.inr ?_) ?_ hM fin
     .refine hS.dom _ ⟨hlT.1,?_⟩;intro j t' hj _ hin';have:=hlT.2 j t' hj rfl _ hin';omega
     .intro b hb hle;have:=hlT.2 i t ht rfl b hb;omega
  have hskip:t.v=.tup []->t.u=[]->wpAny P .any ops Qc fuel (listed.setIfInBounds i true) (a.put (ops[i]).dst undef) w:=by
   intro hv hu0;refine next _ _ ρ ?_
   have:=(hS.skip (d:=(ops[i]).dst) hd).congr (D':=domD tr s0 λj=>listed.getD j false || decide (j=i)) (s':=appT t (Zx (listed.getD · false) 0 tr s0)) (λr=>by rw[<-hmd,<-htd];simp[appT,hv]) (λb=>by simp[appT,hu0,upd]) rfl (λb hb=>(hDnew b hb).1);exact this
  unfold wpOp;rw[hops];simp only;rcases hguard with⟨hg1,hg2⟩|⟨j,b,d,hg1,hg2,hg3⟩
  .simp only[Region.wanted,hg1,if_true];rcases hstep with⟨_,hop⟩|⟨⟨g,b,hg,_⟩,_,_⟩
   .exact .inl (hrun hop)
   .rw[hg2]at hg;cases hg
  .have hw:=Z7s hS.env hg1 hg2;have hlkd:=hlk d (hgs d b hg3);rcases hstep with⟨hgr,hop⟩|⟨⟨g,b',hg,hsk⟩,hv,hu0⟩
   .rcases hgr with hgn|⟨g,b',hg,hb'⟩
    .rw[hg3]at hgn;cases hgn
    .rw[hg3]at hg;cases hg;rw[hlkd]at hb';rw[hw.1 b hb'];simp only[decide_true,if_true];exact .inl (hrun hop)
   .rw[hg3]at hg;cases hg;rw[hlkd]at hsk;rcases hsk with hsk|⟨c,hc',hne⟩
    .rw[hw.2 hsk];simp only[Y9,if_false];exact hskip hv hu0
    .rw[hw.1 c hc'];simp only[hne,decide_false,Y9,if_false];exact hskip hv hu0
theorem RelS.drew{ρ:Map}{s:S}{a:Act}{w:World}(hS:RelS N base w0 nt ts ρ s a w):RelS N base w0 nt ts ρ s a { w with drawn:=w.drawn+1 }:=by
 have hk:Keeps ρ w (Free N ρ s.h) ρ { w with drawn:=w.drawn+1 } (Free N ρ s.h):=⟨λ_ r h=>⟨r,h,rfl⟩,λ_ _ h=>⟨h,rfl⟩⟩;have hb:Below base w { w with drawn:=w.drawn+1 }:=⟨rfl,rfl,rfl,Yc _,λ_ _=>rfl⟩;obtain⟨R,hE,hst,hdom,hdf,hsz,hB,hkn,hfz⟩:=hS;obtain⟨h1,h2,h0,h3,h4,h5⟩:=R;refine⟨⟨h1,h2,h0,?_,h4,h5⟩,λs=>(hE s).keep hk,hst.keep hk,hdom,hdf,hsz,hB.trans hb,hkn,hfz⟩;intro b hne;obtain⟨r,q1,q2⟩:=h3 b hne;exact⟨r,q1,q2.keep hk λ_ _=>rfl⟩
theorem Zbov{Γ:Ctr}(hΓ:Γ=Zbt P){ops:Array Oper}{os:List MO}(hos:mapO (compO P inl nt ops) ops.toList=some os)(hback:backB (ops.toList.map Zcx) 0=true)(hmix:P.follows .mixedOrders=true)
  {Qc:Exit->Act->World->Prop} {K:S->Prop} (hQ:∀s a w ρ,K s->RelS N base w0 nt ts ρ s a w->Qc .normal a w) {id:Nat} {s:S} {a:Act} {w:World} {ρ:Map}
  (hW:drwW Γ os s [] λfeet s'=>Zhy (ops.toList.map Zcx) feet=true/\K s') (hS:RelS N base w0 nt ts ρ s a w):(Code.region id ops true).wp P Qc a w:=by
 obtain⟨tr,hst,hord,hK⟩:=Z71 os s [] _ 0 hW;rw[hΓ]at hst;rw[Ybl]at hord;refine wp_region_any hmix ?_;have hD:=hS.drew;have hf:∀j,(Array.replicate ops.size false).getD j false=false:=by
  intro j;rw[Ybx];by_cases h:j<ops.size<;>simp[h]
 have hfun:(λj=>(Array.replicate ops.size false).getD j false)=λ_=>false:=funext hf
 refine drw_any hos hback hst hord hQ hK ops.size _ a _ ρ (by simp) ?_ ?_ ?_
 .simp
 .intro j b _ h;rw[hf]at h;cases h
 .rw[hfun,Zpb tr 0 s (λ_ _=>rfl)];exact⟨hD.rel,hD.env,hD.stk,λb hb=>hD.dom b hb.1,hD.defers,hD.size,hD.below,hD.kn,hD.fz⟩
end
open Go.RowKit (Below)
section
variable{P:Program}{N:Par}{base:Nat}{w0:World}{nt:Nat}{ts:List (Array Value)}{inl:List Nat}
theorem Zdy.ren{ρ ρ':Map}{w:World}{F F':Nat->Prop}(f:Nat->Nat)(hF:∀g,g<w.heap.size->F g->F' g):∀{es:List Env} {ts:List (Array Value)},Zdy ρ w F es ts->(∀b∈es.flatMap Zfg,∀r,ρ b=some r->ρ' (f b)=some r)->Zdy ρ' w F' (es.map (renE f)) ts
 |[],[],_,_=>trivial
 |_::_,_::_,h,hr=>⟨h.1.ren f (λb hb=>hr b (by simp only[Ybr,Yi];exact .inl hb)) hF,Zdy.ren f hF h.2 λb hb=>hr b (by simp only[Ybr,Yi];exact .inr hb)⟩
 |[],_::_,h,_=>h.elim
 |_::_,[],h,_=>h.elim
theorem Z78{ρ:Map}{s:S}{a:Act}{w:World}(hS:RelS N base w0 nt ts ρ s a w)(keep:List Nat):∃ρ',RelS N base w0 nt ts ρ' (Zeb keep s) a w:=by
 unfold Zeb;simp only;split
 .rename_i hc;obtain⟨h1,h2⟩:=Zs9 hc;have hnd:(Zbd s.h 200 (Zfg (Zjf s.h (rst keep s.env))++s.stk.flatMap Zfg) []).Nodup:=Zs7 _ _ _ Ybi;generalize Zbd s.h 200 (Zfg (Zjf s.h (rst keep s.env))++s.stk.flatMap Zfg) []=ids at *
  refine⟨renM ρ ids,hS.rel.ren hnd h2,?_,?_,?_,hS.defers,hS.size,hS.below,hS.kn,λg hg hz=>⟨Zo7 (hS.fz g hg hz).1,(hS.fz g hg hz).2⟩⟩
  .exact((hS.env.rst keep).scrub (h:=s.h)).ren _ (λb hb r hr=>by rw[Zlw (h1 b (by simp[hb]))];exact hr) λg _ hg=>Zo7 hg
  .exact hS.stk.ren _ (λg _ hg=>Zo7 hg) λb hb r hr=>by rw[Zlw (h1 b (Yi.2 (.inr hb)))];exact hr
  .intro b hb;exact Zyd (by simpa using hb)
 .exact⟨ρ,hS.rel,λ_=>.top _,hS.stk,hS.dom,hS.defers,hS.size,hS.below,hS.kn,hS.fz⟩
def PQ(N:Par)(base:Nat)(w0:World)(nt:Nat)(ts:List (Array Value))(Q:X->S->Prop):Exit->Act->World->Prop
 |.normal,a,w=>∃s ρ,Q .n s/\RelS N base w0 nt ts ρ s a w
 |.exit id,a,w=>∃s ρ,Q (.x id) s/\RelS N base w0 nt ts ρ s a w
 |.ret,a,w=>∃s ρ,Q .r s/\RelS N base w0 nt ts ρ s a w
 |_,_,_=>False
theorem RelS.rst{ρ:Map}{s:S}{a:Act}{w:World}(hS:RelS N base w0 nt ts ρ s a w)(keep:List Nat):RelS N base w0 nt ts ρ { s with env:=rst keep s.env } a w :=
 ⟨hS.rel,hS.env.rst keep,hS.stk,hS.dom,hS.defers,hS.size,hS.below,hS.kn,hS.fz⟩
theorem Wc_sound{Γ:Ctr}(hΓ:Γ=Zbt P):∀(c:Code) (ks:List (List Nat)) (m:MCode) (ks':List (List Nat)),comp P inl nt c ks=some (m,ks')->∀(Q:X->S->Prop) (s:S) (a:Act) (w:World) (ρ:Map),
  Wc Γ m Q s->RelS N base w0 nt ts ρ s a w->c.wp P (PQ N base w0 nt ts Q) a w:=by
 intro c
 induction c with
 |skip =>
  intro ks m ks' hc Q s a w ρ hW hS;simp[comp]at hc;obtain⟨rfl,rfl⟩:=hc
  exact wp_skip ⟨s,ρ,hW,hS⟩
 |region id ops draw =>
  intro ks m ks' hc Q s a w ρ hW hS
  cases ks with
  |nil=>simp[comp]at hc
  |cons k ks =>
   simp only[comp]at hc;split at hc
   .rename_i os hos;split at hc
    .rename_i hdraw;subst hdraw;split at hc
     .rename_i hcond;cases hc;simp only[Wc]at hW;exact Zbov hΓ hos hcond.1 hcond.2.1 (λs a w ρ hq hS=>⟨_,ρ,hq,hS.rst k⟩) hW hS
     .cases hc
    .rename_i hdraw;cases hc;simp only[Wc]at hW;have hdraw':draw=false:=by simpa using hdraw
     subst hdraw';exact wp_region_list (Z7t hΓ (λs a w ρ hq hS=>⟨_,ρ,hq,hS.rst k⟩) ops.toList os hos s a w ρ hW hS)
   .cases hc
 |seq x y ihx ihy =>
  intro ks m ks' hc Q s a w ρ hW hS;simp only[comp]at hc;split at hc
  .rename_i mx k1 h1;split at hc
   .rename_i my k2 h2;cases hc;simp only[Wc]at hW;refine wp_seq (wp_mono (ihx ks mx k1 h1 _ s a w ρ hW hS) ?_);intro e a' w' hq
    cases e with
    |normal=>obtain⟨s',ρ',h3,h4⟩:=hq;exact ihy k1 my _ h2 Q s' a' w' ρ' h3 h4
    |exit id=>exact hq
    |ret=>exact hq
    |goto l=>exact hq.elim
    |panic ch=>exact hq.elim
    |outgrown=>exact hq.elim
   .cases hc
  .cases hc
 |cond o x y ihx ihy =>
  intro ks m ks' hc Q s a w ρ hW hS;simp only[comp]at hc;split at hc
  .rename_i o' mx k1 ho h1;split at hc
   .rename_i my k2 h2;cases hc;simp only[Wc]at hW;have hr:=Z0 hS.env ho;split at hW
    .rename_i b hb;rw[hb]at hr;refine wp_cond hr.bool_inv ?_;split at hW
     .rename_i hbt;subst hbt;exact ihx ks mx k1 h1 Q s a w ρ hW hS
     .rename_i hbt;have:b=false:=by simpa using hbt
      subst this;exact ihy k1 my _ h2 Q s a w ρ hW hS
    .exact hW.elim
   .cases hc
  .cases hc
 |block id b ih =>
  intro ks m ks' hc Q s a w ρ hW hS;simp only[comp]at hc;split at hc
  .rename_i mb k1 h1;cases hc;simp only[Wc]at hW;refine wp_block (wp_mono (ih ks mb _ h1 _ s a w ρ hW hS) ?_);intro e a' w' hq
   cases e with
   |normal=>exact hq
   |exit id' =>
    obtain⟨s',ρ',h3,h4⟩:=hq;simp only[Exit.inBlock];simp only at h3;split at h3
    .rename_i hid;rw[if_pos hid];exact⟨s',ρ',h3,h4⟩
    .rename_i hid;rw[if_neg hid];exact⟨s',ρ',h3,h4⟩
   |ret=>exact hq
   |goto l=>exact hq.elim
   |panic ch=>exact hq.elim
   |outgrown=>exact hq.elim
  .cases hc
 |loop b ih =>
  intro ks m ks' hc Q s a w ρ hW hS
  cases ks with
  |nil=>simp[comp]at hc
  |cons k ks =>
   simp only[comp]at hc;split at hc
   .rename_i mb k1 h1;cases hc;simp only[Wc,LoopW]at hW;obtain⟨I,μ,h0,hround⟩:=hW;obtain⟨ρ0,hS0⟩:=Z78 hS k;refine wp_loop_ghost (λn a w=>∃s ρ,I s/\μ s=n/\RelS N base w0 nt ts ρ s a w) (μ (Zeb k s)) ⟨_,ρ0,h0,rfl,hS0⟩ ?_;rintro n a' w' ⟨s1,ρ1,hI,rfl,hS1⟩;refine wp_mono (ih ks mb _ h1 _ s1 a' w' ρ1 (hround s1 hI) hS1) ?_;intro e a2 w2 hq
    cases e with
    |normal =>
     obtain⟨s2,ρ2,⟨h3,h4⟩,h5⟩:=hq;obtain⟨ρ3,h6⟩:=Z78 h5 k
     exact⟨μ (Zeb k s2),h4,_,ρ3,h3,rfl,h6⟩
    |exit id=>exact hq
    |ret=>exact hq
    |goto l=>exact hq.elim
    |panic ch=>exact hq.elim
    |outgrown=>exact hq.elim
   .cases hc
 |exit id =>
  intro ks m ks' hc Q s a w ρ hW hS;simp[comp]at hc;obtain⟨rfl,rfl⟩:=hc
  exact wp_exit ⟨s,ρ,hW,hS⟩
 |ret =>
  intro ks m ks' hc Q s a w ρ hW hS;simp[comp]at hc;obtain⟨rfl,rfl⟩:=hc
  exact wp_ret ⟨s,ρ,hW,hS⟩
 |rangeFunc f ps x y _ _=>intro ks m ks' hc;cases ks<;>simp[comp]at hc
 |scope b _=>intro ks m ks' hc;cases ks<;>simp[comp]at hc
 |label l=>intro ks m ks' hc;cases ks<;>simp[comp]at hc
 |goto l=>intro ks m ks' hc;cases ks<;>simp[comp]at hc
 |refuse wy=>intro ks m ks' hc;cases ks<;>simp[comp]at hc
end
open Go.RowKit (Below)
section
variable{P:Program}{N:Par}{base:Nat}{w0:World}{nt:Nat}{ts:List (Array Value)}{inl:List Nat}
def Zpg(tmps:Array Value):ResultVar->Sem Value
 |.tmp t=>pure (tmps.getD t undef)
 |.cell ad t=>do loadVar t (<-asAddr (tmps.getD ad undef))
theorem Z79(fn:Func)(tmps:Array Value):results fn tmps=(do let vs <-fn.results.mapM (Zpg tmps);pure (if h:vs.size=1 then vs[0]else .tuple vs)):=by
 unfold results;congr 1
theorem Zbow{ρ:Map}{s:S}{a:Act}{w:World}(hS:RelS N base w0 nt ts ρ s a w){rv:ResultVar}{r:Res}(hc:Zjh P rv=some r){v:AV}(hv:Zo0 s r=some v) :
  ∃val,(Zpg a.tmps rv).run P w=.ok val w/\RV ρ w (Free N ρ s.h) v val:=by
 cases rv with
 |tmp t =>
  simp[Zjh]at hc;subst hc;simp[Zo0]at hv;subst hv
  exact⟨_,rfl,hS.env t⟩
 |cell ad t =>
  simp only[Zjh]at hc;obtain⟨n,hn,rfl⟩:=Yk.1 hc;simp only[Zo0]at hv;split at hv
  .rename_i b off hb;split at hv
   .rename_i cs hgb;have hr:=hS.env ad;rw[hb]at hr;obtain⟨p,hp⟩:∃g,a.tmps.getD ad undef=.pointer (some ⟨g,off,none⟩)/\∃r,ρ b=some r/\r.v=.pointer (some ⟨g,0,none⟩):=by
     generalize a.tmps.getD ad undef=x at hr
     cases hr with
     |ptr h1 h2=>exact⟨_,rfl,_,h1,h2⟩
    obtain⟨hp1,r,hr1,hr2⟩:=hp;obtain⟨r',h1,h2⟩:=hS.rel.blk b (by rw[hgb];intro hc;cases hc);rw[hr1]at h1;cases h1;rw[hgb]at h2;obtain⟨hx0,g',c,te,hv2,_,hh,hcs,hone⟩:=h2;rw[hr2]at hv2;cases hv2;obtain⟨val,h3,h4⟩:=Zx5 (P:=P) hn hh hcs hone hv;exact⟨val,by simp only[Zpg,Sem.run_bind,hp1,asAddr,Sem.run_pure,Result.andThen_ok,h3],h4⟩
   .cases hv
  .cases hv
theorem Z8a{ρ:Map}{s:S}{a:Act}{w:World}(hS:RelS N base w0 nt ts ρ s a w):∀(l:List ResultVar) (rs:List Res),mapO (Zjh P) l=some rs->∀vs,Zjg s rs=some vs->
  ∃vals,(l.mapM (Zpg a.tmps)).run P w=.ok vals w/\RVs ρ w (Free N ρ s.h) vs vals
 |[],rs,hm,vs,hv=>by cases hm;simp[Zjg]at hv;subst hv;exact⟨[],by simp,.nil⟩
 |rv::l,rs,hm,vs,hv=>by
  obtain⟨r,rs',h1,h2,rfl⟩:=Zfj hm;simp only[Zjg]at hv;split at hv
  .rename_i v vs' h3 h4;cases hv;obtain⟨val,h5,h6⟩:=Zbow hS h1 h3;obtain⟨vals,h7,h8⟩:=Z8a hS l rs' h2 vs' h4;refine⟨val::vals,?_,.cons h6 h8⟩;simp only[List.mapM_cons,Sem.run_bind];rw[h5];simp only[Result.andThen_ok];rw[h7];simp
  .cases hv
theorem Zbox{ρ:Map}{s:S}{a:Act}{w:World}(hS:RelS N base w0 nt ts ρ s a w){fn:Func}{rs:List Res}(hm:mapO (Zjh P) fn.results.toList=some rs){v:AV}(hv:resAV rs s=some v) :
  ∃val,(results fn a.tmps).run P w=.ok val w/\RV ρ w (Free N ρ s.h) v val:=by
 unfold resAV at hv;have key:∀vs,Zjg s rs=some vs->∃vals,(fn.results.mapM (Zpg a.tmps)).run P w=.ok vals.toArray w/\RVs ρ w (Free N ρ s.h) vs vals:=by
  intro vs hvs;obtain⟨vals,h1,h2⟩:=Z8a hS fn.results.toList rs hm vs hvs;refine⟨vals,?_,h2⟩;rw[Array.mapM_eq_mapM_toList];simp only[Sem.run_map];rw[h1];rfl
 split at hv
 .rename_i v' hvs;cases hv;obtain⟨vals,h1,h2⟩:=key _ hvs;have hl:=h2.length
  match vals,hl,h1,h2 with
  |[val],_,h1,h2 =>
   cases h2 with
   |cons h3 _ =>
    refine⟨val,?_,h3⟩;rw[Z79,Sem.run_bind,h1];simp
 .rename_i vs hne hvs;cases hv;obtain⟨vals,h1,h2⟩:=key _ hvs;have hl:=h2.length;refine⟨.tuple vals.toArray,?_,.tup (by simpa using h2)⟩;rw[Z79,Sem.run_bind,h1];have hn1:vals.length≠1:=by
   intro hc;rw[hc]at hl
   match vs,hl,hne with
   |[v0],_,hne=>exact hne v0 rfl
  simp[hn1]
 .cases hv
theorem lk_initE(args:List AV)(k i:Nat):lk (k+i) (Zfh args k)=(args[i]?).getD .top:=by
 induction args generalizing k i with
 |nil=>rfl
 |cons v args ih =>
  simp only[Zfh,lk]
  cases i with
  |zero=>simp
  |succ i =>
   rw[if_neg (by omega)];have:=ih (k+1) i;rw[show k+1+i=k+(i+1) by omega]at this;simpa using this
theorem init_env{ρ:Map}{w:World}{F:Nat->Prop}{args:List AV}{vs:Array Value}(hv:RVs ρ w F args vs.toList)(n:Nat):Zbo ρ w F (Zfh args 0) (vs++Array.replicate n undef):=by
 intro s;have h1:=lk_initE args 0 s;rw[Ys]at h1;rw[h1]
 cases hs:args[s]? with
 |none=>exact .top _
 |some a =>
  obtain⟨v,h2,h3⟩:=hv.at hs;have h2':vs[s]?=some v:=by simpa using h2
  have hlt:s<vs.size:=(Yb0.1 h2').1;have:(vs++Array.replicate n undef).getD s undef=v:=by
   rw[Ybx,Yec hlt,h2'];rfl
  rw[this];exact h3
theorem Zboy{ks:List (List Nat)}{fn:Func}{m:MFun}(hc:Zhz P inl ks fn=some m):∃c,fn.body=some c/\comp P inl fn.ntmps c ks=some (m.body,[])/\mapO (Zjh P) fn.results.toList=some m.res/\m.nt=fn.ntmps/\m.np<=m.nt:=by
 unfold Zhz at hc;split at hc
 .rename_i c hb;split at hc
  .rename_i b rs h1 h2;split at hc
   .rename_i hle;cases hc;exact⟨c,hb,h1,h2,rfl,hle⟩
   .cases hc
  .cases hc
 .cases hc
theorem Zboz{Γ:Ctr}(hΓ:Γ=Zbt P){f:Nat}{fn:Func}{m:MFun}{ks:List (List Nat)}(hf:P.funcs[f]?=some fn)(hc:Zhz P inl ks fn=some m){args:List AV}(hl:args.length=m.np){s:S}{K:AV->S->Prop}
  (hW:Wc Γ m.body (bodyQ m.res K) { s with env:=Zfh args 0 }) {vs:Array Value} {w:World} {ρ:Map} (hR:Rel N base ρ s.h w) (hst:Zdy ρ w (Free N ρ s.h) s.stk ts) (hdom:∀b,s.h.length<=b->ρ b=none)
  (hv:RVs ρ w (Free N ρ s.h) args vs.toList) (hz:∀g,N.z g->Free N ρ s.h g) :
  Calls P f vs w λe w'=>∃val v s' ρ',e=.returned val/\K v s'/\RV ρ' w' (Free N ρ' s'.h) v val/\Rel N base ρ' s'.h w'/\Zdy ρ' w' (Free N ρ' s'.h) s'.stk ts/\(∀b,s'.h.length<=b->ρ' b=none)/\Below base w w'/\
   (∀g,g<w.heap.size->¬N.a g->w'.heap[g]?=w.heap[g]?)/\∀g,g<w.heap.size->N.z g->Free N ρ' s'.h g/\w'.heap[g]?=w.heap[g]?:=by
 obtain⟨c,hb,hcc,hres,hnt,hnp⟩:=Zboy hc;have hvl:=hv.length;simp only[Yu]at hvl;refine calls_of_wp hf hb (wp_mono (Wc_sound (N:=N) (base:=base) (w0:=w) (ts:=ts) hΓ c ks m.body [] hcc _ _ _ w ρ hW ⟨hR,init_env hv _,hst,hdom,rfl,by simp;omega,Below.refl _ _,λ_ _ _=>rfl,λg _ hg=>⟨hz g hg,rfl⟩⟩) ?_);intro e a' w' hq;have fin:∀s' ρ',bodyQ m.res K .n s'->RelS N base w fn.ntmps ts ρ' s' a' w'->a'.defers=[]/\∃v,(results fn a'.tmps).run P w'=.ok v w'/\∃val v_1 s' ρ',Ending.returned v=.returned val/\K v_1 s'/\RV ρ' w' (Free N ρ' s'.h) v_1 val/\Rel N base ρ' s'.h w'/\
   Zdy ρ' w' (Free N ρ' s'.h) s'.stk ts/\(∀b,s'.h.length<=b->ρ' b=none)/\Below base w w'/\(∀g,g<w.heap.size->¬N.a g->w'.heap[g]?=w.heap[g]?)/\∀g,g<w.heap.size->N.z g->Free N ρ' s'.h g/\w'.heap[g]?=w.heap[g]?:=by
  intro s' ρ' hQ hS;simp only[bodyQ]at hQ;split at hQ
  .rename_i v hvr;obtain⟨val,h1,h2⟩:=Zbox hS hres hvr;exact⟨hS.defers,val,h1,val,v,s',ρ',rfl,hQ,h2,hS.rel,hS.stk,hS.dom,hS.below,hS.kn,hS.fz⟩
  .exact hQ.elim
 cases e with
 |normal=>obtain⟨s',ρ',h1,h2⟩:=hq;exact fin s' ρ' h1 h2
 |ret=>obtain⟨s',ρ',h1,h2⟩:=hq;exact fin s' ρ' h1 h2
 |exit id=>obtain⟨s',ρ',h1,h2⟩:=hq;exact h1.elim
 |goto l=>exact hq.elim
 |panic ch=>exact hq.elim
 |outgrown=>exact hq.elim
theorem Zyu{h:List Blk}:∀(n:Nat) (todo acc:List Nat),∃more,Zbd h n todo acc=acc++more
 |0,_,acc=>⟨[],by simp[Zbd]⟩
 |n+1,[],acc=>⟨[],by simp[Zbd]⟩
 |n+1,c::todo,acc=>by
  simp only[Zbd];split
  .exact Zyu n todo acc
  .obtain⟨more,hm⟩:=Zyu (h:=h) n (Zb5 (gt h c)++todo) (acc++[c]);exact⟨c::more,by rw[hm];simp⟩
theorem Z8b:∀(bs:List Blk) (k i:Nat),lk (k+i) (Zeo bs k)=match bs[i]? with|some (.box _)=>.ptr (k+i) 0|some (.arr _ _ _ _)=>.own (k+i)|some (.xarr _ _ _)=>.own (k+i)|_=>.top
 |[],k,i=>by simp[Zeo,lk]
 |b::bs,k,0=>by cases b<;>simp[Zeo,lk]
 |b::bs,k,i+1=>by
  simp only[Zeo,lk];rw[if_neg (by omega)];have:=Z8b bs (k+1) i;rw[show k+1+i=k+(i+1) by omega]at this;simpa using this
def Zph(ρ:Map)(k:Nat):Array Value:=((List.range k).map λi=>match ρ i with|some r=>r.v|none=>undef).toArray
theorem Ztk{ρ:Map}{k i:Nat}{r:Root}(hi:i<k)(hr:ρ i=some r):(Zph ρ k).getD i undef=r.v:=by
 simp[Zph,hi,hr]
theorem Zbo0{ρ:Map}{h0:List Blk}{w:World}(R:Rel N base ρ h0 w):Zbo ρ w (Free N ρ h0) (Zeo h0 0) (Zph ρ h0.length):=by
 intro i;have:=Z8b h0 0 i;rw[Ys]at this;rw[this]
 cases hb:h0[i]? with
 |none=>exact .top _
 |some b =>
  have hi:i<h0.length:=(Yy.1 hb).1;have hg:gt h0 i=b:=by simp[gt,hb]
  cases b with
  |dead=>exact .top _
  |box cs =>
   obtain⟨r,h1,h2⟩:=R.blk i (by rw[hg];intro hc;cases hc);rw[hg]at h2;obtain⟨_,g,c,e,h3,_⟩:=h2;rw[Ztk hi h1,h3]
   exact .ptr h1 h3
  |arr e sz fr es =>
   obtain⟨r,h1,h2⟩:=R.blk i (by rw[hg];intro hc;cases hc);rw[hg]at h2;obtain⟨_,_,xs,_,h3,_⟩:=h2;rw[Ztk hi h1]
   exact .own h1 (Zx8 h3)
  |xarr e sz es =>
   obtain⟨r,h1,h2⟩:=R.blk i (by rw[hg];intro hc;cases hc);rw[hg]at h2;obtain⟨_,xs,_,h3,_⟩:=h2;rw[Ztk hi h1]
   exact .own h1 (Zx8 h3)
  |det e sz es i' off c=>exact .top _
theorem Zbo1{ρ0 ρ:Map}{s:S}{w:World}{v:AV}{val:Value}{k:Nat}(R:Rel N base ρ s.h w)(hv:RV ρ w (Free N ρ s.h) v val)(hdom:∀b,s.h.length<=b->ρ b=none){e:Env}(hstk:s.stk=[e])(hE:Zbo ρ w (Free N ρ s.h) e (Zph ρ0 k))
  {r:AV} {hr:List Blk} (hc:Zlt k v s=some (r,hr)) :
  ∃ρ',Rel N base ρ' hr w/\RV ρ' w (Free N ρ' hr) r val/\(∀b,hr.length<=b->ρ' b=none)/\k<=hr.length/\(∀g,Free N ρ s.h g->Free N ρ' hr g)/\∀b r0,b<k->ρ0 b=some r0->∃r1,ρ' b=some r1/\r1.v=r0.v:=by
 unfold Zlt at hc;simp only[hstk]at hc;split at hc
 .rename_i hcond;simp only[Yf]at hcond;obtain⟨hcl,hndB⟩:=hcond;obtain⟨h1,h2⟩:=Zs9 hcl;have hnd0:((List.range k).map (Zbi s.h e)).Nodup:=Zo4.1 hndB;have hnd:=Zs7 (h:=s.h) 200 ((((List.range k).map (Zbi s.h e)).flatMap λb=>Zb5 (gt s.h b))++refs (scrub s.h v)) ((List.range k).map (Zbi s.h e)) hnd0;obtain⟨more,hpre⟩:=Zyu (h:=s.h) 200 ((((List.range k).map (Zbi s.h e)).flatMap λb=>Zb5 (gt s.h b))++refs (scrub s.h v)) ((List.range k).map (Zbi s.h e));generalize Zbd s.h 200 ((((List.range k).map (Zbi s.h e)).flatMap λb=>Zb5 (gt s.h b))++refs (scrub s.h v)) ((List.range k).map (Zbi s.h e))=ids at *
  cases hc;have hat:∀i,i<k->ids[i]?=some (Zbi s.h e i):=by
   intro i hi;rw[hpre,Ybg (by simpa using hi)];simp[hi]
  have hkl:k<=ids.length:=by rw[hpre];simp
  -- where a root handed over is
  have hroot:∀i r0,i<k->ρ0 i=some r0->ρ (Zbi s.h e i)=none\/∃r1,ρ (Zbi s.h e i)=some r1/\r1.v=r0.v:=by
   intro i r0 hi hr0;have hEi:=(hE i).scrub (h:=s.h);rw[Ztk hi hr0]at hEi;unfold Zbi
   cases hx:scrub s.h (lk i e)with
   |ptr b off =>
    rw[hx]at hEi
    cases off with
    |zero =>
     right;generalize hr0v:r0.v=x at hEi
     cases hEi with
     |ptr q1 q2=>exact⟨_,q1,q2⟩
    |succ off=>left;exact hdom _ (by simp)
   |own b =>
    rw[hx]at hEi;right;generalize hr0v:r0.v=x at hEi
    cases hEi with
    |own q1 q2=>exact⟨_,q1,rfl⟩
   |_=>left;exact hdom _ (by simp)
  let ρ':Map:=λb=>if hb:b<k/\renM ρ ids b=none then ρ0 b else renM ρ ids b
  have hlive:∀b,gt (ids.map λb=>renB (λb=>idx b ids 0) (gt s.h b)) b≠.dead->ρ' b=renM ρ ids b:=by
   intro b hb;obtain⟨r1,q1,_⟩:=(R.ren hnd h2).blk b hb;show(if hb:b<k/\renM ρ ids b=none then ρ0 b else renM ρ ids b)=renM ρ ids b;rw[dif_neg (by rw[q1];simp)]
  have hsome:∀b r,renM ρ ids b=some r->ρ' b=some r:=by
   intro b r hb;show(if hb:b<k/\renM ρ ids b=none then ρ0 b else renM ρ ids b)=some r;rw[dif_neg (by rw[hb];simp)];exact hb
  have hFree:∀g,Free N (renM ρ ids) (ids.map λb=>renB (λb=>idx b ids 0) (gt s.h b)) g->Free N ρ' (ids.map λb=>renB (λb=>idx b ids 0) (gt s.h b)) g:=by
   intro g hg;refine⟨hg.1,λb r hb hd=>?_⟩;rw[hlive b hd]at hb;exact hg.2 b r hb hd
  have hKp:Keeps (renM ρ ids) w (Free N (renM ρ ids) (ids.map λb=>renB (λb=>idx b ids 0) (gt s.h b))) ρ' w (Free N ρ' (ids.map λb=>renB (λb=>idx b ids 0) (gt s.h b))) :=
   ⟨λb r hb=>⟨r,hsome b r hb,rfl⟩,λg _ hg=>⟨hFree g hg,rfl⟩⟩
  have R':=R.ren hnd h2;refine⟨ρ',⟨R'.hb,R'.hN,?_,?_,?_,?_⟩,?_,?_,by simpa using hkl,λg hg=>hFree g (Zo7 hg),?_⟩
  .intro b r g hb hd;rw[hlive b hd]at hb;exact R'.hO b r g hb hd
  .intro b hd;obtain⟨r1,q1,q2⟩:=R'.blk b hd;exact⟨r1,hsome b r1 q1,q2.keep hKp λ_ _=>rfl⟩
  .intro b b' r1 r2 g hb hb' hd hd';rw[hlive b hd]at hb;rw[hlive b' hd']at hb';exact R'.inj b b' r1 r2 g hb hb' hd hd'
  .intro b b' r1 r2 g hb hb' hf hf';rw[hlive b (Zcy hf)]at hb;rw[hlive b' (Zcy hf')]at hb';exact R'.apart b b' r1 r2 g hb hb' hf hf'
  .refine RV.keep hKp ((hv.scrub (h:=s.h)).ren _ (λb hb r hr=>?_) λg _ hg=>Zo7 hg);rw[Zlw (h1 b (Yi.2 (.inr hb)))];exact hr
  .intro b hb;simp only[Ybf]at hb;show(if hb:b<k/\renM ρ ids b=none then ρ0 b else renM ρ ids b)=none;rw[dif_neg (by omega)];exact Zyd hb
  .intro b r0 hb hr0;rcases hroot b r0 hb hr0 with hn|⟨r1,q1,q2⟩
   .refine⟨r0,?_,rfl⟩;show(if hb:b<k/\renM ρ ids b=none then ρ0 b else renM ρ ids b)=some r0;rw[dif_pos ⟨hb,by simp[renM,hat b hb,hn]⟩];exact hr0
   .exact⟨r1,hsome b r1 (by simp[renM,hat b hb,q1]),q2⟩
 .cases hc
def TblOK(P:Program)(tbl:Nat->Option MFun):Prop:=∀f m,tbl f=some m->∃fn ks inl,P.funcs[f]?=some fn/\Zhz P inl ks fn=some m/\Zfi P f=true
theorem sound_of{f:Nat}{fn:Func}{m:MFun}{ks:List (List Nat)}(hf:P.funcs[f]?=some fn)(hcl:Zfi P f=true)(hc:Zhz P inl ks fn=some m){args:List AV}{h0:List Blk}{r:AV}{hr:List Blk}
  (hW:FW (Zbt P) m args h0 r hr):Zbt P f args h0 r hr:=by
 refine⟨hcl,?_⟩;intro N base w ρ vs hR hdom hv hz;have hb:=Zboz (N:=N) (base:=base) (ts:=[Zph ρ h0.length]) rfl hf hc hW.1 (s:={ env:=[],stk:=[Zeo h0 0],h:=h0 }) hW.2 hR ⟨Zbo0 hR,trivial⟩ hdom hv hz;refine hb.mono ?_;rintro e w' ⟨val,v,s',ρ1,rfl,hK,hv',hR',hst,hdom',hB,hkn,hfz⟩
 match hs:s'.stk,hst with
 |[e],hst =>
  obtain⟨ρ2,h1,h2,h3,h4,h5,h6⟩:=Zbo1 hR' hv' hdom' hs hst.1 hK;exact⟨val,ρ2,rfl,hB,h1,h2,h3,h4,hkn,λg hg hz'=>⟨h5 g (hfz g hg hz').1,(hfz g hg hz').2⟩,h6⟩
end
end Go.AM
