/-
  Parts of the proofs for this seat: AMFun AMEv AMLive AMList AMSimp AMLaw AMLaw2 AMTy.
-/
import Derived.Carry
import Derived.Laws.Strings
import Derived.OpenShut
import Derived.ProofKit
import Derived.Test.YthdihnbeifcppaaGreatP3
set_option linter.all false
namespace Go.AM
open Go.RowKit (Below)
section
variable{P:Program}{N:Par}{base:Nat}{w0:World}{nt:Nat}{ts:List (Array Value)}{inl:UB}{w:World}{ρ:Map}{s:S}{fn:Func}{h h0 hr:UA}{v r:AV}{args:V2}{ks:List (UB)}{m:MFun}{a:Act}{vs:Array Value}{f k:Nat}
def ZeY(tmps:Array Value):ResultVar->Sem Value
 |.tmp t=>pure (tmps.getD t undef)
 |.cell ad t=>do loadVar t (<-asAddr (tmps.getD ad undef))
theorem ZwO(fn:Func)(tmps:Array Value):results fn tmps=(do let vs <-fn.results.mapM (ZeY tmps);pure (if h:vs.size=1 then vs[0]else .tuple vs)):=by
 unfold results;congr 1
theorem Z8H(hS:RelS N base w0 nt ts ρ s a w){rv:ResultVar}{r:Res}(hc:ZaX P rv=some r)(hv:Jg s r=some v) :
  ∃val,(ZeY a.tmps rv).run P w=.ok val w/\RV ρ w (Free N ρ s.h) v val:=by
 cases rv with
 |tmp t =>
  simp[ZaX]at hc;subst hc;simp[Jg]at hv;subst hv
  exact⟨_,rfl,hS.env t⟩
 |cell ad t =>
  simp only[ZaX]at hc;obtain⟨n,hn,rfl⟩:=Yq.1 hc;simp only[Jg]at hv;split at hv
  .rename_i b off hb;split at hv
   .rename_i cs hgb;have hr:=hS.env ad;rw[hb]at hr;obtain⟨p,hp⟩:∃g,a.tmps.getD ad undef=.pointer (some ⟨g,off,none⟩)/\∃r,ρ b=some r/\r.v=.pointer (some ⟨g,0,none⟩):=by
     generalize a.tmps.getD ad undef=x at hr
     cases hr with
     |ptr h1 h2=>exact⟨_,rfl,_,h1,h2⟩
    obtain⟨hp1,r,hr1,hr2⟩:=hp;obtain⟨r',h1,h2⟩:=hS.rel.blk b (by rw[hgb];intro hc;cases hc);rw[hr1]at h1;cases h1;rw[hgb]at h2;obtain⟨hx0,g',c,te,hv2,_,hh,hcs,hone⟩:=h2;rw[hr2]at hv2;cases hv2;obtain⟨val,h3,h4⟩:=ZmY (P:=P) hn hh hcs hone hv;exact⟨val,by simp only[ZeY,Sem.run_bind,hp1,asAddr,Sem.run_pure,Result.andThen_ok,h3],h4⟩
   .cases hv
  .cases hv
theorem ZwP{ρ:Map}{s:S}{a:Act}{w:World}(hS:RelS N base w0 nt ts ρ s a w):∀(l:List ResultVar) (rs:List Res),mapO (ZaX P) l=some rs->∀vs,Ub s rs=some vs->
  ∃vals,(l.mapM (ZeY a.tmps)).run P w=.ok vals w/\RVs ρ w (Free N ρ s.h) vs vals
 |[],rs,hm,vs,hv=>by cases hm;simp[Ub]at hv;subst hv;exact⟨[],by simp,.nil⟩
 |rv::l,rs,hm,vs,hv=>by
  obtain⟨r,rs',h1,h2,rfl⟩:=Qz hm;simp only[Ub]at hv;split at hv
  .rename_i v vs' h3 h4;cases hv;obtain⟨val,h5,h6⟩:=Z8H hS h1 h3;obtain⟨vals,h7,h8⟩:=ZwP hS l rs' h2 vs' h4;refine⟨val::vals,?_,.cons h6 h8⟩
   simp_all
  .cases hv
theorem Z8I(hS:RelS N base w0 nt ts ρ s a w){rs:List Res}(hm:mapO (ZaX P) fn.results.toList=some rs)(hv:resAV rs s=some v) :
  ∃val,(results fn a.tmps).run P w=.ok val w/\RV ρ w (Free N ρ s.h) v val:=by
 unfold resAV at hv;have key:∀vs,Ub s rs=some vs->∃vals,(fn.results.mapM (ZeY a.tmps)).run P w=.ok vals.toArray w/\RVs ρ w (Free N ρ s.h) vs vals:=by
  intro vs hvs;obtain⟨vals,h1,h2⟩:=ZwP hS fn.results.toList rs hm vs hvs
  simp_all [Array.mapM_eq_mapM_toList]
 split at hv
 .rename_i v' hvs;cases hv;obtain⟨vals,h1,h2⟩:=key _ hvs;have hl:=h2.length
  match vals,hl,h1,h2 with
  |[val],_,h1,h2 =>
   cases h2 with
   |cons h3 _ =>
    refine⟨val,?_,h3⟩;rw[ZwO,Sem.run_bind,h1];simp
 .rename_i vs hne hvs;cases hv;obtain⟨vals,h1,h2⟩:=key _ hvs;have hl:=h2.length;refine⟨.tuple vals.toArray,?_,.tup (by simpa using h2)⟩;rw[ZwO,Sem.run_bind,h1];have hn1:vals.length≠1:=by
   intro hc;rw[hc]at hl
   match vs,hl,hne with
   |[v0],_,hne=>exact hne v0 rfl
  simp[hn1]
 .cases hv
theorem lk_initE(args:V2)(k i:Nat):lk (k+i) (UT args k)=(args[i]?).getD .top:=by
 induction args generalizing k i with
 |nil=>rfl
 |cons v args ih =>
  simp only[UT,lk]
  cases i with
  |zero=>simp
  |succ i =>
   rw[Ynx];have:=ih (k+1) i
   grind
theorem init_env{F:Nat->Prop}(hv:RVs ρ w F args vs.toList)(n:Nat):X8 ρ w F (UT args 0) (vs++Array.replicate n undef):=by
 intro s;have h1:=lk_initE args 0 s;rw[Yu]at h1;rw[h1]
 cases hs:args[s]? with
 |none=>exact .top _
 |some a =>
  obtain⟨v,h2,h3⟩:=hv.at hs;have h2':vs[s]?=some v:=by simpa using h2
  have hlt:s<vs.size:=(Yb6.1 h2').1
  have:(vs++Array.replicate n undef).getD s undef=v:=by
   simp_all [Ycl,Ydv]
  rw[this];exact h3
theorem ZeZ(x:Bool)(d:TypeId->Bool)(s:S):∀(rs:List Res) (tys:List TypeId),Ub s (resO P x d rs tys)=Ub s rs
 |[],tys=>by cases tys<;>rfl
 |r::rs,[]=>by cases r<;>rfl
 |.tmp t::rs,ty::tys=>by simp only[resO,Ub,Jg,ZeZ x d s rs tys]
 |.cell a n::rs,ty::tys=>by simp only[resO,Ub,Jg,ZeZ x d s rs tys]
 |.tmpO t l::rs,ty::tys=>by simp only[resO,Ub,Jg,ZeZ x d s rs tys]
 |.cellO a n l::rs,ty::tys=>by simp only[resO,Ub,Jg,ZeZ x d s rs tys]
theorem Z8J(hc:Jj P inl ks fn=some m):∃c,fn.body=some c/\comp P inl fn.ntmps c ks=some (m.body,[])/\(∃rs,mapO (ZaX P) fn.results.toList=some rs/\∀s,Ub s m.res=Ub s rs)/\m.nt=fn.ntmps/\m.np<=m.nt:=by
 unfold Jj at hc
 grind [ZeZ]
theorem Z8K{Γ:Ctr}(hΓ:Γ=Xr P)(hf:P.funcs[f]?=some fn)(hc:Jj P inl ks fn=some m)(hl:args.length=m.np){K:AV->S->Prop}
  (hW:Wc Γ m.body (K5 m.res K) { s with env:=UT args 0 }) (hR:Rel N base ρ s.h w) (hst:VG ρ w (Free N ρ s.h) s.stk ts) (hdom:∀b,s.h.length<=b->ρ b=none)
  (hv:RVs ρ w (Free N ρ s.h) args vs.toList) (hz:∀g,N.z g->Free N ρ s.h g) :
  Calls P f vs w λe w'=>∃val v s' ρ',e=.returned val/\K v s'/\RV ρ' w' (Free N ρ' s'.h) v val/\Rel N base ρ' s'.h w'/\VG ρ' w' (Free N ρ' s'.h) s'.stk ts/\(∀b,s'.h.length<=b->ρ' b=none)/\Below base w w'/\
   (∀g,g<w.heap.size->¬N.a g->w'.heap[g]?=w.heap[g]?)/\∀g,g<w.heap.size->N.z g->Free N ρ' s'.h g/\w'.heap[g]?=w.heap[g]?:=by
 obtain⟨c,hb,hcc,⟨rs,hres,hrr⟩,hnt,hnp⟩:=Z8J hc;have hvl:=hv.length;simp only[Yv]at hvl;refine calls_of_wp hf hb (wp_mono (Wc_sound (N:=N) (base:=base) (w0:=w) (ts:=ts) hΓ c ks m.body [] hcc _ _ _ w ρ hW ⟨hR,init_env hv _,hst,hdom,rfl,by simp;omega,Below.refl _ _,λ_ _ _=>rfl,λg _ hg=>⟨hz g hg,rfl⟩⟩) ?_);intro e a' w' hq;have fin:∀s' ρ',K5 m.res K .n s'->RelS N base w fn.ntmps ts ρ' s' a' w'->a'.defers=[]/\∃v,(results fn a'.tmps).run P w'=.ok v w'/\∃val v_1 s' ρ',Ending.returned v=.returned val/\K v_1 s'/\RV ρ' w' (Free N ρ' s'.h) v_1 val/\Rel N base ρ' s'.h w'/\
   VG ρ' w' (Free N ρ' s'.h) s'.stk ts/\(∀b,s'.h.length<=b->ρ' b=none)/\Below base w w'/\(∀g,g<w.heap.size->¬N.a g->w'.heap[g]?=w.heap[g]?)/\∀g,g<w.heap.size->N.z g->Free N ρ' s'.h g/\w'.heap[g]?=w.heap[g]?:=by
  intro s' ρ' hQ hS;simp only[K5]at hQ;split at hQ
  .rename_i v hvr;obtain⟨val,h1,h2⟩:=Z8I (rs:=rs) hS hres (by unfold resAV at hvr|-;rw[<-hrr];exact hvr);exact⟨hS.defers,val,h1,val,v,s',ρ',rfl,hQ,h2,hS.rel,hS.stk,hS.dom,hS.below,hS.kn,hS.fz⟩
  .exact hQ.elim
 cases e with
 |normal=>obtain⟨s',ρ',h1,h2⟩:=hq;exact fin s' ρ' h1 h2
 |ret=>obtain⟨s',ρ',h1,h2⟩:=hq;exact fin s' ρ' h1 h2
 |exit id=>obtain⟨s',ρ',h1,h2⟩:=hq;exact h1.elim
 |goto l=>exact hq.elim
 |panic ch=>exact hq.elim
 |outgrown=>exact hq.elim
theorem Zny{h:UA}:∀(n:Nat) (todo acc:UB),∃more,Xu h n todo acc=acc++more
 |0,_,acc=>⟨[],by simp[Xu]⟩
 |n+1,[],acc=>⟨[],by simp[Xu]⟩
 |n+1,c::todo,acc=>by
  simp only[Xu];split
  .exact Zny n todo acc
  .obtain⟨more,hm⟩:=Zny (h:=h) n (Wr (gt h c)++todo) (acc++[c])
   simp_all
theorem ZwQ:∀(bs:UA) (k i:Nat),lk (k+i) (UU bs k)=match bs[i]? with|some (.box _)=>.ptr (k+i) 0|some (.arr _ _ _ _)=>.own (k+i)|some (.xarr _ _ _)=>.own (k+i)|_=>.top
 |[],k,i=>by simp[UU,lk]
 |b::bs,k,0=>by cases b<;>simp[UU,lk]
 |b::bs,k,i+1=>by
  simp only[UU,lk];rw[Ynx];have:=ZwQ bs (k+1) i
  grind
def Zfa(ρ:Map)(k:Nat):Array Value:=((List.range k).map λi=>match ρ i with|some r=>r.v|none=>undef).toArray
theorem Zjb{i:Nat}{r:Root}(hi:i<k)(hr:ρ i=some r):(Zfa ρ k).getD i undef=r.v:=by
 simp[Zfa,hi,hr]
theorem Z8L(R:Rel N base ρ h0 w):X8 ρ w (Free N ρ h0) (UU h0 0) (Zfa ρ h0.length):=by
 intro i;have:=ZwQ h0 0 i;rw[Yu]at this;rw[this]
 cases hb:h0[i]? with
 |none=>exact .top _
 |some b =>
  have hi:i<h0.length:=(Y2.1 hb).1;have hg:gt h0 i=b:=by simp[gt,hb]
  cases b with
  |dead=>exact .top _
  |box cs =>
   obtain⟨r,h1,h2⟩:=R.blk i (by rw[hg];intro hc;cases hc);rw[hg]at h2;obtain⟨_,g,c,e,h3,_⟩:=h2;rw[Zjb hi h1,h3]
   exact .ptr h1 h3
  |arr e sz fr es =>
   obtain⟨r,h1,h2⟩:=R.blk i (by rw[hg];intro hc;cases hc);rw[hg]at h2;obtain⟨_,_,xs,_,h3,_⟩:=h2;rw[Zjb hi h1]
   exact .own h1 (ZiD h3)
  |xarr e sz es =>
   obtain⟨r,h1,h2⟩:=R.blk i (by rw[hg];intro hc;cases hc);rw[hg]at h2;obtain⟨_,xs,_,h3,_⟩:=h2;rw[Zjb hi h1]
   exact .own h1 (ZiD h3)
  |det e sz es i' off c=>exact .top _
theorem Z8M{ρ0:Map}{val:Value}(R:Rel N base ρ s.h w)(hv:RV ρ w (Free N ρ s.h) v val)(hdom:∀b,s.h.length<=b->ρ b=none){e:Env}(hstk:s.stk=[e])(hE:X8 ρ w (Free N ρ s.h) e (Zfa ρ0 k))(hc:Zi7 k v s=some (r,hr)) :
  ∃ρ',Rel N base ρ' hr w/\RV ρ' w (Free N ρ' hr) r val/\(∀b,hr.length<=b->ρ' b=none)/\k<=hr.length/\(∀g,Free N ρ s.h g->Free N ρ' hr g)/\∀b r0,b<k->ρ0 b=some r0->∃r1,ρ' b=some r1/\r1.v=r0.v:=by
 unfold Zi7 at hc;simp only[hstk]at hc;split at hc
 .rename_i hcond;simp only[Yg]at hcond;obtain⟨hcl,hndB⟩:=hcond;obtain⟨h1,h2⟩:=ZiN hcl;have hnd0:((List.range k).map (Xp s.h e)).Nodup:=Zcz.1 hndB;have hnd:=ZiL (h:=s.h) 200 ((((List.range k).map (Xp s.h e)).flatMap λb=>Wr (gt s.h b))++refs (scrub s.h v)) ((List.range k).map (Xp s.h e)) hnd0;obtain⟨more,hpre⟩:=Zny (h:=s.h) 200 ((((List.range k).map (Xp s.h e)).flatMap λb=>Wr (gt s.h b))++refs (scrub s.h v)) ((List.range k).map (Xp s.h e));generalize Xu s.h 200 ((((List.range k).map (Xp s.h e)).flatMap λb=>Wr (gt s.h b))++refs (scrub s.h v)) ((List.range k).map (Xp s.h e))=ids at *
  cases hc;have hat:∀i,i<k->ids[i]?=some (Xp s.h e i):=by
   grind
  have hkl:k<=ids.length:=by rw[hpre];simp
  -- where a root handed over is
  have hroot:∀i r0,i<k->ρ0 i=some r0->ρ (Xp s.h e i)=none\/∃r1,ρ (Xp s.h e i)=some r1/\r1.v=r0.v:=by
   intro i r0 hi hr0;have hEi:=(hE i).scrub (h:=s.h);rw[Zjb hi hr0]at hEi;unfold Xp
   cases hx:scrub s.h (lk i e)with
   |ptr b off =>
    rw[hx]at hEi
    cases off with
    |zero =>
     right;generalize hr0v:r0.v=x at hEi
     cases hEi with
     |ptr q1 q2=>exact⟨_,q1,q2⟩
    |succ off=>left;exact hdom _ (by simp)
   |own b =>
    rw[hx]at hEi;right;generalize hr0v:r0.v=x at hEi
    cases hEi with
    |own q1 q2=>exact⟨_,q1,rfl⟩
   |_=>left;exact hdom _ (by simp)
  let ρ':Map:=λb=>if hb:b<k/\renM ρ ids b=none then ρ0 b else renM ρ ids b
  have hlive:∀b,gt (ids.map λb=>renB (λb=>idx b ids 0) (gt s.h b)) b≠.dead->ρ' b=renM ρ ids b:=by
   intro b hb;obtain⟨r1,q1,_⟩:=(R.ren hnd h2).blk b hb
   grind
  have hsome:∀b r,renM ρ ids b=some r->ρ' b=some r:=by
   grind
  have hFree:∀g,Free N (renM ρ ids) (ids.map λb=>renB (λb=>idx b ids 0) (gt s.h b)) g->Free N ρ' (ids.map λb=>renB (λb=>idx b ids 0) (gt s.h b)) g:=by
   intro g hg;refine⟨hg.1,λb r hb hd=>?_⟩;rw[hlive b hd]at hb;exact hg.2 b r hb hd
  have hKp:Keeps (renM ρ ids) w (Free N (renM ρ ids) (ids.map λb=>renB (λb=>idx b ids 0) (gt s.h b))) ρ' w (Free N ρ' (ids.map λb=>renB (λb=>idx b ids 0) (gt s.h b))) :=
   ⟨λb r hb=>⟨r,hsome b r hb,rfl⟩,λg _ hg=>⟨hFree g hg,rfl⟩⟩
  have R':=R.ren hnd h2;refine⟨ρ',⟨R'.hb,R'.hN,?_,?_,?_,?_⟩,?_,?_,by simpa using hkl,λg hg=>hFree g (ZeN hg),?_⟩
  .intro b r g hb hd;rw[hlive b hd]at hb;exact R'.hO b r g hb hd
  .intro b hd;obtain⟨r1,q1,q2⟩:=R'.blk b hd;exact⟨r1,hsome b r1 q1,q2.keep hKp λ_ _=>rfl⟩
  .intro b b' r1 r2 g hb hb' hd hd';rw[hlive b hd]at hb;rw[hlive b' hd']at hb';exact R'.inj b b' r1 r2 g hb hb' hd hd'
  .intro b b' r1 r2 g hb hb' hf hf';rw[hlive b (K7 hf)]at hb;rw[hlive b' (K7 hf')]at hb';exact R'.apart b b' r1 r2 g hb hb' hf hf'
  .refine RV.keep hKp ((hv.scrub (h:=s.h)).ren _ (λb hb r hr=>?_) λg _ hg=>ZeN hg)
   simp_all [Zc0,Yl]
  .grind [List.length_map,Zng]
  .intro b r0 hb hr0;rcases hroot b r0 hb hr0 with hn|⟨r1,q1,q2⟩
   .refine⟨r0,?_,rfl⟩;show(if hb:b<k/\renM ρ ids b=none then ρ0 b else renM ρ ids b)=some r0;rw[dif_pos ⟨hb,by simp[renM,hat b hb,hn]⟩];exact hr0
   .exact⟨r1,hsome b r1 (by simp[renM,hat b hb,q1]),q2⟩
 .cases hc
theorem Znz:∀(l:UA) (x:Blk),stB l l.length x=l++[x]
 |[],x=>rfl
 |y::l,x=>by simp[stB,Znz l x]
structure Own (N:Par) (base:Nat) (ρ:Map) (h:UA) (w:World) (ρ':Map) (h':UA):Prop where
 rel:Rel N base ρ' h' w
 keep:Keeps ρ w (Free N ρ h) ρ' w (Free N ρ' h')
 dom:∀b,h'.length<=b->ρ' b=none
theorem Own.trans{ρ1 ρ2:Map}{h1 h2:UA}(a:Own N base ρ h w ρ1 h1)(b:Own N base ρ1 h1 w ρ2 h2):Own N base ρ h w ρ2 h2 :=
 ⟨b.rel,a.keep.trans b.keep (Yh _),b.dom⟩
theorem own_addA(R:Rel N base ρ h w)(hd:∀b,h.length<=b->ρ b=none)(e sz:Nat) :
  Own N base ρ h w (updM ρ h.length ⟨.slice none 0 0,[],[]⟩) (h++[.arr e (sz+1) true []]):=by
 have hp:=UW R (n:=h.length) (ks:=[]) (x:=.arr e (sz+1) true []) (r:=⟨.slice none 0 0,[],[]⟩) (row:=none) (w':=w)
  (by intro r0 h0;rw[hd _ (Yh _)]at h0;cases h0) ⟨rfl,rfl,rfl,Yh _,λ_ _ _=>rfl⟩ (by intro g' hg';cases hg') (by intro g' hg';cases hg')
  (λ_=>⟨rfl,e,[],.inr rfl,World.ownsRow_nil w base e (sz+1),Nat.succ_pos _,by simp,.nil,by simp,λ_=>⟨Ybf,by simp⟩,λ_=>OWs.nil⟩)
  (by intro _ x hx;cases hx)
 have hu:upd h (kill []++[(h.length,Blk.arr e (sz+1) true [])])=h++[.arr e (sz+1) true []]:=by simp only[kill,Ycm,Y7,upd,Znz]
 rw[hu]at hp;refine⟨hp.1,hp.2.1,λb hb=>?_⟩;simp only[Yn,Ym,Ybr]at hb;simp only[updM]
 grind
theorem own_addX(R:Rel N base ρ h w)(hd:∀b,h.length<=b->ρ b=none)(e sz:Nat) :
  Own N base ρ h w (updM ρ h.length ⟨.slice none 0 0,[],[]⟩) (h++[.xarr e (sz+1) []]):=by
 have hp:=ZeJ R (n:=h.length) (ks:=[]) (x:=.xarr e (sz+1) []) (r:=⟨.slice none 0 0,[],[]⟩) (row:=none) (w':=w)
  (by intro r0 h0;rw[hd _ (Yh _)]at h0;cases h0) ⟨rfl,rfl,rfl,Yh _,λ_ _ _=>rfl⟩ (by intro g' hg';cases hg') (by intro g' hg';rcases hg' with hg'|hg'<;>cases hg')
  (λ_=>⟨e,[],.inr rfl,World.ownsRow_nil w base e (sz+1),Nat.succ_pos _,by simp,.nil,OWs.nil,Ybf,by simp⟩)
  (by intro hf;cases hf)
 have hu:upd h (kill []++[(h.length,Blk.xarr e (sz+1) [])])=h++[.xarr e (sz+1) []]:=by simp only[kill,Ycm,Y7,upd,Znz]
 rw[hu]at hp;refine⟨hp.1,hp.2.1,λb hb=>?_⟩;simp only[Yn,Ym,Ybr]at hb;simp only[updM]
 grind
theorem ZwR(R:Rel N base ρ h w)(hd:∀b,h.length<=b->ρ b=none)(e sz:Nat) :
  Own N base ρ h w (updM ρ h.length ⟨.slice none 0 0,[],[]⟩) (h++[nilB e (sz+1)]):=by
 unfold nilB
 grind [own_addX,own_addA]
theorem Zn0{ρ:Map}{h:UA}{w:World}{F:Nat->Prop}{v:Value}(h1:RV ρ w F (.t .nil) v):v=.slice none 0 0:=by
 cases h1 with|t h _=>cases h;rfl
theorem Z8N:∀(l:List (Option (Nat×Nat))) (cs:V2) (ρ:Map) (h:UA) (vs:UC),Rel N base ρ h w->(∀b,h.length<=b->ρ b=none)->RVs ρ w (Free N ρ h) cs vs->
  ∃ρ',Own N base ρ h w ρ' (UV l cs h).2/\RVs ρ' w (Free N ρ' (UV l cs h).2) (UV l cs h).1 vs:=by
 intro l cs ρ h
 induction l,cs,h using UV.induct generalizing ρ with
 |case1 e sz ps cs h cs' h' heq ih =>
  intro vs R hd hv
  cases hv with|cons q hv =>
  have hs:=Zn0 (h:=h) q;subst hs;have A:=ZwR R hd e sz;obtain⟨ρ',B,hv'⟩:=ih _ _ A.rel A.dom (hv.keep A.keep);rw[heq]at B hv';simp only[UV,heq];refine⟨ρ',A.trans B,.cons ?_ hv'⟩;have hk:updM ρ h.length ⟨.slice none 0 0,[],[]⟩ h.length=some ⟨.slice none 0 0,[],[]⟩:=by simp[updM]
  exact(RV.own (w:=w) (F:=Free N _ (h++[nilB e (sz+1)])) hk rfl).keep B.keep
 |case2 o c ps cs h hne cs' h' heq ih =>
  intro vs R hd hv
  cases hv with|cons q hv =>
  obtain⟨ρ',B,hv'⟩:=ih _ _ R hd hv;rw[heq]at B hv';have he:UV (o::c) (ps::cs) h=(ps::cs',h'):=by
   rw[UV]
   .rw[heq]
   .exact hne
  rw[he]
  exact⟨ρ',B,.cons (q.keep B.keep) hv'⟩
 |case3 cs h =>
  intro vs R hd hv;simp only[UV]
  exact⟨ρ,⟨R,.refl,hd⟩,hv⟩
 |case4 l h hne =>
  intro vs R hd hv
  cases l with
  |nil=>exact absurd rfl hne
  |cons o l=>simp only[UV];exact⟨ρ,⟨R,.refl,hd⟩,hv⟩
theorem ZwS(n:Nat)(v:AV)(ρ:Map)(h:UA)(val:Value)(R:Rel N base ρ h w)(hd:∀b,h.length<=b->ρ b=none)(hv:RV ρ w (Free N ρ h) v val) :
  ∃ρ',Own N base ρ h w ρ' (dat1 n v h).2/\RV ρ' w (Free N ρ' (dat1 n v h).2) (dat1 n v h).1 val:=by
 unfold dat1;split
 .have hs:=Zn0 (h:=h) hv;subst hs;exact⟨ρ,⟨R,.refl,hd⟩,.t (.lst0 _ _ _) λg hg=>by cases hg⟩
 .rename_i b;split
  .rename_i el sz fr es hb;obtain⟨h1,h2⟩:=Zja R (.inl ⟨_,_,hb⟩);have hl:b<h.length:=gt_lt (by rw[hb];intro hc;cases hc);refine⟨ρ,⟨h1,⟨λc r hr=>⟨r,hr,rfl⟩,λg _ hg=>⟨UX hg,rfl⟩⟩,λc hc=>hd c (by rw[Zc4 hl]at hc;exact hc)⟩,?_⟩
   cases hv with
   |own hr hone=>exact h2 _ hr
  .rename_i el sz es hb;obtain⟨h1,h2⟩:=Zja R (.inr ⟨_,hb⟩);have hl:b<h.length:=gt_lt (by rw[hb];intro hc;cases hc);refine⟨ρ,⟨h1,⟨λc r hr=>⟨r,hr,rfl⟩,λg _ hg=>⟨UX hg,rfl⟩⟩,λc hc=>hd c (by rw[Zc4 hl]at hc;exact hc)⟩,?_⟩
   cases hv with
   |own hr hone=>exact h2 _ hr
  .exact⟨ρ,⟨R,.refl,hd⟩,hv⟩
 .exact⟨ρ,⟨R,.refl,hd⟩,hv⟩
theorem Zn1{w:World}:∀(l:List (Option (Nat×Nat))) (cs:V2) (ρ:Map) (h:UA) (vs:UC),Rel N base ρ h w->(∀b,h.length<=b->ρ b=none)->RVs ρ w (Free N ρ h) cs vs->
  ∃ρ',Own N base ρ h w ρ' (Uc l cs h).2/\RVs ρ' w (Free N ρ' (Uc l cs h).2) (Uc l cs h).1 vs
 |[],cs,ρ,h,vs,R,hd,hv=>by
  unfold Uc
  exact⟨ρ,⟨R,.refl,hd⟩,hv⟩
 |o::ps,[],ρ,h,vs,R,hd,hv=>by
  have e:Uc (o::ps) [] h=([],h):=by rcases o with _|⟨n,_|z⟩<;>rfl
  rw[e]
  exact⟨ρ,⟨R,.refl,hd⟩,hv⟩
 |o::ps,c::cs,ρ,h,[],R,hd,hv=>by cases hv
 |o::ps,c::cs,ρ,h,v0::vs,R,hd,hv=>by
  cases hv with|cons q hv =>
  have go:∃ρ',Own N base ρ h w ρ' (Uc ps cs h).2/\RVs ρ' w (Free N ρ' (Uc ps cs h).2) (c::(Uc ps cs h).1) (v0::vs):=by
   obtain⟨ρ',A,B⟩:=Zn1 ps cs ρ h _ R hd hv;exact⟨ρ',A,.cons (q.keep A.keep) B⟩
  cases o with
  |none=>simpa only[Uc]using go
  |some p =>
   obtain⟨n,z⟩:=p
   cases z with
   |succ z=>simpa only[Uc]using go
   |zero =>
    obtain⟨ρ1,A1,B1⟩:=ZwS n c ρ h _ R hd q;obtain⟨ρ',A,B⟩:=Zn1 ps cs ρ1 _ _ A1.rel A1.dom (hv.keep A1.keep);simp only[Uc];exact⟨ρ',A1.trans A,.cons (B1.keep A.keep) B⟩
theorem Zjc(l:List (Option (Nat×Nat)))(v:AV)(ρ:Map)(h:UA)(val:Value)(R:Rel N base ρ h w)(hd:∀b,h.length<=b->ρ b=none)(hv:RV ρ w (Free N ρ h) v val) :
  ∃ρ',Own N base ρ h w ρ' (own1 l v h).2/\RV ρ' w (Free N ρ' (own1 l v h).2) (own1 l v h).1 val:=by
 unfold own1;split
 .rename_i cs
  cases hv with|agg hv h1 =>
  obtain⟨ρ1,A1,B1⟩:=Z8N l cs ρ h _ R hd hv;obtain⟨ρ',A,B⟩:=Zn1 l _ ρ1 _ _ A1.rel A1.dom B1;exact⟨ρ',A1.trans A,.agg B h1⟩
 .split
  .rename_i e sz;split
   .have hs:=Zn0 (h:=h) hv;subst hs;have A:=ZwR R hd e sz;exact⟨_,A,RV.own (r:=⟨.slice none 0 0,[],[]⟩) (by simp[updM]) rfl⟩
   .exact⟨ρ,⟨R,.refl,hd⟩,hv⟩
  .simp_all [ZwS]
  .exact⟨ρ,⟨R,.refl,hd⟩,hv⟩
theorem Zfb{w:World}:∀(rs:List Res) (vs:V2) (ρ:Map) (h:UA) (vals:UC),Rel N base ρ h w->(∀b,h.length<=b->ρ b=none)->RVs ρ w (Free N ρ h) vs vals->
  ∃ρ',Own N base ρ h w ρ' (Ur rs vs h).2/\RVs ρ' w (Free N ρ' (Ur rs vs h).2) (Ur rs vs h).1 vals
 |[],vs,ρ,h,vals,R,hd,hv=>by simp only[Ur];exact⟨ρ,⟨R,.refl,hd⟩,hv⟩
 |r::rs,[],ρ,h,vals,R,hd,hv=>by cases r<;>(simp only[Ur];exact⟨ρ,⟨R,.refl,hd⟩,hv⟩)
 |.tmp t::rs,v::vs,ρ,h,vals,R,hd,hv=>by
  cases hv with|cons q hv =>
  obtain⟨ρ',A,B⟩:=Zfb rs vs ρ h _ R hd hv;simp only[Ur]
  exact⟨ρ',A,.cons (q.keep A.keep) B⟩
 |.cell a n::rs,v::vs,ρ,h,vals,R,hd,hv=>by
  cases hv with|cons q hv =>
  obtain⟨ρ',A,B⟩:=Zfb rs vs ρ h _ R hd hv;simp only[Ur]
  exact⟨ρ',A,.cons (q.keep A.keep) B⟩
 |.tmpO t l::rs,v::vs,ρ,h,vals,R,hd,hv=>by
  cases hv with|cons q hv =>
  obtain⟨ρ1,A1,B1⟩:=Zjc l v ρ h _ R hd q;obtain⟨ρ',A,B⟩:=Zfb rs vs ρ1 _ _ A1.rel A1.dom (hv.keep A1.keep);simp only[Ur]
  exact⟨ρ',A1.trans A,.cons (B1.keep A.keep) B⟩
 |.cellO a n l::rs,v::vs,ρ,h,vals,R,hd,hv=>by
  cases hv with|cons q hv =>
  obtain⟨ρ1,A1,B1⟩:=Zjc l v ρ h _ R hd q;obtain⟨ρ',A,B⟩:=Zfb rs vs ρ1 _ _ A1.rel A1.dom (hv.keep A1.keep);simp only[Ur];exact⟨ρ',A1.trans A,.cons (B1.keep A.keep) B⟩
theorem Z8O(rs:List Res)(v:AV)(ρ:Map)(h:UA)(val:Value)(R:Rel N base ρ h w)(hd:∀b,h.length<=b->ρ b=none)(hv:RV ρ w (Free N ρ h) v val) :
  ∃ρ',Own N base ρ h w ρ' (ownR rs v h).2/\RV ρ' w (Free N ρ' (ownR rs v h).2) (ownR rs v h).1 val:=by
 unfold ownR;split
 .simp_all [Zjc]
 .simp_all [Zjc]
 .cases hv with|tup hv =>
  obtain⟨ρ',A,B⟩:=Zfb _ _ ρ h _ R hd hv;exact⟨ρ',A,.tup B⟩
 .exact⟨ρ,⟨R,.refl,hd⟩,hv⟩
def TblOK(P:Program)(tbl:Nat->Option MFun):Prop:=∀f m,tbl f=some m->∃fn ks inl,P.funcs[f]?=some fn/\Jj P inl ks fn=some m/\QV P f=true
theorem ZwT(hf:P.funcs[f]?=some fn)(hcl:QV P f=true)(hc:Jj P inl ks fn=some m)
  (hW:FW (Xr P) m args h0 r hr):Xr P f args h0 r hr:=by
 refine⟨hcl,?_⟩;intro N base w ρ vs hR hdom hv hz;have hb:=Z8K (N:=N) (base:=base) (ts:=[Zfa ρ h0.length]) rfl hf hc hW.1 (s:={ env:=[],stk:=[UU h0 0],h:=h0 }) hW.2 hR ⟨Z8L hR,trivial⟩ hdom hv hz;refine hb.mono ?_;rintro e w' ⟨val,v,s',ρ1,rfl,hK,hv',hR',hst,hdom',hB,hkn,hfz⟩
 match hs:s'.stk,hst with
 |[e],hst =>
  obtain⟨ρ1',A,hv2⟩:=Z8O m.res v ρ1 s'.h val hR' hdom' hv';obtain⟨ρ2,h1,h2,h3,h4,h5,h6⟩:=Z8M (s:={ s' with h:=(ownR m.res v s'.h).2 }) A.rel hv2 A.dom hs (λt=>(hst.1 t).keep A.keep) hK;exact⟨val,ρ2,rfl,hB,h1,h2,h3,h4,hkn,λg hg hz'=>⟨h5 g (A.keep.free g (Yby hg hB.size) (hfz g hg hz').1).1,(hfz g hg hz').2⟩,h6⟩
end
inductive Fr where
 |seq (b:MCode)
 |blk (id:Nat)
 |loop (keep:UB) (b:MCode)
 |fin (k:Nat) (rs:List Res)
inductive Cf where
 |code (c:MCode)
 |ops (os:List MO) (keep:UB)
 |opsF (os:List MO) (keep:UB)
 |drw (os:List MO) (feet:List Foot) (before:List (UB)) (keep:UB)
 |out (x:X)
abbrev ZG:=Nat->V2->UA->V1
def callB(args:V2)(nx:Nat):V1->Option (AV×List (Nat×Blk))
 |some (r,hr)=>if(Ua args || frR r hr)=true then some (shift nx r,newU nx hr 0)else none
 |none=>none
def callA(C:ZG)(f:Nat)(args:V2)(nx:Nat):Option (V2)->Option (AV×List (Nat×Blk))
 |some as=>callB args nx (C f as [])
 |none=>none
def xcallB(nx:Nat):V1->Option (AV×List (Nat×Blk))
 |some (r,hr)=>if frR r hr=true then some (shift nx r,newU nx (hr.map xB) 0)else none
 |none=>none
def Zc5(C:ZG)(f nx:Nat):Option (V2)->Option (AV×List (Nat×Blk))
 |some as=>xcallB nx (C f as [])
 |none=>none
def fcallB:V1->Option (AV×List (Nat×Blk))
 |some (r,hr)=>match frzR hr r with
  |some d=>some (d,[])
  |none=>none
 |none=>none
def Zc6(C:ZG)(f:Nat)(args:V2):Option (V2)->Option (AV×List (Nat×Blk))
 |some as=>if Ua args=true then fcallB (C f as [])else none
 |none=>none
def packW(v:AV)(u:List (Nat×Blk)):Option (List (Nat×Blk))->Option (AV×List (Nat×Blk))
 |some u2=>some (v,u++u2)
 |none=>none
def packV(h:UA)(x:AV):Option (AV×List (Nat×Blk))->Option (AV×List (Nat×Blk))
 |some (v,u)=>packW v u (Qv h u x)
 |none=>none
def mcallB(ids:UB)(nx:Nat):V1->Option (AV×List (Nat×Blk))
 |some (r,h1)=>some (ren (bk ids nx) r,XO ids nx h1 0)
 |none=>none
def Ud(C:ZG)(f:Nat)(vs:V2)(h:UA)(nx:Nat)(ids:UB):Option (AV×List (Nat×Blk)) :=
 if Uq h ids (Z9 vs)=true then mcallB ids nx (C f (subA ids vs) (subH h ids))else none
open Classical in
noncomputable def pcallB(ids:UB)(h0:UA)(nx:Nat):V1->Option (AV×List (Nat×Blk))
 |some (r,h1)=>if h1.take ids.length=h0 then some (ren (bk ids nx) r,XO ids nx (h1.drop ids.length) ids.length)else none
 |none=>none
noncomputable def Zc7(C:ZG)(f:Nat)(vs:V2)(h:UA)(nx:Nat)(ids:UB):Option (AV×List (Nat×Blk)) :=
 if Uq h ids (Z9 vs)=true then pcallB ids (subH h ids) nx (C f (subA ids vs) (subH h ids))else none
def Zc8(C:ZG)(args:V2)(h:UA)(nx:Nat):AV->Option (AV×List (Nat×Blk))
 |.fn g caps=>Ud C g (args++caps) h nx (ZS h (args++caps))
 |_=>none
noncomputable def runV(C:ZG)(k:MOp)(s:S):Option (AV×List (Nat×Blk)):=match k with
 |.call f args=>callA C f (args.map (ev s.env)) s.h.length (frzs s.h (args.map (ev s.env)))
 |.xcall f args=>Zc5 C f s.h.length (frzs s.h (args.map (ev s.env)))
 |.fcall f args=>Zc6 C f (args.map (ev s.env)) (frzs s.h (args.map (ev s.env)))
 |.icall f args=>Ud C f (args.map (ev s.env)) s.h s.h.length (ZS s.h (args.map (ev s.env)))
 |.scall f args p=>packV s.h (ev s.env p) (Ud C f (args.map (ev s.env)) s.h s.h.length (ZS s.h (args.map (ev s.env))))
 |.pcall f args=>Zc7 C f (args.map (ev s.env)) s.h s.h.length (ZS s.h (args.map (ev s.env)))
 |.dcall f args=>Zc8 C (args.map (ev s.env)) s.h s.h.length (ev s.env f)
 |k=>Z4 s.h s.h.length s.env k
def runD(o:MO)(s:S):Option (AV×List (Nat×Blk))->Option S
 |some (v,u)=>some { s with env:=put o.dst v s.env,h:=upd s.h u }
 |none=>none
noncomputable def runE(C:ZG)(o:MO)(s:S):Option S:=runD o s (runV C o.op s)
def skipE(o:MO)(s:S):S:={ s with env:=put o.dst (.tup []) s.env }
noncomputable def Zfc(C:ZG)(o:MO)(s:S)(want:Bool):AV->Option S
 |.t (.bool b)=>if b=want then runE C o s else some (skipE o s)
 |.tup []=>some (skipE o s)
 |_=>none
noncomputable def opE(C:ZG)(o:MO)(s:S):Option S:=match o.guard with
 |none=>runE C o s
 |some (g,want)=>Zfc C o s want (lk g s.env)
def runFD(o:MO)(s:S):Option (AV×List (Nat×Blk))->Option (Foot×S)
 |some (v,u)=>some (WQ o s (u.map Prod.fst),{ s with env:=put o.dst v s.env,h:=upd s.h u })
 |none=>none
noncomputable def runF(C:ZG)(o:MO)(s:S):Option (Foot×S):=runFD o s (runV C o.op s)
noncomputable def Zfd(C:ZG)(o:MO)(s:S)(want:Bool):AV->Option (Foot×S)
 |.t (.bool b)=>if b=want then runF C o s else some (WQ o s [],skipE o s)
 |.tup []=>some (WQ o s [],skipE o s)
 |_=>none
noncomputable def opF(C:ZG)(o:MO)(s:S):Option (Foot×S):=match o.guard with
 |none=>runF C o s
 |some (g,want)=>Zfd C o s want (lk g s.env)
def finE(k:Nat)(rs:List Res)(s:S):V1:=match resAV rs s with
 |some v=>ZeH rs k v s
 |none=>none
abbrev Step:=Sum (List Fr×Cf×S) (V1)
def stepO(ks:List Fr)(os:List MO)(keep:UB):Option S->Step
 |some s=>.inl (ks,.ops os keep,s)
 |none=>.inr none
def Zc9(ks:List Fr)(os:List MO)(keep:UB):Option S->Step
 |some s=>.inl (ks,.opsF os keep,s)
 |none=>.inr none
def stepD(ks:List Fr)(os:List MO)(feet:List Foot)(before:List (UB))(keep:UB):Option (Foot×S)->Step
 |some (f,s)=>.inl (ks,.drw os (feet++[f]) before keep,s)
 |none=>.inr none
def stepC(ks:List Fr)(x y:MCode)(s:S):AV->Step
 |.t (.bool b)=>if b=true then .inl (ks,.code x,s)else .inl (ks,.code y,s)
 |_=>.inr none
noncomputable def step(C:ZG):List Fr->Cf->S->Step
 |ks,.code .skip,s=>.inl (ks,.out .n,s)
 |ks,.code (.reg ops keep),s=>.inl (ks,.ops ops keep,s)
 |ks,.code (.regF ops keep),s=>.inl (ks,.opsF ops keep,s)
 |ks,.code (.drw ops b keep),s=>.inl (ks,.drw ops [] b keep,s)
 |ks,.code (.drwF ops b keep),s=>.inl (ks,.drw ops [] b keep,fzD ops s)
 |ks,.code (.seq a b),s=>.inl (.seq b::ks,.code a,s)
 |ks,.code (.cond c x y),s=>stepC ks x y s (ev s.env c)
 |ks,.code (.block id b),s=>.inl (.blk id::ks,.code b,s)
 |ks,.code (.loop keep b),s=>.inl (.loop keep b::ks,.code b,US keep s)
 |ks,.code (.exit id),s=>.inl (ks,.out (.x id),s)
 |ks,.code .ret,s=>.inl (ks,.out .r,s)
 |ks,.ops [] keep,s=>.inl (ks,.out .n,{ s with env:=rst keep s.env })
 |ks,.ops (o::os) keep,s=>stepO ks os keep (opE C o s)
 |ks,.opsF [] keep,s=>.inl (ks,.out .n,{ s with env:=rst keep s.env })
 |ks,.opsF (o::os) keep,s=>Zc9 ks os keep (opE C o (fzO o s))
 |ks,.drw [] feet before keep,s=>if Ji before feet=true then .inl (ks,.out .n,{ s with env:=rst keep s.env })else .inr none
 |ks,.drw (o::os) feet before keep,s=>stepD ks os feet before keep (opF C o s)
 |[],.out _,_=>.inr none
 |.fin _ _::_,.out (.x _),_=>.inr none
 |.fin k rs::_,.out .n,s=>.inr (finE k rs s)
 |.fin k rs::_,.out .r,s=>.inr (finE k rs s)
 |.seq b::ks,.out .n,s=>.inl (ks,.code b,s)
 |.seq _::ks,.out x,s=>.inl (ks,.out x,s)
 |.blk id::ks,.out (.x i),s=>if i=id then .inl (ks,.out .n,s)else .inl (ks,.out (.x i),s)
 |.blk _::ks,.out x,s=>.inl (ks,.out x,s)
 |.loop keep b::ks,.out .n,s=>.inl (ks,.code (.loop keep b),s)
 |.loop _ _::ks,.out x,s=>.inl (ks,.out x,s)
noncomputable def runN(C:ZG):Nat->List Fr->Cf->S->V1
 |0,_,_,_=>none
 |n+1,ks,cf,s=>match step C ks cf s with
  |.inl (ks',cf',s')=>runN C n ks' cf' s'
  |.inr r=>r
theorem Zjd{C:ZG}:∀(n:Nat) {m:Nat} {ks:List Fr} {cf:Cf} {s:S} {r:V3},runN C n ks cf s=some r->n<=m->runN C m ks cf s=some r
 |0,_,_,_,_,_,h,_=>by cases h
 |n+1,0,_,_,_,_,_,hm=>by omega
 |n+1,m+1,ks,cf,s,r,h,hm=>by
  simp only[runN]at h|-;split at h
  .rename_i h1;exact Zjd n h (by omega)
  .rename_i h1;exact h
variable{s:S}{r:V3}{p:Nat->V1}{n:Nat}
theorem runN_det{C:ZG}{m:Nat}{ks:List Fr}{cf:Cf}{r':V3}(h:runN C n ks cf s=some r)(h':runN C m ks cf s=some r'):r=r':=by
 grind [Nat.le_total,Zjd]
open Classical in
noncomputable def limP(p:V3->Prop):V1:=if h:∃r,p r then some h.choose else none
noncomputable def lim(p:Nat->V1):V1:=limP λr=>∃n,p n=some r
theorem Zbd(h:lim p=some r):∃n,p n=some r:=by
 unfold lim limP at h;split at h
 .grind
 .cases h
theorem lim_eq(det:∀n m r r',p n=some r->p m=some r'->r=r')(h:p n=some r):lim p=some r:=by
 have hx:∃r,∃n,p n=some r:=⟨r,n,h⟩;unfold lim limP
 grind
theorem Z8P{q:Nat->V1}(h:∀r,(∃n,p n=some r)↔∃n,q n=some r):lim p=lim q:=by
 have:(λr=>∃n,p n=some r)=λr=>∃n,q n=some r:=funext λr=>propext (h r)
 unfold lim;rw[this]
noncomputable def Lim(C:ZG)(ks:List Fr)(cf:Cf)(s:S):V1:=lim λn=>runN C n ks cf s
theorem Zn2{C:ZG}{ks:List Fr}{cf:Cf}(h:Lim C ks cf s=some r):∃n,runN C n ks cf s=some r:=Zbd h
theorem XV{C:ZG}{ks ks':List Fr}{cf cf':Cf}{s':S}(h:step C ks cf s=.inl (ks',cf',s')):Lim C ks cf s=Lim C ks' cf' s':=by
 refine Z8P λr=>⟨?_,?_⟩
 .rintro⟨n,hn⟩
  cases n with
  |zero=>cases hn
  |succ n=>simp only[runN,h]at hn;exact⟨n,hn⟩
 .rintro⟨n,hn⟩;exact⟨n+1,by simp only[runN,h];exact hn⟩
theorem Zbe{C:ZG}{ks:List Fr}{cf:Cf}{r:V1}(h:step C ks cf s=.inr r):Lim C ks cf s=r:=by
 cases r with
 |some r=>exact lim_eq (λn m r r' h h'=>runN_det h h') (n:=1) (by simp only[runN,h])
 |none =>
  cases hl:Lim C ks cf s with
  |none=>rfl
  |some r =>
   obtain⟨n,hn⟩:=Zn2 hl
   cases n with
   |zero=>cases hn
   |succ n=>simp only[runN,h]at hn;cases hn
noncomputable def Ev(C:ZG)(ks:List Fr)(c:MCode)(s:S):V1:=Lim C ks (.code c) s
noncomputable def EvX(C:ZG)(ks:List Fr)(x:X)(s:S):V1:=Lim C ks (.out x) s
noncomputable def EvO(C:ZG)(ks:List Fr)(os:List MO)(keep:UB)(s:S):V1:=Lim C ks (.ops os keep) s
noncomputable def EvOF(C:ZG)(ks:List Fr)(os:List MO)(keep:UB)(s:S):V1:=Lim C ks (.opsF os keep) s
noncomputable def EvD(C:ZG)(ks:List Fr)(os:List MO)(feet:List Foot)(before:List (UB))(keep:UB)(s:S):V1:=Lim C ks (.drw os feet before keep) s
noncomputable def EvL(C:ZG)(ks:List Fr)(keep:UB)(b:MCode)(s:S):V1:=Ev C (.loop keep b::ks) b s
noncomputable def EvS(C:ZG)(ks:List Fr)(os:List MO)(keep:UB):Option S->V1
 |some s=>EvO C ks os keep s
 |none=>none
noncomputable def EvSF(C:ZG)(ks:List Fr)(os:List MO)(keep:UB):Option S->V1
 |some s=>EvOF C ks os keep s
 |none=>none
noncomputable def EvF(C:ZG)(ks:List Fr)(os:List MO)(feet:List Foot)(before:List (UB))(keep:UB):Option (Foot×S)->V1
 |some (f,s)=>EvD C ks os (feet++[f]) before keep s
 |none=>none
noncomputable def EvC(C:ZG)(ks:List Fr)(x y:MCode)(s:S):AV->V1
 |.t (.bool b)=>if b=true then Ev C ks x s else Ev C ks y s
 |_=>none
section
variable{C:ZG}{ks:List Fr}{s:S}{a b x y:MCode}{os:List MO}{o:MO}{keep:UB}{id i:Nat}{feet:List Foot}{before:List (UB)}{k:Nat}{rs:List Res}
theorem Ev_skip:Ev C ks .skip s=EvX C ks .n s:=XV rfl
theorem Ev_reg:Ev C ks (.reg os keep) s=EvO C ks os keep s:=XV rfl
theorem Ev_regF:Ev C ks (.regF os keep) s=EvOF C ks os keep s:=XV rfl
theorem Ev_drw:Ev C ks (.drw os before keep) s=EvD C ks os [] before keep s:=XV rfl
theorem Ev_drwF:Ev C ks (.drwF os before keep) s=EvD C ks os [] before keep (fzD os s):=XV rfl
theorem Ev_seq:Ev C ks (.seq a b) s=Ev C (.seq b::ks) a s:=XV rfl
theorem Ev_cond{c:Opd}:Ev C ks (.cond c x y) s=EvC C ks x y s (ev s.env c):=by
 unfold EvC;split
 .rename_i b hb;cases b
  .exact XV (by simp[step,hb,stepC])
  .exact XV (by simp[step,hb,stepC])
 .rename_i hb;refine Zbe ?_;simp only[step];unfold stepC;simp
theorem Ev_block:Ev C ks (.block id b) s=Ev C (.blk id::ks) b s:=XV rfl
theorem Ev_loop:Ev C ks (.loop keep b) s=Ev C (.loop keep b::ks) b (US keep s):=XV rfl
theorem Zn{B c:MCode}(hB:B=c):EvL C ks keep B s=Ev C (.loop keep B::ks) c s:=by subst hB;rfl
theorem ZwU:Ev C ks (.loop keep b) s=EvL C ks keep b (US keep s):=Ev_loop
theorem EvD_nil':EvD C ks [] feet before keep s=if Ji before feet=true then EvX C ks .n { s with env:=rst keep s.env } else none:=by
 split
 .rename_i h;exact XV (by simp[step,h])
 .rename_i h;exact Zbe (by simp[step,h])
theorem Ev_exit:Ev C ks (.exit id) s=EvX C ks (.x id) s:=XV rfl
theorem Ev_ret:Ev C ks .ret s=EvX C ks .r s:=XV rfl
theorem EvO_nil:EvO C ks [] keep s=EvX C ks .n { s with env:=rst keep s.env }:=XV rfl
theorem EvO_cons:EvO C ks (o::os) keep s=EvS C ks os keep (opE C o s):=by
 cases h:opE C o s with
 |some s'=>exact XV (by simp[step,h,stepO])
 |none =>
  show Lim C ks (.ops (o::os) keep) s=none;exact Zbe (by simp[step,h,stepO])
theorem EvOF_nil:EvOF C ks [] keep s=EvX C ks .n { s with env:=rst keep s.env }:=XV rfl
theorem Z8Q:EvOF C ks (o::os) keep s=EvSF C ks os keep (opE C o (fzO o s)):=by
 cases h:opE C o (fzO o s)with
 |some s'=>exact XV (by simp[step,h,Zc9])
 |none =>
  show Lim C ks (.opsF (o::os) keep) s=none;exact Zbe (by simp[step,h,Zc9])
theorem Z8R:EvSF C ks os keep (some s)=EvOF C ks os keep s:=rfl
theorem EvS_some:EvS C ks os keep (some s)=EvO C ks os keep s:=rfl
theorem EvD_cons:EvD C ks (o::os) feet before keep s=EvF C ks os feet before keep (opF C o s):=by
 cases h:opF C o s with
 |some p=>obtain⟨f,s'⟩:=p;exact XV (by simp[step,h,stepD])
 |none =>
  show Lim C ks (.drw (o::os) feet before keep) s=none;exact Zbe (by simp[step,h,stepD])
theorem EvF_some{f:Foot}:EvF C ks os feet before keep (some (f,s))=EvD C ks os (feet++[f]) before keep s:=rfl
theorem EvC_bool{v:Bool}:EvC C ks x y s (.t (.bool v))=if v=true then Ev C ks x s else Ev C ks y s:=rfl
theorem Z8S:EvX C (.fin k rs::ks) .n s=finE k rs s:=Zbe rfl
theorem Z8T:EvX C (.fin k rs::ks) .r s=finE k rs s:=Zbe rfl
theorem Z8U:EvX C (.seq b::ks) .n s=Ev C ks b s:=XV rfl
theorem Z8V:EvX C (.seq b::ks) (.x i) s=EvX C ks (.x i) s:=XV rfl
theorem Z8W:EvX C (.seq b::ks) .r s=EvX C ks .r s:=XV rfl
theorem Z8X:EvX C (.blk id::ks) .n s=EvX C ks .n s:=XV rfl
theorem Z8Y:EvX C (.blk id::ks) (.x i) s=if i=id then EvX C ks .n s else EvX C ks (.x i) s:=by
 split
 .rename_i h;exact XV (by simp[step,h])
 .rename_i h;exact XV (by simp[step,h])
theorem Z8Z:EvX C (.blk id::ks) .r s=EvX C ks .r s:=XV rfl
theorem Z9a:EvX C (.loop keep b::ks) .n s=Ev C ks (.loop keep b) s:=XV rfl
theorem Z9b:EvX C (.loop keep b::ks) .n s=EvL C ks keep b (US keep s):=by rw[Z9a,ZwU]
theorem Z9c:EvX C (.loop keep b::ks) (.x i) s=EvX C ks (.x i) s:=XV rfl
theorem Z9d:EvX C (.loop keep b::ks) .r s=EvX C ks .r s:=XV rfl
end
noncomputable def Ws(X:ZG)(tbl:Nat->Option MFun):Nat->ZG
 |0=>λ_ _ _=>none
 |n+1=>λf as h0=>match tbl f with
  |some m=>if as.length=m.np then runN (Ws X tbl n) n [.fin h0.length m.res] (.code m.body) ⟨UT as 0,[UU h0 0],h0⟩else none
  |none=>X f as h0
def LeE(C C':ZG):Prop:=∀f as h0 r,C f as h0=some r->C' f as h0=some r
theorem Zje{h:UA}{x:AV}{q:Option (AV×List (Nat×Blk))}{v:AV}{u:List (Nat×Blk)}(hp:packV h x q=some (v,u)):∃u1 u2,q=some (v,u1)/\Qv h u1 x=some u2/\u=u1++u2:=by
 cases q with
 |none=>cases hp
 |some p =>
  obtain⟨v1,u1⟩:=p;simp only[packV]at hp
  cases hx:Qv h u1 x with
  |none=>rw[hx]at hp;cases hp
  |some u2=>rw[hx]at hp;cases hp;exact⟨u1,u2,rfl,hx,rfl⟩
theorem ZwV{C C':ZG}(h:LeE C C'){k:MOp}{s:S}{p:AV×List (Nat×Blk)}(hr:runV C k s=some p):runV C' k s=some p:=by
 have m:∀f vs ids,Ud C f vs s.h s.h.length ids=some p->Ud C' f vs s.h s.h.length ids=some p:=by
  intro f vs ids hr;unfold Ud at hr|-;split at hr
  .rename_i hc;rw[Ya hc]
   cases hx:C f (subA ids vs) (subH s.h ids)with
   |none=>rw[hx]at hr;cases hr
   |some q=>rw[h _ _ _ _ hx];rw[hx]at hr;exact hr
  .cases hr
 cases k<;>first|exact hr|skip
 .rename_i f args;simp only[runV]at hr|-
  cases hf:frzs s.h (args.map (ev s.env))with
  |none=>rw[hf]at hr;cases hr
  |some as =>
   rw[hf]at hr;simp only[callA]at hr|-
   cases hx:C f as []with
   |none=>rw[hx]at hr;cases hr
   |some q=>rw[h _ _ _ _ hx];rw[hx]at hr;exact hr
 .rename_i f args;simp only[runV]at hr|-
  cases hf:frzs s.h (args.map (ev s.env))with
  |none=>rw[hf]at hr;cases hr
  |some as =>
   rw[hf]at hr;simp only[Zc5]at hr|-
   cases hx:C f as []with
   |none=>rw[hx]at hr;cases hr
   |some q=>rw[h _ _ _ _ hx];rw[hx]at hr;exact hr
 .rename_i f args;simp only[runV]at hr|-
  cases hf:frzs s.h (args.map (ev s.env))with
  |none=>rw[hf]at hr;cases hr
  |some as =>
   rw[hf]at hr;simp only[Zc6]at hr|-;split at hr
   .rename_i hno;rw[Ya hno]
    cases hx:C f as []with
    |none=>rw[hx]at hr;cases hr
    |some q=>rw[h _ _ _ _ hx];rw[hx]at hr;exact hr
   .cases hr
 .exact m _ _ _ hr
 .rename_i f args p';simp only[runV]at hr|-;obtain⟨v,u⟩:=p;obtain⟨u1,u2,q1,q2,rfl⟩:=Zje hr;have m':∀p f vs ids,Ud C f vs s.h s.h.length ids=some p->Ud C' f vs s.h s.h.length ids=some p:=by
   intro p f vs ids hr;unfold Ud at hr|-;split at hr
   .rename_i hc;rw[Ya hc]
    cases hx:C f (subA ids vs) (subH s.h ids)with
    |none=>rw[hx]at hr;cases hr
    |some q=>rw[h _ _ _ _ hx];rw[hx]at hr;exact hr
   .cases hr
  grind
 .rename_i f args;simp only[runV,Zc7]at hr|-;split at hr
  .rename_i hc;rw[Ya hc]
   cases hx:C f (subA (ZS s.h (args.map (ev s.env))) (args.map (ev s.env))) (subH s.h (ZS s.h (args.map (ev s.env))))with
   |none=>rw[hx]at hr;cases hr
   |some q=>rw[h _ _ _ _ hx];rw[hx]at hr;exact hr
  .cases hr
 .rename_i x args;simp only[runV]at hr|-;unfold Zc8 at hr|-
  grind
theorem ZwW{C C':ZG}(h:LeE C C'){o:MO}{s s':S}(hr:runE C o s=some s'):runE C' o s=some s':=by
 unfold runE at hr|-
 cases hx:runV C o.op s with
 |none=>rw[hx]at hr;cases hr
 |some p=>rw[ZwV h hx];rw[hx]at hr;exact hr
theorem ZwX{C C':ZG}(h:LeE C C'){o:MO}{s:S}{s':Foot×S}(hr:runF C o s=some s'):runF C' o s=some s':=by
 unfold runF at hr|-
 cases hx:runV C o.op s with
 |none=>rw[hx]at hr;cases hr
 |some p=>rw[ZwV h hx];rw[hx]at hr;exact hr
theorem ZwY{C C':ZG}(h:LeE C C'){o:MO}{s s':S}(hr:opE C o s=some s'):opE C' o s=some s':=by
 unfold opE at hr|-
 cases hg:o.guard with
 |none=>simp only[hg]at hr|-;exact ZwW h hr
 |some p =>
  obtain⟨g,want⟩:=p;simp only[hg]at hr|-;unfold Zfc at hr|-
  grind [ZwW]
theorem opF_mono{C C':ZG}(h:LeE C C'){o:MO}{s:S}{s':Foot×S}(hr:opF C o s=some s'):opF C' o s=some s':=by
 unfold opF at hr|-
 cases hg:o.guard with
 |none=>simp only[hg]at hr|-;exact ZwX h hr
 |some p =>
  obtain⟨g,want⟩:=p;simp only[hg]at hr|-;unfold Zfd at hr|-
  grind [ZwX]
theorem Zn3{C C':ZG}(h:LeE C C'){ks:List Fr}{cf:Cf}{s:S}:(∀c,step C ks cf s=.inl c->step C' ks cf s=.inl c)/\∀r,step C ks cf s=.inr (some r)->step C' ks cf s=.inr (some r):=by
 have key:(∃o os keep,cf=.ops (o::os) keep)\/(∃o os feet before keep,cf=.drw (o::os) feet before keep)\/(∃o os keep,cf=.opsF (o::os) keep)\/step C ks cf s=step C' ks cf s:=by
  cases cf with
  |code c=>cases c<;>exact .inr (.inr (.inr rfl))
  |ops os keep =>
   cases os with
   |nil=>exact .inr (.inr (.inr rfl))
   |cons o os=>exact .inl ⟨o,os,keep,rfl⟩
  |opsF os keep =>
   cases os with
   |nil=>exact .inr (.inr (.inr rfl))
   |cons o os=>exact .inr (.inr (.inl ⟨o,os,keep,rfl⟩))
  |drw os feet before keep =>
   cases os with
   |nil=>exact .inr (.inr (.inr rfl))
   |cons o os=>exact .inr (.inl ⟨o,os,feet,before,keep,rfl⟩)
  |out x =>
   refine .inr (.inr (.inr ?_))
   cases ks with
   |nil=>rfl
   |cons k ks=>cases k<;>cases x<;>rfl
 rcases key with⟨o,os,keep,rfl⟩|⟨o,os,feet,before,keep,rfl⟩|⟨o,os,keep,rfl⟩|he
 .simp only[step]
  cases hx:opE C o s with
  |none=>simp[stepO]
  |some s'=>rw[ZwY h hx];exact⟨λ_ h=>h,λ_ h=>h⟩
 .simp only[step]
  cases hx:opF C o s with
  |none=>simp[stepD]
  |some s'=>rw[opF_mono h hx];exact⟨λ_ h=>h,λ_ h=>h⟩
 .simp only[step]
  cases hx:opE C o (fzO o s)with
  |none=>simp[Zc9]
  |some s'=>rw[ZwY h hx];exact⟨λ_ h=>h,λ_ h=>h⟩
 .simp_all
theorem Zjf{C C':ZG}(h:LeE C C'):∀(n:Nat) {ks:List Fr} {cf:Cf} {s:S} {r:V3},runN C n ks cf s=some r->runN C' n ks cf s=some r
 |0,_,_,_,_,hr=>by cases hr
 |n+1,ks,cf,s,r,hr=>by
  simp only[runN]at hr|-;split at hr
  .rename_i h1;rw[(Zn3 h).1 _ h1];exact Zjf h n hr
  .rename_i h1;subst hr;rw[(Zn3 h).2 _ h1]
theorem ZwZ{X:ZG}{tbl:Nat->Option MFun}:∀n,LeE (Ws X tbl n) (Ws X tbl (n+1))
 |0=>λ_ _ _ _ h=>by cases h
 |n+1=>λf as h0 r h=>by
  simp only[Ws]at h;rw[Ws]
  cases hm:tbl f with
  |none=>simp only[hm]at h|-;exact h
  |some m =>
   simp only[hm]at h|-;split at h
   .rename_i hl;rw[Ya hl];exact Zjd _ (Zjf (ZwZ n) n h) (Nat.le_succ n)
   .cases h
theorem Zfe{X:ZG}{tbl:Nat->Option MFun}{n m:Nat}(h:n<=m):LeE (Ws X tbl n) (Ws X tbl m):=by
 induction h with
 |refl=>exact λ_ _ _ _ h=>h
 |step _ ih=>exact λf as h0 r h=>ZwZ _ f as h0 r (ih f as h0 r h)
theorem Z9e{X:ZG}{tbl:Nat->Option MFun}{f:Nat}{as:V2}{h0:UA}(n m:Nat)(r r':V3)(h:Ws X tbl n f as h0=some r)(h':Ws X tbl m f as h0=some r'):r=r':=by
 have h1:=Zfe (Nat.le_max_left n m) f as h0 r h;have h2:=Zfe (Nat.le_max_right n m) f as h0 r' h'
 simp_all
noncomputable def Xs(X:ZG)(tbl:Nat->Option MFun):ZG:=λf as h0=>lim λn=>Ws X tbl n f as h0
theorem Zxa{X:ZG}{tbl:Nat->Option MFun}(n:Nat):LeE (Ws X tbl n) (Xs X tbl):=λ_ _ _ _ h=>lim_eq (λn m r r' h h'=>Z9e n m r r' h h') h
theorem ZcA{X:ZG}{tbl:Nat->Option MFun}{f:Nat}{as:V2}{h0:UA}(ht:tbl f=none){r:V3}(h:X f as h0=some r):Xs X tbl f as h0=some r:=Zxa 1 f as h0 r (by simp only[Ws,ht];exact h)
theorem Zxb{X:ZG}{tbl:Nat->Option MFun}{k:MOp}{s:S}{p:AV×List (Nat×Blk)}(hr:runV (Xs X tbl) k s=some p):∃n,runV (Ws X tbl n) k s=some p:=by
 have m:∀p f vs ids,Ud (Xs X tbl) f vs s.h s.h.length ids=some p->∃n,Ud (Ws X tbl n) f vs s.h s.h.length ids=some p:=by
  intro p f vs ids hr;unfold Ud at hr|-;split at hr
  .rename_i hc
   cases hx:Xs X tbl f (subA ids vs) (subH s.h ids)with
   |none=>rw[hx]at hr;cases hr
   |some q =>
    obtain⟨n,hn⟩:=Zbd hx
    grind
  .cases hr
 cases k<;>first|exact⟨0,hr⟩|skip
 .rename_i f args;simp only[runV]at hr|-
  cases hf:frzs s.h (args.map (ev s.env))with
  |none=>rw[hf]at hr;cases hr
  |some as =>
   rw[hf]at hr;simp only[callA]at hr|-
   cases hx:Xs X tbl f as []with
   |none=>rw[hx]at hr;cases hr
   |some q =>
    obtain⟨n,hn⟩:=Zbd hx
    grind
 .rename_i f args;simp only[runV]at hr|-
  cases hf:frzs s.h (args.map (ev s.env))with
  |none=>rw[hf]at hr;cases hr
  |some as =>
   rw[hf]at hr;simp only[Zc5]at hr|-
   cases hx:Xs X tbl f as []with
   |none=>rw[hx]at hr;cases hr
   |some q =>
    obtain⟨n,hn⟩:=Zbd hx
    grind
 .rename_i f args;simp only[runV]at hr|-
  cases hf:frzs s.h (args.map (ev s.env))with
  |none=>rw[hf]at hr;cases hr
  |some as =>
   rw[hf]at hr;simp only[Zc6]at hr|-;split at hr
   .rename_i hno;simp only[Ya hno]
    cases hx:Xs X tbl f as []with
    |none=>rw[hx]at hr;cases hr
    |some q =>
     obtain⟨n,hn⟩:=Zbd hx
     grind
   .cases hr
 .exact m _ _ _ _ hr
 .rename_i f args p';simp only[runV]at hr|-
  grind [Zje]
 .rename_i f args;simp only[runV,Zc7]at hr|-;split at hr
  .rename_i hc
   cases hx:Xs X tbl f (subA (ZS s.h (args.map (ev s.env))) (args.map (ev s.env))) (subH s.h (ZS s.h (args.map (ev s.env))))with
   |none=>rw[hx]at hr;cases hr
   |some q =>
    obtain⟨n,hn⟩:=Zbd hx
    grind
  .cases hr
 .rename_i x args;simp only[runV]at hr|-;unfold Zc8 at hr|-;split at hr
  .exact m _ _ _ _ hr
  .cases hr
theorem Zxc{X:ZG}{tbl:Nat->Option MFun}{o:MO}{s s':S}(hr:runE (Xs X tbl) o s=some s'):∃n,runE (Ws X tbl n) o s=some s':=by
 unfold runE at hr|-
 cases hx:runV (Xs X tbl) o.op s with
 |none=>rw[hx]at hr;cases hr
 |some p =>
  grind [Zxb]
theorem Zxd{X:ZG}{tbl:Nat->Option MFun}{o:MO}{s:S}{s':Foot×S}(hr:runF (Xs X tbl) o s=some s'):∃n,runF (Ws X tbl n) o s=some s':=by
 unfold runF at hr|-
 cases hx:runV (Xs X tbl) o.op s with
 |none=>rw[hx]at hr;cases hr
 |some p =>
  grind [Zxb]
theorem Zxe{X:ZG}{tbl:Nat->Option MFun}{o:MO}{s s':S}(hr:opE (Xs X tbl) o s=some s'):∃n,opE (Ws X tbl n) o s=some s':=by
 unfold opE at hr|-
 cases hg:o.guard with
 |none=>simp only[hg]at hr|-;exact Zxc hr
 |some p =>
  obtain⟨g,want⟩:=p;simp only[hg]at hr|-;unfold Zfc at hr|-;split at hr
  .split at hr
   .simp_all [Zxc]
   .simp_all
  .exact⟨0,hr⟩
  .cases hr
theorem opF_fin{X:ZG}{tbl:Nat->Option MFun}{o:MO}{s:S}{s':Foot×S}(hr:opF (Xs X tbl) o s=some s'):∃n,opF (Ws X tbl n) o s=some s':=by
 unfold opF at hr|-
 cases hg:o.guard with
 |none=>simp only[hg]at hr|-;exact Zxd hr
 |some p =>
  obtain⟨g,want⟩:=p;simp only[hg]at hr|-;unfold Zfd at hr|-;split at hr
  .split at hr
   .simp_all [Zxd]
   .simp_all
  .exact⟨0,hr⟩
  .cases hr
theorem Zxf{X:ZG}{tbl:Nat->Option MFun}{ks:List Fr}{cf:Cf}{s:S}{c:Step}(hc:c≠.inr none)(h:step (Xs X tbl) ks cf s=c):∃n,step (Ws X tbl n) ks cf s=c:=by
 have key:(∃o os keep,cf=.ops (o::os) keep)\/(∃o os feet before keep,cf=.drw (o::os) feet before keep)\/(∃o os keep,cf=.opsF (o::os) keep)\/step (Ws X tbl 0) ks cf s=step (Xs X tbl) ks cf s:=by
  cases cf with
  |code c=>cases c<;>exact .inr (.inr (.inr rfl))
  |ops os keep =>
   cases os with
   |nil=>exact .inr (.inr (.inr rfl))
   |cons o os=>exact .inl ⟨o,os,keep,rfl⟩
  |opsF os keep =>
   cases os with
   |nil=>exact .inr (.inr (.inr rfl))
   |cons o os=>exact .inr (.inr (.inl ⟨o,os,keep,rfl⟩))
  |drw os feet before keep =>
   cases os with
   |nil=>exact .inr (.inr (.inr rfl))
   |cons o os=>exact .inr (.inl ⟨o,os,feet,before,keep,rfl⟩)
  |out x =>
   refine .inr (.inr (.inr ?_))
   cases ks with
   |nil=>rfl
   |cons k ks=>cases k<;>cases x<;>rfl
 rcases key with⟨o,os,keep,rfl⟩|⟨o,os,feet,before,keep,rfl⟩|⟨o,os,keep,rfl⟩|he
 .simp only[step]at h|-
  cases hx:opE (Xs X tbl) o s with
  |none=>rw[hx]at h;exact absurd h.symm hc
  |some s' =>
   grind [Zxe]
 .simp only[step]at h|-
  cases hx:opF (Xs X tbl) o s with
  |none=>rw[hx]at h;exact absurd h.symm hc
  |some s' =>
   grind [opF_fin]
 .simp only[step]at h|-
  cases hx:opE (Xs X tbl) o (fzO o s)with
  |none=>rw[hx]at h;exact absurd h.symm hc
  |some s' =>
   grind [Zxe]
 .grind
theorem Zxg{X:ZG}{tbl:Nat->Option MFun}:∀(n:Nat) {ks:List Fr} {cf:Cf} {s:S} {r:V3},runN (Xs X tbl) n ks cf s=some r->∃k,runN (Ws X tbl k) n ks cf s=some r
 |0,_,_,_,_,h=>by cases h
 |n+1,ks,cf,s,r,h=>by
  simp only[runN]at h;split at h
  .rename_i ks' cf' s' h1;obtain⟨k,hk⟩:=Zxf (by intro hc;cases hc) h1;obtain⟨k2,hk2⟩:=Zxg n h;refine⟨max k k2,?_⟩;simp only[runN];rw[(Zn3 (Zfe (Nat.le_max_left k k2))).1 _ hk];exact Zjf (Zfe (Nat.le_max_right k k2)) n hk2
  .rename_i h1;subst h;obtain⟨k,hk⟩:=Zxf (by intro hc;cases hc) h1;exact⟨k,by simp only[runN,hk]⟩
theorem Zff{X:ZG}{tbl:Nat->Option MFun}{f:Nat}{as:V2}{h0:UA}{m:MFun}(ht:tbl f=some m)(hl:as.length=m.np){r:V3}(h:Ev (Xs X tbl) [.fin h0.length m.res] m.body ⟨UT as 0,[UU h0 0],h0⟩=some r):Xs X tbl f as h0=some r:=by
 obtain⟨n,hn⟩:=Zn2 h;obtain⟨k,hk⟩:=Zxg n hn;refine Zxa (max n k+1) f as h0 r ?_;simp only[Ws,ht,hl,if_true];exact Zjd n (Zjf (Zfe (Nat.le_max_right n k)) n hk) (Nat.le_max_left n k)
theorem Z9f{p:Nat->Prop}(h:∃n,p n):∃n,p n/\∀m,p m->n<=m:=by
 obtain⟨n,hn⟩:=h
 induction n using Nat.strongRecOn with
 |ind n ih =>
  grind
section
variable{Γ:Ctr}{C:ZG}{s s':S}{o:MO}{f nx:Nat}{h:UA}{v:AV}{u:List (Nat×Blk)}{K K':S->Prop}{args vs:V2}{r:V3}
def Qf(C:ZG)(r:V3)(m:Nat)(ks:List Fr):X->S->Prop:=λx s=>∃k,k<m/\runN C k ks (.out x) s=some r
theorem Zxh(hK:∀s,K s->K' s)(h:runW Γ o s K):runW Γ o s K':=by
 unfold runW at h|-;split at h
 .grind
 .grind
 .grind
 .obtain⟨h1,r,h2,h3,h4⟩:=h;exact⟨h1,r,h2,h3,hK _ h4⟩
 .obtain⟨h1,r,h2,h3,u2,h4,h5⟩:=h;exact⟨h1,r,h2,h3,u2,h4,hK _ h5⟩
 .obtain⟨h1,r,h2,h3,h4⟩:=h;exact⟨h1,r,h2,h3,hK _ h4⟩
 .split at h
  .obtain⟨h1,r,h2,h3,h4⟩:=h;exact⟨h1,r,h2,h3,hK _ h4⟩
  .exact h.elim
 .grind
theorem Zxi(hK:∀s,K s->K' s)(h:opW Γ o s K):opW Γ o s K':=by
 unfold opW at h|-;split at h
 .exact Zxh hK h
 .grind [Zxh]
theorem Zjg:∀(os:List MO) {s:S} {K K':S->Prop},(∀s,K s->K' s)->regW Γ os s K->regW Γ os s K'
 |[],_,_,_,hK,h=>hK _ h
 |_::os,_,_,_,hK,h=>Zxi (λ_ h'=>Zjg os hK h') h
theorem Zjh:∀(os:List MO) {s:S} {K K':S->Prop},(∀s,K s->K' s)->K4 Γ os s K->K4 Γ os s K'
 |[],_,_,_,hK,h=>hK _ h
 |_::os,_,_,_,hK,h=>Zxi (λ_ h'=>Zjh os hK h') h
theorem Zxj{K K':Foot->S->Prop}(hK:∀f s,K f s->K' f s)(h:VE Γ o s K):VE Γ o s K':=by
 unfold VE at h|-;split at h
 .grind
 .grind
 .grind
 .obtain⟨h1,r,h2,h3,u2,h4,h5⟩:=h;exact⟨h1,r,h2,h3,u2,h4,hK _ _ h5⟩
 .obtain⟨h1,r,h2,h3,h4⟩:=h;exact⟨h1,r,h2,h3,hK _ _ h4⟩
 .obtain⟨h1,r,h2,h3,h4⟩:=h;exact⟨h1,r,h2,h3,hK _ _ h4⟩
 .split at h
  .obtain⟨h1,r,h2,h3,h4⟩:=h;exact⟨h1,r,h2,h3,hK _ _ h4⟩
  .exact h.elim
 .grind
theorem Z9g{K K':Foot->S->Prop}(hK:∀f s,K f s->K' f s)(h:drwG Γ o s K):drwG Γ o s K':=by
 unfold drwG at h|-;split at h
 .exact Zxj hK h
 .grind [Zxj]
theorem ZcB:∀(os:List MO) {s:S} {feet:List Foot} {K K':List Foot->S->Prop},(∀f s,K f s->K' f s)->drwW Γ os s feet K->drwW Γ os s feet K'
 |[],_,_,_,_,hK,h=>hK _ _ h
 |_::os,_,_,_,_,hK,h=>Z9g (λ_ _ h'=>ZcB os hK h') h
theorem Us:∀(c:MCode) {s:S} {Q Q':X->S->Prop},(∀x s,Q x s->Q' x s)->Wc Γ c Q s->Wc Γ c Q' s
 |.skip,_,_,_,hQ,h=>hQ _ _ h
 |.reg os _,_,_,_,hQ,h=>Zjg os (λ_ h'=>hQ _ _ h') h
 |.regF os _,_,_,_,hQ,h=>Zjh os (λ_ h'=>hQ _ _ h') h
 |.drw os _ _,_,_,_,hQ,h=>ZcB os (λ_ _ h'=>⟨h'.1,hQ _ _ h'.2⟩) h
 |.drwF os _ _,_,_,_,hQ,h=>ZcB os (λ_ _ h'=>⟨h'.1,hQ _ _ h'.2⟩) h
 |.seq a b,_,_,_,hQ,h=>Us a (λx s' h'=>by cases x with|n=>exact Us b hQ h'|x i=>exact hQ _ _ h'|r=>exact hQ _ _ h') h
 |.cond c x y,s,_,_,hQ,h=>by
  unfold Wc at h|-;split at h
  .split at h
   .rename_i hb;simp only[hb,if_true];exact Us x hQ h
   .rename_i hb;simp only[hb];exact Us y hQ h
  .exact h.elim
 |.block id b,_,_,_,hQ,h=>Us b (λx s' h'=>by
   cases x with
   |n=>exact hQ _ _ h'
   |x i=>simp only at h'|-;split at h'<;>rename_i hi<;>simp only[hi,if_true,if_false]<;>exact hQ _ _ h'
   |r=>exact hQ _ _ h') h
 |.loop keep b,_,_,_,hQ,h=>by
  obtain⟨I,μ,h0,hr⟩:=h;refine⟨I,μ,h0,λs hs=>Us b (λx s' h'=>?_) (hr s hs)⟩
  cases x with
  |n=>exact h'
  |x i=>exact hQ _ _ h'
  |r=>exact hQ _ _ h'
 |.exit _,_,_,_,hQ,h=>hQ _ _ h
 |.ret,_,_,_,hQ,h=>hQ _ _ h
theorem Zxk(hC:∀f as h0 r hr,C f as h0=some (r,hr)->Γ f as h0 r hr)(hr:callA C f args nx (frzs h args)=some (v,u)) :
  ∃as,frzs h args=some as/\∃r hr,Γ f as [] r hr/\(Ua args || frR r hr)=true/\v=shift nx r/\u=newU nx hr 0:=by
 cases hf:frzs h args with
 |none=>rw[hf]at hr;cases hr
 |some as =>
  rw[hf]at hr;simp only[callA]at hr
  cases hc:C f as []with
  |none=>rw[hc]at hr;cases hr
  |some p =>
   obtain⟨r,hr'⟩:=p;rw[hc]at hr;simp only[callB]at hr
   grind
theorem ZcC(hC:∀f as h0 r hr,C f as h0=some (r,hr)->Γ f as h0 r hr)(hr:Ud C f vs h nx (ZS h vs)=some (v,u)){K:AV->List (Nat×Blk)->Prop}(hK:K v u):Wz Γ f vs h nx K:=by
 unfold Ud at hr;split at hr
 .rename_i hc
  cases hx:C f (subA (ZS h vs) vs) (subH h (ZS h vs))with
  |none=>rw[hx]at hr;cases hr
  |some p =>
   obtain⟨r,h1⟩:=p;rw[hx]at hr;cases hr;exact⟨hc,r,h1,hC _ _ _ _ _ hx,hK⟩
 .cases hr
theorem Zxl(hC:∀f as h0 r hr,C f as h0=some (r,hr)->Γ f as h0 r hr)(hr:Zc7 C f vs h nx (ZS h vs)=some (v,u)){K:AV->List (Nat×Blk)->Prop}(hK:K v u):K3 Γ f vs h nx K:=by
 unfold Zc7 at hr;split at hr
 .rename_i hc
  cases hx:C f (subA (ZS h vs) vs) (subH h (ZS h vs))with
  |none=>rw[hx]at hr;cases hr
  |some p =>
   obtain⟨r,h1⟩:=p;rw[hx]at hr;simp only[pcallB]at hr;split at hr
   .rename_i ht;cases hr;refine⟨hc,r,h1.drop (ZS h vs).length,?_,hK⟩
    grind [List.take_append_drop]
   .cases hr
 .cases hr
theorem Zxm(hC:∀f as h0 r hr,C f as h0=some (r,hr)->Γ f as h0 r hr)(hr:Zc5 C f nx (frzs h args)=some (v,u)) :
  ∃as,frzs h args=some as/\∃r hr,Γ f as [] r hr/\frR r hr=true/\v=shift nx r/\u=newU nx (hr.map xB) 0:=by
 cases hf:frzs h args with
 |none=>rw[hf]at hr;cases hr
 |some as =>
  rw[hf]at hr;simp only[Zc5]at hr
  cases hc:C f as []with
  |none=>rw[hc]at hr;cases hr
  |some p =>
   obtain⟨r,hr'⟩:=p;rw[hc]at hr;simp only[xcallB]at hr
   grind
theorem Zxn(hC:∀f as h0 r hr,C f as h0=some (r,hr)->Γ f as h0 r hr)(hr:Zc6 C f args (frzs h args)=some (v,u)) :
  ∃as,frzs h args=some as/\Ua args=true/\∃r hr,Γ f as [] r hr/\frzR hr r=some v/\u=[]:=by
 cases hf:frzs h args with
 |none=>rw[hf]at hr;cases hr
 |some as =>
  rw[hf]at hr;simp only[Zc6]at hr;split at hr
  .rename_i hno
   cases hc:C f as []with
   |none=>rw[hc]at hr;cases hr
   |some p =>
    obtain⟨r,hr'⟩:=p;rw[hc]at hr;simp only[fcallB]at hr
    grind
  .cases hr
theorem Zxo(hC:∀f as h0 r hr,C f as h0=some (r,hr)->Γ f as h0 r hr)(h:runE C o s=some s')(hK:K s'):runW Γ o s K:=by
 unfold runE at h
 cases hv:runV C o.op s with
 |none=>rw[hv]at h;cases h
 |some p =>
  obtain⟨v,u⟩:=p;rw[hv]at h;cases h;unfold runW;cases ho:o.op<;>simp only[ho,runV]at hv|-<;>try (rw[hv];exact hK)
  .obtain⟨as,h1,r,hr,h2,h3,rfl,rfl⟩:=Zxk hC hv
   grind
  .obtain⟨as,h1,r,hr,h2,h3,rfl,rfl⟩:=Zxm hC hv
   grind
  .obtain⟨as,h1,hno,r,hr,h2,h3,rfl⟩:=Zxn hC hv
   grind
  .exact ZcC hC hv hK
  .grind [Zje,ZcC]
  .exact Zxl hC hv hK
  .unfold Zc8 at hv
   grind [ZcC]
theorem Zxp(hC:∀f as h0 r hr,C f as h0=some (r,hr)->Γ f as h0 r hr)(h:opE C o s=some s')(hK:K s'):opW Γ o s K:=by
 unfold opE at h;unfold opW
 cases hg:o.guard with
 |none=>simp only[hg]at h|-;exact Zxo hC h hK
 |some p =>
  obtain⟨g,want⟩:=p;simp only[hg]at h|-;unfold Zfc at h;split at h
  .rename_i b hb;rw[hb];simp only;split at h
   .grind [Zxo]
   .rename_i hb;rw[Yb hb];cases h;exact hK
  .rename_i hb;rw[hb];cases h;exact hK
  .cases h
theorem Zxq(hC:∀f as h0 r hr,C f as h0=some (r,hr)->Γ f as h0 r hr){f:Foot}(h:runF C o s=some (f,s')){K:Foot->S->Prop}(hK:K f s'):VE Γ o s K:=by
 unfold runF at h
 cases hv:runV C o.op s with
 |none=>rw[hv]at h;cases h
 |some p =>
  obtain⟨v,u⟩:=p;rw[hv]at h;cases h;unfold VE;cases ho:o.op<;>simp only[ho,runV]at hv|-<;>try (rw[hv];exact hK)
  .obtain⟨as,h1,r,hr,h2,h3,rfl,rfl⟩:=Zxk hC hv
   grind
  .obtain⟨as,h1,r,hr,h2,h3,rfl,rfl⟩:=Zxm hC hv
   grind
  .obtain⟨as,h1,hno,r,hr,h2,h3,rfl⟩:=Zxn hC hv
   grind
  .exact ZcC hC hv hK
  .grind [Zje,ZcC]
  .exact Zxl hC hv hK
  .unfold Zc8 at hv
   grind [ZcC]
theorem opF_drwG(hC:∀f as h0 r hr,C f as h0=some (r,hr)->Γ f as h0 r hr){f:Foot}(h:opF C o s=some (f,s')){K:Foot->S->Prop}(hK:K f s'):drwG Γ o s K:=by
 unfold opF at h;unfold drwG
 cases hg:o.guard with
 |none=>simp only[hg]at h|-;exact Zxq hC h hK
 |some p =>
  obtain⟨g,want⟩:=p;simp only[hg]at h|-;unfold Zfd at h;split at h
  .rename_i b hb;rw[hb];simp only;split at h
   .grind [Zxq]
   .rename_i hb;rw[Yb hb];cases h;exact hK
  .rename_i hb;rw[hb];cases h;exact hK
  .cases h
theorem Zxr(hC:∀f as h0 r hr,C f as h0=some (r,hr)->Γ f as h0 r hr){r:V3}{keep:UB}{ks:List Fr}:∀(os:List MO) (m:Nat) (s:S),runN C m ks (.ops os keep) s=some r->
  regW Γ os s λs'=>Qf C r m ks .n { s' with env:=rst keep s'.env }
 |_,0,_,h=>by cases h
 |[],m+1,s,h=>⟨m,Yb0 m,h⟩
 |o::os,m+1,s,h=>by
  simp only[runN,step]at h
  cases ho:opE C o s with
  |none=>simp only[ho,stepO]at h;cases h
  |some s' =>
   simp only[ho,stepO]at h;exact Zxp hC ho (Zjg os (λs ⟨k,h1,h2⟩=>⟨k,by omega,h2⟩) (Zxr hC os m s' h))
theorem Zxs(hC:∀f as h0 r hr,C f as h0=some (r,hr)->Γ f as h0 r hr){r:V3}{keep:UB}{ks:List Fr}:∀(os:List MO) (m:Nat) (s:S),runN C m ks (.opsF os keep) s=some r->
  K4 Γ os s λs'=>Qf C r m ks .n { s' with env:=rst keep s'.env }
 |_,0,_,h=>by cases h
 |[],m+1,s,h=>⟨m,Yb0 m,h⟩
 |o::os,m+1,s,h=>by
  simp only[runN,step]at h
  cases ho:opE C o (fzO o s)with
  |none=>simp only[ho,Zc9]at h;cases h
  |some s' =>
   simp only[ho,Zc9]at h;exact Zxp hC ho (Zjh os (λs ⟨k,h1,h2⟩=>⟨k,by omega,h2⟩) (Zxs hC os m s' h))
theorem Zn4(hC:∀f as h0 r hr,C f as h0=some (r,hr)->Γ f as h0 r hr){r:V3}{before:List (UB)}{keep:UB}{ks:List Fr}:∀(os:List MO) (feet:List Foot) (m:Nat) (s:S),runN C m ks (.drw os feet before keep) s=some r->
  drwW Γ os s feet λfeet s'=>Ji before feet=true/\Qf C r m ks .n { s' with env:=rst keep s'.env }
 |_,_,0,_,h=>by cases h
 |[],feet,m+1,s,h=>by
  simp only[runN,step]at h;split at h
  .rename_i h1;split at h1
   .rename_i ho;cases h1;exact⟨ho,m,Yb0 m,h⟩
   .cases h1
  .grind
 |o::os,feet,m+1,s,h=>by
  simp only[runN,step]at h
  cases ho:opF C o s with
  |none=>simp only[ho,stepD]at h;cases h
  |some p =>
   obtain⟨f,s'⟩:=p;simp only[ho,stepD]at h;exact opF_drwG hC ho (ZcB os (λ_ s ⟨h0,k,h1,h2⟩=>⟨h0,k,by omega,h2⟩) (Zn4 hC os _ m s' h))
theorem Zbf{m:Nat}{ks:List Fr}{cf:Cf}(h:runN C m ks cf s=some r):∃k,m=k+1:=by
 cases m with
 |zero=>cases h
 |succ k=>exact⟨k,rfl⟩
open Classical in
theorem runN_W(hC:∀f as h0 r hr,C f as h0=some (r,hr)->Γ f as h0 r hr)(m:Nat):∀(c:MCode) (ks:List Fr) (s:S),runN C m ks (.code c) s=some r->Wc Γ c (Qf C r m ks) s:=by
 induction m using Nat.strongRecOn with
 |ind m ih =>
  intro c ks s h;obtain⟨m,rfl⟩:=Zbf h
  cases c with
  |skip=>exact⟨m,Yb0 m,h⟩
  |reg os keep=>exact Zjg os (λs ⟨k,h1,h2⟩=>⟨k,by omega,h2⟩) (Zxr hC os m s h)
  |regF os keep=>exact Zjh os (λs ⟨k,h1,h2⟩=>⟨k,by omega,h2⟩) (Zxs hC os m s h)
  |drw os before keep=>exact ZcB os (λ_ s ⟨h0,k,h1,h2⟩=>⟨h0,k,by omega,h2⟩) (Zn4 hC os [] m s h)
  |drwF os before keep=>exact ZcB os (λ_ s ⟨h0,k,h1,h2⟩=>⟨h0,k,by omega,h2⟩) (Zn4 hC os [] m (fzD os s) h)
  |seq a b =>
   refine Us a (λx s' hq=>?_) (ih m (Yb0 m) a (.seq b::ks) s h);obtain⟨k,hk,h2⟩:=hq;obtain⟨k,rfl⟩:=Zbf h2
   cases x with
   |n=>exact Us b (λx s ⟨j,h3,h4⟩=>⟨j,by omega,h4⟩) (ih k (by omega) b ks s' h2)
   |x i=>exact⟨k,by omega,h2⟩
   |r=>exact⟨k,by omega,h2⟩
  |cond c x y =>
   simp only[runN,step]at h;unfold Wc;unfold stepC at h
   cases hv:ev s.env c with
   |t v =>
    simp only[hv]at h
    cases v with
    |bool b =>
     simp only at h|-;cases b
     .exact Us y (λx s ⟨j,h3,h4⟩=>⟨j,by omega,h4⟩) (ih m (Yb0 m) y ks s h)
     .exact Us x (λx s ⟨j,h3,h4⟩=>⟨j,by omega,h4⟩) (ih m (Yb0 m) x ks s h)
    |_=>cases h
   |_=>simp only[hv]at h;cases h
  |block id b =>
   refine Us b (λx s' hq=>?_) (ih m (Yb0 m) b (.blk id::ks) s h);obtain⟨k,hk,h2⟩:=hq;obtain⟨k,rfl⟩:=Zbf h2
   cases x with
   |n=>exact⟨k,by omega,h2⟩
   |x i =>
    simp only[runN,step]at h2;simp only;by_cases hi:i=id
    .simp only[hi,if_true]at h2|-;exact⟨k,by omega,h2⟩
    .simp only[hi,if_false]at h2|-
     exact⟨k,by omega,h2⟩
   |r=>exact⟨k,by omega,h2⟩
  |loop keep b =>
   let p:S->Nat->Prop:=λt k=>k<=m/\runN C k (.loop keep b::ks) (.code b) t=some r
   let μ:S->Nat:=λt=>if hx:∃k,p t k then(Z9f hx).choose else 0
   have hμ:∀t,(∃k,p t k)->p t (μ t)/\∀k,p t k->μ t<=k:=by
    intro t hx
    grind
   refine⟨λt=>∃k,p t k,μ,⟨m,Yh m,h⟩,?_⟩;intro t ht;obtain⟨⟨h1,h2⟩,h3⟩:=hμ t ht;refine Us b (λx s' hq=>?_) (ih (μ t) (by omega) b _ t h2);obtain⟨k,hk,h4⟩:=hq;obtain⟨k,rfl⟩:=Zbf h4
   cases x with
   |n =>
    have h5:runN C k ks (.code (.loop keep b)) s'=some r:=h4;obtain⟨k,rfl⟩:=Zbf h5;have h6:p (US keep s') k:=⟨by omega,h5⟩
    grind
   |x i=>exact⟨k,by omega,h4⟩
   |r=>exact⟨k,by omega,h4⟩
  |exit id=>exact⟨m,Yb0 m,h⟩
  |ret=>exact⟨m,Yb0 m,h⟩
end
theorem Zxt{P:Program}{X:ZG}{tbl:Nat->Option MFun}(hT:TblOK P tbl)(hX:∀f as h0 r hr,X f as h0=some (r,hr)->Xr P f as h0 r hr):∀(n f:Nat) (as:V2) (h0:UA) (r:AV) (hr:UA),Ws X tbl n f as h0=some (r,hr)->Xr P f as h0 r hr
 |0,_,_,_,_,_,h=>by cases h
 |n+1,f,as,h0,r,hr,h=>by
  simp only[Ws]at h
  cases hm:tbl f with
  |none=>simp only[hm]at h;exact hX f as h0 r hr h
  |some m =>
   simp only[hm]at h;split at h
   .rename_i hl;obtain⟨fn,ks,inl,h1,h2,h3⟩:=hT f m hm;have hW:=runN_W (Γ:=Xr P) (Zxt hT hX n) n m.body _ _ h;refine ZwT h1 h3 h2 ⟨hl,?_⟩;refine Us m.body (λx s hq=>?_) hW;obtain⟨k,hk,h4⟩:=hq;obtain⟨k,rfl⟩:=Zbf h4;have fin:finE h0.length m.res s=some (r,hr)->∀x,(∀i,x≠.x i)->K5 m.res (λv s=>ZeH m.res h0.length v s=some (r,hr)) x s:=by
     intro hf x hx;unfold finE at hf
     cases x with
     |x i=>exact absurd rfl (hx i)
     |n =>
      simp only[K5]
      grind
     |r =>
      simp only[K5]
      grind
    cases x with
    |n=>exact fin h4 _ (λi hc=>by cases hc)
    |r=>exact fin h4 _ (λi hc=>by cases hc)
    |x i=>simp only[runN,step]at h4;cases h4
   .cases h
theorem Z9h{P:Program}{X:ZG}{tbl:Nat->Option MFun}(hT:TblOK P tbl)(hX:∀f as h0 r hr,X f as h0=some (r,hr)->Xr P f as h0 r hr){f:Nat}{as:V2}{h0:UA}{r:AV}{hr:UA}(h:Xs X tbl f as h0=some (r,hr)):Xr P f as h0 r hr:=by
 obtain⟨n,hn⟩:=Zbd h
 grind [Zxt]
def ins(x:Nat):UB->UB
 |[]=>[x]
 |y::ys=>if x<y then x::y::ys else if x=y then y::ys else y::ins x ys
def union(a b:UB):UB:=b.foldl (λacc x=>ins x acc) a
def opdSl:Operand->UB
 |.tmp t=>[t]
 |_=>[]
def opUses(o:Op):UB:=o.operands.toList.flatMap opdSl
def regIn(ops:List Oper)(out:UB):UB :=
 ops.reverse.foldl (λlive o=>union (match o.dst with|some d=>live.filter (· != d)|none=>live) (opUses o.op)) out
def guardSl(ops:Array Oper):UB:=ops.toList.flatMap λo=>match o.guard with
 |some (j,_)=>(match ops[j]? with|some p=>p.dst.toList|none=>[])
 |none=>[]
def fixL(f:UB->UB×List (UB)):Nat->UB->UB×List (UB)
 |0,L=>(L,L::(f L).2)
 |n+1,L=>match f L with
  |(l,k)=>if l.all (L.contains ·)then(L,L::k)else fixL f n (union L l)
def live(ret:UB)(exits:List (Nat×UB)):Code->UB->UB×List (UB)
 |.region _ ops _,out =>
  let defs:=ops.toList.flatMap λo=>o.dst.toList
  (union (regIn ops.toList out) ((guardSl ops).filter (λg=>!defs.contains g)),[out])
 |.seq a b,out=>match live ret exits b out with
  |(lb,kb)=>match live ret exits a lb with
   |(la,ka)=>(la,ka++kb)
 |.cond c a b,out=>match live ret exits a out,live ret exits b out with
  |(la,ka),(lb,kb)=>(union (union la lb) (opdSl c),ka++kb)
 |.block id b,out=>live ret ((id,out)::exits) b out
 |.loop b,_=>fixL (live ret exits b) 12 []
 |.exit id,_=>((exits.lookup id).getD [],[])
 |.ret,_=>(ret,[])
 |_,out=>(out,[])
def Zji(fn:Func):List (UB):=match fn.body with
 |some c =>
  let rs:=fn.results.toList.foldl (λacc r=>ins (match r with|.tmp t=>t|.cell a _=>a) acc) []
  (live rs [] c rs).2
 |none=>[]
def inlOf(inl:UB)(f:Nat):UB:=(if inl.contains (f+10000000)then[9999994]else[])++(if inl.contains (f+11000000)then[9999993]else[])++(if inl.contains (f+12000000)then[9999992]else[])++(if inl.contains (f+9000000)then[9999995]else[])++(if inl.contains (f+8000000)then[9999996]else[])++(if inl.contains (f+6000000)then[9999997]else[])++(if inl.contains (f+5000000)then[9999998]else[])++(if inl.contains (f+4000000)then 9999999::inl else inl)
def tblOf(P:Program)(inl:UB)(f:Nat):Option MFun:=match P.funcs[f]? with
 |some fn=>if QV P f=true then Jj P (inlOf inl f) (Zji fn) fn else none
 |none=>none
theorem tblOK(P:Program)(inl:UB):TblOK P (tblOf P inl):=by
 intro f m h;unfold tblOf at h
 grind
theorem tblOf_eq{P:Program}{inl:UB}{f:Nat}{fn:Func}{m:MFun}(hf:P.funcs[f]?=some fn)(hc:QV P f=true)(h:Jj P (inlOf inl f) (Zji fn) fn=some m):tblOf P inl f=some m:=by
 unfold tblOf
 simp_all
def fill{α:Type}(f:α->UD)(z:UD)(xs:List α)(i:Nat):V5:=(xs.take i).map f++List.replicate (xs.length-i) z
section
variable{α:Type}{f:α->UD}{z:UD}{xs:List α}{i:Nat}
theorem Zxu:fill f z xs 0=List.replicate xs.length z:=by simp[fill]
theorem Zxv:fill f z xs xs.length=xs.map f:=by simp[fill]
theorem Zxw(h:i<=xs.length):(fill f z xs i).length=xs.length:=by
 simp[fill];omega
theorem fill_get(h:i<xs.length):(fill f z xs i)[i]?=some z:=by
 unfold fill
 grind
@[simp] theorem fill_at(h:i<(fill f z xs i).length):(fill f z xs i)[i]=z:=by
 have h1:i<xs.length:=by
  unfold fill at h;simp at h;omega
 have h2:=fill_get (f:=f) (z:=z) h1
 simp_all
theorem Zxx(h:i<xs.length):(fill f z xs i).set i (f xs[i])=fill f z xs (i+1):=by
 unfold fill;have e:xs.length-i=(xs.length-(i+1))+1:=by omega
 rw[e,Yc0,List.set_append_right _ _ (by simp;omega)];have e2:i-(List.map f (List.take i xs)).length=0:=by simp;omega
 rw[e2,List.set_cons_zero,List.take_add_one,Yf h]
 grind
end
theorem Z1{n:Int}(h1:-9223372036854775808<=n)(h2:n<=9223372036854775807):IntKind.wrap .i64 n=n:=by
 simp only[IntKind.wrap,IntKind.signed,IntKind.bits,Yw]
 grind
attribute [simp] Ev_drwF fzD cutOf movOf Ev_regF EvOF_nil Z8Q Z8R fzO flA preOf preOs ZeF fzVs fzS fzH sbV sbVs sbB sbE Ev_skip Ev_reg Ev_drw Ev_seq Ev_cond Ev_block Ev_exit Ev_ret EvO_nil EvO_cons EvS_some EvD_nil' EvD_cons EvF_some EvC_bool Z8S Z8T Z8U Z8V Z8W Z8X Z8Y Z8Z
 Z9b ZwU Z9c Z9d
attribute [simp] Je flatB Zc6 fcallB frzR givA Zc5 xcallB packV packW Qv xB scal1 Zcw opE runE runV runD Zfc skipE callA callB mcallB Ud pcallB Zc7 Zc8 opF runF runFD Zfd finE ZS subH subA bk XO UU Xp Qx resAV Ub Jg Z4 ev lk put upd stB cellsOf setCells setT toT toTs kill Vq unT tEq eqAs Vi Vr natOf QT Vs Kz K1 VY
 UR bnd frzT VD frz1 Jf frz frzs ren rens renB refs Z9 Wr rst scrub ZaW Xu idx QU renE Uq US shift newU Qu VZ frB frR Ua Zi7 ZeH ownR Ur own1 dat1 Uc UV nilB UT Xe flat WQ rbOf Qw Z8 Zi6
@[simp] theorem wk_nil(xs:UD):wk [] xs=xs:=by unfold wk;rfl
@[simp] theorem wk_nil'(cs:UD):wk cs []=[]:=by cases cs<;>(unfold wk;rfl)
@[simp] theorem wk_cons(c x:T)(cs xs:UD):wk (c::cs) (x::xs)=wk1 c x::wk cs xs:=by conv=>lhs;unfold wk
@[simp] theorem wk1_int(k:IntKind)(n:Int)(c:T):wk1 c (.int k n)=.int k n:=by cases c<;>rfl
@[simp] theorem wk1_bool(b:Bool)(c:T):wk1 c (.bool b)=.bool b:=by cases c<;>rfl
@[simp] theorem wk1_str(b:UP)(c:T):wk1 c (.str b)=.str b:=by cases c<;>rfl
@[simp] theorem wk1_lst(s:Nat)(es:V5)(c:T):wk1 c (.lst s es)=.lst s es:=by cases c<;>rfl
@[simp] theorem wk1_nil(s:Nat)(es:V5):wk1 (.lst s es) .nil=.lst s []:=rfl
@[simp] theorem wkA_nil(xs:UD):wkA [] xs=xs.map .t:=by cases xs<;>rfl
@[simp] theorem wkA_t(c x:T)(cs:V2)(xs:UD):wkA (.t c::cs) (x::xs)=.t (wk1 c x)::wkA cs xs:=by conv=>lhs;unfold wkA
@[simp] theorem wkA_own(b:Nat)(x:T)(cs:V2)(xs:UD):wkA (.own b::cs) (x::xs)=.t x::wkA cs xs:=by conv=>lhs;unfold wkA
@[simp] theorem wkA_nil'(cs:V2):wkA cs []=[]:=by cases cs with|nil=>rfl|cons c cs=>cases c<;>rfl
def orI(a b:Int):Int:=IntKind.wrap .i64 ((BitVec.ofInt 64 a ||| BitVec.ofInt 64 b).toNat)
def andI(a b:Int):Int:=IntKind.wrap .i64 ((BitVec.ofInt 64 a &&& BitVec.ofInt 64 b).toNat)
def xorI(a b:Int):Int:=IntKind.wrap .i64 ((BitVec.ofInt 64 a ^^^ BitVec.ofInt 64 b).toNat)
def KA(a b:Int):Int:=IntKind.wrap .i64 ((BitVec.ofInt 64 a &&& ~~~ BitVec.ofInt 64 b).toNat)
def shlI(a b:Int):Int:=IntKind.wrap .i64 (a*2 ^ (min b.toNat 64))
def shrI(a b:Int):Int:=a.fdiv (2 ^ (min b.toNat 64))
@[simp] theorem bin_or(a b:Int):binT .or (.int .i64 a) (.int .i64 b)=some (.int .i64 (orI a b)):=by unfold binT;exact Ya rfl
@[simp] theorem bin_and(a b:Int):binT .and (.int .i64 a) (.int .i64 b)=some (.int .i64 (andI a b)):=by unfold binT;exact Ya rfl
@[simp] theorem bin_xor(a b:Int):binT .xor (.int .i64 a) (.int .i64 b)=some (.int .i64 (xorI a b)):=by unfold binT;exact Ya rfl
@[simp] theorem bin_andNot(a b:Int):binT .andNot (.int .i64 a) (.int .i64 b)=some (.int .i64 (KA a b)):=by unfold binT;exact Ya rfl
@[simp] theorem bin_shl(a b:Int)(k:IntKind):binT .shl (.int .i64 a) (.int k b)=if b<0 then none else some (.int .i64 (shlI a b)):=by simp[binT,shlI,IntKind.bits]
@[simp] theorem bin_shr(a b:Int)(k:IntKind):binT .shr (.int .i64 a) (.int k b)=if b<0 then none else some (.int .i64 (shrI a b)):=by simp[binT,shrI,IntKind.bits]
@[simp] theorem bin_add(k:IntKind)(a b:Int):binT .add (.int k a) (.int k b)=some (.int k (k.wrap (a+b))):=by simp[binT]
@[simp] theorem bin_sub(k:IntKind)(a b:Int):binT .sub (.int k a) (.int k b)=some (.int k (k.wrap (a-b))):=by simp[binT]
@[simp] theorem bin_mul(k:IntKind)(a b:Int):binT .mul (.int k a) (.int k b)=some (.int k (k.wrap (a*b))):=by simp[binT]
@[simp] theorem bin_quo(k:IntKind)(a b:Int):binT .quo (.int k a) (.int k b)=if b=0 then none else some (.int k (k.wrap (a.tdiv b))):=by simp[binT]
@[simp] theorem bin_rem(k:IntKind)(a b:Int):binT .rem (.int k a) (.int k b)=if b=0 then none else some (.int k (a.tmod b)):=by simp[binT]
@[simp] theorem bin_eql(k:IntKind)(a b:Int):binT .eql (.int k a) (.int k b)=some (.bool (a == b)):=by simp[binT]
@[simp] theorem bin_neq(k:IntKind)(a b:Int):binT .neq (.int k a) (.int k b)=some (.bool (a != b)):=by simp[binT]
@[simp] theorem bin_lss(k:IntKind)(a b:Int):binT .lss (.int k a) (.int k b)=some (.bool (a<b)):=by simp[binT]
@[simp] theorem bin_leq(k:IntKind)(a b:Int):binT .leq (.int k a) (.int k b)=some (.bool (a<=b)):=by simp[binT]
@[simp] theorem bin_gtr(k:IntKind)(a b:Int):binT .gtr (.int k a) (.int k b)=some (.bool (a > b)):=by simp[binT]
@[simp] theorem bin_geq(k:IntKind)(a b:Int):binT .geq (.int k a) (.int k b)=some (.bool (a>=b)):=by simp[binT]
@[simp] theorem bin_sadd(a b:UP):binT .add (.str a) (.str b)=if a.size+b.size<=9223372036854775807 then some (.str (a++b))else none:=rfl
@[simp] theorem bin_seql(a b:UP):binT .eql (.str a) (.str b)=some (.bool (a.toList == b.toList)):=rfl
@[simp] theorem bin_sneq(a b:UP):binT .neq (.str a) (.str b)=some (.bool (!(a.toList == b.toList))):=rfl
@[simp] theorem bin_slss(a b:UP):binT .lss (.str a) (.str b)=some (.bool (Op.bytesLess a.toList b.toList)):=rfl
@[simp] theorem bin_sleq(a b:UP):binT .leq (.str a) (.str b)=some (.bool (Op.bytesLess a.toList b.toList || a.toList == b.toList)):=rfl
@[simp] theorem bin_sgtr(a b:UP):binT .gtr (.str a) (.str b)=some (.bool (!(Op.bytesLess a.toList b.toList || a.toList == b.toList))):=rfl
@[simp] theorem bin_sgeq(a b:UP):binT .geq (.str a) (.str b)=some (.bool (!Op.bytesLess a.toList b.toList)):=rfl
@[simp] theorem gt_zero(x:Blk)(h:UA):gt (x::h) 0=x:=rfl
@[simp] theorem gt_succ(x:Blk)(h:UA)(n:Nat):gt (x::h) (n+1)=gt h n:=rfl
@[simp] theorem str_inj(a b:UP):a.toList=b.toList↔a=b:=by
 grind [ByteArray.toList_eq,ByteArray.ext,Array.toList_inj]
@[simp] theorem int_beq(a b:Int):(a == b)=decide (a=b):=by
 grind
@[simp] theorem int_bne(a b:Int):(a != b)=!decide (a=b):=by
 grind
@[simp] theorem str_beq(a b:UP):(a.toList == b.toList)=decide (a=b):=by
 grind [str_inj]
@[simp] theorem rn0(h:UA)(e:Env):(List.range 0).map (Xp h e)=[]:=rfl
@[simp] theorem rn1(h:UA)(e:Env):(List.range 1).map (Xp h e)=[Xp h e 0]:=rfl
@[simp] theorem rn2(h:UA)(e:Env):(List.range 2).map (Xp h e)=[Xp h e 0,Xp h e 1]:=rfl
@[simp] theorem rn3(h:UA)(e:Env):(List.range 3).map (Xp h e)=[Xp h e 0,Xp h e 1,Xp h e 2]:=rfl
@[simp] theorem rn4(h:UA)(e:Env):(List.range 4).map (Xp h e)=[Xp h e 0,Xp h e 1,Xp h e 2,Xp h e 3]:=rfl
@[simp] theorem rn6(h:UA)(e:Env):(List.range 6).map (Xp h e)=[Xp h e 0,Xp h e 1,Xp h e 2,Xp h e 3,Xp h e 4,Xp h e 5]:=rfl
@[simp] theorem rn5(h:UA)(e:Env):(List.range 5).map (Xp h e)=[Xp h e 0,Xp h e 1,Xp h e 2,Xp h e 3,Xp h e 4]:=rfl
theorem down{Q:Nat->Prop}(n:Nat)(h0:Q n)(hs:∀i,i<n->Q (i+1)->Q i):∀i,i<=n->Q i:=by
 intro i hi;obtain⟨k,rfl⟩:∃k,n=i+k:=⟨n-i,by omega⟩
 induction k generalizing i with
 |zero=>exact h0
 |succ k ih=>exact hs i (by omega) (ih (i+1) (by rw[show i+1+k=i+(k+1) by omega];exact h0) (by intro j hj;exact hs j (by omega)) (by omega))
abbrev I(n:Int):AV:=.t (.int .i64 n)
abbrev Bo(b:Bool):AV:=.t (.bool b)
abbrev L(sz:Nat)(es:V5):AV:=.t (.lst sz es)
open Go.RowKit (Below)
open Go.ChangeShapes Go.WideShapes Go.ChangeAt Go.RowKit
inductive CSh where
 |int (k:IntKind)
 |bool
 |str
 |slice (cs:List CSh)
def Zjj(rec:TypeId->Option (List CSh))(P:Program):List Field->Nat->Option (List CSh)
 |[],_=>some []
 |f::fs,o=>if f.offset=o then(match rec f.type with
  |some cs=>if cs.length=P.cellsOf f.type then(match Zjj rec P fs (o+cs.length)with
   |some ds=>some (cs++ds)
   |none=>none)else none
  |none=>none)else none
def Ue(P:Program):Nat->TypeId->Option (List CSh)
 |0,_=>none
 |n+1,t=>match P.underlying t with
  |some .bool=>some [.bool]
  |some (.int k)=>some [.int k]
  |some .string=>some [.str]
  |some (.slice e)=>match Ue P n e with
   |some cs=>if cs.length=P.cellsOf e/\0<cs.length then some [.slice cs]else none
   |none=>none
  |some (.struct fs)=>match Zjj (Ue P n) P fs.toList 0 with
   |some cs=>if cs.length=P.cellsOf t then some cs else none
   |none=>none
  |_=>none
mutual
inductive HasSh:CSh->T->Prop
 |int {k:IntKind} {n:Int} (h:(Lit.int k n).wf=true):HasSh (.int k) (.int k n)
 |bool (b:Bool):HasSh .bool (.bool b)
 |str {s:UP} (h:s.size<=maxLen):HasSh .str (.str s)
 |slice {cs:List CSh} {es:V5} (hl:es.length<=maxLen) (h:HasAll cs es):HasSh (.slice cs) (.lst cs.length es)
inductive HasShs:List CSh->UD->Prop
 |nil:HasShs [] []
 |cons {c:CSh} {t:T} {cs:List CSh} {ts:UD} (h:HasSh c t) (hs:HasShs cs ts):HasShs (c::cs) (t::ts)
inductive HasAll:List CSh->V5->Prop
 |nil (cs:List CSh):HasAll cs []
 |cons {cs:List CSh} {e:UD} {es:V5} (h:HasShs cs e) (hs:HasAll cs es):HasAll cs (e::es)
end
variable{ts:UD}
theorem HasShs.append{cs ds:List CSh}{us:UD}(h:HasShs cs ts)(h':HasShs ds us):HasShs (cs++ds) (ts++us):=by
 induction cs generalizing ts with
 |nil=>cases h;exact h'
 |cons c cs ih=>cases h with|cons h hs=>exact .cons h (ih hs)
theorem HasShs.len{cs:List CSh}(h:HasShs cs ts):ts.length=cs.length:=by
 induction cs generalizing ts with
 |nil=>cases h;rfl
 |cons c cs ih=>cases h with|cons h hs=>simp[ih hs]
theorem HasAll.snoc{cs:List CSh}{es:V5}{e:UD}(h:HasAll cs es)(h':HasShs cs e):HasAll cs (es++[e]):=by
 induction es with
 |nil=>exact .cons h' (.nil _)
 |cons x es ih=>cases h with|cons h hs=>exact .cons h (ih hs)
section
variable{H:Type}{enc:TypeId×Value->H}{P:Program}{w:World}{sp:Nat->Bool}{held:Bool}{n:Nat}
theorem Zxy{α:Type}{f:Nat->Option α}{xs:List α}(h:(List.range n).mapM f=some xs):xs.length=n/\∀i,i<n->∃x,xs[i]?=some x/\f i=some x:=by
 have key:∀(l:UB) (xs:List α),l.mapM f=some xs->xs.length=l.length/\∀(i:Nat) (a:Nat),l[i]?=some a->∃x,xs[i]?=some x/\f a=some x:=by
  intro l
  induction l with
  |nil=>intro xs h;simp at h;subst h;exact⟨rfl,by simp⟩
  |cons a l ih =>
   intro xs h;simp only[List.mapM_cons,Option.bind_eq_bind,Ydi,Option.pure_def,Ybm]at h
   grind
 obtain⟨h1,h2⟩:=key _ xs h;refine⟨by simpa using h1,λi hi=>h2 i i (by simp[hi])⟩
theorem Zxz{a:Addr}{cs:UC}(h:w.cells? 0 a n=some cs)(hn:0<n):∃g off c e fz,a=⟨g,off,none⟩/\w.heap[g]?=some (.cells c e fz)/\(c.toList.drop off).take n=cs/\cs.length=n:=by
 unfold World.cells? at h;simp only[Yd,if_true]at h;obtain⟨h1,h2⟩:=Zxy h;obtain⟨x,_,h4⟩:=h2 0 hn;have ha0:a.add 0=a:=by simp[Addr.add]
 rw[ha0]at h4;have h5:=h4;unfold World.cell? at h5;split at h5
 .rename_i c e fz hb;split at h5
  .cases h5
  .rename_i hs;obtain⟨g,off,spot⟩:=a
   have:spot=none:=by simpa using hs
   subst this;refine⟨g,off,c,e,fz,rfl,hb,?_,h1⟩;apply List.ext_getElem?;intro i;rw[Ych];by_cases hi:i<n
   .rw[Ya hi];obtain⟨y,h6,h7⟩:=h2 i hi;rw[Q0,cell_of_row w g (off+i) c e fz hb]at h7;rw[h6,<-h7];simp
   .grind
 .cases h5
theorem Z9i:∀(fuel:Nat) (t:TypeId) (cs:UC) (d:DataW H) (ps:List MemPlace),DataW.trod enc P w 0 sp held fuel t cs=some (d,ps)->∀(n:Nat) (sh:List CSh),Ue P n t=some sh->∃ts fp,TRs w ts cs fp/\HasShs sh ts:=by
 intro fuel
 induction fuel with
 |zero=>intro t cs d ps h;simp[DataW.trod]at h
 |succ fuel ih =>
  intro t cs d ps h n sh hsh
  cases n with
  |zero=>simp[Ue]at hsh
  |succ n =>
   cases hu:P.underlying t with
   |none=>simp[Ue,hu]at hsh
   |some dd =>
    cases dd<;>try (simp[Ue,hu]at hsh;done)
    case bool =>
     simp[Ue,hu]at hsh;subst hsh;simp only[DataW.trod,hu]at h;split at h<;>try (simp_all;done)
     rename_i b _;exact⟨[.bool b],[],.cons (.bool b) .nil,.cons (.bool b) .nil⟩
    case int k =>
     simp[Ue,hu]at hsh;subst hsh;simp only[DataW.trod,hu]at h;split at h<;>try (simp_all;done)
     rename_i k1 k2 m heq;cases heq;split at h
     .rename_i hc;obtain⟨rfl,hwf⟩:=hc;exact⟨[.int _ m],[],.cons (.int _ m) .nil,.cons (.int hwf) .nil⟩
     .cases h
    case string =>
     simp[Ue,hu]at hsh;subst hsh;simp only[DataW.trod,hu]at h;split at h<;>try (simp_all;done)
     rename_i s heq;split at h
     .rename_i hc;exact⟨[.str s],[],.cons (.str s) .nil,.cons (.str hc) .nil⟩
     .cases h
    case slice e =>
     simp only[Ue,hu]at hsh;split at hsh
     .rename_i ecs hecs;split at hsh
      .rename_i hcond;cases hsh;simp only[DataW.trod,hu]at h;split at h<;>try (simp_all;done)
       .exact⟨[.lst ecs.length []],[],.cons (.lst0 _ _ _) .nil,.cons (.slice (by simp) (.nil _)) .nil⟩
       .rename_i e' a len cap heq;cases heq;split at h
        .rename_i hb;simp only[Ydi]at h;obtain⟨Vs,hel,_⟩:=h;obtain⟨hlen,hget⟩:=Zxy hel
         -- every element reads
         by_cases hl0:len=0
         .subst hl0;exact⟨[.lst ecs.length []],[],.cons (.lst0 _ _ _) .nil,.cons (.slice (by simp) (.nil _)) .nil⟩
         .have hsz:0<P.cellsOf e:=by omega
          have helem:∀i,i<len->∃vs ts fp,w.cells? 0 (a.add (i*P.cellsOf e)) (P.cellsOf e)=some vs/\TRs w ts vs fp/\HasShs ecs ts:=by
           grind [Option.bind_eq_some_iff]
          obtain⟨vs0,ts0,fp0,h3,_,_⟩:=helem 0 (by omega);rw[Nat.zero_mul]at h3;have ha0:a.add 0=a:=by simp[Addr.add]
          rw[ha0]at h3;obtain⟨g,off,c,te,fz,rfl,hg,_,_⟩:=Zxz h3 hsz;have build:∀m,m<=len->∃es fp,es.length=m/\HasAll ecs es/\(∀x∈es,x.length=P.cellsOf e)/\TRs w es.flatten ((c.toList.drop off).take (m*P.cellsOf e)) fp:=by
           intro m
           induction m with
           |zero=>intro _;exact⟨[],[],rfl,.nil _,by simp,by simpa using TRs.nil⟩
           |succ m ihm =>
            intro hm;obtain⟨es,fp,h5,h6,h7,h8⟩:=ihm (by omega);obtain⟨vs,ts,fq,h9,h10,h11⟩:=helem m (by omega);rw[Q0]at h9;obtain⟨g',off',c',te',fz',he,hg',hseg,hvl⟩:=Zxz h9 hsz;cases he;rw[hg]at hg';cases hg';refine⟨es++[ts],fp++fq,by simp[h5],?_,?_,?_⟩
            .exact h6.snoc h11
            .intro x hx;rcases Yl.1 hx with hx|hx
             .exact h7 x hx
             .simp at hx;subst hx;rw[h11.len];exact hcond.1
            .rw[Ybk];simp only[Y5,List.flatten_nil,Ybb];have e1:(c.toList.drop off).take ((m+1)*P.cellsOf e)=(c.toList.drop off).take (m*P.cellsOf e)++vs:=by
              simp_all [Ybu,Yca,List.take_add,Ybx]
             rw[e1];exact h8.append h10
          obtain⟨es,fp,h5,h6,h7,h8⟩:=build len (Yh _);subst h5;refine⟨[.lst ecs.length es],(g::fp)++[],.cons ?_ .nil,.cons (.slice (by omega) h6) .nil⟩;rw[hcond.1];exact .lst (by intro hc;subst hc;simp at hl0) hsz hb.2.1 hg h7 h8
        .cases h
      .cases hsh
     .cases hsh
    case struct fs =>
     simp only[Ue,hu]at hsh;split at hsh
     .rename_i scs hscs;split at hsh
      .rename_i hcl;cases hsh;simp only[DataW.trod,hu]at h;split at h
       .rename_i hlen;simp only[Yq]at h;obtain⟨xs,hxs,_⟩:=h;have key:∀(l:List Field) (o:Nat) (scs:List CSh) (xs:List (DataW H×List MemPlace)),Zjj (Ue P n) P l o=some scs->o+scs.length<=cs.length->
          l.mapM (λf=>DataW.trod enc P w 0 sp held fuel f.type ((cs.drop f.offset).take (P.cellsOf f.type)))=some xs->∃ts fp,TRs w ts ((cs.drop o).take scs.length) fp/\HasShs scs ts:=by
         intro l
         induction l with
         |nil =>
          intro o scs xs h1 _ _;cases h1
          exact⟨[],[],by simpa using TRs.nil,.nil⟩
         |cons f l ihl =>
          intro o scs xs h1 h2 h3;simp only[Zjj]at h1;split at h1
          .rename_i ho;split at h1
           .rename_i c1 hc1;split at h1
            .rename_i hl1;split at h1
             .rename_i c2 hc2;cases h1;simp only[List.mapM_cons,Option.bind_eq_bind,Ydi,Option.pure_def,Ybm]at h3;obtain⟨x,hx,ys,hys,rfl⟩:=h3;rw[Yn]at h2;obtain⟨t1,f1,q1,q2⟩:=ih f.type _ x.1 x.2 hx n c1 hc1;obtain⟨t2,f2,q3,q4⟩:=ihl (o+c1.length) c2 ys hc2 (by omega) hys;refine⟨t1++t2,f1++f2,?_,q2.append q4⟩;rw[ho,<-hl1]at q1;have e1:(cs.drop o).take (c1++c2).length=(cs.drop o).take c1.length++(cs.drop (o+c1.length)).take c2.length:=by
               rw[Yn,List.take_add,Ybx]
              rw[e1];exact q1.append q3
             .cases h1
            .cases h1
           .cases h1
          .cases h1
        grind
       .cases h
      .cases hsh
     .cases hsh
end
open Go.RowKit (Below)
open Go.ChangeShapes Go.WideShapes Go.ChangeAt Go.RowKit
def ParOK:Bool×List CSh->AV->Prop
 |(true,shs),a=>∃xs,a=.agg (xs.map .t)/\HasShs shs xs
 |(false,shs),a=>∃x,a=.t x/\HasShs shs [x]
def ParsOK:List (Bool×List CSh)->V2->Prop
 |[],as=>as=[]
 |p::ps,as=>∃a as',as=a::as'/\ParOK p a/\ParsOK ps as'
def parSh(P:Program)(t:TypeId):Option (Bool×List CSh):=match Ue P 16 t with
 |some cs=>match P.underlying t with
  |some (.struct _)=>some (true,cs)
  |some (.array _ _)=>none
  |some _=>some (false,cs)
  |none=>none
 |none=>none
def Zjk(P:Program):List TypeId->Option (List (Bool×List CSh))
 |[]=>some []
 |t::ts=>match parSh P t with
  |some p=>match Zjk P ts with
   |some ps=>some (p::ps)
   |none=>none
  |none=>none
def parsOK(P:Program)(ts:List TypeId):Bool:=ts.all λt=>P.readableRec t && decide (t<P.types.size)
section
variable{H:Type}{enc:TypeId×Value->H}{P:Program}{w:World}{sp:Nat->Bool}{held:Bool}
theorem TRs.rvs{ts:UD}{vs:UC}{fp:UB}(h:TRs w ts vs fp):RVs Vj w (λ_=>True) (ts.map .t) vs:=by
 induction ts generalizing vs fp with
 |nil=>cases h;exact .nil
 |cons t ts ih=>cases h with|cons h hs=>exact .cons (.t h λ_ _=>trivial) (ih hs)
theorem par_arg{t:TypeId}{v:Value}{d:DataW H}{ps:List MemPlace}{base:Nat}(h:DataW.Trod enc P w 0 sp held t v d ps)(hok:Value.okWide P w .any base t v){p:Bool×List CSh}(hp:parSh P t=some p) :
  ∃a,RV Vj w (λ_=>True) a v/\ParOK p a:=by
 obtain⟨fuel,h⟩:=h;unfold parSh at hp;split at hp
 .rename_i cs hcs;obtain⟨ts,fp,h1,h2⟩:=Z9i fuel t _ d ps h 16 cs hcs;split at hp
  .rename_i fs hu;cases hp;obtain⟨c,rfl,_⟩:=okWide_struct hu hok;refine⟨.agg (ts.map .t),.agg h1.rvs h1.one,ts,rfl,h2⟩
  .cases hp
  .rename_i dd hns hna hu;cases hp;have hone:cs.length=1:=by
    unfold Ue at hcs
    grind
   match ts,h2,h1 with
   |[],h2,h1=>have:=h2.len;simp at this;omega
   |[x],h2,h1 =>
    have hv:v.cells.toList=[v]:=by
     unfold Ue at hcs;rw[hu]at hcs;cases dd<;>simp at hcs
     .obtain⟨_,rfl⟩:=okWide_bool hu hok;rfl
     .obtain⟨_,rfl⟩:=okWide_int hu hok;rfl
     .obtain⟨_,rfl⟩:=okWide_string hu hok;rfl
     .obtain⟨_,_,_,rfl⟩:=okWide_slice hu hok;rfl
     .simp_all
    rw[hv]at h1
    cases h1 with|cons h hs =>
    exact⟨.t x,.t h λ_ _=>trivial,x,rfl,h2⟩
   |_::_::_,h2,h1=>have:=h2.len;simp at this;omega
  .cases hp
 .cases hp
theorem Zx0{base:Nat}:∀(ts:List TypeId) (vs:UC) (ds:List (DataW H)) (ps:List MemPlace),DataW.TrodAll enc P w 0 sp held ts vs ds ps->
  (∀(j:Nat) t v,ts[j]?=some t->vs[j]?=some v->Value.okWide P w .any base t v)->∀l,Zjk P ts=some l->∃as,RVs Vj w (λ_=>True) as vs/\ParsOK l as
 |[],[],[],_,_,_,l,hl=>by cases hl;exact⟨[],.nil,rfl⟩
 |t::ts,v::vs,d::ds,_,⟨p,q,h1,h2,_⟩,hok,l,hl=>by
  unfold Zjk at hl;split at hl
  .rename_i p1 hp1;split at hl
   .rename_i ps1 hps1;cases hl;obtain⟨a,ha,hpa⟩:=par_arg h1 (hok 0 t v rfl rfl) hp1;obtain⟨as,has,hpas⟩:=Zx0 ts vs ds q h2 (λj t v h h'=>hok (j+1) t v (by simpa using h) (by simpa using h')) ps1 hps1;exact⟨a::as,.cons ha has,a,as,rfl,hpa,hpas⟩
   .cases hl
  .cases hl
theorem Zx1(hl:laidOutB P=true){W W':World}(hb:Below W.heap.size W W'):∀(ts:List TypeId) (vs:UC) (ds:List (DataW H)) (ps:List MemPlace),parsOK P ts=true->DataW.TrodAll enc P W 0 (λ_=>true) true ts vs ds ps->
  (∀x∈ps,x.block<W.heap.size)->DataW.TrodAll enc P W' 0 (λb=>decide (b<W.heap.size)) true ts vs ds ps
 |[],[],[],_,_,h,_=>h
 |t::ts,v::vs,d::ds,_,hr,⟨p,q,h1,h2,e⟩,hlt=>by
  subst e;simp only[parsOK,Ybh,Yg,decide_eq_true_eq]at hr;exact⟨p,q,Below.trod hl hr.1.1 hr.1.2 h1 hb (λx hx=>hlt x (Yct _ hx)),Zx1 hl hb ts vs ds q hr.2 h2 (λx hx=>hlt x (Yc4 _ hx)),rfl⟩
theorem Zx2:∀(ts:List TypeId) (vs:UC) (ds:List (DataW H)) (ps:List MemPlace),DataW.TrodAll enc P w 0 sp held ts vs ds ps->ds.length=ts.length
 |[],[],[],_,_=>rfl
 |_::ts,_::vs,_::ds,_,⟨_,q,_,h2,_⟩=>by simp[Zx2 ts vs ds q h2]
theorem Z7U(hl:laidOutB P=true){f:Nat}{fn:Func}{s:ChangeSpec}{tb:TypeId}{l:List (Bool×List CSh)}(hrd:parsOK P fn.params.toList=true)(hsh:Zjk P fn.params.toList=some l)
  (hres:fn.resultTypes=#[tb]) (htb:P.underlying tb=some .bool) (hvars:s.vars=[])
  (hfn:∀(H:Type) (ds:List (DataW H)),ds.length=fn.params.toList.length->(s.fn H ds).results=[.lit (.bool true)]/\(s.fn H ds).args=ds/\(s.fn H ds).vars=[])
  (hS:∀as,ParsOK l as->∃hr,Xr P f as [] (.t (.bool true)) hr)
  (W:World) (base:Nat) (args:Array Value) (ds gs:List (DataW H)) (before:List MemPlace)
  (hval:∀(j:Nat) t v,fn.params[j]?=some t->args[j]?=some v->Value.okWide P W .any base t v)
  (hW:DataW.Whole enc P fn.params.toList s.vars false W args.toList ds gs before) :
  Calls P f args W λe W'=>∃v,e=.returned v/\s.post enc P fn false true false false W args v W':=by
 have hW':=hW;obtain⟨p,q,hA,hV,rfl,hfz,hnd⟩:=hW;have hV0:=hV;rw[hvars]at hV;obtain⟨rfl,rfl⟩:gs=[]/\q=[]:=by
  cases gs with
  |nil=>exact⟨rfl,hV⟩
  |cons _ _=>exact hV.elim
 obtain⟨as,hRV,hP⟩:=Zx0 fn.params.toList args.toList ds p hA (λj t v h h'=>hval j t v (by simpa using h) (by simpa using h')) l hsh;obtain⟨hr,hC⟩:=hS as hP;refine(hC.data W (λ_=>True) args hRV).mono λe W' ⟨v,ρ,he,hB,_,hv,_⟩=>?_
 subst he;obtain⟨h1,h2,h3⟩:=hfn H (ds++[]) (by rw[Ybb];exact Zx2 _ _ _ _ hA)
 cases hv with|t h _ =>
 cases h;have hlt:=hW'.lt;refine⟨_,rfl,ds,[],p++[],[],p,[],hW',?_,?_,?_,hB.frame _,(by intro h;cases h)⟩
 .rw[h1,hres];exact trodAll_cons_mk (p:=[]) (p':=[]) (shut_bool htb _) trodAll_mk0
 .simp_all [Ybb,Zx1]
 .rw[h3,hvars];rfl
end
def ic(n:Int):UD:=[.int .i64 n]
def isc(xs:V6):UD:=[.lst 1 (xs.map ic)]
def sc(s:UP):UD:=[.str s]
variable{t:T}{left:Int}{n i:Nat}{cs:List CSh}{ts:UD}
@[simp] theorem ic_def(n:Int):ic n=[.int .i64 n]:=rfl
@[simp] theorem isc_def(xs:V6):isc xs=[.lst 1 (xs.map ic)]:=rfl
@[simp] theorem sc_def(s:UP):sc s=[.str s]:=rfl
abbrev tI(xs:V6):T:=.lst 1 (xs.map ic)
abbrev tII(xs:V4):T:=.lst 1 (xs.map isc)
abbrev SmA{α:Type}(xs:List α):Prop:=xs.length<=4294967296
abbrev SmL{α:Type}(p:α->Prop)(xs:List α):Prop:=xs.length<=4294967296/\∀x∈xs,p x
abbrev SsA(s:UP):Prop:=s.size<=4294967296
abbrev OkI(n:Int):Prop:=-9223372036854775808<=n/\n<=9223372036854775807
abbrev OkS(s:UP):Prop:=s.size<=maxLen
abbrev OkL{α:Type}(p:α->Prop)(xs:List α):Prop:=xs.length<=maxLen/\∀x∈xs,p x
theorem Zx3{α:Type}{xs ys:List α}(h:i<xs.length)(h':i<ys.length):xs.drop i=ys.drop i↔xs[i]=ys[i]/\xs.drop (i+1)=ys.drop (i+1):=by
 grind [List.drop_eq_getElem_cons,List.cons.injEq]
abbrev Le{α:Type}(xs:List α):Prop:=xs.length<=1099511627776
theorem ZL(h:i<1099511627776):IntKind.wrap .i64 ((i:Int)+1)=(i:Int)+1:=Z1 (by omega) (by omega)
theorem room2(h:n<=4398046511104):n<=room:=Y1 h (by decide)
theorem tf(b:Bool):b=false\/b=true:=by cases b<;>simp
def sz1(n:Nat)(left:Int):Int:=if IntKind.wrap .i64 (left-n)<0 then -1 else IntKind.wrap .i64 (left-n)
abbrev szI(y:V6)(l:Int):Int:=sz1 y.length l
def Z5(l:Int)(f:Int->Int):Int:=if l<0 then -1 else f l
def Ut{α:Type}(f:α->Int->Int):List α->Int->Int
 |[],l=>l
 |x::xs,l=>if f x l<0 then -1 else Ut f xs (f x l)
def szL{α:Type}(f:α->Int->Int)(xs:List α)(left:Int):Int:=Z5 (sz1 xs.length left) (Ut f xs)
theorem sz1_ok(hn:n<=maxLen)(h0:0<=left)(h1:left<=1048576)(h:0<=sz1 n left):sz1 n left<=left/\n<=1048576:=by
 unfold maxLen at hn;have hw:IntKind.wrap .i64 (left-n)=left-n:=Z1 (by omega) (by omega);unfold sz1 at h|-;omega
theorem WW(hn:n<=maxLen)(h0:0<=left)(h1:left<=1048576)(h:0<=sz1 n left):sz1 n left<=left/\n<=4294967296:=by
 have:=sz1_ok hn h0 h1 h;omega
theorem andSz_ok{l:Int}{f:Int->Int}{p q:Prop}(h:0<=Z5 l f)(hl:0<=l->l<=left/\p)(hf:0<=l->0<=f l->f l<=l/\q):Z5 l f<=left/\p/\q:=by
 unfold Z5 at h|-
 grind
theorem Zx4{α:Type}{f:α->Int->Int}{p:α->Prop}{M:Int}:∀(xs:List α) (left:Int),(∀x∈xs,∀l,0<=l->l<=M->0<=f x l->f x l<=l/\p x)->0<=left->left<=M->0<=Ut f xs left->Ut f xs left<=left/\∀x∈xs,p x
 |[],left,_,_,_,h=>⟨Int.le_refl _,λx hx=>by cases hx⟩
 |x::xs,left,hf,h0,h1,h=>by
  unfold Ut at h|-;split at h
  .omega
  .rename_i hx;rw[Yb hx];obtain⟨h2,h3⟩:=hf x (by simp) left h0 h1 (by omega);obtain⟨h4,h5⟩:=Zx4 xs (f x left) (λy hy=>hf y (by simp[hy])) (by omega) (by omega) h
   grind
theorem Jk{α:Type}{f:α->Int->Int}{p:α->Prop}{xs:List α}(hn:xs.length<=maxLen)(hf:∀x∈xs,∀l,0<=l->l<=1048576->0<=f x l->f x l<=l/\p x)(h0:0<=left)(h1:left<=1048576)(h:0<=szL f xs left) :
  szL f xs left<=left/\SmL p xs:=by
 refine andSz_ok h (λhl=>WW hn h0 h1 hl) (λhl hfl=>?_);have:=sz1_ok hn h0 h1 hl;exact Zx4 xs _ hf hl (by omega) hfl
theorem Xf(h:HasSh (.int .i64) t):∃n,t=.int .i64 n/\OkI n:=by
 cases h with
 |int h=>exact⟨_,rfl,by simp[Lit.wf,IntKind.min,IntKind.max,IntKind.signed,IntKind.bits]at h;exact h⟩
theorem dec_bool(h:HasSh .bool t):∃b,t=.bool b:=by
 cases h with
 |bool b=>exact⟨_,rfl⟩
theorem Zbg(h:HasSh .str t):∃s,t=.str s/\OkS s:=by
 cases h with
 |str h=>exact⟨_,rfl,h⟩
theorem Zx5{α:Type}{c:α->UD}{p:α->Prop}{cs:List CSh}(hd:∀ts,HasShs cs ts->∃a,ts=c a/\p a):∀{es:V5},HasAll cs es->∃xs:List α,es=xs.map c/\∀x∈xs,p x
 |[],_=>⟨[],rfl,λx hx=>by cases hx⟩
 |e::es,h=>by
  cases h with
  |cons h hs =>
   obtain⟨a,rfl,ha⟩:=hd e h;obtain⟨xs,rfl,hx⟩:=Zx5 hd hs;exact⟨a::xs,rfl,λx hm=>by cases hm with|head=>exact ha|tail _ hm=>exact hx x hm⟩
theorem Uf{α:Type}{c:α->UD}{p:α->Prop}(hd:∀ts,HasShs cs ts->∃a,ts=c a/\p a)(h:HasSh (.slice cs) t):∃xs:List α,t=.lst cs.length (xs.map c)/\OkL p xs:=by
 cases h with
 |slice hl h =>
  obtain⟨xs,rfl,hx⟩:=Zx5 hd h
  grind
theorem ZC{c:CSh}(h:HasShs (c::cs) ts):∃t us,ts=t::us/\HasSh c t/\HasShs cs us:=by
 cases h with
 |cons h hs=>exact⟨_,_,rfl,h,hs⟩
theorem UY(h:HasShs [] ts):ts=[]:=by cases h;rfl
theorem dec_ic(ts:UD)(h:HasShs [.int .i64] ts):∃n,ts=ic n/\OkI n:=by
 obtain⟨t,us,rfl,h1,h2⟩:=ZC h;cases UY h2
 simp_all [Xf]
theorem JU(h:HasSh (.slice [.int .i64]) t):∃xs,t=tI xs/\OkL OkI xs:=Uf dec_ic h
theorem dec_isc(ts:UD)(h:HasShs [.slice [.int .i64]] ts):∃n,ts=isc n/\OkL OkI n:=by
 obtain⟨t,us,rfl,h1,h2⟩:=ZC h;cases UY h2
 simp_all [JU]
theorem Zx6(h:HasSh (.slice [.slice [.int .i64]]) t):∃xs,t=tII xs/\OkL (OkL OkI) xs:=Uf dec_isc h
end Go.AM
