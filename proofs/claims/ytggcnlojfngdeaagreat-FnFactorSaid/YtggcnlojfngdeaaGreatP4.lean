/-
  Parts of the proofs for this seat: AMFun AMEv AMLive AMList AMSimp AMLaw AMLaw2 AMTy.
-/
import Derived.Carry
import Derived.Laws.Strings
import Derived.OpenShut
import Derived.ProofKit
import Derived.Test.YtggcnlojfngdeaaGreatP3
set_option linter.all false
namespace Go.AM
open Go.RowKit (Below)
section
variable{P:Program}{N:Bi}{base:Nat}{w0:World}{nt:Nat}{ts:List (Array Value)}{inl:V2}{w:World}{ρ:Map}{s:S}{fn:Func}{h h0 hr:WM}{v r:AV}{args:XQ}{ks:List (V2)}{m:Ab}{a:Act}{vs:Array Value}{f k:Nat}
def VB(tmps:Array Value):ResultVar->Sem Value
 |.tmp t=>pure (tmps.getD t undef)
 |.cell ad t=>do loadVar t (<-asAddr (tmps.getD ad undef))
theorem Z1F(fn:Func)(tmps:Array Value):results fn tmps=(do let vs <-fn.results.mapM (VB tmps);pure (if h:vs.size=1 then vs[0]else .tuple vs)):=by
 unfold results;congr 1
theorem ZC4(hS:AE N base w0 nt ts ρ s a w){rv:ResultVar}{r:Cp}(hc:IA P rv=some r)(hv:JD s r=some v) :
  ∃val,(VB a.tmps rv).run P w=.ok val w/\RV ρ w (Free N ρ s.h) v val:=by
 cases rv with
 |tmp t =>
  simp[IA]at hc;subst hc;simp[JD]at hv;subst hv
  exact⟨_,rfl,hS.env t⟩
 |cell ad t =>
  simp only[IA]at hc;obtain⟨n,hn,rfl⟩:=Yo.1 hc;simp only[JD]at hv;split at hv
  .rename_i b off hb;split at hv
   .rename_i cs hgb;have hr:=hS.env ad;rw[hb]at hr;obtain⟨p,hp⟩:∃g,a.tmps.getD ad undef=.pointer (some ⟨g,off,none⟩)/\∃r,ρ b=some r/\r.v=.pointer (some ⟨g,0,none⟩):=by
     generalize a.tmps.getD ad undef=x at hr
     cases hr with
     |ptr h1 h2=>exact⟨_,rfl,_,h1,h2⟩
    obtain⟨hp1,r,hr1,hr2⟩:=hp;obtain⟨r',h1,h2⟩:=hS.rel.blk b (by rw[hgb];intro hc;cases hc);rw[hr1]at h1;cases h1;rw[hgb]at h2;obtain⟨hx0,g',c,te,hv2,_,hh,hcs,hone⟩:=h2;rw[hr2]at hv2;cases hv2;obtain⟨val,h3,h4⟩:=Zq1 (P:=P) hn hh hcs hone hv;exact⟨val,by simp only[VB,Sem.run_bind,hp1,asAddr,Sem.run_pure,Result.andThen_ok,h3],h4⟩
   .cases hv
  .cases hv
theorem Z1G{ρ:Map}{s:S}{a:Act}{w:World}(hS:AE N base w0 nt ts ρ s a w):∀(l:List ResultVar) (rs:List Cp),AQ (IA P) l=some rs->∀vs,UG s rs=some vs->
  ∃vals,(l.mapM (VB a.tmps)).run P w=.ok vals w/\Ay ρ w (Free N ρ s.h) vs vals
 |[],rs,hm,vs,hv=>by cases hm;simp[UG]at hv;subst hv;exact⟨[],Om,.nil⟩
 |rv::l,rs,hm,vs,hv=>by
  obtain⟨r,rs',h1,h2,rfl⟩:=QR hm;simp only[UG]at hv;split at hv
  .rename_i v vs' h3 h4;cases hv;obtain⟨val,h5,h6⟩:=ZC4 hS h1 h3;obtain⟨vals,h7,h8⟩:=Z1G hS l rs' h2 vs' h4;refine⟨val::vals,?_,.cons h6 h8⟩
   simp_all
  .cases hv
theorem ZC5(hS:AE N base w0 nt ts ρ s a w){rs:List Cp}(hm:AQ (IA P) fn.results.toList=some rs)(hv:Cq rs s=some v) :
  ∃val,(results fn a.tmps).run P w=.ok val w/\RV ρ w (Free N ρ s.h) v val:=by
 unfold Cq at hv;have key:∀vs,UG s rs=some vs->∃vals,(fn.results.mapM (VB a.tmps)).run P w=.ok vals.toArray w/\Ay ρ w (Free N ρ s.h) vs vals:=by
  intro vs hvs;obtain⟨vals,h1,h2⟩:=Z1G hS fn.results.toList rs hm vs hvs
  simp_all [Array.mapM_eq_mapM_toList]
 split at hv
 .rename_i v' hvs;cases hv;obtain⟨vals,h1,h2⟩:=key _ hvs;have hl:=h2.length
  match vals,hl,h1,h2 with
  |[val],_,h1,h2 =>
   cases h2 with
   |cons h3 _ =>
    refine⟨val,?_,h3⟩;rw[Z1F,Sem.run_bind,h1];simp
 .rename_i vs hne hvs;cases hv;obtain⟨vals,h1,h2⟩:=key _ hvs;have hl:=h2.length;refine⟨.tuple vals.toArray,?_,.tup (by simpa using h2)⟩;rw[Z1F,Sem.run_bind,h1];have hn1:vals.length≠1:=by
   intro hc;rw[hc]at hl
   match vs,hl,hne with
   |[v0],_,hne=>exact hne v0 rfl
  simp[hn1]
 .cases hv
theorem Ez(args:XQ)(k i:Nat):lk (k+i) (Kx args k)=(args[i]?).getD .top:=by
 induction args generalizing k i with
 |nil=>rfl
 |cons v args ih =>
  simp only[Kx,lk]
  cases i with
  |zero=>simp
  |succ i =>
   rw[Ap];have:=ih (k+1) i
   grind
theorem EA{F:Nat->Prop}(hv:Ay ρ w F args vs.toList)(n:Nat):XB ρ w F (Kx args 0) (vs++Array.replicate n undef):=by
 intro s;have h1:=Ez args 0 s;rw[Yv]at h1;rw[h1]
 cases hs:args[s]? with
 |none=>exact .top _
 |some a =>
  obtain⟨v,h2,h3⟩:=hv.at hs;have h2':vs[s]?=some v:=by simpa using h2
  have hlt:s<vs.size:=(Yc5.1 h2').1
  have:(vs++Array.replicate n undef).getD s undef=v:=by
   simp_all [Iu,Array.getElem?_append_left]
  rw[this];exact h3
theorem V6(x:Bool)(d:TypeId->Bool)(s:S):∀(rs:List Cp) (CP:List TypeId),UG s (Cj P x d rs CP)=UG s rs
 |[],CP=>by cases CP<;>rfl
 |r::rs,[]=>by cases r<;>rfl
 |.tmp t::rs,ty::CP=>by simp only[Cj,UG,JD,V6 x d s rs CP]
 |.cell a n::rs,ty::CP=>by simp only[Cj,UG,JD,V6 x d s rs CP]
 |.tmpO t l::rs,ty::CP=>by simp only[Cj,UG,JD,V6 x d s rs CP]
 |.cellO a n l::rs,ty::CP=>by simp only[Cj,UG,JD,V6 x d s rs CP]
theorem ZC6(hc:GI P inl ks fn=some m):∃c,fn.body=some c/\comp P inl fn.ntmps c ks=some (m.body,[])/\(∃rs,AQ (IA P) fn.results.toList=some rs/\∀s,UG s m.res=UG s rs)/\m.nt=fn.ntmps/\m.np<=m.nt:=by
 unfold GI at hc
 grind [V6]
theorem ZC7{Γ:CV}(hΓ:Γ=Ww P)(hf:P.funcs[f]?=some fn)(hc:GI P inl ks fn=some m)(hl:args.length=m.np){K:AV->S->Prop}
  (hW:Wc Γ m.body (BZ m.res K) { s with env:=Kx args 0 }) (hR:Rel N base ρ s.h w) (hst:Uo ρ w (Free N ρ s.h) s.stk ts) (hdom:∀b,s.h.length<=b->ρ b=none)
  (hv:Ay ρ w (Free N ρ s.h) args vs.toList) (hz:∀g,N.z g->Free N ρ s.h g) :
  Calls P f vs w λe w'=>∃val v s' ρ',e=.returned val/\K v s'/\RV ρ' w' (Free N ρ' s'.h) v val/\Rel N base ρ' s'.h w'/\Uo ρ' w' (Free N ρ' s'.h) s'.stk ts/\(∀b,s'.h.length<=b->ρ' b=none)/\Below base w w'/\
   (∀g,g<w.heap.size->¬N.a g->w'.heap[g]?=w.heap[g]?)/\∀g,g<w.heap.size->N.z g->Free N ρ' s'.h g/\w'.heap[g]?=w.heap[g]?:=by
 obtain⟨c,hb,hcc,⟨rs,hres,hrr⟩,hnt,hnp⟩:=ZC6 hc;have hvl:=hv.length;simp only[Y1]at hvl;refine calls_of_wp hf hb (wp_mono (Ex (N:=N) (base:=base) (w0:=w) (ts:=ts) hΓ c ks m.body [] hcc _ _ _ w ρ hW ⟨hR,EA hv _,hst,hdom,rfl,by simp;omega,Below.refl _ _,λ_ _ _=>rfl,λg _ hg=>⟨hz g hg,rfl⟩⟩) ?_);intro e a' w' hq;have fin:∀s' ρ',BZ m.res K .n s'->AE N base w fn.ntmps ts ρ' s' a' w'->a'.defers=[]/\∃v,(results fn a'.tmps).run P w'=.ok v w'/\∃val v_1 s' ρ',Ending.returned v=.returned val/\K v_1 s'/\RV ρ' w' (Free N ρ' s'.h) v_1 val/\Rel N base ρ' s'.h w'/\
   Uo ρ' w' (Free N ρ' s'.h) s'.stk ts/\(∀b,s'.h.length<=b->ρ' b=none)/\Below base w w'/\(∀g,g<w.heap.size->¬N.a g->w'.heap[g]?=w.heap[g]?)/\∀g,g<w.heap.size->N.z g->Free N ρ' s'.h g/\w'.heap[g]?=w.heap[g]?:=by
  intro s' ρ' hQ hS;simp only[BZ]at hQ;split at hQ
  .rename_i v hvr;obtain⟨val,h1,h2⟩:=ZC5 (rs:=rs) hS hres (by unfold Cq at hvr|-;rw[<-hrr];exact hvr);exact⟨hS.defers,val,h1,val,v,s',ρ',rfl,hQ,h2,hS.rel,hS.stk,hS.dom,hS.below,hS.kn,hS.fz⟩
  .exact hQ.elim
 cases e with
 |normal=>obtain⟨s',ρ',h1,h2⟩:=hq;exact fin s' ρ' h1 h2
 |ret=>obtain⟨s',ρ',h1,h2⟩:=hq;exact fin s' ρ' h1 h2
 |exit id=>obtain⟨s',ρ',h1,h2⟩:=hq;exact h1.elim
 |goto l=>exact hq.elim
 |panic ch=>exact hq.elim
 |outgrown=>exact hq.elim
theorem ZqQ{h:WM}:∀(n:Nat) (todo acc:V2),∃more,Xp h n todo acc=acc++more
 |0,_,acc=>⟨[],by simp[Xp]⟩
 |n+1,[],acc=>⟨[],by simp[Xp]⟩
 |n+1,c::todo,acc=>by
  simp only[Xp];split
  .exact ZqQ n todo acc
  .obtain⟨more,hm⟩:=ZqQ (h:=h) n (W5 (gt h c)++todo) (acc++[c])
   simp_all
theorem Z1H:∀(bs:WM) (k i:Nat),lk (k+i) (QQ bs k)=match bs[i]? with|some (.box _)=>.ptr (k+i) 0|some (.arr _ _ _ _)=>.own (k+i)|some (.xarr _ _ _)=>.own (k+i)|_=>.top
 |[],k,i=>by simp[QQ,lk]
 |b::bs,k,0=>by cases b<;>simp[QQ,lk]
 |b::bs,k,i+1=>by
  simp only[QQ,lk];rw[Ap];have:=Z1H bs (k+1) i
  grind
def V7(ρ:Map)(k:Nat):Array Value:=((List.range k).map λi=>match ρ i with|some r=>r.v|none=>undef).toArray
theorem sQ{i:Nat}{r:Root}(hi:i<k)(hr:ρ i=some r):(V7 ρ k).getD i undef=r.v:=by
 simp[V7,hi,hr]
theorem ZC8(R:Rel N base ρ h0 w):XB ρ w (Free N ρ h0) (QQ h0 0) (V7 ρ h0.length):=by
 intro i;have:=Z1H h0 0 i;rw[Yv]at this;rw[this]
 cases hb:h0[i]? with
 |none=>exact .top _
 |some b =>
  have hi:i<h0.length:=(Y0.1 hb).1;have hg:gt h0 i=b:=by simp[gt,hb]
  cases b with
  |dead=>exact .top _
  |box cs =>
   obtain⟨r,h1,h2⟩:=R.blk i (by rw[hg];intro hc;cases hc);rw[hg]at h2;obtain⟨_,g,c,e,h3,_⟩:=h2;rw[sQ hi h1,h3]
   exact .ptr h1 h3
  |arr e sz fr es =>
   obtain⟨r,h1,h2⟩:=R.blk i (by rw[hg];intro hc;cases hc);rw[hg]at h2;obtain⟨_,_,xs,_,h3,_⟩:=h2;rw[sQ hi h1]
   exact .own h1 (rS h3)
  |xarr e sz es =>
   obtain⟨r,h1,h2⟩:=R.blk i (by rw[hg];intro hc;cases hc);rw[hg]at h2;obtain⟨_,xs,_,h3,_⟩:=h2;rw[sQ hi h1]
   exact .own h1 (rS h3)
  |det e sz es i' off c=>exact .top _
theorem ZC9{ρ0:Map}{val:Value}(R:Rel N base ρ s.h w)(hv:RV ρ w (Free N ρ s.h) v val)(hdom:∀b,s.h.length<=b->ρ b=none){e:Env}(Aal:s.stk=[e])(hE:XB ρ w (Free N ρ s.h) e (V7 ρ0 k))(hc:rL k v s=some (r,hr)) :
  ∃ρ',Rel N base ρ' hr w/\RV ρ' w (Free N ρ' hr) r val/\(∀b,hr.length<=b->ρ' b=none)/\k<=hr.length/\(∀g,Free N ρ s.h g->Free N ρ' hr g)/\∀b r0,b<k->ρ0 b=some r0->∃r1,ρ' b=some r1/\r1.v=r0.v:=by
 unfold rL at hc;simp only[Aal]at hc;split at hc
 .rename_i hcond;simp only[Yd]at hcond;obtain⟨hcl,hndB⟩:=hcond;obtain⟨h1,h2⟩:=sC hcl;have Aam:((List.range k).map (Xl s.h e)).Nodup:=O0.1 hndB;have hnd:=sA (h:=s.h) 200 ((((List.range k).map (Xl s.h e)).flatMap λb=>W5 (gt s.h b))++refs (scrub s.h v)) ((List.range k).map (Xl s.h e)) Aam;obtain⟨more,hpre⟩:=ZqQ (h:=s.h) 200 ((((List.range k).map (Xl s.h e)).flatMap λb=>W5 (gt s.h b))++refs (scrub s.h v)) ((List.range k).map (Xl s.h e));generalize Xp s.h 200 ((((List.range k).map (Xl s.h e)).flatMap λb=>W5 (gt s.h b))++refs (scrub s.h v)) ((List.range k).map (Xl s.h e))=ids at *
  cases hc;have hat:∀i,i<k->ids[i]?=some (Xl s.h e i):=by
   grind
  have hkl:k<=ids.length:=by rw[hpre];simp
  -- where a root handed over is
  have hroot:∀i r0,i<k->ρ0 i=some r0->ρ (Xl s.h e i)=none\/∃r1,ρ (Xl s.h e i)=some r1/\r1.v=r0.v:=by
   intro i r0 hi hr0;have hEi:=(hE i).scrub (h:=s.h);rw[sQ hi hr0]at hEi;unfold Xl
   cases hx:scrub s.h (lk i e)with
   |ptr b off =>
    rw[hx]at hEi
    cases off with
    |zero =>
     right;generalize Aan:r0.v=x at hEi
     cases hEi with
     |ptr q1 q2=>exact⟨_,q1,q2⟩
    |succ off=>left;exact hdom _ Om
   |own b =>
    rw[hx]at hEi;right;generalize Aan:r0.v=x at hEi
    cases hEi with
    |own q1 q2=>exact⟨_,q1,rfl⟩
   |_=>left;exact hdom _ Om
  let ρ':Map:=λb=>if hb:b<k/\A2 ρ ids b=none then ρ0 b else A2 ρ ids b
  have hlive:∀b,gt (ids.map λb=>A0 (λb=>idx b ids 0) (gt s.h b)) b≠.dead->ρ' b=A2 ρ ids b:=by
   intro b hb;obtain⟨r1,q1,_⟩:=(R.ren hnd h2).blk b hb
   grind
  have hsome:∀b r,A2 ρ ids b=some r->ρ' b=some r:=by
   grind
  have GU:∀g,Free N (A2 ρ ids) (ids.map λb=>A0 (λb=>idx b ids 0) (gt s.h b)) g->Free N ρ' (ids.map λb=>A0 (λb=>idx b ids 0) (gt s.h b)) g:=by
   intro g hg;refine⟨hg.1,λb r hb hd=>?_⟩;rw[hlive b hd]at hb;exact hg.2 b r hb hd
  have hKp:X7 (A2 ρ ids) w (Free N (A2 ρ ids) (ids.map λb=>A0 (λb=>idx b ids 0) (gt s.h b))) ρ' w (Free N ρ' (ids.map λb=>A0 (λb=>idx b ids 0) (gt s.h b))) :=
   ⟨λb r hb=>⟨r,hsome b r hb,rfl⟩,λg _ hg=>⟨GU g hg,rfl⟩⟩
  have R':=R.ren hnd h2;refine⟨ρ',⟨R'.hb,R'.hN,?_,?_,?_,?_⟩,?_,?_,by simpa using hkl,λg hg=>GU g (TZ hg),?_⟩
  .intro b r g hb hd;rw[hlive b hd]at hb;exact R'.hO b r g hb hd
  .intro b hd;obtain⟨r1,q1,q2⟩:=R'.blk b hd;exact⟨r1,hsome b r1 q1,q2.keep hKp λ_ _=>rfl⟩
  .intro b b' r1 r2 g hb hb' hd hd';rw[hlive b hd]at hb;rw[hlive b' hd']at hb';exact R'.inj b b' r1 r2 g hb hb' hd hd'
  .intro b b' r1 r2 g hb hb' hf hf';rw[hlive b (KV hf)]at hb;rw[hlive b' (KV hf')]at hb';exact R'.apart b b' r1 r2 g hb hb' hf hf'
  .refine RV.keep hKp ((hv.scrub (h:=s.h)).ren _ (λb hb r hr=>?_) λg _ hg=>TZ hg)
   simp_all [O1,Yi]
  .grind [List.length_map,Zq9]
  .intro b r0 hb hr0;rcases hroot b r0 hb hr0 with hn|⟨r1,q1,q2⟩
   .refine⟨r0,?_,rfl⟩;show(if hb:b<k/\A2 ρ ids b=none then ρ0 b else A2 ρ ids b)=some r0;rw[dif_pos ⟨hb,by simp[A2,hat b hb,hn]⟩];exact hr0
   .exact⟨r1,hsome b r1 (by simp[A2,hat b hb,q1]),q2⟩
 .cases hc
theorem ZqR:∀(l:WM) (x:Ax),stB l l.length x=l++[x]
 |[],x=>rfl
 |y::l,x=>by simp[stB,ZqR l x]
structure Own (N:Bi) (base:Nat) (ρ:Map) (h:WM) (w:World) (ρ':Map) (h':WM):Prop where
 rel:Rel N base ρ' h' w
 keep:X7 ρ w (Free N ρ h) ρ' w (Free N ρ' h')
 dom:∀b,h'.length<=b->ρ' b=none
theorem Own.trans{ρ1 ρ2:Map}{h1 h2:WM}(a:Own N base ρ h w ρ1 h1)(b:Own N base ρ1 h1 w ρ2 h2):Own N base ρ h w ρ2 h2 :=
 ⟨b.rel,a.keep.trans b.keep (Yk _),b.dom⟩
theorem EB(R:Rel N base ρ h w)(hd:∀b,h.length<=b->ρ b=none)(e sz:Nat) :
  Own N base ρ h w (Aq ρ h.length ⟨.slice none 0 0,[],[]⟩) (h++[.arr e (sz+1) true []]):=by
 have hp:=IC R (n:=h.length) (ks:=[]) (x:=.arr e (sz+1) true []) (r:=⟨.slice none 0 0,[],[]⟩) (row:=none) (w':=w)
  (by intro r0 h0;rw[hd _ (Yk _)]at h0;cases h0) ⟨rfl,rfl,rfl,Yk _,λ_ _ _=>rfl⟩ (by intro g' hg';cases hg') (by intro g' hg';cases hg')
  (λ_=>⟨rfl,e,[],.inr rfl,World.ownsRow_nil w base e (sz+1),Nat.succ_pos _,Om,.nil,Om,λ_=>⟨Y2,Om⟩,λ_=>Ba.nil⟩)
  (by intro _ x hx;cases hx)
 have hu:upd h (kill []++[(h.length,Ax.arr e (sz+1) true [])])=h++[.arr e (sz+1) true []]:=by simp only[kill,Dm,DW,upd,ZqR]
 rw[hu]at hp;refine⟨hp.1,hp.2.1,λb hb=>?_⟩;simp only[Yu,Yy,Ff]at hb;simp only[Aq]
 grind
theorem EC(R:Rel N base ρ h w)(hd:∀b,h.length<=b->ρ b=none)(e sz:Nat) :
  Own N base ρ h w (Aq ρ h.length ⟨.slice none 0 0,[],[]⟩) (h++[.xarr e (sz+1) []]):=by
 have hp:=TK R (n:=h.length) (ks:=[]) (x:=.xarr e (sz+1) []) (r:=⟨.slice none 0 0,[],[]⟩) (row:=none) (w':=w)
  (by intro r0 h0;rw[hd _ (Yk _)]at h0;cases h0) ⟨rfl,rfl,rfl,Yk _,λ_ _ _=>rfl⟩ (by intro g' hg';cases hg') (by intro g' hg';rcases hg' with hg'|hg'<;>cases hg')
  (λ_=>⟨e,[],.inr rfl,World.ownsRow_nil w base e (sz+1),Nat.succ_pos _,Om,.nil,Ba.nil,Y2,Om⟩)
  (by intro hf;cases hf)
 have hu:upd h (kill []++[(h.length,Ax.xarr e (sz+1) [])])=h++[.xarr e (sz+1) []]:=by simp only[kill,Dm,DW,upd,ZqR]
 rw[hu]at hp;refine⟨hp.1,hp.2.1,λb hb=>?_⟩;simp only[Yu,Yy,Ff]at hb;simp only[Aq]
 grind
theorem Z1I(R:Rel N base ρ h w)(hd:∀b,h.length<=b->ρ b=none)(e sz:Nat) :
  Own N base ρ h w (Aq ρ h.length ⟨.slice none 0 0,[],[]⟩) (h++[DD e (sz+1)]):=by
 unfold DD
 grind [EC,EB]
theorem ZqS{ρ:Map}{h:WM}{w:World}{F:Nat->Prop}{v:Value}(h1:RV ρ w F (.t .nil) v):v=.slice none 0 0:=by
 cases h1 with|t h _=>cases h;rfl
theorem ZCA:∀(l:List (Option (Nat×Nat))) (cs:XQ) (ρ:Map) (h:WM) (vs:V3),Rel N base ρ h w->(∀b,h.length<=b->ρ b=none)->Ay ρ w (Free N ρ h) cs vs->
  ∃ρ',Own N base ρ h w ρ' (Qv l cs h).2/\Ay ρ' w (Free N ρ' (Qv l cs h).2) (Qv l cs h).1 vs:=by
 intro l cs ρ h
 induction l,cs,h using Qv.induct generalizing ρ with
 |case1 e sz ps cs h cs' h' heq ih =>
  intro vs R hd hv
  cases hv with|cons q hv =>
  have hs:=ZqS (h:=h) q;subst hs;have A:=Z1I R hd e sz;obtain⟨ρ',B,hv'⟩:=ih _ _ A.rel A.dom (hv.keep A.keep);rw[heq]at B hv';simp only[Qv,heq];refine⟨ρ',A.trans B,.cons ?_ hv'⟩;have hk:Aq ρ h.length ⟨.slice none 0 0,[],[]⟩ h.length=some ⟨.slice none 0 0,[],[]⟩:=by simp[Aq]
  exact(RV.own (w:=w) (F:=Free N _ (h++[DD e (sz+1)])) hk rfl).keep B.keep
 |case2 o c ps cs h hne cs' h' heq ih =>
  intro vs R hd hv
  cases hv with|cons q hv =>
  obtain⟨ρ',B,hv'⟩:=ih _ _ R hd hv;rw[heq]at B hv';have he:Qv (o::c) (ps::cs) h=(ps::cs',h'):=by
   rw[Qv]
   .rw[heq]
   .exact hne
  rw[he]
  exact⟨ρ',B,.cons (q.keep B.keep) hv'⟩
 |case3 cs h =>
  intro vs R hd hv;simp only[Qv]
  exact⟨ρ,⟨R,.refl,hd⟩,hv⟩
 |case4 l h hne =>
  intro vs R hd hv
  cases l with
  |nil=>exact absurd rfl hne
  |cons o l=>simp only[Qv];exact⟨ρ,⟨R,.refl,hd⟩,hv⟩
theorem Z1J(n:Nat)(v:AV)(ρ:Map)(h:WM)(val:Value)(R:Rel N base ρ h w)(hd:∀b,h.length<=b->ρ b=none)(hv:RV ρ w (Free N ρ h) v val) :
  ∃ρ',Own N base ρ h w ρ' (CY n v h).2/\RV ρ' w (Free N ρ' (CY n v h).2) (CY n v h).1 val:=by
 unfold CY;split
 .have hs:=ZqS (h:=h) hv;subst hs;exact⟨ρ,⟨R,.refl,hd⟩,.t (.lst0 _ _ _) λg hg=>by cases hg⟩
 .rename_i b;split
  .rename_i el sz fr es hb;obtain⟨h1,h2⟩:=sP R (.inl ⟨_,_,hb⟩);have hl:b<h.length:=Du (by rw[hb];intro hc;cases hc);refine⟨ρ,⟨h1,⟨λc r hr=>⟨r,hr,rfl⟩,λg _ hg=>⟨Qy hg,rfl⟩⟩,λc hc=>hd c (by rw[O6 hl]at hc;exact hc)⟩,?_⟩
   cases hv with
   |own hr hone=>exact h2 _ hr
  .rename_i el sz es hb;obtain⟨h1,h2⟩:=sP R (.inr ⟨_,hb⟩);have hl:b<h.length:=Du (by rw[hb];intro hc;cases hc);refine⟨ρ,⟨h1,⟨λc r hr=>⟨r,hr,rfl⟩,λg _ hg=>⟨Qy hg,rfl⟩⟩,λc hc=>hd c (by rw[O6 hl]at hc;exact hc)⟩,?_⟩
   cases hv with
   |own hr hone=>exact h2 _ hr
  .exact⟨ρ,⟨R,.refl,hd⟩,hv⟩
 .exact⟨ρ,⟨R,.refl,hd⟩,hv⟩
theorem ZqT{w:World}:∀(l:List (Option (Nat×Nat))) (cs:XQ) (ρ:Map) (h:WM) (vs:V3),Rel N base ρ h w->(∀b,h.length<=b->ρ b=none)->Ay ρ w (Free N ρ h) cs vs->
  ∃ρ',Own N base ρ h w ρ' (UH l cs h).2/\Ay ρ' w (Free N ρ' (UH l cs h).2) (UH l cs h).1 vs
 |[],cs,ρ,h,vs,R,hd,hv=>by
  unfold UH
  exact⟨ρ,⟨R,.refl,hd⟩,hv⟩
 |o::ps,[],ρ,h,vs,R,hd,hv=>by
  have e:UH (o::ps) [] h=([],h):=by rcases o with _|⟨n,_|z⟩<;>rfl
  rw[e]
  exact⟨ρ,⟨R,.refl,hd⟩,hv⟩
 |o::ps,c::cs,ρ,h,[],R,hd,hv=>by cases hv
 |o::ps,c::cs,ρ,h,v0::vs,R,hd,hv=>by
  cases hv with|cons q hv =>
  have go:∃ρ',Own N base ρ h w ρ' (UH ps cs h).2/\Ay ρ' w (Free N ρ' (UH ps cs h).2) (c::(UH ps cs h).1) (v0::vs):=by
   obtain⟨ρ',A,B⟩:=ZqT ps cs ρ h _ R hd hv;exact⟨ρ',A,.cons (q.keep A.keep) B⟩
  cases o with
  |none=>simpa only[UH]using go
  |some p =>
   obtain⟨n,z⟩:=p
   cases z with
   |succ z=>simpa only[UH]using go
   |zero =>
    obtain⟨ρ1,A1,B1⟩:=Z1J n c ρ h _ R hd q;obtain⟨ρ',A,B⟩:=ZqT ps cs ρ1 _ _ A1.rel A1.dom (hv.keep A1.keep);simp only[UH];exact⟨ρ',A1.trans A,.cons (B1.keep A.keep) B⟩
theorem sR(l:List (Option (Nat×Nat)))(v:AV)(ρ:Map)(h:WM)(val:Value)(R:Rel N base ρ h w)(hd:∀b,h.length<=b->ρ b=none)(hv:RV ρ w (Free N ρ h) v val) :
  ∃ρ',Own N base ρ h w ρ' (Cv l v h).2/\RV ρ' w (Free N ρ' (Cv l v h).2) (Cv l v h).1 val:=by
 unfold Cv;split
 .rename_i cs
  cases hv with|agg hv h1 =>
  obtain⟨ρ1,A1,B1⟩:=ZCA l cs ρ h _ R hd hv;obtain⟨ρ',A,B⟩:=ZqT l _ ρ1 _ _ A1.rel A1.dom B1;exact⟨ρ',A1.trans A,.agg B h1⟩
 .split
  .rename_i e sz;split
   .have hs:=ZqS (h:=h) hv;subst hs;have A:=Z1I R hd e sz;exact⟨_,A,RV.own (r:=⟨.slice none 0 0,[],[]⟩) (by simp[Aq]) rfl⟩
   .exact⟨ρ,⟨R,.refl,hd⟩,hv⟩
  .simp_all [Z1J]
  .exact⟨ρ,⟨R,.refl,hd⟩,hv⟩
theorem V8{w:World}:∀(rs:List Cp) (vs:XQ) (ρ:Map) (h:WM) (vals:V3),Rel N base ρ h w->(∀b,h.length<=b->ρ b=none)->Ay ρ w (Free N ρ h) vs vals->
  ∃ρ',Own N base ρ h w ρ' (Qh rs vs h).2/\Ay ρ' w (Free N ρ' (Qh rs vs h).2) (Qh rs vs h).1 vals
 |[],vs,ρ,h,vals,R,hd,hv=>by simp only[Qh];exact⟨ρ,⟨R,.refl,hd⟩,hv⟩
 |r::rs,[],ρ,h,vals,R,hd,hv=>by cases r<;>(simp only[Qh];exact⟨ρ,⟨R,.refl,hd⟩,hv⟩)
 |.tmp t::rs,v::vs,ρ,h,vals,R,hd,hv=>by
  cases hv with|cons q hv =>
  obtain⟨ρ',A,B⟩:=V8 rs vs ρ h _ R hd hv;simp only[Qh]
  exact⟨ρ',A,.cons (q.keep A.keep) B⟩
 |.cell a n::rs,v::vs,ρ,h,vals,R,hd,hv=>by
  cases hv with|cons q hv =>
  obtain⟨ρ',A,B⟩:=V8 rs vs ρ h _ R hd hv;simp only[Qh]
  exact⟨ρ',A,.cons (q.keep A.keep) B⟩
 |.tmpO t l::rs,v::vs,ρ,h,vals,R,hd,hv=>by
  cases hv with|cons q hv =>
  obtain⟨ρ1,A1,B1⟩:=sR l v ρ h _ R hd q;obtain⟨ρ',A,B⟩:=V8 rs vs ρ1 _ _ A1.rel A1.dom (hv.keep A1.keep);simp only[Qh]
  exact⟨ρ',A1.trans A,.cons (B1.keep A.keep) B⟩
 |.cellO a n l::rs,v::vs,ρ,h,vals,R,hd,hv=>by
  cases hv with|cons q hv =>
  obtain⟨ρ1,A1,B1⟩:=sR l v ρ h _ R hd q;obtain⟨ρ',A,B⟩:=V8 rs vs ρ1 _ _ A1.rel A1.dom (hv.keep A1.keep);simp only[Qh];exact⟨ρ',A1.trans A,.cons (B1.keep A.keep) B⟩
theorem ZCB(rs:List Cp)(v:AV)(ρ:Map)(h:WM)(val:Value)(R:Rel N base ρ h w)(hd:∀b,h.length<=b->ρ b=none)(hv:RV ρ w (Free N ρ h) v val) :
  ∃ρ',Own N base ρ h w ρ' (CZ rs v h).2/\RV ρ' w (Free N ρ' (CZ rs v h).2) (CZ rs v h).1 val:=by
 unfold CZ;split
 .simp_all [sR]
 .simp_all [sR]
 .cases hv with|tup hv =>
  obtain⟨ρ',A,B⟩:=V8 _ _ ρ h _ R hd hv;exact⟨ρ',A,.tup B⟩
 .exact⟨ρ,⟨R,.refl,hd⟩,hv⟩
def ED(P:Program)(Af:Nat->Option Ab):Prop:=∀f m,Af f=some m->∃fn ks inl,P.funcs[f]?=some fn/\GI P inl ks fn=some m/\KT P f=true
theorem EE(hf:P.funcs[f]?=some fn)(hcl:KT P f=true)(hc:GI P inl ks fn=some m)
  (hW:FW (Ww P) m args h0 r hr):Ww P f args h0 r hr:=by
 refine⟨hcl,?_⟩;intro N base w ρ vs hR hdom hv hz;have hb:=ZC7 (N:=N) (base:=base) (ts:=[V7 ρ h0.length]) rfl hf hc hW.1 (s:={ env:=[],stk:=[QQ h0 0],h:=h0 }) hW.2 hR ⟨ZC8 hR,trivial⟩ hdom hv hz;refine hb.mono ?_;rintro e w' ⟨val,v,s',ρ1,rfl,hK,hv',hR',hst,YA,hB,hkn,hfz⟩
 match hs:s'.stk,hst with
 |[e],hst =>
  obtain⟨ρ1',A,hv2⟩:=ZCB m.res v ρ1 s'.h val hR' YA hv';obtain⟨ρ2,h1,h2,h3,h4,h5,h6⟩:=ZC9 (s:={ s' with h:=(CZ m.res v s'.h).2 }) A.rel hv2 A.dom hs (λt=>(hst.1 t).keep A.keep) hK;exact⟨val,ρ2,rfl,hB,h1,h2,h3,h4,hkn,λg hg hz'=>⟨h5 g (A.keep.free g (OO hg hB.size) (hfz g hg hz').1).1,(hfz g hg hz').2⟩,h6⟩
end
inductive Fr where
 |seq (b:Za)
 |blk (id:Nat)
 |loop (keep:V2) (b:Za)
 |fin (k:Nat) (rs:List Cp)
inductive Cf where
 |code (c:Za)
 |ops (os:List MO) (keep:V2)
 |opsF (os:List MO) (keep:V2)
 |drw (os:List MO) (Aw:List AN) (before:List (V2)) (keep:V2)
 |out (x:X)
abbrev ZE:=Nat->XQ->WM->XP
def EF(args:XQ)(nx:Nat):XP->Option (AV×List (Nat×Ax))
 |some (r,hr)=>if(UF args || CH r hr)=true then some (shift nx r,AH nx hr 0)else none
 |none=>none
def Cs(C:ZE)(f:Nat)(args:XQ)(nx:Nat):Option (XQ)->Option (AV×List (Nat×Ax))
 |some as=>EF args nx (C f as [])
 |none=>none
def C7(nx:Nat):XP->Option (AV×List (Nat×Ax))
 |some (r,hr)=>if CH r hr=true then some (shift nx r,AH nx (hr.map xB) 0)else none
 |none=>none
def O7(C:ZE)(f nx:Nat):Option (XQ)->Option (AV×List (Nat×Ax))
 |some as=>C7 nx (C f as [])
 |none=>none
def C8:XP->Option (AV×List (Nat×Ax))
 |some (r,hr)=>match Cu hr r with
  |some d=>some (d,[])
  |none=>none
 |none=>none
def O8(C:ZE)(f:Nat)(args:XQ):Option (XQ)->Option (AV×List (Nat×Ax))
 |some as=>if UF args=true then C8 (C f as [])else none
 |none=>none
def GV(v:AV)(u:List (Nat×Ax)):Option (List (Nat×Ax))->Option (AV×List (Nat×Ax))
 |some u2=>some (v,u++u2)
 |none=>none
def Dv(h:WM)(x:AV):Option (AV×List (Nat×Ax))->Option (AV×List (Nat×Ax))
 |some (v,u)=>GV v u (QM h u x)
 |none=>none
def EG(ids:V2)(nx:Nat):XP->Option (AV×List (Nat×Ax))
 |some (r,h1)=>some (ren (bk ids nx) r,XW ids nx h1 0)
 |none=>none
def UJ(C:ZE)(f:Nat)(vs:XQ)(h:WM)(nx:Nat)(ids:V2):Option (AV×List (Nat×Ax)) :=
 if Qg h ids (Z8 vs)=true then EG ids nx (C f (BJ ids vs) (AW h ids))else none
open Classical in
noncomputable def C9(ids:V2)(h0:WM)(nx:Nat):XP->Option (AV×List (Nat×Ax))
 |some (r,h1)=>if h1.take ids.length=h0 then some (ren (bk ids nx) r,XW ids nx (h1.drop ids.length) ids.length)else none
 |none=>none
noncomputable def O9(C:ZE)(f:Nat)(vs:XQ)(h:WM)(nx:Nat)(ids:V2):Option (AV×List (Nat×Ax)) :=
 if Qg h ids (Z8 vs)=true then C9 ids (AW h ids) nx (C f (BJ ids vs) (AW h ids))else none
def Pa(C:ZE)(args:XQ)(h:WM)(nx:Nat):AV->Option (AV×List (Nat×Ax))
 |.fn g caps=>UJ C g (args++caps) h nx (ZN h (args++caps))
 |_=>none
noncomputable def A5(C:ZE)(k:AY)(s:S):Option (AV×List (Nat×Ax)):=match k with
 |.call f args=>Cs C f (args.map (ev s.env)) s.h.length (AG s.h (args.map (ev s.env)))
 |.xcall f args=>O7 C f s.h.length (AG s.h (args.map (ev s.env)))
 |.fcall f args=>O8 C f (args.map (ev s.env)) (AG s.h (args.map (ev s.env)))
 |.icall f args=>UJ C f (args.map (ev s.env)) s.h s.h.length (ZN s.h (args.map (ev s.env)))
 |.scall f args p=>Dv s.h (ev s.env p) (UJ C f (args.map (ev s.env)) s.h s.h.length (ZN s.h (args.map (ev s.env))))
 |.pcall f args=>O9 C f (args.map (ev s.env)) s.h s.h.length (ZN s.h (args.map (ev s.env)))
 |.dcall f args=>Pa C (args.map (ev s.env)) s.h s.h.length (ev s.env f)
 |k=>Zy s.h s.h.length s.env k
def YB(o:MO)(s:S):Option (AV×List (Nat×Ax))->Option S
 |some (v,u)=>some { s with env:=put o.dst v s.env,h:=upd s.h u }
 |none=>none
noncomputable def B5(C:ZE)(o:MO)(s:S):Option S:=YB o s (A5 C o.op s)
def CS(o:MO)(s:S):S:={ s with env:=put o.dst (.tup []) s.env }
noncomputable def YC(C:ZE)(o:MO)(s:S)(want:Bool):AV->Option S
 |.t (.bool b)=>if b=want then B5 C o s else some (CS o s)
 |.tup []=>some (CS o s)
 |_=>none
noncomputable def Cl(C:ZE)(o:MO)(s:S):Option S:=match o.guard with
 |none=>B5 C o s
 |some (g,want)=>YC C o s want (lk g s.env)
def GX(o:MO)(s:S):Option (AV×List (Nat×Ax))->Option (AN×S)
 |some (v,u)=>some (Vg o s (u.map Prod.fst),{ s with env:=put o.dst v s.env,h:=upd s.h u })
 |none=>none
noncomputable def B6(C:ZE)(o:MO)(s:S):Option (AN×S):=GX o s (A5 C o.op s)
noncomputable def YD(C:ZE)(o:MO)(s:S)(want:Bool):AV->Option (AN×S)
 |.t (.bool b)=>if b=want then B6 C o s else some (Vg o s [],CS o s)
 |.tup []=>some (Vg o s [],CS o s)
 |_=>none
noncomputable def Da(C:ZE)(o:MO)(s:S):Option (AN×S):=match o.guard with
 |none=>B6 C o s
 |some (g,want)=>YD C o s want (lk g s.env)
def Db(k:Nat)(rs:List Cp)(s:S):XP:=match Cq rs s with
 |some v=>rM rs k v s
 |none=>none
abbrev Step:=Sum (List Fr×Cf×S) (XP)
def Ct(ks:List Fr)(os:List MO)(keep:V2):Option S->Step
 |some s=>.inl (ks,.ops os keep,s)
 |none=>.inr none
def Pb(ks:List Fr)(os:List MO)(keep:V2):Option S->Step
 |some s=>.inl (ks,.opsF os keep,s)
 |none=>.inr none
def Wx(ks:List Fr)(os:List MO)(Aw:List AN)(before:List (V2))(keep:V2):Option (AN×S)->Step
 |some (f,s)=>.inl (ks,.drw os (Aw++[f]) before keep,s)
 |none=>.inr none
def Qz(ks:List Fr)(x y:Za)(s:S):AV->Step
 |.t (.bool b)=>if b=true then .inl (ks,.code x,s)else .inl (ks,.code y,s)
 |_=>.inr none
noncomputable def step(C:ZE):List Fr->Cf->S->Step
 |ks,.code .skip,s=>.inl (ks,.out .n,s)
 |ks,.code (.reg ops keep),s=>.inl (ks,.ops ops keep,s)
 |ks,.code (.regF ops keep),s=>.inl (ks,.opsF ops keep,s)
 |ks,.code (.drw ops b keep),s=>.inl (ks,.drw ops [] b keep,s)
 |ks,.code (.drwF ops b keep),s=>.inl (ks,.drw ops [] b keep,TE ops s)
 |ks,.code (.seq a b),s=>.inl (.seq b::ks,.code a,s)
 |ks,.code (.cond c x y),s=>Qz ks x y s (ev s.env c)
 |ks,.code (.block id b),s=>.inl (.blk id::ks,.code b,s)
 |ks,.code (.loop keep b),s=>.inl (.loop keep b::ks,.code b,Qu keep s)
 |ks,.code (.exit id),s=>.inl (ks,.out (.x id),s)
 |ks,.code .ret,s=>.inl (ks,.out .r,s)
 |ks,.ops [] keep,s=>.inl (ks,.out .n,{ s with env:=rst keep s.env })
 |ks,.ops (o::os) keep,s=>Ct ks os keep (Cl C o s)
 |ks,.opsF [] keep,s=>.inl (ks,.out .n,{ s with env:=rst keep s.env })
 |ks,.opsF (o::os) keep,s=>Pb ks os keep (Cl C o (fzO o s))
 |ks,.drw [] Aw before keep,s=>if JF before Aw=true then .inl (ks,.out .n,{ s with env:=rst keep s.env })else .inr none
 |ks,.drw (o::os) Aw before keep,s=>Wx ks os Aw before keep (Da C o s)
 |[],.out _,_=>.inr none
 |.fin _ _::_,.out (.x _),_=>.inr none
 |.fin k rs::_,.out .n,s=>.inr (Db k rs s)
 |.fin k rs::_,.out .r,s=>.inr (Db k rs s)
 |.seq b::ks,.out .n,s=>.inl (ks,.code b,s)
 |.seq _::ks,.out x,s=>.inl (ks,.out x,s)
 |.blk id::ks,.out (.x i),s=>if i=id then .inl (ks,.out .n,s)else .inl (ks,.out (.x i),s)
 |.blk _::ks,.out x,s=>.inl (ks,.out x,s)
 |.loop keep b::ks,.out .n,s=>.inl (ks,.code (.loop keep b),s)
 |.loop _ _::ks,.out x,s=>.inl (ks,.out x,s)
noncomputable def runN(C:ZE):Nat->List Fr->Cf->S->XP
 |0,_,_,_=>none
 |n+1,ks,cf,s=>match step C ks cf s with
  |.inl (ks',cf',s')=>runN C n ks' cf' s'
  |.inr r=>r
theorem sS{C:ZE}:∀(n:Nat) {m:Nat} {ks:List Fr} {cf:Cf} {s:S} {r:XS},runN C n ks cf s=some r->n<=m->runN C m ks cf s=some r
 |0,_,_,_,_,_,h,_=>by cases h
 |n+1,0,_,_,_,_,_,hm=>by omega
 |n+1,m+1,ks,cf,s,r,h,hm=>by
  simp only[runN]at h|-;split at h
  .rename_i h1;exact sS n h Z
  .rename_i h1;exact h
variable{s:S}{r:XS}{p:Nat->XP}{n:Nat}
theorem EH{C:ZE}{m:Nat}{ks:List Fr}{cf:Cf}{r':XS}(h:runN C n ks cf s=some r)(h':runN C m ks cf s=some r'):r=r':=by
 grind [Nat.le_total,sS]
open Classical in
noncomputable def IU(p:XS->Prop):XP:=if h:∃r,p r then some h.choose else none
noncomputable def lim(p:Nat->XP):XP:=IU λr=>∃n,p n=some r
theorem IV(h:lim p=some r):∃n,p n=some r:=by
 unfold lim IU at h;split at h
 .grind
 .cases h
theorem EI(det:∀n m r r',p n=some r->p m=some r'->r=r')(h:p n=some r):lim p=some r:=by
 have hx:∃r,∃n,p n=some r:=⟨r,n,h⟩;unfold lim IU
 grind
theorem ZCC{q:Nat->XP}(h:∀r,(∃n,p n=some r)↔∃n,q n=some r):lim p=lim q:=by
 have:(λr=>∃n,p n=some r)=λr=>∃n,q n=some r:=funext λr=>propext (h r)
 unfold lim;rw[this]
noncomputable def DF(C:ZE)(ks:List Fr)(cf:Cf)(s:S):XP:=lim λn=>runN C n ks cf s
theorem Z1K{C:ZE}{ks:List Fr}{cf:Cf}(h:DF C ks cf s=some r):∃n,runN C n ks cf s=some r:=IV h
theorem Wh{C:ZE}{ks ks':List Fr}{cf cf':Cf}{s':S}(h:step C ks cf s=.inl (ks',cf',s')):DF C ks cf s=DF C ks' cf' s':=by
 refine ZCC λr=>⟨?_,?_⟩
 .rintro⟨n,hn⟩
  cases n with
  |zero=>cases hn
  |succ n=>simp only[runN,h]at hn;exact⟨n,hn⟩
 .rintro⟨n,hn⟩;exact⟨n+1,by simp only[runN,h];exact hn⟩
theorem IW{C:ZE}{ks:List Fr}{cf:Cf}{r:XP}(h:step C ks cf s=.inr r):DF C ks cf s=r:=by
 cases r with
 |some r=>exact EI (λn m r r' h h'=>EH h h') (n:=1) (by simp only[runN,h])
 |none =>
  cases hl:DF C ks cf s with
  |none=>rfl
  |some r =>
   obtain⟨n,hn⟩:=Z1K hl
   cases n with
   |zero=>cases hn
   |succ n=>simp only[runN,h]at hn;cases hn
noncomputable def Ev(C:ZE)(ks:List Fr)(c:Za)(s:S):XP:=DF C ks (.code c) s
noncomputable def BO(C:ZE)(ks:List Fr)(x:X)(s:S):XP:=DF C ks (.out x) s
noncomputable def YE(C:ZE)(ks:List Fr)(os:List MO)(keep:V2)(s:S):XP:=DF C ks (.ops os keep) s
noncomputable def EJ(C:ZE)(ks:List Fr)(os:List MO)(keep:V2)(s:S):XP:=DF C ks (.opsF os keep) s
noncomputable def Pc(C:ZE)(ks:List Fr)(os:List MO)(Aw:List AN)(before:List (V2))(keep:V2)(s:S):XP:=DF C ks (.drw os Aw before keep) s
noncomputable def EvL(C:ZE)(ks:List Fr)(keep:V2)(b:Za)(s:S):XP:=Ev C (.loop keep b::ks) b s
noncomputable def EvS(C:ZE)(ks:List Fr)(os:List MO)(keep:V2):Option S->XP
 |some s=>YE C ks os keep s
 |none=>none
noncomputable def YF(C:ZE)(ks:List Fr)(os:List MO)(keep:V2):Option S->XP
 |some s=>EJ C ks os keep s
 |none=>none
noncomputable def EvF(C:ZE)(ks:List Fr)(os:List MO)(Aw:List AN)(before:List (V2))(keep:V2):Option (AN×S)->XP
 |some (f,s)=>Pc C ks os (Aw++[f]) before keep s
 |none=>none
noncomputable def EvC(C:ZE)(ks:List Fr)(x y:Za)(s:S):AV->XP
 |.t (.bool b)=>if b=true then Ev C ks x s else Ev C ks y s
 |_=>none
section
variable{C:ZE}{ks:List Fr}{s:S}{a b x y:Za}{os:List MO}{o:MO}{keep:V2}{id i:Nat}{Aw:List AN}{before:List (V2)}{k:Nat}{rs:List Cp}
theorem FE:Ev C ks .skip s=BO C ks .n s:=Wh rfl
theorem IX:Ev C ks (.reg os keep) s=YE C ks os keep s:=Wh rfl
theorem FF:Ev C ks (.regF os keep) s=EJ C ks os keep s:=Wh rfl
theorem IY:Ev C ks (.drw os before keep) s=Pc C ks os [] before keep s:=Wh rfl
theorem FG:Ev C ks (.drwF os before keep) s=Pc C ks os [] before keep (TE os s):=Wh rfl
theorem IZ:Ev C ks (.seq a b) s=Ev C (.seq b::ks) a s:=Wh rfl
theorem FH{c:AO}:Ev C ks (.cond c x y) s=EvC C ks x y s (ev s.env c):=by
 unfold EvC;split
 .rename_i b hb;cases b
  .exact Wh (by simp[step,hb,Qz])
  .exact Wh (by simp[step,hb,Qz])
 .rename_i hb;refine IW ?_;simp only[step];unfold Qz;simp
theorem EK:Ev C ks (.block id b) s=Ev C (.blk id::ks) b s:=Wh rfl
theorem FI:Ev C ks (.loop keep b) s=Ev C (.loop keep b::ks) b (Qu keep s):=Wh rfl
theorem Zk{B c:Za}(hB:B=c):EvL C ks keep B s=Ev C (.loop keep B::ks) c s:=by subst hB;rfl
theorem Z1L:Ev C ks (.loop keep b) s=EvL C ks keep b (Qu keep s):=FI
theorem EL:Pc C ks [] Aw before keep s=if JF before Aw=true then BO C ks .n { s with env:=rst keep s.env } else none:=by
 split
 .rename_i h;exact Wh (by simp[step,h])
 .rename_i h;exact IW (by simp[step,h])
theorem FJ:Ev C ks (.exit id) s=BO C ks (.x id) s:=Wh rfl
theorem I0:Ev C ks .ret s=BO C ks .r s:=Wh rfl
theorem FK:YE C ks [] keep s=BO C ks .n { s with env:=rst keep s.env }:=Wh rfl
theorem EM:YE C ks (o::os) keep s=EvS C ks os keep (Cl C o s):=by
 cases h:Cl C o s with
 |some s'=>exact Wh (by simp[step,h,Ct])
 |none =>
  show DF C ks (.ops (o::os) keep) s=none;exact IW (by simp[step,h,Ct])
theorem EN:EJ C ks [] keep s=BO C ks .n { s with env:=rst keep s.env }:=Wh rfl
theorem ZCD:EJ C ks (o::os) keep s=YF C ks os keep (Cl C o (fzO o s)):=by
 cases h:Cl C o (fzO o s)with
 |some s'=>exact Wh (by simp[step,h,Pb])
 |none =>
  show DF C ks (.opsF (o::os) keep) s=none;exact IW (by simp[step,h,Pb])
theorem ZCE:YF C ks os keep (some s)=EJ C ks os keep s:=rfl
theorem EO:EvS C ks os keep (some s)=YE C ks os keep s:=rfl
theorem EP:Pc C ks (o::os) Aw before keep s=EvF C ks os Aw before keep (Da C o s):=by
 cases h:Da C o s with
 |some p=>obtain⟨f,s'⟩:=p;exact Wh (by simp[step,h,Wx])
 |none =>
  show DF C ks (.drw (o::os) Aw before keep) s=none;exact IW (by simp[step,h,Wx])
theorem EQ{f:AN}:EvF C ks os Aw before keep (some (f,s))=Pc C ks os (Aw++[f]) before keep s:=rfl
theorem ER{v:Bool}:EvC C ks x y s (.t (.bool v))=if v=true then Ev C ks x s else Ev C ks y s:=rfl
theorem ZCF:BO C (.fin k rs::ks) .n s=Db k rs s:=IW rfl
theorem ZCG:BO C (.fin k rs::ks) .r s=Db k rs s:=IW rfl
theorem ZCH:BO C (.seq b::ks) .n s=Ev C ks b s:=Wh rfl
theorem ZCI:BO C (.seq b::ks) (.x i) s=BO C ks (.x i) s:=Wh rfl
theorem ZCJ:BO C (.seq b::ks) .r s=BO C ks .r s:=Wh rfl
theorem ZCK:BO C (.blk id::ks) .n s=BO C ks .n s:=Wh rfl
theorem ZCL:BO C (.blk id::ks) (.x i) s=if i=id then BO C ks .n s else BO C ks (.x i) s:=by
 split
 .rename_i h;exact Wh (by simp[step,h])
 .rename_i h;exact Wh (by simp[step,h])
theorem ZCM:BO C (.blk id::ks) .r s=BO C ks .r s:=Wh rfl
theorem ZCN:BO C (.loop keep b::ks) .n s=Ev C ks (.loop keep b) s:=Wh rfl
theorem ZCO:BO C (.loop keep b::ks) .n s=EvL C ks keep b (Qu keep s):=by rw[ZCN,Z1L]
theorem ZCP:BO C (.loop keep b::ks) (.x i) s=BO C ks (.x i) s:=Wh rfl
theorem ZCQ:BO C (.loop keep b::ks) .r s=BO C ks .r s:=Wh rfl
end
noncomputable def Wn(X:ZE)(Af:Nat->Option Ab):Nat->ZE
 |0=>λ_ _ _=>none
 |n+1=>λf as h0=>match Af f with
  |some m=>if as.length=m.np then runN (Wn X Af n) n [.fin h0.length m.res] (.code m.body) ⟨Kx as 0,[QQ h0 0],h0⟩else none
  |none=>X f as h0
def ES(C C':ZE):Prop:=∀f as h0 r,C f as h0=some r->C' f as h0=some r
theorem sT{h:WM}{x:AV}{q:Option (AV×List (Nat×Ax))}{v:AV}{u:List (Nat×Ax)}(hp:Dv h x q=some (v,u)):∃u1 u2,q=some (v,u1)/\QM h u1 x=some u2/\u=u1++u2:=by
 cases q with
 |none=>cases hp
 |some p =>
  obtain⟨v1,u1⟩:=p;simp only[Dv]at hp
  cases hx:QM h u1 x with
  |none=>rw[hx]at hp;cases hp
  |some u2=>rw[hx]at hp;cases hp;exact⟨u1,u2,rfl,hx,rfl⟩
theorem Z1M{C C':ZE}(h:ES C C'){k:AY}{s:S}{p:AV×List (Nat×Ax)}(hr:A5 C k s=some p):A5 C' k s=some p:=by
 have m:∀f vs ids,UJ C f vs s.h s.h.length ids=some p->UJ C' f vs s.h s.h.length ids=some p:=by
  intro f vs ids hr;unfold UJ at hr|-;split at hr
  .rename_i hc;rw[Ya hc]
   cases hx:C f (BJ ids vs) (AW s.h ids)with
   |none=>rw[hx]at hr;cases hr
   |some q=>rw[h _ _ _ _ hx];rw[hx]at hr;exact hr
  .cases hr
 cases k<;>first|exact hr|skip
 .rename_i f args;simp only[A5]at hr|-
  cases hf:AG s.h (args.map (ev s.env))with
  |none=>rw[hf]at hr;cases hr
  |some as =>
   rw[hf]at hr;simp only[Cs]at hr|-
   cases hx:C f as []with
   |none=>rw[hx]at hr;cases hr
   |some q=>rw[h _ _ _ _ hx];rw[hx]at hr;exact hr
 .rename_i f args;simp only[A5]at hr|-
  cases hf:AG s.h (args.map (ev s.env))with
  |none=>rw[hf]at hr;cases hr
  |some as =>
   rw[hf]at hr;simp only[O7]at hr|-
   cases hx:C f as []with
   |none=>rw[hx]at hr;cases hr
   |some q=>rw[h _ _ _ _ hx];rw[hx]at hr;exact hr
 .rename_i f args;simp only[A5]at hr|-
  cases hf:AG s.h (args.map (ev s.env))with
  |none=>rw[hf]at hr;cases hr
  |some as =>
   rw[hf]at hr;simp only[O8]at hr|-;split at hr
   .rename_i hno;rw[Ya hno]
    cases hx:C f as []with
    |none=>rw[hx]at hr;cases hr
    |some q=>rw[h _ _ _ _ hx];rw[hx]at hr;exact hr
   .cases hr
 .exact m _ _ _ hr
 .rename_i f args p';simp only[A5]at hr|-;obtain⟨v,u⟩:=p;obtain⟨u1,u2,q1,q2,rfl⟩:=sT hr;have m':∀p f vs ids,UJ C f vs s.h s.h.length ids=some p->UJ C' f vs s.h s.h.length ids=some p:=by
   intro p f vs ids hr;unfold UJ at hr|-;split at hr
   .rename_i hc;rw[Ya hc]
    cases hx:C f (BJ ids vs) (AW s.h ids)with
    |none=>rw[hx]at hr;cases hr
    |some q=>rw[h _ _ _ _ hx];rw[hx]at hr;exact hr
   .cases hr
  grind
 .rename_i f args;simp only[A5,O9]at hr|-;split at hr
  .rename_i hc;rw[Ya hc]
   cases hx:C f (BJ (ZN s.h (args.map (ev s.env))) (args.map (ev s.env))) (AW s.h (ZN s.h (args.map (ev s.env))))with
   |none=>rw[hx]at hr;cases hr
   |some q=>rw[h _ _ _ _ hx];rw[hx]at hr;exact hr
  .cases hr
 .rename_i x args;simp only[A5]at hr|-;unfold Pa at hr|-
  grind
theorem Z1N{C C':ZE}(h:ES C C'){o:MO}{s s':S}(hr:B5 C o s=some s'):B5 C' o s=some s':=by
 unfold B5 at hr|-
 cases hx:A5 C o.op s with
 |none=>rw[hx]at hr;cases hr
 |some p=>rw[Z1M h hx];rw[hx]at hr;exact hr
theorem Z1O{C C':ZE}(h:ES C C'){o:MO}{s:S}{s':AN×S}(hr:B6 C o s=some s'):B6 C' o s=some s':=by
 unfold B6 at hr|-
 cases hx:A5 C o.op s with
 |none=>rw[hx]at hr;cases hr
 |some p=>rw[Z1M h hx];rw[hx]at hr;exact hr
theorem Z1P{C C':ZE}(h:ES C C'){o:MO}{s s':S}(hr:Cl C o s=some s'):Cl C' o s=some s':=by
 unfold Cl at hr|-
 cases hg:o.guard with
 |none=>simp only[hg]at hr|-;exact Z1N h hr
 |some p =>
  obtain⟨g,want⟩:=p;simp only[hg]at hr|-;unfold YC at hr|-
  grind [Z1N]
theorem ET{C C':ZE}(h:ES C C'){o:MO}{s:S}{s':AN×S}(hr:Da C o s=some s'):Da C' o s=some s':=by
 unfold Da at hr|-
 cases hg:o.guard with
 |none=>simp only[hg]at hr|-;exact Z1O h hr
 |some p =>
  obtain⟨g,want⟩:=p;simp only[hg]at hr|-;unfold YD at hr|-
  grind [Z1O]
theorem ZqU{C C':ZE}(h:ES C C'){ks:List Fr}{cf:Cf}{s:S}:(∀c,step C ks cf s=.inl c->step C' ks cf s=.inl c)/\∀r,step C ks cf s=.inr (some r)->step C' ks cf s=.inr (some r):=by
 have key:(∃o os keep,cf=.ops (o::os) keep)\/(∃o os Aw before keep,cf=.drw (o::os) Aw before keep)\/(∃o os keep,cf=.opsF (o::os) keep)\/step C ks cf s=step C' ks cf s:=by
  cases cf with
  |code c=>cases c<;>exact .inr (.inr (.inr rfl))
  |ops os keep =>
   cases os with
   |nil=>exact .inr (.inr (.inr rfl))
   |cons o os=>exact .inl ⟨o,os,keep,rfl⟩
  |opsF os keep =>
   cases os with
   |nil=>exact .inr (.inr (.inr rfl))
   |cons o os=>exact .inr (.inr (.inl ⟨o,os,keep,rfl⟩))
  |drw os Aw before keep =>
   cases os with
   |nil=>exact .inr (.inr (.inr rfl))
   |cons o os=>exact .inr (.inl ⟨o,os,Aw,before,keep,rfl⟩)
  |out x =>
   refine .inr (.inr (.inr ?_))
   cases ks with
   |nil=>rfl
   |cons k ks=>cases k<;>cases x<;>rfl
 rcases key with⟨o,os,keep,rfl⟩|⟨o,os,Aw,before,keep,rfl⟩|⟨o,os,keep,rfl⟩|he
 .simp only[step]
  cases hx:Cl C o s with
  |none=>simp[Ct]
  |some s'=>rw[Z1P h hx];exact⟨λ_ h=>h,λ_ h=>h⟩
 .simp only[step]
  cases hx:Da C o s with
  |none=>simp[Wx]
  |some s'=>rw[ET h hx];exact⟨λ_ h=>h,λ_ h=>h⟩
 .simp only[step]
  cases hx:Cl C o (fzO o s)with
  |none=>simp[Pb]
  |some s'=>rw[Z1P h hx];exact⟨λ_ h=>h,λ_ h=>h⟩
 .simp_all
theorem YG{C C':ZE}(h:ES C C'):∀(n:Nat) {ks:List Fr} {cf:Cf} {s:S} {r:XS},runN C n ks cf s=some r->runN C' n ks cf s=some r
 |0,_,_,_,_,hr=>by cases hr
 |n+1,ks,cf,s,r,hr=>by
  simp only[runN]at hr|-;split at hr
  .rename_i h1;rw[(ZqU h).1 _ h1];exact YG h n hr
  .rename_i h1;subst hr;rw[(ZqU h).2 _ h1]
theorem Z1Q{X:ZE}{Af:Nat->Option Ab}:∀n,ES (Wn X Af n) (Wn X Af (n+1))
 |0=>λ_ _ _ _ h=>by cases h
 |n+1=>λf as h0 r h=>by
  simp only[Wn]at h;rw[Wn]
  cases hm:Af f with
  |none=>simp only[hm]at h|-;exact h
  |some m =>
   simp only[hm]at h|-;split at h
   .rename_i hl;rw[Ya hl];exact sS _ (YG (Z1Q n) n h) (Nat.le_succ n)
   .cases h
theorem YH{X:ZE}{Af:Nat->Option Ab}{n m:Nat}(h:n<=m):ES (Wn X Af n) (Wn X Af m):=by
 induction h with
 |refl=>exact λ_ _ _ _ h=>h
 |step _ ih=>exact λf as h0 r h=>Z1Q _ f as h0 r (ih f as h0 r h)
theorem ZCR{X:ZE}{Af:Nat->Option Ab}{f:Nat}{as:XQ}{h0:WM}(n m:Nat)(r r':XS)(h:Wn X Af n f as h0=some r)(h':Wn X Af m f as h0=some r'):r=r':=by
 have h1:=YH (Nat.le_max_left n m) f as h0 r h;have h2:=YH (Nat.le_max_right n m) f as h0 r' h'
 simp_all
noncomputable def W6(X:ZE)(Af:Nat->Option Ab):ZE:=λf as h0=>lim λn=>Wn X Af n f as h0
theorem Z1R{X:ZE}{Af:Nat->Option Ab}(n:Nat):ES (Wn X Af n) (W6 X Af):=λ_ _ _ _ h=>EI (λn m r r' h h'=>ZCR n m r r' h h') h
theorem Z1S{X:ZE}{Af:Nat->Option Ab}{k:AY}{s:S}{p:AV×List (Nat×Ax)}(hr:A5 (W6 X Af) k s=some p):∃n,A5 (Wn X Af n) k s=some p:=by
 have m:∀p f vs ids,UJ (W6 X Af) f vs s.h s.h.length ids=some p->∃n,UJ (Wn X Af n) f vs s.h s.h.length ids=some p:=by
  intro p f vs ids hr;unfold UJ at hr|-;split at hr
  .rename_i hc
   cases hx:W6 X Af f (BJ ids vs) (AW s.h ids)with
   |none=>rw[hx]at hr;cases hr
   |some q =>
    obtain⟨n,hn⟩:=IV hx
    grind
  .cases hr
 cases k<;>first|exact⟨0,hr⟩|skip
 .rename_i f args;simp only[A5]at hr|-
  cases hf:AG s.h (args.map (ev s.env))with
  |none=>rw[hf]at hr;cases hr
  |some as =>
   rw[hf]at hr;simp only[Cs]at hr|-
   cases hx:W6 X Af f as []with
   |none=>rw[hx]at hr;cases hr
   |some q =>
    obtain⟨n,hn⟩:=IV hx
    grind
 .rename_i f args;simp only[A5]at hr|-
  cases hf:AG s.h (args.map (ev s.env))with
  |none=>rw[hf]at hr;cases hr
  |some as =>
   rw[hf]at hr;simp only[O7]at hr|-
   cases hx:W6 X Af f as []with
   |none=>rw[hx]at hr;cases hr
   |some q =>
    obtain⟨n,hn⟩:=IV hx
    grind
 .rename_i f args;simp only[A5]at hr|-
  cases hf:AG s.h (args.map (ev s.env))with
  |none=>rw[hf]at hr;cases hr
  |some as =>
   rw[hf]at hr;simp only[O8]at hr|-;split at hr
   .rename_i hno;simp only[Ya hno]
    cases hx:W6 X Af f as []with
    |none=>rw[hx]at hr;cases hr
    |some q =>
     obtain⟨n,hn⟩:=IV hx
     grind
   .cases hr
 .exact m _ _ _ _ hr
 .rename_i f args p';simp only[A5]at hr|-
  grind [sT]
 .rename_i f args;simp only[A5,O9]at hr|-;split at hr
  .rename_i hc
   cases hx:W6 X Af f (BJ (ZN s.h (args.map (ev s.env))) (args.map (ev s.env))) (AW s.h (ZN s.h (args.map (ev s.env))))with
   |none=>rw[hx]at hr;cases hr
   |some q =>
    obtain⟨n,hn⟩:=IV hx
    grind
  .cases hr
 .rename_i x args;simp only[A5]at hr|-;unfold Pa at hr|-;split at hr
  .exact m _ _ _ _ hr
  .cases hr
theorem Z1T{X:ZE}{Af:Nat->Option Ab}{o:MO}{s s':S}(hr:B5 (W6 X Af) o s=some s'):∃n,B5 (Wn X Af n) o s=some s':=by
 unfold B5 at hr|-
 cases hx:A5 (W6 X Af) o.op s with
 |none=>rw[hx]at hr;cases hr
 |some p =>
  grind [Z1S]
theorem Z1U{X:ZE}{Af:Nat->Option Ab}{o:MO}{s:S}{s':AN×S}(hr:B6 (W6 X Af) o s=some s'):∃n,B6 (Wn X Af n) o s=some s':=by
 unfold B6 at hr|-
 cases hx:A5 (W6 X Af) o.op s with
 |none=>rw[hx]at hr;cases hr
 |some p =>
  grind [Z1S]
theorem Z1V{X:ZE}{Af:Nat->Option Ab}{o:MO}{s s':S}(hr:Cl (W6 X Af) o s=some s'):∃n,Cl (Wn X Af n) o s=some s':=by
 unfold Cl at hr|-
 cases hg:o.guard with
 |none=>simp only[hg]at hr|-;exact Z1T hr
 |some p =>
  obtain⟨g,want⟩:=p;simp only[hg]at hr|-;unfold YC at hr|-;split at hr
  .split at hr
   .simp_all [Z1T]
   .simp_all
  .exact⟨0,hr⟩
  .cases hr
theorem FL{X:ZE}{Af:Nat->Option Ab}{o:MO}{s:S}{s':AN×S}(hr:Da (W6 X Af) o s=some s'):∃n,Da (Wn X Af n) o s=some s':=by
 unfold Da at hr|-
 cases hg:o.guard with
 |none=>simp only[hg]at hr|-;exact Z1U hr
 |some p =>
  obtain⟨g,want⟩:=p;simp only[hg]at hr|-;unfold YD at hr|-;split at hr
  .split at hr
   .simp_all [Z1U]
   .simp_all
  .exact⟨0,hr⟩
  .cases hr
theorem Z1W{X:ZE}{Af:Nat->Option Ab}{ks:List Fr}{cf:Cf}{s:S}{c:Step}(hc:c≠.inr none)(h:step (W6 X Af) ks cf s=c):∃n,step (Wn X Af n) ks cf s=c:=by
 have key:(∃o os keep,cf=.ops (o::os) keep)\/(∃o os Aw before keep,cf=.drw (o::os) Aw before keep)\/(∃o os keep,cf=.opsF (o::os) keep)\/step (Wn X Af 0) ks cf s=step (W6 X Af) ks cf s:=by
  cases cf with
  |code c=>cases c<;>exact .inr (.inr (.inr rfl))
  |ops os keep =>
   cases os with
   |nil=>exact .inr (.inr (.inr rfl))
   |cons o os=>exact .inl ⟨o,os,keep,rfl⟩
  |opsF os keep =>
   cases os with
   |nil=>exact .inr (.inr (.inr rfl))
   |cons o os=>exact .inr (.inr (.inl ⟨o,os,keep,rfl⟩))
  |drw os Aw before keep =>
   cases os with
   |nil=>exact .inr (.inr (.inr rfl))
   |cons o os=>exact .inr (.inl ⟨o,os,Aw,before,keep,rfl⟩)
  |out x =>
   refine .inr (.inr (.inr ?_))
   cases ks with
   |nil=>rfl
   |cons k ks=>cases k<;>cases x<;>rfl
 rcases key with⟨o,os,keep,rfl⟩|⟨o,os,Aw,before,keep,rfl⟩|⟨o,os,keep,rfl⟩|he
 .simp only[step]at h|-
  cases hx:Cl (W6 X Af) o s with
  |none=>rw[hx]at h;exact absurd h.symm hc
  |some s' =>
   grind [Z1V]
 .simp only[step]at h|-
  cases hx:Da (W6 X Af) o s with
  |none=>rw[hx]at h;exact absurd h.symm hc
  |some s' =>
   grind [FL]
 .simp only[step]at h|-
  cases hx:Cl (W6 X Af) o (fzO o s)with
  |none=>rw[hx]at h;exact absurd h.symm hc
  |some s' =>
   grind [Z1V]
 .grind
theorem Z1X{X:ZE}{Af:Nat->Option Ab}:∀(n:Nat) {ks:List Fr} {cf:Cf} {s:S} {r:XS},runN (W6 X Af) n ks cf s=some r->∃k,runN (Wn X Af k) n ks cf s=some r
 |0,_,_,_,_,h=>by cases h
 |n+1,ks,cf,s,r,h=>by
  simp only[runN]at h;split at h
  .rename_i ks' cf' s' h1;obtain⟨k,hk⟩:=Z1W (by intro hc;cases hc) h1;obtain⟨k2,hk2⟩:=Z1X n h;refine⟨max k k2,?_⟩;simp only[runN];rw[(ZqU (YH (Nat.le_max_left k k2))).1 _ hk];exact YG (YH (Nat.le_max_right k k2)) n hk2
  .rename_i h1;subst h;obtain⟨k,hk⟩:=Z1W (by intro hc;cases hc) h1;exact⟨k,by simp only[runN,hk]⟩
theorem Z1Y{X:ZE}{Af:Nat->Option Ab}{f:Nat}{as:XQ}{h0:WM}{m:Ab}(ht:Af f=some m)(hl:as.length=m.np){r:XS}(h:Ev (W6 X Af) [.fin h0.length m.res] m.body ⟨Kx as 0,[QQ h0 0],h0⟩=some r):W6 X Af f as h0=some r:=by
 obtain⟨n,hn⟩:=Z1K h;obtain⟨k,hk⟩:=Z1X n hn;refine Z1R (max n k+1) f as h0 r ?_;simp only[Wn,ht,hl,if_true];exact sS n (YG (YH (Nat.le_max_right n k)) n hk) (Nat.le_max_left n k)
theorem ZCS{p:Nat->Prop}(h:∃n,p n):∃n,p n/\∀m,p m->n<=m:=by
 obtain⟨n,hn⟩:=h
 induction n using Nat.strongRecOn with
 |ind n ih =>
  grind
section
variable{Γ:CV}{C:ZE}{s s':S}{o:MO}{f nx:Nat}{h:WM}{v:AV}{u:List (Nat×Ax)}{K K':S->Prop}{args vs:XQ}{r:XS}
def Qf(C:ZE)(r:XS)(m:Nat)(ks:List Fr):X->S->Prop:=λx s=>∃k,k<m/\runN C k ks (.out x) s=some r
theorem Z1Z(hK:∀s,K s->K' s)(h:Bm Γ o s K):Bm Γ o s K':=by
 unfold Bm at h|-;split at h
 .grind
 .grind
 .grind
 .obtain⟨h1,r,h2,h3,h4⟩:=h;exact⟨h1,r,h2,h3,hK _ h4⟩
 .obtain⟨h1,r,h2,h3,u2,h4,h5⟩:=h;exact⟨h1,r,h2,h3,u2,h4,hK _ h5⟩
 .obtain⟨h1,r,h2,h3,h4⟩:=h;exact⟨h1,r,h2,h3,hK _ h4⟩
 .split at h
  .obtain⟨h1,r,h2,h3,h4⟩:=h;exact⟨h1,r,h2,h3,hK _ h4⟩
  .exact h.elim
 .grind
theorem Z2a(hK:∀s,K s->K' s)(h:D2 Γ o s K):D2 Γ o s K':=by
 unfold D2 at h|-;split at h
 .exact Z1Z hK h
 .grind [Z1Z]
theorem sU:∀(os:List MO) {s:S} {K K':S->Prop},(∀s,K s->K' s)->Ci Γ os s K->Ci Γ os s K'
 |[],_,_,_,hK,h=>hK _ h
 |_::os,_,_,_,hK,h=>Z2a (λ_ h'=>sU os hK h') h
theorem sV:∀(os:List MO) {s:S} {K K':S->Prop},(∀s,K s->K' s)->KS Γ os s K->KS Γ os s K'
 |[],_,_,_,hK,h=>hK _ h
 |_::os,_,_,_,hK,h=>Z2a (λ_ h'=>sV os hK h') h
theorem Z2b{K K':AN->S->Prop}(hK:∀f s,K f s->K' f s)(h:Um Γ o s K):Um Γ o s K':=by
 unfold Um at h|-;split at h
 .grind
 .grind
 .grind
 .obtain⟨h1,r,h2,h3,u2,h4,h5⟩:=h;exact⟨h1,r,h2,h3,u2,h4,hK _ _ h5⟩
 .obtain⟨h1,r,h2,h3,h4⟩:=h;exact⟨h1,r,h2,h3,hK _ _ h4⟩
 .obtain⟨h1,r,h2,h3,h4⟩:=h;exact⟨h1,r,h2,h3,hK _ _ h4⟩
 .split at h
  .obtain⟨h1,r,h2,h3,h4⟩:=h;exact⟨h1,r,h2,h3,hK _ _ h4⟩
  .exact h.elim
 .grind
theorem ZCT{K K':AN->S->Prop}(hK:∀f s,K f s->K' f s)(h:CN Γ o s K):CN Γ o s K':=by
 unfold CN at h|-;split at h
 .exact Z2b hK h
 .grind [Z2b]
theorem Pd:∀(os:List MO) {s:S} {Aw:List AN} {K K':List AN->S->Prop},(∀f s,K f s->K' f s)->CO Γ os s Aw K->CO Γ os s Aw K'
 |[],_,_,_,_,hK,h=>hK _ _ h
 |_::os,_,_,_,_,hK,h=>ZCT (λ_ _ h'=>Pd os hK h') h
theorem Q0:∀(c:Za) {s:S} {Q Q':X->S->Prop},(∀x s,Q x s->Q' x s)->Wc Γ c Q s->Wc Γ c Q' s
 |.skip,_,_,_,hQ,h=>hQ _ _ h
 |.reg os _,_,_,_,hQ,h=>sU os (λ_ h'=>hQ _ _ h') h
 |.regF os _,_,_,_,hQ,h=>sV os (λ_ h'=>hQ _ _ h') h
 |.drw os _ _,_,_,_,hQ,h=>Pd os (λ_ _ h'=>⟨h'.1,hQ _ _ h'.2⟩) h
 |.drwF os _ _,_,_,_,hQ,h=>Pd os (λ_ _ h'=>⟨h'.1,hQ _ _ h'.2⟩) h
 |.seq a b,_,_,_,hQ,h=>Q0 a (λx s' h'=>by cases x with|n=>exact Q0 b hQ h'|x i=>exact hQ _ _ h'|r=>exact hQ _ _ h') h
 |.cond c x y,s,_,_,hQ,h=>by
  unfold Wc at h|-;split at h
  .split at h
   .rename_i hb;simp only[hb,if_true];exact Q0 x hQ h
   .rename_i hb;simp only[hb];exact Q0 y hQ h
  .exact h.elim
 |.block id b,_,_,_,hQ,h=>Q0 b (λx s' h'=>by
   cases x with
   |n=>exact hQ _ _ h'
   |x i=>simp only at h'|-;split at h'<;>rename_i hi<;>simp only[hi,if_true,if_false]<;>exact hQ _ _ h'
   |r=>exact hQ _ _ h') h
 |.loop keep b,_,_,_,hQ,h=>by
  obtain⟨I,μ,h0,hr⟩:=h;refine⟨I,μ,h0,λs hs=>Q0 b (λx s' h'=>?_) (hr s hs)⟩
  cases x with
  |n=>exact h'
  |x i=>exact hQ _ _ h'
  |r=>exact hQ _ _ h'
 |.exit _,_,_,_,hQ,h=>hQ _ _ h
 |.ret,_,_,_,hQ,h=>hQ _ _ h
theorem Z2c(hC:∀f as h0 r hr,C f as h0=some (r,hr)->Γ f as h0 r hr)(hr:Cs C f args nx (AG h args)=some (v,u)) :
  ∃as,AG h args=some as/\∃r hr,Γ f as [] r hr/\(UF args || CH r hr)=true/\v=shift nx r/\u=AH nx hr 0:=by
 cases hf:AG h args with
 |none=>rw[hf]at hr;cases hr
 |some as =>
  rw[hf]at hr;simp only[Cs]at hr
  cases hc:C f as []with
  |none=>rw[hc]at hr;cases hr
  |some p =>
   obtain⟨r,hr'⟩:=p;rw[hc]at hr;simp only[EF]at hr
   grind
theorem Pe(hC:∀f as h0 r hr,C f as h0=some (r,hr)->Γ f as h0 r hr)(hr:UJ C f vs h nx (ZN h vs)=some (v,u)){K:AV->List (Nat×Ax)->Prop}(hK:K v u):WP Γ f vs h nx K:=by
 unfold UJ at hr;split at hr
 .rename_i hc
  cases hx:C f (BJ (ZN h vs) vs) (AW h (ZN h vs))with
  |none=>rw[hx]at hr;cases hr
  |some p =>
   obtain⟨r,h1⟩:=p;rw[hx]at hr;cases hr;exact⟨hc,r,h1,hC _ _ _ _ _ hx,hK⟩
 .cases hr
theorem Z2d(hC:∀f as h0 r hr,C f as h0=some (r,hr)->Γ f as h0 r hr)(hr:O9 C f vs h nx (ZN h vs)=some (v,u)){K:AV->List (Nat×Ax)->Prop}(hK:K v u):KR Γ f vs h nx K:=by
 unfold O9 at hr;split at hr
 .rename_i hc
  cases hx:C f (BJ (ZN h vs) vs) (AW h (ZN h vs))with
  |none=>rw[hx]at hr;cases hr
  |some p =>
   obtain⟨r,h1⟩:=p;rw[hx]at hr;simp only[C9]at hr;split at hr
   .rename_i ht;cases hr;refine⟨hc,r,h1.drop (ZN h vs).length,?_,hK⟩
    grind [List.take_append_drop]
   .cases hr
 .cases hr
theorem Z2e(hC:∀f as h0 r hr,C f as h0=some (r,hr)->Γ f as h0 r hr)(hr:O7 C f nx (AG h args)=some (v,u)) :
  ∃as,AG h args=some as/\∃r hr,Γ f as [] r hr/\CH r hr=true/\v=shift nx r/\u=AH nx (hr.map xB) 0:=by
 cases hf:AG h args with
 |none=>rw[hf]at hr;cases hr
 |some as =>
  rw[hf]at hr;simp only[O7]at hr
  cases hc:C f as []with
  |none=>rw[hc]at hr;cases hr
  |some p =>
   obtain⟨r,hr'⟩:=p;rw[hc]at hr;simp only[C7]at hr
   grind
theorem Z2f(hC:∀f as h0 r hr,C f as h0=some (r,hr)->Γ f as h0 r hr)(hr:O8 C f args (AG h args)=some (v,u)) :
  ∃as,AG h args=some as/\UF args=true/\∃r hr,Γ f as [] r hr/\Cu hr r=some v/\u=[]:=by
 cases hf:AG h args with
 |none=>rw[hf]at hr;cases hr
 |some as =>
  rw[hf]at hr;simp only[O8]at hr;split at hr
  .rename_i hno
   cases hc:C f as []with
   |none=>rw[hc]at hr;cases hr
   |some p =>
    obtain⟨r,hr'⟩:=p;rw[hc]at hr;simp only[C8]at hr
    grind
  .cases hr
theorem Z2g(hC:∀f as h0 r hr,C f as h0=some (r,hr)->Γ f as h0 r hr)(h:B5 C o s=some s')(hK:K s'):Bm Γ o s K:=by
 unfold B5 at h
 cases hv:A5 C o.op s with
 |none=>rw[hv]at h;cases h
 |some p =>
  obtain⟨v,u⟩:=p;rw[hv]at h;cases h;unfold Bm;cases ho:o.op<;>simp only[ho,A5]at hv|-<;>try (rw[hv];exact hK)
  .obtain⟨as,h1,r,hr,h2,h3,rfl,rfl⟩:=Z2c hC hv
   grind
  .obtain⟨as,h1,r,hr,h2,h3,rfl,rfl⟩:=Z2e hC hv
   grind
  .obtain⟨as,h1,hno,r,hr,h2,h3,rfl⟩:=Z2f hC hv
   grind
  .exact Pe hC hv hK
  .grind [sT,Pe]
  .exact Z2d hC hv hK
  .unfold Pa at hv
   grind [Pe]
theorem Z2h(hC:∀f as h0 r hr,C f as h0=some (r,hr)->Γ f as h0 r hr)(h:Cl C o s=some s')(hK:K s'):D2 Γ o s K:=by
 unfold Cl at h;unfold D2
 cases hg:o.guard with
 |none=>simp only[hg]at h|-;exact Z2g hC h hK
 |some p =>
  obtain⟨g,want⟩:=p;simp only[hg]at h|-;unfold YC at h;split at h
  .rename_i b hb;rw[hb];simp only;split at h
   .grind [Z2g]
   .rename_i hb;rw[Yb hb];cases h;exact hK
  .rename_i hb;rw[hb];cases h;exact hK
  .cases h
theorem Z2i(hC:∀f as h0 r hr,C f as h0=some (r,hr)->Γ f as h0 r hr){f:AN}(h:B6 C o s=some (f,s')){K:AN->S->Prop}(hK:K f s'):Um Γ o s K:=by
 unfold B6 at h
 cases hv:A5 C o.op s with
 |none=>rw[hv]at h;cases h
 |some p =>
  obtain⟨v,u⟩:=p;rw[hv]at h;cases h;unfold Um;cases ho:o.op<;>simp only[ho,A5]at hv|-<;>try (rw[hv];exact hK)
  .obtain⟨as,h1,r,hr,h2,h3,rfl,rfl⟩:=Z2c hC hv
   grind
  .obtain⟨as,h1,r,hr,h2,h3,rfl,rfl⟩:=Z2e hC hv
   grind
  .obtain⟨as,h1,hno,r,hr,h2,h3,rfl⟩:=Z2f hC hv
   grind
  .exact Pe hC hv hK
  .grind [sT,Pe]
  .exact Z2d hC hv hK
  .unfold Pa at hv
   grind [Pe]
theorem EU(hC:∀f as h0 r hr,C f as h0=some (r,hr)->Γ f as h0 r hr){f:AN}(h:Da C o s=some (f,s')){K:AN->S->Prop}(hK:K f s'):CN Γ o s K:=by
 unfold Da at h;unfold CN
 cases hg:o.guard with
 |none=>simp only[hg]at h|-;exact Z2i hC h hK
 |some p =>
  obtain⟨g,want⟩:=p;simp only[hg]at h|-;unfold YD at h;split at h
  .rename_i b hb;rw[hb];simp only;split at h
   .grind [Z2i]
   .rename_i hb;rw[Yb hb];cases h;exact hK
  .rename_i hb;rw[hb];cases h;exact hK
  .cases h
theorem Z2j(hC:∀f as h0 r hr,C f as h0=some (r,hr)->Γ f as h0 r hr){r:XS}{keep:V2}{ks:List Fr}:∀(os:List MO) (m:Nat) (s:S),runN C m ks (.ops os keep) s=some r->
  Ci Γ os s λs'=>Qf C r m ks .n { s' with env:=rst keep s'.env }
 |_,0,_,h=>by cases h
 |[],m+1,s,h=>⟨m,E5 m,h⟩
 |o::os,m+1,s,h=>by
  simp only[runN,step]at h
  cases ho:Cl C o s with
  |none=>simp only[ho,Ct]at h;cases h
  |some s' =>
   simp only[ho,Ct]at h;exact Z2h hC ho (sU os (λs ⟨k,h1,h2⟩=>⟨k,Z,h2⟩) (Z2j hC os m s' h))
theorem Z2k(hC:∀f as h0 r hr,C f as h0=some (r,hr)->Γ f as h0 r hr){r:XS}{keep:V2}{ks:List Fr}:∀(os:List MO) (m:Nat) (s:S),runN C m ks (.opsF os keep) s=some r->
  KS Γ os s λs'=>Qf C r m ks .n { s' with env:=rst keep s'.env }
 |_,0,_,h=>by cases h
 |[],m+1,s,h=>⟨m,E5 m,h⟩
 |o::os,m+1,s,h=>by
  simp only[runN,step]at h
  cases ho:Cl C o (fzO o s)with
  |none=>simp only[ho,Pb]at h;cases h
  |some s' =>
   simp only[ho,Pb]at h;exact Z2h hC ho (sV os (λs ⟨k,h1,h2⟩=>⟨k,Z,h2⟩) (Z2k hC os m s' h))
theorem ZqV(hC:∀f as h0 r hr,C f as h0=some (r,hr)->Γ f as h0 r hr){r:XS}{before:List (V2)}{keep:V2}{ks:List Fr}:∀(os:List MO) (Aw:List AN) (m:Nat) (s:S),runN C m ks (.drw os Aw before keep) s=some r->
  CO Γ os s Aw λAw s'=>JF before Aw=true/\Qf C r m ks .n { s' with env:=rst keep s'.env }
 |_,_,0,_,h=>by cases h
 |[],Aw,m+1,s,h=>by
  simp only[runN,step]at h;split at h
  .rename_i h1;split at h1
   .rename_i ho;cases h1;exact⟨ho,m,E5 m,h⟩
   .cases h1
  .grind
 |o::os,Aw,m+1,s,h=>by
  simp only[runN,step]at h
  cases ho:Da C o s with
  |none=>simp only[ho,Wx]at h;cases h
  |some p =>
   obtain⟨f,s'⟩:=p;simp only[ho,Wx]at h;exact EU hC ho (Pd os (λ_ s ⟨h0,k,h1,h2⟩=>⟨h0,k,Z,h2⟩) (ZqV hC os _ m s' h))
theorem Pf{m:Nat}{ks:List Fr}{cf:Cf}(h:runN C m ks cf s=some r):∃k,m=k+1:=by
 cases m with
 |zero=>cases h
 |succ k=>exact⟨k,rfl⟩
open Classical in
theorem I1(hC:∀f as h0 r hr,C f as h0=some (r,hr)->Γ f as h0 r hr)(m:Nat):∀(c:Za) (ks:List Fr) (s:S),runN C m ks (.code c) s=some r->Wc Γ c (Qf C r m ks) s:=by
 induction m using Nat.strongRecOn with
 |ind m ih =>
  intro c ks s h;obtain⟨m,rfl⟩:=Pf h
  cases c with
  |skip=>exact⟨m,E5 m,h⟩
  |reg os keep=>exact sU os (λs ⟨k,h1,h2⟩=>⟨k,Z,h2⟩) (Z2j hC os m s h)
  |regF os keep=>exact sV os (λs ⟨k,h1,h2⟩=>⟨k,Z,h2⟩) (Z2k hC os m s h)
  |drw os before keep=>exact Pd os (λ_ s ⟨h0,k,h1,h2⟩=>⟨h0,k,Z,h2⟩) (ZqV hC os [] m s h)
  |drwF os before keep=>exact Pd os (λ_ s ⟨h0,k,h1,h2⟩=>⟨h0,k,Z,h2⟩) (ZqV hC os [] m (TE os s) h)
  |seq a b =>
   refine Q0 a (λx s' hq=>?_) (ih m (E5 m) a (.seq b::ks) s h);obtain⟨k,hk,h2⟩:=hq;obtain⟨k,rfl⟩:=Pf h2
   cases x with
   |n=>exact Q0 b (λx s ⟨j,h3,h4⟩=>⟨j,Z,h4⟩) (ih k Z b ks s' h2)
   |x i=>exact⟨k,Z,h2⟩
   |r=>exact⟨k,Z,h2⟩
  |cond c x y =>
   simp only[runN,step]at h;unfold Wc;unfold Qz at h
   cases hv:ev s.env c with
   |t v =>
    simp only[hv]at h
    cases v with
    |bool b =>
     simp only at h|-;cases b
     .exact Q0 y (λx s ⟨j,h3,h4⟩=>⟨j,Z,h4⟩) (ih m (E5 m) y ks s h)
     .exact Q0 x (λx s ⟨j,h3,h4⟩=>⟨j,Z,h4⟩) (ih m (E5 m) x ks s h)
    |_=>cases h
   |_=>simp only[hv]at h;cases h
  |block id b =>
   refine Q0 b (λx s' hq=>?_) (ih m (E5 m) b (.blk id::ks) s h);obtain⟨k,hk,h2⟩:=hq;obtain⟨k,rfl⟩:=Pf h2
   cases x with
   |n=>exact⟨k,Z,h2⟩
   |x i =>
    simp only[runN,step]at h2;simp only;by_cases hi:i=id
    .simp only[hi,if_true]at h2|-;exact⟨k,Z,h2⟩
    .simp only[hi,if_false]at h2|-
     exact⟨k,Z,h2⟩
   |r=>exact⟨k,Z,h2⟩
  |loop keep b =>
   let p:S->Nat->Prop:=λt k=>k<=m/\runN C k (.loop keep b::ks) (.code b) t=some r
   let μ:S->Nat:=λt=>if hx:∃k,p t k then(ZCS hx).choose else 0
   have hμ:∀t,(∃k,p t k)->p t (μ t)/\∀k,p t k->μ t<=k:=by
    intro t hx
    grind
   refine⟨λt=>∃k,p t k,μ,⟨m,Yk m,h⟩,?_⟩;intro t ht;obtain⟨⟨h1,h2⟩,h3⟩:=hμ t ht;refine Q0 b (λx s' hq=>?_) (ih (μ t) Z b _ t h2);obtain⟨k,hk,h4⟩:=hq;obtain⟨k,rfl⟩:=Pf h4
   cases x with
   |n =>
    have h5:runN C k ks (.code (.loop keep b)) s'=some r:=h4;obtain⟨k,rfl⟩:=Pf h5;have h6:p (Qu keep s') k:=⟨Z,h5⟩
    grind
   |x i=>exact⟨k,Z,h4⟩
   |r=>exact⟨k,Z,h4⟩
  |exit id=>exact⟨m,E5 m,h⟩
  |ret=>exact⟨m,E5 m,h⟩
end
theorem Z2l{P:Program}{X:ZE}{Af:Nat->Option Ab}(hT:ED P Af)(hX:∀f as h0 r hr,X f as h0=some (r,hr)->Ww P f as h0 r hr):∀(n f:Nat) (as:XQ) (h0:WM) (r:AV) (hr:WM),Wn X Af n f as h0=some (r,hr)->Ww P f as h0 r hr
 |0,_,_,_,_,_,h=>by cases h
 |n+1,f,as,h0,r,hr,h=>by
  simp only[Wn]at h
  cases hm:Af f with
  |none=>simp only[hm]at h;exact hX f as h0 r hr h
  |some m =>
   simp only[hm]at h;split at h
   .rename_i hl;obtain⟨fn,ks,inl,h1,h2,h3⟩:=hT f m hm;have hW:=I1 (Γ:=Ww P) (Z2l hT hX n) n m.body _ _ h;refine EE h1 h3 h2 ⟨hl,?_⟩;refine Q0 m.body (λx s hq=>?_) hW;obtain⟨k,hk,h4⟩:=hq;obtain⟨k,rfl⟩:=Pf h4;have fin:Db h0.length m.res s=some (r,hr)->∀x,(∀i,x≠.x i)->BZ m.res (λv s=>rM m.res h0.length v s=some (r,hr)) x s:=by
     intro hf x hx;unfold Db at hf
     cases x with
     |x i=>exact absurd rfl (hx i)
     |n =>
      simp only[BZ]
      grind
     |r =>
      simp only[BZ]
      grind
    cases x with
    |n=>exact fin h4 _ (λi hc=>by cases hc)
    |r=>exact fin h4 _ (λi hc=>by cases hc)
    |x i=>simp only[runN,step]at h4;cases h4
   .cases h
theorem ZCU{P:Program}{X:ZE}{Af:Nat->Option Ab}(hT:ED P Af)(hX:∀f as h0 r hr,X f as h0=some (r,hr)->Ww P f as h0 r hr){f:Nat}{as:XQ}{h0:WM}{r:AV}{hr:WM}(h:W6 X Af f as h0=some (r,hr)):Ww P f as h0 r hr:=by
 obtain⟨n,hn⟩:=IV h
 grind [Z2l]
def ins(x:Nat):V2->V2
 |[]=>[x]
 |y::ys=>if x<y then x::y::ys else if x=y then y::ys else y::ins x ys
def union(a b:V2):V2:=b.foldl (λacc x=>ins x acc) a
def GY:Operand->V2
 |.tmp t=>[t]
 |_=>[]
def I2(o:Op):V2:=o.operands.toList.flatMap GY
def YI(ops:List Oper)(out:V2):V2 :=
 ops.reverse.foldl (λlive o=>union (match o.dst with|some d=>live.filter (· != d)|none=>live) (I2 o.op)) out
def FM(ops:Array Oper):V2:=ops.toList.flatMap λo=>match o.guard with
 |some (j,_)=>(match ops[j]? with|some p=>p.dst.toList|none=>[])
 |none=>[]
def YJ(f:V2->V2×List (V2)):Nat->V2->V2×List (V2)
 |0,L=>(L,L::(f L).2)
 |n+1,L=>match f L with
  |(l,k)=>if l.all (L.contains ·)then(L,L::k)else YJ f n (union L l)
def live(ret:V2)(B7:List (Nat×V2)):Code->V2->V2×List (V2)
 |.region _ ops _,out =>
  let defs:=ops.toList.flatMap λo=>o.dst.toList
  (union (YI ops.toList out) ((FM ops).filter (λg=>!defs.contains g)),[out])
 |.seq a b,out=>match live ret B7 b out with
  |(lb,kb)=>match live ret B7 a lb with
   |(la,ka)=>(la,ka++kb)
 |.cond c a b,out=>match live ret B7 a out,live ret B7 b out with
  |(la,ka),(lb,kb)=>(union (union la lb) (GY c),ka++kb)
 |.block id b,out=>live ret ((id,out)::B7) b out
 |.loop b,_=>YJ (live ret B7 b) 12 []
 |.exit id,_=>((B7.lookup id).getD [],[])
 |.ret,_=>(ret,[])
 |_,out=>(out,[])
def ZqW(fn:Func):List (V2):=match fn.body with
 |some c =>
  let rs:=fn.results.toList.foldl (λacc r=>ins (match r with|.tmp t=>t|.cell a _=>a) acc) []
  (live rs [] c rs).2
 |none=>[]
def EV(inl:V2)(f:Nat):V2:=(if inl.contains (f+10000000)then[9999994]else[])++(if inl.contains (f+11000000)then[9999993]else[])++(if inl.contains (f+12000000)then[9999992]else[])++(if inl.contains (f+9000000)then[9999995]else[])++(if inl.contains (f+8000000)then[9999996]else[])++(if inl.contains (f+6000000)then[9999997]else[])++(if inl.contains (f+5000000)then[9999998]else[])++(if inl.contains (f+4000000)then 9999999::inl else inl)
def CT(P:Program)(inl:V2)(f:Nat):Option Ab:=match P.funcs[f]? with
 |some fn=>if KT P f=true then GI P (EV inl f) (ZqW fn) fn else none
 |none=>none
theorem YK(P:Program)(inl:V2):ED P (CT P inl):=by
 intro f m h;unfold CT at h
 grind
theorem Zh{P:Program}{inl:V2}{f:Nat}{fn:Func}{m:Ab}(hf:P.funcs[f]?=some fn)(hc:KT P f=true)(h:GI P (EV inl f) (ZqW fn) fn=some m):CT P inl f=some m:=by
 unfold CT
 simp_all
def fill{α:Type}(f:α->V4)(z:V4)(xs:List α)(i:Nat):WA:=(xs.take i).map f++List.replicate (xs.length-i) z
section
variable{α:Type}{f:α->V4}{z:V4}{xs:List α}{i:Nat}
theorem EW(h:i<xs.length):(fill f z xs i)[i]?=some z:=by
 unfold fill
 grind
@[simp] theorem sW(h:i<(fill f z xs i).length):(fill f z xs i)[i]=z:=by
 have h1:i<xs.length:=by
  unfold fill at h;simp at h;omega
 have h2:=EW (f:=f) (z:=z) h1
 simp_all
end
theorem ZF{n:Int}(h1:-9223372036854775808<=n)(h2:n<=9223372036854775807):IntKind.wrap .i64 n=n:=by
 simp only[IntKind.wrap,IntKind.signed,IntKind.bits,Yl]
 grind
attribute [simp] BS OR FG TE Fi Gz CM Dp CK FF EN ZCD ZCE fzO OU BX CL TD fzVs fzS CJ Iy CI rJ E6 FE IX IY IZ FH EK FJ I0 FK EM EO EL EP EQ ER ZCF ZCG ZCH ZCI ZCJ ZCK ZCL ZCM
 ZCO Z1L ZCP ZCQ
attribute [simp] JB CG O8 C8 Cu DC O7 C7 Dv GV QM xB scal1 OS Cl B5 A5 YB YC CS Cs EF EG UJ C9 O9 Pa Da B6 GX YD Db ZN AW BJ bk XW QQ Xl QO Cq UG JD Zy ev lk put upd stB cellsOf VT AF DB A9 kill VU OQ OR BS VH VV D0 parts elems KP KQ U9
 Qs bnd BF Qt Bt JC Do AG ren rens A0 refs Z8 W5 rst scrub Ix Xp idx Kw CX Qg Qu shift AH QL UE OT CH UF rL rM CZ Qh Cv CY UH Qv DD Kx ZX flat Vg D3 QN Z4 rK
@[simp] theorem Aao(xs:V4):wk [] xs=xs:=by unfold wk;rfl
@[simp] theorem sX(cs:V4):wk cs []=[]:=by cases cs<;>(unfold wk;rfl)
@[simp] theorem sY(c x:T)(cs xs:V4):wk (c::cs) (x::xs)=Dn c x::wk cs xs:=by conv=>lhs;unfold wk
@[simp] theorem sZ(k:IntKind)(n:Int)(c:T):Dn c (.int k n)=.int k n:=by cases c<;>rfl
@[simp] theorem YL(b:Bool)(c:T):Dn c (.bool b)=.bool b:=by cases c<;>rfl
@[simp] theorem s5(b:V5)(c:T):Dn c (.str b)=.str b:=by cases c<;>rfl
@[simp] theorem s6(s:Nat)(es:WA)(c:T):Dn c (.lst s es)=.lst s es:=by cases c<;>rfl
@[simp] theorem s7(s:Nat)(es:WA):Dn (.lst s es) .nil=.lst s []:=rfl
@[simp] theorem s8(xs:V4):BU [] xs=xs.map .t:=by cases xs<;>rfl
@[simp] theorem Aca(c x:T)(cs:XQ)(xs:V4):BU (.t c::cs) (x::xs)=.t (Dn c x)::BU cs xs:=by conv=>lhs;unfold BU
@[simp] theorem s9(b:Nat)(x:T)(cs:XQ)(xs:V4):BU (.own b::cs) (x::xs)=.t x::BU cs xs:=by conv=>lhs;unfold BU
@[simp] theorem YM(cs:XQ):BU cs []=[]:=by cases cs with|nil=>rfl|cons c cs=>cases c<;>rfl
def Au(a b:Int):Int:=IntKind.wrap .i64 ((BitVec.ofInt 64 a ||| BitVec.ofInt 64 b).toNat)
def Aj(a b:Int):Int:=IntKind.wrap .i64 ((BitVec.ofInt 64 a &&& BitVec.ofInt 64 b).toNat)
def FN(a b:Int):Int:=IntKind.wrap .i64 ((BitVec.ofInt 64 a ^^^ BitVec.ofInt 64 b).toNat)
def ZA(a b:Int):Int:=IntKind.wrap .i64 ((BitVec.ofInt 64 a &&& ~~~ BitVec.ofInt 64 b).toNat)
def Ac(a b:Int):Int:=IntKind.wrap .i64 (a*2 ^ (min b.toNat 64))
def At(a b:Int):Int:=a.fdiv (2 ^ (min b.toNat 64))
@[simp] theorem Aap(a b:Int):AC .or (.int .i64 a) (.int .i64 b)=some (.int .i64 (Au a b)):=by unfold AC;exact Ya rfl
@[simp] theorem tA(a b:Int):AC .and (.int .i64 a) (.int .i64 b)=some (.int .i64 (Aj a b)):=by unfold AC;exact Ya rfl
@[simp] theorem tB(a b:Int):AC .xor (.int .i64 a) (.int .i64 b)=some (.int .i64 (FN a b)):=by unfold AC;exact Ya rfl
@[simp] theorem I3(a b:Int):AC .andNot (.int .i64 a) (.int .i64 b)=some (.int .i64 (ZA a b)):=by unfold AC;exact Ya rfl
@[simp] theorem tC(a b:Int)(k:IntKind):AC .shl (.int .i64 a) (.int k b)=if b<0 then none else some (.int .i64 (Ac a b)):=by simp[AC,Ac,IntKind.bits]
@[simp] theorem tD(a b:Int)(k:IntKind):AC .shr (.int .i64 a) (.int k b)=if b<0 then none else some (.int .i64 (At a b)):=by simp[AC,At,IntKind.bits]
@[simp] theorem tF(k:IntKind)(a b:Int):AC .add (.int k a) (.int k b)=some (.int k (k.wrap (a+b))):=by simp[AC]
@[simp] theorem tG(k:IntKind)(a b:Int):AC .sub (.int k a) (.int k b)=some (.int k (k.wrap (a-b))):=by simp[AC]
@[simp] theorem tH(k:IntKind)(a b:Int):AC .mul (.int k a) (.int k b)=some (.int k (k.wrap (a*b))):=by simp[AC]
@[simp] theorem tJ(k:IntKind)(a b:Int):AC .quo (.int k a) (.int k b)=if b=0 then none else some (.int k (k.wrap (a.tdiv b))):=by simp[AC]
@[simp] theorem tK(k:IntKind)(a b:Int):AC .rem (.int k a) (.int k b)=if b=0 then none else some (.int k (a.tmod b)):=by simp[AC]
@[simp] theorem tL(k:IntKind)(a b:Int):AC .eql (.int k a) (.int k b)=some (.bool (a == b)):=by simp[AC]
@[simp] theorem tM(k:IntKind)(a b:Int):AC .neq (.int k a) (.int k b)=some (.bool (a != b)):=by simp[AC]
@[simp] theorem tN(k:IntKind)(a b:Int):AC .lss (.int k a) (.int k b)=some (.bool (a<b)):=by simp[AC]
@[simp] theorem tO(k:IntKind)(a b:Int):AC .leq (.int k a) (.int k b)=some (.bool (a<=b)):=by simp[AC]
@[simp] theorem tP(k:IntKind)(a b:Int):AC .gtr (.int k a) (.int k b)=some (.bool (a > b)):=by simp[AC]
@[simp] theorem tQ(k:IntKind)(a b:Int):AC .geq (.int k a) (.int k b)=some (.bool (a>=b)):=by simp[AC]
@[simp] theorem YN(a b:V5):AC .add (.str a) (.str b)=if a.size+b.size<=9223372036854775807 then some (.str (a++b))else none:=rfl
@[simp] theorem YO(a b:V5):AC .eql (.str a) (.str b)=some (.bool (a.toList == b.toList)):=rfl
@[simp] theorem YP(a b:V5):AC .neq (.str a) (.str b)=some (.bool (!(a.toList == b.toList))):=rfl
@[simp] theorem YQ(a b:V5):AC .lss (.str a) (.str b)=some (.bool (Op.bytesLess a.toList b.toList)):=rfl
@[simp] theorem YR(a b:V5):AC .leq (.str a) (.str b)=some (.bool (Op.bytesLess a.toList b.toList || a.toList == b.toList)):=rfl
@[simp] theorem YS(a b:V5):AC .gtr (.str a) (.str b)=some (.bool (!(Op.bytesLess a.toList b.toList || a.toList == b.toList))):=rfl
@[simp] theorem YT(a b:V5):AC .geq (.str a) (.str b)=some (.bool (!Op.bytesLess a.toList b.toList)):=rfl
@[simp] theorem tR(x:Ax)(h:WM):gt (x::h) 0=x:=rfl
@[simp] theorem tS(x:Ax)(h:WM)(n:Nat):gt (x::h) (n+1)=gt h n:=rfl
@[simp] theorem ZqX(a b:V5):a.toList=b.toList↔a=b:=by
 grind [ByteArray.toList_eq,ByteArray.ext,Array.toList_inj]
@[simp] theorem tT(a b:Int):(a == b)=decide (a=b):=by
 grind
@[simp] theorem tU(a b:Int):(a != b)=!decide (a=b):=by
 grind
@[simp] theorem tV(a b:V5):(a.toList == b.toList)=decide (a=b):=by
 grind [ZqX]
@[simp] theorem rn0(h:WM)(e:Env):(List.range 0).map (Xl h e)=[]:=rfl
@[simp] theorem rn1(h:WM)(e:Env):(List.range 1).map (Xl h e)=[Xl h e 0]:=rfl
@[simp] theorem rn2(h:WM)(e:Env):(List.range 2).map (Xl h e)=[Xl h e 0,Xl h e 1]:=rfl
@[simp] theorem rn3(h:WM)(e:Env):(List.range 3).map (Xl h e)=[Xl h e 0,Xl h e 1,Xl h e 2]:=rfl
@[simp] theorem rn4(h:WM)(e:Env):(List.range 4).map (Xl h e)=[Xl h e 0,Xl h e 1,Xl h e 2,Xl h e 3]:=rfl
@[simp] theorem rn6(h:WM)(e:Env):(List.range 6).map (Xl h e)=[Xl h e 0,Xl h e 1,Xl h e 2,Xl h e 3,Xl h e 4,Xl h e 5]:=rfl
@[simp] theorem rn5(h:WM)(e:Env):(List.range 5).map (Xl h e)=[Xl h e 0,Xl h e 1,Xl h e 2,Xl h e 3,Xl h e 4]:=rfl
theorem down{Q:Nat->Prop}(n:Nat)(h0:Q n)(hs:∀i,i<n->Q (i+1)->Q i):∀i,i<=n->Q i:=by
 intro i hi;obtain⟨k,rfl⟩:∃k,n=i+k:=⟨n-i,Z⟩
 induction k generalizing i with
 |zero=>exact h0
 |succ k ih=>exact hs i Z (ih (i+1) (by rw[show i+1+k=i+(k+1) by omega];exact h0) (by intro j hj;exact hs j Z) Z)
abbrev I(n:Int):AV:=.t (.int .i64 n)
abbrev Bo(b:Bool):AV:=.t (.bool b)
abbrev L(sz:Nat)(es:WA):AV:=.t (.lst sz es)
open Go.RowKit (Below)
open Go.ChangeShapes Go.WideShapes Go.ChangeAt Go.RowKit
inductive BP where
 |int (k:IntKind)
 |bool
 |str
 |slice (cs:List BP)
def tW(rec:TypeId->Option (List BP))(P:Program):List Field->Nat->Option (List BP)
 |[],_=>some []
 |f::fs,o=>if f.offset=o then(match rec f.type with
  |some cs=>if cs.length=P.cellsOf f.type then(match tW rec P fs (o+cs.length)with
   |some ds=>some (cs++ds)
   |none=>none)else none
  |none=>none)else none
def UK(P:Program):Nat->TypeId->Option (List BP)
 |0,_=>none
 |n+1,t=>match P.underlying t with
  |some .bool=>some [.bool]
  |some (.int k)=>some [.int k]
  |some .string=>some [.str]
  |some (.slice e)=>match UK P n e with
   |some cs=>if cs.length=P.cellsOf e/\0<cs.length then some [.slice cs]else none
   |none=>none
  |some (.struct fs)=>match tW (UK P n) P fs.toList 0 with
   |some cs=>if cs.length=P.cellsOf t then some cs else none
   |none=>none
  |_=>none
mutual
inductive GZ:BP->T->Prop
 |int {k:IntKind} {n:Int} (h:(Lit.int k n).wf=true):GZ (.int k) (.int k n)
 |bool (b:Bool):GZ .bool (.bool b)
 |str {s:V5} (h:s.size<=maxLen):GZ .str (.str s)
 |slice {cs:List BP} {es:WA} (hl:es.length<=maxLen) (h:JG cs es):GZ (.slice cs) (.lst cs.length es)
inductive WQ:List BP->V4->Prop
 |nil:WQ [] []
 |cons {c:BP} {t:T} {cs:List BP} {ts:V4} (h:GZ c t) (hs:WQ cs ts):WQ (c::cs) (t::ts)
inductive JG:List BP->WA->Prop
 |nil (cs:List BP):JG cs []
 |cons {cs:List BP} {e:V4} {es:WA} (h:WQ cs e) (hs:JG cs es):JG cs (e::es)
end
variable{ts:V4}
theorem WQ.append{cs ds:List BP}{us:V4}(h:WQ cs ts)(h':WQ ds us):WQ (cs++ds) (ts++us):=by
 induction cs generalizing ts with
 |nil=>cases h;exact h'
 |cons c cs ih=>cases h with|cons h hs=>exact .cons h (ih hs)
theorem WQ.len{cs:List BP}(h:WQ cs ts):ts.length=cs.length:=by
 induction cs generalizing ts with
 |nil=>cases h;rfl
 |cons c cs ih=>cases h with|cons h hs=>simp[ih hs]
theorem JG.snoc{cs:List BP}{es:WA}{e:V4}(h:JG cs es)(h':WQ cs e):JG cs (es++[e]):=by
 induction es with
 |nil=>exact .cons h' (.nil _)
 |cons x es ih=>cases h with|cons h hs=>exact .cons h (ih hs)
section
variable{H:Type}{enc:TypeId×Value->H}{P:Program}{w:World}{sp:Nat->Bool}{held:Bool}{n:Nat}
theorem Z2m{α:Type}{f:Nat->Option α}{xs:List α}(h:(List.range n).mapM f=some xs):xs.length=n/\∀i,i<n->∃x,xs[i]?=some x/\f i=some x:=by
 have key:∀(l:V2) (xs:List α),l.mapM f=some xs->xs.length=l.length/\∀(i:Nat) (a:Nat),l[i]?=some a->∃x,xs[i]?=some x/\f a=some x:=by
  intro l
  induction l with
  |nil=>intro xs h;simp at h;subst h;exact⟨rfl,Om⟩
  |cons a l ih =>
   intro xs h;simp only[List.mapM_cons,Option.bind_eq_bind,Yc1,Option.pure_def,Y7]at h
   grind
 obtain⟨h1,h2⟩:=key _ xs h;refine⟨by simpa using h1,λi hi=>h2 i i (by simp[hi])⟩
theorem Z2n{a:Addr}{cs:V3}(h:w.cells? 0 a n=some cs)(hn:0<n):∃g off c e fz,a=⟨g,off,none⟩/\w.heap[g]?=some (.cells c e fz)/\(c.toList.drop off).take n=cs/\cs.length=n:=by
 unfold World.cells? at h;simp only[Yc,if_true]at h;obtain⟨h1,h2⟩:=Z2m h;obtain⟨x,_,h4⟩:=h2 0 hn;have ha0:a.add 0=a:=by simp[Addr.add]
 rw[ha0]at h4;have h5:=h4;unfold World.cell? at h5;split at h5
 .rename_i c e fz hb;split at h5
  .cases h5
  .rename_i hs;obtain⟨g,off,spot⟩:=a
   have:spot=none:=by simpa using hs
   subst this;refine⟨g,off,c,e,fz,rfl,hb,?_,h1⟩;apply List.ext_getElem?;intro i;rw[Yc9];by_cases hi:i<n
   .rw[Ya hi];obtain⟨y,h6,h7⟩:=h2 i hi;rw[QS,cell_of_row w g (off+i) c e fz hb]at h7;rw[h6,<-h7];simp
   .grind
 .cases h5
theorem ZCV:∀(fuel:Nat) (t:TypeId) (cs:V3) (d:DataW H) (ps:List MemPlace),DataW.trod enc P w 0 sp held fuel t cs=some (d,ps)->∀(n:Nat) (sh:List BP),UK P n t=some sh->∃ts fp,AK w ts cs fp/\WQ sh ts:=by
 intro fuel
 induction fuel with
 |zero=>intro t cs d ps h;simp[DataW.trod]at h
 |succ fuel ih =>
  intro t cs d ps h n sh hsh
  cases n with
  |zero=>simp[UK]at hsh
  |succ n =>
   cases hu:P.underlying t with
   |none=>simp[UK,hu]at hsh
   |some dd =>
    cases dd<;>try (simp[UK,hu]at hsh;done)
    case bool =>
     simp[UK,hu]at hsh;subst hsh;simp only[DataW.trod,hu]at h;split at h<;>try (simp_all;done)
     rename_i b _;exact⟨[.bool b],[],.cons (.bool b) .nil,.cons (.bool b) .nil⟩
    case int k =>
     simp[UK,hu]at hsh;subst hsh;simp only[DataW.trod,hu]at h;split at h<;>try (simp_all;done)
     rename_i k1 k2 m heq;cases heq;split at h
     .rename_i hc;obtain⟨rfl,hwf⟩:=hc;exact⟨[.int _ m],[],.cons (.int _ m) .nil,.cons (.int hwf) .nil⟩
     .cases h
    case string =>
     simp[UK,hu]at hsh;subst hsh;simp only[DataW.trod,hu]at h;split at h<;>try (simp_all;done)
     rename_i s heq;split at h
     .rename_i hc;exact⟨[.str s],[],.cons (.str s) .nil,.cons (.str hc) .nil⟩
     .cases h
    case slice e =>
     simp only[UK,hu]at hsh;split at hsh
     .rename_i ecs Acj;split at hsh
      .rename_i hcond;cases hsh;simp only[DataW.trod,hu]at h;split at h<;>try (simp_all;done)
       .exact⟨[.lst ecs.length []],[],.cons (.lst0 _ _ _) .nil,.cons (.slice Om (.nil _)) .nil⟩
       .rename_i e' a len cap heq;cases heq;split at h
        .rename_i hb;simp only[Yc1]at h;obtain⟨elems,hel,_⟩:=h;obtain⟨hlen,hget⟩:=Z2m hel
         -- every element reads
         by_cases hl0:len=0
         .subst hl0;exact⟨[.lst ecs.length []],[],.cons (.lst0 _ _ _) .nil,.cons (.slice Om (.nil _)) .nil⟩
         .have hsz:0<P.cellsOf e:=by omega
          have helem:∀i,i<len->∃vs ts fp,w.cells? 0 (a.add (i*P.cellsOf e)) (P.cellsOf e)=some vs/\AK w ts vs fp/\WQ ecs ts:=by
           grind [Option.bind_eq_some_iff]
          obtain⟨vs0,ts0,fp0,h3,_,_⟩:=helem 0 Z;rw[Nat.zero_mul]at h3;have ha0:a.add 0=a:=by simp[Addr.add]
          rw[ha0]at h3;obtain⟨g,off,c,te,fz,rfl,hg,_,_⟩:=Z2n h3 hsz;have build:∀m,m<=len->∃es fp,es.length=m/\JG ecs es/\(∀x∈es,x.length=P.cellsOf e)/\AK w es.flatten ((c.toList.drop off).take (m*P.cellsOf e)) fp:=by
           intro m
           induction m with
           |zero=>intro _;exact⟨[],[],rfl,.nil _,Om,by simpa using AK.nil⟩
           |succ m ihm =>
            intro hm;obtain⟨es,fp,h5,h6,h7,h8⟩:=ihm Z;obtain⟨vs,ts,fq,h9,h10,h11⟩:=helem m Z;rw[QS]at h9;obtain⟨g',off',c',te',fz',he,hg',hseg,hvl⟩:=Z2n h9 hsz;cases he;rw[hg]at hg';cases hg';refine⟨es++[ts],fp++fq,by simp[h5],?_,?_,?_⟩
            .exact h6.snoc h11
            .intro x hx;rcases Yi.1 hx with hx|hx
             .exact h7 x hx
             .simp at hx;subst hx;rw[h11.len];exact hcond.1
            .rw[E2];simp only[OJ,List.flatten_nil,E3];have e1:(c.toList.drop off).take ((m+1)*P.cellsOf e)=(c.toList.drop off).take (m*P.cellsOf e)++vs:=by
              simp_all [DK,Gx,List.take_add,Iq]
             rw[e1];exact h8.append h10
          obtain⟨es,fp,h5,h6,h7,h8⟩:=build len (Yk _);subst h5;refine⟨[.lst ecs.length es],(g::fp)++[],.cons ?_ .nil,.cons (.slice Z h6) .nil⟩;rw[hcond.1];exact .lst (by intro hc;subst hc;simp at hl0) hsz hb.2.1 hg h7 h8
        .cases h
      .cases hsh
     .cases hsh
    case struct fs =>
     simp only[UK,hu]at hsh;split at hsh
     .rename_i I4 Ack;split at hsh
      .rename_i hcl;cases hsh;simp only[DataW.trod,hu]at h;split at h
       .rename_i hlen;simp only[Yo]at h;obtain⟨xs,hxs,_⟩:=h;have key:∀(l:List Field) (o:Nat) (I4:List BP) (xs:List (DataW H×List MemPlace)),tW (UK P n) P l o=some I4->o+I4.length<=cs.length->
          l.mapM (λf=>DataW.trod enc P w 0 sp held fuel f.type ((cs.drop f.offset).take (P.cellsOf f.type)))=some xs->∃ts fp,AK w ts ((cs.drop o).take I4.length) fp/\WQ I4 ts:=by
         intro l
         induction l with
         |nil =>
          intro o I4 xs h1 _ _;cases h1
          exact⟨[],[],by simpa using AK.nil,.nil⟩
         |cons f l ihl =>
          intro o I4 xs h1 h2 h3;simp only[tW]at h1;split at h1
          .rename_i ho;split at h1
           .rename_i c1 hc1;split at h1
            .rename_i hl1;split at h1
             .rename_i c2 hc2;cases h1;simp only[List.mapM_cons,Option.bind_eq_bind,Yc1,Option.pure_def,Y7]at h3;obtain⟨x,hx,ys,hys,rfl⟩:=h3;rw[Yu]at h2;obtain⟨t1,f1,q1,q2⟩:=ih f.type _ x.1 x.2 hx n c1 hc1;obtain⟨t2,f2,q3,q4⟩:=ihl (o+c1.length) c2 ys hc2 Z hys;refine⟨t1++t2,f1++f2,?_,q2.append q4⟩;rw[ho,<-hl1]at q1;have e1:(cs.drop o).take (c1++c2).length=(cs.drop o).take c1.length++(cs.drop (o+c1.length)).take c2.length:=by
               rw[Yu,List.take_add,Iq]
              rw[e1];exact q1.append q3
             .cases h1
            .cases h1
           .cases h1
          .cases h1
        grind
       .cases h
      .cases hsh
     .cases hsh
end
open Go.RowKit (Below)
open Go.ChangeShapes Go.WideShapes Go.ChangeAt Go.RowKit
def G0:Bool×List BP->AV->Prop
 |(true,shs),a=>∃xs,a=.agg (xs.map .t)/\WQ shs xs
 |(false,shs),a=>∃x,a=.t x/\WQ shs [x]
def Dc:List (Bool×List BP)->XQ->Prop
 |[],as=>as=[]
 |p::ps,as=>∃a as',as=a::as'/\G0 p a/\Dc ps as'
def EX(P:Program)(t:TypeId):Option (Bool×List BP):=match UK P 16 t with
 |some cs=>match P.underlying t with
  |some (.struct _)=>some (true,cs)
  |some (.array _ _)=>none
  |some _=>some (false,cs)
  |none=>none
 |none=>none
def tX(P:Program):List TypeId->Option (List (Bool×List BP))
 |[]=>some []
 |t::ts=>match EX P t with
  |some p=>match tX P ts with
   |some ps=>some (p::ps)
   |none=>none
  |none=>none
def Dd(P:Program)(ts:List TypeId):Bool:=ts.all λt=>P.readableRec t && decide (t<P.types.size)
section
variable{H:Type}{enc:TypeId×Value->H}{P:Program}{w:World}{sp:Nat->Bool}{held:Bool}
theorem AK.rvs{ts:V4}{vs:V3}{fp:V2}(h:AK w ts vs fp):Ay VI w (λ_=>True) (ts.map .t) vs:=by
 induction ts generalizing vs fp with
 |nil=>cases h;exact .nil
 |cons t ts ih=>cases h with|cons h hs=>exact .cons (.t h λ_ _=>trivial) (ih hs)
theorem FO{t:TypeId}{v:Value}{d:DataW H}{ps:List MemPlace}{base:Nat}(h:DataW.Trod enc P w 0 sp held t v d ps)(hok:Value.okWide P w .any base t v){p:Bool×List BP}(hp:EX P t=some p) :
  ∃a,RV VI w (λ_=>True) a v/\G0 p a:=by
 obtain⟨fuel,h⟩:=h;unfold EX at hp;split at hp
 .rename_i cs hcs;obtain⟨ts,fp,h1,h2⟩:=ZCV fuel t _ d ps h 16 cs hcs;split at hp
  .rename_i fs hu;cases hp;obtain⟨c,rfl,_⟩:=okWide_struct hu hok;refine⟨.agg (ts.map .t),.agg h1.rvs h1.one,ts,rfl,h2⟩
  .cases hp
  .rename_i dd hns hna hu;cases hp;have hone:cs.length=1:=by
    unfold UK at hcs
    grind
   match ts,h2,h1 with
   |[],h2,h1=>have:=h2.len;simp at this;omega
   |[x],h2,h1 =>
    have hv:v.cells.toList=[v]:=by
     unfold UK at hcs;rw[hu]at hcs;cases dd<;>simp at hcs
     .obtain⟨_,rfl⟩:=okWide_bool hu hok;rfl
     .obtain⟨_,rfl⟩:=okWide_int hu hok;rfl
     .obtain⟨_,rfl⟩:=okWide_string hu hok;rfl
     .obtain⟨_,_,_,rfl⟩:=okWide_slice hu hok;rfl
     .simp_all
    rw[hv]at h1
    cases h1 with|cons h hs =>
    exact⟨.t x,.t h λ_ _=>trivial,x,rfl,h2⟩
   |_::_::_,h2,h1=>have:=h2.len;simp at this;omega
  .cases hp
 .cases hp
theorem Z2o{base:Nat}:∀(ts:List TypeId) (vs:V3) (ds:List (DataW H)) (ps:List MemPlace),DataW.TrodAll enc P w 0 sp held ts vs ds ps->
  (∀(j:Nat) t v,ts[j]?=some t->vs[j]?=some v->Value.okWide P w .any base t v)->∀l,tX P ts=some l->∃as,Ay VI w (λ_=>True) as vs/\Dc l as
 |[],[],[],_,_,_,l,hl=>by cases hl;exact⟨[],.nil,rfl⟩
 |t::ts,v::vs,d::ds,_,⟨p,q,h1,h2,_⟩,hok,l,hl=>by
  unfold tX at hl;split at hl
  .rename_i p1 hp1;split at hl
   .rename_i ps1 hps1;cases hl;obtain⟨a,ha,hpa⟩:=FO h1 (hok 0 t v rfl rfl) hp1;obtain⟨as,has,Aaq⟩:=Z2o ts vs ds q h2 (λj t v h h'=>hok (j+1) t v (by simpa using h) (by simpa using h')) ps1 hps1;exact⟨a::as,.cons ha has,a,as,rfl,hpa,Aaq⟩
   .cases hl
  .cases hl
theorem Z2p(hl:laidOutB P=true){W W':World}(hb:Below W.heap.size W W'):∀(ts:List TypeId) (vs:V3) (ds:List (DataW H)) (ps:List MemPlace),Dd P ts=true->DataW.TrodAll enc P W 0 (λ_=>true) true ts vs ds ps->
  (∀x∈ps,x.block<W.heap.size)->DataW.TrodAll enc P W' 0 (λb=>decide (b<W.heap.size)) true ts vs ds ps
 |[],[],[],_,_,h,_=>h
 |t::ts,v::vs,d::ds,_,hr,⟨p,q,h1,h2,e⟩,hlt=>by
  subst e;simp only[Dd,Cz,Yd,decide_eq_true_eq]at hr;exact⟨p,q,Below.trod hl hr.1.1 hr.1.2 h1 hb (λx hx=>hlt x (E4 _ hx)),Z2p hl hb ts vs ds q hr.2 h2 (λx hx=>hlt x (Iv _ hx)),rfl⟩
theorem Z2q:∀(ts:List TypeId) (vs:V3) (ds:List (DataW H)) (ps:List MemPlace),DataW.TrodAll enc P w 0 sp held ts vs ds ps->ds.length=ts.length
 |[],[],[],_,_=>rfl
 |_::ts,_::vs,_::ds,_,⟨_,q,_,h2,_⟩=>by simp[Z2q ts vs ds q h2]
theorem ZBH(hl:laidOutB P=true){f:Nat}{fn:Func}{s:ChangeSpec}{tb:TypeId}{l:List (Bool×List BP)}(hrd:Dd P fn.params.toList=true)(hsh:tX P fn.params.toList=some l)
  (hres:fn.resultTypes=#[tb]) (htb:P.underlying tb=some .bool) (hvars:s.vars=[])
  (hfn:∀(H:Type) (ds:List (DataW H)),ds.length=fn.params.toList.length->(s.fn H ds).results=[.lit (.bool true)]/\(s.fn H ds).args=ds/\(s.fn H ds).vars=[])
  (hS:∀as,Dc l as->∃hr,Ww P f as [] (.t (.bool true)) hr)
  (W:World) (base:Nat) (args:Array Value) (ds gs:List (DataW H)) (before:List MemPlace)
  (hval:∀(j:Nat) t v,fn.params[j]?=some t->args[j]?=some v->Value.okWide P W .any base t v)
  (hW:DataW.Whole enc P fn.params.toList s.vars false W args.toList ds gs before) :
  Calls P f args W λe W'=>∃v,e=.returned v/\s.post enc P fn false true false false W args v W':=by
 have hW':=hW;obtain⟨p,q,hA,hV,rfl,hfz,hnd⟩:=hW;have hV0:=hV;rw[hvars]at hV;obtain⟨rfl,rfl⟩:gs=[]/\q=[]:=by
  cases gs with
  |nil=>exact⟨rfl,hV⟩
  |cons _ _=>exact hV.elim
 obtain⟨as,hRV,hP⟩:=Z2o fn.params.toList args.toList ds p hA (λj t v h h'=>hval j t v (by simpa using h) (by simpa using h')) l hsh;obtain⟨hr,hC⟩:=hS as hP;refine(hC.data W (λ_=>True) args hRV).mono λe W' ⟨v,ρ,he,hB,_,hv,_⟩=>?_
 subst he;obtain⟨h1,h2,h3⟩:=hfn H (ds++[]) (by rw[E3];exact Z2q _ _ _ _ hA)
 cases hv with|t h _ =>
 cases h;have hlt:=hW'.lt;refine⟨_,rfl,ds,[],p++[],[],p,[],hW',?_,?_,?_,hB.frame _,(by intro h;cases h)⟩
 .rw[h1,hres];exact trodAll_cons_mk (p:=[]) (p':=[]) (shut_bool htb _) trodAll_mk0
 .simp_all [E3,Z2p]
 .rw[h3,hvars];rfl
end
def ic(n:Int):V4:=[.int .i64 n]
def AA(xs:WL):V4:=[.lst 1 (xs.map ic)]
def sc(s:V5):V4:=[.str s]
variable{cs:List BP}{ts:V4}
@[simp] theorem Aar(n:Int):ic n=[.int .i64 n]:=rfl
@[simp] theorem tY(xs:WL):AA xs=[.lst 1 (xs.map ic)]:=rfl
@[simp] theorem Aas(s:V5):sc s=[.str s]:=rfl
abbrev tI(xs:WL):T:=.lst 1 (xs.map ic)
abbrev Az(xs:XV):T:=.lst 1 (xs.map AA)
abbrev OkL{α:Type}(p:α->Prop)(xs:List α):Prop:=xs.length<=maxLen/\∀x∈xs,p x
abbrev Le{α:Type}(xs:List α):Prop:=xs.length<=1099511627776
theorem ZK{i:Nat}(h:i<1099511627776):IntKind.wrap .i64 ((i:Int)+1)=(i:Int)+1:=ZF Z Z
theorem YU{n:Nat}(h:n<=4398046511104):n<=room:=Y8 h Sm
theorem tf(b:Bool):b=false\/b=true:=by cases b<;>simp
theorem Z2r{α:Type}{c:α->V4}{p:α->Prop}{cs:List BP}(hd:∀ts,WQ cs ts->∃a,ts=c a/\p a):∀{es:WA},JG cs es->∃xs:List α,es=xs.map c/\∀x∈xs,p x
 |[],_=>⟨[],rfl,λx hx=>by cases hx⟩
 |e::es,h=>by
  cases h with
  |cons h hs =>
   obtain⟨a,rfl,ha⟩:=hd e h;obtain⟨xs,rfl,hx⟩:=Z2r hd hs;exact⟨a::xs,rfl,λx hm=>by cases hm with|head=>exact ha|tail _ hm=>exact hx x hm⟩
theorem ZCW{α:Type}{c:α->V4}{p:α->Prop}{t:T}(hd:∀ts,WQ cs ts->∃a,ts=c a/\p a)(h:GZ (.slice cs) t):∃xs:List α,t=.lst cs.length (xs.map c)/\OkL p xs:=by
 cases h with
 |slice hl h =>
  obtain⟨xs,rfl,hx⟩:=Z2r hd h
  grind
theorem Z0H{c:BP}(h:WQ (c::cs) ts):∃t us,ts=t::us/\GZ c t/\WQ cs us:=by
 cases h with
 |cons h hs=>exact⟨_,_,rfl,h,hs⟩
theorem FP(h:WQ [] ts):ts=[]:=by cases h;rfl
end Go.AM
