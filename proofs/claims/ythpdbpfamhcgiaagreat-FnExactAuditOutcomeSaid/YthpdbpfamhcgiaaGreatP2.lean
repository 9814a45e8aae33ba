/-
  Parts of the proofs for this seat: AMOps7 AMOps8 AMOps9 AMRen AMJoin AMFz AMSound AMCall AMCode AMFrame.
-/
import Derived.Deep.LoopGhost
import Derived.Test.YthpdbpfamhcgiaaGreatP1
set_option linter.all false
namespace Go.AM
open Go.RowKit (Below)
section
variable{P:Program}{N:Par}{base:Nat}{ρ:Map}{h:V7}{w w':World}{F:Nat->Prop}{e:Env}{a:Act}{v u:Value}{t el:TypeId}{off b:Nat}{cs:V2}{p r:T}{x:AV}
theorem ZEn{op:BinOp}{x y:Operand}{q:T}(hx:RV ρ w F (.t p) u)(hy:RV ρ w F (.t q) v)(hr:binT op p q=some r) :
  ∃z,((do eqGuard op t x y u v;binOp op t u v):Sem Value).run P w=.ok z w/\RV ρ w F (.t r) z:=by
 cases p<;>cases q<;>try (simp[binT]at hr;done)
 .rename_i k m k' n;cases hx.int_inv;cases hy.int_inv;cases op<;>simp[binT]at hr
  case shl=>obtain⟨h0,rfl⟩:=hr;exact⟨_,by simp[eqGuard,binOp,Op.shift,show ¬n<0 by omega],.int_mk _ _⟩
  case shr=>obtain⟨h0,rfl⟩:=hr;exact⟨_,by simp[eqGuard,binOp,Op.shift,show ¬n<0 by omega],.int_mk _ _⟩
  case add=>obtain⟨rfl,rfl⟩:=hr;exact⟨_,by simp[eqGuard,binOp,Op.intArith],.int_mk _ _⟩
  case sub=>obtain⟨rfl,rfl⟩:=hr;exact⟨_,by simp[eqGuard,binOp,Op.intArith],.int_mk _ _⟩
  case mul=>obtain⟨rfl,rfl⟩:=hr;exact⟨_,by simp[eqGuard,binOp,Op.intArith],.int_mk _ _⟩
  case quo=>obtain⟨rfl,h0,rfl⟩:=hr;exact⟨_,by simp[eqGuard,binOp,Op.intDiv,h0],.int_mk _ _⟩
  case rem=>obtain⟨rfl,h0,rfl⟩:=hr;exact⟨_,by simp[eqGuard,binOp,Op.intDiv,h0],.int_mk _ _⟩
  case and=>obtain⟨rfl,rfl⟩:=hr;exact⟨_,by simp[eqGuard,binOp,Op.intBits],.int_mk _ _⟩
  case or=>obtain⟨rfl,rfl⟩:=hr;exact⟨_,by simp[eqGuard,binOp,Op.intBits],.int_mk _ _⟩
  case xor=>obtain⟨rfl,rfl⟩:=hr;exact⟨_,by simp[eqGuard,binOp,Op.intBits],.int_mk _ _⟩
  case andNot=>obtain⟨rfl,rfl⟩:=hr;exact⟨_,by simp[eqGuard,binOp,Op.intBits],.int_mk _ _⟩
  case eql=>obtain⟨rfl,rfl⟩:=hr;exact⟨_,by simp[eqGuard,binOp,Op.intCmp],.bool_mk _⟩
  case neq=>obtain⟨rfl,rfl⟩:=hr;exact⟨_,by simp[eqGuard,binOp,Op.intCmp],.bool_mk _⟩
  case lss=>obtain⟨rfl,rfl⟩:=hr;exact⟨_,by simp[eqGuard,binOp,Op.intCmp],.bool_mk _⟩
  case leq=>obtain⟨rfl,rfl⟩:=hr;exact⟨_,by simp[eqGuard,binOp,Op.intCmp],.bool_mk _⟩
  case gtr=>obtain⟨rfl,rfl⟩:=hr;exact⟨_,by simp[eqGuard,binOp,Op.intCmp],.bool_mk _⟩
  case geq=>obtain⟨rfl,rfl⟩:=hr;exact⟨_,by simp[eqGuard,binOp,Op.intCmp],.bool_mk _⟩
 .rename_i s1 s2;cases hx.str_inv;cases hy.str_inv;cases op<;>simp[binT]at hr
  case add =>
   obtain⟨h0,rfl⟩:=hr;refine⟨_,?_,.str_mk _⟩
   have:¬(9223372036854775807<(s1.size:Int)+(s2.size:Int)):=by omega
   simp[eqGuard,binOp,Op.stringOp,this]
  case eql=>subst hr;exact⟨_,by simp[eqGuard,binOp,Op.stringOp],.bool_mk _⟩
  case neq=>subst hr;exact⟨_,by simp[eqGuard,binOp,Op.stringOp],.bool_mk _⟩
  case lss=>subst hr;exact⟨_,by simp[eqGuard,binOp,Op.stringOp],.bool_mk _⟩
  case leq=>subst hr;exact⟨_,by simp[eqGuard,binOp,Op.stringOp],.bool_mk _⟩
  case gtr=>subst hr;exact⟨_,by simp[eqGuard,binOp,Op.stringOp],.bool_mk _⟩
  case geq=>subst hr;exact⟨_,by simp[eqGuard,binOp,Op.stringOp],.bool_mk _⟩
theorem un_sound{op:UnOp}(hx:RV ρ w F (.t p) u)(hr:unT op p=some r):∃z,(Op.unary op u).run P w=.ok z w/\RV ρ w F (.t r) z:=by
 cases p<;>cases op<;>try (simp[unT]at hr;done)
 .cases hx.int_inv;simp[unT]at hr;subst hr;exact⟨_,by simp[Op.unary,Op.intArith],.int_mk _ _⟩
 .cases hx.bool_inv;simp[unT]at hr;subst hr;exact⟨_,by simp[Op.unary],.bool_mk _⟩
theorem Z1O(R:Rel N base ρ h w)(hx:RV ρ w (Free N ρ h) x v){r:Bool}(hr:VR h true x=some r):∃c n m,v=.slice c n m/\c.isNone=r:=by
 cases hx with
 |t hT hf =>
  cases hT with
  |nil=>simp[VR]at hr;subst hr;exact⟨none,0,0,rfl,rfl⟩
  |lst0=>simp[VR]at hr
  |@lst sz es g off cap c' te fz fp hne hsz hcap hg hlen hc =>
   cases es with
   |nil=>exact absurd rfl hne
   |cons y ys=>simp[VR]at hr;subst hr;exact⟨_,_,_,rfl,rfl⟩
  |_=>simp[VR]at hr
 |@own b r' hr' hone =>
  simp only[VR]at hr;split at hr
  .rename_i el' sz fr y ys hb;cases hr;obtain⟨r2,h1,h2⟩:=R.blk b (by rw[hb];intro hc;cases hc);rw[hr']at h1;cases h1;rw[hb]at h2;obtain⟨_,xs,_,ho,_⟩:=h2;rcases ho.2 with⟨_,hz⟩|⟨g,cap,cur,hv',_⟩
   .simp at hz
   .simp_all
  .cases hr
 |_=>simp[VR]at hr
theorem Z1P(hx:RV ρ w F x v){r:Bool}(hr:VR h false x=some r):∃c,v=.pointer c/\c.isNone=r:=by
 cases hx with
 |nilp=>simp[VR]at hr;subst hr;exact⟨none,rfl,rfl⟩
 |ptr=>simp[VR]at hr;subst hr;exact⟨_,rfl,rfl⟩
 |eptr=>simp[VR]at hr;subst hr;exact⟨_,rfl,rfl⟩
 |iptr=>simp[VR]at hr;subst hr;exact⟨_,rfl,rfl⟩
 |_=>simp[VR]at hr
theorem Z1Q(hu:P.underlying t=some (.slice el))(d:Nat)(c:Option Addr)(n m:Nat):(Op.equalIn (d+1) t (.slice c n m) (.slice none 0 0)).run P w=.ok c.isNone w:=by
 cases c<;>simp[Op.equalIn,run_underlying hu]
theorem Z1R(hu:P.underlying t=some (.pointer el))(d:Nat)(c:Option Addr):(Op.equalIn (d+1) t (.pointer c) (.pointer none)).run P w=.ok c.isNone w:=by
 cases c<;>simp[Op.equalIn,run_underlying hu]
theorem RV.ptr_val(hv:RV ρ w F (.ptr b off) v):∃p,v=.pointer (some p):=by cases hv;exact⟨_,rfl⟩
theorem RV.eptr_val{i sz:Nat}(hv:RV ρ w F (.eptr b i sz off) v):∃p,v=.pointer (some p):=by cases hv;exact⟨_,rfl⟩
theorem RV.iptr_val{cs:KS}(hv:RV ρ w F (.iptr cs off) v):∃p,v=.pointer (some p):=by cases hv;exact⟨_,rfl⟩
theorem RV.fn_val{f:Nat}(hv:RV ρ w F (.fn f cs) v):∃c:Array Value,v=.func (.func f) #[] c/\RVs ρ w F cs c.toList:=by cases hv;exact⟨_,rfl,by assumption⟩
theorem RV.tup_val(hv:RV ρ w F (.tup cs) v):∃c:Array Value,v=.tuple c/\RVs ρ w F cs c.toList:=by cases hv;exact⟨_,rfl,by assumption⟩
theorem Z1S(hE:Wk ρ w F e a.tmps):∀(ps:List (Nat×Operand)) (qs:List (Nat×Opd)) (cs:V2) (cells:Array Value),
  mapO (λp:Nat×Operand=>(opd p.2).map λx=>(p.1,x)) ps=some qs->RVs ρ w F cs cells.toList->(∀v∈cells.toList,v.oneCell'=true)->
  ∀cs',Ju e cs qs=some cs'->∃cells',Instr.fill (λi=>some (i*1,1)) cells (ps.map λp=>(p.1,a.eval p.2))=some cells'/\RVs ρ w F cs' cells'.toList/\∀v∈cells'.toList,v.oneCell'=true
 |[],qs,cs,cells,hm,hc,h1,cs',hp=>by
  cases hm;simp[Ju]at hp;subst hp
  exact⟨cells,by simp[Instr.fill],hc,h1⟩
 |(i,x)::ps,qs,cs,cells,hm,hc,h1,cs',hp=>by
  obtain⟨q,qs',hq,hqs,rfl⟩:=Jy hm;obtain⟨x',hx,rfl⟩:=Ys.1 hq;simp only[Ju]at hp;split at hp
  .rename_i v hv;split at hp
   .rename_i hlt;obtain⟨h2,h3⟩:=Zcs hv (X2 hE hx);have hl1:=h2.length;have hl2:=hc.length;simp only[Yz,Yw,Ybj]at hl1 hl2;obtain⟨cells1,hf,hcl⟩:=ZqE (place:=λi=>some (i*1,1)) (cells:=cells) (i:=i) (off:=i*1) (size:=1) (v:=a.eval x) (rest:=ps.map λp=>(p.1,a.eval p.2)) rfl (by omega) (by omega);have hR:RVs ρ w F (cs.set i v) cells1.toList:=by
     rw[hcl,List.set_eq_take_append_cons_drop,Ya hlt,Nat.mul_one];have:=((hc.take i).append h2).append (hc.drop (i+1));simpa using this
    have ho:∀v∈cells1.toList,v.oneCell'=true:=by
     grind
    obtain⟨cells',h4,h5,h6⟩:=Z1S hE ps qs' _ cells1 hqs hR ho cs' hp
    simp_all
   .cases hp
  .cases hp
theorem ok_bptrs(R:Rel N base ρ h w)(hE:Wk ρ w (Free N ρ h) e a.tmps){nx:Nat}(hn:ρ nx=none){n:Nat}{ps:Array (Nat×Operand)}{i:TypeInfo}{qs:List (Nat×Opd)}
  (hu:P.underlying t=some (.slice el)) (hi:P.info? el=some i) (hsmall:n*i.size<=16777216) (hsz:i.size=1) (hz:i.zero=some (.pointer none))
  (hm:mapO (λp:Nat×Operand=>(opd p.2).map λx=>(p.1,x)) ps.toList=some qs) (hc:Ju e (List.replicate n .nilp) qs=some cs) :
  OpOK P N base ρ h w (do pure (.value (<-Instr.buildSlice t n (ps.map λ(i,x)=>(i,a.eval x))))) (.bsl nx n) [(nx,.box cs)]:=by
 have h0:RVs ρ w (Free N ρ h) (List.replicate n .nilp) (madeCells #[.pointer none] n).toList:=by
  have e1:(madeCells #[.pointer none] n).toList=List.replicate n (.pointer none):=by
   apply Ybz
   .simp[madeCells]
   .intro k h1 h2;simp[madeCells,Nat.mod_one]
  rw[e1];clear hc e1 hsmall
  induction n with
  |zero=>exact .nil
  |succ n ih=>rw[Ycv,Ycv];exact .cons .nilp ih
 have h1:∀v∈(madeCells #[.pointer none] n).toList,v.oneCell'=true:=by
  intro v hv;simp only[madeCells,Yb5,Yt]at hv;obtain⟨k,_,rfl⟩:=hv;simp[Nat.mod_one,Value.oneCell']
 obtain⟨cells',h2,h3,h4⟩:=Z1S hE ps.toList qs _ _ hm h0 h1 cs hc;have hrun:(Instr.buildSlice t n (ps.map λ(i,x)=>(i,a.eval x))).run P w=.ok (.slice (some ⟨w.heap.size,0,none⟩) n n) (w.alloc (.cells cells' el)):=by
  by_cases hn0:n=0
  .subst hn0;have hcells:madeCells #[.pointer none] 0=#[]:=by simp[madeCells,Array.range_zero']
   rw[hcells]at h2;simp only[Nat.mul_one]at h2;simp[Instr.buildSlice,run_underlying hu,sizeOf,typeInfo,hi,hsz,h2,newRow,Array.range_zero']
  .refine run_buildSlice w t el n _ cells' i (.pointer none) hu hi hz (by omega) (by rw[hsz];omega) ?_;rw[Yb5,hsz];rw[Nat.mul_one];exact h2
 have hp:=K9 R (n:=nx) (ks:=[]) (x:=.box cs) (r:=⟨.pointer (some ⟨w.heap.size,0,none⟩),[]⟩) (row:=none) (w':=w.alloc (.cells cells' el))
  (by intro r0 h0;rw[hn]at h0;cases h0) (Z18 w _) (by intro g hg;cases hg) (by intro g hg;simp[X6]at hg;exact .inl (by omega))
  (λhk=>⟨w.heap.size,cells',el,rfl,R.hb,heap_alloc_new w _,h3.keep hk,h4⟩) (by intro hf;cases hf)
 refine⟨_,_,updM ρ nx ⟨.pointer (some ⟨w.heap.size,0,none⟩),[]⟩,.inl (by simp only[Sem.run_bind,hrun,Result.andThen_ok];rfl),?_,hp.1,hp.2.1,?_,(Below.refl _ _).alloc R.hb _,hp.2.2⟩
 .exact .bsl (r:=⟨.pointer (some ⟨w.heap.size,0,none⟩),[]⟩) (by simp[updM]) rfl
 .intro b hb;simp at hb;simp[updM,hb]
end
open Go.RowKit (Below)
section
variable{P:Program}{N:Par}{base:Nat}{ρ:Map}{h:V7}{w w':World}{F:Nat->Prop}{e:Env}{a:Act}{t ut el:TypeId}{xv:Value}{v x:AV}{u:List (Nat×Blk)}{n:Option Nat}{i:TypeInfo}{f off m:Nat}{k:IntKind}{cs:V2}
theorem ok_load(R:Rel N base ρ h w)(hn:UO P t=some n)
  (hv:(match x with
  |.ptr b off=>match gt h b with
   |.box cs=>(Q7 cs off n).map (·,([]:List (Nat×Blk)))
   |_=>none
  |.eptr b i sz off=>match gt h b with
   |.arr _ sz' _ es=>if sz=sz' then(match es[i]? with
    |some cs=>(Zbc cs off n).map (·,[])
    |none=>none)else none
   |_=>none
  |.iptr cs off=>(Zbc cs off n).map (·,[])
  |_=>none)=some (v,u)) (hx:RV ρ w (Free N ρ h) x xv) :
  OpOK P N base ρ h w (do pure (.value (<-Instr.loadAt t xv))) v u:=by
 cases hx with
 |@ptr b off g r hr hrv =>
  simp only at hv;split at hv
  .rename_i cs hb;obtain⟨v',hv',he⟩:=Ys.1 hv;cases he;obtain⟨r',h1,h2⟩:=R.blk b (by rw[hb];intro hc;cases hc);rw[hr]at h1;cases h1;rw[hb]at h2;obtain⟨g',c,te,hv2,_,hh,hcs,hone⟩:=h2;rw[hrv]at hv2;cases hv2;obtain⟨val,h3,h4⟩:=Z1C (P:=P) hn hh hcs hone hv';exact .same R (by simp[Instr.loadAt,Instr.sureAddr,h3]) h4
  .cases hv
 |@eptr b i sz off g m cap r hr hrv =>
  simp only at hv;split at hv
  .rename_i el sz' fr es hb;split at hv
   .rename_i hse;subst hse;split at hv
    .rename_i cs hcs;obtain⟨v',hv',he⟩:=Ys.1 hv;cases he;obtain⟨r',h1,h2⟩:=R.blk b (by rw[hb];intro hc;cases hc);rw[hr]at h1;cases h1;rw[hb]at h2;obtain⟨_,xs,_,ho,hsz,hl,ht,hf,_⟩:=h2;rcases ho.2 with⟨hv2,_⟩|⟨g',cap',cur,hv2,_,hh,_,_,_,htake⟩
     .simp_all
     .rw[hrv]at hv2;cases hv2;obtain⟨fq,h3,h4⟩:=ht.elem hl hcs;have hcl:cs.length=sz:=hl cs (Y8 hcs);have hlt:i<es.length:=(Ybh.1 hcs).1;have hmul:i*sz+sz<=es.length*sz:=by
       have:=Ybd sz (show i+1<=es.length from hlt)
       rwa [Ybu,Yct]at this
      rw[<-htake,Ycq,Ycs,Ybn (by omega)]at h3;obtain⟨val,h5,h6⟩:=Z1D (P:=P) (ρ:=ρ) (F:=Free N ρ h) hn hh h3 (λg hg=>hf g (h4 g hg)) hv';exact .same R (by simp[Instr.loadAt,Instr.sureAddr,h5]) h6
    .cases hv
   .cases hv
  .cases hv
 |@iptr cs off g o c te fz fp hg hF hc hf =>
  simp only at hv;obtain⟨v',hv',he⟩:=Ys.1 hv;cases he;obtain⟨val,h5,h6⟩:=Z1D (P:=P) (ρ:=ρ) (F:=Free N ρ h) hn hg hc hf hv'
  exact .same R (by simp[Instr.loadAt,Instr.sureAddr,h5]) h6
 |_=>simp at hv
theorem ok_store(R:Rel N base ρ h w)(hi:P.info? t=some i){y:AV}{yv:Value}(hy:RV ρ w (Free N ρ h) y yv)
  (hv:(match cellsOf y with
  |some vs=>if vs.length=i.size then(match x with
   |.ptr b off=>match gt h b with
    |.box cs=>if off+i.size<=cs.length then some (.top,[(b,.box (setCells cs off vs))])else none
    |_=>none
   |.eptr b j sz off=>match gt h b with
    |.arr el sz' fr es=>match es[j]?,toTs h vs with
     |some cs,some (ts,f,ks) =>
      if off+i.size<=cs.length/\UJ (b::ks)/\sz=sz' then some (.top,kill ks++[(b,.arr el sz' (fr && f) (es.set j (setT cs off (wk (cs.drop off) ts))))])else none
     |_,_=>none
    |_=>none
   |_=>none)else none
  |none=>none)=some (v,u)) (hx:RV ρ w (Free N ρ h) x xv) :
  OpOK P N base ρ h w (do Instr.storeAt t xv yv;pure .skip) v u:=by
 split at hv
 .rename_i vs hvs;split at hv
  .rename_i hl;split at hv
   .rename_i b off;split at hv
    .rename_i cs hb;split at hv
     .rename_i hle;cases hv;exact ZEh R hb rfl hx hvs hy hi hl hle
     .cases hv
    .cases hv
   .rename_i b j sz off;split at hv
    .rename_i el sz' fr es hb;split at hv
     .rename_i cs ts f ks hcs hts;split at hv
      .rename_i hcond;cases hv;exact ZEi R hb hcs hx hcond.2.2 hvs hy hts hi hl hcond.1 hcond.2.1
      .cases hv
     .cases hv
    .cases hv
   .cases hv
  .cases hv
 .cases hv
theorem ok_slice(R:Rel N base ρ h w){nx:Nat}(hn:ρ nx=none)(hE:Wk ρ w (Free N ρ h) e a.tmps){lo hi:Option Operand}{lo' hi':Option Opd}
  (hlo:(match lo with|none=>some none|some o=>(opd o).map some)=some lo') (hhi:(match hi with|none=>some none|some o=>(opd o).map some)=some hi') {sz:Option Nat}
  (hv:(match bnd e 0 lo' with
  |none=>none
  |some l=>match sz,x with
   |none,.t (.str s)=>match bnd e s.size hi' with
    |some r=>if l<=r/\r<=s.size then some (AV.t (.str (s.extract l r)),([]:List (Nat×Blk)))else none
    |none=>none
   |some sz,.t (.lst sz' es)=>match bnd e es.length hi' with
    |some r=>if l<=r/\r<=es.length/\sz'=sz then some (.t (.lst sz ((es.take r).drop l)),[])else none
    |none=>none
   |some sz,.own b=>match gt h b with
    |.arr el sz' fr es=>match bnd e es.length hi' with
     |some r=>if l=0/\r<=es.length/\sz'=sz then some (.own nx,kill [b]++[(nx,.arr el sz fr (es.take r))])else none
     |none=>none
    |_=>none
   |_,_=>none)=some (v,u))
  (hsz:(match P.underlying t with|some .string=>some none|some (.slice e)=>(P.info? e).map λi=>some i.size|_=>none)=some sz) (hx:RV ρ w (Free N ρ h) x xv) :
  OpOK P N base ρ h w (do pure (.value (<-Instr.sliceAt t xv (lo.map a.eval) (hi.map a.eval) ((none:Option Operand).map a.eval)))) v u:=by
 split at hv
 .cases hv
 .rename_i l hl;split at hv
  .rename_i s;split at hv
   .rename_i r hr;split at hv
    .rename_i hc;cases hv;cases hx.str_inv;have hu:P.underlying t=some .string:=by
      revert hsz;split
      .intro;assumption
      .intro h1;obtain⟨_,_,h2⟩:=Ys.1 h1;cases h2
      .intro h1;cases h1
     have hb:=ZhF (P:=P) hE hlo hhi (len:=s.size) (cap:=s.size) hl hr hc.1 hc.2 false;exact .same R (by simp[Instr.sliceAt,Instr.slice,run_underlying hu,hb]) (.str_mk _)
    .cases hv
   .cases hv
  .rename_i sz' sz2 es;split at hv
   .rename_i r hr;split at hv
    .rename_i hc;obtain⟨hc1,hc2,rfl⟩:=hc;cases hv;obtain⟨el,i,hu,hi',rfl⟩:∃el i,P.underlying t=some (.slice el)/\P.info? el=some i/\sz2=i.size:=by
      revert hsz;split
      .intro h1;cases h1
      .rename_i el hu;intro h1;obtain⟨i,h2,h3⟩:=Ys.1 h1;cases h3;exact⟨el,i,hu,h2,rfl⟩
      .intro h1;cases h1
     cases hx with
     |t hT hf =>
      cases hT with
      |lst0 _ ad cap =>
       simp at hc2;subst hc2;obtain rfl:l=0:=by omega
       have hb:=ZhF (P:=P) hE hlo hhi (len:=0) (cap:=cap) hl hr (Yj _) (Yc _) true;refine .same R (val:=.slice (if cap=0 then ad else ad.map (·.add (0*i.size))) 0 cap) (by simp[Instr.sliceAt,Instr.slice,run_underlying hu,hb,sizeOf,typeInfo,hi']) ?_;simp only[List.take_nil,List.drop_nil]
       exact .t (.lst0 _ _ _) (by intro g hg;cases hg)
      |@lst _ _ g off cap c te fz fp' hne hsz' hcap hg hlen hcc =>
       have hb:=ZhF (P:=P) hE hlo hhi (len:=es.length) (cap:=cap) hl hr hc1 (by omega) true;by_cases hemp:l=r
       .subst hemp;have he:(es.take l).drop l=[]:=by simp
        rw[he];refine .same R (val:=.slice (if cap=l then some ⟨g,off,none⟩else some ((⟨g,off,none⟩:Addr).add (l*i.size))) 0 (cap-l)) (by simp[Instr.sliceAt,Instr.slice,run_underlying hu,hb,sizeOf,typeInfo,hi']) ?_;exact .t (.lst0 _ _ _) (by intro g hg;cases hg)
       .have hne':cap≠l:=by omega
        obtain⟨fq,h3,h4⟩:=hcc.mid hlen hc1 hc2;have hlen':((es.take r).drop l).length=r-l:=by simp;omega
        refine .same R (val:=.slice (some ⟨g,off+l*i.size,none⟩) (r-l) (cap-l)) (by simp[Instr.sliceAt,Instr.slice,run_underlying hu,hb,sizeOf,typeInfo,hi',hne',Jz]) ?_;have hT2:TR w (.lst i.size ((es.take r).drop l)) (.slice (some ⟨g,off+l*i.size,none⟩) ((es.take r).drop l).length (cap-l)) (g::fq):=by
         refine .lst (c:=c) (e:=te) (fz:=fz) ?_ hsz' (by omega) hg (λx hx=>hlen x (Ybl (Ycr hx))) ?_
         .intro hnil;rw[hnil]at hlen';simp at hlen';omega
         .rw[hlen'];have hm:(r-l)*i.size<=es.length*i.size-l*i.size:=by
           rw[<-Nat.sub_mul];exact Ybd _ (by omega)
          have e3:List.take ((r-l)*i.size) (List.drop (l*i.size) (List.take (es.length*i.size) (List.drop off c.toList)))=List.take ((r-l)*i.size) (List.drop (off+l*i.size) c.toList):=by
           rw[Ycq,Ycs,Yb2,Ybn hm]
          rw[e3]at h3;exact h3
        rw[hlen']at hT2
        exact .t hT2 (by
         intro g' hg'
         cases hg' with
         |head=>exact hf _ (by simp)
         |tail _ hg'=>exact hf g' (by simp[h4 g' hg']))
    .cases hv
   .cases hv
  .rename_i sz2 b;split at hv
   .rename_i el sz' fr es hgb;split at hv
    .rename_i r hr;split at hv
     .rename_i hc;obtain⟨rfl,hc2,rfl⟩:=hc;cases hv;obtain⟨el',i,hu,hi',rfl⟩:∃el i,P.underlying t=some (.slice el)/\P.info? el=some i/\sz'=i.size:=by
       revert hsz;split
       .intro h1;cases h1
       .rename_i el hu;intro h1;obtain⟨i,h2,h3⟩:=Ys.1 h1;cases h3;exact⟨el,i,hu,h2,rfl⟩
       .intro h1;cases h1
      have hd:gt h b≠.dead:=by rw[hgb];intro hc;cases hc
      obtain⟨rt,hrt,hB⟩:=R.blk b hd;rw[hgb]at hB;obtain⟨e0,xs,he0,ho,hsz0,hl1,ht1,hf1,hfr1⟩:=hB
      cases hx with
      |@own _ r2 hr2 hone =>
       rw[hrt]at hr2;cases hr2;have hfb:fr=true->Wf (gt h b)=true:=λhft=>by rw[hgb];exact hft
       have e1:es.flatten=(es.take r).flatten++(es.drop r).flatten:=by rw[<-Yce,Yb3]
       rw[e1]at ht1;obtain⟨fa,fb,hfp,h3,_⟩:=ht1.split;have hfl:(es.take r).flatten.length=r*i.size:=by
        rw[J0 λx hx=>hl1 x (Ybl hx)];simp;rw[Ybn hc2]
       rw[hfl]at h3;have hlr:(es.take r).length=r:=by simp;omega
       have hsub:∀g∈fa,g∈rt.fp:=λg hg=>by rw[hfp];simp[hg]
       have fin:∀vv,(Instr.sliceAt t rt.v (lo.map a.eval) (hi.map a.eval) ((none:Option Operand).map a.eval)).run P w=.ok vv w->w.ownsRow base e0 i.size vv r (xs.take (r*i.size))->(∀g,X6 vv=some g->X6 rt.v=some g)->
         OpOK P N base ρ h w (do pure (.value (<-Instr.sliceAt t rt.v (lo.map a.eval) (hi.map a.eval) ((none:Option Operand).map a.eval)))) (.own nx) (kill [b]++[(nx,.arr el i.size fr (es.take r))]):=by
        intro vv hrun hown hblk;have:=ZhE (P:=P) R hn (s:=(do pure (.value (<-Instr.sliceAt t rt.v (lo.map a.eval) (hi.map a.eval) ((none:Option Operand).map a.eval))))) (vv:=vv) (w':=w) (by simp at hrun;simp[hrun]) (row:=none)
         ⟨rfl,rfl,rfl,Yj _,λ_ _ _=>rfl⟩ hsz0 (es1:=es.take r) (es2:=[]) (xs1:=xs.take (r*i.size)) (xs2:=[]) (fp1:=fa) (fp2:=[]) (fr1:=fr) (f:=true) (kd:=[b]) (ks:=[])
         (by simpa[hlr]using hown) (λx hx=>hl1 x (Ybl hx)) (by simp) h3 .nil (Took.nil _) Ybf (λg hg=>hf1 g (hsub g hg))
         (λhft=>⟨by have:=(hfr1 hft).1;rw[hfp]at this;exact(Yb4.1 this).1,λg hg=>(hfr1 hft).2 g (hsub g hg)⟩)
         (by intro hft g hg d rd hdk hrd hfd hgd;exact hdk (by rw[<-R.apart b d rt rd g hrt hrd (hfb hft) hfd (hsub g hg) hgd];simp))
         (by intro _ _ _ k hk;cases hk) (by intro g hg;cases hg) (by intro g hg;exact .inr ⟨b,by simp,rt,hrt,hd,(hblk g hg)⟩) (by intro g k hk;cases hk) (lb:=el) he0
        simpa using this
       rcases ho.2 with⟨hv,hz⟩|⟨g,cap,cur,hv,hbg,hg,hcap,hmx,hcs,htake⟩
       .have he:es=[]:=Yc8 hz;subst he;simp at hc2;subst hc2;have hb:=ZhF (P:=P) hE hlo hhi (len:=0) (cap:=0) hl hr (Yj _) (Yj _) true;refine fin (.slice none 0 0) ?_ ⟨by simp,.inl ⟨rfl,rfl⟩⟩ (by intro g hg;cases hg);rw[hv];simp[Instr.sliceAt,Instr.slice,run_underlying hu,hb,sizeOf,typeInfo,hi']
       .have hb:=ZhF (P:=P) hE hlo hhi (len:=es.length) (cap:=cap) hl hr (Yc _) (by omega) true;refine fin (.slice (some ⟨g,0,none⟩) r cap) ?_ ⟨?_,.inr ⟨g,cap,cur,rfl,hbg,hg,by omega,hmx,hcs,?_⟩⟩ (by intro g' hg';rw[hv];exact hg')
        .rw[hv];simp[Instr.sliceAt,Instr.slice,run_underlying hu,hb,sizeOf,typeInfo,hi',Jz]
        .rw[Ybo,ho.1,Ybn (Ybd _ hc2)]
        .rw[<-htake,Ycs,Ybn (Ybd _ hc2)]
     .cases hv
    .cases hv
   .cases hv
  .cases hv
theorem Z1T(hf:Ze3 P t f=some (off,ut)) :
  ∃fs fd i,P.underlying t=some (.struct fs)/\fs[f]?=some fd/\P.info? fd.type=some i/\i.size≠0/\fd.offset=off/\fd.type=ut:=by
 unfold Ze3 at hf
 grind
theorem ok_faddr(R:Rel N base ρ h w)(hf:Ze3 P t f=some (off,ut))
  (hv:(match x with
  |.ptr b o=>some (AV.ptr b (o+off),([]:List (Nat×Blk)))
  |.eptr b i sz o=>some (.eptr b i sz (o+off),[])
  |.iptr cs o=>some (.iptr cs (o+off),[])
  |_=>none)=some (v,u)) (hx:RV ρ w (Free N ρ h) x xv) :
  OpOK P N base ρ h w (do pure (.value (<-Instr.fieldAt t xv f))) v u:=by
 obtain⟨fs,fd,i,hu,hfd,hi,hs,rfl,_⟩:=Z1T hf;have key:∀g o,xv=.pointer (some ⟨g,o,none⟩)->((do pure (.value (<-Instr.fieldAt t xv f))):Sem Next).run P w=.ok (.value (.pointer (some ⟨g,o+fd.offset,none⟩))) w:=by
  intro g o hxv;subst hxv;simp[Instr.fieldAt,run_underlying hu,hfd,Instr.sureAddr,fieldPlace,sizeOf,typeInfo,hi,hs,Jz]
 cases hx with
 |ptr hr hrv=>simp at hv;obtain⟨rfl,rfl⟩:=hv;exact .same R (key _ _ rfl) (.ptr hr hrv)
 |eptr hr hrv=>simp at hv;obtain⟨rfl,rfl⟩:=hv;refine .same R (key _ _ rfl) ?_;rw[Ycw];exact .eptr hr hrv
 |iptr hg hF hc hff=>simp at hv;obtain⟨rfl,rfl⟩:=hv;refine .same R (key _ _ rfl) ?_;rw[Ycw];exact .iptr hg hF hc hff
 |_=>simp at hv
theorem ok_aaddr(R:Rel N base ρ h w)(hu:P.underlying t=some (.array m el))(hi:P.info? el=some i){n:Int}(h0:0<=n)(h1:n.toNat<m)
  (hv:(match x with
  |.ptr b o=>some (AV.ptr b (o+n.toNat*i.size),([]:List (Nat×Blk)))
  |.eptr b j s o=>some (.eptr b j s (o+n.toNat*i.size),[])
  |.iptr cs o=>some (.iptr cs (o+n.toNat*i.size),[])
  |_=>none)=some (v,u)) (hx:RV ρ w (Free N ρ h) x xv) :
  OpOK P N base ρ h w (do pure (.value (<-Instr.indexAt t xv (.int k n)))) v u:=by
 have h2:n<(m:Int):=by omega
 have key:∀g o,xv=.pointer (some ⟨g,o,none⟩)->((do pure (.value (<-Instr.indexAt t xv (.int k n)))):Sem Next).run P w=.ok (.value (.pointer (some ⟨g,o+n.toNat*i.size,none⟩))) w:=by
  intro g o hxv;subst hxv;simp[Instr.indexAt,asIntOf,run_underlying hu,Instr.sureAddr,h0,h2,sizeOf,typeInfo,hi,Jz]
 cases hx with
 |ptr hr hrv=>simp at hv;obtain⟨rfl,rfl⟩:=hv;exact .same R (key _ _ rfl) (.ptr hr hrv)
 |eptr hr hrv=>simp at hv;obtain⟨rfl,rfl⟩:=hv;refine .same R (key _ _ rfl) ?_;rw[Ycw];exact .eptr hr hrv
 |iptr hg hF hc hff=>simp at hv;obtain⟨rfl,rfl⟩:=hv;refine .same R (key _ _ rfl) ?_;rw[Ycw];exact .iptr hg hF hc hff
 |_=>simp at hv
theorem ok_aidx(R:Rel N base ρ h w)(hu:P.underlying t=some (.array m el))(hi:P.info? el=some i)(hn:UO P el=some n)(hx:RV ρ w (Free N ρ h) (.agg cs) xv){j:Int}(h0:0<=j)(hj:j.toNat<m)(hv:Q7 cs (j.toNat*i.size) n=some v):OpOK P N base ρ h w (do pure (.value (<-Instr.index t xv (.int k j)))) v []:=by
 have h2:j<(m:Int):=by omega
 cases hx with
 |@agg _ c hc h1 =>
  have hag:=Zma (P:=P) hn w
  cases n with
  |none =>
   obtain⟨val,h2',h3⟩:=hc.at hv;have h2':c[j.toNat*i.size]?=some val:=by simpa using h2'
   exact .same R (by simp[Instr.index,asIntOf,run_underlying hu,h0,h2,sizeOf,typeInfo,hi,part,hag,h2']) h3
  |some q =>
   simp only[Q7]at hv;split at hv
   .rename_i hle;cases hv;obtain⟨i',hi',hk⟩:=Zq9 hn;rw[hi]at hi';cases hi';subst hk;refine .same R (val:=.agg (c.extract (j.toNat*i.size) (j.toNat*i.size+i.size))) (by simp[Instr.index,asIntOf,run_underlying hu,h0,h2,sizeOf,typeInfo,hi,part,hag]) ?_;have e:(c.extract (j.toNat*i.size) (j.toNat*i.size+i.size)).toList=(c.toList.drop (j.toNat*i.size)).take i.size:=by
     simp
    refine .agg (by rw[e];exact(hc.drop _).take _) ?_
    grind
   .cases hv
theorem ok_field(R:Rel N base ρ h w)(hf:Ze3 P t f=some (off,ut))(hn:UO P ut=some n)(hx:RV ρ w (Free N ρ h) (.agg cs) xv)
  (hv:Q7 cs off n=some v):OpOK P N base ρ h w (do pure (.value (<-Instr.field t xv f))) v []:=by
 obtain⟨fs,fd,i,hu,hfd,hi,hs,rfl,rfl⟩:=Z1T hf
 cases hx with
 |@agg _ c hc h1 =>
  have hag:=Zma (P:=P) hn w
  cases n with
  |none =>
   obtain⟨val,h2,h3⟩:=hc.at hv;have h2':c[fd.offset]?=some val:=by simpa using h2
   exact .same R (by simp[Instr.field,run_underlying hu,hfd,asAgg,part,hag,h2']) h3
  |some k =>
   simp only[Q7]at hv;split at hv
   .rename_i hle;cases hv;obtain⟨i',hi',hk⟩:=Zq9 hn;rw[hi]at hi';cases hi';subst hk;refine .same R (val:=.agg (c.extract fd.offset (fd.offset+i.size))) (by simp[Instr.field,run_underlying hu,hfd,asAgg,part,hag,sizeOf,typeInfo,hi]) ?_;have e:(c.extract fd.offset (fd.offset+i.size)).toList=(c.toList.drop fd.offset).take i.size:=by
     simp
    refine .agg (by rw[e];exact(hc.drop _).take _) ?_
    grind
   .cases hv
end
open Go.RowKit (Below)
section
variable{P:Program}{N:Par}{base:Nat}{ρ:Map}{h:V7}{w:World}{e:Env}{a:Act}{inl:V8}{ops:Array Oper}{t ty:TypeId}{x:AV}{xv:Value}{n:Nat}
theorem ok_len(R:Rel N base ρ h w){el:TypeId}(hx:RV ρ w (Free N ρ h) x xv)(hl:Uj h false x=some n)(hu:P.underlying t=some (.slice el)) :
  OpOK P N base ρ h w (do pure (.value (<-Builtin.len_ #[t] ty #[xv]))) (.t (.int .i64 (n:Int))) []:=by
 refine .same R ?_ (.int_mk _ _);have hsl:∃c m,xv=.slice c n m:=by
  cases hx with
  |t hT hf =>
   cases hT with
   |nil=>simp[Uj]at hl;subst hl;exact⟨_,_,rfl⟩
   |lst0=>simp[Uj]at hl;subst hl;exact⟨_,_,rfl⟩
   |lst=>simp[Uj]at hl;subst hl;exact⟨_,_,rfl⟩
   |_=>simp[Uj]at hl
  |@own b r' hr' hone =>
   simp only[Uj]at hl;split at hl
   .rename_i el' sz fr es hb;cases hl;obtain⟨r2,h1,h2⟩:=R.blk b (by rw[hb];intro hc;cases hc);rw[hr']at h1;cases h1;rw[hb]at h2;obtain⟨_,xs,_,ho,_⟩:=h2;rcases ho.2 with⟨hv',hz⟩|⟨g,cap,cur,hv',_⟩
    .simp_all
    .simp_all
   .cases hl
  |bsl=>simp[Uj]at hl;subst hl;exact⟨_,_,rfl⟩
  |_=>simp[Uj]at hl
 obtain⟨c,m,rfl⟩:=hsl;simp[Builtin.len_,run_underlying hu,goInt]
theorem ok_lenS(R:Rel N base ρ h w)(hx:RV ρ w (Free N ρ h) x xv)(hl:Uj h true x=some n)(hu:P.underlying t=some .string) :
  OpOK P N base ρ h w (do pure (.value (<-Builtin.len_ #[t] ty #[xv]))) (.t (.int .i64 (n:Int))) []:=by
 refine .same R ?_ (.int_mk _ _);cases x<;>try (simp[Uj]at hl;done)
 rename_i tx;cases tx<;>try (simp[Uj]at hl;done)
 simp[Uj]at hl;subst hl;rw[hx.str_inv];simp[Builtin.len_,run_underlying hu,goInt]
set_option maxHeartbeats 1000000 in
theorem op_sound{o:Oper}{k:MOp}(hk:X1 P inl ops o.op=some k)(hE:Wk ρ w (Free N ρ h) e a.tmps)(R:Rel N base ρ h w){nx:Nat}(hn:ρ nx=none){v:AV}{u:List (Nat×Blk)}
  (hev:ZK h nx e k=some (v,u)):OpOK P N base ρ h w (execOp a.eval o) v u:=by
 unfold execOp
 cases hop:o.op with
 |move x =>
  rw[hop]at hk;dsimp only;simp only[X1]at hk;obtain⟨x',hx,rfl⟩:=Option.map_eq_some_iff.1 hk;simp[ZK]at hev;obtain⟨rfl,rfl⟩:=hev
  exact .same R rfl (X2 hE hx)
 |assign x =>
  rw[hop]at hk;dsimp only;simp only[X1]at hk;obtain⟨x',hx,rfl⟩:=Option.map_eq_some_iff.1 hk;simp[ZK]at hev;obtain⟨rfl,rfl⟩:=hev
  exact .same R rfl (X2 hE hx)
 |pick c x y =>
  rw[hop]at hk;dsimp only;simp only[X1]at hk;split at hk
  .rename_i c' x' y' hc hx hy;cases hk;simp only[ZK]at hev;split at hev
   .rename_i hcv;cases hev;have h1:=X2 hE hc;rw[hcv]at h1;exact .same R (by simp[h1.bool_inv,asBool]) (X2 hE hx)
   .rename_i hcv;cases hev;have h1:=X2 hE hc;rw[hcv]at h1;exact .same R (by simp[h1.bool_inv,asBool]) (X2 hE hy)
   .cases hev
  .cases hk
 |alloc t =>
  rw[hop]at hk;dsimp only;simp only[X1]at hk;obtain⟨zs,hz,rfl⟩:=Option.map_eq_some_iff.1 hk;simp[ZK]at hev
  grind [ok_alloc]
 |box t x =>
  rw[hop]at hk;dsimp only;simp only[X1]at hk;obtain⟨x',hx,rfl⟩:=Option.map_eq_some_iff.1 hk;simp only[ZK]at hev;split at hev
  .rename_i cs hcs;cases hev;exact ok_box R hn (X2 hE hx) hcs
  .cases hev
 |build t ps =>
  rw[hop]at hk;dsimp only;simp only[X1]at hk;split at hk
  .rename_i fs zs hu hz;split at hk
   .rename_i places hp;obtain⟨qs,hq,rfl⟩:=Ys.1 hk;simp only[ZK]at hev
    grind [ok_build]
   .cases hk
  .cases hk
 |buildSlice t n ps =>
  rw[hop]at hk;dsimp only;simp only[X1]at hk;split at hk
  .rename_i el hu;split at hk
   .rename_i i hi;split at hk
    .rename_i hc;split at hk
     .rename_i qs hq;split at hk
      .rename_i zs hz;split at hk
       .rename_i hzl;cases hk;simp only[ZK]at hev
        grind [ZEk]
       .cases hk
      .rename_i hz;split at hk
       .rename_i hzz;split at hk
        .rename_i hs1;cases hk;simp only[ZK]at hev
         grind [ok_bptrs]
        .cases hk
       .cases hk
     .cases hk
    .cases hk
   .cases hk
  .cases hk
 |load t x =>
  rw[hop]at hk;dsimp only;simp only[X1]at hk;split at hk
  .rename_i n x' hnn hx;cases hk;simp only[ZK]at hev;exact ok_load R hnn hev (X2 hE hx)
  .cases hk
 |store t x y =>
  rw[hop]at hk;dsimp only;simp only[X1]at hk;split at hk
  .rename_i i x' y' hi hx hy;cases hk;split at hev
   .simp only[ZK]at hev;split at hev
    .grind [X2,ZEj]
    .cases hev
   .simp only[ZK]at hev;exact ok_store R hi (X2 hE hy) hev (X2 hE hx)
  .cases hk
 |nilCheck x =>
  rw[hop]at hk;dsimp only;simp only[X1]at hk;obtain⟨x',hx,rfl⟩:=Option.map_eq_some_iff.1 hk;have hr:=X2 hE hx;simp only[ZK]at hev;split at hev
  .rename_i b off hv;cases hev;rw[hv]at hr;obtain⟨p,hp⟩:=hr.ptr_val;exact .same R (val:=a.eval x) (by simp[hp]) hr
  .rename_i b i sz off hv;cases hev;rw[hv]at hr;obtain⟨p,hp⟩:=hr.eptr_val;exact .same R (val:=a.eval x) (by simp[hp]) hr
  .rename_i cs off hv;cases hev;rw[hv]at hr;obtain⟨p,hp⟩:=hr.iptr_val;exact .same R (val:=a.eval x) (by simp[hp]) hr
  .rename_i f cs hv;cases hev;rw[hv]at hr;obtain⟨p,hp,_⟩:=hr.fn_val;exact .same R (val:=a.eval x) (by simp[hp]) hr
  .cases hev
 |binOp op t x y ty =>
  rw[hop]at hk;dsimp only;simp only[X1]at hk;split at hk
  .rename_i x' y' hx hy;have hrx:=X2 hE hx;have hry:=X2 hE hy;have hbin:∀z,z=MOp.bin op x' y'->ZK h nx e z=some (v,u)->OpOK P N base ρ h w (do pure (.value (<-(do eqGuard op t x y (a.eval x) (a.eval y);binOp op t (a.eval x) (a.eval y))))) v u:=by
    intro z hz hev;subst hz;simp only[ZK]at hev;split at hev
    .rename_i p q hp hq;obtain⟨r,hr,he⟩:=Ys.1 hev;cases he;rw[hp]at hrx;rw[hq]at hry;obtain⟨z,hz1,hz2⟩:=ZEn (P:=P) (t:=t) (x:=x) (y:=y) hrx hry hr;exact .same R (by rw[Sem.run_bind,hz1];rfl) hz2
    .cases hev
   split at hk
   .simp_all
   .simp_all
   .rename_i hu;split at hk
    all_goals try (cases hk;done)
    all_goals
     cases hk;simp only[ZK]at hev;split at hev
     .rename_i p q hp hq;cases hev;rw[hp]at hrx;rw[hq]at hry;rw[hrx.bool_inv,hry.bool_inv];refine .same R ?_ (.bool_mk _);simp[eqGuard,binOp,Op.equal,Op.maxDepth,run_equalIn_bool' w 9999 t p q hu]
     .cases hev
   .rename_i el hu;split at hk
    .cases hk;simp only[ZK]at hev;split at hev
     .rename_i r hr;cases hev;obtain⟨c,n,m,hc,rfl⟩:=Z1O R hrx hr;refine .same R ?_ (.bool_mk _);have hy0:a.eval (.const (.slice none 0 0))=.slice none 0 0:=rfl;rw[hc,hy0];simp[eqGuard,binOp,Op.equal,Op.maxDepth,Z1Q hu 9999 c n m]
     .cases hev
    .cases hk;simp only[ZK]at hev;split at hev
     .rename_i r hr;cases hev;obtain⟨c,n,m,hc,rfl⟩:=Z1O R hrx hr;refine .same R ?_ (.bool_mk _);have hy0:a.eval (.const (.slice none 0 0))=.slice none 0 0:=rfl;rw[hc,hy0];simp[eqGuard,binOp,Op.equal,Op.maxDepth,Z1Q hu 9999 c n m]
     .cases hev
    .cases hk
   .rename_i el hu;split at hk
    .cases hk;simp only[ZK]at hev;split at hev
     .rename_i r hr;cases hev;obtain⟨c,hc,rfl⟩:=Z1P hrx hr;refine .same R ?_ (.bool_mk _);have hy0:a.eval (.const (.pointer none))=.pointer none:=rfl;rw[hc,hy0];simp[eqGuard,binOp,Op.equal,Op.maxDepth,Z1R hu 9999 c]
     .cases hev
    .cases hk;simp only[ZK]at hev;split at hev
     .rename_i r hr;cases hev;obtain⟨c,hc,rfl⟩:=Z1P hrx hr;refine .same R ?_ (.bool_mk _);have hy0:a.eval (.const (.pointer none))=.pointer none:=rfl;rw[hc,hy0];simp[eqGuard,binOp,Op.equal,Op.maxDepth,Z1R hu 9999 c]
     .cases hev
    .cases hk
   .cases hk
  .cases hk
 |unOp op t x =>
  rw[hop]at hk;dsimp only;simp only[X1]at hk;obtain⟨x',hx,rfl⟩:=Option.map_eq_some_iff.1 hk;have hr:=X2 hE hx;simp only[ZK]at hev;split at hev
  .rename_i p hp;obtain⟨r,hrr,he⟩:=Ys.1 hev;cases he;rw[hp]at hr;obtain⟨z,h1,h2⟩:=un_sound (P:=P) hr hrr;exact .same R (by simp[h1]) h2
  .cases hev
 |convert s d x =>
  rw[hop]at hk;dsimp only;simp only[X1]at hk;split at hk
  .rename_i us k hs hd;obtain⟨x',hx,rfl⟩:=Ys.1 hk;have hr:=X2 hE hx;simp only[ZK]at hev;split at hev
   .rename_i k' n hv;cases hev;rw[hv]at hr;refine .same R ?_ (.int_mk _ _);simp[hr.int_inv,convert,run_underlying hs,run_underlying hd,Conv.intToInt]
   .cases hev
  .cases hk
 |makeFunc fn first caps =>
  rw[hop]at hk;dsimp only;cases fn<;>try (simp[X1]at hk;done)
  simp only[X1]at hk;split at hk
  .rename_i hfe;obtain⟨cs,hcs,rfl⟩:=Ys.1 hk;simp[ZK]at hev;obtain⟨rfl,rfl⟩:=hev;have hf0:first=#[]:=by simpa using hfe
   subst hf0;refine .same R (val:=.func (.func _) #[] (caps.map a.eval)) (by simp[Instr.makeFunc]) (.fn ?_)
   simp_all [Yb5,Ze4]
  .cases hk
 |makeSlice t l c =>
  rw[hop]at hk;dsimp only;simp only[X1]at hk;split at hk
  .rename_i el hu;split at hk
   .rename_i i zs l' c' hi hz hl hc;split at hk
    .rename_i hcond;cases hk;have hrl:=X2 hE hl;have hrc:=X2 hE hc;simp only[ZK]at hev;split at hev
     .rename_i kl lv kc cv hlv hcv;split at hev
      .rename_i hb;cases hev;rw[hlv]at hrl;rw[hcv]at hrc;simp only[hrl.int_inv,hrc.int_inv]
       grind [ZEl]
      .cases hev
     .cases hev
    .cases hk
   .cases hk
  .cases hk
 |slice t x lo hi mx =>
  rw[hop]at hk;dsimp only
  cases mx with
  |some m=>simp[X1]at hk
  |none =>
   simp only[X1]at hk;split at hk
   .rename_i sz x' lo' hi' hsz hx hlo hhi;cases hk;simp only[ZK]at hev;exact ok_slice R hn hE hlo hhi hev hsz (X2 hE hx)
   .cases hk
 |fieldAddr t x f =>
  rw[hop]at hk;dsimp only;simp only[X1]at hk;split at hk
  .rename_i off ut x' hf hx;cases hk;simp only[ZK]at hev;exact ok_faddr R hf hev (X2 hE hx)
  .cases hk
 |field t x f =>
  rw[hop]at hk;dsimp only;simp only[X1]at hk;split at hk
  .rename_i off ut x' hf hx;obtain⟨n,hnn,rfl⟩:=Ys.1 hk;have hr:=X2 hE hx;simp only[ZK]at hev
   grind [Option.map_eq_some_iff,ok_field]
  .cases hk
 |indexAddr t x i =>
  rw[hop]at hk;dsimp only;simp only[X1]at hk;split at hk
  .rename_i el hu;split at hk
   .rename_i inf x' i' hinf hx hi;cases hk;have hri:=X2 hE hi;simp only[ZK]at hev;split at hev
    .rename_i k n hin;rw[hin]at hri;split at hev
     .rename_i h0;simp only[hri.int_inv];exact ok_iaddr R hu hinf h0 hev (X2 hE hx)
     .cases hev
    .cases hev
   .cases hk
  .rename_i m el hu;split at hk
   .rename_i inf x' i' hinf hx hi;cases hk;have hri:=X2 hE hi;simp only[ZK]at hev;split at hev
    .rename_i k n hin;rw[hin]at hri;split at hev
     .rename_i h0;simp only[hri.int_inv];exact ok_aaddr R hu hinf h0.1 h0.2 hev (X2 hE hx)
     .cases hev
    .cases hev
   .cases hk
  .cases hk
 |index t x i =>
  rw[hop]at hk;dsimp only;simp only[X1]at hk;split at hk
  .rename_i x' i' hu hx hi;cases hk;have hrx:=X2 hE hx;have hri:=X2 hE hi;simp only[ZK]at hev;split at hev
   .rename_i s k n hxs hin;split at hev
    .rename_i h0;split at hev
     .rename_i b hb;cases hev;rw[hxs]at hrx;rw[hin]at hri;refine .same R ?_ (.int_mk _ _);simp[hrx.str_inv,hri.int_inv,Instr.index,asIntOf,run_underlying hu,h0,hb]
     .cases hev
    .cases hev
   .cases hev
  .rename_i m el x' i' hu hx hi;split at hk
   .rename_i inf q hinf hq;cases hk;have hrx:=X2 hE hx;have hri:=X2 hE hi;simp only[ZK]at hev;split at hev
    .rename_i k n hin;rw[hin]at hri;split at hev
     .rename_i h0;split at hev
      .rename_i cs hcs;obtain⟨v',hv',he⟩:=Ys.1 hev;cases he;rw[hcs]at hrx;simp only[hri.int_inv]
       grind [ok_aidx]
      .cases hev
     .cases hev
    .cases hev
   .cases hk
  .cases hk
 |extract x i =>
  rw[hop]at hk;dsimp only;simp only[X1]at hk;obtain⟨x',hx,rfl⟩:=Option.map_eq_some_iff.1 hk;have hr:=X2 hE hx;simp only[ZK]at hev;split at hev
  .rename_i vs hvs;obtain⟨v',hv',he⟩:=Ys.1 hev;cases he;rw[hvs]at hr;obtain⟨c,hc,hcs⟩:=hr.tup_val;obtain⟨val,h1,h2⟩:=hcs.at hv';have h1':c[i]?=some val:=by simpa using h1
   exact .same R (by simp[hc,Instr.extract,h1']) h2
  .cases hev
 |call c =>
  rw[hop]at hk;dsimp only;obtain⟨callee,args,argTypes⟩:=c
  cases callee with
  |invoke r m=>simp[X1]at hk
  |value f =>
   cases f<;>simp only[X1]at hk
   .split at hk
    .cases hk;simp[ZK]at hev
    .cases hk
   .split at hk
    .cases hk;simp[ZK]at hev
    .cases hk
   .split at hk
    .cases hk;simp[ZK]at hev
    .cases hk
   .split at hk
    .obtain⟨as,_,rfl⟩:=Ys.1 hk;unfold callK at hev
     repeat' split at hev
     all_goals simp[ZK]at hev
    .cases hk
  |builtin b =>
   cases b<;>try (simp[X1]at hk;done)
   case len =>
    simp only[X1]at hk;split at hk
    .rename_i x t hargs hts;have hargs':args=#[x]:=by rw[<-Ycj];exact hargs
     have hts':argTypes=#[t]:=by rw[<-Ycj];exact hts
     subst hargs';subst hts';have hshape:(do let d <-resolve a.eval { callee:=.builtin .len,args:=#[x],argTypes:=#[t] } o.type;invoke d.target d.args:Sem Next)=(do pure (.value (<-Builtin.len_ #[t] o.type #[a.eval x]))):=by
      simp[resolve,invoke,builtin]
     rw[hshape];split at hk
     .rename_i el hu;obtain⟨x',hx,rfl⟩:=Ys.1 hk;simp only[ZK]at hev;split at hev
      .rename_i n hl;cases hev;exact ok_len R (X2 hE hx) hl hu
      .cases hev
     .rename_i hu;obtain⟨x',hx,rfl⟩:=Ys.1 hk;simp only[ZK]at hev;split at hev
      .rename_i n hl;cases hev;exact ok_lenS R (X2 hE hx) hl hu
      .cases hev
     .cases hk
    .cases hk
   case append =>
    simp only[X1]at hk;split at hk
    .rename_i x y t t' hargs hts;have hargs':args=#[x,y]:=by rw[<-Ycj];exact hargs
     have hts':argTypes=#[t,t']:=by rw[<-Ycj];exact hts
     subst hargs';subst hts';split at hk
     .rename_i el el' hu hu';split at hk
      .rename_i i x' y' hi hx hy;split at hk
       .rename_i z hz;split at hk
        .rename_i hcond;obtain⟨hsz,hzs,rfl,hun⟩:=hcond;cases hk;simp only[ZK]at hev;split at hev
         .rename_i ys f ks hs;obtain⟨h1,h2⟩:=ZEm (P:=P) (ty:=o.type) R hn hu hi hz hzs hsz (X2 hE hx) (X2 hE hy) hs hun;have hshape:(do let d <-resolve a.eval { callee:=.builtin .append,args:=#[x,y],argTypes:=#[t,t] } o.type;invoke d.target d.args:Sem Next) =
            (do pure (.value (<-Builtin.append_ #[t,t] o.type #[a.eval x,a.eval y]))):=by
           simp[resolve,invoke,builtin]
          grind
         .cases hev
        .cases hk
       .cases hk
      .cases hk
     .cases hk
    .cases hk
   case max =>
    simp only[X1]at hk;split at hk
    .rename_i x y hargs;have hargs':args=#[x,y]:=by rw[<-Ycj];exact hargs
     subst hargs';split at hk
     .rename_i x' y' hx hy;cases hk;have hrx:=X2 hE hx;have hry:=X2 hE hy;simp only[ZK]at hev;split at hev
      .rename_i k1 p k2 q hp hq;cases hev;rw[hp]at hrx;rw[hq]at hry;refine .same R ?_ (.int_mk _ _);simp[resolve,invoke,builtin,hrx.int_inv,hry.int_inv,run_max_int2]
      .cases hev
     .cases hk
    .cases hk
   case min =>
    simp only[X1]at hk;split at hk
    .rename_i x y hargs;have hargs':args=#[x,y]:=by rw[<-Ycj];exact hargs
     subst hargs';split at hk
     .rename_i x' y' hx hy;cases hk;have hrx:=X2 hE hx;have hry:=X2 hE hy;simp only[ZK]at hev;split at hev
      .rename_i k1 p k2 q hp hq;cases hev;rw[hp]at hrx;rw[hq]at hry;refine .same R ?_ (.int_mk _ _);simp[resolve,invoke,builtin,hrx.int_inv,hry.int_inv,run_min_int2]
      .cases hev
     .cases hk
    .cases hk
 |_=>rw[hop]at hk;simp[X1]at hk
end
open Go.RowKit (Below)
section
variable{N:Par}{base:Nat}{ρ ρ':Map}{h:V7}{w w':World}{F F':Nat->Prop}{ids:V8}{a:AV}{v:Value}{f:Nat->Nat}{as:V2}{vs:KI}{b g:Nat}{e:Env}{tmps:Array Value}{N':Par}
theorem RV.ren(h:RV ρ w F a v):∀(f:Nat->Nat),(∀b∈refs a,∀r,ρ b=some r->ρ' (f b)=some r)->(∀g,g<w.heap.size->F g->F' g)->RV ρ' w F' (AM.ren f a) v:=by
 refine RV.rec (motive_1:=λa v _=>∀(f:Nat->Nat),(∀b∈refs a,∀r,ρ b=some r->ρ' (f b)=some r)->(∀g,g<w.heap.size->F g->F' g)->RV ρ' w F' (AM.ren f a) v)
  (motive_2:=λas vs _=>∀(f:Nat->Nat),(∀b∈ZS as,∀r,ρ b=some r->ρ' (f b)=some r)->(∀g,g<w.heap.size->F g->F' g)->RVs ρ' w F' (AM.rens f as) vs) ?_ ?_ ?_ ?_ ?_ ?_ ?_ ?_ ?_ ?_ ?_ ?_ ?_ h
 .intro v f _ _;exact .top v
 .intro f _ _;exact .nilp
 .intro x v fp h hf f _ hF;exact .t h λg hg=>hF g (h.lt g hg) (hf g hg)
 .intro cs c _ h1 ih f hr hF;exact .agg (ih f (by simpa[refs]using hr) hF) h1
 .intro cs c _ ih f hr hF;exact .tup (ih f (by simpa[refs]using hr) hF)
 .intro b off g r hr hv f hf _;exact .ptr (hf b (by simp[refs]) r hr) hv
 .intro b i sz off g n cap r hr hv f hf _;exact .eptr (hf b (by simp[refs]) r hr) hv
 .intro cs off g o c e fz fp hg hFg hc hfp f _ hF;exact .iptr hg (hF g (Ycd.1 hg).1 hFg) hc λg hg=>hF g (hc.lt g hg) (hfp g hg)
 .intro b r hr h1 f hf _;exact .own (hf b (by simp[refs]) r hr) h1
 .intro b n g r hr hv f hf _;exact .bsl (hf b (by simp[refs]) r hr) hv
 .intro g cs c _ ih f hr hF;exact .fn (ih f (by simpa[refs]using hr) hF)
 .intro f _ _;exact .nil
 .intro a v as vs _ _ ih1 ih2 f hr hF;exact .cons (ih1 f (λb hb=>hr b (by simp[ZS,hb])) hF) (ih2 f (λb hb=>hr b (by simp[ZS,hb])) hF)
theorem RVs.ren(h:RVs ρ w F as vs)(f:Nat->Nat)(hr:∀b∈ZS as,∀r,ρ b=some r->ρ' (f b)=some r)(hF:∀g,g<w.heap.size->F g->F' g):RVs ρ' w F' (rens f as) vs:=by
 induction as generalizing vs with
 |nil=>cases h;exact .nil
 |cons a as ih=>cases h with|cons h hs=>exact .cons (h.ren f (λb hb=>hr b (by simp[ZS,hb])) hF) (ih hs λb hb=>hr b (by simp[ZS,hb]))
theorem RV.scal(h:RV ρ w F a v):∀(f:Nat->Nat),(∀b∈refs a,∀r,ρ b=some r->ρ' (f b)=some r)->QW a=true->RV ρ' w F' (AM.ren f a) v:=by
 refine RV.rec (motive_1:=λa v _=>∀(f:Nat->Nat),(∀b∈refs a,∀r,ρ b=some r->ρ' (f b)=some r)->QW a=true->RV ρ' w F' (AM.ren f a) v)
  (motive_2:=λas vs _=>∀(f:Nat->Nat),(∀b∈ZS as,∀r,ρ b=some r->ρ' (f b)=some r)->UK as=true->RVs ρ' w F' (AM.rens f as) vs) ?_ ?_ ?_ ?_ ?_ ?_ ?_ ?_ ?_ ?_ ?_ ?_ ?_ h
 .intro v f _ _;exact .top v
 .intro f _ _;exact .nilp
 .intro x v fp h hf f _ hs;refine .t h λg hg=>?_
  cases h<;>first|(simp[QW,XN]at hs;done)|cases hg
 .intro cs c _ h1 ih f hr hs;exact .agg (ih f (by simpa[refs]using hr) hs) h1
 .intro cs c _ ih f hr hs;exact .tup (ih f (by simpa[refs]using hr) hs)
 .intro b off g r hr hv f hf _;exact .ptr (hf b (by simp[refs]) r hr) hv
 .intro b i sz off g n cap r hr hv f hf _;exact .eptr (hf b (by simp[refs]) r hr) hv
 .intro cs off g o c e fz fp hg hFg hc hfp f _ hs;simp[QW]at hs
 .intro b r hr h1 f hf _;exact .own (hf b (by simp[refs]) r hr) h1
 .intro b n g r hr hv f hf _;exact .bsl (hf b (by simp[refs]) r hr) hv
 .intro g cs c _ ih f hr hs;exact .fn (ih f (by simpa[refs]using hr) hs)
 .intro f _ _;exact .nil
 .intro a v as vs _ _ ih1 ih2 f hr hs;simp only[UK,Yg]at hs;exact .cons (ih1 f (λb hb=>hr b (by simp[ZS,hb])) hs.1) (ih2 f (λb hb=>hr b (by simp[ZS,hb])) hs.2)
theorem RVs.scal(h:RVs ρ w F as vs)(f:Nat->Nat)(hr:∀b∈ZS as,∀r,ρ b=some r->ρ' (f b)=some r)(hs:UK as=true):RVs ρ' w F' (rens f as) vs:=by
 induction as generalizing vs with
 |nil=>cases h;exact .nil
 |cons a as ih =>
  simp only[UK,Yg]at hs;cases h with|cons h hs'=>exact .cons (h.scal f (λb hb=>hr b (by simp[ZS,hb])) hs.1) (ih hs' (λb hb=>hr b (by simp[ZS,hb])) hs.2)
theorem RV.scalX(h:RV ρ w F a v):∀(f:Nat->Nat),(∀b∈refs a,∀r,ρ b=some r->∃r1,ρ' (f b)=some r1/\r1.v=r.v)->QW a=true->RV ρ' w F' (AM.ren f a) v:=by
 refine RV.rec (motive_1:=λa v _=>∀(f:Nat->Nat),(∀b∈refs a,∀r,ρ b=some r->∃r1,ρ' (f b)=some r1/\r1.v=r.v)->QW a=true->RV ρ' w F' (AM.ren f a) v)
  (motive_2:=λas vs _=>∀(f:Nat->Nat),(∀b∈ZS as,∀r,ρ b=some r->∃r1,ρ' (f b)=some r1/\r1.v=r.v)->UK as=true->RVs ρ' w F' (AM.rens f as) vs) ?_ ?_ ?_ ?_ ?_ ?_ ?_ ?_ ?_ ?_ ?_ ?_ ?_ h
 .intro v f _ _;exact .top v
 .intro f _ _;exact .nilp
 .intro x v fp h hf f _ hs;refine .t h λg hg=>?_
  cases h<;>first|(simp[QW,XN]at hs;done)|cases hg
 .intro cs c _ h1 ih f hr hs;exact .agg (ih f (by simpa[refs]using hr) hs) h1
 .intro cs c _ ih f hr hs;exact .tup (ih f (by simpa[refs]using hr) hs)
 .intro b off g r hr hv f hf _;obtain⟨r1,q1,q2⟩:=hf b (by simp[refs]) r hr;exact .ptr q1 (q2.trans hv)
 .intro b i sz off g n cap r hr hv f hf _;obtain⟨r1,q1,q2⟩:=hf b (by simp[refs]) r hr;exact .eptr q1 (q2.trans hv)
 .intro cs off g o c e fz fp hg hFg hc hfp f _ hs;simp[QW]at hs
 .intro b r hr h1 f hf _;obtain⟨r1,q1,q2⟩:=hf b (by simp[refs]) r hr;rw[<-q2];exact .own q1 (by rw[q2];exact h1)
 .intro b n g r hr hv f hf _;obtain⟨r1,q1,q2⟩:=hf b (by simp[refs]) r hr;exact .bsl q1 (q2.trans hv)
 .intro g cs c _ ih f hr hs;exact .fn (ih f (by simpa[refs]using hr) hs)
 .intro f _ _;exact .nil
 .intro a v as vs _ _ ih1 ih2 f hr hs;simp only[UK,Yg]at hs;exact .cons (ih1 f (λb hb=>hr b (by simp[ZS,hb])) hs.1) (ih2 f (λb hb=>hr b (by simp[ZS,hb])) hs.2)
theorem RVs.scalX(h:RVs ρ w F as vs)(f:Nat->Nat)(hr:∀b∈ZS as,∀r,ρ b=some r->∃r1,ρ' (f b)=some r1/\r1.v=r.v)(hs:UK as=true):RVs ρ' w F' (rens f as) vs:=by
 induction as generalizing vs with
 |nil=>cases h;exact .nil
 |cons a as ih =>
  simp only[UK,Yg]at hs;cases h with|cons h hs'=>exact .cons (h.scalX f (λb hb=>hr b (by simp[ZS,hb])) hs.1) (ih hs' (λb hb=>hr b (by simp[ZS,hb])) hs.2)
theorem Zmd(n:Nat):∀(todo acc:V8),acc.Nodup->(XW h n todo acc).Nodup:=by
 induction n with
 |zero=>intro todo acc ha;cases todo<;>simpa[XW]using ha
 |succ n ih =>
  intro todo acc ha
  cases todo with
  |nil=>simpa[XW]using ha
  |cons b todo =>
   simp only[XW]
   grind
theorem Z1U(hb:b∈ids)(k:Nat):∃i,idx b ids k=k+i/\ids[i]?=some b:=by
 induction ids generalizing k with
 |nil=>cases hb
 |cons c ids ih =>
  simp only[idx];split
  .simp_all
  .rename_i hc
   cases hb with
   |head=>exact absurd rfl hc
   |tail _ hb =>
    obtain⟨i,h1,h2⟩:=ih hb (k+1);exact⟨i+1,by rw[h1];omega,by simpa using h2⟩
def renM(ρ:Map)(ids:V8):Map:=λi=>match ids[i]? with
 |some b=>ρ b
 |none=>none
theorem ZhG(hb:b∈ids):renM ρ ids (idx b ids 0)=ρ b:=by
 obtain⟨i,h1,h2⟩:=Z1U hb 0;simp[renM,h1,h2]
theorem Ze6(i:Nat):gt (ids.map λb=>renB f (gt h b)) i=match ids[i]? with|some b=>renB f (gt h b)|none=>.dead:=by
 unfold gt
 grind
theorem J1{x:Blk}:Wf (renB f x)=Wf x:=by cases x<;>rfl
theorem Zme(hg:Free N ρ h g)(hn:N'.a g):Free N' (renM ρ ids) (ids.map λb=>renB f (gt h b)) g:=by
 refine⟨hn,?_⟩;intro i r hr hd;rw[Ze6]at hd;simp only[renM]at hr
 cases hi:ids[i]? with
 |none=>simp[hi]at hr
 |some b =>
  simp only[hi]at hr hd;exact hg.2 b r hr λhc=>hd (by rw[hc];rfl)
theorem ZhH(hg:Free N ρ h g):Free N (renM ρ ids) (ids.map λb=>renB f (gt h b)) g:=Zme hg hg.1
theorem Rel.renN(R:Rel N base ρ h w)(hnd:ids.Nodup)(hcl:∀b∈ids,∀c∈VB (gt h b),c∈ids)(hn:∀g,w.heap.size<=g->N'.a g/\N'.f g)
  (hO:∀b∈ids,∀r g,ρ b=some r->gt h b≠.dead->X6 r.v=some g->N'.a g/\N'.f g) (hF:∀g,Free N ρ h g->N'.a g) (hfr:∀b∈ids,∀r,ρ b=some r->Wf (gt h b)=true->∀g∈r.fp,N'.f g) :
  Rel N' base (renM ρ ids) (ids.map λb=>renB (λc=>idx c ids 0) (gt h b)) w:=by
 have inj_of:∀{i j:Nat} {b:Nat},ids[i]?=some b->ids[j]?=some b->i=j:=by
  intro i j b hi hj;obtain⟨h1,h2⟩:=Ybh.1 hi;obtain⟨h3,h4⟩:=Ybh.1 hj;rcases Ycx i j with hlt|rfl|hlt
  .exact absurd (h2.trans h4.symm) (Ybv.1 hnd i j h1 h3 hlt)
  .rfl
  .exact absurd (h4.trans h2.symm) (Ybv.1 hnd j i h3 h1 hlt)
 refine⟨R.hb,hn,?_,?_,?_,?_⟩
 .intro i r g hr hd hg;rw[Ze6]at hd;simp only[renM]at hr
  cases hi:ids[i]? with
  |none=>simp[hi]at hr
  |some b =>
   simp only[hi]at hr hd;exact hO b (Y8 hi) r g hr (λhc=>hd (by rw[hc];rfl)) hg
 .intro i hd;rw[Ze6]at hd|-
  cases hi:ids[i]? with
  |none=>simp[hi]at hd
  |some b =>
   simp only[hi]at hd|-;have hb:b∈ids:=Y8 hi;obtain⟨r,h1,h2⟩:=R.blk b λhc=>hd (by rw[hc];rfl)
   refine⟨r,by simp[renM,hi,h1],?_⟩
   cases hx:gt h b with
   |dead=>trivial
   |box cs =>
    rw[hx]at h2;obtain⟨g,c,e,h3,h4,h5,h6,h7⟩:=h2
    exact⟨g,c,e,h3,h4,h5,h6.ren _ (λc hc r hr=>by
     have hci:c∈ids:=hcl b hb c (by rw[hx];exact hc)
     rw[ZhG hci];exact hr) λg _ hg=>Zme hg (hF g hg),h7⟩
   |arr e sz fr es =>
    rw[hx]at h2;obtain⟨e',xs,he',h3,h4,h5,h6,h7,h8⟩:=h2;exact⟨e',xs,he',h3,h4,h5,h6,λg hg=>Zme (h7 g hg) (hF g (h7 g hg)),λhf=>⟨(h8 hf).1,hfr b hb r h1 (by rw[hx];exact hf)⟩⟩
 .intro i j r r' g hr hr' hd hd' hg hg';rw[Ze6]at hd hd';simp only[renM]at hr hr'
  cases hi:ids[i]? with
  |none=>simp[hi]at hr
  |some b =>
   cases hj:ids[j]? with
   |none=>simp[hj]at hr'
   |some c =>
    simp only[hi]at hr hd;simp only[hj]at hr' hd';have:=R.inj b c r r' g hr hr' (λhc=>hd (by rw[hc];rfl)) (λhc=>hd' (by rw[hc];rfl)) hg hg';subst this;exact inj_of hi hj
 .intro i j r r' g hr hr' hf hf' hg hg';rw[Ze6]at hf hf';simp only[renM]at hr hr'
  cases hi:ids[i]? with
  |none=>simp[hi]at hr
  |some b =>
   cases hj:ids[j]? with
   |none=>simp[hj]at hr'
   |some c =>
    simp only[hi,J1]at hr hf;simp only[hj,J1]at hr' hf';have:=R.apart b c r r' g hr hr' hf hf' hg hg';subst this;exact inj_of hi hj
theorem Rel.fresh(R:Rel N base ρ h w){r:Root}(hr:ρ b=some r)(hf:Wf (gt h b)=true):∀g∈r.fp,N.f g/\Free N ρ h g/\g<w.heap.size:=by
 obtain⟨r',h1,h2⟩:=R.blk b (JY hf);rw[hr]at h1;cases h1
 cases hx:gt h b with
 |dead=>rw[hx]at hf;cases hf
 |box cs=>rw[hx]at hf;cases hf
 |arr e sz fr es =>
  rw[hx]at h2 hf;obtain⟨_,xs,_,_,_,_,h6,h7,h8⟩:=h2;exact λg hg=>⟨(h8 hf).2 g hg,h7 g hg,h6.lt g hg⟩
theorem Rel.ren(R:Rel N base ρ h w)(hnd:ids.Nodup)(hcl:∀b∈ids,∀c∈VB (gt h b),c∈ids) :
  Rel N base (renM ρ ids) (ids.map λb=>renB (λc=>idx c ids 0) (gt h b)) w :=
 R.renN hnd hcl R.hN (λ_ _ _ _=>R.hO _ _ _) (λ_ hg=>hg.1) (λ_ _ _ hr hf g hg=>(R.fresh hr hf g hg).1)
theorem ZqG{i:Nat}(hi:ids.length<=i):renM ρ ids i=none:=by
 simp[renM,List.getElem?_eq_none hi]
theorem lk_ren(f:Nat->Nat)(e:Env)(s:Nat):lk s (renE f e)=ren f (lk s e):=by
 induction e with
 |nil=>rfl
 |cons p e ih =>
  obtain⟨k,v⟩:=p;simp only[renE,Y0,lk]at ih|-
  grind
theorem refs_lk(e:Env)(s:Nat):∀b∈refs (lk s e),b∈K5 e:=by
 induction e with
 |nil=>intro b hb;simp[lk,refs]at hb
 |cons p e ih =>
  obtain⟨k,v⟩:=p;intro b hb;simp only[K5,Ybq,Yu]at ih|-;simp only[lk]at hb
  grind
theorem Wk.ren(hE:Wk ρ w F e tmps)(f:Nat->Nat)(hr:∀b∈K5 e,∀r,ρ b=some r->ρ' (f b)=some r)(hF:∀g,g<w.heap.size->F g->F' g):Wk ρ' w F' (renE f e) tmps:=by
 intro s;rw[lk_ren];exact(hE s).ren f (λb hb=>hr b (refs_lk e s b hb)) hF
theorem lk_rst(keep:V8)(e:Env)(s:Nat):lk s (rst keep e)=if s∈keep then lk s e else .top:=by
 induction keep with
 |nil=>rfl
 |cons k keep ih =>
  simp only[rst,Y0,lk]at ih|-
  grind
theorem Wk.rst(hE:Wk ρ w F e tmps)(keep:V8):Wk ρ w F (rst keep e) tmps:=by
 intro s;rw[lk_rst];split
 .exact hE s
 .exact .top _
theorem lk_scrub(e:Env)(s:Nat):lk s (Zcp h e)=scrub h (lk s e):=by
 induction e with
 |nil=>rfl
 |cons p e ih =>
  obtain⟨k,v⟩:=p;simp only[Zcp,Y0,lk]at ih|-
  grind
theorem RV.scrub(hv:RV ρ w F a v):RV ρ w F (scrub h a) v:=by
 unfold AM.scrub;split
 .split
  .exact .top _
  .exact hv
 .exact hv
theorem Wk.scrub(hE:Wk ρ w F e tmps):Wk ρ w F (Zcp h e) tmps:=by
 intro s;rw[lk_scrub];exact(hE s).scrub
theorem Zmf{rs:V8}(hc:Qg h ids rs=true):(∀b∈rs,b∈ids)/\∀b∈ids,∀c∈VB (gt h b),c∈ids:=by
 simp only[Qg,Yg,Yl,List.contains_iff_mem]at hc;exact hc
end
open Go.RowKit (Below)
section
variable{N:Par}{A:Nat->Prop}{base:Nat}{ρ ρc:Map}{h hr:V7}{w w':World}{n b:Nat}
def VC(ρ ρc:Map)(n len:Nat):Map:=λb=>if n<=b/\b<n+len then ρc (b-n)else ρ b
theorem Zcu(n:Nat):∀(bs:V7) (i:Nat) (h:V7) (b:Nat),gt (upd h (newU n bs i)) b=if n+i<=b/\b<n+i+bs.length then renB (λc=>c+n) (gt bs (b-(n+i)))else gt h b
 |[],i,h,b=>by simp[newU,upd];intro h1 h2;omega
 |x::bs,i,h,b=>by
  simp only[newU,upd];rw[Zcu n bs (i+1),K8];by_cases h1:b=n+i
  .subst h1;rw[Ynx,Ya rfl,Ya (by simp)];simp[gt]
  .by_cases h2:n+(i+1)<=b/\b<n+(i+1)+bs.length
   .have h3:n+i<=b/\b<n+i+(x::bs).length:=by simp;omega
    rw[Ya h2,Ya h3]
    have:b-(n+i)=(b-(n+(i+1)))+1:=by omega
    rw[this];simp[gt]
   .grind
theorem ZqH(n:Nat):∀(bs:V7) (i b:Nat),b∈(newU n bs i).map Prod.fst↔n+i<=b/\b<n+i+bs.length
 |[],i,b=>by simp[newU]
 |x::bs,i,b=>by
  simp only[newU,Y0,Yba,ZqH n bs (i+1),Yw];omega
theorem frB_arr{e sz:Nat}{fr:Bool}{es:V5}(hf:hr.all frB=true)(hb:gt hr b=.arr e sz fr es):fr=true:=by
 unfold gt at hb
 cases hx:hr[b]? with
 |none=>simp[hx]at hb
 |some x =>
  simp[hx]at hb;subst hb;have:=Yl.1 hf _ (Y8 hx);exact this
theorem frB_box{cs:V2}(hf:hr.all frB=true)(hb:gt hr b=.box cs):UK cs=true:=by
 unfold gt at hb
 cases hx:hr[b]? with
 |none=>simp[hx]at hb
 |some x =>
  simp[hx]at hb;subst hb;exact Yl.1 hf _ (Y8 hx)
def calP(w:World)(A:Nat->Prop):Par:=⟨λg=>w.heap.size<=g\/A g,λg=>w.heap.size<=g,λ_=>False⟩
structure QZ (N:Par) (A:Nat->Prop) (base:Nat) (ρ:Map) (h:V7) (w:World) (ρc:Map) (hr:V7) (w':World) (n:Nat):Prop where
 R:Rel N base ρ h w
 B:Below w.heap.size w w'
 Rc:Rel (calP w A) w.heap.size ρc hr w'
 new:∀b,n<=b->b<n+hr.length->ρ b=none
 dom:∀b,hr.length<=b->ρc b=none
 share:(∀g,A g->Free N ρ h g)\/hr.all frB=true
theorem QZ.free_new(J:QZ N A base ρ h w ρc hr w' n){g:Nat}(hg:Free (calP w A) ρc hr g)(hs:w.heap.size<=g\/∀g,A g->Free N ρ h g) :
  Free N (VC ρ ρc n hr.length) (upd h (newU n hr 0)) g:=by
 have hor:w.heap.size<=g\/Free N ρ h g:=by
  rcases hs with hs|hs
  .exact .inl hs
  .exact hg.1.imp id (hs g)
 refine⟨?_,?_⟩
 .rcases hor with h1|h1
  .exact(J.R.hN g h1).1
  .exact h1.1
 .intro b r hb hd he;rw[Zcu]at hd;simp only[Ybt]at hd;simp only[VC]at hb;by_cases hc:n<=b/\b<n+hr.length
  .rw[Ya hc]at hb hd;exact hg.2 (b-n) r hb (λhx=>hd (by rw[hx];rfl)) he
  .rw[Yb hc]at hb hd;have:=J.R.lt hb hd he;rcases hor with h1|h1
   .omega
   .exact h1.2 b r hb hd he
theorem QZ.keeps(J:QZ N A base ρ h w ρc hr w' n):WD ρ w (Free N ρ h) (VC ρ ρc n hr.length) w' (Free N (VC ρ ρc n hr.length) (upd h (newU n hr 0))):=by
 constructor
 .intro b r hb;refine⟨r,?_,rfl⟩;simp only[VC];rw[Yb λhc=>by rw[J.new b hc.1 hc.2]at hb;cases hb];exact hb
 .intro g hlt hf;refine⟨⟨hf.1,?_⟩,J.B.block g hlt⟩;intro b r hb hd he;rw[Zcu]at hd;simp only[Ybt]at hd;simp only[VC]at hb;by_cases hc:n<=b/\b<n+hr.length
  .rw[Ya hc]at hb hd;have:=J.Rc.lt hb (λhx=>hd (by rw[hx];rfl)) he;omega
  .rw[Yb hc]at hb hd;exact hf.2 b r hb hd he
theorem QZ.root(J:QZ N A base ρ h w ρc hr w' n){r:Root}(hb:ρc b=some r):VC ρ ρc n hr.length (b+n)=some r:=by
 have hlt:b<hr.length:=by
  rcases Yck b hr.length with h1|h1
  .exact h1
  .rw[J.dom b h1]at hb;cases hb
 simp only[VC]
 grind
theorem QZ.rel(J:QZ N A base ρ h w ρc hr w' n):Rel N base (VC ρ ρc n hr.length) (upd h (newU n hr 0)) w':=by
 have hk:=J.keeps;have hsplit:∀b r,VC ρ ρc n hr.length b=some r->gt (upd h (newU n hr 0)) b≠.dead->
   (ρ b=some r/\gt h b≠.dead/\gt (upd h (newU n hr 0)) b=gt h b)\/(n<=b/\ρc (b-n)=some r/\gt hr (b-n)≠.dead/\gt (upd h (newU n hr 0)) b=renB (λc=>c+n) (gt hr (b-n))):=by
  intro b r hb hd;rw[Zcu]at hd|-;simp only[Ybt]at hd|-;simp only[VC]at hb;by_cases hc:n<=b/\b<n+hr.length
  .rw[Ya hc]at hb hd|-;exact .inr ⟨hc.1,hb,λhx=>hd (by rw[hx];rfl),rfl⟩
  .grind
 refine⟨Yr J.R.hb J.B.size,λg hl=>J.R.hN g (Yr J.B.size hl),?_,?_,?_,?_⟩
 .intro b r g hb hd hg;rcases hsplit b r hb hd with⟨h1,h2,_⟩|⟨h0,h1,h2,_⟩
  .exact J.R.hO b r g h1 h2 hg
  .exact J.R.hN g (J.Rc.lt h1 h2 hg).1
 .intro b hd;have hd':=hd;rw[Zcu]at hd;simp only[Ybt]at hd;by_cases hc:n<=b/\b<n+hr.length
  .rw[Ya hc]at hd;obtain⟨r,h1,h2⟩:=J.Rc.blk (b-n) λhx=>hd (by rw[hx];rfl)
   refine⟨r,by simp only[VC];rw[Ya hc];exact h1,?_⟩;rw[Zcu];simp only[Ybt];rw[Ya hc]
   cases hx:gt hr (b-n)with
   |dead=>trivial
   |box cs =>
    rw[hx]at h2;obtain⟨g,c,e,h3,h4,h5,h6,h7⟩:=h2;refine⟨g,c,e,h3,Yr J.R.hb h4,h5,?_,h7⟩;rcases J.share with hs|hs
    .exact h6.ren _ (λc _ r hr'=>J.root hr') λg _ hg=>J.free_new hg (.inr hs)
    .exact h6.scal _ (λc _ r hr'=>J.root hr') (frB_box hs hx)
   |arr e sz fr es =>
    rw[hx]at h2;obtain⟨e',xs,he',h3,h4,h5,h6,h7,h8⟩:=h2;refine⟨e',xs,he',ZEc J.R.hb h3,h4,h5,h6,λg hg=>?_,λhf=>⟨(h8 hf).1,λg hg=>(J.R.hN g ((h8 hf).2 g hg)).2⟩⟩;rcases J.share with hs|hs
    .exact J.free_new (h7 g hg) (.inr hs)
    .exact J.free_new (h7 g hg) (.inl ((h8 (frB_arr hs hx)).2 g hg))
  .rw[Yb hc]at hd;obtain⟨r,h1,h2⟩:=J.R.blk b hd;refine⟨r,by simp only[VC];rw[Yb hc];exact h1,?_⟩;rw[Zcu];simp only[Ybt];rw[Yb hc];exact h2.keep hk λg hg=>J.B.block g (h2.lt hd hg).2
 .intro b b' r r' g hb hb' hd hd' hg hg';rcases hsplit b r hb hd with⟨h1,h2,_⟩|⟨h0,h1,h2,_⟩<;>rcases hsplit b' r' hb' hd' with⟨h3,h4,_⟩|⟨h0',h3,h4,_⟩
  .exact J.R.inj b b' r r' g h1 h3 h2 h4 hg hg'
  .have q1:=(J.R.lt h1 h2 hg).2;have q2:=(J.Rc.lt h3 h4 hg').1;omega
  .have q1:=(J.R.lt h3 h4 hg').2;have q2:=(J.Rc.lt h1 h2 hg).1;omega
  .have:=J.Rc.inj (b-n) (b'-n) r r' g h1 h3 h2 h4 hg hg';omega
 .intro b b' r r' g hb hb' hf hf' hg hg';have lt_of:∀b r,ρ b=some r->Wf (gt h b)=true->∀g∈r.fp,g<w.heap.size:=by
   intro b r hb hf g hg;obtain⟨r2,h1,h2⟩:=J.R.blk b (JY hf);rw[hb]at h1;cases h1
   cases hx:gt h b with
   |dead=>rw[hx]at hf;cases hf
   |box cs=>rw[hx]at hf;cases hf
   |arr e sz fr es=>rw[hx]at h2;obtain⟨_,xs,_,_,_,_,h6,_⟩:=h2;exact h6.lt g hg
  have ge_of:∀b r,ρc b=some r->Wf (gt hr b)=true->∀g∈r.fp,w.heap.size<=g:=by
   intro b r hb hf g hg;obtain⟨r2,h1,h2⟩:=J.Rc.blk b (JY hf);rw[hb]at h1;cases h1
   cases hx:gt hr b with
   |dead=>rw[hx]at hf;cases hf
   |box cs=>rw[hx]at hf;cases hf
   |arr e sz fr es =>
    rw[hx]at h2 hf;obtain⟨_,xs,_,_,_,_,_,_,h8⟩:=h2;exact(h8 hf).2 g hg
  rcases hsplit b r hb (JY hf)with⟨h1,h2,e1⟩|⟨h0,h1,h2,e1⟩<;>rcases hsplit b' r' hb' (JY hf')with⟨h3,h4,e2⟩|⟨h0',h3,h4,e2⟩
  .rw[e1]at hf;rw[e2]at hf';exact J.R.apart b b' r r' g h1 h3 hf hf' hg hg'
  .grind [J1]
  .grind [J1]
  .rw[e1,J1]at hf;rw[e2,J1]at hf';have:=J.Rc.apart (b-n) (b'-n) r r' g h1 h3 hf hf' hg hg';omega
theorem QZ.val(J:QZ N A base ρ h w ρc hr w' n){r:AV}{v:Value}(hv:RV ρc w' (Free (calP w A) ρc hr) r v)(hs:(∀g,A g->Free N ρ h g)\/QW r=true) :
  RV (VC ρ ρc n hr.length) w' (Free N (VC ρ ρc n hr.length) (upd h (newU n hr 0))) (shift n r) v:=by
 rcases hs with hs|hs
 .exact hv.ren _ (λb _ r hr'=>J.root hr') λg _ hg=>J.free_new hg (.inr hs)
 .exact hv.scal _ (λb _ r hr'=>J.root hr') hs
end
open Go.RowKit (Below)
section
variable{P:Program}{N:Par}{base:Nat}{ρ:Map}{h:V7}{w:World}{v d:AV}{val:Value}
theorem Z1V(R:Rel N base ρ h w){x:T}(hf:frzT h v=some x)(hv:RV ρ w (Free N ρ h) v val):∃fp,TR w x val fp/\∀g∈fp,N.a g:=by
 cases v<;>try (simp[frzT]at hf;done)
 .simp[frzT]at hf;subst hf
  cases hv with
  |t hT hf=>exact⟨_,hT,λg hg=>(hf g hg).1⟩
 .rename_i b;simp only[frzT]at hf;split at hf
  .rename_i el sz fr es hb;cases hf
   cases hv with
   |own hr hone =>
    have hd:gt h b≠.dead:=by rw[hb];intro hc;cases hc
    obtain⟨fp,hT,_,hg⟩:=ZhD R hr hb;obtain⟨r',h1,h2⟩:=R.blk b hd;rw[hr]at h1;cases h1;rw[hb]at h2;obtain⟨_,_,_,_,_,_,_,hfree,_⟩:=h2;exact⟨fp,hT,λg hg'=>(hg g hg').elim (λq=>(R.hO b _ g hr hd q).1) λq=>(hfree g q).1⟩
  .cases hf
theorem Z1W(R:Rel N base ρ h w):∀{cs:V2} {ts:KS} {vs:KI},Ux h cs=some ts->RVs ρ w (Free N ρ h) cs vs->∃fp,TRs w ts vs fp/\∀g∈fp,N.a g
 |[],ts,vs,hg,hv=>by simp[Ux]at hg;subst hg;cases hv;exact⟨[],.nil,λg hg=>by cases hg⟩
 |c::cs,ts,vs,hg,hv=>by
  cases hv with
  |cons h1 h2 =>
   simp only[Ux]at hg;split at hg
   .rename_i x xs hx hxs;cases hg;obtain⟨fp,h3,h4⟩:=Z1V R hx h1;obtain⟨fq,h5,h6⟩:=Z1W R hxs h2;exact⟨fp++fq,.cons h3 h5,λg hg=>(Yu.1 hg).elim (h4 g) (h6 g)⟩
   .cases hg
theorem Z1X(R:Rel N base ρ h w)(hp:givA v=true)(hf:frz h v=some d)(hv:RV ρ w (Free N ρ h) v val):RV (λ_=>none) w N.a d val:=by
 cases v<;>try (simp[givA]at hp;done)
 .simp[frz,frz1]at hf;subst hf
  cases hv with
  |t hT hf=>exact .t hT λg hg=>(hf g hg).1
 .rename_i cs;simp only[frz,frz1]at hf;split at hf
  .rename_i ds hds;cases hf
   cases hv with
   |agg hc h1 =>
    obtain⟨fp,h3,h4⟩:=Z1W R hds hc;exact .agg (RVs.of_TRs h3 h4) h1
  .cases hf
 .rename_i b;have hv':=hv
  have:∃x,frzT h (.own b)=some x/\d=.t x:=by
   simp only[frz,frz1]at hf;simp only[frzT]
   grind
  obtain⟨x,hx,rfl⟩:=this;obtain⟨fp,h3,h4⟩:=Z1V R hx hv';exact .t h3 h4
theorem Z1Y(R:Rel N base ρ h w):∀{vs ds:V2} {vals:KI},vs.all givA=true->frzs h vs=some ds->RVs ρ w (Free N ρ h) vs vals->RVs (λ_=>none) w N.a ds vals
 |[],ds,vals,_,hf,hv=>by simp[frzs]at hf;subst hf;cases hv;exact .nil
 |v::vs,ds,vals,hp,hf,hv=>by
  simp only[Y5,Yg]at hp
  cases hv with
  |cons h1 h2 =>
   simp only[frzs]at hf;split at hf
   .rename_i x xs hx hxs;cases hf;exact .cons (Z1X R hp.1 hx h1) (Z1Y R hp.2 hxs h2)
   .cases hf
theorem ZEo(R:Rel N base ρ h w)(hf:frzR h v=some d)(hv:RV ρ w (Free N ρ h) v val):RV (λ_=>none) w N.a d val:=by
 unfold frzR at hf;split at hf
 .split at hf
  .rename_i hg;split at hf
   .rename_i ds hds;cases hf
    cases hv with
    |tup hc=>exact .tup (Z1Y R hg hds hc)
   .cases hf
  .cases hf
 .grind [Z1X]
end
open Go.RowKit (Below)
abbrev VU:Map:=λ_=>none
def Wr(P:Program):Ctr:=λf args h0 r h1=>K7 P f=true/\∀(N:Par) (base:Nat) (w:World) (ρ:Map) (vs:Array Value),Rel N base ρ h0 w->(∀b,h0.length<=b->ρ b=none)->
 RVs ρ w (Free N ρ h0) args vs.toList->(∀g,N.z g->Free N ρ h0 g)->
 Calls P f vs w λe w'=>∃v ρ',e=.returned v/\Below base w w'/\Rel N base ρ' h1 w'/\RV ρ' w' (Free N ρ' h1) r v/\(∀b,h1.length<=b->ρ' b=none)/\h0.length<=h1.length/\
  (∀g,g<w.heap.size->¬N.a g->w'.heap[g]?=w.heap[g]?)/\(∀g,g<w.heap.size->N.z g->Free N ρ' h1 g/\w'.heap[g]?=w.heap[g]?)/\
  ∀b r0,b<h0.length->ρ b=some r0->∃r1,ρ' b=some r1/\r1.v=r0.v
def Rel.empty{N:Par}{base:Nat}{w:World}(hb:base<=w.heap.size)(hN:∀g,w.heap.size<=g->N.a g/\N.f g):Rel N base VU [] w :=
 ⟨hb,hN,λb r g hr=>(by cases hr),λb hb=>absurd (by simp[gt]) hb,λb b' r r' g hb=>(by cases hb),λb b' r r' g hb=>(by cases hb)⟩
def Wr.data{P:Program}{f:Nat}{args:V2}{r:AV}{hr:V7}(h:Wr P f args [] r hr)(w:World)(A:Nat->Prop)(vs:Array Value)(hv:RVs VU w A args vs.toList) :
  Calls P f vs w λe w'=>∃v ρ,e=.returned v/\Below w.heap.size w w'/\Rel (calP w A) w.heap.size ρ hr w'/\RV ρ w' (Free (calP w A) ρ hr) r v/\∀b,hr.length<=b->ρ b=none:=by
 have hk:WD VU w A VU w (Free (calP w A) VU []):=⟨λb r hb=>(by cases hb),λg _ hg=>⟨⟨.inr hg,λb r hb=>(by cases hb)⟩,rfl⟩⟩;refine(h.2 (calP w A) w.heap.size w VU vs (.empty (Yj _) λg hg=>⟨.inl hg,hg⟩) (λ_ _=>rfl) (hv.keep hk) (λg hg=>hg.elim)).mono ?_
 grind
section
variable{P:Program}{N:Par}{base:Nat}{ρ:Map}{h:V7}{w:World}{e:Env}{a:Act}{inl:V8}{ops:Array Oper}{F:Nat->Prop}{f:Nat}{v d r:AV}{val:Value}{vs as:V2}{o:Oper}{vals:Array Value}{hr:V7}{K:Act->World->Prop}{Q:Exit->Act->World->Prop}
theorem frzT_rel(R:Rel N base ρ h w){x:T}(hf:frzT h v=some x)(hv:RV ρ w (Free N ρ h) v val)(hF:(refs v=[]/\∀g,Free N ρ h g->F g)\/∀g,F g):∃fp,TR w x val fp/\∀g∈fp,F g:=by
 cases v<;>try (simp[frzT]at hf;done)
 .simp[frzT]at hf;subst hf
  cases hv with
  |t hT hf=>exact⟨_,hT,λg hg=>hF.elim (λh2=>h2.2 g (hf g hg)) λh2=>h2 g⟩
 .rename_i b;simp only[frzT]at hf;split at hf
  .rename_i el sz fr es hb;cases hf;rcases hF with hF|hF
   .simp[refs]at hF
   .cases hv with
    |own hr hone =>
     grind [ZhD]
  .cases hf
theorem ZqI{F:Nat->Prop}(R:Rel N base ρ h w):∀{cs:V2} {ts:KS} {vs:KI},Ux h cs=some ts->RVs ρ w (Free N ρ h) cs vs->((ZS cs=[]/\∀g,Free N ρ h g->F g)\/∀g,F g)->∃fp,TRs w ts vs fp/\∀g∈fp,F g
 |[],ts,vs,hg,hv,_=>by simp[Ux]at hg;subst hg;cases hv;exact⟨[],.nil,λg hg=>by cases hg⟩
 |c::cs,ts,vs,hg,hv,hF=>by
  cases hv with
  |cons h1 h2 =>
   simp only[Ux]at hg;split at hg
   .rename_i x xs hx hxs;cases hg;obtain⟨fp,h3,h4⟩:=frzT_rel R hx h1 (hF.imp (λ⟨q1,q2⟩=>⟨by simp[ZS]at q1;exact q1.1,q2⟩) id);obtain⟨fq,h5,h6⟩:=ZqI R hxs h2 (hF.imp (λ⟨q1,q2⟩=>⟨by simp[ZS]at q1;exact q1.2,q2⟩) id);exact⟨fp++fq,.cons h3 h5,λg hg=>(Yu.1 hg).elim (h4 g) (h6 g)⟩
   .cases hg
theorem Z1Z(R:Rel N base ρ h w)(hf:frz1 h v=some d)(hv:RV ρ w (Free N ρ h) v val)(hF:(refs v=[]/\∀g,Free N ρ h g->F g)\/∀g,F g):RV VU w F d val:=by
 cases v<;>try (simp[frz1]at hf;done)
 .simp[frz1]at hf;subst hf;cases hv;exact .nilp
 .simp[frz1]at hf;subst hf
  cases hv with
  |t hT hf=>exact .t hT λg hg=>hF.elim (λh2=>h2.2 g (hf g hg)) λh2=>h2 g
 .rename_i cs;simp only[frz1]at hf;split at hf
  .rename_i ds hds;cases hf
   cases hv with
   |agg hc h1 =>
    obtain⟨fp,h3,h4⟩:=ZqI R hds hc (hF.imp (λ⟨q1,q2⟩=>⟨by simpa[refs]using q1,q2⟩) id);exact .agg (RVs.of_TRs h3 h4) h1
  .cases hf
 .rename_i b off;simp only[frz1]at hf;split at hf
  .rename_i cs hb;split at hf
   .rename_i ts hts;cases hf;rcases hF with hF|hF
    .simp[refs]at hF
    .cases hv with
     |ptr hr hv =>
      obtain⟨r',h1,h2⟩:=R.blk b (by rw[hb];intro hc;cases hc);rw[hr]at h1;cases h1;rw[hb]at h2;obtain⟨g',c,te,hv2,_,hh,hcs,hone⟩:=h2;rw[hv]at hv2;cases hv2;obtain⟨fp,h3,h4⟩:=ZqI R hts hcs (.inr hF);have hl:ts.length=c.toList.length:=h3.length;have:=RV.iptr (ρ:=VU) (F:=F) (o:=0) (off:=off) hh (hF _) (by rw[Ym,hl,Y2];exact h3) (λg _=>hF g);simpa using this
   .cases hf
  .cases hf
 .simp[frz1]at hf;subst hf
  cases hv with
  |iptr hg hF' hc hf=>exact .iptr hg (hF.elim (λh2=>h2.2 _ hF') λh2=>h2 _) hc λg hg=>hF.elim (λh2=>h2.2 g (hf g hg)) λh2=>h2 g
 .rename_i b;simp only[frz1]at hf;split at hf
  .rename_i el sz fr es hb;cases hf;rcases hF with hF|hF
   .simp[refs]at hF
   .cases hv with
    |own hr hone =>
     obtain⟨fp,hT,_⟩:=ZhD R hr hb;exact .t hT λg _=>hF g
  .cases hf
theorem Z2a{F:Nat->Prop}(R:Rel N base ρ h w):∀{vs ds:V2} {vals:KI},JV h vs=some ds->RVs ρ w (Free N ρ h) vs vals->((ZS vs=[]/\∀g,Free N ρ h g->F g)\/∀g,F g)->RVs VU w F ds vals
 |[],ds,vals,hf,hv,_=>by simp[JV]at hf;subst hf;cases hv;exact .nil
 |v::vs,ds,vals,hf,hv,hF=>by
  cases hv with
  |cons h1 h2 =>
   simp only[JV]at hf;split at hf
   .rename_i x xs hx hxs;cases hf;exact .cons (Z1Z R hx h1 (hF.imp (λ⟨q1,q2⟩=>⟨by simp[ZS]at q1;exact q1.1,q2⟩) id)) (Z2a R hxs h2 (hF.imp (λ⟨q1,q2⟩=>⟨by simp[ZS]at q1;exact q1.2,q2⟩) id))
   .cases hf
theorem frz_rel(R:Rel N base ρ h w)(hf:frz h v=some d)(hv:RV ρ w (Free N ρ h) v val)(hF:(refs v=[]/\∀g,Free N ρ h g->F g)\/∀g,F g):RV VU w F d val:=by
 by_cases hx:∃g cs,v=.fn g cs
 .obtain⟨g,cs,rfl⟩:=hx;simp only[frz]at hf;split at hf
  .rename_i ds hds;cases hf
   cases hv with
   |fn hc=>exact .fn (Z2a R hds hc (hF.imp (λ⟨q1,q2⟩=>⟨by simpa[refs]using q1,q2⟩) id))
  .cases hf
 .have:frz h v=frz1 h v:=by
   cases v<;>first|rfl|exact absurd ⟨_,_,rfl⟩ hx
  grind [Z1Z]
theorem ZqJ(R:Rel N base ρ h w){ds:V2}{vals:KI}(hf:frzs h vs=some ds)(hv:RVs ρ w (Free N ρ h) vs vals)(hF:(ZS vs=[]/\∀g,Free N ρ h g->F g)\/∀g,F g):RVs VU w F ds vals:=by
 induction vs generalizing ds vals with
 |nil=>simp[frzs]at hf;subst hf;cases hv;exact .nil
 |cons v vs ih =>
  cases hv with
  |cons h1 h2 =>
   simp only[frzs]at hf;split at hf
   .rename_i x xs hx hxs;cases hf;exact .cons (frz_rel R hx h1 (hF.imp (λ⟨q1,q2⟩=>⟨by simp[ZS]at q1;exact q1.1,q2⟩) id)) (ih hxs h2 (hF.imp (λ⟨q1,q2⟩=>⟨by simp[ZS]at q1;exact q1.2,q2⟩) id))
   .cases hf
theorem Z2b(hc:K7 P f=true)(args:Array Value)(w:World):(callFunc f args).run P w=.ok (.enter f args) w:=by
 unfold K7 at hc;split at hc
 .rename_i fn hfn;simp only[Yg,bne_iff_ne,ne_eq]at hc
  cases hb:fn.body with
  |none=>simp[hb]at hc
  |some c=>simp[callFunc,hfn,hc.2,hb]
 .cases hc
def opR(Γ:Ctr)(h:V7)(nx:Nat)(e:Env)(k:MOp)(v:AV)(u:List (Nat×Blk)):Prop:=match k with
 |.call f args=>∃as,frzs h (args.map (ev e))=some as/\∃r hr,Γ f as [] r hr/\(UL (args.map (ev e)) || frR r hr)=true/\v=shift nx r/\u=newU nx hr 0
 |.fcall f args=>∃as,frzs h (args.map (ev e))=some as/\UL (args.map (ev e))=true/\∃r hr,Γ f as [] r hr/\frzR hr r=some v/\u=[]
 |.icall f args=>Qh Γ f (args.map (ev e)) h nx λv' u'=>v=v'/\u=u'
 |.pcall f args=>Jv Γ f (args.map (ev e)) h nx λv' u'=>v=v'/\u=u'
 |.dcall f args=>∃g caps,ev e f=.fn g caps/\Qh Γ g (args.map (ev e)++caps) h nx λv' u'=>v=v'/\u=u'
 |k=>ZK h nx e k=some (v,u)
structure Ka (N:Par) (base:Nat) (ρ:Map) (h:V7) (w:World) (v:AV) (u:List (Nat×Blk)) (val:Value) (w':World) (ρ':Map):Prop where
 val:RV ρ' w' (Free N ρ' (upd h u)) v val
 rel:Rel N base ρ' (upd h u) w'
 keeps:WD ρ w (Free N ρ h) ρ' w' (Free N ρ' (upd h u))
 same:∀b,b ∉ u.map Prod.fst->ρ b=none->ρ' b=none
 below:Below base w w'
 kn:∀g,g<w.heap.size->¬N.a g->w'.heap[g]?=w.heap[g]?
def named:MOp->Option (Nat×List Opd)
 |.call f args=>some (f,args)
 |.fcall f args=>some (f,args)
 |.icall f args=>some (f,args)
 |.pcall f args=>some (f,args)
 |_=>none
theorem ZhI{op:Op}{k:MOp}(hk:X1 P inl ops op=some k) :
  (∀f args,named k=some (f,args)->∃c,op=.call c/\c.callee=.value (.func f)/\mapO opd c.args.toList=some args/\K7 P f=true)/\
  (∀x args,k=.dcall x args->∃c y,op=.call c/\c.callee=.value y/\opd y=some x/\mapO opd c.args.toList=some args):=by
 cases op with
 |call c =>
  obtain⟨callee,as,ts⟩:=c
  cases callee with
  |invoke r m=>simp[X1]at hk
  |builtin b =>
   have:named k=none/\(∀x args,k≠.dcall x args):=by
    cases b<;>simp only[X1]at hk<;>(repeat' split at hk)<;>first
     |cases hk;done
     |(cases hk;exact⟨rfl,by simp⟩)
     |(obtain⟨_,_,rfl⟩:=Ys.1 hk;exact⟨rfl,by simp⟩)
   simp_all
  |value y =>
   cases y with
   |func f =>
    simp only[X1]at hk;split at hk
    .rename_i hc;obtain⟨as',h1,h2⟩:=Ys.1 hk;have hn:named k=some (f,as')/\∀x args,k≠.dcall x args:=by
      subst h2;unfold callK
      repeat' split
      all_goals exact⟨rfl,by simp⟩
     simp_all
    .cases hk
   |tmp t =>
    simp only[X1]at hk;split at hk
    .rename_i x as' hx has;cases hk;refine⟨by simp[named],?_⟩
     simp_all
    .cases hk
   |const v =>
    simp only[X1]at hk;split at hk
    .rename_i x as' hx has;cases hk;refine⟨by simp[named],?_⟩
     simp_all
    .cases hk
   |global g =>
    simp only[X1]at hk;split at hk
    .rename_i x as' hx has;simp[opd]at hx
    .cases hk
 |makeFunc fn first caps =>
  have:named k=none/\(∀x args,k≠.dcall x args):=by
   cases fn<;>simp only[X1]at hk<;>(repeat' split at hk)<;>first
    |(cases hk;done)
    |(cases hk;exact⟨rfl,by simp⟩)
    |(obtain⟨_,_,rfl⟩:=Ys.1 hk;exact⟨rfl,by simp⟩)
  simp_all
 |slice t x lo hi mx =>
  have:named k=none/\(∀x args,k≠.dcall x args):=by
   cases mx<;>simp only[X1]at hk<;>(repeat' split at hk)<;>first
    |(cases hk;done)
    |(cases hk;exact⟨rfl,by simp⟩)
    |(obtain⟨_,_,rfl⟩:=Ys.1 hk;exact⟨rfl,by simp⟩)
  simp_all
 |_ =>
  have:named k=none/\(∀x args,k≠.dcall x args):=by
   simp only[X1]at hk<;>(repeat' split at hk)<;>first
    |(cases hk;done)
    |(cases hk;exact⟨rfl,by simp⟩)
    |(obtain⟨_,_,rfl⟩:=Ys.1 hk;exact⟨rfl,by simp⟩)
  exact⟨λf args h=>(by rw[this.1]at h;cases h),λx args h=>absurd h (this.2 x args)⟩
theorem Zmg{c:Call}(ho:o.op=.call c)(hc:c.callee=.value (.func f))(hcl:K7 P f=true)(w:World):(execOp a.eval o).run P w=.ok (.enter f (c.args.map a.eval)) w:=by
 unfold execOp;rw[ho];simp[resolve,hc,Act.eval,Deferred.ofValue,invoke,Z2b hcl]
theorem ZEp(R:Rel N base ρ h w){nx:Nat}(hargs:RVs ρ w (Free N ρ h) vs vals.toList)(hu:∀b,b∈(newU nx hr 0).map Prod.fst->nx<=b->ρ b=none)
  (hfz:frzs h vs=some as) (hG:Wr P f as [] r hr) (hsh:(UL vs || frR r hr)=true) (hex:(execOp a.eval o).run P w=.ok (.enter f vals) w) (hK:∀val w' ρ',Ka N base ρ h w (shift nx r) (newU nx hr 0) val w' ρ'->K (a.put o.dst val) w'):o.wp P a w K Q:=by
 have hnew:∀b,nx<=b->b<nx+hr.length->ρ b=none:=by
  simp_all [ZqH]
 have main:∀A:Nat->Prop,RVs VU w A as vals.toList->((∀g,A g->Free N ρ h g)\/frR r hr=true)->o.wp P a w K Q:=by
  intro A hA hs;unfold Oper.wp;rw[hex];show Calls P f vals w _;refine(hG.data w A _ hA).mono ?_;rintro e w' ⟨val,ρc,rfl,hB,hRc,hv,hdom⟩;have J:QZ N A base ρ h w ρc hr w' nx:=⟨R,hB,hRc,hnew,hdom,hs.imp id λhf=>by simp only[frR,Yg]at hf;exact hf.2⟩;refine hK val w' (VC ρ ρc nx hr.length) ⟨J.val hv (hs.imp id λhf=>by simp only[frR,Yg]at hf;exact hf.1),J.rel,J.keeps,?_,hB.mono R.hb,λg hg _=>hB.block g hg⟩;intro b hb hb0;rw[ZqH]at hb;simp only[VC]
  grind
 simp only[Ycy]at hsh;rcases hsh with hsh|hsh
 .have h0:ZS vs=[]:=by simpa[UL]using hsh
  exact main (Free N ρ h) (ZqJ R hfz hargs (.inl ⟨h0,λ_ h=>h⟩)) (.inl λ_ h=>h)
 .exact main (λ_=>True) (ZqJ R hfz hargs (.inr λ_=>trivial)) (.inr hsh)
theorem ZEq(R:Rel N base ρ h w)(hargs:RVs ρ w (Free N ρ h) vs vals.toList)
  (hfz:frzs h vs=some as) (hno:UL vs=true) (hG:Wr P f as [] r hr) (hd:frzR hr r=some d) (hex:(execOp a.eval o).run P w=.ok (.enter f vals) w) (hK:∀val w' ρ',Ka N base ρ h w d [] val w' ρ'->K (a.put o.dst val) w'):o.wp P a w K Q:=by
 have h0:ZS vs=[]:=by simpa[UL]using hno
 have hA:RVs VU w (Free N ρ h) as vals.toList:=ZqJ R hfz hargs (.inl ⟨h0,λ_ h=>h⟩);unfold Oper.wp;rw[hex];show Calls P f vals w _;refine(hG.data w (Free N ρ h) _ hA).mono ?_;rintro e w' ⟨val,ρc,rfl,hB,hRc,hv,hdom⟩;have hv':=ZEo hRc hd hv;have J:QZ N (Free N ρ h) base ρ h w VU [] w' h.length:=⟨R,hB,Rel.empty hB.size hRc.hN,λb h1 h2=>absurd h2 (by simp;omega),λb _=>rfl,.inl λ_ h=>h⟩;have e1:VC ρ VU h.length ([]:V7).length=ρ:=by
  funext b;simp only[VC,Ybj,Ybt];rw[Ynx]
 have e2:upd h (newU h.length [] 0)=h:=rfl;have q1:=J.rel;have q2:=J.keeps;rw[e1,e2]at q1 q2;refine hK val w' ρ ⟨?_,q1,q2,λb _ hb=>hb,hB.mono R.hb,λg hg _=>hB.block g hg⟩;refine hv'.keep ⟨λb r hb=>(by cases hb),λg hg hf=>⟨?_,rfl⟩⟩;have:=J.free_new (g:=g) ⟨hf,λb r hb=>(by cases hb)⟩ (.inr λ_ h=>h);rw[e1,e2]at this;exact this
end
open Go.RowKit (Below)
section
variable{P:Program}{N:Par}{base:Nat}{ρ:Map}{h:V7}{w:World}{e:Env}{a:Act}{inl:V8}{ops:Array Oper}{ids:V8}{i nx b m:Nat}{F:Nat->Prop}{ρ1:Map}
theorem RV.root{x:AV}{v:Value}(hv:RV ρ w F x v):∀b∈refs x,∃r,ρ b=some r:=by
 refine RV.rec (motive_1:=λx v _=>∀b∈refs x,∃r,ρ b=some r) (motive_2:=λxs vs _=>∀b∈ZS xs,∃r,ρ b=some r) ?_ ?_ ?_ ?_ ?_ ?_ ?_ ?_ ?_ ?_ ?_ ?_ ?_ hv
 .intro v b hb;cases hb
 .intro b hb;cases hb
 .intro x v fp _ _ b hb;cases hb
 .intro cs c _ _ ih;simpa[refs]using ih
 .intro cs c _ ih;simpa[refs]using ih
 .intro b off g r hr _ c hc;simp[refs]at hc;subst hc;exact⟨r,hr⟩
 .intro b i sz off g n cap r hr _ c hc;simp[refs]at hc;subst hc;exact⟨r,hr⟩
 .intro cs off g o c e fz fp _ _ _ _ b hb;cases hb
 .intro b r hr _ c hc;simp[refs]at hc;subst hc;exact⟨r,hr⟩
 .intro b n g r hr _ c hc;simp[refs]at hc;subst hc;exact⟨r,hr⟩
 .intro f cs c _ ih;simpa[refs]using ih
 .intro b hb;cases hb
 .intro x v xs vs _ _ ih1 ih2 b hb;simp only[ZS,Yu]at hb
  grind
theorem RVs.root{xs:V2}{vs:KI}(hv:RVs ρ w F xs vs):∀b∈ZS xs,∃r,ρ b=some r:=by
 induction xs generalizing vs with
 |nil=>intro b hb;cases hb
 |cons x xs ih =>
  cases hv with
  |cons h1 h2 =>
   intro b hb;simp only[ZS,Yu]at hb;exact hb.elim (h1.root b) (ih h2 b)
theorem ZqK{p:Nat->Prop}(hc:∀b,p b->∀c∈VB (gt h b),p c):∀(n:Nat) (todo acc:V8),(∀b∈todo,p b)->(∀b∈acc,p b)->∀b∈XW h n todo acc,p b
 |0,_,_,_,ha,b,hb=>ha b (by simpa[XW]using hb)
 |n+1,[],acc,_,ha,b,hb=>ha b (by simpa[XW]using hb)
 |n+1,c::todo,acc,ht,ha,b,hb=>by
  simp only[XW]at hb;split at hb
  .exact ZqK hc n todo acc (λb hb=>ht b (by simp[hb])) ha b hb
  .refine ZqK hc n _ _ (λb hb=>?_) (λb hb=>?_) b hb
   .grind
   .grind
theorem Rel.refs_root(R:Rel N base ρ h w)(b:Nat):∀c∈VB (gt h b),∃r,ρ c=some r:=by
 intro c hc
 cases hx:gt h b with
 |dead=>rw[hx]at hc;cases hc
 |arr e sz fr es=>rw[hx]at hc;cases hc
 |box cs =>
  obtain⟨r,h1,h2⟩:=R.blk b (by rw[hx];intro hc;cases hc);rw[hx]at h2 hc;obtain⟨g,c',e',_,_,_,h6,_⟩:=h2;exact h6.root c hc
theorem Z2c(R:Rel N base ρ h w){vs:V2}{vals:KI}(hv:RVs ρ w (Free N ρ h) vs vals):∀b∈Xj h vs,∃r,ρ b=some r :=
 ZqK (p:=λb=>∃r,ρ b=some r) (λb _ c hc=>R.refs_root b c hc) 200 (ZS vs) [] (λb hb=>hv.root b hb) (λb hb=>by cases hb)
theorem idx_at(hnd:ids.Nodup)(hi:ids[i]?=some b):idx b ids 0=i:=by
 obtain⟨j,h1,h2⟩:=Z1U (Y8 hi) 0;rw[Yv]at h1
 grind [List.getElem?_eq_some_iff,Nat.lt_trichotomy,List.pairwise_iff_getElem]
theorem J3(hi:ids[i]?=some b):bk ids nx i=b:=by simp[bk,hi]
theorem bk_ge(hi:ids.length<=i):bk ids nx i=nx+(i-ids.length):=by simp[bk,List.getElem?_eq_none hi]
theorem bk_inj(hnd:ids.Nodup)(hn:∀j,j<m-ids.length->nx+j ∉ ids){j:Nat}(hi:i<m)(hj:j<m)(he:bk ids nx i=bk ids nx j):i=j:=by
 rcases Yck i ids.length with h1|h1<;>rcases Yck j ids.length with h2|h2
 .have e1:ids[i]?=some ids[i]:=by simp[h1]
  have e2:ids[j]?=some ids[j]:=by simp[h2]
  rw[J3 e1,J3 e2]at he;rw[<-idx_at hnd e1,<-idx_at hnd e2,he]
 .have e1:ids[i]?=some ids[i]:=by simp[h1]
  rw[J3 e1,bk_ge h2]at he;exact absurd (he▸Y8 e1) (hn _ (by omega))
 .have e2:ids[j]?=some ids[j]:=by simp[h2]
  rw[J3 e2,bk_ge h1]at he;exact absurd (he.symm▸Y8 e2) (hn _ (by omega))
 .grind [bk_ge]
theorem ZhJ(ids:V8)(nx:Nat):∀(bs:V7) (i b:Nat),b∈(W1 ids nx bs i).map Prod.fst↔∃j,i<=j/\j<i+bs.length/\bk ids nx j=b
 |[],i,b=>by simp[W1];intro j h1 h2;omega
 |x::bs,i,b=>by
  simp only[W1,Y0,Yba,ZhJ ids nx bs (i+1),Yw]
  grind
theorem Zmh(ids:V8)(nx:Nat):∀(bs:V7) (i:Nat) (h:V7) (b:Nat),(∀j,i<=j->j<i+bs.length->bk ids nx j≠b)->gt (upd h (W1 ids nx bs i)) b=gt h b
 |[],i,h,b,_=>rfl
 |x::bs,i,h,b,hb=>by
  simp only[W1,upd];rw[Zmh ids nx bs (i+1) _ b (λj h1 h2=>hb j (by omega) (by simp;omega)),K8,Yb λhe=>hb i (Yj _) (by simp) he.symm]
theorem ZqL(ids:V8)(nx:Nat):∀(bs:V7) (i:Nat) (h:V7),(∀j k,i<=j->j<i+bs.length->i<=k->k<i+bs.length->bk ids nx j=bk ids nx k->j=k)->∀j,i<=j->j<i+bs.length->
  gt (upd h (W1 ids nx bs i)) (bk ids nx j)=renB (bk ids nx) (gt bs (j-i))
 |[],i,h,_,j,h1,h2=>by simp at h2;omega
 |x::bs,i,h,hinj,j,h1,h2=>by
  simp only[Yw]at h2 hinj;simp only[W1,upd];by_cases hj:j=i
  .subst hj;rw[Zmh ids nx bs (j+1) _ _ (λk h3 h4 he=>by have:=hinj k j (by omega) (by omega) (by omega) (by omega) he;omega),K8,Ya rfl];simp[gt]
  .rw[ZqL ids nx bs (i+1) _ (λj k q1 q2 q3 q4=>hinj j k (by omega) (by omega) (by omega) (by omega)) j (by omega) (by omega)]
   have:j-i=(j-(i+1))+1:=by omega
   rw[this];simp[gt]
open Classical in
noncomputable def Kb(ρ ρ1:Map)(ids:V8)(nx m:Nat):Map:=λb=>if hx:∃i,i<m/\bk ids nx i=b then ρ1 hx.choose else ρ b
theorem ZqM(hinj:∀i j,i<m->j<m->bk ids nx i=bk ids nx j->i=j)(hi:i<m):Kb ρ ρ1 ids nx m (bk ids nx i)=ρ1 i:=by
 have hx:∃j,j<m/\bk ids nx j=bk ids nx i:=⟨i,hi,rfl⟩;unfold Kb;rw[dif_pos hx,hinj _ _ hx.choose_spec.1 hi hx.choose_spec.2]
theorem Z2d(hb:∀i,i<m->bk ids nx i≠b):Kb ρ ρ1 ids nx m b=ρ b:=by
 unfold Kb
 grind
def subP(N:Par)(ρ:Map)(h:V7)(w:World)(ids:V8):Par :=
 ⟨λg=>N.a g/\∀b r,b ∉ ids->ρ b=some r->gt h b≠.dead->X6 r.v≠some g,
  λg=>w.heap.size<=g\/∃b∈ids,∃r,ρ b=some r/\gt h b≠.dead/\(X6 r.v=some g\/Wf (gt h b)=true/\g∈r.fp),Free N ρ h⟩
theorem Rel.sub(R:Rel N base ρ h w)(hnd:ids.Nodup)(hcl:∀b∈ids,∀c∈VB (gt h b),c∈ids):Rel (subP N ρ h w ids) base (renM ρ ids) (subH h ids) w:=by
 refine R.renN hnd hcl ?_ ?_ ?_ ?_
 .intro g hg;refine⟨⟨(R.hN g hg).1,λb r _ hr hd he=>?_⟩,.inl hg⟩;have:=(R.lt hr hd he).2;omega
 .intro b hb r g hr hd hg;refine⟨⟨(R.hO b r g hr hd hg).1,λc rc hc hrc hdc he=>?_⟩,.inr ⟨b,hb,r,hr,hd,.inl hg⟩⟩;exact hc (R.inj b c r rc g hr hrc hd hdc hg he▸hb)
 .exact λg hg=>⟨hg.1,λb r _=>hg.2 b r⟩
 .intro b hb r hr hf g hg;exact .inr ⟨b,hb,r,hr,JY hf,.inr ⟨hf,hg⟩⟩
structure QB (N:Par) (base:Nat) (ρ:Map) (h:V7) (w:World) (ids:V8) (nx:Nat) (ρ1:Map) (h1:V7) (w':World):Prop where
 R:Rel N base ρ h w
 nd:ids.Nodup
 root:∀b∈ids,∃r,ρ b=some r
 len:ids.length<=h1.length
 new:∀j,j<h1.length-ids.length->ρ (nx+j)=none
 R1:Rel (subP N ρ h w ids) base ρ1 h1 w'
 B:Below base w w'
 dom:∀b,h1.length<=b->ρ1 b=none
 kn:∀g,g<w.heap.size->¬(subP N ρ h w ids).a g->w'.heap[g]?=w.heap[g]?
 fz:∀g,g<w.heap.size->Free N ρ h g->Free (subP N ρ h w ids) ρ1 h1 g/\w'.heap[g]?=w.heap[g]?
 rt:∀b r0,b<ids.length->renM ρ ids b=some r0->∃r1,ρ1 b=some r1/\r1.v=r0.v
section
variable{ids:V8}{nx:Nat}{ρ1:Map}{h1:V7}{w':World}
theorem QB.inj(J:QB N base ρ h w ids nx ρ1 h1 w'):∀i j,i<h1.length->j<h1.length->bk ids nx i=bk ids nx j->i=j:=by
 intro i j hi hj he;refine bk_inj J.nd (m:=h1.length) (λk hk hm=>?_) hi hj he;obtain⟨r,hr⟩:=J.root _ hm;rw[J.new k hk]at hr;cases hr
theorem QB.split(J:QB N base ρ h w ids nx ρ1 h1 w')(b:Nat) :
  (∃i,i<h1.length/\bk ids nx i=b/\Kb ρ ρ1 ids nx h1.length b=ρ1 i/\gt (upd h (W1 ids nx h1 0)) b=renB (bk ids nx) (gt h1 i))\/
  (b ∉ ids/\(∀i,i<h1.length->bk ids nx i≠b)/\Kb ρ ρ1 ids nx h1.length b=ρ b/\gt (upd h (W1 ids nx h1 0)) b=gt h b):=by
 by_cases hx:∃i,i<h1.length/\bk ids nx i=b
 .obtain⟨i,hi,rfl⟩:=hx;refine .inl ⟨i,hi,rfl,ZqM J.inj hi,?_⟩;have:=ZqL ids nx h1 0 h (λj k _ h2 _ h4=>J.inj j k (by omega) (by omega)) i (Yc _) (by omega);simpa using this
 .have hn:∀i,i<h1.length->bk ids nx i≠b:=λi hi he=>hx ⟨i,hi,he⟩
  refine .inr ⟨λhm=>?_,hn,Z2d hn,Zmh ids nx h1 0 h b λj _ h2=>hn j (by omega)⟩;obtain⟨i,hi⟩:=Ydt hm;have hl:=(Ybh.1 hi).1;exact hn i (by have:=J.len;omega) (J3 hi)
theorem QB.free(J:QB N base ρ h w ids nx ρ1 h1 w'){g:Nat}(hg:Free (subP N ρ h w ids) ρ1 h1 g):Free N (Kb ρ ρ1 ids nx h1.length) (upd h (W1 ids nx h1 0)) g:=by
 refine⟨hg.1.1,?_⟩;intro b r hb hd he;rcases J.split b with⟨i,hi,rfl,e1,e2⟩|⟨hm,_,e1,e2⟩
 .rw[e1]at hb;rw[e2]at hd;exact hg.2 i r hb (λhc=>hd (by rw[hc];rfl)) he
 .rw[e1]at hb;rw[e2]at hd;exact hg.1.2 b r hm hb hd he
theorem QB.keeps(J:QB N base ρ h w ids nx ρ1 h1 w'):WD ρ w (Free N ρ h) (Kb ρ ρ1 ids nx h1.length) w' (Free N (Kb ρ ρ1 ids nx h1.length) (upd h (W1 ids nx h1 0))):=by
 constructor
 .intro b r hb;rcases J.split b with⟨i,hi,rfl,e1,_⟩|⟨hm,_,e1,_⟩
  .rw[e1];rcases Yck i ids.length with hl|hl
   .have ei:ids[i]?=some ids[i]:=by simp[hl]
    rw[J3 ei]at hb;exact J.rt i r hl (by simp[renM,ei,hb])
   .rw[bk_ge hl,J.new _ (by omega)]at hb;cases hb
  .simp_all
 .intro g hl hf;obtain⟨q1,q2⟩:=J.fz g hl hf;exact⟨J.free q1,q2⟩
theorem QB.rel(J:QB N base ρ h w ids nx ρ1 h1 w'):Rel N base (Kb ρ ρ1 ids nx h1.length) (upd h (W1 ids nx h1 0)) w':=by
 have hk:=J.keeps;have hroot:∀c r,ρ1 c=some r->Kb ρ ρ1 ids nx h1.length (bk ids nx c)=some r:=by
  intro c r hc;have hl:c<h1.length:=by
   rcases Yck c h1.length with q|q
   .exact q
   .rw[J.dom c q]at hc;cases hc
  rw[ZqM J.inj hl];exact hc
 have hf1:∀g,(subP N ρ h w ids).f g->N.f g:=by
  rintro g (hg|⟨b,hb,r,hr,hd,hg|⟨hf,hg⟩⟩)
  .exact(J.R.hN g hg).2
  .exact(J.R.hO b r g hr hd hg).2
  .exact(J.R.fresh hr hf g hg).1
 refine⟨Yr J.R.hb J.B.size,λg hl=>J.R.hN g (Yr J.B.size hl),?_,?_,?_,?_⟩
 .intro b r g hb hd hg;rcases J.split b with⟨i,hi,rfl,e1,e2⟩|⟨hm,_,e1,e2⟩
  .rw[e1]at hb;rw[e2]at hd;have:=J.R1.hO i r g hb (λhc=>hd (by rw[hc];rfl)) hg;exact⟨this.1.1,hf1 g this.2⟩
  .rw[e1]at hb;rw[e2]at hd;exact J.R.hO b r g hb hd hg
 .intro b hd;rcases J.split b with⟨i,hi,rfl,e1,e2⟩|⟨hm,_,e1,e2⟩
  .rw[e2]at hd|-;rw[e1];obtain⟨r,q1,q2⟩:=J.R1.blk i λhc=>hd (by rw[hc];rfl)
   refine⟨r,q1,?_⟩
   cases hx:gt h1 i with
   |dead=>trivial
   |box cs =>
    rw[hx]at q2;obtain⟨g,c,e',h3,h4,h5,h6,h7⟩:=q2
    exact⟨g,c,e',h3,h4,h5,h6.ren _ (λc _ r hr=>hroot c r hr) λg _ hg=>J.free hg,h7⟩
   |arr e' sz fr es =>
    rw[hx]at q2;obtain⟨e',xs,he',h3,h4,h5,h6,h7,h8⟩:=q2;exact⟨e',xs,he',h3,h4,h5,h6,λg hg=>J.free (h7 g hg),λhf=>⟨(h8 hf).1,λg hg=>hf1 g ((h8 hf).2 g hg)⟩⟩
  .rw[e2]at hd|-;rw[e1];obtain⟨r,q1,q2⟩:=J.R.blk b hd;exact⟨r,q1,q2.keep hk λg hg=>J.kn g (q2.lt hd hg).2 λhc=>hc.2 b r hm q1 hd hg⟩
 .intro b b' r r' g hb hb' hd hd' hg hg';rcases J.split b with⟨i,hi,rfl,e1,e2⟩|⟨hm,_,e1,e2⟩<;>rcases J.split b' with⟨j,hj,rfl,e3,e4⟩|⟨hm',_,e3,e4⟩
  .rw[e1]at hb;rw[e2]at hd;rw[e3]at hb';rw[e4]at hd';rw[J.R1.inj i j r r' g hb hb' (λhc=>hd (by rw[hc];rfl)) (λhc=>hd' (by rw[hc];rfl)) hg hg']
  .rw[e1]at hb;rw[e2]at hd;rw[e3]at hb';rw[e4]at hd';have:=J.R1.hO i r g hb (λhc=>hd (by rw[hc];rfl)) hg;exact absurd hg' (this.1.2 b' r' hm' hb' hd')
  .rw[e1]at hb;rw[e2]at hd;rw[e3]at hb';rw[e4]at hd';have:=J.R1.hO j r' g hb' (λhc=>hd' (by rw[hc];rfl)) hg';exact absurd hg (this.1.2 b r hm hb hd)
  .rw[e1]at hb;rw[e2]at hd;rw[e3]at hb';rw[e4]at hd';exact J.R.inj b b' r r' g hb hb' hd hd' hg hg'
 .intro b b' r r' g hb hb' hf hf' hg hg';have mixed:∀i r b' r',ρ1 i=some r->Wf (gt h1 i)=true->b' ∉ ids->ρ b'=some r'->Wf (gt h b')=true->g∈r.fp->g∈r'.fp->False:=by
   intro i r b' r' hb hf hm hb' hf' hg hg';have q1:=(J.R1.fresh hb hf g hg).1;obtain⟨_,q2,q3⟩:=J.R.fresh hb' hf' g hg';rcases q1 with q1|⟨c,hc,rc,h3,h4,h5|⟨h5,h6⟩⟩
   .omega
   .exact q2.2 c rc h3 h4 h5
   .exact hm (J.R.apart c b' rc r' g h3 hb' h5 hf' h6 hg'▸hc)
  rcases J.split b with⟨i,hi,rfl,e1,e2⟩|⟨hm,_,e1,e2⟩<;>rcases J.split b' with⟨j,hj,rfl,e3,e4⟩|⟨hm',_,e3,e4⟩
  .rw[e1]at hb;rw[e2,J1]at hf;rw[e3]at hb';rw[e4,J1]at hf';rw[J.R1.apart i j r r' g hb hb' hf hf' hg hg']
  .grind [J1]
  .grind [J1]
  .rw[e1]at hb;rw[e2]at hf;rw[e3]at hb';rw[e4]at hf';exact J.R.apart b b' r r' g hb hb' hf hf' hg hg'
theorem QB.after(J:QB N base ρ h w ids nx ρ1 h1 w'){r:AV}{v:Value}(hv:RV ρ1 w' (Free (subP N ρ h w ids) ρ1 h1) r v) :
  Ka N base ρ h w (ren (bk ids nx) r) (W1 ids nx h1 0) v w' (Kb ρ ρ1 ids nx h1.length):=by
 refine⟨hv.ren _ (λb _ r hr=>?_) λg _ hg=>J.free hg,J.rel,J.keeps,?_,J.B,λg hl hn=>J.kn g hl λhc=>hn hc.1⟩
 .have hl:b<h1.length:=by
   rcases Yck b h1.length with q|q
   .exact q
   .rw[J.dom b q]at hr;cases hr
  rw[ZqM J.inj hl];exact hr
 .simp_all [ZhJ,Z2d,Yc]
end
theorem ZqN{o:Oper}(R:Rel N base ρ h w){nx f:Nat}{vs:V2}{vals:Array Value}(hargs:RVs ρ w (Free N ρ h) vs vals.toList){r:AV}{h1:V7}
  (hu:∀j,(Xj h vs).length<=j->j<h1.length->ρ (nx+(j-(Xj h vs).length))=none) (hcl:Qg h (Xj h vs) (ZS vs)=true) (hG:Wr P f (subA (Xj h vs) vs) (subH h (Xj h vs)) r h1)
  (hex:(execOp a.eval o).run P w=.ok (.enter f vals) w) {K:Act->World->Prop} {Q:Exit->Act->World->Prop}
  (hK:∀val w' ρ',Ka N base ρ h w (ren (bk (Xj h vs) nx) r) (W1 (Xj h vs) nx h1 0) val w' ρ'->K (a.put o.dst val) w'):o.wp P a w K Q:=by
 obtain⟨hin,hcl2⟩:=Zmf hcl;have hnd:(Xj h vs).Nodup:=Zmd _ _ _ Ybf;have hroot:=Z2c R hargs;generalize Xj h vs=ids at *
 unfold Oper.wp;rw[hex];show Calls P f vals w _;have hF:∀g,Free N ρ h g->Free (subP N ρ h w ids) (renM ρ ids) (subH h ids) g:=λg hg=>Zme hg ⟨hg.1,λb r _=>hg.2 b r⟩
 refine(hG.2 (subP N ρ h w ids) base w (renM ρ ids) vals (R.sub hnd hcl2) (λb hb=>ZqG (by simpa[subH]using hb))
  (hargs.ren _ (λb hb r hr=>by rw[ZhG (hin b hb)];exact hr) λg _ hg=>hF g hg) hF).mono ?_
 rintro e w' ⟨v,ρ1,rfl,hB,hR1,hv,hdom,hlen,hkn,hfz,hrt⟩;have hl:(subH h ids).length=ids.length:=by simp[subH]
 rw[hl]at hlen hrt
 have J:QB N base ρ h w ids nx ρ1 h1 w':=⟨R,hnd,hroot,hlen,λj hj=>by
  have:=hu (j+ids.length) (by omega) (by omega)
  rwa [Nat.add_sub_cancel]at this,hR1,hB,hdom,hkn,hfz,hrt⟩
 exact hK v w' _ (J.after hv)
theorem Free.congr{h':V7}(hg:∀b,gt h b=gt h' b):Free N ρ h=Free N ρ h':=by
 funext g;unfold Free;simp only[hg]
theorem Rel.congr{h':V7}(hg:∀b,gt h b=gt h' b)(R:Rel N base ρ h w):Rel N base ρ h' w:=by
 have hF:=Free.congr (N:=N) (ρ:=ρ) hg;refine⟨R.hb,R.hN,?_,?_,?_,?_⟩
 .intro b r g hr hd;rw[<-hg]at hd;exact R.hO b r g hr hd
 .intro b hb;rw[<-hg]at hb;obtain⟨r,h1,h2⟩:=R.blk b hb
  simp_all
 .intro b b' r r' g h1 h2 h3 h4;rw[<-hg]at h3 h4;exact R.inj b b' r r' g h1 h2 h3 h4
 .intro b b' r r' g h1 h2 h3 h4;rw[<-hg]at h3 h4;exact R.apart b b' r r' g h1 h2 h3 h4
theorem ren_back{f g:Nat->Nat}:∀(v:AV),(∀c∈refs v,g (f c)=c)->ren g (ren f v)=v:=by
 intro v;refine AV.rec (motive_1:=λv=>(∀c∈refs v,g (f c)=c)->ren g (ren f v)=v) (motive_2:=λvs=>(∀c∈ZS vs,g (f c)=c)->rens g (rens f vs)=vs) ?_ ?_ ?_ ?_ ?_ ?_ ?_ ?_ ?_ ?_ ?_ ?_ ?_ v
 .intro _;rfl
 .intro _;rfl
 .intro x _;rfl
 .intro cs ih h;simp[ren,ih (by simpa[refs]using h)]
 .intro cs ih h;simp[ren,ih (by simpa[refs]using h)]
 .intro b off h;simp[ren,h b (by simp[refs])]
 .intro b i sz off h;simp[ren,h b (by simp[refs])]
 .intro cs off _;rfl
 .intro b h;simp[ren,h b (by simp[refs])]
 .intro b n h;simp[ren,h b (by simp[refs])]
 .intro fn cs ih h;simp[ren,ih (by simpa[refs]using h)]
 .intro _;rfl
 .intro v vs ih1 ih2 h;simp only[ZS,Yu]at h;simp[rens,ih1 (λc hc=>h c (.inl hc)),ih2 (λc hc=>h c (.inr hc))]
theorem Z2e{f g:Nat->Nat}:∀(vs:V2),(∀c∈ZS vs,g (f c)=c)->rens g (rens f vs)=vs
 |[],_=>rfl
 |v::vs,h=>by
  simp only[ZS,Yu]at h;simp[rens,ren_back v (λc hc=>h c (.inl hc)),Z2e vs (λc hc=>h c (.inr hc))]
theorem ZEr{f g:Nat->Nat}(x:Blk)(h:∀c∈VB x,g (f c)=c):renB g (renB f x)=x:=by
 cases x with
 |box cs=>simp[renB,Z2e cs h]
 |_=>rfl
theorem ZqO(ids:V8)(nx:Nat):∀(xs ys:V7) (i:Nat),W1 ids nx (xs++ys) i=W1 ids nx xs i++W1 ids nx ys (i+xs.length)
 |[],ys,i=>by simp[W1]
 |x::xs,ys,i=>by simp[W1,ZqO ids nx xs ys (i+1),Ycw,Nat.add_comm 1]
theorem ZEs{u:List (Nat×Blk)}:∀{h h':V7},(∀b,gt h b=gt h' b)->∀b,gt (upd h u) b=gt (upd h' u) b:=by
 induction u with
 |nil=>intro h h' hg b;exact hg b
 |cons p u ih =>
  intro h h' hg b;obtain⟨c,x⟩:=p;exact ih (λb=>by rw[K8,K8,hg]) b
theorem ZEt{ids:V8}(hnd:ids.Nodup)(hcl:∀b∈ids,∀c∈VB (gt h b),c∈ids)(nx b:Nat):gt (upd h (W1 ids nx (subH h ids) 0)) b=gt h b:=by
 have hl:(subH h ids).length=ids.length:=by simp[subH]
 by_cases hb:b∈ids
 .obtain⟨i,hi⟩:=Ydt hb;have hil:=(Ybh.1 hi).1;have hinj:∀j k,j<ids.length->k<ids.length->bk ids nx j=bk ids nx k->j=k:=λj k hj hk he=>bk_inj hnd (m:=ids.length) (λq hq=>by omega) hj hk he
  have:=ZqL ids nx (subH h ids) 0 h (λj k _ h2 _ h4=>hinj j k (by omega) (by omega)) i (Yc _) (by omega);rw[J3 hi]at this;rw[this];have e:gt (subH h ids) (i-0)=renB (λc=>idx c ids 0) (gt h b):=by
   rw[Ycl,subH,Ze6,hi]
  rw[e];refine ZEr _ λc hc=>?_
  obtain⟨j,hj⟩:=Ydt (hcl b hb c hc);rw[idx_at hnd hj,J3 hj]
 .exact Zmh ids nx _ 0 h b λj _ h2 he=>hb (by
   have hj:ids[j]?=some (ids[j]'(by omega)):=by simp
   rw[J3 hj]at he
   exact he▸Y8 hj)
theorem Ka.congr{v:AV}{u u':List (Nat×Blk)}{val:Value}{w':World}{ρ':Map}(hA:Ka N base ρ h w v u val w' ρ')(hg:∀b,gt (upd h u) b=gt (upd h u') b)(hs:∀b,b ∉ u'.map Prod.fst->ρ b=none->ρ' b=none):Ka N base ρ h w v u' val w' ρ':=by
 have hF:=Free.congr (N:=N) (ρ:=ρ') hg;exact⟨by rw[<-hF];exact hA.val,hA.rel.congr hg,by rw[<-hF];exact hA.keeps,hs,hA.below,hA.kn⟩
theorem ZEu{o:Oper}(R:Rel N base ρ h w){nx f:Nat}{vs:V2}{vals:Array Value}(hargs:RVs ρ w (Free N ρ h) vs vals.toList){r:AV}{hn:V7}
  (hu:∀b,b∈(W1 (Xj h vs) nx hn (Xj h vs).length).map Prod.fst->nx<=b->ρ b=none) (hcl:Qg h (Xj h vs) (ZS vs)=true)
  (hG:Wr P f (subA (Xj h vs) vs) (subH h (Xj h vs)) r (subH h (Xj h vs)++hn)) (hex:(execOp a.eval o).run P w=.ok (.enter f vals) w) {K:Act->World->Prop} {Q:Exit->Act->World->Prop}
  (hK:∀val w' ρ',Ka N base ρ h w (ren (bk (Xj h vs) nx) r) (W1 (Xj h vs) nx hn (Xj h vs).length) val w' ρ'->K (a.put o.dst val) w'):o.wp P a w K Q:=by
 have hl:(subH h (Xj h vs)).length=(Xj h vs).length:=by simp[subH]
 refine ZqN R (nx:=nx) hargs (λj h1 h2=>?_) hcl hG hex λval w' ρ' hA=>?_
 .rw[Yq,hl]at h2;refine hu _ ((ZhJ _ _ _ _ _).2 ⟨j,h1,h2,bk_ge h1⟩) (Nat.le_add_right _ _)
 .obtain⟨hin,hcl2⟩:=Zmf hcl;have hnd:(Xj h vs).Nodup:=Zmd _ _ _ Ybf;refine hK val w' ρ' (hA.congr (λb=>?_) λb hb hb0=>?_)
  .rw[ZqO,Z15,hl,Yv]
   grind [ZEs,ZEt]
  .refine hA.same b (λhm=>?_) hb0;rw[ZqO,Y3,Yu,hl,Yv]at hm;rcases hm with hm|hm
   .obtain⟨j,_,h2,h3⟩:=(ZhJ _ _ _ _ _).1 hm;rw[Yv,hl]at h2;have hj:(Xj h vs)[j]?=some ((Xj h vs)[j]'h2):=by simp[h2]
    rw[J3 hj]at h3;obtain⟨r0,hr0⟩:=Z2c R hargs b (h3▸Y8 hj)
    simp_all
   .exact hb hm
def isC:MOp->Prop
 |.call _ _=>True
 |.fcall _ _=>True
 |.icall _ _=>True
 |.pcall _ _=>True
 |.dcall _ _=>True
 |_=>False
theorem Zmi{o:Oper}{k:MOp}(hk:X1 P inl ops o.op=some k)(hE:Wk ρ w (Free N ρ h) e a.tmps)(R:Rel N base ρ h w){nx:Nat}{v:AV}{u:List (Nat×Blk)}(hn:isC k\/ρ nx=none)(hu:∀b,b∈u.map Prod.fst->nx<=b->ρ b=none)
  (hev:opR (Wr P) h nx e k v u) {K:Act->World->Prop} {Q:Exit->Act->World->Prop} (hK:∀val w' ρ',Ka N base ρ h w v u val w' ρ'->K (a.put o.dst val) w'):o.wp P a w K Q:=by
 have plain:ZK h nx e k=some (v,u)->o.wp P a w K Q:=by
  intro hev;have hnx:ρ nx=none:=by
   rcases hn with hn|hn
   .cases k<;>first|exact hn.elim|cases hev
   .exact hn
  obtain⟨val,w',ρ',hrun,h1,h2,h3,h4,h5,h6⟩:=op_sound hk hE R hnx hev;have:=hK val w' ρ' ⟨h1,h2,h3,λb hb hb0=>by rw[h4 b hb];exact hb0,h5,h6⟩;unfold Oper.wp;rcases hrun with hrun|⟨hrun,rfl⟩
  .rw[hrun];exact this
  .rw[hrun];exact this
 have hul:∀{ids:V8} {h1:V7},u=W1 ids nx h1 0->∀j,ids.length<=j->j<h1.length->ρ (nx+(j-ids.length))=none:=by
  intro ids h1 he j h2 h3;exact hu _ (by rw[he];exact(ZhJ _ _ _ _ _).2 ⟨j,Yc _,by omega,bk_ge h2⟩) (Nat.le_add_right _ _)
 cases k<;>try (exact plain hev)
 .rename_i f args;simp only[opR]at hev;obtain⟨as,hfz,r,hr,hG,hsh,rfl,rfl⟩:=hev;obtain⟨c,hoc,hcc,has,hcl⟩:=(ZhI hk).1 f args rfl;exact ZEp R (vals:=c.args.map a.eval) (by rw[Yb5];exact Ze4 hE has) hu hfz hG hsh (Zmg hoc hcc hcl w) hK
 .rename_i f args;simp only[opR]at hev;obtain⟨as,hfz,hno,r,hr,hG,hd,rfl⟩:=hev;obtain⟨c,hoc,hcc,has,hcl⟩:=(ZhI hk).1 f args rfl;exact ZEq R (vals:=c.args.map a.eval) (by rw[Yb5];exact Ze4 hE has) hfz hno hG hd (Zmg hoc hcc hcl w) hK
 .rename_i f args;simp only[opR,Qh]at hev;obtain⟨hcl',r,h1,hG,rfl,rfl⟩:=hev;obtain⟨c,hoc,hcc,has,hcl⟩:=(ZhI hk).1 f args rfl;exact ZqN R (vals:=c.args.map a.eval) (by rw[Yb5];exact Ze4 hE has) (hul rfl) hcl' hG (Zmg hoc hcc hcl w) hK
 .rename_i f args;simp only[opR,Jv]at hev;obtain⟨hcl',r,hn,hG,rfl,rfl⟩:=hev;obtain⟨c,hoc,hcc,has,hcl⟩:=(ZhI hk).1 f args rfl;exact ZEu R (vals:=c.args.map a.eval) (by rw[Yb5];exact Ze4 hE has) hu hcl' hG (Zmg hoc hcc hcl w) hK
 .rename_i x args;simp only[opR,Qh]at hev;obtain⟨g,caps,hg,hcl',r,h1,hG,rfl,rfl⟩:=hev;obtain⟨c,y,hoc,hcc,hy,has⟩:=(ZhI hk).2 x args rfl;have hry:=X2 hE hy;rw[hg]at hry;obtain⟨cv,hcv,hcaps⟩:=hry.fn_val;have hex:(execOp a.eval o).run P w=.ok (.enter g (c.args.map a.eval++cv)) w:=by
   unfold execOp;rw[hoc];simp[resolve,hcc,hcv,Deferred.ofValue,invoke,Z2b hG.1]
  exact ZqN R (vals:=c.args.map a.eval++cv) (by rw[Array.toList_append,Yb5];exact(Ze4 hE has).append hcaps) (hul rfl) hcl' hG hex hK
end
open Go.RowKit (Below)
def Qk(ρ:Map)(w:World)(F:Nat->Prop):List Env->List (Array Value)->Prop
 |[],[]=>True
 |e::es,t::ts=>Wk ρ w F e t/\Qk ρ w F es ts
 |_,_=>False
structure RelS (N:Par) (base:Nat) (w0:World) (nt:Nat) (ts:List (Array Value)) (ρ:Map) (s:S) (a:Act) (w:World):Prop where
 rel:Rel N base ρ s.h w
 env:Wk ρ w (Free N ρ s.h) s.env a.tmps
 stk:Qk ρ w (Free N ρ s.h) s.stk ts
 dom:∀b,s.h.length<=b->ρ b=none
 defers:a.defers=[]
 size:a.tmps.size=nt
 below:Below base w0 w
 kn:∀g,g<w0.heap.size->¬N.a g->w.heap[g]?=w0.heap[g]?
 fz:∀g,g<w0.heap.size->N.z g->Free N ρ s.h g/\w.heap[g]?=w0.heap[g]?
section
variable{P:Program}{N:Par}{base:Nat}{w0:World}{nt:Nat}{ts:List (Array Value)}{inl:V8}{ρ:Map}{w:World}{a:Act}{d:Option Nat}{s:S}{F:Nat->Prop}{e:Env}{v:AV}{val:Value}{ops:Array Oper}{o:Oper}
theorem Qk.keep{ρ ρ':Map}{w w':World}{F F':Nat->Prop}(hk:WD ρ w F ρ' w' F'):∀{es:List Env} {ts:List (Array Value)},Qk ρ w F es ts->Qk ρ' w' F' es ts
 |[],[],_=>trivial
 |_::_,_::_,h=>⟨λs=>(h.1 s).keep hk,Qk.keep hk h.2⟩
 |[],_::_,h=>h.elim
 |_::_,[],h=>h.elim
theorem stB_len(h:V7)(b:Nat)(x:Blk):h.length<=(stB h b x).length/\b<(stB h b x).length:=by
 induction h generalizing b with
 |nil =>
  induction b with
  |zero=>simp[stB]
  |succ b ih=>simp[stB];exact ih.2
 |cons y h ih =>
  cases b with
  |zero=>simp[stB]
  |succ b=>simp[stB];exact ih b
theorem ZqP(u:List (Nat×Blk)):∀h:V7,h.length<=(upd h u).length/\∀b∈u.map Prod.fst,b<(upd h u).length:=by
 induction u with
 |nil=>intro h;simp[upd]
 |cons p u ih =>
  intro h;obtain⟨b,x⟩:=p;have h1:=stB_len h b x;have h2:=ih (stB h b x);simp only[upd]
  grind
theorem Zmj(hE:Wk ρ w F e a.tmps)(hv:RV ρ w F v val)(hd:∀x,d=some x->x<a.tmps.size):Wk ρ w F (put d v e) (a.put d val).tmps:=by
 cases d with
 |none=>exact hE
 |some d =>
  intro s;have hlt:=hd d rfl;simp only[put,lk,Act.put];split
  .simp_all
  .rename_i hs;have:=hE s
   simp_all
theorem Zmk(a:Act)(d:Option Nat)(v:Value):(a.put d v).defers=a.defers:=by cases d<;>rfl
theorem Zml(a:Act)(d:Option Nat)(v:Value):(a.put d v).tmps.size=a.tmps.size:=by cases d<;>simp[Act.put]
theorem RelS.after{ρ':Map}{w':World}(hS:RelS N base w0 nt ts ρ s a w){u:List (Nat×Blk)}(hA:Ka N base ρ s.h w v u val w' ρ')(hd:∀x,d=some x->x<nt) :
  RelS N base w0 nt ts ρ' { s with env:=put d v s.env,h:=upd s.h u } (a.put d val) w':=by
 refine⟨hA.rel,Zmj (λs=>(hS.env s).keep hA.keeps) hA.val λx hx=>by rw[hS.size];exact hd x hx,hS.stk.keep hA.keeps,?_,by rw[Zmk];exact hS.defers,by rw[Zml];exact hS.size,hS.below.trans hA.below,
  λg hg hn=>(hA.kn g (Yb0 hg hS.below.size) hn).trans (hS.kn g hg hn),λg hg hz=>?_⟩
 .intro b hb;have h1:=ZqP u s.h;exact hA.same b (λhc=>by have:=h1.2 b hc;simp only at hb;omega) (hS.dom b (by simp only at hb;omega))
 .obtain⟨h1,h2⟩:=hS.fz g hg hz;obtain⟨h3,h4⟩:=hA.keeps.free g (Yb0 hg hS.below.size) h1
  simp_all
theorem RelS.skip(hS:RelS N base w0 nt ts ρ s a w)(hd:∀x,d=some x->x<nt) :
  RelS N base w0 nt ts ρ { s with env:=put d (.tup []) s.env } (a.put d undef) w :=
 ⟨hS.rel,Zmj hS.env (RV.tup (c:=#[]) .nil) λx hx=>by rw[hS.size];exact hd x hx,hS.stk,hS.dom,by rw[Zmk];exact hS.defers,by rw[Zml];exact hS.size,hS.below,hS.kn,hS.fz⟩
theorem runW_opR{Γ:Ctr}{o:MO}{K:S->Prop}(hr:runW Γ o s K):∃v u,opR Γ s.h s.h.length s.env o.op v u/\K { s with env:=put o.dst v s.env,h:=upd s.h u }:=by
 cases ho:o.op with
 |fcall f args =>
  simp only[runW,ho]at hr;obtain⟨as,h1,hno,r,hr',d,h2,h3,h4⟩:=hr
  exact⟨_,_,⟨as,h1,hno,r,hr',h2,h3,rfl⟩,h4⟩
 |icall f args =>
  simp only[runW,ho,Qh]at hr;obtain⟨h1,r,h2,h3,h4⟩:=hr
  exact⟨_,_,⟨h1,r,h2,h3,rfl,rfl⟩,h4⟩
 |pcall f args =>
  simp only[runW,ho,Jv]at hr;obtain⟨h1,r,h2,h3,h4⟩:=hr
  exact⟨_,_,⟨h1,r,h2,h3,rfl,rfl⟩,h4⟩
 |dcall f args =>
  simp only[runW,ho]at hr;split at hr
  .rename_i g caps hg;obtain⟨h1,r,h2,h3,h4⟩:=hr;exact⟨_,_,⟨g,caps,hg,h1,r,h2,h3,rfl,rfl⟩,h4⟩
  .exact hr.elim
 |call f args =>
  simp only[runW,ho]at hr;obtain⟨as,h1,r,hr',h2,h3,h4⟩:=hr
  exact⟨_,_,⟨as,h1,r,hr',h2,h3,rfl,rfl⟩,h4⟩
 |_ =>
  simp only[runW,ho]at hr;split at hr
  .rename_i v u hev;exact⟨v,u,hev,hr⟩
  .exact hr.elim
theorem Z2f{m:MO}(hc:compO P inl nt ops o=some m):X1 P inl ops o.op=some m.op/\m.dst=o.dst/\(∀x,o.dst=some x->x<nt)/\
  ((o.guard=none/\m.guard=none)\/∃j b d,o.guard=some (j,b)/\(ops[j]?).bind (·.dst)=some d/\m.guard=some (d,b)):=by
 unfold compO at hc
 grind [Option.map_eq_some_iff]
theorem Z2g(hE:Wk ρ w F e a.tmps){j d:Nat}{b:Bool}(hg:o.guard=some (j,b))(hd:(ops[j]?).bind (·.dst)=some d) :
  (∀c,lk d e=.t (.bool c)->Region.wanted o (yielded ops a.tmps)=decide (c=b))/\(lk d e=.tup []->Region.wanted o (yielded ops a.tmps)=false):=by
 have hr:=hE d;constructor
 .intro c hc;rw[hc]at hr;have h1:=hr.bool_inv;have h2:a.tmps[d]?=some (.bool c):=by
   rw[Ycg]at h1
   cases hx:a.tmps[d]? with
   |none=>rw[hx]at h1;cases h1
   |some y=>rw[hx]at h1;simp at h1;rw[h1]
  simp only[Region.wanted,hg,yielded,hd,Option.bind_some,h2]
  grind
 .intro hc;rw[hc]at hr;obtain⟨c,h1,h2⟩:=hr.tup_val;have h3:c=#[]:=by cases h2':c.toList with|nil=>simpa using h2'|cons x xs=>rw[h2']at h2;cases h2
  subst h3;simp only[Region.wanted,hg,yielded,hd,Option.bind_some];rw[Ycg]at h1
  grind
theorem Z2h{Γ:Ctr}(hΓ:Γ=Wr P){ops:Array Oper}{Qc:Exit->Act->World->Prop}{K:S->Prop}
  (hQ:∀s a w ρ,K s->RelS N base w0 nt ts ρ s a w->Qc .normal a w):∀(l:List Oper) (os:List MO),mapO (compO P inl nt ops) l=some os->∀(s:S) (a:Act) (w:World) (ρ:Map),regW Γ os s K->RelS N base w0 nt ts ρ s a w->wpList P ops Qc l a w
 |[],os,hm,s,a,w,ρ,hr,hS=>by cases hm;exact hQ s a w ρ hr hS
 |o::l,os,hm,s,a,w,ρ,hr,hS=>by
  obtain⟨m,ms,h1,h2,rfl⟩:=Jy hm;obtain⟨hk,hdst,hd,hguard⟩:=Z2f h1;simp only[regW]at hr;have ih:=Z2h hΓ hQ l ms h2;have run:runW Γ m s (λs'=>regW Γ ms s' K)->o.wp P a w (wpList P ops Qc l) Qc:=by
   intro hrun;obtain⟨v,u,hop,hK⟩:=runW_opR hrun;rw[hΓ]at hop;refine Zmi hk hS.env hS.rel (nx:=s.h.length) (.inr (hS.dom _ (Yj _))) (λb _ hb=>hS.dom b hb) hop λval w' ρ' hA=>?_
   exact ih _ _ _ ρ' hK (by rw[hdst];exact hS.after hA hd)
  have skip:regW Γ ms { s with env:=put m.dst (.tup []) s.env } K->wpList P ops Qc l (a.put o.dst undef) w:=λhK=>ih _ _ _ ρ hK (by rw[hdst];exact hS.skip hd)
  refine wpList_step λK' hK'=>?_
  have run':runW Γ m s (λs'=>regW Γ ms s' K)->o.wp P a w K' Qc:=λh=>Oper.wp_mono hK' (run h)
  rcases hguard with⟨hg1,hg2⟩|⟨j,b,d,hg1,hg2,hg3⟩
  .simp only[opW,hg2]at hr;simp only[Region.wanted,hg1,if_true];exact run' hr
  .have hw:=Z2g hS.env hg1 hg2;simp only[opW,hg3]at hr
   grind
end
def ZEv{v:AV}{vs:V2}(h:v∈vs){b:Nat}(hb:b∈refs v):b∈ZS vs:=by
 induction vs with
 |nil=>cases h
 |cons x xs ih =>
  simp only[ZS,Yu]
  grind
section
variable{h h':V7}{e e':Env}{v:AV}{vs cs:V2}{rs:V8}{b sz nx:Nat}{ps:List (Nat×Opd)}{st:Bool}{k:MOp}{u:List (Nat×Blk)}
theorem ZqQ(hc:cellsOf v=some vs):ZS vs=refs v:=by
 cases v<;>simp[cellsOf]at hc<;>subst hc<;>simp[ZS,refs]
theorem ZEw(hh:∀b∈refs v,gt h b=gt h' b):toT h v=toT h' v:=by
 cases v<;>simp[toT];rename_i b;rw[hh b (by simp[refs])]
theorem ZqR(hh:∀b∈ZS vs,gt h b=gt h' b):toTs h vs=toTs h' vs:=by
 induction vs with
 |nil=>rfl
 |cons v vs ih =>
  simp only[toTs];rw[ZEw (λb hb=>hh b (by simp[ZS,hb])),ih (λb hb=>hh b (by simp[ZS,hb]))]
theorem ZEx(hh:∀b∈refs v,gt h b=gt h' b):frzT h v=frzT h' v:=by
 cases v<;>simp[frzT];rename_i b;rw[hh b (by simp[refs])]
theorem Z2i(hh:∀b∈ZS vs,gt h b=gt h' b):Ux h vs=Ux h' vs:=by
 induction vs with
 |nil=>rfl
 |cons v vs ih =>
  simp only[Ux];rw[ZEx (λb hb=>hh b (by simp[ZS,hb])),ih (λb hb=>hh b (by simp[ZS,hb]))]
theorem reach1_l{h:V7}(hb:b∈rs):b∈Jw h rs:=Ycm _ (Ycm _ hb)
theorem reach1_m{h:V7}{c:Nat}(hb:b∈rs)(hc:c∈VB (gt h b)):c∈Jw h rs:=Ycm _ (Ycz _ (Ybw.2 ⟨b,hb,hc⟩))
theorem ZqS{h:V7}(hb:b∈XW h 200 rs []):b∈Jw h rs:=Ycz _ hb
theorem ZqT{h:V7}:∀(n:Nat) (todo acc:V8),∀b∈acc,b∈XW h n todo acc
 |0,_,_,b,hb=>by simpa[XW]using hb
 |n+1,[],acc,b,hb=>by simpa[XW]using hb
 |n+1,c::todo,acc,b,hb=>by
  simp only[XW];split
  .exact ZqT n _ _ b hb
  .exact ZqT n _ _ b (by simp[hb])
def Zbg(h h':V7)(rs:V8):Prop:=∀b∈rs,gt h b=gt h' b/\∀c∈VB (gt h b),gt h c=gt h' c
theorem Z2j{h h':V7}(hh:∀b∈Jw h rs,gt h b=gt h' b):Zbg h h' rs:=λb hb=>⟨hh b (reach1_l hb),λc hc=>hh c (reach1_m hb hc)⟩
theorem Zbg.sub{h h':V7}{rs':V8}(hh:Zbg h h' rs)(hs:∀b∈rs',b∈rs):Zbg h h' rs':=λb hb=>hh b (hs b hb)
theorem ZqU{h h':V7}:∀(n:Nat) (todo acc:V8),(∀b∈XW h n todo acc,gt h b=gt h' b)->XW h' n todo acc=XW h n todo acc
 |0,_,_,_=>rfl
 |n+1,[],acc,_=>rfl
 |n+1,c::todo,acc,hh=>by
  simp only[XW]at hh|-;split
  .rename_i hc;rw[Ya hc]at hh;exact ZqU n todo acc hh
  .rename_i hc;rw[Yb hc]at hh
   have:gt h c=gt h' c:=hh c (ZqT n _ _ c (by simp))
   rw[<-this];exact ZqU n _ _ hh
theorem Z2k(hh:Zbg h h' (refs v)):frz1 h v=frz1 h' v:=by
 cases v<;>simp only[frz1]
 .rename_i cs;rw[Z2i λb hb=>(hh b (by simpa[refs]using hb)).1]
 .rename_i b off;obtain⟨hb,hc⟩:=hh b (by simp[refs]);rw[<-hb]
  cases hg:gt h b with
  |box cs=>simp only;rw[Z2i λc hc'=>hc c (by rw[hg];exact hc')]
  |_=>rfl
 .rename_i b;rw[(hh b (by simp[refs])).1]
theorem ZEy(hh:Zbg h h' (ZS vs)):JV h vs=JV h' vs:=by
 induction vs with
 |nil=>rfl
 |cons v vs ih =>
  simp only[JV];rw[Z2k (hh.sub λc hc=>by simp[ZS,hc]),ih (hh.sub λc hc=>by simp[ZS,hc])]
theorem ZEz(hh:Zbg h h' (refs v)):frz h v=frz h' v:=by
 by_cases hx:∃g cs,v=.fn g cs
 .obtain⟨g,cs,rfl⟩:=hx;simp only[frz];rw[ZEy (hh.sub λc hc=>by simpa[refs]using hc)]
 .have e:∀h,frz h v=frz1 h v:=by
   intro h;cases v<;>first|rfl|exact absurd ⟨_,_,rfl⟩ hx
  rw[e,e,Z2k hh]
theorem Z2l(hh:Zbg h h' (ZS vs)):frzs h vs=frzs h' vs:=by
 induction vs with
 |nil=>rfl
 |cons v vs ih =>
  simp only[frzs];rw[ZEz (hh.sub λc hc=>by simp[ZS,hc]),ih (hh.sub λc hc=>by simp[ZS,hc])]
theorem Z2m(hh:∀b∈XW h 200 (ZS vs) [],gt h b=gt h' b):Xj h' vs=Xj h vs/\subH h' (Xj h vs)=subH h (Xj h vs)/\Qg h' (Xj h vs) (ZS vs)=Qg h (Xj h vs) (ZS vs):=by
 refine⟨ZqU 200 _ _ hh,?_,?_⟩
 .unfold subH;exact Yb6 λb hb=>by rw[hh b hb]
 .unfold Qg;congr 1;rw[Ybx,Yl,Yl];constructor
  .intro q b hb;rw[hh b hb];exact q b hb
  .intro q b hb;rw[<-hh b hb];exact q b hb
theorem ZE0{ps:List (Nat×Nat×Opd)}(he:∀p∈ps,ev e p.2.2=ev e' p.2.2):parts e cs ps=parts e' cs ps:=by
 induction ps generalizing cs with
 |nil=>rfl
 |cons p ps ih =>
  obtain⟨o,n,x⟩:=p;have h1:=he (o,n,x) (by simp);simp only at h1;have h2:=λcs=>ih (cs:=cs) (λp hp=>he p (by simp[hp]))
  simp only[parts,h1,h2]
theorem ZE1(he:∀p∈ps,ev e p.2=ev e' p.2):Ju e cs ps=Ju e' cs ps:=by
 induction ps generalizing cs with
 |nil=>rfl
 |cons p ps ih =>
  obtain⟨n,x⟩:=p;have h1:=he (n,x) (by simp);simp only at h1;have h2:=λcs=>ih (cs:=cs) (λp hp=>he p (by simp[hp]))
  simp only[Ju,h1,h2]
theorem ZE2{es:V5}(he:∀p∈ps,ev e p.2=ev e' p.2)(hh:∀p∈ps,∀b∈refs (ev e p.2),gt h b=gt h' b):elems h e sz es ps=elems h' e' sz es ps:=by
 induction ps generalizing es with
 |nil=>rfl
 |cons p ps ih =>
  obtain⟨n,x⟩:=p;have h1:=he (n,x) (by simp);have h3:=hh (n,x) (by simp);simp only at h1 h3;have h2:=λes=>ih (es:=es) (λp hp=>he p (by simp[hp])) (λp hp=>hh p (by simp[hp]))
  simp only[elems,h2,<-h1]
  grind [ZqR,ZqQ]
theorem ZE3(hh:∀b∈refs v,gt h b=gt h' b):Uj h st v=Uj h' st v:=by
 cases v with
 |own b=>cases st<;>simp only[Uj];rw[hh b (by simp[refs])]
 |t x=>cases st<;>cases x<;>rfl
 |_=>cases st<;>rfl
theorem ZE4(hh:∀b∈refs v,gt h b=gt h' b):VR h st v=VR h' st v:=by
 cases v with
 |own b=>cases st<;>simp only[VR];rw[hh b (by simp[refs])]
 |t x=>cases st<;>cases x<;>first|rfl|(rename_i es;cases es<;>rfl)
 |_=>cases st<;>rfl
theorem ZE5{mv:Bool}(hh:∀b∈refs v,gt h b=gt h' b):Q8 h sz mv v=Q8 h' sz mv v:=by
 cases v with
 |own b=>simp only[Q8];rw[hh b (by simp[refs])]
 |t x=>cases x<;>rfl
 |_=>rfl
theorem Z2n{d:Nat}{o:Option Opd}(he:∀x,o=some x->ev e x=ev e' x):bnd e d o=bnd e' d o:=by
 cases o with
 |none=>rfl
 |some x=>simp[bnd,he x rfl]
theorem ZE6(he:∀x∈Xa k,ev e x=ev e' x)(hh:∀x∈Xa k,∀b∈refs (ev e x),gt h b=gt h' b):ZK h nx e k=ZK h' nx e' k:=by
 cases k with
 |mov x=>simp[ZK,he x (by simp[Xa])]
 |pick c a b=>simp[ZK,he c (by simp[Xa]),he a (by simp[Xa]),he b (by simp[Xa])]
 |alloc zs=>rfl
 |box x=>simp[ZK,he x (by simp[Xa])]
 |build zs ps =>
  simp only[ZK]
  rw[ZE0 (λp hp=>he p.2.2 (by simp only[Xa,Yt];exact⟨p,hp,rfl⟩))]
 |bslice el sz n zs ps =>
  simp only[ZK]
  rw[ZE2 (λp hp=>he p.2 (by simp only[Xa,Yt];exact⟨p,hp,rfl⟩)) (λp hp=>hh p.2 (by simp only[Xa,Yt];exact⟨p,hp,rfl⟩))]
 |bptrs n ps =>
  simp only[ZK]
  rw[ZE1 (λp hp=>he p.2 (by simp only[Xa,Yt];exact⟨p,hp,rfl⟩))]
 |load n x =>
  have h1:=he x (by simp[Xa]);have h2:=hh x (by simp[Xa]);simp only[ZK,<-h1];cases hx:ev e x<;>simp only
  .rw[h2 _ (by rw[hx];simp[refs])]
  .rw[h2 _ (by rw[hx];simp[refs])]
 |store n x v =>
  have h1:=he x (by simp[Xa]);have h2:=hh x (by simp[Xa]);have h3:=he v (by simp[Xa]);have h4:=hh v (by simp[Xa]);simp only[ZK,<-h1,<-h3]
  cases hc:cellsOf (ev e v)with
  |none=>rfl
  |some vs =>
   simp only;rw[ZqR (h:=h) (h':=h') (λb hb=>h4 b (by rw[<-ZqQ hc];exact hb))];cases hx:ev e x<;>simp only
   .rw[h2 _ (by rw[hx];simp[refs])]
   .rw[h2 _ (by rw[hx];simp[refs])]
 |storeF n x v =>
  have h1:=he x (by simp[Xa]);have h2:=hh x (by simp[Xa]);have h3:=he v (by simp[Xa]);have h4:=hh v (by simp[Xa]);simp only[ZK,<-h1,<-h3]
  cases hc:cellsOf (ev e v)with
  |none=>rfl
  |some vs =>
   simp only;rw[ZqR (h:=h) (h':=h') (λb hb=>h4 b (by rw[<-ZqQ hc];exact hb))];cases hx:ev e x<;>simp only
   .rw[h2 _ (by rw[hx];simp[refs])]
 |nilchk x=>simp[ZK,he x (by simp[Xa])]
 |bin op x y=>simp[ZK,he x (by simp[Xa]),he y (by simp[Xa])]
 |beq n x y=>simp[ZK,he x (by simp[Xa]),he y (by simp[Xa])]
 |nileq n sl x =>
  simp only[ZK,<-he x (by simp[Xa])]
  rw[ZE4 (hh x (by simp[Xa]))]
 |mm m x y=>simp[ZK,he x (by simp[Xa]),he y (by simp[Xa])]
 |un op x=>simp[ZK,he x (by simp[Xa])]
 |conv k x=>simp[ZK,he x (by simp[Xa])]
 |mkfn f caps =>
  simp only[ZK]
  rw[Yb6 (λx hx=>he x (by simpa[Xa]using hx))]
 |mkslice el sz bytes zs l c=>simp[ZK,he l (by simp[Xa]),he c (by simp[Xa])]
 |slice sz x lo hi =>
  have h1:=he x (by simp[Xa]);have h2:∀d,bnd e d lo=bnd e' d lo:=λd=>Z2n λy hy=>he y (by subst hy;simp[Xa])
  have h3:∀d,bnd e d hi=bnd e' d hi:=λd=>Z2n λy hy=>he y (by subst hy;simp[Xa])
  have h4:=hh x (by simp[Xa]);simp only[ZK,<-h1,h2,h3]
  cases hx:ev e x with
  |own b=>cases sz<;>simp only[h4 b (by rw[hx];simp[refs])]
  |t x=>cases sz<;>cases x<;>rfl
  |_=>cases sz<;>rfl
 |faddr off x=>simp[ZK,he x (by simp[Xa])]
 |field off n x=>simp[ZK,he x (by simp[Xa])]
 |iaddr sz x i =>
  have h1:=he x (by simp[Xa]);have h2:=hh x (by simp[Xa]);have h3:=he i (by simp[Xa]);simp only[ZK,<-h1,<-h3]
  cases hx:ev e x with
  |own b=>simp only;rw[h2 b (by rw[hx];simp[refs])]
  |t x=>cases x<;>rfl
  |_=>rfl
 |index x i=>simp[ZK,he x (by simp[Xa]),he i (by simp[Xa])]
 |aaddr n sz x i=>simp[ZK,he x (by simp[Xa]),he i (by simp[Xa])]
 |aidx n sz m x i=>simp[ZK,he x (by simp[Xa]),he i (by simp[Xa])]
 |ext x i=>simp[ZK,he x (by simp[Xa])]
 |len st x =>
  simp only[ZK,<-he x (by simp[Xa])]
  rw[ZE3 (hh x (by simp[Xa]))]
 |append el sz bytes mv x y =>
  have h1:=he x (by simp[Xa]);have h2:=hh x (by simp[Xa]);have h3:=he y (by simp[Xa]);have h4:=hh y (by simp[Xa]);simp only[ZK,<-h1,<-h3];rw[ZE5 h4]
  cases hx:ev e x with
  |own b=>simp only;rw[h2 b (by rw[hx];simp[refs])]
  |t x=>cases x<;>rfl
  |_=>rfl
 |call f args=>rfl
 |fcall f args=>rfl
 |icall f args=>rfl
 |pcall f args=>rfl
 |dcall f args=>rfl
theorem ZhK:∀{h:V7} {b:Nat},b ∉ u.map Prod.fst->gt (upd h u) b=gt h b:=by
 induction u with
 |nil=>intro h b _;rfl
 |cons p u ih =>
  intro h b hb;obtain⟨c,x⟩:=p;simp only[Y0,Yba,not_or]at hb;show gt (upd (stB h c x) u) b=_
  simp_all [K8]
theorem ZE7(hev:ZK h nx e k=some (v,u))(hn:nx ∉ u.map Prod.fst)(nx':Nat):ZK h nx' e k=some (v,u):=by
 cases k<;>try exact hev
 case alloc zs=>simp[ZK]at hev;obtain⟨_,rfl⟩:=hev;simp at hn
 case box x =>
  simp only[ZK]at hev|-
  grind
 case bslice el sz n zs ps =>
  simp only[ZK]at hev|-
  grind
 case bptrs n ps =>
  simp only[ZK]at hev|-
  grind
 case mkslice el sz bytes zs l c =>
  simp only[ZK]at hev|-
  grind
 case slice sz x lo hi =>
  simp only[ZK]at hev|-
  cases hb:bnd e 0 lo with
  |none=>simp only[hb]at hev;cases hev
  |some l =>
   simp only[hb]at hev|-
   cases sz with
   |none =>
    grind
   |some sz =>
    cases hx:ev e x with
    |own b =>
     simp only[hx]at hev
     grind
    |t x=>simp only[hx]at hev|-;cases x<;>exact hev
    |_=>simp only[hx]at hev;cases hev
 case append el sz bytes mv x y =>
  simp only[ZK]at hev|-
  repeat' split at hev
  all_goals first
   |(cases hev;done)
   |(cases hev;simp at hn)
end
end Go.AM
