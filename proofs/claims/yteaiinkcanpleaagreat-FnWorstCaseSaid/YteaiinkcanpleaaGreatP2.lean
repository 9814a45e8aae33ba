/-
  Parts of the proofs for this seat: AMOps6 AMOps7 AMOps8 AMOps9 AMRen AMJoin AMFz AMSound AMCall AMCode AMFrame.
-/
import Derived.Deep.LoopGhost
import Derived.Laws.Small
import Derived.Laws.StructEq
import Derived.Test.YteaiinkcanpleaaGreatP1
set_option linter.all false
namespace Go.AM
open Go.RowKit (Below)
section
variable{P:Program}{N:Bu}{base:Nat}{ρ:Map}{h:V2}{w w':World}{F:Nat->Prop}{e:Env}{a:Act}{r l:Nat}{k:IntKind}{n:Int}
theorem DW(R:Rel N base ρ h w){t el:TypeId}{i:TypeInfo}(hu:P.underlying t=some (.slice el))(hi:P.info? el=some i){x:AV}{xv:Value}(h0:0<=n){v:AV}{u:List (Nat×AK)}
  (hv:(match x with
   |.t (.lst sz' es)=>if sz'=i.size then(match es[n.toNat]? with
    |some cs=>some (AV.iptr cs 0,([]:List (Nat×AK)))
    |none=>none)else none
   |.own b=>match gt h b with
    |.arr _ sz' _ es=>if sz'=i.size/\n.toNat<es.length then some (.eptr b n.toNat i.size 0,[])else none
    |_=>none
   |.bsl b m=>if i.size=1/\n.toNat<m then some (.ptr b n.toNat,[])else none
   |_=>none)=some (v,u)) (hx:RV ρ w (Free N ρ h) x xv) :
  Bb P N base ρ h w (do pure (.value (<-Instr.indexAt t xv (.int k n)))) v u:=by
 have key:∀(ad:Addr) (len cap:Nat),xv=.slice (some ad) len cap->n.toNat<len->((do pure (.value (<-Instr.indexAt t xv (.int k n)))):Sem Next).run P w=.ok (.value (.pointer (some (ad.add (n.toNat*i.size))))) w:=by
  intro ad len cap hxv hlt;subst hxv;have h1:n<(len:Int):=by omega
  simp[Instr.indexAt,asIntOf,run_underlying hu,h0,h1,sizeOf,typeInfo,hi]
 cases hx with
 |@t x val fp hT hf =>
  cases hT with
  |@lst sz' es g off cap c te fz fp' hne hsz' hcap hg hlen hc =>
   simp only at hv;split at hv
   .rename_i hse;subst hse;split at hv
    .rename_i cs hcs;cases hv;have hlt:n.toNat<es.length:=(Dq.1 hcs).1;obtain⟨fq,h1,h2⟩:=hc.elem hlen hcs;refine .same R (key _ _ _ rfl hlt) ?_;rw[Jm];refine RV.iptr (o:=off+n.toNat*i.size) (off:=0) (fp:=fq) hg (hf g Om) ?_ λg' hg'=>hf g' (by simp[h2 g' hg'])
     have hcl:cs.length=i.size:=hlen cs (Y9 hcs);rw[rN,OP,Iu]at h1;have hmul:n.toNat*i.size+i.size<=es.length*i.size:=by
      have:=EJ i.size (show n.toNat+1<=es.length from hlt)
      rwa [EK,OQ]at this
     grind
    .cases hv
   .cases hv
  |lst0 sz' ad cap=>simp at hv
  |_=>simp at hv
 |@own b r hr hone =>
  simp only at hv;split at hv
  .rename_i DG sz' fr es hb;split at hv
   .rename_i hcond;cases hv;have hd:gt h b≠.dead:=by rw[hb];intro hc;cases hc
    obtain⟨r',h1,h2⟩:=R.blk b hd;rw[hr]at h1;cases h1;rw[hb]at h2;obtain⟨_,xs,_,ho,_⟩:=h2;rcases ho.2 with⟨hv,hz⟩|⟨g,cap,cur,hv,_⟩
    .omega
    .refine .same R (key _ _ _ hv hcond.2) ?_;rw[Jm,Yw];exact RV.eptr (off:=0) hr hv
   .cases hv
  .cases hv
 |@bsl b m g r hr BS =>
  simp only at hv;split at hv
  .rename_i hcond;cases hv;refine .same R (key _ _ _ rfl hcond.2) ?_;rw[Jm,hcond.1,Nat.mul_one,Yw];exact .ptr hr BS
  .cases hv
 |_=>simp at hv
theorem A6.mid{es:WI}{xs:V4}{fp:V3}{sz:Nat}(hc:A6 w es.flatten xs fp)(hl:∀x∈es,x.length=sz)(hlr:l<=r)(hr:r<=es.length) :
  ∃fq,A6 w ((es.take r).drop l).flatten ((xs.drop (l*sz)).take ((r-l)*sz)) fq/\∀g∈fq,g∈fp:=by
 have e:es=es.take l++((es.take r).drop l++es.drop r):=by
  grind [List.drop_take,List.drop_drop,List.take_append_drop]
 rw[e,Iv,Iv]at hc;obtain⟨fa,fb,rfl,_,h2⟩:=hc.split;obtain⟨fc,fd,rfl,h3,_⟩:=h2.split;have hl1:(es.take l).flatten.length=l*sz:=by
  grind [GY,List.mem_of_mem_take,Nat.min_eq_left]
 have hl2:((es.take r).drop l).flatten.length=(r-l)*sz:=by
  rw[GY λx hx=>hl x (DC (OO hx))]
  grind
 grind
theorem Z2Z(hE:XO ρ w F e a.tmps){d:Nat}{o:Option Operand}{o':Option AX}(ho:(match o with|none=>some none|some o=>(A7 o).map some)=some o')(hb:bnd e d o'=some r) :
  (o=none/\r=d)\/∃x k n,o=some x/\a.eval x=.int k n/\0<=n/\r=n.toNat:=by
 cases o with
 |none=>cases ho;simp[bnd]at hb;exact .inl ⟨rfl,hb.symm⟩
 |some x =>
  obtain⟨y,hy,rfl⟩:=Yr.1 ho;simp only[bnd]at hb;split at hb
  .rename_i k n hn;have hr:=Xi hE hy;rw[hn]at hr;simp only[DO]at hb;split at hb
   .rename_i h0;cases hb;exact .inr ⟨x,k,n,rfl,hr.int_inv,h0,rfl⟩
   .cases hb
  .cases hb
theorem sD{y:Nat}{code:BoundsCode}(h0:0<=n)(h1:n.toNat<=y):(Instr.sliceBound (.int k n) y code).run P w=.ok n.toNat w:=by
 have h2:n<=(y:Int):=by omega
 simp[Instr.sliceBound,asIntOf,h0,h2]
theorem TS(hE:XO ρ w F e a.tmps){lo hi:Option Operand}{lo' hi':Option AX}(hlo:(match lo with|none=>some none|some o=>(A7 o).map some)=some lo')
  (hhi:(match hi with|none=>some none|some o=>(A7 o).map some)=some hi') {len cap:Nat} (hl:bnd e 0 lo'=some l) (hr:bnd e len hi'=some r) (hlr:l<=r) (hrc:r<=cap) (isS:Bool) :
  (Instr.sliceBounds isS len cap (lo.map a.eval) (hi.map a.eval) none).run P w=.ok (l,r,cap) w:=by
 rcases Z2Z hE hlo hl with⟨rfl,rfl⟩|⟨x,k,n,rfl,hx,h0,rfl⟩<;>rcases Z2Z hE hhi hr with⟨rfl,rfl⟩|⟨y,k',n',rfl,hy,h0',rfl⟩
 .simp[Instr.sliceBounds]
 .simp[Instr.sliceBounds,hy,sD h0' hrc]
 .simp[Instr.sliceBounds,hx,sD h0 hlr]
 .simp[Instr.sliceBounds,hx,hy,sD h0 hlr,sD h0' hrc]
theorem ZEy{fs:List Field}{j:Nat}{ks:V3}(hk:E6 P fs j=some ks):∀(d:Nat) (xs ys:XQ) (vx vy:Array Value),AE ρ w F xs (vx.toList.drop j)->AE ρ w F ys (vy.toList.drop j)->
  ∀r,B2 ks xs ys=some r->(Op.eqFields (d+1) vx vy fs).run P w=.ok r w:=by
 induction fs generalizing j ks with
 |nil =>
  intro d xs ys vx vy hx hy r hr;cases hk;cases xs<;>cases ys<;>simp[B2]at hr
  simp_all [Op.eqFields]
 |cons f fs ih =>
  intro d xs ys vx vy hx hy r hr;simp only[E6]at hk;split at hk
  .rename_i hcond;obtain⟨hname,hoff⟩:=hcond;split at hk
   .rename_i k ks' hty hrest;cases hk
    cases xs with
    |nil=>simp[B2]at hr
    |cons x xs =>
     cases ys with
     |nil=>cases x<;>simp[B2]at hr
     |cons y ys =>
      obtain⟨a1,hx0,hxa⟩:=hx.at (i:=0) (a:=x) rfl;obtain⟨b1,hy0,hyb⟩:=hy.at (i:=0) (a:=y) rfl;have hxd:AE ρ w F xs (vx.toList.drop (j+1)):=by have:=hx.drop 1;simpa[Iu]using this
      have hyd:AE ρ w F ys (vy.toList.drop (j+1)):=by have:=hy.drop 1;simpa[Iu]using this
      have hx1:vx[j]?=some a1:=by simpa using hx0
      have hy1:vy[j]?=some b1:=by simpa using hy0
      cases x<;>try (simp[B2]at hr;done)
      rename_i ta;cases y<;>try (simp[B2]at hr;done)
      rename_i tb;simp only[B2]at hr;split at hr
      .rename_i r1 r2 h1 h2;cases hr;have hrec:=ih hrest d xs ys vx vy hxd hyd r2 h2;have hpx:∀(v:Array Value) (c:Value),v[j]?=some c->(part f.type v f.offset).run P w=.ok c w:=by
        intro v c hv;have hag:(isAgg f.type).run P w=.ok false w:=by
         cases hu:P.underlying f.type with
         |none=>rw[hu]at hty;cases hty
         |some dd=>simp only[isAgg,Sem.run_bind,run_underlying hu,Result.andThen_ok];rw[hu]at hty;cases dd<;>first|rfl|simp at hty
        simp[part,hag,hoff,hv]
       have heq:(Op.equalIn (d+1) f.type a1 b1).run P w=.ok r1 w:=by
        split at hty
        .rename_i hu;cases hty;cases ta<;>cases tb<;>simp[TE]at h1;subst h1;rw[hxa.bool_inv,hyb.bool_inv];exact run_equalIn_bool' w d f.type _ _ hu
        .rename_i k' hu;cases hty;cases ta<;>cases tb<;>simp[TE]at h1;obtain⟨rfl,rfl⟩:=h1;rw[hxa.int_inv,hyb.int_inv];exact run_equalIn_int w d f.type _ k' _ _ hu
        .rename_i hu;cases hty;cases ta<;>cases tb<;>simp[TE]at h1;subst h1;rw[hxa.str_inv,hyb.str_inv];exact run_equalIn_string w d f.type _ _ hu
        .cases hty
       simp only[Op.eqFields,hname,ne_eq,not_false_eq_true,if_true,Sem.run_bind,hpx vx a1 hx1,hpx vy b1 hy1,Result.andThen_ok,heq];cases r1
       .simp
       .simpa using hrec
      .cases hr
   .cases hk
  .cases hk
end
open Go.RowKit (Below)
section
variable{P:Program}{N:Bu}{base:Nat}{ρ:Map}{h:V2}{w w':World}{F:Nat->Prop}{e:Env}{a:Act}{v u:Value}{t el:TypeId}{cs:XQ}{off b:Nat}{p r:T}{x:AV}
theorem ZEz{op:BinOp}{x y:Operand}{q:T}(hx:RV ρ w F (.t p) u)(hy:RV ρ w F (.t q) v)(hr:AJ op p q=some r) :
  ∃z,((do eqGuard op t x y u v;binOp op t u v):Sem Value).run P w=.ok z w/\RV ρ w F (.t r) z:=by
 cases p<;>cases q<;>try (simp[AJ]at hr;done)
 .rename_i k m k' n;cases hx.int_inv;cases hy.int_inv;cases op<;>simp[AJ]at hr
  case shl=>obtain⟨h0,rfl⟩:=hr;exact⟨_,by simp[eqGuard,binOp,Op.shift,show ¬n<0 by omega],.int_mk _ _⟩
  case shr=>obtain⟨h0,rfl⟩:=hr;exact⟨_,by simp[eqGuard,binOp,Op.shift,show ¬n<0 by omega],.int_mk _ _⟩
  case add=>obtain⟨rfl,rfl⟩:=hr;exact⟨_,by simp[eqGuard,binOp,Op.intArith],.int_mk _ _⟩
  case sub=>obtain⟨rfl,rfl⟩:=hr;exact⟨_,by simp[eqGuard,binOp,Op.intArith],.int_mk _ _⟩
  case mul=>obtain⟨rfl,rfl⟩:=hr;exact⟨_,by simp[eqGuard,binOp,Op.intArith],.int_mk _ _⟩
  case quo=>obtain⟨rfl,h0,rfl⟩:=hr;exact⟨_,by simp[eqGuard,binOp,Op.intDiv,h0],.int_mk _ _⟩
  case rem=>obtain⟨rfl,h0,rfl⟩:=hr;exact⟨_,by simp[eqGuard,binOp,Op.intDiv,h0],.int_mk _ _⟩
  case and=>obtain⟨rfl,rfl⟩:=hr;exact⟨_,by simp[eqGuard,binOp,Op.intBits],.int_mk _ _⟩
  case or=>obtain⟨rfl,rfl⟩:=hr;exact⟨_,by simp[eqGuard,binOp,Op.intBits],.int_mk _ _⟩
  case xor=>obtain⟨rfl,rfl⟩:=hr;exact⟨_,by simp[eqGuard,binOp,Op.intBits],.int_mk _ _⟩
  case andNot=>obtain⟨rfl,rfl⟩:=hr;exact⟨_,by simp[eqGuard,binOp,Op.intBits],.int_mk _ _⟩
  case eql=>obtain⟨rfl,rfl⟩:=hr;exact⟨_,by simp[eqGuard,binOp,Op.intCmp],.bool_mk _⟩
  case neq=>obtain⟨rfl,rfl⟩:=hr;exact⟨_,by simp[eqGuard,binOp,Op.intCmp],.bool_mk _⟩
  case lss=>obtain⟨rfl,rfl⟩:=hr;exact⟨_,by simp[eqGuard,binOp,Op.intCmp],.bool_mk _⟩
  case leq=>obtain⟨rfl,rfl⟩:=hr;exact⟨_,by simp[eqGuard,binOp,Op.intCmp],.bool_mk _⟩
  case gtr=>obtain⟨rfl,rfl⟩:=hr;exact⟨_,by simp[eqGuard,binOp,Op.intCmp],.bool_mk _⟩
  case geq=>obtain⟨rfl,rfl⟩:=hr;exact⟨_,by simp[eqGuard,binOp,Op.intCmp],.bool_mk _⟩
 .rename_i s1 s2;cases hx.str_inv;cases hy.str_inv;cases op<;>simp[AJ]at hr
  case add =>
   obtain⟨h0,rfl⟩:=hr;refine⟨_,?_,.str_mk _⟩
   have:¬(9223372036854775807<(s1.size:Int)+(s2.size:Int)):=by omega
   simp[eqGuard,binOp,Op.stringOp,this]
  case eql=>subst hr;exact⟨_,by simp[eqGuard,binOp,Op.stringOp],.bool_mk _⟩
  case neq=>subst hr;exact⟨_,by simp[eqGuard,binOp,Op.stringOp],.bool_mk _⟩
  case lss=>subst hr;exact⟨_,by simp[eqGuard,binOp,Op.stringOp],.bool_mk _⟩
  case leq=>subst hr;exact⟨_,by simp[eqGuard,binOp,Op.stringOp],.bool_mk _⟩
  case gtr=>subst hr;exact⟨_,by simp[eqGuard,binOp,Op.stringOp],.bool_mk _⟩
  case geq=>subst hr;exact⟨_,by simp[eqGuard,binOp,Op.stringOp],.bool_mk _⟩
theorem DX{op:UnOp}(hx:RV ρ w F (.t p) u)(hr:OT op p=some r):∃z,(Op.unary op u).run P w=.ok z w/\RV ρ w F (.t r) z:=by
 cases p<;>cases op<;>try (simp[OT]at hr;done)
 .cases hx.int_inv;simp[OT]at hr;subst hr;exact⟨_,by simp[Op.unary,Op.intArith],.int_mk _ _⟩
 .cases hx.bool_inv;simp[OT]at hr;subst hr;exact⟨_,by simp[Op.unary],.bool_mk _⟩
theorem Z3a(R:Rel N base ρ h w)(hx:RV ρ w (Free N ρ h) x v){r:Bool}(hr:VH h true x=some r):∃c n m,v=.slice c n m/\c.isNone=r:=by
 cases hx with
 |t hT hf =>
  cases hT with
  |nil=>simp[VH]at hr;subst hr;exact⟨none,0,0,rfl,rfl⟩
  |lst0=>simp[VH]at hr
  |@lst sz es g off cap c' te fz fp hne hsz hcap hg hlen hc =>
   cases es with
   |nil=>exact absurd rfl hne
   |cons y ys=>simp[VH]at hr;subst hr;exact⟨_,_,_,rfl,rfl⟩
  |_=>simp[VH]at hr
 |@own b r' hr' hone =>
  simp only[VH]at hr;split at hr
  .rename_i DG sz fr y ys hb;cases hr;obtain⟨r2,h1,h2⟩:=R.blk b (by rw[hb];intro hc;cases hc);rw[hr']at h1;cases h1;rw[hb]at h2;obtain⟨_,xs,_,ho,_⟩:=h2;rcases ho.2 with⟨_,hz⟩|⟨g,cap,cur,hv',_⟩
   .simp at hz
   .simp_all
  .cases hr
 |_=>simp[VH]at hr
theorem Z3b(hx:RV ρ w F x v){r:Bool}(hr:VH h false x=some r):∃c,v=.pointer c/\c.isNone=r:=by
 cases hx with
 |nilp=>simp[VH]at hr;subst hr;exact⟨none,rfl,rfl⟩
 |ptr=>simp[VH]at hr;subst hr;exact⟨_,rfl,rfl⟩
 |eptr=>simp[VH]at hr;subst hr;exact⟨_,rfl,rfl⟩
 |iptr=>simp[VH]at hr;subst hr;exact⟨_,rfl,rfl⟩
 |_=>simp[VH]at hr
theorem Z3c(hu:P.underlying t=some (.slice el))(d:Nat)(c:Option Addr)(n m:Nat):(Op.equalIn (d+1) t (.slice c n m) (.slice none 0 0)).run P w=.ok c.isNone w:=by
 cases c<;>simp[Op.equalIn,run_underlying hu]
theorem Z3d(hu:P.underlying t=some (.pointer el))(d:Nat)(c:Option Addr):(Op.equalIn (d+1) t (.pointer c) (.pointer none)).run P w=.ok c.isNone w:=by
 cases c<;>simp[Op.equalIn,run_underlying hu]
theorem RV.ptr_val(hv:RV ρ w F (.ptr b off) v):∃p,v=.pointer (some p):=by cases hv;exact⟨_,rfl⟩
theorem RV.eptr_val{i sz:Nat}(hv:RV ρ w F (.eptr b i sz off) v):∃p,v=.pointer (some p):=by cases hv;exact⟨_,rfl⟩
theorem RV.iptr_val{cs:V5}(hv:RV ρ w F (.iptr cs off) v):∃p,v=.pointer (some p):=by cases hv;exact⟨_,rfl⟩
theorem RV.fn_val{f:Nat}(hv:RV ρ w F (.fn f cs) v):∃c:Array Value,v=.func (.func f) #[] c/\AE ρ w F cs c.toList:=by cases hv;exact⟨_,rfl,by assumption⟩
theorem RV.tup_val(hv:RV ρ w F (.tup cs) v):∃c:Array Value,v=.tuple c/\AE ρ w F cs c.toList:=by cases hv;exact⟨_,rfl,by assumption⟩
theorem RV.agg_val(hv:RV ρ w F (.agg cs) v):∃c:Array Value,v=.agg c/\AE ρ w F cs c.toList/\∀v∈c.toList,v.oneCell'=true:=by cases hv;exact⟨_,rfl,by assumption,by assumption⟩
theorem Z3e(hE:XO ρ w F e a.tmps):∀(ps:List (Nat×Operand)) (qs:List (Nat×AX)) (cs:XQ) (cells:Array Value),
  AW (λp:Nat×Operand=>(A7 p.2).map λx=>(p.1,x)) ps=some qs->AE ρ w F cs cells.toList->(∀v∈cells.toList,v.oneCell'=true)->
  ∀cs',Jg e cs qs=some cs'->∃cells',Instr.fill (λi=>some (i*1,1)) cells (ps.map λp=>(p.1,a.eval p.2))=some cells'/\AE ρ w F cs' cells'.toList/\∀v∈cells'.toList,v.oneCell'=true
 |[],qs,cs,cells,hm,hc,h1,cs',hp=>by
  cases hm;simp[Jg]at hp;subst hp
  exact⟨cells,by simp[Instr.fill],hc,h1⟩
 |(i,x)::ps,qs,cs,cells,hm,hc,h1,cs',hp=>by
  obtain⟨q,TO,hq,TP,rfl⟩:=KA hm;obtain⟨x',hx,rfl⟩:=Yr.1 hq;simp only[Jg]at hp;split at hp
  .rename_i v hv;split at hp
   .rename_i hlt;obtain⟨h2,h3⟩:=IH hv (Xi hE hx);have hl1:=h2.length;have hl2:=hc.length;simp only[Y7,Yx,Df]at hl1 hl2;obtain⟨Bz,hf,hcl⟩:=Zru (place:=λi=>some (i*1,1)) (cells:=cells) (i:=i) (off:=i*1) (size:=1) (v:=a.eval x) (rest:=ps.map λp=>(p.1,a.eval p.2)) rfl Z Z;have hR:AE ρ w F (cs.set i v) Bz.toList:=by
     rw[hcl,List.set_eq_take_append_cons_drop,Ya hlt,Nat.mul_one];have:=((hc.take i).append h2).append (hc.drop (i+1));simpa using this
    have ho:∀v∈Bz.toList,v.oneCell'=true:=by
     grind
    obtain⟨cells',h4,h5,h6⟩:=Z3e hE ps TO _ Bz TP hR ho cs' hp
    simp_all
   .cases hp
  .cases hp
theorem DY(R:Rel N base ρ h w)(hE:XO ρ w (Free N ρ h) e a.tmps){nx:Nat}(hn:ρ nx=none){n:Nat}{ps:Array (Nat×Operand)}{i:TypeInfo}{qs:List (Nat×AX)}
  (hu:P.underlying t=some (.slice el)) (hi:P.info? el=some i) (hsmall:n*i.size<=16777216) (hsz:i.size=1) (hz:i.zero=some (.pointer none))
  (hm:AW (λp:Nat×Operand=>(A7 p.2).map λx=>(p.1,x)) ps.toList=some qs) (hc:Jg e (List.replicate n .nilp) qs=some cs) :
  Bb P N base ρ h w (do pure (.value (<-Instr.buildSlice t n (ps.map λ(i,x)=>(i,a.eval x))))) (.bsl nx n) [(nx,.box cs)]:=by
 have h0:AE ρ w (Free N ρ h) (List.replicate n .nilp) (madeCells #[.pointer none] n).toList:=by
  have e1:(madeCells #[.pointer none] n).toList=List.replicate n (.pointer none):=by
   apply TB
   .simp[madeCells]
   .intro k h1 h2;simp[madeCells,Nat.mod_one]
  rw[e1];clear hc e1 hsmall
  induction n with
  |zero=>exact .nil
  |succ n ih=>rw[rQ,rQ];exact .cons .nilp ih
 have h1:∀v∈(madeCells #[.pointer none] n).toList,v.oneCell'=true:=by
  intro v hv;simp only[madeCells,EL,Yn]at hv;obtain⟨k,_,rfl⟩:=hv;simp[Nat.mod_one,Value.oneCell']
 obtain⟨cells',h2,h3,h4⟩:=Z3e hE ps.toList qs _ _ hm h0 h1 cs hc;have hrun:(Instr.buildSlice t n (ps.map λ(i,x)=>(i,a.eval x))).run P w=.ok (.slice (some ⟨w.heap.size,0,none⟩) n n) (w.alloc (.cells cells' el)):=by
  by_cases hn0:n=0
  .subst hn0;have hcells:madeCells #[.pointer none] 0=#[]:=by simp[madeCells,Array.range_zero']
   rw[hcells]at h2;simp only[Nat.mul_one]at h2;simp[Instr.buildSlice,run_underlying hu,sizeOf,typeInfo,hi,hsz,h2,newRow,Array.range_zero']
  .refine run_buildSlice w t el n _ cells' i (.pointer none) hu hi hz Z (by rw[hsz];omega) ?_;rw[EL,hsz];rw[Nat.mul_one];exact h2
 have hp:=IG R (n:=nx) (ks:=[]) (x:=.box cs) (r:=⟨.pointer (some ⟨w.heap.size,0,none⟩),[]⟩) (row:=none) (w':=w.alloc (.cells cells' el))
  (by intro r0 h0;rw[hn]at h0;cases h0) (Z2K w _) (by intro g hg;cases hg) (by intro g hg;simp[Xu]at hg;exact .inl Z)
  (λhk=>⟨w.heap.size,cells',el,rfl,R.hb,heap_alloc_new w _,h3.keep hk,h4⟩) (by intro hf;cases hf)
 refine⟨_,_,Ay ρ nx ⟨.pointer (some ⟨w.heap.size,0,none⟩),[]⟩,.inl (by simp only[Sem.run_bind,hrun,Result.andThen_ok];rfl),?_,hp.1,hp.2.1,?_,(Below.refl _ _).alloc R.hb _,hp.2.2⟩
 .exact .bsl (r:=⟨.pointer (some ⟨w.heap.size,0,none⟩),[]⟩) (by simp[Ay]) rfl
 .intro b hb;simp at hb;simp[Ay,hb]
end
open Go.RowKit (Below)
section
variable{P:Program}{N:Bu}{base:Nat}{ρ:Map}{h:V2}{w w':World}{F:Nat->Prop}{e:Env}{a:Act}{t ut el:TypeId}{xv:Value}{v x:AV}{u:List (Nat×AK)}{n:Option Nat}{i:TypeInfo}{f off m:Nat}{k:IntKind}{cs:XQ}
theorem Fe(R:Rel N base ρ h w)(hn:UJ P t=some n)
  (hv:(match x with
  |.ptr b off=>match gt h b with
   |.box cs=>(Qz cs off n).map (·,([]:List (Nat×AK)))
   |_=>none
  |.eptr b i sz off=>match gt h b with
   |.arr _ sz' _ es=>if sz=sz' then(match es[i]? with
    |some cs=>(GO cs off n).map (·,[])
    |none=>none)else none
   |_=>none
  |.iptr cs off=>(GO cs off n).map (·,[])
  |_=>none)=some (v,u)) (hx:RV ρ w (Free N ρ h) x xv) :
  Bb P N base ρ h w (do pure (.value (<-Instr.loadAt t xv))) v u:=by
 cases hx with
 |@ptr b off g r hr BS =>
  simp only at hv;split at hv
  .rename_i cs hb;obtain⟨v',hv',he⟩:=Yr.1 hv;cases he;obtain⟨r',h1,h2⟩:=R.blk b (by rw[hb];intro hc;cases hc);rw[hr]at h1;cases h1;rw[hb]at h2;obtain⟨g',c,te,hv2,_,hh,hcs,hone⟩:=h2;rw[BS]at hv2;cases hv2;obtain⟨val,h3,h4⟩:=Z2O (P:=P) hn hh hcs hone hv';exact .same R (by simp[Instr.loadAt,Instr.sureAddr,h3]) h4
  .cases hv
 |@eptr b i sz off g m cap r hr BS =>
  simp only at hv;split at hv
  .rename_i el sz' fr es hb;split at hv
   .rename_i hse;subst hse;split at hv
    .rename_i cs hcs;obtain⟨v',hv',he⟩:=Yr.1 hv;cases he;obtain⟨r',h1,h2⟩:=R.blk b (by rw[hb];intro hc;cases hc);rw[hr]at h1;cases h1;rw[hb]at h2;obtain⟨_,xs,_,ho,hsz,hl,ht,hf,_⟩:=h2;rcases ho.2 with⟨hv2,_⟩|⟨g',cap',cur,hv2,_,hh,_,_,_,htake⟩
     .simp_all
     .rw[BS]at hv2;cases hv2;obtain⟨fq,h3,h4⟩:=ht.elem hl hcs;have hcl:cs.length=sz:=hl cs (Y9 hcs);have hlt:i<es.length:=(Dq.1 hcs).1;have hmul:i*sz+sz<=es.length*sz:=by
       have:=EJ sz (show i+1<=es.length from hlt)
       rwa [EK,OQ]at this
      rw[<-htake,rN,OP,GK Z]at h3;obtain⟨val,h5,h6⟩:=Z2P (P:=P) (ρ:=ρ) (F:=Free N ρ h) hn hh h3 (λg hg=>hf g (h4 g hg)) hv';exact .same R (by simp[Instr.loadAt,Instr.sureAddr,h5]) h6
    .cases hv
   .cases hv
  .cases hv
 |@iptr cs off g o c te fz fp hg hF hc hf =>
  simp only at hv;obtain⟨v',hv',he⟩:=Yr.1 hv;cases he;obtain⟨val,h5,h6⟩:=Z2P (P:=P) (ρ:=ρ) (F:=Free N ρ h) hn hg hc hf hv'
  exact .same R (by simp[Instr.loadAt,Instr.sureAddr,h5]) h6
 |_=>simp at hv
theorem DZ(R:Rel N base ρ h w)(hi:P.info? t=some i){y:AV}{yv:Value}(hy:RV ρ w (Free N ρ h) y yv)
  (hv:(match cellsOf y with
  |some vs=>if vs.length=i.size then(match x with
   |.ptr b off=>match gt h b with
    |.box cs=>if off+i.size<=cs.length then some (.top,[(b,.box (VY cs off vs))])else none
    |_=>none
   |.eptr b j sz off=>match gt h b with
    |.arr el sz' fr es=>match es[j]?,BD h vs with
     |some cs,some (ts,f,ks) =>
      if off+i.size<=cs.length/\U9 (b::ks)/\sz=sz' then some (.top,kill ks++[(b,.arr el sz' (fr && f) (es.set j (BK cs off (wk (cs.drop off) ts))))])else none
     |_,_=>none
    |_=>none
   |_=>none)else none
  |none=>none)=some (v,u)) (hx:RV ρ w (Free N ρ h) x xv) :
  Bb P N base ρ h w (do Instr.storeAt t xv yv;pure .skip) v u:=by
 split at hv
 .rename_i vs hvs;split at hv
  .rename_i hl;split at hv
   .rename_i b off;split at hv
    .rename_i cs hb;split at hv
     .rename_i hle;cases hv;exact ZEs R hb rfl hx hvs hy hi hl hle
     .cases hv
    .cases hv
   .rename_i b j sz off;split at hv
    .rename_i el sz' fr es hb;split at hv
     .rename_i cs ts f ks hcs hts;split at hv
      .rename_i hcond;cases hv;exact ZEt R hb hcs hx hcond.2.2 hvs hy hts hi hl hcond.1 hcond.2.1
      .cases hv
     .cases hv
    .cases hv
   .cases hv
  .cases hv
 .cases hv
theorem ok_slice(R:Rel N base ρ h w){nx:Nat}(hn:ρ nx=none)(hE:XO ρ w (Free N ρ h) e a.tmps){lo hi:Option Operand}{lo' hi':Option AX}
  (hlo:(match lo with|none=>some none|some o=>(A7 o).map some)=some lo') (hhi:(match hi with|none=>some none|some o=>(A7 o).map some)=some hi') {sz:Option Nat}
  (hv:(match bnd e 0 lo' with
  |none=>none
  |some l=>match sz,x with
   |none,.t (.str s)=>match bnd e s.size hi' with
    |some r=>if l<=r/\r<=s.size then some (AV.t (.str (s.extract l r)),([]:List (Nat×AK)))else none
    |none=>none
   |some sz,.t (.lst sz' es)=>match bnd e es.length hi' with
    |some r=>if l<=r/\r<=es.length/\sz'=sz then some (.t (.lst sz ((es.take r).drop l)),[])else none
    |none=>none
   |some sz,.own b=>match gt h b with
    |.arr el sz' fr es=>match bnd e es.length hi' with
     |some r=>if l=0/\r<=es.length/\sz'=sz then some (.own nx,kill [b]++[(nx,.arr el sz fr (es.take r))])else none
     |none=>none
    |_=>none
   |_,_=>none)=some (v,u))
  (hsz:(match P.underlying t with|some .string=>some none|some (.slice e)=>(P.info? e).map λi=>some i.size|_=>none)=some sz) (hx:RV ρ w (Free N ρ h) x xv) :
  Bb P N base ρ h w (do pure (.value (<-Instr.sliceAt t xv (lo.map a.eval) (hi.map a.eval) ((none:Option Operand).map a.eval)))) v u:=by
 split at hv
 .cases hv
 .rename_i l hl;split at hv
  .rename_i s;split at hv
   .rename_i r hr;split at hv
    .rename_i hc;cases hv;cases hx.str_inv;have hu:P.underlying t=some .string:=by
      revert hsz;split
      .intro;assumption
      .intro h1;obtain⟨_,_,h2⟩:=Yr.1 h1;cases h2
      .intro h1;cases h1
     have hb:=TS (P:=P) hE hlo hhi (len:=s.size) (cap:=s.size) hl hr hc.1 hc.2 false;exact .same R (by simp[Instr.sliceAt,Instr.slice,run_underlying hu,hb]) (.str_mk _)
    .cases hv
   .cases hv
  .rename_i sz' sz2 es;split at hv
   .rename_i r hr;split at hv
    .rename_i hc;obtain⟨hc1,hc2,rfl⟩:=hc;cases hv;obtain⟨el,i,hu,hi',rfl⟩:∃el i,P.underlying t=some (.slice el)/\P.info? el=some i/\sz2=i.size:=by
      revert hsz;split
      .intro h1;cases h1
      .rename_i el hu;intro h1;obtain⟨i,h2,h3⟩:=Yr.1 h1;cases h3;exact⟨el,i,hu,h2,rfl⟩
      .intro h1;cases h1
     cases hx with
     |t hT hf =>
      cases hT with
      |lst0 _ ad cap =>
       simp at hc2;subst hc2;obtain rfl:l=0:=by omega
       have hb:=TS (P:=P) hE hlo hhi (len:=0) (cap:=cap) hl hr (Yj _) (Yc _) true;refine .same R (val:=.slice (if cap=0 then ad else ad.map (·.add (0*i.size))) 0 cap) (by simp[Instr.sliceAt,Instr.slice,run_underlying hu,hb,sizeOf,typeInfo,hi']) ?_;simp only[List.take_nil,List.drop_nil]
       exact .t (.lst0 _ _ _) (by intro g hg;cases hg)
      |@lst _ _ g off cap c te fz fp' hne hsz' hcap hg hlen hcc =>
       have hb:=TS (P:=P) hE hlo hhi (len:=es.length) (cap:=cap) hl hr hc1 Z true;by_cases hemp:l=r
       .subst hemp;have he:(es.take l).drop l=[]:=by simp
        rw[he];refine .same R (val:=.slice (if cap=l then some ⟨g,off,none⟩else some ((⟨g,off,none⟩:Addr).add (l*i.size))) 0 (cap-l)) (by simp[Instr.sliceAt,Instr.slice,run_underlying hu,hb,sizeOf,typeInfo,hi']) ?_;exact .t (.lst0 _ _ _) (by intro g hg;cases hg)
       .have hne':cap≠l:=by omega
        obtain⟨fq,h3,h4⟩:=hcc.mid hlen hc1 hc2;have hlen':((es.take r).drop l).length=r-l:=by simp;omega
        refine .same R (val:=.slice (some ⟨g,off+l*i.size,none⟩) (r-l) (cap-l)) (by simp[Instr.sliceAt,Instr.slice,run_underlying hu,hb,sizeOf,typeInfo,hi',hne',Jm]) ?_;have hT2:TR w (.lst i.size ((es.take r).drop l)) (.slice (some ⟨g,off+l*i.size,none⟩) ((es.take r).drop l).length (cap-l)) (g::fq):=by
         refine .lst (c:=c) (e:=te) (fz:=fz) ?_ hsz' Z hg (λx hx=>hlen x (DC (OO hx))) ?_
         .intro hnil;rw[hnil]at hlen';simp at hlen';omega
         .rw[hlen'];have hm:(r-l)*i.size<=es.length*i.size-l*i.size:=by
           rw[<-Nat.sub_mul];exact EJ _ Z
          have e3:List.take ((r-l)*i.size) (List.drop (l*i.size) (List.take (es.length*i.size) (List.drop off c.toList)))=List.take ((r-l)*i.size) (List.drop (off+l*i.size) c.toList):=by
           rw[rN,OP,Iu,GK hm]
          rw[e3]at h3;exact h3
        rw[hlen']at hT2
        exact .t hT2 (by
         intro g' hg'
         cases hg' with
         |head=>exact hf _ Om
         |tail _ hg'=>exact hf g' (by simp[h4 g' hg']))
    .cases hv
   .cases hv
  .rename_i sz2 b;split at hv
   .rename_i el sz' fr es hgb;split at hv
    .rename_i r hr;split at hv
     .rename_i hc;obtain⟨rfl,hc2,rfl⟩:=hc;cases hv;obtain⟨DG,i,hu,hi',rfl⟩:∃el i,P.underlying t=some (.slice el)/\P.info? el=some i/\sz'=i.size:=by
       revert hsz;split
       .intro h1;cases h1
       .rename_i el hu;intro h1;obtain⟨i,h2,h3⟩:=Yr.1 h1;cases h3;exact⟨el,i,hu,h2,rfl⟩
       .intro h1;cases h1
      have hd:gt h b≠.dead:=by rw[hgb];intro hc;cases hc
      obtain⟨rt,hrt,hB⟩:=R.blk b hd;rw[hgb]at hB;obtain⟨e0,xs,he0,ho,hsz0,hl1,ht1,hf1,Fd⟩:=hB
      cases hx with
      |@own _ r2 hr2 hone =>
       rw[hrt]at hr2;cases hr2;have hfb:fr=true->XG (gt h b)=true:=λhft=>by rw[hgb];exact hft
       have e1:es.flatten=(es.take r).flatten++(es.drop r).flatten:=by rw[<-Iv,Ycq]
       rw[e1]at ht1;obtain⟨fa,fb,hfp,h3,_⟩:=ht1.split;have hfl:(es.take r).flatten.length=r*i.size:=by
        rw[GY λx hx=>hl1 x (DC hx)];simp;rw[GK hc2]
       rw[hfl]at h3;have hlr:(es.take r).length=r:=by simp;omega
       have hsub:∀g∈fa,g∈rt.fp:=λg hg=>by rw[hfp];simp[hg]
       have fin:∀vv,(Instr.sliceAt t rt.v (lo.map a.eval) (hi.map a.eval) ((none:Option Operand).map a.eval)).run P w=.ok vv w->w.ownsRow base e0 i.size vv r (xs.take (r*i.size))->(∀g,Xu vv=some g->Xu rt.v=some g)->
         Bb P N base ρ h w (do pure (.value (<-Instr.sliceAt t rt.v (lo.map a.eval) (hi.map a.eval) ((none:Option Operand).map a.eval)))) (.own nx) (kill [b]++[(nx,.arr el i.size fr (es.take r))]):=by
        intro vv hrun hown hblk;have:=TM (P:=P) R hn (s:=(do pure (.value (<-Instr.sliceAt t rt.v (lo.map a.eval) (hi.map a.eval) ((none:Option Operand).map a.eval))))) (vv:=vv) (w':=w) (by simp at hrun;simp[hrun]) (row:=none)
         ⟨rfl,rfl,rfl,Yj _,λ_ _ _=>rfl⟩ hsz0 (es1:=es.take r) (es2:=[]) (xs1:=xs.take (r*i.size)) (xs2:=[]) (fp1:=fa) (fp2:=[]) (fr1:=fr) (f:=true) (kd:=[b]) (ks:=[])
         (by simpa[hlr]using hown) (λx hx=>hl1 x (DC hx)) Om h3 .nil (By.nil _) Y8 (λg hg=>hf1 g (hsub g hg))
         (λhft=>⟨by have:=(Fd hft).1;rw[hfp]at this;exact(EI.1 this).1,λg hg=>(Fd hft).2 g (hsub g hg)⟩)
         (by intro hft g hg d rd hdk hrd hfd hgd;exact hdk (by rw[<-R.apart b d rt rd g hrt hrd (hfb hft) hfd (hsub g hg) hgd];simp))
         (by intro _ _ _ k hk;cases hk) (by intro g hg;cases hg) (by intro g hg;exact .inr ⟨b,Om,rt,hrt,hd,(hblk g hg)⟩) (by intro g k hk;cases hk) (lb:=el) he0
        simpa using this
       rcases ho.2 with⟨hv,hz⟩|⟨g,cap,cur,hv,hbg,hg,hcap,hmx,hcs,htake⟩
       .have he:es=[]:=rP hz;subst he;simp at hc2;subst hc2;have hb:=TS (P:=P) hE hlo hhi (len:=0) (cap:=0) hl hr (Yj _) (Yj _) true;refine fin (.slice none 0 0) ?_ ⟨Om,.inl ⟨rfl,rfl⟩⟩ (by intro g hg;cases hg);rw[hv];simp[Instr.sliceAt,Instr.slice,run_underlying hu,hb,sizeOf,typeInfo,hi']
       .have hb:=TS (P:=P) hE hlo hhi (len:=es.length) (cap:=cap) hl hr (Yc _) Z true;refine fin (.slice (some ⟨g,0,none⟩) r cap) ?_ ⟨?_,.inr ⟨g,cap,cur,rfl,hbg,hg,Z,hmx,hcs,?_⟩⟩ (by intro g' hg';rw[hv];exact hg')
        .rw[hv];simp[Instr.sliceAt,Instr.slice,run_underlying hu,hb,sizeOf,typeInfo,hi',Jm]
        .rw[Yy,ho.1,GK (EJ _ hc2)]
        .rw[<-htake,OP,GK (EJ _ hc2)]
     .cases hv
    .cases hv
   .cases hv
  .cases hv
theorem Z3f(hf:OW P t f=some (off,ut)) :
  ∃fs fd i,P.underlying t=some (.struct fs)/\fs[f]?=some fd/\P.info? fd.type=some i/\i.size≠0/\fd.offset=off/\fd.type=ut:=by
 unfold OW at hf
 grind
theorem D0(R:Rel N base ρ h w)(hf:OW P t f=some (off,ut))
  (hv:(match x with
  |.ptr b o=>some (AV.ptr b (o+off),([]:List (Nat×AK)))
  |.eptr b i sz o=>some (.eptr b i sz (o+off),[])
  |.iptr cs o=>some (.iptr cs (o+off),[])
  |_=>none)=some (v,u)) (hx:RV ρ w (Free N ρ h) x xv) :
  Bb P N base ρ h w (do pure (.value (<-Instr.fieldAt t xv f))) v u:=by
 obtain⟨fs,fd,i,hu,hfd,hi,hs,rfl,_⟩:=Z3f hf;have key:∀g o,xv=.pointer (some ⟨g,o,none⟩)->((do pure (.value (<-Instr.fieldAt t xv f))):Sem Next).run P w=.ok (.value (.pointer (some ⟨g,o+fd.offset,none⟩))) w:=by
  intro g o hxv;subst hxv;simp[Instr.fieldAt,run_underlying hu,hfd,Instr.sureAddr,fieldPlace,sizeOf,typeInfo,hi,hs,Jm]
 cases hx with
 |ptr hr BS=>simp at hv;obtain⟨rfl,rfl⟩:=hv;exact .same R (key _ _ rfl) (.ptr hr BS)
 |eptr hr BS=>simp at hv;obtain⟨rfl,rfl⟩:=hv;refine .same R (key _ _ rfl) ?_;rw[TC];exact .eptr hr BS
 |iptr hg hF hc Ch=>simp at hv;obtain⟨rfl,rfl⟩:=hv;refine .same R (key _ _ rfl) ?_;rw[TC];exact .iptr hg hF hc Ch
 |_=>simp at hv
theorem D1(R:Rel N base ρ h w)(hu:P.underlying t=some (.array m el))(hi:P.info? el=some i){n:Int}(h0:0<=n)(h1:n.toNat<m)
  (hv:(match x with
  |.ptr b o=>some (AV.ptr b (o+n.toNat*i.size),([]:List (Nat×AK)))
  |.eptr b j s o=>some (.eptr b j s (o+n.toNat*i.size),[])
  |.iptr cs o=>some (.iptr cs (o+n.toNat*i.size),[])
  |_=>none)=some (v,u)) (hx:RV ρ w (Free N ρ h) x xv) :
  Bb P N base ρ h w (do pure (.value (<-Instr.indexAt t xv (.int k n)))) v u:=by
 have h2:n<(m:Int):=by omega
 have key:∀g o,xv=.pointer (some ⟨g,o,none⟩)->((do pure (.value (<-Instr.indexAt t xv (.int k n)))):Sem Next).run P w=.ok (.value (.pointer (some ⟨g,o+n.toNat*i.size,none⟩))) w:=by
  intro g o hxv;subst hxv;simp[Instr.indexAt,asIntOf,run_underlying hu,Instr.sureAddr,h0,h2,sizeOf,typeInfo,hi,Jm]
 cases hx with
 |ptr hr BS=>simp at hv;obtain⟨rfl,rfl⟩:=hv;exact .same R (key _ _ rfl) (.ptr hr BS)
 |eptr hr BS=>simp at hv;obtain⟨rfl,rfl⟩:=hv;refine .same R (key _ _ rfl) ?_;rw[TC];exact .eptr hr BS
 |iptr hg hF hc Ch=>simp at hv;obtain⟨rfl,rfl⟩:=hv;refine .same R (key _ _ rfl) ?_;rw[TC];exact .iptr hg hF hc Ch
 |_=>simp at hv
theorem Ff(R:Rel N base ρ h w)(hu:P.underlying t=some (.array m el))(hi:P.info? el=some i)(hn:UJ P el=some n)(hx:RV ρ w (Free N ρ h) (.agg cs) xv){j:Int}(h0:0<=j)(hj:j.toNat<m)(hv:Qz cs (j.toNat*i.size) n=some v):Bb P N base ρ h w (do pure (.value (<-Instr.index t xv (.int k j)))) v []:=by
 have h2:j<(m:Int):=by omega
 cases hx with
 |@agg _ c hc h1 =>
  have hag:=sB (P:=P) hn w
  cases n with
  |none =>
   obtain⟨val,h2',h3⟩:=hc.at hv;have h2':c[j.toNat*i.size]?=some val:=by simpa using h2'
   exact .same R (by simp[Instr.index,asIntOf,run_underlying hu,h0,h2,sizeOf,typeInfo,hi,part,hag,h2']) h3
  |some q =>
   simp only[Qz]at hv;split at hv
   .rename_i hle;cases hv;obtain⟨i',hi',hk⟩:=Zrp hn;rw[hi]at hi';cases hi';subst hk;refine .same R (val:=.agg (c.extract (j.toNat*i.size) (j.toNat*i.size+i.size))) (by simp[Instr.index,asIntOf,run_underlying hu,h0,h2,sizeOf,typeInfo,hi,part,hag]) ?_;have e:(c.extract (j.toNat*i.size) (j.toNat*i.size+i.size)).toList=(c.toList.drop (j.toNat*i.size)).take i.size:=by
     simp
    refine .agg (by rw[e];exact(hc.drop _).take _) ?_
    grind
   .cases hv
theorem D2(R:Rel N base ρ h w)(hf:OW P t f=some (off,ut))(hn:UJ P ut=some n)(hx:RV ρ w (Free N ρ h) (.agg cs) xv)
  (hv:Qz cs off n=some v):Bb P N base ρ h w (do pure (.value (<-Instr.field t xv f))) v []:=by
 obtain⟨fs,fd,i,hu,hfd,hi,hs,rfl,rfl⟩:=Z3f hf
 cases hx with
 |@agg _ c hc h1 =>
  have hag:=sB (P:=P) hn w
  cases n with
  |none =>
   obtain⟨val,h2,h3⟩:=hc.at hv;have h2':c[fd.offset]?=some val:=by simpa using h2
   exact .same R (by simp[Instr.field,run_underlying hu,hfd,asAgg,part,hag,h2']) h3
  |some k =>
   simp only[Qz]at hv;split at hv
   .rename_i hle;cases hv;obtain⟨i',hi',hk⟩:=Zrp hn;rw[hi]at hi';cases hi';subst hk;refine .same R (val:=.agg (c.extract fd.offset (fd.offset+i.size))) (by simp[Instr.field,run_underlying hu,hfd,asAgg,part,hag,sizeOf,typeInfo,hi]) ?_;have e:(c.extract fd.offset (fd.offset+i.size)).toList=(c.toList.drop fd.offset).take i.size:=by
     simp
    refine .agg (by rw[e];exact(hc.drop _).take _) ?_
    grind
   .cases hv
end
open Go.RowKit (Below)
section
variable{P:Program}{N:Bu}{base:Nat}{ρ:Map}{h:V2}{w:World}{e:Env}{a:Act}{inl:V3}{ops:Array Oper}{t ty:TypeId}{x:AV}{xv:Value}{n:Nat}
theorem IL(R:Rel N base ρ h w){el:TypeId}(hx:RV ρ w (Free N ρ h) x xv)(hl:VZ h false x=some n)(hu:P.underlying t=some (.slice el)) :
  Bb P N base ρ h w (do pure (.value (<-Builtin.len_ #[t] ty #[xv]))) (.t (.int .i64 (n:Int))) []:=by
 refine .same R ?_ (.int_mk _ _);have hsl:∃c m,xv=.slice c n m:=by
  cases hx with
  |t hT hf =>
   cases hT with
   |nil=>simp[VZ]at hl;subst hl;exact⟨_,_,rfl⟩
   |lst0=>simp[VZ]at hl;subst hl;exact⟨_,_,rfl⟩
   |lst=>simp[VZ]at hl;subst hl;exact⟨_,_,rfl⟩
   |_=>simp[VZ]at hl
  |@own b r' hr' hone =>
   simp only[VZ]at hl;split at hl
   .rename_i DG sz fr es hb;cases hl;obtain⟨r2,h1,h2⟩:=R.blk b (by rw[hb];intro hc;cases hc);rw[hr']at h1;cases h1;rw[hb]at h2;obtain⟨_,xs,_,ho,_⟩:=h2;rcases ho.2 with⟨hv',hz⟩|⟨g,cap,cur,hv',_⟩
    .simp_all
    .simp_all
   .cases hl
  |bsl=>simp[VZ]at hl;subst hl;exact⟨_,_,rfl⟩
  |_=>simp[VZ]at hl
 obtain⟨c,m,rfl⟩:=hsl;simp[Builtin.len_,run_underlying hu,goInt]
theorem Fg(R:Rel N base ρ h w)(hx:RV ρ w (Free N ρ h) x xv)(hl:VZ h true x=some n)(hu:P.underlying t=some .string) :
  Bb P N base ρ h w (do pure (.value (<-Builtin.len_ #[t] ty #[xv]))) (.t (.int .i64 (n:Int))) []:=by
 refine .same R ?_ (.int_mk _ _);cases x<;>try (simp[VZ]at hl;done)
 rename_i tx;cases tx<;>try (simp[VZ]at hl;done)
 simp[VZ]at hl;subst hl;rw[hx.str_inv];simp[Builtin.len_,run_underlying hu,goInt]
set_option maxHeartbeats 1000000 in
theorem D3{o:Oper}{k:A5}(hk:Xh P inl ops o.op=some k)(hE:XO ρ w (Free N ρ h) e a.tmps)(R:Rel N base ρ h w){nx:Nat}(hn:ρ nx=none){v:AV}{u:List (Nat×AK)}
  (hev:Z1 h nx e k=some (v,u)):Bb P N base ρ h w (execOp a.eval o) v u:=by
 unfold execOp
 cases hop:o.op with
 |move x =>
  rw[hop]at hk;dsimp only;simp only[Xh]at hk;obtain⟨x',hx,rfl⟩:=Option.map_eq_some_iff.1 hk;simp[Z1]at hev;obtain⟨rfl,rfl⟩:=hev
  exact .same R rfl (Xi hE hx)
 |assign x =>
  rw[hop]at hk;dsimp only;simp only[Xh]at hk;obtain⟨x',hx,rfl⟩:=Option.map_eq_some_iff.1 hk;simp[Z1]at hev;obtain⟨rfl,rfl⟩:=hev
  exact .same R rfl (Xi hE hx)
 |pick c x y =>
  rw[hop]at hk;dsimp only;simp only[Xh]at hk;split at hk
  .rename_i c' x' y' hc hx hy;cases hk;simp only[Z1]at hev;split at hev
   .rename_i hcv;cases hev;have h1:=Xi hE hc;rw[hcv]at h1;exact .same R (by simp[h1.bool_inv,asBool]) (Xi hE hx)
   .rename_i hcv;cases hev;have h1:=Xi hE hc;rw[hcv]at h1;exact .same R (by simp[h1.bool_inv,asBool]) (Xi hE hy)
   .cases hev
  .cases hk
 |alloc t =>
  rw[hop]at hk;dsimp only;simp only[Xh]at hk;obtain⟨zs,hz,rfl⟩:=Option.map_eq_some_iff.1 hk;simp[Z1]at hev
  grind [DU]
 |box t x =>
  rw[hop]at hk;dsimp only;simp only[Xh]at hk;obtain⟨x',hx,rfl⟩:=Option.map_eq_some_iff.1 hk;simp only[Z1]at hev;split at hev
  .rename_i cs hcs;cases hev;exact II R hn (Xi hE hx) hcs
  .cases hev
 |build t ps =>
  rw[hop]at hk;dsimp only;simp only[Xh]at hk;split at hk
  .rename_i fs zs hu hz;split at hk
   .rename_i places hp;obtain⟨qs,hq,rfl⟩:=Yr.1 hk;simp only[Z1]at hev
    grind [DV]
   .cases hk
  .cases hk
 |buildSlice t n ps =>
  rw[hop]at hk;dsimp only;simp only[Xh]at hk;split at hk
  .rename_i el hu;split at hk
   .rename_i i hi;split at hk
    .rename_i hc;split at hk
     .rename_i qs hq;split at hk
      .rename_i zs hz;split at hk
       .rename_i hzl;cases hk;simp only[Z1]at hev
        grind [ZEv]
       .cases hk
      .rename_i hz;split at hk
       .rename_i hzz;split at hk
        .rename_i hs1;cases hk;simp only[Z1]at hev
         grind [DY]
        .cases hk
       .cases hk
     .cases hk
    .cases hk
   .cases hk
  .cases hk
 |load t x =>
  rw[hop]at hk;dsimp only;simp only[Xh]at hk;split at hk
  .rename_i n x' hnn hx;cases hk;simp only[Z1]at hev;exact Fe R hnn hev (Xi hE hx)
  .cases hk
 |store t x y =>
  rw[hop]at hk;dsimp only;simp only[Xh]at hk;split at hk
  .rename_i i x' y' hi hx hy;cases hk;split at hev
   .simp only[Z1]at hev;split at hev
    .grind [Xi,ZEu]
    .cases hev
   .simp only[Z1]at hev;exact DZ R hi (Xi hE hy) hev (Xi hE hx)
  .cases hk
 |nilCheck x =>
  rw[hop]at hk;dsimp only;simp only[Xh]at hk;obtain⟨x',hx,rfl⟩:=Option.map_eq_some_iff.1 hk;have hr:=Xi hE hx;simp only[Z1]at hev;split at hev
  .rename_i b off hv;cases hev;rw[hv]at hr;obtain⟨p,hp⟩:=hr.ptr_val;exact .same R (val:=a.eval x) (by simp[hp]) hr
  .rename_i b i sz off hv;cases hev;rw[hv]at hr;obtain⟨p,hp⟩:=hr.eptr_val;exact .same R (val:=a.eval x) (by simp[hp]) hr
  .rename_i cs off hv;cases hev;rw[hv]at hr;obtain⟨p,hp⟩:=hr.iptr_val;exact .same R (val:=a.eval x) (by simp[hp]) hr
  .rename_i f cs hv;cases hev;rw[hv]at hr;obtain⟨p,hp,_⟩:=hr.fn_val;exact .same R (val:=a.eval x) (by simp[hp]) hr
  .cases hev
 |binOp op t x y ty =>
  rw[hop]at hk;dsimp only;simp only[Xh]at hk;split at hk
  .rename_i x' y' hx hy;have hrx:=Xi hE hx;have C1:=Xi hE hy;have Ab6:∀z,z=A5.bin op x' y'->Z1 h nx e z=some (v,u)->Bb P N base ρ h w (do pure (.value (<-(do eqGuard op t x y (a.eval x) (a.eval y);binOp op t (a.eval x) (a.eval y))))) v u:=by
    intro z hz hev;subst hz;simp only[Z1]at hev;split at hev
    .rename_i p q hp hq;obtain⟨r,hr,he⟩:=Yr.1 hev;cases he;rw[hp]at hrx;rw[hq]at C1;obtain⟨z,hz1,hz2⟩:=ZEz (P:=P) (t:=t) (x:=x) (y:=y) hrx C1 hr;exact .same R (by rw[Sem.run_bind,hz1];rfl) hz2
    .cases hev
   split at hk
   .simp_all
   .simp_all
   .rename_i hu;split at hk
    all_goals try (cases hk;done)
    all_goals
     cases hk;simp only[Z1]at hev;split at hev
     .rename_i p q hp hq;cases hev;rw[hp]at hrx;rw[hq]at C1;rw[hrx.bool_inv,C1.bool_inv];refine .same R ?_ (.bool_mk _);simp[eqGuard,binOp,Op.equal,Op.maxDepth,run_equalIn_bool' w 9999 t p q hu]
     .cases hev
   .rename_i el hu;split at hk
    .cases hk;simp only[Z1]at hev;split at hev
     .rename_i r hr;cases hev;obtain⟨c,n,m,hc,rfl⟩:=Z3a R hrx hr;refine .same R ?_ (.bool_mk _);have hy0:a.eval (.const (.slice none 0 0))=.slice none 0 0:=rfl;rw[hc,hy0];simp[eqGuard,binOp,Op.equal,Op.maxDepth,Z3c hu 9999 c n m]
     .cases hev
    .cases hk;simp only[Z1]at hev;split at hev
     .rename_i r hr;cases hev;obtain⟨c,n,m,hc,rfl⟩:=Z3a R hrx hr;refine .same R ?_ (.bool_mk _);have hy0:a.eval (.const (.slice none 0 0))=.slice none 0 0:=rfl;rw[hc,hy0];simp[eqGuard,binOp,Op.equal,Op.maxDepth,Z3c hu 9999 c n m]
     .cases hev
    .cases hk
   .rename_i el hu;split at hk
    .cases hk;simp only[Z1]at hev;split at hev
     .rename_i r hr;cases hev;obtain⟨c,hc,rfl⟩:=Z3b hrx hr;refine .same R ?_ (.bool_mk _);have hy0:a.eval (.const (.pointer none))=.pointer none:=rfl;rw[hc,hy0];simp[eqGuard,binOp,Op.equal,Op.maxDepth,Z3d hu 9999 c]
     .cases hev
    .cases hk;simp only[Z1]at hev;split at hev
     .rename_i r hr;cases hev;obtain⟨c,hc,rfl⟩:=Z3b hrx hr;refine .same R ?_ (.bool_mk _);have hy0:a.eval (.const (.pointer none))=.pointer none:=rfl;rw[hc,hy0];simp[eqGuard,binOp,Op.equal,Op.maxDepth,Z3d hu 9999 c]
     .cases hev
    .cases hk
   .rename_i fs hu;split at hk
    .rename_i ks hks;split at hk
     .rename_i hcond;have hfs:P.fieldsOf t=fs:=by simp[Program.fieldsOf,hu]
      have hut:P.underlying t=some (.struct (P.fieldsOf t)):=by rw[hfs];exact hu
      have key:∀xs ys r,ev e x'=.agg xs->ev e y'=.agg ys->B2 ks xs ys=some r->∃cx cy,a.eval x=.agg cx/\a.eval y=.agg cy/\(Op.equalIn 10000 t (.agg cx) (.agg cy)).run P w=.ok r w:=by
       intro xs ys r hxs hys hr;rw[hxs]at hrx;rw[hys]at C1;obtain⟨cx,hcx,hx1,_⟩:=hrx.agg_val;obtain⟨cy,hcy,hy1,_⟩:=C1.agg_val;refine⟨cx,cy,hcx,hcy,?_⟩;have h1:=run_equalIn_struct (P:=P) w 9999 t cx cy hut hcond.1;rw[h1,hfs];exact ZEy (P:=P) (ρ:=ρ) (F:=Free N ρ h) hks 9998 xs ys cx cy (by simpa using hx1) (by simpa using hy1) r hr
      split at hk
      .cases hk;simp only[Z1]at hev;split at hev
       .rename_i xs ys hxs hys;split at hev
        .rename_i r hr;cases hev;obtain⟨cx,cy,h1,h2,h3⟩:=key xs ys r hxs hys hr;refine .same R ?_ (.bool_mk _);rw[h1,h2];simp[run_eqGuard_agg w .eql t x y cx cy hcond.2,run_eql_struct,h3]
        .cases hev
       .cases hev
      .cases hk;simp only[Z1]at hev;split at hev
       .rename_i xs ys hxs hys;split at hev
        .rename_i r hr;cases hev;obtain⟨cx,cy,h1,h2,h3⟩:=key xs ys r hxs hys hr;refine .same R ?_ (.bool_mk _);rw[h1,h2];simp[run_eqGuard_agg w .neq t x y cx cy hcond.2,run_neq_struct,h3]
        .cases hev
       .cases hev
      .cases hk
     .cases hk
    .cases hk
   .cases hk
  .cases hk
 |unOp op t x =>
  rw[hop]at hk;dsimp only;simp only[Xh]at hk;obtain⟨x',hx,rfl⟩:=Option.map_eq_some_iff.1 hk;have hr:=Xi hE hx;simp only[Z1]at hev;split at hev
  .rename_i p hp;obtain⟨r,hrr,he⟩:=Yr.1 hev;cases he;rw[hp]at hr;obtain⟨z,h1,h2⟩:=DX (P:=P) hr hrr;exact .same R (by simp[h1]) h2
  .cases hev
 |convert s d x =>
  rw[hop]at hk;dsimp only;simp only[Xh]at hk;split at hk
  .rename_i us k hs hd;obtain⟨x',hx,rfl⟩:=Yr.1 hk;have hr:=Xi hE hx;simp only[Z1]at hev;split at hev
   .rename_i k' n hv;cases hev;rw[hv]at hr;refine .same R ?_ (.int_mk _ _);simp[hr.int_inv,convert,run_underlying hs,run_underlying hd,Conv.intToInt]
   .cases hev
  .cases hk
 |makeFunc fn first caps =>
  rw[hop]at hk;dsimp only;cases fn<;>try (simp[Xh]at hk;done)
  simp only[Xh]at hk;split at hk
  .rename_i hfe;obtain⟨cs,hcs,rfl⟩:=Yr.1 hk;simp[Z1]at hev;obtain⟨rfl,rfl⟩:=hev;have hf0:first=#[]:=by simpa using hfe
   subst hf0;refine .same R (val:=.func (.func _) #[] (caps.map a.eval)) (by simp[Instr.makeFunc]) (.fn ?_)
   simp_all [EL,OX]
  .cases hk
 |makeSlice t l c =>
  rw[hop]at hk;dsimp only;simp only[Xh]at hk;split at hk
  .rename_i el hu;split at hk
   .rename_i i zs l' c' hi hz hl hc;split at hk
    .rename_i hcond;cases hk;have hrl:=Xi hE hl;have hrc:=Xi hE hc;simp only[Z1]at hev;split at hev
     .rename_i kl lv kc cv hlv hcv;split at hev
      .rename_i hb;cases hev;rw[hlv]at hrl;rw[hcv]at hrc;simp only[hrl.int_inv,hrc.int_inv]
       grind [ZEw]
      .cases hev
     .cases hev
    .cases hk
   .cases hk
  .cases hk
 |slice t x lo hi mx =>
  rw[hop]at hk;dsimp only
  cases mx with
  |some m=>simp[Xh]at hk
  |none =>
   simp only[Xh]at hk;split at hk
   .rename_i sz x' lo' hi' hsz hx hlo hhi;cases hk;simp only[Z1]at hev;exact ok_slice R hn hE hlo hhi hev hsz (Xi hE hx)
   .cases hk
 |fieldAddr t x f =>
  rw[hop]at hk;dsimp only;simp only[Xh]at hk;split at hk
  .rename_i off ut x' hf hx;cases hk;simp only[Z1]at hev;exact D0 R hf hev (Xi hE hx)
  .cases hk
 |field t x f =>
  rw[hop]at hk;dsimp only;simp only[Xh]at hk;split at hk
  .rename_i off ut x' hf hx;obtain⟨n,hnn,rfl⟩:=Yr.1 hk;have hr:=Xi hE hx;simp only[Z1]at hev
   grind [Option.map_eq_some_iff,D2]
  .cases hk
 |indexAddr t x i =>
  rw[hop]at hk;dsimp only;simp only[Xh]at hk;split at hk
  .rename_i el hu;split at hk
   .rename_i inf x' i' Dv hx hi;cases hk;have Dj:=Xi hE hi;simp only[Z1]at hev;split at hev
    .rename_i k n hin;rw[hin]at Dj;split at hev
     .rename_i h0;simp only[Dj.int_inv];exact DW R hu Dv h0 hev (Xi hE hx)
     .cases hev
    .cases hev
   .cases hk
  .rename_i m el hu;split at hk
   .rename_i inf x' i' Dv hx hi;cases hk;have Dj:=Xi hE hi;simp only[Z1]at hev;split at hev
    .rename_i k n hin;rw[hin]at Dj;split at hev
     .rename_i h0;simp only[Dj.int_inv];exact D1 R hu Dv h0.1 h0.2 hev (Xi hE hx)
     .cases hev
    .cases hev
   .cases hk
  .cases hk
 |index t x i =>
  rw[hop]at hk;dsimp only;simp only[Xh]at hk;split at hk
  .rename_i x' i' hu hx hi;cases hk;have hrx:=Xi hE hx;have Dj:=Xi hE hi;simp only[Z1]at hev;split at hev
   .rename_i s k n hxs hin;split at hev
    .rename_i h0;split at hev
     .rename_i b hb;cases hev;rw[hxs]at hrx;rw[hin]at Dj;refine .same R ?_ (.int_mk _ _);simp[hrx.str_inv,Dj.int_inv,Instr.index,asIntOf,run_underlying hu,h0,hb]
     .cases hev
    .cases hev
   .cases hev
  .rename_i m el x' i' hu hx hi;split at hk
   .rename_i inf q Dv hq;cases hk;have hrx:=Xi hE hx;have Dj:=Xi hE hi;simp only[Z1]at hev;split at hev
    .rename_i k n hin;rw[hin]at Dj;split at hev
     .rename_i h0;split at hev
      .rename_i cs hcs;obtain⟨v',hv',he⟩:=Yr.1 hev;cases he;rw[hcs]at hrx;simp only[Dj.int_inv]
       grind [Ff]
      .cases hev
     .cases hev
    .cases hev
   .cases hk
  .cases hk
 |extract x i =>
  rw[hop]at hk;dsimp only;simp only[Xh]at hk;obtain⟨x',hx,rfl⟩:=Option.map_eq_some_iff.1 hk;have hr:=Xi hE hx;simp only[Z1]at hev;split at hev
  .rename_i vs hvs;obtain⟨v',hv',he⟩:=Yr.1 hev;cases he;rw[hvs]at hr;obtain⟨c,hc,hcs⟩:=hr.tup_val;obtain⟨val,h1,h2⟩:=hcs.at hv';have h1':c[i]?=some val:=by simpa using h1
   exact .same R (by simp[hc,Instr.extract,h1']) h2
  .cases hev
 |call c =>
  rw[hop]at hk;dsimp only;obtain⟨callee,args,argTypes⟩:=c
  cases callee with
  |invoke r m=>simp[Xh]at hk
  |value f =>
   cases f<;>simp only[Xh]at hk
   .split at hk
    .cases hk;simp[Z1]at hev
    .cases hk
   .split at hk
    .cases hk;simp[Z1]at hev
    .cases hk
   .split at hk
    .cases hk;simp[Z1]at hev
    .cases hk
   .split at hk
    .obtain⟨as,_,rfl⟩:=Yr.1 hk;unfold DR at hev
     repeat' split at hev
     all_goals simp[Z1]at hev
    .cases hk
  |builtin b =>
   cases b<;>try (simp[Xh]at hk;done)
   case len =>
    simp only[Xh]at hk;split at hk
    .rename_i x t hargs hts;have hargs':args=#[x]:=by rw[<-OM];exact hargs
     have IM:argTypes=#[t]:=by rw[<-OM];exact hts
     subst hargs';subst IM;have hshape:(do let d <-resolve a.eval { callee:=.builtin .len,args:=#[x],argTypes:=#[t] } o.type;invoke d.target d.args:Sem Next)=(do pure (.value (<-Builtin.len_ #[t] o.type #[a.eval x]))):=by
      simp[resolve,invoke,builtin]
     rw[hshape];split at hk
     .rename_i el hu;obtain⟨x',hx,rfl⟩:=Yr.1 hk;simp only[Z1]at hev;split at hev
      .rename_i n hl;cases hev;exact IL R (Xi hE hx) hl hu
      .cases hev
     .rename_i hu;obtain⟨x',hx,rfl⟩:=Yr.1 hk;simp only[Z1]at hev;split at hev
      .rename_i n hl;cases hev;exact Fg R (Xi hE hx) hl hu
      .cases hev
     .cases hk
    .cases hk
   case append =>
    simp only[Xh]at hk;split at hk
    .rename_i x y t t' hargs hts;have hargs':args=#[x,y]:=by rw[<-OM];exact hargs
     have IM:argTypes=#[t,t']:=by rw[<-OM];exact hts
     subst hargs';subst IM;split at hk
     .rename_i el DG hu hu';split at hk
      .rename_i i x' y' hi hx hy;split at hk
       .rename_i z hz;split at hk
        .rename_i hcond;obtain⟨hsz,hzs,rfl,hun⟩:=hcond;cases hk;simp only[Z1]at hev;split at hev
         .rename_i ys f ks hs;obtain⟨h1,h2⟩:=ZEx (P:=P) (ty:=o.type) R hn hu hi hz hzs hsz (Xi hE hx) (Xi hE hy) hs hun;have hshape:(do let d <-resolve a.eval { callee:=.builtin .append,args:=#[x,y],argTypes:=#[t,t] } o.type;invoke d.target d.args:Sem Next) =
            (do pure (.value (<-Builtin.append_ #[t,t] o.type #[a.eval x,a.eval y]))):=by
           simp[resolve,invoke,builtin]
          grind
         .cases hev
        .cases hk
       .cases hk
      .cases hk
     .cases hk
    .cases hk
   case max =>
    simp only[Xh]at hk;split at hk
    .rename_i x y hargs;have hargs':args=#[x,y]:=by rw[<-OM];exact hargs
     subst hargs';split at hk
     .rename_i x' y' hx hy;cases hk;have hrx:=Xi hE hx;have C1:=Xi hE hy;simp only[Z1]at hev;split at hev
      .rename_i k1 p k2 q hp hq;cases hev;rw[hp]at hrx;rw[hq]at C1;refine .same R ?_ (.int_mk _ _);simp[resolve,invoke,builtin,hrx.int_inv,C1.int_inv,run_max_int2]
      .cases hev
     .cases hk
    .cases hk
   case min =>
    simp only[Xh]at hk;split at hk
    .rename_i x y hargs;have hargs':args=#[x,y]:=by rw[<-OM];exact hargs
     subst hargs';split at hk
     .rename_i x' y' hx hy;cases hk;have hrx:=Xi hE hx;have C1:=Xi hE hy;simp only[Z1]at hev;split at hev
      .rename_i k1 p k2 q hp hq;cases hev;rw[hp]at hrx;rw[hq]at C1;refine .same R ?_ (.int_mk _ _);simp[resolve,invoke,builtin,hrx.int_inv,C1.int_inv,run_min_int2]
      .cases hev
     .cases hk
    .cases hk
 |_=>rw[hop]at hk;simp[Xh]at hk
end
open Go.RowKit (Below)
section
variable{N:Bu}{base:Nat}{ρ ρ':Map}{h:V2}{w w':World}{F F':Nat->Prop}{ids:V3}{a:AV}{v:Value}{f:Nat->Nat}{as:XQ}{vs:V4}{b g:Nat}{e:Env}{tmps:Array Value}{N':Bu}
theorem RV.ren(h:RV ρ w F a v):∀(f:Nat->Nat),(∀b∈refs a,∀r,ρ b=some r->ρ' (f b)=some r)->(∀g,g<w.heap.size->F g->F' g)->RV ρ' w F' (AM.ren f a) v:=by
 refine RV.rec (motive_1:=λa v _=>∀(f:Nat->Nat),(∀b∈refs a,∀r,ρ b=some r->ρ' (f b)=some r)->(∀g,g<w.heap.size->F g->F' g)->RV ρ' w F' (AM.ren f a) v)
  (motive_2:=λas vs _=>∀(f:Nat->Nat),(∀b∈ZA as,∀r,ρ b=some r->ρ' (f b)=some r)->(∀g,g<w.heap.size->F g->F' g)->AE ρ' w F' (AM.rens f as) vs) ?_ ?_ ?_ ?_ ?_ ?_ ?_ ?_ ?_ ?_ ?_ ?_ ?_ h
 .intro v f _ _;exact .top v
 .intro f _ _;exact .nilp
 .intro x v fp h hf f _ hF;exact .t h λg hg=>hF g (h.lt g hg) (hf g hg)
 .intro cs c _ h1 ih f hr hF;exact .agg (ih f (by simpa[refs]using hr) hF) h1
 .intro cs c _ ih f hr hF;exact .tup (ih f (by simpa[refs]using hr) hF)
 .intro b off g r hr hv f hf _;exact .ptr (hf b (by simp[refs]) r hr) hv
 .intro b i sz off g n cap r hr hv f hf _;exact .eptr (hf b (by simp[refs]) r hr) hv
 .intro cs off g o c e fz fp hg hFg hc hfp f _ hF;exact .iptr hg (hF g (Yc3.1 hg).1 hFg) hc λg hg=>hF g (hc.lt g hg) (hfp g hg)
 .intro b r hr h1 f hf _;exact .own (hf b (by simp[refs]) r hr) h1
 .intro b n g r hr hv f hf _;exact .bsl (hf b (by simp[refs]) r hr) hv
 .intro g cs c _ ih f hr hF;exact .fn (ih f (by simpa[refs]using hr) hF)
 .intro f _ _;exact .nil
 .intro a v as vs _ _ ih1 ih2 f hr hF;exact .cons (ih1 f (λb hb=>hr b (by simp[ZA,hb])) hF) (ih2 f (λb hb=>hr b (by simp[ZA,hb])) hF)
theorem AE.ren(h:AE ρ w F as vs)(f:Nat->Nat)(hr:∀b∈ZA as,∀r,ρ b=some r->ρ' (f b)=some r)(hF:∀g,g<w.heap.size->F g->F' g):AE ρ' w F' (rens f as) vs:=by
 induction as generalizing vs with
 |nil=>cases h;exact .nil
 |cons a as ih=>cases h with|cons h hs=>exact .cons (h.ren f (λb hb=>hr b (by simp[ZA,hb])) hF) (ih hs λb hb=>hr b (by simp[ZA,hb]))
theorem RV.scal(h:RV ρ w F a v):∀(f:Nat->Nat),(∀b∈refs a,∀r,ρ b=some r->ρ' (f b)=some r)->QV a=true->RV ρ' w F' (AM.ren f a) v:=by
 refine RV.rec (motive_1:=λa v _=>∀(f:Nat->Nat),(∀b∈refs a,∀r,ρ b=some r->ρ' (f b)=some r)->QV a=true->RV ρ' w F' (AM.ren f a) v)
  (motive_2:=λas vs _=>∀(f:Nat->Nat),(∀b∈ZA as,∀r,ρ b=some r->ρ' (f b)=some r)->UF as=true->AE ρ' w F' (AM.rens f as) vs) ?_ ?_ ?_ ?_ ?_ ?_ ?_ ?_ ?_ ?_ ?_ ?_ ?_ h
 .intro v f _ _;exact .top v
 .intro f _ _;exact .nilp
 .intro x v fp h hf f _ hs;refine .t h λg hg=>?_
  cases h<;>first|(simp[QV,X5]at hs;done)|cases hg
 .intro cs c _ h1 ih f hr hs;exact .agg (ih f (by simpa[refs]using hr) hs) h1
 .intro cs c _ ih f hr hs;exact .tup (ih f (by simpa[refs]using hr) hs)
 .intro b off g r hr hv f hf _;exact .ptr (hf b (by simp[refs]) r hr) hv
 .intro b i sz off g n cap r hr hv f hf _;exact .eptr (hf b (by simp[refs]) r hr) hv
 .intro cs off g o c e fz fp hg hFg hc hfp f _ hs;simp[QV]at hs
 .intro b r hr h1 f hf _;exact .own (hf b (by simp[refs]) r hr) h1
 .intro b n g r hr hv f hf _;exact .bsl (hf b (by simp[refs]) r hr) hv
 .intro g cs c _ ih f hr hs;exact .fn (ih f (by simpa[refs]using hr) hs)
 .intro f _ _;exact .nil
 .intro a v as vs _ _ ih1 ih2 f hr hs;simp only[UF,Yg]at hs;exact .cons (ih1 f (λb hb=>hr b (by simp[ZA,hb])) hs.1) (ih2 f (λb hb=>hr b (by simp[ZA,hb])) hs.2)
theorem AE.scal(h:AE ρ w F as vs)(f:Nat->Nat)(hr:∀b∈ZA as,∀r,ρ b=some r->ρ' (f b)=some r)(hs:UF as=true):AE ρ' w F' (rens f as) vs:=by
 induction as generalizing vs with
 |nil=>cases h;exact .nil
 |cons a as ih =>
  simp only[UF,Yg]at hs;cases h with|cons h hs'=>exact .cons (h.scal f (λb hb=>hr b (by simp[ZA,hb])) hs.1) (ih hs' (λb hb=>hr b (by simp[ZA,hb])) hs.2)
theorem RV.scalX(h:RV ρ w F a v):∀(f:Nat->Nat),(∀b∈refs a,∀r,ρ b=some r->∃r1,ρ' (f b)=some r1/\r1.v=r.v)->QV a=true->RV ρ' w F' (AM.ren f a) v:=by
 refine RV.rec (motive_1:=λa v _=>∀(f:Nat->Nat),(∀b∈refs a,∀r,ρ b=some r->∃r1,ρ' (f b)=some r1/\r1.v=r.v)->QV a=true->RV ρ' w F' (AM.ren f a) v)
  (motive_2:=λas vs _=>∀(f:Nat->Nat),(∀b∈ZA as,∀r,ρ b=some r->∃r1,ρ' (f b)=some r1/\r1.v=r.v)->UF as=true->AE ρ' w F' (AM.rens f as) vs) ?_ ?_ ?_ ?_ ?_ ?_ ?_ ?_ ?_ ?_ ?_ ?_ ?_ h
 .intro v f _ _;exact .top v
 .intro f _ _;exact .nilp
 .intro x v fp h hf f _ hs;refine .t h λg hg=>?_
  cases h<;>first|(simp[QV,X5]at hs;done)|cases hg
 .intro cs c _ h1 ih f hr hs;exact .agg (ih f (by simpa[refs]using hr) hs) h1
 .intro cs c _ ih f hr hs;exact .tup (ih f (by simpa[refs]using hr) hs)
 .intro b off g r hr hv f hf _;obtain⟨r1,q1,q2⟩:=hf b (by simp[refs]) r hr;exact .ptr q1 (q2.trans hv)
 .intro b i sz off g n cap r hr hv f hf _;obtain⟨r1,q1,q2⟩:=hf b (by simp[refs]) r hr;exact .eptr q1 (q2.trans hv)
 .intro cs off g o c e fz fp hg hFg hc hfp f _ hs;simp[QV]at hs
 .intro b r hr h1 f hf _;obtain⟨r1,q1,q2⟩:=hf b (by simp[refs]) r hr;rw[<-q2];exact .own q1 (by rw[q2];exact h1)
 .intro b n g r hr hv f hf _;obtain⟨r1,q1,q2⟩:=hf b (by simp[refs]) r hr;exact .bsl q1 (q2.trans hv)
 .intro g cs c _ ih f hr hs;exact .fn (ih f (by simpa[refs]using hr) hs)
 .intro f _ _;exact .nil
 .intro a v as vs _ _ ih1 ih2 f hr hs;simp only[UF,Yg]at hs;exact .cons (ih1 f (λb hb=>hr b (by simp[ZA,hb])) hs.1) (ih2 f (λb hb=>hr b (by simp[ZA,hb])) hs.2)
theorem AE.scalX(h:AE ρ w F as vs)(f:Nat->Nat)(hr:∀b∈ZA as,∀r,ρ b=some r->∃r1,ρ' (f b)=some r1/\r1.v=r.v)(hs:UF as=true):AE ρ' w F' (rens f as) vs:=by
 induction as generalizing vs with
 |nil=>cases h;exact .nil
 |cons a as ih =>
  simp only[UF,Yg]at hs;cases h with|cons h hs'=>exact .cons (h.scalX f (λb hb=>hr b (by simp[ZA,hb])) hs.1) (ih hs' (λb hb=>hr b (by simp[ZA,hb])) hs.2)
theorem sE(n:Nat):∀(todo acc:V3),acc.Nodup->(X7 h n todo acc).Nodup:=by
 induction n with
 |zero=>intro todo acc ha;cases todo<;>simpa[X7]using ha
 |succ n ih =>
  intro todo acc ha
  cases todo with
  |nil=>simpa[X7]using ha
  |cons b todo =>
   simp only[X7]
   grind
theorem Z3g(hb:b∈ids)(k:Nat):∃i,idx b ids k=k+i/\ids[i]?=some b:=by
 induction ids generalizing k with
 |nil=>cases hb
 |cons c ids ih =>
  simp only[idx];split
  .simp_all
  .rename_i hc
   cases hb with
   |head=>exact absurd rfl hc
   |tail _ hb =>
    obtain⟨i,h1,h2⟩:=ih hb (k+1);exact⟨i+1,by rw[h1];omega,by simpa using h2⟩
def A9(ρ:Map)(ids:V3):Map:=λi=>match ids[i]? with
 |some b=>ρ b
 |none=>none
theorem TT(hb:b∈ids):A9 ρ ids (idx b ids 0)=ρ b:=by
 obtain⟨i,h1,h2⟩:=Z3g hb 0;simp[A9,h1,h2]
theorem OZ(i:Nat):gt (ids.map λb=>Bi f (gt h b)) i=match ids[i]? with|some b=>Bi f (gt h b)|none=>.dead:=by
 unfold gt
 grind
theorem Jn{x:AK}:XG (Bi f x)=XG x:=by cases x<;>rfl
theorem sF(hg:Free N ρ h g)(hn:N'.a g):Free N' (A9 ρ ids) (ids.map λb=>Bi f (gt h b)) g:=by
 refine⟨hn,?_⟩;intro i r hr hd;rw[OZ]at hd;simp only[A9]at hr
 cases hi:ids[i]? with
 |none=>simp[hi]at hr
 |some b =>
  simp only[hi]at hr hd;exact hg.2 b r hr λhc=>hd (by rw[hc];rfl)
theorem TU(hg:Free N ρ h g):Free N (A9 ρ ids) (ids.map λb=>Bi f (gt h b)) g:=sF hg hg.1
theorem Rel.renN(R:Rel N base ρ h w)(hnd:ids.Nodup)(hcl:∀b∈ids,∀c∈Vu (gt h b),c∈ids)(hn:∀g,w.heap.size<=g->N'.a g/\N'.f g)
  (hO:∀b∈ids,∀r g,ρ b=some r->gt h b≠.dead->Xu r.v=some g->N'.a g/\N'.f g) (hF:∀g,Free N ρ h g->N'.a g) (hfr:∀b∈ids,∀r,ρ b=some r->XG (gt h b)=true->∀g∈r.fp,N'.f g) :
  Rel N' base (A9 ρ ids) (ids.map λb=>Bi (λc=>idx c ids 0) (gt h b)) w:=by
 have D4:∀{i j:Nat} {b:Nat},ids[i]?=some b->ids[j]?=some b->i=j:=by
  intro i j b hi hj;obtain⟨h1,h2⟩:=Dq.1 hi;obtain⟨h3,h4⟩:=Dq.1 hj;rcases rO i j with hlt|rfl|hlt
  .exact absurd (h2.trans h4.symm) (Ycj.1 hnd i j h1 h3 hlt)
  .rfl
  .exact absurd (h4.trans h2.symm) (Ycj.1 hnd j i h3 h1 hlt)
 refine⟨R.hb,hn,?_,?_,?_,?_⟩
 .intro i r g hr hd hg;rw[OZ]at hd;simp only[A9]at hr
  cases hi:ids[i]? with
  |none=>simp[hi]at hr
  |some b =>
   simp only[hi]at hr hd;exact hO b (Y9 hi) r g hr (λhc=>hd (by rw[hc];rfl)) hg
 .intro i hd;rw[OZ]at hd|-
  cases hi:ids[i]? with
  |none=>simp[hi]at hd
  |some b =>
   simp only[hi]at hd|-;have hb:b∈ids:=Y9 hi;obtain⟨r,h1,h2⟩:=R.blk b λhc=>hd (by rw[hc];rfl)
   refine⟨r,by simp[A9,hi,h1],?_⟩
   cases hx:gt h b with
   |dead=>trivial
   |box cs =>
    rw[hx]at h2;obtain⟨g,c,e,h3,h4,h5,h6,h7⟩:=h2
    exact⟨g,c,e,h3,h4,h5,h6.ren _ (λc hc r hr=>by
     have hci:c∈ids:=hcl b hb c (by rw[hx];exact hc)
     rw[TT hci];exact hr) λg _ hg=>sF hg (hF g hg),h7⟩
   |arr e sz fr es =>
    rw[hx]at h2;obtain⟨e',xs,he',h3,h4,h5,h6,h7,h8⟩:=h2;exact⟨e',xs,he',h3,h4,h5,h6,λg hg=>sF (h7 g hg) (hF g (h7 g hg)),λhf=>⟨(h8 hf).1,hfr b hb r h1 (by rw[hx];exact hf)⟩⟩
 .intro i j r r' g hr hr' hd hd' hg hg';rw[OZ]at hd hd';simp only[A9]at hr hr'
  cases hi:ids[i]? with
  |none=>simp[hi]at hr
  |some b =>
   cases hj:ids[j]? with
   |none=>simp[hj]at hr'
   |some c =>
    simp only[hi]at hr hd;simp only[hj]at hr' hd';have:=R.inj b c r r' g hr hr' (λhc=>hd (by rw[hc];rfl)) (λhc=>hd' (by rw[hc];rfl)) hg hg';subst this;exact D4 hi hj
 .intro i j r r' g hr hr' hf hf' hg hg';rw[OZ]at hf hf';simp only[A9]at hr hr'
  cases hi:ids[i]? with
  |none=>simp[hi]at hr
  |some b =>
   cases hj:ids[j]? with
   |none=>simp[hj]at hr'
   |some c =>
    simp only[hi,Jn]at hr hf;simp only[hj,Jn]at hr' hf';have:=R.apart b c r r' g hr hr' hf hf' hg hg';subst this;exact D4 hi hj
theorem Rel.fresh(R:Rel N base ρ h w){r:Root}(hr:ρ b=some r)(hf:XG (gt h b)=true):∀g∈r.fp,N.f g/\Free N ρ h g/\g<w.heap.size:=by
 obtain⟨r',h1,h2⟩:=R.blk b (JY hf);rw[hr]at h1;cases h1
 cases hx:gt h b with
 |dead=>rw[hx]at hf;cases hf
 |box cs=>rw[hx]at hf;cases hf
 |arr e sz fr es =>
  rw[hx]at h2 hf;obtain⟨_,xs,_,_,_,_,h6,h7,h8⟩:=h2;exact λg hg=>⟨(h8 hf).2 g hg,h7 g hg,h6.lt g hg⟩
theorem Rel.ren(R:Rel N base ρ h w)(hnd:ids.Nodup)(hcl:∀b∈ids,∀c∈Vu (gt h b),c∈ids) :
  Rel N base (A9 ρ ids) (ids.map λb=>Bi (λc=>idx c ids 0) (gt h b)) w :=
 R.renN hnd hcl R.hN (λ_ _ _ _=>R.hO _ _ _) (λ_ hg=>hg.1) (λ_ _ _ hr hf g hg=>(R.fresh hr hf g hg).1)
theorem Zrw{i:Nat}(hi:ids.length<=i):A9 ρ ids i=none:=by
 simp[A9,List.getElem?_eq_none hi]
theorem IN(f:Nat->Nat)(e:Env)(s:Nat):lk s (CW f e)=ren f (lk s e):=by
 induction e with
 |nil=>rfl
 |cons p e ih =>
  obtain⟨k,v⟩:=p;simp only[CW,Yz,lk]at ih|-
  grind
theorem Fh(e:Env)(s:Nat):∀b∈refs (lk s e),b∈K7 e:=by
 induction e with
 |nil=>intro b hb;simp[lk,refs]at hb
 |cons p e ih =>
  obtain⟨k,v⟩:=p;intro b hb;simp only[K7,Yc4,Yl]at ih|-;simp only[lk]at hb
  grind
theorem XO.ren(hE:XO ρ w F e tmps)(f:Nat->Nat)(hr:∀b∈K7 e,∀r,ρ b=some r->ρ' (f b)=some r)(hF:∀g,g<w.heap.size->F g->F' g):XO ρ' w F' (CW f e) tmps:=by
 intro s;rw[IN];exact(hE s).ren f (λb hb=>hr b (Fh e s b hb)) hF
theorem IP(keep:V3)(e:Env)(s:Nat):lk s (rst keep e)=if s∈keep then lk s e else .top:=by
 induction keep with
 |nil=>rfl
 |cons k keep ih =>
  simp only[rst,Yz,lk]at ih|-
  grind
theorem XO.rst(hE:XO ρ w F e tmps)(keep:V3):XO ρ w F (rst keep e) tmps:=by
 intro s;rw[IP];split
 .exact hE s
 .exact .top _
theorem D5(e:Env)(s:Nat):lk s (Iz h e)=scrub h (lk s e):=by
 induction e with
 |nil=>rfl
 |cons p e ih =>
  obtain⟨k,v⟩:=p;simp only[Iz,Yz,lk]at ih|-
  grind
theorem RV.scrub(hv:RV ρ w F a v):RV ρ w F (scrub h a) v:=by
 unfold AM.scrub;split
 .split
  .exact .top _
  .exact hv
 .exact hv
theorem XO.scrub(hE:XO ρ w F e tmps):XO ρ w F (Iz h e) tmps:=by
 intro s;rw[D5];exact(hE s).scrub
theorem sG{rs:V3}(hc:Qh h ids rs=true):(∀b∈rs,b∈ids)/\∀b∈ids,∀c∈Vu (gt h b),c∈ids:=by
 simp only[Qh,Yg,Yp,List.contains_iff_mem]at hc;exact hc
end
open Go.RowKit (Below)
section
variable{N:Bu}{A:Nat->Prop}{base:Nat}{ρ ρc:Map}{h hr:V2}{w w':World}{n b:Nat}
def Vv(ρ ρc:Map)(n len:Nat):Map:=λb=>if n<=b/\b<n+len then ρc (b-n)else ρ b
theorem IQ(n:Nat):∀(bs:V2) (i:Nat) (h:V2) (b:Nat),gt (upd h (Bk n bs i)) b=if n+i<=b/\b<n+i+bs.length then Bi (λc=>c+n) (gt bs (b-(n+i)))else gt h b
 |[],i,h,b=>by simp[Bk,upd];intro h1 h2;omega
 |x::bs,i,h,b=>by
  simp only[Bk,upd];rw[IQ n bs (i+1),K9];by_cases h1:b=n+i
  .subst h1;rw[Ao,Ya rfl,Ya Om];simp[gt]
  .by_cases h2:n+(i+1)<=b/\b<n+(i+1)+bs.length
   .have h3:n+i<=b/\b<n+i+(x::bs).length:=by simp;omega
    rw[Ya h2,Ya h3]
    have:b-(n+i)=(b-(n+(i+1)))+1:=by omega
    rw[this];simp[gt]
   .grind
theorem Zrx(n:Nat):∀(bs:V2) (i b:Nat),b∈(Bk n bs i).map Prod.fst↔n+i<=b/\b<n+i+bs.length
 |[],i,b=>by simp[Bk]
 |x::bs,i,b=>by
  simp only[Bk,Yz,Y1,Zrx n bs (i+1),Yx];omega
theorem Fi{e sz:Nat}{fr:Bool}{es:WI}(hf:hr.all TF=true)(hb:gt hr b=.arr e sz fr es):fr=true:=by
 unfold gt at hb
 cases hx:hr[b]? with
 |none=>simp[hx]at hb
 |some x =>
  simp[hx]at hb;subst hb;have:=Yp.1 hf _ (Y9 hx);exact this
theorem Fj{cs:XQ}(hf:hr.all TF=true)(hb:gt hr b=.box cs):UF cs=true:=by
 unfold gt at hb
 cases hx:hr[b]? with
 |none=>simp[hx]at hb
 |some x =>
  simp[hx]at hb;subst hb;exact Yp.1 hf _ (Y9 hx)
def C2(w:World)(A:Nat->Prop):Bu:=⟨λg=>w.heap.size<=g\/A g,λg=>w.heap.size<=g,λ_=>False⟩
structure QY (N:Bu) (A:Nat->Prop) (base:Nat) (ρ:Map) (h:V2) (w:World) (ρc:Map) (hr:V2) (w':World) (n:Nat):Prop where
 R:Rel N base ρ h w
 B:Below w.heap.size w w'
 Rc:Rel (C2 w A) w.heap.size ρc hr w'
 new:∀b,n<=b->b<n+hr.length->ρ b=none
 dom:∀b,hr.length<=b->ρc b=none
 share:(∀g,A g->Free N ρ h g)\/hr.all TF=true
theorem QY.free_new(J:QY N A base ρ h w ρc hr w' n){g:Nat}(hg:Free (C2 w A) ρc hr g)(hs:w.heap.size<=g\/∀g,A g->Free N ρ h g) :
  Free N (Vv ρ ρc n hr.length) (upd h (Bk n hr 0)) g:=by
 have hor:w.heap.size<=g\/Free N ρ h g:=by
  rcases hs with hs|hs
  .exact .inl hs
  .exact hg.1.imp id (hs g)
 refine⟨?_,?_⟩
 .rcases hor with h1|h1
  .exact(J.R.hN g h1).1
  .exact h1.1
 .intro b r hb hd he;rw[IQ]at hd;simp only[DE]at hd;simp only[Vv]at hb;by_cases hc:n<=b/\b<n+hr.length
  .rw[Ya hc]at hb hd;exact hg.2 (b-n) r hb (λhx=>hd (by rw[hx];rfl)) he
  .rw[Yb hc]at hb hd;have:=J.R.lt hb hd he;rcases hor with h1|h1
   .omega
   .exact h1.2 b r hb hd he
theorem QY.keeps(J:QY N A base ρ h w ρc hr w' n):W4 ρ w (Free N ρ h) (Vv ρ ρc n hr.length) w' (Free N (Vv ρ ρc n hr.length) (upd h (Bk n hr 0))):=by
 constructor
 .intro b r hb;refine⟨r,?_,rfl⟩;simp only[Vv];rw[Yb λhc=>by rw[J.new b hc.1 hc.2]at hb;cases hb];exact hb
 .intro g hlt hf;refine⟨⟨hf.1,?_⟩,J.B.block g hlt⟩;intro b r hb hd he;rw[IQ]at hd;simp only[DE]at hd;simp only[Vv]at hb;by_cases hc:n<=b/\b<n+hr.length
  .rw[Ya hc]at hb hd;have:=J.Rc.lt hb (λhx=>hd (by rw[hx];rfl)) he;omega
  .rw[Yb hc]at hb hd;exact hf.2 b r hb hd he
theorem QY.root(J:QY N A base ρ h w ρc hr w' n){r:Root}(hb:ρc b=some r):Vv ρ ρc n hr.length (b+n)=some r:=by
 have hlt:b<hr.length:=by
  rcases DD b hr.length with h1|h1
  .exact h1
  .rw[J.dom b h1]at hb;cases hb
 simp only[Vv]
 grind
theorem QY.rel(J:QY N A base ρ h w ρc hr w' n):Rel N base (Vv ρ ρc n hr.length) (upd h (Bk n hr 0)) w':=by
 have hk:=J.keeps;have hsplit:∀b r,Vv ρ ρc n hr.length b=some r->gt (upd h (Bk n hr 0)) b≠.dead->
   (ρ b=some r/\gt h b≠.dead/\gt (upd h (Bk n hr 0)) b=gt h b)\/(n<=b/\ρc (b-n)=some r/\gt hr (b-n)≠.dead/\gt (upd h (Bk n hr 0)) b=Bi (λc=>c+n) (gt hr (b-n))):=by
  intro b r hb hd;rw[IQ]at hd|-;simp only[DE]at hd|-;simp only[Vv]at hb;by_cases hc:n<=b/\b<n+hr.length
  .rw[Ya hc]at hb hd|-;exact .inr ⟨hc.1,hb,λhx=>hd (by rw[hx];rfl),rfl⟩
  .grind
 refine⟨Y6 J.R.hb J.B.size,λg hl=>J.R.hN g (Y6 J.B.size hl),?_,?_,?_,?_⟩
 .intro b r g hb hd hg;rcases hsplit b r hb hd with⟨h1,h2,_⟩|⟨h0,h1,h2,_⟩
  .exact J.R.hO b r g h1 h2 hg
  .exact J.R.hN g (J.Rc.lt h1 h2 hg).1
 .intro b hd;have hd':=hd;rw[IQ]at hd;simp only[DE]at hd;by_cases hc:n<=b/\b<n+hr.length
  .rw[Ya hc]at hd;obtain⟨r,h1,h2⟩:=J.Rc.blk (b-n) λhx=>hd (by rw[hx];rfl)
   refine⟨r,by simp only[Vv];rw[Ya hc];exact h1,?_⟩;rw[IQ];simp only[DE];rw[Ya hc]
   cases hx:gt hr (b-n)with
   |dead=>trivial
   |box cs =>
    rw[hx]at h2;obtain⟨g,c,e,h3,h4,h5,h6,h7⟩:=h2;refine⟨g,c,e,h3,Y6 J.R.hb h4,h5,?_,h7⟩;rcases J.share with hs|hs
    .exact h6.ren _ (λc _ r hr'=>J.root hr') λg _ hg=>J.free_new hg (.inr hs)
    .exact h6.scal _ (λc _ r hr'=>J.root hr') (Fj hs hx)
   |arr e sz fr es =>
    rw[hx]at h2;obtain⟨e',xs,he',h3,h4,h5,h6,h7,h8⟩:=h2;refine⟨e',xs,he',ZEn J.R.hb h3,h4,h5,h6,λg hg=>?_,λhf=>⟨(h8 hf).1,λg hg=>(J.R.hN g ((h8 hf).2 g hg)).2⟩⟩;rcases J.share with hs|hs
    .exact J.free_new (h7 g hg) (.inr hs)
    .exact J.free_new (h7 g hg) (.inl ((h8 (Fi hs hx)).2 g hg))
  .rw[Yb hc]at hd;obtain⟨r,h1,h2⟩:=J.R.blk b hd;refine⟨r,by simp only[Vv];rw[Yb hc];exact h1,?_⟩;rw[IQ];simp only[DE];rw[Yb hc];exact h2.keep hk λg hg=>J.B.block g (h2.lt hd hg).2
 .intro b b' r r' g hb hb' hd hd' hg hg';rcases hsplit b r hb hd with⟨h1,h2,_⟩|⟨h0,h1,h2,_⟩<;>rcases hsplit b' r' hb' hd' with⟨h3,h4,_⟩|⟨h0',h3,h4,_⟩
  .exact J.R.inj b b' r r' g h1 h3 h2 h4 hg hg'
  .have q1:=(J.R.lt h1 h2 hg).2;have q2:=(J.Rc.lt h3 h4 hg').1;omega
  .have q1:=(J.R.lt h3 h4 hg').2;have q2:=(J.Rc.lt h1 h2 hg).1;omega
  .have:=J.Rc.inj (b-n) (b'-n) r r' g h1 h3 h2 h4 hg hg';omega
 .intro b b' r r' g hb hb' hf hf' hg hg';have Ab2:∀b r,ρ b=some r->XG (gt h b)=true->∀g∈r.fp,g<w.heap.size:=by
   intro b r hb hf g hg;obtain⟨r2,h1,h2⟩:=J.R.blk b (JY hf);rw[hb]at h1;cases h1
   cases hx:gt h b with
   |dead=>rw[hx]at hf;cases hf
   |box cs=>rw[hx]at hf;cases hf
   |arr e sz fr es=>rw[hx]at h2;obtain⟨_,xs,_,_,_,_,h6,_⟩:=h2;exact h6.lt g hg
  have Ab3:∀b r,ρc b=some r->XG (gt hr b)=true->∀g∈r.fp,w.heap.size<=g:=by
   intro b r hb hf g hg;obtain⟨r2,h1,h2⟩:=J.Rc.blk b (JY hf);rw[hb]at h1;cases h1
   cases hx:gt hr b with
   |dead=>rw[hx]at hf;cases hf
   |box cs=>rw[hx]at hf;cases hf
   |arr e sz fr es =>
    rw[hx]at h2 hf;obtain⟨_,xs,_,_,_,_,_,_,h8⟩:=h2;exact(h8 hf).2 g hg
  rcases hsplit b r hb (JY hf)with⟨h1,h2,e1⟩|⟨h0,h1,h2,e1⟩<;>rcases hsplit b' r' hb' (JY hf')with⟨h3,h4,e2⟩|⟨h0',h3,h4,e2⟩
  .rw[e1]at hf;rw[e2]at hf';exact J.R.apart b b' r r' g h1 h3 hf hf' hg hg'
  .grind [Jn]
  .grind [Jn]
  .rw[e1,Jn]at hf;rw[e2,Jn]at hf';have:=J.Rc.apart (b-n) (b'-n) r r' g h1 h3 hf hf' hg hg';omega
theorem QY.val(J:QY N A base ρ h w ρc hr w' n){r:AV}{v:Value}(hv:RV ρc w' (Free (C2 w A) ρc hr) r v)(hs:(∀g,A g->Free N ρ h g)\/QV r=true) :
  RV (Vv ρ ρc n hr.length) w' (Free N (Vv ρ ρc n hr.length) (upd h (Bk n hr 0))) (shift n r) v:=by
 rcases hs with hs|hs
 .exact hv.ren _ (λb _ r hr'=>J.root hr') λg _ hg=>J.free_new hg (.inr hs)
 .exact hv.scal _ (λb _ r hr'=>J.root hr') hs
end
open Go.RowKit (Below)
section
variable{P:Program}{N:Bu}{base:Nat}{ρ:Map}{h:V2}{w:World}{v d:AV}{val:Value}
theorem Z3h(R:Rel N base ρ h w){x:T}(hf:BH h v=some x)(hv:RV ρ w (Free N ρ h) v val):∃fp,TR w x val fp/\∀g∈fp,N.a g:=by
 cases v<;>try (simp[BH]at hf;done)
 .simp[BH]at hf;subst hf
  cases hv with
  |t hT hf=>exact⟨_,hT,λg hg=>(hf g hg).1⟩
 .rename_i b;simp only[BH]at hf;split at hf
  .rename_i el sz fr es hb;cases hf
   cases hv with
   |own hr hone =>
    have hd:gt h b≠.dead:=by rw[hb];intro hc;cases hc
    obtain⟨fp,hT,_,hg⟩:=TL R hr hb;obtain⟨r',h1,h2⟩:=R.blk b hd;rw[hr]at h1;cases h1;rw[hb]at h2;obtain⟨_,_,_,_,_,_,_,hfree,_⟩:=h2;exact⟨fp,hT,λg hg'=>(hg g hg').elim (λq=>(R.hO b _ g hr hd q).1) λq=>(hfree g q).1⟩
  .cases hf
theorem Z3i(R:Rel N base ρ h w):∀{cs:XQ} {ts:V5} {vs:V4},Q1 h cs=some ts->AE ρ w (Free N ρ h) cs vs->∃fp,A6 w ts vs fp/\∀g∈fp,N.a g
 |[],ts,vs,hg,hv=>by simp[Q1]at hg;subst hg;cases hv;exact⟨[],.nil,λg hg=>by cases hg⟩
 |c::cs,ts,vs,hg,hv=>by
  cases hv with
  |cons h1 h2 =>
   simp only[Q1]at hg;split at hg
   .rename_i x xs hx hxs;cases hg;obtain⟨fp,h3,h4⟩:=Z3h R hx h1;obtain⟨fq,h5,h6⟩:=Z3i R hxs h2;exact⟨fp++fq,.cons h3 h5,λg hg=>(Yl.1 hg).elim (h4 g) (h6 g)⟩
   .cases hg
theorem Z3j(R:Rel N base ρ h w)(hp:Du v=true)(hf:Dg h v=some d)(hv:RV ρ w (Free N ρ h) v val):RV (λ_=>none) w N.a d val:=by
 cases v<;>try (simp[Du]at hp;done)
 .simp[Dg,Bx]at hf;subst hf
  cases hv with
  |t hT hf=>exact .t hT λg hg=>(hf g hg).1
 .rename_i cs;simp only[Dg,Bx]at hf;split at hf
  .rename_i ds hds;cases hf
   cases hv with
   |agg hc h1 =>
    obtain⟨fp,h3,h4⟩:=Z3i R hds hc;exact .agg (AE.of_TRs h3 h4) h1
  .cases hf
 .rename_i b;have hv':=hv
  have:∃x,BH h (.own b)=some x/\d=.t x:=by
   simp only[Dg,Bx]at hf;simp only[BH]
   grind
  obtain⟨x,hx,rfl⟩:=this;obtain⟨fp,h3,h4⟩:=Z3h R hx hv';exact .t h3 h4
theorem Z3k(R:Rel N base ρ h w):∀{vs ds:XQ} {vals:V4},vs.all Du=true->A0 h vs=some ds->AE ρ w (Free N ρ h) vs vals->AE (λ_=>none) w N.a ds vals
 |[],ds,vals,_,hf,hv=>by simp[A0]at hf;subst hf;cases hv;exact .nil
 |v::vs,ds,vals,hp,hf,hv=>by
  simp only[CU,Yg]at hp
  cases hv with
  |cons h1 h2 =>
   simp only[A0]at hf;split at hf
   .rename_i x xs hx hxs;cases hf;exact .cons (Z3j R hp.1 hx h1) (Z3k R hp.2 hxs h2)
   .cases hf
theorem ZE0(R:Rel N base ρ h w)(hf:Cy h v=some d)(hv:RV ρ w (Free N ρ h) v val):RV (λ_=>none) w N.a d val:=by
 unfold Cy at hf;split at hf
 .split at hf
  .rename_i hg;split at hf
   .rename_i ds hds;cases hf
    cases hv with
    |tup hc=>exact .tup (Z3k R hg hds hc)
   .cases hf
  .cases hf
 .grind [Z3j]
end
open Go.RowKit (Below)
abbrev VJ:Map:=λ_=>none
def W5(P:Program):CS:=λf args h0 r h1=>Jk P f=true/\∀(N:Bu) (base:Nat) (w:World) (ρ:Map) (vs:Array Value),Rel N base ρ h0 w->(∀b,h0.length<=b->ρ b=none)->
 AE ρ w (Free N ρ h0) args vs.toList->(∀g,N.z g->Free N ρ h0 g)->
 Calls P f vs w λe w'=>∃v ρ',e=.returned v/\Below base w w'/\Rel N base ρ' h1 w'/\RV ρ' w' (Free N ρ' h1) r v/\(∀b,h1.length<=b->ρ' b=none)/\h0.length<=h1.length/\
  (∀g,g<w.heap.size->¬N.a g->w'.heap[g]?=w.heap[g]?)/\(∀g,g<w.heap.size->N.z g->Free N ρ' h1 g/\w'.heap[g]?=w.heap[g]?)/\
  ∀b r0,b<h0.length->ρ b=some r0->∃r1,ρ' b=some r1/\r1.v=r0.v
def Rel.empty{N:Bu}{base:Nat}{w:World}(hb:base<=w.heap.size)(hN:∀g,w.heap.size<=g->N.a g/\N.f g):Rel N base VJ [] w :=
 ⟨hb,hN,λb r g hr=>(by cases hr),λb hb=>absurd (by simp[gt]) hb,λb b' r r' g hb=>(by cases hb),λb b' r r' g hb=>(by cases hb)⟩
def W5.data{P:Program}{f:Nat}{args:XQ}{r:AV}{hr:V2}(h:W5 P f args [] r hr)(w:World)(A:Nat->Prop)(vs:Array Value)(hv:AE VJ w A args vs.toList) :
  Calls P f vs w λe w'=>∃v ρ,e=.returned v/\Below w.heap.size w w'/\Rel (C2 w A) w.heap.size ρ hr w'/\RV ρ w' (Free (C2 w A) ρ hr) r v/\∀b,hr.length<=b->ρ b=none:=by
 have hk:W4 VJ w A VJ w (Free (C2 w A) VJ []):=⟨λb r hb=>(by cases hb),λg _ hg=>⟨⟨.inr hg,λb r hb=>(by cases hb)⟩,rfl⟩⟩;refine(h.2 (C2 w A) w.heap.size w VJ vs (.empty (Yj _) λg hg=>⟨.inl hg,hg⟩) (λ_ _=>rfl) (hv.keep hk) (λg hg=>hg.elim)).mono ?_
 grind
section
variable{P:Program}{N:Bu}{base:Nat}{ρ:Map}{h:V2}{w:World}{e:Env}{a:Act}{inl:V3}{ops:Array Oper}{F:Nat->Prop}{f:Nat}{v d r:AV}{val:Value}{vs as:XQ}{o:Oper}{vals:Array Value}{hr:V2}{K:Act->World->Prop}{Q:Exit->Act->World->Prop}
theorem D6(R:Rel N base ρ h w){x:T}(hf:BH h v=some x)(hv:RV ρ w (Free N ρ h) v val)(hF:(refs v=[]/\∀g,Free N ρ h g->F g)\/∀g,F g):∃fp,TR w x val fp/\∀g∈fp,F g:=by
 cases v<;>try (simp[BH]at hf;done)
 .simp[BH]at hf;subst hf
  cases hv with
  |t hT hf=>exact⟨_,hT,λg hg=>hF.elim (λh2=>h2.2 g (hf g hg)) λh2=>h2 g⟩
 .rename_i b;simp only[BH]at hf;split at hf
  .rename_i el sz fr es hb;cases hf;rcases hF with hF|hF
   .simp[refs]at hF
   .cases hv with
    |own hr hone =>
     grind [TL]
  .cases hf
theorem Zry{F:Nat->Prop}(R:Rel N base ρ h w):∀{cs:XQ} {ts:V5} {vs:V4},Q1 h cs=some ts->AE ρ w (Free N ρ h) cs vs->((ZA cs=[]/\∀g,Free N ρ h g->F g)\/∀g,F g)->∃fp,A6 w ts vs fp/\∀g∈fp,F g
 |[],ts,vs,hg,hv,_=>by simp[Q1]at hg;subst hg;cases hv;exact⟨[],.nil,λg hg=>by cases hg⟩
 |c::cs,ts,vs,hg,hv,hF=>by
  cases hv with
  |cons h1 h2 =>
   simp only[Q1]at hg;split at hg
   .rename_i x xs hx hxs;cases hg;obtain⟨fp,h3,h4⟩:=D6 R hx h1 (hF.imp (λ⟨q1,q2⟩=>⟨by simp[ZA]at q1;exact q1.1,q2⟩) id);obtain⟨fq,h5,h6⟩:=Zry R hxs h2 (hF.imp (λ⟨q1,q2⟩=>⟨by simp[ZA]at q1;exact q1.2,q2⟩) id);exact⟨fp++fq,.cons h3 h5,λg hg=>(Yl.1 hg).elim (h4 g) (h6 g)⟩
   .cases hg
theorem Z3l(R:Rel N base ρ h w)(hf:Bx h v=some d)(hv:RV ρ w (Free N ρ h) v val)(hF:(refs v=[]/\∀g,Free N ρ h g->F g)\/∀g,F g):RV VJ w F d val:=by
 cases v<;>try (simp[Bx]at hf;done)
 .simp[Bx]at hf;subst hf;cases hv;exact .nilp
 .simp[Bx]at hf;subst hf
  cases hv with
  |t hT hf=>exact .t hT λg hg=>hF.elim (λh2=>h2.2 g (hf g hg)) λh2=>h2 g
 .rename_i cs;simp only[Bx]at hf;split at hf
  .rename_i ds hds;cases hf
   cases hv with
   |agg hc h1 =>
    obtain⟨fp,h3,h4⟩:=Zry R hds hc (hF.imp (λ⟨q1,q2⟩=>⟨by simpa[refs]using q1,q2⟩) id);exact .agg (AE.of_TRs h3 h4) h1
  .cases hf
 .rename_i b off;simp only[Bx]at hf;split at hf
  .rename_i cs hb;split at hf
   .rename_i ts hts;cases hf;rcases hF with hF|hF
    .simp[refs]at hF
    .cases hv with
     |ptr hr hv =>
      obtain⟨r',h1,h2⟩:=R.blk b (by rw[hb];intro hc;cases hc);rw[hr]at h1;cases h1;rw[hb]at h2;obtain⟨g',c,te,hv2,_,hh,hcs,hone⟩:=h2;rw[hv]at hv2;cases hv2;obtain⟨fp,h3,h4⟩:=Zry R hts hcs (.inr hF);have hl:ts.length=c.toList.length:=h3.length;have:=RV.iptr (ρ:=VJ) (F:=F) (o:=0) (off:=off) hh (hF _) (by rw[Yo,hl,Yq];exact h3) (λg _=>hF g);simpa using this
   .cases hf
  .cases hf
 .simp[Bx]at hf;subst hf
  cases hv with
  |iptr hg hF' hc hf=>exact .iptr hg (hF.elim (λh2=>h2.2 _ hF') λh2=>h2 _) hc λg hg=>hF.elim (λh2=>h2.2 g (hf g hg)) λh2=>h2 g
 .rename_i b;simp only[Bx]at hf;split at hf
  .rename_i el sz fr es hb;cases hf;rcases hF with hF|hF
   .simp[refs]at hF
   .cases hv with
    |own hr hone =>
     obtain⟨fp,hT,_⟩:=TL R hr hb;exact .t hT λg _=>hF g
  .cases hf
theorem Z3m{F:Nat->Prop}(R:Rel N base ρ h w):∀{vs ds:XQ} {vals:V4},JV h vs=some ds->AE ρ w (Free N ρ h) vs vals->((ZA vs=[]/\∀g,Free N ρ h g->F g)\/∀g,F g)->AE VJ w F ds vals
 |[],ds,vals,hf,hv,_=>by simp[JV]at hf;subst hf;cases hv;exact .nil
 |v::vs,ds,vals,hf,hv,hF=>by
  cases hv with
  |cons h1 h2 =>
   simp only[JV]at hf;split at hf
   .rename_i x xs hx hxs;cases hf;exact .cons (Z3l R hx h1 (hF.imp (λ⟨q1,q2⟩=>⟨by simp[ZA]at q1;exact q1.1,q2⟩) id)) (Z3m R hxs h2 (hF.imp (λ⟨q1,q2⟩=>⟨by simp[ZA]at q1;exact q1.2,q2⟩) id))
   .cases hf
theorem Fk(R:Rel N base ρ h w)(hf:Dg h v=some d)(hv:RV ρ w (Free N ρ h) v val)(hF:(refs v=[]/\∀g,Free N ρ h g->F g)\/∀g,F g):RV VJ w F d val:=by
 by_cases hx:∃g cs,v=.fn g cs
 .obtain⟨g,cs,rfl⟩:=hx;simp only[Dg]at hf;split at hf
  .rename_i ds hds;cases hf
   cases hv with
   |fn hc=>exact .fn (Z3m R hds hc (hF.imp (λ⟨q1,q2⟩=>⟨by simpa[refs]using q1,q2⟩) id))
  .cases hf
 .have:Dg h v=Bx h v:=by
   cases v<;>first|rfl|exact absurd ⟨_,_,rfl⟩ hx
  grind [Z3l]
theorem Zrz(R:Rel N base ρ h w){ds:XQ}{vals:V4}(hf:A0 h vs=some ds)(hv:AE ρ w (Free N ρ h) vs vals)(hF:(ZA vs=[]/\∀g,Free N ρ h g->F g)\/∀g,F g):AE VJ w F ds vals:=by
 induction vs generalizing ds vals with
 |nil=>simp[A0]at hf;subst hf;cases hv;exact .nil
 |cons v vs ih =>
  cases hv with
  |cons h1 h2 =>
   simp only[A0]at hf;split at hf
   .rename_i x xs hx hxs;cases hf;exact .cons (Fk R hx h1 (hF.imp (λ⟨q1,q2⟩=>⟨by simp[ZA]at q1;exact q1.1,q2⟩) id)) (ih hxs h2 (hF.imp (λ⟨q1,q2⟩=>⟨by simp[ZA]at q1;exact q1.2,q2⟩) id))
   .cases hf
theorem Z3n(hc:Jk P f=true)(args:Array Value)(w:World):(callFunc f args).run P w=.ok (.enter f args) w:=by
 unfold Jk at hc;split at hc
 .rename_i fn hfn;simp only[Yg,bne_iff_ne,ne_eq]at hc
  cases hb:fn.body with
  |none=>simp[hb]at hc
  |some c=>simp[callFunc,hfn,hc.2,hb]
 .cases hc
def Dk(Γ:CS)(h:V2)(nx:Nat)(e:Env)(k:A5)(v:AV)(u:List (Nat×AK)):Prop:=match k with
 |.call f args=>∃as,A0 h (args.map (ev e))=some as/\∃r hr,Γ f as [] r hr/\(UG (args.map (ev e)) || EO r hr)=true/\v=shift nx r/\u=Bk nx hr 0
 |.fcall f args=>∃as,A0 h (args.map (ev e))=some as/\UG (args.map (ev e))=true/\∃r hr,Γ f as [] r hr/\Cy hr r=some v/\u=[]
 |.icall f args=>Qi Γ f (args.map (ev e)) h nx λv' u'=>v=v'/\u=u'
 |.pcall f args=>Jh Γ f (args.map (ev e)) h nx λv' u'=>v=v'/\u=u'
 |.dcall f args=>∃g caps,ev e f=.fn g caps/\Qi Γ g (args.map (ev e)++caps) h nx λv' u'=>v=v'/\u=u'
 |k=>Z1 h nx e k=some (v,u)
structure QZ (N:Bu) (base:Nat) (ρ:Map) (h:V2) (w:World) (v:AV) (u:List (Nat×AK)) (val:Value) (w':World) (ρ':Map):Prop where
 val:RV ρ' w' (Free N ρ' (upd h u)) v val
 rel:Rel N base ρ' (upd h u) w'
 keeps:W4 ρ w (Free N ρ h) ρ' w' (Free N ρ' (upd h u))
 same:∀b,b ∉ u.map Prod.fst->ρ b=none->ρ' b=none
 below:Below base w w'
 kn:∀g,g<w.heap.size->¬N.a g->w'.heap[g]?=w.heap[g]?
def named:A5->Option (Nat×List AX)
 |.call f args=>some (f,args)
 |.fcall f args=>some (f,args)
 |.icall f args=>some (f,args)
 |.pcall f args=>some (f,args)
 |_=>none
theorem TV{op:Op}{k:A5}(hk:Xh P inl ops op=some k) :
  (∀f args,named k=some (f,args)->∃c,op=.call c/\c.callee=.value (.func f)/\AW A7 c.args.toList=some args/\Jk P f=true)/\
  (∀x args,k=.dcall x args->∃c y,op=.call c/\c.callee=.value y/\A7 y=some x/\AW A7 c.args.toList=some args):=by
 cases op with
 |call c =>
  obtain⟨callee,as,ts⟩:=c
  cases callee with
  |invoke r m=>simp[Xh]at hk
  |builtin b =>
   have:named k=none/\(∀x args,k≠.dcall x args):=by
    cases b<;>simp only[Xh]at hk<;>(repeat' split at hk)<;>first
     |cases hk;done
     |(cases hk;exact⟨rfl,Om⟩)
     |(obtain⟨_,_,rfl⟩:=Yr.1 hk;exact⟨rfl,Om⟩)
   simp_all
  |value y =>
   cases y with
   |func f =>
    simp only[Xh]at hk;split at hk
    .rename_i hc;obtain⟨as',h1,h2⟩:=Yr.1 hk;have hn:named k=some (f,as')/\∀x args,k≠.dcall x args:=by
      subst h2;unfold DR
      repeat' split
      all_goals exact⟨rfl,Om⟩
     simp_all
    .cases hk
   |tmp t =>
    simp only[Xh]at hk;split at hk
    .rename_i x as' hx has;cases hk;refine⟨by simp[named],?_⟩
     simp_all
    .cases hk
   |const v =>
    simp only[Xh]at hk;split at hk
    .rename_i x as' hx has;cases hk;refine⟨by simp[named],?_⟩
     simp_all
    .cases hk
   |global g =>
    simp only[Xh]at hk;split at hk
    .rename_i x as' hx has;simp[A7]at hx
    .cases hk
 |makeFunc fn first caps =>
  have:named k=none/\(∀x args,k≠.dcall x args):=by
   cases fn<;>simp only[Xh]at hk<;>(repeat' split at hk)<;>first
    |(cases hk;done)
    |(cases hk;exact⟨rfl,Om⟩)
    |(obtain⟨_,_,rfl⟩:=Yr.1 hk;exact⟨rfl,Om⟩)
  simp_all
 |slice t x lo hi mx =>
  have:named k=none/\(∀x args,k≠.dcall x args):=by
   cases mx<;>simp only[Xh]at hk<;>(repeat' split at hk)<;>first
    |(cases hk;done)
    |(cases hk;exact⟨rfl,Om⟩)
    |(obtain⟨_,_,rfl⟩:=Yr.1 hk;exact⟨rfl,Om⟩)
  simp_all
 |_ =>
  have:named k=none/\(∀x args,k≠.dcall x args):=by
   simp only[Xh]at hk<;>(repeat' split at hk)<;>first
    |(cases hk;done)
    |(cases hk;exact⟨rfl,Om⟩)
    |(obtain⟨_,_,rfl⟩:=Yr.1 hk;exact⟨rfl,Om⟩)
  exact⟨λf args h=>(by rw[this.1]at h;cases h),λx args h=>absurd h (this.2 x args)⟩
theorem sH{c:Call}(ho:o.op=.call c)(hc:c.callee=.value (.func f))(hcl:Jk P f=true)(w:World):(execOp a.eval o).run P w=.ok (.enter f (c.args.map a.eval)) w:=by
 unfold execOp;rw[ho];simp[resolve,hc,Act.eval,Deferred.ofValue,invoke,Z3n hcl]
theorem ZE1(R:Rel N base ρ h w){nx:Nat}(hargs:AE ρ w (Free N ρ h) vs vals.toList)(hu:∀b,b∈(Bk nx hr 0).map Prod.fst->nx<=b->ρ b=none)
  (hfz:A0 h vs=some as) (hG:W5 P f as [] r hr) (hsh:(UG vs || EO r hr)=true) (hex:(execOp a.eval o).run P w=.ok (.enter f vals) w) (hK:∀val w' ρ',QZ N base ρ h w (shift nx r) (Bk nx hr 0) val w' ρ'->K (a.put o.dst val) w'):o.wp P a w K Q:=by
 have hnew:∀b,nx<=b->b<nx+hr.length->ρ b=none:=by
  simp_all [Zrx]
 have main:∀A:Nat->Prop,AE VJ w A as vals.toList->((∀g,A g->Free N ρ h g)\/EO r hr=true)->o.wp P a w K Q:=by
  intro A hA hs;unfold Oper.wp;rw[hex];show Calls P f vals w _;refine(hG.data w A _ hA).mono ?_;rintro e w' ⟨val,ρc,rfl,hB,sI,hv,hdom⟩;have J:QY N A base ρ h w ρc hr w' nx:=⟨R,hB,sI,hnew,hdom,hs.imp id λhf=>by simp only[EO,Yg]at hf;exact hf.2⟩;refine hK val w' (Vv ρ ρc nx hr.length) ⟨J.val hv (hs.imp id λhf=>by simp only[EO,Yg]at hf;exact hf.1),J.rel,J.keeps,?_,hB.mono R.hb,λg hg _=>hB.block g hg⟩;intro b hb hb0;rw[Zrx]at hb;simp only[Vv]
  grind
 simp only[rR]at hsh;rcases hsh with hsh|hsh
 .have h0:ZA vs=[]:=by simpa[UG]using hsh
  exact main (Free N ρ h) (Zrz R hfz hargs (.inl ⟨h0,λ_ h=>h⟩)) (.inl λ_ h=>h)
 .exact main (λ_=>True) (Zrz R hfz hargs (.inr λ_=>trivial)) (.inr hsh)
theorem ZE2(R:Rel N base ρ h w)(hargs:AE ρ w (Free N ρ h) vs vals.toList)
  (hfz:A0 h vs=some as) (hno:UG vs=true) (hG:W5 P f as [] r hr) (hd:Cy hr r=some d) (hex:(execOp a.eval o).run P w=.ok (.enter f vals) w) (hK:∀val w' ρ',QZ N base ρ h w d [] val w' ρ'->K (a.put o.dst val) w'):o.wp P a w K Q:=by
 have h0:ZA vs=[]:=by simpa[UG]using hno
 have hA:AE VJ w (Free N ρ h) as vals.toList:=Zrz R hfz hargs (.inl ⟨h0,λ_ h=>h⟩);unfold Oper.wp;rw[hex];show Calls P f vals w _;refine(hG.data w (Free N ρ h) _ hA).mono ?_;rintro e w' ⟨val,ρc,rfl,hB,sI,hv,hdom⟩;have hv':=ZE0 sI hd hv;have J:QY N (Free N ρ h) base ρ h w VJ [] w' h.length:=⟨R,hB,Rel.empty hB.size sI.hN,λb h1 h2=>absurd h2 (by simp;omega),λb _=>rfl,.inl λ_ h=>h⟩;have e1:Vv ρ VJ h.length ([]:V2).length=ρ:=by
  funext b;simp only[Vv,Df,DE];rw[Ao]
 have e2:upd h (Bk h.length [] 0)=h:=rfl;have q1:=J.rel;have q2:=J.keeps;rw[e1,e2]at q1 q2;refine hK val w' ρ ⟨?_,q1,q2,λb _ hb=>hb,hB.mono R.hb,λg hg _=>hB.block g hg⟩;refine hv'.keep ⟨λb r hb=>(by cases hb),λg hg hf=>⟨?_,rfl⟩⟩;have:=J.free_new (g:=g) ⟨hf,λb r hb=>(by cases hb)⟩ (.inr λ_ h=>h);rw[e1,e2]at this;exact this
end
open Go.RowKit (Below)
section
variable{P:Program}{N:Bu}{base:Nat}{ρ:Map}{h:V2}{w:World}{e:Env}{a:Act}{inl:V3}{ops:Array Oper}{ids:V3}{i nx b m:Nat}{F:Nat->Prop}{ρ1:Map}
theorem RV.root{x:AV}{v:Value}(hv:RV ρ w F x v):∀b∈refs x,∃r,ρ b=some r:=by
 refine RV.rec (motive_1:=λx v _=>∀b∈refs x,∃r,ρ b=some r) (motive_2:=λxs vs _=>∀b∈ZA xs,∃r,ρ b=some r) ?_ ?_ ?_ ?_ ?_ ?_ ?_ ?_ ?_ ?_ ?_ ?_ ?_ hv
 .intro v b hb;cases hb
 .intro b hb;cases hb
 .intro x v fp _ _ b hb;cases hb
 .intro cs c _ _ ih;simpa[refs]using ih
 .intro cs c _ ih;simpa[refs]using ih
 .intro b off g r hr _ c hc;simp[refs]at hc;subst hc;exact⟨r,hr⟩
 .intro b i sz off g n cap r hr _ c hc;simp[refs]at hc;subst hc;exact⟨r,hr⟩
 .intro cs off g o c e fz fp _ _ _ _ b hb;cases hb
 .intro b r hr _ c hc;simp[refs]at hc;subst hc;exact⟨r,hr⟩
 .intro b n g r hr _ c hc;simp[refs]at hc;subst hc;exact⟨r,hr⟩
 .intro f cs c _ ih;simpa[refs]using ih
 .intro b hb;cases hb
 .intro x v xs vs _ _ ih1 ih2 b hb;simp only[ZA,Yl]at hb
  grind
theorem AE.root{xs:XQ}{vs:V4}(hv:AE ρ w F xs vs):∀b∈ZA xs,∃r,ρ b=some r:=by
 induction xs generalizing vs with
 |nil=>intro b hb;cases hb
 |cons x xs ih =>
  cases hv with
  |cons h1 h2 =>
   intro b hb;simp only[ZA,Yl]at hb;exact hb.elim (h1.root b) (ih h2 b)
theorem Zr0{p:Nat->Prop}(hc:∀b,p b->∀c∈Vu (gt h b),p c):∀(n:Nat) (todo acc:V3),(∀b∈todo,p b)->(∀b∈acc,p b)->∀b∈X7 h n todo acc,p b
 |0,_,_,_,ha,b,hb=>ha b (by simpa[X7]using hb)
 |n+1,[],acc,_,ha,b,hb=>ha b (by simpa[X7]using hb)
 |n+1,c::todo,acc,ht,ha,b,hb=>by
  simp only[X7]at hb;split at hb
  .exact Zr0 hc n todo acc (λb hb=>ht b (by simp[hb])) ha b hb
  .refine Zr0 hc n _ _ (λb hb=>?_) (λb hb=>?_) b hb
   .grind
   .grind
theorem Rel.refs_root(R:Rel N base ρ h w)(b:Nat):∀c∈Vu (gt h b),∃r,ρ c=some r:=by
 intro c hc
 cases hx:gt h b with
 |dead=>rw[hx]at hc;cases hc
 |arr e sz fr es=>rw[hx]at hc;cases hc
 |box cs =>
  obtain⟨r,h1,h2⟩:=R.blk b (by rw[hx];intro hc;cases hc);rw[hx]at h2 hc;obtain⟨g,c',e',_,_,_,h6,_⟩:=h2;exact h6.root c hc
theorem Z3o(R:Rel N base ρ h w){vs:XQ}{vals:V4}(hv:AE ρ w (Free N ρ h) vs vals):∀b∈ZQ h vs,∃r,ρ b=some r :=
 Zr0 (p:=λb=>∃r,ρ b=some r) (λb _ c hc=>R.refs_root b c hc) 200 (ZA vs) [] (λb hb=>hv.root b hb) (λb hb=>by cases hb)
theorem C3(hnd:ids.Nodup)(hi:ids[i]?=some b):idx b ids 0=i:=by
 obtain⟨j,h1,h2⟩:=Z3g (Y9 hi) 0;rw[Yw]at h1
 grind [List.getElem?_eq_some_iff,Nat.lt_trichotomy,List.pairwise_iff_getElem]
theorem Jo(hi:ids[i]?=some b):bk ids nx i=b:=by simp[bk,hi]
theorem Cv(hi:ids.length<=i):bk ids nx i=nx+(i-ids.length):=by simp[bk,List.getElem?_eq_none hi]
theorem D7(hnd:ids.Nodup)(hn:∀j,j<m-ids.length->nx+j ∉ ids){j:Nat}(hi:i<m)(hj:j<m)(he:bk ids nx i=bk ids nx j):i=j:=by
 rcases DD i ids.length with h1|h1<;>rcases DD j ids.length with h2|h2
 .have e1:ids[i]?=some ids[i]:=by simp[h1]
  have e2:ids[j]?=some ids[j]:=by simp[h2]
  rw[Jo e1,Jo e2]at he;rw[<-C3 hnd e1,<-C3 hnd e2,he]
 .have e1:ids[i]?=some ids[i]:=by simp[h1]
  rw[Jo e1,Cv h2]at he;exact absurd (he▸Y9 e1) (hn _ Z)
 .have e2:ids[j]?=some ids[j]:=by simp[h2]
  rw[Jo e2,Cv h1]at he;exact absurd (he.symm▸Y9 e2) (hn _ Z)
 .grind [Cv]
theorem TW(ids:V3)(nx:Nat):∀(bs:V2) (i b:Nat),b∈(Wd ids nx bs i).map Prod.fst↔∃j,i<=j/\j<i+bs.length/\bk ids nx j=b
 |[],i,b=>by simp[Wd];intro j h1 h2;omega
 |x::bs,i,b=>by
  simp only[Wd,Yz,Y1,TW ids nx bs (i+1),Yx]
  grind
theorem sJ(ids:V3)(nx:Nat):∀(bs:V2) (i:Nat) (h:V2) (b:Nat),(∀j,i<=j->j<i+bs.length->bk ids nx j≠b)->gt (upd h (Wd ids nx bs i)) b=gt h b
 |[],i,h,b,_=>rfl
 |x::bs,i,h,b,hb=>by
  simp only[Wd,upd];rw[sJ ids nx bs (i+1) _ b (λj h1 h2=>hb j Z (by simp;omega)),K9,Yb λhe=>hb i (Yj _) Om he.symm]
theorem Zr1(ids:V3)(nx:Nat):∀(bs:V2) (i:Nat) (h:V2),(∀j k,i<=j->j<i+bs.length->i<=k->k<i+bs.length->bk ids nx j=bk ids nx k->j=k)->∀j,i<=j->j<i+bs.length->
  gt (upd h (Wd ids nx bs i)) (bk ids nx j)=Bi (bk ids nx) (gt bs (j-i))
 |[],i,h,_,j,h1,h2=>by simp at h2;omega
 |x::bs,i,h,hinj,j,h1,h2=>by
  simp only[Yx]at h2 hinj;simp only[Wd,upd];by_cases hj:j=i
  .subst hj;rw[sJ ids nx bs (j+1) _ _ (λk h3 h4 he=>by have:=hinj k j Z Z Z Z he;omega),K9,Ya rfl];simp[gt]
  .rw[Zr1 ids nx bs (i+1) _ (λj k q1 q2 q3 q4=>hinj j k Z Z Z Z) j Z Z]
   have:j-i=(j-(i+1))+1:=by omega
   rw[this];simp[gt]
open Classical in
noncomputable def Ka(ρ ρ1:Map)(ids:V3)(nx m:Nat):Map:=λb=>if hx:∃i,i<m/\bk ids nx i=b then ρ1 hx.choose else ρ b
theorem Zr2(hinj:∀i j,i<m->j<m->bk ids nx i=bk ids nx j->i=j)(hi:i<m):Ka ρ ρ1 ids nx m (bk ids nx i)=ρ1 i:=by
 have hx:∃j,j<m/\bk ids nx j=bk ids nx i:=⟨i,hi,rfl⟩;unfold Ka;rw[dif_pos hx,hinj _ _ hx.choose_spec.1 hi hx.choose_spec.2]
theorem Z3p(hb:∀i,i<m->bk ids nx i≠b):Ka ρ ρ1 ids nx m b=ρ b:=by
 unfold Ka
 grind
def CA(N:Bu)(ρ:Map)(h:V2)(w:World)(ids:V3):Bu :=
 ⟨λg=>N.a g/\∀b r,b ∉ ids->ρ b=some r->gt h b≠.dead->Xu r.v≠some g,
  λg=>w.heap.size<=g\/∃b∈ids,∃r,ρ b=some r/\gt h b≠.dead/\(Xu r.v=some g\/XG (gt h b)=true/\g∈r.fp),Free N ρ h⟩
theorem Rel.sub(R:Rel N base ρ h w)(hnd:ids.Nodup)(hcl:∀b∈ids,∀c∈Vu (gt h b),c∈ids):Rel (CA N ρ h w ids) base (A9 ρ ids) (A2 h ids) w:=by
 refine R.renN hnd hcl ?_ ?_ ?_ ?_
 .intro g hg;refine⟨⟨(R.hN g hg).1,λb r _ hr hd he=>?_⟩,.inl hg⟩;have:=(R.lt hr hd he).2;omega
 .intro b hb r g hr hd hg;refine⟨⟨(R.hO b r g hr hd hg).1,λc rc hc hrc hdc he=>?_⟩,.inr ⟨b,hb,r,hr,hd,.inl hg⟩⟩;exact hc (R.inj b c r rc g hr hrc hd hdc hg he▸hb)
 .exact λg hg=>⟨hg.1,λb r _=>hg.2 b r⟩
 .intro b hb r hr hf g hg;exact .inr ⟨b,hb,r,hr,JY hf,.inr ⟨hf,hg⟩⟩
structure Q4 (N:Bu) (base:Nat) (ρ:Map) (h:V2) (w:World) (ids:V3) (nx:Nat) (ρ1:Map) (h1:V2) (w':World):Prop where
 R:Rel N base ρ h w
 nd:ids.Nodup
 root:∀b∈ids,∃r,ρ b=some r
 len:ids.length<=h1.length
 new:∀j,j<h1.length-ids.length->ρ (nx+j)=none
 R1:Rel (CA N ρ h w ids) base ρ1 h1 w'
 B:Below base w w'
 dom:∀b,h1.length<=b->ρ1 b=none
 kn:∀g,g<w.heap.size->¬(CA N ρ h w ids).a g->w'.heap[g]?=w.heap[g]?
 fz:∀g,g<w.heap.size->Free N ρ h g->Free (CA N ρ h w ids) ρ1 h1 g/\w'.heap[g]?=w.heap[g]?
 rt:∀b r0,b<ids.length->A9 ρ ids b=some r0->∃r1,ρ1 b=some r1/\r1.v=r0.v
section
variable{ids:V3}{nx:Nat}{ρ1:Map}{h1:V2}{w':World}
theorem Q4.inj(J:Q4 N base ρ h w ids nx ρ1 h1 w'):∀i j,i<h1.length->j<h1.length->bk ids nx i=bk ids nx j->i=j:=by
 intro i j hi hj he;refine D7 J.nd (m:=h1.length) (λk hk hm=>?_) hi hj he;obtain⟨r,hr⟩:=J.root _ hm;rw[J.new k hk]at hr;cases hr
theorem Q4.split(J:Q4 N base ρ h w ids nx ρ1 h1 w')(b:Nat) :
  (∃i,i<h1.length/\bk ids nx i=b/\Ka ρ ρ1 ids nx h1.length b=ρ1 i/\gt (upd h (Wd ids nx h1 0)) b=Bi (bk ids nx) (gt h1 i))\/
  (b ∉ ids/\(∀i,i<h1.length->bk ids nx i≠b)/\Ka ρ ρ1 ids nx h1.length b=ρ b/\gt (upd h (Wd ids nx h1 0)) b=gt h b):=by
 by_cases hx:∃i,i<h1.length/\bk ids nx i=b
 .obtain⟨i,hi,rfl⟩:=hx;refine .inl ⟨i,hi,rfl,Zr2 J.inj hi,?_⟩;have:=Zr1 ids nx h1 0 h (λj k _ h2 _ h4=>J.inj j k Z Z) i (Yc _) Z;simpa using this
 .have hn:∀i,i<h1.length->bk ids nx i≠b:=λi hi he=>hx ⟨i,hi,he⟩
  refine .inr ⟨λhm=>?_,hn,Z3p hn,sJ ids nx h1 0 h b λj _ h2=>hn j Z⟩;obtain⟨i,hi⟩:=Yc5 hm;have hl:=(Dq.1 hi).1;exact hn i (by have:=J.len;omega) (Jo hi)
theorem Q4.free(J:Q4 N base ρ h w ids nx ρ1 h1 w'){g:Nat}(hg:Free (CA N ρ h w ids) ρ1 h1 g):Free N (Ka ρ ρ1 ids nx h1.length) (upd h (Wd ids nx h1 0)) g:=by
 refine⟨hg.1.1,?_⟩;intro b r hb hd he;rcases J.split b with⟨i,hi,rfl,e1,e2⟩|⟨hm,_,e1,e2⟩
 .rw[e1]at hb;rw[e2]at hd;exact hg.2 i r hb (λhc=>hd (by rw[hc];rfl)) he
 .rw[e1]at hb;rw[e2]at hd;exact hg.1.2 b r hm hb hd he
theorem Q4.keeps(J:Q4 N base ρ h w ids nx ρ1 h1 w'):W4 ρ w (Free N ρ h) (Ka ρ ρ1 ids nx h1.length) w' (Free N (Ka ρ ρ1 ids nx h1.length) (upd h (Wd ids nx h1 0))):=by
 constructor
 .intro b r hb;rcases J.split b with⟨i,hi,rfl,e1,_⟩|⟨hm,_,e1,_⟩
  .rw[e1];rcases DD i ids.length with hl|hl
   .have ei:ids[i]?=some ids[i]:=by simp[hl]
    rw[Jo ei]at hb;exact J.rt i r hl (by simp[A9,ei,hb])
   .rw[Cv hl,J.new _ Z]at hb;cases hb
  .simp_all
 .intro g hl hf;obtain⟨q1,q2⟩:=J.fz g hl hf;exact⟨J.free q1,q2⟩
theorem Q4.rel(J:Q4 N base ρ h w ids nx ρ1 h1 w'):Rel N base (Ka ρ ρ1 ids nx h1.length) (upd h (Wd ids nx h1 0)) w':=by
 have hk:=J.keeps;have hroot:∀c r,ρ1 c=some r->Ka ρ ρ1 ids nx h1.length (bk ids nx c)=some r:=by
  intro c r hc;have hl:c<h1.length:=by
   rcases DD c h1.length with q|q
   .exact q
   .rw[J.dom c q]at hc;cases hc
  rw[Zr2 J.inj hl];exact hc
 have hf1:∀g,(CA N ρ h w ids).f g->N.f g:=by
  rintro g (hg|⟨b,hb,r,hr,hd,hg|⟨hf,hg⟩⟩)
  .exact(J.R.hN g hg).2
  .exact(J.R.hO b r g hr hd hg).2
  .exact(J.R.fresh hr hf g hg).1
 refine⟨Y6 J.R.hb J.B.size,λg hl=>J.R.hN g (Y6 J.B.size hl),?_,?_,?_,?_⟩
 .intro b r g hb hd hg;rcases J.split b with⟨i,hi,rfl,e1,e2⟩|⟨hm,_,e1,e2⟩
  .rw[e1]at hb;rw[e2]at hd;have:=J.R1.hO i r g hb (λhc=>hd (by rw[hc];rfl)) hg;exact⟨this.1.1,hf1 g this.2⟩
  .rw[e1]at hb;rw[e2]at hd;exact J.R.hO b r g hb hd hg
 .intro b hd;rcases J.split b with⟨i,hi,rfl,e1,e2⟩|⟨hm,_,e1,e2⟩
  .rw[e2]at hd|-;rw[e1];obtain⟨r,q1,q2⟩:=J.R1.blk i λhc=>hd (by rw[hc];rfl)
   refine⟨r,q1,?_⟩
   cases hx:gt h1 i with
   |dead=>trivial
   |box cs =>
    rw[hx]at q2;obtain⟨g,c,e',h3,h4,h5,h6,h7⟩:=q2
    exact⟨g,c,e',h3,h4,h5,h6.ren _ (λc _ r hr=>hroot c r hr) λg _ hg=>J.free hg,h7⟩
   |arr e' sz fr es =>
    rw[hx]at q2;obtain⟨e',xs,he',h3,h4,h5,h6,h7,h8⟩:=q2;exact⟨e',xs,he',h3,h4,h5,h6,λg hg=>J.free (h7 g hg),λhf=>⟨(h8 hf).1,λg hg=>hf1 g ((h8 hf).2 g hg)⟩⟩
  .rw[e2]at hd|-;rw[e1];obtain⟨r,q1,q2⟩:=J.R.blk b hd;exact⟨r,q1,q2.keep hk λg hg=>J.kn g (q2.lt hd hg).2 λhc=>hc.2 b r hm q1 hd hg⟩
 .intro b b' r r' g hb hb' hd hd' hg hg';rcases J.split b with⟨i,hi,rfl,e1,e2⟩|⟨hm,_,e1,e2⟩<;>rcases J.split b' with⟨j,hj,rfl,e3,e4⟩|⟨hm',_,e3,e4⟩
  .rw[e1]at hb;rw[e2]at hd;rw[e3]at hb';rw[e4]at hd';rw[J.R1.inj i j r r' g hb hb' (λhc=>hd (by rw[hc];rfl)) (λhc=>hd' (by rw[hc];rfl)) hg hg']
  .rw[e1]at hb;rw[e2]at hd;rw[e3]at hb';rw[e4]at hd';have:=J.R1.hO i r g hb (λhc=>hd (by rw[hc];rfl)) hg;exact absurd hg' (this.1.2 b' r' hm' hb' hd')
  .rw[e1]at hb;rw[e2]at hd;rw[e3]at hb';rw[e4]at hd';have:=J.R1.hO j r' g hb' (λhc=>hd' (by rw[hc];rfl)) hg';exact absurd hg (this.1.2 b r hm hb hd)
  .rw[e1]at hb;rw[e2]at hd;rw[e3]at hb';rw[e4]at hd';exact J.R.inj b b' r r' g hb hb' hd hd' hg hg'
 .intro b b' r r' g hb hb' hf hf' hg hg';have mixed:∀i r b' r',ρ1 i=some r->XG (gt h1 i)=true->b' ∉ ids->ρ b'=some r'->XG (gt h b')=true->g∈r.fp->g∈r'.fp->False:=by
   intro i r b' r' hb hf hm hb' hf' hg hg';have q1:=(J.R1.fresh hb hf g hg).1;obtain⟨_,q2,q3⟩:=J.R.fresh hb' hf' g hg';rcases q1 with q1|⟨c,hc,rc,h3,h4,h5|⟨h5,h6⟩⟩
   .omega
   .exact q2.2 c rc h3 h4 h5
   .exact hm (J.R.apart c b' rc r' g h3 hb' h5 hf' h6 hg'▸hc)
  rcases J.split b with⟨i,hi,rfl,e1,e2⟩|⟨hm,_,e1,e2⟩<;>rcases J.split b' with⟨j,hj,rfl,e3,e4⟩|⟨hm',_,e3,e4⟩
  .rw[e1]at hb;rw[e2,Jn]at hf;rw[e3]at hb';rw[e4,Jn]at hf';rw[J.R1.apart i j r r' g hb hb' hf hf' hg hg']
  .grind [Jn]
  .grind [Jn]
  .rw[e1]at hb;rw[e2]at hf;rw[e3]at hb';rw[e4]at hf';exact J.R.apart b b' r r' g hb hb' hf hf' hg hg'
theorem Q4.after(J:Q4 N base ρ h w ids nx ρ1 h1 w'){r:AV}{v:Value}(hv:RV ρ1 w' (Free (CA N ρ h w ids) ρ1 h1) r v) :
  QZ N base ρ h w (ren (bk ids nx) r) (Wd ids nx h1 0) v w' (Ka ρ ρ1 ids nx h1.length):=by
 refine⟨hv.ren _ (λb _ r hr=>?_) λg _ hg=>J.free hg,J.rel,J.keeps,?_,J.B,λg hl hn=>J.kn g hl λhc=>hn hc.1⟩
 .have hl:b<h1.length:=by
   rcases DD b h1.length with q|q
   .exact q
   .rw[J.dom b q]at hr;cases hr
  rw[Zr2 J.inj hl];exact hr
 .simp_all [TW,Z3p,Yc]
end
theorem Zr3{o:Oper}(R:Rel N base ρ h w){nx f:Nat}{vs:XQ}{vals:Array Value}(hargs:AE ρ w (Free N ρ h) vs vals.toList){r:AV}{h1:V2}
  (hu:∀j,(ZQ h vs).length<=j->j<h1.length->ρ (nx+(j-(ZQ h vs).length))=none) (hcl:Qh h (ZQ h vs) (ZA vs)=true) (hG:W5 P f (BQ (ZQ h vs) vs) (A2 h (ZQ h vs)) r h1)
  (hex:(execOp a.eval o).run P w=.ok (.enter f vals) w) {K:Act->World->Prop} {Q:Exit->Act->World->Prop}
  (hK:∀val w' ρ',QZ N base ρ h w (ren (bk (ZQ h vs) nx) r) (Wd (ZQ h vs) nx h1 0) val w' ρ'->K (a.put o.dst val) w'):o.wp P a w K Q:=by
 obtain⟨hin,TX⟩:=sG hcl;have hnd:(ZQ h vs).Nodup:=sE _ _ _ Y8;have hroot:=Z3o R hargs;generalize ZQ h vs=ids at *
 unfold Oper.wp;rw[hex];show Calls P f vals w _;have hF:∀g,Free N ρ h g->Free (CA N ρ h w ids) (A9 ρ ids) (A2 h ids) g:=λg hg=>sF hg ⟨hg.1,λb r _=>hg.2 b r⟩
 refine(hG.2 (CA N ρ h w ids) base w (A9 ρ ids) vals (R.sub hnd TX) (λb hb=>Zrw (by simpa[A2]using hb))
  (hargs.ren _ (λb hb r hr=>by rw[TT (hin b hb)];exact hr) λg _ hg=>hF g hg) hF).mono ?_
 rintro e w' ⟨v,ρ1,rfl,hB,hR1,hv,hdom,hlen,hkn,hfz,hrt⟩;have hl:(A2 h ids).length=ids.length:=by simp[A2]
 rw[hl]at hlen hrt
 have J:Q4 N base ρ h w ids nx ρ1 h1 w':=⟨R,hnd,hroot,hlen,λj hj=>by
  have:=hu (j+ids.length) Z Z
  rwa [Yc6]at this,hR1,hB,hdom,hkn,hfz,hrt⟩
 exact hK v w' _ (J.after hv)
theorem Free.congr{h':V2}(hg:∀b,gt h b=gt h' b):Free N ρ h=Free N ρ h':=by
 funext g;unfold Free;simp only[hg]
theorem Rel.congr{h':V2}(hg:∀b,gt h b=gt h' b)(R:Rel N base ρ h w):Rel N base ρ h' w:=by
 have hF:=Free.congr (N:=N) (ρ:=ρ) hg;refine⟨R.hb,R.hN,?_,?_,?_,?_⟩
 .intro b r g hr hd;rw[<-hg]at hd;exact R.hO b r g hr hd
 .intro b hb;rw[<-hg]at hb;obtain⟨r,h1,h2⟩:=R.blk b hb
  simp_all
 .intro b b' r r' g h1 h2 h3 h4;rw[<-hg]at h3 h4;exact R.inj b b' r r' g h1 h2 h3 h4
 .intro b b' r r' g h1 h2 h3 h4;rw[<-hg]at h3 h4;exact R.apart b b' r r' g h1 h2 h3 h4
theorem D8{f g:Nat->Nat}:∀(v:AV),(∀c∈refs v,g (f c)=c)->ren g (ren f v)=v:=by
 intro v;refine AV.rec (motive_1:=λv=>(∀c∈refs v,g (f c)=c)->ren g (ren f v)=v) (motive_2:=λvs=>(∀c∈ZA vs,g (f c)=c)->rens g (rens f vs)=vs) ?_ ?_ ?_ ?_ ?_ ?_ ?_ ?_ ?_ ?_ ?_ ?_ ?_ v
 .intro _;rfl
 .intro _;rfl
 .intro x _;rfl
 .intro cs ih h;simp[ren,ih (by simpa[refs]using h)]
 .intro cs ih h;simp[ren,ih (by simpa[refs]using h)]
 .intro b off h;simp[ren,h b (by simp[refs])]
 .intro b i sz off h;simp[ren,h b (by simp[refs])]
 .intro cs off _;rfl
 .intro b h;simp[ren,h b (by simp[refs])]
 .intro b n h;simp[ren,h b (by simp[refs])]
 .intro fn cs ih h;simp[ren,ih (by simpa[refs]using h)]
 .intro _;rfl
 .intro v vs ih1 ih2 h;simp only[ZA,Yl]at h;simp[rens,ih1 (λc hc=>h c (.inl hc)),ih2 (λc hc=>h c (.inr hc))]
theorem Z3q{f g:Nat->Nat}:∀(vs:XQ),(∀c∈ZA vs,g (f c)=c)->rens g (rens f vs)=vs
 |[],_=>rfl
 |v::vs,h=>by
  simp only[ZA,Yl]at h;simp[rens,D8 v (λc hc=>h c (.inl hc)),Z3q vs (λc hc=>h c (.inr hc))]
theorem ZE3{f g:Nat->Nat}(x:AK)(h:∀c∈Vu x,g (f c)=c):Bi g (Bi f x)=x:=by
 cases x with
 |box cs=>simp[Bi,Z3q cs h]
 |_=>rfl
theorem Zr4(ids:V3)(nx:Nat):∀(xs ys:V2) (i:Nat),Wd ids nx (xs++ys) i=Wd ids nx xs i++Wd ids nx ys (i+xs.length)
 |[],ys,i=>by simp[Wd]
 |x::xs,ys,i=>by simp[Wd,Zr4 ids nx xs ys (i+1),TC,Nat.add_comm 1]
theorem ZE4{u:List (Nat×AK)}:∀{h h':V2},(∀b,gt h b=gt h' b)->∀b,gt (upd h u) b=gt (upd h' u) b:=by
 induction u with
 |nil=>intro h h' hg b;exact hg b
 |cons p u ih =>
  intro h h' hg b;obtain⟨c,x⟩:=p;exact ih (λb=>by rw[K9,K9,hg]) b
theorem ZE5{ids:V3}(hnd:ids.Nodup)(hcl:∀b∈ids,∀c∈Vu (gt h b),c∈ids)(nx b:Nat):gt (upd h (Wd ids nx (A2 h ids) 0)) b=gt h b:=by
 have hl:(A2 h ids).length=ids.length:=by simp[A2]
 by_cases hb:b∈ids
 .obtain⟨i,hi⟩:=Yc5 hb;have hil:=(Dq.1 hi).1;have hinj:∀j k,j<ids.length->k<ids.length->bk ids nx j=bk ids nx k->j=k:=λj k hj hk he=>D7 hnd (m:=ids.length) (λq hq=>by omega) hj hk he
  have:=Zr1 ids nx (A2 h ids) 0 h (λj k _ h2 _ h4=>hinj j k Z Z) i (Yc _) Z;rw[Jo hi]at this;rw[this];have e:gt (A2 h ids) (i-0)=Bi (λc=>idx c ids 0) (gt h b):=by
   rw[Nat.sub_zero,A2,OZ,hi]
  rw[e];refine ZE3 _ λc hc=>?_
  obtain⟨j,hj⟩:=Yc5 (hcl b hb c hc);rw[C3 hnd hj,Jo hj]
 .exact sJ ids nx _ 0 h b λj _ h2 he=>hb (by
   have hj:ids[j]?=some (ids[j]' Z):=by simp
   rw[Jo hj]at he
   exact he▸Y9 hj)
theorem QZ.congr{v:AV}{u u':List (Nat×AK)}{val:Value}{w':World}{ρ':Map}(hA:QZ N base ρ h w v u val w' ρ')(hg:∀b,gt (upd h u) b=gt (upd h u') b)(hs:∀b,b ∉ u'.map Prod.fst->ρ b=none->ρ' b=none):QZ N base ρ h w v u' val w' ρ':=by
 have hF:=Free.congr (N:=N) (ρ:=ρ') hg;exact⟨by rw[<-hF];exact hA.val,hA.rel.congr hg,by rw[<-hF];exact hA.keeps,hs,hA.below,hA.kn⟩
theorem ZE6{o:Oper}(R:Rel N base ρ h w){nx f:Nat}{vs:XQ}{vals:Array Value}(hargs:AE ρ w (Free N ρ h) vs vals.toList){r:AV}{hn:V2}
  (hu:∀b,b∈(Wd (ZQ h vs) nx hn (ZQ h vs).length).map Prod.fst->nx<=b->ρ b=none) (hcl:Qh h (ZQ h vs) (ZA vs)=true)
  (hG:W5 P f (BQ (ZQ h vs) vs) (A2 h (ZQ h vs)) r (A2 h (ZQ h vs)++hn)) (hex:(execOp a.eval o).run P w=.ok (.enter f vals) w) {K:Act->World->Prop} {Q:Exit->Act->World->Prop}
  (hK:∀val w' ρ',QZ N base ρ h w (ren (bk (ZQ h vs) nx) r) (Wd (ZQ h vs) nx hn (ZQ h vs).length) val w' ρ'->K (a.put o.dst val) w'):o.wp P a w K Q:=by
 have hl:(A2 h (ZQ h vs)).length=(ZQ h vs).length:=by simp[A2]
 refine Zr3 R (nx:=nx) hargs (λj h1 h2=>?_) hcl hG hex λval w' ρ' hA=>?_
 .rw[Yu,hl]at h2;refine hu _ ((TW _ _ _ _ _).2 ⟨j,h1,h2,Cv h1⟩) (Nat.le_add_right _ _)
 .obtain⟨hin,TX⟩:=sG hcl;have hnd:(ZQ h vs).Nodup:=sE _ _ _ Y8;refine hK val w' ρ' (hA.congr (λb=>?_) λb hb hb0=>?_)
  .rw[Zr4,Z2H,hl,Yw]
   grind [ZE4,ZE5]
  .refine hA.same b (λhm=>?_) hb0;rw[Zr4,CV,Yl,hl,Yw]at hm;rcases hm with hm|hm
   .obtain⟨j,_,h2,h3⟩:=(TW _ _ _ _ _).1 hm;rw[Yw,hl]at h2;have hj:(ZQ h vs)[j]?=some ((ZQ h vs)[j]'h2):=by simp[h2]
    rw[Jo hj]at h3;obtain⟨r0,hr0⟩:=Z3o R hargs b (h3▸Y9 hj)
    simp_all
   .exact hb hm
def isC:A5->Prop
 |.call _ _=>True
 |.fcall _ _=>True
 |.icall _ _=>True
 |.pcall _ _=>True
 |.dcall _ _=>True
 |_=>False
theorem TY{o:Oper}{k:A5}(hk:Xh P inl ops o.op=some k)(hE:XO ρ w (Free N ρ h) e a.tmps)(R:Rel N base ρ h w){nx:Nat}{v:AV}{u:List (Nat×AK)}(hn:isC k\/ρ nx=none)(hu:∀b,b∈u.map Prod.fst->nx<=b->ρ b=none)
  (hev:Dk (W5 P) h nx e k v u) {K:Act->World->Prop} {Q:Exit->Act->World->Prop} (hK:∀val w' ρ',QZ N base ρ h w v u val w' ρ'->K (a.put o.dst val) w'):o.wp P a w K Q:=by
 have plain:Z1 h nx e k=some (v,u)->o.wp P a w K Q:=by
  intro hev;have hnx:ρ nx=none:=by
   rcases hn with hn|hn
   .cases k<;>first|exact hn.elim|cases hev
   .exact hn
  obtain⟨val,w',ρ',hrun,h1,h2,h3,h4,h5,h6⟩:=D3 hk hE R hnx hev;have:=hK val w' ρ' ⟨h1,h2,h3,λb hb hb0=>by rw[h4 b hb];exact hb0,h5,h6⟩;unfold Oper.wp;rcases hrun with hrun|⟨hrun,rfl⟩
  .rw[hrun];exact this
  .rw[hrun];exact this
 have hul:∀{ids:V3} {h1:V2},u=Wd ids nx h1 0->∀j,ids.length<=j->j<h1.length->ρ (nx+(j-ids.length))=none:=by
  intro ids h1 he j h2 h3;exact hu _ (by rw[he];exact(TW _ _ _ _ _).2 ⟨j,Yc _,Z,Cv h2⟩) (Nat.le_add_right _ _)
 cases k<;>try (exact plain hev)
 .rename_i f args;simp only[Dk]at hev;obtain⟨as,hfz,r,hr,hG,hsh,rfl,rfl⟩:=hev;obtain⟨c,hoc,hcc,has,hcl⟩:=(TV hk).1 f args rfl;exact ZE1 R (vals:=c.args.map a.eval) (by rw[EL];exact OX hE has) hu hfz hG hsh (sH hoc hcc hcl w) hK
 .rename_i f args;simp only[Dk]at hev;obtain⟨as,hfz,hno,r,hr,hG,hd,rfl⟩:=hev;obtain⟨c,hoc,hcc,has,hcl⟩:=(TV hk).1 f args rfl;exact ZE2 R (vals:=c.args.map a.eval) (by rw[EL];exact OX hE has) hfz hno hG hd (sH hoc hcc hcl w) hK
 .rename_i f args;simp only[Dk,Qi]at hev;obtain⟨hcl',r,h1,hG,rfl,rfl⟩:=hev;obtain⟨c,hoc,hcc,has,hcl⟩:=(TV hk).1 f args rfl;exact Zr3 R (vals:=c.args.map a.eval) (by rw[EL];exact OX hE has) (hul rfl) hcl' hG (sH hoc hcc hcl w) hK
 .rename_i f args;simp only[Dk,Jh]at hev;obtain⟨hcl',r,hn,hG,rfl,rfl⟩:=hev;obtain⟨c,hoc,hcc,has,hcl⟩:=(TV hk).1 f args rfl;exact ZE6 R (vals:=c.args.map a.eval) (by rw[EL];exact OX hE has) hu hcl' hG (sH hoc hcc hcl w) hK
 .rename_i x args;simp only[Dk,Qi]at hev;obtain⟨g,caps,hg,hcl',r,h1,hG,rfl,rfl⟩:=hev;obtain⟨c,y,hoc,hcc,hy,has⟩:=(TV hk).2 x args rfl;have C1:=Xi hE hy;rw[hg]at C1;obtain⟨cv,hcv,TZ⟩:=C1.fn_val;have hex:(execOp a.eval o).run P w=.ok (.enter g (c.args.map a.eval++cv)) w:=by
   unfold execOp;rw[hoc];simp[resolve,hcc,hcv,Deferred.ofValue,invoke,Z3n hG.1]
  exact Zr3 R (vals:=c.args.map a.eval++cv) (by rw[Array.toList_append,EL];exact(OX hE has).append TZ) (hul rfl) hcl' hG hex hK
end
open Go.RowKit (Below)
def UK(ρ:Map)(w:World)(F:Nat->Prop):List Env->List (Array Value)->Prop
 |[],[]=>True
 |e::es,t::ts=>XO ρ w F e t/\UK ρ w F es ts
 |_,_=>False
structure AL (N:Bu) (base:Nat) (w0:World) (nt:Nat) (ts:List (Array Value)) (ρ:Map) (s:S) (a:Act) (w:World):Prop where
 rel:Rel N base ρ s.h w
 env:XO ρ w (Free N ρ s.h) s.env a.tmps
 stk:UK ρ w (Free N ρ s.h) s.stk ts
 dom:∀b,s.h.length<=b->ρ b=none
 defers:a.defers=[]
 size:a.tmps.size=nt
 below:Below base w0 w
 kn:∀g,g<w0.heap.size->¬N.a g->w.heap[g]?=w0.heap[g]?
 fz:∀g,g<w0.heap.size->N.z g->Free N ρ s.h g/\w.heap[g]?=w0.heap[g]?
section
variable{P:Program}{N:Bu}{base:Nat}{w0:World}{nt:Nat}{ts:List (Array Value)}{inl:V3}{ρ:Map}{w:World}{a:Act}{d:Option Nat}{s:S}{F:Nat->Prop}{e:Env}{v:AV}{val:Value}{ops:Array Oper}{o:Oper}
theorem UK.keep{ρ ρ':Map}{w w':World}{F F':Nat->Prop}(hk:W4 ρ w F ρ' w' F'):∀{es:List Env} {ts:List (Array Value)},UK ρ w F es ts->UK ρ' w' F' es ts
 |[],[],_=>trivial
 |_::_,_::_,h=>⟨λs=>(h.1 s).keep hk,UK.keep hk h.2⟩
 |[],_::_,h=>h.elim
 |_::_,[],h=>h.elim
theorem Fl(h:V2)(b:Nat)(x:AK):h.length<=(stB h b x).length/\b<(stB h b x).length:=by
 induction h generalizing b with
 |nil =>
  induction b with
  |zero=>simp[stB]
  |succ b ih=>simp[stB];exact ih.2
 |cons y h ih =>
  cases b with
  |zero=>simp[stB]
  |succ b=>simp[stB];exact ih b
theorem Zr5(u:List (Nat×AK)):∀h:V2,h.length<=(upd h u).length/\∀b∈u.map Prod.fst,b<(upd h u).length:=by
 induction u with
 |nil=>intro h;simp[upd]
 |cons p u ih =>
  intro h;obtain⟨b,x⟩:=p;have h1:=Fl h b x;have h2:=ih (stB h b x);simp only[upd]
  grind
theorem sK(hE:XO ρ w F e a.tmps)(hv:RV ρ w F v val)(hd:∀x,d=some x->x<a.tmps.size):XO ρ w F (put d v e) (a.put d val).tmps:=by
 cases d with
 |none=>exact hE
 |some d =>
  intro s;have hlt:=hd d rfl;simp only[put,lk,Act.put];split
  .simp_all
  .rename_i hs;have:=hE s
   simp_all
theorem sL(a:Act)(d:Option Nat)(v:Value):(a.put d v).defers=a.defers:=by cases d<;>rfl
theorem sM(a:Act)(d:Option Nat)(v:Value):(a.put d v).tmps.size=a.tmps.size:=by cases d<;>simp[Act.put]
theorem AL.after{ρ':Map}{w':World}(hS:AL N base w0 nt ts ρ s a w){u:List (Nat×AK)}(hA:QZ N base ρ s.h w v u val w' ρ')(hd:∀x,d=some x->x<nt) :
  AL N base w0 nt ts ρ' { s with env:=put d v s.env,h:=upd s.h u } (a.put d val) w':=by
 refine⟨hA.rel,sK (λs=>(hS.env s).keep hA.keeps) hA.val λx hx=>by rw[hS.size];exact hd x hx,hS.stk.keep hA.keeps,?_,by rw[sL];exact hS.defers,by rw[sM];exact hS.size,hS.below.trans hA.below,
  λg hg hn=>(hA.kn g (OR hg hS.below.size) hn).trans (hS.kn g hg hn),λg hg hz=>?_⟩
 .intro b hb;have h1:=Zr5 u s.h;exact hA.same b (λhc=>by have:=h1.2 b hc;simp only at hb;omega) (hS.dom b (by simp only at hb;omega))
 .obtain⟨h1,h2⟩:=hS.fz g hg hz;obtain⟨h3,h4⟩:=hA.keeps.free g (OR hg hS.below.size) h1
  simp_all
theorem AL.skip(hS:AL N base w0 nt ts ρ s a w)(hd:∀x,d=some x->x<nt) :
  AL N base w0 nt ts ρ { s with env:=put d (.tup []) s.env } (a.put d undef) w :=
 ⟨hS.rel,sK hS.env (RV.tup (c:=#[]) .nil) λx hx=>by rw[hS.size];exact hd x hx,hS.stk,hS.dom,by rw[sL];exact hS.defers,by rw[sM];exact hS.size,hS.below,hS.kn,hS.fz⟩
theorem Z3r{Γ:CS}{o:MO}{K:S->Prop}(hr:BB Γ o s K):∃v u,Dk Γ s.h s.h.length s.env o.op v u/\K { s with env:=put o.dst v s.env,h:=upd s.h u }:=by
 cases ho:o.op with
 |fcall f args =>
  simp only[BB,ho]at hr;obtain⟨as,h1,hno,r,hr',d,h2,h3,h4⟩:=hr
  exact⟨_,_,⟨as,h1,hno,r,hr',h2,h3,rfl⟩,h4⟩
 |icall f args =>
  simp only[BB,ho,Qi]at hr;obtain⟨h1,r,h2,h3,h4⟩:=hr
  exact⟨_,_,⟨h1,r,h2,h3,rfl,rfl⟩,h4⟩
 |pcall f args =>
  simp only[BB,ho,Jh]at hr;obtain⟨h1,r,h2,h3,h4⟩:=hr
  exact⟨_,_,⟨h1,r,h2,h3,rfl,rfl⟩,h4⟩
 |dcall f args =>
  simp only[BB,ho]at hr;split at hr
  .rename_i g caps hg;obtain⟨h1,r,h2,h3,h4⟩:=hr;exact⟨_,_,⟨g,caps,hg,h1,r,h2,h3,rfl,rfl⟩,h4⟩
  .exact hr.elim
 |call f args =>
  simp only[BB,ho]at hr;obtain⟨as,h1,r,hr',h2,h3,h4⟩:=hr
  exact⟨_,_,⟨as,h1,r,hr',h2,h3,rfl,rfl⟩,h4⟩
 |_ =>
  simp only[BB,ho]at hr;split at hr
  .rename_i v u hev;exact⟨v,u,hev,hr⟩
  .exact hr.elim
theorem Zr6{m:MO}(hc:B6 P inl nt ops o=some m):Xh P inl ops o.op=some m.op/\m.dst=o.dst/\(∀x,o.dst=some x->x<nt)/\
  ((o.guard=none/\m.guard=none)\/∃j b d,o.guard=some (j,b)/\(ops[j]?).bind (·.dst)=some d/\m.guard=some (d,b)):=by
 unfold B6 at hc
 grind [Option.map_eq_some_iff]
theorem Zr7(hE:XO ρ w F e a.tmps){j d:Nat}{b:Bool}(hg:o.guard=some (j,b))(hd:(ops[j]?).bind (·.dst)=some d) :
  (∀c,lk d e=.t (.bool c)->Region.wanted o (yielded ops a.tmps)=decide (c=b))/\(lk d e=.tup []->Region.wanted o (yielded ops a.tmps)=false):=by
 have hr:=hE d;constructor
 .intro c hc;rw[hc]at hr;have h1:=hr.bool_inv;have h2:a.tmps[d]?=some (.bool c):=by
   rw[Ix]at h1
   cases hx:a.tmps[d]? with
   |none=>rw[hx]at h1;cases h1
   |some y=>rw[hx]at h1;simp at h1;rw[h1]
  simp only[Region.wanted,hg,yielded,hd,Option.bind_some,h2]
  grind
 .intro hc;rw[hc]at hr;obtain⟨c,h1,h2⟩:=hr.tup_val;have h3:c=#[]:=by cases h2':c.toList with|nil=>simpa using h2'|cons x xs=>rw[h2']at h2;cases h2
  subst h3;simp only[Region.wanted,hg,yielded,hd,Option.bind_some];rw[Ix]at h1
  grind
theorem Z3s{Γ:CS}(hΓ:Γ=W5 P){ops:Array Oper}{Qc:Exit->Act->World->Prop}{K:S->Prop}
  (hQ:∀s a w ρ,K s->AL N base w0 nt ts ρ s a w->Qc .normal a w):∀(l:List Oper) (os:List MO),AW (B6 P inl nt ops) l=some os->∀(s:S) (a:Act) (w:World) (ρ:Map),Cn Γ os s K->AL N base w0 nt ts ρ s a w->wpList P ops Qc l a w
 |[],os,hm,s,a,w,ρ,hr,hS=>by cases hm;exact hQ s a w ρ hr hS
 |o::l,os,hm,s,a,w,ρ,hr,hS=>by
  obtain⟨m,ms,h1,h2,rfl⟩:=KA hm;obtain⟨hk,hdst,hd,hguard⟩:=Zr6 h1;simp only[Cn]at hr;have ih:=Z3s hΓ hQ l ms h2;have run:BB Γ m s (λs'=>Cn Γ ms s' K)->o.wp P a w (wpList P ops Qc l) Qc:=by
   intro hrun;obtain⟨v,u,hop,hK⟩:=Z3r hrun;rw[hΓ]at hop;refine TY hk hS.env hS.rel (nx:=s.h.length) (.inr (hS.dom _ (Yj _))) (λb _ hb=>hS.dom b hb) hop λval w' ρ' hA=>?_
   exact ih _ _ _ ρ' hK (by rw[hdst];exact hS.after hA hd)
  have skip:Cn Γ ms { s with env:=put m.dst (.tup []) s.env } K->wpList P ops Qc l (a.put o.dst undef) w:=λhK=>ih _ _ _ ρ hK (by rw[hdst];exact hS.skip hd)
  refine wpList_step λK' hK'=>?_
  have run':BB Γ m s (λs'=>Cn Γ ms s' K)->o.wp P a w K' Qc:=λh=>Oper.wp_mono hK' (run h)
  rcases hguard with⟨hg1,hg2⟩|⟨j,b,d,hg1,hg2,hg3⟩
  .simp only[DP,hg2]at hr;simp only[Region.wanted,hg1,if_true];exact run' hr
  .have hw:=Zr7 hS.env hg1 hg2;simp only[DP,hg3]at hr
   grind
end
def ZE7{v:AV}{vs:XQ}(h:v∈vs){b:Nat}(hb:b∈refs v):b∈ZA vs:=by
 induction vs with
 |nil=>cases h
 |cons x xs ih =>
  simp only[ZA,Yl]
  grind
section
variable{h h':V2}{e e':Env}{v:AV}{vs cs:XQ}{rs:V3}{b sz nx:Nat}{ps:List (Nat×AX)}{st:Bool}{k:A5}{u:List (Nat×AK)}
theorem Zr8(hc:cellsOf v=some vs):ZA vs=refs v:=by
 cases v<;>simp[cellsOf]at hc<;>subst hc<;>simp[ZA,refs]
theorem ZE8(hh:∀b∈refs v,gt h b=gt h' b):E3 h v=E3 h' v:=by
 cases v<;>simp[E3];rename_i b;rw[hh b (by simp[refs])]
theorem Zr9(hh:∀b∈ZA vs,gt h b=gt h' b):BD h vs=BD h' vs:=by
 induction vs with
 |nil=>rfl
 |cons v vs ih =>
  simp only[BD];rw[ZE8 (λb hb=>hh b (by simp[ZA,hb])),ih (λb hb=>hh b (by simp[ZA,hb]))]
theorem ZE9(hh:∀b∈refs v,gt h b=gt h' b):BH h v=BH h' v:=by
 cases v<;>simp[BH];rename_i b;rw[hh b (by simp[refs])]
theorem Z3t(hh:∀b∈ZA vs,gt h b=gt h' b):Q1 h vs=Q1 h' vs:=by
 induction vs with
 |nil=>rfl
 |cons v vs ih =>
  simp only[Q1];rw[ZE9 (λb hb=>hh b (by simp[ZA,hb])),ih (λb hb=>hh b (by simp[ZA,hb]))]
theorem D9{h:V2}(hb:b∈rs):b∈Jj h rs:=GL _ (GL _ hb)
theorem Ea{h:V2}{c:Nat}(hb:b∈rs)(hc:c∈Vu (gt h b)):c∈Jj h rs:=GL _ (Iy _ (List.mem_flatMap.2 ⟨b,hb,hc⟩))
theorem ZrA{h:V2}(hb:b∈X7 h 200 rs []):b∈Jj h rs:=Iy _ hb
theorem ZrB{h:V2}:∀(n:Nat) (todo acc:V3),∀b∈acc,b∈X7 h n todo acc
 |0,_,_,b,hb=>by simpa[X7]using hb
 |n+1,[],acc,b,hb=>by simpa[X7]using hb
 |n+1,c::todo,acc,b,hb=>by
  simp only[X7];split
  .exact ZrB n _ _ b hb
  .exact ZrB n _ _ b (by simp[hb])
def GZ(h h':V2)(rs:V3):Prop:=∀b∈rs,gt h b=gt h' b/\∀c∈Vu (gt h b),gt h c=gt h' c
theorem Z3u{h h':V2}(hh:∀b∈Jj h rs,gt h b=gt h' b):GZ h h' rs:=λb hb=>⟨hh b (D9 hb),λc hc=>hh c (Ea hb hc)⟩
theorem GZ.sub{h h':V2}{rs':V3}(hh:GZ h h' rs)(hs:∀b∈rs',b∈rs):GZ h h' rs':=λb hb=>hh b (hs b hb)
theorem ZrC{h h':V2}:∀(n:Nat) (todo acc:V3),(∀b∈X7 h n todo acc,gt h b=gt h' b)->X7 h' n todo acc=X7 h n todo acc
 |0,_,_,_=>rfl
 |n+1,[],acc,_=>rfl
 |n+1,c::todo,acc,hh=>by
  simp only[X7]at hh|-;split
  .rename_i hc;rw[Ya hc]at hh;exact ZrC n todo acc hh
  .rename_i hc;rw[Yb hc]at hh
   have:gt h c=gt h' c:=hh c (ZrB n _ _ c Om)
   rw[<-this];exact ZrC n _ _ hh
theorem Z3v(hh:GZ h h' (refs v)):Bx h v=Bx h' v:=by
 cases v<;>simp only[Bx]
 .rename_i cs;rw[Z3t λb hb=>(hh b (by simpa[refs]using hb)).1]
 .rename_i b off;obtain⟨hb,hc⟩:=hh b (by simp[refs]);rw[<-hb]
  cases hg:gt h b with
  |box cs=>simp only;rw[Z3t λc hc'=>hc c (by rw[hg];exact hc')]
  |_=>rfl
 .rename_i b;rw[(hh b (by simp[refs])).1]
theorem ZEA(hh:GZ h h' (ZA vs)):JV h vs=JV h' vs:=by
 induction vs with
 |nil=>rfl
 |cons v vs ih =>
  simp only[JV];rw[Z3v (hh.sub λc hc=>by simp[ZA,hc]),ih (hh.sub λc hc=>by simp[ZA,hc])]
theorem ZEB(hh:GZ h h' (refs v)):Dg h v=Dg h' v:=by
 by_cases hx:∃g cs,v=.fn g cs
 .obtain⟨g,cs,rfl⟩:=hx;simp only[Dg];rw[ZEA (hh.sub λc hc=>by simpa[refs]using hc)]
 .have e:∀h,Dg h v=Bx h v:=by
   intro h;cases v<;>first|rfl|exact absurd ⟨_,_,rfl⟩ hx
  rw[e,e,Z3v hh]
theorem Z3w(hh:GZ h h' (ZA vs)):A0 h vs=A0 h' vs:=by
 induction vs with
 |nil=>rfl
 |cons v vs ih =>
  simp only[A0];rw[ZEB (hh.sub λc hc=>by simp[ZA,hc]),ih (hh.sub λc hc=>by simp[ZA,hc])]
theorem Z3x(hh:∀b∈X7 h 200 (ZA vs) [],gt h b=gt h' b):ZQ h' vs=ZQ h vs/\A2 h' (ZQ h vs)=A2 h (ZQ h vs)/\Qh h' (ZQ h vs) (ZA vs)=Qh h (ZQ h vs) (ZA vs):=by
 refine⟨ZrC 200 _ _ hh,?_,?_⟩
 .unfold A2;exact EY λb hb=>by rw[hh b hb]
 .unfold Qh;congr 1;rw[EM,Yp,Yp];constructor
  .intro q b hb;rw[hh b hb];exact q b hb
  .intro q b hb;rw[<-hh b hb];exact q b hb
theorem ZEC{ps:List (Nat×Nat×AX)}(he:∀p∈ps,ev e p.2.2=ev e' p.2.2):K5 e cs ps=K5 e' cs ps:=by
 induction ps generalizing cs with
 |nil=>rfl
 |cons p ps ih =>
  obtain⟨o,n,x⟩:=p;have h1:=he (o,n,x) Om;simp only at h1;have h2:=λcs=>ih (cs:=cs) (λp hp=>he p (by simp[hp]))
  simp only[K5,h1,h2]
theorem ZED(he:∀p∈ps,ev e p.2=ev e' p.2):Jg e cs ps=Jg e' cs ps:=by
 induction ps generalizing cs with
 |nil=>rfl
 |cons p ps ih =>
  obtain⟨n,x⟩:=p;have h1:=he (n,x) Om;simp only at h1;have h2:=λcs=>ih (cs:=cs) (λp hp=>he p (by simp[hp]))
  simp only[Jg,h1,h2]
theorem ZEE{es:WI}(he:∀p∈ps,ev e p.2=ev e' p.2)(hh:∀p∈ps,∀b∈refs (ev e p.2),gt h b=gt h' b):K6 h e sz es ps=K6 h' e' sz es ps:=by
 induction ps generalizing es with
 |nil=>rfl
 |cons p ps ih =>
  obtain⟨n,x⟩:=p;have h1:=he (n,x) Om;have h3:=hh (n,x) Om;simp only at h1 h3;have h2:=λes=>ih (es:=es) (λp hp=>he p (by simp[hp])) (λp hp=>hh p (by simp[hp]))
  simp only[K6,h2,<-h1]
  grind [Zr9,Zr8]
theorem ZEF(hh:∀b∈refs v,gt h b=gt h' b):VZ h st v=VZ h' st v:=by
 cases v with
 |own b=>cases st<;>simp only[VZ];rw[hh b (by simp[refs])]
 |t x=>cases st<;>cases x<;>rfl
 |_=>cases st<;>rfl
theorem ZEG(hh:∀b∈refs v,gt h b=gt h' b):VH h st v=VH h' st v:=by
 cases v with
 |own b=>cases st<;>simp only[VH];rw[hh b (by simp[refs])]
 |t x=>cases st<;>cases x<;>first|rfl|(rename_i es;cases es<;>rfl)
 |_=>cases st<;>rfl
theorem ZEH{mv:Bool}(hh:∀b∈refs v,gt h b=gt h' b):Q0 h sz mv v=Q0 h' sz mv v:=by
 cases v with
 |own b=>simp only[Q0];rw[hh b (by simp[refs])]
 |t x=>cases x<;>rfl
 |_=>rfl
theorem Z3y{d:Nat}{o:Option AX}(he:∀x,o=some x->ev e x=ev e' x):bnd e d o=bnd e' d o:=by
 cases o with
 |none=>rfl
 |some x=>simp[bnd,he x rfl]
theorem ZEI(he:∀x∈ZC k,ev e x=ev e' x)(hh:∀x∈ZC k,∀b∈refs (ev e x),gt h b=gt h' b):Z1 h nx e k=Z1 h' nx e' k:=by
 cases k with
 |mov x=>simp[Z1,he x (by simp[ZC])]
 |pick c a b=>simp[Z1,he c (by simp[ZC]),he a (by simp[ZC]),he b (by simp[ZC])]
 |alloc zs=>rfl
 |box x=>simp[Z1,he x (by simp[ZC])]
 |build zs ps =>
  simp only[Z1]
  rw[ZEC (λp hp=>he p.2.2 (by simp only[ZC,Yn];exact⟨p,hp,rfl⟩))]
 |bslice el sz n zs ps =>
  simp only[Z1]
  rw[ZEE (λp hp=>he p.2 (by simp only[ZC,Yn];exact⟨p,hp,rfl⟩)) (λp hp=>hh p.2 (by simp only[ZC,Yn];exact⟨p,hp,rfl⟩))]
 |bptrs n ps =>
  simp only[Z1]
  rw[ZED (λp hp=>he p.2 (by simp only[ZC,Yn];exact⟨p,hp,rfl⟩))]
 |load n x =>
  have h1:=he x (by simp[ZC]);have h2:=hh x (by simp[ZC]);simp only[Z1,<-h1];cases hx:ev e x<;>simp only
  .rw[h2 _ (by rw[hx];simp[refs])]
  .rw[h2 _ (by rw[hx];simp[refs])]
 |store n x v =>
  have h1:=he x (by simp[ZC]);have h2:=hh x (by simp[ZC]);have h3:=he v (by simp[ZC]);have h4:=hh v (by simp[ZC]);simp only[Z1,<-h1,<-h3]
  cases hc:cellsOf (ev e v)with
  |none=>rfl
  |some vs =>
   simp only;rw[Zr9 (h:=h) (h':=h') (λb hb=>h4 b (by rw[<-Zr8 hc];exact hb))];cases hx:ev e x<;>simp only
   .rw[h2 _ (by rw[hx];simp[refs])]
   .rw[h2 _ (by rw[hx];simp[refs])]
 |storeF n x v =>
  have h1:=he x (by simp[ZC]);have h2:=hh x (by simp[ZC]);have h3:=he v (by simp[ZC]);have h4:=hh v (by simp[ZC]);simp only[Z1,<-h1,<-h3]
  cases hc:cellsOf (ev e v)with
  |none=>rfl
  |some vs =>
   simp only;rw[Zr9 (h:=h) (h':=h') (λb hb=>h4 b (by rw[<-Zr8 hc];exact hb))];cases hx:ev e x<;>simp only
   .rw[h2 _ (by rw[hx];simp[refs])]
 |nilchk x=>simp[Z1,he x (by simp[ZC])]
 |bin op x y=>simp[Z1,he x (by simp[ZC]),he y (by simp[ZC])]
 |beq n x y=>simp[Z1,he x (by simp[ZC]),he y (by simp[ZC])]
 |aeq n ks x y=>simp[Z1,he x (by simp[ZC]),he y (by simp[ZC])]
 |nileq n sl x =>
  simp only[Z1,<-he x (by simp[ZC])]
  rw[ZEG (hh x (by simp[ZC]))]
 |mm m x y=>simp[Z1,he x (by simp[ZC]),he y (by simp[ZC])]
 |un op x=>simp[Z1,he x (by simp[ZC])]
 |conv k x=>simp[Z1,he x (by simp[ZC])]
 |mkfn f caps =>
  simp only[Z1]
  rw[EY (λx hx=>he x (by simpa[ZC]using hx))]
 |mkslice el sz bytes zs l c=>simp[Z1,he l (by simp[ZC]),he c (by simp[ZC])]
 |slice sz x lo hi =>
  have h1:=he x (by simp[ZC]);have h2:∀d,bnd e d lo=bnd e' d lo:=λd=>Z3y λy hy=>he y (by subst hy;simp[ZC])
  have h3:∀d,bnd e d hi=bnd e' d hi:=λd=>Z3y λy hy=>he y (by subst hy;simp[ZC])
  have h4:=hh x (by simp[ZC]);simp only[Z1,<-h1,h2,h3]
  cases hx:ev e x with
  |own b=>cases sz<;>simp only[h4 b (by rw[hx];simp[refs])]
  |t x=>cases sz<;>cases x<;>rfl
  |_=>cases sz<;>rfl
 |faddr off x=>simp[Z1,he x (by simp[ZC])]
 |field off n x=>simp[Z1,he x (by simp[ZC])]
 |iaddr sz x i =>
  have h1:=he x (by simp[ZC]);have h2:=hh x (by simp[ZC]);have h3:=he i (by simp[ZC]);simp only[Z1,<-h1,<-h3]
  cases hx:ev e x with
  |own b=>simp only;rw[h2 b (by rw[hx];simp[refs])]
  |t x=>cases x<;>rfl
  |_=>rfl
 |index x i=>simp[Z1,he x (by simp[ZC]),he i (by simp[ZC])]
 |aaddr n sz x i=>simp[Z1,he x (by simp[ZC]),he i (by simp[ZC])]
 |aidx n sz m x i=>simp[Z1,he x (by simp[ZC]),he i (by simp[ZC])]
 |ext x i=>simp[Z1,he x (by simp[ZC])]
 |len st x =>
  simp only[Z1,<-he x (by simp[ZC])]
  rw[ZEF (hh x (by simp[ZC]))]
 |append el sz bytes mv x y =>
  have h1:=he x (by simp[ZC]);have h2:=hh x (by simp[ZC]);have h3:=he y (by simp[ZC]);have h4:=hh y (by simp[ZC]);simp only[Z1,<-h1,<-h3];rw[ZEH h4]
  cases hx:ev e x with
  |own b=>simp only;rw[h2 b (by rw[hx];simp[refs])]
  |t x=>cases x<;>rfl
  |_=>rfl
 |call f args=>rfl
 |fcall f args=>rfl
 |icall f args=>rfl
 |pcall f args=>rfl
 |dcall f args=>rfl
theorem T0:∀{h:V2} {b:Nat},b ∉ u.map Prod.fst->gt (upd h u) b=gt h b:=by
 induction u with
 |nil=>intro h b _;rfl
 |cons p u ih =>
  intro h b hb;obtain⟨c,x⟩:=p;simp only[Yz,Y1,not_or]at hb;show gt (upd (stB h c x) u) b=_
  simp_all [K9]
theorem ZEJ(hev:Z1 h nx e k=some (v,u))(hn:nx ∉ u.map Prod.fst)(nx':Nat):Z1 h nx' e k=some (v,u):=by
 cases k<;>try exact hev
 case alloc zs=>simp[Z1]at hev;obtain⟨_,rfl⟩:=hev;simp at hn
 case box x =>
  simp only[Z1]at hev|-
  grind
 case bslice el sz n zs ps =>
  simp only[Z1]at hev|-
  grind
 case bptrs n ps =>
  simp only[Z1]at hev|-
  grind
 case mkslice el sz bytes zs l c =>
  simp only[Z1]at hev|-
  grind
 case slice sz x lo hi =>
  simp only[Z1]at hev|-
  cases hb:bnd e 0 lo with
  |none=>simp only[hb]at hev;cases hev
  |some l =>
   simp only[hb]at hev|-
   cases sz with
   |none =>
    grind
   |some sz =>
    cases hx:ev e x with
    |own b =>
     simp only[hx]at hev
     grind
    |t x=>simp only[hx]at hev|-;cases x<;>exact hev
    |_=>simp only[hx]at hev;cases hev
 case append el sz bytes mv x y =>
  simp only[Z1]at hev|-
  repeat' split at hev
  all_goals first
   |(cases hev;done)
   |(cases hev;simp at hn)
end
end Go.AM
