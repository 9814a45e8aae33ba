/-
  Parts of the proofs for this seat: AMOps5 AMOpsY AMOps6 AMOps7 AMOpsX AMOps8 AMOps9 AMRen.
-/
import Derived.Laws.BytesArg
import Derived.Laws.Small
import Derived.Laws.StructEq
import Derived.Test.YtggcnlojfngdeaaGreatP1
set_option linter.all false
namespace Go.AM
open Go.RowKit (Below)
section
variable{P:Program}{N:Bi}{base:Nat}{ρ:Map}{h:WM}{w w':World}{F:Nat->Prop}{e:Env}{a:Act}{t el:TypeId}{zs:V4}{nx n:Nat}{i:TypeInfo}{ps:Array (Nat×Operand)}{ks:V2}
theorem Z0S(off:Nat):∀(l:V3) (k:Nat) (arr:Array Value),off+k+l.length<=arr.size->
  ((l.zipIdx k).foldl (λcs (p:Value×Nat)=>cs.setIfInBounds (off+p.2) p.1) arr).toList=arr.toList.take (off+k)++l++arr.toList.drop (off+k+l.length)
 |[],k,arr,_=>by simp
 |v::l,k,arr,hle=>by
  simp only[List.zipIdx_cons,Y6];rw[Z0S off l (k+1) (arr.setIfInBounds (off+k) v) (by simp at hle|-;omega)];have:=list_seg_step arr.toList (off+k) v l (by simp at hle|-;omega)
  grind
theorem Zq4{place:Nat->Option (Nat×Nat)}{cells:Array Value}{i off size:Nat}{v:Value}{rest:List (Nat×Value)}(hp:place i=some (off,size))(hs:v.cells.size=size)(hle:off+size<=cells.size) :
  ∃cells',Instr.fill place cells ((i,v)::rest)=Instr.fill place cells' rest/\cells'.toList=cells.toList.take off++v.cells.toList++cells.toList.drop (off+size):=by
 refine⟨v.cells.zipIdx.foldl (λcs (c,j)=>cs.setIfInBounds (off+j) c) cells,?_,?_⟩
 .conv=>lhs;unfold Instr.fill
  grind
 .rw[<-Array.foldl_toList,Array.toList_zipIdx]
  simp_all [Z0S]
theorem Z0T(hE:XB ρ w F e a.tmps){places:List (Nat×Nat)}:∀(ps:List (Nat×Operand)) (qs:List (Nat×Nat×AO)) (cs:XQ) (cells:Array Value),
  AQ (λp:Nat×Operand=>match places[p.1]?,AZ p.2 with|some q,some x=>some (q.1,q.2,x)|_,_=>none) ps=some qs->Ay ρ w F cs cells.toList->(∀v∈cells.toList,v.oneCell'=true)->
  ∀cs',parts e cs qs=some cs'->∃cells',Instr.fill (places.toArray[·]?) cells (ps.map λp=>(p.1,a.eval p.2))=some cells'/\Ay ρ w F cs' cells'.toList/\∀v∈cells'.toList,v.oneCell'=true
 |[],qs,cs,cells,hm,hc,h1,cs',hp=>by
  cases hm;simp[parts]at hp;subst hp
  exact⟨cells,by simp[Instr.fill],hc,h1⟩
 |(k,x)::ps,qs,cs,cells,hm,hc,h1,cs',hp=>by
  obtain⟨q,TQ,hq,TS,rfl⟩:=QR hm;split at hq
  .rename_i pl x' hpl hx;cases hq;simp only[parts]at hp;split at hp
   .rename_i vs hvs;split at hp
    .rename_i hcond;obtain⟨h2,h3⟩:=GM hvs (ZY hE hx);have hl1:=h2.length;have hl2:=hc.length;simp only[Y1]at hl1 hl2;obtain⟨Bv,hf,hcl⟩:=Zq4 (place:=(places.toArray[·]?)) (cells:=cells) (i:=k) (off:=pl.1) (size:=pl.2) (v:=a.eval x) (rest:=ps.map λp=>(p.1,a.eval p.2)) (by simpa using hpl) Z Z;have hR:Ay ρ w F (VT cs pl.1 vs) Bv.toList:=by
      rw[hcl,VT,hcond.1];exact((hc.take _).append h2).append (hc.drop _)
     have ho:∀v∈Bv.toList,v.oneCell'=true:=by
      grind
     obtain⟨cells',h4,h5,h6⟩:=Z0T hE ps TQ _ Bv TS hR ho cs' hp
     simp_all
    .cases hp
   .cases hp
  .cases hq
theorem Ea(R:Rel N base ρ h w)(hE:XB ρ w (Free N ρ h) e a.tmps){fs:Array Field}{zs:XQ}{places:List (Nat×Nat)}{qs:List (Nat×Nat×AO)}{cs:XQ}
  (hu:P.underlying t=some (.struct fs)) (hz:Cr P t=some zs) (hp:fs.toList.mapM (λf=>(P.info? f.type).map λi=>(f.offset,i.size))=some places)
  (hm:AQ (λp:Nat×Operand=>match places[p.1]?,AZ p.2 with|some q,some x=>some (q.1,q.2,x)|_,_=>none) ps.toList=some qs) (hc:parts e zs qs=some cs) :
  AR P N base ρ h w (do pure (.value (<-Instr.build t (ps.map λ(i,x)=>(i,a.eval x))))) (.agg cs) []:=by
 unfold Cr at hz
 cases hi:P.info? t with
 |none=>simp[hi]at hz
 |some i =>
  cases hzz:i.zero with
  |none=>simp[hi,hzz]at hz
  |some z =>
   simp[hi,hzz]at hz;obtain⟨zs0,hz,rfl⟩:=hz;obtain⟨h1,h2⟩:=Zqw (ρ:=ρ) (w:=w) (F:=Free N ρ h) hz;obtain⟨cells',h3,h4,h5⟩:=Z0T hE ps.toList qs _ z.cells hm (Zqy h1) h2 cs hc;have hb:P.built t (ps.map λ(i,x)=>(i,a.eval x)).toList=some cells':=by
    unfold Program.built
    simp_all
   exact .same R (by simp[run_build w t _ cells' hb]) (.agg h4 h5)
theorem Zq5{z:Array Value}(hT:AK w zs z.toList [])(n:Nat):AK w (List.replicate n zs).flatten (madeCells z (n*z.size)).toList []:=by
 have hl:=hT.length;simp only[Y1]at hl;have e:(madeCells z (n*z.size)).toList=(List.replicate n z.toList).flatten:=by
  induction n with
  |zero=>simp[madeCells,Array.range_zero']
  |succ n ih =>
   rw[List.replicate_succ',E2,<-ih];apply ON
   .simp[madeCells,DK]
   .intro k h1 h2;simp only[madeCells,DL,Array.toList_range,List.getElem_map,List.getElem_range,OJ,List.flatten_nil,E3,List.getElem_append,Dy,List.length_range];simp only[madeCells,DL,Array.toList_range,Dy,List.length_range,DK,Gx]at h1;split
    .rfl
    .rename_i hk;have hk':k-n*z.size<z.size:=by omega
     have hmod:k % z.size=k-n*z.size:=by
      have:k=(k-n*z.size)+z.size*n:=by rw[Nat.mul_comm z.size n];omega
      conv=>lhs;rw[this]
      rw[Nat.add_mul_mod_self_left,Nat.mod_eq_of_lt hk']
     rw[hmod];simp[hk']
 rw[e];clear e
 induction n with
 |zero=>exact .nil
 |succ n ih =>
  rw[rE,rE,OJ,OJ];exact hT.append ih
theorem rV{α β:Type}{f:α->Option β}{xs:List α}{ys:List β}(hm:AQ f xs=some ys):ys.length=xs.length:=by
 induction xs generalizing ys with
 |nil=>cases hm;rfl
 |cons x xs ih=>obtain⟨y,zs,_,h2,rfl⟩:=QR hm;simp[ih h2]
theorem rW:∀{cs:V3} {zs:V4},AQ C0 cs=some zs->zs.all easy=true
 |[],_,h=>by cases h;rfl
 |c::cs,_,h=>by
  obtain⟨y,zs,h1,h2,rfl⟩:=QR h;simp only[Cz,Yd];refine⟨?_,rW h2⟩;unfold C0 at h1;split at h1<;>first|(cases h1;rfl)|cases h1
theorem rX:∀{cs ts:V4},ts.all easy=true->(wk cs ts).all easy=true
 |[],_,h=>by simpa[wk]using h
 |c::cs,[],h=>by simp[wk]
 |c::cs,t::ts,h=>by
  simp only[Cz,Yd]at h;simp only[wk,Cz,Yd];refine⟨?_,rX h.2⟩;unfold Dn;split
  .rfl
  .exact h.1
theorem Zq6(h:zs.all easy=true):(List.replicate n zs).flatten.all easy=true:=by
 simp_all
theorem Zq7(R:Rel N base ρ h w)(hE:XB ρ w (Free N ρ h) e a.tmps){sz:Nat}:∀(ps:List (Nat×Operand)) (qs:List (Nat×AO)) (es:WA) (cells:Array Value) (fp:V2) (kz:V2) (fz:Bool),
  AQ (λp:Nat×Operand=>(AZ p.2).map λx=>(p.1,x)) ps=some qs->AK w es.flatten cells.toList fp->(∀x∈es,x.length=sz)->Bj N base ρ h kz fp fz->(fz=true->Ba w base es.flatten cells.toList)->
  ∀es' f ks,elems h e sz es qs=some (es',f,ks)->∃cells' fp',Instr.fill (λi=>some (i*sz,sz)) cells (ps.map λp=>(p.1,a.eval p.2))=some cells'/\AK w es'.flatten cells'.toList fp'/\
   (∀x∈es',x.length=sz)/\es'.length=es.length/\Bj N base ρ h (kz++ks) fp' (fz && f)/\((fz && f)=true->Ba w base es'.flatten cells'.toList)
 |[],qs,es,cells,fp,kz,fz,hm,hc,hl,hT,hW,es',f,ks,hel=>by
  cases hm;simp[elems]at hel;obtain⟨rfl,rfl,rfl⟩:=hel
  exact⟨cells,fp,by simp[Instr.fill],hc,hl,rfl,by simpa using hT,by simpa using hW⟩
 |(i,x)::ps,qs,es,cells,fp,kz,fz,hm,hc,hl,hT,hW,es',f,ks,hel=>by
  obtain⟨q,TQ,hq,TS,rfl⟩:=QR hm;obtain⟨x',hx,rfl⟩:=Yo.1 hq;simp only[elems]at hel;split at hel
  .rename_i vs hvs;split at hel
   .rename_i ts f1 k1 hts;split at hel
    .rename_i hcond;split at hel
     .rename_i es1 f2 k2 hrec;simp at hel;obtain⟨rfl,rfl,rfl⟩:=hel;obtain⟨h2,h3⟩:=GM hvs (ZY hE hx);obtain⟨fq,h4,h5,Ft⟩:=rQ R hts h2;have htl:=rR hts;have hgd:es.getD i []=es[i]:=by simp[List.getD,hcond.1]
      rw[hgd]at hrec;have hwl:(wk es[i] ts).length=ts.length:=KU;replace h4:=IE (cs:=es[i]) h4;replace Ft:=λhf=>Dr (cs:=es[i]) (Ft hf)
      have hl1:=h2.length;have hl2:=hc.length;simp only[Y1]at hl1 hl2;rw[QT hl]at hl2;have hmul:i*sz+sz<=es.length*sz:=by
       have:=DA sz (show i+1<=es.length from hcond.1)
       rwa [DK,Gx]at this
      obtain⟨Bv,hf,hcl⟩:=Zq4 (place:=λi=>some (i*sz,sz)) (cells:=cells) (i:=i) (off:=i*sz) (size:=sz) (v:=a.eval x) (rest:=ps.map λp=>(p.1,a.eval p.2)) rfl Z Z;have hcs:es[i]?=some es[i]:=by simp[hcond.1]
      have TM:es[i].length=sz:=hl _ (Ye _);have hfl:=rO (ts:=wk es[i] ts) (off:=0) hcs Z;rw[hfl.1]at hc hW;obtain⟨fa,fb,fc,hfp,hnew⟩:=hc.splice h4;rw[<-hfl.2]at hnew;have BE:(fz && f1)=true->_:=λBu=>by
       simp only[Yd]at Bu;have:=(hW Bu.1).splice (Ft Bu.2);rw[<-hfl.2]at this;exact this
      have hsT:AF es[i] 0 (wk es[i] ts)=wk es[i] ts:=by simp[AF];omega
      rw[hsT]at hnew BE;have hAl:((es.take i).flatten++es[i].take 0).length=i*sz:=by
       rw[Yu,QT λy hy=>hl y (Dk hy)];simp;rw[DJ Z]
      have hBl:((es[i].drop 0).take (wk es[i] ts).length).length=sz:=by simp;omega
      rw[hAl,hBl,<-hcl]at hnew BE;have hset:∀y∈es.set i (wk es[i] ts),y.length=sz:=by
       intro y hy;rcases DV hy with hy|hy
       .exact hl y hy
       .subst hy;omega
      have hT':Bj N base ρ h (kz++k1) (fa++fq++fc) (fz && f1):=by
       have hA:=hT.append R h5;have hmem:∀y,y∈fa++fq++fc->y∈fp++fq:=by
        intro y hy;simp only[Yi]at hy|-;rcases hy with(hy|hy)|hy
        .exact .inl (by rw[hfp];simp[hy])
        .exact .inr hy
        .exact .inl (by rw[hfp];simp[hy])
       refine⟨λy hy=>hA.free y (hmem y hy),λBu y hy=>hA.fresh Bu y (hmem y hy),λBu hn=>?_⟩;have hN:=hA.nodup Bu hn;rw[hfp,CA,CA,CA]at hN;rw[CA,CA];refine⟨⟨hN.1.1.1,hN.2.1,λy hy z hz=>hN.2.2 y (by simp[hy]) z hz⟩,hN.1.2.1,λy hy z hz hyz=>?_⟩;subst hyz;rcases Yi.1 hy with hy|hy
       .exact hN.1.2.2 y (by simp[hy]) y hz rfl
       .exact hN.2.2 y (by simp[hz]) y hy rfl
      obtain⟨cells',fp',h6,h7,h8,h9,h10,h11⟩:=Zq7 R hE ps TQ _ Bv _ _ _ TS hnew hset hT' BE es1 f2 k2 hrec;refine⟨cells',fp',by simp only[Yx];rw[hf];exact h6,h7,h8,by simpa using h9,?_,?_⟩
      .rw[DT,Bool.and_assoc]at h10;exact h10
      .rw[Bool.and_assoc]at h11;exact h11
     .cases hel
    .cases hel
   .cases hel
  .cases hel
theorem ZBR(R:Rel N base ρ h w)(hE:XB ρ w (Free N ρ h) e a.tmps)(hn:ρ nx=none){qs:List (Nat×AO)}
  (hu:P.underlying t=some (.slice el)) (hi:P.info? el=some i) (hsmall:n*i.size<=16777216) (hsz:0<i.size) (hz:GF P el=some zs) (hzl:zs.length=i.size)
  (hm:AQ (λp:Nat×Operand=>(AZ p.2).map λx=>(p.1,x)) ps.toList=some qs) {es:WA} {fr:Bool} (hel:elems h e i.size (List.replicate n zs) qs=some (es,fr,ks)) (hnd:VU ks=true) :
  AR P N base ρ h w (do pure (.value (<-Instr.buildSlice t n (ps.map λ(i,x)=>(i,a.eval x))))) (.own nx) (kill ks++[(nx,.arr el i.size fr es)]):=by
 unfold GF at hz
 cases hzz:i.zero with
 |none=>simp[hi,hzz]at hz
 |some z =>
  simp[hi,hzz]at hz;obtain⟨zs0,hz,rfl⟩:=hz;have hzs:=rV hz;rw[KU]at hzl;simp only[Y1]at hzs;have h0:=Zq5 (w:=w) (IE (cs:=(GE P 8 el).map λs=>.lst s []) (Zqx (w:=w) hz)) n;rw[show z.cells.size=i.size by omega]at h0;obtain⟨cells',fp',h1,h2,h3,h4,h5,Ft⟩:=Zq7 R hE ps.toList qs _ (madeCells z.cells (n*i.size)) [] [] true hm h0
   (by intro x hx;rw[Yc7 hx,KU];exact hzl) (Bj.nil true) (λ_=>.easy h0.length (Zq6 (rX (rW hz)))) es fr ks hel
  simp only[DW,Yl,Yc8]at h4 h5 Ft;have hl2:=h2.length;rw[QT h3]at hl2;simp only[Y1]at hl2;have Eb:Instr.fill (λi_1=>some (i_1*i.size,i.size)) (madeCells z.cells (n*i.size)) (ps.map λ(i,x)=>(i,a.eval x)).toList=some cells':=by
   simp_all
  have hrun:(Instr.buildSlice t n (ps.map λ(i,x)=>(i,a.eval x))).run P w=.ok (.slice (some ⟨w.heap.size,0,none⟩) n n) (w.alloc (.cells cells' el)):=by
   by_cases hn0:n=0
   .subst hn0;have hcells:madeCells z.cells (0*i.size)=#[]:=by simp[madeCells,Array.range_zero']
    rw[hcells]at h1;simp[Instr.buildSlice,run_underlying hu,sizeOf,typeInfo,hi,h1,newRow,Array.range_zero']
   .have:¬n*i.size=0:=by
     grind [Nat.mul_eq_zero]
    exact run_buildSlice w t el n _ cells' i z hu hi hzz Z this Eb
  have hown:(w.alloc (.cells cells' el)).ownsRow base el i.size (.slice (some ⟨w.heap.size,0,none⟩) n n) (0+es.length) ([]++cells'.toList):=by
   rw[h4]at hl2|-;refine⟨by simp;omega,.inr ⟨w.heap.size,n,cells',Om,R.hb,heap_alloc_new w _,Z,?_,Z,?_⟩⟩
   .have:=Nat.le_mul_of_pos_right n hsz;simp only[maxLen];omega
   .simp_all [Tu]
  have:=TO (P:=P) R hn (s:=(do pure (.value (<-Instr.buildSlice t n (ps.map λ(i,x)=>(i,a.eval x)))))) (vv:=.slice (some ⟨w.heap.size,0,none⟩) n n) (by simp[hrun]) (World.grownBy_alloc w _ none) hsz (es1:=[]) (es2:=es) (xs1:=[]) (xs2:=cells'.toList)
   (fp1:=[]) (fp2:=fp') (fr1:=true) (f:=fr) (kd:=[]) (ks:=ks) hown Om h3 .nil h2 h5 (O0.1 hnd) Om Om Om Om (by intro g hg;cases hg)
   (by intro g hg;simp[Xr]at hg;exact .inl Z) (by intro g k _ _ hx;obtain⟨b,hb,_⟩:=hx;cases hb) (λ_=>.nil) Ft (lb:=el) (.inr rfl)
  simpa using this
theorem ZBS(R:Rel N base ρ h w)(hn:ρ nx=none)(hu:P.underlying t=some (.slice el))(hi:P.info? el=some i)(hz:GF P el=some zs)(hzl:zs.length=i.size)(hsz:0<i.size)
  {kl kc:IntKind} {l c:Int} (h0:0<=l) (hlc:l<=c) (hb:c.toNat*i.bytes<=room) (hc:c<=140737488355328) :
  AR P N base ρ h w (do pure (.value (<-Instr.makeSlice t (.int kl l) (.int kc c)))) (.own nx) [(nx,.arr el i.size true (List.replicate l.toNat zs))]:=by
 unfold GF at hz
 cases hzz:i.zero with
 |none=>simp[hi,hzz]at hz
 |some z =>
  simp[hi,hzz]at hz;obtain⟨zs0,hz,rfl⟩:=hz;have hzs:=rV hz;rw[KU]at hzl;simp only[Y1]at hzs;have hbb:(i.bytes:Int)*c<=281474976710656:=by
   have e:c=(c.toNat:Int):=by omega
   rw[e,Int.mul_comm,<-Int.natCast_mul];simp only[room]at hb;omega
  have hrun:=run_make (P:=P) w t el i z hu hi hzz kl kc l c h0 hlc hbb Z;have hT:=Zq5 (w:=w) (IE (cs:=(GE P 8 el).map λs=>.lst s []) (Zqx (w:=w) hz)) l.toNat;rw[show z.cells.size=i.size by omega]at hT;have hle:l.toNat*i.size<=c.toNat*i.size:=DA _ Z;have htake:(madeCells z.cells (c.toNat*i.size)).toList.take (l.toNat*i.size)=(madeCells z.cells (l.toNat*i.size)).toList:=by
   apply ON
   .rw[Yw,Y1,Y1,size_madeCells,size_madeCells];omega
   .intro k h1 h2;simp[madeCells]
  have hown:(w.alloc (.cells (madeCells z.cells (c.toNat*i.size)) el)).ownsRow base el i.size (.slice (some ⟨w.heap.size,0,none⟩) l.toNat c.toNat) (0+(List.replicate l.toNat (wk ((GE P 8 el).map λs=>T.lst s []) zs0)).length) ([]++(madeCells z.cells (l.toNat*i.size)).toList):=by
   refine⟨by simp[madeCells],.inr ⟨w.heap.size,c.toNat,_,Om,R.hb,heap_alloc_new w _,by simp;omega,by simp only[maxLen];omega,by simp[madeCells],by simpa using htake⟩⟩
  have:=TO (P:=P) R hn (s:=(do pure (.value (<-Instr.makeSlice t (.int kl l) (.int kc c))))) (by simp[hrun]) (World.grownBy_alloc w _ none) hsz (es1:=[]) (es2:=List.replicate l.toNat (wk ((GE P 8 el).map λs=>T.lst s []) zs0)) (xs1:=[]) (xs2:=_)
   (fp1:=[]) (fp2:=[]) (fr1:=true) (f:=true) (kd:=[]) (ks:=[]) hown Om (by intro x hx;rw[Yc7 hx,KU];exact hzl) .nil hT (Bj.nil _) Y2 Om Om Om Om (by intro g hg;cases hg)
   (by intro g hg;simp[Xr]at hg;exact .inl Z) (by intro g k hk;cases hk) (λ_=>.nil) (λ_=>.easy hT.length (Zq6 (rX (rW hz)))) (lb:=el) (.inr rfl)
  simpa[kill]using this
theorem ZBT(R:Rel N base ρ h w)(hn:ρ nx=none){ty:TypeId}{z:Value}(hu:P.underlying t=some (.slice el))(hi:P.info? el=some i)(hz:i.zero=some z)(hzs:z.cells.size=i.size)(hsz:0<i.size)
  {mv:Bool} {x y:AV} {xv yv:Value} (hx:RV ρ w (Free N ρ h) x xv) (hy:RV ρ w (Free N ρ h) y yv) {ys:WA} {f:Bool} (hs:Qs h i.size mv y=some (ys,f,ks)) (hun:el≠Co) :
  (x=.t .nil->ys.length*i.bytes<=room->ys.length<=room->AR P N base ρ h w (do pure (.value (<-Builtin.append_ #[t,t] ty #[xv,yv]))) (.own nx) (kill ks++[(nx,.arr el i.size f ys)]))/\
  (∀b fr es,x=.own b->gt h b=.arr el i.size fr es->VU (b::ks)=true->(es.length+ys.length)*i.bytes<=room->es.length+ys.length<=room->
   AR P N base ρ h w (do pure (.value (<-Builtin.append_ #[t,t] ty #[xv,yv]))) (.own nx) (kill (b::ks)++[(nx,.arr el i.size (fr && f) (es++ys))])):=by
 obtain⟨b2,c2,news,fp,rfl,hl,hsrc,ht,hlen,hT,hnd,hks,hW⟩:=Fs R hsz hs hy;constructor
 .intro hxn hb1 hb2;subst hxn;cases hx.nil_inv;obtain⟨v',w',row,h1,h2,h3,h4,h5⟩:=rU (P:=P) (ty:=ty) hu hi hz hzs (World.ownsRow_nil w base el i.size) hl hsrc ht.one (c2:=c2) (by simp only[room]at hb2;omega) (by simp only[room]at hb1;simpa using hb1) R.hb;have:=TO (P:=P) R hn (s:=(do pure (.value (<-Builtin.append_ #[t,t] ty #[.slice none 0 0,.slice b2 ys.length c2])))) (vv:=v') (by simp[h1]) h3 hsz (es1:=[]) (es2:=ys) (xs1:=[]) (xs2:=news)
   (fp1:=[]) (fp2:=fp) (fr1:=true) (f:=f) (kd:=[]) (ks:=ks) (by simpa using h2) Om hlen .nil ht hT hnd Om Om Om Om
   (by intro g hg;have:=h4 g hg;simp[Xr]at this) (by intro g hg;exact(h5 g hg).imp id λh'=>by simp[Xr]at h') (by intro g k _ _ hx;obtain⟨b,hb,_⟩:=hx;cases hb) (λ_=>.nil) hW (lb:=el) (.inr rfl)
  simpa using this
 .intro b fr es hxb hgb hnb hb1 hb2;subst hxb;rw[O0,Ir]at hnb;have hd:gt h b≠.dead:=by rw[hgb];intro hc;cases hc
  obtain⟨r,hr,hB⟩:=R.blk b hd;rw[hgb]at hB;obtain⟨_,BV,xs,hel,ho,_,hl1,ht1,hf1,Fu,Cw⟩:=hB;obtain rfl:BV=el:=hel.resolve_left hun
  cases hx with
  |@own _ r2 hr2 hone =>
   rw[hr]at hr2;cases hr2;obtain⟨v',w',row,h1,h2,h3,h4,h5⟩:=rU (P:=P) (ty:=ty) hu hi hz hzs ho hl hsrc ht.one (c2:=c2) (by simp only[room]at hb2;omega) (by simp only[room]at hb1;exact hb1) R.hb;have hfb:fr=true->Xm (gt h b)=true:=λhft=>by rw[hgb];exact hft
   have:=TO (P:=P) R hn (s:=(do pure (.value (<-Builtin.append_ #[t,t] ty #[r.v,.slice b2 ys.length c2])))) (vv:=v') (by simp[h1]) h3 hsz (es1:=es) (es2:=ys) (xs1:=xs) (xs2:=news)
    (fp1:=r.fp) (fp2:=fp) (fr1:=fr) (f:=f) (kd:=[b]) (ks:=ks) h2 hl1 hlen ht1 ht hT hnd hf1 Fu
    (by intro hft g hg d rd hdk hrd hfd hgd;exact hdk (by rw[<-R.apart b d r rd g hr hrd (hfb hft) hfd hg hgd];simp))
    (by intro hft g hg k hk rk hrk hfk hgk;exact hnb.1 (by rw[R.apart b k r rk g hr hrk (hfb hft) hfk hg hgk];exact hk))
    (by intro g hg;exact⟨b,Om,r,hr,hd,.inl (h4 g hg)⟩) (by intro g hg;exact(h5 g hg).imp id λh'=>⟨b,Om,r,hr,hd,.inl h'⟩)
    (by
     intro g k hk ho' hx;obtain⟨b',hb',ho2⟩:=hx;simp at hb';subst hb';obtain⟨r1,q1,q2,q3⟩:=ho';obtain⟨r2,q4,q5,q6⟩:=ho2
     exact hnb.1 (by rw[R.inj b' k r2 r1 g q4 q1 q5 q2 q6 q3];exact hk)) Cw hW (lb:=BV) (.inr rfl)
   simpa using this
end
open Go.RowKit (Below)
section
variable{P:Program}{N:Bi}{base:Nat}{ρ:Map}{h:WM}{w w':World}{F:Nat->Prop}{e:Env}{a:Act}{nx k sz:Nat}{ks:V2}{t el:TypeId}{i:TypeInfo}{ys:WA}
theorem Zq8(R:Rel N base ρ h w)(hn:ρ nx=none){s:Sem Next}{vv:Value}(hs:s.run P w=.ok (.value vv) w'){row:Option Nat}(hg:w.grownBy w' row){el:Nat}(hsz:0<sz){es1 es2:WA}{xs1 xs2:V3}{fp1 fp2 kd:V2}
  (hown:w'.ownsRow base el sz vv (es1.length+es2.length) (xs1++xs2)) (hl1:∀x∈es1,x.length=sz) (hl2:∀x∈es2,x.length=sz)
  (ht1:AK w es1.flatten xs1 fp1) (ht2:AK w es2.flatten xs2 fp2)
  (hf1:∀g∈fp1,∃b∈kd,Vi ρ h b g) (hf2:∀g∈fp2,∃k∈ks,Vi ρ h k g) (hn1:fp1.Nodup) (hn2:fp2.Nodup) (hdis:∀k∈ks,k ∉ kd)
  (hrow:∀g,row=some g->(∃b∈kd,Vi ρ h b g)/\g ∉ fp1) (hblk:∀g,Xr vv=some g->(w.heap.size<=g\/∃b∈kd,Vi ρ h b g)/\g ∉ fp1)
  (hW1:Ba w base es1.flatten xs1) (hW2:Ba w base es2.flatten xs2) {lb:Nat} (hlb:lb=Co\/el=lb) :
  AR P N base ρ h w s (.own nx) (kill (kd++ks)++[(nx,.xarr lb sz (es1++es2))]):=by
 have hlt1:=ht1.lt;have hlt2:=ht2.lt;have clash:∀g,(∃b∈kd,Vi ρ h b g)->(∃k∈ks,Vi ρ h k g)->False:=by
  rintro g ⟨b,hb,rb,b1,b2,b3⟩ ⟨k,hk,rk,k1,k2,k3⟩;have:=R.inj b k rb rk g b1 k1 b2 k2 b3 k3;subst this;exact hdis b hk hb
 have hsame:∀g∈fp1++fp2,w'.heap[g]?=w.heap[g]?:=by
  intro g hg';rcases Yi.1 hg' with h1|h1
  .exact hg.block g (hlt1 g h1) λhe=>(hrow g he.symm).2 h1
  .exact hg.block g (hlt2 g h1) λhe=>clash g (hrow g he.symm).1 (hf2 g h1)
 have hp:=TK R (n:=nx) (ks:=kd++ks) (x:=.xarr lb sz (es1++es2)) (r:=⟨vv,[],fp1++fp2⟩) (row:=row) (w':=w')
  (by intro r0 h0;rw[hn]at h0;cases h0) hg
  (by intro g hg';obtain⟨⟨b,hb,ho⟩,_⟩:=hrow g hg';exact⟨b,.inl (by simp[hb]),ho⟩)
  (by
   intro g hg';rcases hg' with hg'|hg'
   .exact(hblk g hg').1.imp id λ⟨b,hb,ho⟩=>⟨b,.inl (by simp[hb]),ho⟩
   .right;rcases Yi.1 hg' with h1|h1
    .obtain⟨b,hb,ho⟩:=hf1 g h1;exact⟨b,.inl (by simp[hb]),ho⟩
    .obtain⟨b,hb,ho⟩:=hf2 g h1
     exact⟨b,.inl (by simp[hb]),ho⟩)
  (λ_=>by
   refine⟨el,xs1++xs2,hlb,by simpa using hown,hsz,?_,?_,?_,?_,?_⟩
   .intro x hx;rcases Yi.1 hx with hx|hx
    .exact hl1 x hx
    .exact hl2 x hx
   .rw[E2];exact(ht1.append ht2).frame hsame
   .rw[E2];exact(hW1.append hW2).frame (ht1.append ht2) hsame
   .exact CA.2 ⟨hn1,hn2,λx hx y hy hxy=>by subst hxy;exact clash x (hf1 x hx) (hf2 x hy)⟩
   .intro g hg' hv;rcases Yi.1 hg' with h1|h1
    .exact(hblk g hv).2 h1
    .rcases(hblk g hv).1 with h2|h2
     .have:=hlt2 g h1;omega
     .exact clash g h2 (hf2 g h1))
  (by intro hf;cases hf)
 refine⟨vv,w',Aq ρ nx ⟨vv,[],fp1++fp2⟩,.inl hs,.own (r:=⟨vv,[],fp1++fp2⟩) (by simp[Aq]) (rS hown),hp.1,hp.2.1,?_,?_,hp.2.2⟩
 .intro b hb;simp at hb;simp[Aq,hb.2]
 .refine(Below.refl _ _).grown hg R.hb λk hk=>?_
  obtain⟨⟨b,_,rb,h1,h2,h3⟩,_⟩:=hrow k hk;exact(R.lt h1 h2 h3).1
theorem Ec(R:Rel N base ρ h w){r:Root}(hr:ρ k=some r)(hf:CG (gt h k)=true):r.fp=[]:=by
 cases hb:gt h k with
 |arr el sz fr es =>
  rw[hb]at hf;have hd:gt h k≠.dead:=by rw[hb];intro hc;cases hc
  obtain⟨r',h1,h2⟩:=R.blk k hd;rw[hr]at h1;cases h1;rw[hb]at h2;obtain⟨_,_,xs,_,_,_,_,ht,_⟩:=h2;refine ht.flat ?_;simp only[CG,AM.flat,Yn]at hf|-
  grind [List.mem_flatten]
 |_=>rw[hb]at hf;cases hf
theorem ZBU(R:Rel N base ρ h w)(hE:XB ρ w (Free N ρ h) e a.tmps)(hn:ρ nx=none){n:Nat}{ps:Array (Nat×Operand)}{zs:V4}{qs:List (Nat×AO)}
  (hu:P.underlying t=some (.slice el)) (hi:P.info? el=some i) (hsmall:n*i.size<=16777216) (hsz:0<i.size) (hz:GF P el=some zs) (hzl:zs.length=i.size)
  (hm:AQ (λp:Nat×Operand=>(AZ p.2).map λx=>(p.1,x)) ps.toList=some qs) {es:WA} (hel:elems h e i.size (List.replicate n zs) qs=some (es,true,ks)) (hnd:VU ks=true)
  (hfl:ks.all (λk=>CG (gt h k))=true) :
  AR P N base ρ h w (do pure (.value (<-Instr.buildSlice t n (ps.map λ(i,x)=>(i,a.eval x))))) (.own nx) (kill ks++[(nx,.xarr el i.size es)]):=by
 unfold GF at hz
 cases hzz:i.zero with
 |none=>simp[hi,hzz]at hz
 |some z =>
  simp[hi,hzz]at hz;obtain⟨zs0,hz,rfl⟩:=hz;have hzs:=rV hz;rw[KU]at hzl;simp only[Y1]at hzs;have h0:=Zq5 (w:=w) (IE (cs:=(GE P 8 el).map λs=>.lst s []) (Zqx (w:=w) hz)) n;rw[show z.cells.size=i.size by omega]at h0;obtain⟨cells',fp',h1,h2,h3,h4,h5,Ft⟩:=Zq7 R hE ps.toList qs _ (madeCells z.cells (n*i.size)) [] [] true hm h0
   (by intro x hx;rw[Yc7 hx,KU];exact hzl) (Bj.nil true) (λ_=>.easy h0.length (Zq6 (rX (rW hz)))) es true ks hel
  simp only[DW,Yl,Yc8]at h4 h5 Ft;have hl2:=h2.length;rw[QT h3]at hl2;simp only[Y1]at hl2;have Eb:Instr.fill (λi_1=>some (i_1*i.size,i.size)) (madeCells z.cells (n*i.size)) (ps.map λ(i,x)=>(i,a.eval x)).toList=some cells':=by
   simp_all
  have hrun:(Instr.buildSlice t n (ps.map λ(i,x)=>(i,a.eval x))).run P w=.ok (.slice (some ⟨w.heap.size,0,none⟩) n n) (w.alloc (.cells cells' el)):=by
   by_cases hn0:n=0
   .subst hn0;have hcells:madeCells z.cells (0*i.size)=#[]:=by simp[madeCells,Array.range_zero']
    rw[hcells]at h1;simp[Instr.buildSlice,run_underlying hu,sizeOf,typeInfo,hi,h1,newRow,Array.range_zero']
   .have:¬n*i.size=0:=by
     grind [Nat.mul_eq_zero]
    exact run_buildSlice w t el n _ cells' i z hu hi hzz Z this Eb
  have hown:(w.alloc (.cells cells' el)).ownsRow base el i.size (.slice (some ⟨w.heap.size,0,none⟩) n n) (0+es.length) ([]++cells'.toList):=by
   rw[h4]at hl2|-;refine⟨by simp;omega,.inr ⟨w.heap.size,n,cells',Om,R.hb,heap_alloc_new w _,Z,?_,Z,?_⟩⟩
   .have:=Nat.le_mul_of_pos_right n hsz;simp only[maxLen];omega
   .simp_all [Tu]
  have hO:∀g∈fp',∃k∈ks,Vi ρ h k g:=by
   intro g hg;obtain⟨_,k,hk,rk,k1,k3⟩:=h5.fresh rfl g hg;have hz:=Ec R k1 (Yn.1 hfl k hk);rw[hz]at k3;rcases k3 with⟨k2,k3⟩|⟨_,k3⟩
   .exact⟨k,hk,rk,k1,k2,k3⟩
   .cases k3
  have:=Zq8 (P:=P) R hn (s:=(do pure (.value (<-Instr.buildSlice t n (ps.map λ(i,x)=>(i,a.eval x)))))) (vv:=.slice (some ⟨w.heap.size,0,none⟩) n n) (by simp[hrun]) (World.grownBy_alloc w _ none) hsz (es1:=[]) (es2:=es) (xs1:=[]) (xs2:=cells'.toList)
   (fp1:=[]) (fp2:=fp') (kd:=[]) (ks:=ks) hown Om h3 .nil h2 Om hO Y2 (h5.nodup rfl (O0.1 hnd)) Om (by intro g hg;cases hg)
   (by intro g hg;simp[Xr]at hg;exact⟨.inl Z,Om⟩) .nil (Ft trivial) (lb:=el) (.inr rfl)
  simpa using this
theorem Ee(R:Rel N base ρ h w){v:AV}{val:Value}(hsz:0<sz)(hs:JB h sz v=some (k,ys))(hv:RV ρ w (Free N ρ h) v val) :
  ∃b2 c2 news fp,val=.slice b2 ys.length c2/\news.length=ys.length*sz/\(ys.length=0\/∃ad,b2=some ad/\∀j u,news[j]?=some u->w.cell? (ad.add j)=some u)/\
   AK w ys.flatten news fp/\(∀x∈ys,x.length=sz)/\(∀g∈fp,Vi ρ h k g)/\fp.Nodup/\Ba w base ys.flatten news:=by
 cases hv with
 |@own b r hr h1 =>
  simp only[JB]at hs;split at hs
  .rename_i el sz' es hb;split at hs
   .rename_i hse;subst hse;cases hs;have hd:gt h k≠.dead:=by rw[hb];intro hc;cases hc
    obtain⟨r',h2,h3⟩:=R.blk k hd;rw[hr]at h2;cases h2;rw[hb]at h3;obtain⟨_,xs,_,ho,_,hl,ht,how,hnd,_⟩:=h3;have hval:∃b2 c2,r.v=.slice b2 ys.length c2/\(ys.length=0\/∃ad,b2=some ad/\∀j u,xs[j]?=some u->w.cell? (ad.add j)=some u):=by
     rcases ho.2 with⟨hv,hz⟩|⟨g,cap,cur,hv,hbg,hg,hcap,_,hcs,htake⟩
     .simp_all
     .exact⟨some ⟨g,0,none⟩,cap,hv,.inr ⟨_,rfl,ho.cells (g:=g) (by rw[hv];rfl)⟩⟩
    obtain⟨b2,c2,hv2,hsrc⟩:=hval;exact⟨b2,c2,xs,r.ex,hv2,ho.1,hsrc,ht,hl,λg hg=>⟨r,hr,hd,.inr hg⟩,hnd,how⟩
   .cases hs
  .cases hs
 |_=>simp[JB]at hs
theorem ZBV(R:Rel N base ρ h w)(hn:ρ nx=none){ty:TypeId}{z:Value}(hu:P.underlying t=some (.slice el))(hi:P.info? el=some i)(hz:i.zero=some z)(hzs:z.cells.size=i.size)(hsz:0<i.size)
  {x y:AV} {xv yv:Value} (hx:RV ρ w (Free N ρ h) x xv) (hy:RV ρ w (Free N ρ h) y yv) (hs:JB h i.size y=some (k,ys)) (hun:el≠Co) :
  (x=.t .nil->ys.length*i.bytes<=room->ys.length<=room->AR P N base ρ h w (do pure (.value (<-Builtin.append_ #[t,t] ty #[xv,yv]))) (.own nx) (kill [k]++[(nx,.xarr el i.size ys)]))/\
  (∀b es,x=.own b->gt h b=.xarr el i.size es->b≠k->(es.length+ys.length)*i.bytes<=room->es.length+ys.length<=room->
   AR P N base ρ h w (do pure (.value (<-Builtin.append_ #[t,t] ty #[xv,yv]))) (.own nx) (kill [b,k]++[(nx,.xarr el i.size (es++ys))])):=by
 obtain⟨b2,c2,news,fp,rfl,hl,hsrc,ht,hlen,hO,hnd,hW⟩:=Ee R hsz hs hy;constructor
 .intro hxn hb1 hb2;subst hxn;cases hx.nil_inv;obtain⟨v',w',row,h1,h2,h3,h4,h5⟩:=rU (P:=P) (ty:=ty) hu hi hz hzs (World.ownsRow_nil w base el i.size) hl hsrc ht.one (c2:=c2) (by simp only[room]at hb2;omega) (by simp only[room]at hb1;simpa using hb1) R.hb;have:=Zq8 (P:=P) R hn (s:=(do pure (.value (<-Builtin.append_ #[t,t] ty #[.slice none 0 0,.slice b2 ys.length c2])))) (vv:=v') (by simp[h1]) h3 hsz (es1:=[]) (es2:=ys) (xs1:=[]) (xs2:=news)
   (fp1:=[]) (fp2:=fp) (kd:=[]) (ks:=[k]) (by simpa using h2) Om hlen .nil ht Om (λg hg=>⟨k,Om,hO g hg⟩) Y2 hnd Om
   (by intro g hg;have:=h4 g hg;simp[Xr]at this) (by intro g hg;exact⟨(h5 g hg).imp id λh'=>by simp[Xr]at h',Om⟩) .nil hW (lb:=el) (.inr rfl)
  simpa using this
 .intro b es hxb hgb hbk hb1 hb2;subst hxb;have hd:gt h b≠.dead:=by rw[hgb];intro hc;cases hc
  obtain⟨r,hr,hB⟩:=R.blk b hd;rw[hgb]at hB;obtain⟨BV,xs,hel,ho,_,hl1,ht1,Cw,hnd1,hne1⟩:=hB;obtain rfl:BV=el:=hel.resolve_left hun
  cases hx with
  |@own _ r2 hr2 hone =>
   rw[hr]at hr2;cases hr2;obtain⟨v',w',row,h1,h2,h3,h4,h5⟩:=rU (P:=P) (ty:=ty) hu hi hz hzs ho hl hsrc ht.one (c2:=c2) (by simp only[room]at hb2;omega) (by simp only[room]at hb1;exact hb1) R.hb;have:=Zq8 (P:=P) R hn (s:=(do pure (.value (<-Builtin.append_ #[t,t] ty #[r.v,.slice b2 ys.length c2])))) (vv:=v') (by simp[h1]) h3 hsz (es1:=es) (es2:=ys) (xs1:=xs) (xs2:=news)
    (fp1:=r.ex) (fp2:=fp) (kd:=[b]) (ks:=[k]) h2 hl1 hlen ht1 ht (λg hg=>⟨b,Om,r,hr,hd,.inr hg⟩) (λg hg=>⟨k,Om,hO g hg⟩) hnd1 hnd (by simp;exact λe=>hbk e.symm)
    (by intro g hg;exact⟨⟨b,Om,r,hr,hd,.inl (h4 g hg)⟩,λhx=>hne1 g hx (h4 g hg)⟩)
    (by
     intro g hg;refine⟨(h5 g hg).imp id λh'=>⟨b,Om,r,hr,hd,.inl h'⟩,λhx=>?_⟩;rcases h5 g hg with h'|h'
     .have:=ht1.lt g hx;omega
     .exact hne1 g hx h')
    Cw hW (lb:=BV) (.inr rfl)
   simpa using this
end
open Go.RowKit (Below)
section
variable{P:Program}{N:Bi}{base:Nat}{ρ:Map}{h:WM}{w w':World}{F:Nat->Prop}{e:Env}{a:Act}{r l:Nat}{k:IntKind}{n:Int}
theorem Ef(R:Rel N base ρ h w){t el:TypeId}{i:TypeInfo}(hu:P.underlying t=some (.slice el))(hi:P.info? el=some i){x:AV}{xv:Value}(h0:0<=n){v:AV}{u:List (Nat×Ax)}
  (hv:(match x with
   |.t (.lst sz' es)=>if sz'=i.size then(match es[n.toNat]? with
    |some cs=>some (AV.iptr cs 0,([]:List (Nat×Ax)))
    |none=>none)else none
   |.own b=>match gt h b with
    |.arr _ sz' _ es=>if sz'=i.size/\n.toNat<es.length then some (.eptr b n.toNat i.size 0,[])else none
    |.xarr _ sz' es=>if sz'=i.size/\n.toNat<es.length then some (.eptr b n.toNat i.size 0,[])else none
    |_=>none
   |.bsl b m=>if i.size=1/\n.toNat<m then some (.ptr b n.toNat,[])else none
   |_=>none)=some (v,u)) (hx:RV ρ w (Free N ρ h) x xv) :
  AR P N base ρ h w (do pure (.value (<-Instr.indexAt t xv (.int k n)))) v u:=by
 have key:∀(ad:Addr) (len cap:Nat),xv=.slice (some ad) len cap->n.toNat<len->((do pure (.value (<-Instr.indexAt t xv (.int k n)))):Sem Next).run P w=.ok (.value (.pointer (some (ad.add (n.toNat*i.size))))) w:=by
  intro ad len cap hxv hlt;subst hxv;have h1:n<(len:Int):=by omega
  simp[Instr.indexAt,asIntOf,run_underlying hu,h0,h1,sizeOf,typeInfo,hi]
 cases hx with
 |@t x val fp hT hf =>
  cases hT with
  |@lst sz' es g off cap c te fz fp' hne hsz' hcap hg hlen hc =>
   simp only at hv;split at hv
   .rename_i hse;subst hse;split at hv
    .rename_i cs hcs;cases hv;have hlt:n.toNat<es.length:=(Y0.1 hcs).1;obtain⟨fq,h1,h2⟩:=hc.elem hlen hcs;refine .same R (key _ _ _ rfl hlt) ?_;rw[QS];refine RV.iptr (o:=off+n.toNat*i.size) (off:=0) (fp:=fq) hg (hf g Om) ?_ λg' hg'=>hf g' (by simp[h2 g' hg'])
     have hcl:cs.length=i.size:=hlen cs (Y3 hcs);rw[OI,Fe,Iq]at h1;have hmul:n.toNat*i.size+i.size<=es.length*i.size:=by
      have:=DA i.size (show n.toNat+1<=es.length from hlt)
      rwa [DK,Gx]at this
     grind
    .cases hv
   .cases hv
  |lst0 sz' ad cap=>simp at hv
  |_=>simp at hv
 |@own b r hr hone =>
  simp only at hv;split at hv
  .rename_i BV sz' fr es hb;split at hv
   .rename_i hcond;cases hv;have hd:gt h b≠.dead:=by rw[hb];intro hc;cases hc
    obtain⟨r',h1,h2⟩:=R.blk b hd;rw[hr]at h1;cases h1;rw[hb]at h2;obtain⟨_,_,xs,_,ho,_⟩:=h2;rcases ho.2 with⟨hv,hz⟩|⟨g,cap,cur,hv,_⟩
    .omega
    .refine .same R (key _ _ _ hv hcond.2) ?_;rw[QS,Yv];exact RV.eptr (off:=0) hr hv
   .cases hv
  .rename_i BV sz' es hb;split at hv
   .rename_i hcond;cases hv;have hd:gt h b≠.dead:=by rw[hb];intro hc;cases hc
    obtain⟨r',h1,h2⟩:=R.blk b hd;rw[hr]at h1;cases h1;rw[hb]at h2;obtain⟨_,xs,_,ho,_⟩:=h2;rcases ho.2 with⟨hv,hz⟩|⟨g,cap,cur,hv,_⟩
    .omega
    .refine .same R (key _ _ _ hv hcond.2) ?_;rw[QS,Yv];exact RV.eptr (off:=0) hr hv
   .cases hv
  .cases hv
 |@bsl b m g r hr Bx =>
  simp only at hv;split at hv
  .rename_i hcond;cases hv;refine .same R (key _ _ _ rfl hcond.2) ?_;rw[QS,hcond.1,Nat.mul_one,Yv];exact .ptr hr Bx
  .cases hv
 |_=>simp at hv
theorem AK.mid{es:WA}{xs:V3}{fp:V2}{sz:Nat}(hc:AK w es.flatten xs fp)(hl:∀x∈es,x.length=sz)(hlr:l<=r)(hr:r<=es.length) :
  ∃fq,AK w ((es.take r).drop l).flatten ((xs.drop (l*sz)).take ((r-l)*sz)) fq/\∀g∈fq,g∈fp:=by
 have e:es=es.take l++((es.take r).drop l++es.drop r):=by
  grind [List.drop_take,List.drop_drop,List.take_append_drop]
 rw[e,E2,E2]at hc;obtain⟨fa,fb,rfl,_,h2⟩:=hc.split;obtain⟨fc,fd,rfl,h3,_⟩:=h2.split;have hl1:(es.take l).flatten.length=l*sz:=by
  grind [QT,List.mem_of_mem_take,Nat.min_eq_left]
 have hl2:((es.take r).drop l).flatten.length=(r-l)*sz:=by
  rw[QT λx hx=>hl x (Dk (Is hx))]
  grind
 grind
theorem Z0U(hE:XB ρ w F e a.tmps){d:Nat}{o:Option Operand}{o':Option AO}(ho:(match o with|none=>some none|some o=>(AZ o).map some)=some o')(hb:bnd e d o'=some r) :
  (o=none/\r=d)\/∃x k n,o=some x/\a.eval x=.int k n/\0<=n/\r=n.toNat:=by
 cases o with
 |none=>cases ho;simp[bnd]at hb;exact .inl ⟨rfl,hb.symm⟩
 |some x =>
  obtain⟨y,hy,rfl⟩:=Yo.1 ho;simp only[bnd]at hb;split at hb
  .rename_i k n hn;have hr:=ZY hE hy;rw[hn]at hr;simp only[D0]at hb;split at hb
   .rename_i h0;cases hb;exact .inr ⟨x,k,n,rfl,hr.int_inv,h0,rfl⟩
   .cases hb
  .cases hb
theorem rY{y:Nat}{code:BoundsCode}(h0:0<=n)(h1:n.toNat<=y):(Instr.sliceBound (.int k n) y code).run P w=.ok n.toNat w:=by
 have h2:n<=(y:Int):=by omega
 simp[Instr.sliceBound,asIntOf,h0,h2]
theorem TT(hE:XB ρ w F e a.tmps){lo hi:Option Operand}{lo' hi':Option AO}(hlo:(match lo with|none=>some none|some o=>(AZ o).map some)=some lo')
  (hhi:(match hi with|none=>some none|some o=>(AZ o).map some)=some hi') {len cap:Nat} (hl:bnd e 0 lo'=some l) (hr:bnd e len hi'=some r) (hlr:l<=r) (hrc:r<=cap) (isS:Bool) :
  (Instr.sliceBounds isS len cap (lo.map a.eval) (hi.map a.eval) none).run P w=.ok (l,r,cap) w:=by
 rcases Z0U hE hlo hl with⟨rfl,rfl⟩|⟨x,k,n,rfl,hx,h0,rfl⟩<;>rcases Z0U hE hhi hr with⟨rfl,rfl⟩|⟨y,k',n',rfl,hy,h0',rfl⟩
 .simp[Instr.sliceBounds]
 .simp[Instr.sliceBounds,hy,rY h0' hrc]
 .simp[Instr.sliceBounds,hx,rY h0 hlr]
 .simp[Instr.sliceBounds,hx,hy,rY h0 hlr,rY h0' hrc]
theorem ZBW{fs:List Field}{j:Nat}{ks:V2}(hk:Fj P fs j=some ks):∀(d:Nat) (xs ys:XQ) (vx vy:Array Value),Ay ρ w F xs (vx.toList.drop j)->Ay ρ w F ys (vy.toList.drop j)->
  ∀r,BS ks xs ys=some r->(Op.eqFields (d+1) vx vy fs).run P w=.ok r w:=by
 induction fs generalizing j ks with
 |nil =>
  intro d xs ys vx vy hx hy r hr;cases hk;cases xs<;>cases ys<;>simp[BS]at hr
  simp_all [Op.eqFields]
 |cons f fs ih =>
  intro d xs ys vx vy hx hy r hr;simp only[Fj]at hk;split at hk
  .rename_i hcond;obtain⟨hname,hoff⟩:=hcond;split at hk
   .rename_i k ks' hty hrest;cases hk
    cases xs with
    |nil=>simp[BS]at hr
    |cons x xs =>
     cases ys with
     |nil=>cases x<;>simp[BS]at hr
     |cons y ys =>
      obtain⟨a1,hx0,hxa⟩:=hx.at (i:=0) (a:=x) rfl;obtain⟨b1,hy0,hyb⟩:=hy.at (i:=0) (a:=y) rfl;have hxd:Ay ρ w F xs (vx.toList.drop (j+1)):=by have:=hx.drop 1;simpa[Iq]using this
      have hyd:Ay ρ w F ys (vy.toList.drop (j+1)):=by have:=hy.drop 1;simpa[Iq]using this
      have hx1:vx[j]?=some a1:=by simpa using hx0
      have hy1:vy[j]?=some b1:=by simpa using hy0
      cases x<;>try (simp[BS]at hr;done)
      rename_i ta;cases y<;>try (simp[BS]at hr;done)
      rename_i tb;simp only[BS]at hr;split at hr
      .rename_i r1 r2 h1 h2;cases hr;have hrec:=ih hrest d xs ys vx vy hxd hyd r2 h2;have hpx:∀(v:Array Value) (c:Value),v[j]?=some c->(part f.type v f.offset).run P w=.ok c w:=by
        intro v c hv;have hag:(isAgg f.type).run P w=.ok false w:=by
         cases hu:P.underlying f.type with
         |none=>rw[hu]at hty;cases hty
         |some dd=>simp only[isAgg,Sem.run_bind,run_underlying hu,Result.andThen_ok];rw[hu]at hty;cases dd<;>first|rfl|simp at hty
        simp[part,hag,hoff,hv]
       have heq:(Op.equalIn (d+1) f.type a1 b1).run P w=.ok r1 w:=by
        split at hty
        .rename_i hu;cases hty;cases ta<;>cases tb<;>simp[OR]at h1;subst h1;rw[hxa.bool_inv,hyb.bool_inv];exact run_equalIn_bool' w d f.type _ _ hu
        .rename_i k' hu;cases hty;cases ta<;>cases tb<;>simp[OR]at h1;obtain⟨rfl,rfl⟩:=h1;rw[hxa.int_inv,hyb.int_inv];exact run_equalIn_int w d f.type _ k' _ _ hu
        .rename_i hu;cases hty;cases ta<;>cases tb<;>simp[OR]at h1;subst h1;rw[hxa.str_inv,hyb.str_inv];exact run_equalIn_string w d f.type _ _ hu
        .cases hty
       simp only[Op.eqFields,hname,ne_eq,not_false_eq_true,if_true,Sem.run_bind,hpx vx a1 hx1,hpx vy b1 hy1,Result.andThen_ok,heq];cases r1
       .simp
       .simpa using hrec
      .cases hr
   .cases hk
  .cases hk
end
open Go.RowKit (Below)
section
variable{P:Program}{N:Bi}{base:Nat}{ρ:Map}{h:WM}{w w':World}{F:Nat->Prop}{e:Env}{a:Act}{v u:Value}{t el:TypeId}{cs:XQ}{off b:Nat}{p r:T}{x:AV}
theorem ZBX{op:BinOp}{x y:Operand}{q:T}(hx:RV ρ w F (.t p) u)(hy:RV ρ w F (.t q) v)(hr:AC op p q=some r) :
  ∃z,((do eqGuard op t x y u v;binOp op t u v):Sem Value).run P w=.ok z w/\RV ρ w F (.t r) z:=by
 cases p<;>cases q<;>try (simp[AC]at hr;done)
 .rename_i k m k' n;cases hx.int_inv;cases hy.int_inv;cases op<;>simp[AC]at hr
  case shl=>obtain⟨h0,rfl⟩:=hr;exact⟨_,by simp[eqGuard,binOp,Op.shift,show ¬n<0 by omega],.int_mk _ _⟩
  case shr=>obtain⟨h0,rfl⟩:=hr;exact⟨_,by simp[eqGuard,binOp,Op.shift,show ¬n<0 by omega],.int_mk _ _⟩
  case add=>obtain⟨rfl,rfl⟩:=hr;exact⟨_,by simp[eqGuard,binOp,Op.intArith],.int_mk _ _⟩
  case sub=>obtain⟨rfl,rfl⟩:=hr;exact⟨_,by simp[eqGuard,binOp,Op.intArith],.int_mk _ _⟩
  case mul=>obtain⟨rfl,rfl⟩:=hr;exact⟨_,by simp[eqGuard,binOp,Op.intArith],.int_mk _ _⟩
  case quo=>obtain⟨rfl,h0,rfl⟩:=hr;exact⟨_,by simp[eqGuard,binOp,Op.intDiv,h0],.int_mk _ _⟩
  case rem=>obtain⟨rfl,h0,rfl⟩:=hr;exact⟨_,by simp[eqGuard,binOp,Op.intDiv,h0],.int_mk _ _⟩
  case and=>obtain⟨rfl,rfl⟩:=hr;exact⟨_,by simp[eqGuard,binOp,Op.intBits],.int_mk _ _⟩
  case or=>obtain⟨rfl,rfl⟩:=hr;exact⟨_,by simp[eqGuard,binOp,Op.intBits],.int_mk _ _⟩
  case xor=>obtain⟨rfl,rfl⟩:=hr;exact⟨_,by simp[eqGuard,binOp,Op.intBits],.int_mk _ _⟩
  case andNot=>obtain⟨rfl,rfl⟩:=hr;exact⟨_,by simp[eqGuard,binOp,Op.intBits],.int_mk _ _⟩
  case eql=>obtain⟨rfl,rfl⟩:=hr;exact⟨_,by simp[eqGuard,binOp,Op.intCmp],.bool_mk _⟩
  case neq=>obtain⟨rfl,rfl⟩:=hr;exact⟨_,by simp[eqGuard,binOp,Op.intCmp],.bool_mk _⟩
  case lss=>obtain⟨rfl,rfl⟩:=hr;exact⟨_,by simp[eqGuard,binOp,Op.intCmp],.bool_mk _⟩
  case leq=>obtain⟨rfl,rfl⟩:=hr;exact⟨_,by simp[eqGuard,binOp,Op.intCmp],.bool_mk _⟩
  case gtr=>obtain⟨rfl,rfl⟩:=hr;exact⟨_,by simp[eqGuard,binOp,Op.intCmp],.bool_mk _⟩
  case geq=>obtain⟨rfl,rfl⟩:=hr;exact⟨_,by simp[eqGuard,binOp,Op.intCmp],.bool_mk _⟩
 .rename_i s1 s2;cases hx.str_inv;cases hy.str_inv;cases op<;>simp[AC]at hr
  case add =>
   obtain⟨h0,rfl⟩:=hr;refine⟨_,?_,.str_mk _⟩
   have:¬(9223372036854775807<(s1.size:Int)+(s2.size:Int)):=by omega
   simp[eqGuard,binOp,Op.stringOp,this]
  case eql=>subst hr;exact⟨_,by simp[eqGuard,binOp,Op.stringOp],.bool_mk _⟩
  case neq=>subst hr;exact⟨_,by simp[eqGuard,binOp,Op.stringOp],.bool_mk _⟩
  case lss=>subst hr;exact⟨_,by simp[eqGuard,binOp,Op.stringOp],.bool_mk _⟩
  case leq=>subst hr;exact⟨_,by simp[eqGuard,binOp,Op.stringOp],.bool_mk _⟩
  case gtr=>subst hr;exact⟨_,by simp[eqGuard,binOp,Op.stringOp],.bool_mk _⟩
  case geq=>subst hr;exact⟨_,by simp[eqGuard,binOp,Op.stringOp],.bool_mk _⟩
theorem Eg{op:UnOp}(hx:RV ρ w F (.t p) u)(hr:OQ op p=some r):∃z,(Op.unary op u).run P w=.ok z w/\RV ρ w F (.t r) z:=by
 cases p<;>cases op<;>try (simp[OQ]at hr;done)
 .cases hx.int_inv;simp[OQ]at hr;subst hr;exact⟨_,by simp[Op.unary,Op.intArith],.int_mk _ _⟩
 .cases hx.bool_inv;simp[OQ]at hr;subst hr;exact⟨_,by simp[Op.unary],.bool_mk _⟩
theorem Z0V(R:Rel N base ρ h w)(hx:RV ρ w (Free N ρ h) x v){r:Bool}(hr:VH h true x=some r):∃c n m,v=.slice c n m/\c.isNone=r:=by
 cases hx with
 |t hT hf =>
  cases hT with
  |nil=>simp[VH]at hr;subst hr;exact⟨none,0,0,rfl,rfl⟩
  |lst0=>simp[VH]at hr
  |@lst sz es g off cap c' te fz fp hne hsz hcap hg hlen hc =>
   cases es with
   |nil=>exact absurd rfl hne
   |cons y ys=>simp[VH]at hr;subst hr;exact⟨_,_,_,rfl,rfl⟩
  |_=>simp[VH]at hr
 |@own b r' hr' hone =>
  simp only[VH]at hr;split at hr
  .rename_i BV sz fr y ys hb;cases hr;obtain⟨r2,h1,h2⟩:=R.blk b (by rw[hb];intro hc;cases hc);rw[hr']at h1;cases h1;rw[hb]at h2;obtain⟨_,_,xs,_,ho,_⟩:=h2;rcases ho.2 with⟨_,hz⟩|⟨g,cap,cur,hv',_⟩
   .simp at hz
   .simp_all
  .rename_i BV sz y ys hb;cases hr;obtain⟨r2,h1,h2⟩:=R.blk b (by rw[hb];intro hc;cases hc);rw[hr']at h1;cases h1;rw[hb]at h2;obtain⟨_,xs,_,ho,_⟩:=h2;rcases ho.2 with⟨_,hz⟩|⟨g,cap,cur,hv',_⟩
   .simp at hz
   .simp_all
  .cases hr
 |_=>simp[VH]at hr
theorem Z0W(hx:RV ρ w F x v){r:Bool}(hr:VH h false x=some r):∃c,v=.pointer c/\c.isNone=r:=by
 cases hx with
 |nilp=>simp[VH]at hr;subst hr;exact⟨none,rfl,rfl⟩
 |ptr=>simp[VH]at hr;subst hr;exact⟨_,rfl,rfl⟩
 |eptr=>simp[VH]at hr;subst hr;exact⟨_,rfl,rfl⟩
 |iptr=>simp[VH]at hr;subst hr;exact⟨_,rfl,rfl⟩
 |_=>simp[VH]at hr
theorem Z0X(hu:P.underlying t=some (.slice el))(d:Nat)(c:Option Addr)(n m:Nat):(Op.equalIn (d+1) t (.slice c n m) (.slice none 0 0)).run P w=.ok c.isNone w:=by
 cases c<;>simp[Op.equalIn,run_underlying hu]
theorem Z0Y(hu:P.underlying t=some (.pointer el))(d:Nat)(c:Option Addr):(Op.equalIn (d+1) t (.pointer c) (.pointer none)).run P w=.ok c.isNone w:=by
 cases c<;>simp[Op.equalIn,run_underlying hu]
theorem RV.ptr_val(hv:RV ρ w F (.ptr b off) v):∃p,v=.pointer (some p):=by cases hv;exact⟨_,rfl⟩
theorem RV.eptr_val{i sz:Nat}(hv:RV ρ w F (.eptr b i sz off) v):∃p,v=.pointer (some p):=by cases hv;exact⟨_,rfl⟩
theorem RV.iptr_val{cs:V4}(hv:RV ρ w F (.iptr cs off) v):∃p,v=.pointer (some p):=by cases hv;exact⟨_,rfl⟩
theorem RV.fn_val{f:Nat}(hv:RV ρ w F (.fn f cs) v):∃c:Array Value,v=.func (.func f) #[] c/\Ay ρ w F cs c.toList:=by cases hv;exact⟨_,rfl,by assumption⟩
theorem RV.tup_val(hv:RV ρ w F (.tup cs) v):∃c:Array Value,v=.tuple c/\Ay ρ w F cs c.toList:=by cases hv;exact⟨_,rfl,by assumption⟩
theorem RV.agg_val(hv:RV ρ w F (.agg cs) v):∃c:Array Value,v=.agg c/\Ay ρ w F cs c.toList/\∀v∈c.toList,v.oneCell'=true:=by cases hv;exact⟨_,rfl,by assumption,by assumption⟩
theorem Z0Z(hE:XB ρ w F e a.tmps):∀(ps:List (Nat×Operand)) (qs:List (Nat×AO)) (cs:XQ) (cells:Array Value),
  AQ (λp:Nat×Operand=>(AZ p.2).map λx=>(p.1,x)) ps=some qs->Ay ρ w F cs cells.toList->(∀v∈cells.toList,v.oneCell'=true)->
  ∀cs',KP e cs qs=some cs'->∃cells',Instr.fill (λi=>some (i*1,1)) cells (ps.map λp=>(p.1,a.eval p.2))=some cells'/\Ay ρ w F cs' cells'.toList/\∀v∈cells'.toList,v.oneCell'=true
 |[],qs,cs,cells,hm,hc,h1,cs',hp=>by
  cases hm;simp[KP]at hp;subst hp
  exact⟨cells,by simp[Instr.fill],hc,h1⟩
 |(i,x)::ps,qs,cs,cells,hm,hc,h1,cs',hp=>by
  obtain⟨q,TQ,hq,TS,rfl⟩:=QR hm;obtain⟨x',hx,rfl⟩:=Yo.1 hq;simp only[KP]at hp;split at hp
  .rename_i v hv;split at hp
   .rename_i hlt;obtain⟨h2,h3⟩:=GM hv (ZY hE hx);have hl1:=h2.length;have hl2:=hc.length;simp only[Y1,Yy,Ff]at hl1 hl2;obtain⟨Bv,hf,hcl⟩:=Zq4 (place:=λi=>some (i*1,1)) (cells:=cells) (i:=i) (off:=i*1) (size:=1) (v:=a.eval x) (rest:=ps.map λp=>(p.1,a.eval p.2)) rfl Z Z;have hR:Ay ρ w F (cs.set i v) Bv.toList:=by
     rw[hcl,List.set_eq_take_append_cons_drop,Ya hlt,Nat.mul_one];have:=((hc.take i).append h2).append (hc.drop (i+1));simpa using this
    have ho:∀v∈Bv.toList,v.oneCell'=true:=by
     grind
    obtain⟨cells',h4,h5,h6⟩:=Z0Z hE ps TQ _ Bv TS hR ho cs' hp
    simp_all
   .cases hp
  .cases hp
theorem Eh(R:Rel N base ρ h w)(hE:XB ρ w (Free N ρ h) e a.tmps){nx:Nat}(hn:ρ nx=none){n:Nat}{ps:Array (Nat×Operand)}{i:TypeInfo}{qs:List (Nat×AO)}
  (hu:P.underlying t=some (.slice el)) (hi:P.info? el=some i) (hsmall:n*i.size<=16777216) (hsz:i.size=1) (hz:i.zero=some (.pointer none))
  (hm:AQ (λp:Nat×Operand=>(AZ p.2).map λx=>(p.1,x)) ps.toList=some qs) (hc:KP e (List.replicate n .nilp) qs=some cs) :
  AR P N base ρ h w (do pure (.value (<-Instr.buildSlice t n (ps.map λ(i,x)=>(i,a.eval x))))) (.bsl nx n) [(nx,.box cs)]:=by
 have h0:Ay ρ w (Free N ρ h) (List.replicate n .nilp) (madeCells #[.pointer none] n).toList:=by
  have e1:(madeCells #[.pointer none] n).toList=List.replicate n (.pointer none):=by
   apply ON
   .simp[madeCells]
   .intro k h1 h2;simp[madeCells,Nat.mod_one]
  rw[e1];clear hc e1 hsmall
  induction n with
  |zero=>exact .nil
  |succ n ih=>rw[rE,rE];exact .cons .nilp ih
 have h1:∀v∈(madeCells #[.pointer none] n).toList,v.oneCell'=true:=by
  intro v hv;simp only[madeCells,DL,Yp]at hv;obtain⟨k,_,rfl⟩:=hv;simp[Nat.mod_one,Value.oneCell']
 obtain⟨cells',h2,h3,h4⟩:=Z0Z hE ps.toList qs _ _ hm h0 h1 cs hc;have hrun:(Instr.buildSlice t n (ps.map λ(i,x)=>(i,a.eval x))).run P w=.ok (.slice (some ⟨w.heap.size,0,none⟩) n n) (w.alloc (.cells cells' el)):=by
  by_cases hn0:n=0
  .subst hn0;have hcells:madeCells #[.pointer none] 0=#[]:=by simp[madeCells,Array.range_zero']
   rw[hcells]at h2;simp only[Nat.mul_one]at h2;simp[Instr.buildSlice,run_underlying hu,sizeOf,typeInfo,hi,hsz,h2,newRow,Array.range_zero']
  .refine run_buildSlice w t el n _ cells' i (.pointer none) hu hi hz Z (by rw[hsz];omega) ?_;rw[DL,hsz];rw[Nat.mul_one];exact h2
 have hp:=IC R (n:=nx) (ks:=[]) (x:=.box cs) (r:=⟨.pointer (some ⟨w.heap.size,0,none⟩),[],[]⟩) (row:=none) (w':=w.alloc (.cells cells' el))
  (by intro r0 h0;rw[hn]at h0;cases h0) (Z0N w _) (by intro g hg;cases hg) (by intro g hg;simp[Xr]at hg;exact .inl Z)
  (λhk=>⟨rfl,w.heap.size,cells',el,rfl,R.hb,heap_alloc_new w _,h3.keep hk,h4⟩) (by intro hf;cases hf)
 refine⟨_,_,Aq ρ nx ⟨.pointer (some ⟨w.heap.size,0,none⟩),[],[]⟩,.inl (by simp only[Sem.run_bind,hrun,Result.andThen_ok];rfl),?_,hp.1,hp.2.1,?_,(Below.refl _ _).alloc R.hb _,hp.2.2⟩
 .exact .bsl (r:=⟨.pointer (some ⟨w.heap.size,0,none⟩),[],[]⟩) (by simp[Aq]) rfl
 .intro b hb;simp at hb;simp[Aq,hb]
end
open Go.RowKit (Below)
section
variable{P:Program}{N:Bi}{base:Nat}{ρ:Map}{h:WM}{w w':World}{F:Nat->Prop}{e:Env}{a:Act}{es:WA}{b sz i off el k sz' nx c:Nat}{cs ts:V4}{v x:AV}{t:TypeId}{u:List (Nat×Ax)}{vs:XQ}{px val xv:Value}{f:Bool}{ks:V2}{inf:TypeInfo}
theorem Z1a(R:Rel N base ρ h w)(hb:gt h b=.xarr el sz es)(hi:es[i]?=some cs)
  (hpx:RV ρ w (Free N ρ h) (.eptr b i sz' off) px) (hsz':sz'=sz) (hc:cellsOf v=some vs) (hv:RV ρ w (Free N ρ h) v val) (ht:A9 h vs=some (ts,f,ks)) (Ck:P.info? t=some inf) (hl:vs.length=inf.size) (hle:off+inf.size<=cs.length) (hsc:ts.all ZX=true) :
  AR P N base ρ h w (do Instr.storeAt t px val;pure .skip) .top [(b,.xarr el sz (es.set i (AF cs off (wk (cs.drop off) ts))))]:=by
 subst hsz';have hd:gt h b≠.dead:=by rw[hb];intro hc;cases hc
 obtain⟨r,hr,hB⟩:=R.blk b hd;rw[hb]at hB;obtain⟨BV,xs,hel,ho,hsz,hlen,htr,how,hnd,hne⟩:=hB
 cases hpx with
 |@eptr _ _ _ _ g n cap r2 hr2 Bx =>
  rw[hr]at hr2;cases hr2;rcases ho.2 with⟨hv0,hz⟩|⟨g',cap',cur,hv',hbg,hg,hcap,hcm,hcs,htake⟩
  .rw[Bx]at hv0;cases hv0
  .rw[Bx]at hv';cases hv';obtain⟨hvs,hone⟩:=GM hc hv;obtain⟨fq,Ds,hT,_⟩:=rQ R ht hvs;have hfq:fq=[]:=Ds.flat hsc;subst hfq;have htl:=rR ht;have hvl:=hvs.length;simp only[Y1]at hvl;have hto:Ba w base ts val.cells.toList:=.easy Ds.length (ZBL hsc);have hwl:=KU (cs:=cs.drop off) (ts:=ts);replace Ds:=IE (cs:=cs.drop off) Ds;replace hto:=Dr (cs:=cs.drop off) hto;rw[<-hwl]at htl;clear ht hsc hwl;generalize wk (cs.drop off) ts=tt at Ds hto htl|-;have TM:cs.length=sz':=hlen cs (Y3 hi);have hilt:i<es.length:=(Y0.1 hi).1;have hmul:i*sz'+sz'<=es.length*sz':=by
    have:=DA sz' (show i+1<=es.length from hilt)
    rwa [DK,Gx]at this
   have TN:es.length*sz'<=cap*sz':=DA _ hcap;have hblk:Xr r.v=some g:=by rw[Bx];rfl
   have hrun:=rP (P:=P) Ck hg (o:=i*sz'+off) (val:=val) Z Z hone;have hfl:=rO (ts:=tt) (off:=off) hi Z;rw[hfl.1]at htr how;obtain⟨fa,fb,fc,hfp,hnew⟩:=htr.splice Ds;have BE:=how.splice hto;rw[<-hfl.2]at hnew BE;have hAl:((es.take i).flatten++cs.take off).length=i*sz'+off:=by
    rw[Yu,QT λx hx=>hlen x (Dk hx)];simp;rw[DJ Z,DJ Z]
   have hBl:((cs.drop off).take tt.length).length=inf.size:=by simp;omega
   rw[hAl,hBl]at hnew BE;rw[E3]at hnew;have hxl:xs.length=es.length*sz':=ho.1;have hsub:∀x∈fa++fc,x∈r.ex:=by
    intro x hx;rw[hfp];rcases Yi.1 hx with hx|hx<;>simp[hx]
   have Aad:∀x∈fa++fc,x≠g:=λx hx he=>hne x (hsub x hx) (by rw[he];exact hblk)
   have hset:∀x∈es.set i (AF cs off tt),x.length=sz':=by
    intro x hx;rcases DV hx with hx|hx
    .exact hlen x hx
    .subst hx;simp[AF];omega
   have hown:∀g',X3 (⟨r.v,r.fp,fa++fc⟩:Root) g'->X3 r g':=λg' hg'=>hg'.imp id (hsub g')
   have hsame:∀x∈fa++fc,(w.setRow g (cur.toList.take (i*sz'+off)++val.cells.toList++cur.toList.drop (i*sz'+off+inf.size)).toArray).heap[x]?=w.heap[x]?:=by
    intro x hx;exact(GN w g _).block x (htr.lt x (hsub x hx)) (λhe=>Aad x hx (by cases he;rfl))
   have hp:=TK R (n:=b) (ks:=[]) (x:=.xarr el sz' (es.set i (AF cs off tt))) (r:=⟨r.v,r.fp,fa++fc⟩) (row:=some g)
    (w':=w.setRow g (cur.toList.take (i*sz'+off)++val.cells.toList++cur.toList.drop (i*sz'+off+inf.size)).toArray)
    (by intro r0 h0;rw[hr]at h0;cases h0;rfl) (GN w g _)
    (by intro g' hg';cases hg';exact⟨b,.inr rfl,r,hr,hd,.inl hblk⟩)
    (by intro g' hg';exact .inr ⟨b,.inr rfl,r,hr,hd,hown g' hg'⟩)
    (λhk=>by
     refine⟨BV,xs.take (i*sz'+off)++val.cells.toList++xs.drop (i*sz'+off+inf.size),hel,⟨?_,.inr ⟨g,cap,_,Bx▸Om,hbg,setRow_heap w g cur _ BV _ hg,by simpa using hcap,hcm,?_,?_⟩⟩,hsz,hset,hnew.frame hsame,BE.frame hnew hsame,?_,λx hx=>hne x (hsub x hx)⟩
     .simp only[Yu,Yw,Tw,Y1,CD];omega
     .simp only[Yc6,Yu,Yw,Tw,Y1];omega
     .rw[<-htake];simp only[CD];have e1:(cur.toList.take (es.length*sz')).take (i*sz'+off)=cur.toList.take (i*sz'+off):=by rw[Fe];congr 1;omega
      rw[e1];have hl1:(cur.toList.take (i*sz'+off)++val.cells.toList).length=i*sz'+off+inf.size:=by simp;omega
      rw[List.take_append,hl1,Tu Z,OI]
     .rw[hfp,DT]at hnd;rw[CA]at hnd|-
      refine⟨hnd.1,(CA.1 hnd.2.1).2.1,λx hx y hy=>hnd.2.2 x hx y (by simp[hy])⟩)
    (by intro hf;cases hf)
   refine⟨undef,_,Aq ρ b ⟨r.v,r.fp,fa++fc⟩,.inr ⟨by simp[Instr.storeAt,Instr.sureAddr,hrun],rfl⟩,.top _,hp.1,hp.2.1,?_,Below.setRow hbg _,hp.2.2⟩;intro b' hb';simp at hb';simp[Aq,hb']
theorem rZ(hl:∀x∈es,x.length=sz)(hi:es[i]?=some cs)(ho:off<sz) :
  (∀x,(es.set i (AF cs off [x])).flatten=es.flatten.take (i*sz+off)++[x]++es.flatten.drop (i*sz+off+1))/\es.flatten[i*sz+off]?=cs[off]?/\i*sz+off<es.flatten.length:=by
 have hcs:cs.length=sz:=hl cs (Y3 hi);have hil:i<es.length:=(Y0.1 hi).1;have hA:((es.take i).flatten++cs.take off).length=i*sz+off:=by
  rw[Yu,QT λx hx=>hl x (Dk hx)]
  grind
 have key:=λx=>rO (ts:=[x]) (off:=off) hi (by simp;omega)
 have h1:=(key .nil).1;have h2:=λx=>(key x).2
 have hB:((cs.drop off).take ([T.nil]).length).length=1:=by simp;omega
 have hB2:((cs.drop off).take ([T.nil]).length)[0]?=cs[off]?:=by simp[Yc9]
 have hfl:=QT hl;simp only[List.length_singleton]at h1 h2 hB hB2;generalize (es.take i).flatten++cs.take off=A at h1 h2 hA
 grind
theorem Z1b{α:Type}{xs:List α}{x:α}(h:xs[k]?=some x):xs=xs.take k++[x]++xs.drop (k+1):=by
 obtain⟨h1,rfl⟩:=Y0.1 h;simp
theorem AK.cell{vs:V3}{fp:V2}(h:AK w ts vs fp){t:T}(hk:ts[k]?=some t) :
  ∃v fa fb fc,vs[k]?=some v/\fp=fa++(fb++fc)/\AK w (ts.take k) (vs.take k) fa/\TR w t v fb/\AK w (ts.drop (k+1)) (vs.drop (k+1)) fc:=by
 induction ts generalizing vs fp k with
 |nil=>simp at hk
 |cons x ts ih =>
  cases h with
  |@cons _ v f1 _ vs f2 h1 hs =>
   cases k with
   |zero=>simp at hk;subst hk;exact⟨v,[],f1,f2,rfl,rfl,.nil,h1,hs⟩
   |succ k =>
    obtain⟨v',fa,fb,fc,q1,q2,q3,q4,q5⟩:=ih hs (by simpa using hk);exact⟨v',f1++fa,fb,fc,by simpa using q1,by rw[q2];simp,.cons h1 q3,q4,q5⟩
theorem Ba.cell{vs:V3}(h:Ba w base ts vs){t:T}(hk:ts[k]?=some t) :
  ∃v,vs[k]?=some v/\Ba w base (ts.take k) (vs.take k)/\OW w base t v/\Ba w base (ts.drop (k+1)) (vs.drop (k+1)):=by
 induction ts generalizing vs k with
 |nil=>simp at hk
 |cons x ts ih =>
  cases h with
  |cons h1 hs =>
   cases k with
   |zero=>simp at hk;subst hk;exact⟨_,rfl,.nil,h1,hs⟩
   |succ k =>
    obtain⟨v',q1,q2,q3,q4⟩:=ih hs (by simpa using hk);exact⟨v',by simpa using q1,.cons h1 q2,q3,q4⟩
theorem ZBY(R:Rel N base ρ h w)(hn:ρ nx=none)(hb:gt h b=.xarr el sz es)(hi:es[i]?=some cs)(ho:off<sz){Bz:Nat}{y:V4}{ys:WA}
  (hc:cs[off]?=some (.lst Bz (y::ys))):∃r vc rc rb,ρ b=some r/\(∃e' xs,w.ownsRow base e' sz r.v es.length xs/\xs[i*sz+off]?=some vc)/\rc.v=vc/\rb.v=r.v/\vc.oneCell'=true/\
   Rel N base (Aq (Aq ρ nx rc) b rb) (upd h [(b,.det el sz es i off nx),(nx,.xarr Co Bz (y::ys))]) w/\
   X7 ρ w (Free N ρ h) (Aq (Aq ρ nx rc) b rb) w (Free N (Aq (Aq ρ nx rc) b rb) (upd h [(b,.det el sz es i off nx),(nx,.xarr Co Bz (y::ys))])):=by
 have hd:gt h b≠.dead:=by rw[hb];intro hc;cases hc
 obtain⟨r,hr,hB⟩:=R.blk b hd;have hB0:=hB;rw[hb]at hB;obtain⟨e',xs,he,hown,hsz,hl,ht,how,hnd,hne⟩:=hB;have hbn:b≠nx:=by intro hc;rw[hc,hn]at hr;cases hr
 obtain⟨_,f2,f3⟩:=rZ hl hi ho;obtain⟨vc,fa,fb,fc,q1,q2,q3,q4,q5⟩:=ht.cell (k:=i*sz+off) (by rw[f2];exact hc);obtain⟨vc',o1,o2,o3,o4⟩:=how.cell (k:=i*sz+off) (by rw[f2];exact hc);rw[q1]at o1;cases o1;have hone:=q4.one;generalize hT:T.lst Bz (y::ys)=tt at q4 o3
 cases o3 with
 |sc _ hs=>rw[<-hT]at hs;cases hs
 |lst0=>cases hT
 |@lst _ _ _ e2 xs2 ho2 hs2 =>
  cases hT
  cases q4 with
  |@lst _ _ gc Acd TU cc tec fzc fpc hne2 hsz2 hcap2 hg2 hlen2 hc2 =>
   rcases ho2.2 with⟨hv2,_⟩|⟨g2,cap2,Ace,hv2,hb2,TV,k1,k2,k3,k4⟩
   .cases hv2
   .cases hv2;rw[hg2]at TV;cases TV;rw[Yq,k4]at hc2;have hgt:∀c,gt (upd h [(b,.det el sz es i off nx),(nx,.xarr Co Bz (y::ys))]) c=if c=nx then .xarr Co Bz (y::ys)else if c=b then .det el sz es i off nx else gt h c:=by
     intro c;show gt (stB (stB h b _) nx _) c=_;rw[Vh,Vh]
    have hex:r.ex=fa++(gc::fpc++fc):=q2;have TW:=hnd;rw[hex,CA]at TW;obtain⟨n1,n2,n3⟩:=TW;rw[CA]at n2;obtain⟨n4,n5,n6⟩:=n2
    let rc:Root:=⟨.slice (some ⟨gc,0,none⟩) (y::ys).length TU,[],fpc⟩
    let rb:Root:=⟨r.v,r.fp,fa++fc⟩
    have hrn:Aq (Aq ρ nx rc) b rb nx=some rc:=by simp[Aq,Ne.symm hbn]
    have hrb:Aq (Aq ρ nx rc) b rb b=some rb:=by simp[Aq]
    have hro:∀c,c≠nx->c≠b->Aq (Aq ρ nx rc) b rb c=ρ c:=by intro c h1 h2;simp[Aq,h1,h2]
    have TX:∀g,X3 rc g->g∈r.ex:=by
     intro g hg;rw[hex];rcases hg with hg|hg
     .have:gc=g:=by simpa[rc,Xr]using hg
      subst this;simp
     .grind
    have Ab6:∀g,X3 rb g->X3 r g:=by
     intro g hg;refine hg.imp id λhg=>?_
     grind
    have Acf:∀g,X3 rc g->¬X3 rb g:=by
     intro g h1 h2;have hgx:=TX g h1;rcases h2 with h2|h2
     .exact hne g hgx h2
     .have hm:g∈gc::fpc:=by
       rcases h1 with h1|h1
       .have:gc=g:=by simpa[rc,Xr]using h1
        subst this;simp
       .grind
      grind
    -- where a block's owner was
    have old:∀c r' g,Aq (Aq ρ nx rc) b rb c=some r'->gt (upd h [(b,.det el sz es i off nx),(nx,.xarr Co Bz (y::ys))]) c≠.dead->X3 r' g->
      (c=nx/\r'=rc/\X3 r g)\/(c=b/\r'=rb/\X3 r g)\/(c≠nx/\c≠b/\ρ c=some r'/\gt h c≠.dead):=by
     intro c r' g h1 h2 h3;by_cases e1:c=nx
     .subst e1;rw[hrn]at h1;cases h1;exact .inl ⟨rfl,rfl,.inr (TX g h3)⟩
     .grind
    have hfree:∀g,Free N ρ h g->Free N (Aq (Aq ρ nx rc) b rb) (upd h [(b,.det el sz es i off nx),(nx,.xarr Co Bz (y::ys))]) g:=by
     intro g hg;refine⟨hg.1,λc r' h1 h2 h3=>?_⟩;rcases old c r' g h1 h2 h3 with⟨_,_,q⟩|⟨_,_,q⟩|⟨_,_,q6,q7⟩
     .exact hg.2 b r hr hd q
     .exact hg.2 b r hr hd q
     .exact hg.2 c r' q6 q7 h3
    have hkeep:X7 ρ w (Free N ρ h) (Aq (Aq ρ nx rc) b rb) w (Free N (Aq (Aq ρ nx rc) b rb) (upd h [(b,.det el sz es i off nx),(nx,.xarr Co Bz (y::ys))])):=by
     refine⟨λc r0 h1=>?_,λg _ hg=>⟨hfree g hg,rfl⟩⟩
     grind
    refine⟨r,_,rc,rb,hr,⟨e',xs,hown,q1⟩,rfl,rfl,hone,⟨R.hb,R.hN,?_,?_,?_,?_⟩,hkeep⟩
    .intro c r' g h1 h2 h3;rcases old c r' g h1 h2 h3 with⟨_,_,q⟩|⟨_,_,q⟩|⟨_,_,q6,q7⟩
     .exact R.hO b r g hr hd q
     .exact R.hO b r g hr hd q
     .exact R.hO c r' g q6 q7 h3
    .intro c h2;by_cases e1:c=nx
     .subst e1;refine⟨rc,hrn,?_⟩;rw[hgt,Ya rfl];refine⟨e2,xs2,.inl rfl,⟨ho2.1,.inr ⟨gc,TU,cc,rfl,hb2,hg2,k1,k2,k3,k4⟩⟩,hsz2,hlen2,hc2,hs2,(Ir.1 n4).2,λg hg hv=>?_⟩
      have:gc=g:=by simpa[rc,Xr]using hv
      grind
     .by_cases e2:c=b
      .subst e2;refine⟨rb,hrb,?_⟩;rw[hgt,Yb e1,Ya rfl];refine⟨e',xs,rc,fa,fc,he,hown,hsz,hl,hrn,q1,ho,(Y0.1 hi).1,rfl,q3,q5,o2,o4,?_,λg hg=>hne g (by rw[hex];rcases Yi.1 hg with q|q<;>simp[q])⟩
       grind
      .rw[hgt,Yb e1,Yb e2]at h2|-;obtain⟨r0,h3,h4⟩:=R.blk c h2;exact⟨r0,by rw[hro c e1 e2];exact h3,h4.keep hkeep λ_ _=>rfl⟩
    .intro c c' r1 r2 g h1 h1' h2 h2' h3 h3';rcases old c r1 g h1 h2 h3 with⟨p1,p2,p3⟩|⟨p1,p2,p3⟩|⟨p1,p2,p3,p4⟩<;>rcases old c' r2 g h1' h2' h3' with⟨z1,z2,z3⟩|⟨z1,z2,z3⟩|⟨z1,z2,z3,z4⟩
     .rw[p1,z1]
     .simp_all
     .exact absurd (R.inj b c' r r2 g hr z3 hd z4 p3 h3') (Ne.symm z2)
     .simp_all
     .rw[p1,z1]
     .exact absurd (R.inj b c' r r2 g hr z3 hd z4 p3 h3') (Ne.symm z2)
     .exact absurd (R.inj c b r1 r g p3 hr p4 hd h3 z3) p2
     .exact absurd (R.inj c b r1 r g p3 hr p4 hd h3 z3) p2
     .exact R.inj c c' r1 r2 g p3 z3 p4 z4 h3 h3'
    .intro c c' r1 r2 g h1 h1' h2 h2' h3 h3';rw[hgt]at h2 h2';have m1:c≠nx/\c≠b:=by
      constructor
      .grind
      .intro e;rw[Yb (by rw[e];exact hbn),Ya e]at h2;cases h2
     have m2:c'≠nx/\c'≠b:=by
      constructor
      .grind
      .intro e;rw[Yb (by rw[e];exact hbn),Ya e]at h2';cases h2'
     rw[Yb m1.1,Yb m1.2]at h2;rw[Yb m2.1,Yb m2.2]at h2';rw[hro c m1.1 m1.2]at h1;rw[hro c' m2.1 m2.2]at h1';exact R.apart c c' r1 r2 g h1 h1' h2 h2' h3 h3'
theorem ZBZ{h h':WM}(R:Rel N base ρ h w)(hb:gt h b=.det el sz es i off c)(hi:es[i]?=some cs)(hone:∀rc,ρ c=some rc->rc.v.oneCell'=true)
  (hg:∀d,gt h' d=if d=b then .xarr el sz (es.set i (AF cs off [.any]))else gt h d):Rel N base ρ h' w/\∀g,Free N ρ h g↔Free N ρ h' g:=by
 have hdd:∀d,gt h' d≠.dead↔gt h d≠.dead:=by
  grind
 have hfr:∀g,Free N ρ h g↔Free N ρ h' g:=by
  intro g;exact⟨λq=>⟨q.1,λd r h1 h2=>q.2 d r h1 ((hdd d).1 h2)⟩,λq=>⟨q.1,λd r h1 h2=>q.2 d r h1 ((hdd d).2 h2)⟩⟩
 have hF:Free N ρ h=Free N ρ h':=funext λg=>propext (hfr g)
 have Bu:∀d,Xm (gt h' d)=true->Xm (gt h d)=true:=by
  intro d;rw[hg];split
  .intro q;cases q
  .exact id
 refine⟨⟨R.hb,R.hN,λd r g h1 h2=>R.hO d r g h1 ((hdd d).1 h2),λd h1=>?_,λd d' r r' g h1 h2 h3 h4=>R.inj d d' r r' g h1 h2 ((hdd d).1 h3) ((hdd d').1 h4),λd d' r r' g h1 h2 h3 h4=>R.apart d d' r r' g h1 h2 (Bu d h3) (Bu d' h4)⟩,hfr⟩;obtain⟨r,h2,h3⟩:=R.blk d ((hdd d).1 h1);refine⟨r,h2,?_⟩;rw[hg,<-hF];split
 .rename_i e;rw[e,hb]at h3;obtain⟨e',xs,rc,fa,fc,he,hown,hsz,hl,hrc,hcell,ho,hii,hex,hA,hC,oA,oC,hnd,hne⟩:=h3;obtain⟨f1,_,f3⟩:=rZ hl hi ho;have hxl:=hown.1;have e0:=Z1b hcell;have hone:=hone rc hrc;refine⟨e',xs,he,⟨by rw[CD];exact hown.1,by rw[CD];exact hown.2⟩,hsz,λx hx=>?_,?_,?_,hnd,hne⟩
  .rcases DV hx with hx|hx
   .exact hl x hx
   .subst hx;have:=hl cs (Y3 hi);simp[AF];omega
  .rw[f1,e0,hex];have:=(hA.append (.cons (.any hone) .nil)).append hC;simpa using this
  .rw[f1,e0];exact(oA.append (.cons (.sc _ rfl) .nil)).append oC
 .exact h3
theorem Ei(R:Rel N base ρ h w)(hnx:ρ nx=none)(hn:Un P t=some none){mv:Bool}
  (hv:(match x with
  |.ptr b off=>match gt h b with
   |.box cs=>(U9 cs off none).map (·,([]:List (Nat×Ax)))
   |_=>none
  |.eptr b i sz off=>match gt h b with
   |.xarr el sz' es=>if sz=sz' then(match es[i]? with
    |some cs=>match cs[off]? with
     |some (.lst Bz (y::ys))=>some (AV.own nx,[(b,if mv then .xarr el sz' (es.set i (AF cs off [.any]))else Ax.det el sz' es i off nx),(nx,.xarr Co Bz (y::ys))])
     |some (.lst Bz [])=>some (.t (.lst Bz []),[])
     |_=>none
    |none=>none)else none
   |_=>none
  |_=>none)=some (v,u)) (hx:RV ρ w (Free N ρ h) x xv):AR P N base ρ h w (do pure (.value (<-Instr.loadAt t xv))) v u:=by
 cases hx with
 |@ptr b off g r hr Bx =>
  simp only at hv;split at hv
  .rename_i cs hb;obtain⟨v',hv',he⟩:=Yo.1 hv;cases he;obtain⟨r',h1,h2⟩:=R.blk b (by rw[hb];intro hc;cases hc);rw[hr]at h1;cases h1;rw[hb]at h2;obtain⟨hx0,g',c,te,hv2,_,hh,hcs,hone⟩:=h2;rw[Bx]at hv2;cases hv2;obtain⟨val,h3,h4⟩:=Zq1 (P:=P) hn hh hcs hone hv';exact .same R (by simp[Instr.loadAt,Instr.sureAddr,h3]) h4
  .cases hv
 |@eptr b i sz off g n cap r hr Bx =>
  simp only at hv;split at hv
  .rename_i el sz' es hb;split at hv
   .rename_i hse;subst hse;split at hv
    .rename_i cs hcs;have hd:gt h b≠.dead:=by rw[hb];intro hc;cases hc
     obtain⟨r',h1,h2⟩:=R.blk b hd;rw[hr]at h1;cases h1;rw[hb]at h2;obtain⟨e',xs,_,hown,hsz,hl,ht,_⟩:=h2;have hoff:∀t,cs[off]?=some t->off<sz:=by
      intro t ht;have:=(Y0.1 ht).1;rw[hl cs (Y3 hcs)]at this;exact this
     have hload:∀(e':TypeId) (xs:V3) (vc:Value),w.ownsRow base e' sz r.v es.length xs->xs[i*sz+off]?=some vc->vc.oneCell'=true->(do pure (.value (<-Instr.loadAt t (.pointer (some ⟨g,i*sz+off,none⟩)))):Sem Next).run P w=.ok (.value vc) w:=by
      intro e' xs vc hown hx h1;rcases hown.2 with⟨hv2,_⟩|⟨g',cap',cur,hv2,_,hh,_,_,_,htake⟩
      .rw[Bx]at hv2;cases hv2
      .rw[Bx]at hv2;cases hv2;have hc:cur.toList[i*sz+off]?=some vc:=by
        rw[<-htake,Yc9]at hx;split at hx
        .exact hx
        .cases hx
       have:=Zq0 (P:=P) hn hh hc;simp[Instr.loadAt,Instr.sureAddr,this]
     split at hv
     .rename_i Bz y ys hc;cases hv;obtain⟨r0,vc,rc,rb,h1,⟨e2,xs2,h2,h3⟩,h4,h5,h6,h7,h8⟩:=ZBY R hnx hb hcs (hoff _ hc) hc;rw[hr]at h1;cases h1;have hbn:nx≠b:=by intro hc;rw[<-hc,hnx]at hr;cases hr
      have hρ:Aq (Aq ρ nx rc) b rb nx=some rc:=by simp[Aq,hbn]
      have key:Rel N base (Aq (Aq ρ nx rc) b rb) (upd h [(b,if mv then .xarr el sz (es.set i (AF cs off [.any]))else .det el sz es i off nx),(nx,.xarr Co Bz (y::ys))]) w/\
        X7 ρ w (Free N ρ h) (Aq (Aq ρ nx rc) b rb) w (Free N (Aq (Aq ρ nx rc) b rb) (upd h [(b,if mv then .xarr el sz (es.set i (AF cs off [.any]))else .det el sz es i off nx),(nx,.xarr Co Bz (y::ys))])):=by
       cases mv
       .exact⟨h7,h8⟩
       .obtain⟨k1,k2⟩:=ZBZ (h':=upd h [(b,.xarr el sz (es.set i (AF cs off [.any]))),(nx,.xarr Co Bz (y::ys))]) h7 (b:=b) (c:=nx) (i:=i) (off:=off) (el:=el) (sz:=sz) (es:=es)
         (by show gt (stB (stB h b _) nx _) b=_;rw[Vh,Vh,Yb (Ne.symm hbn),Ya rfl]) hcs (λrc' q=>by rw[hρ]at q;cases q;rw[h4];exact h6) (λd=>by
          show gt (stB (stB h b _) nx _) d=if d=b then _ else gt (stB (stB h b _) nx _) d;rw[Vh,Vh,Vh,Vh];by_cases e1:d=b
          .rw[Yb (by rw[e1];exact Ne.symm hbn),Ya e1,Ya e1]
          .rw[Yb e1,Yb e1,Yb e1])
        exact⟨k1,⟨h8.root,λg hg hF=>⟨(k2 g).1 (h8.free g hg hF).1,(h8.free g hg hF).2⟩⟩⟩
      refine⟨vc,w,_,.inl (hload e2 xs2 vc h2 h3 h6),?_,key.1,key.2,?_,Below.refl _ _,λ_ _ _=>rfl⟩
      .rw[<-h4];exact .own (by simp[Aq,hbn]) (by rw[h4];exact h6)
      .intro c hc;simp at hc;simp[Aq,hc.1,hc.2]
     .rename_i Bz hc;cases hv;obtain⟨_,f2,f3⟩:=rZ hl hcs (hoff _ hc);obtain⟨vc,fa,fb,fc,q1,q2,q3,q4,q5⟩:=ht.cell (k:=i*sz+off) (by rw[f2];exact hc);refine .same R (hload e' xs vc hown q1 q4.one) (.t q4 ?_);intro g' hg'
      cases q4 with
      |lst0=>cases hg'
      |lst hne=>exact absurd rfl hne
     .cases hv
    .cases hv
   .cases hv
  .cases hv
 |_=>simp at hv
theorem Z1c(R:Rel N base ρ h w){r:Root}(hr:ρ b=some r)(hb:gt h b=.xarr el sz es):∃fp,TR w (.lst sz es) r.v fp:=by
 have hd:gt h b≠.dead:=by rw[hb];intro hc;cases hc
 obtain⟨r',h1,h2⟩:=R.blk b hd;rw[hr]at h1;cases h1;rw[hb]at h2;obtain⟨e',xs,_,hown,hsz,hl,ht,_⟩:=h2;by_cases hz:es=[]
 .subst hz;refine⟨[],?_⟩;rcases hown.2 with⟨hv,_⟩|⟨g,cap,cur,hv,_⟩<;>rw[hv]<;>exact .lst0 _ _ _
 .rcases hown.2 with⟨_,hz'⟩|⟨g,cap,cur,hv,hbg,hg,hcap,_,hcs',htake⟩
  .simp_all
  .refine⟨g::r.ex,?_⟩;rw[hv];refine .lst hz hsz hcap hg hl ?_
   simp_all
theorem IF:∀{h:WM} {b:Nat},b ∉ u.map Prod.fst->gt (upd h u) b=gt h b:=by
 induction u with
 |nil=>intro h b _;rfl
 |cons p u ih =>
  intro h b hb;obtain⟨c,x⟩:=p;simp only[Yx,Yz,not_or]at hb;show gt (upd (stB h c x) u) b=_
  simp_all [Vh]
theorem Z1d{h0:WM}(R0:Rel N base ρ (upd h0 u) w){u2:List (Nat×Ax)}(hp0:QM h0 u x=some u2):∃ρ',Rel N base ρ' (upd (upd h0 u) u2) w/\X7 ρ w (Free N ρ (upd h0 u)) ρ' w (Free N ρ' (upd (upd h0 u) u2))/\(∀b,ρ b=none->ρ' b=none)/\∀d,d ∉ u2.map Prod.fst->ρ' d=ρ d:=by
 obtain⟨h,rfl⟩:∃h,h=upd h0 u:=⟨_,rfl⟩;have hp:=hp0;unfold QM at hp;split at hp
 .rename_i b _ _ _;split at hp
  .cases hp
  rename_i hnc;have hgb:gt (upd h0 u) b=gt h0 b:=IF (by simpa using hnc);rw[<-hgb]at hp;generalize upd h0 u=h at *
  rename_i R hgb' ;have R:=R0;split at hp
  .rename_i el sz es i off c hb;split at hp
   .rename_i e2 Bz es2 hc;cases hp;have hd:gt h b≠.dead:=by rw[hb];intro hc;cases hc
    have hdc:gt h c≠.dead:=by rw[hc];intro hc;cases hc
    obtain⟨r,hr,hB⟩:=R.blk b hd;rw[hb]at hB;obtain⟨e',xs,rc,fa,fc,he,hown,hsz,hl,hrc,hcell,ho,hi,hex,hA,hC,oA,oC,hnd,hne⟩:=hB;obtain⟨rc',TY,hBc⟩:=R.blk c hdc;rw[hrc]at TY;cases TY;rw[hc]at hBc;obtain⟨ec,xsc,_,Ej,Aae,hlc,htc,Aaf,Aag,Aah⟩:=hBc;have hbc:b≠c:=by intro e;rw[e,hc]at hb;cases hb
    have hget:es.getD i []=es[i]:=by simp[List.getD,hi]
    rw[hget];have hcs:es[i]?=some es[i]:=Yf hi;obtain⟨f1,f2,f3⟩:=rZ hl hcs ho
    -- the row as a tree
    obtain⟨fb,hT,hfb,Aai⟩:∃fb,TR w (.lst Bz es2) rc.v fb/\(∀g∈fb,X3 rc g)/\fb.Nodup:=by
     by_cases hz:es2=[]
     .subst hz;refine⟨[],?_,Om,Y2⟩;rcases Ej.2 with⟨hv,_⟩|⟨g,cap,cur,hv,_⟩<;>rw[hv]<;>exact .lst0 _ _ _
     .rcases Ej.2 with⟨_,hz'⟩|⟨g,cap,cur,hv,hbg,hg,hcap,_,hcs',htake⟩
      .exact absurd (OM hz') hz
      .have hblk:Xr rc.v=some g:=by rw[hv];rfl
       refine⟨g::rc.ex,?_,?_,?_⟩
       .rw[hv];refine .lst hz Aae hcap hg hlc ?_;rw[Yq,htake];exact htc
       .intro x hx
        cases hx with
        |head=>exact .inl hblk
        |tail _ hx=>exact .inr hx
       .exact Ir.2 ⟨λhx=>Aah g hx hblk,Aag⟩
    have hW:OW w base (.lst Bz es2) rc.v:=.lst Ej Aaf;have hset:∀x∈es.set i (AF es[i] off [.lst Bz es2]),x.length=sz:=by
     intro x hx;rcases DV hx with hx|hx
     .exact hl x hx
     .have:=hl es[i] (Ye hi);subst hx;simp[AF];omega
    have hxs:=Z1b hcell;have hnB:∀g,X3 rc g->¬X3 r g:=λg h1 h2=>hbc (R.inj b c r rc g hr hrc hd hdc h2 h1)
    have key:=TK R (n:=b) (ks:=[c]) (x:=.xarr el sz (es.set i (AF es[i] off [.lst Bz es2]))) (r:=⟨r.v,r.fp,fa++(fb++fc)⟩) (row:=none) (w':=w)
     (by intro r0 h0;rw[hr]at h0;cases h0;rfl) ⟨rfl,rfl,rfl,Yk _,λ_ _ _=>rfl⟩ (by intro g hg;cases hg)
     (by
      intro g hg;right;rcases hg with hg|hg
      .exact⟨b,.inr rfl,r,hr,hd,.inl hg⟩
      .simp only[Yi]at hg;rcases hg with hg|hg|hg
       .exact⟨b,.inr rfl,r,hr,hd,.inr (by rw[hex];simp[hg])⟩
       .exact⟨c,.inl Om,rc,hrc,hdc,hfb g hg⟩
       .exact⟨b,.inr rfl,r,hr,hd,.inr (by rw[hex];simp[hg])⟩)
     (λ_=>by
      refine⟨e',xs,he,by simpa using hown,hsz,hset,?_,?_,?_,?_⟩
      .rw[f1,hxs];have:=(hA.append (.cons hT .nil)).append hC;simpa using this
      .rw[f1,hxs];exact(oA.append (.cons hW .nil)).append oC
      .rw[hex]at hnd;rw[CA]at hnd|-;refine⟨hnd.1,CA.2 ⟨Aai,hnd.2.1,λx hx z hz hxz=>?_⟩,λx hx z hz hxz=>?_⟩
       .subst hxz;exact hnB x (hfb x hx) (.inr (by rw[hex];simp[hz]))
       .subst hxz;rcases Yi.1 hz with hz|hz
        .exact hnB x (hfb x hz) (.inr (by rw[hex];simp[hx]))
        .exact hnd.2.2 x hx x hz rfl
      .intro g hg hv;simp only[Yi]at hg;rcases hg with hg|hg|hg
       .exact hne g (by rw[hex];simp[hg]) hv
       .exact hnB g (hfb g hg) (.inl hv)
       .exact hne g (by rw[hex];simp[hg]) hv)
     (by intro hf;cases hf)
    refine⟨_,key.1,key.2.1,λc' hc'=>?_,λd hd=>?_⟩
    .have:c'≠b:=by intro e;rw[e,hr]at hc';cases hc'
     simp[Aq,this,hc']
    .have:d≠b:=by intro e;subst e;simp at hd
     simp[Aq,this]
   .cases hp
  .cases hp;exact⟨ρ,R,.refl,λ_ h=>h,λ_ _=>rfl⟩
  .cases hp
 .cases hp;exact⟨ρ,R0,.refl,λ_ h=>h,λ_ _=>rfl⟩
 .cases hp
theorem ZCa(R:Rel N base ρ h w){j:Nat}{es2:WA}(hb:gt h c=.xarr el sz es2)(hi:es2[j]?=some cs)
  (hpx:RV ρ w (Free N ρ h) (.eptr c j sz' off) px) (hsz':sz'=sz) (hc:cellsOf v=some vs) (hv:RV ρ w (Free N ρ h) v val) (ht:A9 h vs=some (ts,f,ks)) (Ck:P.info? t=some inf) (hl:vs.length=inf.size) (hle:off+inf.size<=cs.length) (hsc:ts.all ZX=true) {el1 TC D1:Nat} (Acg:gt h b=.det el1 TC es i D1 c) (hbc:b≠c) :
  AR P N base ρ h w (do Instr.storeAt t px val;pure .skip) .top [(c,.xarr el sz (es2.set j (AF cs off (wk (cs.drop off) ts)))),(c,.dead),(b,.xarr el1 TC (es.set i (AF (es.getD i []) D1 [.lst sz (es2.set j (AF cs off (wk (cs.drop off) ts)))])))]:=by
 obtain⟨v',w',ρ1,hrun,_,hR,hK,hS,hB,hA⟩:=Z1a (P:=P) R hb hi hpx hsz' hc hv ht Ck hl hle hsc;have hp:QM h [(c,.xarr el sz (es2.set j (AF cs off (wk (cs.drop off) ts))))] (.eptr b 0 0 0)=some [(c,.dead),(b,.xarr el1 TC (es.set i (AF (es.getD i []) D1 [.lst sz (es2.set j (AF cs off (wk (cs.drop off) ts)))])))]:=by
  have hg:gt (upd h [(c,Ax.xarr el sz (es2.set j (AF cs off (wk (cs.drop off) ts))))]) c=.xarr el sz (es2.set j (AF cs off (wk (cs.drop off) ts))):=by
   simp[upd,Vh]
  simp only[QM]
  simp_all
 obtain⟨ρ2,r1,r2,_,r4⟩:=Z1d hR hp;refine⟨v',w',ρ2,hrun,.top _,?_,?_,?_,hB,hA⟩
 .exact r1
 .exact hK.trans r2 hB.size
 .simp_all
theorem Z1e:∀{es:WA} {ns:WL},OS es=some ns->es.flatten=ns.map (T.int .u8)/\es.length=ns.length
 |[],ns,h=>by cases h;exact⟨rfl,rfl⟩
 |x::es,ns,h=>by
  unfold OS at h;split at h
  .rename_i heq;cases heq
  .rename_i n es' heq;cases heq;obtain⟨ms,h1,rfl⟩:=Yo.1 h;obtain⟨q1,q2⟩:=Z1e h1
   simp_all
  .cases h
theorem AK.bytes:∀{ns:WL} {vs:V3} {fp:V2},AK w (ns.map (T.int .u8)) vs fp->vs=ns.map (Value.int .u8)
 |[],_,_,h=>by cases h;rfl
 |n::ns,_,_,h=>by
  cases h with
  |cons h hs =>
   cases h;simp[AK.bytes hs]
theorem Ek(R:Rel N base ρ h w){s d el:TypeId}(hs:P.underlying s=some (.slice el))(hel:P.underlying el=some (.int .u8))(hd:P.underlying d=some .string){lb:Nat}{fr:Bool}(hb:gt h b=.arr lb 1 fr es)
  {ns:WL} (hns:OS es=some ns) (hx:RV ρ w (Free N ρ h) (.own b) xv):AR P N base ρ h w (do pure (.value (<-convert s d xv))) (.t (.str (TB ns))) []:=by
 cases hx with
 |@own _ r hr hone =>
  obtain⟨r',h1,h2⟩:=R.blk b (by rw[hb];intro hc;cases hc);rw[hr]at h1;cases h1;rw[hb]at h2;obtain⟨_,_,xs,_,ho,_,_,ht,_⟩:=h2;obtain⟨q1,q2⟩:=Z1e hns;rw[q1]at ht;have hxs:=ht.bytes;refine .same R ?_ (.str_mk _);rcases ho.2 with⟨hv,hz⟩|⟨g,cap,cur,hv,_,hg,_,_,_,htake⟩
  .have:ns=[]:=OM Z
   subst this;have:=run_convert_bytes_nil (P:=P) w s el hs hel 0 0 d hd;rw[hv];simp[this];rfl
  .have:=run_convert_bytes_arg (P:=P) w s el hs hel g 0 es.length cap ns q2.symm (λi hi=>by
    have hc:=ho.cells (g:=g) (by rw[hv];rfl) i (.int .u8 (ns.getD i 0)) (by
     rw[hxs,Tx,Yf Z]
     simp[List.getD,show i<ns.length by omega])
    rwa [QS]at hc) d hd
   rw[hv];simp[this];rfl
end
open Go.RowKit (Below)
section
variable{P:Program}{N:Bi}{base:Nat}{ρ:Map}{h:WM}{w w':World}{F:Nat->Prop}{e:Env}{a:Act}{t ut el:TypeId}{xv:Value}{v x:AV}{u:List (Nat×Ax)}{n:Option Nat}{i:TypeInfo}{f off m:Nat}{k:IntKind}{cs:XQ}
theorem Fv(R:Rel N base ρ h w)(hn:Un P t=some n)
  (hv:(match x with
  |.ptr b off=>match gt h b with
   |.box cs=>(U9 cs off n).map (·,([]:List (Nat×Ax)))
   |_=>none
  |.eptr b i sz off=>match gt h b with
   |.arr _ sz' _ es=>if sz=sz' then(match es[i]? with
    |some cs=>(KQ cs off n).map (·,[])
    |none=>none)else none
   |.xarr _ sz' es=>if sz=sz' then(match es[i]? with
    |some cs=>match KQ cs off n with
     |some v=>if scal1 v=true then some (v,[])else none
     |none=>none
    |none=>none)else none
   |_=>none
  |.iptr cs off=>(KQ cs off n).map (·,[])
  |_=>none)=some (v,u)) (hx:RV ρ w (Free N ρ h) x xv) :
  AR P N base ρ h w (do pure (.value (<-Instr.loadAt t xv))) v u:=by
 cases hx with
 |@ptr b off g r hr Bx =>
  simp only at hv;split at hv
  .rename_i cs hb;obtain⟨v',hv',he⟩:=Yo.1 hv;cases he;obtain⟨r',h1,h2⟩:=R.blk b (by rw[hb];intro hc;cases hc);rw[hr]at h1;cases h1;rw[hb]at h2;obtain⟨hx0,g',c,te,hv2,_,hh,hcs,hone⟩:=h2;rw[Bx]at hv2;cases hv2;obtain⟨val,h3,h4⟩:=Zq1 (P:=P) hn hh hcs hone hv';exact .same R (by simp[Instr.loadAt,Instr.sureAddr,h3]) h4
  .cases hv
 |@eptr b i sz off g m cap r hr Bx =>
  simp only at hv;split at hv
  .rename_i el sz' fr es hb;split at hv
   .rename_i hse;subst hse;split at hv
    .rename_i cs hcs;obtain⟨v',hv',he⟩:=Yo.1 hv;cases he;obtain⟨r',h1,h2⟩:=R.blk b (by rw[hb];intro hc;cases hc);rw[hr]at h1;cases h1;rw[hb]at h2;obtain⟨_,_,xs,_,ho,hsz,hl,ht,hf,_⟩:=h2;rcases ho.2 with⟨hv2,_⟩|⟨g',cap',cur,hv2,_,hh,_,_,_,htake⟩
     .simp_all
     .rw[Bx]at hv2;cases hv2;obtain⟨fq,h3,h4⟩:=ht.elem hl hcs;have hcl:cs.length=sz:=hl cs (Y3 hcs);have hlt:i<es.length:=(Y0.1 hcs).1;have hmul:i*sz+sz<=es.length*sz:=by
       have:=DA sz (show i+1<=es.length from hlt)
       rwa [DK,Gx]at this
      rw[<-htake,OI,Fe,DJ Z]at h3;obtain⟨val,h5,h6⟩:=Zq2 (P:=P) (ρ:=ρ) (F:=Free N ρ h) hn hh h3 (λg hg=>hf g (h4 g hg)) hv';exact .same R (by simp[Instr.loadAt,Instr.sureAddr,h5]) h6
    .cases hv
   .cases hv
  .rename_i BV sz' es hb;split at hv
   .rename_i hse;subst hse;split at hv
    .rename_i cs hcs;split at hv
     .rename_i v' hv';split at hv
      .rename_i hsc;cases hv;obtain⟨r',h1,h2⟩:=R.blk b (by rw[hb];intro hc;cases hc);rw[hr]at h1;cases h1;rw[hb]at h2;obtain⟨_,xs,_,ho,hsz,hl,ht,_⟩:=h2;rcases ho.2 with⟨hv2,_⟩|⟨g',cap',cur,hv2,_,hh,_,_,_,htake⟩
       .simp_all
       .rw[Bx]at hv2;cases hv2;obtain⟨fq,h3,h4⟩:=ht.elem hl hcs;have hcl:cs.length=sz:=hl cs (Y3 hcs);have hlt:i<es.length:=(Y0.1 hcs).1;have hmul:i*sz+sz<=es.length*sz:=by
         have:=DA sz (show i+1<=es.length from hlt)
         rwa [DK,Gx]at this
        rw[<-htake,OI,Fe,DJ Z]at h3;obtain⟨val,h5,h6⟩:=Zq2 (P:=P) (ρ:=ρ) (F:=λ_=>True) hn hh h3 (λg hg=>trivial) hv';exact .same R (by simp[Instr.loadAt,Instr.sureAddr,h5]) (h6.scal1 hsc)
      .cases hv
     .cases hv
    .cases hv
   .cases hv
  .cases hv
 |@iptr cs off g o c te fz fp hg hF hc hf =>
  simp only at hv;obtain⟨v',hv',he⟩:=Yo.1 hv;cases he;obtain⟨val,h5,h6⟩:=Zq2 (P:=P) (ρ:=ρ) (F:=Free N ρ h) hn hg hc hf hv'
  exact .same R (by simp[Instr.loadAt,Instr.sureAddr,h5]) h6
 |_=>simp at hv
theorem El(R:Rel N base ρ h w)(hi:P.info? t=some i){y:AV}{yv:Value}(hy:RV ρ w (Free N ρ h) y yv)
  (hv:(match cellsOf y with
  |some vs=>if vs.length=i.size then(match x with
   |.ptr b off=>match gt h b with
    |.box cs=>if off+i.size<=cs.length then some (.top,[(b,.box (VT cs off vs))])else none
    |_=>none
   |.eptr b j sz off=>match gt h b with
    |.arr el sz' fr es=>match es[j]?,A9 h vs with
     |some cs,some (ts,f,ks) =>
      if off+i.size<=cs.length/\VU (b::ks)/\sz=sz' then some (.top,kill ks++[(b,.arr el sz' (fr && f) (es.set j (AF cs off (wk (cs.drop off) ts))))])else none
     |_,_=>none
    |.xarr el sz' es=>match es[j]?,A9 h vs with
     |some cs,some (ts,_,_) =>
      if off+i.size<=cs.length/\ts.all ZX/\sz=sz' then some (.top,[(b,.xarr el sz' (es.set j (AF cs off (wk (cs.drop off) ts))))])else none
     |_,_=>none
    |_=>none
   |_=>none)else none
  |none=>none)=some (v,u)) (hx:RV ρ w (Free N ρ h) x xv) :
  AR P N base ρ h w (do Instr.storeAt t xv yv;pure .skip) v u:=by
 split at hv
 .rename_i vs hvs;split at hv
  .rename_i hl;split at hv
   .rename_i b off;split at hv
    .rename_i cs hb;split at hv
     .rename_i hle;cases hv;exact ZBO R hb rfl hx hvs hy hi hl hle
     .cases hv
    .cases hv
   .rename_i b j sz off;split at hv
    .rename_i el sz' fr es hb;split at hv
     .rename_i cs ts f ks hcs hts;split at hv
      .rename_i hcond;cases hv;exact ZBP R hb hcs hx hcond.2.2 hvs hy hts hi hl hcond.1 hcond.2.1
      .cases hv
     .cases hv
    .rename_i el sz' es hb;split at hv
     .rename_i cs ts f ks hcs hts;split at hv
      .rename_i hcond;cases hv;exact Z1a R hb hcs hx hcond.2.2 hvs hy hts hi hl hcond.1 hcond.2.1
      .cases hv
     .cases hv
    .cases hv
   .cases hv
  .cases hv
 .cases hv
theorem ok_slice(R:Rel N base ρ h w){nx:Nat}(hn:ρ nx=none)(hE:XB ρ w (Free N ρ h) e a.tmps){lo hi:Option Operand}{lo' hi':Option AO}
  (hlo:(match lo with|none=>some none|some o=>(AZ o).map some)=some lo') (hhi:(match hi with|none=>some none|some o=>(AZ o).map some)=some hi') {sz:Option Nat}
  (hv:(match bnd e 0 lo' with
  |none=>none
  |some l=>match sz,x with
   |none,.t (.str s)=>match bnd e s.size hi' with
    |some r=>if l<=r/\r<=s.size then some (AV.t (.str (s.extract l r)),([]:List (Nat×Ax)))else none
    |none=>none
   |some sz,.t (.lst sz' es)=>match bnd e es.length hi' with
    |some r=>if l<=r/\r<=es.length/\sz'=sz then some (.t (.lst sz ((es.take r).drop l)),[])else none
    |none=>none
   |some sz,.own b=>match gt h b with
    |.arr el sz' fr es=>match bnd e es.length hi' with
     |some r=>if l=0/\r<=es.length/\sz'=sz then some (.own nx,kill [b]++[(nx,.arr el sz fr (es.take r))])else none
     |none=>none
    |_=>none
   |_,_=>none)=some (v,u))
  (hsz:(match P.underlying t with|some .string=>some none|some (.slice e)=>(P.info? e).map λi=>some i.size|_=>none)=some sz) (hx:RV ρ w (Free N ρ h) x xv) :
  AR P N base ρ h w (do pure (.value (<-Instr.sliceAt t xv (lo.map a.eval) (hi.map a.eval) ((none:Option Operand).map a.eval)))) v u:=by
 split at hv
 .cases hv
 .rename_i l hl;split at hv
  .rename_i s;split at hv
   .rename_i r hr;split at hv
    .rename_i hc;cases hv;cases hx.str_inv;have hu:P.underlying t=some .string:=by
      revert hsz;split
      .intro;assumption
      .intro h1;obtain⟨_,_,h2⟩:=Yo.1 h1;cases h2
      .intro h1;cases h1
     have hb:=TT (P:=P) hE hlo hhi (len:=s.size) (cap:=s.size) hl hr hc.1 hc.2 false;exact .same R (by simp[Instr.sliceAt,Instr.slice,run_underlying hu,hb]) (.str_mk _)
    .cases hv
   .cases hv
  .rename_i sz' Bz es;split at hv
   .rename_i r hr;split at hv
    .rename_i hc;obtain⟨hc1,hc2,rfl⟩:=hc;cases hv;obtain⟨el,i,hu,hi',rfl⟩:∃el i,P.underlying t=some (.slice el)/\P.info? el=some i/\Bz=i.size:=by
      revert hsz;split
      .intro h1;cases h1
      .rename_i el hu;intro h1;obtain⟨i,h2,h3⟩:=Yo.1 h1;cases h3;exact⟨el,i,hu,h2,rfl⟩
      .intro h1;cases h1
     cases hx with
     |t hT hf =>
      cases hT with
      |lst0 _ ad cap =>
       simp at hc2;subst hc2;obtain rfl:l=0:=by omega
       have hb:=TT (P:=P) hE hlo hhi (len:=0) (cap:=cap) hl hr (Yk _) (Yc _) true;refine .same R (val:=.slice (if cap=0 then ad else ad.map (·.add (0*i.size))) 0 cap) (by simp[Instr.sliceAt,Instr.slice,run_underlying hu,hb,sizeOf,typeInfo,hi']) ?_;simp only[List.take_nil,List.drop_nil]
       exact .t (.lst0 _ _ _) (by intro g hg;cases hg)
      |@lst _ _ g off cap c te fz fp' hne hsz' hcap hg hlen hcc =>
       have hb:=TT (P:=P) hE hlo hhi (len:=es.length) (cap:=cap) hl hr hc1 Z true;by_cases hemp:l=r
       .subst hemp;have he:(es.take l).drop l=[]:=by simp
        rw[he];refine .same R (val:=.slice (if cap=l then some ⟨g,off,none⟩else some ((⟨g,off,none⟩:Addr).add (l*i.size))) 0 (cap-l)) (by simp[Instr.sliceAt,Instr.slice,run_underlying hu,hb,sizeOf,typeInfo,hi']) ?_;exact .t (.lst0 _ _ _) (by intro g hg;cases hg)
       .have hne':cap≠l:=by omega
        obtain⟨fq,h3,h4⟩:=hcc.mid hlen hc1 hc2;have hlen':((es.take r).drop l).length=r-l:=by simp;omega
        refine .same R (val:=.slice (some ⟨g,off+l*i.size,none⟩) (r-l) (cap-l)) (by simp[Instr.sliceAt,Instr.slice,run_underlying hu,hb,sizeOf,typeInfo,hi',hne',QS]) ?_;have hT2:TR w (.lst i.size ((es.take r).drop l)) (.slice (some ⟨g,off+l*i.size,none⟩) ((es.take r).drop l).length (cap-l)) (g::fq):=by
         refine .lst (c:=c) (e:=te) (fz:=fz) ?_ hsz' Z hg (λx hx=>hlen x (Dk (Is hx))) ?_
         .intro hnil;rw[hnil]at hlen';simp at hlen';omega
         .rw[hlen'];have hm:(r-l)*i.size<=es.length*i.size-l*i.size:=by
           rw[<-Nat.sub_mul];exact DA _ Z
          have e3:List.take ((r-l)*i.size) (List.drop (l*i.size) (List.take (es.length*i.size) (List.drop off c.toList)))=List.take ((r-l)*i.size) (List.drop (off+l*i.size) c.toList):=by
           rw[OI,Fe,Iq,DJ hm]
          rw[e3]at h3;exact h3
        rw[hlen']at hT2
        exact .t hT2 (by
         intro g' hg'
         cases hg' with
         |head=>exact hf _ Om
         |tail _ hg'=>exact hf g' (by simp[h4 g' hg']))
    .cases hv
   .cases hv
  .rename_i Bz b;split at hv
   .rename_i el sz' fr es hgb;split at hv
    .rename_i r hr;split at hv
     .rename_i hc;obtain⟨rfl,hc2,rfl⟩:=hc;cases hv;obtain⟨BV,i,hu,hi',rfl⟩:∃el i,P.underlying t=some (.slice el)/\P.info? el=some i/\sz'=i.size:=by
       revert hsz;split
       .intro h1;cases h1
       .rename_i el hu;intro h1;obtain⟨i,h2,h3⟩:=Yo.1 h1;cases h3;exact⟨el,i,hu,h2,rfl⟩
       .intro h1;cases h1
      have hd:gt h b≠.dead:=by rw[hgb];intro hc;cases hc
      obtain⟨rt,hrt,hB⟩:=R.blk b hd;rw[hgb]at hB;obtain⟨_,e0,xs,he0,ho,hsz0,hl1,ht1,hf1,Fu,Cw⟩:=hB
      cases hx with
      |@own _ r2 hr2 hone =>
       rw[hrt]at hr2;cases hr2;have hfb:fr=true->Xm (gt h b)=true:=λhft=>by rw[hgb];exact hft
       have e1:es.flatten=(es.take r).flatten++(es.drop r).flatten:=by rw[<-E2,Ycx]
       rw[e1]at ht1 Cw;obtain⟨fa,fb,hfp,h3,_⟩:=ht1.split;replace Cw:=λhft=>(Cw hft).split.1
       have hfl:(es.take r).flatten.length=r*i.size:=by
        rw[QT λx hx=>hl1 x (Dk hx)];simp;rw[DJ hc2]
       rw[hfl]at h3 Cw;have hlr:(es.take r).length=r:=by simp;omega
       have hsub:∀g∈fa,g∈rt.fp:=λg hg=>by rw[hfp];simp[hg]
       have fin:∀vv,(Instr.sliceAt t rt.v (lo.map a.eval) (hi.map a.eval) ((none:Option Operand).map a.eval)).run P w=.ok vv w->w.ownsRow base e0 i.size vv r (xs.take (r*i.size))->(∀g,Xr vv=some g->Xr rt.v=some g)->
         AR P N base ρ h w (do pure (.value (<-Instr.sliceAt t rt.v (lo.map a.eval) (hi.map a.eval) ((none:Option Operand).map a.eval)))) (.own nx) (kill [b]++[(nx,.arr el i.size fr (es.take r))]):=by
        intro vv hrun hown hblk;have:=TO (P:=P) R hn (s:=(do pure (.value (<-Instr.sliceAt t rt.v (lo.map a.eval) (hi.map a.eval) ((none:Option Operand).map a.eval))))) (vv:=vv) (w':=w) (by simp at hrun;simp[hrun]) (row:=none)
         ⟨rfl,rfl,rfl,Yk _,λ_ _ _=>rfl⟩ hsz0 (es1:=es.take r) (es2:=[]) (xs1:=xs.take (r*i.size)) (xs2:=[]) (fp1:=fa) (fp2:=[]) (fr1:=fr) (f:=true) (kd:=[b]) (ks:=[])
         (by simpa[hlr]using hown) (λx hx=>hl1 x (Dk hx)) Om h3 .nil (Bj.nil _) Y2 (λg hg=>hf1 g (hsub g hg))
         (λhft=>⟨by have:=(Fu hft).1;rw[hfp]at this;exact(CA.1 this).1,λg hg=>(Fu hft).2 g (hsub g hg)⟩)
         (by intro hft g hg d rd hdk hrd hfd hgd;exact hdk (by rw[<-R.apart b d rt rd g hrt hrd (hfb hft) hfd (hsub g hg) hgd];simp))
         (by intro _ _ _ k hk;cases hk) (by intro g hg;cases hg) (by intro g hg;exact .inr ⟨b,Om,rt,hrt,hd,.inl (hblk g hg)⟩) (by intro g k hk;cases hk) Cw (λ_=>.nil) (lb:=el) he0
        simpa using this
       rcases ho.2 with⟨hv,hz⟩|⟨g,cap,cur,hv,hbg,hg,hcap,hmx,hcs,htake⟩
       .have he:es=[]:=OM hz;subst he;simp at hc2;subst hc2;have hb:=TT (P:=P) hE hlo hhi (len:=0) (cap:=0) hl hr (Yk _) (Yk _) true;refine fin (.slice none 0 0) ?_ ⟨Om,.inl ⟨rfl,rfl⟩⟩ (by intro g hg;cases hg);rw[hv];simp[Instr.sliceAt,Instr.slice,run_underlying hu,hb,sizeOf,typeInfo,hi']
       .have hb:=TT (P:=P) hE hlo hhi (len:=es.length) (cap:=cap) hl hr (Yc _) Z true;refine fin (.slice (some ⟨g,0,none⟩) r cap) ?_ ⟨?_,.inr ⟨g,cap,cur,rfl,hbg,hg,Z,hmx,hcs,?_⟩⟩ (by intro g' hg';rw[hv];exact hg')
        .rw[hv];simp[Instr.sliceAt,Instr.slice,run_underlying hu,hb,sizeOf,typeInfo,hi',QS]
        .rw[Yw,ho.1,DJ (DA _ hc2)]
        .rw[<-htake,Fe,DJ (DA _ hc2)]
     .cases hv
    .cases hv
   .cases hv
  .cases hv
theorem Z1f(hf:OX P t f=some (off,ut)) :
  ∃fs fd i,P.underlying t=some (.struct fs)/\fs[f]?=some fd/\P.info? fd.type=some i/\i.size≠0/\fd.offset=off/\fd.type=ut:=by
 unfold OX at hf
 grind
theorem Em(R:Rel N base ρ h w)(hf:OX P t f=some (off,ut))
  (hv:(match x with
  |.ptr b o=>some (AV.ptr b (o+off),([]:List (Nat×Ax)))
  |.eptr b i sz o=>some (.eptr b i sz (o+off),[])
  |.iptr cs o=>some (.iptr cs (o+off),[])
  |_=>none)=some (v,u)) (hx:RV ρ w (Free N ρ h) x xv) :
  AR P N base ρ h w (do pure (.value (<-Instr.fieldAt t xv f))) v u:=by
 obtain⟨fs,fd,i,hu,hfd,hi,hs,rfl,_⟩:=Z1f hf;have key:∀g o,xv=.pointer (some ⟨g,o,none⟩)->((do pure (.value (<-Instr.fieldAt t xv f))):Sem Next).run P w=.ok (.value (.pointer (some ⟨g,o+fd.offset,none⟩))) w:=by
  intro g o hxv;subst hxv;simp[Instr.fieldAt,run_underlying hu,hfd,Instr.sureAddr,fieldPlace,sizeOf,typeInfo,hi,hs,QS]
 cases hx with
 |ptr hr Bx=>simp at hv;obtain⟨rfl,rfl⟩:=hv;exact .same R (key _ _ rfl) (.ptr hr Bx)
 |eptr hr Bx=>simp at hv;obtain⟨rfl,rfl⟩:=hv;refine .same R (key _ _ rfl) ?_;rw[Ty];exact .eptr hr Bx
 |iptr hg hF hc Bu=>simp at hv;obtain⟨rfl,rfl⟩:=hv;refine .same R (key _ _ rfl) ?_;rw[Ty];exact .iptr hg hF hc Bu
 |_=>simp at hv
theorem En(R:Rel N base ρ h w)(hu:P.underlying t=some (.array m el))(hi:P.info? el=some i){n:Int}(h0:0<=n)(h1:n.toNat<m)
  (hv:(match x with
  |.ptr b o=>some (AV.ptr b (o+n.toNat*i.size),([]:List (Nat×Ax)))
  |.eptr b j s o=>some (.eptr b j s (o+n.toNat*i.size),[])
  |.iptr cs o=>some (.iptr cs (o+n.toNat*i.size),[])
  |_=>none)=some (v,u)) (hx:RV ρ w (Free N ρ h) x xv) :
  AR P N base ρ h w (do pure (.value (<-Instr.indexAt t xv (.int k n)))) v u:=by
 have h2:n<(m:Int):=by omega
 have key:∀g o,xv=.pointer (some ⟨g,o,none⟩)->((do pure (.value (<-Instr.indexAt t xv (.int k n)))):Sem Next).run P w=.ok (.value (.pointer (some ⟨g,o+n.toNat*i.size,none⟩))) w:=by
  intro g o hxv;subst hxv;simp[Instr.indexAt,asIntOf,run_underlying hu,Instr.sureAddr,h0,h2,sizeOf,typeInfo,hi,QS]
 cases hx with
 |ptr hr Bx=>simp at hv;obtain⟨rfl,rfl⟩:=hv;exact .same R (key _ _ rfl) (.ptr hr Bx)
 |eptr hr Bx=>simp at hv;obtain⟨rfl,rfl⟩:=hv;refine .same R (key _ _ rfl) ?_;rw[Ty];exact .eptr hr Bx
 |iptr hg hF hc Bu=>simp at hv;obtain⟨rfl,rfl⟩:=hv;refine .same R (key _ _ rfl) ?_;rw[Ty];exact .iptr hg hF hc Bu
 |_=>simp at hv
theorem Fw(R:Rel N base ρ h w)(hu:P.underlying t=some (.array m el))(hi:P.info? el=some i)(hn:Un P el=some n)(hx:RV ρ w (Free N ρ h) (.agg cs) xv){j:Int}(h0:0<=j)(hj:j.toNat<m)(hv:U9 cs (j.toNat*i.size) n=some v):AR P N base ρ h w (do pure (.value (<-Instr.index t xv (.int k j)))) v []:=by
 have h2:j<(m:Int):=by omega
 cases hx with
 |@agg _ c hc h1 =>
  have hag:=rN (P:=P) hn w
  cases n with
  |none =>
   obtain⟨val,h2',h3⟩:=hc.at hv;have h2':c[j.toNat*i.size]?=some val:=by simpa using h2'
   exact .same R (by simp[Instr.index,asIntOf,run_underlying hu,h0,h2,sizeOf,typeInfo,hi,part,hag,h2']) h3
  |some q =>
   simp only[U9]at hv;split at hv
   .rename_i hle;cases hv;obtain⟨i',hi',hk⟩:=Zqz hn;rw[hi]at hi';cases hi';subst hk;refine .same R (val:=.agg (c.extract (j.toNat*i.size) (j.toNat*i.size+i.size))) (by simp[Instr.index,asIntOf,run_underlying hu,h0,h2,sizeOf,typeInfo,hi,part,hag]) ?_;have e:(c.extract (j.toNat*i.size) (j.toNat*i.size+i.size)).toList=(c.toList.drop (j.toNat*i.size)).take i.size:=by
     simp
    refine .agg (by rw[e];exact(hc.drop _).take _) ?_
    grind
   .cases hv
theorem Eo(R:Rel N base ρ h w)(hf:OX P t f=some (off,ut))(hn:Un P ut=some n)(hx:RV ρ w (Free N ρ h) (.agg cs) xv)
  (hv:U9 cs off n=some v):AR P N base ρ h w (do pure (.value (<-Instr.field t xv f))) v []:=by
 obtain⟨fs,fd,i,hu,hfd,hi,hs,rfl,rfl⟩:=Z1f hf
 cases hx with
 |@agg _ c hc h1 =>
  have hag:=rN (P:=P) hn w
  cases n with
  |none =>
   obtain⟨val,h2,h3⟩:=hc.at hv;have h2':c[fd.offset]?=some val:=by simpa using h2
   exact .same R (by simp[Instr.field,run_underlying hu,hfd,asAgg,part,hag,h2']) h3
  |some k =>
   simp only[U9]at hv;split at hv
   .rename_i hle;cases hv;obtain⟨i',hi',hk⟩:=Zqz hn;rw[hi]at hi';cases hi';subst hk;refine .same R (val:=.agg (c.extract fd.offset (fd.offset+i.size))) (by simp[Instr.field,run_underlying hu,hfd,asAgg,part,hag,sizeOf,typeInfo,hi]) ?_;have e:(c.extract fd.offset (fd.offset+i.size)).toList=(c.toList.drop fd.offset).take i.size:=by
     simp
    refine .agg (by rw[e];exact(hc.drop _).take _) ?_
    grind
   .cases hv
end
open Go.RowKit (Below)
section
variable{P:Program}{N:Bi}{base:Nat}{ρ:Map}{h:WM}{w:World}{e:Env}{a:Act}{inl:V2}{ops:Array Oper}{t ty:TypeId}{x:AV}{xv:Value}{n:Nat}
theorem IG(R:Rel N base ρ h w){el:TypeId}(hx:RV ρ w (Free N ρ h) x xv)(hl:VV h false x=some n)(hu:P.underlying t=some (.slice el)) :
  AR P N base ρ h w (do pure (.value (<-Builtin.len_ #[t] ty #[xv]))) (.t (.int .i64 (n:Int))) []:=by
 refine .same R ?_ (.int_mk _ _);have hsl:∃c m,xv=.slice c n m:=by
  cases hx with
  |t hT hf =>
   cases hT with
   |nil=>simp[VV]at hl;subst hl;exact⟨_,_,rfl⟩
   |lst0=>simp[VV]at hl;subst hl;exact⟨_,_,rfl⟩
   |lst=>simp[VV]at hl;subst hl;exact⟨_,_,rfl⟩
   |_=>simp[VV]at hl
  |@own b r' hr' hone =>
   simp only[VV]at hl;split at hl
   .rename_i BV sz fr es hb;cases hl;obtain⟨r2,h1,h2⟩:=R.blk b (by rw[hb];intro hc;cases hc);rw[hr']at h1;cases h1;rw[hb]at h2;obtain⟨_,_,xs,_,ho,_⟩:=h2;rcases ho.2 with⟨hv',hz⟩|⟨g,cap,cur,hv',_⟩
    .simp_all
    .simp_all
   .rename_i BV sz es hb;cases hl;obtain⟨r2,h1,h2⟩:=R.blk b (by rw[hb];intro hc;cases hc);rw[hr']at h1;cases h1;rw[hb]at h2;obtain⟨_,xs,_,ho,_⟩:=h2;rcases ho.2 with⟨hv',hz⟩|⟨g,cap,cur,hv',_⟩
    .simp_all
    .simp_all
   .cases hl
  |bsl=>simp[VV]at hl;subst hl;exact⟨_,_,rfl⟩
  |_=>simp[VV]at hl
 obtain⟨c,m,rfl⟩:=hsl;simp[Builtin.len_,run_underlying hu,goInt]
theorem Fx(R:Rel N base ρ h w)(hx:RV ρ w (Free N ρ h) x xv)(hl:VV h true x=some n)(hu:P.underlying t=some .string) :
  AR P N base ρ h w (do pure (.value (<-Builtin.len_ #[t] ty #[xv]))) (.t (.int .i64 (n:Int))) []:=by
 refine .same R ?_ (.int_mk _ _);cases x<;>try (simp[VV]at hl;done)
 rename_i tx;cases tx<;>try (simp[VV]at hl;done)
 simp[VV]at hl;subst hl;rw[hx.str_inv];simp[Builtin.len_,run_underlying hu,goInt]
set_option maxHeartbeats 1000000 in
theorem Ep{o:Oper}{k:AY}(hk:Xg P inl ops o.op=some k)(hE:XB ρ w (Free N ρ h) e a.tmps)(R:Rel N base ρ h w){nx:Nat}(hn:ρ nx=none){v:AV}{u:List (Nat×Ax)}
  (hev:Zy h nx e k=some (v,u)):AR P N base ρ h w (execOp a.eval o) v u:=by
 unfold execOp
 cases hop:o.op with
 |move x =>
  rw[hop]at hk;dsimp only;simp only[Xg]at hk;obtain⟨x',hx,rfl⟩:=Option.map_eq_some_iff.1 hk;simp[Zy]at hev;obtain⟨rfl,rfl⟩:=hev
  exact .same R rfl (ZY hE hx)
 |assign x =>
  rw[hop]at hk;dsimp only;simp only[Xg]at hk;obtain⟨x',hx,rfl⟩:=Option.map_eq_some_iff.1 hk;simp[Zy]at hev;obtain⟨rfl,rfl⟩:=hev
  exact .same R rfl (ZY hE hx)
 |pick c x y =>
  rw[hop]at hk;dsimp only;simp only[Xg]at hk;split at hk
  .rename_i c' x' y' hc hx hy;cases hk;simp only[Zy]at hev;split at hev
   .rename_i hcv;cases hev;have h1:=ZY hE hc;rw[hcv]at h1;exact .same R (by simp[h1.bool_inv,asBool]) (ZY hE hx)
   .rename_i hcv;cases hev;have h1:=ZY hE hc;rw[hcv]at h1;exact .same R (by simp[h1.bool_inv,asBool]) (ZY hE hy)
   .cases hev
  .cases hk
 |alloc t =>
  rw[hop]at hk;dsimp only;simp only[Xg]at hk;obtain⟨zs,hz,rfl⟩:=Option.map_eq_some_iff.1 hk;simp[Zy]at hev
  grind [D8]
 |box t x =>
  rw[hop]at hk;dsimp only;simp only[Xg]at hk;obtain⟨x',hx,rfl⟩:=Option.map_eq_some_iff.1 hk;simp only[Zy]at hev;split at hev
  .rename_i cs hcs;cases hev;exact ID R hn (ZY hE hx) hcs
  .cases hev
 |build t ps =>
  rw[hop]at hk;dsimp only;simp only[Xg]at hk;split at hk
  .rename_i fs zs hu hz;split at hk
   .rename_i places hp;obtain⟨qs,hq,rfl⟩:=Yo.1 hk;simp only[Zy]at hev
    grind [Ea]
   .cases hk
  .cases hk
 |buildSlice t n ps =>
  rw[hop]at hk;dsimp only;simp only[Xg]at hk;split at hk
  .rename_i el hu;split at hk
   .rename_i i hi;split at hk
    .rename_i hc;split at hk
     .rename_i qs hq;split at hk
      .rename_i zs hz;split at hk
       .rename_i hzl;split at hk
        .cases hk;simp only[Zy]at hev
         grind [ZBU]
        .cases hk;simp only[Zy]at hev
         grind [ZBR]
       .cases hk
      .rename_i hz;split at hk
       .rename_i hzz;split at hk
        .rename_i hs1;cases hk;simp only[Zy]at hev
         grind [Eh]
        .cases hk
       .cases hk
     .cases hk
    .cases hk
   .cases hk
  .cases hk
 |load t x =>
  rw[hop]at hk;dsimp only;simp only[Xg]at hk;split at hk
  .rename_i n x' hnn hx;cases hk;by_cases hm:(n.isNone && Fk P t && (inl.contains 9999998 || GG P inl ops x || (inl.contains 9999992 && TG P ops x)))=true
   .rw[Ya hm]at hev;simp only[Yd,Option.isNone_iff_eq_none]at hm;rw[hm.1.1]at hnn;simp only[Zy]at hev;exact Ei R hn hnn hev (ZY hE hx)
   .rw[Yb hm]at hev;simp only[Zy]at hev;exact Fv R hnn hev (ZY hE hx)
  .cases hk
 |store t x y =>
  rw[hop]at hk;dsimp only;simp only[Xg]at hk;split at hk
  .rename_i i x' y' hi hx hy;cases hk;split at hev
   .simp only[Zy]at hev
    grind [ZY,ZCa]
   split at hev
   .simp only[Zy]at hev;split at hev
    .grind [ZY,ZBQ]
    .cases hev
   .simp only[Zy]at hev;exact El R hi (ZY hE hy) hev (ZY hE hx)
  .cases hk
 |nilCheck x =>
  rw[hop]at hk;dsimp only;simp only[Xg]at hk;obtain⟨x',hx,rfl⟩:=Option.map_eq_some_iff.1 hk;have hr:=ZY hE hx;simp only[Zy]at hev;split at hev
  .rename_i b off hv;cases hev;rw[hv]at hr;obtain⟨p,hp⟩:=hr.ptr_val;exact .same R (val:=a.eval x) (by simp[hp]) hr
  .rename_i b i sz off hv;cases hev;rw[hv]at hr;obtain⟨p,hp⟩:=hr.eptr_val;exact .same R (val:=a.eval x) (by simp[hp]) hr
  .rename_i cs off hv;cases hev;rw[hv]at hr;obtain⟨p,hp⟩:=hr.iptr_val;exact .same R (val:=a.eval x) (by simp[hp]) hr
  .rename_i f cs hv;cases hev;rw[hv]at hr;obtain⟨p,hp,_⟩:=hr.fn_val;exact .same R (val:=a.eval x) (by simp[hp]) hr
  .cases hev
 |binOp op t x y ty =>
  rw[hop]at hk;dsimp only;simp only[Xg]at hk;split at hk
  .rename_i x' y' hx hy;have hrx:=ZY hE hx;have C3:=ZY hE hy;have Ach:∀z,z=AY.bin op x' y'->Zy h nx e z=some (v,u)->AR P N base ρ h w (do pure (.value (<-(do eqGuard op t x y (a.eval x) (a.eval y);binOp op t (a.eval x) (a.eval y))))) v u:=by
    intro z hz hev;subst hz;simp only[Zy]at hev;split at hev
    .rename_i p q hp hq;obtain⟨r,hr,he⟩:=Yo.1 hev;cases he;rw[hp]at hrx;rw[hq]at C3;obtain⟨z,hz1,hz2⟩:=ZBX (P:=P) (t:=t) (x:=x) (y:=y) hrx C3 hr;exact .same R (by rw[Sem.run_bind,hz1];rfl) hz2
    .cases hev
   split at hk
   .simp_all
   .simp_all
   .rename_i hu;split at hk
    all_goals try (cases hk;done)
    all_goals
     cases hk;simp only[Zy]at hev;split at hev
     .rename_i p q hp hq;cases hev;rw[hp]at hrx;rw[hq]at C3;rw[hrx.bool_inv,C3.bool_inv];refine .same R ?_ (.bool_mk _);simp[eqGuard,binOp,Op.equal,Op.maxDepth,run_equalIn_bool' w 9999 t p q hu]
     .cases hev
   .rename_i el hu;split at hk
    .cases hk;simp only[Zy]at hev;split at hev
     .rename_i r hr;cases hev;obtain⟨c,n,m,hc,rfl⟩:=Z0V R hrx hr;refine .same R ?_ (.bool_mk _);have hy0:a.eval (.const (.slice none 0 0))=.slice none 0 0:=rfl;rw[hc,hy0];simp[eqGuard,binOp,Op.equal,Op.maxDepth,Z0X hu 9999 c n m]
     .cases hev
    .cases hk;simp only[Zy]at hev;split at hev
     .rename_i r hr;cases hev;obtain⟨c,n,m,hc,rfl⟩:=Z0V R hrx hr;refine .same R ?_ (.bool_mk _);have hy0:a.eval (.const (.slice none 0 0))=.slice none 0 0:=rfl;rw[hc,hy0];simp[eqGuard,binOp,Op.equal,Op.maxDepth,Z0X hu 9999 c n m]
     .cases hev
    .cases hk
   .rename_i el hu;split at hk
    .cases hk;simp only[Zy]at hev;split at hev
     .rename_i r hr;cases hev;obtain⟨c,hc,rfl⟩:=Z0W hrx hr;refine .same R ?_ (.bool_mk _);have hy0:a.eval (.const (.pointer none))=.pointer none:=rfl;rw[hc,hy0];simp[eqGuard,binOp,Op.equal,Op.maxDepth,Z0Y hu 9999 c]
     .cases hev
    .cases hk;simp only[Zy]at hev;split at hev
     .rename_i r hr;cases hev;obtain⟨c,hc,rfl⟩:=Z0W hrx hr;refine .same R ?_ (.bool_mk _);have hy0:a.eval (.const (.pointer none))=.pointer none:=rfl;rw[hc,hy0];simp[eqGuard,binOp,Op.equal,Op.maxDepth,Z0Y hu 9999 c]
     .cases hev
    .cases hk
   .rename_i fs hu;split at hk
    .rename_i ks hks;split at hk
     .rename_i hcond;have hfs:P.fieldsOf t=fs:=by simp[Program.fieldsOf,hu]
      have hut:P.underlying t=some (.struct (P.fieldsOf t)):=by rw[hfs];exact hu
      have key:∀xs ys r,ev e x'=.agg xs->ev e y'=.agg ys->BS ks xs ys=some r->∃cx cy,a.eval x=.agg cx/\a.eval y=.agg cy/\(Op.equalIn 10000 t (.agg cx) (.agg cy)).run P w=.ok r w:=by
       intro xs ys r hxs hys hr;rw[hxs]at hrx;rw[hys]at C3;obtain⟨cx,hcx,hx1,_⟩:=hrx.agg_val;obtain⟨cy,hcy,hy1,_⟩:=C3.agg_val;refine⟨cx,cy,hcx,hcy,?_⟩;have h1:=run_equalIn_struct (P:=P) w 9999 t cx cy hut hcond.1;rw[h1,hfs];exact ZBW (P:=P) (ρ:=ρ) (F:=Free N ρ h) hks 9998 xs ys cx cy (by simpa using hx1) (by simpa using hy1) r hr
      split at hk
      .cases hk;simp only[Zy]at hev;split at hev
       .rename_i xs ys hxs hys;split at hev
        .rename_i r hr;cases hev;obtain⟨cx,cy,h1,h2,h3⟩:=key xs ys r hxs hys hr;refine .same R ?_ (.bool_mk _);rw[h1,h2];simp[run_eqGuard_agg w .eql t x y cx cy hcond.2,run_eql_struct,h3]
        .cases hev
       .cases hev
      .cases hk;simp only[Zy]at hev;split at hev
       .rename_i xs ys hxs hys;split at hev
        .rename_i r hr;cases hev;obtain⟨cx,cy,h1,h2,h3⟩:=key xs ys r hxs hys hr;refine .same R ?_ (.bool_mk _);rw[h1,h2];simp[run_eqGuard_agg w .neq t x y cx cy hcond.2,run_neq_struct,h3]
        .cases hev
       .cases hev
      .cases hk
     .cases hk
    .cases hk
   .cases hk
  .cases hk
 |unOp op t x =>
  rw[hop]at hk;dsimp only;simp only[Xg]at hk;obtain⟨x',hx,rfl⟩:=Option.map_eq_some_iff.1 hk;have hr:=ZY hE hx;simp only[Zy]at hev;split at hev
  .rename_i p hp;obtain⟨r,hrr,he⟩:=Yo.1 hev;cases he;rw[hp]at hr;obtain⟨z,h1,h2⟩:=Eg (P:=P) hr hrr;exact .same R (by simp[h1]) h2
  .cases hev
 |convert s d x =>
  rw[hop]at hk;dsimp only;simp only[Xg]at hk;split at hk
  .rename_i us k hs hd;obtain⟨x',hx,rfl⟩:=Yo.1 hk;have hr:=ZY hE hx;simp only[Zy]at hev;split at hev
   .rename_i k' n hv;cases hev;rw[hv]at hr;refine .same R ?_ (.int_mk _ _);simp[hr.int_inv,convert,run_underlying hs,run_underlying hd,Conv.intToInt]
   .cases hev
  .rename_i el hs hd;split at hk
   .rename_i hel;obtain⟨x',hx,rfl⟩:=Yo.1 hk;have hr:=ZY hE hx;simp only[Zy]at hev
    grind [Option.map_eq_some_iff,Ek]
   .cases hk
  .cases hk
 |makeFunc fn first caps =>
  rw[hop]at hk;dsimp only;cases fn<;>try (simp[Xg]at hk;done)
  simp only[Xg]at hk;split at hk
  .rename_i hfe;obtain⟨cs,hcs,rfl⟩:=Yo.1 hk;simp[Zy]at hev;obtain⟨rfl,rfl⟩:=hev;have hf0:first=#[]:=by simpa using hfe
   subst hf0;refine .same R (val:=.func (.func _) #[] (caps.map a.eval)) (by simp[Instr.makeFunc]) (.fn ?_)
   simp_all [DL,GL]
  .cases hk
 |makeSlice t l c =>
  rw[hop]at hk;dsimp only;simp only[Xg]at hk;split at hk
  .rename_i el hu;split at hk
   .rename_i i zs l' c' hi hz hl hc;split at hk
    .rename_i hcond;cases hk;have hrl:=ZY hE hl;have hrc:=ZY hE hc;simp only[Zy]at hev;split at hev
     .rename_i kl lv kc cv hlv hcv;split at hev
      .rename_i hb;cases hev;rw[hlv]at hrl;rw[hcv]at hrc;simp only[hrl.int_inv,hrc.int_inv]
       grind [ZBS]
      .cases hev
     .cases hev
    .cases hk
   .cases hk
  .cases hk
 |slice t x lo hi mx =>
  rw[hop]at hk;dsimp only
  cases mx with
  |some m=>simp[Xg]at hk
  |none =>
   simp only[Xg]at hk;split at hk
   .rename_i sz x' lo' hi' hsz hx hlo hhi;cases hk;simp only[Zy]at hev;exact ok_slice R hn hE hlo hhi hev hsz (ZY hE hx)
   .cases hk
 |fieldAddr t x f =>
  rw[hop]at hk;dsimp only;simp only[Xg]at hk;split at hk
  .rename_i off ut x' hf hx;cases hk;simp only[Zy]at hev;exact Em R hf hev (ZY hE hx)
  .cases hk
 |field t x f =>
  rw[hop]at hk;dsimp only;simp only[Xg]at hk;split at hk
  .rename_i off ut x' hf hx;obtain⟨n,hnn,rfl⟩:=Yo.1 hk;have hr:=ZY hE hx;simp only[Zy]at hev
   grind [Option.map_eq_some_iff,Eo]
  .cases hk
 |indexAddr t x i =>
  rw[hop]at hk;dsimp only;simp only[Xg]at hk;split at hk
  .rename_i el hu;split at hk
   .rename_i inf x' i' Ck hx hi;cases hk;have Dt:=ZY hE hi;simp only[Zy]at hev;split at hev
    .rename_i k n hin;rw[hin]at Dt;split at hev
     .rename_i h0;simp only[Dt.int_inv];exact Ef R hu Ck h0 hev (ZY hE hx)
     .cases hev
    .cases hev
   .cases hk
  .rename_i m el hu;split at hk
   .rename_i inf x' i' Ck hx hi;cases hk;have Dt:=ZY hE hi;simp only[Zy]at hev;split at hev
    .rename_i k n hin;rw[hin]at Dt;split at hev
     .rename_i h0;simp only[Dt.int_inv];exact En R hu Ck h0.1 h0.2 hev (ZY hE hx)
     .cases hev
    .cases hev
   .cases hk
  .cases hk
 |index t x i =>
  rw[hop]at hk;dsimp only;simp only[Xg]at hk;split at hk
  .rename_i x' i' hu hx hi;cases hk;have hrx:=ZY hE hx;have Dt:=ZY hE hi;simp only[Zy]at hev;split at hev
   .rename_i s k n hxs hin;split at hev
    .rename_i h0;split at hev
     .rename_i b hb;cases hev;rw[hxs]at hrx;rw[hin]at Dt;refine .same R ?_ (.int_mk _ _);simp[hrx.str_inv,Dt.int_inv,Instr.index,asIntOf,run_underlying hu,h0,hb]
     .cases hev
    .cases hev
   .cases hev
  .rename_i m el x' i' hu hx hi;split at hk
   .rename_i inf q Ck hq;cases hk;have hrx:=ZY hE hx;have Dt:=ZY hE hi;simp only[Zy]at hev;split at hev
    .rename_i k n hin;rw[hin]at Dt;split at hev
     .rename_i h0;split at hev
      .rename_i cs hcs;obtain⟨v',hv',he⟩:=Yo.1 hev;cases he;rw[hcs]at hrx;simp only[Dt.int_inv]
       grind [Fw]
      .cases hev
     .cases hev
    .cases hev
   .cases hk
  .cases hk
 |extract x i =>
  rw[hop]at hk;dsimp only;simp only[Xg]at hk;obtain⟨x',hx,rfl⟩:=Option.map_eq_some_iff.1 hk;have hr:=ZY hE hx;simp only[Zy]at hev;split at hev
  .rename_i vs hvs;obtain⟨v',hv',he⟩:=Yo.1 hev;cases he;rw[hvs]at hr;obtain⟨c,hc,hcs⟩:=hr.tup_val;obtain⟨val,h1,h2⟩:=hcs.at hv';have h1':c[i]?=some val:=by simpa using h1
   exact .same R (by simp[hc,Instr.extract,h1']) h2
  .cases hev
 |call c =>
  rw[hop]at hk;dsimp only;obtain⟨callee,args,argTypes⟩:=c
  cases callee with
  |invoke r m=>simp[Xg]at hk
  |value f =>
   cases f<;>simp only[Xg]at hk
   .split at hk
    .cases hk;simp[Zy]at hev
    .cases hk
   .split at hk
    .cases hk;simp[Zy]at hev
    .cases hk
   .split at hk
    .cases hk;simp[Zy]at hev
    .cases hk
   .split at hk
    .obtain⟨as,_,rfl⟩:=Yo.1 hk;unfold D6 at hev
     repeat' split at hev
     all_goals simp[Zy]at hev
    .cases hk
  |builtin b =>
   cases b<;>try (simp[Xg]at hk;done)
   case len =>
    simp only[Xg]at hk;split at hk
    .rename_i x t hargs hts;have hargs':args=#[x]:=by rw[<-OK];exact hargs
     have IH:argTypes=#[t]:=by rw[<-OK];exact hts
     subst hargs';subst IH;have hshape:(do let d <-resolve a.eval { callee:=.builtin .len,args:=#[x],argTypes:=#[t] } o.type;invoke d.target d.args:Sem Next)=(do pure (.value (<-Builtin.len_ #[t] o.type #[a.eval x]))):=by
      simp[resolve,invoke,builtin]
     rw[hshape];split at hk
     .rename_i el hu;obtain⟨x',hx,rfl⟩:=Yo.1 hk;simp only[Zy]at hev;split at hev
      .rename_i n hl;cases hev;exact IG R (ZY hE hx) hl hu
      .cases hev
     .rename_i hu;obtain⟨x',hx,rfl⟩:=Yo.1 hk;simp only[Zy]at hev;split at hev
      .rename_i n hl;cases hev;exact Fx R (ZY hE hx) hl hu
      .cases hev
     .cases hk
    .cases hk
   case append =>
    simp only[Xg]at hk;split at hk
    .rename_i x y t t' hargs hts;have hargs':args=#[x,y]:=by rw[<-OK];exact hargs
     have IH:argTypes=#[t,t']:=by rw[<-OK];exact hts
     subst hargs';subst IH;split at hk
     .rename_i el BV hu hu';split at hk
      .rename_i i x' y' hi hx hy;split at hk
       .rename_i z hz;split at hk
        .rename_i hcond;obtain⟨hsz,hzs,rfl,hun⟩:=hcond;cases hk;simp only[Zy]at hev;split at hev
         .rename_i k ys hs;obtain⟨h1,h2⟩:=ZBV (P:=P) (ty:=o.type) R hn hu hi hz hzs hsz (ZY hE hx) (ZY hE hy) hs hun;have hshape:(do let d <-resolve a.eval { callee:=.builtin .append,args:=#[x,y],argTypes:=#[t,t] } o.type;invoke d.target d.args:Sem Next) =
            (do pure (.value (<-Builtin.append_ #[t,t] o.type #[a.eval x,a.eval y]))):=by
           simp[resolve,invoke,builtin]
          grind
         split at hev
         .rename_i ys f ks hs;obtain⟨h1,h2⟩:=ZBT (P:=P) (ty:=o.type) R hn hu hi hz hzs hsz (ZY hE hx) (ZY hE hy) hs hun;have hshape:(do let d <-resolve a.eval { callee:=.builtin .append,args:=#[x,y],argTypes:=#[t,t] } o.type;invoke d.target d.args:Sem Next) =
            (do pure (.value (<-Builtin.append_ #[t,t] o.type #[a.eval x,a.eval y]))):=by
           simp[resolve,invoke,builtin]
          grind
         .cases hev
        .cases hk
       .cases hk
      .cases hk
     .cases hk
    .cases hk
   case max =>
    simp only[Xg]at hk;split at hk
    .rename_i x y hargs;have hargs':args=#[x,y]:=by rw[<-OK];exact hargs
     subst hargs';split at hk
     .rename_i x' y' hx hy;cases hk;have hrx:=ZY hE hx;have C3:=ZY hE hy;simp only[Zy]at hev;split at hev
      .rename_i k1 p k2 q hp hq;cases hev;rw[hp]at hrx;rw[hq]at C3;refine .same R ?_ (.int_mk _ _);simp[resolve,invoke,builtin,hrx.int_inv,C3.int_inv,run_max_int2]
      .cases hev
     .cases hk
    .cases hk
   case min =>
    simp only[Xg]at hk;split at hk
    .rename_i x y hargs;have hargs':args=#[x,y]:=by rw[<-OK];exact hargs
     subst hargs';split at hk
     .rename_i x' y' hx hy;cases hk;have hrx:=ZY hE hx;have C3:=ZY hE hy;simp only[Zy]at hev;split at hev
      .rename_i k1 p k2 q hp hq;cases hev;rw[hp]at hrx;rw[hq]at C3;refine .same R ?_ (.int_mk _ _);simp[resolve,invoke,builtin,hrx.int_inv,C3.int_inv,run_min_int2]
      .cases hev
     .cases hk
    .cases hk
 |_=>rw[hop]at hk;simp[Xg]at hk
end
open Go.RowKit (Below)
section
variable{N:Bi}{base:Nat}{ρ ρ':Map}{h:WM}{w w':World}{F F':Nat->Prop}{ids:V2}{a:AV}{v:Value}{f:Nat->Nat}{as:XQ}{vs:V3}{b g:Nat}{e:Env}{tmps:Array Value}{N':Bi}
theorem RV.ren(h:RV ρ w F a v):∀(f:Nat->Nat),(∀b∈refs a,∀r,ρ b=some r->ρ' (f b)=some r)->(∀g,g<w.heap.size->F g->F' g)->RV ρ' w F' (AM.ren f a) v:=by
 refine RV.rec (motive_1:=λa v _=>∀(f:Nat->Nat),(∀b∈refs a,∀r,ρ b=some r->ρ' (f b)=some r)->(∀g,g<w.heap.size->F g->F' g)->RV ρ' w F' (AM.ren f a) v)
  (motive_2:=λas vs _=>∀(f:Nat->Nat),(∀b∈Z8 as,∀r,ρ b=some r->ρ' (f b)=some r)->(∀g,g<w.heap.size->F g->F' g)->Ay ρ' w F' (AM.rens f as) vs) ?_ ?_ ?_ ?_ ?_ ?_ ?_ ?_ ?_ ?_ ?_ ?_ ?_ h
 .intro v f _ _;exact .top v
 .intro f _ _;exact .nilp
 .intro x v fp h hf f _ hF;exact .t h λg hg=>hF g (h.lt g hg) (hf g hg)
 .intro cs c _ h1 ih f hr hF;exact .agg (ih f (by simpa[refs]using hr) hF) h1
 .intro cs c _ ih f hr hF;exact .tup (ih f (by simpa[refs]using hr) hF)
 .intro b off g r hr hv f hf _;exact .ptr (hf b (by simp[refs]) r hr) hv
 .intro b i sz off g n cap r hr hv f hf _;exact .eptr (hf b (by simp[refs]) r hr) hv
 .intro cs off g o c e fz fp hg hFg hc hfp f _ hF;exact .iptr hg (hF g (Yc5.1 hg).1 hFg) hc λg hg=>hF g (hc.lt g hg) (hfp g hg)
 .intro b r hr h1 f hf _;exact .own (hf b (by simp[refs]) r hr) h1
 .intro b n g r hr hv f hf _;exact .bsl (hf b (by simp[refs]) r hr) hv
 .intro g cs c _ ih f hr hF;exact .fn (ih f (by simpa[refs]using hr) hF)
 .intro f _ _;exact .nil
 .intro a v as vs _ _ ih1 ih2 f hr hF;exact .cons (ih1 f (λb hb=>hr b (by simp[Z8,hb])) hF) (ih2 f (λb hb=>hr b (by simp[Z8,hb])) hF)
theorem Ay.ren(h:Ay ρ w F as vs)(f:Nat->Nat)(hr:∀b∈Z8 as,∀r,ρ b=some r->ρ' (f b)=some r)(hF:∀g,g<w.heap.size->F g->F' g):Ay ρ' w F' (rens f as) vs:=by
 induction as generalizing vs with
 |nil=>cases h;exact .nil
 |cons a as ih=>cases h with|cons h hs=>exact .cons (h.ren f (λb hb=>hr b (by simp[Z8,hb])) hF) (ih hs λb hb=>hr b (by simp[Z8,hb]))
theorem RV.scal(h:RV ρ w F a v):∀(f:Nat->Nat),(∀b∈refs a,∀r,ρ b=some r->ρ' (f b)=some r)->QL a=true->RV ρ' w F' (AM.ren f a) v:=by
 refine RV.rec (motive_1:=λa v _=>∀(f:Nat->Nat),(∀b∈refs a,∀r,ρ b=some r->ρ' (f b)=some r)->QL a=true->RV ρ' w F' (AM.ren f a) v)
  (motive_2:=λas vs _=>∀(f:Nat->Nat),(∀b∈Z8 as,∀r,ρ b=some r->ρ' (f b)=some r)->UE as=true->Ay ρ' w F' (AM.rens f as) vs) ?_ ?_ ?_ ?_ ?_ ?_ ?_ ?_ ?_ ?_ ?_ ?_ ?_ h
 .intro v f _ _;exact .top v
 .intro f _ _;exact .nilp
 .intro x v fp h hf f _ hs;refine .t h λg hg=>?_
  cases h<;>first|(simp[QL,ZX]at hs;done)|cases hg
 .intro cs c _ h1 ih f hr hs;exact .agg (ih f (by simpa[refs]using hr) hs) h1
 .intro cs c _ ih f hr hs;exact .tup (ih f (by simpa[refs]using hr) hs)
 .intro b off g r hr hv f hf _;exact .ptr (hf b (by simp[refs]) r hr) hv
 .intro b i sz off g n cap r hr hv f hf _;exact .eptr (hf b (by simp[refs]) r hr) hv
 .intro cs off g o c e fz fp hg hFg hc hfp f _ hs;simp[QL]at hs
 .intro b r hr h1 f hf _;exact .own (hf b (by simp[refs]) r hr) h1
 .intro b n g r hr hv f hf _;exact .bsl (hf b (by simp[refs]) r hr) hv
 .intro g cs c _ ih f hr hs;exact .fn (ih f (by simpa[refs]using hr) hs)
 .intro f _ _;exact .nil
 .intro a v as vs _ _ ih1 ih2 f hr hs;simp only[UE,Yd]at hs;exact .cons (ih1 f (λb hb=>hr b (by simp[Z8,hb])) hs.1) (ih2 f (λb hb=>hr b (by simp[Z8,hb])) hs.2)
theorem Ay.scal(h:Ay ρ w F as vs)(f:Nat->Nat)(hr:∀b∈Z8 as,∀r,ρ b=some r->ρ' (f b)=some r)(hs:UE as=true):Ay ρ' w F' (rens f as) vs:=by
 induction as generalizing vs with
 |nil=>cases h;exact .nil
 |cons a as ih =>
  simp only[UE,Yd]at hs;cases h with|cons h hs'=>exact .cons (h.scal f (λb hb=>hr b (by simp[Z8,hb])) hs.1) (ih hs' (λb hb=>hr b (by simp[Z8,hb])) hs.2)
theorem RV.scalX(h:RV ρ w F a v):∀(f:Nat->Nat),(∀b∈refs a,∀r,ρ b=some r->∃r1,ρ' (f b)=some r1/\r1.v=r.v)->QL a=true->RV ρ' w F' (AM.ren f a) v:=by
 refine RV.rec (motive_1:=λa v _=>∀(f:Nat->Nat),(∀b∈refs a,∀r,ρ b=some r->∃r1,ρ' (f b)=some r1/\r1.v=r.v)->QL a=true->RV ρ' w F' (AM.ren f a) v)
  (motive_2:=λas vs _=>∀(f:Nat->Nat),(∀b∈Z8 as,∀r,ρ b=some r->∃r1,ρ' (f b)=some r1/\r1.v=r.v)->UE as=true->Ay ρ' w F' (AM.rens f as) vs) ?_ ?_ ?_ ?_ ?_ ?_ ?_ ?_ ?_ ?_ ?_ ?_ ?_ h
 .intro v f _ _;exact .top v
 .intro f _ _;exact .nilp
 .intro x v fp h hf f _ hs;refine .t h λg hg=>?_
  cases h<;>first|(simp[QL,ZX]at hs;done)|cases hg
 .intro cs c _ h1 ih f hr hs;exact .agg (ih f (by simpa[refs]using hr) hs) h1
 .intro cs c _ ih f hr hs;exact .tup (ih f (by simpa[refs]using hr) hs)
 .intro b off g r hr hv f hf _;obtain⟨r1,q1,q2⟩:=hf b (by simp[refs]) r hr;exact .ptr q1 (q2.trans hv)
 .intro b i sz off g n cap r hr hv f hf _;obtain⟨r1,q1,q2⟩:=hf b (by simp[refs]) r hr;exact .eptr q1 (q2.trans hv)
 .intro cs off g o c e fz fp hg hFg hc hfp f _ hs;simp[QL]at hs
 .intro b r hr h1 f hf _;obtain⟨r1,q1,q2⟩:=hf b (by simp[refs]) r hr;rw[<-q2];exact .own q1 (by rw[q2];exact h1)
 .intro b n g r hr hv f hf _;obtain⟨r1,q1,q2⟩:=hf b (by simp[refs]) r hr;exact .bsl q1 (q2.trans hv)
 .intro g cs c _ ih f hr hs;exact .fn (ih f (by simpa[refs]using hr) hs)
 .intro f _ _;exact .nil
 .intro a v as vs _ _ ih1 ih2 f hr hs;simp only[UE,Yd]at hs;exact .cons (ih1 f (λb hb=>hr b (by simp[Z8,hb])) hs.1) (ih2 f (λb hb=>hr b (by simp[Z8,hb])) hs.2)
theorem Ay.scalX(h:Ay ρ w F as vs)(f:Nat->Nat)(hr:∀b∈Z8 as,∀r,ρ b=some r->∃r1,ρ' (f b)=some r1/\r1.v=r.v)(hs:UE as=true):Ay ρ' w F' (rens f as) vs:=by
 induction as generalizing vs with
 |nil=>cases h;exact .nil
 |cons a as ih =>
  simp only[UE,Yd]at hs;cases h with|cons h hs'=>exact .cons (h.scalX f (λb hb=>hr b (by simp[Z8,hb])) hs.1) (ih hs' (λb hb=>hr b (by simp[Z8,hb])) hs.2)
theorem sA(n:Nat):∀(todo acc:V2),acc.Nodup->(Xp h n todo acc).Nodup:=by
 induction n with
 |zero=>intro todo acc ha;cases todo<;>simpa[Xp]using ha
 |succ n ih =>
  intro todo acc ha
  cases todo with
  |nil=>simpa[Xp]using ha
  |cons b todo =>
   simp only[Xp]
   grind
theorem Z1g(hb:b∈ids)(k:Nat):∃i,idx b ids k=k+i/\ids[i]?=some b:=by
 induction ids generalizing k with
 |nil=>cases hb
 |cons c ids ih =>
  simp only[idx];split
  .simp_all
  .rename_i hc
   cases hb with
   |head=>exact absurd rfl hc
   |tail _ hb =>
    obtain⟨i,h1,h2⟩:=ih hb (k+1);exact⟨i+1,by rw[h1];omega,by simpa using h2⟩
def A2(ρ:Map)(ids:V2):Map:=λi=>match ids[i]? with
 |some b=>ρ b
 |none=>none
theorem O1(hb:b∈ids):A2 ρ ids (idx b ids 0)=ρ b:=by
 obtain⟨i,h1,h2⟩:=Z1g hb 0;simp[A2,h1,h2]
theorem O2(i:Nat):gt (ids.map λb=>A0 f (gt h b)) i=match ids[i]? with|some b=>A0 f (gt h b)|none=>.dead:=by
 unfold gt
 grind
theorem KW{x:Ax}:Xm (A0 f x)=Xm x:=by cases x<;>rfl
theorem sB(hg:Free N ρ h g)(hn:N'.a g):Free N' (A2 ρ ids) (ids.map λb=>A0 f (gt h b)) g:=by
 refine⟨hn,?_⟩;intro i r hr hd;rw[O2]at hd;simp only[A2]at hr
 cases hi:ids[i]? with
 |none=>simp[hi]at hr
 |some b =>
  simp only[hi]at hr hd;exact hg.2 b r hr λhc=>hd (by rw[hc];rfl)
theorem TZ(hg:Free N ρ h g):Free N (A2 ρ ids) (ids.map λb=>A0 f (gt h b)) g:=sB hg hg.1
theorem Rel.renN(R:Rel N base ρ h w)(hnd:ids.Nodup)(hcl:∀b∈ids,∀c∈W5 (gt h b),c∈ids)(hn:∀g,w.heap.size<=g->N'.a g/\N'.f g)
  (hO:∀b∈ids,∀r g,ρ b=some r->gt h b≠.dead->X3 r g->N'.a g/\N'.f g) (hF:∀g,Free N ρ h g->N'.a g) (hfr:∀b∈ids,∀r,ρ b=some r->Xm (gt h b)=true->∀g∈r.fp,N'.f g) :
  Rel N' base (A2 ρ ids) (ids.map λb=>A0 (λc=>idx c ids 0) (gt h b)) w:=by
 have Er:∀{i j:Nat} {b:Nat},ids[i]?=some b->ids[j]?=some b->i=j:=by
  intro i j b hi hj;obtain⟨h1,h2⟩:=Y0.1 hi;obtain⟨h3,h4⟩:=Y0.1 hj;rcases rC i j with hlt|rfl|hlt
  .exact absurd (h2.trans h4.symm) (Ycm.1 hnd i j h1 h3 hlt)
  .rfl
  .exact absurd (h4.trans h2.symm) (Ycm.1 hnd j i h3 h1 hlt)
 refine⟨R.hb,hn,?_,?_,?_,?_⟩
 .intro i r g hr hd hg;rw[O2]at hd;simp only[A2]at hr
  cases hi:ids[i]? with
  |none=>simp[hi]at hr
  |some b =>
   simp only[hi]at hr hd;exact hO b (Y3 hi) r g hr (λhc=>hd (by rw[hc];rfl)) hg
 .intro i hd;rw[O2]at hd|-
  cases hi:ids[i]? with
  |none=>simp[hi]at hd
  |some b =>
   simp only[hi]at hd|-;have hb:b∈ids:=Y3 hi;obtain⟨r,h1,h2⟩:=R.blk b λhc=>hd (by rw[hc];rfl)
   refine⟨r,by simp[A2,hi,h1],?_⟩
   cases hx:gt h b with
   |dead=>trivial
   |box cs =>
    rw[hx]at h2;obtain⟨h0,g,c,e,h3,h4,h5,h6,h7⟩:=h2
    exact⟨h0,g,c,e,h3,h4,h5,h6.ren _ (λc hc r hr=>by
     have hci:c∈ids:=hcl b hb c (by rw[hx];exact hc)
     rw[O1 hci];exact hr) λg _ hg=>sB hg (hF g hg),h7⟩
   |arr e sz fr es =>
    rw[hx]at h2;obtain⟨h0,e',xs,he',h3,h4,h5,h6,h7,h8,h9⟩:=h2
    exact⟨h0,e',xs,he',h3,h4,h5,h6,λg hg=>sB (h7 g hg) (hF g (h7 g hg)),λhf=>⟨(h8 hf).1,hfr b hb r h1 (by rw[hx];exact hf)⟩,h9⟩
   |det e sz es i' off c =>
    rw[hx]at h2;obtain⟨e',xs,rb,fa,fc,he,ho,hsz,hl,hrb,rest⟩:=h2
    exact⟨e',xs,rb,fa,fc,he,ho,hsz,hl,by rw[O1 (hcl b hb c (by rw[hx];simp[W5]))];exact hrb,rest⟩
   |xarr e sz es=>rw[hx]at h2;exact h2
 .intro i j r r' g hr hr' hd hd' hg hg';rw[O2]at hd hd';simp only[A2]at hr hr'
  cases hi:ids[i]? with
  |none=>simp[hi]at hr
  |some b =>
   cases hj:ids[j]? with
   |none=>simp[hj]at hr'
   |some c =>
    simp only[hi]at hr hd;simp only[hj]at hr' hd';have:=R.inj b c r r' g hr hr' (λhc=>hd (by rw[hc];rfl)) (λhc=>hd' (by rw[hc];rfl)) hg hg';subst this;exact Er hi hj
 .intro i j r r' g hr hr' hf hf' hg hg';rw[O2]at hf hf';simp only[A2]at hr hr'
  cases hi:ids[i]? with
  |none=>simp[hi]at hr
  |some b =>
   cases hj:ids[j]? with
   |none=>simp[hj]at hr'
   |some c =>
    simp only[hi,KW]at hr hf;simp only[hj,KW]at hr' hf';have:=R.apart b c r r' g hr hr' hf hf' hg hg';subst this;exact Er hi hj
theorem Rel.fresh(R:Rel N base ρ h w){r:Root}(hr:ρ b=some r)(hf:Xm (gt h b)=true):∀g∈r.fp,N.f g/\Free N ρ h g/\g<w.heap.size:=by
 obtain⟨r',h1,h2⟩:=R.blk b (KV hf);rw[hr]at h1;cases h1
 cases hx:gt h b with
 |dead=>rw[hx]at hf;cases hf
 |box cs=>rw[hx]at hf;cases hf
 |arr e sz fr es =>
  rw[hx]at h2 hf;obtain⟨_,_,xs,_,_,_,_,h6,h7,h8,_⟩:=h2
  exact λg hg=>⟨(h8 hf).2 g hg,h7 g hg,h6.lt g hg⟩
 |xarr e sz es=>rw[hx]at hf;cases hf
 |det e sz es i off c=>rw[hx]at hf;cases hf
theorem Rel.ren(R:Rel N base ρ h w)(hnd:ids.Nodup)(hcl:∀b∈ids,∀c∈W5 (gt h b),c∈ids) :
  Rel N base (A2 ρ ids) (ids.map λb=>A0 (λc=>idx c ids 0) (gt h b)) w :=
 R.renN hnd hcl R.hN (λ_ _ _ _=>R.hO _ _ _) (λ_ hg=>hg.1) (λ_ _ _ hr hf g hg=>(R.fresh hr hf g hg).1)
theorem Zq9{i:Nat}(hi:ids.length<=i):A2 ρ ids i=none:=by
 simp[A2,It hi]
theorem II(f:Nat->Nat)(e:Env)(s:Nat):lk s (CX f e)=ren f (lk s e):=by
 induction e with
 |nil=>rfl
 |cons p e ih =>
  obtain⟨k,v⟩:=p;simp only[CX,Yx,lk]at ih|-
  grind
theorem Fy(e:Env)(s:Nat):∀b∈refs (lk s e),b∈Kw e:=by
 induction e with
 |nil=>intro b hb;simp[lk,refs]at hb
 |cons p e ih =>
  obtain⟨k,v⟩:=p;intro b hb;simp only[Kw,Yda,Yi]at ih|-;simp only[lk]at hb
  grind
theorem XB.ren(hE:XB ρ w F e tmps)(f:Nat->Nat)(hr:∀b∈Kw e,∀r,ρ b=some r->ρ' (f b)=some r)(hF:∀g,g<w.heap.size->F g->F' g):XB ρ' w F' (CX f e) tmps:=by
 intro s;rw[II];exact(hE s).ren f (λb hb=>hr b (Fy e s b hb)) hF
theorem IJ(keep:V2)(e:Env)(s:Nat):lk s (rst keep e)=if s∈keep then lk s e else .top:=by
 induction keep with
 |nil=>rfl
 |cons k keep ih =>
  simp only[rst,Yx,lk]at ih|-
  grind
theorem XB.rst(hE:XB ρ w F e tmps)(keep:V2):XB ρ w F (rst keep e) tmps:=by
 intro s;rw[IJ];split
 .exact hE s
 .exact .top _
theorem Es(e:Env)(s:Nat):lk s (Ix h e)=scrub h (lk s e):=by
 induction e with
 |nil=>rfl
 |cons p e ih =>
  obtain⟨k,v⟩:=p;simp only[Ix,Yx,lk]at ih|-
  grind
theorem RV.scrub(hv:RV ρ w F a v):RV ρ w F (scrub h a) v:=by
 unfold AM.scrub;split
 .split
  .exact .top _
  .exact hv
 .exact hv
theorem XB.scrub(hE:XB ρ w F e tmps):XB ρ w F (Ix h e) tmps:=by
 intro s;rw[Es];exact(hE s).scrub
theorem sC{rs:V2}(hc:Qg h ids rs=true):(∀b∈rs,b∈ids)/\∀b∈ids,∀c∈W5 (gt h b),c∈ids:=by
 simp only[Qg,Yd,Yn,List.contains_iff_mem]at hc;exact hc
end
end Go.AM
