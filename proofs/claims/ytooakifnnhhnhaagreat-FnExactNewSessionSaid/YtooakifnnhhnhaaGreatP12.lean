/-
  Parts of the proofs for this seat: SO1 SO2 SO3 CE EWx SFx GA GB LQ GC GD GE GF GH NA NB.
-/
import Derived.Shelf.SlSortCmp.Kit1
import Derived.Test.YtooakifnnhhnhaaGreatP3
import Derived.Test.YtooakifnnhhnhaaGreatP7
import Derived.Test.YtooakifnnhhnhaaGreatP9
import Derived.Test.YtooakifnnhhnhaaGreatP10
import Derived.Test.YtooakifnnhhnhaaGreatP11
set_option linter.unusedSimpArgs false
set_option linter.unusedVariables false
set_option maxRecDepth 100000
set_option maxHeartbeats 4000000
namespace Go.Proofs.YtooakifnnhhnhaaGreat
open Go.RowKit Go.AM
theorem Zba1{w:World}:∀{r:List Int} {vs:List Value} {fp:List Nat},TRs w (r.map ic).flatten vs fp->vs=r.map (Value.int .i64)
 |[],vs,fp,h=>by cases h;rfl
 |x::r,vs,fp,h=>by
  rw[Yl,Yv]at h;change TRs w (T.int .i64 x::(r.map ic).flatten) vs fp at h
  cases h with
  |cons h hs =>
   cases h;rw[Yl,<-Zba1 hs]
theorem Zsn{w W:World}{r:List Int}{v:Value}{fp:List Nat}(h:TR w (.lst 1 (r.map ic)) v fp)(hW:∀g∈fp,W.heap[g]?=w.heap[g]?):Zf4 W v r:=by
 have h:=h.frame hW;generalize he:r.map ic=es at h
 cases h with
 |lst0 sz a cap =>
  have:r=[]:=List.map_eq_nil_iff.1 he
  subst this
  exact⟨a,cap,rfl,λj hj=>absurd hj (Nat.not_lt_zero _)⟩
 |@lst sz es g off cap c e fz fp hne hsz hcap hg hlen hc =>
  subst he;have hv:=Zba1 hc;refine⟨some ⟨g,off,none⟩,cap,by rw[Ybd],λj hj=>⟨g,off,rfl,?_⟩⟩;have h1:((c.toList.drop off).take ((r.map ic).length*1))[j]?=some (.int .i64 r[j]):=by
   rw[hv,Yca,Yk hj];rfl
  rw[Ybx,if_pos (by rw[Ybd];omega),List.getElem?_drop]at h1;unfold World.cell?;rw[hg];simpa using h1
end Go.Proofs.YtooakifnnhhnhaaGreat
namespace Go.Proofs.YtooakifnnhhnhaaGreat
open Go.RowKit Go.AM Go.Lib Go.Sort
def Zba2:Prop:=∀(α:Type) [Inhabited α] (enc:α->Value) (_:OneCell enc) (cf:α->α->Int) (_:SWO (ltOf cf)) (blk off cap:Nat) (d:Array α) (w:World),CmpLays1 Tryz.prog 270 #[] enc cf blk off d.size w->Holds enc w blk off d->blk<w.heap.size->d.size<4611686018427387904->
 Calls Tryz.prog 271 #[.slice (some ⟨blk,off,none⟩) d.size cap,.func (.func 270) #[] #[]] w λe w'=>e=.returned (.tuple #[])/\∃d' n os,PermIn 0 d.size d d'/\SortedIn (ltOf cf) 0 d.size d'/\w'=sortWorld enc w blk off n d' os
def Zba3:Prop:=∀(p:Option Addr) (cap:Nat) (w:World),Calls Tryz.prog 271 #[.slice p 0 cap,.func (.func 270) #[] #[]] w λe w'=>e=.returned (.tuple #[])/\w'=w
def El(w:World)(g:Nat):Type:={p:List Int×Value×List Nat // TR w (.lst 1 (p.1.map ic)) p.2.1 p.2.2/\(∀x∈p.2.2,x≠g)/\p.1.length<=4}
instance (w:World) (g:Nat):Inhabited (El w g):=⟨⟨([],.slice none 0 0,[]),.lst0 1 none 0,by simp,by simp⟩⟩
def El.enc{w:World}{g:Nat}(x:El w g):Value:=x.1.2.1
def El.row{w:World}{g:Nat}(x:El w g):List Int:=x.1.1
def El.tri{w:World}{g:Nat}(x:El w g):List (List Int)×Value×List Nat:=([x.1.1],x.1.2.1,x.1.2.2)
def El.t3{w:World}{g:Nat}(x:El w g):List T×List Value×List Nat:=(isc x.row,[x.enc],x.1.2.2)
theorem El.list{w:World}{g:Nat}:∀l:List (List T×List Value×List Nat),(∀p∈l,∃q:El w g,q.t3=p)->∃L:List (El w g),L.map El.t3=l
 |[],_=>⟨[],rfl⟩
 |p::l,h=>by
  obtain⟨q,hq⟩:=h p (by simp);obtain⟨L,hL⟩:=El.list l λp hp=>h p (by simp[hp])
  exact⟨q::L,by simp[hq,hL]⟩
def cfE{w:World}{g:Nat}(x y:El w g):Int:=cmpR x.row y.row
theorem swoE{w:World}{g:Nat}:SWO (ltOf (cfE (w:=w) (g:=g))) where
 irrefl x:=by unfold ltOf cfE;rw[Zg5];rfl
 trans x y z h1 h2:=by
  unfold ltOf cfE at *
  simp only[decide_eq_true_eq]at *
  have h3:=Zk9 _ _ _ (Int.le_of_lt h1) (Int.le_of_lt h2);have h4:=Zdm x.row z.row;have h5:=Zdm y.row z.row;rcases Yc6 h3 with h|h
  .exact h
  .have:=Zev _ _ h;rw[this]at h1;omega
 ntrans x y z h1 h2:=by
  unfold ltOf cfE at *
  simp only[decide_eq_false_iff_not]at *
  have h3:=Zdm x.row y.row;have h4:=Zdm y.row z.row;have h5:=Zdm x.row z.row;have:=Zk9 z.row y.row x.row (by omega) (by omega);omega
theorem Zso{α:Type}[Inhabited α](enc:α->Value)(w:World)(blk off n:Nat)(d:Array α)(os:Array Obj){k:Nat}(hk:k<w.heap.size)(c:k≠blk):(sortWorld enc w blk off n d os).heap[k]?=w.heap[k]?:=by
 show((w.heap.modify blk (onCells (putCells enc off d)))++os)[k]?=_;rw[Ydd (by simpa using hk),Ycs,if_neg (Ne.symm c)]
theorem Zba4{α:Type}[Inhabited α](enc:α->Value)(w:World)(blk off n:Nat)(d:Array α)(os:Array Obj){c:Array Value}{e:TypeId}{fz:Nat×Nat}(hg:w.heap[blk]?=some (.cells c e fz)):(sortWorld enc w blk off n d os).heap[blk]?=some (.cells (putCells enc off d c) e fz):=by
 have hk:blk<w.heap.size:=(Ybk.1 hg).1;show((w.heap.modify blk (onCells (putCells enc off d)))++os)[blk]?=_;rw[Ydd (by simpa using hk),Ycs,if_pos rfl,hg];rfl
theorem cmp_lays(w:World)(g size:Nat):CmpLays1 Tryz.prog 270 #[] (El.enc (w:=w) (g:=g)) cfE g 0 size w:=by
 intro m os dk hs x y;have hx:=Zsn (W:=sortWorld El.enc w g 0 m dk os) x.2.1 λk hk=>Zso _ _ _ _ _ _ _ (x.2.1.lt k hk) (x.2.2.1 k hk)
 have hy:=Zsn (W:=sortWorld El.enc w g 0 m dk os) y.2.1 λk hk=>Zso _ _ _ _ _ _ _ (y.2.1.lt k hk) (y.2.2.1 k hk)
 have h4:=x.2.2.2;have h5:=y.2.2.2;refine(Zbqw x.enc y.enc x.row y.row _ hx hy (by unfold El.row;omega) (by unfold El.row;omega)).mono ?_;rintro e w' ⟨rfl,rfl⟩;exact⟨rfl,0,#[],by simp[grow,World.drewN]⟩
end Go.Proofs.YtooakifnnhhnhaaGreat
namespace Go.Proofs.YtooakifnnhhnhaaGreat
open Go.RowKit Go.AM Go.Lib Go.Sort
theorem el_of{w:World}{g:Nat}{r:List Int}{z:List Value}{f:List Nat}(h:TRs w (isc r) z f)(hf:∀x∈f,x≠g)(hr:r.length<=4):∃q:El w g,q.t3=(isc r,z,f):=by
 unfold isc at h
 cases h with
 |@cons t v fp ts vs fq h hs =>
  cases hs;rw[Ybq]at hf|-;exact⟨⟨(r,v,fp),h,hf,hr⟩,rfl⟩
theorem Zy0{a b:List Int}(h:isc a=isc b):a=b:=by
 unfold isc at h;simp only[Ycr,T.lst.injEq,true_and,and_true]at h;exact(Yct (f:=ic) (by intro x y hxy;simpa[ic]using hxy)).1 h
theorem Zsp{α:Type}[Inhabited α](enc:α->Value)(d:Array α)(c:Array Value)(h:d.size<=c.size):(putCells enc 0 d c).toList=d.toList.map enc++c.toList.drop d.size:=by
 refine Ycu (by simp[putCells];omega) λi h1 h2=>?_
 have hi:i<c.size:=by simpa[putCells]using h1
 simp only[putCells,Array.getElem_toList,Array.getElem_mapIdx];by_cases e:i<d.size
 .rw[if_pos (by omega),List.getElem_append_left (by simpa using e)];simp[e]
 .rw[if_neg (by omega),List.getElem_append_right (by simp;omega)];simp;congr 1;omega
theorem Zsq{w:World}{g:Nat}:∀L:List (El w g),((L.map El.t3).map (·.2.1)).flatten=L.map El.enc
 |[]=>rfl
 |x::L=>by
  have ih:=Zsq L;simp only[Yl,Yv]at ih|-;rw[ih];rfl
theorem Zba5{w:World}{g:Nat}(L:List (El w g)):(L.map El.t3).map (·.1)=(L.map El.row).map isc:=by simp[El.t3]
theorem Zbqx(K:Zba2)(K0:Zba3){fr:Bool}{rows:List (List Int)}(cd:rows.length<=4096)(cc:∀r∈rows,r.length<=4) :
  Zbq Tryz.prog 271 [.own 0,.fn 270 []] [.arr 99 1 fr (rows.map isc)] (.tup []) [.arr 99 1 fr ((srtR rows).map isc)]:=by
 refine⟨by decide +kernel,?_⟩;intro N base w ρ vs R hdom hv hz;obtain⟨l⟩:=vs;simp only at hv
 cases hv with|cons q0 hv =>
 cases hv with|cons q1 hv =>
 cases hv
 cases q0 with|own hr h1 =>
 rename_i r
 cases q1 with|fn q1 =>
 rename_i c;obtain⟨c⟩:=c;simp only at q1;cases q1;have hb:gt [Blk.arr 99 1 fr (rows.map isc)] 0=.arr 99 1 fr (rows.map isc):=by simp[gt]
 have hd0:gt [Blk.arr 99 1 fr (rows.map isc)] 0≠.dead:=by rw[hb];intro hc;cases hc
 obtain⟨r2,e1,e2⟩:=R.blk 0 hd0;rw[hr]at e1;cases e1;rw[hb]at e2;obtain⟨hex,e',xs,hel,ho,hsz,hlen1,htr,hfree,hfr,how⟩:=e2;obtain⟨hxl,ho⟩:=ho;rcases ho with⟨hrv,hn⟩|⟨g,cap,cur,hrv,hbg,hg,hcap,hcm,hcur,htake⟩
 .have hn:rows=[]:=by simpa using hn
  subst hn;rw[hrv];refine(K0 none 0 w).mono ?_;rintro e w' ⟨rfl,rfl⟩;exact⟨_,ρ,rfl,Below.refl _ _,by simpa[srtR]using R,.tup .nil,hdom,by simp,λ_ _ _=>rfl,λg hg hzz=>⟨by simpa[srtR]using hz g hzz,rfl⟩,λb r0 _ h=>⟨r0,h,rfl⟩⟩
 obtain⟨zs,hzx,hch⟩:=Ch.of htr;obtain⟨l,p1,p2,p3,p4⟩:=hch.zip;have hblk:Zbc r.v=some g:=by rw[hrv];rfl
 have hfg:∀x∈r.fp,x≠g:=λx hx e=>by
  subst e;exact(hfree x hx).2 0 r hr hd0 (.inl hblk)
 have hgs:g<w.heap.size:=(Ybk.1 hg).1
 obtain⟨L,hL⟩:=El.list (w:=w) (g:=g) l (by
  intro p hp;have hm:p.1∈rows.map isc:=by rw[<-p1];exact Y0.2 ⟨p,hp,rfl⟩
  obtain⟨r0,hr0,e0⟩:=Y0.1 hm;have ht:=p4 p hp;rw[<-e0]at ht;obtain⟨q,hq⟩:=el_of (g:=g) ht (λx hx=>hfg x (by rw[<-p3];exact Yb7.2 ⟨p.2.2,Y0.2 ⟨p,hp,rfl⟩,hx⟩)) (cc r0 hr0)
  exact⟨q,by rw[hq,e0]⟩)
 subst hL;have hrows:L.map El.row=rows:=by
  have:(L.map El.row).map isc=rows.map isc:=by rw[<-p1];simp[El.t3]
  exact(Yct (λa b h=>Zy0 h)).1 this
 have hLl:L.length=rows.length:=by rw[<-hrows,Ybd]
 have henc:L.map El.enc=cur.toList.take ((rows.map isc).length*1):=by
  rw[htake,<-hzx,<-p2];simp[El.t3];clear p1 p2 p3 p4 hrows hLl
  induction L with
  |nil=>rfl
  |cons x L ih=>simp[ih];rfl
 have hcell:Holds El.enc w g 0 L.toArray:=by
  intro j hj;have hj':j<L.length:=by simpa using hj
  have h2:cur[j]?=some (L[j].enc):=by
   have h3:(cur.toList.take ((rows.map isc).length*1))[j]?=some (L[j].enc):=by rw[<-henc,Yca,Yk hj'];rfl
   rw[Ybx,if_pos (by simp;omega)]at h3;simpa using h3
  refine⟨?_,?_⟩
  .unfold World.cell?;rw[hg];simp[h2,hj']
  .simp[World.frozen?,hg]
 have hcall:=K (El w g) El.enc (λx=>x.2.1.one) cfE swoE g 0 cap L.toArray w (cmp_lays w g _) hcell hgs (by simp;omega);rw[hrv,show(rows.map isc).length=L.toArray.size by simp[hLl]];refine hcall.mono ?_;rintro e w' ⟨rfl,d',n,os,hP,hS,rfl⟩;have hds:d'.size=L.length:=by have:=hP.1;simpa using this
 have hperm:d'.toList.Perm L:=by
  have:=hP.2.2;rw[show L.toArray.size=d'.size from hP.1.symm,Array.extract_size]at this;rw[hP.1,Array.extract_size]at this;simpa using this
 have hgr:w.grownBy (sortWorld El.enc w g 0 n d' os) (some g):=⟨rfl,rfl,rfl,by show w.heap.size<=((w.heap.modify g _)++os).size;simp,λk hk hne=>Zso _ _ _ _ _ _ _ hk (by intro e;exact hne (by rw[e]))⟩;have hpl:(d'.toList.map El.t3).Perm (L.map El.t3):=hperm.map _
 obtain⟨P1,P2,P3⟩:=Zbaz R hr (by intro b hb;exact hdom b (by simpa using hb)) hrv hg p1 (by rw[p2,hzx,htake]) p3 p4 hpl ⟨_,Zba4 _ _ _ _ _ _ _ hg,by
  rw[Zsp _ _ _ (by simp at hcap;omega),Zsq,hds,hLl];simp⟩ hgr
 have hsd:(d'.toList.map El.row)=srtR rows:=by
  refine Zbqt (by rw[<-hrows];exact hperm.map _) ?_;rw[List.pairwise_map,Yco];intro i j hi hj hij;have h:=hS i j (Yb _) hij (by simp at hj|-;omega);rw[getElem!_pos d' j (by simpa using hj),getElem!_pos d' i (by simpa using hi)]at h;unfold ltOf cfE at h;unfold leR;simp only[decide_eq_false_iff_not,decide_eq_true_eq,Array.getElem_toList]at h|-;have:=Zdm d'[i].row d'[j].row;omega
 rw[Zba5,hsd]at P1 P2;refine⟨_,_,rfl,⟨hgr.os,hgr.tape,hgr.output,hgr.size,λk hk=>hgr.block k (Ybs hk R.hb) (by intro e;cases e;omega)⟩,P1,.tup .nil,λb hb=>?_,by simp,P3,λk hk hzz=>P2.free k hk (hz k hzz),λb r0 hb h0=>P2.root b r0 h0⟩;simp only[updM];rw[if_neg (by simp at hb;omega)];exact hdom b (by simpa using hb)
theorem Zbqy{a b:List (List Int)}(h:a.map isc=b.map isc):a=b:=(Yct (λ_ _ h=>Zy0 h)).1 h
theorem ic_inj{a b:List Int}(h:a.map ic=b.map ic):a=b:=(Yct (f:=ic) (by intro x y hxy;simpa[ic]using hxy)).1 h
theorem Zba6{rows:List (List Int)}(h1:rows.length<=4096)(h2:∀r∈rows,r.length<=4)(k:List (List Int)->AV×List Blk):extS (rows.map isc) k=some (k rows):=by
 have h:∃r,Z28 (rows.map isc) r:=⟨rows,rfl,h1,h2⟩;unfold extS;rw[dif_pos h,Zbqy h.choose_spec.1.symm]
theorem Zba7{l:List Int}(h1:l.length<=4096)(k:List Int->AV×List Blk):extI (l.map ic) k=some (k l):=by
 have h:∃r,Z29 (l.map ic) r:=⟨l,rfl,h1⟩;unfold extI;rw[dif_pos h,ic_inj h.choose_spec.1.symm]
theorem t271:tbl 271=none:=by kernel_rfl
theorem t272:tbl 272=none:=by kernel_rfl
theorem t251:tbl 251=none:=by kernel_rfl
theorem t252:tbl 252=none:=by kernel_rfl
theorem c_sort{fr:Bool}{rows:List (List Int)}(h1:rows.length<=4096)(h2:∀r∈rows,r.length<=4):C 271 [.own 0,.fn 270 []] [.arr 99 1 fr (rows.map isc)]=some (.tup [],[.arr 99 1 fr ((srtR rows).map isc)]) :=
 Zqd t271 (by simp only[ext,if_pos];exact Zba6 h1 h2 _)
theorem c_cpt{fr:Bool}{rows:List (List Int)}(h1:rows.length<=4096)(h2:∀r∈rows,r.length<=4):C 272 [.own 0,.fn 273 []] [.arr 99 1 fr (rows.map isc)]=some (.own 1,[.dead,.arr 99 1 fr ((cptR rows).map isc)]) :=
 Zqd t272 (by simp only[ext,if_pos];exact Zba6 h1 h2 _)
theorem c_sortI{fr:Bool}{l:List Int}(h1:l.length<=4096):C 251 [.own 0] [.arr 3 1 fr (l.map ic)]=some (.tup [],[.arr 3 1 fr ((srtI l).map ic)]) :=
 Zqd t251 (by simp only[ext,if_pos];exact Zba7 h1 _)
theorem c_cptI{fr:Bool}{l:List Int}(h1:l.length<=4096):C 252 [.own 0] [.arr 3 1 fr (l.map ic)]=some (.own 1,[.dead,.arr 3 1 fr ((cptI l).map ic)]) :=
 Zqd t252 (by unfold ext;simp only[show ¬(252:Nat)=251 by decide,if_false,if_true];exact Zba7 h1 _)
theorem gD{xs:List Int}{i:Nat}(h:i<xs.length):xs[i]?=some (xs.getD i 0):=by
 rw[Yde,Yk h];rfl
def selC(row cc:List Int):List Int:=cc.map λc=>row.getD c.toNat 0
theorem l_Sel(row cols:List Int)(h4:cols.length<=1000)(hr:Le row)(hc:∀c∈cols,0<=c/\c<row.length):∀i,i<=cols.length->Zmj (selC row (cols.take i)) row cols cols.length i=some (.tup [.own 0,Bo true],[.arr 3 1 true ((selC row cols).map ic)]):=by
 refine down _ ?_ ?_
 .refine Z79 ?_;rw[if_neg (by omega),Yo]
 .intro i hi ih;obtain⟨h0,h1⟩:=hc _ (Ya hi);refine Z79 ?_;rw[if_pos (by omega),wS hi (by omega)];refine⟨by omega,_,gE hi,_,Zb6 _ _ _,?_⟩;rw[show w ((row.length:Int)-1)=(row.length:Int)-1 from Zt (by omega) (by omega)];rw[show inR cols[i] 0 ((row.length:Int)-1)=true by simp[inR];omega,if_pos rfl];refine⟨h0,_,gD (by omega),by simp[selC];omega,?_⟩;rw[show selC row (cols.take (i+1))=selC row (cols.take i)++[row.getD cols[i].toNat 0] by unfold selC;rw[Yx hi,Y7];rfl]at ih;exact ih
theorem Zbqz(row cols:List Int)(h4:cols.length<=1000)(hr:Le row)(hc:∀c∈cols,0<=c/\c<row.length):Zc4 row cols=some (.tup [.own 0,Bo true],[.arr 3 1 true ((selC row cols).map ic)]) :=
 Zbmy (by simpa[selC]using l_Sel row cols h4 hr hc 0 (Yb _))
def ansR(rows:List (List Int)):List (List Int):=cptR (srtR rows)
abbrev AscR(l:List (List Int)):Prop:=l.Pairwise λa b=>cmpR a b<0
theorem Zba8:∀{a b:List (List Int)},AscR a->AscR b->(∀x,x∈a↔x∈b)->a=b
 |[],[],_,_,_=>rfl
 |[],y::b,_,_,h=>by have:=(h y).2 (by simp);cases this
 |x::a,[],_,_,h=>by have:=(h x).1 (by simp);cases this
 |x::a,y::b,ha,hb,h=>by
  have ha':=Yb6.1 ha;have hb':=Yb6.1 hb;have e:x=y:=by
   have h1:=(h x).1 (by simp);have h2:=(h y).2 (by simp);rcases Yw.1 h1 with e|e
   .exact e
   .rcases Yw.1 h2 with e2|e2
    .exact e2.symm
    .have h3:=hb'.1 x e;have h4:=ha'.1 y e2;have:=Zdm x y;omega
  subst e;rw[Zba8 ha'.2 hb'.2 λz=>?_];constructor
  .intro hz;have:=(h z).1 (by simp[hz]);rcases Yw.1 this with e|e
   .subst e;have:=ha'.1 _ hz;rw[Zg5]at this;omega
   .exact e
  .intro hz;have:=(h z).2 (by simp[hz]);rcases Yw.1 this with e|e
   .subst e;have:=hb'.1 _ hz;rw[Zg5]at this;omega
   .exact e
theorem Zba9:∀{l:List (List Int)},(l.Pairwise λa b=>leR a b=true)->AscR (cptR l)
 |[],_=>by simp[cptR]
 |[a],_=>by simp[cptR]
 |a::b::l,h=>by
  have h1:=Yb6.1 h;have ih:=Zba9 h1.2;unfold cptR;split
  .exact ih
  .rename_i e;refine Yb6.2 ⟨λx hx=>?_,ih⟩;rw[Zyz]at hx;have hab:cmpR a b<0:=by
    have h3:=h1.1 b (by simp);unfold leR at h3;simp only[decide_eq_true_eq]at h3;rcases Yc6 h3 with h4|h4
    .exact h4
    .exact absurd (Zev _ _ h4) e
   rcases Yw.1 hx with rfl|hx
   .exact hab
   .have h2:=(Yb6.1 h1.2).1 x hx;unfold leR at h2;simp only[decide_eq_true_eq]at h2;have h5:=Zk9 a b x (by omega) h2;rcases Yc6 h5 with h4|h4
    .exact h4
    .have:=Zev _ _ h4;subst this;have:=Zdm a b;omega
theorem ansR_asc(rows:List (List Int)):AscR (ansR rows):=Zba9 (Zbaw rows)
theorem Zbba(rows:List (List Int))(x:List Int):x∈ansR rows↔x∈rows:=by unfold ansR;rw[Zyz,(Zop rows).mem_iff]
theorem ansR_len(rows:List (List Int)):(ansR rows).length<=rows.length:=by unfold ansR;rw[<-(Zop rows).length_eq];exact Zbax _
theorem Zbq0{rows:List (List Int)}(h1:rows.length<=4096)(h2:∀r∈rows,r.length<=4):Zmk rows=some (.own 0,[.arr 99 1 true ((ansR rows).map isc)]):=by
 have hl:=(Zop rows).length_eq;refine Zbmz ⟨_,Zbas rows h2 (by omega),srtR rows,?_,ansR rows,?_,rfl⟩
 .unfold Zvm;exact c_sort h1 h2
 .unfold Zvn;exact c_cpt (by omega) λr hr=>h2 r ((Zop rows).mem_iff.1 hr)
def putR:List (List Int)->List Int->Bool->List (List Int)
 |[],row,put=>if put=true then[]else[row]
 |e::es,row,put=>if cmpR e row=0 then e::putR es row true else if 0<cmpR e row then(if put=true then e::putR es row true else row::e::putR es row true)else e::putR es row put
theorem Zsr:∀(es:List (List Int)) (row:List Int),putR es row true=es
 |[],_=>rfl
 |e::es,row=>by
  unfold putR;rw[Zsr es row];simp
theorem Zss:∀(es:List (List Int)) (row x:List Int),x∈putR es row false↔x∈es\/x=row
 |[],row,x=>by simp[putR]
 |e::es,row,x=>by
  have ih:=Zss es row x;unfold putR;rw[Zsr];by_cases h1:cmpR e row=0
  .rw[if_pos h1];have:=Zev _ _ h1;subst this;simp;exact λh=>.inl h
  .rw[if_neg h1];by_cases h2:0<cmpR e row
   .rw[if_pos h2,if_neg (by decide)];simp only[Yw];constructor
    .rintro(h|h|h)
     .exact .inr h
     .exact .inl (.inl h)
     .exact .inl (.inr h)
    .rintro((h|h)|h)
     .exact .inr (.inl h)
     .exact .inr (.inr h)
     .exact .inl h
   .rw[if_neg h2,Yw,ih,Yw,or_assoc]
theorem Zbbb:∀{es:List (List Int)} (row:List Int),AscR es->AscR (putR es row false)
 |[],row,_=>by simp[putR]
 |e::es,row,h=>by
  have h':=Yb6.1 h;unfold putR;rw[Zsr];by_cases h1:cmpR e row=0
  .rw[if_pos h1];exact h
  .rw[if_neg h1];by_cases h2:0<cmpR e row
   .rw[if_pos h2,if_neg (by decide)];have h3:cmpR row e<0:=by have:=Zdm e row;omega
    refine Yb6.2 ⟨λx hx=>?_,h⟩;rcases Yw.1 hx with rfl|hx
    .exact h3
    .have h4:=h'.1 x hx;have h5:=Zk9 row e x (by omega) (by omega);rcases Yc6 h5 with h6|h6
     .exact h6
     .have:=Zev _ _ h6;subst this;have:=Zdm e row;omega
   .rw[if_neg h2];refine Yb6.2 ⟨λx hx=>?_,Zbbb row h'.2⟩;rw[Zss]at hx;rcases hx with hx|rfl
    .exact h'.1 x hx
    .omega
theorem Zbbc:∀(es:List (List Int)) (row:List Int) (put:Bool),(putR es row put).length<=es.length+1
 |[],row,put=>by unfold putR;split<;>simp
 |e::es,row,put=>by
  unfold putR;rw[Zsr];have:=Zbbc es row put;split
  .simp
  .split
   .split<;>simp
   .simp only[Yn];omega
theorem l_put{rows:List (List Int)}{row:List Int}(hl:rows.length<=5000)(h4:∀r∈rows,r.length<=4)(hr:row.length<=4):∀i,i<=rows.length->∀(out:List (List Int)) (put:Bool),out.length+2*(rows.length-i)<=20000->Zfx out rows row put i=some (.own 0,[.arr 99 1 true ((out++putR (rows.drop i) row put).map isc)]):=by
 refine down _ ?_ ?_
 .intro out put ho;refine Z9j ?_;rw[if_neg (by omega),Ym];rcases tf put with e|e
  .subst e;rw[if_neg (by decide)];exact⟨by omega,by omega,rfl⟩
  .subst e;rw[if_pos rfl];simp[putR]
 .intro i hi ih out put ho;have he:=h4 _ (Ya hi);refine Z9j ?_;rw[if_pos (by omega),wS hi (by omega),Ye hi];refine⟨by omega,_,gE hi,_,Zir _ _ (by omega) (by omega),?_⟩;unfold putR;by_cases h1:cmpR rows[i] row=0
  .rw[if_pos h1,if_pos h1,if_neg (by omega)];refine⟨by omega,by omega,?_⟩;rw[ih _ _ (by simp;omega)];simp
  .rw[if_neg h1,if_neg h1];by_cases h2:0<cmpR rows[i] row
   .rw[if_pos h2,if_pos h2];rcases tf put with e|e
    .subst e;rw[if_neg (by decide),if_neg (by decide)];refine⟨by omega,by omega,by omega,by omega,?_⟩;rw[ih _ _ (by simp;omega)];simp
    .subst e;rw[if_pos rfl,if_pos rfl];refine⟨by omega,by omega,?_⟩;rw[ih _ _ (by simp;omega)];simp
   .rw[if_neg h2,if_neg h2];refine⟨by omega,by omega,?_⟩;rw[ih _ _ (by simp;omega)];simp
theorem x_put1{rows:List (List Int)}{row:List Int}(hl:rows.length<=5000)(h4:∀r∈rows,r.length<=4)(hr:row.length<=4):Zrs rows row=some (.own 0,[.arr 99 1 true ((putR rows row false).map isc)]) :=
 Zbou (by simpa using l_put hl h4 hr 0 (Yb _) [] false (by simp;omega))
def Zit(c rows:List (List Int)):List (List Int):=rows.foldl (λl r=>putR l r false) c
theorem Zbbd:∀(rows c:List (List Int)) (x:List Int),x∈Zit c rows↔x∈c\/x∈rows
 |[],c,x=>by simp[Zit]
 |r::rows,c,x=>by
  show x∈Zit (putR c r false) rows↔_;rw[Zbbd rows,Zss,Yw,or_assoc]
theorem Zbbe:∀{rows c:List (List Int)},AscR c->AscR (Zit c rows)
 |[],c,h=>h
 |r::rows,c,h=>Zbbe (rows:=rows) (Zbbb r h)
theorem Zbq1(rows:List (List Int)):Zit [] rows=ansR rows :=
 Zba8 (Zbbe .nil) (ansR_asc rows) λx=>by rw[Zbbd,Zbba];simp
def selT(rows:List (List Int))(c:List Int):List (List Int):=rows.map λr=>selC r c
def cnt(all:List (List Int))(g:List Int):Int:=((all.filter λx=>decide (x=g)).length:Int)
def subs(n:Int):List (List Int):=if n=1 then[[0]]else if n=2 then[[0],[1],[0,1]]else[[0],[1],[0,1],[2],[0,2],[1,2],[0,1,2]]
def grpV(rows:List (List Int))(c:List Int):List (List Int):=ansR (selT rows c)
def grpN(rows:List (List Int))(c:List Int):List Int:=(grpV rows c).map (cnt (selT rows c))
def grp(rows:List (List Int))(c:List Int):Zj:=⟨c,grpV rows c,grpN rows c⟩
def Zb1(t:Zc):Zd:=⟨t.Name,t.Arity,t.Rows.length,(subs t.Arity).map (grp t.Rows)⟩
theorem subs_col{n:Int}(h:inR n 1 3=true):∀c∈subs n,c.length<=3/\(∀x∈c,0<=x/\x<n)/\c.Pairwise (·<·):=by
 have h':1<=n/\n<=3:=by simpa[inR]using h
 have:n=1\/n=2\/n=3:=by omega
 rcases this with rfl|rfl|rfl<;>decide
theorem Zst(rows:List (List Int))(cols:List Int):(selT rows cols).length=rows.length:=by simp[selT]
theorem Zbbf(rows:List (List Int))(cols:List Int):(grpV rows cols).length<=rows.length:=by
 have:=ansR_len (selT rows cols);rw[Zst]at this;exact this
theorem Zbbg{rows:List (List Int)}{c x:List Int}(h:x∈selT rows c):x.length=c.length:=by
 obtain⟨r,_,rfl⟩:=Y0.1 h;simp[selC]
theorem Zbbh{rows:List (List Int)}{c x:List Int}(h:x∈grpV rows c):x.length=c.length:=Zbbg ((Zbba _ _).1 h)
theorem Zbbi(all:List (List Int))(g:List Int):0<=cnt all g:=by unfold cnt;omega
theorem cnt_le(all:List (List Int))(g:List Int):cnt all g<=all.length:=by
 unfold cnt;have:=List.length_filter_le (λx=>decide (x=g)) all;omega
def ltI(a b:Int):Bool:=decide (a<b)
def ascN(n:Int):Option Int->List Int->Bool
 |_,[]=>true
 |p,v::vs=>inR v 0 (n-1) && nxt ltI p v && ascN n (some v) vs
def Zcr(n:Int)(vs:List Int):Bool:=ascN n none vs
theorem Zbbj{n:Int}:∀{vs:List Int} {p:Option Int},ascN n p vs=true->∀c∈vs,0<=c/\c<n
 |[],_,_,c,hc=>by cases hc
 |v::vs,p,h,c,hc=>by
  simp only[ascN,Yf]at h;have h1:0<=v/\v<=n-1:=by simpa[inR]using h.1.1
  rcases Yw.1 hc with rfl|hc
  .omega
  .exact Zbbj h.2 c hc
theorem Zbbk{n:Int}:∀{vs:List Int} {q:Int},ascN n (some q) vs=true->-1<=q->q<n->(vs.length:Int)<=n-1-q
 |[],q,_,h1,h2=>by simp;omega
 |v::vs,q,h,h1,h2=>by
  simp only[ascN,Yf]at h;have h3:0<=v/\v<=n-1:=by simpa[inR]using h.1.1
  have h4:q<v:=by simpa[nxt,ltI]using h.1.2
  have:=Zbbk h.2 (by omega) (by omega);simp only[Yn];omega
theorem Zbq2{n:Int}{vs:List Int}(h:Zcr n vs=true)(hn:0<=n):(vs.length:Int)<=n:=by
 cases vs with
 |nil=>simp;omega
 |cons v vs =>
  simp only[Zcr,ascN,Yf]at h;have h3:0<=v/\v<=n-1:=by simpa[inR]using h.1.1
  have:=Zbbk h.2 (by omega) (by omega);simp only[Yn];omega
theorem Zsu{n:Int}(h:inR n 1 3=true):∀c∈subs n,Zcr n c=true:=by
 have h':1<=n/\n<=3:=by simpa[inR]using h
 have:n=1\/n=2\/n=3:=by omega
 rcases this with rfl|rfl|rfl<;>decide
theorem w1{n:Int}(h:1<=n/\n<=3):w (n-1)=n-1:=Zt (by omega) (by omega)
theorem Zbq3(n:Int)(hn:1<=n/\n<=3)(vs:List Int)(hl:Le vs):∀i,i<=vs.length->Zjn vs n vs vs.length i=some (Bo (ascN n (pvA vs i) (vs.drop i)),[]):=by
 refine down _ ?_ ?_
 .refine Z78 ?_;rw[if_neg (by omega),Ym];rfl
 .intro i hi ih;refine Z78 ?_;rw[if_pos (by omega),Ye hi,ascN,wS hi (by omega),w1 hn];refine⟨by omega,_,gE hi,_,Zb6 _ _ _,?_⟩;rw[show pvA vs (i+1)=some vs[i]from Yk hi]at ih;rcases tf (inR vs[i] 0 (n-1))with e|e
  .rw[e];simp
  .rw[e,if_pos rfl,ih];by_cases h0:(0:Int)<(i:Int)
   .rw[if_pos h0,wP (by omega) hi (by omega),Zis (by omega) (by omega)];refine⟨by omega,_,gE (by omega),?_⟩;by_cases h2:vs[i]<=vs[i-1]
    .rw[if_pos h2];simp[nxt,ltI];omega
    .rw[if_neg h2];simp[nxt,ltI,show vs[i-1]<vs[i] by omega]
   .obtain rfl:i=0:=by omega
    rw[if_neg h0];simp[nxt,pvA]
theorem Zbbl(n:Int)(hn:1<=n/\n<=3)(vs:List Int)(hl:Le vs):Zht vs n=some (Bo (Zcr n vs),[]) :=
 Zbmx (by simpa[Zcr,pvA]using Zbq3 n hn vs hl 0 (Yb _))
theorem Zbq4(t:Zc)(h:LeT t)(hn:1<=t.Arity/\t.Arity<=3)(vs:List Int)(hl:Le vs):∀i,i<=vs.length->Zkb t vs i=some (Bo (ascN t.Arity (pvA vs i) (vs.drop i) && Zbn t),[]):=by
 refine down _ ?_ ?_
 .refine Z9h ?_;rw[if_neg (by omega),Ym];exact⟨_,Zyy t h,by simp[ascN]⟩
 .intro i hi ih;refine Z9h ?_;rw[if_pos (by omega),Ye hi,ascN,wS hi (by omega),w1 hn];refine⟨by omega,_,gE hi,_,Zbt _ _ _,?_⟩;rw[show pvA vs (i+1)=some vs[i]from Yk hi]at ih;rcases tf (inR vs[i] 0 (t.Arity-1))with e|e
  .rw[e];simp
  .rw[e,if_pos rfl,ih];by_cases h0:(0:Int)<(i:Int)
   .rw[if_pos h0,wP (by omega) hi (by omega),Zis (by omega) (by omega)];refine⟨by omega,_,gE (by omega),?_⟩;by_cases h2:vs[i]<=vs[i-1]
    .rw[if_pos h2];simp[nxt,ltI];omega
    .rw[if_neg h2];simp[nxt,ltI,show vs[i-1]<vs[i] by omega]
   .obtain rfl:i=0:=by omega
    rw[if_neg h0];simp[nxt,pvA]
theorem Zbbm(t:Zc)(h:LeT t)(hn:1<=t.Arity/\t.Arity<=3)(vs:List Int)(hl:Le vs):Zh9 t vs=some (Bo (Zcr t.Arity vs && Zbn t),[]) :=
 Zbos (by simpa[Zcr,pvA]using Zbq4 t h hn vs hl 0 (Yb _))
theorem Zbq5{n:Int}(h:inR n 1 3=true):Zjm n=some (.own 0,[.arr 99 1 true ((subs n).map isc)]):=by
 have h':1<=n/\n<=3:=by simpa[inR]using h
 have w01:w (0+1)=1:=by decide
 have w12:w (1+1)=2:=by decide
 have w23:w (2+1)=3:=by decide
 have w34:w (3+1)=4:=by decide
 have b1:Ze2 1=some (.own 0,[.arr 3 1 true (([0]:List Int).map ic)]):=by
  refine Zin ?_
  repeat (refine Zim ?_;simp +decide[-List.map_cons,w01,w12,w23,w34])
 have b2:Ze2 2=some (.own 0,[.arr 3 1 true (([1]:List Int).map ic)]):=by
  refine Zin ?_
  repeat (refine Zim ?_;simp +decide[-List.map_cons,w01,w12,w23,w34])
 have b3:Ze2 3=some (.own 0,[.arr 3 1 true (([0,1]:List Int).map ic)]):=by
  refine Zin ?_
  repeat (refine Zim ?_;simp +decide[-List.map_cons,w01,w12,w23,w34])
 have b4:Ze2 4=some (.own 0,[.arr 3 1 true (([2]:List Int).map ic)]):=by
  refine Zin ?_
  repeat (refine Zim ?_;simp +decide[-List.map_cons,w01,w12,w23,w34])
 have b5:Ze2 5=some (.own 0,[.arr 3 1 true (([0,2]:List Int).map ic)]):=by
  refine Zin ?_
  repeat (refine Zim ?_;simp +decide[-List.map_cons,w01,w12,w23,w34])
 have b6:Ze2 6=some (.own 0,[.arr 3 1 true (([1,2]:List Int).map ic)]):=by
  refine Zin ?_
  repeat (refine Zim ?_;simp +decide[-List.map_cons,w01,w12,w23,w34])
 have b7:Ze2 7=some (.own 0,[.arr 3 1 true (([0,1,2]:List Int).map ic)]):=by
  refine Zin ?_
  repeat (refine Zim ?_;simp +decide[-List.map_cons,w01,w12,w23,w34])
 refine Zbmw ⟨_,Zb6 _ _ _,?_⟩;rw[h,if_pos rfl];have step:∀(out:List (List Int)) (s:Int) (v:List Int) (r:AV×List Blk),s<shlI 1 n->Ze2 s=some (.own 0,[.arr 3 1 true (v.map ic)])->out.length+1<=68719476736->Zhs (out++[v]) n (w (s+1))=some r->Zhs out n s=some r:=by
  intro out s v r h1 h2 h3 h4;refine Z77 ⟨by omega,?_⟩;rw[if_pos h1];exact⟨_,h2,h3,h4⟩
 have fin:∀(out:List (List Int)) (s:Int),¬s<shlI 1 n->Zhs out n s=some (.own 0,[.arr 99 1 true (out.map isc)]):=by
  intro out s h1;refine Z77 ⟨by omega,?_⟩;rw[if_neg h1]
 have:n=1\/n=2\/n=3:=by omega
 rcases this with rfl|rfl|rfl
 .exact step _ 1 _ _ (by decide) b1 (by decide) (fin _ _ (by decide))
 .exact step _ 1 _ _ (by decide) b1 (by decide) (step _ 2 _ _ (by decide) b2 (by decide) (step _ 3 _ _ (by decide) b3 (by decide) (fin _ _ (by decide))))
 .exact step _ 1 _ _ (by decide) b1 (by decide) (step _ 2 _ _ (by decide) b2 (by decide) (step _ 3 _ _ (by decide) b3 (by decide) (step _ 4 _ _ (by decide) b4 (by decide) (step _ 5 _ _ (by decide) b5 (by decide) (step _ 6 _ _ (by decide) b6 (by decide) (step _ 7 _ _ (by decide) b7 (by decide) (fin _ _ (by decide))))))))
theorem Zbq6{n:Int}(h:inR n 1 3=true):Znn n=some (.own 0,[.arr 99 1 true ((subs n).map isc)]):=by
 have h':1<=n/\n<=3:=by simpa[inR]using h
 have w01:w (0+1)=1:=by decide
 have w12:w (1+1)=2:=by decide
 have w23:w (2+1)=3:=by decide
 have b:∀{s:Int} {v:List Int},Zka [] s 0=some (.own 0,[.arr 3 1 true (v.map ic)])->Zef s=some (.own 0,[.arr 3 1 true (v.map ic)]):=λh=>Zboq h
 have b1:Zef 1=some (.own 0,[.arr 3 1 true (([0]:List Int).map ic)]):=by
  refine b ?_
  repeat (refine Zio ?_;simp +decide[-List.map_cons,w01,w12,w23])
 have b2:Zef 2=some (.own 0,[.arr 3 1 true (([1]:List Int).map ic)]):=by
  refine b ?_
  repeat (refine Zio ?_;simp +decide[-List.map_cons,w01,w12,w23])
 have b3:Zef 3=some (.own 0,[.arr 3 1 true (([0,1]:List Int).map ic)]):=by
  refine b ?_
  repeat (refine Zio ?_;simp +decide[-List.map_cons,w01,w12,w23])
 have b4:Zef 4=some (.own 0,[.arr 3 1 true (([2]:List Int).map ic)]):=by
  refine b ?_
  repeat (refine Zio ?_;simp +decide[-List.map_cons,w01,w12,w23])
 have b5:Zef 5=some (.own 0,[.arr 3 1 true (([0,2]:List Int).map ic)]):=by
  refine b ?_
  repeat (refine Zio ?_;simp +decide[-List.map_cons,w01,w12,w23])
 have b6:Zef 6=some (.own 0,[.arr 3 1 true (([1,2]:List Int).map ic)]):=by
  refine b ?_
  repeat (refine Zio ?_;simp +decide[-List.map_cons,w01,w12,w23])
 have b7:Zef 7=some (.own 0,[.arr 3 1 true (([0,1,2]:List Int).map ic)]):=by
  refine b ?_
  repeat (refine Zio ?_;simp +decide[-List.map_cons,w01,w12,w23])
 refine Zbor ?_;have step:∀(out:List (List Int)) (s:Int) (v:List Int) (r:AV×List Blk),s<shlI 1 n->Zef s=some (.own 0,[.arr 3 1 true (v.map ic)])->out.length+1<=68719476736->Zh8 (out++[v]) n (w (s+1))=some r->Zh8 out n s=some r:=by
  intro out s v r h1 h2 h3 h4;refine Z9g ⟨_,Zbt _ _ _,?_⟩;rw[h,if_pos rfl];refine⟨by omega,?_⟩;rw[if_pos h1];exact⟨_,h2,h3,h4⟩
 have fin:∀(out:List (List Int)) (s:Int),¬s<shlI 1 n->Zh8 out n s=some (.own 0,[.arr 99 1 true (out.map isc)]):=by
  intro out s h1;refine Z9g ⟨_,Zbt _ _ _,?_⟩;rw[h,if_pos rfl];refine⟨by omega,?_⟩;rw[if_neg h1]
 have:n=1\/n=2\/n=3:=by omega
 rcases this with rfl|rfl|rfl
 .exact step _ 1 _ _ (by decide) b1 (by decide) (fin _ _ (by decide))
 .exact step _ 1 _ _ (by decide) b1 (by decide) (step _ 2 _ _ (by decide) b2 (by decide) (step _ 3 _ _ (by decide) b3 (by decide) (fin _ _ (by decide))))
 .exact step _ 1 _ _ (by decide) b1 (by decide) (step _ 2 _ _ (by decide) b2 (by decide) (step _ 3 _ _ (by decide) b3 (by decide) (step _ 4 _ _ (by decide) b4 (by decide) (step _ 5 _ _ (by decide) b5 (by decide) (step _ 6 _ _ (by decide) b6 (by decide) (step _ 7 _ _ (by decide) b7 (by decide) (fin _ _ (by decide))))))))
theorem dropQ{α:Type}[DecidableEq α]{xs ys:List α}{i:Nat}(h1:i<xs.length)(h2:i<ys.length):decide (xs.drop i=ys.drop i)=(decide (xs[i]=ys[i]) && decide (xs.drop (i+1)=ys.drop (i+1))):=by
 have e:(xs.drop i=ys.drop i)=(xs[i]=ys[i]/\xs.drop (i+1)=ys.drop (i+1)):=by
  rw[Ye h1,Ye h2,Ycr]
 rw[decide_eq_decide.2 (iff_of_eq e),Bool.decide_and]
theorem l_slEq(xs ys:List Int)(hl:ys.length=xs.length)(hx:xs.length<=4294967296):∀i,i<=xs.length->Zjo xs ys xs.length i=some (Bo (decide (xs.drop i=ys.drop i)),[]):=by
 refine down _ ?_ ?_
 .refine Z8a ?_;rw[if_neg (by omega),Ym,<-hl,Ym];simp
 .intro i hi ih;have hi':i<ys.length:=by omega
  refine Z8a ?_;rw[if_pos (by omega),wS hi (by omega),dropQ hi hi'];refine⟨by omega,_,gE hi,_,gE hi',?_⟩;by_cases c:xs[i]=ys[i]
  .rw[if_pos c,ih];simp[c]
  .rw[if_neg c];simp[c]
theorem Zoq(xs ys:List Int)(hx:xs.length<=4294967296):Zfh xs ys=some (Bo (decide (xs=ys)),[]):=by
 refine Zbm0 ?_;by_cases c:(xs.length:Int)=(ys.length:Int)
 .rw[if_pos c];simpa using l_slEq xs ys (by omega) hx 0 (Yb _)
 .rw[if_neg c]
  have:¬xs=ys:=λhc=>c (by rw[hc])
  simp[this]
structure RowsN (rows:List (List Int)) (n:Nat):Prop where
 len:rows.length<=8
 row:∀r∈rows,r.length=n
 n3:n<=3
structure Zg6 (cols:List Int) (n:Nat):Prop where
 len:cols.length<=3
 mem:∀c∈cols,0<=c/\c<n
theorem Ze5{t:Zc}(h:Zbn t=true):RowsN t.Rows t.Arity.toNat/\1<=t.Arity/\t.Arity<=3:=by
 have h8:=Zsm h;unfold Zbn at h;simp only[Yf]at h;have h2:1<=t.Arity/\t.Arity<=3:=by simpa[inR]using h.1.1.2
 refine⟨⟨h8,λr hr=>?_,by omega⟩,h2⟩;have h1:=Ys.1 h.2.1 r hr;unfold rwB at h1;simp only[Yf,decide_eq_true_eq]at h1;omega
theorem Zy1{n:Int}{cols:List Int}(h:Zcr n cols=true)(hn:1<=n/\n<=3):Zg6 cols n.toNat:=by
 have h1:=Zbq2 h (by omega);exact⟨by omega,λc hc=>by have:=Zbbj h c hc;omega⟩
theorem Zy2{row cols:List Int}{n:Nat}(hr:row.length=n)(hn:n<=3)(hc:Zg6 cols n):Zc4 row cols=some (.tup [.own 0,Bo true],[.arr 3 1 true ((selC row cols).map ic)]) :=
 Zbqz row cols (by have:=hc.len;omega) (by omega) (by rw[hr];exact hc.mem)
theorem Zbq7(row cols:List Int)(h4:cols.length<=1000)(hr:Le row)(hc:∀c∈cols,0<=c/\c<row.length):∀i,i<=cols.length->Znq (selC row (cols.take i)) row cols i=some (.tup [.own 0,Bo true],[.arr 3 1 true ((selC row cols).map ic)]):=by
 refine down _ ?_ ?_
 .refine Z9i ?_;rw[if_neg (by omega),Yo]
 .intro i hi ih;obtain⟨h0,h1⟩:=hc _ (Ya hi);refine Z9i ?_;rw[if_pos (by omega),wS hi (by omega)];refine⟨by omega,_,gE hi,_,Zbt _ _ _,?_⟩;rw[show w ((row.length:Int)-1)=(row.length:Int)-1 from Zt (by omega) (by omega)];rw[show inR cols[i] 0 ((row.length:Int)-1)=true by simp[inR];omega,if_pos rfl];refine⟨h0,_,gD (by omega),by simp[selC];omega,?_⟩;rw[show selC row (cols.take (i+1))=selC row (cols.take i)++[row.getD cols[i].toNat 0] by unfold selC;rw[Yx hi,Y7];rfl]at ih;exact ih
theorem Zsv{row cols:List Int}{n:Nat}(hr:row.length=n)(hn:n<=3)(hc:Zg6 cols n):Zfw row cols=some (.tup [.own 0,Bo true],[.arr 3 1 true ((selC row cols).map ic)]) :=
 Zbot (by simpa[selC]using Zbq7 row cols (by have:=hc.len;omega) (by omega) (by rw[hr];exact hc.mem) 0 (Yb _))
theorem Zbbn{all:List (List Int)}{j:Nat}(hj:j<all.length)(g:List Int):cnt (all.take (j+1)) g=cnt (all.take j) g+(if g=all[j]then 1 else 0):=by
 unfold cnt;rw[Yx hj,List.filter_append];by_cases e:all[j]=g
 .simp[e]
 .simp[e,Ne.symm e]
def mkC(all cc:List (List Int))(k:Nat)(c:Int):List Int:=(cc.take k).map (cnt all)++c::List.replicate (cc.length-k-1) 0
theorem mkC_get{all groups:List (List Int)}{k:Nat}(hk:k<groups.length)(c:Int):(mkC all groups k c)[k]?=some c:=by
 unfold mkC;rw[Ycm (by simp;omega)];simp[Yy (Ybw hk)]
theorem mkC_set{all groups:List (List Int)}{k:Nat}(hk:k<groups.length)(c d:Int):(mkC all groups k c).set k d=mkC all groups k d:=by
 unfold mkC;rw[List.set_append_right _ _ (by simp;omega)];simp[Yy (Ybw hk)]
def gcR(cc:List (List Int))(c:List Int):AV×List Blk:=(.tup [.own 0,.own 1],[.arr 99 1 true (cc.map isc),.arr 3 1 true (c.map ic)])
theorem l_gc1(all groups:List (List Int))(r:AV×List Blk)(ha:all.length<=4096)(h4:∀x∈all,x.length<=4){k:Nat}(hk:k<groups.length)(cd:groups.length<=4096)(cc:groups[k].length<=4)
  (c:Zhv all groups (mkC all groups k (cnt all groups[k])) groups.length (w ((k:Int)+1))=some r):∀j,j<=all.length->Zjp all groups (mkC all groups k (cnt (all.take j) groups[k])) k groups[k] groups.length k all.length j=some r:=by
 refine down _ ?_ ?_
 .refine Z8c ?_;rw[if_neg (by omega),Yo];exact c
 .intro j hj ih;refine Z8c ?_;rw[if_pos (by omega),wS hj (by omega)];refine⟨by omega,_,gE hj,_,Zoq _ _ (by omega),?_⟩;rw[Zbbn hj]at ih;by_cases e:groups[k]=all[j]
  .rw[if_pos e]at ih;rw[if_pos (by simpa using e)];refine⟨by omega,_,by rw[Yt];exact mkC_get hk _,?_⟩;have h1:=Zbbi (all.take j) groups[k];have h2:=cnt_le (all.take j) groups[k];have h3:(all.take j).length<=all.length:=by simp;omega
   rw[Yt,mkC_set hk,show w (cnt (all.take j) groups[k]+1)=cnt (all.take j) groups[k]+1 from Zt (by omega) (by omega)];exact ih
  .rw[if_neg e,Int.add_zero]at ih;rw[if_neg (by simpa using e)];exact ih
theorem l_gc2(all groups:List (List Int))(ha:all.length<=4096)(h4:∀x∈all,x.length<=4)(hg:groups.length<=4096)(c:∀x∈groups,x.length<=4):∀k,k<=groups.length->Zhv all groups ((groups.take k).map (cnt all)++List.replicate (groups.length-k) 0) groups.length k=some (gcR groups (groups.map (cnt all))):=by
 refine down _ ?_ ?_
 .refine Z8b ?_;rw[if_neg (by omega),Yo];simp[gcR]
 .intro k hk ih;refine Z8b ?_;rw[if_pos (by omega)];refine⟨by omega,_,gE hk,?_⟩;have e0:(groups.take k).map (cnt all)++List.replicate (groups.length-k) 0=mkC all groups k (cnt (all.take 0) groups[k]):=by
   unfold mkC;rw[show groups.length-k=(groups.length-k-1)+1 by omega,Ych];simp[cnt]
  rw[e0];refine l_gc1 all groups _ ha h4 hk hg (c _ (Ya hk)) ?_ 0 (Yb _);rw[wS hk (by omega)];have e1:(groups.take (k+1)).map (cnt all)++List.replicate (groups.length-(k+1)) 0=mkC all groups k (cnt all groups[k]):=by
   unfold mkC;rw[Yx hk,Y7,show groups.length-(k+1)=groups.length-k-1 by omega];simp
  rw[e1]at ih;exact ih
theorem l_gc0{rows:List (List Int)}{cols:List Int}{n:Nat}(hR:RowsN rows n)(hC:Zg6 cols n):∀i,i<=rows.length->Zft (selT (rows.take i) cols) cols rows rows.length i=some (gcR (grpV rows cols) (grpN rows cols)):=by
 have h8:=hR.len;have h3:=hC.len;refine down _ ?_ ?_
 .refine Z8f ?_;rw[if_neg (by omega),Yo];have hl:=Zst rows cols;have hg:=Zbbf rows cols;have h4:∀r∈selT rows cols,r.length<=4:=λr hr=>by have:=Zbbg hr;omega
  refine⟨grpV rows cols,Zbq0 (by omega) h4,by omega,by omega,by rw[Yt];unfold room;omega,by omega,?_⟩;have:=l_gc2 (selT rows cols) (grpV rows cols) (by omega) h4 (by omega) (λx hx=>by have:=Zbbh hx;omega) 0 (Yb _);simpa[grpN]using this
 .intro i hi ih;refine Z8f ?_;rw[if_pos (by omega),wS hi (by omega)];have hr:=hR.row _ (Ya hi);rw[show selT (rows.take (i+1)) cols=selT (rows.take i) cols++[selC rows[i] cols] by unfold selT;rw[Yx hi,Y7];rfl]at ih;exact⟨by omega,_,gE hi,.inr ⟨_,Zy2 hr hR.n3 hC,by simp[selT];omega,ih⟩⟩
theorem Zbbo{t:Zc}(h:LeT t)(hv:Zbn t=true){c:List Int}(hc:Zcr t.Arity c=true):Zhu t c=some (gcR (grpV t.Rows c) (grpN t.Rows c)):=by
 obtain⟨hR,hA⟩:=Ze5 hv;have hC:=Zy1 hc hA;refine Zbm1 ⟨_,Zyx t h,?_⟩;rw[hv,if_pos rfl];refine⟨_,Zbbl _ hA c (by have:=hC.len;omega),?_⟩;rw[hc,if_pos rfl];simpa[selT]using l_gc0 hR hC 0 (Yb _)
theorem l_sgc1(t:Zc)(c:List (List Int))(counts cols:List Int){n:Nat}(hR:RowsN t.Rows n)(hC:Zg6 cols n)(r:AV×List Blk){k:Nat}(hk:k<c.length)(cd:∀x∈c,x.length<=4)(cl:counts.length<=4096)
  (cc:Zia t c (counts++[cnt (selT t.Rows cols) c[k]]) cols (w ((k:Int)+1))=some r):∀j,j<=t.Rows.length->Zib t c counts cols k (cnt (selT (t.Rows.take j) cols) c[k]) j=some r:=by
 have h8:=hR.len;refine down _ ?_ ?_
 .refine Z9m ?_;rw[if_neg (by omega),Yo];exact⟨by omega,cc⟩
 .intro j hj ih;refine Z9m ?_;rw[if_pos (by omega),wS hj (by omega)];have hr:=hR.row _ (Ya hj);have hv4:=cd _ (Ya hk);have hs:(selC t.Rows[j] cols).length<=3:=by have:=hC.len;simp[selC];omega
  refine⟨by omega,_,gE hj,_,_,Zsv hr hR.n3 hC,by omega,_,gE hk,_,Zir _ _ (by omega) (by omega),?_⟩;have hj':j<(selT t.Rows cols).length:=by rw[Zst];exact hj
  have ht:∀i,selT (t.Rows.take i) cols=(selT t.Rows cols).take i:=λi=>by simp[selT,List.map_take]
  have he:(selT t.Rows cols)[j]=selC t.Rows[j] cols:=by simp[selT]
  rw[ht,Zbbn hj',he]at ih;rw[ht];by_cases e:c[k]=selC t.Rows[j] cols
  .rw[if_pos e]at ih;rw[if_pos (by rw[e];exact Zg5 _)];have h1:=Zbbi ((selT t.Rows cols).take j) c[k];have h2:=cnt_le ((selT t.Rows cols).take j) c[k];have h3:((selT t.Rows cols).take j).length<=t.Rows.length:=by rw[Ybb,Zst];omega
   rw[show w (cnt ((selT t.Rows cols).take j) c[k]+1)=cnt ((selT t.Rows cols).take j) c[k]+1 from Zt (by omega) (by omega)];exact ih
  .rw[if_neg e,Int.add_zero]at ih;rw[if_neg (λhc=>e (Zev _ _ hc).symm)];exact ih
theorem l_sgc2(t:Zc)(values:List (List Int))(cols:List Int){n:Nat}(hR:RowsN t.Rows n)(hC:Zg6 cols n)(hv:values.length<=4096)(c:∀x∈values,x.length<=4):∀k,k<=values.length->Zia t values ((values.take k).map (cnt (selT t.Rows cols))) cols k=some (gcR values (values.map (cnt (selT t.Rows cols)))):=by
 refine down _ ?_ ?_
 .refine Z9l ?_;rw[if_neg (by omega),Yo];rfl
 .intro k hk ih;refine Z9l ?_;rw[if_pos (by omega)];rw[Yx hk,Y7]at ih;have:=l_sgc1 t values ((values.take k).map (cnt (selT t.Rows cols))) cols hR hC _ hk c (by simp;omega) (by rw[wS hk (by omega)];exact ih) 0 (Yb _);simpa[cnt,selT]using this
theorem l_sgc0(t:Zc)(cols:List Int){n:Nat}(hR:RowsN t.Rows n)(hC:Zg6 cols n):∀i,i<=t.Rows.length->∀acc:List (List Int),acc.length<=i->(∀x∈acc,x.length<=4)->
  Zkc t acc [] cols i=some (gcR (Zit acc (selT (t.Rows.drop i) cols)) ((Zit acc (selT (t.Rows.drop i) cols)).map (cnt (selT t.Rows cols)))):=by
 have h8:=hR.len;refine down _ ?_ ?_
 .intro acc ha h4;refine Z9k ?_;rw[if_neg (by omega),Ym];exact l_sgc2 t acc cols hR hC (by omega) h4 0 (Yb _)
 .intro i hi ih acc ha h4;refine Z9k ?_;rw[if_pos (by omega),wS hi (by omega),Ye hi];have hr:=hR.row _ (Ya hi);have hs:(selC t.Rows[i] cols).length<=4:=by have:=hC.len;simp[selC];omega
  have hp:=Zbbc acc (selC t.Rows[i] cols) false
  exact⟨by omega,_,gE hi,_,_,Zsv hr hR.n3 hC,_,x_put1 (by omega) h4 hs,ih _ (by omega) (λx hx=>by
   rcases(Zss _ _ _).1 hx with hx|rfl
   .exact h4 x hx
   .exact hs)⟩
theorem Zbbp{t:Zc}(h:LeT t)(hv:Zbn t=true){c:List Int}(hc:Zcr t.Arity c=true):Znr t c=some (gcR (grpV t.Rows c) (grpN t.Rows c)):=by
 obtain⟨hR,hA⟩:=Ze5 hv;have hC:=Zy1 hc hA;refine Zbov ⟨_,Zbbm t h hA c (by have:=hC.len;omega),?_⟩;rw[hc,hv,if_pos (by rfl)];have:=l_sgc0 t c hR hC 0 (Yb _) [] (by simp) (by simp);rw[Yu,Zbq1]at this;exact this
def stR(t:Zc):AV×List Blk:=(.agg [.t (.str t.Name),I t.Arity,I (t.Rows.length:Int),.own 0],[.arr 193 3 false ((Zb1 t).Groups.map Zj.c)])
theorem Zor{n:Int}(h:inR n 1 3=true):0<(subs n).length/\(subs n).length<=7:=by
 have h':1<=n/\n<=3:=by simpa[inR]using h
 have:n=1\/n=2\/n=3:=by omega
 rcases this with rfl|rfl|rfl<;>decide
theorem Zew{t:Zc}(h:Zbn t=true):inR t.Arity 1 3=true:=by
 unfold Zbn at h;simp only[Yf]at h;exact h.1.1.2
theorem Zbq8{t:Zc}(h:LeT t)(hv:Zbn t=true)(a:ByteArray)(b c:Int)(a':ByteArray)(b' c':Int):∀i,i<=(subs t.Arity).length->Zhx t a b c a' b' c' false (((subs t.Arity).take i).map (grp t.Rows)) (subs t.Arity) (subs t.Arity).length i=some (.agg [.t (.str a'),I b',I c',.own 0],[.arr 193 3 false (((subs t.Arity).map (grp t.Rows)).map Zj.c)]):=by
 have h7:=Zor (Zew hv);refine down _ ?_ ?_
 .refine Z8d ?_;rw[if_neg (by omega),Yo]
 .intro i hi ih;refine Z8d ?_;rw[if_pos (by omega),wS hi (by omega)];rw[Yx hi,Y7]at ih;exact⟨by omega,_,gE hi,.inr ⟨_,_,Zbbo h hv (Zsu (Zew hv) _ (Ya hi)),by simp;omega,ih⟩⟩
theorem Zbbq{t:Zc}(h:LeT t)(hv:Zbn t=true):Zhw t=some (stR t):=by
 have h7:=Zor (Zew hv);refine Zbm3 ⟨_,Zyx t h,?_⟩;rw[hv,if_pos rfl];refine .inr ⟨_,Zbq5 (Zew hv),Zbm2 ?_⟩;rw[if_pos (by omega)];refine⟨by omega,_,gE (i:=0) h7.1,.inr ⟨_,_,Zbbo h hv (Zsu (Zew hv) _ (Ya h7.1)),?_⟩⟩;have:=Zbq8 h hv ⟨#[]⟩ 0 0 t.Name t.Arity (t.Rows.length:Int) 1 (by omega);rw[Yx h7.1]at this;rw[show w (0+1)=1 from by decide];unfold stR Zb1;simpa[grp]using this
theorem Zbq9{t:Zc}(h:LeT t)(hv:Zbn t=true)(a:ByteArray)(b c:Int)(a':ByteArray)(b' c':Int):∀i,i<=(subs t.Arity).length->Zns t a b c a' b' c' false (((subs t.Arity).take i).map (grp t.Rows)) (subs t.Arity) i=some (.agg [.t (.str a'),I b',I c',.own 0],[.arr 193 3 false (((subs t.Arity).map (grp t.Rows)).map Zj.c)]):=by
 have h7:=Zor (Zew hv);refine down _ ?_ ?_
 .refine Z9n ?_;rw[if_neg (by omega),Yo]
 .intro i hi ih;refine Z9n ?_;rw[if_pos (by omega),wS hi (by omega)];rw[Yx hi,Y7]at ih;exact⟨by omega,_,gE hi,_,_,Zbbp h hv (Zsu (Zew hv) _ (Ya hi)),by simp;omega,ih⟩
theorem Zbbr{t:Zc}(h:LeT t)(hv:Zbn t=true):Zic t=some (stR t):=by
 have h7:=Zor (Zew hv);refine Zbox ⟨_,Zyy t h,?_⟩;rw[hv,if_pos rfl];refine⟨_,Zbq6 (Zew hv),Zbow ?_⟩;rw[if_pos (by omega)];refine⟨by omega,_,gE (i:=0) h7.1,_,_,Zbbp h hv (Zsu (Zew hv) _ (Ya h7.1)),?_⟩;have:=Zbq9 h hv ⟨#[]⟩ 0 0 t.Name t.Arity (t.Rows.length:Int) 1 (by omega);rw[Yx h7.1]at this;rw[show w (0+1)=1 from by decide];unfold stR Zb1;simpa[grp]using this
def catF(d:Zh)(v:Int):AV×List Blk:=if Zb0 d && inR v 1 999 then(if d.Tables=[]then(.tup [.agg [I v,.t .nil],Bo true],[])else(.tup [.agg [I v,.own 0],Bo true],[.arr 146 4 false ((d.Tables.map Zb1).map Zd.c)]))else(.tup [.agg [I 0,.t .nil],Bo false],[])
theorem tab_le{d:Zh}(hv:Zb0 d=true):d.Tables.length<=6:=by
 unfold Zb0 at hv;simp only[Yf,decide_eq_true_eq]at hv;omega
theorem Zbra{d:Zh}(h:LeD d)(hv:Zb0 d=true)(a b:Int):∀i,i<=d.Tables.length->Zhy a b false ((d.Tables.take i).map Zb1) d.Tables d.Tables.length i=some (.tup [.agg [I b,.own 0],Bo true],[.arr 146 4 false ((d.Tables.map Zb1).map Zd.c)]):=by
 have h6:=tab_le hv;refine down _ ?_ ?_
 .refine Z8e ?_;rw[if_neg (by omega),Yo]
 .intro i hi ih;refine Z8e ?_;rw[if_pos (by omega),wS hi (by omega)];rw[Yx hi,Y7]at ih;have hm:=Ya hi;exact⟨by omega,_,gE hi,.inr ⟨_,_,_,_,_,Zbbq (h.2 _ hm) (Zfm hv hm),by simp;omega,ih⟩⟩
theorem Zbrb{d:Zh}(h:LeD d)(v:Int):Zjq d v=some (catF d v):=by
 refine Zbm5 ⟨_,Zbaq d h,?_⟩;unfold catF;rcases tf (Zb0 d)with hv|hv
 .rw[hv];rfl
 rw[hv,if_pos rfl];refine⟨_,Zb6 _ _ _,?_⟩;rcases tf (inR v 1 999)with e|e
 .rw[e];rfl
 rw[e,if_pos rfl,if_pos (by rfl)];refine Zbm4 ?_;by_cases e0:d.Tables=[]
 .rw[if_neg (by rw[e0];simp),if_pos e0]
 .have h0:0<d.Tables.length:=Ybf.2 e0;have hm:=Ya h0;rw[if_pos (by omega),if_neg e0];refine⟨by omega,_,gE (i:=0) h0,.inr ⟨_,_,_,_,_,Zbbq (h.2 _ hm) (Zfm hv hm),?_⟩⟩;have:=Zbra h hv 0 v 1 (by omega);rw[Yx h0]at this;rw[show w (0+1)=1 from by decide];simpa[Zb1]using this
theorem Zbrc{d:Zh}(h:LeD d)(hv:Zb0 d=true)(a b:Int):∀i,i<=d.Tables.length->Zid d a b false ((d.Tables.take i).map Zb1) i=some (.tup [.agg [I b,.own 0],Bo true],[.arr 146 4 false ((d.Tables.map Zb1).map Zd.c)]):=by
 have h6:=tab_le hv;refine down _ ?_ ?_
 .refine Z9o ?_;rw[if_neg (by omega),Yo]
 .intro i hi ih;refine Z9o ?_;rw[if_pos (by omega),wS hi (by omega)];rw[Yx hi,Y7]at ih;have hm:=Ya hi;exact⟨by omega,_,gE hi,.inr ⟨_,_,_,_,_,Zbbr (h.2 _ hm) (Zfm hv hm),by simp;omega,ih⟩⟩
theorem Zbrd{d:Zh}(h:LeD d)(v:Int):Zkd d v=some (catF d v):=by
 refine Zboz ⟨_,Zbar d h,?_⟩;unfold catF;rcases tf (Zb0 d)with hv|hv
 .rw[hv];rfl
 rw[hv,if_pos rfl];refine⟨_,Zbt _ _ _,?_⟩;rcases tf (inR v 1 999)with e|e
 .rw[e];rfl
 rw[e,if_pos rfl,if_pos (by rfl)];refine Zboy ?_;by_cases e0:d.Tables=[]
 .rw[if_neg (by rw[e0];simp),if_pos e0]
 .have h0:0<d.Tables.length:=Ybf.2 e0;have hm:=Ya h0;rw[if_pos (by omega),if_neg e0];refine⟨by omega,_,gE (i:=0) h0,.inr ⟨_,_,_,_,_,Zbbr (h.2 _ hm) (Zfm hv hm),?_⟩⟩;have:=Zbrc h hv 0 v 1 (by omega);rw[Yx h0]at this;rw[show w (0+1)=1 from by decide];simpa[Zb1]using this
abbrev LeG(g:Zj):Prop:=g.Columns.length<=4294967296/\(g.Values.length<=4294967296/\∀r∈g.Values,r.length<=4294967296)/\g.Counts.length<=4294967296
abbrev LeS(s:Zd):Prop:=s.Groups.length<=4294967296/\∀g∈s.Groups,LeG g
abbrev LeK(c:Zl):Prop:=c.Tables.length<=4294967296/\∀s∈c.Tables,LeS s
theorem l_eqR(xs ys:List (List Int))(hl:ys.length=xs.length)(hx:xs.length<=4294967296/\∀a∈xs,a.length<=4294967296):∀i,i<=xs.length->Zm0 ys xs xs.length i=some (Bo (decide (xs.drop i=ys.drop i)),[]):=by
 refine down _ ?_ ?_
 .refine Z8o ?_;rw[if_neg (by omega),Ym,<-hl,Ym];simp
 .intro i hi ih;have hi':i<ys.length:=by omega
  refine Z8o ?_;rw[if_pos (by omega),wS hi (by omega),dropQ hi hi'];refine⟨by omega,_,gE hi,_,gE hi',_,Zbnl ⟨_,Zoq _ _ (hx.2 _ (Ya hi)),rfl⟩,?_⟩;by_cases c:xs[i]=ys[i]
  .rw[if_pos (by simpa using c),ih];simp[c]
  .rw[if_neg (by simpa using c)];simp[c]
theorem Zbre(xs ys:List (List Int))(hx:xs.length<=4294967296/\∀a∈xs,a.length<=4294967296):Zq8 xs ys=some (Bo (decide (xs=ys)),[]):=by
 refine Zbnn ⟨decide (xs=ys),Zbnm ?_,rfl⟩;by_cases c:(xs.length:Int)=(ys.length:Int)
 .rw[if_pos c];simpa using l_eqR xs ys (by omega) hx 0 (Yb _)
 .rw[if_neg c]
  have:¬xs=ys:=λhc=>c (by rw[hc])
  simp[this]
theorem Zbrf(a b:Zj)(h:LeG a):Zm1 a b=some (Bo (decide (a=b)),[]):=by
 refine Zbno ⟨_,Zoq _ _ h.1,?_⟩;by_cases c:a.Columns=b.Columns
 .rw[if_pos (by simpa using c)];refine⟨_,Zbre _ _ h.2.1,?_⟩;by_cases c2:a.Values=b.Values
  .rw[if_pos (by simpa using c2)];exact⟨_,Zoq _ _ h.2.2,by simp[Zj.ext_iff,c,c2]⟩
  .rw[if_neg (by simpa using c2)];simp[Zj.ext_iff,c,c2]
 .rw[if_neg (by simpa using c)];simp[Zj.ext_iff,c]
theorem l_eqG(xs ys:List Zj)(hl:ys.length=xs.length)(hx:xs.length<=4294967296/\∀a∈xs,LeG a):∀i,i<=xs.length->Zm2 ys xs xs.length i=some (Bo (decide (xs.drop i=ys.drop i)),[]):=by
 refine down _ ?_ ?_
 .refine Z8p ?_;rw[if_neg (by omega),Ym,<-hl,Ym];simp
 .intro i hi ih;have hi':i<ys.length:=by omega
  refine Z8p ?_;rw[if_pos (by omega),wS hi (by omega),dropQ hi hi'];refine⟨by omega,_,gE hi,_,gE hi',_,Zbrf _ _ (hx.2 _ (Ya hi)),?_⟩;by_cases c:xs[i]=ys[i]
  .rw[if_pos (by simpa using c),ih];simp[c]
  .rw[if_neg (by simpa using c)];simp[c]
theorem Zbrg(a b:Zd)(h:LeS a):Zq9 a b=some (Bo (decide (a=b)),[]):=by
 refine Zbnq ?_;by_cases c:a.Name=b.Name
 .rw[if_pos c];by_cases c2:a.Arity=b.Arity
  .rw[if_pos c2];by_cases c3:a.RowCount=b.RowCount
   .rw[if_pos c3];refine⟨decide (a.Groups=b.Groups),Zbnp ?_,by simp[Zd.ext_iff,c,c2,c3]⟩;by_cases c4:(a.Groups.length:Int)=(b.Groups.length:Int)
    .rw[if_pos c4];simpa using l_eqG a.Groups b.Groups (by omega) h 0 (Yb _)
    .rw[if_neg c4]
     have:¬a.Groups=b.Groups:=λhc=>c4 (by rw[hc])
     simp[this]
   .rw[if_neg c3];simp[Zd.ext_iff,c,c2,c3]
  .rw[if_neg c2];simp[Zd.ext_iff,c,c2]
 .rw[if_neg c];simp[Zd.ext_iff,c]
theorem l_eqS(xs ys:List Zd)(hl:ys.length=xs.length)(hx:xs.length<=4294967296/\∀a∈xs,LeS a):∀i,i<=xs.length->Zm3 ys xs xs.length i=some (Bo (decide (xs.drop i=ys.drop i)),[]):=by
 refine down _ ?_ ?_
 .refine Z8q ?_;rw[if_neg (by omega),Ym,<-hl,Ym];simp
 .intro i hi ih;have hi':i<ys.length:=by omega
  refine Z8q ?_;rw[if_pos (by omega),wS hi (by omega),dropQ hi hi'];refine⟨by omega,_,gE hi,_,gE hi',_,Zbrg _ _ (hx.2 _ (Ya hi)),?_⟩;by_cases c:xs[i]=ys[i]
  .rw[if_pos (by simpa using c),ih];simp[c]
  .rw[if_neg (by simpa using c)];simp[c]
def Zcs(v:Int)(ts:List Zd)(c:Zl):Bool:=decide (v=c.Version/\ts=c.Tables)
theorem Zbrh(v:Int)(c:Zl):Zmp v c=some (Bo (Zcs v [] c),[]):=by
 refine Zbm8 ?_;unfold Zcs;by_cases e:v=c.Version
 .rw[if_pos e];refine⟨decide ([]=c.Tables),Zbm7 ?_,by simp[e]⟩;by_cases e2:c.Tables=[]
  .rw[if_pos (by rw[e2];simp)];refine Zbm6 ?_;rw[if_neg (by omega),e2];simp
  .have h0:=Ybf.2 e2;rw[if_neg (by omega)];simp[Ne.symm e2]
 .rw[if_neg e];simp[e]
theorem Zbri(v:Int)(ts:List Zd)(c:Zl)(h:ts.length<=4294967296/\∀s∈ts,LeS s):Zra ⟨v,ts⟩ c=some (Bo (Zcs v ts c),[]):=by
 refine Zbns ?_;unfold Zcs;by_cases e:v=c.Version
 .rw[if_pos e];refine⟨decide (ts=c.Tables),Zbnr ?_,by simp[e]⟩;by_cases c4:(ts.length:Int)=(c.Tables.length:Int)
  .rw[if_pos c4];simpa using l_eqS ts c.Tables (by omega) h 0 (Yb _)
  .rw[if_neg c4]
   have:¬ts=c.Tables:=λhc=>c4 (by rw[hc])
   simp[this]
 .rw[if_neg e];simp[e]
theorem Zbrj(a b:Zd)(x y:Zj)(hl:y.Values.length=x.Values.length)(hx:LeG x)(hy:LeG y)(r:Bool)(i:Int)(cc:Zkq a b (w (i+1))=some (Bo r,[])):∀k,k<=x.Values.length->Zn8 a b x y i k=some (Bo (decide (x.Values.drop k=y.Values.drop k) && r),[]):=by
 refine down _ ?_ ?_
 .refine Z96 ?_;rw[if_neg (by omega),Ym,<-hl,Ym,cc];simp
 .intro k hk ih;have hk':k<y.Values.length:=by omega
  refine Z96 ?_;rw[if_pos (by omega),wS hk (by have:=hx.2.1.1;omega),dropQ hk hk'];have l1:=hx.2.1.2 _ (Ya hk);have l2:=hy.2.1.2 _ (Ya hk');refine⟨by omega,_,gE hk,_,gE hk',_,Zir _ _ (by omega) (by omega),?_⟩;by_cases c:x.Values[k]=y.Values[k]
  .rw[if_pos (by rw[c];exact Zg5 _),ih];simp[c]
  .rw[if_neg (λh=>c (Zev _ _ h))];simp[c]
theorem Zbrk(a b:Zd)(hl:b.Groups.length=a.Groups.length)(ha:LeS a)(hb:LeS b):∀i,i<=a.Groups.length->Zkq a b i=some (Bo (decide (a.Groups.drop i=b.Groups.drop i)),[]):=by
 refine down _ ?_ ?_
 .refine Z95 ?_;rw[if_neg (by omega),Ym,<-hl,Ym];simp
 .intro i hi ih;have hi':i<b.Groups.length:=by omega
  have l1:=ha.2 _ (Ya hi);have l2:=hb.2 _ (Ya hi');have l11:=l1.1;have l13:=l1.2.2;have l21:=l2.1;have l23:=l2.2.2;refine Z95 ?_;rw[if_pos (by omega),dropQ hi hi'];refine⟨by omega,_,gE hi,_,gE hi',_,Zir _ _ (by omega) (by omega),?_⟩;by_cases c1:a.Groups[i].Columns=b.Groups[i].Columns
  .rw[if_pos (by rw[c1];exact Zg5 _)];refine⟨_,Zir _ _ (by omega) (by omega),?_⟩;by_cases c2:a.Groups[i].Counts=b.Groups[i].Counts
   .rw[if_pos (by rw[c2];exact Zg5 _)];by_cases c3:(a.Groups[i].Values.length:Int)=(b.Groups[i].Values.length:Int)
    .rw[if_pos c3];have:=Zbrj a b a.Groups[i] b.Groups[i] (by omega) l1 l2 _ i (by rw[wS hi (by have:=ha.1;omega)];exact ih) 0 (Yb _);rw[Yu,Yu]at this;have e:decide (a.Groups[i]=b.Groups[i])=decide (a.Groups[i].Values=b.Groups[i].Values):=by simp[Zj.ext_iff,c1,c2]
     rw[e];exact this
    .rw[if_neg c3]
     have:¬a.Groups[i]=b.Groups[i]:=λhc=>c3 (by rw[hc])
     simp[this]
   .rw[if_neg (λh=>c2 (Zev _ _ h))]
    have:¬a.Groups[i]=b.Groups[i]:=λhc=>c2 (by rw[hc])
    simp[this]
  .rw[if_neg (λh=>c1 (Zev _ _ h))]
   have:¬a.Groups[i]=b.Groups[i]:=λhc=>c1 (by rw[hc])
   simp[this]
theorem Zbrl(a b:Zd)(ha:LeS a)(hb:LeS b):Zr4 a b=some (Bo (decide (a=b)),[]):=by
 refine Zbpi ?_;by_cases c:a.Name=b.Name
 .rw[if_pos c];by_cases c2:a.Arity=b.Arity
  .rw[if_pos c2];by_cases c3:a.RowCount=b.RowCount
   .rw[if_pos c3];by_cases c4:(a.Groups.length:Int)=(b.Groups.length:Int)
    .rw[if_pos c4];have e:decide (a=b)=decide (a.Groups=b.Groups):=by simp[Zd.ext_iff,c,c2,c3]
     rw[e];simpa using Zbrk a b (by omega) ha hb 0 (Yb _)
    .rw[if_neg c4]
     have:¬a=b:=λhc=>c4 (by rw[hc])
     simp[this]
   .rw[if_neg c3];simp[Zd.ext_iff,c,c2,c3]
  .rw[if_neg c2];simp[Zd.ext_iff,c,c2]
 .rw[if_neg c];simp[Zd.ext_iff,c]
theorem Zbrm(a b:Zl)(hl:b.Tables.length=a.Tables.length)(ha:LeK a)(hb:LeK b):∀i,i<=a.Tables.length->Zn9 a b i=some (Bo (decide (a.Tables.drop i=b.Tables.drop i)),[]):=by
 refine down _ ?_ ?_
 .refine Z97 ?_;rw[if_neg (by omega),Ym,<-hl,Ym];simp
 .intro i hi ih;have hi':i<b.Tables.length:=by omega
  refine Z97 ?_;rw[if_pos (by omega),wS hi (by have:=ha.1;omega),dropQ hi hi'];refine⟨by omega,_,gE hi,_,gE hi',_,Zbrl _ _ (ha.2 _ (Ya hi)) (hb.2 _ (Ya hi')),?_⟩;by_cases c:a.Tables[i]=b.Tables[i]
  .rw[if_pos (by simpa using c),ih];simp[c]
  .rw[if_neg (by simpa using c)];simp[c]
theorem Zbrn(v:Int)(c:Zl):Znv v c=some (Bo (Zcs v [] c),[]):=by
 refine Zbo1 ?_;unfold Zcs;by_cases e:v=c.Version
 .rw[if_pos e];by_cases e2:c.Tables=[]
  .rw[if_pos (by rw[e2];simp)];refine Zbo0 ?_;rw[if_neg (by omega)];simp[e,e2]
  .have h0:=Ybf.2 e2;rw[if_neg (by omega)];simp[Ne.symm e2]
 .rw[if_neg e];simp[e]
theorem Zbro(v:Int)(ts:List Zd)(c:Zl)(h:ts.length<=4294967296/\∀s∈ts,LeS s)(hc:LeK c):Zr5 ⟨v,ts⟩ c=some (Bo (Zcs v ts c),[]):=by
 refine Zbpj ?_;unfold Zcs;by_cases e:v=c.Version
 .rw[if_pos e];by_cases c4:(ts.length:Int)=(c.Tables.length:Int)
  .rw[if_pos c4];subst e;have:=Zbrm ⟨c.Version,ts⟩ c (by simp only;omega) h hc 0 (Yb _);simp only[true_and];simpa using this
  .rw[if_neg c4]
   have:¬ts=c.Tables:=λhc=>c4 (by rw[hc])
   simp[this]
 .rw[if_neg e];simp[e]
def Zex(d:Zh)(f:Ze):Bool:=match Zbr d f.Name with
 |none=>false
 |some t=>Zcr t.Arity f.From && inR f.To 0 (t.Arity-1) && !(has f.From f.To)
theorem Zf5{d:Zh}{n:ByteArray}{t:Zc}(h:Zbr d n=some t):Zbn t=true:=by
 obtain⟨h1,h2,_⟩:=Zbav h;exact Zfm h1 h2
theorem lookT_le{d:Zh}(hd:LeD d){n:ByteArray}{t:Zc}(h:Zbr d n=some t):LeT t:=hd.2 t (Zbav h).2.1
theorem Zbbs{d:Zh}(h:LeD d)(f:Ze)(hf:f.From.length<=4294967296):Zjs d f=some (Bo (Zex d f),[]):=by
 have hl:=Zk7 d h f.Name;refine Zbne ?_;unfold Zex
 cases hq:Zbr d f.Name with
 |none=>rw[hq]at hl;exact .inl ⟨_,_,hl,rfl⟩
 |some t =>
  rw[hq]at hl;have hA:=(Ze5 (Zf5 hq)).2;refine .inr ⟨_,_,_,hl,_,Zbbl _ hA _ (by omega),?_⟩;rcases tf (Zcr t.Arity f.From)with e|e
  .rw[e];simp[e]
  .rw[e,if_pos rfl,w1 hA];refine⟨_,Zb6 _ _ _,?_⟩;rcases tf (inR f.To 0 (t.Arity-1))with e2|e2
   .rw[e2];simp[e,e2]
   .rw[e2,if_pos rfl];exact⟨_,Zbai _ _ (by omega),by simp[e,e2]⟩
theorem Zbrp{t:Zc}(hv:Zbn t=true)(h0:t.Rows=[])(vs:List Int)(hl:Le vs):Znx t.Name t.Arity vs=some (Bo (Zcr t.Arity vs),[]):=by
 have hA:=(Ze5 hv).2;have hV:Zrz t.Name t.Arity=some (Bo true,[]):=by
  unfold Zbn at hv;simp only[Yf]at hv;refine Zbo4 ⟨_,Zbak _,?_⟩;rw[hv.1.1.1,if_pos rfl];refine⟨_,Zbt _ _ _,?_⟩;rw[hv.1.1.2,if_pos rfl];refine Zbo3 ?_;rw[if_neg (by omega)]
 have main:∀i,i<=vs.length->Zke t.Name t.Arity vs i=some (Bo (ascN t.Arity (pvA vs i) (vs.drop i)),[]):=by
  refine down _ ?_ ?_
  .refine Z9q ?_;rw[if_neg (by omega),Ym];exact⟨_,hV,rfl⟩
  .intro i hi ih;refine Z9q ?_;rw[if_pos (by omega),Ye hi,ascN,wS hi (by omega),w1 hA];refine⟨by omega,_,gE hi,_,Zbt _ _ _,?_⟩;rw[show pvA vs (i+1)=some vs[i]from Yk hi]at ih;rcases tf (inR vs[i] 0 (t.Arity-1))with e|e
   .rw[e];simp
   .rw[e,if_pos rfl,ih];by_cases h0:(0:Int)<(i:Int)
    .rw[if_pos h0,wP (by omega) hi (by omega),Zis (by omega) (by omega)];refine⟨by omega,_,gE (by omega),?_⟩;by_cases h2:vs[i]<=vs[i-1]
     .rw[if_pos h2];simp[nxt,ltI];omega
     .rw[if_neg h2];simp[nxt,ltI,show vs[i-1]<vs[i] by omega]
    .obtain rfl:i=0:=by omega
     rw[if_neg h0];simp[nxt,pvA]
 exact Zbo5 (by simpa[Zcr,pvA]using main 0 (Yb _))
theorem Zbbt{d:Zh}(h:LeD d)(f:Ze)(hf:f.From.length<=4294967296):Zkf d f=some (Bo (Zex d f),[]):=by
 have hl:=Zk8 d h f.Name;refine Zbo7 ?_;unfold Zex
 cases hq:Zbr d f.Name with
 |none=>rw[hq]at hl;exact .inl ⟨_,_,_,hl,rfl⟩
 |some t =>
  rw[hq]at hl;simp only[Zf3]at hl;have hv:=Zf5 hq;have hA:=(Ze5 hv).2;by_cases e0:t.Rows=[]
  .rw[if_pos e0]at hl;refine .inl ⟨_,_,_,hl,?_⟩;rw[if_pos rfl];refine⟨_,Zbrp hv e0 _ (by omega),?_⟩;rcases tf (Zcr t.Arity f.From)with e|e
   .rw[e];simp[e]
   .rw[e,if_pos rfl,w1 hA];refine⟨_,Zbt _ _ _,?_⟩;rcases tf (inR f.To 0 (t.Arity-1))with e2|e2
    .rw[e2];simp[e,e2]
    .rw[e2,if_pos rfl];exact⟨_,Zbaj _ _ (by omega),by simp[e,e2]⟩
  .rw[if_neg e0]at hl;refine .inr ⟨_,_,_,hl,_,Zbbm t (lookT_le h hq) hA _ (by omega),?_⟩;rw[hv,Bool.and_true];rcases tf (Zcr t.Arity f.From)with e|e
   .rw[e];simp[e]
   .rw[e,if_pos rfl,w1 hA];refine⟨_,Zbt _ _ _,?_⟩;rcases tf (inR f.To 0 (t.Arity-1))with e2|e2
    .rw[e2];simp[e,e2]
    .rw[e2,if_pos rfl];exact⟨_,Zbaj _ _ (by omega),by simp[e,e2]⟩
def good(rows:List (List Int))(f:Ze)(i k:Nat):Prop:=selC (rows.getD i []) f.From=selC (rows.getD k []) f.From->(rows.getD i []).getD f.To.toNat 0=(rows.getD k []).getD f.To.toNat 0
def Zdn(rows:List (List Int))(f:Ze)(k:Nat):Prop:=∀k',k<=k'->k'<rows.length->∀i,i<k'->good rows f i k'
structure DepC (t:Zc) (f:Ze) (n:Nat):Prop where
 rows:RowsN t.Rows n
 cols:Zg6 f.From n
 to:0<=f.To/\f.To<n
theorem Zbbu{d:Zh}{f:Ze}{t:Zc}(hq:Zbr d f.Name=some t)(hv:Zex d f=true):DepC t f t.Arity.toNat:=by
 obtain⟨hR,hA⟩:=Ze5 (Zf5 hq);unfold Zex at hv;rw[hq]at hv;simp only[Yf]at hv;have h2:0<=f.To/\f.To<=t.Arity-1:=by simpa[inR]using hv.1.2
 exact⟨hR,Zy1 hv.1.1 hA,by omega⟩
theorem gd{rows:List (List Int)}{i:Nat}(h:i<rows.length):rows.getD i []=rows[i]:=by
 rw[Yde,Yk h];rfl
def Vio(L:Option (AV×List Blk))(z:AV×List Blk)(ok:Prop):Prop:=(ok->L=some z)/\(¬ok->∃a b:Int,L=some (.own 0,[.arr 3 1 true (([a,b]:List Int).map ic)]))
theorem Vio.cong{L:Option (AV×List Blk)}{z:AV×List Blk}{p q:Prop}(h:Vio L z p)(e:p↔q):Vio L z q:=⟨λhq=>h.1 (e.2 hq),λhq=>h.2 λhp=>hq (e.1 hp)⟩
theorem Vio.map{L L':Option (AV×List Blk)}{z:AV×List Blk}{p:Prop}(h:Vio L z p)(e:∀r,L=some r->L'=some r):Vio L' z p:=⟨λhp=>e _ (h.1 hp),λhp=>(h.2 hp).imp λa ⟨b,hb⟩=>⟨b,e _ hb⟩⟩
theorem Zla{rows:List (List Int)}{f:Ze}{k i:Nat}(hi:i<k):((∀j,i<=j->j<k->good rows f j k)/\Zdn rows f (k+1))↔(good rows f i k/\((∀j,i+1<=j->j<k->good rows f j k)/\Zdn rows f (k+1))):=by
 constructor
 .rintro⟨h1,h2⟩;exact⟨h1 i (Yh _) hi,λj h3 h4=>h1 j (by omega) h4,h2⟩
 .rintro⟨h0,h1,h2⟩;refine⟨λj h3 h4=>?_,h2⟩;by_cases e:j=i
  .subst e;exact h0
  .exact h1 j (by omega) h4
theorem ok_out{rows:List (List Int)}{f:Ze}{k:Nat}(hk:k<rows.length):Zdn rows f k↔((∀j,0<=j->j<k->good rows f j k)/\Zdn rows f (k+1)):=by
 constructor
 .intro h;exact⟨λj _ h4=>h k (Yh _) hk j h4,λk' h1 h2=>h k' (by omega) h2⟩
 .rintro⟨h1,h2⟩ k' h3 h4 i hi;by_cases e:k'=k
  .subst e;exact h1 i (Yb _) hi
  .exact h2 k' (by omega) h4 i hi
theorem Zbrq{t:Zc}{f:Ze}{n:Nat}(h:DepC t f n){k:Nat}(hk:k<t.Rows.length)(c:Vio (Zhz f t t.Rows t.Rows.length (w ((k:Int)+1))) (.t .nil,[]) (Zdn t.Rows f (k+1))) :
  ∀i,i<=k->Vio (Zco f t k t.Rows[k] t.Rows t.Rows.length k (t.Rows.take k) k i) (.t .nil,[]) ((∀j,i<=j->j<k->good t.Rows f j k)/\Zdn t.Rows f (k+1)):=by
 have h8:=h.rows.len;refine down _ ?_ ?_
 .refine(c.map λr hr=>?_).cong ⟨λhp=>⟨λj h1 h2=>by omega,hp⟩,λhp=>hp.2⟩;refine Z8j ?_;rw[if_neg (by omega)];exact hr
 .intro i hi ih;have hi':i<t.Rows.length:=by omega
  have hit:i<(t.Rows.take k).length:=by rw[Ybb];omega
  have ei:(t.Rows.take k)[i]=t.Rows[i]:=List.getElem_take ..;have hri:=h.rows.row _ (Ya hi');have hrk:=h.rows.row _ (Ya hk);have hc3:=h.cols.len;have hto:=h.to;have step:∀r,(if decide (selC t.Rows[i] f.From=selC t.Rows[k] f.From)=true then(if t.Rows[i].getD f.To.toNat 0=t.Rows[k].getD f.To.toNat 0 then Zco f t k t.Rows[k] t.Rows t.Rows.length k (t.Rows.take k) k (w ((i:Int)+1))=some r else some (.own 0,[.arr 3 1 true (([(i:Int),(k:Int)]:List Int).map ic)])=some r)else Zco f t k t.Rows[k] t.Rows t.Rows.length k (t.Rows.take k) k (w ((i:Int)+1))=some r)->Zco f t k t.Rows[k] t.Rows t.Rows.length k (t.Rows.take k) k i=some r:=by
   intro r hr;refine Z8j ?_;rw[if_pos (by omega)];refine⟨by omega,t.Rows[i],by rw[Yt,Yk hit,ei],.inr ⟨_,Zy2 hri h.rows.n3 h.cols,.inr ⟨_,Zy2 hrk h.rows.n3 h.cols,_,Zoq _ _ (by simp[selC];omega),?_⟩⟩⟩;by_cases e:selC t.Rows[i] f.From=selC t.Rows[k] f.From
   .rw[if_pos (by simpa using e)]at hr|-;exact⟨h.to.1,_,gD (by omega),_,gD (by omega),hr⟩
   .rw[if_neg (by simpa using e)]at hr|-;exact hr
  rw[show w ((i:Int)+1)=((i+1:Nat):Int)from wS hi' (by omega)]at step;by_cases e:selC t.Rows[i] f.From=selC t.Rows[k] f.From
  .by_cases e2:t.Rows[i].getD f.To.toNat 0=t.Rows[k].getD f.To.toNat 0
   .refine(ih.map λr hr=>step r (by rw[if_pos (by simpa using e),if_pos e2];exact hr)).cong ?_;rw[Zla hi];exact⟨λhp=>⟨λ_=>by rw[gd hi',gd hk];exact e2,hp⟩,λhp=>hp.2⟩
   .refine⟨λhp=>absurd ((Zla hi).1 hp).1 λhg=>e2 ?_,λ_=>⟨_,_,step _ (by rw[if_pos (by simpa using e),if_neg e2])⟩⟩;have:=hg (by rw[gd hi',gd hk];exact e);rw[gd hi',gd hk]at this;exact this
  .refine(ih.map λr hr=>step r (by rw[if_neg (by simpa using e)];exact hr)).cong ?_;rw[Zla hi];exact⟨λhp=>⟨λhq=>absurd (by rw[gd hi',gd hk]at hq;exact hq) e,hp⟩,λhp=>hp.2⟩
theorem Zbrr{t:Zc}{f:Ze}{n:Nat}(h:DepC t f n):∀k,k<=t.Rows.length->Vio (Zhz f t t.Rows t.Rows.length k) (.t .nil,[]) (Zdn t.Rows f k):=by
 have h8:=h.rows.len;refine down _ ?_ ?_
 .refine⟨λ_=>Z8i (by rw[if_neg (by omega)]),λhn=>absurd (λk' h1 h2=>by omega) hn⟩
 .intro k hk ih;rw[<-show w ((k:Int)+1)=((k+1:Nat):Int)from wS hk (by omega)]at ih;refine((Zbrq h hk ih 0 (Yb _)).map λr hr=>?_).cong (ok_out hk).symm;refine Z8i ?_;rw[if_pos (by omega)];refine⟨by omega,_,gE hk,by rw[Yt];omega,?_⟩;rw[Yt,show(((t.Rows.take k).length:Nat):Int)=(k:Int) by rw[Ybb];omega];exact hr
theorem Zbrs{d:Zh}{t:Zc}{f:Ze}{n:Nat}(h:DepC t f n){k:Nat}(hk:k<t.Rows.length)(a:ByteArray)(b:Int)(c:Vio (Zkg d f a b t.Rows (w ((k:Int)+1))) (.own 0,[.arr 3 1 true (([]:List Int).map ic)]) (Zdn t.Rows f (k+1))) :
  ∀i,i<=k->Vio (Zfy d f a b t.Rows (selC t.Rows[k] f.From) k i) (.own 0,[.arr 3 1 true (([]:List Int).map ic)]) ((∀j,i<=j->j<k->good t.Rows f j k)/\Zdn t.Rows f (k+1)):=by
 have h8:=h.rows.len;refine down _ ?_ ?_
 .refine(c.map λr hr=>?_).cong ⟨λhp=>⟨λj h1 h2=>by omega,hp⟩,λhp=>hp.2⟩;refine Z9t ?_;rw[if_neg (by omega)];exact hr
 .intro i hi ih;have hi':i<t.Rows.length:=by omega
  have hri:=h.rows.row _ (Ya hi');have hrk:=h.rows.row _ (Ya hk);have hc3:=h.cols.len;have hto:=h.to;have hs:∀r:List Int,(selC r f.From).length<=3:=λr=>by simp[selC];omega
  have step:∀r,(if selC t.Rows[i] f.From=selC t.Rows[k] f.From then(if t.Rows[i].getD f.To.toNat 0=t.Rows[k].getD f.To.toNat 0 then Zfy d f a b t.Rows (selC t.Rows[k] f.From) k (w ((i:Int)+1))=some r else some (.own 0,[.arr 3 1 true (([(i:Int),(k:Int)]:List Int).map ic)])=some r)else Zfy d f a b t.Rows (selC t.Rows[k] f.From) k (w ((i:Int)+1))=some r)->Zfy d f a b t.Rows (selC t.Rows[k] f.From) k i=some r:=by
   intro r hr;refine Z9t ?_;rw[if_pos (by omega)];have q1:=hs t.Rows[i];have q2:=hs t.Rows[k];refine⟨by omega,_,gE hi',_,_,Zsv hri h.rows.n3 h.cols,_,Zir _ _ (by omega) (by omega),?_⟩;by_cases e:selC t.Rows[i] f.From=selC t.Rows[k] f.From
   .rw[if_pos e]at hr;rw[if_pos (by rw[e];exact Zg5 _)];exact⟨h.to.1,_,gD (by omega),by omega,_,gE hk,_,gD (by omega),hr⟩
   .rw[if_neg e]at hr;rw[if_neg (λhc=>e (Zev _ _ hc))];exact hr
  rw[show w ((i:Int)+1)=((i+1:Nat):Int)from wS hi' (by omega)]at step;by_cases e:selC t.Rows[i] f.From=selC t.Rows[k] f.From
  .by_cases e2:t.Rows[i].getD f.To.toNat 0=t.Rows[k].getD f.To.toNat 0
   .refine(ih.map λr hr=>step r (by rw[if_pos e,if_pos e2];exact hr)).cong ?_;rw[Zla hi];exact⟨λhp=>⟨λ_=>by rw[gd hi',gd hk];exact e2,hp⟩,λhp=>hp.2⟩
   .refine⟨λhp=>absurd ((Zla hi).1 hp).1 λhg=>e2 ?_,λ_=>⟨_,_,step _ (by rw[if_pos e,if_neg e2])⟩⟩;have:=hg (by rw[gd hi',gd hk];exact e);rw[gd hi',gd hk]at this;exact this
  .refine(ih.map λr hr=>step r (by rw[if_neg e];exact hr)).cong ?_;rw[Zla hi];exact⟨λhp=>⟨λhq=>absurd (by rw[gd hi',gd hk]at hq;exact hq) e,hp⟩,λhp=>hp.2⟩
theorem Zbrt{d:Zh}(hd:LeD d){t:Zc}{f:Ze}(hf:f.From.length<=4294967296)(hv:Zex d f=true){n:Nat}(h:DepC t f n)(a:ByteArray)(b:Int):∀k,k<=t.Rows.length->Vio (Zkg d f a b t.Rows k) (.own 0,[.arr 3 1 true (([]:List Int).map ic)]) (Zdn t.Rows f k):=by
 have h8:=h.rows.len;refine down _ ?_ ?_
 .refine⟨λ_=>Z9s (by rw[if_neg (by omega)]),λhn=>absurd (λk' h1 h2=>by omega) hn⟩
 .intro k hk ih;rw[<-show w ((k:Int)+1)=((k+1:Nat):Int)from wS hk (by omega)]at ih;refine((Zbrs (d:=d) h hk a b ih 0 (Yb _)).map λr hr=>?_).cong (ok_out hk).symm;refine Z9s ?_;rw[if_pos (by omega)];refine⟨_,Zbbt hd f hf,?_⟩;rw[hv,if_pos rfl];exact⟨by omega,_,gE hk,_,_,Zsv (h.rows.row _ (Ya hk)) h.rows.n3 h.cols,hr⟩
open Classical in
noncomputable def Zf6(d:Zh)(f:Ze):Bool:=Zex d f && (match Zbr d f.Name with
 |none=>true
 |some t=>decide (Zdn t.Rows f 0))
theorem Zbru{d:Zh}(h:LeD d)(f:Ze)(hf:f.From.length<=4294967296):Zmv d f=some (Bo (Zf6 d f),[]):=by
 refine Zbng ⟨_,Zbbs h f hf,?_⟩;unfold Zf6;rcases tf (Zex d f)with hv|hv
 .rw[hv];rfl
 rw[hv,if_pos rfl,Ybi]
 cases hq:Zbr d f.Name with
 |none=>unfold Zex at hv;rw[hq]at hv;cases hv
 |some t =>
  have hl:=Zk7 d h f.Name;rw[hq]at hl;have V:=(Zbrr (Zbbu hq hv) 0 (Yb _)).map (L':=Zmu d f) λr hr=>Zbnf ⟨_,Zbbs h f hf,by rw[hv,if_pos rfl];exact .inr ⟨_,_,_,hl,hr⟩⟩
  by_cases e:Zdn t.Rows f 0
  .exact .inl ⟨V.1 e,by simp[e]⟩
  .obtain⟨x,y,hxy⟩:=V.2 e;exact .inr ⟨_,hxy,by simp[e]⟩
theorem Zbrv{d:Zh}(h:LeD d)(f:Ze)(hf:f.From.length<=4294967296):Zn2 d f=some (Bo (Zf6 d f),[]):=by
 refine Zbo9 ⟨_,Zbbt h f hf,?_⟩;unfold Zf6;rcases tf (Zex d f)with hv|hv
 .rw[hv];rfl
 rw[hv,if_pos rfl,Ybi]
 cases hq:Zbr d f.Name with
 |none=>unfold Zex at hv;rw[hq]at hv;cases hv
 |some t =>
  have hl:=Zk8 d h f.Name;rw[hq]at hl;simp only[Zf3]at hl;by_cases e0:t.Rows=[]
  .rw[if_pos e0]at hl;have e:Zdn t.Rows f 0:=λk' h1 h2=>by rw[e0]at h2;simp at h2
   refine⟨[],Z9u (.inl ⟨_,_,_,hl,Zbo8 (by rw[if_neg (by omega)])⟩),by simp[e]⟩
  .rw[if_neg e0]at hl;have V:=(Zbrt h hf hv (Zbbu hq hv) t.Name t.Arity 0 (Yb _)).map (L':=Zr0 d f) λr hr=>Z9u (.inr ⟨_,_,_,hl,hr⟩)
   by_cases e:Zdn t.Rows f 0
   .exact⟨[],V.1 e,by simp[e]⟩
   .obtain⟨x,y,hxy⟩:=V.2 e;exact⟨_,hxy,by simp[e]⟩
def Zf7(d:Zh)(x:Zf):Bool:=match Zbr d x.Name,Zbr d x.Into with
 |some a,some b=>inR x.Column 0 (a.Arity-1) && inR x.IntoColumn 0 (b.Arity-1)
 |_,_=>false
theorem Zbbv{d:Zh}(h:LeD d)(x:Zf):Zjt d x=some (Bo (Zf7 d x),[]):=by
 have h1:=Zk7 d h x.Name;have h2:=Zk7 d h x.Into;refine Zbnh ?_;unfold Zf7
 cases hq:Zbr d x.Name with
 |none =>
  rw[hq]at h1
  cases hq2:Zbr d x.Into with
  |none=>rw[hq2]at h2;exact .inl ⟨_,_,h1,.inl ⟨_,_,h2,rfl⟩⟩
  |some b=>rw[hq2]at h2;exact .inl ⟨_,_,h1,.inr ⟨_,_,_,h2,rfl⟩⟩
 |some a =>
  rw[hq]at h1
  cases hq2:Zbr d x.Into with
  |none=>rw[hq2]at h2;exact .inr ⟨_,_,_,h1,.inl ⟨_,_,h2,rfl⟩⟩
  |some b =>
   rw[hq2]at h2;refine .inr ⟨_,_,_,h1,.inr ⟨_,_,_,h2,_,Zb6 _ _ _,?_⟩⟩;rw[w1 (Ze5 (Zf5 hq)).2,w1 (Ze5 (Zf5 hq2)).2];rcases tf (inR x.Column 0 (a.Arity-1))with e|e
   .rw[e];simp[e]
   .rw[e,if_pos rfl];exact⟨_,Zb6 _ _ _,by simp[e]⟩
theorem Zbbw{d:Zh}(h:LeD d)(x:Zf):Zkh d x=some (Bo (Zf7 d x),[]):=by
 have h1:=Zk8 d h x.Name;have h2:=Zk8 d h x.Into;refine Zbpa ?_;unfold Zf7
 cases hq:Zbr d x.Name with
 |none =>
  rw[hq]at h1
  cases hq2:Zbr d x.Into with
  |none=>rw[hq2]at h2;exact .inl ⟨_,_,_,h1,.inl ⟨_,_,_,h2,by simp⟩⟩
  |some b =>
   rw[hq2]at h2;simp only[Zf3]at h2;by_cases e2:b.Rows=[]
   .rw[if_pos e2]at h2;exact .inl ⟨_,_,_,h1,.inl ⟨_,_,_,h2,by simp⟩⟩
   .rw[if_neg e2]at h2;exact .inl ⟨_,_,_,h1,.inr ⟨_,_,_,h2,by simp⟩⟩
 |some a =>
  rw[hq]at h1;simp only[Zf3]at h1;have wa:=w1 (Ze5 (Zf5 hq)).2
  cases hq2:Zbr d x.Into with
  |none =>
   rw[hq2]at h2;by_cases e1:a.Rows=[]
   .rw[if_pos e1]at h1;exact .inl ⟨_,_,_,h1,.inl ⟨_,_,_,h2,by simp⟩⟩
   .rw[if_neg e1]at h1;exact .inr ⟨_,_,_,h1,.inl ⟨_,_,_,h2,by simp⟩⟩
  |some b =>
   rw[hq2]at h2;simp only[Zf3]at h2;have wb:=w1 (Ze5 (Zf5 hq2)).2;by_cases e1:a.Rows=[]
   .rw[if_pos e1]at h1;by_cases e2:b.Rows=[]
    .rw[if_pos e2]at h2;refine .inl ⟨_,_,_,h1,.inl ⟨_,_,_,h2,?_⟩⟩;rw[if_pos rfl,if_pos rfl,wa,wb];refine⟨_,Zbt _ _ _,?_⟩;rcases tf (inR x.Column 0 (a.Arity-1))with e|e
     .rw[e];simp[e]
     .rw[e,if_pos rfl];exact⟨_,Zbt _ _ _,by simp[e]⟩
    .rw[if_neg e2]at h2;refine .inl ⟨_,_,_,h1,.inr ⟨_,_,_,h2,?_⟩⟩;rw[if_pos rfl,wa,wb];refine⟨_,Zbt _ _ _,?_⟩;rcases tf (inR x.Column 0 (a.Arity-1))with e|e
     .rw[e];simp[e]
     .rw[e,if_pos rfl];exact⟨_,Zbt _ _ _,by simp[e]⟩
   .rw[if_neg e1]at h1;by_cases e2:b.Rows=[]
    .rw[if_pos e2]at h2;refine .inr ⟨_,_,_,h1,.inl ⟨_,_,_,h2,?_⟩⟩;rw[if_pos rfl,wa,wb];refine⟨_,Zbt _ _ _,?_⟩;rcases tf (inR x.Column 0 (a.Arity-1))with e|e
     .rw[e];simp[e]
     .rw[e,if_pos rfl];exact⟨_,Zbt _ _ _,by simp[e]⟩
    .rw[if_neg e2]at h2;refine .inr ⟨_,_,_,h1,.inr ⟨_,_,_,h2,_,Zbt _ _ _,?_⟩⟩;rw[wa,wb];rcases tf (inR x.Column 0 (a.Arity-1))with e|e
     .rw[e];simp[e]
     .rw[e,if_pos rfl];exact⟨_,Zbt _ _ _,by simp[e]⟩
def colV(rows:List (List Int))(c:Int):List Int:=rows.map λr=>r.getD c.toNat 0
structure ColD (rows:List (List Int)) (c:Int):Prop where
 len:rows.length<=8
 row:∀r∈rows,(c.toNat<r.length/\r.length<=3)/\∀v∈r,0<=v/\v<=9
 c0:0<=c
theorem Zbbx{t:Zc}(hv:Zbn t=true){c:Int}(hc:inR c 0 (t.Arity-1)=true):ColD t.Rows c:=by
 obtain⟨hR,hA⟩:=Ze5 hv;have h2:0<=c/\c<=t.Arity-1:=by simpa[inR]using hc
 refine⟨hR.len,λr hr=>⟨?_,λv hx=>?_⟩,h2.1⟩
 .have:=hR.row r hr;omega
 .unfold Zbn at hv;simp only[Yf]at hv;have h1:=Ys.1 hv.2.1 r hr;unfold rwB at h1;simp only[Yf]at h1;simpa[dig,inR]using Ys.1 h1.1 v hx
theorem colV_in{rows:List (List Int)}{c:Int}(h:ColD rows c):∀v∈colV rows c,0<=v/\v<=9:=by
 intro v hv;obtain⟨r,hr,rfl⟩:=Y0.1 hv;obtain⟨⟨h1,_⟩,h2⟩:=h.row r hr;refine h2 _ ?_;rw[Yde,Yk h1];exact Ya h1
def Zb7(A B:List Int):List Int:=A.filter λv=>!(has B v)
theorem Zbby:∀{l:List Int},cptI l=[]->l=[]
 |[],_=>rfl
 |[a],h=>by simp[cptI]at h
 |a::b::l,h=>by
  unfold cptI at h;split at h
  .have:=Zbby h;cases this
  .cases h
theorem miss_len(l:List Int):((cptI (srtI l)).length=0)↔l=[]:=by
 have hl:(srtI l).length=l.length:=(Yc2 _ _).length_eq;constructor
 .intro h;have h1:=Zbby (Ybn h);rw[h1]at hl;exact Ybn hl.symm
 .intro h;subst h;simp[srtI,cptI]
theorem x_fin{out:List Int}(h:out.length<=4096):Zq5 out=some (.tup [],[.arr 3 1 true ((srtI out).map ic)])/\Zq6 (srtI out)=some (.own 1,[.dead,.arr 3 1 true ((cptI (srtI out)).map ic)]):=by
 have hl:(srtI out).length=out.length:=(Yc2 _ _).length_eq;unfold Zq5 Zq6;exact⟨c_sortI h,c_cptI (by omega)⟩
theorem Zbrw{x:Zf}{A:List (List Int)}(hA:ColD A x.Column)(there:List Int)(ht:there.length<=4096):∀i,i<=A.length->Zjw x there (Zb7 (colV (A.take i) x.Column) there) A A.length i=some (.own 0,[.arr 3 1 true ((cptI (srtI (Zb7 (colV A x.Column) there))).map ic)]):=by
 have h8:=hA.len;have hml:∀i,(Zb7 (colV (A.take i) x.Column) there).length<=A.length:=λi=>by
  have:=List.length_filter_le (λv=>!(has there v)) (colV (A.take i) x.Column);unfold Zb7;simp only[colV,Ybd,Ybb]at this|-;omega
 refine down _ ?_ ?_
 .refine Z8l ?_;rw[if_neg (by omega),Yo];have hm:=hml A.length;rw[Yo]at hm;have:=x_fin (out:=Zb7 (colV A x.Column) there) (by omega);exact⟨_,this.1,_,this.2,rfl⟩
 .intro i hi ih;obtain⟨⟨h1,h2⟩,_⟩:=hA.row _ (Ya hi);refine Z8l ?_;rw[if_pos (by omega),wS hi (by omega)];refine⟨by omega,_,gE hi,hA.c0,_,gD h1,_,Zbai _ _ (by omega),?_⟩;have e:Zb7 (colV (A.take (i+1)) x.Column) there=Zb7 (colV (A.take i) x.Column) there++(if has there (A[i].getD x.Column.toNat 0)=true then[]else[A[i].getD x.Column.toNat 0]):=by
   unfold Zb7 colV;rw[Yx hi,Y7,List.filter_append];simp only[Yl,Yck];generalize A[i].getD x.Column.toNat 0=g;rw[Yc7,List.filter_nil];cases has there g<;>rfl
  rw[e]at ih;rcases tf (has there (A[i].getD x.Column.toNat 0))with q|q
  .rw[if_neg (by rw[q];simp)]at ih|-;exact⟨by have:=hml i;omega,ih⟩
  .rw[if_pos q,Ybq]at ih;rw[if_pos q];exact ih
theorem Zbrx{x:Zf}{A B:List (List Int)}(hA:ColD A x.Column)(hB:ColD B x.IntoColumn)(a:ByteArray)(b:Int):∀i,i<=B.length->Zmx x a b A (colV (B.take i) x.IntoColumn) B B.length i=some (.own 0,[.arr 3 1 true ((cptI (srtI (Zb7 (colV A x.Column) (colV B x.IntoColumn)))).map ic)]):=by
 have h8:=hB.len;refine down _ ?_ ?_
 .refine Z8k ?_;rw[if_neg (by omega),Yo];exact Zbrw hA _ (by simp[colV];omega) 0 (Yb _)
 .intro i hi ih;obtain⟨⟨h1,h2⟩,_⟩:=hB.row _ (Ya hi);refine Z8k ?_;rw[if_pos (by omega),wS hi (by omega)];rw[show colV (B.take (i+1)) x.IntoColumn=colV (B.take i) x.IntoColumn++[B[i].getD x.IntoColumn.toNat 0] by unfold colV;rw[Yx hi,Y7];rfl]at ih;exact⟨by omega,_,gE hi,hB.c0,_,gD h1,by simp[colV];omega,ih⟩
def Ze6(d:Zh)(x:Zf):Bool:=Zf7 d x && (match Zbr d x.Name,Zbr d x.Into with
 |some a,some b=>(Zb7 (colV a.Rows x.Column) (colV b.Rows x.IntoColumn)).isEmpty
 |_,_=>true)
theorem inc_of{d:Zh}{x:Zf}(hv:Zf7 d x=true):∃a b,Zbr d x.Name=some a/\Zbr d x.Into=some b/\ColD a.Rows x.Column/\ColD b.Rows x.IntoColumn:=by
 unfold Zf7 at hv
 cases hq:Zbr d x.Name with
 |none=>rw[hq]at hv;cases hv
 |some a =>
  cases hq2:Zbr d x.Into with
  |none=>rw[hq,hq2]at hv;cases hv
  |some b =>
   rw[hq,hq2]at hv;simp only[Yf]at hv;exact⟨a,b,rfl,rfl,Zbbx (Zf5 hq) hv.1,Zbbx (Zf5 hq2) hv.2⟩
theorem Zbry{d:Zh}(h:LeD d)(x:Zf):Zq7 d x=some (Bo (Ze6 d x),[]):=by
 refine Zbnj ⟨_,Zbbv h x,?_⟩;unfold Ze6;rcases tf (Zf7 d x)with hv|hv
 .rw[hv];rfl
 obtain⟨a,b,h1,h2,hA,hB⟩:=inc_of hv;rw[hv,if_pos rfl,Ybi,h1,h2];have l1:=Zk7 d h x.Name;have l2:=Zk7 d h x.Into;rw[h1]at l1;rw[h2]at l2;have hM:Zmw d x=some (.own 0,[.arr 3 1 true ((cptI (srtI (Zb7 (colV a.Rows x.Column) (colV b.Rows x.IntoColumn)))).map ic)]):=by
  refine Zbni ⟨_,Zbbv h x,?_⟩;rw[hv,if_pos rfl];exact .inr ⟨_,_,_,l1,.inr ⟨_,_,_,l2,by simpa[colV]using Zbrx hA hB a.Name a.Arity 0 (Yb _)⟩⟩
 refine .inr ⟨_,hM,?_⟩
 .have:=miss_len (Zb7 (colV a.Rows x.Column) (colV b.Rows x.IntoColumn));by_cases e:Zb7 (colV a.Rows x.Column) (colV b.Rows x.IntoColumn)=[]
  .simp[e,cptI,srtI]
  .have e2:¬((cptI (srtI (Zb7 (colV a.Rows x.Column) (colV b.Rows x.IntoColumn)))).length=0):=λhc=>e (this.1 hc)
   have e4:¬cptI (srtI (Zb7 (colV a.Rows x.Column) (colV b.Rows x.IntoColumn)))=[]:=λhc=>e2 (by rw[hc];rfl)
   have e5:(Zb7 (colV a.Rows x.Column) (colV b.Rows x.IntoColumn)).isEmpty=false:=List.isEmpty_eq_false_iff.2 e;simp[e4,e5]
def Zct(A B:List Int)(u:Nat):List Int:=((List.range' u (10-u)).filter λv:Nat=>has A (v:Int) && !(has B (v:Int))).map λn:Nat=>(n:Int)
theorem Zsw{A B:List Int}{u:Nat}(h:u<10):Zct A B u=(if(has A (u:Int) && !(has B (u:Int)))=true then[(u:Int)]else[])++Zct A B (u+1):=by
 unfold Zct;rw[show 10-u=(10-(u+1))+1 by omega,List.range'_succ,Yc7];split<;>simp
theorem Zbbz{xs:List Int}{v:Int}:has xs v=true↔v∈xs:=by simp[has]
theorem Zbrz{A B:List Int}(hA:∀v∈A,0<=v/\v<=9):Zct A B 0=[]↔Zb7 A B=[]:=by
 constructor
 .intro h;unfold Zb7;rw[Ycq];intro v hv hb;have h1:=hA v hv;unfold Zct at h;rw[List.map_eq_nil_iff,Ycq]at h;refine h v.toNat (by simp[List.mem_range'];omega) ?_;rw[show((v.toNat:Nat):Int)=v by omega,Zbbz.2 hv,Ybi];exact hb
 .intro h;unfold Zct;rw[List.map_eq_nil_iff,Ycq];intro n _ hb;simp only[Yf]at hb;unfold Zb7 at h;rw[Ycq]at h;exact h _ (Zbbz.1 hb.1) hb.2
theorem Zsx(r:List Int)(rows:List (List Int))(c v:Int):has (colV (r::rows) c) v=(decide (r.getD c.toNat 0=v) || has (colV rows c) v):=by
 simp only[has,colV,Yl,List.any_cons];rw[show decide (v=r.getD c.toNat 0)=decide (r.getD c.toNat 0=v) by simp[eq_comm]]
theorem l_s1{x:Zf}(a:ByteArray)(b:Int)(a':ByteArray)(b':Int)(out:List Int)(v:Int)(one:Bool)(r:AV×List Blk)(hr:(if(one && !(false))=true then out.length+1<=68719476736/\Zdz x (out++[v]) a b a' b' (w (v+1))=some r else Zdz x out a b a' b' (w (v+1))=some r)):Zko x out a b a' b' v one false 0=some r:=by
 refine Zbpd ?_;rw[if_neg (by omega)];cases one<;>simpa using hr
theorem l_s0{x:Zf}(a:ByteArray)(b:Int)(a':ByteArray)(b':Int)(out:List Int)(v:Int)(c:Bool)(r:AV×List Blk)(hr:Zko x out a b a' b' v false c 0=some r):Zn3 x out a b a' b' v false c 0=some r:=by
 refine Zbpb ?_;rw[if_neg (by omega)];exact hr
theorem l_s2{x:Zf}(a:ByteArray)(b:Int)(a':ByteArray)(b':Int):∀u,u<=10->∀out:List Int,out.length<=u->Zdz x out a b a' b' u=some (.own 0,[.arr 3 1 true ((out++Zct (colV ([]:List (List Int)) x.Column) (colV ([]:List (List Int)) x.IntoColumn) u).map ic)]):=by
 refine down _ ?_ ?_
 .intro out ho;refine Z9v ?_;rw[if_neg (by omega)];simp[Zct]
 .intro u hu ih out ho;have step:∀r,(if(false && !(false))=true then out.length+1<=68719476736/\Zdz x (out++[(u:Int)]) a b a' b' (w ((u:Int)+1))=some r else Zdz x out a b a' b' (w ((u:Int)+1))=some r)->Zdz x out a b a' b' u=some r:=by
   intro r hr;refine Z9v ?_;rw[if_pos (by omega)];have q1:=l_s1 a b a' b' out u (false) r (by simpa using hr);exact l_s0 a b a' b' out u false r q1
  rw[Zsw hu,show w ((u:Int)+1)=((u+1:Nat):Int)from wS hu (by omega)]at *
  have e1:has (colV ([]:List (List Int)) x.Column) (u:Int)=false:=rfl;have e2:has (colV ([]:List (List Int)) x.IntoColumn) (u:Int)=false:=rfl;rw[e1,e2];refine step _ ?_;rcases tf (false && !(false))with e|e
  .rw[if_neg (by rw[e];simp),if_neg (by rw[e];simp),Yb4];exact ih _ (by omega)
  .rw[if_pos e,if_pos e];refine⟨by omega,?_⟩;rw[<-Y8];exact ih _ (by simp;omega)
theorem l_s1a{x:Zf}{B:List (List Int)}(hB:ColD B x.IntoColumn)(a:ByteArray)(b:Int)(a':ByteArray)(b':Int)(out:List Int)(v:Int)(c:Bool)(r:AV×List Blk):∀i,i<=B.length->∀two:Bool,(if(c && !(two || has (colV (B.drop i) x.IntoColumn) v))=true then out.length+1<=68719476736/\Zd0 x (out++[v]) a b a' b' B (w (v+1))=some r else Zd0 x out a b a' b' B (w (v+1))=some r)->Zie x out a b a' b' B v c two i=some r:=by
 have h8:=hB.len;refine down _ ?_ ?_
 .intro two hr;refine Z91 ?_;rw[if_neg (by omega)];rw[Ym,show has (colV [] x.IntoColumn) v=false from rfl,Bool.or_false]at hr;cases c<;>cases two<;>simpa using hr
 .intro i hi ih two hr;obtain⟨⟨h1,h2⟩,_⟩:=hB.row _ (Ya hi);refine Z91 ?_;rw[if_pos (by omega),wS hi (by omega)];rw[Ye hi,Zsx]at hr;rcases tf two with e|e
  .rw[if_neg (by rw[e];simp)];refine⟨by omega,_,gE hi,hB.c0,_,gD h1,ih _ ?_⟩;rw[e,Yb5]at hr;exact hr
  .rw[if_pos e];refine ih true ?_;rw[e]at hr;simpa using hr
theorem l_s0a{x:Zf}{B:List (List Int)}(hB:ColD B x.IntoColumn)(a:ByteArray)(b:Int)(a':ByteArray)(b':Int)(out:List Int)(v:Int)(c:Bool)(r:AV×List Blk)(hr:Zie x out a b a' b' B v false c 0=some r):Zn4 x out a b a' b' B v false c 0=some r:=by
 refine Zbpc ?_;rw[if_neg (by omega)];exact hr
theorem l_s2a{x:Zf}{B:List (List Int)}(hB:ColD B x.IntoColumn)(a:ByteArray)(b:Int)(a':ByteArray)(b':Int):∀u,u<=10->∀out:List Int,out.length<=u->Zd0 x out a b a' b' B u=some (.own 0,[.arr 3 1 true ((out++Zct (colV ([]:List (List Int)) x.Column) (colV B x.IntoColumn) u).map ic)]):=by
 refine down _ ?_ ?_
 .intro out ho;refine Z9w ?_;rw[if_neg (by omega)];simp[Zct]
 .intro u hu ih out ho;have step:∀r,(if(false && !(has (colV B x.IntoColumn) (u:Int)))=true then out.length+1<=68719476736/\Zd0 x (out++[(u:Int)]) a b a' b' B (w ((u:Int)+1))=some r else Zd0 x out a b a' b' B (w ((u:Int)+1))=some r)->Zd0 x out a b a' b' B u=some r:=by
   intro r hr;refine Z9w ?_;rw[if_pos (by omega)];have q1:=l_s1a hB a b a' b' out u (false) r 0 (Yb _) false (by simpa using hr);exact l_s0a hB a b a' b' out u false r q1
  rw[Zsw hu,show w ((u:Int)+1)=((u+1:Nat):Int)from wS hu (by omega)]at *
  have e1:has (colV ([]:List (List Int)) x.Column) (u:Int)=false:=rfl;have e2:has (colV B x.IntoColumn) (u:Int)=has (colV B x.IntoColumn) (u:Int):=rfl;rw[e1,e2];refine step _ ?_;rcases tf (false && !(has (colV B x.IntoColumn) (u:Int)))with e|e
  .rw[if_neg (by rw[e];simp),if_neg (by rw[e];simp),Yb4];exact ih _ (by omega)
  .rw[if_pos e,if_pos e];refine⟨by omega,?_⟩;rw[<-Y8];exact ih _ (by simp;omega)
theorem l_s1b{x:Zf}{A:List (List Int)}(hA:ColD A x.Column)(a:ByteArray)(b:Int)(a':ByteArray)(b':Int)(out:List Int)(v:Int)(one:Bool)(r:AV×List Blk)(hr:(if(one && !(false))=true then out.length+1<=68719476736/\Zd1 x (out++[v]) a b A a' b' (w (v+1))=some r else Zd1 x out a b A a' b' (w (v+1))=some r)):Zkp x out a b A a' b' v one false 0=some r:=by
 refine Zbpe ?_;rw[if_neg (by omega)];cases one<;>simpa using hr
theorem l_s0b{x:Zf}{A:List (List Int)}(hA:ColD A x.Column)(a:ByteArray)(b:Int)(a':ByteArray)(b':Int)(out:List Int)(v:Int)(c:Bool)(r:AV×List Blk):∀i,i<=A.length->∀one:Bool,Zkp x out a b A a' b' v (one || has (colV (A.drop i) x.Column) v) c 0=some r->Zkm x out a b A a' b' v one c i=some r:=by
 have h8:=hA.len;refine down _ ?_ ?_
 .intro one hr;refine Z9z ?_;rw[if_neg (by omega)];rw[Ym,show has (colV [] x.Column) v=false from rfl,Bool.or_false]at hr;exact hr
 .intro i hi ih one hr;obtain⟨⟨h1,h2⟩,_⟩:=hA.row _ (Ya hi);refine Z9z ?_;rw[if_pos (by omega),wS hi (by omega)];rw[Ye hi,Zsx]at hr;rcases tf one with e|e
  .rw[if_neg (by rw[e];simp)];refine⟨by omega,_,gE hi,hA.c0,_,gD h1,ih _ ?_⟩;rw[e,Yb5]at hr;exact hr
  .rw[if_pos e];refine ih true ?_;rw[e]at hr;simpa using hr
theorem l_s2b{x:Zf}{A:List (List Int)}(hA:ColD A x.Column)(a:ByteArray)(b:Int)(a':ByteArray)(b':Int):∀u,u<=10->∀out:List Int,out.length<=u->Zd1 x out a b A a' b' u=some (.own 0,[.arr 3 1 true ((out++Zct (colV A x.Column) (colV ([]:List (List Int)) x.IntoColumn) u).map ic)]):=by
 refine down _ ?_ ?_
 .intro out ho;refine Z9x ?_;rw[if_neg (by omega)];simp[Zct]
 .intro u hu ih out ho;have step:∀r,(if(has (colV A x.Column) (u:Int) && !(false))=true then out.length+1<=68719476736/\Zd1 x (out++[(u:Int)]) a b A a' b' (w ((u:Int)+1))=some r else Zd1 x out a b A a' b' (w ((u:Int)+1))=some r)->Zd1 x out a b A a' b' u=some r:=by
   intro r hr;refine Z9x ?_;rw[if_pos (by omega)];have q1:=l_s1b hA a b a' b' out u (has (colV A x.Column) (u:Int)) r (by simpa using hr);exact l_s0b hA a b a' b' out u false r 0 (Yb _) false (by simpa using q1)
  rw[Zsw hu,show w ((u:Int)+1)=((u+1:Nat):Int)from wS hu (by omega)]at *
  have e1:has (colV A x.Column) (u:Int)=has (colV A x.Column) (u:Int):=rfl;have e2:has (colV ([]:List (List Int)) x.IntoColumn) (u:Int)=false:=rfl;rw[e1,e2];refine step _ ?_;rcases tf (has (colV A x.Column) (u:Int) && !(false))with e|e
  .rw[if_neg (by rw[e];simp),if_neg (by rw[e];simp),Yb4];exact ih _ (by omega)
  .rw[if_pos e,if_pos e];refine⟨by omega,?_⟩;rw[<-Y8];exact ih _ (by simp;omega)
theorem l_s1c{x:Zf}{A:List (List Int)}(hA:ColD A x.Column){B:List (List Int)}(hB:ColD B x.IntoColumn)(a:ByteArray)(b:Int)(a':ByteArray)(b':Int)(out:List Int)(v:Int)(c:Bool)(r:AV×List Blk):∀i,i<=B.length->∀two:Bool,(if(c && !(two || has (colV (B.drop i) x.IntoColumn) v))=true then out.length+1<=68719476736/\Zd2 x (out++[v]) a b A a' b' B (w (v+1))=some r else Zd2 x out a b A a' b' B (w (v+1))=some r)->Zif x out a b A a' b' B v c two i=some r:=by
 have h8:=hB.len;refine down _ ?_ ?_
 .intro two hr;refine Z92 ?_;rw[if_neg (by omega)];rw[Ym,show has (colV [] x.IntoColumn) v=false from rfl,Bool.or_false]at hr;cases c<;>cases two<;>simpa using hr
 .intro i hi ih two hr;obtain⟨⟨h1,h2⟩,_⟩:=hB.row _ (Ya hi);refine Z92 ?_;rw[if_pos (by omega),wS hi (by omega)];rw[Ye hi,Zsx]at hr;rcases tf two with e|e
  .rw[if_neg (by rw[e];simp)];refine⟨by omega,_,gE hi,hB.c0,_,gD h1,ih _ ?_⟩;rw[e,Yb5]at hr;exact hr
  .rw[if_pos e];refine ih true ?_;rw[e]at hr;simpa using hr
theorem l_s0c{x:Zf}{A:List (List Int)}(hA:ColD A x.Column){B:List (List Int)}(hB:ColD B x.IntoColumn)(a:ByteArray)(b:Int)(a':ByteArray)(b':Int)(out:List Int)(v:Int)(c:Bool)(r:AV×List Blk):∀i,i<=A.length->∀one:Bool,Zif x out a b A a' b' B v (one || has (colV (A.drop i) x.Column) v) c 0=some r->Zkn x out a b A a' b' B v one c i=some r:=by
 have h8:=hA.len;refine down _ ?_ ?_
 .intro one hr;refine Z90 ?_;rw[if_neg (by omega)];rw[Ym,show has (colV [] x.Column) v=false from rfl,Bool.or_false]at hr;exact hr
 .intro i hi ih one hr;obtain⟨⟨h1,h2⟩,_⟩:=hA.row _ (Ya hi);refine Z90 ?_;rw[if_pos (by omega),wS hi (by omega)];rw[Ye hi,Zsx]at hr;rcases tf one with e|e
  .rw[if_neg (by rw[e];simp)];refine⟨by omega,_,gE hi,hA.c0,_,gD h1,ih _ ?_⟩;rw[e,Yb5]at hr;exact hr
  .rw[if_pos e];refine ih true ?_;rw[e]at hr;simpa using hr
theorem l_s2c{x:Zf}{A:List (List Int)}(hA:ColD A x.Column){B:List (List Int)}(hB:ColD B x.IntoColumn)(a:ByteArray)(b:Int)(a':ByteArray)(b':Int):∀u,u<=10->∀out:List Int,out.length<=u->Zd2 x out a b A a' b' B u=some (.own 0,[.arr 3 1 true ((out++Zct (colV A x.Column) (colV B x.IntoColumn) u).map ic)]):=by
 refine down _ ?_ ?_
 .intro out ho;refine Z9y ?_;rw[if_neg (by omega)];simp[Zct]
 .intro u hu ih out ho;have step:∀r,(if(has (colV A x.Column) (u:Int) && !(has (colV B x.IntoColumn) (u:Int)))=true then out.length+1<=68719476736/\Zd2 x (out++[(u:Int)]) a b A a' b' B (w ((u:Int)+1))=some r else Zd2 x out a b A a' b' B (w ((u:Int)+1))=some r)->Zd2 x out a b A a' b' B u=some r:=by
   intro r hr;refine Z9y ?_;rw[if_pos (by omega)];have q1:=l_s1c hA hB a b a' b' out u (has (colV A x.Column) (u:Int)) r 0 (Yb _) false (by simpa using hr);exact l_s0c hA hB a b a' b' out u false r 0 (Yb _) false (by simpa using q1)
  rw[Zsw hu,show w ((u:Int)+1)=((u+1:Nat):Int)from wS hu (by omega)]at *
  have e1:has (colV A x.Column) (u:Int)=has (colV A x.Column) (u:Int):=rfl;have e2:has (colV B x.IntoColumn) (u:Int)=has (colV B x.IntoColumn) (u:Int):=rfl;rw[e1,e2];refine step _ ?_;rcases tf (has (colV A x.Column) (u:Int) && !(has (colV B x.IntoColumn) (u:Int)))with e|e
  .rw[if_neg (by rw[e];simp),if_neg (by rw[e];simp),Yb4];exact ih _ (by omega)
  .rw[if_pos e,if_pos e];refine⟨by omega,?_⟩;rw[<-Y8];exact ih _ (by simp;omega)
theorem Zbr0{d:Zh}(h:LeD d)(x:Zf):Zr1 d x=some (Bo (Ze6 d x),[]):=by
 refine Zbpg ⟨_,Zbbw h x,?_⟩;unfold Ze6;rcases tf (Zf7 d x)with hv|hv
 .rw[hv];rfl
 obtain⟨a,b,h1,h2,hA,hB⟩:=inc_of hv;rw[hv,if_pos rfl,Ybi,h1,h2];have l1:=Zk8 d h x.Name;have l2:=Zk8 d h x.Into;rw[h1]at l1;rw[h2]at l2;simp only[Zf3]at l1 l2;refine⟨Zct (colV a.Rows x.Column) (colV b.Rows x.IntoColumn) 0,Zbpf ⟨_,Zbbw h x,?_⟩,?_⟩
 .rw[hv,if_pos rfl];by_cases e1:a.Rows=[]
  .rw[if_pos e1]at l1;rw[e1];by_cases e2:b.Rows=[]
   .rw[if_pos e2]at l2;rw[e2];exact .inl ⟨_,_,_,l1,.inl ⟨_,_,_,l2,l_s2 _ _ _ _ 0 (by omega) [] (by simp)⟩⟩
   .rw[if_neg e2]at l2;exact .inl ⟨_,_,_,l1,.inr ⟨_,_,_,l2,l_s2a hB _ _ _ _ 0 (by omega) [] (by simp)⟩⟩
  .rw[if_neg e1]at l1;by_cases e2:b.Rows=[]
   .rw[if_pos e2]at l2;rw[e2];exact .inr ⟨_,_,_,l1,.inl ⟨_,_,_,l2,l_s2b hA _ _ _ _ 0 (by omega) [] (by simp)⟩⟩
   .rw[if_neg e2]at l2;exact .inr ⟨_,_,_,l1,.inr ⟨_,_,_,l2,l_s2c hA hB _ _ _ _ 0 (by omega) [] (by simp)⟩⟩
 .have:=Zbrz (B:=colV b.Rows x.IntoColumn) (colV_in hA);by_cases e:Zb7 (colV a.Rows x.Column) (colV b.Rows x.IntoColumn)=[]
  .rw[this.2 e];simp[e]
  .have e2:¬Zct (colV a.Rows x.Column) (colV b.Rows x.IntoColumn) 0=[]:=λhc=>e (this.1 hc)
   have e5:(Zb7 (colV a.Rows x.Column) (colV b.Rows x.IntoColumn)).isEmpty=false:=List.isEmpty_eq_false_iff.2 e;simp[e2,e5]
noncomputable def Zos(d:Zh)(fs:List Ze)(xs:List Zf):Bool:=fs.all (Zf6 d) && xs.all (Ze6 d) && (decide (fs.length<=8) && decide (xs.length<=8))
abbrev LeF(fs:List Ze):Prop:=Le fs/\∀f∈fs,f.From.length<=4294967296
theorem Zbr1{d:Zh}(h:LeD d)(fs:List Ze)(xs:List Zf)(hx:Le xs):∀i,i<=xs.length->Zmz d fs xs xs xs.length i=some (Bo ((xs.drop i).all (Ze6 d) && (decide (fs.length<=8) && decide (xs.length<=8))),[]):=by
 refine down _ ?_ ?_
 .refine Z8n ?_;rw[if_neg (by omega),Ym];by_cases e:fs.length<=8
  .rw[if_pos (by omega)];simp[e];omega
  .rw[if_neg (by omega)];simp[e]
 .intro i hi ih;refine Z8n ?_;rw[if_pos (by omega),wS hi hx,Ye hi,Y3];refine⟨by omega,_,gE hi,_,Zbry h _,?_⟩;rcases tf (Ze6 d xs[i])with e|e
  .rw[e];simp
  .rw[e,if_pos rfl,ih];simp
theorem Zbb0{d:Zh}(h:LeD d){fs:List Ze}(hf:LeF fs){xs:List Zf}(hx:Le xs):Zjx d fs xs=some (Bo (Zos d fs xs),[]):=by
 have main:∀i,i<=fs.length->Zmy d fs xs fs fs.length i=some (Bo ((fs.drop i).all (Zf6 d) && xs.all (Ze6 d) && (decide (fs.length<=8) && decide (xs.length<=8))),[]):=by
  refine down _ ?_ ?_
  .refine Z8m ?_;rw[if_neg (by omega),Ym];simpa using Zbr1 h fs xs hx 0 (Yb _)
  .intro i hi ih;refine Z8m ?_;rw[if_pos (by omega),wS hi hf.1,Ye hi,Y3];refine⟨by omega,_,gE hi,_,Zbru h _ (hf.2 _ (Ya hi)),?_⟩;rcases tf (Zf6 d fs[i])with e|e
   .rw[e];simp
   .rw[e,if_pos rfl,ih];simp
 exact Zbnk (by simpa[Zos]using main 0 (Yb _))
theorem Zbr2{d:Zh}(h:LeD d)(xs:List Zf)(hx:Le xs):∀i,i<=xs.length->Zn7 d xs i=some (Bo ((xs.drop i).all (Ze6 d)),[]):=by
 refine down _ ?_ ?_
 .refine Z94 ?_;rw[if_neg (by omega),Ym];rfl
 .intro i hi ih;refine Z94 ?_;rw[if_pos (by omega),wS hi hx,Ye hi,Y3];refine⟨by omega,_,gE hi,_,Zbr0 h _,?_⟩;rcases tf (Ze6 d xs[i])with e|e
  .rw[e];simp
  .rw[e,if_pos rfl,ih];simp
theorem Zbb1{d:Zh}(h:LeD d){fs:List Ze}(hf:LeF fs){xs:List Zf}(hx:Le xs):Zn5 d fs xs=some (Bo (Zos d fs xs),[]):=by
 have main:∀i,i<=fs.length->Zn6 d fs xs i=some (Bo ((fs.drop i).all (Zf6 d) && xs.all (Ze6 d)),[]):=by
  refine down _ ?_ ?_
  .refine Z93 ?_;rw[if_neg (by omega),Ym];simpa using Zbr2 h xs hx 0 (Yb _)
  .intro i hi ih;refine Z93 ?_;rw[if_pos (by omega),wS hi hf.1,Ye hi,Y3];refine⟨by omega,_,gE hi,_,Zbrv h _ (hf.2 _ (Ya hi)),?_⟩;rcases tf (Zf6 d fs[i])with e|e
   .rw[e];simp
   .rw[e,if_pos rfl,ih];simp
 refine Zbph ?_;unfold Zos;by_cases e1:fs.length<=8
 .rw[if_neg (by omega)];by_cases e2:xs.length<=8
  .rw[if_neg (by omega)];simpa[e1,e2]using main 0 (Yb _)
  .rw[if_pos (by omega)];simp[e2]
 .rw[if_pos (by omega)];simp[e1]
structure Zot (s:Zm):Prop where
 d:LeD s.Zh
 k:LeK s.Zl
 f:LeF s.Dependencies
 x:Le s.Inclusions
noncomputable def Ziu(s:Zm):Bool:=Zb0 s.Zh && inR s.Zl.Version 1 999 && decide (s.Zh.Tables.map Zb1=s.Zl.Tables) && Zos s.Zh s.Dependencies s.Inclusions
theorem Zbb2{d:Zh}(hv:Zb0 d=true):(d.Tables.map Zb1).length<=4294967296/\∀s∈d.Tables.map Zb1,LeS s:=by
 have h6:=tab_le hv;refine⟨by simp;omega,λs hs=>?_⟩;obtain⟨t,ht,rfl⟩:=Y0.1 hs;have hT:=Zfm hv ht;have h7:=Zor (Zew hT);have h8:=Zsm hT;refine⟨by simp[Zb1];omega,λg hg=>?_⟩;obtain⟨c,hc,rfl⟩:=Y0.1 hg;have hc3:=(subs_col (Zew hT) c hc).1;have hg:=Zbbf t.Rows c;refine⟨by simp only[grp];omega,⟨by simp only[grp];omega,λr hr=>?_⟩,by simp only[grp,grpN,Ybd];omega⟩;have:=Zbbh hr;omega
theorem Zbr3{s:Zm}(h:Zot s):Zm4 s=some (Bo (Ziu s),[]):=by
 have hb:=Zbrb h.d s.Zl.Version;refine Zbnt ?_;unfold Ziu;unfold catF at hb;rcases tf (Zb0 s.Zh && inR s.Zl.Version 1 999)with e|e
 .rw[e]at hb|-;exact .inl ⟨_,_,hb,by simp⟩
 .rw[e]at hb|-;rw[if_pos rfl]at hb;rw[Ybi];have hv:Zb0 s.Zh=true:=by simp only[Yf]at e;exact e.1
  by_cases e0:s.Zh.Tables=[]
  .rw[if_pos e0]at hb;refine .inl ⟨_,_,hb,?_⟩;rw[if_pos rfl];refine⟨_,Zbrh _ _,?_⟩;have q:Zcs s.Zl.Version [] s.Zl=decide (s.Zh.Tables.map Zb1=s.Zl.Tables):=by simp[Zcs,e0]
   rw[q];rcases tf (decide (s.Zh.Tables.map Zb1=s.Zl.Tables))with e2|e2
   .rw[e2];simp
   .rw[e2,if_pos rfl];exact⟨_,Zbb0 h.d h.f h.x,by simp⟩
  .rw[if_neg e0]at hb;refine .inr ⟨_,_,_,hb,_,Zbri _ _ _ (Zbb2 hv),?_⟩;have q:Zcs s.Zl.Version (s.Zh.Tables.map Zb1) s.Zl=decide (s.Zh.Tables.map Zb1=s.Zl.Tables):=by simp[Zcs]
   rw[q];rcases tf (decide (s.Zh.Tables.map Zb1=s.Zl.Tables))with e2|e2
   .rw[e2];simp
   .rw[e2,if_pos rfl];exact⟨_,Zbb0 h.d h.f h.x,by simp⟩
theorem Zbr4{s:Zm}(h:Zot s):Zoa s=some (Bo (Ziu s),[]):=by
 have hb:=Zbrd h.d s.Zl.Version;refine Zbpk ?_;unfold Ziu;unfold catF at hb;rcases tf (Zb0 s.Zh && inR s.Zl.Version 1 999)with e|e
 .rw[e]at hb|-;exact .inl ⟨_,_,hb,by simp⟩
 .rw[e]at hb|-;rw[if_pos rfl]at hb;rw[Ybi];have hv:Zb0 s.Zh=true:=by simp only[Yf]at e;exact e.1
  by_cases e0:s.Zh.Tables=[]
  .rw[if_pos e0]at hb;refine .inl ⟨_,_,hb,?_⟩;rw[if_pos rfl];refine⟨_,Zbrn _ _,?_⟩;have q:Zcs s.Zl.Version [] s.Zl=decide (s.Zh.Tables.map Zb1=s.Zl.Tables):=by simp[Zcs,e0]
   rw[q];rcases tf (decide (s.Zh.Tables.map Zb1=s.Zl.Tables))with e2|e2
   .rw[e2];simp
   .rw[e2,if_pos rfl];exact⟨_,Zbb1 h.d h.f h.x,by simp⟩
  .rw[if_neg e0]at hb;refine .inr ⟨_,_,_,hb,_,Zbro _ _ _ (Zbb2 hv) h.k,?_⟩;have q:Zcs s.Zl.Version (s.Zh.Tables.map Zb1) s.Zl=decide (s.Zh.Tables.map Zb1=s.Zl.Tables):=by simp[Zcs]
   rw[q];rcases tf (decide (s.Zh.Tables.map Zb1=s.Zl.Tables))with e2|e2
   .rw[e2];simp
   .rw[e2,if_pos rfl];exact⟨_,Zbb1 h.d h.f h.x,by simp⟩
abbrev Lf{α:Type}(xs:List α):Prop:=xs.length<=4294967296
abbrev LfT(t:Zc):Prop:=Lf t.Rows/\∀r∈t.Rows,Lf r
abbrev LfD(d:Zh):Prop:=Lf d.Tables/\∀t∈d.Tables,LfT t
abbrev LfF(fs:List Ze):Prop:=Lf fs/\∀f∈fs,Lf f.From
structure LfS (s:Zm):Prop where
 d:LfD s.Zh
 k:LeK s.Zl
 f:LfF s.Dependencies
 x:Lf s.Inclusions
theorem LfS.le{s:Zm}(h:LfS s):Zot s :=
 ⟨⟨by have:=h.d.1;omega,λt ht=>⟨by have:=(h.d.2 t ht).1;omega,λr hr=>by have:=(h.d.2 t ht).2 r hr;omega⟩⟩,h.k,⟨by have:=h.f.1;omega,λx hx=>by have:=h.f.2 x hx;omega⟩,by have:=h.x;omega⟩
abbrev LfM(m:Za):Prop:=Lf m.Scan.Steps/\Lf m.Sort_.Steps/\Lf m.Hash.Steps/\Lf m.Merge.Steps/\Lf m.Nested.Steps
theorem LfM.le{m:Za}(h:LfM m):LeM m:=⟨by have:=h.1;omega,by have:=h.2.1;omega,by have:=h.2.2.1;omega,by have:=h.2.2.2.1;omega,by have:=h.2.2.2.2;omega⟩
abbrev dbR(d:Zh):AV×List Blk:=(.agg [.own 0],[.arr 142 3 true (d.Tables.map Zc.c)])
abbrev catR(c:Zl):AV×List Blk:=(.agg [I c.Version,.own 0],[.arr 146 4 true (c.Tables.map Zd.c)])
abbrev stoR(s:Zm):AV×List Blk:=(.agg [.own 0,I s.Zl.Version,.own 1,.own 2,.own 3],[.arr 142 3 true (s.Zh.Tables.map Zc.c),.arr 146 4 true (s.Zl.Tables.map Zd.c),.arr 116 3 true (s.Dependencies.map Ze.c),.arr 118 4 true (s.Inclusions.map Zf.c)])
theorem tkS{α:Type}{xs:List α}{i:Nat}(h:i<xs.length):xs.take i++[xs[i]]=xs.take (i+1):=(Yx h).symm
theorem tk1{α:Type}{xs:List α}(h:0<xs.length):[xs[0]]=xs.take 1:=by
 rw[<-tkS h];rfl
theorem w01:w (0+1)=((1:Nat):Int):=by decide
theorem tkl{α:Type}{xs:List α}{i:Nat}(h:i<xs.length)(hl:xs.length<=4294967296):(xs.take i).length+1<=68719476736:=by
 rw[Ybb];omega
theorem tks{α:Type}{xs:List α}(h:xs.length<=4294967296):xs.length<=68719476736:=by omega
theorem l_cRows(xs:List (List Int))(hl:Lf xs)(hr:∀r∈xs,Lf r):∀i,i<=xs.length->Zjk (xs.take i) xs xs.length i=some (.own 0,[.arr 99 1 true (xs.map isc)]):=by
 refine down _ ?_ ?_
 .refine Zsg ?_;rw[if_neg (by omega),Yo]
 .intro i hi ih;refine Zsg ?_;rw[if_pos (by omega),wS hi (by omega)];rw[<-tkS hi]at ih;exact⟨by omega,_,gE hi,_,Zk6 _ (tks (hr _ (Ya hi))),tkl hi hl,ih⟩
theorem Zbb3(xs:List (List Int))(hl:Lf xs)(hr:∀r∈xs,Lf r):Zgr xs=some (.own 0,[.arr 99 1 true (xs.map isc)]) :=
 Z7w (by simpa using l_cRows xs hl hr 0 (Yb _))
theorem Zbb4(t:Zc)(h:LfT t):Zhq t=some (.agg [.t (.str t.Name),I t.Arity,.own 0],[.arr 99 1 true (t.Rows.map isc)]) :=
 Z7x ⟨_,Zbb3 _ h.1 h.2,rfl⟩
theorem l_cDB(d:Zh)(h:LfD d):∀i,i<=d.Tables.length->Zl4 (d.Tables.take i) d.Tables d.Tables.length i=some (dbR d):=by
 have hl:=h.1;refine down _ ?_ ?_
 .refine Z7y ?_;rw[if_neg (by omega),Yo]
 .intro i hi ih;refine Z7y ?_;rw[if_pos (by omega),wS hi (by omega)];rw[<-tkS hi]at ih;exact⟨by omega,_,gE hi,_,_,_,Zbb4 _ (h.2 _ (Ya hi)),tkl hi hl,ih⟩
theorem Zbr5(d:Zh)(h:LfD d):Zl3 d=some (dbR d):=by
 refine Zbme (Zbmd ?_);by_cases e:d.Tables=[]
 .rw[if_neg (by rw[e];simp),dbR,e]
 .have h0:0<d.Tables.length:=Ybf.2 e;rw[if_pos (by omega),w01];have:=l_cDB d h 1 h0;rw[<-tk1 h0]at this;exact⟨by omega,_,gE (i:=0) h0,_,_,_,Zbb4 _ (h.2 _ (Ya h0)),this⟩
theorem l_cStats(s:Zd)(h:LeS s)(a:ByteArray)(b c:Int):∀i,i<=s.Groups.length->Zl6 s a b c (s.Groups.take i) s.Groups s.Groups.length i=some (.agg [.t (.str s.Name),I s.Arity,I s.RowCount,.own 0],[.arr 193 3 true (s.Groups.map Zj.c)]):=by
 have hl:=h.1;refine down _ ?_ ?_
 .refine Z7z ?_;rw[if_neg (by omega),Yo]
 .intro i hi ih;refine Z7z ?_;rw[if_pos (by omega),wS hi (by omega)];rw[<-tkS hi]at ih;have g:=h.2 _ (Ya hi);exact⟨by omega,_,gE hi,_,Zk6 _ (tks g.1),_,Zbb3 _ g.2.1.1 g.2.1.2,_,Zk6 _ (tks g.2.2),tkl hi hl,ih⟩
theorem Zbb5(s:Zd)(h:LeS s):Zl5 s=some (.agg [.t (.str s.Name),I s.Arity,I s.RowCount,.own 0],[.arr 193 3 true (s.Groups.map Zj.c)]) :=
 Zbmf (by simpa using l_cStats s h ⟨#[]⟩ 0 0 0 (Yb _))
theorem l_cCat(c:Zl)(h:LeK c)(a:Int):∀i,i<=c.Tables.length->Zl8 a c.Version (c.Tables.take i) c.Tables c.Tables.length i=some (catR c):=by
 have hl:=h.1;refine down _ ?_ ?_
 .refine Z70 ?_;rw[if_neg (by omega),Yo]
 .intro i hi ih;refine Z70 ?_;rw[if_pos (by omega),wS hi (by omega)];rw[<-tkS hi]at ih;exact⟨by omega,_,gE hi,_,_,_,_,Zbb5 _ (h.2 _ (Ya hi)),tkl hi hl,ih⟩
theorem Zbr6(c:Zl)(h:LeK c):Zl7 c=some (catR c):=by
 refine Zbmh (Zbmg ?_);by_cases e:c.Tables=[]
 .rw[if_neg (by rw[e];simp),catR,e]
 .have h0:0<c.Tables.length:=Ybf.2 e;rw[if_pos (by omega),w01];have:=l_cCat c h 0 1 h0;rw[<-tk1 h0]at this;exact⟨by omega,_,gE (i:=0) h0,_,_,_,_,Zbb5 _ (h.2 _ (Ya h0)),this⟩
theorem l_cDeps(xs:List Ze)(h:LfF xs):∀i,i<=xs.length->Zl9 (xs.take i) xs xs.length i=some (.own 0,[.arr 116 3 true (xs.map Ze.c)]):=by
 have hl:=h.1;refine down _ ?_ ?_
 .refine Z71 ?_;rw[if_neg (by omega),Yo]
 .intro i hi ih;refine Z71 ?_;rw[if_pos (by omega),wS hi (by omega)];rw[<-tkS hi]at ih;exact⟨by omega,_,gE hi,_,Zk6 _ (tks (h.2 _ (Ya hi))),tkl hi hl,ih⟩
theorem Zbr7(s:Zm)(h:LfS s):Zqu s=some (stoR s) :=
 Zbmj ⟨_,Zbr5 _ h.d,_,_,Zbr6 _ h.k,_,Zbmi (by simpa using l_cDeps _ h.f 0 (Yb _)),tks h.x,rfl⟩
theorem l_s4(t:Zc)(h:LfT t)(a:ByteArray)(b:Int):∀i,i<=t.Rows.length->Zh4 t a b t.Name t.Arity (t.Rows.take i) i=some (.agg [.t (.str t.Name),I t.Arity,.own 0],[.arr 99 1 true (t.Rows.map isc)]):=by
 have hl:=h.1;refine down _ ?_ ?_
 .refine Zsi ?_;rw[if_neg (by omega),Yo]
 .intro i hi ih;refine Zsi ?_;rw[if_pos (by omega),wS hi (by omega)];rw[<-tkS hi]at ih;exact⟨by omega,_,gE hi,tks (h.2 _ (Ya hi)),tkl hi hl,ih⟩
abbrev s4R(t:Zc):AV×List Blk:=if t.Rows=[]then(.agg [.t (.str t.Name),I t.Arity,.t .nil],[])else(.agg [.t (.str t.Name),I t.Arity,.own 0],[.arr 99 1 true (t.Rows.map isc)])
theorem x_s4(t:Zc)(h:LfT t):Zee t=some (s4R t):=by
 refine Z85 (Z83 ?_);by_cases e:t.Rows=[]
 .rw[if_neg (by rw[e];simp),s4R,if_pos e]
 .have h0:0<t.Rows.length:=Ybf.2 e;rw[if_pos (by omega),w01];have:=l_s4 t h ⟨#[]⟩ 0 1 h0;rw[<-tk1 h0]at this;rw[s4R,if_neg e];exact⟨by omega,_,gE (i:=0) h0,tks (h.2 _ (Ya h0)),this⟩
theorem tE(t:Zc)(h:t.Rows=[]):(⟨t.Name,t.Arity,[]⟩:Zc)=t:=Zc.ext rfl rfl h.symm
theorem l_s5(d:Zh)(h:LfD d):∀i,i<=d.Tables.length->Zh5 d (d.Tables.take i) i=some (dbR d):=by
 have hl:=h.1;refine down _ ?_ ?_
 .refine Z86 ?_;rw[if_neg (by omega),Yo]
 .intro i hi ih;refine Z86 ?_;rw[if_pos (by omega),wS hi (by omega)];rw[<-tkS hi]at ih;have s:=x_s4 _ (h.2 _ (Ya hi));refine⟨by omega,_,gE hi,?_⟩;by_cases e:d.Tables[i].Rows=[]
  .rw[s4R,if_pos e]at s;exact .inl ⟨_,_,s,tkl hi hl,by rw[tE _ e];exact ih⟩
  .rw[s4R,if_neg e]at s;exact .inr ⟨_,_,_,s,tkl hi hl,ih⟩
theorem Zbr8(d:Zh)(h:LfD d):Zna d=some (dbR d):=by
 refine Zbn9 (Zbn8 ?_);by_cases e:d.Tables=[]
 .rw[if_neg (by rw[e];simp),dbR,e]
 .have h0:0<d.Tables.length:=Ybf.2 e;rw[if_pos (by omega),w01];have:=l_s5 d h 1 h0;rw[<-tk1 h0]at this;have s:=x_s4 _ (h.2 _ (Ya h0));refine⟨by omega,_,gE (i:=0) h0,?_⟩;by_cases e:d.Tables[0].Rows=[]
  .rw[s4R,if_pos e]at s;exact .inl ⟨_,_,s,by rw[tE _ e];exact this⟩
  .rw[s4R,if_neg e]at s;exact .inr ⟨_,_,_,s,this⟩
theorem l_s13(s:Zd)(h:LeS s)(a:ByteArray)(b c:Int)(r:AV×List Blk){i:Nat}(hi:i<s.Groups.length)(cc:Zfv s a b c s.Name s.Arity s.RowCount (s.Groups.take (i+1)) ((i+1:Nat):Int)=some r) :
  (∀k,k<=s.Groups[i].Values.length->Znd s a b c s.Name s.Arity s.RowCount (s.Groups.take i) s.Groups[i].Columns (s.Groups[i].Values.take k) s.Groups[i].Counts i k=some r):=by
 have hl:=h.1;have g:=h.2 _ (Ya hi);have hv:=g.2.1.1;refine down _ ?_ ?_
 .refine Z89 ⟨by omega,_,gE hi,?_⟩;rw[if_neg (by omega),Yo,wS hi (by omega)];rw[<-tkS hi]at cc;exact⟨tkl hi hl,cc⟩
 .intro k hk ih;refine Z89 ⟨by omega,_,gE hi,?_⟩;rw[if_pos (by omega),wS hk (by omega)];rw[<-tkS hk]at ih;exact⟨by omega,_,gE hk,tks (g.2.1.2 _ (Ya hk)),tkl hk hv,ih⟩
theorem l_s13b(s:Zd)(h:LeS s)(a:ByteArray)(b c:Int):∀i,i<=s.Groups.length->Zfv s a b c s.Name s.Arity s.RowCount (s.Groups.take i) i=some (.agg [.t (.str s.Name),I s.Arity,I s.RowCount,.own 0],[.arr 193 3 true (s.Groups.map Zj.c)]):=by
 have hl:=h.1;refine down _ ?_ ?_
 .refine Z88 ?_;rw[if_neg (by omega),Yo]
 .intro i hi ih;have g:=h.2 _ (Ya hi);have hv:=g.2.1.1;refine Z88 ?_;rw[if_pos (by omega)];refine⟨by omega,_,gE hi,tks g.1,tks g.2.2,Zboc ⟨by omega,_,gE hi,?_⟩⟩;by_cases e:s.Groups[i].Values=[]
  .rw[if_neg (by rw[e];simp),wS hi (by omega)];rw[<-tkS hi]at ih;refine⟨tkl hi hl,?_⟩;rw[<-ih];congr 3;exact Zj.ext rfl e.symm rfl
  .have h0:0<s.Groups[i].Values.length:=Ybf.2 e;rw[if_pos (by omega),w01];have:=l_s13 s h a b c _ hi ih 1 h0;rw[<-tk1 h0]at this;exact⟨by omega,_,gE (i:=0) h0,tks (g.2.1.2 _ (Ya h0)),this⟩
theorem l_s13c(s:Zd)(h:LeS s)(r:AV×List Blk)(hi:0<s.Groups.length)(c:Zfv s ⟨#[]⟩ 0 0 s.Name s.Arity s.RowCount (s.Groups.take 1) ((1:Nat):Int)=some r) :
  ∀k,k<=s.Groups[0].Values.length->Znc s ⟨#[]⟩ 0 0 s.Name s.Arity s.RowCount s.Groups[0].Columns (s.Groups[0].Values.take k) s.Groups[0].Counts 0 k=some r:=by
 have hl:=h.1;have g:=h.2 _ (Ya hi);have hv:=g.2.1.1;refine down _ ?_ ?_
 .refine Z87 ⟨by omega,_,gE (i:=0) hi,?_⟩;rw[if_neg (by omega),Yo,w01];rw[<-tk1 hi]at c;exact c
 .intro k hk ih;refine Z87 ⟨by omega,_,gE (i:=0) hi,?_⟩;rw[if_pos (by omega),wS hk (by omega)];rw[<-tkS hk]at ih;exact⟨by omega,_,gE hk,tks (g.2.1.2 _ (Ya hk)),tkl hk hv,ih⟩
theorem x_s13(s:Zd)(h:LeS s):Znb s=some (.agg [.t (.str s.Name),I s.Arity,I s.RowCount,.own 0],[.arr 193 3 true (s.Groups.map Zj.c)]):=by
 have hl:=h.1;refine Zbod (Zboa ?_);by_cases e0:s.Groups=[]
 .rw[if_neg (by rw[e0];simp),e0]
 .have hi:0<s.Groups.length:=Ybf.2 e0;have g:=h.2 _ (Ya hi);have ih:=l_s13b s h ⟨#[]⟩ 0 0 1 hi;rw[if_pos (by omega)];refine⟨by omega,_,gE (i:=0) hi,tks g.1,tks g.2.2,Zbob ⟨by omega,_,gE (i:=0) hi,?_⟩⟩;by_cases e:s.Groups[0].Values=[]
  .rw[if_neg (by rw[e];simp),w01];rw[<-tk1 hi]at ih;rw[<-ih];congr 2;exact Zj.ext rfl e.symm rfl
  .have h0:0<s.Groups[0].Values.length:=Ybf.2 e;rw[if_pos (by omega),w01];have:=l_s13c s h _ hi ih 1 h0;rw[<-tk1 h0]at this;exact⟨by omega,_,gE (i:=0) h0,tks (g.2.1.2 _ (Ya h0)),this⟩
theorem l_s14(c:Zl)(h:LeK c)(a:Int):∀i,i<=c.Tables.length->Zne c a c.Version (c.Tables.take i) i=some (catR c):=by
 have hl:=h.1;refine down _ ?_ ?_
 .refine Z9a ?_;rw[if_neg (by omega),Yo]
 .intro i hi ih;refine Z9a ?_;rw[if_pos (by omega),wS hi (by omega)];rw[<-tkS hi]at ih;exact⟨by omega,_,gE hi,_,_,_,_,x_s13 _ (h.2 _ (Ya hi)),tkl hi hl,ih⟩
theorem Zbr9(c:Zl)(h:LeK c):Zrp c=some (catR c):=by
 refine Zbof (Zboe ?_);by_cases e:c.Tables=[]
 .rw[if_neg (by rw[e];simp),catR,e]
 .have h0:0<c.Tables.length:=Ybf.2 e;rw[if_pos (by omega),w01];have:=l_s14 c h 0 1 h0;rw[<-tk1 h0]at this;exact⟨by omega,_,gE (i:=0) h0,_,_,_,_,x_s13 _ (h.2 _ (Ya h0)),this⟩
theorem l_sDeps(xs:List Ze)(h:LfF xs):∀i,i<=xs.length->Znf (xs.take i) xs i=some (.own 0,[.arr 116 3 true (xs.map Ze.c)]):=by
 have hl:=h.1;refine down _ ?_ ?_
 .refine Z9b ?_;rw[if_neg (by omega),Yo]
 .intro i hi ih;refine Z9b ?_;rw[if_pos (by omega),wS hi (by omega)];rw[<-tkS hi]at ih;exact⟨by omega,_,gE hi,tks (h.2 _ (Ya hi)),tkl hi hl,ih⟩
theorem Zbsa(s:Zm)(h:LfS s):Zng s=some (stoR s) :=
 Zboh ⟨_,Zbr8 _ h.d,_,_,Zbr9 _ h.k,_,Zbog (by simpa using l_sDeps _ h.f 0 (Yb _)),tks h.x,rfl⟩
abbrev modV(m:Za)(k:Nat):List AV:=[I m.Scan.Fixed,I m.Scan.Zo,I m.Scan.Zp,I m.Scan.Zq,I m.Scan.Zr,.own k,I m.Sort_.Fixed,I m.Sort_.Zo,I m.Sort_.Zp,I m.Sort_.Zq,I m.Sort_.Zr,.own (k+1),I m.Hash.Fixed,I m.Hash.Zo,I m.Hash.Zp,I m.Hash.Zq,I m.Hash.Zr,.own (k+2),I m.Merge.Fixed,I m.Merge.Zo,I m.Merge.Zp,I m.Merge.Zq,I m.Merge.Zr,.own (k+3),I m.Nested.Fixed,I m.Nested.Zo,I m.Nested.Zp,I m.Nested.Zq,I m.Nested.Zr,.own (k+4)]
abbrev modB(m:Za):List Blk:=[.arr 170 2 true (m.Scan.Steps.map Zb.c),.arr 170 2 true (m.Sort_.Steps.map Zb.c),.arr 170 2 true (m.Hash.Steps.map Zb.c),.arr 170 2 true (m.Merge.Steps.map Zb.c),.arr 170 2 true (m.Nested.Steps.map Zb.c)]
theorem Zbsb(m:Za)(h:LfM m):Znh m=some (.agg (modV m 0),modB m) :=
 Zboi ⟨_,_,_,_,_,_,Zoi ⟨tks h.1,rfl⟩,_,_,_,_,_,_,Zoi ⟨tks h.2.1,rfl⟩,_,_,_,_,_,_,Zoi ⟨tks h.2.2.1,rfl⟩,_,_,_,_,_,_,Zoi ⟨tks h.2.2.2.1,rfl⟩,_,_,_,_,_,_,Zoi ⟨tks h.2.2.2.2,rfl⟩,rfl⟩
theorem Zbsc(m:Za)(h:LfM m):Zqv m=some (.agg (modV m 0),modB m):=by
 have hop:Zh0 m=some (.bsl 1 5,[.box (m.c.map .t),.box [.ptr 0 0,.ptr 0 6,.ptr 0 12,.ptr 0 18,.ptr 0 24]]):=Z8r rfl;have c1:=Zok m.Scan _ ⟨tks h.1,rfl⟩;have c2:=Zok m.Sort_ _ ⟨tks h.2.1,rfl⟩;have c3:=Zok m.Hash _ ⟨tks h.2.2.1,rfl⟩;have c4:=Zok m.Merge _ ⟨tks h.2.2.2.1,rfl⟩;have c5:=Zok m.Nested _ ⟨tks h.2.2.2.2,rfl⟩;unfold Zh0 at hop;unfold Zyp at c1 c2 c3 c4 c5;simp only[Za.c_def,Zn.c_def,Yl,Yck]at hop c1 c2 c3 c4 c5;unfold Zqv;refine run Zbjl rfl ?_;simp +decide[Z4h,Z4g,hop,c1,c2,c3,c4,c5,Zi Z4f.eq_1,Zt]
theorem x_cCache(k:Int):Zqw k=some (.agg [I k,.t .nil],[]) :=
 Zbml (Zbmk (by simp))
abbrev sesV(s:Zm)(m:Za)(k r l q p:Int):AV:=.agg (.own 0::I s.Zl.Version::.own 1::.own 2::.own 3::(modV m 4++[I k,.t .nil,I r,I l,I q,I p]))
theorem Zbsd(s:Zm)(m:Za)(k r l q p:Int)(h:LfS s)(hm:LfM m):Zma s m k r l q p=some (sesV s m k r l q p,(stoR s).2++modB m) :=
 Zbmm ⟨_,_,_,_,_,Zbr7 _ h,_,_,_,_,_,_,_,_,_,_,_,_,_,_,_,_,_,_,_,_,_,_,_,_,_,_,_,_,_,_,Zbsc _ hm,_,x_cCache _,rfl⟩
theorem Zbse(m:Za)(k:Int):Zrh m k=some (Bo (inR k 0 1000000),[]):=by
 refine Zbn5 ⟨_,Zb6 _ _ _,?_⟩;rcases tf (inR k 0 1000000)with e|e
 .rw[e];simp
 .rw[e,if_pos rfl];exact Zbn4 (by simp)
theorem Zbsf(m:Za)(k:Int):Zse m k=some (Bo (inR k 0 1000000),[]):=by
 refine Zbpx (Zbpw ?_);rw[if_neg (by omega)];refine⟨_,Zbt _ _ _,?_⟩;rcases tf (inR k 0 1000000)with e|e<;>rw[e]<;>simp
open Classical in
noncomputable def Zg7(s:Zm)(m:Za)(k r l q p:Int):Bool:=Ziu s && decide (Zf2 m) && inR k 0 1000000 && inR r 2 8 && inR l 0 100 && inR q 0 1000000 && inR p 0 1000000000000
open Classical in
theorem Zbsg{s:Zm}{m:Za}(k r l q p:Int)(h:Zot s)(hm:LeM m):Zri s m k r l q p=some (Bo (Zg7 s m k r l q p),[]):=by
 refine Zbn6 ⟨_,Zb6 _ _ _,?_⟩;unfold Zg7;rcases tf (inR r 2 8)with e1|e1
 .rw[e1];simp
 rw[e1,if_pos rfl];refine⟨_,Zb6 _ _ _,?_⟩;rcases tf (inR l 0 100)with e2|e2
 .rw[e2];simp
 rw[e2,if_pos rfl];refine⟨_,Zb6 _ _ _,?_⟩;rcases tf (inR q 0 1000000)with e3|e3
 .rw[e3];simp
 rw[e3,if_pos rfl];refine⟨_,Zb6 _ _ _,?_⟩;rcases tf (inR p 0 1000000000000)with e4|e4
 .rw[e4];simp
 rw[e4,if_pos rfl];refine⟨_,Zbr3 h,?_⟩;rcases tf (Ziu s)with e5|e5
 .rw[e5];simp
 rw[e5,if_pos rfl];refine⟨_,Zbp9 _ hm,?_⟩;rcases tf (decide (Zf2 m))with e6|e6
 .rw[e6];simp
 rw[e6,if_pos rfl];exact⟨_,Zbse _ _,by simp⟩
open Classical in
theorem Zbsh{s:Zm}{m:Za}(k r l q p:Int)(h:Zot s)(hm:LeM m):Zoh s m k r l q p=some (Bo (Zg7 s m k r l q p),[]):=by
 refine Zbpy ⟨_,Zbr4 h,?_⟩;unfold Zg7;rcases tf (Ziu s)with e5|e5
 .rw[e5];simp
 rw[e5,if_pos rfl];refine⟨_,Zbp8 _ hm,?_⟩;rcases tf (decide (Zf2 m))with e6|e6
 .rw[e6];simp
 rw[e6,if_pos rfl];refine⟨_,Zbsf _ _,?_⟩;rcases tf (inR k 0 1000000)with e0|e0
 .rw[e0];simp
 rw[e0,if_pos rfl];refine⟨_,Zbt _ _ _,?_⟩;rcases tf (inR r 2 8)with e1|e1
 .rw[e1];simp
 rw[e1,if_pos rfl];refine⟨_,Zbt _ _ _,?_⟩;rcases tf (inR l 0 100)with e2|e2
 .rw[e2];simp
 rw[e2,if_pos rfl];refine⟨_,Zbt _ _ _,?_⟩;rcases tf (inR q 0 1000000)with e3|e3
 .rw[e3];simp
 rw[e3,if_pos rfl];exact⟨_,Zbt _ _ _,by simp⟩
abbrev noSes:AV:=.agg [.t .nil,I 0,.t .nil,.t .nil,.t .nil,I 0,I 0,I 0,I 0,I 0,.t .nil,I 0,I 0,I 0,I 0,I 0,.t .nil,I 0,I 0,I 0,I 0,I 0,.t .nil,I 0,I 0,I 0,I 0,I 0,.t .nil,I 0,I 0,I 0,I 0,I 0,.t .nil,I 0,.t .nil,I 0,I 0,I 0,I 0]
noncomputable def newF(s:Zm)(m:Za)(r l:Int):AV×List Blk:=if Zg7 s m 0 r l 0 0=true then(.tup [sesV s m 0 r l 0 0,Bo true],(stoR s).2++modB m)else(.tup [noSes,Bo false],[])
theorem Zbsi(s:Zm)(m:Za)(r l:Int)(h:LfS s)(hm:LfM m):Zrj s m r l=some (newF s m r l):=by
 refine Zbn7 ⟨_,_,_,_,_,_,_,_,_,_,_,_,_,_,_,_,_,_,_,_,_,_,_,_,_,_,_,_,_,_,_,_,_,_,_,_,_,_,_,_,Zbsd s m 0 r l 0 0 h hm,_,Zbsg 0 r l 0 0 h.le (LfM.le hm),?_⟩;unfold newF;rcases tf (Zg7 s m 0 r l 0 0)with e|e
 .rw[e,if_neg (by decide),if_neg (by decide)]
 .rw[e,if_pos rfl,if_pos rfl];rfl
theorem Zbsj(s:Zm)(m:Za)(r l:Int)(h:LfS s)(hm:LfM m):Zsf s m r l=some (newF s m r l):=by
 refine Zbpz ⟨_,_,_,_,_,Zbsa s h,_,_,_,_,_,_,_,_,_,_,_,_,_,_,_,_,_,_,_,_,_,_,_,_,_,_,_,_,_,_,Zbsb m hm,_,Zbsh 0 r l 0 0 h.le (LfM.le hm),?_⟩;unfold newF;rcases tf (Zg7 s m 0 r l 0 0)with e|e
 .rw[e,if_neg (by decide),if_neg (by decide)]
 .rw[e,if_pos rfl,if_pos rfl];rfl
end Go.Proofs.YtooakifnnhhnhaaGreat
