/-
  Parts of the proofs for this seat: SO1 SO2 SO3 CE EWx SFx GA GB LQ GC GD GE GF MK SP PC.
-/
import Derived.Shelf.SlSortCmp.Kit1
import Derived.Test.YtdioodopdlpinaaGreatP3
import Derived.Test.YtdioodopdlpinaaGreatP7
import Derived.Test.YtdioodopdlpinaaGreatP12
import Derived.Test.YtdioodopdlpinaaGreatP13
set_option linter.unusedSimpArgs false
set_option linter.unusedVariables false
set_option maxRecDepth 100000
set_option maxHeartbeats 4000000
namespace Go.Proofs.YtdioodopdlpinaaGreat
open Go.RowKit Go.AM
theorem Zbm0{w:World}:∀{r:List Int} {vs:List Value} {fp:List Nat},TRs w (r.map ic).flatten vs fp->vs=r.map (Value.int .i64)
 |[],vs,fp,h=>by cases h;rfl
 |x::r,vs,fp,h=>by
  rw[Yo,Y3]at h;change TRs w (T.int .i64 x::(r.map ic).flatten) vs fp at h
  cases h with
  |cons h hs =>
   cases h;rw[Yo,<-Zbm0 hs]
theorem Zyw{w W:World}{r:List Int}{v:Value}{fp:List Nat}(h:TR w (.lst 1 (r.map ic)) v fp)(hW:∀g∈fp,W.heap[g]?=w.heap[g]?):Zin W v r:=by
 have h:=h.frame hW;generalize he:r.map ic=es at h
 cases h with
 |lst0 sz a cap =>
  have:r=[]:=List.map_eq_nil_iff.1 he
  subst this
  exact⟨a,cap,rfl,λj hj=>absurd hj (Nat.not_lt_zero _)⟩
 |@lst sz es g off cap c e fz fp hne hsz hcap hg hlen hc =>
  subst he;have hv:=Zbm0 hc;refine⟨some ⟨g,off,none⟩,cap,by rw[Yba],λj hj=>⟨g,off,rfl,?_⟩⟩;have h1:((c.toList.drop off).take ((r.map ic).length*1))[j]?=some (.int .i64 r[j]):=by
   rw[hv,Ycc,Yc hj];rfl
  rw[Yb7,if_pos (by rw[Yba];omega),List.getElem?_drop]at h1;unfold World.cell?;rw[hg];simpa using h1
end Go.Proofs.YtdioodopdlpinaaGreat
namespace Go.Proofs.YtdioodopdlpinaaGreat
open Go.RowKit Go.AM Go.Lib Go.Sort
def Zbm1:Prop:=∀(α:Type) [Inhabited α] (enc:α->Value) (_:OneCell enc) (cf:α->α->Int) (_:SWO (ltOf cf)) (blk off cap:Nat) (d:Array α) (w:World),CmpLays1 Tryz.prog 228 #[] enc cf blk off d.size w->Holds enc w blk off d->blk<w.heap.size->d.size<4611686018427387904->
 Calls Tryz.prog 230 #[.slice (some ⟨blk,off,none⟩) d.size cap,.func (.func 228) #[] #[]] w λe w'=>e=.returned (.tuple #[])/\∃d' n os,PermIn 0 d.size d d'/\SortedIn (ltOf cf) 0 d.size d'/\w'=sortWorld enc w blk off n d' os
def Zbm2:Prop:=∀(p:Option Addr) (cap:Nat) (w:World),Calls Tryz.prog 230 #[.slice p 0 cap,.func (.func 228) #[] #[]] w λe w'=>e=.returned (.tuple #[])/\w'=w
def El(w:World)(g:Nat):Type:={p:List Int×Value×List Nat // TR w (.lst 1 (p.1.map ic)) p.2.1 p.2.2/\(∀x∈p.2.2,x≠g)/\p.1.length<=4}
instance (w:World) (g:Nat):Inhabited (El w g):=⟨⟨([],.slice none 0 0,[]),.lst0 1 none 0,by simp,by simp⟩⟩
def El.enc{w:World}{g:Nat}(x:El w g):Value:=x.1.2.1
def El.row{w:World}{g:Nat}(x:El w g):List Int:=x.1.1
def El.tri{w:World}{g:Nat}(x:El w g):List (List Int)×Value×List Nat:=([x.1.1],x.1.2.1,x.1.2.2)
def El.t3{w:World}{g:Nat}(x:El w g):List T×List Value×List Nat:=(isc x.row,[x.enc],x.1.2.2)
theorem El.list{w:World}{g:Nat}:∀l:List (List T×List Value×List Nat),(∀p∈l,∃q:El w g,q.t3=p)->∃L:List (El w g),L.map El.t3=l
 |[],_=>⟨[],rfl⟩
 |p::l,h=>by
  obtain⟨q,hq⟩:=h p (by simp);obtain⟨L,hL⟩:=El.list l λp hp=>h p (by simp[hp])
  exact⟨q::L,by simp[hq,hL]⟩
def cfE{w:World}{g:Nat}(x y:El w g):Int:=cmpR x.row y.row
theorem swoE{w:World}{g:Nat}:SWO (ltOf (cfE (w:=w) (g:=g))) where
 irrefl x:=by unfold ltOf cfE;rw[Zj0];rfl
 trans x y z h1 h2:=by
  unfold ltOf cfE at *
  simp only[decide_eq_true_eq]at *
  have h3:=Zpw _ _ _ (Int.le_of_lt h1) (Int.le_of_lt h2);have h4:=Ze7 x.row z.row;have h5:=Ze7 y.row z.row;rcases Ydo h3 with h|h
  .exact h
  .have:=Zga _ _ h;rw[this]at h1;omega
 ntrans x y z h1 h2:=by
  unfold ltOf cfE at *
  simp only[decide_eq_false_iff_not]at *
  have h3:=Ze7 x.row y.row;have h4:=Ze7 y.row z.row;have h5:=Ze7 x.row z.row;have:=Zpw z.row y.row x.row (by omega) (by omega);omega
theorem Zyx{α:Type}[Inhabited α](enc:α->Value)(w:World)(c off n:Nat)(d:Array α)(os:Array Obj){k:Nat}(hk:k<w.heap.size)(cc:k≠c):(sortWorld enc w c off n d os).heap[k]?=w.heap[k]?:=by
 show((w.heap.modify c (onCells (putCells enc off d)))++os)[k]?=_;rw[Ydu (by simpa using hk),Yda,if_neg (Ne.symm cc)]
theorem Zbm3{α:Type}[Inhabited α](enc:α->Value)(w:World)(cc off n:Nat)(d:Array α)(os:Array Obj){c:Array Value}{e:TypeId}{fz:Nat×Nat}(hg:w.heap[cc]?=some (.cells c e fz)):(sortWorld enc w cc off n d os).heap[cc]?=some (.cells (putCells enc off d c) e fz):=by
 have hk:cc<w.heap.size:=(Ybx.1 hg).1;show((w.heap.modify cc (onCells (putCells enc off d)))++os)[cc]?=_;rw[Ydu (by simpa using hk),Yda,if_pos rfl,hg];rfl
theorem cmp_lays(w:World)(g size:Nat):CmpLays1 Tryz.prog 228 #[] (El.enc (w:=w) (g:=g)) cfE g 0 size w:=by
 intro m os dk hs x y;have hx:=Zyw (W:=sortWorld El.enc w g 0 m dk os) x.2.1 λk hk=>Zyx _ _ _ _ _ _ _ (x.2.1.lt k hk) (x.2.2.1 k hk)
 have hy:=Zyw (W:=sortWorld El.enc w g 0 m dk os) y.2.1 λk hk=>Zyx _ _ _ _ _ _ _ (y.2.1.lt k hk) (y.2.2.1 k hk)
 have h4:=x.2.2.2;have h5:=y.2.2.2;refine(Zb8y x.enc y.enc x.row y.row _ hx hy (by unfold El.row;omega) (by unfold El.row;omega)).mono ?_;rintro e w' ⟨rfl,rfl⟩;exact⟨rfl,0,#[],by simp[grow,World.drewN]⟩
end Go.Proofs.YtdioodopdlpinaaGreat
namespace Go.Proofs.YtdioodopdlpinaaGreat
open Go.RowKit Go.AM Go.Lib Go.Sort
theorem el_of{w:World}{g:Nat}{r:List Int}{z:List Value}{f:List Nat}(h:TRs w (isc r) z f)(hf:∀x∈f,x≠g)(hr:r.length<=4):∃q:El w g,q.t3=(isc r,z,f):=by
 unfold isc at h
 cases h with
 |@cons t v fp ts vs fq h hs =>
  cases hs;rw[Ybm]at hf|-;exact⟨⟨(r,v,fp),h,hf,hr⟩,rfl⟩
theorem Z79{a b:List Int}(h:isc a=isc b):a=b:=by
 unfold isc at h;simp only[Yc2,T.lst.injEq,true_and,and_true]at h;exact(Ydb (f:=ic) (by intro x y hxy;simpa[ic]using hxy)).1 h
theorem Zyy{α:Type}[Inhabited α](enc:α->Value)(d:Array α)(c:Array Value)(h:d.size<=c.size):(putCells enc 0 d c).toList=d.toList.map enc++c.toList.drop d.size:=by
 refine Ycv (by simp[putCells];omega) λi h1 h2=>?_
 have hi:i<c.size:=by simpa[putCells]using h1
 simp only[putCells,Array.getElem_toList,Array.getElem_mapIdx];by_cases e:i<d.size
 .rw[if_pos (by omega),List.getElem_append_left (by simpa using e)];simp[e]
 .rw[if_neg (by omega),List.getElem_append_right (by simp;omega)];simp;congr 1;omega
theorem Zyz{w:World}{g:Nat}:∀L:List (El w g),((L.map El.t3).map (·.2.1)).flatten=L.map El.enc
 |[]=>rfl
 |x::L=>by
  have ih:=Zyz L;simp only[Yo,Y3]at ih|-;rw[ih];rfl
theorem Zbm4{w:World}{g:Nat}(L:List (El w g)):(L.map El.t3).map (·.1)=(L.map El.row).map isc:=by simp[El.t3]
theorem Zb8z(K:Zbm1)(K0:Zbm2){fr:Bool}{rows:List (List Int)}(cd:rows.length<=4096)(cc:∀r∈rows,r.length<=4) :
  Zb7 Tryz.prog 230 [.own 0,.fn 228 []] [.arr 90 1 fr (rows.map isc)] (.tup []) [.arr 90 1 fr ((srtR rows).map isc)]:=by
 refine⟨by decide +kernel,?_⟩;intro N base w ρ vs R hdom hv hz;obtain⟨l⟩:=vs;simp only at hv
 cases hv with|cons q0 hv =>
 cases hv with|cons q1 hv =>
 cases hv
 cases q0 with|own hr h1 =>
 rename_i r
 cases q1 with|fn q1 =>
 rename_i c;obtain⟨c⟩:=c;simp only at q1;cases q1;have hb:gt [Blk.arr 90 1 fr (rows.map isc)] 0=.arr 90 1 fr (rows.map isc):=by simp[gt]
 have hd0:gt [Blk.arr 90 1 fr (rows.map isc)] 0≠.dead:=by rw[hb];intro hc;cases hc
 obtain⟨r2,e1,e2⟩:=R.blk 0 hd0;rw[hr]at e1;cases e1;rw[hb]at e2;obtain⟨hex,e',xs,hel,ho,hsz,hlen1,htr,hfree,hfr,how⟩:=e2;obtain⟨hxl,ho⟩:=ho;rcases ho with⟨hrv,hn⟩|⟨g,cap,cur,hrv,hbg,hg,hcap,hcm,hcur,htake⟩
 .have hn:rows=[]:=by simpa using hn
  subst hn;rw[hrv];refine(K0 none 0 w).mono ?_;rintro e w' ⟨rfl,rfl⟩;exact⟨_,ρ,rfl,Below.refl _ _,by simpa[srtR]using R,.tup .nil,hdom,by simp,λ_ _ _=>rfl,λg hg hzz=>⟨by simpa[srtR]using hz g hzz,rfl⟩,λb r0 _ h=>⟨r0,h,rfl⟩⟩
 obtain⟨zs,hzx,hch⟩:=Ch.of htr;obtain⟨l,p1,p2,p3,p4⟩:=hch.zip;have hblk:Zbq r.v=some g:=by rw[hrv];rfl
 have hfg:∀x∈r.fp,x≠g:=λx hx e=>by
  subst e;exact(hfree x hx).2 0 r hr hd0 (.inl hblk)
 have hgs:g<w.heap.size:=(Ybx.1 hg).1
 obtain⟨L,hL⟩:=El.list (w:=w) (g:=g) l (by
  intro p hp;have hm:p.1∈rows.map isc:=by rw[<-p1];exact Ys.2 ⟨p,hp,rfl⟩
  obtain⟨r0,hr0,e0⟩:=Ys.1 hm;have ht:=p4 p hp;rw[<-e0]at ht;obtain⟨q,hq⟩:=el_of (g:=g) ht (λx hx=>hfg x (by rw[<-p3];exact Ycl.2 ⟨p.2.2,Ys.2 ⟨p,hp,rfl⟩,hx⟩)) (cc r0 hr0)
  exact⟨q,by rw[hq,e0]⟩)
 subst hL;have hrows:L.map El.row=rows:=by
  have:(L.map El.row).map isc=rows.map isc:=by rw[<-p1];simp[El.t3]
  exact(Ydb (λa b h=>Z79 h)).1 this
 have hLl:L.length=rows.length:=by rw[<-hrows,Yba]
 have henc:L.map El.enc=cur.toList.take ((rows.map isc).length*1):=by
  rw[htake,<-hzx,<-p2];simp[El.t3];clear p1 p2 p3 p4 hrows hLl
  induction L with
  |nil=>rfl
  |cons x L ih=>simp[ih];rfl
 have hcell:Holds El.enc w g 0 L.toArray:=by
  intro j hj;have hj':j<L.length:=by simpa using hj
  have h2:cur[j]?=some (L[j].enc):=by
   have h3:(cur.toList.take ((rows.map isc).length*1))[j]?=some (L[j].enc):=by rw[<-henc,Ycc,Yc hj'];rfl
   rw[Yb7,if_pos (by simp;omega)]at h3;simpa using h3
  refine⟨?_,?_⟩
  .unfold World.cell?;rw[hg];simp[h2,hj']
  .simp[World.frozen?,hg]
 have hcall:=K (El w g) El.enc (λx=>x.2.1.one) cfE swoE g 0 cap L.toArray w (cmp_lays w g _) hcell hgs (by simp;omega);rw[hrv,show(rows.map isc).length=L.toArray.size by simp[hLl]];refine hcall.mono ?_;rintro e w' ⟨rfl,d',n,os,hP,hS,rfl⟩;have hds:d'.size=L.length:=by have:=hP.1;simpa using this
 have hperm:d'.toList.Perm L:=by
  have:=hP.2.2;rw[show L.toArray.size=d'.size from hP.1.symm,Array.extract_size]at this;rw[hP.1,Array.extract_size]at this;simpa using this
 have hgr:w.grownBy (sortWorld El.enc w g 0 n d' os) (some g):=⟨rfl,rfl,rfl,by show w.heap.size<=((w.heap.modify g _)++os).size;simp,λk hk hne=>Zyx _ _ _ _ _ _ _ hk (by intro e;exact hne (by rw[e]))⟩;have hpl:(d'.toList.map El.t3).Perm (L.map El.t3):=hperm.map _
 obtain⟨P1,P2,P3⟩:=Zbmy R hr (by intro b hb;exact hdom b (by simpa using hb)) hrv hg p1 (by rw[p2,hzx,htake]) p3 p4 hpl ⟨_,Zbm3 _ _ _ _ _ _ _ hg,by
  rw[Zyy _ _ _ (by simp at hcap;omega),Zyz,hds,hLl];simp⟩ hgr
 have hsd:(d'.toList.map El.row)=srtR rows:=by
  refine Zb8v (by rw[<-hrows];exact hperm.map _) ?_;rw[List.pairwise_map,Yci];intro i j hi hj hij;have h:=hS i j (Ya _) hij (by simp at hj|-;omega);rw[getElem!_pos d' j (by simpa using hj),getElem!_pos d' i (by simpa using hi)]at h;unfold ltOf cfE at h;unfold leR;simp only[decide_eq_false_iff_not,decide_eq_true_eq,Array.getElem_toList]at h|-;have:=Ze7 d'[i].row d'[j].row;omega
 rw[Zbm4,hsd]at P1 P2;refine⟨_,_,rfl,⟨hgr.os,hgr.tape,hgr.output,hgr.size,λk hk=>hgr.block k (Ycd hk R.hb) (by intro e;cases e;omega)⟩,P1,.tup .nil,λb hb=>?_,by simp,P3,λk hk hzz=>P2.free k hk (hz k hzz),λb r0 hb h0=>P2.root b r0 h0⟩;simp only[updM];rw[if_neg (by simp at hb;omega)];exact hdom b (by simpa using hb)
theorem Zb80{a b:List (List Int)}(h:a.map isc=b.map isc):a=b:=(Ydb (λ_ _ h=>Z79 h)).1 h
theorem ic_inj{a b:List Int}(h:a.map ic=b.map ic):a=b:=(Ydb (f:=ic) (by intro x y hxy;simpa[ic]using hxy)).1 h
theorem Zbm5{rows:List (List Int)}(h1:rows.length<=4096)(h2:∀r∈rows,r.length<=4)(k:List (List Int)->AV×List Blk):extS (rows.map isc) k=some (k rows):=by
 have h:∃r,Zbcc (rows.map isc) r:=⟨rows,rfl,h1,h2⟩;unfold extS;rw[dif_pos h,Zb80 h.choose_spec.1.symm]
theorem Zbm6{l:List Int}(h1:l.length<=4096)(k:List Int->AV×List Blk):extI (l.map ic) k=some (k l):=by
 have h:∃r,Zbcd (l.map ic) r:=⟨l,rfl,h1⟩;unfold extI;rw[dif_pos h,ic_inj h.choose_spec.1.symm]
theorem t230:tbl 230=none:=by kernel_rfl
theorem t231:tbl 231=none:=by kernel_rfl
theorem t199:tbl 199=none:=by kernel_rfl
theorem t200:tbl 200=none:=by kernel_rfl
theorem c_sort{fr:Bool}{rows:List (List Int)}(h1:rows.length<=4096)(h2:∀r∈rows,r.length<=4):C 230 [.own 0,.fn 228 []] [.arr 90 1 fr (rows.map isc)]=some (.tup [],[.arr 90 1 fr ((srtR rows).map isc)]) :=
 Zvr t230 (by simp only[ext,if_pos];exact Zbm5 h1 h2 _)
theorem c_cpt{fr:Bool}{rows:List (List Int)}(h1:rows.length<=4096)(h2:∀r∈rows,r.length<=4):C 231 [.own 0,.fn 232 []] [.arr 90 1 fr (rows.map isc)]=some (.own 1,[.dead,.arr 90 1 fr ((cptR rows).map isc)]) :=
 Zvr t231 (by simp only[ext,if_pos];exact Zbm5 h1 h2 _)
theorem c_sortI{fr:Bool}{l:List Int}(h1:l.length<=4096):C 199 [.own 0] [.arr 3 1 fr (l.map ic)]=some (.tup [],[.arr 3 1 fr ((srtI l).map ic)]) :=
 Zvr t199 (by simp only[ext,if_pos];exact Zbm6 h1 _)
theorem c_cptI{fr:Bool}{l:List Int}(h1:l.length<=4096):C 200 [.own 0] [.arr 3 1 fr (l.map ic)]=some (.own 1,[.dead,.arr 3 1 fr ((cptI l).map ic)]) :=
 Zvr t200 (by unfold ext;simp only[show ¬(200:Nat)=199 by decide,if_false,if_true];exact Zbm6 h1 _)
theorem gD{xs:List Int}{i:Nat}(h:i<xs.length):xs[i]?=some (xs.getD i 0):=by
 rw[Ydv,Yc h];rfl
def selC(row cc:List Int):List Int:=cc.map λc=>row.getD c.toNat 0
theorem l_Sel(row cc:List Int)(h4:cc.length<=1000)(hr:Le row)(hc:∀c∈cc,0<=c/\c<row.length):∀i,i<=cc.length->Zq2 (selC row (cc.take i)) row cc cc.length i=some (.tup [.own 0,Bo true],[.arr 3 1 true ((selC row cc).map ic)]):=by
 refine down _ ?_ ?_
 .refine Zbis ?_;rw[if_neg (by omega),Y2]
 .intro i hi ih;obtain⟨h0,h1⟩:=hc _ (Yd hi);refine Zbis ?_;rw[if_pos (by omega),wS hi (by omega)];refine⟨by omega,_,gE hi,_,Zca _ _ _,?_⟩;rw[show w ((row.length:Int)-1)=(row.length:Int)-1 from Z2 (by omega) (by omega)];rw[show inR cc[i] 0 ((row.length:Int)-1)=true by simp[inR];omega,if_pos rfl];refine⟨h0,_,gD (by omega),by simp[selC];omega,?_⟩;rw[show selC row (cc.take (i+1))=selC row (cc.take i)++[row.getD cc[i].toNat 0] by unfold selC;rw[Yy hi,Ybb];rfl]at ih;exact ih
theorem Zb81(row cc:List Int)(h4:cc.length<=1000)(hr:Le row)(hc:∀c∈cc,0<=c/\c<row.length):Zeo row cc=some (.tup [.own 0,Bo true],[.arr 3 1 true ((selC row cc).map ic)]) :=
 Zb2b (by simpa[selC]using l_Sel row cc h4 hr hc 0 (Ya _))
def ansR(rows:List (List Int)):List (List Int):=cptR (srtR rows)
abbrev AscR(l:List (List Int)):Prop:=l.Pairwise λa b=>cmpR a b<0
theorem Zbm7:∀{a b:List (List Int)},AscR a->AscR b->(∀x,x∈a↔x∈b)->a=b
 |[],[],_,_,_=>rfl
 |[],y::b,_,_,h=>by have:=(h y).2 (by simp);cases this
 |x::a,[],_,_,h=>by have:=(h x).1 (by simp);cases this
 |x::a,y::b,ha,hb,h=>by
  have ha':=Ybw.1 ha;have hb':=Ybw.1 hb;have e:x=y:=by
   have h1:=(h x).1 (by simp);have h2:=(h y).2 (by simp);rcases Yz.1 h1 with e|e
   .exact e
   .rcases Yz.1 h2 with e2|e2
    .exact e2.symm
    .have h3:=hb'.1 x e;have h4:=ha'.1 y e2;have:=Ze7 x y;omega
  subst e;rw[Zbm7 ha'.2 hb'.2 λz=>?_];constructor
  .intro hz;have:=(h z).1 (by simp[hz]);rcases Yz.1 this with e|e
   .subst e;have:=ha'.1 _ hz;rw[Zj0]at this;omega
   .exact e
  .intro hz;have:=(h z).2 (by simp[hz]);rcases Yz.1 this with e|e
   .subst e;have:=hb'.1 _ hz;rw[Zj0]at this;omega
   .exact e
theorem Zbm8:∀{l:List (List Int)},(l.Pairwise λa b=>leR a b=true)->AscR (cptR l)
 |[],_=>by simp[cptR]
 |[a],_=>by simp[cptR]
 |a::b::l,h=>by
  have h1:=Ybw.1 h;have ih:=Zbm8 h1.2;unfold cptR;split
  .exact ih
  .rename_i e;refine Ybw.2 ⟨λx hx=>?_,ih⟩;rw[Z78]at hx;have hab:cmpR a b<0:=by
    have h3:=h1.1 b (by simp);unfold leR at h3;simp only[decide_eq_true_eq]at h3;rcases Ydo h3 with h4|h4
    .exact h4
    .exact absurd (Zga _ _ h4) e
   rcases Yz.1 hx with rfl|hx
   .exact hab
   .have h2:=(Ybw.1 h1.2).1 x hx;unfold leR at h2;simp only[decide_eq_true_eq]at h2;have h5:=Zpw a b x (by omega) h2;rcases Ydo h5 with h4|h4
    .exact h4
    .have:=Zga _ _ h4;subst this;have:=Ze7 a b;omega
theorem ansR_asc(rows:List (List Int)):AscR (ansR rows):=Zbm8 (Zbmv rows)
theorem Zbm9(rows:List (List Int))(x:List Int):x∈ansR rows↔x∈rows:=by unfold ansR;rw[Z78,(Zul rows).mem_iff]
theorem ansR_len(rows:List (List Int)):(ansR rows).length<=rows.length:=by unfold ansR;rw[<-(Zul rows).length_eq];exact Zbmw _
theorem Zb82{rows:List (List Int)}(h1:rows.length<=4096)(h2:∀r∈rows,r.length<=4):Zq4 rows=some (.own 0,[.arr 90 1 true ((ansR rows).map isc)]):=by
 have hl:=(Zul rows).length_eq;refine Zb2e ⟨_,Zbmr rows h2 (by omega),srtR rows,?_,ansR rows,?_,rfl⟩
 .unfold Z2a;exact c_sort h1 h2
 .unfold Z2b;exact c_cpt (by omega) λr hr=>h2 r ((Zul rows).mem_iff.1 hr)
def putR:List (List Int)->List Int->Bool->List (List Int)
 |[],row,put=>if put=true then[]else[row]
 |e::es,row,put=>if cmpR e row=0 then e::putR es row true else if 0<cmpR e row then(if put=true then e::putR es row true else row::e::putR es row true)else e::putR es row put
theorem Zy0:∀(es:List (List Int)) (row:List Int),putR es row true=es
 |[],_=>rfl
 |e::es,row=>by
  unfold putR;rw[Zy0 es row];simp
theorem Zy1:∀(es:List (List Int)) (row x:List Int),x∈putR es row false↔x∈es\/x=row
 |[],row,x=>by simp[putR]
 |e::es,row,x=>by
  have ih:=Zy1 es row x;unfold putR;rw[Zy0];by_cases h1:cmpR e row=0
  .rw[if_pos h1];have:=Zga _ _ h1;subst this;simp;exact λh=>.inl h
  .rw[if_neg h1];by_cases h2:0<cmpR e row
   .rw[if_pos h2,if_neg (by decide)];simp only[Yz];constructor
    .rintro(h|h|h)
     .exact .inr h
     .exact .inl (.inl h)
     .exact .inl (.inr h)
    .rintro((h|h)|h)
     .exact .inr (.inl h)
     .exact .inr (.inr h)
     .exact .inl h
   .rw[if_neg h2,Yz,ih,Yz,or_assoc]
theorem Zbna:∀{es:List (List Int)} (row:List Int),AscR es->AscR (putR es row false)
 |[],row,_=>by simp[putR]
 |e::es,row,h=>by
  have h':=Ybw.1 h;unfold putR;rw[Zy0];by_cases h1:cmpR e row=0
  .rw[if_pos h1];exact h
  .rw[if_neg h1];by_cases h2:0<cmpR e row
   .rw[if_pos h2,if_neg (by decide)];have h3:cmpR row e<0:=by have:=Ze7 e row;omega
    refine Ybw.2 ⟨λx hx=>?_,h⟩;rcases Yz.1 hx with rfl|hx
    .exact h3
    .have h4:=h'.1 x hx;have h5:=Zpw row e x (by omega) (by omega);rcases Ydo h5 with h6|h6
     .exact h6
     .have:=Zga _ _ h6;subst this;have:=Ze7 e row;omega
   .rw[if_neg h2];refine Ybw.2 ⟨λx hx=>?_,Zbna row h'.2⟩;rw[Zy1]at hx;rcases hx with hx|rfl
    .exact h'.1 x hx
    .omega
theorem Zbnb:∀(es:List (List Int)) (row:List Int) (c:Bool),(putR es row c).length<=es.length+1
 |[],row,c=>by unfold putR;split<;>simp
 |e::es,row,c=>by
  unfold putR;rw[Zy0];have:=Zbnb es row c;split
  .simp
  .split
   .split<;>simp
   .simp only[Yw];omega
theorem l_put{rows:List (List Int)}{row:List Int}(hl:rows.length<=5000)(h4:∀r∈rows,r.length<=4)(hr:row.length<=4):∀i,i<=rows.length->∀(out:List (List Int)) (c:Bool),out.length+2*(rows.length-i)<=20000->Zib out rows row c i=some (.own 0,[.arr 90 1 true ((out++putR (rows.drop i) row c).map isc)]):=by
 refine down _ ?_ ?_
 .intro out c ho;refine Zbkp ?_;rw[if_neg (by omega),Yk];rcases tf c with e|e
  .subst e;rw[if_neg (by decide)];exact⟨by omega,by omega,rfl⟩
  .subst e;rw[if_pos rfl];simp[putR]
 .intro i hi ih out c ho;have he:=h4 _ (Yd hi);refine Zbkp ?_;rw[if_pos (by omega),wS hi (by omega),Yf hi];refine⟨by omega,_,gE hi,_,Zl1 _ _ (by omega) (by omega),?_⟩;unfold putR;by_cases h1:cmpR rows[i] row=0
  .rw[if_pos h1,if_pos h1,if_neg (by omega)];refine⟨by omega,by omega,?_⟩;rw[ih _ _ (by simp;omega)];simp
  .rw[if_neg h1,if_neg h1];by_cases h2:0<cmpR rows[i] row
   .rw[if_pos h2,if_pos h2];rcases tf c with e|e
    .subst e;rw[if_neg (by decide),if_neg (by decide)];refine⟨by omega,by omega,by omega,by omega,?_⟩;rw[ih _ _ (by simp;omega)];simp
    .subst e;rw[if_pos rfl,if_pos rfl];refine⟨by omega,by omega,?_⟩;rw[ih _ _ (by simp;omega)];simp
   .rw[if_neg h2,if_neg h2];refine⟨by omega,by omega,?_⟩;rw[ih _ _ (by simp;omega)];simp
theorem x_put1{rows:List (List Int)}{row:List Int}(hl:rows.length<=5000)(h4:∀r∈rows,r.length<=4)(hr:row.length<=4):Zxd rows row=some (.own 0,[.arr 90 1 true ((putR rows row false).map isc)]) :=
 Zb46 (by simpa using l_put hl h4 hr 0 (Ya _) [] false (by simp;omega))
def Zl3(c rows:List (List Int)):List (List Int):=rows.foldl (λl r=>putR l r false) c
theorem Zbnc:∀(rows c:List (List Int)) (x:List Int),x∈Zl3 c rows↔x∈c\/x∈rows
 |[],c,x=>by simp[Zl3]
 |r::rows,c,x=>by
  show x∈Zl3 (putR c r false) rows↔_;rw[Zbnc rows,Zy1,Yz,or_assoc]
theorem Zbnd:∀{rows c:List (List Int)},AscR c->AscR (Zl3 c rows)
 |[],c,h=>h
 |r::rows,c,h=>Zbnd (rows:=rows) (Zbna r h)
theorem Zb83(rows:List (List Int)):Zl3 [] rows=ansR rows :=
 Zbm7 (Zbnd .nil) (ansR_asc rows) λx=>by rw[Zbnc,Zbm9];simp
def selT(rows:List (List Int))(c:List Int):List (List Int):=rows.map λr=>selC r c
def cnt(all:List (List Int))(g:List Int):Int:=((all.filter λx=>decide (x=g)).length:Int)
def subs(n:Int):List (List Int):=if n=1 then[[0]]else if n=2 then[[0],[1],[0,1]]else[[0],[1],[0,1],[2],[0,2],[1,2],[0,1,2]]
def grpV(rows:List (List Int))(c:List Int):List (List Int):=ansR (selT rows c)
def grpN(rows:List (List Int))(c:List Int):List Int:=(grpV rows c).map (cnt (selT rows c))
def grp(rows:List (List Int))(c:List Int):Zo:=⟨c,grpV rows c,grpN rows c⟩
def Zcp(t:Zh):Zk:=⟨t.Name,t.Arity,t.Rows.length,(subs t.Arity).map (grp t.Rows)⟩
theorem subs_col{n:Int}(h:inR n 1 3=true):∀c∈subs n,c.length<=3/\(∀x∈c,0<=x/\x<n)/\c.Pairwise (·<·):=by
 have h':1<=n/\n<=3:=by simpa[inR]using h
 have:n=1\/n=2\/n=3:=by omega
 rcases this with rfl|rfl|rfl<;>decide
theorem Zy2(rows:List (List Int))(c:List Int):(selT rows c).length=rows.length:=by simp[selT]
theorem Zbne(rows:List (List Int))(c:List Int):(grpV rows c).length<=rows.length:=by
 have:=ansR_len (selT rows c);rw[Zy2]at this;exact this
theorem Zbnf{rows:List (List Int)}{c x:List Int}(h:x∈selT rows c):x.length=c.length:=by
 obtain⟨r,_,rfl⟩:=Ys.1 h;simp[selC]
theorem Zbng{rows:List (List Int)}{c x:List Int}(h:x∈grpV rows c):x.length=c.length:=Zbnf ((Zbm9 _ _).1 h)
theorem Zbnh(all:List (List Int))(g:List Int):0<=cnt all g:=by unfold cnt;omega
theorem cnt_le(all:List (List Int))(g:List Int):cnt all g<=all.length:=by
 unfold cnt;have:=Ybv (λx=>decide (x=g)) all;omega
def ltI(a b:Int):Bool:=decide (a<b)
def ascN(n:Int):Option Int->List Int->Bool
 |_,[]=>true
 |p,v::vs=>inR v 0 (n-1) && nxt ltI p v && ascN n (some v) vs
def Zed(n:Int)(vs:List Int):Bool:=ascN n none vs
theorem Zbni{n:Int}:∀{vs:List Int} {p:Option Int},ascN n p vs=true->∀c∈vs,0<=c/\c<n
 |[],_,_,c,hc=>by cases hc
 |v::vs,p,h,c,hc=>by
  simp only[ascN,Ye]at h;have h1:0<=v/\v<=n-1:=by simpa[inR]using h.1.1
  rcases Yz.1 hc with rfl|hc
  .omega
  .exact Zbni h.2 c hc
theorem Zbnj{n:Int}:∀{vs:List Int} {q:Int},ascN n (some q) vs=true->-1<=q->q<n->(vs.length:Int)<=n-1-q
 |[],q,_,h1,h2=>by simp;omega
 |v::vs,q,h,h1,h2=>by
  simp only[ascN,Ye]at h;have h3:0<=v/\v<=n-1:=by simpa[inR]using h.1.1
  have h4:q<v:=by simpa[nxt,ltI]using h.1.2
  have:=Zbnj h.2 (by omega) (by omega);simp only[Yw];omega
theorem Zb84{n:Int}{vs:List Int}(h:Zed n vs=true)(hn:0<=n):(vs.length:Int)<=n:=by
 cases vs with
 |nil=>simp;omega
 |cons v vs =>
  simp only[Zed,ascN,Ye]at h;have h3:0<=v/\v<=n-1:=by simpa[inR]using h.1.1
  have:=Zbnj h.2 (by omega) (by omega);simp only[Yw];omega
theorem Zy3{n:Int}(h:inR n 1 3=true):∀c∈subs n,Zed n c=true:=by
 have h':1<=n/\n<=3:=by simpa[inR]using h
 have:n=1\/n=2\/n=3:=by omega
 rcases this with rfl|rfl|rfl<;>decide
theorem w1{n:Int}(h:1<=n/\n<=3):w (n-1)=n-1:=Z2 (by omega) (by omega)
theorem Zb85(n:Int)(hn:1<=n/\n<=3)(vs:List Int)(hl:Le vs):∀i,i<=vs.length->Znb vs n vs vs.length i=some (Bo (ascN n (pvA vs i) (vs.drop i)),[]):=by
 refine down _ ?_ ?_
 .refine Zbir ?_;rw[if_neg (by omega),Yk];rfl
 .intro i hi ih;refine Zbir ?_;rw[if_pos (by omega),Yf hi,ascN,wS hi (by omega),w1 hn];refine⟨by omega,_,gE hi,_,Zca _ _ _,?_⟩;rw[show pvA vs (i+1)=some vs[i]from Yc hi]at ih;rcases tf (inR vs[i] 0 (n-1))with e|e
  .rw[e];simp
  .rw[e,if_pos rfl,ih];by_cases h0:(0:Int)<(i:Int)
   .rw[if_pos h0,wP (by omega) hi (by omega),Zl2 (by omega) (by omega)];refine⟨by omega,_,gE (by omega),?_⟩;by_cases h2:vs[i]<=vs[i-1]
    .rw[if_pos h2];simp[nxt,ltI];omega
    .rw[if_neg h2];simp[nxt,ltI,show vs[i-1]<vs[i] by omega]
   .obtain rfl:i=0:=by omega
    rw[if_neg h0];simp[nxt,pvA]
theorem Zbnk(n:Int)(hn:1<=n/\n<=3)(vs:List Int)(hl:Le vs):Zna vs n=some (Bo (Zed n vs),[]) :=
 Zb2a (by simpa[Zed,pvA]using Zb85 n hn vs hl 0 (Ya _))
theorem Zb86(t:Zh)(h:LeT t)(hn:1<=t.Arity/\t.Arity<=3)(vs:List Int)(hl:Le vs):∀i,i<=vs.length->Zob t vs i=some (Bo (ascN t.Arity (pvA vs i) (vs.drop i) && Zb2 t),[]):=by
 refine down _ ?_ ?_
 .refine Zbkn ?_;rw[if_neg (by omega),Yk];exact⟨_,Z77 t h,by simp[ascN]⟩
 .intro i hi ih;refine Zbkn ?_;rw[if_pos (by omega),Yf hi,ascN,wS hi (by omega),w1 hn];refine⟨by omega,_,gE hi,_,Zbu _ _ _,?_⟩;rw[show pvA vs (i+1)=some vs[i]from Yc hi]at ih;rcases tf (inR vs[i] 0 (t.Arity-1))with e|e
  .rw[e];simp
  .rw[e,if_pos rfl,ih];by_cases h0:(0:Int)<(i:Int)
   .rw[if_pos h0,wP (by omega) hi (by omega),Zl2 (by omega) (by omega)];refine⟨by omega,_,gE (by omega),?_⟩;by_cases h2:vs[i]<=vs[i-1]
    .rw[if_pos h2];simp[nxt,ltI];omega
    .rw[if_neg h2];simp[nxt,ltI,show vs[i-1]<vs[i] by omega]
   .obtain rfl:i=0:=by omega
    rw[if_neg h0];simp[nxt,pvA]
theorem Zbnl(t:Zh)(h:LeT t)(hn:1<=t.Arity/\t.Arity<=3)(vs:List Int)(hl:Le vs):Zoa t vs=some (Bo (Zed t.Arity vs && Zb2 t),[]) :=
 Zb44 (by simpa[Zed,pvA]using Zb86 t h hn vs hl 0 (Ya _))
theorem Zb87{n:Int}(h:inR n 1 3=true):Zm9 n=some (.own 0,[.arr 90 1 true ((subs n).map isc)]):=by
 have h':1<=n/\n<=3:=by simpa[inR]using h
 have w01:w (0+1)=1:=by decide
 have w12:w (1+1)=2:=by decide
 have w23:w (2+1)=3:=by decide
 have w34:w (3+1)=4:=by decide
 have b1:Zgr 1=some (.own 0,[.arr 3 1 true (([0]:List Int).map ic)]):=by
  refine Zlv ?_
  repeat (refine Zlu ?_;simp +decide[-List.map_cons,w01,w12,w23,w34])
 have b2:Zgr 2=some (.own 0,[.arr 3 1 true (([1]:List Int).map ic)]):=by
  refine Zlv ?_
  repeat (refine Zlu ?_;simp +decide[-List.map_cons,w01,w12,w23,w34])
 have b3:Zgr 3=some (.own 0,[.arr 3 1 true (([0,1]:List Int).map ic)]):=by
  refine Zlv ?_
  repeat (refine Zlu ?_;simp +decide[-List.map_cons,w01,w12,w23,w34])
 have b4:Zgr 4=some (.own 0,[.arr 3 1 true (([2]:List Int).map ic)]):=by
  refine Zlv ?_
  repeat (refine Zlu ?_;simp +decide[-List.map_cons,w01,w12,w23,w34])
 have b5:Zgr 5=some (.own 0,[.arr 3 1 true (([0,2]:List Int).map ic)]):=by
  refine Zlv ?_
  repeat (refine Zlu ?_;simp +decide[-List.map_cons,w01,w12,w23,w34])
 have b6:Zgr 6=some (.own 0,[.arr 3 1 true (([1,2]:List Int).map ic)]):=by
  refine Zlv ?_
  repeat (refine Zlu ?_;simp +decide[-List.map_cons,w01,w12,w23,w34])
 have b7:Zgr 7=some (.own 0,[.arr 3 1 true (([0,1,2]:List Int).map ic)]):=by
  refine Zlv ?_
  repeat (refine Zlu ?_;simp +decide[-List.map_cons,w01,w12,w23,w34])
 refine Zb19 ⟨_,Zca _ _ _,?_⟩;rw[h,if_pos rfl];have step:∀(out:List (List Int)) (s:Int) (v:List Int) (r:AV×List Blk),s<shlI 1 n->Zgr s=some (.own 0,[.arr 3 1 true (v.map ic)])->out.length+1<=68719476736->Zjc (out++[v]) n (w (s+1))=some r->Zjc out n s=some r:=by
  intro out s v r h1 h2 h3 h4;refine Zbiq ⟨by omega,?_⟩;rw[if_pos h1];exact⟨_,h2,h3,h4⟩
 have fin:∀(out:List (List Int)) (s:Int),¬s<shlI 1 n->Zjc out n s=some (.own 0,[.arr 90 1 true (out.map isc)]):=by
  intro out s h1;refine Zbiq ⟨by omega,?_⟩;rw[if_neg h1]
 have:n=1\/n=2\/n=3:=by omega
 rcases this with rfl|rfl|rfl
 .exact step _ 1 _ _ (by decide) b1 (by decide) (fin _ _ (by decide))
 .exact step _ 1 _ _ (by decide) b1 (by decide) (step _ 2 _ _ (by decide) b2 (by decide) (step _ 3 _ _ (by decide) b3 (by decide) (fin _ _ (by decide))))
 .exact step _ 1 _ _ (by decide) b1 (by decide) (step _ 2 _ _ (by decide) b2 (by decide) (step _ 3 _ _ (by decide) b3 (by decide) (step _ 4 _ _ (by decide) b4 (by decide) (step _ 5 _ _ (by decide) b5 (by decide) (step _ 6 _ _ (by decide) b6 (by decide) (step _ 7 _ _ (by decide) b7 (by decide) (fin _ _ (by decide))))))))
theorem Zb88{n:Int}(h:inR n 1 3=true):Zxc n=some (.own 0,[.arr 90 1 true ((subs n).map isc)]):=by
 have h':1<=n/\n<=3:=by simpa[inR]using h
 have w01:w (0+1)=1:=by decide
 have w12:w (1+1)=2:=by decide
 have w23:w (2+1)=3:=by decide
 have b:∀{s:Int} {v:List Int},Zn9 [] s 0=some (.own 0,[.arr 3 1 true (v.map ic)])->Zfl s=some (.own 0,[.arr 3 1 true (v.map ic)]):=λh=>Zb42 h
 have b1:Zfl 1=some (.own 0,[.arr 3 1 true (([0]:List Int).map ic)]):=by
  refine b ?_
  repeat (refine Zlx ?_;simp +decide[-List.map_cons,w01,w12,w23])
 have b2:Zfl 2=some (.own 0,[.arr 3 1 true (([1]:List Int).map ic)]):=by
  refine b ?_
  repeat (refine Zlx ?_;simp +decide[-List.map_cons,w01,w12,w23])
 have b3:Zfl 3=some (.own 0,[.arr 3 1 true (([0,1]:List Int).map ic)]):=by
  refine b ?_
  repeat (refine Zlx ?_;simp +decide[-List.map_cons,w01,w12,w23])
 have b4:Zfl 4=some (.own 0,[.arr 3 1 true (([2]:List Int).map ic)]):=by
  refine b ?_
  repeat (refine Zlx ?_;simp +decide[-List.map_cons,w01,w12,w23])
 have b5:Zfl 5=some (.own 0,[.arr 3 1 true (([0,2]:List Int).map ic)]):=by
  refine b ?_
  repeat (refine Zlx ?_;simp +decide[-List.map_cons,w01,w12,w23])
 have b6:Zfl 6=some (.own 0,[.arr 3 1 true (([1,2]:List Int).map ic)]):=by
  refine b ?_
  repeat (refine Zlx ?_;simp +decide[-List.map_cons,w01,w12,w23])
 have b7:Zfl 7=some (.own 0,[.arr 3 1 true (([0,1,2]:List Int).map ic)]):=by
  refine b ?_
  repeat (refine Zlx ?_;simp +decide[-List.map_cons,w01,w12,w23])
 refine Zb43 ?_;have step:∀(out:List (List Int)) (s:Int) (v:List Int) (r:AV×List Blk),s<shlI 1 n->Zfl s=some (.own 0,[.arr 3 1 true (v.map ic)])->out.length+1<=68719476736->Zlc (out++[v]) n (w (s+1))=some r->Zlc out n s=some r:=by
  intro out s v r h1 h2 h3 h4;refine Zbkm ⟨_,Zbu _ _ _,?_⟩;rw[h,if_pos rfl];refine⟨by omega,?_⟩;rw[if_pos h1];exact⟨_,h2,h3,h4⟩
 have fin:∀(out:List (List Int)) (s:Int),¬s<shlI 1 n->Zlc out n s=some (.own 0,[.arr 90 1 true (out.map isc)]):=by
  intro out s h1;refine Zbkm ⟨_,Zbu _ _ _,?_⟩;rw[h,if_pos rfl];refine⟨by omega,?_⟩;rw[if_neg h1]
 have:n=1\/n=2\/n=3:=by omega
 rcases this with rfl|rfl|rfl
 .exact step _ 1 _ _ (by decide) b1 (by decide) (fin _ _ (by decide))
 .exact step _ 1 _ _ (by decide) b1 (by decide) (step _ 2 _ _ (by decide) b2 (by decide) (step _ 3 _ _ (by decide) b3 (by decide) (fin _ _ (by decide))))
 .exact step _ 1 _ _ (by decide) b1 (by decide) (step _ 2 _ _ (by decide) b2 (by decide) (step _ 3 _ _ (by decide) b3 (by decide) (step _ 4 _ _ (by decide) b4 (by decide) (step _ 5 _ _ (by decide) b5 (by decide) (step _ 6 _ _ (by decide) b6 (by decide) (step _ 7 _ _ (by decide) b7 (by decide) (fin _ _ (by decide))))))))
theorem dropQ{α:Type}[DecidableEq α]{xs ys:List α}{i:Nat}(h1:i<xs.length)(h2:i<ys.length):decide (xs.drop i=ys.drop i)=(decide (xs[i]=ys[i]) && decide (xs.drop (i+1)=ys.drop (i+1))):=by
 have e:(xs.drop i=ys.drop i)=(xs[i]=ys[i]/\xs.drop (i+1)=ys.drop (i+1)):=by
  rw[Yf h1,Yf h2,Yc2]
 rw[decide_eq_decide.2 (iff_of_eq e),Bool.decide_and]
theorem l_slEq(xs ys:List Int)(hl:ys.length=xs.length)(hx:xs.length<=4294967296):∀i,i<=xs.length->Zq5 xs ys xs.length i=some (Bo (decide (xs.drop i=ys.drop i)),[]):=by
 refine down _ ?_ ?_
 .refine Zbiu ?_;rw[if_neg (by omega),Yk,<-hl,Yk];simp
 .intro i hi ih;have hi':i<ys.length:=by omega
  refine Zbiu ?_;rw[if_pos (by omega),wS hi (by omega),dropQ hi hi'];refine⟨by omega,_,gE hi,_,gE hi',?_⟩;by_cases c:xs[i]=ys[i]
  .rw[if_pos c,ih];simp[c]
  .rw[if_neg c];simp[c]
theorem Zum(xs ys:List Int)(hx:xs.length<=4294967296):Zh0 xs ys=some (Bo (decide (xs=ys)),[]):=by
 refine Zb2f ?_;by_cases c:(xs.length:Int)=(ys.length:Int)
 .rw[if_pos c];simpa using l_slEq xs ys (by omega) hx 0 (Ya _)
 .rw[if_neg c]
  have:¬xs=ys:=λhc=>c (by rw[hc])
  simp[this]
structure RowsN (rows:List (List Int)) (n:Nat):Prop where
 len:rows.length<=8
 row:∀r∈rows,r.length=n
 n3:n<=3
structure Zj1 (cols:List Int) (n:Nat):Prop where
 len:cols.length<=3
 mem:∀c∈cols,0<=c/\c<n
theorem Zgz{t:Zh}(h:Zb2 t=true):RowsN t.Rows t.Arity.toNat/\1<=t.Arity/\t.Arity<=3:=by
 have h8:=Zyv h;unfold Zb2 at h;simp only[Ye]at h;have h2:1<=t.Arity/\t.Arity<=3:=by simpa[inR]using h.1.1.2
 refine⟨⟨h8,λr hr=>?_,by omega⟩,h2⟩;have h1:=Yr.1 h.2.1 r hr;unfold rwB at h1;simp only[Ye,decide_eq_true_eq]at h1;omega
theorem Z8a{n:Int}{cc:List Int}(h:Zed n cc=true)(hn:1<=n/\n<=3):Zj1 cc n.toNat:=by
 have h1:=Zb84 h (by omega);exact⟨by omega,λc hc=>by have:=Zbni h c hc;omega⟩
theorem Z8b{row c:List Int}{n:Nat}(hr:row.length=n)(hn:n<=3)(hc:Zj1 c n):Zeo row c=some (.tup [.own 0,Bo true],[.arr 3 1 true ((selC row c).map ic)]) :=
 Zb81 row c (by have:=hc.len;omega) (by omega) (by rw[hr];exact hc.mem)
theorem Zb89(row cc:List Int)(h4:cc.length<=1000)(hr:Le row)(hc:∀c∈cc,0<=c/\c<row.length):∀i,i<=cc.length->Zsp (selC row (cc.take i)) row cc i=some (.tup [.own 0,Bo true],[.arr 3 1 true ((selC row cc).map ic)]):=by
 refine down _ ?_ ?_
 .refine Zbko ?_;rw[if_neg (by omega),Y2]
 .intro i hi ih;obtain⟨h0,h1⟩:=hc _ (Yd hi);refine Zbko ?_;rw[if_pos (by omega),wS hi (by omega)];refine⟨by omega,_,gE hi,_,Zbu _ _ _,?_⟩;rw[show w ((row.length:Int)-1)=(row.length:Int)-1 from Z2 (by omega) (by omega)];rw[show inR cc[i] 0 ((row.length:Int)-1)=true by simp[inR];omega,if_pos rfl];refine⟨h0,_,gD (by omega),by simp[selC];omega,?_⟩;rw[show selC row (cc.take (i+1))=selC row (cc.take i)++[row.getD cc[i].toNat 0] by unfold selC;rw[Yy hi,Ybb];rfl]at ih;exact ih
theorem Zy4{row c:List Int}{n:Nat}(hr:row.length=n)(hn:n<=3)(hc:Zj1 c n):Zjr row c=some (.tup [.own 0,Bo true],[.arr 3 1 true ((selC row c).map ic)]) :=
 Zb45 (by simpa[selC]using Zb89 row c (by have:=hc.len;omega) (by omega) (by rw[hr];exact hc.mem) 0 (Ya _))
theorem Zbnm{all:List (List Int)}{j:Nat}(hj:j<all.length)(g:List Int):cnt (all.take (j+1)) g=cnt (all.take j) g+(if g=all[j]then 1 else 0):=by
 unfold cnt;rw[Yy hj,Yc9];by_cases e:all[j]=g
 .simp[e]
 .simp[e,Ne.symm e]
def mkC(all cc:List (List Int))(k:Nat)(c:Int):List Int:=(cc.take k).map (cnt all)++c::List.replicate (cc.length-k-1) 0
theorem mkC_get{all cc:List (List Int)}{k:Nat}(hk:k<cc.length)(c:Int):(mkC all cc k c)[k]?=some c:=by
 unfold mkC;rw[Yc7 (by simp;omega)];simp[Y7 (Ybq hk)]
theorem mkC_set{all cc:List (List Int)}{k:Nat}(hk:k<cc.length)(c d:Int):(mkC all cc k c).set k d=mkC all cc k d:=by
 unfold mkC;rw[List.set_append_right _ _ (by simp;omega)];simp[Y7 (Ybq hk)]
def gcR(cc:List (List Int))(c:List Int):AV×List Blk:=(.tup [.own 0,.own 1],[.arr 90 1 true (cc.map isc),.arr 3 1 true (c.map ic)])
theorem l_gc1(all c:List (List Int))(r:AV×List Blk)(ha:all.length<=4096)(h4:∀x∈all,x.length<=4){k:Nat}(hk:k<c.length)(cl:c.length<=4096)(cd:c[k].length<=4)
  (cc:Zkp all c (mkC all c k (cnt all c[k])) c.length (w ((k:Int)+1))=some r):∀j,j<=all.length->Zne all c (mkC all c k (cnt (all.take j) c[k])) k c[k] c.length k all.length j=some r:=by
 refine down _ ?_ ?_
 .refine Zbiw ?_;rw[if_neg (by omega),Y2];exact cc
 .intro j hj ih;refine Zbiw ?_;rw[if_pos (by omega),wS hj (by omega)];refine⟨by omega,_,gE hj,_,Zum _ _ (by omega),?_⟩;rw[Zbnm hj]at ih;by_cases e:c[k]=all[j]
  .rw[if_pos e]at ih;rw[if_pos (by simpa using e)];refine⟨by omega,_,by rw[Yg];exact mkC_get hk _,?_⟩;have h1:=Zbnh (all.take j) c[k];have h2:=cnt_le (all.take j) c[k];have h3:(all.take j).length<=all.length:=by simp;omega
   rw[Yg,mkC_set hk,show w (cnt (all.take j) c[k]+1)=cnt (all.take j) c[k]+1 from Z2 (by omega) (by omega)];exact ih
  .rw[if_neg e,Int.add_zero]at ih;rw[if_neg (by simpa using e)];exact ih
theorem l_gc2(all c:List (List Int))(ha:all.length<=4096)(h4:∀x∈all,x.length<=4)(hg:c.length<=4096)(cc:∀x∈c,x.length<=4):∀k,k<=c.length->Zkp all c ((c.take k).map (cnt all)++List.replicate (c.length-k) 0) c.length k=some (gcR c (c.map (cnt all))):=by
 refine down _ ?_ ?_
 .refine Zbiv ?_;rw[if_neg (by omega),Y2];simp[gcR]
 .intro k hk ih;refine Zbiv ?_;rw[if_pos (by omega)];refine⟨by omega,_,gE hk,?_⟩;have e0:(c.take k).map (cnt all)++List.replicate (c.length-k) 0=mkC all c k (cnt (all.take 0) c[k]):=by
   unfold mkC;rw[show c.length-k=(c.length-k-1)+1 by omega,Ycw];simp[cnt]
  rw[e0];refine l_gc1 all c _ ha h4 hk hg (cc _ (Yd hk)) ?_ 0 (Ya _);rw[wS hk (by omega)];have e1:(c.take (k+1)).map (cnt all)++List.replicate (c.length-(k+1)) 0=mkC all c k (cnt all c[k]):=by
   unfold mkC;rw[Yy hk,Ybb,show c.length-(k+1)=c.length-k-1 by omega];simp
  rw[e1]at ih;exact ih
theorem l_gc0{rows:List (List Int)}{c:List Int}{n:Nat}(hR:RowsN rows n)(hC:Zj1 c n):∀i,i<=rows.length->Zh1 (selT (rows.take i) c) c rows rows.length i=some (gcR (grpV rows c) (grpN rows c)):=by
 have h8:=hR.len;have h3:=hC.len;refine down _ ?_ ?_
 .refine Zbix ?_;rw[if_neg (by omega),Y2];have hl:=Zy2 rows c;have hg:=Zbne rows c;have h4:∀r∈selT rows c,r.length<=4:=λr hr=>by have:=Zbnf hr;omega
  refine⟨grpV rows c,Zb82 (by omega) h4,by omega,by omega,by rw[Yg];unfold room;omega,by omega,?_⟩;have:=l_gc2 (selT rows c) (grpV rows c) (by omega) h4 (by omega) (λx hx=>by have:=Zbng hx;omega) 0 (Ya _);simpa[grpN]using this
 .intro i hi ih;refine Zbix ?_;rw[if_pos (by omega),wS hi (by omega)];have hr:=hR.row _ (Yd hi);rw[show selT (rows.take (i+1)) c=selT (rows.take i) c++[selC rows[i] c] by unfold selT;rw[Yy hi,Ybb];rfl]at ih;exact⟨by omega,_,gE hi,.inr ⟨_,Z8b hr hR.n3 hC,by simp[selT];omega,ih⟩⟩
theorem Zbnn{t:Zh}(h:LeT t)(hv:Zb2 t=true){c:List Int}(hc:Zed t.Arity c=true):Zjd t c=some (gcR (grpV t.Rows c) (grpN t.Rows c)):=by
 obtain⟨hR,hA⟩:=Zgz hv;have hC:=Z8a hc hA;refine Zb2g ⟨_,Z76 t h,?_⟩;rw[hv,if_pos rfl];refine⟨_,Zbnk _ hA c (by have:=hC.len;omega),?_⟩;rw[hc,if_pos rfl];simpa[selT]using l_gc0 hR hC 0 (Ya _)
theorem l_sgc1(t:Zh)(cc:List (List Int))(cd c:List Int){n:Nat}(hR:RowsN t.Rows n)(hC:Zj1 c n)(r:AV×List Blk){k:Nat}(hk:k<cc.length)(cn:∀x∈cc,x.length<=4)(co:cd.length<=4096)
  (cl:Zoc t cc (cd++[cnt (selT t.Rows c) cc[k]]) c (w ((k:Int)+1))=some r):∀j,j<=t.Rows.length->Zod t cc cd c k (cnt (selT (t.Rows.take j) c) cc[k]) j=some r:=by
 have h8:=hR.len;refine down _ ?_ ?_
 .refine Zbks ?_;rw[if_neg (by omega),Y2];exact⟨by omega,cl⟩
 .intro j hj ih;refine Zbks ?_;rw[if_pos (by omega),wS hj (by omega)];have hr:=hR.row _ (Yd hj);have hv4:=cn _ (Yd hk);have hs:(selC t.Rows[j] c).length<=3:=by have:=hC.len;simp[selC];omega
  refine⟨by omega,_,gE hj,_,_,Zy4 hr hR.n3 hC,by omega,_,gE hk,_,Zl1 _ _ (by omega) (by omega),?_⟩;have hj':j<(selT t.Rows c).length:=by rw[Zy2];exact hj
  have ht:∀i,selT (t.Rows.take i) c=(selT t.Rows c).take i:=λi=>by simp[selT,List.map_take]
  have he:(selT t.Rows c)[j]=selC t.Rows[j] c:=by simp[selT]
  rw[ht,Zbnm hj',he]at ih;rw[ht];by_cases e:cc[k]=selC t.Rows[j] c
  .rw[if_pos e]at ih;rw[if_pos (by rw[e];exact Zj0 _)];have h1:=Zbnh ((selT t.Rows c).take j) cc[k];have h2:=cnt_le ((selT t.Rows c).take j) cc[k];have h3:((selT t.Rows c).take j).length<=t.Rows.length:=by rw[Y5,Zy2];omega
   rw[show w (cnt ((selT t.Rows c).take j) cc[k]+1)=cnt ((selT t.Rows c).take j) cc[k]+1 from Z2 (by omega) (by omega)];exact ih
  .rw[if_neg e,Int.add_zero]at ih;rw[if_neg (λhc=>e (Zga _ _ hc).symm)];exact ih
theorem l_sgc2(t:Zh)(c:List (List Int))(cc:List Int){n:Nat}(hR:RowsN t.Rows n)(hC:Zj1 cc n)(hv:c.length<=4096)(cd:∀x∈c,x.length<=4):∀k,k<=c.length->Zoc t c ((c.take k).map (cnt (selT t.Rows cc))) cc k=some (gcR c (c.map (cnt (selT t.Rows cc)))):=by
 refine down _ ?_ ?_
 .refine Zbkr ?_;rw[if_neg (by omega),Y2];rfl
 .intro k hk ih;refine Zbkr ?_;rw[if_pos (by omega)];rw[Yy hk,Ybb]at ih;have:=l_sgc1 t c ((c.take k).map (cnt (selT t.Rows cc))) cc hR hC _ hk cd (by simp;omega) (by rw[wS hk (by omega)];exact ih) 0 (Ya _);simpa[cnt,selT]using this
theorem l_sgc0(t:Zh)(c:List Int){n:Nat}(hR:RowsN t.Rows n)(hC:Zj1 c n):∀i,i<=t.Rows.length->∀acc:List (List Int),acc.length<=i->(∀x∈acc,x.length<=4)->
  Zsr t acc [] c i=some (gcR (Zl3 acc (selT (t.Rows.drop i) c)) ((Zl3 acc (selT (t.Rows.drop i) c)).map (cnt (selT t.Rows c)))):=by
 have h8:=hR.len;refine down _ ?_ ?_
 .intro acc ha h4;refine Zbkq ?_;rw[if_neg (by omega),Yk];exact l_sgc2 t acc c hR hC (by omega) h4 0 (Ya _)
 .intro i hi ih acc ha h4;refine Zbkq ?_;rw[if_pos (by omega),wS hi (by omega),Yf hi];have hr:=hR.row _ (Yd hi);have hs:(selC t.Rows[i] c).length<=4:=by have:=hC.len;simp[selC];omega
  have hp:=Zbnb acc (selC t.Rows[i] c) false
  exact⟨by omega,_,gE hi,_,_,Zy4 hr hR.n3 hC,_,x_put1 (by omega) h4 hs,ih _ (by omega) (λx hx=>by
   rcases(Zy1 _ _ _).1 hx with hx|rfl
   .exact h4 x hx
   .exact hs)⟩
theorem Zbno{t:Zh}(h:LeT t)(hv:Zb2 t=true){c:List Int}(hc:Zed t.Arity c=true):Zsq t c=some (gcR (grpV t.Rows c) (grpN t.Rows c)):=by
 obtain⟨hR,hA⟩:=Zgz hv;have hC:=Z8a hc hA;refine Zb47 ⟨_,Zbnl t h hA c (by have:=hC.len;omega),?_⟩;rw[hc,hv,if_pos (by rfl)];have:=l_sgc0 t c hR hC 0 (Ya _) [] (by simp) (by simp);rw[Yj,Zb83]at this;exact this
def stR(t:Zh):AV×List Blk:=(.agg [.t (.str t.Name),I t.Arity,I (t.Rows.length:Int),.own 0],[.arr 195 3 false ((Zcp t).Groups.map Zo.c)])
theorem Zun{n:Int}(h:inR n 1 3=true):0<(subs n).length/\(subs n).length<=7:=by
 have h':1<=n/\n<=3:=by simpa[inR]using h
 have:n=1\/n=2\/n=3:=by omega
 rcases this with rfl|rfl|rfl<;>decide
theorem Zgb{t:Zh}(h:Zb2 t=true):inR t.Arity 1 3=true:=by
 unfold Zb2 at h;simp only[Ye]at h;exact h.1.1.2
theorem Zb9a{t:Zh}(h:LeT t)(hv:Zb2 t=true)(a:ByteArray)(b c:Int)(a':ByteArray)(b' c':Int):∀i,i<=(subs t.Arity).length->Zkr t a b c a' b' c' false (((subs t.Arity).take i).map (grp t.Rows)) (subs t.Arity) (subs t.Arity).length i=some (.agg [.t (.str a'),I b',I c',.own 0],[.arr 195 3 false (((subs t.Arity).map (grp t.Rows)).map Zo.c)]):=by
 have h7:=Zun (Zgb hv);refine down _ ?_ ?_
 .refine Zbiy ?_;rw[if_neg (by omega),Y2]
 .intro i hi ih;refine Zbiy ?_;rw[if_pos (by omega),wS hi (by omega)];rw[Yy hi,Ybb]at ih;exact⟨by omega,_,gE hi,.inr ⟨_,_,Zbnn h hv (Zy3 (Zgb hv) _ (Yd hi)),by simp;omega,ih⟩⟩
theorem Zbnp{t:Zh}(h:LeT t)(hv:Zb2 t=true):Zkq t=some (stR t):=by
 have h7:=Zun (Zgb hv);refine Zb2i ⟨_,Z76 t h,?_⟩;rw[hv,if_pos rfl];refine .inr ⟨_,Zb87 (Zgb hv),Zb2h ?_⟩;rw[if_pos (by omega)];refine⟨by omega,_,gE (i:=0) h7.1,.inr ⟨_,_,Zbnn h hv (Zy3 (Zgb hv) _ (Yd h7.1)),?_⟩⟩;have:=Zb9a h hv ⟨#[]⟩ 0 0 t.Name t.Arity (t.Rows.length:Int) 1 (by omega);rw[Yy h7.1]at this;rw[show w (0+1)=1 from by decide];unfold stR Zcp;simpa[grp]using this
theorem Zb9b{t:Zh}(h:LeT t)(hv:Zb2 t=true)(a:ByteArray)(b c:Int)(a':ByteArray)(b' c':Int):∀i,i<=(subs t.Arity).length->Zss t a b c a' b' c' false (((subs t.Arity).take i).map (grp t.Rows)) (subs t.Arity) i=some (.agg [.t (.str a'),I b',I c',.own 0],[.arr 195 3 false (((subs t.Arity).map (grp t.Rows)).map Zo.c)]):=by
 have h7:=Zun (Zgb hv);refine down _ ?_ ?_
 .refine Zbkt ?_;rw[if_neg (by omega),Y2]
 .intro i hi ih;refine Zbkt ?_;rw[if_pos (by omega),wS hi (by omega)];rw[Yy hi,Ybb]at ih;exact⟨by omega,_,gE hi,_,_,Zbno h hv (Zy3 (Zgb hv) _ (Yd hi)),by simp;omega,ih⟩
theorem Zbnq{t:Zh}(h:LeT t)(hv:Zb2 t=true):Zld t=some (stR t):=by
 have h7:=Zun (Zgb hv);refine Zb49 ⟨_,Z77 t h,?_⟩;rw[hv,if_pos rfl];refine⟨_,Zb88 (Zgb hv),Zb48 ?_⟩;rw[if_pos (by omega)];refine⟨by omega,_,gE (i:=0) h7.1,_,_,Zbno h hv (Zy3 (Zgb hv) _ (Yd h7.1)),?_⟩;have:=Zb9b h hv ⟨#[]⟩ 0 0 t.Name t.Arity (t.Rows.length:Int) 1 (by omega);rw[Yy h7.1]at this;rw[show w (0+1)=1 from by decide];unfold stR Zcp;simpa[grp]using this
def catF(d:Zm)(v:Int):AV×List Blk:=if Zco d && inR v 1 999 then(if d.Tables=[]then(.tup [.agg [I v,.t .nil],Bo true],[])else(.tup [.agg [I v,.own 0],Bo true],[.arr 143 4 false ((d.Tables.map Zcp).map Zk.c)]))else(.tup [.agg [I 0,.t .nil],Bo false],[])
theorem tab_le{d:Zm}(hv:Zco d=true):d.Tables.length<=6:=by
 unfold Zco at hv;simp only[Ye,decide_eq_true_eq]at hv;omega
theorem Zb9c{d:Zm}(h:LeD d)(hv:Zco d=true)(a b:Int):∀i,i<=d.Tables.length->Zks a b false ((d.Tables.take i).map Zcp) d.Tables d.Tables.length i=some (.tup [.agg [I b,.own 0],Bo true],[.arr 143 4 false ((d.Tables.map Zcp).map Zk.c)]):=by
 have h6:=tab_le hv;refine down _ ?_ ?_
 .refine Zbiz ?_;rw[if_neg (by omega),Y2]
 .intro i hi ih;refine Zbiz ?_;rw[if_pos (by omega),wS hi (by omega)];rw[Yy hi,Ybb]at ih;have hm:=Yd hi;exact⟨by omega,_,gE hi,.inr ⟨_,_,_,_,_,Zbnp (h.2 _ hm) (Zhp hv hm),by simp;omega,ih⟩⟩
theorem Zb9d{d:Zm}(h:LeD d)(v:Int):Znf d v=some (catF d v):=by
 refine Zb2k ⟨_,Zbmp d h,?_⟩;unfold catF;rcases tf (Zco d)with hv|hv
 .rw[hv];rfl
 rw[hv,if_pos rfl];refine⟨_,Zca _ _ _,?_⟩;rcases tf (inR v 1 999)with e|e
 .rw[e];rfl
 rw[e,if_pos rfl,if_pos (by rfl)];refine Zb2j ?_;by_cases e0:d.Tables=[]
 .rw[if_neg (by rw[e0];simp),if_pos e0]
 .have h0:0<d.Tables.length:=Yc6.2 e0;have hm:=Yd h0;rw[if_pos (by omega),if_neg e0];refine⟨by omega,_,gE (i:=0) h0,.inr ⟨_,_,_,_,_,Zbnp (h.2 _ hm) (Zhp hv hm),?_⟩⟩;have:=Zb9c h hv 0 v 1 (by omega);rw[Yy h0]at this;rw[show w (0+1)=1 from by decide];simpa[Zcp]using this
theorem Zb9e{d:Zm}(h:LeD d)(hv:Zco d=true)(a b:Int):∀i,i<=d.Tables.length->Zle d a b false ((d.Tables.take i).map Zcp) i=some (.tup [.agg [I b,.own 0],Bo true],[.arr 143 4 false ((d.Tables.map Zcp).map Zk.c)]):=by
 have h6:=tab_le hv;refine down _ ?_ ?_
 .refine Zbku ?_;rw[if_neg (by omega),Y2]
 .intro i hi ih;refine Zbku ?_;rw[if_pos (by omega),wS hi (by omega)];rw[Yy hi,Ybb]at ih;have hm:=Yd hi;exact⟨by omega,_,gE hi,.inr ⟨_,_,_,_,_,Zbnq (h.2 _ hm) (Zhp hv hm),by simp;omega,ih⟩⟩
theorem Zb9f{d:Zm}(h:LeD d)(v:Int):Zoe d v=some (catF d v):=by
 refine Zb5b ⟨_,Zbmq d h,?_⟩;unfold catF;rcases tf (Zco d)with hv|hv
 .rw[hv];rfl
 rw[hv,if_pos rfl];refine⟨_,Zbu _ _ _,?_⟩;rcases tf (inR v 1 999)with e|e
 .rw[e];rfl
 rw[e,if_pos rfl,if_pos (by rfl)];refine Zb5a ?_;by_cases e0:d.Tables=[]
 .rw[if_neg (by rw[e0];simp),if_pos e0]
 .have h0:0<d.Tables.length:=Yc6.2 e0;have hm:=Yd h0;rw[if_pos (by omega),if_neg e0];refine⟨by omega,_,gE (i:=0) h0,.inr ⟨_,_,_,_,_,Zbnq (h.2 _ hm) (Zhp hv hm),?_⟩⟩;have:=Zb9e h hv 0 v 1 (by omega);rw[Yy h0]at this;rw[show w (0+1)=1 from by decide];simpa[Zcp]using this
abbrev LeG(g:Zo):Prop:=g.Columns.length<=4294967296/\(g.Values.length<=4294967296/\∀r∈g.Values,r.length<=4294967296)/\g.Counts.length<=4294967296
abbrev LeS(s:Zk):Prop:=s.Groups.length<=4294967296/\∀g∈s.Groups,LeG g
abbrev LeK(c:Zv):Prop:=c.Tables.length<=4294967296/\∀s∈c.Tables,LeS s
theorem l_eqR(xs ys:List (List Int))(hl:ys.length=xs.length)(hx:xs.length<=4294967296/\∀a∈xs,a.length<=4294967296):∀i,i<=xs.length->Zrl ys xs xs.length i=some (Bo (decide (xs.drop i=ys.drop i)),[]):=by
 refine down _ ?_ ?_
 .refine Zbi8 ?_;rw[if_neg (by omega),Yk,<-hl,Yk];simp
 .intro i hi ih;have hi':i<ys.length:=by omega
  refine Zbi8 ?_;rw[if_pos (by omega),wS hi (by omega),dropQ hi hi'];refine⟨by omega,_,gE hi,_,gE hi',_,Zb21 ⟨_,Zum _ _ (hx.2 _ (Yd hi)),rfl⟩,?_⟩;by_cases c:xs[i]=ys[i]
  .rw[if_pos (by simpa using c),ih];simp[c]
  .rw[if_neg (by simpa using c)];simp[c]
theorem Zb9g(xs ys:List (List Int))(hx:xs.length<=4294967296/\∀a∈xs,a.length<=4294967296):Zwg xs ys=some (Bo (decide (xs=ys)),[]):=by
 refine Zb23 ⟨decide (xs=ys),Zb22 ?_,rfl⟩;by_cases c:(xs.length:Int)=(ys.length:Int)
 .rw[if_pos c];simpa using l_eqR xs ys (by omega) hx 0 (Ya _)
 .rw[if_neg c]
  have:¬xs=ys:=λhc=>c (by rw[hc])
  simp[this]
theorem Zb9h(a b:Zo)(h:LeG a):Zrm a b=some (Bo (decide (a=b)),[]):=by
 refine Zb24 ⟨_,Zum _ _ h.1,?_⟩;by_cases c:a.Columns=b.Columns
 .rw[if_pos (by simpa using c)];refine⟨_,Zb9g _ _ h.2.1,?_⟩;by_cases c2:a.Values=b.Values
  .rw[if_pos (by simpa using c2)];exact⟨_,Zum _ _ h.2.2,by simp[Zo.ext_iff,c,c2]⟩
  .rw[if_neg (by simpa using c2)];simp[Zo.ext_iff,c,c2]
 .rw[if_neg (by simpa using c)];simp[Zo.ext_iff,c]
theorem l_eqG(xs ys:List Zo)(hl:ys.length=xs.length)(hx:xs.length<=4294967296/\∀a∈xs,LeG a):∀i,i<=xs.length->Zrn ys xs xs.length i=some (Bo (decide (xs.drop i=ys.drop i)),[]):=by
 refine down _ ?_ ?_
 .refine Zbi9 ?_;rw[if_neg (by omega),Yk,<-hl,Yk];simp
 .intro i hi ih;have hi':i<ys.length:=by omega
  refine Zbi9 ?_;rw[if_pos (by omega),wS hi (by omega),dropQ hi hi'];refine⟨by omega,_,gE hi,_,gE hi',_,Zb9h _ _ (hx.2 _ (Yd hi)),?_⟩;by_cases c:xs[i]=ys[i]
  .rw[if_pos (by simpa using c),ih];simp[c]
  .rw[if_neg (by simpa using c)];simp[c]
theorem Zb9i(a b:Zk)(h:LeS a):Zwh a b=some (Bo (decide (a=b)),[]):=by
 refine Zb26 ?_;by_cases c:a.Name=b.Name
 .rw[if_pos c];by_cases c2:a.Arity=b.Arity
  .rw[if_pos c2];by_cases c3:a.RowCount=b.RowCount
   .rw[if_pos c3];refine⟨decide (a.Groups=b.Groups),Zb25 ?_,by simp[Zk.ext_iff,c,c2,c3]⟩;by_cases c4:(a.Groups.length:Int)=(b.Groups.length:Int)
    .rw[if_pos c4];simpa using l_eqG a.Groups b.Groups (by omega) h 0 (Ya _)
    .rw[if_neg c4]
     have:¬a.Groups=b.Groups:=λhc=>c4 (by rw[hc])
     simp[this]
   .rw[if_neg c3];simp[Zk.ext_iff,c,c2,c3]
  .rw[if_neg c2];simp[Zk.ext_iff,c,c2]
 .rw[if_neg c];simp[Zk.ext_iff,c]
theorem l_eqS(xs ys:List Zk)(hl:ys.length=xs.length)(hx:xs.length<=4294967296/\∀a∈xs,LeS a):∀i,i<=xs.length->Zro ys xs xs.length i=some (Bo (decide (xs.drop i=ys.drop i)),[]):=by
 refine down _ ?_ ?_
 .refine Zbja ?_;rw[if_neg (by omega),Yk,<-hl,Yk];simp
 .intro i hi ih;have hi':i<ys.length:=by omega
  refine Zbja ?_;rw[if_pos (by omega),wS hi (by omega),dropQ hi hi'];refine⟨by omega,_,gE hi,_,gE hi',_,Zb9i _ _ (hx.2 _ (Yd hi)),?_⟩;by_cases c:xs[i]=ys[i]
  .rw[if_pos (by simpa using c),ih];simp[c]
  .rw[if_neg (by simpa using c)];simp[c]
def Zee(v:Int)(ts:List Zk)(c:Zv):Bool:=decide (v=c.Version/\ts=c.Tables)
theorem Zb9j(v:Int)(c:Zv):Zra v c=some (Bo (Zee v [] c),[]):=by
 refine Zb2n ?_;unfold Zee;by_cases e:v=c.Version
 .rw[if_pos e];refine⟨decide ([]=c.Tables),Zb2m ?_,by simp[e]⟩;by_cases e2:c.Tables=[]
  .rw[if_pos (by rw[e2];simp)];refine Zb2l ?_;rw[if_neg (by omega),e2];simp
  .have h0:=Yc6.2 e2;rw[if_neg (by omega)];simp[Ne.symm e2]
 .rw[if_neg e];simp[e]
theorem Zb9k(v:Int)(ts:List Zk)(c:Zv)(h:ts.length<=4294967296/\∀s∈ts,LeS s):Zwi ⟨v,ts⟩ c=some (Bo (Zee v ts c),[]):=by
 refine Zb28 ?_;unfold Zee;by_cases e:v=c.Version
 .rw[if_pos e];refine⟨decide (ts=c.Tables),Zb27 ?_,by simp[e]⟩;by_cases c4:(ts.length:Int)=(c.Tables.length:Int)
  .rw[if_pos c4];simpa using l_eqS ts c.Tables (by omega) h 0 (Ya _)
  .rw[if_neg c4]
   have:¬ts=c.Tables:=λhc=>c4 (by rw[hc])
   simp[this]
 .rw[if_neg e];simp[e]
theorem Zb9l(a b:Zk)(x y:Zo)(hl:y.Values.length=x.Values.length)(hx:LeG x)(hy:LeG y)(r:Bool)(i:Int)(cc:Zlh a b (w (i+1))=some (Bo r,[])):∀k,k<=x.Values.length->Zos a b x y i k=some (Bo (decide (x.Values.drop k=y.Values.drop k) && r),[]):=by
 refine down _ ?_ ?_
 .refine Zbld ?_;rw[if_neg (by omega),Yk,<-hl,Yk,cc];simp
 .intro k hk ih;have hk':k<y.Values.length:=by omega
  refine Zbld ?_;rw[if_pos (by omega),wS hk (by have:=hx.2.1.1;omega),dropQ hk hk'];have l1:=hx.2.1.2 _ (Yd hk);have l2:=hy.2.1.2 _ (Yd hk');refine⟨by omega,_,gE hk,_,gE hk',_,Zl1 _ _ (by omega) (by omega),?_⟩;by_cases c:x.Values[k]=y.Values[k]
  .rw[if_pos (by rw[c];exact Zj0 _),ih];simp[c]
  .rw[if_neg (λh=>c (Zga _ _ h))];simp[c]
theorem Zb9m(a b:Zk)(hl:b.Groups.length=a.Groups.length)(ha:LeS a)(hb:LeS b):∀i,i<=a.Groups.length->Zlh a b i=some (Bo (decide (a.Groups.drop i=b.Groups.drop i)),[]):=by
 refine down _ ?_ ?_
 .refine Zblc ?_;rw[if_neg (by omega),Yk,<-hl,Yk];simp
 .intro i hi ih;have hi':i<b.Groups.length:=by omega
  have l1:=ha.2 _ (Yd hi);have l2:=hb.2 _ (Yd hi');have l11:=l1.1;have l13:=l1.2.2;have l21:=l2.1;have l23:=l2.2.2;refine Zblc ?_;rw[if_pos (by omega),dropQ hi hi'];refine⟨by omega,_,gE hi,_,gE hi',_,Zl1 _ _ (by omega) (by omega),?_⟩;by_cases c1:a.Groups[i].Columns=b.Groups[i].Columns
  .rw[if_pos (by rw[c1];exact Zj0 _)];refine⟨_,Zl1 _ _ (by omega) (by omega),?_⟩;by_cases c2:a.Groups[i].Counts=b.Groups[i].Counts
   .rw[if_pos (by rw[c2];exact Zj0 _)];by_cases c3:(a.Groups[i].Values.length:Int)=(b.Groups[i].Values.length:Int)
    .rw[if_pos c3];have:=Zb9l a b a.Groups[i] b.Groups[i] (by omega) l1 l2 _ i (by rw[wS hi (by have:=ha.1;omega)];exact ih) 0 (Ya _);rw[Yj,Yj]at this;have e:decide (a.Groups[i]=b.Groups[i])=decide (a.Groups[i].Values=b.Groups[i].Values):=by simp[Zo.ext_iff,c1,c2]
     rw[e];exact this
    .rw[if_neg c3]
     have:¬a.Groups[i]=b.Groups[i]:=λhc=>c3 (by rw[hc])
     simp[this]
   .rw[if_neg (λh=>c2 (Zga _ _ h))]
    have:¬a.Groups[i]=b.Groups[i]:=λhc=>c2 (by rw[hc])
    simp[this]
  .rw[if_neg (λh=>c1 (Zga _ _ h))]
   have:¬a.Groups[i]=b.Groups[i]:=λhc=>c1 (by rw[hc])
   simp[this]
theorem Zb9n(a b:Zk)(ha:LeS a)(hb:LeS b):Zxr a b=some (Bo (decide (a=b)),[]):=by
 refine Zb5w ?_;by_cases c:a.Name=b.Name
 .rw[if_pos c];by_cases c2:a.Arity=b.Arity
  .rw[if_pos c2];by_cases c3:a.RowCount=b.RowCount
   .rw[if_pos c3];by_cases c4:(a.Groups.length:Int)=(b.Groups.length:Int)
    .rw[if_pos c4];have e:decide (a=b)=decide (a.Groups=b.Groups):=by simp[Zk.ext_iff,c,c2,c3]
     rw[e];simpa using Zb9m a b (by omega) ha hb 0 (Ya _)
    .rw[if_neg c4]
     have:¬a=b:=λhc=>c4 (by rw[hc])
     simp[this]
   .rw[if_neg c3];simp[Zk.ext_iff,c,c2,c3]
  .rw[if_neg c2];simp[Zk.ext_iff,c,c2]
 .rw[if_neg c];simp[Zk.ext_iff,c]
theorem Zb9o(a b:Zv)(hl:b.Tables.length=a.Tables.length)(ha:LeK a)(hb:LeK b):∀i,i<=a.Tables.length->Zs8 a b i=some (Bo (decide (a.Tables.drop i=b.Tables.drop i)),[]):=by
 refine down _ ?_ ?_
 .refine Zble ?_;rw[if_neg (by omega),Yk,<-hl,Yk];simp
 .intro i hi ih;have hi':i<b.Tables.length:=by omega
  refine Zble ?_;rw[if_pos (by omega),wS hi (by have:=ha.1;omega),dropQ hi hi'];refine⟨by omega,_,gE hi,_,gE hi',_,Zb9n _ _ (ha.2 _ (Yd hi)) (hb.2 _ (Yd hi')),?_⟩;by_cases c:a.Tables[i]=b.Tables[i]
  .rw[if_pos (by simpa using c),ih];simp[c]
  .rw[if_neg (by simpa using c)];simp[c]
theorem Zb9p(v:Int)(c:Zv):Zsv v c=some (Bo (Zee v [] c),[]):=by
 refine Zb5d ?_;unfold Zee;by_cases e:v=c.Version
 .rw[if_pos e];by_cases e2:c.Tables=[]
  .rw[if_pos (by rw[e2];simp)];refine Zb5c ?_;rw[if_neg (by omega)];simp[e,e2]
  .have h0:=Yc6.2 e2;rw[if_neg (by omega)];simp[Ne.symm e2]
 .rw[if_neg e];simp[e]
theorem Zb9q(v:Int)(ts:List Zk)(c:Zv)(h:ts.length<=4294967296/\∀s∈ts,LeS s)(hc:LeK c):Zxs ⟨v,ts⟩ c=some (Bo (Zee v ts c),[]):=by
 refine Zb5x ?_;unfold Zee;by_cases e:v=c.Version
 .rw[if_pos e];by_cases c4:(ts.length:Int)=(c.Tables.length:Int)
  .rw[if_pos c4];subst e;have:=Zb9o ⟨c.Version,ts⟩ c (by simp only;omega) h hc 0 (Ya _);simp only[true_and];simpa using this
  .rw[if_neg c4]
   have:¬ts=c.Tables:=λhc=>c4 (by rw[hc])
   simp[this]
 .rw[if_neg e];simp[e]
def Zgc(d:Zm)(f:Zn):Bool:=match Zb9 d f.Name with
 |none=>false
 |some t=>Zed t.Arity f.From && inR f.To 0 (t.Arity-1) && !(has f.From f.To)
theorem Zio{d:Zm}{n:ByteArray}{t:Zh}(h:Zb9 d n=some t):Zb2 t=true:=by
 obtain⟨h1,h2,_⟩:=Zbmu h;exact Zhp h1 h2
theorem lookT_le{d:Zm}(hd:LeD d){n:ByteArray}{t:Zh}(h:Zb9 d n=some t):LeT t:=hd.2 t (Zbmu h).2.1
theorem Zbnr{d:Zm}(h:LeD d)(f:Zn)(hf:f.From.length<=4294967296):Zng d f=some (Bo (Zgc d f),[]):=by
 have hl:=Zpu d h f.Name;refine Zb2u ?_;unfold Zgc
 cases hq:Zb9 d f.Name with
 |none=>rw[hq]at hl;exact .inl ⟨_,_,hl,rfl⟩
 |some t =>
  rw[hq]at hl;have hA:=(Zgz (Zio hq)).2;refine .inr ⟨_,_,_,hl,_,Zbnk _ hA _ (by omega),?_⟩;rcases tf (Zed t.Arity f.From)with e|e
  .rw[e];simp[e]
  .rw[e,if_pos rfl,w1 hA];refine⟨_,Zca _ _ _,?_⟩;rcases tf (inR f.To 0 (t.Arity-1))with e2|e2
   .rw[e2];simp[e,e2]
   .rw[e2,if_pos rfl];exact⟨_,Zlz _ _ (by omega),by simp[e,e2]⟩
theorem Zb9r{t:Zh}(hv:Zb2 t=true)(h0:t.Rows=[])(vs:List Int)(hl:Le vs):Zxm t.Name t.Arity vs=some (Bo (Zed t.Arity vs),[]):=by
 have hA:=(Zgz hv).2;have hV:Zsz t.Name t.Arity=some (Bo true,[]):=by
  unfold Zb2 at hv;simp only[Ye]at hv;refine Zb5i ⟨_,Zbmf _,?_⟩;rw[hv.1.1.1,if_pos rfl];refine⟨_,Zbu _ _ _,?_⟩;rw[hv.1.1.2,if_pos rfl];refine Zb5h ?_;rw[if_neg (by omega)]
 have main:∀i,i<=vs.length->Zof t.Name t.Arity vs i=some (Bo (ascN t.Arity (pvA vs i) (vs.drop i)),[]):=by
  refine down _ ?_ ?_
  .refine Zbkx ?_;rw[if_neg (by omega),Yk];exact⟨_,hV,rfl⟩
  .intro i hi ih;refine Zbkx ?_;rw[if_pos (by omega),Yf hi,ascN,wS hi (by omega),w1 hA];refine⟨by omega,_,gE hi,_,Zbu _ _ _,?_⟩;rw[show pvA vs (i+1)=some vs[i]from Yc hi]at ih;rcases tf (inR vs[i] 0 (t.Arity-1))with e|e
   .rw[e];simp
   .rw[e,if_pos rfl,ih];by_cases h0:(0:Int)<(i:Int)
    .rw[if_pos h0,wP (by omega) hi (by omega),Zl2 (by omega) (by omega)];refine⟨by omega,_,gE (by omega),?_⟩;by_cases h2:vs[i]<=vs[i-1]
     .rw[if_pos h2];simp[nxt,ltI];omega
     .rw[if_neg h2];simp[nxt,ltI,show vs[i-1]<vs[i] by omega]
    .obtain rfl:i=0:=by omega
     rw[if_neg h0];simp[nxt,pvA]
 exact Zb5j (by simpa[Zed,pvA]using main 0 (Ya _))
theorem Zbns{d:Zm}(h:LeD d)(f:Zn)(hf:f.From.length<=4294967296):Zog d f=some (Bo (Zgc d f),[]):=by
 have hl:=Zpv d h f.Name;refine Zb5l ?_;unfold Zgc
 cases hq:Zb9 d f.Name with
 |none=>rw[hq]at hl;exact .inl ⟨_,_,_,hl,rfl⟩
 |some t =>
  rw[hq]at hl;simp only[Zim]at hl;have hv:=Zio hq;have hA:=(Zgz hv).2;by_cases e0:t.Rows=[]
  .rw[if_pos e0]at hl;refine .inl ⟨_,_,_,hl,?_⟩;rw[if_pos rfl];refine⟨_,Zb9r hv e0 _ (by omega),?_⟩;rcases tf (Zed t.Arity f.From)with e|e
   .rw[e];simp[e]
   .rw[e,if_pos rfl,w1 hA];refine⟨_,Zbu _ _ _,?_⟩;rcases tf (inR f.To 0 (t.Arity-1))with e2|e2
    .rw[e2];simp[e,e2]
    .rw[e2,if_pos rfl];exact⟨_,Zyo _ _ (by omega),by simp[e,e2]⟩
  .rw[if_neg e0]at hl;refine .inr ⟨_,_,_,hl,_,Zbnl t (lookT_le h hq) hA _ (by omega),?_⟩;rw[hv,Bool.and_true];rcases tf (Zed t.Arity f.From)with e|e
   .rw[e];simp[e]
   .rw[e,if_pos rfl,w1 hA];refine⟨_,Zbu _ _ _,?_⟩;rcases tf (inR f.To 0 (t.Arity-1))with e2|e2
    .rw[e2];simp[e,e2]
    .rw[e2,if_pos rfl];exact⟨_,Zyo _ _ (by omega),by simp[e,e2]⟩
def good(rows:List (List Int))(f:Zn)(i k:Nat):Prop:=selC (rows.getD i []) f.From=selC (rows.getD k []) f.From->(rows.getD i []).getD f.To.toNat 0=(rows.getD k []).getD f.To.toNat 0
def Ze8(rows:List (List Int))(f:Zn)(k:Nat):Prop:=∀k',k<=k'->k'<rows.length->∀i,i<k'->good rows f i k'
structure DepC (t:Zh) (f:Zn) (n:Nat):Prop where
 rows:RowsN t.Rows n
 cols:Zj1 f.From n
 to:0<=f.To/\f.To<n
theorem Zbnt{d:Zm}{f:Zn}{t:Zh}(hq:Zb9 d f.Name=some t)(hv:Zgc d f=true):DepC t f t.Arity.toNat:=by
 obtain⟨hR,hA⟩:=Zgz (Zio hq);unfold Zgc at hv;rw[hq]at hv;simp only[Ye]at hv;have h2:0<=f.To/\f.To<=t.Arity-1:=by simpa[inR]using hv.1.2
 exact⟨hR,Z8a hv.1.1 hA,by omega⟩
theorem gd{rows:List (List Int)}{i:Nat}(h:i<rows.length):rows.getD i []=rows[i]:=by
 rw[Ydv,Yc h];rfl
def Vio(L:Option (AV×List Blk))(z:AV×List Blk)(ok:Prop):Prop:=(ok->L=some z)/\(¬ok->∃a b:Int,L=some (.own 0,[.arr 3 1 true (([a,b]:List Int).map ic)]))
theorem Vio.cong{L:Option (AV×List Blk)}{z:AV×List Blk}{p q:Prop}(h:Vio L z p)(e:p↔q):Vio L z q:=⟨λhq=>h.1 (e.2 hq),λhq=>h.2 λhp=>hq (e.1 hp)⟩
theorem Vio.map{L L':Option (AV×List Blk)}{z:AV×List Blk}{p:Prop}(h:Vio L z p)(e:∀r,L=some r->L'=some r):Vio L' z p:=⟨λhp=>e _ (h.1 hp),λhp=>(h.2 hp).imp λa ⟨b,hb⟩=>⟨b,e _ hb⟩⟩
theorem Zpx{rows:List (List Int)}{f:Zn}{k i:Nat}(hi:i<k):((∀j,i<=j->j<k->good rows f j k)/\Ze8 rows f (k+1))↔(good rows f i k/\((∀j,i+1<=j->j<k->good rows f j k)/\Ze8 rows f (k+1))):=by
 constructor
 .rintro⟨h1,h2⟩;exact⟨h1 i (Yh _) hi,λj h3 h4=>h1 j (by omega) h4,h2⟩
 .rintro⟨h0,h1,h2⟩;refine⟨λj h3 h4=>?_,h2⟩;by_cases e:j=i
  .subst e;exact h0
  .exact h1 j (by omega) h4
theorem ok_out{rows:List (List Int)}{f:Zn}{k:Nat}(hk:k<rows.length):Ze8 rows f k↔((∀j,0<=j->j<k->good rows f j k)/\Ze8 rows f (k+1)):=by
 constructor
 .intro h;exact⟨λj _ h4=>h k (Yh _) hk j h4,λk' h1 h2=>h k' (by omega) h2⟩
 .rintro⟨h1,h2⟩ k' h3 h4 i hi;by_cases e:k'=k
  .subst e;exact h1 i (Ya _) hi
  .exact h2 k' (by omega) h4 i hi
theorem Zb9s{t:Zh}{f:Zn}{n:Nat}(h:DepC t f n){k:Nat}(hk:k<t.Rows.length)(c:Vio (Znh f t t.Rows t.Rows.length (w ((k:Int)+1))) (.t .nil,[]) (Ze8 t.Rows f (k+1))) :
  ∀i,i<=k->Vio (Zep f t k t.Rows[k] t.Rows t.Rows.length k (t.Rows.take k) k i) (.t .nil,[]) ((∀j,i<=j->j<k->good t.Rows f j k)/\Ze8 t.Rows f (k+1)):=by
 have h8:=h.rows.len;refine down _ ?_ ?_
 .refine(c.map λr hr=>?_).cong ⟨λhp=>⟨λj h1 h2=>by omega,hp⟩,λhp=>hp.2⟩;refine Zbi3 ?_;rw[if_neg (by omega)];exact hr
 .intro i hi ih;have hi':i<t.Rows.length:=by omega
  have hit:i<(t.Rows.take k).length:=by rw[Y5];omega
  have ei:(t.Rows.take k)[i]=t.Rows[i]:=List.getElem_take ..;have hri:=h.rows.row _ (Yd hi');have hrk:=h.rows.row _ (Yd hk);have hc3:=h.cols.len;have hto:=h.to;have step:∀r,(if decide (selC t.Rows[i] f.From=selC t.Rows[k] f.From)=true then(if t.Rows[i].getD f.To.toNat 0=t.Rows[k].getD f.To.toNat 0 then Zep f t k t.Rows[k] t.Rows t.Rows.length k (t.Rows.take k) k (w ((i:Int)+1))=some r else some (.own 0,[.arr 3 1 true (([(i:Int),(k:Int)]:List Int).map ic)])=some r)else Zep f t k t.Rows[k] t.Rows t.Rows.length k (t.Rows.take k) k (w ((i:Int)+1))=some r)->Zep f t k t.Rows[k] t.Rows t.Rows.length k (t.Rows.take k) k i=some r:=by
   intro r hr;refine Zbi3 ?_;rw[if_pos (by omega)];refine⟨by omega,t.Rows[i],by rw[Yg,Yc hit,ei],.inr ⟨_,Z8b hri h.rows.n3 h.cols,.inr ⟨_,Z8b hrk h.rows.n3 h.cols,_,Zum _ _ (by simp[selC];omega),?_⟩⟩⟩;by_cases e:selC t.Rows[i] f.From=selC t.Rows[k] f.From
   .rw[if_pos (by simpa using e)]at hr|-;exact⟨h.to.1,_,gD (by omega),_,gD (by omega),hr⟩
   .rw[if_neg (by simpa using e)]at hr|-;exact hr
  rw[show w ((i:Int)+1)=((i+1:Nat):Int)from wS hi' (by omega)]at step;by_cases e:selC t.Rows[i] f.From=selC t.Rows[k] f.From
  .by_cases e2:t.Rows[i].getD f.To.toNat 0=t.Rows[k].getD f.To.toNat 0
   .refine(ih.map λr hr=>step r (by rw[if_pos (by simpa using e),if_pos e2];exact hr)).cong ?_;rw[Zpx hi];exact⟨λhp=>⟨λ_=>by rw[gd hi',gd hk];exact e2,hp⟩,λhp=>hp.2⟩
   .refine⟨λhp=>absurd ((Zpx hi).1 hp).1 λhg=>e2 ?_,λ_=>⟨_,_,step _ (by rw[if_pos (by simpa using e),if_neg e2])⟩⟩;have:=hg (by rw[gd hi',gd hk];exact e);rw[gd hi',gd hk]at this;exact this
  .refine(ih.map λr hr=>step r (by rw[if_neg (by simpa using e)];exact hr)).cong ?_;rw[Zpx hi];exact⟨λhp=>⟨λhq=>absurd (by rw[gd hi',gd hk]at hq;exact hq) e,hp⟩,λhp=>hp.2⟩
theorem Zb9t{t:Zh}{f:Zn}{n:Nat}(h:DepC t f n):∀k,k<=t.Rows.length->Vio (Znh f t t.Rows t.Rows.length k) (.t .nil,[]) (Ze8 t.Rows f k):=by
 have h8:=h.rows.len;refine down _ ?_ ?_
 .refine⟨λ_=>Zbi2 (by rw[if_neg (by omega)]),λhn=>absurd (λk' h1 h2=>by omega) hn⟩
 .intro k hk ih;rw[<-show w ((k:Int)+1)=((k+1:Nat):Int)from wS hk (by omega)]at ih;refine((Zb9s h hk ih 0 (Ya _)).map λr hr=>?_).cong (ok_out hk).symm;refine Zbi2 ?_;rw[if_pos (by omega)];refine⟨by omega,_,gE hk,by rw[Yg];omega,?_⟩;rw[Yg,show(((t.Rows.take k).length:Nat):Int)=(k:Int) by rw[Y5];omega];exact hr
theorem Zb9u{d:Zm}{t:Zh}{f:Zn}{n:Nat}(h:DepC t f n){k:Nat}(hk:k<t.Rows.length)(a:ByteArray)(b:Int)(c:Vio (Zoh d f a b t.Rows (w ((k:Int)+1))) (.own 0,[.arr 3 1 true (([]:List Int).map ic)]) (Ze8 t.Rows f (k+1))) :
  ∀i,i<=k->Vio (Zid d f a b t.Rows (selC t.Rows[k] f.From) k i) (.own 0,[.arr 3 1 true (([]:List Int).map ic)]) ((∀j,i<=j->j<k->good t.Rows f j k)/\Ze8 t.Rows f (k+1)):=by
 have h8:=h.rows.len;refine down _ ?_ ?_
 .refine(c.map λr hr=>?_).cong ⟨λhp=>⟨λj h1 h2=>by omega,hp⟩,λhp=>hp.2⟩;refine Zbk0 ?_;rw[if_neg (by omega)];exact hr
 .intro i hi ih;have hi':i<t.Rows.length:=by omega
  have hri:=h.rows.row _ (Yd hi');have hrk:=h.rows.row _ (Yd hk);have hc3:=h.cols.len;have hto:=h.to;have hs:∀r:List Int,(selC r f.From).length<=3:=λr=>by simp[selC];omega
  have step:∀r,(if selC t.Rows[i] f.From=selC t.Rows[k] f.From then(if t.Rows[i].getD f.To.toNat 0=t.Rows[k].getD f.To.toNat 0 then Zid d f a b t.Rows (selC t.Rows[k] f.From) k (w ((i:Int)+1))=some r else some (.own 0,[.arr 3 1 true (([(i:Int),(k:Int)]:List Int).map ic)])=some r)else Zid d f a b t.Rows (selC t.Rows[k] f.From) k (w ((i:Int)+1))=some r)->Zid d f a b t.Rows (selC t.Rows[k] f.From) k i=some r:=by
   intro r hr;refine Zbk0 ?_;rw[if_pos (by omega)];have q1:=hs t.Rows[i];have q2:=hs t.Rows[k];refine⟨by omega,_,gE hi',_,_,Zy4 hri h.rows.n3 h.cols,_,Zl1 _ _ (by omega) (by omega),?_⟩;by_cases e:selC t.Rows[i] f.From=selC t.Rows[k] f.From
   .rw[if_pos e]at hr;rw[if_pos (by rw[e];exact Zj0 _)];exact⟨h.to.1,_,gD (by omega),by omega,_,gE hk,_,gD (by omega),hr⟩
   .rw[if_neg e]at hr;rw[if_neg (λhc=>e (Zga _ _ hc))];exact hr
  rw[show w ((i:Int)+1)=((i+1:Nat):Int)from wS hi' (by omega)]at step;by_cases e:selC t.Rows[i] f.From=selC t.Rows[k] f.From
  .by_cases e2:t.Rows[i].getD f.To.toNat 0=t.Rows[k].getD f.To.toNat 0
   .refine(ih.map λr hr=>step r (by rw[if_pos e,if_pos e2];exact hr)).cong ?_;rw[Zpx hi];exact⟨λhp=>⟨λ_=>by rw[gd hi',gd hk];exact e2,hp⟩,λhp=>hp.2⟩
   .refine⟨λhp=>absurd ((Zpx hi).1 hp).1 λhg=>e2 ?_,λ_=>⟨_,_,step _ (by rw[if_pos e,if_neg e2])⟩⟩;have:=hg (by rw[gd hi',gd hk];exact e);rw[gd hi',gd hk]at this;exact this
  .refine(ih.map λr hr=>step r (by rw[if_neg e];exact hr)).cong ?_;rw[Zpx hi];exact⟨λhp=>⟨λhq=>absurd (by rw[gd hi',gd hk]at hq;exact hq) e,hp⟩,λhp=>hp.2⟩
theorem Zb9v{d:Zm}(hd:LeD d){t:Zh}{f:Zn}(hf:f.From.length<=4294967296)(hv:Zgc d f=true){n:Nat}(h:DepC t f n)(a:ByteArray)(b:Int):∀k,k<=t.Rows.length->Vio (Zoh d f a b t.Rows k) (.own 0,[.arr 3 1 true (([]:List Int).map ic)]) (Ze8 t.Rows f k):=by
 have h8:=h.rows.len;refine down _ ?_ ?_
 .refine⟨λ_=>Zbkz (by rw[if_neg (by omega)]),λhn=>absurd (λk' h1 h2=>by omega) hn⟩
 .intro k hk ih;rw[<-show w ((k:Int)+1)=((k+1:Nat):Int)from wS hk (by omega)]at ih;refine((Zb9u (d:=d) h hk a b ih 0 (Ya _)).map λr hr=>?_).cong (ok_out hk).symm;refine Zbkz ?_;rw[if_pos (by omega)];refine⟨_,Zbns hd f hf,?_⟩;rw[hv,if_pos rfl];exact⟨by omega,_,gE hk,_,_,Zy4 (h.rows.row _ (Yd hk)) h.rows.n3 h.cols,hr⟩
open Classical in
noncomputable def Zip(d:Zm)(f:Zn):Bool:=Zgc d f && (match Zb9 d f.Name with
 |none=>true
 |some t=>decide (Ze8 t.Rows f 0))
theorem Zb9w{d:Zm}(h:LeD d)(f:Zn)(hf:f.From.length<=4294967296):Zwc d f=some (Bo (Zip d f),[]):=by
 refine Zb2w ⟨_,Zbnr h f hf,?_⟩;unfold Zip;rcases tf (Zgc d f)with hv|hv
 .rw[hv];rfl
 rw[hv,if_pos rfl,Yx]
 cases hq:Zb9 d f.Name with
 |none=>unfold Zgc at hv;rw[hq]at hv;cases hv
 |some t =>
  have hl:=Zpu d h f.Name;rw[hq]at hl;have V:=(Zb9t (Zbnt hq hv) 0 (Ya _)).map (L':=Zrf d f) λr hr=>Zb2v ⟨_,Zbnr h f hf,by rw[hv,if_pos rfl];exact .inr ⟨_,_,_,hl,hr⟩⟩
  by_cases e:Ze8 t.Rows f 0
  .exact .inl ⟨V.1 e,by simp[e]⟩
  .obtain⟨x,y,hxy⟩:=V.2 e;exact .inr ⟨_,hxy,by simp[e]⟩
theorem Zb9x{d:Zm}(h:LeD d)(f:Zn)(hf:f.From.length<=4294967296):Zs3 d f=some (Bo (Zip d f),[]):=by
 refine Zb5n ⟨_,Zbns h f hf,?_⟩;unfold Zip;rcases tf (Zgc d f)with hv|hv
 .rw[hv];rfl
 rw[hv,if_pos rfl,Yx]
 cases hq:Zb9 d f.Name with
 |none=>unfold Zgc at hv;rw[hq]at hv;cases hv
 |some t =>
  have hl:=Zpv d h f.Name;rw[hq]at hl;simp only[Zim]at hl;by_cases e0:t.Rows=[]
  .rw[if_pos e0]at hl;have e:Ze8 t.Rows f 0:=λk' h1 h2=>by rw[e0]at h2;simp at h2
   refine⟨[],Zbk1 (.inl ⟨_,_,_,hl,Zb5m (by rw[if_neg (by omega)])⟩),by simp[e]⟩
  .rw[if_neg e0]at hl;have V:=(Zb9v h hf hv (Zbnt hq hv) t.Name t.Arity 0 (Ya _)).map (L':=Zxn d f) λr hr=>Zbk1 (.inr ⟨_,_,_,hl,hr⟩)
   by_cases e:Ze8 t.Rows f 0
   .exact⟨[],V.1 e,by simp[e]⟩
   .obtain⟨x,y,hxy⟩:=V.2 e;exact⟨_,hxy,by simp[e]⟩
def Ziq(d:Zm)(x:Zl):Bool:=match Zb9 d x.Name,Zb9 d x.Into with
 |some a,some b=>inR x.Column 0 (a.Arity-1) && inR x.IntoColumn 0 (b.Arity-1)
 |_,_=>false
theorem Zbnu{d:Zm}(h:LeD d)(x:Zl):Zrg d x=some (Bo (Ziq d x),[]):=by
 have h1:=Zpu d h x.Name;have h2:=Zpu d h x.Into;refine Zb2x ?_;unfold Ziq
 cases hq:Zb9 d x.Name with
 |none =>
  rw[hq]at h1
  cases hq2:Zb9 d x.Into with
  |none=>rw[hq2]at h2;exact .inl ⟨_,_,h1,.inl ⟨_,_,h2,rfl⟩⟩
  |some b=>rw[hq2]at h2;exact .inl ⟨_,_,h1,.inr ⟨_,_,_,h2,rfl⟩⟩
 |some a =>
  rw[hq]at h1
  cases hq2:Zb9 d x.Into with
  |none=>rw[hq2]at h2;exact .inr ⟨_,_,_,h1,.inl ⟨_,_,h2,rfl⟩⟩
  |some b =>
   rw[hq2]at h2;refine .inr ⟨_,_,_,h1,.inr ⟨_,_,_,h2,_,Zca _ _ _,?_⟩⟩;rw[w1 (Zgz (Zio hq)).2,w1 (Zgz (Zio hq2)).2];rcases tf (inR x.Column 0 (a.Arity-1))with e|e
   .rw[e];simp[e]
   .rw[e,if_pos rfl];exact⟨_,Zca _ _ _,by simp[e]⟩
theorem Zbnv{d:Zm}(h:LeD d)(x:Zl):Zoi d x=some (Bo (Ziq d x),[]):=by
 have h1:=Zpv d h x.Name;have h2:=Zpv d h x.Into;refine Zb5o ?_;unfold Ziq
 cases hq:Zb9 d x.Name with
 |none =>
  rw[hq]at h1
  cases hq2:Zb9 d x.Into with
  |none=>rw[hq2]at h2;exact .inl ⟨_,_,_,h1,.inl ⟨_,_,_,h2,by simp⟩⟩
  |some b =>
   rw[hq2]at h2;simp only[Zim]at h2;by_cases e2:b.Rows=[]
   .rw[if_pos e2]at h2;exact .inl ⟨_,_,_,h1,.inl ⟨_,_,_,h2,by simp⟩⟩
   .rw[if_neg e2]at h2;exact .inl ⟨_,_,_,h1,.inr ⟨_,_,_,h2,by simp⟩⟩
 |some a =>
  rw[hq]at h1;simp only[Zim]at h1;have wa:=w1 (Zgz (Zio hq)).2
  cases hq2:Zb9 d x.Into with
  |none =>
   rw[hq2]at h2;by_cases e1:a.Rows=[]
   .rw[if_pos e1]at h1;exact .inl ⟨_,_,_,h1,.inl ⟨_,_,_,h2,by simp⟩⟩
   .rw[if_neg e1]at h1;exact .inr ⟨_,_,_,h1,.inl ⟨_,_,_,h2,by simp⟩⟩
  |some b =>
   rw[hq2]at h2;simp only[Zim]at h2;have wb:=w1 (Zgz (Zio hq2)).2;by_cases e1:a.Rows=[]
   .rw[if_pos e1]at h1;by_cases e2:b.Rows=[]
    .rw[if_pos e2]at h2;refine .inl ⟨_,_,_,h1,.inl ⟨_,_,_,h2,?_⟩⟩;rw[if_pos rfl,if_pos rfl,wa,wb];refine⟨_,Zbu _ _ _,?_⟩;rcases tf (inR x.Column 0 (a.Arity-1))with e|e
     .rw[e];simp[e]
     .rw[e,if_pos rfl];exact⟨_,Zbu _ _ _,by simp[e]⟩
    .rw[if_neg e2]at h2;refine .inl ⟨_,_,_,h1,.inr ⟨_,_,_,h2,?_⟩⟩;rw[if_pos rfl,wa,wb];refine⟨_,Zbu _ _ _,?_⟩;rcases tf (inR x.Column 0 (a.Arity-1))with e|e
     .rw[e];simp[e]
     .rw[e,if_pos rfl];exact⟨_,Zbu _ _ _,by simp[e]⟩
   .rw[if_neg e1]at h1;by_cases e2:b.Rows=[]
    .rw[if_pos e2]at h2;refine .inr ⟨_,_,_,h1,.inl ⟨_,_,_,h2,?_⟩⟩;rw[if_pos rfl,wa,wb];refine⟨_,Zbu _ _ _,?_⟩;rcases tf (inR x.Column 0 (a.Arity-1))with e|e
     .rw[e];simp[e]
     .rw[e,if_pos rfl];exact⟨_,Zbu _ _ _,by simp[e]⟩
    .rw[if_neg e2]at h2;refine .inr ⟨_,_,_,h1,.inr ⟨_,_,_,h2,_,Zbu _ _ _,?_⟩⟩;rw[wa,wb];rcases tf (inR x.Column 0 (a.Arity-1))with e|e
     .rw[e];simp[e]
     .rw[e,if_pos rfl];exact⟨_,Zbu _ _ _,by simp[e]⟩
def colV(rows:List (List Int))(c:Int):List Int:=rows.map λr=>r.getD c.toNat 0
structure ColD (rows:List (List Int)) (c:Int):Prop where
 len:rows.length<=8
 row:∀r∈rows,(c.toNat<r.length/\r.length<=3)/\∀v∈r,0<=v/\v<=9
 c0:0<=c
theorem Zbnw{t:Zh}(hv:Zb2 t=true){c:Int}(hc:inR c 0 (t.Arity-1)=true):ColD t.Rows c:=by
 obtain⟨hR,hA⟩:=Zgz hv;have h2:0<=c/\c<=t.Arity-1:=by simpa[inR]using hc
 refine⟨hR.len,λr hr=>⟨?_,λv hx=>?_⟩,h2.1⟩
 .have:=hR.row r hr;omega
 .unfold Zb2 at hv;simp only[Ye]at hv;have h1:=Yr.1 hv.2.1 r hr;unfold rwB at h1;simp only[Ye]at h1;simpa[dig,inR]using Yr.1 h1.1 v hx
theorem colV_in{rows:List (List Int)}{c:Int}(h:ColD rows c):∀v∈colV rows c,0<=v/\v<=9:=by
 intro v hv;obtain⟨r,hr,rfl⟩:=Ys.1 hv;obtain⟨⟨h1,_⟩,h2⟩:=h.row r hr;refine h2 _ ?_;rw[Ydv,Yc h1];exact Yd h1
def Zcz(A B:List Int):List Int:=A.filter λv=>!(has B v)
theorem Zbnx:∀{l:List Int},cptI l=[]->l=[]
 |[],_=>rfl
 |[a],h=>by simp[cptI]at h
 |a::b::l,h=>by
  unfold cptI at h;split at h
  .have:=Zbnx h;cases this
  .cases h
theorem miss_len(l:List Int):((cptI (srtI l)).length=0)↔l=[]:=by
 have hl:(srtI l).length=l.length:=(Ydk _ _).length_eq;constructor
 .intro h;have h1:=Zbnx (Ybz h);rw[h1]at hl;exact Ybz hl.symm
 .intro h;subst h;simp[srtI,cptI]
theorem x_fin{out:List Int}(h:out.length<=4096):Zwd out=some (.tup [],[.arr 3 1 true ((srtI out).map ic)])/\Zwe (srtI out)=some (.own 1,[.dead,.arr 3 1 true ((cptI (srtI out)).map ic)]):=by
 have hl:(srtI out).length=out.length:=(Ydk _ _).length_eq;unfold Zwd Zwe;exact⟨c_sortI h,c_cptI (by omega)⟩
theorem Zb9y{x:Zl}{A:List (List Int)}(hA:ColD A x.Column)(c:List Int)(ht:c.length<=4096):∀i,i<=A.length->Znk x c (Zcz (colV (A.take i) x.Column) c) A A.length i=some (.own 0,[.arr 3 1 true ((cptI (srtI (Zcz (colV A x.Column) c))).map ic)]):=by
 have h8:=hA.len;have hml:∀i,(Zcz (colV (A.take i) x.Column) c).length<=A.length:=λi=>by
  have:=Ybv (λv=>!(has c v)) (colV (A.take i) x.Column);unfold Zcz;simp only[colV,Yba,Y5]at this|-;omega
 refine down _ ?_ ?_
 .refine Zbi5 ?_;rw[if_neg (by omega),Y2];have hm:=hml A.length;rw[Y2]at hm;have:=x_fin (out:=Zcz (colV A x.Column) c) (by omega);exact⟨_,this.1,_,this.2,rfl⟩
 .intro i hi ih;obtain⟨⟨h1,h2⟩,_⟩:=hA.row _ (Yd hi);refine Zbi5 ?_;rw[if_pos (by omega),wS hi (by omega)];refine⟨by omega,_,gE hi,hA.c0,_,gD h1,_,Zlz _ _ (by omega),?_⟩;have e:Zcz (colV (A.take (i+1)) x.Column) c=Zcz (colV (A.take i) x.Column) c++(if has c (A[i].getD x.Column.toNat 0)=true then[]else[A[i].getD x.Column.toNat 0]):=by
   unfold Zcz colV;rw[Yy hi,Ybb,Yc9];simp only[Yo,Yc0];generalize A[i].getD x.Column.toNat 0=g;rw[Yb6,List.filter_nil];cases has c g<;>rfl
  rw[e]at ih;rcases tf (has c (A[i].getD x.Column.toNat 0))with q|q
  .rw[if_neg (by rw[q];simp)]at ih|-;exact⟨by have:=hml i;omega,ih⟩
  .rw[if_pos q,Ybm]at ih;rw[if_pos q];exact ih
theorem Zb9z{x:Zl}{A B:List (List Int)}(hA:ColD A x.Column)(hB:ColD B x.IntoColumn)(a:ByteArray)(b:Int):∀i,i<=B.length->Zri x a b A (colV (B.take i) x.IntoColumn) B B.length i=some (.own 0,[.arr 3 1 true ((cptI (srtI (Zcz (colV A x.Column) (colV B x.IntoColumn)))).map ic)]):=by
 have h8:=hB.len;refine down _ ?_ ?_
 .refine Zbi4 ?_;rw[if_neg (by omega),Y2];exact Zb9y hA _ (by simp[colV];omega) 0 (Ya _)
 .intro i hi ih;obtain⟨⟨h1,h2⟩,_⟩:=hB.row _ (Yd hi);refine Zbi4 ?_;rw[if_pos (by omega),wS hi (by omega)];rw[show colV (B.take (i+1)) x.IntoColumn=colV (B.take i) x.IntoColumn++[B[i].getD x.IntoColumn.toNat 0] by unfold colV;rw[Yy hi,Ybb];rfl]at ih;exact⟨by omega,_,gE hi,hB.c0,_,gD h1,by simp[colV];omega,ih⟩
def Zg0(d:Zm)(x:Zl):Bool:=Ziq d x && (match Zb9 d x.Name,Zb9 d x.Into with
 |some a,some b=>(Zcz (colV a.Rows x.Column) (colV b.Rows x.IntoColumn)).isEmpty
 |_,_=>true)
theorem inc_of{d:Zm}{x:Zl}(hv:Ziq d x=true):∃a b,Zb9 d x.Name=some a/\Zb9 d x.Into=some b/\ColD a.Rows x.Column/\ColD b.Rows x.IntoColumn:=by
 unfold Ziq at hv
 cases hq:Zb9 d x.Name with
 |none=>rw[hq]at hv;cases hv
 |some a =>
  cases hq2:Zb9 d x.Into with
  |none=>rw[hq,hq2]at hv;cases hv
  |some b =>
   rw[hq,hq2]at hv;simp only[Ye]at hv;exact⟨a,b,rfl,rfl,Zbnw (Zio hq) hv.1,Zbnw (Zio hq2) hv.2⟩
theorem Zb90{d:Zm}(h:LeD d)(x:Zl):Zwf d x=some (Bo (Zg0 d x),[]):=by
 refine Zb2z ⟨_,Zbnu h x,?_⟩;unfold Zg0;rcases tf (Ziq d x)with hv|hv
 .rw[hv];rfl
 obtain⟨a,b,h1,h2,hA,hB⟩:=inc_of hv;rw[hv,if_pos rfl,Yx,h1,h2];have l1:=Zpu d h x.Name;have l2:=Zpu d h x.Into;rw[h1]at l1;rw[h2]at l2;have hM:Zrh d x=some (.own 0,[.arr 3 1 true ((cptI (srtI (Zcz (colV a.Rows x.Column) (colV b.Rows x.IntoColumn)))).map ic)]):=by
  refine Zb2y ⟨_,Zbnu h x,?_⟩;rw[hv,if_pos rfl];exact .inr ⟨_,_,_,l1,.inr ⟨_,_,_,l2,by simpa[colV]using Zb9z hA hB a.Name a.Arity 0 (Ya _)⟩⟩
 refine .inr ⟨_,hM,?_⟩
 .have:=miss_len (Zcz (colV a.Rows x.Column) (colV b.Rows x.IntoColumn));by_cases e:Zcz (colV a.Rows x.Column) (colV b.Rows x.IntoColumn)=[]
  .simp[e,cptI,srtI]
  .have e2:¬((cptI (srtI (Zcz (colV a.Rows x.Column) (colV b.Rows x.IntoColumn)))).length=0):=λhc=>e (this.1 hc)
   have e4:¬cptI (srtI (Zcz (colV a.Rows x.Column) (colV b.Rows x.IntoColumn)))=[]:=λhc=>e2 (by rw[hc];rfl)
   have e5:(Zcz (colV a.Rows x.Column) (colV b.Rows x.IntoColumn)).isEmpty=false:=List.isEmpty_eq_false_iff.2 e;simp[e4,e5]
def Zef(A B:List Int)(u:Nat):List Int:=((List.range' u (10-u)).filter λv:Nat=>has A (v:Int) && !(has B (v:Int))).map λn:Nat=>(n:Int)
theorem Zy5{A B:List Int}{u:Nat}(h:u<10):Zef A B u=(if(has A (u:Int) && !(has B (u:Int)))=true then[(u:Int)]else[])++Zef A B (u+1):=by
 unfold Zef;rw[show 10-u=(10-(u+1))+1 by omega,Yc5,Yb6];split<;>simp
theorem Zbny{xs:List Int}{v:Int}:has xs v=true↔v∈xs:=by simp[has]
theorem Zb91{A B:List Int}(hA:∀v∈A,0<=v/\v<=9):Zef A B 0=[]↔Zcz A B=[]:=by
 constructor
 .intro h;unfold Zcz;rw[Yce];intro v hv hb;have h1:=hA v hv;unfold Zef at h;rw[List.map_eq_nil_iff,Yce]at h;refine h v.toNat (by simp[List.mem_range'];omega) ?_;rw[show((v.toNat:Nat):Int)=v by omega,Zbny.2 hv,Yx];exact hb
 .intro h;unfold Zef;rw[List.map_eq_nil_iff,Yce];intro n _ hb;simp only[Ye]at hb;unfold Zcz at h;rw[Yce]at h;exact h _ (Zbny.1 hb.1) hb.2
theorem Zy6(r:List Int)(rows:List (List Int))(c v:Int):has (colV (r::rows) c) v=(decide (r.getD c.toNat 0=v) || has (colV rows c) v):=by
 simp only[has,colV,Yo,Ydh];rw[show decide (v=r.getD c.toNat 0)=decide (r.getD c.toNat 0=v) by simp[eq_comm]]
theorem l_s1{x:Zl}(a:ByteArray)(b:Int)(a':ByteArray)(b':Int)(out:List Int)(v:Int)(c:Bool)(r:AV×List Blk)(hr:(if(c && !(false))=true then out.length+1<=68719476736/\Zf2 x (out++[v]) a b a' b' (w (v+1))=some r else Zf2 x out a b a' b' (w (v+1))=some r)):Zop x out a b a' b' v c false 0=some r:=by
 refine Zb5r ?_;rw[if_neg (by omega)];cases c<;>simpa using hr
theorem l_s0{x:Zl}(a:ByteArray)(b:Int)(a':ByteArray)(b':Int)(out:List Int)(v:Int)(c:Bool)(r:AV×List Blk)(hr:Zop x out a b a' b' v false c 0=some r):Zs4 x out a b a' b' v false c 0=some r:=by
 refine Zb5p ?_;rw[if_neg (by omega)];exact hr
theorem l_s2{x:Zl}(a:ByteArray)(b:Int)(a':ByteArray)(b':Int):∀u,u<=10->∀out:List Int,out.length<=u->Zf2 x out a b a' b' u=some (.own 0,[.arr 3 1 true ((out++Zef (colV ([]:List (List Int)) x.Column) (colV ([]:List (List Int)) x.IntoColumn) u).map ic)]):=by
 refine down _ ?_ ?_
 .intro out ho;refine Zbk2 ?_;rw[if_neg (by omega)];simp[Zef]
 .intro u hu ih out ho;have step:∀r,(if(false && !(false))=true then out.length+1<=68719476736/\Zf2 x (out++[(u:Int)]) a b a' b' (w ((u:Int)+1))=some r else Zf2 x out a b a' b' (w ((u:Int)+1))=some r)->Zf2 x out a b a' b' u=some r:=by
   intro r hr;refine Zbk2 ?_;rw[if_pos (by omega)];have q1:=l_s1 a b a' b' out u (false) r (by simpa using hr);exact l_s0 a b a' b' out u false r q1
  rw[Zy5 hu,show w ((u:Int)+1)=((u+1:Nat):Int)from wS hu (by omega)]at *
  have e1:has (colV ([]:List (List Int)) x.Column) (u:Int)=false:=rfl;have e2:has (colV ([]:List (List Int)) x.IntoColumn) (u:Int)=false:=rfl;rw[e1,e2];refine step _ ?_;rcases tf (false && !(false))with e|e
  .rw[if_neg (by rw[e];simp),if_neg (by rw[e];simp),Yb0];exact ih _ (by omega)
  .rw[if_pos e,if_pos e];refine⟨by omega,?_⟩;rw[<-Y8];exact ih _ (by simp;omega)
theorem l_s1a{x:Zl}{B:List (List Int)}(hB:ColD B x.IntoColumn)(a:ByteArray)(b:Int)(a':ByteArray)(b':Int)(out:List Int)(v:Int)(c:Bool)(r:AV×List Blk):∀i,i<=B.length->∀two:Bool,(if(c && !(two || has (colV (B.drop i) x.IntoColumn) v))=true then out.length+1<=68719476736/\Zf3 x (out++[v]) a b a' b' B (w (v+1))=some r else Zf3 x out a b a' b' B (w (v+1))=some r)->Zlf x out a b a' b' B v c two i=some r:=by
 have h8:=hB.len;refine down _ ?_ ?_
 .intro two hr;refine Zbk8 ?_;rw[if_neg (by omega)];rw[Yk,show has (colV [] x.IntoColumn) v=false from rfl,Bool.or_false]at hr;cases c<;>cases two<;>simpa using hr
 .intro i hi ih two hr;obtain⟨⟨h1,h2⟩,_⟩:=hB.row _ (Yd hi);refine Zbk8 ?_;rw[if_pos (by omega),wS hi (by omega)];rw[Yf hi,Zy6]at hr;rcases tf two with e|e
  .rw[if_neg (by rw[e];simp)];refine⟨by omega,_,gE hi,hB.c0,_,gD h1,ih _ ?_⟩;rw[e,Yb4]at hr;exact hr
  .rw[if_pos e];refine ih true ?_;rw[e]at hr;simpa using hr
theorem l_s0a{x:Zl}{B:List (List Int)}(hB:ColD B x.IntoColumn)(a:ByteArray)(b:Int)(a':ByteArray)(b':Int)(out:List Int)(v:Int)(c:Bool)(r:AV×List Blk)(hr:Zlf x out a b a' b' B v false c 0=some r):Zs5 x out a b a' b' B v false c 0=some r:=by
 refine Zb5q ?_;rw[if_neg (by omega)];exact hr
theorem l_s2a{x:Zl}{B:List (List Int)}(hB:ColD B x.IntoColumn)(a:ByteArray)(b:Int)(a':ByteArray)(b':Int):∀u,u<=10->∀out:List Int,out.length<=u->Zf3 x out a b a' b' B u=some (.own 0,[.arr 3 1 true ((out++Zef (colV ([]:List (List Int)) x.Column) (colV B x.IntoColumn) u).map ic)]):=by
 refine down _ ?_ ?_
 .intro out ho;refine Zbk3 ?_;rw[if_neg (by omega)];simp[Zef]
 .intro u hu ih out ho;have step:∀r,(if(false && !(has (colV B x.IntoColumn) (u:Int)))=true then out.length+1<=68719476736/\Zf3 x (out++[(u:Int)]) a b a' b' B (w ((u:Int)+1))=some r else Zf3 x out a b a' b' B (w ((u:Int)+1))=some r)->Zf3 x out a b a' b' B u=some r:=by
   intro r hr;refine Zbk3 ?_;rw[if_pos (by omega)];have q1:=l_s1a hB a b a' b' out u (false) r 0 (Ya _) false (by simpa using hr);exact l_s0a hB a b a' b' out u false r q1
  rw[Zy5 hu,show w ((u:Int)+1)=((u+1:Nat):Int)from wS hu (by omega)]at *
  have e1:has (colV ([]:List (List Int)) x.Column) (u:Int)=false:=rfl;have e2:has (colV B x.IntoColumn) (u:Int)=has (colV B x.IntoColumn) (u:Int):=rfl;rw[e1,e2];refine step _ ?_;rcases tf (false && !(has (colV B x.IntoColumn) (u:Int)))with e|e
  .rw[if_neg (by rw[e];simp),if_neg (by rw[e];simp),Yb0];exact ih _ (by omega)
  .rw[if_pos e,if_pos e];refine⟨by omega,?_⟩;rw[<-Y8];exact ih _ (by simp;omega)
theorem l_s1b{x:Zl}{A:List (List Int)}(hA:ColD A x.Column)(a:ByteArray)(b:Int)(a':ByteArray)(b':Int)(out:List Int)(v:Int)(c:Bool)(r:AV×List Blk)(hr:(if(c && !(false))=true then out.length+1<=68719476736/\Zf4 x (out++[v]) a b A a' b' (w (v+1))=some r else Zf4 x out a b A a' b' (w (v+1))=some r)):Zoq x out a b A a' b' v c false 0=some r:=by
 refine Zb5s ?_;rw[if_neg (by omega)];cases c<;>simpa using hr
theorem l_s0b{x:Zl}{A:List (List Int)}(hA:ColD A x.Column)(a:ByteArray)(b:Int)(a':ByteArray)(b':Int)(out:List Int)(v:Int)(c:Bool)(r:AV×List Blk):∀i,i<=A.length->∀one:Bool,Zoq x out a b A a' b' v (one || has (colV (A.drop i) x.Column) v) c 0=some r->Zon x out a b A a' b' v one c i=some r:=by
 have h8:=hA.len;refine down _ ?_ ?_
 .intro one hr;refine Zbk6 ?_;rw[if_neg (by omega)];rw[Yk,show has (colV [] x.Column) v=false from rfl,Bool.or_false]at hr;exact hr
 .intro i hi ih one hr;obtain⟨⟨h1,h2⟩,_⟩:=hA.row _ (Yd hi);refine Zbk6 ?_;rw[if_pos (by omega),wS hi (by omega)];rw[Yf hi,Zy6]at hr;rcases tf one with e|e
  .rw[if_neg (by rw[e];simp)];refine⟨by omega,_,gE hi,hA.c0,_,gD h1,ih _ ?_⟩;rw[e,Yb4]at hr;exact hr
  .rw[if_pos e];refine ih true ?_;rw[e]at hr;simpa using hr
theorem l_s2b{x:Zl}{A:List (List Int)}(hA:ColD A x.Column)(a:ByteArray)(b:Int)(a':ByteArray)(b':Int):∀u,u<=10->∀out:List Int,out.length<=u->Zf4 x out a b A a' b' u=some (.own 0,[.arr 3 1 true ((out++Zef (colV A x.Column) (colV ([]:List (List Int)) x.IntoColumn) u).map ic)]):=by
 refine down _ ?_ ?_
 .intro out ho;refine Zbk4 ?_;rw[if_neg (by omega)];simp[Zef]
 .intro u hu ih out ho;have step:∀r,(if(has (colV A x.Column) (u:Int) && !(false))=true then out.length+1<=68719476736/\Zf4 x (out++[(u:Int)]) a b A a' b' (w ((u:Int)+1))=some r else Zf4 x out a b A a' b' (w ((u:Int)+1))=some r)->Zf4 x out a b A a' b' u=some r:=by
   intro r hr;refine Zbk4 ?_;rw[if_pos (by omega)];have q1:=l_s1b hA a b a' b' out u (has (colV A x.Column) (u:Int)) r (by simpa using hr);exact l_s0b hA a b a' b' out u false r 0 (Ya _) false (by simpa using q1)
  rw[Zy5 hu,show w ((u:Int)+1)=((u+1:Nat):Int)from wS hu (by omega)]at *
  have e1:has (colV A x.Column) (u:Int)=has (colV A x.Column) (u:Int):=rfl;have e2:has (colV ([]:List (List Int)) x.IntoColumn) (u:Int)=false:=rfl;rw[e1,e2];refine step _ ?_;rcases tf (has (colV A x.Column) (u:Int) && !(false))with e|e
  .rw[if_neg (by rw[e];simp),if_neg (by rw[e];simp),Yb0];exact ih _ (by omega)
  .rw[if_pos e,if_pos e];refine⟨by omega,?_⟩;rw[<-Y8];exact ih _ (by simp;omega)
theorem l_s1c{x:Zl}{A:List (List Int)}(hA:ColD A x.Column){B:List (List Int)}(hB:ColD B x.IntoColumn)(a:ByteArray)(b:Int)(a':ByteArray)(b':Int)(out:List Int)(v:Int)(c:Bool)(r:AV×List Blk):∀i,i<=B.length->∀two:Bool,(if(c && !(two || has (colV (B.drop i) x.IntoColumn) v))=true then out.length+1<=68719476736/\Zf5 x (out++[v]) a b A a' b' B (w (v+1))=some r else Zf5 x out a b A a' b' B (w (v+1))=some r)->Zlg x out a b A a' b' B v c two i=some r:=by
 have h8:=hB.len;refine down _ ?_ ?_
 .intro two hr;refine Zbk9 ?_;rw[if_neg (by omega)];rw[Yk,show has (colV [] x.IntoColumn) v=false from rfl,Bool.or_false]at hr;cases c<;>cases two<;>simpa using hr
 .intro i hi ih two hr;obtain⟨⟨h1,h2⟩,_⟩:=hB.row _ (Yd hi);refine Zbk9 ?_;rw[if_pos (by omega),wS hi (by omega)];rw[Yf hi,Zy6]at hr;rcases tf two with e|e
  .rw[if_neg (by rw[e];simp)];refine⟨by omega,_,gE hi,hB.c0,_,gD h1,ih _ ?_⟩;rw[e,Yb4]at hr;exact hr
  .rw[if_pos e];refine ih true ?_;rw[e]at hr;simpa using hr
theorem l_s0c{x:Zl}{A:List (List Int)}(hA:ColD A x.Column){B:List (List Int)}(hB:ColD B x.IntoColumn)(a:ByteArray)(b:Int)(a':ByteArray)(b':Int)(out:List Int)(v:Int)(c:Bool)(r:AV×List Blk):∀i,i<=A.length->∀one:Bool,Zlg x out a b A a' b' B v (one || has (colV (A.drop i) x.Column) v) c 0=some r->Zoo x out a b A a' b' B v one c i=some r:=by
 have h8:=hA.len;refine down _ ?_ ?_
 .intro one hr;refine Zbk7 ?_;rw[if_neg (by omega)];rw[Yk,show has (colV [] x.Column) v=false from rfl,Bool.or_false]at hr;exact hr
 .intro i hi ih one hr;obtain⟨⟨h1,h2⟩,_⟩:=hA.row _ (Yd hi);refine Zbk7 ?_;rw[if_pos (by omega),wS hi (by omega)];rw[Yf hi,Zy6]at hr;rcases tf one with e|e
  .rw[if_neg (by rw[e];simp)];refine⟨by omega,_,gE hi,hA.c0,_,gD h1,ih _ ?_⟩;rw[e,Yb4]at hr;exact hr
  .rw[if_pos e];refine ih true ?_;rw[e]at hr;simpa using hr
theorem l_s2c{x:Zl}{A:List (List Int)}(hA:ColD A x.Column){B:List (List Int)}(hB:ColD B x.IntoColumn)(a:ByteArray)(b:Int)(a':ByteArray)(b':Int):∀u,u<=10->∀out:List Int,out.length<=u->Zf5 x out a b A a' b' B u=some (.own 0,[.arr 3 1 true ((out++Zef (colV A x.Column) (colV B x.IntoColumn) u).map ic)]):=by
 refine down _ ?_ ?_
 .intro out ho;refine Zbk5 ?_;rw[if_neg (by omega)];simp[Zef]
 .intro u hu ih out ho;have step:∀r,(if(has (colV A x.Column) (u:Int) && !(has (colV B x.IntoColumn) (u:Int)))=true then out.length+1<=68719476736/\Zf5 x (out++[(u:Int)]) a b A a' b' B (w ((u:Int)+1))=some r else Zf5 x out a b A a' b' B (w ((u:Int)+1))=some r)->Zf5 x out a b A a' b' B u=some r:=by
   intro r hr;refine Zbk5 ?_;rw[if_pos (by omega)];have q1:=l_s1c hA hB a b a' b' out u (has (colV A x.Column) (u:Int)) r 0 (Ya _) false (by simpa using hr);exact l_s0c hA hB a b a' b' out u false r 0 (Ya _) false (by simpa using q1)
  rw[Zy5 hu,show w ((u:Int)+1)=((u+1:Nat):Int)from wS hu (by omega)]at *
  have e1:has (colV A x.Column) (u:Int)=has (colV A x.Column) (u:Int):=rfl;have e2:has (colV B x.IntoColumn) (u:Int)=has (colV B x.IntoColumn) (u:Int):=rfl;rw[e1,e2];refine step _ ?_;rcases tf (has (colV A x.Column) (u:Int) && !(has (colV B x.IntoColumn) (u:Int)))with e|e
  .rw[if_neg (by rw[e];simp),if_neg (by rw[e];simp),Yb0];exact ih _ (by omega)
  .rw[if_pos e,if_pos e];refine⟨by omega,?_⟩;rw[<-Y8];exact ih _ (by simp;omega)
theorem Zb92{d:Zm}(h:LeD d)(x:Zl):Zxo d x=some (Bo (Zg0 d x),[]):=by
 refine Zb5u ⟨_,Zbnv h x,?_⟩;unfold Zg0;rcases tf (Ziq d x)with hv|hv
 .rw[hv];rfl
 obtain⟨a,b,h1,h2,hA,hB⟩:=inc_of hv;rw[hv,if_pos rfl,Yx,h1,h2];have l1:=Zpv d h x.Name;have l2:=Zpv d h x.Into;rw[h1]at l1;rw[h2]at l2;simp only[Zim]at l1 l2;refine⟨Zef (colV a.Rows x.Column) (colV b.Rows x.IntoColumn) 0,Zb5t ⟨_,Zbnv h x,?_⟩,?_⟩
 .rw[hv,if_pos rfl];by_cases e1:a.Rows=[]
  .rw[if_pos e1]at l1;rw[e1];by_cases e2:b.Rows=[]
   .rw[if_pos e2]at l2;rw[e2];exact .inl ⟨_,_,_,l1,.inl ⟨_,_,_,l2,l_s2 _ _ _ _ 0 (by omega) [] (by simp)⟩⟩
   .rw[if_neg e2]at l2;exact .inl ⟨_,_,_,l1,.inr ⟨_,_,_,l2,l_s2a hB _ _ _ _ 0 (by omega) [] (by simp)⟩⟩
  .rw[if_neg e1]at l1;by_cases e2:b.Rows=[]
   .rw[if_pos e2]at l2;rw[e2];exact .inr ⟨_,_,_,l1,.inl ⟨_,_,_,l2,l_s2b hA _ _ _ _ 0 (by omega) [] (by simp)⟩⟩
   .rw[if_neg e2]at l2;exact .inr ⟨_,_,_,l1,.inr ⟨_,_,_,l2,l_s2c hA hB _ _ _ _ 0 (by omega) [] (by simp)⟩⟩
 .have:=Zb91 (B:=colV b.Rows x.IntoColumn) (colV_in hA);by_cases e:Zcz (colV a.Rows x.Column) (colV b.Rows x.IntoColumn)=[]
  .rw[this.2 e];simp[e]
  .have e2:¬Zef (colV a.Rows x.Column) (colV b.Rows x.IntoColumn) 0=[]:=λhc=>e (this.1 hc)
   have e5:(Zcz (colV a.Rows x.Column) (colV b.Rows x.IntoColumn)).isEmpty=false:=List.isEmpty_eq_false_iff.2 e;simp[e2,e5]
noncomputable def Zuo(d:Zm)(fs:List Zn)(xs:List Zl):Bool:=fs.all (Zip d) && xs.all (Zg0 d) && (decide (fs.length<=8) && decide (xs.length<=8))
abbrev LeF(fs:List Zn):Prop:=Le fs/\∀f∈fs,f.From.length<=4294967296
theorem Zb93{d:Zm}(h:LeD d)(fs:List Zn)(xs:List Zl)(hx:Le xs):∀i,i<=xs.length->Zrk d fs xs xs xs.length i=some (Bo ((xs.drop i).all (Zg0 d) && (decide (fs.length<=8) && decide (xs.length<=8))),[]):=by
 refine down _ ?_ ?_
 .refine Zbi7 ?_;rw[if_neg (by omega),Yk];by_cases e:fs.length<=8
  .rw[if_pos (by omega)];simp[e];omega
  .rw[if_neg (by omega)];simp[e]
 .intro i hi ih;refine Zbi7 ?_;rw[if_pos (by omega),wS hi hx,Yf hi,Y9];refine⟨by omega,_,gE hi,_,Zb90 h _,?_⟩;rcases tf (Zg0 d xs[i])with e|e
  .rw[e];simp
  .rw[e,if_pos rfl,ih];simp
theorem Zbnz{d:Zm}(h:LeD d){fs:List Zn}(hf:LeF fs){xs:List Zl}(hx:Le xs):Znl d fs xs=some (Bo (Zuo d fs xs),[]):=by
 have main:∀i,i<=fs.length->Zrj d fs xs fs fs.length i=some (Bo ((fs.drop i).all (Zip d) && xs.all (Zg0 d) && (decide (fs.length<=8) && decide (xs.length<=8))),[]):=by
  refine down _ ?_ ?_
  .refine Zbi6 ?_;rw[if_neg (by omega),Yk];simpa using Zb93 h fs xs hx 0 (Ya _)
  .intro i hi ih;refine Zbi6 ?_;rw[if_pos (by omega),wS hi hf.1,Yf hi,Y9];refine⟨by omega,_,gE hi,_,Zb9w h _ (hf.2 _ (Yd hi)),?_⟩;rcases tf (Zip d fs[i])with e|e
   .rw[e];simp
   .rw[e,if_pos rfl,ih];simp
 exact Zb20 (by simpa[Zuo]using main 0 (Ya _))
theorem Zb94{d:Zm}(h:LeD d)(xs:List Zl)(hx:Le xs):∀i,i<=xs.length->Zs7 d xs i=some (Bo ((xs.drop i).all (Zg0 d)),[]):=by
 refine down _ ?_ ?_
 .refine Zblb ?_;rw[if_neg (by omega),Yk];rfl
 .intro i hi ih;refine Zblb ?_;rw[if_pos (by omega),wS hi hx,Yf hi,Y9];refine⟨by omega,_,gE hi,_,Zb92 h _,?_⟩;rcases tf (Zg0 d xs[i])with e|e
  .rw[e];simp
  .rw[e,if_pos rfl,ih];simp
theorem Zbn0{d:Zm}(h:LeD d){fs:List Zn}(hf:LeF fs){xs:List Zl}(hx:Le xs):Zor d fs xs=some (Bo (Zuo d fs xs),[]):=by
 have main:∀i,i<=fs.length->Zs6 d fs xs i=some (Bo ((fs.drop i).all (Zip d) && xs.all (Zg0 d)),[]):=by
  refine down _ ?_ ?_
  .refine Zbla ?_;rw[if_neg (by omega),Yk];simpa using Zb94 h xs hx 0 (Ya _)
  .intro i hi ih;refine Zbla ?_;rw[if_pos (by omega),wS hi hf.1,Yf hi,Y9];refine⟨by omega,_,gE hi,_,Zb9x h _ (hf.2 _ (Yd hi)),?_⟩;rcases tf (Zip d fs[i])with e|e
   .rw[e];simp
   .rw[e,if_pos rfl,ih];simp
 refine Zb5v ?_;unfold Zuo;by_cases e1:fs.length<=8
 .rw[if_neg (by omega)];by_cases e2:xs.length<=8
  .rw[if_neg (by omega)];simpa[e1,e2]using main 0 (Ya _)
  .rw[if_pos (by omega)];simp[e2]
 .rw[if_pos (by omega)];simp[e1]
def popc(x:Int):Nat:=(if andI (shrI x 0) 1=1 then 1 else 0)+(if andI (shrI x 1) 1=1 then 1 else 0)+(if andI (shrI x 2) 1=1 then 1 else 0)+(if andI (shrI x 3) 1=1 then 1 else 0)
abbrev M16(x:Int):Prop:=0<=x/\x<16
theorem m16{x:Int}(h:M16 x):∃a:Fin 16,x=(a.1:Int):=⟨⟨x.toNat,by omega⟩,by simp;omega⟩
set_option maxRecDepth 100000 in
theorem f_or:∀a b:Fin 16,M16 (orI a.1 b.1)/\andI a.1 (orI a.1 b.1)=a.1/\(orI a.1 b.1=a.1\/popc a.1+1<=popc (orI a.1 b.1)):=by decide
set_option maxRecDepth 100000 in
theorem f_and:∀a b:Fin 16,M16 (andI a.1 b.1)/\andI (andI a.1 b.1) b.1=andI a.1 b.1/\(andI (a.1:Int) b.1=a.1->popc a.1<=popc b.1/\(popc b.1<=popc a.1->a.1=b.1)):=by decide
set_option maxRecDepth 1000000 in
theorem f_sub:∀a b c:Fin 16,andI (a.1:Int) c.1=a.1->andI (b.1:Int) c.1=b.1->andI (orI a.1 b.1) c.1=orI a.1 b.1:=by decide
set_option maxRecDepth 100000 in
theorem f_bit:∀(a:Fin 16) (i:Fin 4),(andI (shrI a.1 i.1) 1=0↔¬andI (shrI a.1 i.1) 1=1):=by decide
set_option maxRecDepth 100000 in
theorem f_shl:∀(i j:Fin 4),(andI (shrI (shlI 1 i.1) j.1) 1=1↔i=j)/\M16 (shlI 1 i.1):=by decide
set_option maxRecDepth 100000 in
theorem f_low:∀a:Fin 16,M16 (andI a.1 (w (0-a.1)))/\andI (andI a.1 (w (0-a.1))) a.1=andI a.1 (w (0-(a.1:Int))):=by decide
set_option maxRecDepth 100000 in
theorem f_pop:∀(a:Fin 16),(a.1<2->popc a.1<=1)/\(a.1<4->popc a.1<=2)/\(a.1<8->popc a.1<=3)/\popc a.1<=4:=by decide
theorem f_bits:∀a b c d:Bool,M16 (bit4 a b c d):=by decide
def Zdr(qa:List Atom)(m:Int):Nat->Bool:=λi=>decide (i<qa.length) && (!Z9 m i && shr qa (shlI 1 i) m)
def Zg1(qa:List Atom)(m:Int):Int:=Zbm (Zdr qa m)
theorem nearM_16(qa:List Atom)(m:Int):M16 (Zg1 qa m):=f_bits _ _ _ _
theorem Zb95{i j:Nat}(hi:i<4)(hj:j<4):Z9 (shlI 1 i) j=decide (i=j):=by
 have:=(f_shl ⟨i,hi⟩ ⟨j,hj⟩).1;simp only[Z9,Fin.mk.injEq]at this|-;rw[Ybk,decide_eq_true_eq,decide_eq_true_eq];exact this
theorem Zy7{m:Int}(hm:M16 m){i:Nat}(hi:i<4):andI (shrI m i) 1=0↔Z9 m i=false:=by
 obtain⟨a,rfl⟩:=m16 hm;have:=f_bit a ⟨i,hi⟩;simp only at this;rw[this,Z9,decide_eq_false_iff_not]
theorem hasV_one(qa:List Atom)(h4:qa.length<=4){i:Nat}(hi:i<qa.length)(u:Int):∀k,k<=qa.length->hasV (shlI 1 i) (qa.drop k) k u=(decide (k<=i) && has qa[i].Vars u):=by
 refine down _ ?_ ?_
 .rw[Yk,hasV,decide_eq_false (by omega)];rfl
 .intro k hk ih;rw[Z1k _ hk,ih,Zb95 (by omega) (by omega)];by_cases e:i=k
  .subst e;rw[decide_eq_true rfl,decide_eq_true (Yh _),decide_eq_false (by omega)];simp
  .by_cases e2:k<=i
   .rw[decide_eq_false e,decide_eq_true (by omega),decide_eq_true e2];simp
   .rw[decide_eq_false e,decide_eq_false (by omega),decide_eq_false e2];simp
theorem pV_one(qa:List Atom)(h4:qa.length<=4){i:Nat}(hi:i<qa.length)(u:Nat):pV (shlI 1 i) qa u=has qa[i].Vars u:=by
 have:=hasV_one qa h4 hi u 0 (Ya _);simpa[pV]using this
theorem shr_one{n:Int}{qa:List Atom}(h:Zx n qa=true){i:Nat}(hi:i<qa.length)(m:Int):shr qa (shlI 1 i) m=qa[i].Vars.any (λv=>has (varL m qa n.toNat) v):=by
 have h4:=(Zcx h).2;rw[Ybk,shr,List.any_eq_true,List.any_eq_true];simp only[Zqr h,pV_one qa h4 hi,Ye,Ybu];constructor
 .rintro⟨u,hu,h1,h2⟩;refine⟨(u:Int),Zi8.1 h1,?_⟩;simp only[vin,Ye];exact⟨by simp[inR];omega,by simpa using h2⟩
 .rintro⟨v,hv,h2⟩;have h3:=Zkj h _ (Yd hi) v hv;simp[inR]at h3;simp only[vin,Ye]at h2;refine⟨v.toNat,by omega,?_,h2.2⟩;rw[Zi8,Ycs h3.1];exact hv
theorem Zbn1{qa:List Atom}{m:Int}{i:Nat}(hi:i<4)(h:Zdr qa m i=true):addV (λu=>decide (u<i) && Zdr qa m u) [(i:Int)]=λu=>decide (u<i+1) && Zdr qa m u:=by
 funext u;simp only[addV,has];by_cases e:u=i
 .subst e;rw[decide_eq_true (by omega:u<u+1),h];simp
 .by_cases e2:u<i
  .rw[decide_eq_true e2,decide_eq_true (by omega)]
   have:¬((u:Int)=(i:Int)):=by omega
   simp[this]
  .rw[decide_eq_false e2,decide_eq_false (by omega)]
   have:¬((u:Int)=(i:Int)):=by omega
   simp[this]
theorem Zy8{qa:List Atom}{m:Int}{i:Nat}(h:Zdr qa m i=false):(λu=>decide (u<i) && Zdr qa m u)=λu=>decide (u<i+1) && Zdr qa m u:=by
 funext u;by_cases e:u=i
 .subst e;rw[h];simp
 .by_cases e2:u<i
  .rw[decide_eq_true e2,decide_eq_true (by omega)]
  .rw[decide_eq_false e2,decide_eq_false (by omega)]
theorem Zbn2(qa:List Atom)(m:Int):(λu=>decide (u<qa.length) && Zdr qa m u)=Zdr qa m:=by
 funext u;unfold Zdr;by_cases e:u<qa.length
 .rw[decide_eq_true e];simp
 .rw[decide_eq_false e];simp
theorem Zb96(q:Ze)(hq:LeQ q)(hv:Zx q.Zg q.Atoms=true)(m:Int)(hm:M16 m):∀i,i<=q.Atoms.length->
  Zk2 (varL m q.Atoms q.Zg.toNat) m (Zbm λu=>decide (u<i) && Zdr q.Atoms m u) q.Atoms q.Atoms.length i=some (I (Zg1 q.Atoms m),[]):=by
 have h4:=(Zcx hv).2;refine down _ ?_ ?_
 .refine Zbjw ?_;rw[if_neg (by omega),Zbn2];rfl
 .intro i hi ih;have hi4:i<4:=by omega
  have hinc:=Z6 (i:=i) (by omega);simp only[Yt,Yu]at ih;refine Zbjw ?_;rw[if_pos (by omega)];refine⟨by omega,q.Atoms[i],by rw[Yg];exact Yc hi,by omega,?_⟩;rw[show w ((i:Int)+1)=(i:Int)+1 from hinc];have hn:Zdr q.Atoms m i=(!Z9 m i && q.Atoms[i].Vars.any (λv=>has (varL m q.Atoms q.Zg.toNat) v)):=by
   unfold Zdr;rw[decide_eq_true hi,shr_one hv hi];simp
  have hvars:=Zm1 hv _ (Yd hi);have hvl:=Zm2 m q.Atoms q.Zg.toNat;have hvn:=Zfy hv;rcases tf (Z9 m i)with e1|e1
  .rw[if_pos ((Zy7 hm hi4).2 e1)];refine⟨_,x_both q.Atoms[i].Vars (varL m q.Atoms q.Zg.toNat) (by omega) (by omega),?_⟩;rcases tf (q.Atoms[i].Vars.any (λv=>has (varL m q.Atoms q.Zg.toNat) v))with e2|e2
   .have e3:q.Atoms[i].Vars.filter (has (varL m q.Atoms q.Zg.toNat))=[]:=by
     rw[Yce];intro a ha;have:=Yc8.1 e2 a ha;simpa using this
    rw[e3,if_neg (by simp),Zy8 (by rw[hn,e2];simp)];exact ih
   .have e3:0<(q.Atoms[i].Vars.filter (has (varL m q.Atoms q.Zg.toNat))).length:=by
     obtain⟨v,hv1,hv2⟩:=List.any_eq_true.1 e2;exact List.length_pos_of_mem (Ybe.2 ⟨hv1,hv2⟩)
    rw[if_pos (by omega),Zvx _ (by simp[inR];omega),Zbn1 hi4 (by rw[hn,e1,e2];rfl)];exact ih
  .rw[if_neg (λhc=>by rw[(Zy7 hm hi4).1 hc]at e1;cases e1),Zy8 (by rw[hn,e1];rfl)];exact ih
theorem Zbn3(q:Ze)(hq:LeQ q)(hv:Zx q.Zg q.Atoms=true)(m:Int)(hm:M16 m):Zwy q m=some (I (Zg1 q.Atoms m),[]):=by
 have b:=Zb96 q hq hv m hm 0 (Ya _);refine Zb3x ⟨_,Zuh q m hq hv,?_⟩;simpa[Zbm,bit4]using b
theorem l_near(q:Ze)(hq:LeQ q)(hv:Zx q.Zg q.Atoms=true)(m:Int)(hm:M16 m):∀i,i<=q.Atoms.length->
  Zln q m (Zbm λu=>decide (u<i) && Zdr q.Atoms m u) (Zbm (pV m q.Atoms)) i=some (I (Zg1 q.Atoms m),[]):=by
 have h4:=(Zcx hv).2;refine down _ ?_ ?_
 .refine Zblr ?_;rw[if_neg (by omega),Zbn2];rfl
 .intro i hi ih;have hi4:i<4:=by omega
  have hinc:=Z6 (i:=i) (by omega);simp only[Yt,Yu]at ih;refine Zblr ?_;rw[if_pos (by omega)];refine⟨by omega,?_⟩;rw[show w ((i:Int)+1)=(i:Int)+1 from hinc];have hn:Zdr q.Atoms m i=(!Z9 m i && shr q.Atoms (shlI 1 i) m):=by
   unfold Zdr;rw[decide_eq_true hi];simp
  rcases tf (Z9 m i)with e1|e1
  .rw[if_pos ((Zy7 hm hi4).2 e1)];refine⟨_,Zpm q (shlI 1 i) hq (Zkj hv),?_⟩;rcases tf (shr q.Atoms (shlI 1 i) m)with e2|e2
   .rw[if_pos ((Z1m q.Atoms (shlI 1 i) m).2 e2),Zy8 (by rw[hn,e2];simp)];exact ih
   .rw[if_neg (λhc=>by rw[(Z1m q.Atoms (shlI 1 i) m).1 hc]at e2;cases e2),Zvx _ (by simp[inR];omega),Zbn1 hi4 (by rw[hn,e1,e2];rfl)];exact ih
  .rw[if_neg (λhc=>by rw[(Zy7 hm hi4).1 hc]at e1;cases e1),Zy8 (by rw[hn,e1];rfl)];exact ih
theorem x_near(q:Ze)(hq:LeQ q)(hv:Zx q.Zg q.Atoms=true)(m:Int)(hm:M16 m):Zti q m=some (I (Zg1 q.Atoms m),[]):=by
 have b:=l_near q hq hv m hm 0 (Ya _);refine Zb6e ⟨_,Zpm q m hq (Zkj hv),?_⟩;simpa[Zbm,bit4]using b
def Zgd(qa:List Atom)(c x:Int):Int:=orI x (andI (Zg1 qa x) c)
def Zir(qa:List Atom)(c:Int):Nat->Int->Int
 |0,x=>x
 |n+1,x=>Zir qa c n (Zgd qa c x)
def conn(qa:List Atom)(c:Int):Bool:=decide (Zir qa c qa.length (andI c (w (0-c)))=c)
abbrev SubM(x mask:Int):Prop:=andI x mask=x
theorem Z8c{qa:List Atom}{cc x:Int}(hm:M16 cc)(hx:M16 x)(hs:SubM x cc):M16 (Zgd qa cc x)/\SubM (Zgd qa cc x) cc/\(Zgd qa cc x=x\/popc x+1<=popc (Zgd qa cc x)):=by
 obtain⟨a,rfl⟩:=m16 hx;obtain⟨b,rfl⟩:=m16 hm;obtain⟨c,hc⟩:=m16 (nearM_16 qa (a.1:Int));unfold Zgd;rw[hc];obtain⟨d1,d2,_⟩:=f_and c b;obtain⟨d,hd⟩:=m16 d1;rw[hd]at d2|-;obtain⟨e1,_,e3⟩:=f_or a d;exact⟨e1,f_sub a d b hs d2,e3⟩
theorem Zbn4{qa:List Atom}{c x:Int}(h:Zgd qa c x=x):∀n,Zir qa c n x=x
 |0=>rfl
 |n+1=>by rw[Zir,h];exact Zbn4 h n
theorem Zb97(q:Ze)(hq:LeQ q)(hv:Zx q.Zg q.Atoms=true)(c:Int)(hm:M16 c)(hp:popc c<=q.Atoms.length):∀(f:Nat) (x:Int),M16 x->SubM x c->q.Atoms.length<=popc x+f->
  Zry q c x=some (Bo (decide (Zir q.Atoms c f x=c)),[]):=by
 intro f
 induction f with
 |zero =>
  intro x hx hs hf;have hxm:x=c:=by
   obtain⟨a,rfl⟩:=m16 hx;obtain⟨b,rfl⟩:=m16 hm;have:=((f_and a b).2.2 hs).2 (by omega);omega
  obtain⟨s1,s2,s3⟩:=Z8c (qa:=q.Atoms) hm hx hs;have hfix:Zgd q.Atoms c x=x:=by
   rcases s3 with h|h
   .exact h
   .obtain⟨a,ha⟩:=m16 s1;obtain⟨b,rfl⟩:=m16 hm;rw[ha]at s2 h;have:=((f_and a b).2.2 s2).1;rw[hxm]at h;omega
  refine Zbjx ⟨_,Zbn3 q hq hv x hx,?_⟩
  rw[if_pos (show orI x (andI (Zg1 q.Atoms x) c)=x from hfix)];rfl
 |succ f ih =>
  intro x hx hs hf;obtain⟨s1,s2,s3⟩:=Z8c (qa:=q.Atoms) hm hx hs;refine Zbjx ⟨_,Zbn3 q hq hv x hx,?_⟩;by_cases h:Zgd q.Atoms c x=x
  .rw[if_pos (show orI x (andI (Zg1 q.Atoms x) c)=x from h),Zbn4 h]
  .rw[if_neg (show ¬orI x (andI (Zg1 q.Atoms x) c)=x from h)];exact ih (Zgd q.Atoms c x) s1 s2 (by rcases s3 with h'|h';exact absurd h' h;omega)
theorem l_joined(q:Ze)(hq:LeQ q)(hv:Zx q.Zg q.Atoms=true)(c:Int)(hm:M16 c):∀i,i<=q.Atoms.length->∀x,M16 x->SubM x c->
  Ztj q c x i=some (Bo (decide (Zir q.Atoms c (q.Atoms.length-i) x=c)),[]):=by
 have h4:=(Zcx hv).2;refine down _ ?_ ?_
 .intro x _ _;refine Zbls ?_;rw[if_neg (by omega),Yco];rfl
 .intro i hi ih x hx hs;obtain⟨s1,s2,s3⟩:=Z8c (qa:=q.Atoms) hm hx hs;have hinc:=Z6 (i:=i) (by omega);refine Zbls ?_;rw[if_pos (by omega)];refine⟨_,x_near q hq hv x hx,?_⟩;have ih:=ih _ s1 s2;simp only[Yt,Yu]at ih;rw[show w ((i:Int)+1)=(i:Int)+1 from hinc,show q.Atoms.length-i=(q.Atoms.length-(i+1))+1 by omega,Zir];exact ih
abbrev MQ(qa:List Atom)(m:Int):Prop:=0<=m/\m<2 ^ qa.length
theorem MQ.m16{n:Int}{qa:List Atom}{m:Int}(hv:Zx n qa=true)(h:MQ qa m):M16 m/\popc m<=qa.length:=by
 have hl:=Zcx hv;obtain⟨h1,h2⟩:=h;have e:qa.length=1\/qa.length=2\/qa.length=3\/qa.length=4:=by omega
 have k16:M16 m:=by rcases e with e|e|e|e<;>rw[e]at h2<;>exact⟨h1,by omega⟩
 refine⟨k16,?_⟩;obtain⟨a,rfl⟩:=Go.Proofs.YtdioodopdlpinaaGreat.m16 k16;obtain⟨p1,p2,p3,p4⟩:=f_pop a;rcases e with e|e|e|e<;>rw[e]at h2|-
 .exact p1 (by omega)
 .exact p2 (by omega)
 .exact p3 (by omega)
 .exact p4
theorem Zy9(q:Ze)(hq:LeQ q)(hv:Zx q.Zg q.Atoms=true)(m:Int)(hm:MQ q.Atoms m)(h0:m≠0):Zhg q m=some (Bo (conn q.Atoms m),[]):=by
 obtain⟨k1,k2⟩:=hm.m16 hv;refine Zbjy ?_;rw[if_neg h0];obtain⟨a,rfl⟩:=m16 k1;obtain⟨l1,l2⟩:=f_low a;exact Zb97 q hq hv _ k1 k2 q.Atoms.length _ l1 l2 (by omega)
theorem Zza(q:Ze)(hq:LeQ q)(hv:Zx q.Zg q.Atoms=true)(m:Int)(hm:MQ q.Atoms m):Zju q m=some (Bo (conn q.Atoms m),[]):=by
 obtain⟨k1,k2⟩:=hm.m16 hv;refine Zb6f ?_;obtain⟨a,rfl⟩:=m16 k1;obtain⟨l1,l2⟩:=f_low a;exact l_joined q hq hv _ k1 0 (Ya _) _ l1 l2
theorem Zg2{n:Int}{qa:List Atom}(hv:Zx n qa=true):Zbd n qa=2 ^ qa.length-1:=by
 unfold Zbd;rw[if_pos hv,(Zki hv).2.1]
theorem Zbn5(q:Ze)(hq:LeQ q)(m:Int):Zk1 q m=some (Bo (Zx q.Zg q.Atoms && inR m 0 (Zbd q.Zg q.Atoms)),[]):=by
 refine Zb3w ⟨_,Zue q hq,?_⟩;rcases tf (Zx q.Zg q.Atoms)with e|e
 .rw[e];simp
 .rw[e,if_pos rfl];refine⟨by omega,_,Zca _ _ _,?_⟩;rw[show w (shlI 1 (q.Atoms.length:Int)-1)=shlI 1 (q.Atoms.length:Int)-1 from(Zki e).2.2.1];unfold Zbd;rw[if_pos e];simp
theorem Zbn6(q:Ze)(hq:LeQ q)(m:Int):Zll q m=some (Bo (Zx q.Zg q.Atoms && inR m 0 (Zbd q.Zg q.Atoms)),[]):=by
 refine Zb6c ⟨_,Zyp q hq,?_⟩;rcases tf (Zx q.Zg q.Atoms)with e|e
 .rw[e];simp
 .rw[e,if_pos rfl];refine⟨by omega,_,Zbu _ _ _,?_⟩;rw[show w (shlI 1 (q.Atoms.length:Int)-1)=shlI 1 (q.Atoms.length:Int)-1 from(Zki e).2.2.1];unfold Zbd;rw[if_pos e];simp
theorem Zzb{n:Int}{qa:List Atom}(hv:Zx n qa=true){m:Int}(h:inR m 0 (Zbd n qa)=true):MQ qa m:=by
 rw[Zg2 hv]at h;simp[inR]at h;exact⟨h.1,by omega⟩
def Zc5(n:Int)(qa:List Atom)(m:Int):Bool:=Zx n qa && inR m 0 (Zbd n qa) && decide (m≠0) && conn qa m
theorem Zbn7(q:Ze)(hq:LeQ q)(m:Int):Znt q m=some (Bo (Zc5 q.Zg q.Atoms m),[]):=by
 refine Zb3y ⟨_,Zbn5 q hq m,?_⟩;unfold Zc5;rcases tf (Zx q.Zg q.Atoms)with e|e
 .rw[e];simp
 rcases tf (inR m 0 (Zbd q.Zg q.Atoms))with e1|e1
 .rw[e,e1];simp
 rw[e,e1,if_pos (by rfl)];have hm:=Zzb e e1;by_cases h0:m=0
 .refine⟨false,Zbjy (by rw[if_pos h0]),?_⟩;simp[h0]
 .exact⟨_,Zy9 q hq e m hm h0,by simp[h0]⟩
theorem Zbn8(q:Ze)(hq:LeQ q)(m:Int):Zlo q m=some (Bo (Zc5 q.Zg q.Atoms m),[]):=by
 refine Zb6g ⟨_,Zbn6 q hq m,?_⟩;unfold Zc5;rcases tf (Zx q.Zg q.Atoms)with e|e
 .rw[e];simp
 rcases tf (inR m 0 (Zbd q.Zg q.Atoms))with e1|e1
 .rw[e,e1];simp
 rw[e,e1,if_pos (by rfl)];have hm:=Zzb e e1;by_cases h0:m=0
 .rw[if_neg (by omega)];simp[h0]
 .rw[if_pos (by have:=hm.1;omega)];exact⟨_,Zza q hq e m hm,by simp[h0]⟩
def Zge(qa:List Atom)(k n:Nat):List Int:=((List.range' k n).filter (λm:Nat=>conn qa (m:Int))).map (λm:Nat=>(m:Int))
theorem Zbn9{qa:List Atom}{k n:Nat}:Zge qa k (n+1)=(if conn qa (k:Int)=true then[(k:Int)]else[])++Zge qa (k+1) n:=by
 unfold Zge;rw[Yc5,Yb6];split<;>simp
theorem Zb98{qa:List Atom}{k n:Nat}:(Zge qa k n).length<=n:=by
 unfold Zge;rw[Yba];exact Yq (Ybv _ _) (by simp)
theorem Zg3(k:Nat):((2 ^ k:Nat):Int)=2 ^ k:=by simp
theorem Zb99(q:Ze)(hq:LeQ q)(hv:Zx q.Zg q.Atoms=true):∀k:Nat,k<=2 ^ q.Atoms.length->1<=k->∀out:List Int,out.length<=k->
  Znw q out k=some (.own 0,[.arr Zbc 1 true ((out++Zge q.Atoms k (2 ^ q.Atoms.length-k)).map ic)]):=by
 have hf:=Zg2 hv;have hp:=Zg3 q.Atoms.length;have h16:2 ^ q.Atoms.length<=16:=Nat.pow_le_pow_right (by omega:0<2) (Zcx hv).2;refine down _ ?_ ?_
 .intro _ out _;refine Zbj3 ⟨_,Zjz q hq,?_⟩;rw[if_neg (by rw[hf];omega),Yco];simp[Zge]
 .intro k hk ih h1 out ho;have wk':w ((k:Int)+1)=(k:Int)+1:=Z2 (by omega) (by omega);refine Zbj3 ⟨_,Zjz q hq,?_⟩;rw[if_pos (by rw[hf];omega)];refine⟨_,Zy9 q hq hv k ⟨by omega,by omega⟩ (by omega),?_⟩;rw[show 2 ^ q.Atoms.length-k=(2 ^ q.Atoms.length-(k+1))+1 by omega,Zbn9,wk'];rcases tf (conn q.Atoms k)with e|e
  .have ih:=ih (by omega) out (by omega);rw[e,if_neg (by simp)];simpa using ih
  .have ih:=ih (by omega) (out++[(k:Int)]) (by simp;omega);rw[e,if_pos rfl];refine⟨by omega,?_⟩;simpa using ih
def Zy(qa:List Atom):List Int:=Zge qa 1 (2 ^ qa.length-1)
theorem Zcaa(q:Ze)(hq:LeQ q)(hv:Zx q.Zg q.Atoms=true):Zr7 q=some (.own 0,[.arr Zbc 1 true ((Zy q.Atoms).map ic)]):=by
 have hpos:1<=2 ^ q.Atoms.length:=Nat.one_le_two_pow;have b:=Zb99 q hq hv 1 hpos (Yh _) [] (by simp);exact Zb34 (by simpa[Zy]using b)
theorem Zcab(q:Ze)(hq:LeQ q)(hv:Zx q.Zg q.Atoms=true):∀k:Nat,k<=2 ^ q.Atoms.length->1<=k->∀out:List Int,out.length<=k->
  Zo8 q out (Zbd q.Zg q.Atoms) k=some (.own 0,[.arr Zbc 1 true ((out++Zge q.Atoms k (2 ^ q.Atoms.length-k)).map ic)]):=by
 have hf:=Zg2 hv;have hp:=Zg3 q.Atoms.length;have h16:2 ^ q.Atoms.length<=16:=Nat.pow_le_pow_right (by omega:0<2) (Zcx hv).2;refine down _ ?_ ?_
 .intro _ out _;refine Zblw ?_;rw[if_neg (by rw[hf];omega),Yco];simp[Zge]
 .intro k hk ih h1 out ho;have wk':w ((k:Int)+1)=(k:Int)+1:=Z2 (by omega) (by omega);refine Zblw ?_;rw[if_pos (by rw[hf];omega)];refine⟨_,Zza q hq hv k ⟨by omega,by omega⟩,?_⟩;rw[show 2 ^ q.Atoms.length-k=(2 ^ q.Atoms.length-(k+1))+1 by omega,Zbn9,wk'];rcases tf (conn q.Atoms k)with e|e
  .have ih:=ih (by omega) out (by omega);rw[e,if_neg (by simp)];simpa using ih
  .have ih:=ih (by omega) (out++[(k:Int)]) (by simp;omega);rw[e,if_pos rfl];refine⟨by omega,?_⟩;simpa using ih
theorem Zcac(q:Ze)(hq:LeQ q)(hv:Zx q.Zg q.Atoms=true):Zto q=some (.own 0,[.arr Zbc 1 true ((Zy q.Atoms).map ic)]):=by
 have hpos:1<=2 ^ q.Atoms.length:=Nat.one_le_two_pow;have b:=Zcab q hq hv 1 hpos (Yh _) [] (by simp);exact Zb6p ⟨_,Zug q hq,by simpa[Zy]using b⟩
set_option maxRecDepth 100000 in
theorem f_diff:∀a m:Fin 16,andI (a.1:Int) m.1=a.1->Zhd (m.1:Int) a.1=(m.1:Int)-a.1/\(a.1:Int)<=m.1/\andI (a.1:Int) ((m.1:Int)-a.1)=0/\orI (a.1:Int) ((m.1:Int)-a.1)=m.1:=by decide
def Zc9(qa:List Atom)(c x:Int):Bool:=decide (andI x c=x) && (conn qa x && conn qa (c-x))
def Zfp(qa:List Atom)(c:Int)(k n:Nat):List Int:=((List.range' k n).filter (λm:Nat=>Zc9 qa c (m:Int))).map (λm:Nat=>(m:Int))
theorem Zboa{qa:List Atom}{c:Int}{k n:Nat}:Zfp qa c k (n+1)=(if Zc9 qa c (k:Int)=true then[(k:Int)]else[])++Zfp qa c (k+1) n:=by
 unfold Zfp;rw[Yc5,Yb6];split<;>simp
def Z5(qa:List Atom)(c:Int):List Int:=Zfp qa c 1 (c.toNat-1)
theorem Zcad(q:Ze)(hq:LeQ q)(hv:Zx q.Zg q.Atoms=true)(c:Nat)(hm:MQ q.Atoms c):∀k:Nat,k<=c->1<=k->∀out:List Int,out.length<=k->
  Zh7 q out c k=some (.own 0,[.arr Zbc 1 true ((out++Zfp q.Atoms c k (c-k)).map ic)]):=by
 have m16':=(hm.m16 hv).1;refine down _ ?_ ?_
 .intro _ out _;refine Zbj6 ?_;rw[if_neg (by omega),Yco];simp[Zfp]
 .intro k hk ih h1 out ho;have wk':w ((k:Int)+1)=(k:Int)+1:=Z2 (by omega) (by omega);refine Zbj6 ?_;rw[if_pos (by omega),show c-k=(c-(k+1))+1 by omega,Zboa,wk'];have skip:Zc9 q.Atoms c k=false->Zh7 q out c ((k:Int)+1)=some (.own 0,[.arr Zbc 1 true ((out++((if Zc9 q.Atoms c (k:Int)=true then[(k:Int)]else[])++Zfp q.Atoms c (k+1) (c-(k+1)))).map ic)]):=by
   intro e;have ih:=ih (by omega) out (by omega);rw[e];simpa using ih
  by_cases e1:andI (k:Int) c=k
  .obtain⟨d1,d2,_⟩:=f_diff ⟨k,by omega⟩ ⟨c,by omega⟩ e1;simp only at d1 d2;rw[if_pos e1];refine⟨_,Zy9 q hq hv k ⟨by omega,by have:=hm.2;omega⟩ (by omega),?_⟩;rcases tf (conn q.Atoms k)with e2|e2
   .rw[e2,if_neg (by simp)];exact skip (by simp[Zc9,e2])
   .rw[e2,if_pos rfl,d1];refine⟨_,Zy9 q hq hv ((c:Int)-k) ⟨by omega,by have:=hm.2;omega⟩ (by omega),?_⟩;rcases tf (conn q.Atoms ((c:Int)-k))with e3|e3
    .rw[e3,if_neg (by simp)];exact skip (by simp[Zc9,e3])
    .rw[e3,if_pos rfl];have es:Zc9 q.Atoms c k=true:=by simp[Zc9,e1,e2,e3]
     rw[es,if_pos rfl];have ih:=ih (by omega) (out++[(k:Int)]) (by simp;omega);exact⟨by omega,by simpa using ih⟩
  .rw[if_neg e1];exact skip (by simp[Zc9,e1])
theorem Z8d(q:Ze)(hq:LeQ q)(m:Int)(hc:Zc5 q.Zg q.Atoms m=true):Zf0 q m=some (.own 0,[.arr Zbc 1 true ((Z5 q.Atoms m).map ic)]):=by
 have hc':=hc;simp only[Zc5,Ye,decide_eq_true_eq]at hc';obtain⟨⟨⟨hv,hr⟩,h0⟩,_⟩:=hc';have hm:=Zzb hv hr;obtain⟨k,rfl⟩:∃k:Nat,m=k:=⟨m.toNat,by have:=hm.1;omega⟩;refine Zb4a ⟨_,Zbn7 q hq k,?_⟩;rw[hc,if_pos rfl];have b:=Zcad q hq hv k hm 1 (by omega) (Yh _) [] (by simp);simpa[Z5]using b
theorem Zcae(q:Ze)(hq:LeQ q)(hv:Zx q.Zg q.Atoms=true)(c:Nat)(hm:MQ q.Atoms c):∀k:Nat,k<=c->1<=k->∀out:List Int,out.length<=k->
  Zih q out c k=some (.own 0,[.arr Zbc 1 true ((out++Zfp q.Atoms c k (c-k)).map ic)]):=by
 have m16':=(hm.m16 hv).1;refine down _ ?_ ?_
 .intro _ out _;refine Zbly ?_;rw[if_neg (by omega),Yco];simp[Zfp]
 .intro k hk ih h1 out ho;have wk':w ((k:Int)+1)=(k:Int)+1:=Z2 (by omega) (by omega);have wd:w ((c:Int)-k)=(c:Int)-k:=Z2 (by omega) (by omega);refine Zbly ?_;rw[if_pos (by omega),show c-k=(c-(k+1))+1 by omega,Zboa,wk',wd];have skip:Zc9 q.Atoms c k=false->Zih q out c ((k:Int)+1)=some (.own 0,[.arr Zbc 1 true ((out++((if Zc9 q.Atoms c (k:Int)=true then[(k:Int)]else[])++Zfp q.Atoms c (k+1) (c-(k+1)))).map ic)]):=by
   intro e;have ih:=ih (by omega) out (by omega);rw[e];simpa using ih
  by_cases e1:andI (k:Int) c=k
  .rw[if_pos e1];refine⟨_,Zza q hq hv k ⟨by omega,by have:=hm.2;omega⟩,?_⟩;rcases tf (conn q.Atoms k)with e2|e2
   .rw[e2,if_neg (by simp)];exact skip (by simp[Zc9,e2])
   .rw[e2,if_pos rfl];refine⟨_,Zza q hq hv ((c:Int)-k) ⟨by omega,by have:=hm.2;omega⟩,?_⟩;rcases tf (conn q.Atoms ((c:Int)-k))with e3|e3
    .rw[e3,if_neg (by simp)];exact skip (by simp[Zc9,e3])
    .rw[e3,if_pos rfl];have es:Zc9 q.Atoms c k=true:=by simp[Zc9,e1,e2,e3]
     rw[es,if_pos rfl];have ih:=ih (by omega) (out++[(k:Int)]) (by simp;omega);exact⟨by omega,by simpa using ih⟩
  .rw[if_neg e1];exact skip (by simp[Zc9,e1])
theorem Zcaf(q:Ze)(hq:LeQ q)(m:Int)(hc:Zc5 q.Zg q.Atoms m=true):Ztp q m=some (.own 0,[.arr Zbc 1 true ((Z5 q.Atoms m).map ic)]):=by
 have hc':=hc;simp only[Zc5,Ye,decide_eq_true_eq]at hc';obtain⟨⟨⟨hv,hr⟩,h0⟩,_⟩:=hc';have hm:=Zzb hv hr;obtain⟨k,rfl⟩:∃k:Nat,m=k:=⟨m.toNat,by have:=hm.1;omega⟩;refine Zb6q ⟨_,Zbn8 q hq k,?_⟩;rw[hc,if_pos rfl];have b:=Zcae q hq hv k hm 1 (by omega) (Yh _) [] (by simp);simpa[Z5]using b
def Zj2(m:Int)(k n:Nat):List Int:=((List.range' k n).filter (λi:Nat=>Z9 m i)).map (λi:Nat=>(i:Int))
theorem Zbob{m:Int}{k n:Nat}:Zj2 m k (n+1)=(if Z9 m k=true then[(k:Int)]else[])++Zj2 m (k+1) n:=by
 unfold Zj2;rw[Yc5,Yb6];split<;>simp
def Zeg(m:Int):List Int:=Zj2 m 0 4
theorem Zcag(m:Int):∀k:Nat,k<=4->∀out:List Int,out.length<=k->Zny out m k=some (.own 0,[.arr Zbc 1 true ((out++Zj2 m k (4-k)).map ic)]):=by
 refine down _ ?_ ?_
 .intro out _;refine Zbj4 ?_;rw[if_neg (by omega)];simp[Zj2]
 .intro k hk ih out ho;have wk':w ((k:Int)+1)=(k:Int)+1:=Z2 (by omega) (by omega);refine Zbj4 ?_;rw[if_pos (by omega),show 4-k=(4-(k+1))+1 by omega,Zbob,wk'];refine⟨by omega,?_⟩;by_cases e:andI (shrI m k) 1=1
  .have ih:=ih (out++[(k:Int)]) (by simp;omega);rw[if_pos e,if_pos (by simp[Z9,e])];exact⟨by omega,by simpa using ih⟩
  .have ih:=ih out (by omega);rw[if_neg e,if_neg (by simp[Z9,e])];simpa using ih
theorem Zcah{m:Int}(hm:M16 m):Znx m=some (.own 0,[.arr Zbc 1 true ((Zeg m).map ic)]):=by
 have b:=Zcag m 0 (by omega) [] (by simp);refine Zb35 ⟨_,Zca _ _ _,?_⟩;rw[if_pos (by simp[inR];omega)];simpa[Zeg]using b
theorem Zcai(m:Int)(hm:M16 m):∀k:Nat,k<=4->∀out:List Int,out.length<=k->Zpd out m k=some (.own 0,[.arr Zbc 1 true ((out++Zj2 m k (4-k)).map ic)]):=by
 refine down _ ?_ ?_
 .intro out _;refine Zbl4 ?_;rw[if_neg (by omega)];simp[Zj2]
 .intro k hk ih out ho;have wk':w ((k:Int)+1)=(k:Int)+1:=Z2 (by omega) (by omega);refine Zbl4 ?_;rw[if_pos (by omega),show 4-k=(4-(k+1))+1 by omega,Zbob,wk'];refine⟨_,Zbu _ _ _,?_⟩;rw[if_pos (by simp[inR];omega)];refine⟨by omega,?_⟩;by_cases e:andI (shrI m k) 1=1
  .have ih:=ih (out++[(k:Int)]) (by simp;omega);rw[if_pos e,if_pos (by simp[Z9,e])];exact⟨by omega,by simpa using ih⟩
  .have ih:=ih out (by omega);rw[if_neg e,if_neg (by simp[Z9,e])];simpa using ih
theorem Zcaj{m:Int}(hm:M16 m):Ztw m=some (.own 0,[.arr Zbc 1 true ((Zeg m).map ic)]):=by
 have b:=Zcai m hm 0 (by omega) [] (by simp);exact Zb6w (by simpa[Zeg]using b)
structure Zl4 (n:Nat) (x:Zc) (y:Zj):Prop where
 kind:1<=x.Kind/\x.Kind<=5
 refs:(y.Left=-1/\y.Right=-1)\/((0<=y.Left/\y.Left.toNat<n)/\(y.Right=-1\/(0<=y.Right/\y.Right.toNat<n)))
theorem Zl4.mono{n k:Nat}{x:Zc}{y:Zj}(h:Zl4 n x y)(hk:n<=k):Zl4 k x y:=by
 refine⟨h.kind,h.refs.imp id λ⟨⟨a,b⟩,c⟩=>⟨⟨a,by omega⟩,c.imp id λ⟨d,e⟩=>⟨d,by omega⟩⟩⟩
theorem Zboc{qa:List Atom}{x:Zc}{info:List Zj}{st:List Int}{y:Zj}(hs:StOk info st)(h:Zd1 qa x info st=some y):Zl4 info.length x y:=by
 unfold Zd1 at h;split at h
 .rename_i k1;split at h
  .cases h;exact⟨by omega,.inl ⟨rfl,rfl⟩⟩
  .cases h
 .rename_i k1;split at h
  .cases h
  .split at h
   .rename_i k2;split at h
    .rename_i s y' ht;split at h
     .cases h;obtain⟨_,t2,t3,_⟩:=Zhz hs (Yh 1) ht;exact⟨by omega,.inr ⟨⟨t2,t3⟩,.inl rfl⟩⟩
     .cases h
    .cases h
   .rename_i k2;split at h
    .rename_i s y' t z ht hu;split at h
     .obtain⟨_,t2,t3,_⟩:=Zhz hs (by omega:1<=2) ht;obtain⟨_,u2,u3,_⟩:=Zhz hs (by omega:1<=1) hu;obtain⟨o,ho,rfl⟩:=Yl.1 h;have hk:x.Kind=3\/x.Kind=4\/x.Kind=5:=by
       unfold Zc7 at ho;split at ho
       .omega
       .split at ho
        .omega
        .split at ho
         .omega
         .cases ho
      exact⟨by omega,.inr ⟨⟨t2,t3⟩,.inr ⟨u2,u3⟩⟩⟩
     .cases h
    .cases h
theorem Zbod{qa:List Atom}:∀{xs:List Zc} {i:Nat} {info:List Zj} {st:List Int} {c:List Zj} {cc:List Int},Zcl qa xs i info st=some (c,cc)->
  StOk info st->info.length=i->∃tail,c=info++tail/\tail.length=xs.length/\∀(j:Nat) (y:Zj) (x:Zc),tail[j]?=some y->xs[j]?=some x->Zl4 (i+j) x y
 |[],i,info,st,c,cc,h,hs,hi=>by
  simp[Zcl]at h;obtain⟨rfl,rfl⟩:=h
  exact⟨[],by simp,rfl,by intro j y x hj;simp at hj⟩
 |x::xs,i,info,st,c,cc,h,hs,hi=>by
  rw[Zcl]at h;split at h
  .cases h
  .rename_i y hy;have hn:=Zqs hs y (st.length-pops y);rw[hi]at hn;obtain⟨tail,g2,g3,g4⟩:=Zbod h hn (by simp[hi]);refine⟨y::tail,by simp[g2],by simp[g3],?_⟩;intro j y' x' hj hx
   cases j with
   |zero=>simp at hj hx;subst hj;subst hx;have:=Zboc hs hy;rw[hi]at this;exact this
   |succ j=>exact(g4 j y' x' (by simpa using hj) (by simpa using hx)).mono (by omega)
theorem Zboe{n:Int}{qa:List Atom}{steps:List Zc}{info:List Zj}(h:Zcm n qa steps=some info):∀(j:Nat) (y:Zj) (x:Zc),info[j]?=some y->steps[j]?=some x->Zl4 j x y:=by
 unfold Zcm at h;split at h
 .split at h
  .rename_i info' st hg;split at h
   .cases h;obtain⟨tail,g2,g3,g4⟩:=Zbod hg (λs hs=>by cases hs) rfl;simp at g2;subst g2;intro j y x a b;have:=g4 j y x a b;simpa using this
   .cases h
  .cases h
 .cases h
def Zj3(xs:List Int):Bool:=xs.all (λx=>inR x 0 4096)
def Zcu(n:Int)(qa:List Atom)(xs:List Int):Bool:=Zx n qa && decide ((xs.length:Int)=Zbd n qa+1) && Zj3 xs
theorem Zcak(q:Ze)(hq:LeQ q)(xs:List Int)(hx:Le xs):∀i,i<=xs.length->Zr0 q xs xs xs.length i=some (Bo (Zj3 (xs.drop i) && (Zx q.Zg q.Atoms && decide ((xs.length:Int)=Zbd q.Zg q.Atoms+1))),[]):=by
 refine down _ ?_ ?_
 .refine Zbj0 ?_;rw[if_neg (by omega)];refine⟨_,Zue q hq,?_⟩;rcases tf (Zx q.Zg q.Atoms)with e|e
  .rw[e];simp
  .rw[e,if_pos rfl];refine⟨_,Zjz q hq,?_⟩;rw[show w (Zbd q.Zg q.Atoms+1)=Zbd q.Zg q.Atoms+1 from Zvz _ _];simp[Zj3]
 .intro i hi ih;have h4:=Z6 (i:=i) (by omega);refine Zbj0 ?_;rw[if_pos (by omega)];refine⟨by omega,xs[i],by rw[Yg];exact Yc hi,_,Zca _ _ _,?_⟩;unfold Zj3 at ih|-;rw[Zqq _ hi];simp only[Yt,Yu]at ih;rcases tf (inR xs[i] 0 4096)with e|e
  .rw[e];simp
  .rw[e,if_pos rfl,show w ((i:Int)+1)=(i:Int)+1 from h4,ih];simp
theorem Zbof(q:Ze)(hq:LeQ q)(xs:List Int)(hx:Le xs):Zk4 q xs=some (Bo (Zcu q.Zg q.Atoms xs),[]):=by
 have b:=Zcak q hq xs hx 0 (Ya _);refine Zb30 (Yb b ?_);rw[Yj,Zcu,Bool.and_comm]
theorem Zcal(xs:List Int)(hx:Le xs):∀i,i<=xs.length->Zt5 xs i=some (Bo (Zj3 (xs.drop i)),[]):=by
 refine down _ ?_ ?_
 .refine Zbma ?_;rw[if_neg (by omega)];simp[Zj3]
 .intro i hi ih;have h4:=Z6 (i:=i) (by omega);refine Zbma ?_;rw[if_pos (by omega)];refine⟨by omega,xs[i],by rw[Yg];exact Yc hi,_,Zbu _ _ _,?_⟩;unfold Zj3 at ih|-;rw[Zqq _ hi];simp only[Yt,Yu]at ih;rcases tf (inR xs[i] 0 4096)with e|e
  .rw[e];simp
  .rw[e,if_pos rfl,show w ((i:Int)+1)=(i:Int)+1 from h4,ih];simp
theorem Zcam(q:Ze)(hq:LeQ q)(xs:List Int)(hx:Le xs):Zyd q xs=some (Bo (Zcu q.Zg q.Atoms xs),[]):=by
 have b:=Zcal xs hx 0 (Ya _);refine Zb69 ⟨_,Zyp q hq,?_⟩;unfold Zcu;rcases tf (Zx q.Zg q.Atoms)with e|e
 .rw[e];simp
 rw[e,if_pos rfl];refine⟨_,Zug q hq,?_⟩;rw[show w (Zbd q.Zg q.Atoms+1)=Zbd q.Zg q.Atoms+1 from Zvz _ _];by_cases e2:(xs.length:Int)=Zbd q.Zg q.Atoms+1
 .rw[if_pos e2,decide_eq_true e2];refine Yb b ?_;simp
 .rw[if_neg e2,decide_eq_false e2];simp
def szAt(sizes:List Int)(m:Int):Int:=(sizes[m.toNat]?).getD 0
def Zds(info:List Zj)(i:Int):Int:=match info[i.toNat]? with|some y=>y.Mask|none=>0
def Zd4(m:Zb)(info:List Zj)(sizes:List Int)(x:Zc)(y:Zj):Int :=
 Zb0 (mOp m x.Kind) (if y.Left<0 then szAt sizes y.Mask else szAt sizes (Zds info y.Left)) (if y.Right<0 then 0 else szAt sizes (Zds info y.Right)) (szAt sizes y.Mask)
def Ze9(m:Zb)(info:List Zj)(sizes:List Int):List Zc->List Zj->List Int
 |x::xs,y::ys=>Zd4 m info sizes x y::Ze9 m info sizes xs ys
 |_,_=>[]
theorem Zbog(m:Zb)(info:List Zj)(sizes:List Int){xs:List Zc}{ys:List Zj}{i:Nat}(hx:i<xs.length)(hy:i<ys.length) :
  Ze9 m info sizes (xs.drop i) (ys.drop i)=Zd4 m info sizes xs[i] ys[i]::Ze9 m info sizes (xs.drop (i+1)) (ys.drop (i+1)):=by
 rw[Yf hx,Yf hy,Ze9]
theorem Zpy{qa:List Atom}{n:Int}{sizes:List Int}(hs:Zcu n qa sizes=true){y:Zj}(hm:Zkm qa.length y):sizes[y.Mask.toNat]?=some (szAt sizes y.Mask):=by
 simp only[Zcu,Ye,decide_eq_true_eq]at hs;have hf:=Zg2 hs.1.1;have hlt:y.Mask.toNat<sizes.length:=by have:=hm.1;have:=hm.2;omega
 simp[szAt,Yc hlt]
theorem Zzc{info:List Zj}{i:Int}{n:Nat}(h:0<=i/\i.toNat<n)(hn:n<=info.length):∃y,info[i.toNat]?=some y/\y∈info/\Zds info i=y.Mask:=by
 have hlt:i.toNat<info.length:=by omega
 exact⟨info[i.toNat],Yc hlt,Yd hlt,by simp[Zds,Yc hlt]⟩
theorem Zcan{m:Zb}(hm:LeM m){n:Int}{qa:List Atom}{steps:List Zc}{info:List Zj}{sizes:List Int}(hi:Zcm n qa steps=some info)(hs:Zcu n qa sizes=true){i:Nat}(h:i<info.length)(h':i<steps.length) :
  Zye m steps[i].Kind info i sizes=some (I (Zd4 m info sizes steps[i] info[i]),[]):=by
 obtain⟨p1,_⟩:=Zbcb hi;have ok:=Zboe hi i info[i] steps[i] (Yc h) (Yc h');have s0:=Zpy hs (p1 _ (Yd h));have hm0:=(p1 _ (Yd h)).1;refine Zb7a ⟨by omega,info[i],by rw[Yg];exact Yc h,_,Zpt m _,?_⟩;have hl:=hm.op steps[i].Kind;unfold Zd4;rcases ok.refs with⟨a,b⟩|⟨a,b⟩
 .have c1:info[i].Left<0:=by omega
  have c2:info[i].Right<0:=by omega
  simp only[if_pos c1,if_pos c2];exact⟨hm0,_,s0,_,Zgy _ hl _ _ _,rfl⟩
 .obtain⟨y1,y2,y3,y4⟩:=Zzc a (by omega:i<=info.length);have s1:=Zpy hs (p1 _ y3);have hm1:=(p1 _ y3).1;have c1:¬info[i].Left<0:=by omega
  simp only[if_neg c1,y4];rcases b with b|b
  .have c2:info[i].Right<0:=by omega
   simp only[if_pos c2];exact⟨a.1,y1,y2,hm1,_,s1,hm0,_,s0,_,Zgy _ hl _ _ _,rfl⟩
  .obtain⟨z1,z2,z3,z4⟩:=Zzc b (by omega:i<=info.length);have s2:=Zpy hs (p1 _ z3);have hm2:=(p1 _ z3).1;have c2:¬info[i].Right<0:=by omega
   simp only[if_neg c2,z4];exact⟨a.1,y1,y2,hm1,_,s1,b.1,z1,z2,hm2,_,s2,hm0,_,s0,_,Zgy _ hl _ _ _,rfl⟩
theorem Zcao{m:Zb}(hm:LeM m){n:Int}{qa:List Atom}{p:Plan}{info:List Zj}{sizes:List Int}(hi:Zcm n qa p.Steps=some info)(hs:Zcu n qa sizes=true):∀i,i<=info.length->∀out:List Int,out.length=i->
  Zt6 m p out info sizes i=some (.own 0,[.arr Zbc 1 true ((out++Ze9 m info sizes (p.Steps.drop i) (info.drop i)).map ic)]):=by
 obtain⟨l1,l2,l3,l4⟩:=Zkl hi;refine down _ ?_ ?_
 .intro out _;refine Zbmb ?_;rw[if_neg (by omega),Yk];cases p.Steps.drop info.length<;>simp[Ze9]
 .intro i h ih out ho;have h4:=Z6 (i:=i) (by omega);have h':i<p.Steps.length:=by omega
  refine Zbmb ?_;rw[if_pos (by omega)];refine⟨by omega,p.Steps[i],by rw[Yg];exact Yc h',_,Zcan hm hi hs h h',by omega,?_⟩;have ih:=ih (out++[Zd4 m info sizes p.Steps[i] info[i]]) (by simp[ho]);rw[Zbog m info sizes h' h,show w ((i:Int)+1)=(i:Int)+1 from h4];simpa using ih
def Zgf(m:Zb)(n:Int)(qa:List Atom)(steps:List Zc)(sizes:List Int):List Int:=match Zcm n qa steps with
 |some info=>if Zcu n qa sizes=true then Ze9 m info sizes steps info else[]
 |none=>[]
theorem Zcap(m:Zb)(hm:LeM m)(q:Ze)(hq:LeQ q)(p:Plan)(sizes:List Int)(hs:Le sizes):Zyf m q p sizes=some (.own 0,[.arr Zbc 1 true ((Zgf m q.Zg q.Atoms p.Steps sizes).map ic)]):=by
 have q1:=Zbmg q p hq;refine Zb7b ?_;unfold Zgf
 cases hi:Zcm q.Zg q.Atoms p.Steps with
 |none=>rw[hi]at q1;exact⟨[],false,q1,by rw[if_neg (by simp)]⟩
 |some info =>
  rw[hi]at q1;refine⟨info,true,q1,?_⟩;rw[if_pos rfl];refine⟨_,Zcam q hq sizes hs,?_⟩;simp only;rcases tf (Zcu q.Zg q.Atoms sizes)with e|e
  .rw[e,if_neg (by simp),if_neg (by simp)]
  .rw[e,if_pos rfl,if_pos rfl];have b:=Zcao hm hi e 0 (Ya _) [] rfl;simpa using b
end Go.Proofs.YtdioodopdlpinaaGreat
