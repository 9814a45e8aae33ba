/-
  Parts of the proofs for this seat: AMFlt AMPerm AMGive AMSwap.
-/
import Derived.Test.YthdihnbeifcppaaGreatP4
set_option linter.all false
namespace Go.AM
open Go.RowKit (Below)
inductive Ch (w:World):V5->List (UC)->UB->Prop
 |nil:Ch w [] [] []
 |cons {e:UD} {z:UC} {f:UB} {es:V5} {zs:List (UC)} {fq:UB} (h:TRs w e z f) (hs:Ch w es zs fq):Ch w (e::es) (z::zs) (f++fq)
variable{w w':World}{es:V5}{fp:UB}{zs:List (UC)}{pt:UD->Bool}{pv:UC->Bool}{base el sz:Nat}{N:Par}{ρ:Map}{fr:Bool}{b1:Blk}{r:Root}
theorem Ch.of{xs:UC}(h:TRs w es.flatten xs fp):∃zs,zs.flatten=xs/\Ch w es zs fp:=by
 induction es generalizing xs fp with
 |nil=>cases h;exact⟨[],rfl,.nil⟩
 |cons e es ih =>
  rw[Y5]at h;obtain⟨fa,fb,rfl,h1,h2⟩:=h.split;obtain⟨zs,e1,e2⟩:=ih h2;exact⟨_::zs,by rw[Y5,e1,Yb9],.cons h1 e2⟩
theorem Ch.flat(h:Ch w es zs fp):TRs w es.flatten zs.flatten fp:=by
 induction h with
 |nil=>exact .nil
 |cons h _ ih=>exact h.append ih
theorem Ch.length(h:Ch w es zs fp):zs.length=es.length:=by
 induction h with
 |nil=>rfl
 |cons _ _ ih=>rw[Ym,Ym,ih]
theorem Ch.mem(h:Ch w es zs fp){z:UC}(hz:z∈zs):∃e f,e∈es/\TRs w e z f:=by
 induction h with
 |nil=>cases hz
 |cons h _ ih =>
  grind
theorem Ch.filter(h:Ch w es zs fp)(hp:∀e∈es,∀z f,TRs w e z f->pv z=pt e) :
  ∃fp',fp'.Sublist fp/\Ch w (es.filter pt) (zs.filter pv) fp':=by
 induction h with
 |nil=>exact⟨[],.slnil,.nil⟩
 |@cons e z f es zs fq h _ ih =>
  obtain⟨fp',h1,h2⟩:=ih λe he=>hp e (.tail _ he)
  have hpe:=hp e (.head _) z f h
  cases hq:pt e with
  |true =>
   rw[Yco hq,Yco (by rw[hpe,hq])]
   exact⟨f++fp',(List.Sublist.refl f).append h1,.cons h h2⟩
  |false =>
   grind
theorem Ch.own(h:Ch w es zs fp)(hp:∀e∈es,∀z f,TRs w e z f->pv z=pt e)(ho:OWs w base es.flatten zs.flatten) :
  OWs w base (es.filter pt).flatten (zs.filter pv).flatten:=by
 induction h with
 |nil=>exact .nil
 |@cons e z f es zs fq h _ ih =>
  rw[Y5,Y5]at ho;have h2:=ho.split;rw[h.length,Ycb rfl,List.drop_left' rfl]at h2;have h3:=ih (λe he=>hp e (.tail _ he)) h2.2;have hpe:=hp e (.head _) z f h
  cases hq:pt e with
  |true =>
   rw[Yco hq,Yco (by rw[hpe,hq])]
   exact h2.1.append h3
  |false =>
   simp_all
theorem flt_rel(R:Rel N base ρ [.arr el sz fr es,b1] w)(hf1:Xo b1=false)(hr:ρ 0=some r)(hdom:∀b,2<=b->ρ b=none)
  {g cap e':Nat} {cur:Array Value} (hrv:r.v=.slice (some ⟨g,0,none⟩) es.length cap) (hg:w.heap[g]?=some (.cells cur e' (0,0))) (hch:Ch w es zs r.fp) (hzf:zs.flatten=cur.toList.take (es.length*sz)) (hp:∀e∈es,∀z f,TRs w e z f->pv z=pt e)
  {zr:UC} (hz:zr.length=(es.length-(es.filter pt).length)*sz) (hcs:∃c2,w'.heap[g]?=some (.cells c2 e' (0,0))/\c2.toList=(zs.filter pv).flatten++zr++cur.toList.drop (es.length*sz))
  (hgr:w.grownBy w' (some g)) :
  ∃fp',Rel N base (updM ρ 2 ⟨.slice (some ⟨g,0,none⟩) (es.filter pt).length cap,fp',[]⟩) [.dead,b1,.arr el sz fr (es.filter pt)] w'/\
   Keeps ρ w (Free N ρ [.arr el sz fr es,b1]) (updM ρ 2 ⟨.slice (some ⟨g,0,none⟩) (es.filter pt).length cap,fp',[]⟩) w' (Free N (updM ρ 2 ⟨.slice (some ⟨g,0,none⟩) (es.filter pt).length cap,fp',[]⟩) [.dead,b1,.arr el sz fr (es.filter pt)])/\
   ∀g,g<w.heap.size->¬N.a g->w'.heap[g]?=w.heap[g]?:=by
 have hb:gt [Blk.arr el sz fr es,b1] 0=.arr el sz fr es:=by simp[gt]
 have hd:gt [Blk.arr el sz fr es,b1] 0≠.dead:=by rw[hb];intro hc;cases hc
 obtain⟨r1,h1,h2⟩:=R.blk 0 hd;rw[hr]at h1;cases h1;rw[hb]at h2;obtain⟨hex,e2,xs,hel,ho,hsz,hlen,htr,hfree,hfr,how⟩:=h2;obtain⟨hxl,ho⟩:=ho;rcases ho with⟨ho,_⟩|⟨g2,cap2,cur2,ho,hbg,hg2,hcap,hcm,hcur,htake⟩
 .simp_all
 rw[hrv]at ho;cases ho;rw[hg]at hg2;cases hg2;have hblk:Xm r.v=some g:=by rw[hrv];rfl
 obtain⟨fp',hsub,hch2⟩:=hch.filter hp;have hnew:=hch2.flat;have hset:∀x∈es.filter pt,x.length=sz:=λx hx=>hlen x (Ybc.1 hx).1
 have hle:(es.filter pt).length<=es.length:=Ybs _ _;have hfl:(zs.filter pv).flatten.length=(es.filter pt).length*sz:=by rw[<-hnew.length,Vu hset]
 have hmul2:es.length*sz<=cap*sz:=Ybd _ hcap;have hmul3:(es.filter pt).length*sz<=es.length*sz:=Ybd _ hle;have hz2:zr.length=es.length*sz-(es.filter pt).length*sz:=by rw[hz,Nat.sub_mul]
 have hlt1:=htr.lt;have hgx:∀x∈fp',x∈r.fp:=λx hx=>hsub.subset hx
 obtain⟨c2,hg2,hc2⟩:=hcs;have hup:upd [Blk.arr el sz fr es,b1] (kill [0]++[(2,.arr el sz fr (es.filter pt))])=[.dead,b1,.arr el sz fr (es.filter pt)]:=by simp[upd,kill,stB]
 have hp:=UW R (n:=2) (ks:=[0]) (x:=.arr el sz fr (es.filter pt)) (r:=⟨.slice (some ⟨g,0,none⟩) (es.filter pt).length cap,fp',[]⟩) (row:=some g) (w':=w')
  (by intro r0 h0;rw[hdom 2 (Yh _)]at h0;cases h0) hgr
  (by intro g' hg';cases hg';exact⟨0,.inl (by simp),r,hr,hd,.inl hblk⟩)
  (by intro g' hg';cases hg';exact .inr ⟨0,.inl (by simp),r,hr,hd,.inl hblk⟩)
  (λhk=>by
   have hall:∀g'∈fp',Free N (updM ρ 2 ⟨.slice (some ⟨g,0,none⟩) (es.filter pt).length cap,fp',[]⟩) (upd [Blk.arr el sz fr es,b1] (kill [0]++[(2,.arr el sz fr (es.filter pt))])) g'/\w'.heap[g']?=w.heap[g']?:=λg' hg'=>hk.free g' (hlt1 g' (hgx g' hg')) (hfree g' (hgx g' hg'))
   refine⟨rfl,e',(zs.filter pv).flatten,hel,⟨hfl,.inr ⟨g,cap,c2,rfl,hbg,hg2,by omega,hcm,?_,?_⟩⟩,hsz,hset,hnew.frame λg' hg'=>(hall g' hg').2,λg' hg'=>(hall g' hg').1,?_,λhff=>?_⟩
   .grind
   .simp_all
   .grind
   .have ho:=how hff;rw[<-htake,<-hzf]at ho
    exact(hch.own hp ho).frame hnew λg' hg'=>(hall g' hg').2)
  (by
   intro hff x hx d rd hdk hdn hrd hfd
   match d with
   |0=>simp at hdk
   |1=>simp[gt,hf1]at hfd
   |2=>exact absurd rfl hdn
   |d+3=>rw[hdom (d+3) (by omega)]at hrd;cases hrd)
 grind
theorem fltN_rel(R:Rel N base ρ [.arr el sz fr [],b1] w)(hr:ρ 0=some r)(hdom:∀b,2<=b->ρ b=none)(hgr:w.grownBy w' none) :
  Rel N base (updM ρ 2 ⟨.slice none 0 0,[],[]⟩) [.dead,b1,.arr el sz fr []] w'/\
   Keeps ρ w (Free N ρ [.arr el sz fr [],b1]) (updM ρ 2 ⟨.slice none 0 0,[],[]⟩) w' (Free N (updM ρ 2 ⟨.slice none 0 0,[],[]⟩) [.dead,b1,.arr el sz fr []])/\
   ∀g,g<w.heap.size->¬N.a g->w'.heap[g]?=w.heap[g]?:=by
 have hb:gt [Blk.arr el sz fr [],b1] 0=.arr el sz fr []:=by simp[gt]
 have hd:gt [Blk.arr el sz fr [],b1] 0≠.dead:=by rw[hb];intro hc;cases hc
 obtain⟨r1,h1,h2⟩:=R.blk 0 hd;rw[hr]at h1;cases h1;rw[hb]at h2;obtain⟨hex,e2,xs,hel,ho,hsz,hlen,htr,hfree,hfr,how⟩:=h2;have hup:upd [Blk.arr el sz fr [],b1] (kill [0]++[(2,.arr el sz fr [])])=[.dead,b1,.arr el sz fr []]:=by simp[upd,kill,stB]
 have hp:=UW R (n:=2) (ks:=[0]) (x:=.arr el sz fr []) (r:=⟨.slice none 0 0,[],[]⟩) (row:=none) (w':=w')
  (by intro r0 h0;rw[hdom 2 (Yh _)]at h0;cases h0) hgr
  (by intro g' hg';cases hg') (by intro g' hg';cases hg')
  (λhk=>⟨rfl,e2,[],hel,⟨by simp,.inl ⟨rfl,rfl⟩⟩,hsz,(by intro x hx;cases hx),.nil,(by intro x hx;cases hx),λ_=>⟨.nil,by intro x hx;cases hx⟩,λ_=>.nil⟩)
  (by intro _ x hx;cases hx)
 rw[hup]at hp;exact hp
open Go.RowKit (Below)
variable{w w':World}{es:V5}{N:Par}{base el sz g cap e':Nat}{ρ:Map}{fr:Bool}{r:Root}{cur:Array Value}{l l':List (UD×UC×UB)}
theorem Ch.zip{zs:List (UC)}{fp:UB}(h:Ch w es zs fp):∃l:List (UD×UC×UB),l.map (·.1)=es/\l.map (·.2.1)=zs/\(l.map (·.2.2)).flatten=fp/\∀p∈l,TRs w p.1 p.2.1 p.2.2:=by
 induction h with
 |nil=>exact⟨[],rfl,rfl,rfl,by simp⟩
 |@cons e z f es zs fq h _ ih =>
  obtain⟨l,h1,h2,h3,h4⟩:=ih;refine⟨(e,z,f)::l,by simp[h1],by simp[h2],by simp[h3],λp hp=>?_⟩;rcases Y3.1 hp with e|e
  .rw[e];exact h
  .exact h4 p e
theorem Ch.mk{w:World}:∀l:List (UD×UC×UB),(∀p∈l,TRs w p.1 p.2.1 p.2.2)->Ch w (l.map (·.1)) (l.map (·.2.1)) (l.map (·.2.2)).flatten
 |[],_=>.nil
 |p::l,h=>by
  simp only[Yx,Y5];exact .cons (h p (by simp)) (Ch.mk l λq hq=>h q (by simp[hq]))
theorem OWs.each{w:World}{base:Nat}:∀l:List (UD×UC×UB),(∀p∈l,TRs w p.1 p.2.1 p.2.2)->(OWs w base (l.map (·.1)).flatten (l.map (·.2.1)).flatten↔∀p∈l,OWs w base p.1 p.2.1)
 |[],_=>by simp;exact .nil
 |p::l,h=>by
  have ih:=OWs.each (base:=base) l λq hq=>h q (by simp[hq])
  have hl:=(h p (by simp)).length;simp only[Yx,Y5];constructor
  .intro ho q hq;have h2:=ho.split;rw[hl,Ycb rfl,List.drop_left' rfl]at h2;rcases Y3.1 hq with e|e
   .rw[e];exact h2.1
   .exact ih.1 h2.2 q e
  .intro ho;exact(ho p (by simp)).append (ih.2 λq hq=>ho q (by simp[hq]))
theorem Zx7(R:Rel N base ρ [.arr el sz fr es] w)(hr:ρ 0=some r)(hdom:∀b,1<=b->ρ b=none)(hrv:r.v=.slice (some ⟨g,0,none⟩) es.length cap)(hg:w.heap[g]?=some (.cells cur e' (0,0)))(h1:l.map (·.1)=es)(h2:(l.map (·.2.1)).flatten=cur.toList.take (es.length*sz))(h3:(l.map (·.2.2)).flatten=r.fp)(h4:∀p∈l,TRs w p.1 p.2.1 p.2.2)(hp:l'.Perm l)
  (hcs:∃c2,w'.heap[g]?=some (.cells c2 e' (0,0))/\c2.toList=(l'.map (·.2.1)).flatten++cur.toList.drop (es.length*sz)) (hgr:w.grownBy w' (some g)) :
  Rel N base (updM ρ 0 ⟨r.v,(l'.map (·.2.2)).flatten,[]⟩) [.arr el sz fr (l'.map (·.1))] w'/\
   Keeps ρ w (Free N ρ [.arr el sz fr es]) (updM ρ 0 ⟨r.v,(l'.map (·.2.2)).flatten,[]⟩) w' (Free N (updM ρ 0 ⟨r.v,(l'.map (·.2.2)).flatten,[]⟩) [.arr el sz fr (l'.map (·.1))])/\
   ∀g,g<w.heap.size->¬N.a g->w'.heap[g]?=w.heap[g]?:=by
 have hb:gt [Blk.arr el sz fr es] 0=.arr el sz fr es:=by simp[gt]
 have hd:gt [Blk.arr el sz fr es] 0≠.dead:=by rw[hb];intro hc;cases hc
 obtain⟨r1,e1,e2⟩:=R.blk 0 hd;rw[hr]at e1;cases e1;rw[hb]at e2;obtain⟨hex,e2,xs,hel,ho,hsz,hlen,htr,hfree,hfr,how⟩:=e2;obtain⟨hxl,ho⟩:=ho;rcases ho with⟨ho,_⟩|⟨g2,cap2,cur2,ho,hbg,hg2,hcap,hcm,hcur,htake⟩
 .rw[hrv]at ho;cases ho
 rw[hrv]at ho;cases ho;rw[hg]at hg2;cases hg2;have hblk:Xm r.v=some g:=by rw[hrv];rfl
 have h4':∀p∈l',TRs w p.1 p.2.1 p.2.2:=λp hq=>h4 p (hp.mem_iff.1 hq)
 have hnew:=(Ch.mk l' h4').flat;have hpe:(l'.map (·.1)).Perm es:=by rw[<-h1];exact hp.map _
 have hpf:((l'.map (·.2.2)).flatten).Perm r.fp:=by rw[<-h3];exact(hp.map _).flatten
 have hpl:(l'.map (·.1)).length=es.length:=hpe.length_eq;have hset:∀x∈l'.map (·.1),x.length=sz:=λx hx=>hlen x (hpe.mem_iff.1 hx)
 have hfl:(l'.map (·.2.1)).flatten.length=es.length*sz:=by rw[<-hnew.length,Vu hset,hpl]
 have hlt1:=htr.lt;have hgx:∀x∈(l'.map (·.2.2)).flatten,x∈r.fp:=λx hx=>hpf.mem_iff.1 hx
 obtain⟨c2,hg2,hc2⟩:=hcs;have hmul2:es.length*sz<=cap*sz:=Ybd _ hcap;have hup:upd [Blk.arr el sz fr es] (kill []++[(0,.arr el sz fr (l'.map (·.1)))])=[.arr el sz fr (l'.map (·.1))]:=by simp[upd,kill,stB]
 have hpr:=UW R (n:=0) (ks:=[]) (x:=.arr el sz fr (l'.map (·.1))) (r:=⟨r.v,(l'.map (·.2.2)).flatten,[]⟩) (row:=some g) (w':=w')
  (by intro r0 h0;rw[hr]at h0;cases h0;rfl) hgr
  (by intro g' hg';cases hg';exact⟨0,.inr rfl,r,hr,hd,.inl hblk⟩)
  (by intro g' hg';exact .inr ⟨0,.inr rfl,r,hr,hd,.inl hg'⟩)
  (λhk=>by
   have hall:∀g'∈(l'.map (·.2.2)).flatten,Free N (updM ρ 0 ⟨r.v,(l'.map (·.2.2)).flatten,[]⟩) (upd [Blk.arr el sz fr es] (kill []++[(0,.arr el sz fr (l'.map (·.1)))])) g'/\w'.heap[g']?=w.heap[g']?:=λg' hg'=>hk.free g' (hlt1 g' (hgx g' hg')) (hfree g' (hgx g' hg'))
   refine⟨rfl,e',(l'.map (·.2.1)).flatten,hel,⟨by rw[hfl,hpl],.inr ⟨g,cap,c2,by rw[hpl];exact hrv,hbg,hg2,by omega,hcm,?_,?_⟩⟩,hsz,hset,hnew.frame λg' hg'=>(hall g' hg').2,λg' hg'=>(hall g' hg').1,?_,λhff=>?_⟩
   .rw[<-Yv,hc2];simp only[Yn,Ybj,Yv,hcur,hfl];omega
   .rw[hc2,hpl];exact Ycb hfl
   .intro hff;have h1:=hfr hff;exact⟨hpf.nodup_iff.2 h1.1,λx hx=>h1.2 x (hgx x hx)⟩
   .have ho:=how hff;rw[<-htake,<-h2,<-h1]at ho
    exact((OWs.each l' h4').2 λp hq=>(OWs.each l h4).1 ho p (hp.mem_iff.1 hq)).frame hnew λg' hg'=>(hall g' hg').2)
  (by
   intro hff x hx d rd hdk hdn hrd hfd
   match d with
   |0=>exact absurd rfl hdn
   |d+1=>rw[hdom (d+1) (by omega)]at hrd;cases hrd)
 rw[hup]at hpr;exact hpr
theorem sub_flat{α:Type}{a b:List (List α)}(h:a.Sublist b):a.flatten.Sublist b.flatten:=by
 induction h with
 |slnil=>exact .slnil
 |cons x _ ih=>rw[Y5];exact ih.trans (List.sublist_append_right _ _)
 |cons_cons x _ ih=>rw[Y5,Y5];exact(List.Sublist.refl _).append ih
theorem Zx8(R:Rel N base ρ [.arr el sz fr es] w)(hr:ρ 0=some r)(hdom:∀b,1<=b->ρ b=none)(hrv:r.v=.slice (some ⟨g,0,none⟩) es.length cap)(hg:w.heap[g]?=some (.cells cur e' (0,0)))(h1:l.map (·.1)=es)(h2:(l.map (·.2.1)).flatten=cur.toList.take (es.length*sz))(h3:(l.map (·.2.2)).flatten=r.fp)(h4:∀p∈l,TRs w p.1 p.2.1 p.2.2)(hp:l'.Sublist l){zr:UC}(hzr:zr.length=(es.length-l'.length)*sz)
  (hcs:∃c2,w'.heap[g]?=some (.cells c2 e' (0,0))/\c2.toList=(l'.map (·.2.1)).flatten++zr++cur.toList.drop (es.length*sz)) (hgr:w.grownBy w' (some g)) :
  Rel N base (updM ρ 1 ⟨.slice (some ⟨g,0,none⟩) l'.length cap,(l'.map (·.2.2)).flatten,[]⟩) [.dead,.arr el sz fr (l'.map (·.1))] w'/\
   Keeps ρ w (Free N ρ [.arr el sz fr es]) (updM ρ 1 ⟨.slice (some ⟨g,0,none⟩) l'.length cap,(l'.map (·.2.2)).flatten,[]⟩) w' (Free N (updM ρ 1 ⟨.slice (some ⟨g,0,none⟩) l'.length cap,(l'.map (·.2.2)).flatten,[]⟩) [.dead,.arr el sz fr (l'.map (·.1))])/\
   ∀g,g<w.heap.size->¬N.a g->w'.heap[g]?=w.heap[g]?:=by
 have hb:gt [Blk.arr el sz fr es] 0=.arr el sz fr es:=by simp[gt]
 have hd:gt [Blk.arr el sz fr es] 0≠.dead:=by rw[hb];intro hc;cases hc
 obtain⟨r1,e1,e2⟩:=R.blk 0 hd;rw[hr]at e1;cases e1;rw[hb]at e2;obtain⟨hex,e2,xs,hel,ho,hsz,hlen,htr,hfree,hfr,how⟩:=e2;obtain⟨hxl,ho⟩:=ho;rcases ho with⟨ho,_⟩|⟨g2,cap2,cur2,ho,hbg,hg2,hcap,hcm,hcur,htake⟩
 .rw[hrv]at ho;cases ho
 rw[hrv]at ho;cases ho;rw[hg]at hg2;cases hg2;have hblk:Xm r.v=some g:=by rw[hrv];rfl
 have h4':∀p∈l',TRs w p.1 p.2.1 p.2.2:=λp hq=>h4 p (hp.subset hq)
 have hnew:=(Ch.mk l' h4').flat;have hpe:(l'.map (·.1)).Sublist es:=by rw[<-h1];exact hp.map _
 have hpf:((l'.map (·.2.2)).flatten).Sublist r.fp:=by rw[<-h3];exact sub_flat (hp.map _)
 have hpl:(l'.map (·.1)).length=l'.length:=Y9 _;have hle:l'.length<=es.length:=by rw[<-hpl];exact hpe.length_le
 have hset:∀x∈l'.map (·.1),x.length=sz:=λx hx=>hlen x (hpe.subset hx)
 have hfl:(l'.map (·.2.1)).flatten.length=l'.length*sz:=by rw[<-hnew.length,Vu hset,hpl]
 have hz2:zr.length=es.length*sz-l'.length*sz:=by rw[hzr,Nat.sub_mul]
 have hmul3:l'.length*sz<=es.length*sz:=Ybd _ hle;have hlt1:=htr.lt;have hgx:∀x∈(l'.map (·.2.2)).flatten,x∈r.fp:=λx hx=>hpf.subset hx
 obtain⟨c2,hg2,hc2⟩:=hcs;have hmul2:es.length*sz<=cap*sz:=Ybd _ hcap;have hup:upd [Blk.arr el sz fr es] (kill [0]++[(1,.arr el sz fr (l'.map (·.1)))])=[.dead,.arr el sz fr (l'.map (·.1))]:=by simp[upd,kill,stB]
 have hpr:=UW R (n:=1) (ks:=[0]) (x:=.arr el sz fr (l'.map (·.1))) (r:=⟨.slice (some ⟨g,0,none⟩) l'.length cap,(l'.map (·.2.2)).flatten,[]⟩) (row:=some g) (w':=w')
  (by intro r0 h0;rw[hdom 1 (Yh _)]at h0;cases h0) hgr
  (by intro g' hg';cases hg';exact⟨0,.inl (by simp),r,hr,hd,.inl hblk⟩)
  (by intro g' hg';cases hg';exact .inr ⟨0,.inl (by simp),r,hr,hd,.inl hblk⟩)
  (λhk=>by
   have hall:∀g'∈(l'.map (·.2.2)).flatten,Free N (updM ρ 1 ⟨.slice (some ⟨g,0,none⟩) l'.length cap,(l'.map (·.2.2)).flatten,[]⟩) (upd [Blk.arr el sz fr es] (kill [0]++[(1,.arr el sz fr (l'.map (·.1)))])) g'/\w'.heap[g']?=w.heap[g']?:=λg' hg'=>hk.free g' (hlt1 g' (hgx g' hg')) (hfree g' (hgx g' hg'))
   refine⟨rfl,e',(l'.map (·.2.1)).flatten,hel,⟨by rw[hfl,hpl],.inr ⟨g,cap,c2,by rw[hpl],hbg,hg2,by omega,hcm,?_,?_⟩⟩,hsz,hset,hnew.frame λg' hg'=>(hall g' hg').2,λg' hg'=>(hall g' hg').1,?_,λhff=>?_⟩
   .rw[<-Yv,hc2];simp only[Yn,Ybj,Yv,hcur,hz2,hfl];omega
   .rw[hc2,hpl,Ybo];exact Ycb hfl
   .intro hff;have h1:=hfr hff;exact⟨List.Nodup.sublist hpf h1.1,λx hx=>h1.2 x (hgx x hx)⟩
   .have ho:=how hff;rw[<-htake,<-h2,<-h1]at ho
    exact((OWs.each l' h4').2 λp hq=>(OWs.each l h4).1 ho p (hp.subset hq)).frame hnew λg' hg'=>(hall g' hg').2)
  (by
   intro hff x hx d rd hdk hdn hrd hfd
   match d with
   |0=>simp at hdk
   |1=>exact absurd rfl hdn
   |d+2=>rw[hdom (d+2) (by omega)]at hrd;cases hrd)
 rw[hup]at hpr;exact hpr
open Go.RowKit (Below)
section
variable{P:Program}{N:Par}{base:Nat}{ρ:Map}{h:UA}{w:World}
theorem Zbh(n b:Nat):gt (List.replicate n Blk.dead) b=.dead:=by
 unfold gt
 grind
theorem Zx9:∀(l:UA) (x:Blk),stB l l.length x=l++[x]
 |[],x=>by simp[stB]
 |b::l,x=>by simp[stB,Zx9 l x]
theorem ZxA(n:Nat):∀(hr:UA) (i:Nat) (l:UA),l.length=n+i->upd l (newU n hr i)=l++hr.map (renB λc=>c+n)
 |[],i,l,_=>by simp[newU,upd]
 |b::hr,i,l,hl=>by
  simp only[newU,upd,<-hl];rw[Zx9,ZxA n hr (i+1) _ (by simp[hl];omega)];simp
theorem Z9k(hr:UA)(n:Nat):upd (List.replicate n Blk.dead) (newU n hr 0)=List.replicate n Blk.dead++hr.map (renB λc=>c+n):=ZxA n hr 0 _ (by simp)
theorem Z9l{f:Nat}{vs as:V2}{h0:UA}{r:AV}{hr:UA}(hp:vs.all givA=true)(hfz:frzs h0 vs=some as)(hG:Xr P f as [] r hr) :
  Xr P f vs h0 (shift h0.length r) (List.replicate h0.length .dead++hr.map (renB λc=>c+h0.length)):=by
 refine⟨hG.1,?_⟩;intro N base w ρ vals R hdom hv hz;have hA:=Zni R hp hfz hv;have R0:Rel N base ρ (List.replicate h0.length .dead) w:=⟨R.hb,R.hN,λb r g _ hd=>absurd (Zbh _ b) hd,λb hd=>absurd (Zbh _ b) hd,λb b' r r' g _ _ hd=>absurd (Zbh _ b) hd,λb b' r r' g _ _ hf=>by rw[Zbh]at hf;cases hf⟩;refine(hG.data w N.a vals hA).mono ?_;rintro e w' ⟨val,ρc,rfl,hB,hRc,hv',hdc⟩;have J:JoinH N N.a base ρ (List.replicate h0.length .dead) w ρc hr w' h0.length:=⟨R0,hB,hRc,λb hb _=>hdom b hb,hdc,.inl λg hg=>⟨hg,λb r _ hd=>absurd (Zbh _ b) hd⟩⟩;have e1:=Z9k hr h0.length;have jr:=J.rel;have jv:=J.val hv' (.inl λg hg=>⟨hg,λb r _ hd=>absurd (Zbh _ b) hd⟩);have jk:=J.keeps;rw[e1]at jr jv jk;refine⟨val,W0 ρ ρc h0.length hr.length,rfl,hB.mono R.hb,jr,jv,?_,by simp,λg hg _=>hB.block g hg,λg hg hzz=>?_,?_⟩
 .intro b hb;simp at hb;simp only[W0]
  grind
 .exact jk.free g hg ⟨(hz g hzz).1,λb r _ hd=>absurd (Zbh _ b) hd⟩
 .intro b r0 hb hr0;exact⟨r0,by simp only[W0];rw[Ynx];exact hr0,rfl⟩
end
variable{C:ZG}{g f:Nat}{P:Program}{h0 hr:UA}{r:AV}
theorem Z9m{tbl:Nat->Option MFun}(hT:TblOK P tbl)(hC:∀f as h0 r hr,C f as h0=some (r,hr)->Xr P f as h0 r hr){as:V2}{m:MFun}(ht:tbl f=some m)(hl:as.length=m.np)
  (h:Ev C [.fin h0.length m.res] m.body ⟨UT as 0,[UU h0 0],h0⟩=some (r,hr)):Xr P f as h0 r hr:=by
 obtain⟨n,h⟩:=Zn2 h;obtain⟨fn,ks,inl,h1,h2,h3⟩:=hT f m ht;have hW:=runN_W (Γ:=Xr P) hC n m.body _ _ h;refine ZwT h1 h3 h2 ⟨hl,?_⟩;refine Us m.body (λx s hq=>?_) hW;obtain⟨k,hk,h4⟩:=hq;obtain⟨k,rfl⟩:=Zbf h4;have fin:finE h0.length m.res s=some (r,hr)->∀x,(∀i,x≠.x i)->K5 m.res (λv s=>ZeH m.res h0.length v s=some (r,hr)) x s:=by
  intro hf x hx;unfold finE at hf
  cases x with
  |x i=>exact absurd rfl (hx i)
  |n =>
   simp only[K5]
   grind
  |r =>
   simp only[K5]
   grind
 cases x with
 |n=>exact fin h4 _ (λi hc=>by cases hc)
 |r=>exact fin h4 _ (λi hc=>by cases hc)
 |x i=>simp only[runN,step]at h4;cases h4
noncomputable def give(C:ZG)(g:Nat):ZG:=λf vs h0=>if f=g/\h0≠[]then(if vs.all givA=true then(match frzs h0 vs with
 |some d=>(match C g d []with
  |some (r,hr)=>some (shift h0.length r,List.replicate h0.length .dead++hr.map (renB λc=>c+h0.length))
  |none=>none)
 |none=>none)else none)else C f vs h0
theorem give_ok(hC:∀f as h0 r hr,C f as h0=some (r,hr)->Xr P f as h0 r hr)(f:Nat)(as:V2)(h0:UA)(r:AV)(hr:UA)(h:give C g f as h0=some (r,hr)):Xr P f as h0 r hr:=by
 unfold give at h
 grind [Z9l]
theorem Zn5(h:f≠g)(vs:V2)(h0:UA):give C g f vs h0=C f vs h0:=by simp[give,h]
theorem give_at{vs d:V2}{b:Blk}(hp:vs.all givA=true)(hd:frzs (b::h0) vs=some d)(hc:C g d []=some (r,hr)) :
  give C g g vs (b::h0)=some (shift (h0.length+1) r,List.replicate (h0.length+1) .dead++hr.map (renB λc=>c+(h0.length+1))):=by
 unfold give
 simp_all
end Go.AM
