/-
  Parts of the proofs for this seat: AMFlt AMPerm.
-/
import Derived.Test.YtobfkfgdneeabaaGreatP1
set_option linter.all false
namespace Go.AM
open Go.RowKit (Below)
inductive Ch (w:World):WA->List (V5)->V4->Prop
 |nil:Ch w [] [] []
 |cons {e:V6} {z:V5} {f:V4} {es:WA} {zs:List (V5)} {fq:V4} (h:AS w e z f) (hs:Ch w es zs fq):Ch w (e::es) (z::zs) (f++fq)
variable{w:World}{es:WA}{fp:V4}{zs:List (V5)}
theorem Ch.of{xs:V5}(h:AS w es.flatten xs fp):∃zs,zs.flatten=xs/\Ch w es zs fp:=by
 induction es generalizing xs fp with
 |nil=>cases h;exact⟨[],rfl,.nil⟩
 |cons e es ih =>
  rw[C1]at h;obtain⟨fa,fb,rfl,h1,h2⟩:=h.split;obtain⟨zs,e1,e2⟩:=ih h2;exact⟨_::zs,by rw[C1,e1,Yb2],.cons h1 e2⟩
theorem Ch.flat(h:Ch w es zs fp):AS w es.flatten zs.flatten fp:=by
 induction h with
 |nil=>exact .nil
 |cons h _ ih=>exact h.append ih
theorem Ch.length(h:Ch w es zs fp):zs.length=es.length:=by
 induction h with
 |nil=>rfl
 |cons _ _ ih=>rw[Ys,Ys,ih]
theorem Ch.mem(h:Ch w es zs fp){z:V5}(hz:z∈zs):∃e f,e∈es/\AS w e z f:=by
 induction h with
 |nil=>cases hz
 |cons h _ ih =>
  grind
theorem Ch.filter{pt:V6->Bool}{pv:V5->Bool}(h:Ch w es zs fp)(hp:∀e∈es,∀z f,AS w e z f->pv z=pt e) :
  ∃fp',fp'.Sublist fp/\Ch w (es.filter pt) (zs.filter pv) fp':=by
 induction h with
 |nil=>exact⟨[],.slnil,.nil⟩
 |@cons e z f es zs fq h _ ih =>
  obtain⟨fp',h1,h2⟩:=ih λe he=>hp e (.tail _ he)
  have hpe:=hp e (.head _) z f h
  cases hq:pt e with
  |true =>
   rw[cS hq,cS (by rw[hpe,hq])]
   exact⟨f++fp',(List.Sublist.refl f).append h1,.cons h h2⟩
  |false =>
   grind
open Go.RowKit (Below)
variable{w w':World}{es:WA}{N:Bv}{base el sz g cap e':Nat}{ρ:Map}{fr:Bool}{r:Root}{cur:Array Value}{l l':List (V6×V5×V4)}
theorem Ch.zip{zs:List (V5)}{fp:V4}(h:Ch w es zs fp):∃l:List (V6×V5×V4),l.map (·.1)=es/\l.map (·.2.1)=zs/\(l.map (·.2.2)).flatten=fp/\∀p∈l,AS w p.1 p.2.1 p.2.2:=by
 induction h with
 |nil=>exact⟨[],rfl,rfl,rfl,Z⟩
 |@cons e z f es zs fq h _ ih =>
  obtain⟨l,h1,h2,h3,h4⟩:=ih;refine⟨(e,z,f)::l,by simp[h1],by simp[h2],by simp[h3],λp hp=>?_⟩;rcases Yy.1 hp with e|e
  .rw[e];exact h
  .exact h4 p e
theorem Ch.mk{w:World}:∀l:List (V6×V5×V4),(∀p∈l,AS w p.1 p.2.1 p.2.2)->Ch w (l.map (·.1)) (l.map (·.2.1)) (l.map (·.2.2)).flatten
 |[],_=>.nil
 |p::l,h=>by
  simp only[Yv,C1];exact .cons (h p Z) (Ch.mk l λq hq=>h q (by simp[hq]))
theorem Z5M(R:Rel N base ρ [.arr el sz fr es] w)(hr:ρ 0=some r)(hdom:∀b,1<=b->ρ b=none)(Bh:r.v=.slice (some ⟨g,0,none⟩) es.length cap)(hg:w.heap[g]?=some (.cells cur e' (0,0)))(h1:l.map (·.1)=es)(h2:(l.map (·.2.1)).flatten=cur.toList.take (es.length*sz))(h3:(l.map (·.2.2)).flatten=r.fp)(h4:∀p∈l,AS w p.1 p.2.1 p.2.2)(hp:l'.Perm l)
  (hcs:∃c2,w'.heap[g]?=some (.cells c2 e' (0,0))/\c2.toList=(l'.map (·.2.1)).flatten++cur.toList.drop (es.length*sz)) (hgr:w.grownBy w' (some g)) :
  Rel N base (Au ρ 0 ⟨r.v,(l'.map (·.2.2)).flatten⟩) [.arr el sz fr (l'.map (·.1))] w'/\
   Xr ρ w (Free N ρ [.arr el sz fr es]) (Au ρ 0 ⟨r.v,(l'.map (·.2.2)).flatten⟩) w' (Free N (Au ρ 0 ⟨r.v,(l'.map (·.2.2)).flatten⟩) [.arr el sz fr (l'.map (·.1))])/\
   ∀g,g<w.heap.size->¬N.a g->w'.heap[g]?=w.heap[g]?:=by
 have hb:gt [AF.arr el sz fr es] 0=.arr el sz fr es:=by simp[gt]
 have hd:gt [AF.arr el sz fr es] 0≠.dead:=by rw[hb];intro hc;cases hc
 obtain⟨r1,e1,e2⟩:=R.blk 0 hd;rw[hr]at e1;cases e1;rw[hb]at e2;obtain⟨e2,xs,hel,ho,hsz,hlen,htr,hfree,hfr⟩:=e2;obtain⟨hxl,ho⟩:=ho;rcases ho with⟨ho,_⟩|⟨g2,cap2,Aax,ho,hbg,hg2,hcap,hcm,DA,htake⟩
 .rw[Bh]at ho;cases ho
 rw[Bh]at ho;cases ho;rw[hg]at hg2;cases hg2;have hblk:Xe r.v=some g:=by rw[Bh];rfl
 have h4':∀p∈l',AS w p.1 p.2.1 p.2.2:=λp hq=>h4 p (hp.mem_iff.1 hq)
 have hnew:=(Ch.mk l' h4').flat;have hpe:(l'.map (·.1)).Perm es:=by rw[<-h1];exact hp.map _
 have fN:((l'.map (·.2.2)).flatten).Perm r.fp:=by rw[<-h3];exact(hp.map _).flatten
 have hpl:(l'.map (·.1)).length=es.length:=hpe.length_eq;have hset:∀x∈l'.map (·.1),x.length=sz:=λx hx=>hlen x (hpe.mem_iff.1 hx)
 have hfl:(l'.map (·.2.1)).flatten.length=es.length*sz:=by rw[<-hnew.length,Jp hset,hpl]
 have hlt1:=htr.lt;have hgx:∀x∈(l'.map (·.2.2)).flatten,x∈r.fp:=λx hx=>fN.mem_iff.1 hx
 obtain⟨c2,hg2,hc2⟩:=hcs;have HI:es.length*sz<=cap*sz:=DI _ hcap;have hup:upd [AF.arr el sz fr es] (kill []++[(0,.arr el sz fr (l'.map (·.1)))])=[.arr el sz fr (l'.map (·.1))]:=by simp[upd,kill,stB]
 have hpr:=Jn R (n:=0) (ks:=[]) (x:=.arr el sz fr (l'.map (·.1))) (r:=⟨r.v,(l'.map (·.2.2)).flatten⟩) (row:=some g) (w':=w')
  (by intro r0 h0;rw[hr]at h0;cases h0;rfl) hgr
  (by intro g' hg';cases hg';exact⟨0,.inr rfl,r,hr,hd,hblk⟩)
  (by intro g' hg';exact .inr ⟨0,.inr rfl,r,hr,hd,hg'⟩)
  (λhk=>by
   have hall:∀g'∈(l'.map (·.2.2)).flatten,Free N (Au ρ 0 ⟨r.v,(l'.map (·.2.2)).flatten⟩) (upd [AF.arr el sz fr es] (kill []++[(0,.arr el sz fr (l'.map (·.1)))])) g'/\w'.heap[g']?=w.heap[g']?:=λg' hg'=>hk.free g' (hlt1 g' (hgx g' hg')) (hfree g' (hgx g' hg'))
   refine⟨e',(l'.map (·.2.1)).flatten,hel,⟨by rw[hfl,hpl],.inr ⟨g,cap,c2,by rw[hpl];exact Bh,hbg,hg2,E,hcm,?_,?_⟩⟩,hsz,hset,hnew.frame λg' hg'=>(hall g' hg').2,λg' hg'=>(hall g' hg').1,?_⟩
   .rw[<-Y3,hc2];simp only[Yo,Ry,Y3,DA,hfl];omega
   .rw[hc2,hpl];exact List.take_left' hfl
   .intro B0;have h1:=hfr B0
    exact⟨fN.nodup_iff.2 h1.1,λx hx=>h1.2 x (hgx x hx)⟩)
  (by
   intro B0 x hx d rd hdk hdn hrd hfd
   match d with
   |0=>exact absurd rfl hdn
   |d+1=>rw[hdom (d+1) E]at hrd;cases hrd)
 rw[hup]at hpr;exact hpr
theorem Fi{α:Type}{a b:List (List α)}(h:a.Sublist b):a.flatten.Sublist b.flatten:=by
 induction h with
 |slnil=>exact .slnil
 |cons x _ ih=>rw[C1];exact ih.trans (List.sublist_append_right _ _)
 |cons_cons x _ ih=>rw[C1,C1];exact(List.Sublist.refl _).append ih
theorem Z5N(R:Rel N base ρ [.arr el sz fr es] w)(hr:ρ 0=some r)(hdom:∀b,1<=b->ρ b=none)(Bh:r.v=.slice (some ⟨g,0,none⟩) es.length cap)(hg:w.heap[g]?=some (.cells cur e' (0,0)))(h1:l.map (·.1)=es)(h2:(l.map (·.2.1)).flatten=cur.toList.take (es.length*sz))(h3:(l.map (·.2.2)).flatten=r.fp)(h4:∀p∈l,AS w p.1 p.2.1 p.2.2)(hp:l'.Sublist l){zr:V5}(hzr:zr.length=(es.length-l'.length)*sz)
  (hcs:∃c2,w'.heap[g]?=some (.cells c2 e' (0,0))/\c2.toList=(l'.map (·.2.1)).flatten++zr++cur.toList.drop (es.length*sz)) (hgr:w.grownBy w' (some g)) :
  Rel N base (Au ρ 1 ⟨.slice (some ⟨g,0,none⟩) l'.length cap,(l'.map (·.2.2)).flatten⟩) [.dead,.arr el sz fr (l'.map (·.1))] w'/\
   Xr ρ w (Free N ρ [.arr el sz fr es]) (Au ρ 1 ⟨.slice (some ⟨g,0,none⟩) l'.length cap,(l'.map (·.2.2)).flatten⟩) w' (Free N (Au ρ 1 ⟨.slice (some ⟨g,0,none⟩) l'.length cap,(l'.map (·.2.2)).flatten⟩) [.dead,.arr el sz fr (l'.map (·.1))])/\
   ∀g,g<w.heap.size->¬N.a g->w'.heap[g]?=w.heap[g]?:=by
 have hb:gt [AF.arr el sz fr es] 0=.arr el sz fr es:=by simp[gt]
 have hd:gt [AF.arr el sz fr es] 0≠.dead:=by rw[hb];intro hc;cases hc
 obtain⟨r1,e1,e2⟩:=R.blk 0 hd;rw[hr]at e1;cases e1;rw[hb]at e2;obtain⟨e2,xs,hel,ho,hsz,hlen,htr,hfree,hfr⟩:=e2;obtain⟨hxl,ho⟩:=ho;rcases ho with⟨ho,_⟩|⟨g2,cap2,Aax,ho,hbg,hg2,hcap,hcm,DA,htake⟩
 .rw[Bh]at ho;cases ho
 rw[Bh]at ho;cases ho;rw[hg]at hg2;cases hg2;have hblk:Xe r.v=some g:=by rw[Bh];rfl
 have h4':∀p∈l',AS w p.1 p.2.1 p.2.2:=λp hq=>h4 p (hp.subset hq)
 have hnew:=(Ch.mk l' h4').flat;have hpe:(l'.map (·.1)).Sublist es:=by rw[<-h1];exact hp.map _
 have fN:((l'.map (·.2.2)).flatten).Sublist r.fp:=by rw[<-h3];exact Fi (hp.map _)
 have hpl:(l'.map (·.1)).length=l'.length:=Y1 _;have hle:l'.length<=es.length:=by rw[<-hpl];exact hpe.length_le
 have hset:∀x∈l'.map (·.1),x.length=sz:=λx hx=>hlen x (hpe.subset hx)
 have hfl:(l'.map (·.2.1)).flatten.length=l'.length*sz:=by rw[<-hnew.length,Jp hset,hpl]
 have hz2:zr.length=es.length*sz-l'.length*sz:=by rw[hzr,Nat.sub_mul]
 have AbP:l'.length*sz<=es.length*sz:=DI _ hle;have hlt1:=htr.lt;have hgx:∀x∈(l'.map (·.2.2)).flatten,x∈r.fp:=λx hx=>fN.subset hx
 obtain⟨c2,hg2,hc2⟩:=hcs;have HI:es.length*sz<=cap*sz:=DI _ hcap;have hup:upd [AF.arr el sz fr es] (kill [0]++[(1,.arr el sz fr (l'.map (·.1)))])=[.dead,.arr el sz fr (l'.map (·.1))]:=by simp[upd,kill,stB]
 have hpr:=Jn R (n:=1) (ks:=[0]) (x:=.arr el sz fr (l'.map (·.1))) (r:=⟨.slice (some ⟨g,0,none⟩) l'.length cap,(l'.map (·.2.2)).flatten⟩) (row:=some g) (w':=w')
  (by intro r0 h0;rw[hdom 1 (Yi _)]at h0;cases h0) hgr
  (by intro g' hg';cases hg';exact⟨0,.inl Z,r,hr,hd,hblk⟩)
  (by intro g' hg';cases hg';exact .inr ⟨0,.inl Z,r,hr,hd,hblk⟩)
  (λhk=>by
   have hall:∀g'∈(l'.map (·.2.2)).flatten,Free N (Au ρ 1 ⟨.slice (some ⟨g,0,none⟩) l'.length cap,(l'.map (·.2.2)).flatten⟩) (upd [AF.arr el sz fr es] (kill [0]++[(1,.arr el sz fr (l'.map (·.1)))])) g'/\w'.heap[g']?=w.heap[g']?:=λg' hg'=>hk.free g' (hlt1 g' (hgx g' hg')) (hfree g' (hgx g' hg'))
   refine⟨e',(l'.map (·.2.1)).flatten,hel,⟨by rw[hfl,hpl],.inr ⟨g,cap,c2,by rw[hpl],hbg,hg2,E,hcm,?_,?_⟩⟩,hsz,hset,hnew.frame λg' hg'=>(hall g' hg').2,λg' hg'=>(hall g' hg').1,?_⟩
   .rw[<-Y3,hc2];simp only[Yo,Ry,Y3,DA,hz2,hfl];omega
   .rw[hc2,hpl,D6];exact List.take_left' hfl
   .intro B0;have h1:=hfr B0
    exact⟨List.Nodup.sublist fN h1.1,λx hx=>h1.2 x (hgx x hx)⟩)
  (by
   intro B0 x hx d rd hdk hdn hrd hfd
   match d with
   |0=>simp at hdk
   |1=>exact absurd rfl hdn
   |d+2=>rw[hdom (d+2) E]at hrd;cases hrd)
 rw[hup]at hpr;exact hpr
end Go.AM
