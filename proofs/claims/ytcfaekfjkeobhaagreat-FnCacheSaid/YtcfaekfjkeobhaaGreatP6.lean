/-
  Parts of the proofs for this seat: AMFlt.
-/
import Derived.Test.YtcfaekfjkeobhaaGreatP1
set_option linter.unusedSectionVars false
set_option linter.unusedSimpArgs false
set_option linter.unusedVariables false
namespace Go.AM
open Go.RowKit (Below)
inductive Ch (w:World):List (List T)->List (List Value)->List Nat->Prop
 |nil:Ch w [] [] []
 |cons {e:List T} {z:List Value} {f:List Nat} {es:List (List T)} {zs:List (List Value)} {fq:List Nat} (h:TRs w e z f) (hs:Ch w es zs fq):Ch w (e::es) (z::zs) (f++fq)
variable{w w':World}{es:List (List T)}{fp:List Nat}{zs:List (List Value)}{pt:List T->Bool}{pv:List Value->Bool}{base el sz:Nat}{N:Par}{ρ:Map}{fr:Bool}{b1:Blk}{r:Root}
theorem Ch.of{xs:List Value}(h:TRs w es.flatten xs fp):∃zs,zs.flatten=xs/\Ch w es zs fp:=by
 induction es generalizing xs fp with
 |nil=>cases h;exact⟨[],rfl,.nil⟩
 |cons e es ih =>
  rw[Ybi]at h;obtain⟨fa,fb,rfl,h1,h2⟩:=h.split;obtain⟨zs,e1,e2⟩:=ih h2;exact⟨_::zs,by rw[Ybi,e1,Ybl],.cons h1 e2⟩
theorem Ch.flat(h:Ch w es zs fp):TRs w es.flatten zs.flatten fp:=by
 induction h with
 |nil=>exact .nil
 |cons h _ ih=>exact h.append ih
theorem Ch.length(h:Ch w es zs fp):zs.length=es.length:=by
 induction h with
 |nil=>rfl
 |cons _ _ ih=>rw[Yx,Yx,ih]
theorem Ch.mem(h:Ch w es zs fp){z:List Value}(hz:z∈zs):∃e f,e∈es/\TRs w e z f:=by
 induction h with
 |nil=>cases hz
 |cons h _ ih =>
  cases hz with
  |head=>exact⟨_,_,.head _,h⟩
  |tail _ hz =>
   obtain⟨e,f,h1,h2⟩:=ih hz;exact⟨e,f,.tail _ h1,h2⟩
theorem Ch.filter(h:Ch w es zs fp)(hp:∀e∈es,∀z f,TRs w e z f->pv z=pt e) :
  ∃fp',fp'.Sublist fp/\Ch w (es.filter pt) (zs.filter pv) fp':=by
 induction h with
 |nil=>exact⟨[],.slnil,.nil⟩
 |@cons e z f es zs fq h _ ih =>
  obtain⟨fp',h1,h2⟩:=ih λe he=>hp e (.tail _ he)
  have hpe:=hp e (.head _) z f h
  cases hq:pt e with
  |true =>
   rw[Ycq hq,Ycq (by rw[hpe,hq])]
   exact⟨f++fp',(List.Sublist.refl f).append h1,.cons h h2⟩
  |false =>
   rw[Ycr (by rw[hq];decide),Ycr (by rw[hpe,hq];decide)];exact⟨fp',h1.trans (List.sublist_append_right f fq),h2⟩
theorem Ch.own(h:Ch w es zs fp)(hp:∀e∈es,∀z f,TRs w e z f->pv z=pt e)(ho:OWs w base es.flatten zs.flatten) :
  OWs w base (es.filter pt).flatten (zs.filter pv).flatten:=by
 induction h with
 |nil=>exact .nil
 |@cons e z f es zs fq h _ ih =>
  rw[Ybi,Ybi]at ho;have h2:=ho.split;rw[h.length,Ych rfl,List.drop_left' rfl]at h2;have h3:=ih (λe he=>hp e (.tail _ he)) h2.2;have hpe:=hp e (.head _) z f h
  cases hq:pt e with
  |true =>
   rw[Ycq hq,Ycq (by rw[hpe,hq])]
   exact h2.1.append h3
  |false =>
   rw[Ycr (by rw[hq];decide),Ycr (by rw[hpe,hq];decide)];exact h3
theorem flt_rel(R:Rel N base ρ [.arr el sz fr es,b1] w)(hf1:Zbf b1=false)(hr:ρ 0=some r)(hdom:∀b,2<=b->ρ b=none)
  {g cap e':Nat} {cur:Array Value} (hrv:r.v=.slice (some ⟨g,0,none⟩) es.length cap) (hg:w.heap[g]?=some (.cells cur e' (0,0))) (hch:Ch w es zs r.fp) (hzf:zs.flatten=cur.toList.take (es.length*sz)) (hp:∀e∈es,∀z f,TRs w e z f->pv z=pt e)
  {zr:List Value} (hz:zr.length=(es.length-(es.filter pt).length)*sz) (hcs:∃c2,w'.heap[g]?=some (.cells c2 e' (0,0))/\c2.toList=(zs.filter pv).flatten++zr++cur.toList.drop (es.length*sz))
  (hgr:w.grownBy w' (some g)) :
  ∃fp',Rel N base (updM ρ 2 ⟨.slice (some ⟨g,0,none⟩) (es.filter pt).length cap,fp',[]⟩) [.dead,b1,.arr el sz fr (es.filter pt)] w'/\
   Keeps ρ w (Free N ρ [.arr el sz fr es,b1]) (updM ρ 2 ⟨.slice (some ⟨g,0,none⟩) (es.filter pt).length cap,fp',[]⟩) w' (Free N (updM ρ 2 ⟨.slice (some ⟨g,0,none⟩) (es.filter pt).length cap,fp',[]⟩) [.dead,b1,.arr el sz fr (es.filter pt)])/\
   ∀g,g<w.heap.size->¬N.a g->w'.heap[g]?=w.heap[g]?:=by
 have hb:gt [Blk.arr el sz fr es,b1] 0=.arr el sz fr es:=by simp[gt]
 have hd:gt [Blk.arr el sz fr es,b1] 0≠.dead:=by rw[hb];intro hc;cases hc
 obtain⟨r1,h1,h2⟩:=R.blk 0 hd;rw[hr]at h1;cases h1;rw[hb]at h2;obtain⟨hex,e2,xs,hel,ho,hsz,hlen,htr,hfree,hfr,how⟩:=h2;obtain⟨hxl,ho⟩:=ho;rcases ho with⟨ho,_⟩|⟨g2,cap2,cur2,ho,hbg,hg2,hcap,hcm,hcur,htake⟩
 .rw[hrv]at ho;cases ho
 rw[hrv]at ho;cases ho;rw[hg]at hg2;cases hg2;have hblk:Zbm r.v=some g:=by rw[hrv];rfl
 obtain⟨fp',hsub,hch2⟩:=hch.filter hp;have hnew:=hch2.flat;have hset:∀x∈es.filter pt,x.length=sz:=λx hx=>hlen x (Y4.1 hx).1
 have hle:(es.filter pt).length<=es.length:=Ybr _ _;have hfl:(zs.filter pv).flatten.length=(es.filter pt).length*sz:=by rw[<-hnew.length,Zey hset]
 have hmul2:es.length*sz<=cap*sz:=Y5 _ hcap;have hmul3:(es.filter pt).length*sz<=es.length*sz:=Y5 _ hle;have hz2:zr.length=es.length*sz-(es.filter pt).length*sz:=by rw[hz,Nat.sub_mul]
 have hlt1:=htr.lt;have hgx:∀x∈fp',x∈r.fp:=λx hx=>hsub.subset hx
 obtain⟨c2,hg2,hc2⟩:=hcs;have hup:upd [Blk.arr el sz fr es,b1] (kill [0]++[(2,.arr el sz fr (es.filter pt))])=[.dead,b1,.arr el sz fr (es.filter pt)]:=by simp[upd,kill,stB]
 have hp:=Zhj R (n:=2) (ks:=[0]) (x:=.arr el sz fr (es.filter pt)) (r:=⟨.slice (some ⟨g,0,none⟩) (es.filter pt).length cap,fp',[]⟩) (row:=some g) (w':=w')
  (by intro r0 h0;rw[hdom 2 (Ye _)]at h0;cases h0) hgr
  (by intro g' hg';cases hg';exact⟨0,.inl (by simp),r,hr,hd,.inl hblk⟩)
  (by intro g' hg';cases hg';exact .inr ⟨0,.inl (by simp),r,hr,hd,.inl hblk⟩)
  (λhk=>by
   have hall:∀g'∈fp',Free N (updM ρ 2 ⟨.slice (some ⟨g,0,none⟩) (es.filter pt).length cap,fp',[]⟩) (upd [Blk.arr el sz fr es,b1] (kill [0]++[(2,.arr el sz fr (es.filter pt))])) g'/\w'.heap[g']?=w.heap[g']?:=λg' hg'=>hk.free g' (hlt1 g' (hgx g' hg')) (hfree g' (hgx g' hg'))
   refine⟨rfl,e',(zs.filter pv).flatten,hel,⟨hfl,.inr ⟨g,cap,c2,rfl,hbg,hg2,by omega,hcm,?_,?_⟩⟩,hsz,hset,hnew.frame λg' hg'=>(hall g' hg').2,λg' hg'=>(hall g' hg').1,?_,λhff=>?_⟩
   .rw[<-Ys,hc2];simp only[Yj,Y7,Ys,hcur,hz2,hfl];omega
   .rw[hc2,Yz];exact Ych hfl
   .intro hff;have h1:=hfr hff;exact⟨List.Nodup.sublist hsub h1.1,λx hx=>h1.2 x (hgx x hx)⟩
   .have ho:=how hff;rw[<-htake,<-hzf]at ho
    exact(hch.own hp ho).frame hnew λg' hg'=>(hall g' hg').2)
  (by
   intro hff x hx d rd hdk hdn hrd hfd
   match d with
   |0=>simp at hdk
   |1=>simp[gt,hf1]at hfd
   |2=>exact absurd rfl hdn
   |d+3=>rw[hdom (d+3) (by omega)]at hrd;cases hrd)
 rw[hup]at hp;exact⟨fp',hp⟩
theorem fltN_rel(R:Rel N base ρ [.arr el sz fr [],b1] w)(hr:ρ 0=some r)(hdom:∀b,2<=b->ρ b=none)(hgr:w.grownBy w' none) :
  Rel N base (updM ρ 2 ⟨.slice none 0 0,[],[]⟩) [.dead,b1,.arr el sz fr []] w'/\
   Keeps ρ w (Free N ρ [.arr el sz fr [],b1]) (updM ρ 2 ⟨.slice none 0 0,[],[]⟩) w' (Free N (updM ρ 2 ⟨.slice none 0 0,[],[]⟩) [.dead,b1,.arr el sz fr []])/\
   ∀g,g<w.heap.size->¬N.a g->w'.heap[g]?=w.heap[g]?:=by
 have hb:gt [Blk.arr el sz fr [],b1] 0=.arr el sz fr []:=by simp[gt]
 have hd:gt [Blk.arr el sz fr [],b1] 0≠.dead:=by rw[hb];intro hc;cases hc
 obtain⟨r1,h1,h2⟩:=R.blk 0 hd;rw[hr]at h1;cases h1;rw[hb]at h2;obtain⟨hex,e2,xs,hel,ho,hsz,hlen,htr,hfree,hfr,how⟩:=h2;have hup:upd [Blk.arr el sz fr [],b1] (kill [0]++[(2,.arr el sz fr [])])=[.dead,b1,.arr el sz fr []]:=by simp[upd,kill,stB]
 have hp:=Zhj R (n:=2) (ks:=[0]) (x:=.arr el sz fr []) (r:=⟨.slice none 0 0,[],[]⟩) (row:=none) (w':=w')
  (by intro r0 h0;rw[hdom 2 (Ye _)]at h0;cases h0) hgr
  (by intro g' hg';cases hg') (by intro g' hg';cases hg')
  (λhk=>⟨rfl,e2,[],hel,⟨by simp,.inl ⟨rfl,rfl⟩⟩,hsz,(by intro x hx;cases hx),.nil,(by intro x hx;cases hx),λ_=>⟨.nil,by intro x hx;cases hx⟩,λ_=>.nil⟩)
  (by intro _ x hx;cases hx)
 rw[hup]at hp;exact hp
end Go.AM
