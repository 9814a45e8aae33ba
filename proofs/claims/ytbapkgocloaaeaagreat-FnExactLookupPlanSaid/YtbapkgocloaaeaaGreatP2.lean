/-
  Parts of the proofs for this seat: AMOps3 AMOps4 AMOps5 AMOps6 AMOps7 AMOpsX.
-/
import Derived.Laws.BytesArg
import Derived.Laws.Small
import Derived.Laws.StructEq
import Derived.Test.YtbapkgocloaaeaaGreatP1
set_option linter.unusedSimpArgs false
set_option linter.unusedVariables false
/- part: AMOps3 -/
namespace Go.AM
open Go.RowKit (Below)
section
variable {P:Program} {N:Par} {base:Nat} {ρ:Map} {h:List Blk} {w w':World} {F:Nat→Prop} {e:Env} {a:Act}
theorem nodupB_iff {l:List Nat}:nodupB l=true↔l.Nodup:=by
 induction l with
 | nil=>simp [nodupB]
 | cons x l ih=>simp [nodupB,ih]
structure Took (N:Par) (base:Nat) (ρ:Map) (h:List Blk) (ks:List Nat) (fp:List Nat) (f:Bool):Prop where
 free:∀ g∈fp,Free N ρ h g∨∃ k∈ks,Owner ρ h k g
 fresh:f=true→∀ g∈fp,N.f g∧∃ k∈ks,∃ r,ρ k=some r∧isFresh (gt h k)=true∧(ownsB r g∨g∈r.fp)
 nodup:f=true→ks.Nodup→fp.Nodup
theorem fresh_live {x:Blk} (hx:isFresh x=true):x≠.dead:=by intro hc;rw [hc] at hx;cases hx
theorem Rel.free_fp (R:Rel N base ρ h w) {k:Nat} {r:Root} (hr:ρ k=some r) (hf:isFresh (gt h k)=true):∀ g∈r.fp,Free N ρ h g:=by
 obtain ⟨r',h1,h2⟩:=R.blk k (fresh_live hf)
 rw [hr] at h1
 cases h1
 cases hx:gt h k with
 | dead=>rw [hx] at hf;cases hf
 | box cs=>rw [hx] at hf;cases hf
 | arr e sz fr es =>
  rw [hx] at h2
  obtain ⟨_,_,xs,_,_,_,_,_,h6,_⟩:=h2
  exact h6
 | xarr e sz es=>rw [hx] at hf;cases hf
 | det e sz es i off b=>rw [hx] at hf;cases hf
theorem Took.nil (f:Bool):Took N base ρ h [] [] f:=⟨(by intro g hg;cases hg),(by intro _ g hg;cases hg),fun _ _=>List.nodup_nil⟩
theorem Took.append (R:Rel N base ρ h w) {ks ls fp fq:List Nat} {f g:Bool} (A:Took N base ρ h ks fp f) (B:Took N base ρ h ls fq g):Took N base ρ h (ks++ls) (fp++fq) (f && g):=by
 refine ⟨?_,?_,?_⟩
 ·intro x hx
  rcases List.mem_append.1 hx with hx | hx
  ·exact (A.free x hx).imp id fun ⟨k,hk,ho⟩=>⟨k,by simp [hk],ho⟩
  ·exact (B.free x hx).imp id fun ⟨k,hk,ho⟩=>⟨k,by simp [hk],ho⟩
 ·intro hf x hx
  simp only [Bool.and_eq_true] at hf
  rcases List.mem_append.1 hx with hx | hx
  ·obtain ⟨h1,k,hk,h2⟩:=A.fresh hf.1 x hx;exact ⟨h1,k,by simp [hk],h2⟩
  ·obtain ⟨h1,k,hk,h2⟩:=B.fresh hf.2 x hx;exact ⟨h1,k,by simp [hk],h2⟩
 ·intro hf hn
  simp only [Bool.and_eq_true] at hf
  rw [List.nodup_append] at hn ⊢
  refine ⟨A.nodup hf.1 hn.1,B.nodup hf.2 hn.2.1,?_⟩
  intro x hx y hy hxy
  subst hxy
  obtain ⟨_,k,hk,r,h1,h2,h3⟩:=A.fresh hf.1 x hx
  obtain ⟨_,l,hl,s,h4,h5,h6⟩:=B.fresh hf.2 x hy
  refine hn.2.2 k hk l hl ?_
  rcases h3 with h3 | h3 <;> rcases h6 with h6 | h6
  ·exact R.inj k l r s x h1 h4 (fresh_live h2) (fresh_live h5) h3 h6
  ·exact absurd h3 ((R.free_fp h4 h5 x h6).2 k r h1 (fresh_live h2))
  ·exact absurd h6 ((R.free_fp h1 h2 x h3).2 l s h4 (fresh_live h5))
  ·exact R.apart k l r s x h1 h4 h2 h5 h3 h6
theorem own_TR (R:Rel N base ρ h w) {b:Nat} {r:Root} (hr:ρ b=some r) {el sz:Nat} {fr:Bool} {es:List (List T)} (hb:gt h b=.arr el sz fr es) :
  ∃ fp,TR w (.lst sz es) r.v fp∧Took N base ρ h [b] fp fr∧(∀ g∈fp,blkOf r.v=some g∨g∈r.fp)∧(fr=true→OW w base (.lst sz es) r.v):=by
 have hd:gt h b≠.dead:=by rw [hb];intro hc;cases hc
 obtain ⟨r',h1,h2⟩:=R.blk b hd
 rw [hr] at h1
 cases h1
 have h2':=h2
 rw [hb] at h2
 obtain ⟨hex,e',xs,he',ho,hsz,hl,ht,hf,hfr,how⟩:=h2
 by_cases hne:es=[]
 ·subst hne
  refine ⟨[],?_,⟨(by intro g hg;cases hg),(by intro _ g hg;cases hg),fun _ _=>List.nodup_nil⟩,(by intro g hg;cases hg),fun _=>.lst0 _ _⟩
  rcases ho.2 with ⟨hv,_⟩ | ⟨g,cap,cur,hv,_⟩
  ·rw [hv];exact .lst0 _ _ _
  ·rw [hv];exact .lst0 _ _ _
 ·rcases ho.2 with ⟨hv,hz⟩ | ⟨g,cap,cur,hv,hbg,hg,hcap,_,hcs,htake⟩
  ·exact absurd (List.eq_nil_of_length_eq_zero hz) hne
  ·have hblk:blkOf r.v=some g:=by rw [hv];rfl
   refine ⟨g::r.fp,?_,⟨?_,?_,?_⟩,?_,fun hft=>.lst ho (how hft)⟩
   ·rw [hv]
    refine .lst hne hsz hcap hg hl ?_
    rw [List.drop_zero,htake]
    exact ht
   ·intro x hx
    cases hx with
    | head=>exact .inr ⟨b,by simp,r,hr,hd,.inl hblk⟩
    | tail _ hx=>exact .inl (hf x hx)
   ·intro hft x hx
    cases hx with
    | head=>exact ⟨(R.hO b r g hr hd (.inl hblk)).2,b,by simp,r,hr,by rw [hb];exact hft,.inl (.inl hblk)⟩
    | tail _ hx=>exact ⟨(hfr hft).2 x hx,b,by simp,r,hr,by rw [hb];exact hft,.inr hx⟩
   ·intro hft _
    refine List.nodup_cons.2 ⟨fun hx=>?_,(hfr hft).1⟩
    exact (hf g hx).2 b r hr hd (.inl hblk)
   ·intro x hx
    cases hx with
    | head=>exact .inl hblk
    | tail _ hx=>exact .inr hx
theorem toT_rel (R:Rel N base ρ h w) {v:AV} {x:T} {f:Bool} {ks:List Nat} {val:Value} (ht:toT h v=some (x,f,ks)) (hv:RV ρ w (Free N ρ h) v val) :
  ∃ fp,TR w x val fp∧Took N base ρ h ks fp f∧(f=true→OW w base x val):=by
 cases hv with
 | t hT hf =>
  simp [toT] at ht
  obtain ⟨rfl,rfl,rfl⟩:=ht
  refine ⟨_,hT,⟨fun g hg=>.inl (hf g hg),fun hs=>?_,fun hs _=>?_⟩,fun hs=>.sc _ hs⟩
  ·cases hT <;> first | (intro g hg;cases hg;done) | simp [scalar] at hs
  ·cases hT <;> first | exact List.nodup_nil | simp [scalar] at hs
 | @own b r hr h1 =>
  simp only [toT] at ht
  split at ht
  ·rename_i el sz fr es hb
   simp at ht
   obtain ⟨rfl,rfl,rfl⟩:=ht
   obtain ⟨fp,h2,h3,_,h4⟩:=own_TR R hr hb
   exact ⟨fp,h2,h3,h4⟩
  ·cases ht
 | _=>simp [toT] at ht
theorem toTs_rel (R:Rel N base ρ h w) {vs:List AV} {xs:List T} {f:Bool} {ks:List Nat} {vals:List Value} (ht:toTs h vs=some (xs,f,ks)) (hv:RVs ρ w (Free N ρ h) vs vals) :
  ∃ fp,TRs w xs vals fp∧Took N base ρ h ks fp f∧(f=true→OWs w base xs vals):=by
 induction vs generalizing xs f ks vals with
 | nil=>simp [toTs] at ht;obtain ⟨rfl,rfl,rfl⟩:=ht;cases hv;exact ⟨[],.nil,.nil _,fun _=>.nil⟩
 | cons v vs ih =>
  cases hv with
  | cons hv hvs =>
   simp only [toTs] at ht
   split at ht
   ·rename_i x f1 k1 xs1 f2 k2 h1 h2
    simp at ht
    obtain ⟨rfl,rfl,rfl⟩:=ht
    obtain ⟨fp,h3,h4,h7⟩:=toT_rel R h1 hv
    obtain ⟨fq,h5,h6,h8⟩:=ih h2 hvs
    refine ⟨fp++fq,.cons h3 h5,h4.append R h6,fun hf=>?_⟩
    simp only [Bool.and_eq_true] at hf
    exact .cons (h7 hf.1) (h8 hf.2)
   ·cases ht
theorem toTs_len {vs:List AV} {xs:List T} {f:Bool} {ks:List Nat} (ht:toTs h vs=some (xs,f,ks)):xs.length=vs.length:=by
 induction vs generalizing xs f ks with
 | nil=>simp [toTs] at ht;obtain ⟨rfl,_⟩:=ht;rfl
 | cons v vs ih =>
  simp only [toTs] at ht
  split at ht
  ·rename_i x f1 k1 xs1 f2 k2 h1 h2
   simp at ht
   obtain ⟨rfl,_⟩:=ht
   simp [ih h2]
  ·cases ht
theorem took_after (R:Rel N base ρ h w) {ks ks' fp:List Nat} {f:Bool} (A:Took N base ρ h ks fp f) {n:Nat} {r:Root} {x:Blk} {row:Option Nat}
  (hk:Keeps ρ w (Free N ρ h) (updM ρ n r) w' (Free N (updM ρ n r) (upd h (kill ks'++[(n,x)])))) (hg:w.grownBy w' row) (hsub:∀ k∈ks,k∈ks')
  (hrow:∀ g k,k∈ks→Owner ρ h k g→row≠some g∧¬ ownsB r g) (hlt:∀ g∈fp,g<w.heap.size) :
  ∀ g∈fp,Free N (updM ρ n r) (upd h (kill ks'++[(n,x)])) g∧w'.heap[g]?=w.heap[g]?:=by
 intro g hgf
 rcases A.free g hgf with h1 | ⟨k,hks,ho⟩
 ·exact hk.free g (hlt g hgf) h1
 ·obtain ⟨h2,h3⟩:=hrow g k hks ho
  refine ⟨⟨?_,?_⟩,hg.block g (hlt g hgf) (fun e=>h2 e.symm)⟩
  ·obtain ⟨rk,hk1,hk2,hk3⟩:=ho
   exact (R.hO _ rk g hk1 hk2 hk3).1
  intro b rb hrb hd he
  rw [gt_put] at hd
  by_cases hb:b=n
  ·subst hb
   simp [updM] at hrb
   subst hrb
   exact h3 he
  ·simp [updM,hb] at hrb
   simp [hb] at hd
   obtain ⟨rk,hk1,hk2,hk3⟩:=ho
   have:=R.inj b k rb rk g hrb hk1 hd.2 hk2 he hk3
   subst this
   exact hd.1 (hsub _ hks)
theorem took_apart (R:Rel N base ρ h w) {ks fp:List Nat} {f:Bool} (A:Took N base ρ h ks fp f) (hf:f=true) {ks':List Nat} (hsub:∀ k∈ks,k∈ks') {g d:Nat} {rd:Root} (hg:g∈fp) (hd:d ∉ ks')
  (hr:ρ d=some rd) (hfd:isFresh (gt h d)=true):g ∉ rd.fp:=by
 intro hgd
 obtain ⟨_,k,hk,r,h1,h2,h3⟩:=A.fresh hf g hg
 rcases h3 with h3 | h3
 ·exact (R.free_fp hr hfd g hgd).2 k r h1 (fresh_live h2) h3
 ·exact hd (R.apart k d r rd g h1 hr h2 hfd h3 hgd ▸ hsub k hk)
theorem ok_storeElem (R:Rel N base ρ h w) {b i sz' off el sz:Nat} {fr:Bool} {es:List (List T)} (hb:gt h b=.arr el sz fr es) {cs:List T} (hi:es[i]?=some cs) {v:AV} {vs:List AV} {px val:Value}
  (hpx:RV ρ w (Free N ρ h) (.eptr b i sz' off) px) (hsz':sz'=sz) (hc:cellsOf v=some vs) (hv:RV ρ w (Free N ρ h) v val) {ts:List T} {f:Bool} {ks:List Nat} (ht:toTs h vs=some (ts,f,ks))
  {t:TypeId} {inf:TypeInfo} (hinf:P.info? t=some inf) (hl:vs.length=inf.size) (hle:off+inf.size≤cs.length) (hnd:nodupB (b::ks)=true) :
  OpOK P N base ρ h w (do Instr.storeAt t px val;pure .skip) .top (kill ks++[(b,.arr el sz (fr && f) (es.set i (setT cs off (wk (cs.drop off) ts))))]):=by
 subst hsz'
 rw [nodupB_iff,List.nodup_cons] at hnd
 have hd:gt h b≠.dead:=by rw [hb];intro hc;cases hc
 obtain ⟨r,hr,hB⟩:=R.blk b hd
 rw [hb] at hB
 obtain ⟨hex,el',xs,hel,ho,hsz,hlen,htr,hfree,hfr,how⟩:=hB
 cases hpx with
 | @eptr _ _ _ _ g n cap r2 hr2 hrv =>
  rw [hr] at hr2
  cases hr2
  rcases ho.2 with ⟨hv0,hz⟩ | ⟨g',cap',cur,hv',hbg,hg,hcap,hcm,hcs,htake⟩
  ·rw [hrv] at hv0;cases hv0
  ·rw [hrv] at hv'
   cases hv'
   obtain ⟨hvs,hone⟩:=cellsOf_rel hc hv
   obtain ⟨fq,htq,hT,hto⟩:=toTs_rel R ht hvs
   have htl:=toTs_len ht
   have hwl:(wk (cs.drop off) ts).length=ts.length:=wk_len
   replace htq:=wk_rel (cs:=cs.drop off) htq
   replace hto:=fun hf=>wk_ow (cs:=cs.drop off) (hto hf)
   have hvl:=hvs.length
   simp only [Array.length_toList] at hvl
   have hcsl:cs.length=sz':=hlen cs (List.mem_of_getElem? hi)
   have hilt:i<es.length:=(List.getElem?_eq_some_iff.1 hi).1
   have hmul:i*sz'+sz'≤es.length*sz':=by
    have:=Nat.mul_le_mul_right sz' (show i+1≤es.length from hilt)
    rwa [Nat.add_mul,Nat.one_mul] at this
   have hmul2:es.length*sz'≤cap*sz':=Nat.mul_le_mul_right _ hcap
   have hblk:blkOf r.v=some g:=by rw [hrv];rfl
   have hrun:=run_storeVar (P:=P) hinf hg (o:=i*sz'+off) (val:=val) (by omega) (by omega) hone
   have hfl:=set_flatten (ts:=wk (cs.drop off) ts) (off:=off) hi (by omega)
   rw [hfl.1] at htr how
   obtain ⟨fa,fb,fc,hfp,hnew⟩:=htr.splice htq
   rw [← hfl.2] at hnew
   have hnewo:(fr && f)=true→_:=fun hff=>by
    simp only [Bool.and_eq_true] at hff
    have:=(how hff.1).splice (hto hff.2)
    rw [← hfl.2] at this
    exact this
   have hAl:((es.take i).flatten++cs.take off).length=i*sz'+off:=by
    rw [List.length_append,flatten_len fun x hx=>hlen x (List.mem_of_mem_take hx)]
    simp
    rw [Nat.min_eq_left (by omega),Nat.min_eq_left (by omega)]
   have hBl:((cs.drop off).take (wk (cs.drop off) ts).length).length=inf.size:=by simp;omega
   rw [hAl,hBl] at hnew hnewo
   have hxl:xs.length=es.length*sz':=ho.1
   have hlt1:=htr.lt
   have hlt2:=htq.lt
   have hgx:∀ g∈fa++fq++fc,g∈r.fp∨g∈fq:=by
    intro x hx
    simp only [List.mem_append] at hx
    rcases hx with (hx | hx) | hx
    ·exact .inl (by rw [hfp];simp [hx])
    ·exact .inr hx
    ·exact .inl (by rw [hfp];simp [hx])
   have hset:∀ x∈es.set i (setT cs off (wk (cs.drop off) ts)),x.length=sz':=by
    intro x hx
    rcases List.mem_or_eq_of_mem_set hx with hx | hx
    ·exact hlen x hx
    ·subst hx;simp [setT];omega
   have hp:=put_rel R (n:=b) (ks:=ks) (x:=.arr el sz' (fr && f) (es.set i (setT cs off (wk (cs.drop off) ts)))) (r:=⟨r.v,fa++fq++fc,[]⟩) (row:=some g)
    (w':=w.setRow g (cur.toList.take (i*sz'+off)++val.cells.toList++cur.toList.drop (i*sz'+off+inf.size)).toArray)
    (by intro r0 h0;rw [hr] at h0;cases h0;rfl) (grownBy_setRow w g _)
    (by intro g' hg';cases hg';exact ⟨b,.inr rfl,r,hr,hd,.inl hblk⟩)
    (by intro g' hg';exact .inr ⟨b,.inr rfl,r,hr,hd,.inl hg'⟩)
    (fun hk=>by
     have hta:=took_after R hT hk (grownBy_setRow w g _) (fun k hk=>hk) (by
      intro g' k hk' ho'
      have hne:g'≠g:=by
       intro he
       subst he
       obtain ⟨rk,h1,h2,h3⟩:=ho'
       exact hnd.1 (R.inj b k r rk g' hr h1 hd h2 (.inl hblk) h3 ▸ hk')
      exact ⟨fun he=>hne (by cases he;rfl),fun he=>hne (by rw [ownsB_nil rfl] at he;rw [hblk] at he;cases he;rfl)⟩) hlt2
     have hall:∀ g'∈fa++fq++fc,Free N (updM ρ b ⟨r.v,fa++fq++fc,[]⟩) (upd h (kill ks++[(b,.arr el sz' (fr && f) (es.set i (setT cs off (wk (cs.drop off) ts))))])) g' ∧
       (w.setRow g (cur.toList.take (i*sz'+off)++val.cells.toList++cur.toList.drop (i*sz'+off+inf.size)).toArray).heap[g']?=w.heap[g']?:=by
      intro g' hg'
      rcases hgx g' hg' with h1 | h1
      ·exact hk.free g' (hlt1 g' h1) (hfree g' h1)
      ·exact hta g' h1
     refine ⟨rfl,el',xs.take (i*sz'+off)++val.cells.toList++xs.drop (i*sz'+off+inf.size),hel,⟨?_,.inr ⟨g,cap,_,hrv ▸ (by simp),hbg,setRow_heap w g cur _ el' _ hg,by simpa using hcap,hcm,?_,?_⟩⟩,hsz,hset,?_,fun g' hg'=>(hall g' hg').1,?_,fun hff=>(hnewo hff).frame hnew fun g' hg'=>(hall g' hg').2⟩
     ·simp only [List.length_append,List.length_take,List.length_drop,Array.length_toList,List.length_set]
      omega
     ·simp only [List.size_toArray,List.length_append,List.length_take,List.length_drop,Array.length_toList]
      omega
     ·rw [← htake]
      simp only [List.length_set]
      have e1:(cur.toList.take (es.length*sz')).take (i*sz'+off)=cur.toList.take (i*sz'+off):=by rw [List.take_take];congr 1;omega
      rw [e1]
      have hl1:(cur.toList.take (i*sz'+off)++val.cells.toList).length=i*sz'+off+inf.size:=by simp;omega
      rw [List.take_append,hl1,List.take_of_length_le (by omega),List.drop_take]
     ·exact hnew.frame fun g' hg'=>(hall g' hg').2
     ·intro hfrf
      simp only [Bool.and_eq_true] at hfrf
      have h1:=(hfr hfrf.1)
      have h2:=hT.nodup hfrf.2 hnd.2
      constructor
      ·rw [hfp] at h1
       have h3:=h1.1
       have hdis:∀ x,x∈fq→x ∉ r.fp:=by
        intro x hx hx'
        obtain ⟨_,k,hk',rk,h4,h5,h6⟩:=hT.fresh hfrf.2 x hx
        have hfb:isFresh (gt h b)=true:=by rw [hb];exact hfrf.1
        rcases h6 with h6 | h6
        ·exact (R.free_fp hr hfb x hx').2 k rk h4 (fresh_live h5) h6
        ·exact hnd.1 (R.apart b k r rk x hr h4 hfb h5 hx' h6 ▸ hk')
       rw [hfp] at hdis
       rw [List.nodup_append,List.nodup_append] at h3 ⊢
       refine ⟨⟨h3.1.1,h2,?_⟩,h3.2.1,?_⟩
       ·intro x hx y hy hxy;subst hxy;exact hdis x hy (by simp [hx])
       ·intro x hx y hy hxy
        subst hxy
        rcases List.mem_append.1 hx with hx | hx
        ·exact h3.2.2 x (by simp [hx]) x hy rfl
        ·exact hdis x hx (by simp [hy])
      ·intro x hx
       rcases hgx x hx with hx | hx
       ·exact h1.2 x hx
       ·exact (hT.fresh hfrf.2 x hx).1)
    (by
     intro hff x hx d rd hdk hdn hrd hfd
     simp only [isFresh,Bool.and_eq_true] at hff
     rcases hgx x hx with hx | hx
     ·intro hx'
      exact hdn (R.apart b d r rd x hr hrd (by rw [hb];exact hff.1) hfd hx hx' ▸ rfl)
     ·exact took_apart R hT hff.2 (fun k hk=>hk) hx hdk hrd hfd)
   refine ⟨undef,_,updM ρ b ⟨r.v,fa++fq++fc,[]⟩,.inr ⟨by simp [Instr.storeAt,Instr.sureAddr,hrun],rfl⟩,.top _,hp.1,hp.2.1,?_,Below.setRow hbg _,hp.2.2⟩
   intro b' hb'
   simp at hb'
   simp [updM,hb'.2]
theorem wkA_rel {cs:List AV} {ts:List T} {vs:List Value} {fp:List Nat} (h:TRs w ts vs fp) (hf:∀ g∈fp,F g):RVs ρ w F (wkA cs ts) vs:=by
 induction ts generalizing cs vs fp with
 | nil=>cases h;cases cs with
  | nil=>exact .nil
  | cons c cs=>cases c <;> exact .nil
 | cons t ts ih =>
  cases h with
  | cons h hs =>
   have h1:∀ c,RV ρ w F (.t (wk1 c t)) _:=fun c=>.t (wk1_rel h) fun g hg=>hf g (by simp [hg])
   have h2:RV ρ w F (.t t) _:=.t h fun g hg=>hf g (by simp [hg])
   have h3:=fun cs=>ih (cs:=cs) hs fun g hg=>hf g (by simp [hg])
   cases cs with
   | nil =>
    have h4:=h3 []
    unfold wkA at h4 ⊢
    exact .cons h2 h4
   | cons c cs =>
    cases c <;> unfold wkA <;> first | exact .cons h2 (h3 cs) | exact .cons (h1 _) (h3 cs)
theorem wkA_len {cs:List AV} {ts:List T}:(wkA cs ts).length=ts.length:=by
 induction ts generalizing cs with
 | nil=>cases cs with
  | nil=>rfl
  | cons c cs=>cases c <;> rfl
 | cons t ts ih =>
  cases cs with
  | nil=>simp [wkA]
  | cons c cs=>cases c <;> simp [wkA,ih]
theorem ok_storeBoxF (R:Rel N base ρ h w) {b off:Nat} {cs:List AV} (hb:gt h b=.box cs) {v:AV} {vs:List AV} {px val:Value} (hpx:RV ρ w (Free N ρ h) (.ptr b off) px)
  (hc:cellsOf v=some vs) (hv:RV ρ w (Free N ρ h) v val) {ts:List T} {f:Bool} {ks:List Nat} (ht:toTs h vs=some (ts,f,ks)) {t:TypeId} {i:TypeInfo} (hi:P.info? t=some i) (hl:vs.length=i.size) (hle:off+i.size≤cs.length) (hnd:nodupB (b::ks)=true) :
  OpOK P N base ρ h w (do Instr.storeAt t px val;pure .skip) .top (kill ks++[(b,.box (setCells cs off (wkA (cs.drop off) ts)))]):=by
 rw [nodupB_iff,List.nodup_cons] at hnd
 cases hpx with
 | @ptr _ _ g r hr hrv =>
  have hd:gt h b≠.dead:=by rw [hb];intro hc;cases hc
  obtain ⟨r',h1,h2⟩:=R.blk b hd
  rw [hr] at h1
  cases h1
  rw [hb] at h2
  obtain ⟨hx0,g',c,te,hv',hbase,hh,hcs,hone⟩:=h2
  rw [hrv] at hv'
  cases hv'
  obtain ⟨hvs,hone'⟩:=cellsOf_rel hc hv
  obtain ⟨fq,htq,hT,-⟩:=toTs_rel R ht hvs
  have htl:=toTs_len ht
  have hcl:=hcs.length
  have hvl:=hvs.length
  simp only [Array.length_toList] at hcl hvl
  have hblk:blkOf r.v=some g:=by rw [hrv];rfl
  have hlt2:=htq.lt
  have hrun:=run_storeVar (P:=P) hi hh (o:=off) (val:=val) (by omega) (by omega) hone'
  have hwl:(wkA (cs.drop off) ts).length=i.size:=by rw [wkA_len];omega
  have hp:=put_rel R (n:=b) (ks:=ks) (x:=.box (setCells cs off (wkA (cs.drop off) ts))) (r:=r) (row:=some g) (w':=w.setRow g (c.toList.take off++val.cells.toList++c.toList.drop (off+i.size)).toArray)
   (by intro r0 h0;rw [hr] at h0;cases h0;rfl) (grownBy_setRow w g _)
   (by intro g' hg';cases hg';exact ⟨b,.inr rfl,r,hr,hd,.inl hblk⟩)
   (by intro g' hg';exact .inr ⟨b,.inr rfl,r,hr,hd,.inl hg'⟩)
   (fun hk=>by
    have hta:=took_after R hT hk (grownBy_setRow w g _) (fun k hk=>hk) (by
     intro g' k hk' ho'
     have hne:g'≠g:=by
      intro he
      subst he
      obtain ⟨rk,h1,h2,h3⟩:=ho'
      exact hnd.1 (R.inj b k r rk g' hr h1 hd h2 (.inl hblk) h3 ▸ hk')
     exact ⟨fun he=>hne (by cases he;rfl),fun he=>hne (by rw [ownsB_nil hx0] at he;rw [hblk] at he;cases he;rfl)⟩) hlt2
    have hnew:RVs (updM ρ b r) (w.setRow g (c.toList.take off++val.cells.toList++c.toList.drop (off+i.size)).toArray) (Free N (updM ρ b r) (upd h (kill ks++[(b,.box (setCells cs off (wkA (cs.drop off) ts)))])))
      (setCells cs off (wkA (cs.drop off) ts)) (c.toList.take off++val.cells.toList++c.toList.drop (off+i.size)):=by
     have e:setCells cs off (wkA (cs.drop off) ts)=cs.take off++wkA (cs.drop off) ts++cs.drop (off+i.size):=by rw [setCells,hwl]
     have hh2:=(((hcs.take off).keep hk).append (wkA_rel (cs:=cs.drop off) (htq.frame fun g' hg'=>(hta g' hg').2) fun g' hg'=>(hta g' hg').1)).append ((hcs.drop (off+i.size)).keep hk)
     rw [← e] at hh2
     exact hh2
    exact ⟨hx0,g,_,te,hrv,hbase,setRow_heap w g c _ te _ hh,hnew,by
     intro x hx
     change x∈c.toList.take off++val.cells.toList++c.toList.drop (off+i.size) at hx
     rcases List.mem_append.1 hx with hx | hx
     ·rcases List.mem_append.1 hx with hx | hx
      ·exact hone x (List.mem_of_mem_take hx)
      ·exact hone' x hx
     ·exact hone x (List.mem_of_mem_drop hx)⟩)
   (by intro hf;cases hf) hx0
  refine ⟨undef,_,updM ρ b r,.inr ⟨by simp [Instr.storeAt,Instr.sureAddr,hrun],rfl⟩,.top _,hp.1,hp.2.1,?_,Below.setRow hbase _,hp.2.2⟩
  intro b' hb'
  simp at hb'
  simp [updM,hb'.2]
end
end Go.AM
/- part: AMOps4 -/
namespace Go.AM
open Go.RowKit (Below)
section
variable {P:Program} {N:Par} {base:Nat} {ρ:Map} {h:List Blk} {w w':World} {F:Nat→Prop} {e:Env} {a:Act}
theorem ownsRow_one {v:Value} {el sz n:Nat} {xs:List Value} (ho:w.ownsRow base el sz v n xs):v.oneCell'=true:=by
 rcases ho.2 with ⟨hv,_⟩ | ⟨g,cap,cur,hv,_⟩ <;> rw [hv] <;> rfl
theorem ok_arr (R:Rel N base ρ h w) {nx:Nat} (hn:ρ nx=none) {s:Sem Next} {vv:Value} (hs:s.run P w=.ok (.value vv) w') {row:Option Nat} (hg:w.grownBy w' row)
  {el sz:Nat} (hsz:0<sz) {es1 es2:List (List T)} {xs1 xs2:List Value} {fp1 fp2:List Nat} {fr1 f:Bool} {kd ks:List Nat}
  (hown:w'.ownsRow base el sz vv (es1.length+es2.length) (xs1++xs2)) (hl1:∀ x∈es1,x.length=sz) (hl2:∀ x∈es2,x.length=sz)
  (ht1:TRs w es1.flatten xs1 fp1) (ht2:TRs w es2.flatten xs2 fp2) (hT:Took N base ρ h ks fp2 f) (hnd:ks.Nodup)
  (hD1:∀ g∈fp1,Free N ρ h g) (hD2:fr1=true→fp1.Nodup∧∀ g∈fp1,N.f g)
  (hD3:fr1=true→∀ g∈fp1,∀ d rd,d ∉ kd++ks→ρ d=some rd→isFresh (gt h d)=true→g ∉ rd.fp)
  (hD4:fr1=true→∀ g∈fp1,∀ k∈ks,∀ rk,ρ k=some rk→isFresh (gt h k)=true→g ∉ rk.fp)
  (hrow:∀ g,row=some g→∃ b∈kd,Owner ρ h b g) (hblk:∀ g,blkOf vv=some g→w.heap.size≤g∨∃ b∈kd,Owner ρ h b g)
  (hap:∀ g k,k∈ks→Owner ρ h k g→¬ ∃ b∈kd,Owner ρ h b g)
  (hW1:fr1=true→OWs w base es1.flatten xs1) (hW2:f=true→OWs w base es2.flatten xs2) {lb:Nat} (hlb:lb=unk∨el=lb) :
  OpOK P N base ρ h w s (.own nx) (kill (kd++ks)++[(nx,.arr lb sz (fr1 && f) (es1++es2))]):=by
 have hlt1:=ht1.lt
 have hlt2:=ht2.lt
 have hp:=put_rel R (n:=nx) (ks:=kd++ks) (x:=.arr lb sz (fr1 && f) (es1++es2)) (r:=⟨vv,fp1++fp2,[]⟩) (row:=row) (w':=w')
  (by intro r0 h0;rw [hn] at h0;cases h0) hg
  (by intro g hg';obtain ⟨b,hb,ho⟩:=hrow g hg';exact ⟨b,.inl (by simp [hb]),ho⟩)
  (by intro g hg';exact (hblk g hg').imp id fun ⟨b,hb,ho⟩=>⟨b,.inl (by simp [hb]),ho⟩)
  (fun hk=>by
   have hta:=took_after R hT hk hg (fun k hk=>by simp [hk]) (by
    intro g k hk' ho
    refine ⟨fun he=>hap g k hk' ho (hrow g he),fun he=>?_⟩
    rw [ownsB_nil rfl] at he
    rcases hblk g he with h1 | h1
    ·obtain ⟨rk,h2,h3,h4⟩:=ho
     have:=(R.lt h2 h3 h4).2
     omega
    ·exact hap g k hk' ho h1) hlt2
   have hall:∀ g∈fp1++fp2,Free N (updM ρ nx ⟨vv,fp1++fp2,[]⟩) (upd h (kill (kd++ks)++[(nx,.arr lb sz (fr1 && f) (es1++es2))])) g∧w'.heap[g]?=w.heap[g]?:=by
    intro g hg'
    rcases List.mem_append.1 hg' with h1 | h1
    ·exact hk.free g (hlt1 g h1) (hD1 g h1)
    ·exact hta g h1
   refine ⟨rfl,el,xs1++xs2,hlb,by simpa using hown,hsz,?_,?_,fun g hg'=>(hall g hg').1,?_,fun hff=>by
    simp only [Bool.and_eq_true] at hff
    rw [List.flatten_append]
    exact ((hW1 hff.1).append (hW2 hff.2)).frame (ht1.append ht2) fun g hg'=>(hall g hg').2⟩
   ·intro x hx
    rcases List.mem_append.1 hx with hx | hx
    ·exact hl1 x hx
    ·exact hl2 x hx
   ·rw [List.flatten_append]
    exact (ht1.append ht2).frame fun g hg'=>(hall g hg').2
   ·intro hff
    simp only [Bool.and_eq_true] at hff
    obtain ⟨h1,h2⟩:=hD2 hff.1
    refine ⟨List.nodup_append.2 ⟨h1,hT.nodup hff.2 hnd,?_⟩,?_⟩
    ·intro x hx y hy hxy
     subst hxy
     obtain ⟨_,k,hk',rk,h4,h5,h6⟩:=hT.fresh hff.2 x hy
     rcases h6 with h6 | h6
     ·exact (hD1 x hx).2 k rk h4 (fresh_live h5) h6
     ·exact hD4 hff.1 x hx k hk' rk h4 h5 h6
    ·intro x hx
     rcases List.mem_append.1 hx with hx | hx
     ·exact h2 x hx
     ·exact (hT.fresh hff.2 x hx).1)
  (by
   intro hff x hx d rd hdk _ hrd hfd
   simp only [isFresh,Bool.and_eq_true] at hff
   rcases List.mem_append.1 hx with hx | hx
   ·exact hD3 hff.1 x hx d rd hdk hrd hfd
   ·exact took_apart R hT hff.2 (fun k hk=>by simp [hk]) hx hdk hrd hfd)
 refine ⟨vv,w',updM ρ nx ⟨vv,fp1++fp2,[]⟩,.inl hs,.own (r:=⟨vv,fp1++fp2,[]⟩) (by simp [updM]) (ownsRow_one hown),hp.1,hp.2.1,?_,?_,hp.2.2⟩
 ·intro b hb
  simp at hb
  simp [updM,hb.2]
 ·refine (Below.refl _ _).grown hg R.hb fun k hk=>?_
  obtain ⟨b,_,rb,h1,h2,h3⟩:=hrow k hk
  exact (R.lt h1 h2 h3).1
theorem run_append_zero {t ty el:TypeId} {i:TypeInfo} (ht:P.underlying t=some (.slice el)) (hi:P.info? el=some i) (ba:Option Addr) (n cap:Nat) (hle:n≤cap) (b2:Option Addr) (c2:Nat) :
  (Builtin.append_ #[t,t] ty #[.slice ba n cap,.slice b2 0 c2]).run P w=.ok (.slice ba n cap) w:=by
 cases ba <;> cases b2 <;> simp [Builtin.append_,run_underlying ht,sizeOf,typeInfo,hi,Builtin.lenOf,hle,Builtin.firstCells,loadCells,loadCellsFrom,storeCells]
theorem append_run {t ty el:TypeId} {i:TypeInfo} {z:Value} (ht:P.underlying t=some (.slice el)) (hi:P.info? el=some i) (hz:i.zero=some z) (hzs:z.cells.size=i.size)
  {v:Value} {n:Nat} {xs:List Value} (hown:w.ownsRow base el i.size v n xs) {b2:Option Addr} {m c2:Nat} {news:List Value} (hl:news.length=m*i.size)
  (hsrc:m=0∨∃ ad,b2=some ad∧∀ j u,news[j]?=some u→w.cell? (ad.add j)=some u) (h1:∀ u∈news,u.oneCell'=true)
  (h63:n+m≤140737488355328) (hbytes:(n+m)*i.bytes≤140737488355328) (hbase:base≤w.heap.size) :
  ∃ v' w' row,(Builtin.append_ #[t,t] ty #[v,.slice b2 m c2]).run P w=.ok v' w'∧w'.ownsRow base el i.size v' (n+m) (xs++news)∧w.grownBy w' row∧(∀ g,row=some g→blkOf v=some g) ∧
   (∀ g,blkOf v'=some g→w.heap.size≤g∨blkOf v=some g):=by
 have hmax:n+m≤maxLen:=by simp only [maxLen];omega
 rcases hsrc with rfl | ⟨ad,rfl,hnews⟩
 ·have hnil:news=[]:=List.eq_nil_of_length_eq_zero (by simpa using hl)
  subst hnil
  refine ⟨v,w,none,?_,by simpa using hown,⟨rfl,rfl,rfl,Nat.le_refl _,fun _ _ _=>rfl⟩,(by intro g hg;cases hg),fun g hg=>.inr hg⟩
  rcases hown.2 with ⟨hv,hn⟩ | ⟨g,cap,cur,hv,_,_,hcap,_⟩
  ·subst hn;rw [hv];exact run_append_zero ht hi none 0 0 (Nat.le_refl _) b2 c2
  ·rw [hv];exact run_append_zero ht hi _ n cap hcap b2 c2
 ·have hlen:(xs++news).length=(n+m)*i.size:=by rw [List.length_append,hown.1,hl,Nat.add_mul]
  by_cases hm:m=0
  ·subst hm
   have hnil:news=[]:=List.eq_nil_of_length_eq_zero (by simpa using hl)
   subst hnil
   refine ⟨v,w,none,?_,by simpa using hown,⟨rfl,rfl,rfl,Nat.le_refl _,fun _ _ _=>rfl⟩,(by intro g hg;cases hg),fun g hg=>.inr hg⟩
   rcases hown.2 with ⟨hv,hn⟩ | ⟨g,cap,cur,hv,_,_,hcap,_⟩
   ·subst hn;rw [hv];exact run_append_zero ht hi none 0 0 (Nat.le_refl _) _ c2
   ·rw [hv];exact run_append_zero ht hi _ n cap hcap _ c2
  ·have grown:∀ (old:Nat),old<n+m →
     (w.drew.alloc (.cells (xs.toArray++news.toArray++Builtin.zeroCells z.cells (grownCap w (n+m) old el - (n+m))) el)).ownsRow base el i.size
      (.slice (some ⟨w.heap.size,0,none⟩) (n+m) (grownCap w (n+m) old el)) (n+m) (xs++news) ∧
     w.grownBy (w.drew.alloc (.cells (xs.toArray++news.toArray++Builtin.zeroCells z.cells (grownCap w (n+m) old el - (n+m))) el)) none:=by
    intro old ho
    have hge:=grownCap_ge w (n+m) old el
    have hcm:grownCap w (n+m) old el≤maxLen:=grownCap_le_maxLen w (n+m) old el hmax
    refine ⟨⟨hlen,.inr ⟨w.heap.size,_,_,rfl,hbase,heap_alloc_new w.drew _,hge,hcm,?_,?_⟩⟩,⟨rfl,rfl,rfl,by simp,fun k hk _=>Go.RowKit.Below.heap_alloc w.drew _ k hk⟩⟩
    ·simp only [Array.size_append,List.size_toArray,size_zeroCells,hzs,hown.1,hl,← Nat.add_mul]
     congr 1
     omega
    ·simp only [Array.toList_append,List.append_assoc]
     rw [← List.append_assoc,← hlen]
     exact List.take_left
   rcases hown.2 with ⟨rfl,rfl⟩ | ⟨g,cap,cur,rfl,hbg,hg,hnc,hcm,hcs,htake⟩
   ·have hx:xs=[]:=List.eq_nil_of_length_eq_zero (by simpa using hown.1)
    subst hx
    have hr:=run_append_nil (P:=P) w t ty el i z ht hi hz ad m c2 news hl hnews (by omega) (by omega) (by have hb:=hbytes;simp only [Nat.zero_add] at hb;omega)
    have hgr:=grown 0 (by omega)
    simp only [Nat.zero_add,List.nil_append,Array.empty_append] at hgr ⊢
    exact ⟨_,_,none,hr,hgr.1,hgr.2,(by intro g hg;cases hg),by intro g hg;simp [blkOf] at hg;exact .inl (by omega)⟩
   ·by_cases hroom:n+m≤cap
    ·have hfit:n*i.size+news.length≤cur.size:=by rw [hl,hcs,← Nat.add_mul];exact Nat.mul_le_mul_right _ hroom
     have hr:=run_append_room (P:=P) w t ty el i ht hi g n cap cur hg ad m c2 news hl hnews h1 hroom hfit
     refine ⟨_,_,some g,hr,⟨hlen,.inr ⟨g,cap,_,rfl,hbg,setRow_heap w g cur _ el _ hg,hroom,hcm,?_,?_⟩⟩,grownBy_setRow w g _,(by intro g' hg';cases hg';rfl),fun g' hg'=>.inr hg'⟩
     ·simp only [List.size_toArray,List.length_append,List.length_take,List.length_drop,Array.length_toList]
      omega
     ·rw [htake,← hlen]
      exact List.take_left
    ·have holds:∀ j u,xs[j]?=some u→w.cell? ((⟨g,0,none⟩:Addr).add j)=some u:=hown.cells (g:=g) rfl
     have hr:=run_append_grow (P:=P) w t ty el i z ht hi hz ⟨g,0,none⟩ n cap xs hown.1 holds ad m c2 news hl hnews (by omega) (by omega) (growslice_fits (by omega) hbytes)
     have hgr:=grown cap (by omega)
     exact ⟨_,_,none,hr,hgr.1,hgr.2,(by intro g' hg';cases hg'),by intro g' hg';simp [blkOf] at hg';exact .inl (by omega)⟩
theorem src_rel (R:Rel N base ρ h w) {sz:Nat} {mv:Bool} {v:AV} {ys:List (List T)} {f:Bool} {ks:List Nat} {val:Value} (hsz:0<sz) (hs:srcOf h sz mv v=some (ys,f,ks)) (hv:RV ρ w (Free N ρ h) v val) :
  ∃ b2 c2 news fp,val=.slice b2 ys.length c2∧news.length=ys.length*sz∧(ys.length=0∨∃ ad,b2=some ad∧∀ j u,news[j]?=some u→w.cell? (ad.add j)=some u) ∧
   TRs w ys.flatten news fp∧(∀ x∈ys,x.length=sz)∧Took N base ρ h ks fp f∧ks.Nodup∧(∀ k∈ks,v=.own k)∧(f=true→OWs w base ys.flatten news):=by
 cases hv with
 | @t x val fp hT hf =>
  cases hT with
  | nil =>
   simp [srcOf] at hs
   obtain ⟨rfl,rfl,rfl⟩:=hs
   exact ⟨none,0,[],[],rfl,by simp,.inl rfl,.nil,by simp,.nil _,List.nodup_nil,by simp,fun _=>.nil⟩
  | lst0 sz' ad cap =>
   simp [srcOf] at hs
   obtain ⟨rfl,rfl,rfl,rfl⟩:=hs
   exact ⟨ad,cap,[],[],rfl,by simp,.inl rfl,.nil,by simp,.nil _,List.nodup_nil,by simp,fun _=>.nil⟩
  | @lst sz' es g off cap c te fz fp' hne hsz' hcap hg hlen hc =>
   simp [srcOf] at hs
   obtain ⟨rfl,rfl,rfl,rfl⟩:=hs
   refine ⟨_,cap,_,fp',rfl,?_,.inr ⟨_,rfl,fun j u hj=>cell_seg hg hj⟩,hc,hlen,⟨fun g' hg'=>.inl (hf g' (by simp [hg'])),fun hfl=>?_,fun hfl _=>?_⟩,List.nodup_nil,by simp,fun hfl=>.easy hc.length (easy_flat hfl)⟩
   ·rw [← hc.length,flatten_len hlen]
   ·have:fp'=[]:=hc.flat (by
     simp only [AM.flat,List.all_eq_true] at hfl ⊢
     intro y hy
     obtain ⟨x,hx,hy⟩:=List.mem_flatten.1 hy
     exact hfl x hx y hy)
    subst this
    intro g hg;cases hg
   ·have:fp'=[]:=hc.flat (by
     simp only [AM.flat,List.all_eq_true] at hfl ⊢
     intro y hy
     obtain ⟨x,hx,hy⟩:=List.mem_flatten.1 hy
     exact hfl x hx y hy)
    subst this
    exact List.nodup_nil
  | _=>simp [srcOf] at hs
 | @own b r hr h1 =>
  simp only [srcOf] at hs
  split at hs
  ·rename_i el sz' fr es hb
   split at hs
   ·rename_i hse
    subst hse
    have hd:gt h b≠.dead:=by rw [hb];intro hc;cases hc
    obtain ⟨r',h2,h3⟩:=R.blk b hd
    rw [hr] at h2
    cases h2
    rw [hb] at h3
    obtain ⟨_,_,xs,_,ho,_,hl,ht,hf,hfr,how⟩:=h3
    have hval:∃ b2 c2,r.v=.slice b2 es.length c2∧(es.length=0∨∃ ad,b2=some ad∧∀ j u,xs[j]?=some u→w.cell? (ad.add j)=some u):=by
     rcases ho.2 with ⟨hv,hz⟩ | ⟨g,cap,cur,hv,hbg,hg,hcap,_,hcs,htake⟩
     ·exact ⟨none,0,by rw [hv,hz],.inl hz⟩
     ·exact ⟨some ⟨g,0,none⟩,cap,hv,.inr ⟨_,rfl,ho.cells (g:=g) (by rw [hv];rfl)⟩⟩
    obtain ⟨b2,c2,hv2,hsrc⟩:=hval
    split at hs
    ·simp at hs
     obtain ⟨rfl,rfl,rfl⟩:=hs
     refine ⟨b2,c2,xs,r.fp,hv2,ho.1,hsrc,ht,hl,⟨fun g hg=>.inl (hf g hg),fun hft g hg=>⟨(hfr hft).2 g hg,b,by simp,r,hr,by rw [hb];exact hft,.inr hg⟩,fun hft _=>(hfr hft).1⟩,by simp,by simp,how⟩
    ·simp at hs
     obtain ⟨rfl,rfl,rfl⟩:=hs
     have hfl':AM.flat es=true→r.fp=[]:=fun hfl=>ht.flat (by
      simp only [AM.flat,List.all_eq_true] at hfl ⊢
      intro y hy
      obtain ⟨x,hx,hy⟩:=List.mem_flatten.1 hy
      exact hfl x hx y hy)
     refine ⟨b2,c2,xs,r.fp,hv2,ho.1,hsrc,ht,hl,⟨fun g hg=>.inl (hf g hg),fun hft=>?_,fun hft _=>?_⟩,List.nodup_nil,by simp,fun hft=>.easy ht.length (easy_flat hft)⟩
     ·rw [hfl' hft];intro g hg;cases hg
     ·rw [hfl' hft];exact List.nodup_nil
   ·cases hs
  ·cases hs
 | _=>simp [srcOf] at hs
end
end Go.AM
/- part: AMOps5 -/
namespace Go.AM
open Go.RowKit (Below)
section
variable {P:Program} {N:Par} {base:Nat} {ρ:Map} {h:List Blk} {w w':World} {F:Nat→Prop} {e:Env} {a:Act}
theorem foldSet (off:Nat):∀ (l:List Value) (k:Nat) (arr:Array Value),off+k+l.length≤arr.size →
  ((l.zipIdx k).foldl (fun cs (p:Value×Nat)=>cs.setIfInBounds (off+p.2) p.1) arr).toList=arr.toList.take (off+k)++l++arr.toList.drop (off+k+l.length)
 | [],k,arr,_=>by simp
 | v::l,k,arr,hle=>by
  simp only [List.zipIdx_cons,List.foldl_cons]
  rw [foldSet off l (k+1) (arr.setIfInBounds (off+k) v) (by simp at hle ⊢;omega)]
  have:=list_seg_step arr.toList (off+k) v l (by simp at hle ⊢;omega)
  rw [Array.toList_setIfInBounds,show off+(k+1)=off+k+1 by omega,this]
  simp
theorem fill_one {place:Nat→Option (Nat×Nat)} {cells:Array Value} {i off size:Nat} {v:Value} {rest:List (Nat×Value)} (hp:place i=some (off,size)) (hs:v.cells.size=size) (hle:off+size≤cells.size) :
  ∃ cells',Instr.fill place cells ((i,v)::rest)=Instr.fill place cells' rest∧cells'.toList=cells.toList.take off++v.cells.toList++cells.toList.drop (off+size):=by
 refine ⟨v.cells.zipIdx.foldl (fun cs (c,j)=>cs.setIfInBounds (off+j) c) cells,?_,?_⟩
 ·conv=>lhs;unfold Instr.fill
  simp only [hp]
  rw [if_neg (by simp;omega)]
 ·rw [← Array.foldl_toList,Array.toList_zipIdx]
  have:=foldSet off v.cells.toList 0 cells (by simp;omega)
  simpa [hs] using this
theorem fill_parts (hE:RelEnv ρ w F e a.tmps) {places:List (Nat×Nat)}:∀ (ps:List (Nat×Operand)) (qs:List (Nat×Nat×Opd)) (cs:List AV) (cells:Array Value),
  mapO (fun p:Nat×Operand=>match places[p.1]?,opd p.2 with | some q,some x=>some (q.1,q.2,x) | _,_=>none) ps=some qs→RVs ρ w F cs cells.toList→(∀ v∈cells.toList,v.oneCell'=true) →
  ∀ cs',parts e cs qs=some cs'→∃ cells',Instr.fill (places.toArray[·]?) cells (ps.map fun p=>(p.1,a.eval p.2))=some cells'∧RVs ρ w F cs' cells'.toList∧∀ v∈cells'.toList,v.oneCell'=true
 | [],qs,cs,cells,hm,hc,h1,cs',hp=>by
  cases hm
  simp [parts] at hp
  subst hp
  exact ⟨cells,by simp [Instr.fill],hc,h1⟩
 | (k,x)::ps,qs,cs,cells,hm,hc,h1,cs',hp=>by
  obtain ⟨q,qs',hq,hqs,rfl⟩:=mapO_cons hm
  split at hq
  ·rename_i pl x' hpl hx
   cases hq
   simp only [parts] at hp
   split at hp
   ·rename_i vs hvs
    split at hp
    ·rename_i hcond
     obtain ⟨h2,h3⟩:=cellsOf_rel hvs (opd_rel hE hx)
     have hl1:=h2.length
     have hl2:=hc.length
     simp only [Array.length_toList] at hl1 hl2
     obtain ⟨cells1,hf,hcl⟩:=fill_one (place:=(places.toArray[·]?)) (cells:=cells) (i:=k) (off:=pl.1) (size:=pl.2) (v:=a.eval x) (rest:=ps.map fun p=>(p.1,a.eval p.2)) (by simpa using hpl) (by omega) (by omega)
     have hR:RVs ρ w F (setCells cs pl.1 vs) cells1.toList:=by
      rw [hcl,setCells,hcond.1]
      exact ((hc.take _).append h2).append (hc.drop _)
     have ho:∀ v∈cells1.toList,v.oneCell'=true:=by
      rw [hcl]
      intro v hv
      rcases List.mem_append.1 hv with hv | hv
      ·rcases List.mem_append.1 hv with hv | hv
       ·exact h1 v (List.mem_of_mem_take hv)
       ·exact h3 v hv
      ·exact h1 v (List.mem_of_mem_drop hv)
     obtain ⟨cells',h4,h5,h6⟩:=fill_parts hE ps qs' _ cells1 hqs hR ho cs' hp
     exact ⟨cells',by simp only [List.map_cons];rw [hf];exact h4,h5,h6⟩
    ·cases hp
   ·cases hp
  ·cases hq
theorem ok_build (R:Rel N base ρ h w) (hE:RelEnv ρ w (Free N ρ h) e a.tmps) {t:TypeId} {ps:Array (Nat×Operand)} {fs:Array Field} {zs:List AV} {places:List (Nat×Nat)} {qs:List (Nat×Nat×Opd)} {cs:List AV}
  (hu:P.underlying t=some (.struct fs)) (hz:zeroC P t=some zs) (hp:fs.toList.mapM (fun f=>(P.info? f.type).map fun i=>(f.offset,i.size))=some places)
  (hm:mapO (fun p:Nat×Operand=>match places[p.1]?,opd p.2 with | some q,some x=>some (q.1,q.2,x) | _,_=>none) ps.toList=some qs) (hc:parts e zs qs=some cs) :
  OpOK P N base ρ h w (do pure (.value (← Instr.build t (ps.map fun (i,x)=>(i,a.eval x))))) (.agg cs) []:=by
 unfold zeroC at hz
 cases hi:P.info? t with
 | none=>simp [hi] at hz
 | some i =>
  cases hzz:i.zero with
  | none=>simp [hi,hzz] at hz
  | some z =>
   simp [hi,hzz] at hz
   obtain ⟨zs0,hz,rfl⟩:=hz
   obtain ⟨h1,h2⟩:=mapO_valC (ρ:=ρ) (w:=w) (F:=Free N ρ h) hz
   obtain ⟨cells',h3,h4,h5⟩:=fill_parts hE ps.toList qs _ z.cells hm (wzA_rel h1) h2 cs hc
   have hb:P.built t (ps.map fun (i,x)=>(i,a.eval x)).toList=some cells':=by
    unfold Program.built
    simp only [hi,hu,hzz,hp]
    rw [Array.toList_map]
    exact h3
   exact .same R (by simp [run_build w t _ cells' hb]) (.agg h4 h5)
theorem zero_row {z:Array Value} {zs:List T} (hT:TRs w zs z.toList []) (n:Nat):TRs w (List.replicate n zs).flatten (madeCells z (n*z.size)).toList []:=by
 have hl:=hT.length
 simp only [Array.length_toList] at hl
 have e:(madeCells z (n*z.size)).toList=(List.replicate n z.toList).flatten:=by
  induction n with
  | zero=>simp [madeCells,Array.range_zero']
  | succ n ih =>
   rw [List.replicate_succ',List.flatten_append,← ih]
   apply List.ext_getElem
   ·simp [madeCells,Nat.add_mul]
   ·intro k h1 h2
    simp only [madeCells,Array.toList_map,Array.toList_range,List.getElem_map,List.getElem_range,List.flatten_cons,List.flatten_nil,List.append_nil,List.getElem_append,List.length_map,List.length_range]
    simp only [madeCells,Array.toList_map,Array.toList_range,List.length_map,List.length_range,Nat.add_mul,Nat.one_mul] at h1
    split
    ·rfl
    ·rename_i hk
     have hk':k - n*z.size<z.size:=by omega
     have hmod:k % z.size=k - n*z.size:=by
      have:k=(k - n*z.size)+z.size*n:=by rw [Nat.mul_comm z.size n];omega
      conv=>lhs;rw [this]
      rw [Nat.add_mul_mod_self_left,Nat.mod_eq_of_lt hk']
     rw [hmod]
     simp [hk']
 rw [e]
 clear e
 induction n with
 | zero=>exact .nil
 | succ n ih =>
  rw [List.replicate_succ,List.replicate_succ,List.flatten_cons,List.flatten_cons]
  exact hT.append ih
theorem mapO_len {α β:Type} {f:α→Option β} {xs:List α} {ys:List β} (hm:mapO f xs=some ys):ys.length=xs.length:=by
 induction xs generalizing ys with
 | nil=>cases hm;rfl
 | cons x xs ih=>obtain ⟨y,zs,_,h2,rfl⟩:=mapO_cons hm;simp [ih h2]
theorem easy_valT:∀ {cs:List Value} {zs:List T},mapO valT cs=some zs→zs.all easy=true
 | [],_,h=>by cases h;rfl
 | c::cs,_,h=>by
  obtain ⟨y,zs,h1,h2,rfl⟩:=mapO_cons h
  simp only [List.all_cons,Bool.and_eq_true]
  refine ⟨?_,easy_valT h2⟩
  unfold valT at h1
  split at h1 <;> first | (cases h1;rfl) | cases h1
theorem easy_wk:∀ {cs ts:List T},ts.all easy=true→(wk cs ts).all easy=true
 | [],_,h=>by simpa [wk] using h
 | c::cs,[],h=>by simp [wk]
 | c::cs,t::ts,h=>by
  simp only [List.all_cons,Bool.and_eq_true] at h
  simp only [wk,List.all_cons,Bool.and_eq_true]
  refine ⟨?_,easy_wk h.2⟩
  unfold wk1
  split
  ·rfl
  ·exact h.1
theorem easy_row {zs:List T} {n:Nat} (h:zs.all easy=true):(List.replicate n zs).flatten.all easy=true:=by
 rw [List.all_eq_true] at h ⊢
 intro t ht
 obtain ⟨x,hx,ht⟩:=List.mem_flatten.1 ht
 rw [List.eq_of_mem_replicate hx] at ht
 exact h t ht
theorem fill_elems (R:Rel N base ρ h w) (hE:RelEnv ρ w (Free N ρ h) e a.tmps) {sz:Nat}:∀ (ps:List (Nat×Operand)) (qs:List (Nat×Opd)) (es:List (List T)) (cells:Array Value) (fp:List Nat) (kz:List Nat) (fz:Bool),
  mapO (fun p:Nat×Operand=>(opd p.2).map fun x=>(p.1,x)) ps=some qs→TRs w es.flatten cells.toList fp→(∀ x∈es,x.length=sz)→Took N base ρ h kz fp fz→(fz=true→OWs w base es.flatten cells.toList) →
  ∀ es' f ks,elems h e sz es qs=some (es',f,ks)→∃ cells' fp',Instr.fill (fun i=>some (i*sz,sz)) cells (ps.map fun p=>(p.1,a.eval p.2))=some cells'∧TRs w es'.flatten cells'.toList fp' ∧
   (∀ x∈es',x.length=sz)∧es'.length=es.length∧Took N base ρ h (kz++ks) fp' (fz && f)∧((fz && f)=true→OWs w base es'.flatten cells'.toList)
 | [],qs,es,cells,fp,kz,fz,hm,hc,hl,hT,hW,es',f,ks,hel=>by
  cases hm
  simp [elems] at hel
  obtain ⟨rfl,rfl,rfl⟩:=hel
  exact ⟨cells,fp,by simp [Instr.fill],hc,hl,rfl,by simpa using hT,by simpa using hW⟩
 | (i,x)::ps,qs,es,cells,fp,kz,fz,hm,hc,hl,hT,hW,es',f,ks,hel=>by
  obtain ⟨q,qs',hq,hqs,rfl⟩:=mapO_cons hm
  obtain ⟨x',hx,rfl⟩:=Option.map_eq_some_iff.1 hq
  simp only [elems] at hel
  split at hel
  ·rename_i vs hvs
   split at hel
   ·rename_i ts f1 k1 hts
    split at hel
    ·rename_i hcond
     split at hel
     ·rename_i es1 f2 k2 hrec
      simp at hel
      obtain ⟨rfl,rfl,rfl⟩:=hel
      obtain ⟨h2,h3⟩:=cellsOf_rel hvs (opd_rel hE hx)
      obtain ⟨fq,h4,h5,h5o⟩:=toTs_rel R hts h2
      have htl:=toTs_len hts
      have hgd:es.getD i []=es[i]:=by simp [List.getD,hcond.1]
      rw [hgd] at hrec
      have hwl:(wk es[i] ts).length=ts.length:=wk_len
      replace h4:=wk_rel (cs:=es[i]) h4
      replace h5o:=fun hf=>wk_ow (cs:=es[i]) (h5o hf)
      have hl1:=h2.length
      have hl2:=hc.length
      simp only [Array.length_toList] at hl1 hl2
      rw [flatten_len hl] at hl2
      have hmul:i*sz+sz≤es.length*sz:=by
       have:=Nat.mul_le_mul_right sz (show i+1≤es.length from hcond.1)
       rwa [Nat.add_mul,Nat.one_mul] at this
      obtain ⟨cells1,hf,hcl⟩:=fill_one (place:=fun i=>some (i*sz,sz)) (cells:=cells) (i:=i) (off:=i*sz) (size:=sz) (v:=a.eval x) (rest:=ps.map fun p=>(p.1,a.eval p.2)) rfl (by omega) (by omega)
      have hcs:es[i]?=some es[i]:=by simp [hcond.1]
      have hcsl:es[i].length=sz:=hl _ (List.getElem_mem _)
      have hfl:=set_flatten (ts:=wk es[i] ts) (off:=0) hcs (by omega)
      rw [hfl.1] at hc hW
      obtain ⟨fa,fb,fc,hfp,hnew⟩:=hc.splice h4
      rw [← hfl.2] at hnew
      have hnewo:(fz && f1)=true→_:=fun hff=>by
       simp only [Bool.and_eq_true] at hff
       have:=(hW hff.1).splice (h5o hff.2)
       rw [← hfl.2] at this
       exact this
      have hsT:setT es[i] 0 (wk es[i] ts)=wk es[i] ts:=by simp [setT];omega
      rw [hsT] at hnew hnewo
      have hAl:((es.take i).flatten++es[i].take 0).length=i*sz:=by
       rw [List.length_append,flatten_len fun y hy=>hl y (List.mem_of_mem_take hy)]
       simp
       rw [Nat.min_eq_left (by omega)]
      have hBl:((es[i].drop 0).take (wk es[i] ts).length).length=sz:=by simp;omega
      rw [hAl,hBl,← hcl] at hnew hnewo
      have hset:∀ y∈es.set i (wk es[i] ts),y.length=sz:=by
       intro y hy
       rcases List.mem_or_eq_of_mem_set hy with hy | hy
       ·exact hl y hy
       ·subst hy;omega
      have hT':Took N base ρ h (kz++k1) (fa++fq++fc) (fz && f1):=by
       have hA:=hT.append R h5
       have hmem:∀ y,y∈fa++fq++fc→y∈fp++fq:=by
        intro y hy
        simp only [List.mem_append] at hy ⊢
        rcases hy with (hy | hy) | hy
        ·exact .inl (by rw [hfp];simp [hy])
        ·exact .inr hy
        ·exact .inl (by rw [hfp];simp [hy])
       refine ⟨fun y hy=>hA.free y (hmem y hy),fun hff y hy=>hA.fresh hff y (hmem y hy),fun hff hn=>?_⟩
       have hN:=hA.nodup hff hn
       rw [hfp,List.nodup_append,List.nodup_append,List.nodup_append] at hN
       rw [List.nodup_append,List.nodup_append]
       refine ⟨⟨hN.1.1.1,hN.2.1,fun y hy z hz=>hN.2.2 y (by simp [hy]) z hz⟩,hN.1.2.1,fun y hy z hz hyz=>?_⟩
       subst hyz
       rcases List.mem_append.1 hy with hy | hy
       ·exact hN.1.2.2 y (by simp [hy]) y hz rfl
       ·exact hN.2.2 y (by simp [hz]) y hy rfl
      obtain ⟨cells',fp',h6,h7,h8,h9,h10,h11⟩:=fill_elems R hE ps qs' _ cells1 _ _ _ hqs hnew hset hT' hnewo es1 f2 k2 hrec
      refine ⟨cells',fp',by simp only [List.map_cons];rw [hf];exact h6,h7,h8,by simpa using h9,?_,?_⟩
      ·rw [List.append_assoc,Bool.and_assoc] at h10
       exact h10
      ·rw [Bool.and_assoc] at h11
       exact h11
     ·cases hel
    ·cases hel
   ·cases hel
  ·cases hel
theorem ok_bslice (R:Rel N base ρ h w) (hE:RelEnv ρ w (Free N ρ h) e a.tmps) {nx:Nat} (hn:ρ nx=none) {t el:TypeId} {n:Nat} {ps:Array (Nat×Operand)} {i:TypeInfo} {zs:List T} {qs:List (Nat×Opd)}
  (hu:P.underlying t=some (.slice el)) (hi:P.info? el=some i) (hsmall:n*i.size≤16777216) (hsz:0<i.size) (hz:zeroT P el=some zs) (hzl:zs.length=i.size)
  (hm:mapO (fun p:Nat×Operand=>(opd p.2).map fun x=>(p.1,x)) ps.toList=some qs) {es:List (List T)} {fr:Bool} {ks:List Nat} (hel:elems h e i.size (List.replicate n zs) qs=some (es,fr,ks)) (hnd:nodupB ks=true) :
  OpOK P N base ρ h w (do pure (.value (← Instr.buildSlice t n (ps.map fun (i,x)=>(i,a.eval x))))) (.own nx) (kill ks++[(nx,.arr el i.size fr es)]):=by
 unfold zeroT at hz
 cases hzz:i.zero with
 | none=>simp [hi,hzz] at hz
 | some z =>
  simp [hi,hzz] at hz
  obtain ⟨zs0,hz,rfl⟩:=hz
  have hzs:=mapO_len hz
  rw [wk_len] at hzl
  simp only [Array.length_toList] at hzs
  have h0:=zero_row (w:=w) (wk_rel (cs:=(szs P 8 el).map fun s=>.lst s []) (mapO_valT (w:=w) hz)) n
  rw [show z.cells.size=i.size by omega] at h0
  obtain ⟨cells',fp',h1,h2,h3,h4,h5,h5o⟩:=fill_elems R hE ps.toList qs _ (madeCells z.cells (n*i.size)) [] [] true hm h0
   (by intro x hx;rw [List.eq_of_mem_replicate hx,wk_len];exact hzl) (Took.nil true) (fun _=>.easy h0.length (easy_row (easy_wk (easy_valT hz)))) es fr ks hel
  simp only [List.nil_append,Bool.true_and,List.length_replicate] at h4 h5 h5o
  have hl2:=h2.length
  rw [flatten_len h3] at hl2
  simp only [Array.length_toList] at hl2
  have hfill:Instr.fill (fun i_1=>some (i_1*i.size,i.size)) (madeCells z.cells (n*i.size)) (ps.map fun (i,x)=>(i,a.eval x)).toList=some cells':=by
   rw [Array.toList_map];exact h1
  have hrun:(Instr.buildSlice t n (ps.map fun (i,x)=>(i,a.eval x))).run P w=.ok (.slice (some ⟨w.heap.size,0,none⟩) n n) (w.alloc (.cells cells' el)):=by
   by_cases hn0:n=0
   ·subst hn0
    have hcells:madeCells z.cells (0*i.size)=#[]:=by simp [madeCells,Array.range_zero']
    rw [hcells] at h1
    simp [Instr.buildSlice,run_underlying hu,sizeOf,typeInfo,hi,h1,newRow,Array.range_zero']
   ·have:¬ n*i.size=0:=by
     intro hc
     rcases Nat.mul_eq_zero.1 hc with h' | h' <;> omega
    exact run_buildSlice w t el n _ cells' i z hu hi hzz (by omega) this hfill
  have hown:(w.alloc (.cells cells' el)).ownsRow base el i.size (.slice (some ⟨w.heap.size,0,none⟩) n n) (0+es.length) ([]++cells'.toList):=by
   rw [h4] at hl2 ⊢
   refine ⟨by simp;omega,.inr ⟨w.heap.size,n,cells',by simp,R.hb,heap_alloc_new w _,by omega,?_,by omega,?_⟩⟩
   ·have:=Nat.le_mul_of_pos_right n hsz
    simp only [maxLen]
    omega
   ·rw [List.take_of_length_le]
    ·rfl
    ·simp;omega
  have:=ok_arr (P:=P) R hn (s:=(do pure (.value (← Instr.buildSlice t n (ps.map fun (i,x)=>(i,a.eval x)))))) (vv:=.slice (some ⟨w.heap.size,0,none⟩) n n) (by simp [hrun]) (World.grownBy_alloc w _ none) hsz (es1:=[]) (es2:=es) (xs1:=[]) (xs2:=cells'.toList)
   (fp1:=[]) (fp2:=fp') (fr1:=true) (f:=fr) (kd:=[]) (ks:=ks) hown (by simp) h3 .nil h2 h5 (nodupB_iff.1 hnd) (by simp) (by simp) (by simp) (by simp) (by intro g hg;cases hg)
   (by intro g hg;simp [blkOf] at hg;exact .inl (by omega)) (by intro g k _ _ hx;obtain ⟨b,hb,_⟩:=hx;cases hb) (fun _=>.nil) h5o (lb:=el) (.inr rfl)
  simpa using this
theorem ok_mkslice (R:Rel N base ρ h w) {nx:Nat} (hn:ρ nx=none) {t el:TypeId} {i:TypeInfo} {zs:List T} (hu:P.underlying t=some (.slice el)) (hi:P.info? el=some i) (hz:zeroT P el=some zs) (hzl:zs.length=i.size) (hsz:0<i.size)
  {kl kc:IntKind} {l c:Int} (h0:0≤l) (hlc:l≤c) (hb:c.toNat*i.bytes≤room) (hc:c≤140737488355328) :
  OpOK P N base ρ h w (do pure (.value (← Instr.makeSlice t (.int kl l) (.int kc c)))) (.own nx) [(nx,.arr el i.size true (List.replicate l.toNat zs))]:=by
 unfold zeroT at hz
 cases hzz:i.zero with
 | none=>simp [hi,hzz] at hz
 | some z =>
  simp [hi,hzz] at hz
  obtain ⟨zs0,hz,rfl⟩:=hz
  have hzs:=mapO_len hz
  rw [wk_len] at hzl
  simp only [Array.length_toList] at hzs
  have hbb:(i.bytes:Int)*c≤281474976710656:=by
   have e:c=(c.toNat:Int):=by omega
   rw [e,Int.mul_comm,← Int.natCast_mul]
   simp only [room] at hb
   omega
  have hrun:=run_make (P:=P) w t el i z hu hi hzz kl kc l c h0 hlc hbb (by omega)
  have hT:=zero_row (w:=w) (wk_rel (cs:=(szs P 8 el).map fun s=>.lst s []) (mapO_valT (w:=w) hz)) l.toNat
  rw [show z.cells.size=i.size by omega] at hT
  have hle:l.toNat*i.size≤c.toNat*i.size:=Nat.mul_le_mul_right _ (by omega)
  have htake:(madeCells z.cells (c.toNat*i.size)).toList.take (l.toNat*i.size)=(madeCells z.cells (l.toNat*i.size)).toList:=by
   apply List.ext_getElem
   ·rw [List.length_take,Array.length_toList,Array.length_toList,size_madeCells,size_madeCells]
    exact Nat.min_eq_left hle
   ·intro k h1 h2
    simp [madeCells]
  have hown:(w.alloc (.cells (madeCells z.cells (c.toNat*i.size)) el)).ownsRow base el i.size (.slice (some ⟨w.heap.size,0,none⟩) l.toNat c.toNat) (0+(List.replicate l.toNat (wk ((szs P 8 el).map fun s=>T.lst s []) zs0)).length) ([]++(madeCells z.cells (l.toNat*i.size)).toList):=by
   refine ⟨by simp [madeCells],.inr ⟨w.heap.size,c.toNat,_,by simp,R.hb,heap_alloc_new w _,by simp;omega,by simp only [maxLen];omega,by simp [madeCells],by simpa using htake⟩⟩
  have:=ok_arr (P:=P) R hn (s:=(do pure (.value (← Instr.makeSlice t (.int kl l) (.int kc c))))) (by simp [hrun]) (World.grownBy_alloc w _ none) hsz (es1:=[]) (es2:=List.replicate l.toNat (wk ((szs P 8 el).map fun s=>T.lst s []) zs0)) (xs1:=[]) (xs2:=_)
   (fp1:=[]) (fp2:=[]) (fr1:=true) (f:=true) (kd:=[]) (ks:=[]) hown (by simp) (by intro x hx;rw [List.eq_of_mem_replicate hx,wk_len];exact hzl) .nil hT (Took.nil _) List.nodup_nil (by simp) (by simp) (by simp) (by simp) (by intro g hg;cases hg)
   (by intro g hg;simp [blkOf] at hg;exact .inl (by omega)) (by intro g k hk;cases hk) (fun _=>.nil) (fun _=>.easy hT.length (easy_row (easy_wk (easy_valT hz)))) (lb:=el) (.inr rfl)
  simpa [kill] using this
theorem ok_append (R:Rel N base ρ h w) {nx:Nat} (hn:ρ nx=none) {t ty el:TypeId} {i:TypeInfo} {z:Value} (hu:P.underlying t=some (.slice el)) (hi:P.info? el=some i) (hz:i.zero=some z) (hzs:z.cells.size=i.size) (hsz:0<i.size)
  {mv:Bool} {x y:AV} {xv yv:Value} (hx:RV ρ w (Free N ρ h) x xv) (hy:RV ρ w (Free N ρ h) y yv) {ys:List (List T)} {f:Bool} {ks:List Nat} (hs:srcOf h i.size mv y=some (ys,f,ks)) (hun:el≠unk) :
  (x=.t .nil→ys.length*i.bytes≤room→ys.length≤room→OpOK P N base ρ h w (do pure (.value (← Builtin.append_ #[t,t] ty #[xv,yv]))) (.own nx) (kill ks++[(nx,.arr el i.size f ys)])) ∧
  (∀ b fr es,x=.own b→gt h b=.arr el i.size fr es→nodupB (b::ks)=true→(es.length+ys.length)*i.bytes≤room→es.length+ys.length≤room →
   OpOK P N base ρ h w (do pure (.value (← Builtin.append_ #[t,t] ty #[xv,yv]))) (.own nx) (kill (b::ks)++[(nx,.arr el i.size (fr && f) (es++ys))])):=by
 obtain ⟨b2,c2,news,fp,rfl,hl,hsrc,ht,hlen,hT,hnd,hks,hW⟩:=src_rel R hsz hs hy
 constructor
 ·intro hxn hb1 hb2
  subst hxn
  cases hx.nil_inv
  obtain ⟨v',w',row,h1,h2,h3,h4,h5⟩:=append_run (P:=P) (ty:=ty) hu hi hz hzs (World.ownsRow_nil w base el i.size) hl hsrc ht.one (c2:=c2) (by simp only [room] at hb2;omega) (by simp only [room] at hb1;simpa using hb1) R.hb
  have:=ok_arr (P:=P) R hn (s:=(do pure (.value (← Builtin.append_ #[t,t] ty #[.slice none 0 0,.slice b2 ys.length c2])))) (vv:=v') (by simp [h1]) h3 hsz (es1:=[]) (es2:=ys) (xs1:=[]) (xs2:=news)
   (fp1:=[]) (fp2:=fp) (fr1:=true) (f:=f) (kd:=[]) (ks:=ks) (by simpa using h2) (by simp) hlen .nil ht hT hnd (by simp) (by simp) (by simp) (by simp)
   (by intro g hg;have:=h4 g hg;simp [blkOf] at this) (by intro g hg;exact (h5 g hg).imp id fun h'=>by simp [blkOf] at h') (by intro g k _ _ hx;obtain ⟨b,hb,_⟩:=hx;cases hb) (fun _=>.nil) hW (lb:=el) (.inr rfl)
  simpa using this
 ·intro b fr es hxb hgb hnb hb1 hb2
  subst hxb
  rw [nodupB_iff,List.nodup_cons] at hnb
  have hd:gt h b≠.dead:=by rw [hgb];intro hc;cases hc
  obtain ⟨r,hr,hB⟩:=R.blk b hd
  rw [hgb] at hB
  obtain ⟨_,el',xs,hel,ho,_,hl1,ht1,hf1,hfr1,how1⟩:=hB
  obtain rfl:el'=el:=hel.resolve_left hun
  cases hx with
  | @own _ r2 hr2 hone =>
   rw [hr] at hr2
   cases hr2
   obtain ⟨v',w',row,h1,h2,h3,h4,h5⟩:=append_run (P:=P) (ty:=ty) hu hi hz hzs ho hl hsrc ht.one (c2:=c2) (by simp only [room] at hb2;omega) (by simp only [room] at hb1;exact hb1) R.hb
   have hfb:fr=true→isFresh (gt h b)=true:=fun hft=>by rw [hgb];exact hft
   have:=ok_arr (P:=P) R hn (s:=(do pure (.value (← Builtin.append_ #[t,t] ty #[r.v,.slice b2 ys.length c2])))) (vv:=v') (by simp [h1]) h3 hsz (es1:=es) (es2:=ys) (xs1:=xs) (xs2:=news)
    (fp1:=r.fp) (fp2:=fp) (fr1:=fr) (f:=f) (kd:=[b]) (ks:=ks) h2 hl1 hlen ht1 ht hT hnd hf1 hfr1
    (by intro hft g hg d rd hdk hrd hfd hgd;exact hdk (by rw [← R.apart b d r rd g hr hrd (hfb hft) hfd hg hgd];simp))
    (by intro hft g hg k hk rk hrk hfk hgk;exact hnb.1 (by rw [R.apart b k r rk g hr hrk (hfb hft) hfk hg hgk];exact hk))
    (by intro g hg;exact ⟨b,by simp,r,hr,hd,.inl (h4 g hg)⟩) (by intro g hg;exact (h5 g hg).imp id fun h'=>⟨b,by simp,r,hr,hd,.inl h'⟩)
    (by
     intro g k hk ho' hx
     obtain ⟨b',hb',ho2⟩:=hx
     simp at hb'
     subst hb'
     obtain ⟨r1,q1,q2,q3⟩:=ho'
     obtain ⟨r2,q4,q5,q6⟩:=ho2
     exact hnb.1 (by rw [R.inj b' k r2 r1 g q4 q1 q5 q2 q6 q3];exact hk)) how1 hW (lb:=el') (.inr rfl)
   simpa using this
end
end Go.AM
/- part: AMOps6 -/
namespace Go.AM
open Go.RowKit (Below)
section
variable {P:Program} {N:Par} {base:Nat} {ρ:Map} {h:List Blk} {w w':World} {F:Nat→Prop} {e:Env} {a:Act}
theorem ok_iaddr (R:Rel N base ρ h w) {t el:TypeId} {i:TypeInfo} (hu:P.underlying t=some (.slice el)) (hi:P.info? el=some i) {x:AV} {xv:Value} {k:IntKind} {n:Int} (h0:0≤n) {v:AV} {u:List (Nat×Blk)}
  (hv:(match x with
   | .t (.lst sz' es)=>if sz'=i.size then (match es[n.toNat]? with
    | some cs=>some (AV.iptr cs 0,([]:List (Nat×Blk)))
    | none=>none) else none
   | .own b=>match gt h b with
    | .arr _ sz' _ es=>if sz'=i.size∧n.toNat<es.length then some (.eptr b n.toNat i.size 0,[]) else none
    | .xarr _ sz' es=>if sz'=i.size∧n.toNat<es.length then some (.eptr b n.toNat i.size 0,[]) else none
    | _=>none
   | .bsl b m=>if i.size=1∧n.toNat<m then some (.ptr b n.toNat,[]) else none
   | _=>none)=some (v,u)) (hx:RV ρ w (Free N ρ h) x xv) :
  OpOK P N base ρ h w (do pure (.value (← Instr.indexAt t xv (.int k n)))) v u:=by
 have key:∀ (ad:Addr) (len cap:Nat),xv=.slice (some ad) len cap→n.toNat<len→((do pure (.value (← Instr.indexAt t xv (.int k n)))):Sem Next).run P w=.ok (.value (.pointer (some (ad.add (n.toNat*i.size))))) w:=by
  intro ad len cap hxv hlt
  subst hxv
  have h1:n<(len:Int):=by omega
  simp [Instr.indexAt,asIntOf,run_underlying hu,h0,h1,sizeOf,typeInfo,hi]
 cases hx with
 | @t x val fp hT hf =>
  cases hT with
  | @lst sz' es g off cap c te fz fp' hne hsz' hcap hg hlen hc =>
   simp only at hv
   split at hv
   ·rename_i hse
    subst hse
    split at hv
    ·rename_i cs hcs
     cases hv
     have hlt:n.toNat<es.length:=(List.getElem?_eq_some_iff.1 hcs).1
     obtain ⟨fq,h1,h2⟩:=hc.elem hlen hcs
     refine .same R (key _ _ _ rfl hlt) ?_
     rw [addr_add]
     refine RV.iptr (o:=off+n.toNat*i.size) (off:=0) (fp:=fq) hg (hf g (by simp)) ?_ fun g' hg'=>hf g' (by simp [h2 g' hg'])
     have hcl:cs.length=i.size:=hlen cs (List.mem_of_getElem? hcs)
     rw [List.drop_take,List.take_take,List.drop_drop] at h1
     have hmul:n.toNat*i.size+i.size≤es.length*i.size:=by
      have:=Nat.mul_le_mul_right i.size (show n.toNat+1≤es.length from hlt)
      rwa [Nat.add_mul,Nat.one_mul] at this
     rw [Nat.min_eq_left (by omega)] at h1
     exact h1
    ·cases hv
   ·cases hv
  | lst0 sz' ad cap=>simp at hv
  | _=>simp at hv
 | @own b r hr hone =>
  simp only at hv
  split at hv
  ·rename_i el' sz' fr es hb
   split at hv
   ·rename_i hcond
    cases hv
    have hd:gt h b≠.dead:=by rw [hb];intro hc;cases hc
    obtain ⟨r',h1,h2⟩:=R.blk b hd
    rw [hr] at h1
    cases h1
    rw [hb] at h2
    obtain ⟨_,_,xs,_,ho,_⟩:=h2
    rcases ho.2 with ⟨hv,hz⟩ | ⟨g,cap,cur,hv,_⟩
    ·omega
    ·refine .same R (key _ _ _ hv hcond.2) ?_
     rw [addr_add,Nat.zero_add]
     exact RV.eptr (off:=0) hr hv
   ·cases hv
  ·rename_i el' sz' es hb
   split at hv
   ·rename_i hcond
    cases hv
    have hd:gt h b≠.dead:=by rw [hb];intro hc;cases hc
    obtain ⟨r',h1,h2⟩:=R.blk b hd
    rw [hr] at h1
    cases h1
    rw [hb] at h2
    obtain ⟨_,xs,_,ho,_⟩:=h2
    rcases ho.2 with ⟨hv,hz⟩ | ⟨g,cap,cur,hv,_⟩
    ·omega
    ·refine .same R (key _ _ _ hv hcond.2) ?_
     rw [addr_add,Nat.zero_add]
     exact RV.eptr (off:=0) hr hv
   ·cases hv
  ·cases hv
 | @bsl b m g r hr hrv =>
  simp only at hv
  split at hv
  ·rename_i hcond
   cases hv
   refine .same R (key _ _ _ rfl hcond.2) ?_
   rw [addr_add,hcond.1,Nat.mul_one,Nat.zero_add]
   exact .ptr hr hrv
  ·cases hv
 | _=>simp at hv
theorem TRs.mid {es:List (List T)} {xs:List Value} {fp:List Nat} {sz:Nat} (hc:TRs w es.flatten xs fp) (hl:∀ x∈es,x.length=sz) {l r:Nat} (hlr:l≤r) (hr:r≤es.length) :
  ∃ fq,TRs w ((es.take r).drop l).flatten ((xs.drop (l*sz)).take ((r - l)*sz)) fq∧∀ g∈fq,g∈fp:=by
 have e:es=es.take l++((es.take r).drop l++es.drop r):=by
  have h1:(es.take r).drop l++es.drop r=es.drop l:=by
   rw [List.drop_take]
   have h2:es.drop r=(es.drop l).drop (r - l):=by rw [List.drop_drop];congr 1;omega
   rw [h2,List.take_append_drop]
  rw [h1,List.take_append_drop]
 rw [e,List.flatten_append,List.flatten_append] at hc
 obtain ⟨fa,fb,rfl,_,h2⟩:=hc.split
 obtain ⟨fc,fd,rfl,h3,_⟩:=h2.split
 have hl1:(es.take l).flatten.length=l*sz:=by
  rw [flatten_len fun x hx=>hl x (List.mem_of_mem_take hx)]
  simp
  rw [Nat.min_eq_left (by omega)]
 have hl2:((es.take r).drop l).flatten.length=(r - l)*sz:=by
  rw [flatten_len fun x hx=>hl x (List.mem_of_mem_take (List.mem_of_mem_drop hx))]
  simp
  rw [Nat.min_eq_left (by omega)]
 rw [hl1,hl2] at h3
 exact ⟨fc,h3,fun g hg=>by simp [hg]⟩
theorem bnd_some (hE:RelEnv ρ w F e a.tmps) {d:Nat} {o:Option Operand} {o':Option Opd} (ho:(match o with | none=>some none | some o=>(opd o).map some)=some o') {r:Nat} (hb:bnd e d o'=some r) :
  (o=none∧r=d)∨∃ x k n,o=some x∧a.eval x=.int k n∧0≤n∧r=n.toNat:=by
 cases o with
 | none=>cases ho;simp [bnd] at hb;exact .inl ⟨rfl,hb.symm⟩
 | some x =>
  obtain ⟨y,hy,rfl⟩:=Option.map_eq_some_iff.1 ho
  simp only [bnd] at hb
  split at hb
  ·rename_i k n hn
   have hr:=opd_rel hE hy
   rw [hn] at hr
   simp only [natOf] at hb
   split at hb
   ·rename_i h0
    cases hb
    exact .inr ⟨x,k,n,rfl,hr.int_inv,h0,rfl⟩
   ·cases hb
  ·cases hb
theorem run_sliceBound {k:IntKind} {n:Int} {y:Nat} {code:BoundsCode} (h0:0≤n) (h1:n.toNat≤y):(Instr.sliceBound (.int k n) y code).run P w=.ok n.toNat w:=by
 have h2:n≤(y:Int):=by omega
 simp [Instr.sliceBound,asIntOf,h0,h2]
theorem run_sliceBounds (hE:RelEnv ρ w F e a.tmps) {lo hi:Option Operand} {lo' hi':Option Opd} (hlo:(match lo with | none=>some none | some o=>(opd o).map some)=some lo')
  (hhi:(match hi with | none=>some none | some o=>(opd o).map some)=some hi') {len cap l r:Nat} (hl:bnd e 0 lo'=some l) (hr:bnd e len hi'=some r) (hlr:l≤r) (hrc:r≤cap) (isS:Bool) :
  (Instr.sliceBounds isS len cap (lo.map a.eval) (hi.map a.eval) none).run P w=.ok (l,r,cap) w:=by
 rcases bnd_some hE hlo hl with ⟨rfl,rfl⟩ | ⟨x,k,n,rfl,hx,h0,rfl⟩ <;> rcases bnd_some hE hhi hr with ⟨rfl,rfl⟩ | ⟨y,k',n',rfl,hy,h0',rfl⟩
 ·simp [Instr.sliceBounds]
 ·simp [Instr.sliceBounds,hy,run_sliceBound h0' hrc]
 ·simp [Instr.sliceBounds,hx,run_sliceBound h0 hlr]
 ·simp [Instr.sliceBounds,hx,hy,run_sliceBound h0 hlr,run_sliceBound h0' hrc]
theorem okEq_field {fs:List Field} {j:Nat} {ks:List Nat} (hk:okEq P fs j=some ks):∀ (d:Nat) (xs ys:List AV) (vx vy:Array Value),RVs ρ w F xs (vx.toList.drop j)→RVs ρ w F ys (vy.toList.drop j) →
  ∀ r,eqAs ks xs ys=some r→(Op.eqFields (d+1) vx vy fs).run P w=.ok r w:=by
 induction fs generalizing j ks with
 | nil =>
  intro d xs ys vx vy hx hy r hr
  cases hk
  cases xs <;> cases ys <;> simp [eqAs] at hr
  subst hr
  simp [Op.eqFields]
 | cons f fs ih =>
  intro d xs ys vx vy hx hy r hr
  simp only [okEq] at hk
  split at hk
  ·rename_i hcond
   obtain ⟨hname,hoff⟩:=hcond
   split at hk
   ·rename_i k ks' hty hrest
    cases hk
    cases xs with
    | nil=>simp [eqAs] at hr
    | cons x xs =>
     cases ys with
     | nil=>cases x <;> simp [eqAs] at hr
     | cons y ys =>
      obtain ⟨a1,hx0,hxa⟩:=hx.at (i:=0) (a:=x) rfl
      obtain ⟨b1,hy0,hyb⟩:=hy.at (i:=0) (a:=y) rfl
      have hxd:RVs ρ w F xs (vx.toList.drop (j+1)):=by have:=hx.drop 1;simpa [List.drop_drop] using this
      have hyd:RVs ρ w F ys (vy.toList.drop (j+1)):=by have:=hy.drop 1;simpa [List.drop_drop] using this
      have hx1:vx[j]?=some a1:=by simpa using hx0
      have hy1:vy[j]?=some b1:=by simpa using hy0
      cases x <;> try (simp [eqAs] at hr;done)
      rename_i ta
      cases y <;> try (simp [eqAs] at hr;done)
      rename_i tb
      simp only [eqAs] at hr
      split at hr
      ·rename_i r1 r2 h1 h2
       cases hr
       have hrec:=ih hrest d xs ys vx vy hxd hyd r2 h2
       have hpx:∀ (v:Array Value) (c:Value),v[j]?=some c→(part f.type v f.offset).run P w=.ok c w:=by
        intro v c hv
        have hag:(isAgg f.type).run P w=.ok false w:=by
         cases hu:P.underlying f.type with
         | none=>rw [hu] at hty;cases hty
         | some dd=>simp only [isAgg,Sem.run_bind,run_underlying hu,Result.andThen_ok];rw [hu] at hty;cases dd <;> first | rfl | simp at hty
        simp [part,hag,hoff,hv]
       have heq:(Op.equalIn (d+1) f.type a1 b1).run P w=.ok r1 w:=by
        split at hty
        ·rename_i hu
         cases hty
         cases ta <;> cases tb <;> simp [tEq] at h1
         subst h1
         rw [hxa.bool_inv,hyb.bool_inv]
         exact run_equalIn_bool' w d f.type _ _ hu
        ·rename_i k' hu
         cases hty
         cases ta <;> cases tb <;> simp [tEq] at h1
         obtain ⟨rfl,rfl⟩:=h1
         rw [hxa.int_inv,hyb.int_inv]
         exact run_equalIn_int w d f.type _ k' _ _ hu
        ·rename_i hu
         cases hty
         cases ta <;> cases tb <;> simp [tEq] at h1
         subst h1
         rw [hxa.str_inv,hyb.str_inv]
         exact run_equalIn_string w d f.type _ _ hu
        ·cases hty
       simp only [Op.eqFields,hname,ne_eq,not_false_eq_true,if_true,Sem.run_bind,hpx vx a1 hx1,hpx vy b1 hy1,Result.andThen_ok,heq]
       cases r1
       ·simp
       ·simpa using hrec
      ·cases hr
   ·cases hk
  ·cases hk
end
end Go.AM
/- part: AMOps7 -/
namespace Go.AM
open Go.RowKit (Below)
section
variable {P:Program} {N:Par} {base:Nat} {ρ:Map} {h:List Blk} {w w':World} {F:Nat→Prop} {e:Env} {a:Act}
theorem bin_sound {op:BinOp} {t:TypeId} {x y:Operand} {p q r:T} {u v:Value} (hx:RV ρ w F (.t p) u) (hy:RV ρ w F (.t q) v) (hr:binT op p q=some r) :
  ∃ z,((do eqGuard op t x y u v;binOp op t u v):Sem Value).run P w=.ok z w∧RV ρ w F (.t r) z:=by
 cases p <;> cases q <;> try (simp [binT] at hr;done)
 ·rename_i k m k' n
  cases hx.int_inv
  cases hy.int_inv
  cases op <;> simp [binT] at hr
  case shl=>obtain ⟨h0,rfl⟩:=hr;exact ⟨_,by simp [eqGuard,binOp,Op.shift,show ¬ n<0 by omega],.int_mk _ _⟩
  case shr=>obtain ⟨h0,rfl⟩:=hr;exact ⟨_,by simp [eqGuard,binOp,Op.shift,show ¬ n<0 by omega],.int_mk _ _⟩
  case add=>obtain ⟨rfl,rfl⟩:=hr;exact ⟨_,by simp [eqGuard,binOp,Op.intArith],.int_mk _ _⟩
  case sub=>obtain ⟨rfl,rfl⟩:=hr;exact ⟨_,by simp [eqGuard,binOp,Op.intArith],.int_mk _ _⟩
  case mul=>obtain ⟨rfl,rfl⟩:=hr;exact ⟨_,by simp [eqGuard,binOp,Op.intArith],.int_mk _ _⟩
  case quo=>obtain ⟨rfl,h0,rfl⟩:=hr;exact ⟨_,by simp [eqGuard,binOp,Op.intDiv,h0],.int_mk _ _⟩
  case rem=>obtain ⟨rfl,h0,rfl⟩:=hr;exact ⟨_,by simp [eqGuard,binOp,Op.intDiv,h0],.int_mk _ _⟩
  case and=>obtain ⟨rfl,rfl⟩:=hr;exact ⟨_,by simp [eqGuard,binOp,Op.intBits],.int_mk _ _⟩
  case or=>obtain ⟨rfl,rfl⟩:=hr;exact ⟨_,by simp [eqGuard,binOp,Op.intBits],.int_mk _ _⟩
  case xor=>obtain ⟨rfl,rfl⟩:=hr;exact ⟨_,by simp [eqGuard,binOp,Op.intBits],.int_mk _ _⟩
  case andNot=>obtain ⟨rfl,rfl⟩:=hr;exact ⟨_,by simp [eqGuard,binOp,Op.intBits],.int_mk _ _⟩
  case eql=>obtain ⟨rfl,rfl⟩:=hr;exact ⟨_,by simp [eqGuard,binOp,Op.intCmp],.bool_mk _⟩
  case neq=>obtain ⟨rfl,rfl⟩:=hr;exact ⟨_,by simp [eqGuard,binOp,Op.intCmp],.bool_mk _⟩
  case lss=>obtain ⟨rfl,rfl⟩:=hr;exact ⟨_,by simp [eqGuard,binOp,Op.intCmp],.bool_mk _⟩
  case leq=>obtain ⟨rfl,rfl⟩:=hr;exact ⟨_,by simp [eqGuard,binOp,Op.intCmp],.bool_mk _⟩
  case gtr=>obtain ⟨rfl,rfl⟩:=hr;exact ⟨_,by simp [eqGuard,binOp,Op.intCmp],.bool_mk _⟩
  case geq=>obtain ⟨rfl,rfl⟩:=hr;exact ⟨_,by simp [eqGuard,binOp,Op.intCmp],.bool_mk _⟩
 ·rename_i s1 s2
  cases hx.str_inv
  cases hy.str_inv
  cases op <;> simp [binT] at hr
  case add =>
   obtain ⟨h0,rfl⟩:=hr
   refine ⟨_,?_,.str_mk _⟩
   have:¬ (9223372036854775807<(s1.size:Int)+(s2.size:Int)):=by omega
   simp [eqGuard,binOp,Op.stringOp,this]
  case eql=>subst hr;exact ⟨_,by simp [eqGuard,binOp,Op.stringOp],.bool_mk _⟩
  case neq=>subst hr;exact ⟨_,by simp [eqGuard,binOp,Op.stringOp],.bool_mk _⟩
  case lss=>subst hr;exact ⟨_,by simp [eqGuard,binOp,Op.stringOp],.bool_mk _⟩
  case leq=>subst hr;exact ⟨_,by simp [eqGuard,binOp,Op.stringOp],.bool_mk _⟩
  case gtr=>subst hr;exact ⟨_,by simp [eqGuard,binOp,Op.stringOp],.bool_mk _⟩
  case geq=>subst hr;exact ⟨_,by simp [eqGuard,binOp,Op.stringOp],.bool_mk _⟩
theorem un_sound {op:UnOp} {p r:T} {u:Value} (hx:RV ρ w F (.t p) u) (hr:unT op p=some r):∃ z,(Op.unary op u).run P w=.ok z w∧RV ρ w F (.t r) z:=by
 cases p <;> cases op <;> try (simp [unT] at hr;done)
 ·cases hx.int_inv;simp [unT] at hr;subst hr;exact ⟨_,by simp [Op.unary,Op.intArith],.int_mk _ _⟩
 ·cases hx.bool_inv;simp [unT] at hr;subst hr;exact ⟨_,by simp [Op.unary],.bool_mk _⟩
theorem isNil_slice (R:Rel N base ρ h w) {x:AV} {v:Value} (hx:RV ρ w (Free N ρ h) x v) {r:Bool} (hr:isNilAV h true x=some r):∃ c n m,v=.slice c n m∧c.isNone=r:=by
 cases hx with
 | t hT hf =>
  cases hT with
  | nil=>simp [isNilAV] at hr;subst hr;exact ⟨none,0,0,rfl,rfl⟩
  | lst0=>simp [isNilAV] at hr
  | @lst sz es g off cap c' te fz fp hne hsz hcap hg hlen hc =>
   cases es with
   | nil=>exact absurd rfl hne
   | cons y ys=>simp [isNilAV] at hr;subst hr;exact ⟨_,_,_,rfl,rfl⟩
  | _=>simp [isNilAV] at hr
 | @own b r' hr' hone =>
  simp only [isNilAV] at hr
  split at hr
  ·rename_i el' sz fr y ys hb
   cases hr
   obtain ⟨r2,h1,h2⟩:=R.blk b (by rw [hb];intro hc;cases hc)
   rw [hr'] at h1
   cases h1
   rw [hb] at h2
   obtain ⟨_,_,xs,_,ho,_⟩:=h2
   rcases ho.2 with ⟨_,hz⟩ | ⟨g,cap,cur,hv',_⟩
   ·simp at hz
   ·rw [hv'];exact ⟨_,_,_,rfl,rfl⟩
  ·cases hr
 | _=>simp [isNilAV] at hr
theorem isNil_pointer {x:AV} {v:Value} (hx:RV ρ w F x v) {r:Bool} (hr:isNilAV h false x=some r):∃ c,v=.pointer c∧c.isNone=r:=by
 cases hx with
 | nilp=>simp [isNilAV] at hr;subst hr;exact ⟨none,rfl,rfl⟩
 | ptr=>simp [isNilAV] at hr;subst hr;exact ⟨_,rfl,rfl⟩
 | eptr=>simp [isNilAV] at hr;subst hr;exact ⟨_,rfl,rfl⟩
 | iptr=>simp [isNilAV] at hr;subst hr;exact ⟨_,rfl,rfl⟩
 | _=>simp [isNilAV] at hr
theorem run_nil_slice {t el:TypeId} (hu:P.underlying t=some (.slice el)) (d:Nat) (c:Option Addr) (n m:Nat):(Op.equalIn (d+1) t (.slice c n m) (.slice none 0 0)).run P w=.ok c.isNone w:=by
 cases c <;> simp [Op.equalIn,run_underlying hu]
theorem run_nil_pointer {t el:TypeId} (hu:P.underlying t=some (.pointer el)) (d:Nat) (c:Option Addr):(Op.equalIn (d+1) t (.pointer c) (.pointer none)).run P w=.ok c.isNone w:=by
 cases c <;> simp [Op.equalIn,run_underlying hu]
theorem RV.ptr_val {b off:Nat} {v:Value} (hv:RV ρ w F (.ptr b off) v):∃ p,v=.pointer (some p):=by cases hv;exact ⟨_,rfl⟩
theorem RV.eptr_val {b i sz off:Nat} {v:Value} (hv:RV ρ w F (.eptr b i sz off) v):∃ p,v=.pointer (some p):=by cases hv;exact ⟨_,rfl⟩
theorem RV.iptr_val {cs:List T} {off:Nat} {v:Value} (hv:RV ρ w F (.iptr cs off) v):∃ p,v=.pointer (some p):=by cases hv;exact ⟨_,rfl⟩
theorem RV.fn_val {f:Nat} {cs:List AV} {v:Value} (hv:RV ρ w F (.fn f cs) v):∃ c:Array Value,v=.func (.func f) #[] c∧RVs ρ w F cs c.toList:=by cases hv;exact ⟨_,rfl,by assumption⟩
theorem RV.tup_val {cs:List AV} {v:Value} (hv:RV ρ w F (.tup cs) v):∃ c:Array Value,v=.tuple c∧RVs ρ w F cs c.toList:=by cases hv;exact ⟨_,rfl,by assumption⟩
theorem RV.agg_val {cs:List AV} {v:Value} (hv:RV ρ w F (.agg cs) v):∃ c:Array Value,v=.agg c∧RVs ρ w F cs c.toList∧∀ v∈c.toList,v.oneCell'=true:=by cases hv;exact ⟨_,rfl,by assumption,by assumption⟩
theorem mapO_bparts (hE:RelEnv ρ w F e a.tmps):∀ (ps:List (Nat×Operand)) (qs:List (Nat×Opd)) (cs:List AV) (cells:Array Value),
  mapO (fun p:Nat×Operand=>(opd p.2).map fun x=>(p.1,x)) ps=some qs→RVs ρ w F cs cells.toList→(∀ v∈cells.toList,v.oneCell'=true) →
  ∀ cs',bparts e cs qs=some cs'→∃ cells',Instr.fill (fun i=>some (i*1,1)) cells (ps.map fun p=>(p.1,a.eval p.2))=some cells'∧RVs ρ w F cs' cells'.toList∧∀ v∈cells'.toList,v.oneCell'=true
 | [],qs,cs,cells,hm,hc,h1,cs',hp=>by
  cases hm
  simp [bparts] at hp
  subst hp
  exact ⟨cells,by simp [Instr.fill],hc,h1⟩
 | (i,x)::ps,qs,cs,cells,hm,hc,h1,cs',hp=>by
  obtain ⟨q,qs',hq,hqs,rfl⟩:=mapO_cons hm
  obtain ⟨x',hx,rfl⟩:=Option.map_eq_some_iff.1 hq
  simp only [bparts] at hp
  split at hp
  ·rename_i v hv
   split at hp
   ·rename_i hlt
    obtain ⟨h2,h3⟩:=cellsOf_rel hv (opd_rel hE hx)
    have hl1:=h2.length
    have hl2:=hc.length
    simp only [Array.length_toList,List.length_cons,List.length_nil] at hl1 hl2
    obtain ⟨cells1,hf,hcl⟩:=fill_one (place:=fun i=>some (i*1,1)) (cells:=cells) (i:=i) (off:=i*1) (size:=1) (v:=a.eval x) (rest:=ps.map fun p=>(p.1,a.eval p.2)) rfl (by omega) (by omega)
    have hR:RVs ρ w F (cs.set i v) cells1.toList:=by
     rw [hcl,List.set_eq_take_append_cons_drop,if_pos hlt,Nat.mul_one]
     have:=((hc.take i).append h2).append (hc.drop (i+1))
     simpa using this
    have ho:∀ v∈cells1.toList,v.oneCell'=true:=by
     rw [hcl]
     intro v hv
     rcases List.mem_append.1 hv with hv | hv
     ·rcases List.mem_append.1 hv with hv | hv
      ·exact h1 v (List.mem_of_mem_take hv)
      ·exact h3 v hv
     ·exact h1 v (List.mem_of_mem_drop hv)
    obtain ⟨cells',h4,h5,h6⟩:=mapO_bparts hE ps qs' _ cells1 hqs hR ho cs' hp
    exact ⟨cells',by simp only [List.map_cons];rw [hf];exact h4,h5,h6⟩
   ·cases hp
  ·cases hp
theorem ok_bptrs (R:Rel N base ρ h w) (hE:RelEnv ρ w (Free N ρ h) e a.tmps) {nx:Nat} (hn:ρ nx=none) {t el:TypeId} {n:Nat} {ps:Array (Nat×Operand)} {i:TypeInfo} {qs:List (Nat×Opd)}
  (hu:P.underlying t=some (.slice el)) (hi:P.info? el=some i) (hsmall:n*i.size≤16777216) (hsz:i.size=1) (hz:i.zero=some (.pointer none))
  (hm:mapO (fun p:Nat×Operand=>(opd p.2).map fun x=>(p.1,x)) ps.toList=some qs) {cs:List AV} (hc:bparts e (List.replicate n .nilp) qs=some cs) :
  OpOK P N base ρ h w (do pure (.value (← Instr.buildSlice t n (ps.map fun (i,x)=>(i,a.eval x))))) (.bsl nx n) [(nx,.box cs)]:=by
 have h0:RVs ρ w (Free N ρ h) (List.replicate n .nilp) (madeCells #[.pointer none] n).toList:=by
  have e1:(madeCells #[.pointer none] n).toList=List.replicate n (.pointer none):=by
   apply List.ext_getElem
   ·simp [madeCells]
   ·intro k h1 h2
    simp [madeCells,Nat.mod_one]
  rw [e1]
  clear hc e1 hsmall
  induction n with
  | zero=>exact .nil
  | succ n ih=>rw [List.replicate_succ,List.replicate_succ];exact .cons .nilp ih
 have h1:∀ v∈(madeCells #[.pointer none] n).toList,v.oneCell'=true:=by
  intro v hv
  simp only [madeCells,Array.toList_map,List.mem_map] at hv
  obtain ⟨k,_,rfl⟩:=hv
  simp [Nat.mod_one,Value.oneCell']
 obtain ⟨cells',h2,h3,h4⟩:=mapO_bparts hE ps.toList qs _ _ hm h0 h1 cs hc
 have hrun:(Instr.buildSlice t n (ps.map fun (i,x)=>(i,a.eval x))).run P w=.ok (.slice (some ⟨w.heap.size,0,none⟩) n n) (w.alloc (.cells cells' el)):=by
  by_cases hn0:n=0
  ·subst hn0
   have hcells:madeCells #[.pointer none] 0=#[]:=by simp [madeCells,Array.range_zero']
   rw [hcells] at h2
   simp only [Nat.mul_one] at h2
   simp [Instr.buildSlice,run_underlying hu,sizeOf,typeInfo,hi,hsz,h2,newRow,Array.range_zero']
  ·refine run_buildSlice w t el n _ cells' i (.pointer none) hu hi hz (by omega) (by rw [hsz];omega) ?_
   rw [Array.toList_map,hsz]
   rw [Nat.mul_one]
   exact h2
 have hp:=put_rel R (n:=nx) (ks:=[]) (x:=.box cs) (r:=⟨.pointer (some ⟨w.heap.size,0,none⟩),[],[]⟩) (row:=none) (w':=w.alloc (.cells cells' el))
  (by intro r0 h0;rw [hn] at h0;cases h0) (grownBy_none_alloc w _) (by intro g hg;cases hg) (by intro g hg;simp [blkOf] at hg;exact .inl (by omega))
  (fun hk=>⟨rfl,w.heap.size,cells',el,rfl,R.hb,heap_alloc_new w _,h3.keep hk,h4⟩) (by intro hf;cases hf)
 refine ⟨_,_,updM ρ nx ⟨.pointer (some ⟨w.heap.size,0,none⟩),[],[]⟩,.inl (by simp only [Sem.run_bind,hrun,Result.andThen_ok];rfl),?_,hp.1,hp.2.1,?_,(Below.refl _ _).alloc R.hb _,hp.2.2⟩
 ·exact .bsl (r:=⟨.pointer (some ⟨w.heap.size,0,none⟩),[],[]⟩) (by simp [updM]) rfl
 ·intro b hb;simp at hb;simp [updM,hb]
end
end Go.AM
/- part: AMOpsX -/
namespace Go.AM
open Go.RowKit (Below)
section
variable {P:Program} {N:Par} {base:Nat} {ρ:Map} {h:List Blk} {w w':World} {F:Nat→Prop} {e:Env} {a:Act}
theorem ok_storeX (R:Rel N base ρ h w) {b i sz' off el sz:Nat} {es:List (List T)} (hb:gt h b=.xarr el sz es) {cs:List T} (hi:es[i]?=some cs) {v:AV} {vs:List AV} {px val:Value}
  (hpx:RV ρ w (Free N ρ h) (.eptr b i sz' off) px) (hsz':sz'=sz) (hc:cellsOf v=some vs) (hv:RV ρ w (Free N ρ h) v val) {ts:List T} {f:Bool} {ks:List Nat} (ht:toTs h vs=some (ts,f,ks))
  {t:TypeId} {inf:TypeInfo} (hinf:P.info? t=some inf) (hl:vs.length=inf.size) (hle:off+inf.size≤cs.length) (hsc:ts.all scalar=true) :
  OpOK P N base ρ h w (do Instr.storeAt t px val;pure .skip) .top [(b,.xarr el sz (es.set i (setT cs off ts)))]:=by
 subst hsz'
 have hd:gt h b≠.dead:=by rw [hb];intro hc;cases hc
 obtain ⟨r,hr,hB⟩:=R.blk b hd
 rw [hb] at hB
 obtain ⟨el',xs,hel,ho,hsz,hlen,htr,how,hnd,hne⟩:=hB
 cases hpx with
 | @eptr _ _ _ _ g n cap r2 hr2 hrv =>
  rw [hr] at hr2
  cases hr2
  rcases ho.2 with ⟨hv0,hz⟩ | ⟨g',cap',cur,hv',hbg,hg,hcap,hcm,hcs,htake⟩
  ·rw [hrv] at hv0;cases hv0
  ·rw [hrv] at hv'
   cases hv'
   obtain ⟨hvs,hone⟩:=cellsOf_rel hc hv
   obtain ⟨fq,htq,hT,_⟩:=toTs_rel R ht hvs
   have hfq:fq=[]:=htq.flat hsc
   subst hfq
   have htl:=toTs_len ht
   have hvl:=hvs.length
   simp only [Array.length_toList] at hvl
   have hto:OWs w base ts val.cells.toList:=.easy htq.length (easy_scalars hsc)
   have hcsl:cs.length=sz':=hlen cs (List.mem_of_getElem? hi)
   have hilt:i<es.length:=(List.getElem?_eq_some_iff.1 hi).1
   have hmul:i*sz'+sz'≤es.length*sz':=by
    have:=Nat.mul_le_mul_right sz' (show i+1≤es.length from hilt)
    rwa [Nat.add_mul,Nat.one_mul] at this
   have hmul2:es.length*sz'≤cap*sz':=Nat.mul_le_mul_right _ hcap
   have hblk:blkOf r.v=some g:=by rw [hrv];rfl
   have hrun:=run_storeVar (P:=P) hinf hg (o:=i*sz'+off) (val:=val) (by omega) (by omega) hone
   have hfl:=set_flatten (ts:=ts) (off:=off) hi (by omega)
   rw [hfl.1] at htr how
   obtain ⟨fa,fb,fc,hfp,hnew⟩:=htr.splice htq
   have hnewo:=how.splice hto
   rw [← hfl.2] at hnew hnewo
   have hAl:((es.take i).flatten++cs.take off).length=i*sz'+off:=by
    rw [List.length_append,flatten_len fun x hx=>hlen x (List.mem_of_mem_take hx)]
    simp
    rw [Nat.min_eq_left (by omega),Nat.min_eq_left (by omega)]
   have hBl:((cs.drop off).take ts.length).length=inf.size:=by simp;omega
   rw [hAl,hBl] at hnew hnewo
   rw [List.append_nil] at hnew
   have hxl:xs.length=es.length*sz':=ho.1
   have hsub:∀ x∈fa++fc,x∈r.ex:=by
    intro x hx
    rw [hfp]
    rcases List.mem_append.1 hx with hx | hx <;> simp [hx]
   have hgne:∀ x∈fa++fc,x≠g:=fun x hx he=>hne x (hsub x hx) (by rw [he];exact hblk)
   have hset:∀ x∈es.set i (setT cs off ts),x.length=sz':=by
    intro x hx
    rcases List.mem_or_eq_of_mem_set hx with hx | hx
    ·exact hlen x hx
    ·subst hx;simp [setT];omega
   have hown:∀ g',ownsB (⟨r.v,r.fp,fa++fc⟩:Root) g'→ownsB r g':=fun g' hg'=>hg'.imp id (hsub g')
   have hsame:∀ x∈fa++fc,(w.setRow g (cur.toList.take (i*sz'+off)++val.cells.toList++cur.toList.drop (i*sz'+off+inf.size)).toArray).heap[x]?=w.heap[x]?:=by
    intro x hx
    exact (grownBy_setRow w g _).block x (htr.lt x (hsub x hx)) (fun he=>hgne x hx (by cases he;rfl))
   have hp:=put_relX R (n:=b) (ks:=[]) (x:=.xarr el sz' (es.set i (setT cs off ts))) (r:=⟨r.v,r.fp,fa++fc⟩) (row:=some g)
    (w':=w.setRow g (cur.toList.take (i*sz'+off)++val.cells.toList++cur.toList.drop (i*sz'+off+inf.size)).toArray)
    (by intro r0 h0;rw [hr] at h0;cases h0;rfl) (grownBy_setRow w g _)
    (by intro g' hg';cases hg';exact ⟨b,.inr rfl,r,hr,hd,.inl hblk⟩)
    (by intro g' hg';exact .inr ⟨b,.inr rfl,r,hr,hd,hown g' hg'⟩)
    (fun hk=>by
     refine ⟨el',xs.take (i*sz'+off)++val.cells.toList++xs.drop (i*sz'+off+inf.size),hel,⟨?_,.inr ⟨g,cap,_,hrv ▸ (by simp),hbg,setRow_heap w g cur _ el' _ hg,by simpa using hcap,hcm,?_,?_⟩⟩,hsz,hset,hnew.frame hsame,hnewo.frame hnew hsame,?_,fun x hx=>hne x (hsub x hx)⟩
     ·simp only [List.length_append,List.length_take,List.length_drop,Array.length_toList,List.length_set]
      omega
     ·simp only [List.size_toArray,List.length_append,List.length_take,List.length_drop,Array.length_toList]
      omega
     ·rw [← htake]
      simp only [List.length_set]
      have e1:(cur.toList.take (es.length*sz')).take (i*sz'+off)=cur.toList.take (i*sz'+off):=by rw [List.take_take];congr 1;omega
      rw [e1]
      have hl1:(cur.toList.take (i*sz'+off)++val.cells.toList).length=i*sz'+off+inf.size:=by simp;omega
      rw [List.take_append,hl1,List.take_of_length_le (by omega),List.drop_take]
     ·rw [hfp,List.append_assoc] at hnd
      rw [List.nodup_append] at hnd ⊢
      refine ⟨hnd.1,(List.nodup_append.1 hnd.2.1).2.1,fun x hx y hy=>hnd.2.2 x hx y (by simp [hy])⟩)
    (by intro hf;cases hf)
   refine ⟨undef,_,updM ρ b ⟨r.v,r.fp,fa++fc⟩,.inr ⟨by simp [Instr.storeAt,Instr.sureAddr,hrun],rfl⟩,.top _,hp.1,hp.2.1,?_,Below.setRow hbg _,hp.2.2⟩
   intro b' hb'
   simp at hb'
   simp [updM,hb']
theorem flat_cell {es:List (List T)} {sz i off:Nat} {cs:List T} (hl:∀ x∈es,x.length=sz) (hi:es[i]?=some cs) (ho:off<sz) :
  (∀ x,(es.set i (setT cs off [x])).flatten=es.flatten.take (i*sz+off)++[x]++es.flatten.drop (i*sz+off+1))∧es.flatten[i*sz+off]?=cs[off]?∧i*sz+off<es.flatten.length:=by
 have hcs:cs.length=sz:=hl cs (List.mem_of_getElem? hi)
 have hil:i<es.length:=(List.getElem?_eq_some_iff.1 hi).1
 have hA:((es.take i).flatten++cs.take off).length=i*sz+off:=by
  rw [List.length_append,flatten_len fun x hx=>hl x (List.mem_of_mem_take hx)]
  simp
  rw [Nat.min_eq_left (by omega),Nat.min_eq_left (by omega)]
 have key:=fun x=>set_flatten (ts:=[x]) (off:=off) hi (by simp;omega)
 have h1:=(key .nil).1
 have h2:=fun x=>(key x).2
 have hB:((cs.drop off).take ([T.nil]).length).length=1:=by simp;omega
 have hB2:((cs.drop off).take ([T.nil]).length)[0]?=cs[off]?:=by simp [List.getElem?_take]
 have hfl:=flatten_len hl
 simp only [List.length_singleton] at h1 h2 hB hB2
 generalize (es.take i).flatten++cs.take off=A at h1 h2 hA
 generalize (cs.drop off).take 1=B at h1 hB hB2
 generalize cs.drop (off+1)++(es.drop (i+1)).flatten=C at h1 h2
 refine ⟨fun x=>?_,?_,?_⟩
 ·rw [h2 x,h1,← hA]
  congr 1
  ·congr 1
   rw [List.append_assoc,List.take_append_of_le_length (Nat.le_refl _),List.take_length]
  ·rw [List.drop_append_of_le_length (by rw [List.length_append];omega),List.drop_of_length_le (by rw [List.length_append];omega)]
   rfl
 ·rw [h1,List.append_assoc,List.getElem?_append_right (by omega),hA,Nat.sub_self,List.getElem?_append_left (by omega)]
  exact hB2
 ·rw [hfl]
  have:=Nat.mul_le_mul_right sz (show i+1≤es.length from hil)
  rw [Nat.add_mul,Nat.one_mul] at this
  omega
theorem take_one {α:Type} {xs:List α} {k:Nat} {x:α} (h:xs[k]?=some x):xs=xs.take k++[x]++xs.drop (k+1):=by
 obtain ⟨h1,rfl⟩:=List.getElem?_eq_some_iff.1 h
 rw [List.append_assoc,List.singleton_append,← List.drop_eq_getElem_cons h1,List.take_append_drop]
theorem TRs.cell {ts:List T} {vs:List Value} {fp:List Nat} (h:TRs w ts vs fp) {k:Nat} {t:T} (hk:ts[k]?=some t) :
  ∃ v fa fb fc,vs[k]?=some v∧fp=fa++(fb++fc)∧TRs w (ts.take k) (vs.take k) fa∧TR w t v fb∧TRs w (ts.drop (k+1)) (vs.drop (k+1)) fc:=by
 induction ts generalizing vs fp k with
 | nil=>simp at hk
 | cons x ts ih =>
  cases h with
  | @cons _ v f1 _ vs f2 h1 hs =>
   cases k with
   | zero=>simp at hk;subst hk;exact ⟨v,[],f1,f2,rfl,rfl,.nil,h1,hs⟩
   | succ k =>
    obtain ⟨v',fa,fb,fc,q1,q2,q3,q4,q5⟩:=ih hs (by simpa using hk)
    exact ⟨v',f1++fa,fb,fc,by simpa using q1,by rw [q2];simp,.cons h1 q3,q4,q5⟩
theorem OWs.cell {ts:List T} {vs:List Value} (h:OWs w base ts vs) {k:Nat} {t:T} (hk:ts[k]?=some t) :
  ∃ v,vs[k]?=some v∧OWs w base (ts.take k) (vs.take k)∧OW w base t v∧OWs w base (ts.drop (k+1)) (vs.drop (k+1)):=by
 induction ts generalizing vs k with
 | nil=>simp at hk
 | cons x ts ih =>
  cases h with
  | cons h1 hs =>
   cases k with
   | zero=>simp at hk;subst hk;exact ⟨_,rfl,.nil,h1,hs⟩
   | succ k =>
    obtain ⟨v',q1,q2,q3,q4⟩:=ih hs (by simpa using hk)
    exact ⟨v',by simpa using q1,.cons h1 q2,q3,q4⟩
theorem detach_rel (R:Rel N base ρ h w) {b nx:Nat} (hn:ρ nx=none) {el sz:Nat} {es:List (List T)} (hb:gt h b=.xarr el sz es) {i off:Nat} {cs:List T} (hi:es[i]?=some cs) (ho:off<sz) {sz2:Nat} {y:List T} {ys:List (List T)}
  (hc:cs[off]?=some (.lst sz2 (y::ys))):∃ r vc rc rb,ρ b=some r∧(∃ e' xs,w.ownsRow base e' sz r.v es.length xs∧xs[i*sz+off]?=some vc)∧rc.v=vc∧rb.v=r.v∧vc.oneCell'=true ∧
   Rel N base (updM (updM ρ nx rc) b rb) (upd h [(b,.det el sz es i off nx),(nx,.xarr unk sz2 (y::ys))]) w ∧
   Keeps ρ w (Free N ρ h) (updM (updM ρ nx rc) b rb) w (Free N (updM (updM ρ nx rc) b rb) (upd h [(b,.det el sz es i off nx),(nx,.xarr unk sz2 (y::ys))])):=by
 have hd:gt h b≠.dead:=by rw [hb];intro hc;cases hc
 obtain ⟨r,hr,hB⟩:=R.blk b hd
 have hB0:=hB
 rw [hb] at hB
 obtain ⟨e',xs,he,hown,hsz,hl,ht,how,hnd,hne⟩:=hB
 have hbn:b≠nx:=by intro hc;rw [hc,hn] at hr;cases hr
 obtain ⟨_,f2,f3⟩:=flat_cell hl hi ho
 obtain ⟨vc,fa,fb,fc,q1,q2,q3,q4,q5⟩:=ht.cell (k:=i*sz+off) (by rw [f2];exact hc)
 obtain ⟨vc',o1,o2,o3,o4⟩:=how.cell (k:=i*sz+off) (by rw [f2];exact hc)
 rw [q1] at o1
 cases o1
 have hone:=q4.one
 generalize hT:T.lst sz2 (y::ys)=tt at q4 o3
 cases o3 with
 | sc _ hs=>rw [← hT] at hs;cases hs
 | lst0=>cases hT
 | @lst _ _ _ e2 xs2 ho2 hs2 =>
  cases hT
  cases q4 with
  | @lst _ _ gc offc capc cc tec fzc fpc hne2 hsz2 hcap2 hg2 hlen2 hc2 =>
   rcases ho2.2 with ⟨hv2,_⟩ | ⟨g2,cap2,cur2,hv2,hb2,hg2',k1,k2,k3,k4⟩
   ·cases hv2
   ·cases hv2
    rw [hg2] at hg2'
    cases hg2'
    rw [List.drop_zero,k4] at hc2
    have hgt:∀ c,gt (upd h [(b,.det el sz es i off nx),(nx,.xarr unk sz2 (y::ys))]) c=if c=nx then .xarr unk sz2 (y::ys) else if c=b then .det el sz es i off nx else gt h c:=by
     intro c
     show gt (stB (stB h b _) nx _) c=_
     rw [gt_stB,gt_stB]
    have hex:r.ex=fa++(gc::fpc++fc):=q2
    have hndx:=hnd
    rw [hex,List.nodup_append] at hndx
    obtain ⟨n1,n2,n3⟩:=hndx
    rw [List.nodup_append] at n2
    obtain ⟨n4,n5,n6⟩:=n2
    let rc:Root:=⟨.slice (some ⟨gc,0,none⟩) (y::ys).length capc,[],fpc⟩
    let rb:Root:=⟨r.v,r.fp,fa++fc⟩
    have hrn:updM (updM ρ nx rc) b rb nx=some rc:=by simp [updM,Ne.symm hbn]
    have hrb:updM (updM ρ nx rc) b rb b=some rb:=by simp [updM]
    have hro:∀ c,c≠nx→c≠b→updM (updM ρ nx rc) b rb c=ρ c:=by intro c h1 h2;simp [updM,h1,h2]
    have ownC:∀ g,ownsB rc g→g∈r.ex:=by
     intro g hg
     rw [hex]
     rcases hg with hg | hg
     ·have:gc=g:=by simpa [rc,blkOf] using hg
      subst this;simp
     ·have:g∈fpc:=hg
      simp [this]
    have ownB':∀ g,ownsB rb g→ownsB r g:=by
     intro g hg
     refine hg.imp id fun hg=>?_
     rw [hex]
     have:g∈fa++fc:=hg
     rcases List.mem_append.1 this with q | q <;> simp [q]
    have disj:∀ g,ownsB rc g→¬ ownsB rb g:=by
     intro g h1 h2
     have hgx:=ownC g h1
     rcases h2 with h2 | h2
     ·exact hne g hgx h2
     ·have hm:g∈gc::fpc:=by
       rcases h1 with h1 | h1
       ·have:gc=g:=by simpa [rc,blkOf] using h1
        subst this;simp
       ·have:g∈fpc:=h1
        simp [this]
      have h2':g∈fa++fc:=h2
      rcases List.mem_append.1 h2' with q | q
      ·exact n3 g q g (by simp only [List.mem_append];exact .inl hm) rfl
      ·exact n6 g hm g q rfl
    -- where a block's owner was
    have old:∀ c r' g,updM (updM ρ nx rc) b rb c=some r'→gt (upd h [(b,.det el sz es i off nx),(nx,.xarr unk sz2 (y::ys))]) c≠.dead→ownsB r' g →
      (c=nx∧r'=rc∧ownsB r g)∨(c=b∧r'=rb∧ownsB r g)∨(c≠nx∧c≠b∧ρ c=some r'∧gt h c≠.dead):=by
     intro c r' g h1 h2 h3
     by_cases e1:c=nx
     ·subst e1
      rw [hrn] at h1
      cases h1
      exact .inl ⟨rfl,rfl,.inr (ownC g h3)⟩
     ·by_cases e2:c=b
      ·subst e2
       rw [hrb] at h1
       cases h1
       exact .inr (.inl ⟨rfl,rfl,ownB' g h3⟩)
      ·rw [hro c e1 e2] at h1
       rw [hgt,if_neg e1,if_neg e2] at h2
       exact .inr (.inr ⟨e1,e2,h1,h2⟩)
    have hfree:∀ g,Free N ρ h g→Free N (updM (updM ρ nx rc) b rb) (upd h [(b,.det el sz es i off nx),(nx,.xarr unk sz2 (y::ys))]) g:=by
     intro g hg
     refine ⟨hg.1,fun c r' h1 h2 h3=>?_⟩
     rcases old c r' g h1 h2 h3 with ⟨_,_,q⟩ | ⟨_,_,q⟩ | ⟨_,_,q6,q7⟩
     ·exact hg.2 b r hr hd q
     ·exact hg.2 b r hr hd q
     ·exact hg.2 c r' q6 q7 h3
    have hkeep:Keeps ρ w (Free N ρ h) (updM (updM ρ nx rc) b rb) w (Free N (updM (updM ρ nx rc) b rb) (upd h [(b,.det el sz es i off nx),(nx,.xarr unk sz2 (y::ys))])):=by
     refine ⟨fun c r0 h1=>?_,fun g _ hg=>⟨hfree g hg,rfl⟩⟩
     have e1:c≠nx:=by intro e;rw [e,hn] at h1;cases h1
     by_cases e2:c=b
     ·subst e2;rw [hr] at h1;cases h1;exact ⟨rb,hrb,rfl⟩
     ·exact ⟨r0,by rw [hro c e1 e2];exact h1,rfl⟩
    refine ⟨r,_,rc,rb,hr,⟨e',xs,hown,q1⟩,rfl,rfl,hone,⟨R.hb,R.hN,?_,?_,?_,?_⟩,hkeep⟩
    ·intro c r' g h1 h2 h3
     rcases old c r' g h1 h2 h3 with ⟨_,_,q⟩ | ⟨_,_,q⟩ | ⟨_,_,q6,q7⟩
     ·exact R.hO b r g hr hd q
     ·exact R.hO b r g hr hd q
     ·exact R.hO c r' g q6 q7 h3
    ·intro c h2
     by_cases e1:c=nx
     ·subst e1
      refine ⟨rc,hrn,?_⟩
      rw [hgt,if_pos rfl]
      refine ⟨e2,xs2,.inl rfl,⟨ho2.1,.inr ⟨gc,capc,cc,rfl,hb2,hg2,k1,k2,k3,k4⟩⟩,hsz2,hlen2,hc2,hs2,(List.nodup_cons.1 n4).2,fun g hg hv=>?_⟩
      have:gc=g:=by simpa [rc,blkOf] using hv
      subst this
      exact (List.nodup_cons.1 n4).1 hg
     ·by_cases e2:c=b
      ·subst e2
       refine ⟨rb,hrb,?_⟩
       rw [hgt,if_neg e1,if_pos rfl]
       refine ⟨e',xs,rc,fa,fc,he,hown,hsz,hl,hrn,q1,ho,(List.getElem?_eq_some_iff.1 hi).1,rfl,q3,q5,o2,o4,?_,fun g hg=>hne g (by rw [hex];rcases List.mem_append.1 hg with q | q <;> simp [q])⟩
       exact List.nodup_append.2 ⟨n1,n5,fun x hx z hz=>n3 x hx z (by simp [hz])⟩
      ·rw [hgt,if_neg e1,if_neg e2] at h2 ⊢
       obtain ⟨r0,h3,h4⟩:=R.blk c h2
       exact ⟨r0,by rw [hro c e1 e2];exact h3,h4.keep hkeep fun _ _=>rfl⟩
    ·intro c c' r1 r2 g h1 h1' h2 h2' h3 h3'
     rcases old c r1 g h1 h2 h3 with ⟨p1,p2,p3⟩ | ⟨p1,p2,p3⟩ | ⟨p1,p2,p3,p4⟩ <;> rcases old c' r2 g h1' h2' h3' with ⟨z1,z2,z3⟩ | ⟨z1,z2,z3⟩ | ⟨z1,z2,z3,z4⟩
     ·rw [p1,z1]
     ·rw [p2] at h3;rw [z2] at h3';exact absurd h3' (disj g h3)
     ·exact absurd (R.inj b c' r r2 g hr z3 hd z4 p3 h3') (Ne.symm z2)
     ·rw [p2] at h3;rw [z2] at h3';exact absurd h3 (disj g h3')
     ·rw [p1,z1]
     ·exact absurd (R.inj b c' r r2 g hr z3 hd z4 p3 h3') (Ne.symm z2)
     ·exact absurd (R.inj c b r1 r g p3 hr p4 hd h3 z3) p2
     ·exact absurd (R.inj c b r1 r g p3 hr p4 hd h3 z3) p2
     ·exact R.inj c c' r1 r2 g p3 z3 p4 z4 h3 h3'
    ·intro c c' r1 r2 g h1 h1' h2 h2' h3 h3'
     rw [hgt] at h2 h2'
     have m1:c≠nx∧c≠b:=by
      constructor
      ·intro e;rw [if_pos e] at h2;cases h2
      ·intro e;rw [if_neg (by rw [e];exact hbn),if_pos e] at h2;cases h2
     have m2:c'≠nx∧c'≠b:=by
      constructor
      ·intro e;rw [if_pos e] at h2';cases h2'
      ·intro e;rw [if_neg (by rw [e];exact hbn),if_pos e] at h2';cases h2'
     rw [if_neg m1.1,if_neg m1.2] at h2
     rw [if_neg m2.1,if_neg m2.2] at h2'
     rw [hro c m1.1 m1.2] at h1
     rw [hro c' m2.1 m2.2] at h1'
     exact R.apart c c' r1 r2 g h1 h1' h2 h2' h3 h3'
theorem ok_loadU (R:Rel N base ρ h w) {nx:Nat} (hnx:ρ nx=none) {t:TypeId} (hn:loadN P t=some none) {x:AV} {xv:Value} {v:AV} {u:List (Nat×Blk)}
  (hv:(match x with
  | .ptr b off=>match gt h b with
   | .box cs=>(loadA cs off none).map (·,([]:List (Nat×Blk)))
   | _=>none
  | .eptr b i sz off=>match gt h b with
   | .xarr el sz' es=>if sz=sz' then (match es[i]? with
    | some cs=>match cs[off]? with
     | some (.lst sz2 (y::ys))=>some (AV.own nx,[(b,Blk.det el sz' es i off nx),(nx,.xarr unk sz2 (y::ys))])
     | some (.lst sz2 [])=>some (.t (.lst sz2 []),[])
     | _=>none
    | none=>none) else none
   | _=>none
  | _=>none)=some (v,u)) (hx:RV ρ w (Free N ρ h) x xv):OpOK P N base ρ h w (do pure (.value (← Instr.loadAt t xv))) v u:=by
 cases hx with
 | @ptr b off g r hr hrv =>
  simp only at hv
  split at hv
  ·rename_i cs hb
   obtain ⟨v',hv',he⟩:=Option.map_eq_some_iff.1 hv
   cases he
   obtain ⟨r',h1,h2⟩:=R.blk b (by rw [hb];intro hc;cases hc)
   rw [hr] at h1
   cases h1
   rw [hb] at h2
   obtain ⟨hx0,g',c,te,hv2,_,hh,hcs,hone⟩:=h2
   rw [hrv] at hv2
   cases hv2
   obtain ⟨val,h3,h4⟩:=loadA_sound (P:=P) hn hh hcs hone hv'
   exact .same R (by simp [Instr.loadAt,Instr.sureAddr,h3]) h4
  ·cases hv
 | @eptr b i sz off g n cap r hr hrv =>
  simp only at hv
  split at hv
  ·rename_i el sz' es hb
   split at hv
   ·rename_i hse
    subst hse
    split at hv
    ·rename_i cs hcs
     have hd:gt h b≠.dead:=by rw [hb];intro hc;cases hc
     obtain ⟨r',h1,h2⟩:=R.blk b hd
     rw [hr] at h1
     cases h1
     rw [hb] at h2
     obtain ⟨e',xs,_,hown,hsz,hl,ht,_⟩:=h2
     have hoff:∀ t,cs[off]?=some t→off<sz:=by
      intro t ht
      have:=(List.getElem?_eq_some_iff.1 ht).1
      rw [hl cs (List.mem_of_getElem? hcs)] at this
      exact this
     have hload:∀ (e':TypeId) (xs:List Value) (vc:Value),w.ownsRow base e' sz r.v es.length xs→xs[i*sz+off]?=some vc→vc.oneCell'=true→(do pure (.value (← Instr.loadAt t (.pointer (some ⟨g,i*sz+off,none⟩)))):Sem Next).run P w=.ok (.value vc) w:=by
      intro e' xs vc hown hx h1
      rcases hown.2 with ⟨hv2,_⟩ | ⟨g',cap',cur,hv2,_,hh,_,_,_,htake⟩
      ·rw [hrv] at hv2;cases hv2
      ·rw [hrv] at hv2
       cases hv2
       have hc:cur.toList[i*sz+off]?=some vc:=by
        rw [← htake,List.getElem?_take] at hx
        split at hx
        ·exact hx
        ·cases hx
       have:=run_loadVar_one (P:=P) hn hh hc
       simp [Instr.loadAt,Instr.sureAddr,this]
     split at hv
     ·rename_i sz2 y ys hc
      cases hv
      obtain ⟨r0,vc,rc,rb,h1,⟨e2,xs2,h2,h3⟩,h4,h5,h6,h7,h8⟩:=detach_rel R hnx hb hcs (hoff _ hc) hc
      rw [hr] at h1
      cases h1
      have hbn:nx≠b:=by intro hc;rw [← hc,hnx] at hr;cases hr
      refine ⟨vc,w,_,.inl (hload e2 xs2 vc h2 h3 h6),?_,h7,h8,?_,Below.refl _ _,fun _ _ _=>rfl⟩
      ·rw [← h4]
       exact .own (by simp [updM,hbn]) (by rw [h4];exact h6)
      ·intro c hc
       simp at hc
       simp [updM,hc.1,hc.2]
     ·rename_i sz2 hc
      cases hv
      obtain ⟨_,f2,f3⟩:=flat_cell hl hcs (hoff _ hc)
      obtain ⟨vc,fa,fb,fc,q1,q2,q3,q4,q5⟩:=ht.cell (k:=i*sz+off) (by rw [f2];exact hc)
      refine .same R (hload e' xs vc hown q1 q4.one) (.t q4 ?_)
      intro g' hg'
      cases q4 with
      | lst0=>cases hg'
      | lst hne=>exact absurd rfl hne
     ·cases hv
    ·cases hv
   ·cases hv
  ·cases hv
 | _=>simp at hv
theorem xarr_TR (R:Rel N base ρ h w) {b:Nat} {r:Root} (hr:ρ b=some r) {el sz:Nat} {es:List (List T)} (hb:gt h b=.xarr el sz es):∃ fp,TR w (.lst sz es) r.v fp:=by
 have hd:gt h b≠.dead:=by rw [hb];intro hc;cases hc
 obtain ⟨r',h1,h2⟩:=R.blk b hd
 rw [hr] at h1
 cases h1
 rw [hb] at h2
 obtain ⟨e',xs,_,hown,hsz,hl,ht,_⟩:=h2
 by_cases hz:es=[]
 ·subst hz
  refine ⟨[],?_⟩
  rcases hown.2 with ⟨hv,_⟩ | ⟨g,cap,cur,hv,_⟩ <;> rw [hv] <;> exact .lst0 _ _ _
 ·rcases hown.2 with ⟨_,hz'⟩ | ⟨g,cap,cur,hv,hbg,hg,hcap,_,hcs',htake⟩
  ·exact absurd (List.eq_nil_of_length_eq_zero hz') hz
  ·refine ⟨g::r.ex,?_⟩
   rw [hv]
   refine .lst hz hsz hcap hg hl ?_
   rw [List.drop_zero,htake];exact ht
theorem gt_upd_not {u:List (Nat×Blk)}:∀ {h:List Blk} {b:Nat},b ∉ u.map Prod.fst→gt (upd h u) b=gt h b:=by
 induction u with
 | nil=>intro h b _;rfl
 | cons p u ih =>
  intro h b hb
  obtain ⟨c,x⟩:=p
  simp only [List.map_cons,List.mem_cons,not_or] at hb
  show gt (upd (stB h c x) u) b=_
  rw [ih hb.2,gt_stB,if_neg hb.1]
theorem pack_rel {h0:List Blk} {u:List (Nat×Blk)} (R0:Rel N base ρ (upd h0 u) w) {x:AV} {u2:List (Nat×Blk)} (hp0:packU h0 u x=some u2):∃ ρ',Rel N base ρ' (upd (upd h0 u) u2) w∧Keeps ρ w (Free N ρ (upd h0 u)) ρ' w (Free N ρ' (upd (upd h0 u) u2))∧∀ b,ρ b=none→ρ' b=none:=by
 obtain ⟨h,rfl⟩:∃ h,h=upd h0 u:=⟨_,rfl⟩
 have hp:=hp0
 unfold packU at hp
 split at hp
 ·rename_i b _ _ _
  split at hp
  ·cases hp
  rename_i hnc
  have hgb:gt (upd h0 u) b=gt h0 b:=gt_upd_not (by simpa using hnc)
  rw [← hgb] at hp
  generalize upd h0 u=h at *
  rename_i R hgb' 
  have R:=R0
  split at hp
  ·rename_i el sz es i off c hb
   split at hp
   ·rename_i e2 sz2 es2 hc
    cases hp
    have hd:gt h b≠.dead:=by rw [hb];intro hc;cases hc
    have hdc:gt h c≠.dead:=by rw [hc];intro hc;cases hc
    obtain ⟨r,hr,hB⟩:=R.blk b hd
    rw [hb] at hB
    obtain ⟨e',xs,rc,fa,fc,he,hown,hsz,hl,hrc,hcell,ho,hi,hex,hA,hC,oA,oC,hnd,hne⟩:=hB
    obtain ⟨rc',hrc',hBc⟩:=R.blk c hdc
    rw [hrc] at hrc'
    cases hrc'
    rw [hc] at hBc
    obtain ⟨ec,xsc,_,hownc,hszc,hlc,htc,howc,hndc,hnec⟩:=hBc
    have hbc:b≠c:=by intro e;rw [e,hc] at hb;cases hb
    have hget:es.getD i []=es[i]:=by simp [List.getD,hi]
    rw [hget]
    have hcs:es[i]?=some es[i]:=List.getElem?_eq_getElem hi
    obtain ⟨f1,f2,f3⟩:=flat_cell hl hcs ho
    -- the row as a tree
    obtain ⟨fb,hT,hfb,hfbn⟩:∃ fb,TR w (.lst sz2 es2) rc.v fb∧(∀ g∈fb,ownsB rc g)∧fb.Nodup:=by
     by_cases hz:es2=[]
     ·subst hz
      refine ⟨[],?_,by simp,List.nodup_nil⟩
      rcases hownc.2 with ⟨hv,_⟩ | ⟨g,cap,cur,hv,_⟩ <;> rw [hv] <;> exact .lst0 _ _ _
     ·rcases hownc.2 with ⟨_,hz'⟩ | ⟨g,cap,cur,hv,hbg,hg,hcap,_,hcs',htake⟩
      ·exact absurd (List.eq_nil_of_length_eq_zero hz') hz
      ·have hblk:blkOf rc.v=some g:=by rw [hv];rfl
       refine ⟨g::rc.ex,?_,?_,?_⟩
       ·rw [hv]
        refine .lst hz hszc hcap hg hlc ?_
        rw [List.drop_zero,htake];exact htc
       ·intro x hx
        cases hx with
        | head=>exact .inl hblk
        | tail _ hx=>exact .inr hx
       ·exact List.nodup_cons.2 ⟨fun hx=>hnec g hx hblk,hndc⟩
    have hW:OW w base (.lst sz2 es2) rc.v:=.lst hownc howc
    have hset:∀ x∈es.set i (setT es[i] off [.lst sz2 es2]),x.length=sz:=by
     intro x hx
     rcases List.mem_or_eq_of_mem_set hx with hx | hx
     ·exact hl x hx
     ·have:=hl es[i] (List.getElem_mem hi)
      subst hx;simp [setT];omega
    have hxs:=take_one hcell
    have hnB:∀ g,ownsB rc g→¬ ownsB r g:=fun g h1 h2=>hbc (R.inj b c r rc g hr hrc hd hdc h2 h1)
    have key:=put_relX R (n:=b) (ks:=[c]) (x:=.xarr el sz (es.set i (setT es[i] off [.lst sz2 es2]))) (r:=⟨r.v,r.fp,fa++(fb++fc)⟩) (row:=none) (w':=w)
     (by intro r0 h0;rw [hr] at h0;cases h0;rfl) ⟨rfl,rfl,rfl,Nat.le_refl _,fun _ _ _=>rfl⟩ (by intro g hg;cases hg)
     (by
      intro g hg
      right
      rcases hg with hg | hg
      ·exact ⟨b,.inr rfl,r,hr,hd,.inl hg⟩
      ·simp only [List.mem_append] at hg
       rcases hg with hg | hg | hg
       ·exact ⟨b,.inr rfl,r,hr,hd,.inr (by rw [hex];simp [hg])⟩
       ·exact ⟨c,.inl (by simp),rc,hrc,hdc,hfb g hg⟩
       ·exact ⟨b,.inr rfl,r,hr,hd,.inr (by rw [hex];simp [hg])⟩)
     (fun _=>by
      refine ⟨e',xs,he,by simpa using hown,hsz,hset,?_,?_,?_,?_⟩
      ·rw [f1,hxs]
       have:=(hA.append (.cons hT .nil)).append hC
       simpa using this
      ·rw [f1,hxs]
       exact (oA.append (.cons hW .nil)).append oC
      ·rw [hex] at hnd
       rw [List.nodup_append] at hnd ⊢
       refine ⟨hnd.1,List.nodup_append.2 ⟨hfbn,hnd.2.1,fun x hx z hz hxz=>?_⟩,fun x hx z hz hxz=>?_⟩
       ·subst hxz
        exact hnB x (hfb x hx) (.inr (by rw [hex];simp [hz]))
       ·subst hxz
        rcases List.mem_append.1 hz with hz | hz
        ·exact hnB x (hfb x hz) (.inr (by rw [hex];simp [hx]))
        ·exact hnd.2.2 x hx x hz rfl
      ·intro g hg hv
       simp only [List.mem_append] at hg
       rcases hg with hg | hg | hg
       ·exact hne g (by rw [hex];simp [hg]) hv
       ·exact hnB g (hfb g hg) (.inl hv)
       ·exact hne g (by rw [hex];simp [hg]) hv)
     (by intro hf;cases hf)
    refine ⟨_,key.1,key.2.1,fun c' hc'=>?_⟩
    have:c'≠b:=by intro e;rw [e,hr] at hc';cases hc'
    simp [updM,this,hc']
   ·cases hp
  ·cases hp
   exact ⟨ρ,R,.refl,fun _ h=>h⟩
  ·cases hp
 ·cases hp
  exact ⟨ρ,R0,.refl,fun _ h=>h⟩
 ·cases hp
theorem bytesT_flat:∀ {es:List (List T)} {ns:List Int},bytesT es=some ns→es.flatten=ns.map (T.int .u8)∧es.length=ns.length
 | [],ns,h=>by cases h;exact ⟨rfl,rfl⟩
 | x::es,ns,h=>by
  unfold bytesT at h
  split at h
  ·rename_i heq;cases heq
  ·rename_i n es' heq
   cases heq
   obtain ⟨ms,h1,rfl⟩:=Option.map_eq_some_iff.1 h
   obtain ⟨q1,q2⟩:=bytesT_flat h1
   exact ⟨by simp [q1],by simp [q2]⟩
  ·cases h
theorem TRs.bytes:∀ {ns:List Int} {vs:List Value} {fp:List Nat},TRs w (ns.map (T.int .u8)) vs fp→vs=ns.map (Value.int .u8)
 | [],_,_,h=>by cases h;rfl
 | n::ns,_,_,h=>by
  cases h with
  | cons h hs =>
   cases h
   simp [TRs.bytes hs]
theorem ok_tostr (R:Rel N base ρ h w) {s d el:TypeId} (hs:P.underlying s=some (.slice el)) (hel:P.underlying el=some (.int .u8)) (hd:P.underlying d=some .string) {b lb:Nat} {fr:Bool} {es:List (List T)} (hb:gt h b=.arr lb 1 fr es)
  {ns:List Int} (hns:bytesT es=some ns) {xv:Value} (hx:RV ρ w (Free N ρ h) (.own b) xv):OpOK P N base ρ h w (do pure (.value (← convert s d xv))) (.t (.str (strB ns))) []:=by
 cases hx with
 | @own _ r hr hone =>
  obtain ⟨r',h1,h2⟩:=R.blk b (by rw [hb];intro hc;cases hc)
  rw [hr] at h1
  cases h1
  rw [hb] at h2
  obtain ⟨_,_,xs,_,ho,_,_,ht,_⟩:=h2
  obtain ⟨q1,q2⟩:=bytesT_flat hns
  rw [q1] at ht
  have hxs:=ht.bytes
  refine .same R ?_ (.str_mk _)
  rcases ho.2 with ⟨hv,hz⟩ | ⟨g,cap,cur,hv,_,hg,_,_,_,htake⟩
  ·have:ns=[]:=List.eq_nil_of_length_eq_zero (by omega)
   subst this
   have:=run_convert_bytes_nil (P:=P) w s el hs hel 0 0 d hd
   rw [hv]
   simp [this]
   rfl
  ·have:=run_convert_bytes_arg (P:=P) w s el hs hel g 0 es.length cap ns q2.symm (fun i hi=>by
    have hc:=ho.cells (g:=g) (by rw [hv];rfl) i (.int .u8 (ns.getD i 0)) (by
     rw [hxs,List.getElem?_map,List.getElem?_eq_getElem (by omega)]
     simp [List.getD,show i<ns.length by omega])
    rwa [addr_add] at hc) d hd
   rw [hv]
   simp [this]
   rfl
end
end Go.AM
