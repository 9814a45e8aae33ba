/-
  Parts of the proofs for this seat: AMOps8 AMOps9 AMRen AMJoin AMSound.
-/
import Derived.Test.YtbapkgocloaaeaaGreatP2
set_option linter.unusedSimpArgs false
set_option linter.unusedVariables false
/- part: AMOps8 -/
namespace Go.AM
open Go.RowKit (Below)
section
variable {P:Program} {N:Par} {base:Nat} {ρ:Map} {h:List Blk} {w w':World} {F:Nat→Prop} {e:Env} {a:Act}
theorem ok_load (R:Rel N base ρ h w) {t:TypeId} {n:Option Nat} (hn:loadN P t=some n) {x:AV} {xv:Value} {v:AV} {u:List (Nat×Blk)}
  (hv:(match x with
  | .ptr b off=>match gt h b with
   | .box cs=>(loadA cs off n).map (·,([]:List (Nat×Blk)))
   | _=>none
  | .eptr b i sz off=>match gt h b with
   | .arr _ sz' _ es=>if sz=sz' then (match es[i]? with
    | some cs=>(loadT cs off n).map (·,[])
    | none=>none) else none
   | .xarr _ sz' es=>if sz=sz' then (match es[i]? with
    | some cs=>match loadT cs off n with
     | some v=>if scal1 v=true then some (v,[]) else none
     | none=>none
    | none=>none) else none
   | _=>none
  | .iptr cs off=>(loadT cs off n).map (·,[])
  | _=>none)=some (v,u)) (hx:RV ρ w (Free N ρ h) x xv) :
  OpOK P N base ρ h w (do pure (.value (← Instr.loadAt t xv))) v u:=by
 cases hx with
 | @ptr b off g r hr hrv =>
  simp only at hv
  split at hv
  ·rename_i cs hb
   obtain ⟨v',hv',he⟩:=Option.map_eq_some_iff.1 hv
   cases he
   obtain ⟨r',h1,h2⟩:=R.blk b (by rw [hb];intro hc;cases hc)
   rw [hr] at h1
   cases h1
   rw [hb] at h2
   obtain ⟨hx0,g',c,te,hv2,_,hh,hcs,hone⟩:=h2
   rw [hrv] at hv2
   cases hv2
   obtain ⟨val,h3,h4⟩:=loadA_sound (P:=P) hn hh hcs hone hv'
   exact .same R (by simp [Instr.loadAt,Instr.sureAddr,h3]) h4
  ·cases hv
 | @eptr b i sz off g m cap r hr hrv =>
  simp only at hv
  split at hv
  ·rename_i el sz' fr es hb
   split at hv
   ·rename_i hse
    subst hse
    split at hv
    ·rename_i cs hcs
     obtain ⟨v',hv',he⟩:=Option.map_eq_some_iff.1 hv
     cases he
     obtain ⟨r',h1,h2⟩:=R.blk b (by rw [hb];intro hc;cases hc)
     rw [hr] at h1
     cases h1
     rw [hb] at h2
     obtain ⟨_,_,xs,_,ho,hsz,hl,ht,hf,_⟩:=h2
     rcases ho.2 with ⟨hv2,_⟩ | ⟨g',cap',cur,hv2,_,hh,_,_,_,htake⟩
     ·rw [hrv] at hv2;cases hv2
     ·rw [hrv] at hv2
      cases hv2
      obtain ⟨fq,h3,h4⟩:=ht.elem hl hcs
      have hcl:cs.length=sz:=hl cs (List.mem_of_getElem? hcs)
      have hlt:i<es.length:=(List.getElem?_eq_some_iff.1 hcs).1
      have hmul:i*sz+sz≤es.length*sz:=by
       have:=Nat.mul_le_mul_right sz (show i+1≤es.length from hlt)
       rwa [Nat.add_mul,Nat.one_mul] at this
      rw [← htake,List.drop_take,List.take_take,Nat.min_eq_left (by omega)] at h3
      obtain ⟨val,h5,h6⟩:=loadT_sound (P:=P) (ρ:=ρ) (F:=Free N ρ h) hn hh h3 (fun g hg=>hf g (h4 g hg)) hv'
      exact .same R (by simp [Instr.loadAt,Instr.sureAddr,h5]) h6
    ·cases hv
   ·cases hv
  ·rename_i el' sz' es hb
   split at hv
   ·rename_i hse
    subst hse
    split at hv
    ·rename_i cs hcs
     split at hv
     ·rename_i v' hv'
      split at hv
      ·rename_i hsc
       cases hv
       obtain ⟨r',h1,h2⟩:=R.blk b (by rw [hb];intro hc;cases hc)
       rw [hr] at h1
       cases h1
       rw [hb] at h2
       obtain ⟨_,xs,_,ho,hsz,hl,ht,_⟩:=h2
       rcases ho.2 with ⟨hv2,_⟩ | ⟨g',cap',cur,hv2,_,hh,_,_,_,htake⟩
       ·rw [hrv] at hv2;cases hv2
       ·rw [hrv] at hv2
        cases hv2
        obtain ⟨fq,h3,h4⟩:=ht.elem hl hcs
        have hcl:cs.length=sz:=hl cs (List.mem_of_getElem? hcs)
        have hlt:i<es.length:=(List.getElem?_eq_some_iff.1 hcs).1
        have hmul:i*sz+sz≤es.length*sz:=by
         have:=Nat.mul_le_mul_right sz (show i+1≤es.length from hlt)
         rwa [Nat.add_mul,Nat.one_mul] at this
        rw [← htake,List.drop_take,List.take_take,Nat.min_eq_left (by omega)] at h3
        obtain ⟨val,h5,h6⟩:=loadT_sound (P:=P) (ρ:=ρ) (F:=fun _=>True) hn hh h3 (fun g hg=>trivial) hv'
        exact .same R (by simp [Instr.loadAt,Instr.sureAddr,h5]) (h6.scal1 hsc)
      ·cases hv
     ·cases hv
    ·cases hv
   ·cases hv
  ·cases hv
 | @iptr cs off g o c te fz fp hg hF hc hf =>
  simp only at hv
  obtain ⟨v',hv',he⟩:=Option.map_eq_some_iff.1 hv
  cases he
  obtain ⟨val,h5,h6⟩:=loadT_sound (P:=P) (ρ:=ρ) (F:=Free N ρ h) hn hg hc hf hv'
  exact .same R (by simp [Instr.loadAt,Instr.sureAddr,h5]) h6
 | _=>simp at hv
theorem ok_store (R:Rel N base ρ h w) {t:TypeId} {i:TypeInfo} (hi:P.info? t=some i) {x y:AV} {xv yv:Value} (hy:RV ρ w (Free N ρ h) y yv) {v:AV} {u:List (Nat×Blk)}
  (hv:(match cellsOf y with
  | some vs=>if vs.length=i.size then (match x with
   | .ptr b off=>match gt h b with
    | .box cs=>if off+i.size≤cs.length then some (.top,[(b,.box (setCells cs off vs))]) else none
    | _=>none
   | .eptr b j sz off=>match gt h b with
    | .arr el sz' fr es=>match es[j]?,toTs h vs with
     | some cs,some (ts,f,ks) =>
      if off+i.size≤cs.length∧nodupB (b::ks)∧sz=sz' then some (.top,kill ks++[(b,.arr el sz' (fr && f) (es.set j (setT cs off (wk (cs.drop off) ts))))]) else none
     | _,_=>none
    | .xarr el sz' es=>match es[j]?,toTs h vs with
     | some cs,some (ts,_,_) =>
      if off+i.size≤cs.length∧ts.all scalar∧sz=sz' then some (.top,[(b,.xarr el sz' (es.set j (setT cs off ts)))]) else none
     | _,_=>none
    | _=>none
   | _=>none) else none
  | none=>none)=some (v,u)) (hx:RV ρ w (Free N ρ h) x xv) :
  OpOK P N base ρ h w (do Instr.storeAt t xv yv;pure .skip) v u:=by
 split at hv
 ·rename_i vs hvs
  split at hv
  ·rename_i hl
   split at hv
   ·rename_i b off
    split at hv
    ·rename_i cs hb
     split at hv
     ·rename_i hle
      cases hv
      exact ok_storeBox R hb rfl hx hvs hy hi hl hle
     ·cases hv
    ·cases hv
   ·rename_i b j sz off
    split at hv
    ·rename_i el sz' fr es hb
     split at hv
     ·rename_i cs ts f ks hcs hts
      split at hv
      ·rename_i hcond
       cases hv
       exact ok_storeElem R hb hcs hx hcond.2.2 hvs hy hts hi hl hcond.1 hcond.2.1
      ·cases hv
     ·cases hv
    ·rename_i el sz' es hb
     split at hv
     ·rename_i cs ts f ks hcs hts
      split at hv
      ·rename_i hcond
       cases hv
       exact ok_storeX R hb hcs hx hcond.2.2 hvs hy hts hi hl hcond.1 hcond.2.1
      ·cases hv
     ·cases hv
    ·cases hv
   ·cases hv
  ·cases hv
 ·cases hv
theorem ok_slice (R:Rel N base ρ h w) {nx:Nat} (hn:ρ nx=none) (hE:RelEnv ρ w (Free N ρ h) e a.tmps) {t:TypeId} {x:AV} {xv:Value} {lo hi:Option Operand} {lo' hi':Option Opd}
  (hlo:(match lo with | none=>some none | some o=>(opd o).map some)=some lo') (hhi:(match hi with | none=>some none | some o=>(opd o).map some)=some hi') {sz:Option Nat}
  {v:AV} {u:List (Nat×Blk)}
  (hv:(match bnd e 0 lo' with
  | none=>none
  | some l=>match sz,x with
   | none,.t (.str s)=>match bnd e s.size hi' with
    | some r=>if l≤r∧r≤s.size then some (AV.t (.str (s.extract l r)),([]:List (Nat×Blk))) else none
    | none=>none
   | some sz,.t (.lst sz' es)=>match bnd e es.length hi' with
    | some r=>if l≤r∧r≤es.length∧sz'=sz then some (.t (.lst sz ((es.take r).drop l)),[]) else none
    | none=>none
   | some sz,.own b=>match gt h b with
    | .arr el sz' fr es=>match bnd e es.length hi' with
     | some r=>if l=0∧r≤es.length∧sz'=sz then some (.own nx,kill [b]++[(nx,.arr el sz fr (es.take r))]) else none
     | none=>none
    | _=>none
   | _,_=>none)=some (v,u))
  (hsz:(match P.underlying t with | some .string=>some none | some (.slice e)=>(P.info? e).map fun i=>some i.size | _=>none)=some sz) (hx:RV ρ w (Free N ρ h) x xv) :
  OpOK P N base ρ h w (do pure (.value (← Instr.sliceAt t xv (lo.map a.eval) (hi.map a.eval) ((none:Option Operand).map a.eval)))) v u:=by
 split at hv
 ·cases hv
 ·rename_i l hl
  split at hv
  ·rename_i s
   split at hv
   ·rename_i r hr
    split at hv
    ·rename_i hc
     cases hv
     cases hx.str_inv
     have hu:P.underlying t=some .string:=by
      revert hsz
      split
      ·intro;assumption
      ·intro h1;obtain ⟨_,_,h2⟩:=Option.map_eq_some_iff.1 h1;cases h2
      ·intro h1;cases h1
     have hb:=run_sliceBounds (P:=P) hE hlo hhi (len:=s.size) (cap:=s.size) hl hr hc.1 hc.2 false
     exact .same R (by simp [Instr.sliceAt,Instr.slice,run_underlying hu,hb]) (.str_mk _)
    ·cases hv
   ·cases hv
  ·rename_i sz' sz2 es
   split at hv
   ·rename_i r hr
    split at hv
    ·rename_i hc
     obtain ⟨hc1,hc2,rfl⟩:=hc
     cases hv
     obtain ⟨el,i,hu,hi',rfl⟩:∃ el i,P.underlying t=some (.slice el)∧P.info? el=some i∧sz2=i.size:=by
      revert hsz
      split
      ·intro h1;cases h1
      ·rename_i el hu
       intro h1
       obtain ⟨i,h2,h3⟩:=Option.map_eq_some_iff.1 h1
       cases h3
       exact ⟨el,i,hu,h2,rfl⟩
      ·intro h1;cases h1
     cases hx with
     | t hT hf =>
      cases hT with
      | lst0 _ ad cap =>
       simp at hc2
       subst hc2
       obtain rfl:l=0:=by omega
       have hb:=run_sliceBounds (P:=P) hE hlo hhi (len:=0) (cap:=cap) hl hr (Nat.le_refl _) (Nat.zero_le _) true
       refine .same R (val:=.slice (if cap=0 then ad else ad.map (·.add (0*i.size))) 0 cap) (by simp [Instr.sliceAt,Instr.slice,run_underlying hu,hb,sizeOf,typeInfo,hi']) ?_
       simp only [List.take_nil,List.drop_nil]
       exact .t (.lst0 _ _ _) (by intro g hg;cases hg)
      | @lst _ _ g off cap c te fz fp' hne hsz' hcap hg hlen hcc =>
       have hb:=run_sliceBounds (P:=P) hE hlo hhi (len:=es.length) (cap:=cap) hl hr hc1 (by omega) true
       by_cases hemp:l=r
       ·subst hemp
        have he:(es.take l).drop l=[]:=by simp
        rw [he]
        refine .same R (val:=.slice (if cap=l then some ⟨g,off,none⟩ else some ((⟨g,off,none⟩:Addr).add (l*i.size))) 0 (cap - l)) (by simp [Instr.sliceAt,Instr.slice,run_underlying hu,hb,sizeOf,typeInfo,hi']) ?_
        exact .t (.lst0 _ _ _) (by intro g hg;cases hg)
       ·have hne':cap≠l:=by omega
        obtain ⟨fq,h3,h4⟩:=hcc.mid hlen hc1 hc2
        have hlen':((es.take r).drop l).length=r - l:=by simp;omega
        refine .same R (val:=.slice (some ⟨g,off+l*i.size,none⟩) (r - l) (cap - l)) (by simp [Instr.sliceAt,Instr.slice,run_underlying hu,hb,sizeOf,typeInfo,hi',hne',addr_add]) ?_
        have hT2:TR w (.lst i.size ((es.take r).drop l)) (.slice (some ⟨g,off+l*i.size,none⟩) ((es.take r).drop l).length (cap - l)) (g::fq):=by
         refine .lst (c:=c) (e:=te) (fz:=fz) ?_ hsz' (by omega) hg (fun x hx=>hlen x (List.mem_of_mem_take (List.mem_of_mem_drop hx))) ?_
         ·intro hnil;rw [hnil] at hlen';simp at hlen';omega
         ·rw [hlen']
          have hm:(r - l)*i.size≤es.length*i.size - l*i.size:=by
           rw [← Nat.sub_mul]
           exact Nat.mul_le_mul_right _ (by omega)
          have e3:List.take ((r - l)*i.size) (List.drop (l*i.size) (List.take (es.length*i.size) (List.drop off c.toList)))=List.take ((r - l)*i.size) (List.drop (off+l*i.size) c.toList):=by
           rw [List.drop_take,List.take_take,List.drop_drop,Nat.min_eq_left hm]
          rw [e3] at h3
          exact h3
        rw [hlen'] at hT2
        exact .t hT2 (by
         intro g' hg'
         cases hg' with
         | head=>exact hf _ (by simp)
         | tail _ hg'=>exact hf g' (by simp [h4 g' hg']))
    ·cases hv
   ·cases hv
  ·rename_i sz2 b
   split at hv
   ·rename_i el sz' fr es hgb
    split at hv
    ·rename_i r hr
     split at hv
     ·rename_i hc
      obtain ⟨rfl,hc2,rfl⟩:=hc
      cases hv
      obtain ⟨el',i,hu,hi',rfl⟩:∃ el i,P.underlying t=some (.slice el)∧P.info? el=some i∧sz'=i.size:=by
       revert hsz
       split
       ·intro h1;cases h1
       ·rename_i el hu
        intro h1
        obtain ⟨i,h2,h3⟩:=Option.map_eq_some_iff.1 h1
        cases h3
        exact ⟨el,i,hu,h2,rfl⟩
       ·intro h1;cases h1
      have hd:gt h b≠.dead:=by rw [hgb];intro hc;cases hc
      obtain ⟨rt,hrt,hB⟩:=R.blk b hd
      rw [hgb] at hB
      obtain ⟨_,e0,xs,he0,ho,hsz0,hl1,ht1,hf1,hfr1,how1⟩:=hB
      cases hx with
      | @own _ r2 hr2 hone =>
       rw [hrt] at hr2
       cases hr2
       have hfb:fr=true→isFresh (gt h b)=true:=fun hft=>by rw [hgb];exact hft
       have e1:es.flatten=(es.take r).flatten++(es.drop r).flatten:=by rw [← List.flatten_append,List.take_append_drop]
       rw [e1] at ht1 how1
       obtain ⟨fa,fb,hfp,h3,_⟩:=ht1.split
       replace how1:=fun hft=>(how1 hft).split.1
       have hfl:(es.take r).flatten.length=r*i.size:=by
        rw [flatten_len fun x hx=>hl1 x (List.mem_of_mem_take hx)]
        simp
        rw [Nat.min_eq_left hc2]
       rw [hfl] at h3 how1
       have hlr:(es.take r).length=r:=by simp;omega
       have hsub:∀ g∈fa,g∈rt.fp:=fun g hg=>by rw [hfp];simp [hg]
       have fin:∀ vv,(Instr.sliceAt t rt.v (lo.map a.eval) (hi.map a.eval) ((none:Option Operand).map a.eval)).run P w=.ok vv w→w.ownsRow base e0 i.size vv r (xs.take (r*i.size))→(∀ g,blkOf vv=some g→blkOf rt.v=some g) →
         OpOK P N base ρ h w (do pure (.value (← Instr.sliceAt t rt.v (lo.map a.eval) (hi.map a.eval) ((none:Option Operand).map a.eval)))) (.own nx) (kill [b]++[(nx,.arr el i.size fr (es.take r))]):=by
        intro vv hrun hown hblk
        have:=ok_arr (P:=P) R hn (s:=(do pure (.value (← Instr.sliceAt t rt.v (lo.map a.eval) (hi.map a.eval) ((none:Option Operand).map a.eval))))) (vv:=vv) (w':=w) (by simp at hrun;simp [hrun]) (row:=none)
         ⟨rfl,rfl,rfl,Nat.le_refl _,fun _ _ _=>rfl⟩ hsz0 (es1:=es.take r) (es2:=[]) (xs1:=xs.take (r*i.size)) (xs2:=[]) (fp1:=fa) (fp2:=[]) (fr1:=fr) (f:=true) (kd:=[b]) (ks:=[])
         (by simpa [hlr] using hown) (fun x hx=>hl1 x (List.mem_of_mem_take hx)) (by simp) h3 .nil (Took.nil _) List.nodup_nil (fun g hg=>hf1 g (hsub g hg))
         (fun hft=>⟨by have:=(hfr1 hft).1;rw [hfp] at this;exact (List.nodup_append.1 this).1,fun g hg=>(hfr1 hft).2 g (hsub g hg)⟩)
         (by intro hft g hg d rd hdk hrd hfd hgd;exact hdk (by rw [← R.apart b d rt rd g hrt hrd (hfb hft) hfd (hsub g hg) hgd];simp))
         (by intro _ _ _ k hk;cases hk) (by intro g hg;cases hg) (by intro g hg;exact .inr ⟨b,by simp,rt,hrt,hd,.inl (hblk g hg)⟩) (by intro g k hk;cases hk) how1 (fun _=>.nil) (lb:=el) he0
        simpa using this
       rcases ho.2 with ⟨hv,hz⟩ | ⟨g,cap,cur,hv,hbg,hg,hcap,hmx,hcs,htake⟩
       ·have he:es=[]:=List.eq_nil_of_length_eq_zero hz
        subst he
        simp at hc2
        subst hc2
        have hb:=run_sliceBounds (P:=P) hE hlo hhi (len:=0) (cap:=0) hl hr (Nat.le_refl _) (Nat.le_refl _) true
        refine fin (.slice none 0 0) ?_ ⟨by simp,.inl ⟨rfl,rfl⟩⟩ (by intro g hg;cases hg)
        rw [hv]
        simp [Instr.sliceAt,Instr.slice,run_underlying hu,hb,sizeOf,typeInfo,hi']
       ·have hb:=run_sliceBounds (P:=P) hE hlo hhi (len:=es.length) (cap:=cap) hl hr (Nat.zero_le _) (by omega) true
        refine fin (.slice (some ⟨g,0,none⟩) r cap) ?_ ⟨?_,.inr ⟨g,cap,cur,rfl,hbg,hg,by omega,hmx,hcs,?_⟩⟩ (by intro g' hg';rw [hv];exact hg')
        ·rw [hv]
         simp [Instr.sliceAt,Instr.slice,run_underlying hu,hb,sizeOf,typeInfo,hi',addr_add]
        ·rw [List.length_take,ho.1,Nat.min_eq_left (Nat.mul_le_mul_right _ hc2)]
        ·rw [← htake,List.take_take,Nat.min_eq_left (Nat.mul_le_mul_right _ hc2)]
     ·cases hv
    ·cases hv
   ·cases hv
  ·cases hv
theorem fieldOf_spec {t:TypeId} {f off:Nat} {ut:TypeId} (hf:fieldOf P t f=some (off,ut)) :
  ∃ fs fd i,P.underlying t=some (.struct fs)∧fs[f]?=some fd∧P.info? fd.type=some i∧i.size≠0∧fd.offset=off∧fd.type=ut:=by
 unfold fieldOf at hf
 split at hf
 ·rename_i fs hu
  split at hf
  ·rename_i fd hfd
   split at hf
   ·rename_i i hi
    split at hf
    ·cases hf
    ·rename_i hs
     cases hf
     exact ⟨fs,fd,i,hu,hfd,hi,hs,rfl,rfl⟩
   ·cases hf
  ·cases hf
 ·cases hf
theorem ok_faddr (R:Rel N base ρ h w) {t:TypeId} {f off:Nat} {ut:TypeId} (hf:fieldOf P t f=some (off,ut)) {x:AV} {xv:Value} {v:AV} {u:List (Nat×Blk)}
  (hv:(match x with
  | .ptr b o=>some (AV.ptr b (o+off),([]:List (Nat×Blk)))
  | .eptr b i sz o=>some (.eptr b i sz (o+off),[])
  | .iptr cs o=>some (.iptr cs (o+off),[])
  | _=>none)=some (v,u)) (hx:RV ρ w (Free N ρ h) x xv) :
  OpOK P N base ρ h w (do pure (.value (← Instr.fieldAt t xv f))) v u:=by
 obtain ⟨fs,fd,i,hu,hfd,hi,hs,rfl,_⟩:=fieldOf_spec hf
 have key:∀ g o,xv=.pointer (some ⟨g,o,none⟩)→((do pure (.value (← Instr.fieldAt t xv f))):Sem Next).run P w=.ok (.value (.pointer (some ⟨g,o+fd.offset,none⟩))) w:=by
  intro g o hxv
  subst hxv
  simp [Instr.fieldAt,run_underlying hu,hfd,Instr.sureAddr,fieldPlace,sizeOf,typeInfo,hi,hs,addr_add]
 cases hx with
 | ptr hr hrv=>simp at hv;obtain ⟨rfl,rfl⟩:=hv;exact .same R (key _ _ rfl) (.ptr hr hrv)
 | eptr hr hrv=>simp at hv;obtain ⟨rfl,rfl⟩:=hv;refine .same R (key _ _ rfl) ?_;rw [Nat.add_assoc];exact .eptr hr hrv
 | iptr hg hF hc hff=>simp at hv;obtain ⟨rfl,rfl⟩:=hv;refine .same R (key _ _ rfl) ?_;rw [Nat.add_assoc];exact .iptr hg hF hc hff
 | _=>simp at hv
theorem ok_aaddr (R:Rel N base ρ h w) {t el:TypeId} {m:Nat} {i:TypeInfo} (hu:P.underlying t=some (.array m el)) (hi:P.info? el=some i) {x:AV} {xv:Value} {k:IntKind} {n:Int} (h0:0≤n) (h1:n.toNat<m) {v:AV} {u:List (Nat×Blk)}
  (hv:(match x with
  | .ptr b o=>some (AV.ptr b (o+n.toNat*i.size),([]:List (Nat×Blk)))
  | .eptr b j s o=>some (.eptr b j s (o+n.toNat*i.size),[])
  | .iptr cs o=>some (.iptr cs (o+n.toNat*i.size),[])
  | _=>none)=some (v,u)) (hx:RV ρ w (Free N ρ h) x xv) :
  OpOK P N base ρ h w (do pure (.value (← Instr.indexAt t xv (.int k n)))) v u:=by
 have h2:n<(m:Int):=by omega
 have key:∀ g o,xv=.pointer (some ⟨g,o,none⟩)→((do pure (.value (← Instr.indexAt t xv (.int k n)))):Sem Next).run P w=.ok (.value (.pointer (some ⟨g,o+n.toNat*i.size,none⟩))) w:=by
  intro g o hxv
  subst hxv
  simp [Instr.indexAt,asIntOf,run_underlying hu,Instr.sureAddr,h0,h2,sizeOf,typeInfo,hi,addr_add]
 cases hx with
 | ptr hr hrv=>simp at hv;obtain ⟨rfl,rfl⟩:=hv;exact .same R (key _ _ rfl) (.ptr hr hrv)
 | eptr hr hrv=>simp at hv;obtain ⟨rfl,rfl⟩:=hv;refine .same R (key _ _ rfl) ?_;rw [Nat.add_assoc];exact .eptr hr hrv
 | iptr hg hF hc hff=>simp at hv;obtain ⟨rfl,rfl⟩:=hv;refine .same R (key _ _ rfl) ?_;rw [Nat.add_assoc];exact .iptr hg hF hc hff
 | _=>simp at hv
theorem ok_aidx (R:Rel N base ρ h w) {t el:TypeId} {m:Nat} {i:TypeInfo} (hu:P.underlying t=some (.array m el)) (hi:P.info? el=some i) {n:Option Nat} (hn:loadN P el=some n) {cs:List AV} {xv:Value} (hx:RV ρ w (Free N ρ h) (.agg cs) xv)
  {k:IntKind} {j:Int} (h0:0≤j) (hj:j.toNat<m) {v:AV} (hv:loadA cs (j.toNat*i.size) n=some v):OpOK P N base ρ h w (do pure (.value (← Instr.index t xv (.int k j)))) v []:=by
 have h2:j<(m:Int):=by omega
 cases hx with
 | @agg _ c hc h1 =>
  have hag:=run_isAgg (P:=P) hn w
  cases n with
  | none =>
   obtain ⟨val,h2',h3⟩:=hc.at hv
   have h2':c[j.toNat*i.size]?=some val:=by simpa using h2'
   exact .same R (by simp [Instr.index,asIntOf,run_underlying hu,h0,h2,sizeOf,typeInfo,hi,part,hag,h2']) h3
  | some q =>
   simp only [loadA] at hv
   split at hv
   ·rename_i hle
    cases hv
    obtain ⟨i',hi',hk⟩:=loadN_size hn
    rw [hi] at hi'
    cases hi'
    subst hk
    refine .same R (val:=.agg (c.extract (j.toNat*i.size) (j.toNat*i.size+i.size))) (by simp [Instr.index,asIntOf,run_underlying hu,h0,h2,sizeOf,typeInfo,hi,part,hag]) ?_
    have e:(c.extract (j.toNat*i.size) (j.toNat*i.size+i.size)).toList=(c.toList.drop (j.toNat*i.size)).take i.size:=by
     rw [Array.toList_extract,List.extract_eq_take_drop]
     simp
    refine .agg (by rw [e];exact (hc.drop _).take _) ?_
    rw [e]
    intro x hx
    exact h1 x (List.mem_of_mem_drop (List.mem_of_mem_take hx))
   ·cases hv
theorem ok_field (R:Rel N base ρ h w) {t:TypeId} {f off:Nat} {ut:TypeId} (hf:fieldOf P t f=some (off,ut)) {n:Option Nat} (hn:loadN P ut=some n) {cs:List AV} {xv:Value} (hx:RV ρ w (Free N ρ h) (.agg cs) xv) {v:AV}
  (hv:loadA cs off n=some v):OpOK P N base ρ h w (do pure (.value (← Instr.field t xv f))) v []:=by
 obtain ⟨fs,fd,i,hu,hfd,hi,hs,rfl,rfl⟩:=fieldOf_spec hf
 cases hx with
 | @agg _ c hc h1 =>
  have hag:=run_isAgg (P:=P) hn w
  cases n with
  | none =>
   obtain ⟨val,h2,h3⟩:=hc.at hv
   have h2':c[fd.offset]?=some val:=by simpa using h2
   exact .same R (by simp [Instr.field,run_underlying hu,hfd,asAgg,part,hag,h2']) h3
  | some k =>
   simp only [loadA] at hv
   split at hv
   ·rename_i hle
    cases hv
    obtain ⟨i',hi',hk⟩:=loadN_size hn
    rw [hi] at hi'
    cases hi'
    subst hk
    refine .same R (val:=.agg (c.extract fd.offset (fd.offset+i.size))) (by simp [Instr.field,run_underlying hu,hfd,asAgg,part,hag,sizeOf,typeInfo,hi]) ?_
    have e:(c.extract fd.offset (fd.offset+i.size)).toList=(c.toList.drop fd.offset).take i.size:=by
     rw [Array.toList_extract,List.extract_eq_take_drop]
     simp
    refine .agg (by rw [e];exact (hc.drop _).take _) ?_
    rw [e]
    intro x hx
    exact h1 x (List.mem_of_mem_drop (List.mem_of_mem_take hx))
   ·cases hv
end
end Go.AM
/- part: AMOps9 -/
namespace Go.AM
open Go.RowKit (Below)
section
variable {P:Program} {N:Par} {base:Nat} {ρ:Map} {h:List Blk} {w:World} {e:Env} {a:Act} {inl:List Nat} {ops:Array Oper}
theorem ok_len (R:Rel N base ρ h w) {t ty el:TypeId} {x:AV} {xv:Value} (hx:RV ρ w (Free N ρ h) x xv) {n:Nat} (hl:lenAV h false x=some n) (hu:P.underlying t=some (.slice el)) :
  OpOK P N base ρ h w (do pure (.value (← Builtin.len_ #[t] ty #[xv]))) (.t (.int .i64 (n:Int))) []:=by
 refine .same R ?_ (.int_mk _ _)
 have hsl:∃ c m,xv=.slice c n m:=by
  cases hx with
  | t hT hf =>
   cases hT with
   | nil=>simp [lenAV] at hl;subst hl;exact ⟨_,_,rfl⟩
   | lst0=>simp [lenAV] at hl;subst hl;exact ⟨_,_,rfl⟩
   | lst=>simp [lenAV] at hl;subst hl;exact ⟨_,_,rfl⟩
   | _=>simp [lenAV] at hl
  | @own b r' hr' hone =>
   simp only [lenAV] at hl
   split at hl
   ·rename_i el' sz fr es hb
    cases hl
    obtain ⟨r2,h1,h2⟩:=R.blk b (by rw [hb];intro hc;cases hc)
    rw [hr'] at h1
    cases h1
    rw [hb] at h2
    obtain ⟨_,_,xs,_,ho,_⟩:=h2
    rcases ho.2 with ⟨hv',hz⟩ | ⟨g,cap,cur,hv',_⟩
    ·rw [hv',hz];exact ⟨_,_,rfl⟩
    ·rw [hv'];exact ⟨_,_,rfl⟩
   ·rename_i el' sz es hb
    cases hl
    obtain ⟨r2,h1,h2⟩:=R.blk b (by rw [hb];intro hc;cases hc)
    rw [hr'] at h1
    cases h1
    rw [hb] at h2
    obtain ⟨_,xs,_,ho,_⟩:=h2
    rcases ho.2 with ⟨hv',hz⟩ | ⟨g,cap,cur,hv',_⟩
    ·rw [hv',hz];exact ⟨_,_,rfl⟩
    ·rw [hv'];exact ⟨_,_,rfl⟩
   ·cases hl
  | bsl=>simp [lenAV] at hl;subst hl;exact ⟨_,_,rfl⟩
  | _=>simp [lenAV] at hl
 obtain ⟨c,m,rfl⟩:=hsl
 simp [Builtin.len_,run_underlying hu,goInt]
theorem ok_lenS (R:Rel N base ρ h w) {t ty:TypeId} {x:AV} {xv:Value} (hx:RV ρ w (Free N ρ h) x xv) {n:Nat} (hl:lenAV h true x=some n) (hu:P.underlying t=some .string) :
  OpOK P N base ρ h w (do pure (.value (← Builtin.len_ #[t] ty #[xv]))) (.t (.int .i64 (n:Int))) []:=by
 refine .same R ?_ (.int_mk _ _)
 cases x <;> try (simp [lenAV] at hl;done)
 rename_i tx
 cases tx <;> try (simp [lenAV] at hl;done)
 simp [lenAV] at hl
 subst hl
 rw [hx.str_inv]
 simp [Builtin.len_,run_underlying hu,goInt]
set_option maxHeartbeats 1000000 in
theorem op_sound {o:Oper} {k:MOp} (hk:compK P inl ops o.op=some k) (hE:RelEnv ρ w (Free N ρ h) e a.tmps) (R:Rel N base ρ h w) {nx:Nat} (hn:ρ nx=none) {v:AV} {u:List (Nat×Blk)}
  (hev:evalOp h nx e k=some (v,u)):OpOK P N base ρ h w (execOp a.eval o) v u:=by
 unfold execOp
 cases hop:o.op with
 | move x =>
  rw [hop] at hk
  dsimp only
  simp only [compK] at hk
  obtain ⟨x',hx,rfl⟩:=Option.map_eq_some_iff.1 hk
  simp [evalOp] at hev
  obtain ⟨rfl,rfl⟩:=hev
  exact .same R rfl (opd_rel hE hx)
 | assign x =>
  rw [hop] at hk
  dsimp only
  simp only [compK] at hk
  obtain ⟨x',hx,rfl⟩:=Option.map_eq_some_iff.1 hk
  simp [evalOp] at hev
  obtain ⟨rfl,rfl⟩:=hev
  exact .same R rfl (opd_rel hE hx)
 | pick c x y =>
  rw [hop] at hk
  dsimp only
  simp only [compK] at hk
  split at hk
  ·rename_i c' x' y' hc hx hy
   cases hk
   simp only [evalOp] at hev
   split at hev
   ·rename_i hcv
    cases hev
    have h1:=opd_rel hE hc
    rw [hcv] at h1
    exact .same R (by simp [h1.bool_inv,asBool]) (opd_rel hE hx)
   ·rename_i hcv
    cases hev
    have h1:=opd_rel hE hc
    rw [hcv] at h1
    exact .same R (by simp [h1.bool_inv,asBool]) (opd_rel hE hy)
   ·cases hev
  ·cases hk
 | alloc t =>
  rw [hop] at hk
  dsimp only
  simp only [compK] at hk
  obtain ⟨zs,hz,rfl⟩:=Option.map_eq_some_iff.1 hk
  simp [evalOp] at hev
  obtain ⟨rfl,rfl⟩:=hev
  exact ok_alloc R hn hz
 | box t x =>
  rw [hop] at hk
  dsimp only
  simp only [compK] at hk
  obtain ⟨x',hx,rfl⟩:=Option.map_eq_some_iff.1 hk
  simp only [evalOp] at hev
  split at hev
  ·rename_i cs hcs
   cases hev
   exact ok_box R hn (opd_rel hE hx) hcs
  ·cases hev
 | build t ps =>
  rw [hop] at hk
  dsimp only
  simp only [compK] at hk
  split at hk
  ·rename_i fs zs hu hz
   split at hk
   ·rename_i places hp
    obtain ⟨qs,hq,rfl⟩:=Option.map_eq_some_iff.1 hk
    simp only [evalOp] at hev
    split at hev
    ·rename_i cs hcs
     cases hev
     exact ok_build R hE hu hz hp hq hcs
    ·cases hev
   ·cases hk
  ·cases hk
 | buildSlice t n ps =>
  rw [hop] at hk
  dsimp only
  simp only [compK] at hk
  split at hk
  ·rename_i el hu
   split at hk
   ·rename_i i hi
    split at hk
    ·rename_i hc
     split at hk
     ·rename_i qs hq
      split at hk
      ·rename_i zs hz
       split at hk
       ·rename_i hzl
        cases hk
        simp only [evalOp] at hev
        split at hev
        ·rename_i es fr ks hel
         split at hev
         ·rename_i hnd
          cases hev
          exact ok_bslice R hE hn hu hi hc.1 hc.2 hz hzl hq hel hnd
         ·cases hev
        ·cases hev
       ·cases hk
      ·rename_i hz
       split at hk
       ·rename_i hzz
        split at hk
        ·rename_i hs1
         cases hk
         simp only [evalOp] at hev
         split at hev
         ·rename_i cs hcs
          cases hev
          exact ok_bptrs R hE hn hu hi hc.1 hs1 hzz hq hcs
         ·cases hev
        ·cases hk
       ·cases hk
     ·cases hk
    ·cases hk
   ·cases hk
  ·cases hk
 | load t x =>
  rw [hop] at hk
  dsimp only
  simp only [compK] at hk
  split at hk
  ·rename_i n x' hnn hx
   cases hk
   by_cases hm:(n.isNone && isSl P t && mutLd P inl ops x)=true
   ·rw [if_pos hm] at hev
    simp only [Bool.and_eq_true,Option.isNone_iff_eq_none] at hm
    rw [hm.1.1] at hnn
    simp only [evalOp] at hev
    exact ok_loadU R hn hnn hev (opd_rel hE hx)
   ·rw [if_neg hm] at hev
    simp only [evalOp] at hev
    exact ok_load R hnn hev (opd_rel hE hx)
  ·cases hk
 | store t x y =>
  rw [hop] at hk
  dsimp only
  simp only [compK] at hk
  split at hk
  ·rename_i i x' y' hi hx hy
   cases hk
   split at hev
   ·simp only [evalOp] at hev
    split at hev
    ·rename_i vs hvs
     split at hev
     ·rename_i hl
      split at hev
      ·rename_i b off hxp
       split at hev
       ·rename_i cs hb
        split at hev
        ·rename_i ts f ks hts
         split at hev
         ·rename_i hcond
          cases hev
          have hrx:=opd_rel hE hx
          rw [hxp] at hrx
          exact ok_storeBoxF R hb hrx hvs (opd_rel hE hy) hts hi hl hcond.1 hcond.2
         ·cases hev
        ·cases hev
       ·cases hev
      ·cases hev
     ·cases hev
    ·cases hev
   ·simp only [evalOp] at hev
    exact ok_store R hi (opd_rel hE hy) hev (opd_rel hE hx)
  ·cases hk
 | nilCheck x =>
  rw [hop] at hk
  dsimp only
  simp only [compK] at hk
  obtain ⟨x',hx,rfl⟩:=Option.map_eq_some_iff.1 hk
  have hr:=opd_rel hE hx
  simp only [evalOp] at hev
  split at hev
  ·rename_i b off hv;cases hev;rw [hv] at hr;obtain ⟨p,hp⟩:=hr.ptr_val;exact .same R (val:=a.eval x) (by simp [hp]) hr
  ·rename_i b i sz off hv;cases hev;rw [hv] at hr;obtain ⟨p,hp⟩:=hr.eptr_val;exact .same R (val:=a.eval x) (by simp [hp]) hr
  ·rename_i cs off hv;cases hev;rw [hv] at hr;obtain ⟨p,hp⟩:=hr.iptr_val;exact .same R (val:=a.eval x) (by simp [hp]) hr
  ·rename_i f cs hv;cases hev;rw [hv] at hr;obtain ⟨p,hp,_⟩:=hr.fn_val;exact .same R (val:=a.eval x) (by simp [hp]) hr
  ·cases hev
 | binOp op t x y ty =>
  rw [hop] at hk
  dsimp only
  simp only [compK] at hk
  split at hk
  ·rename_i x' y' hx hy
   have hrx:=opd_rel hE hx
   have hry:=opd_rel hE hy
   have hbin:∀ z,z=MOp.bin op x' y'→evalOp h nx e z=some (v,u)→OpOK P N base ρ h w (do pure (.value (← (do eqGuard op t x y (a.eval x) (a.eval y);binOp op t (a.eval x) (a.eval y))))) v u:=by
    intro z hz hev
    subst hz
    simp only [evalOp] at hev
    split at hev
    ·rename_i p q hp hq
     obtain ⟨r,hr,he⟩:=Option.map_eq_some_iff.1 hev
     cases he
     rw [hp] at hrx
     rw [hq] at hry
     obtain ⟨z,hz1,hz2⟩:=bin_sound (P:=P) (t:=t) (x:=x) (y:=y) hrx hry hr
     exact .same R (by rw [Sem.run_bind,hz1];rfl) hz2
    ·cases hev
   split at hk
   ·cases hk;exact hbin _ rfl hev
   ·cases hk;exact hbin _ rfl hev
   ·rename_i hu
    split at hk
    all_goals try (cases hk;done)
    all_goals
     cases hk
     simp only [evalOp] at hev
     split at hev
     ·rename_i p q hp hq
      cases hev
      rw [hp] at hrx
      rw [hq] at hry
      rw [hrx.bool_inv,hry.bool_inv]
      refine .same R ?_ (.bool_mk _)
      simp [eqGuard,binOp,Op.equal,Op.maxDepth,run_equalIn_bool' w 9999 t p q hu]
     ·cases hev
   ·rename_i el hu
    split at hk
    ·cases hk
     simp only [evalOp] at hev
     split at hev
     ·rename_i r hr
      cases hev
      obtain ⟨c,n,m,hc,rfl⟩:=isNil_slice R hrx hr
      refine .same R ?_ (.bool_mk _)
      have hy0:a.eval (.const (.slice none 0 0))=.slice none 0 0:=rfl
      rw [hc,hy0]
      simp [eqGuard,binOp,Op.equal,Op.maxDepth,run_nil_slice hu 9999 c n m]
     ·cases hev
    ·cases hk
     simp only [evalOp] at hev
     split at hev
     ·rename_i r hr
      cases hev
      obtain ⟨c,n,m,hc,rfl⟩:=isNil_slice R hrx hr
      refine .same R ?_ (.bool_mk _)
      have hy0:a.eval (.const (.slice none 0 0))=.slice none 0 0:=rfl
      rw [hc,hy0]
      simp [eqGuard,binOp,Op.equal,Op.maxDepth,run_nil_slice hu 9999 c n m]
     ·cases hev
    ·cases hk
   ·rename_i el hu
    split at hk
    ·cases hk
     simp only [evalOp] at hev
     split at hev
     ·rename_i r hr
      cases hev
      obtain ⟨c,hc,rfl⟩:=isNil_pointer hrx hr
      refine .same R ?_ (.bool_mk _)
      have hy0:a.eval (.const (.pointer none))=.pointer none:=rfl
      rw [hc,hy0]
      simp [eqGuard,binOp,Op.equal,Op.maxDepth,run_nil_pointer hu 9999 c]
     ·cases hev
    ·cases hk
     simp only [evalOp] at hev
     split at hev
     ·rename_i r hr
      cases hev
      obtain ⟨c,hc,rfl⟩:=isNil_pointer hrx hr
      refine .same R ?_ (.bool_mk _)
      have hy0:a.eval (.const (.pointer none))=.pointer none:=rfl
      rw [hc,hy0]
      simp [eqGuard,binOp,Op.equal,Op.maxDepth,run_nil_pointer hu 9999 c]
     ·cases hev
    ·cases hk
   ·rename_i fs hu
    split at hk
    ·rename_i ks hks
     split at hk
     ·rename_i hcond
      have hfs:P.fieldsOf t=fs:=by simp [Program.fieldsOf,hu]
      have hut:P.underlying t=some (.struct (P.fieldsOf t)):=by rw [hfs];exact hu
      have key:∀ xs ys r,ev e x'=.agg xs→ev e y'=.agg ys→eqAs ks xs ys=some r→∃ cx cy,a.eval x=.agg cx∧a.eval y=.agg cy∧(Op.equalIn 10000 t (.agg cx) (.agg cy)).run P w=.ok r w:=by
       intro xs ys r hxs hys hr
       rw [hxs] at hrx
       rw [hys] at hry
       obtain ⟨cx,hcx,hx1,_⟩:=hrx.agg_val
       obtain ⟨cy,hcy,hy1,_⟩:=hry.agg_val
       refine ⟨cx,cy,hcx,hcy,?_⟩
       have h1:=run_equalIn_struct (P:=P) w 9999 t cx cy hut hcond.1
       rw [h1,hfs]
       exact okEq_field (P:=P) (ρ:=ρ) (F:=Free N ρ h) hks 9998 xs ys cx cy (by simpa using hx1) (by simpa using hy1) r hr
      split at hk
      ·cases hk
       simp only [evalOp] at hev
       split at hev
       ·rename_i xs ys hxs hys
        split at hev
        ·rename_i r hr
         cases hev
         obtain ⟨cx,cy,h1,h2,h3⟩:=key xs ys r hxs hys hr
         refine .same R ?_ (.bool_mk _)
         rw [h1,h2]
         simp [run_eqGuard_agg w .eql t x y cx cy hcond.2,run_eql_struct,h3]
        ·cases hev
       ·cases hev
      ·cases hk
       simp only [evalOp] at hev
       split at hev
       ·rename_i xs ys hxs hys
        split at hev
        ·rename_i r hr
         cases hev
         obtain ⟨cx,cy,h1,h2,h3⟩:=key xs ys r hxs hys hr
         refine .same R ?_ (.bool_mk _)
         rw [h1,h2]
         simp [run_eqGuard_agg w .neq t x y cx cy hcond.2,run_neq_struct,h3]
        ·cases hev
       ·cases hev
      ·cases hk
     ·cases hk
    ·cases hk
   ·cases hk
  ·cases hk
 | unOp op t x =>
  rw [hop] at hk
  dsimp only
  simp only [compK] at hk
  obtain ⟨x',hx,rfl⟩:=Option.map_eq_some_iff.1 hk
  have hr:=opd_rel hE hx
  simp only [evalOp] at hev
  split at hev
  ·rename_i p hp
   obtain ⟨r,hrr,he⟩:=Option.map_eq_some_iff.1 hev
   cases he
   rw [hp] at hr
   obtain ⟨z,h1,h2⟩:=un_sound (P:=P) hr hrr
   exact .same R (by simp [h1]) h2
  ·cases hev
 | convert s d x =>
  rw [hop] at hk
  dsimp only
  simp only [compK] at hk
  split at hk
  ·rename_i us k hs hd
   obtain ⟨x',hx,rfl⟩:=Option.map_eq_some_iff.1 hk
   have hr:=opd_rel hE hx
   simp only [evalOp] at hev
   split at hev
   ·rename_i k' n hv
    cases hev
    rw [hv] at hr
    refine .same R ?_ (.int_mk _ _)
    simp [hr.int_inv,convert,run_underlying hs,run_underlying hd,Conv.intToInt]
   ·cases hev
  ·rename_i el hs hd
   split at hk
   ·rename_i hel
    obtain ⟨x',hx,rfl⟩:=Option.map_eq_some_iff.1 hk
    have hr:=opd_rel hE hx
    simp only [evalOp] at hev
    split at hev
    ·rename_i b hv
     rw [hv] at hr
     split at hev
     ·rename_i lb fr es hb
      obtain ⟨ns,hns,hq⟩:=Option.map_eq_some_iff.1 hev
      cases hq
      exact ok_tostr R hs hel hd hb hns hr
     ·cases hev
    ·cases hev
   ·cases hk
  ·cases hk
 | makeFunc fn first caps =>
  rw [hop] at hk
  dsimp only
  cases fn <;> try (simp [compK] at hk;done)
  simp only [compK] at hk
  split at hk
  ·rename_i hfe
   obtain ⟨cs,hcs,rfl⟩:=Option.map_eq_some_iff.1 hk
   simp [evalOp] at hev
   obtain ⟨rfl,rfl⟩:=hev
   have hf0:first=#[]:=by simpa using hfe
   subst hf0
   refine .same R (val:=.func (.func _) #[] (caps.map a.eval)) (by simp [Instr.makeFunc]) (.fn ?_)
   rw [Array.toList_map]
   exact mapO_opd hE hcs
  ·cases hk
 | makeSlice t l c =>
  rw [hop] at hk
  dsimp only
  simp only [compK] at hk
  split at hk
  ·rename_i el hu
   split at hk
   ·rename_i i zs l' c' hi hz hl hc
    split at hk
    ·rename_i hcond
     cases hk
     have hrl:=opd_rel hE hl
     have hrc:=opd_rel hE hc
     simp only [evalOp] at hev
     split at hev
     ·rename_i kl lv kc cv hlv hcv
      split at hev
      ·rename_i hb
       cases hev
       rw [hlv] at hrl
       rw [hcv] at hrc
       simp only [hrl.int_inv,hrc.int_inv]
       exact ok_mkslice R hn hu hi hz hcond.1 hcond.2 hb.1 hb.2.1 hb.2.2.1 hb.2.2.2
      ·cases hev
     ·cases hev
    ·cases hk
   ·cases hk
  ·cases hk
 | slice t x lo hi mx =>
  rw [hop] at hk
  dsimp only
  cases mx with
  | some m=>simp [compK] at hk
  | none =>
   simp only [compK] at hk
   split at hk
   ·rename_i sz x' lo' hi' hsz hx hlo hhi
    cases hk
    simp only [evalOp] at hev
    exact ok_slice R hn hE hlo hhi hev hsz (opd_rel hE hx)
   ·cases hk
 | fieldAddr t x f =>
  rw [hop] at hk
  dsimp only
  simp only [compK] at hk
  split at hk
  ·rename_i off ut x' hf hx
   cases hk
   simp only [evalOp] at hev
   exact ok_faddr R hf hev (opd_rel hE hx)
  ·cases hk
 | field t x f =>
  rw [hop] at hk
  dsimp only
  simp only [compK] at hk
  split at hk
  ·rename_i off ut x' hf hx
   obtain ⟨n,hnn,rfl⟩:=Option.map_eq_some_iff.1 hk
   have hr:=opd_rel hE hx
   simp only [evalOp] at hev
   split at hev
   ·rename_i cs hcs
    obtain ⟨v',hv',he⟩:=Option.map_eq_some_iff.1 hev
    cases he
    rw [hcs] at hr
    exact ok_field R hf hnn hr hv'
   ·cases hev
  ·cases hk
 | indexAddr t x i =>
  rw [hop] at hk
  dsimp only
  simp only [compK] at hk
  split at hk
  ·rename_i el hu
   split at hk
   ·rename_i inf x' i' hinf hx hi
    cases hk
    have hri:=opd_rel hE hi
    simp only [evalOp] at hev
    split at hev
    ·rename_i k n hin
     rw [hin] at hri
     split at hev
     ·rename_i h0
      simp only [hri.int_inv]
      exact ok_iaddr R hu hinf h0 hev (opd_rel hE hx)
     ·cases hev
    ·cases hev
   ·cases hk
  ·rename_i m el hu
   split at hk
   ·rename_i inf x' i' hinf hx hi
    cases hk
    have hri:=opd_rel hE hi
    simp only [evalOp] at hev
    split at hev
    ·rename_i k n hin
     rw [hin] at hri
     split at hev
     ·rename_i h0
      simp only [hri.int_inv]
      exact ok_aaddr R hu hinf h0.1 h0.2 hev (opd_rel hE hx)
     ·cases hev
    ·cases hev
   ·cases hk
  ·cases hk
 | index t x i =>
  rw [hop] at hk
  dsimp only
  simp only [compK] at hk
  split at hk
  ·rename_i x' i' hu hx hi
   cases hk
   have hrx:=opd_rel hE hx
   have hri:=opd_rel hE hi
   simp only [evalOp] at hev
   split at hev
   ·rename_i s k n hxs hin
    split at hev
    ·rename_i h0
     split at hev
     ·rename_i b hb
      cases hev
      rw [hxs] at hrx
      rw [hin] at hri
      refine .same R ?_ (.int_mk _ _)
      simp [hrx.str_inv,hri.int_inv,Instr.index,asIntOf,run_underlying hu,h0,hb]
     ·cases hev
    ·cases hev
   ·cases hev
  ·rename_i m el x' i' hu hx hi
   split at hk
   ·rename_i inf q hinf hq
    cases hk
    have hrx:=opd_rel hE hx
    have hri:=opd_rel hE hi
    simp only [evalOp] at hev
    split at hev
    ·rename_i k n hin
     rw [hin] at hri
     split at hev
     ·rename_i h0
      split at hev
      ·rename_i cs hcs
       obtain ⟨v',hv',he⟩:=Option.map_eq_some_iff.1 hev
       cases he
       rw [hcs] at hrx
       simp only [hri.int_inv]
       exact ok_aidx R hu hinf hq hrx h0.1 h0.2 hv'
      ·cases hev
     ·cases hev
    ·cases hev
   ·cases hk
  ·cases hk
 | extract x i =>
  rw [hop] at hk
  dsimp only
  simp only [compK] at hk
  obtain ⟨x',hx,rfl⟩:=Option.map_eq_some_iff.1 hk
  have hr:=opd_rel hE hx
  simp only [evalOp] at hev
  split at hev
  ·rename_i vs hvs
   obtain ⟨v',hv',he⟩:=Option.map_eq_some_iff.1 hev
   cases he
   rw [hvs] at hr
   obtain ⟨c,hc,hcs⟩:=hr.tup_val
   obtain ⟨val,h1,h2⟩:=hcs.at hv'
   have h1':c[i]?=some val:=by simpa using h1
   exact .same R (by simp [hc,Instr.extract,h1']) h2
  ·cases hev
 | call c =>
  rw [hop] at hk
  dsimp only
  obtain ⟨callee,args,argTypes⟩:=c
  cases callee with
  | invoke r m=>simp [compK] at hk
  | value f =>
   cases f <;> simp only [compK] at hk
   ·split at hk
    ·cases hk;simp [evalOp] at hev
    ·cases hk
   ·split at hk
    ·cases hk;simp [evalOp] at hev
    ·cases hk
   ·split at hk
    ·cases hk;simp [evalOp] at hev
    ·cases hk
   ·split at hk
    ·obtain ⟨as,_,rfl⟩:=Option.map_eq_some_iff.1 hk
     unfold callK at hev
     repeat' split at hev
     all_goals simp [evalOp] at hev
    ·cases hk
  | builtin b =>
   cases b <;> try (simp [compK] at hk;done)
   case len =>
    simp only [compK] at hk
    split at hk
    ·rename_i x t hargs hts
     have hargs':args=#[x]:=by rw [← Array.toList_inj];exact hargs
     have hts':argTypes=#[t]:=by rw [← Array.toList_inj];exact hts
     subst hargs'
     subst hts'
     have hshape:(do let d ← resolve a.eval { callee:=.builtin .len,args:=#[x],argTypes:=#[t] } o.type;invoke d.target d.args:Sem Next)=(do pure (.value (← Builtin.len_ #[t] o.type #[a.eval x]))):=by
      simp [resolve,invoke,builtin]
     rw [hshape]
     split at hk
     ·rename_i el hu
      obtain ⟨x',hx,rfl⟩:=Option.map_eq_some_iff.1 hk
      simp only [evalOp] at hev
      split at hev
      ·rename_i n hl
       cases hev
       exact ok_len R (opd_rel hE hx) hl hu
      ·cases hev
     ·rename_i hu
      obtain ⟨x',hx,rfl⟩:=Option.map_eq_some_iff.1 hk
      simp only [evalOp] at hev
      split at hev
      ·rename_i n hl
       cases hev
       exact ok_lenS R (opd_rel hE hx) hl hu
      ·cases hev
     ·cases hk
    ·cases hk
   case append =>
    simp only [compK] at hk
    split at hk
    ·rename_i x y t t' hargs hts
     have hargs':args=#[x,y]:=by rw [← Array.toList_inj];exact hargs
     have hts':argTypes=#[t,t']:=by rw [← Array.toList_inj];exact hts
     subst hargs'
     subst hts'
     split at hk
     ·rename_i el el' hu hu'
      split at hk
      ·rename_i i x' y' hi hx hy
       split at hk
       ·rename_i z hz
        split at hk
        ·rename_i hcond
         obtain ⟨hsz,hzs,rfl,hun⟩:=hcond
         cases hk
         simp only [evalOp] at hev
         split at hev
         ·rename_i ys f ks hs
          obtain ⟨h1,h2⟩:=ok_append (P:=P) (ty:=o.type) R hn hu hi hz hzs hsz (opd_rel hE hx) (opd_rel hE hy) hs hun
          have hshape:(do let d ← resolve a.eval { callee:=.builtin .append,args:=#[x,y],argTypes:=#[t,t] } o.type;invoke d.target d.args:Sem Next) =
            (do pure (.value (← Builtin.append_ #[t,t] o.type #[a.eval x,a.eval y]))):=by
           simp [resolve,invoke,builtin]
          rw [hshape]
          split at hev
          ·rename_i hxv
           split at hev
           ·rename_i hb
            cases hev
            exact h1 hxv hb.1 hb.2
           ·cases hev
          ·rename_i b hxv
           split at hev
           ·rename_i el2 sz2 fr es hgb
            split at hev
            ·rename_i hb
             obtain ⟨rfl,rfl,hb1,hb2,hb3⟩:=hb
             cases hev
             exact h2 b fr es hxv hgb hb1 hb2 hb3
            ·cases hev
           ·cases hev
          ·cases hev
         ·cases hev
        ·cases hk
       ·cases hk
      ·cases hk
     ·cases hk
    ·cases hk
   case max =>
    simp only [compK] at hk
    split at hk
    ·rename_i x y hargs
     have hargs':args=#[x,y]:=by rw [← Array.toList_inj];exact hargs
     subst hargs'
     split at hk
     ·rename_i x' y' hx hy
      cases hk
      have hrx:=opd_rel hE hx
      have hry:=opd_rel hE hy
      simp only [evalOp] at hev
      split at hev
      ·rename_i k1 p k2 q hp hq
       cases hev
       rw [hp] at hrx
       rw [hq] at hry
       refine .same R ?_ (.int_mk _ _)
       simp [resolve,invoke,builtin,hrx.int_inv,hry.int_inv,run_max_int2]
      ·cases hev
     ·cases hk
    ·cases hk
   case min =>
    simp only [compK] at hk
    split at hk
    ·rename_i x y hargs
     have hargs':args=#[x,y]:=by rw [← Array.toList_inj];exact hargs
     subst hargs'
     split at hk
     ·rename_i x' y' hx hy
      cases hk
      have hrx:=opd_rel hE hx
      have hry:=opd_rel hE hy
      simp only [evalOp] at hev
      split at hev
      ·rename_i k1 p k2 q hp hq
       cases hev
       rw [hp] at hrx
       rw [hq] at hry
       refine .same R ?_ (.int_mk _ _)
       simp [resolve,invoke,builtin,hrx.int_inv,hry.int_inv,run_min_int2]
      ·cases hev
     ·cases hk
    ·cases hk
 | _=>rw [hop] at hk;simp [compK] at hk
end
end Go.AM
/- part: AMRen -/
namespace Go.AM
open Go.RowKit (Below)
section
variable {N:Par} {base:Nat} {ρ ρ':Map} {h:List Blk} {w w':World} {F F':Nat→Prop}
theorem RV.ren {a:AV} {v:Value} (h:RV ρ w F a v):∀ (f:Nat→Nat),(∀ b∈refs a,∀ r,ρ b=some r→ρ' (f b)=some r)→(∀ g,g<w.heap.size→F g→F' g)→RV ρ' w F' (AM.ren f a) v:=by
 refine RV.rec (motive_1:=fun a v _=>∀ (f:Nat→Nat),(∀ b∈refs a,∀ r,ρ b=some r→ρ' (f b)=some r)→(∀ g,g<w.heap.size→F g→F' g)→RV ρ' w F' (AM.ren f a) v)
  (motive_2:=fun as vs _=>∀ (f:Nat→Nat),(∀ b∈refss as,∀ r,ρ b=some r→ρ' (f b)=some r)→(∀ g,g<w.heap.size→F g→F' g)→RVs ρ' w F' (AM.rens f as) vs) ?_ ?_ ?_ ?_ ?_ ?_ ?_ ?_ ?_ ?_ ?_ ?_ ?_ h
 ·intro v f _ _;exact .top v
 ·intro f _ _;exact .nilp
 ·intro x v fp h hf f _ hF;exact .t h fun g hg=>hF g (h.lt g hg) (hf g hg)
 ·intro cs c _ h1 ih f hr hF;exact .agg (ih f (by simpa [refs] using hr) hF) h1
 ·intro cs c _ ih f hr hF;exact .tup (ih f (by simpa [refs] using hr) hF)
 ·intro b off g r hr hv f hf _;exact .ptr (hf b (by simp [refs]) r hr) hv
 ·intro b i sz off g n cap r hr hv f hf _;exact .eptr (hf b (by simp [refs]) r hr) hv
 ·intro cs off g o c e fz fp hg hFg hc hfp f _ hF
  exact .iptr hg (hF g (Array.getElem?_eq_some_iff.1 hg).1 hFg) hc fun g hg=>hF g (hc.lt g hg) (hfp g hg)
 ·intro b r hr h1 f hf _;exact .own (hf b (by simp [refs]) r hr) h1
 ·intro b n g r hr hv f hf _;exact .bsl (hf b (by simp [refs]) r hr) hv
 ·intro g cs c _ ih f hr hF;exact .fn (ih f (by simpa [refs] using hr) hF)
 ·intro f _ _;exact .nil
 ·intro a v as vs _ _ ih1 ih2 f hr hF
  exact .cons (ih1 f (fun b hb=>hr b (by simp [refss,hb])) hF) (ih2 f (fun b hb=>hr b (by simp [refss,hb])) hF)
theorem RVs.ren {as:List AV} {vs:List Value} (h:RVs ρ w F as vs) (f:Nat→Nat) (hr:∀ b∈refss as,∀ r,ρ b=some r→ρ' (f b)=some r) (hF:∀ g,g<w.heap.size→F g→F' g):RVs ρ' w F' (rens f as) vs:=by
 induction as generalizing vs with
 | nil=>cases h;exact .nil
 | cons a as ih=>cases h with | cons h hs=>exact .cons (h.ren f (fun b hb=>hr b (by simp [refss,hb])) hF) (ih hs fun b hb=>hr b (by simp [refss,hb]))
theorem RV.scal {a:AV} {v:Value} (h:RV ρ w F a v):∀ (f:Nat→Nat),(∀ b∈refs a,∀ r,ρ b=some r→ρ' (f b)=some r)→scalAV a=true→RV ρ' w F' (AM.ren f a) v:=by
 refine RV.rec (motive_1:=fun a v _=>∀ (f:Nat→Nat),(∀ b∈refs a,∀ r,ρ b=some r→ρ' (f b)=some r)→scalAV a=true→RV ρ' w F' (AM.ren f a) v)
  (motive_2:=fun as vs _=>∀ (f:Nat→Nat),(∀ b∈refss as,∀ r,ρ b=some r→ρ' (f b)=some r)→scalAVs as=true→RVs ρ' w F' (AM.rens f as) vs) ?_ ?_ ?_ ?_ ?_ ?_ ?_ ?_ ?_ ?_ ?_ ?_ ?_ h
 ·intro v f _ _;exact .top v
 ·intro f _ _;exact .nilp
 ·intro x v fp h hf f _ hs
  refine .t h fun g hg=>?_
  cases h <;> first | (simp [scalAV,scalar] at hs;done) | cases hg
 ·intro cs c _ h1 ih f hr hs;exact .agg (ih f (by simpa [refs] using hr) hs) h1
 ·intro cs c _ ih f hr hs;exact .tup (ih f (by simpa [refs] using hr) hs)
 ·intro b off g r hr hv f hf _;exact .ptr (hf b (by simp [refs]) r hr) hv
 ·intro b i sz off g n cap r hr hv f hf _;exact .eptr (hf b (by simp [refs]) r hr) hv
 ·intro cs off g o c e fz fp hg hFg hc hfp f _ hs;simp [scalAV] at hs
 ·intro b r hr h1 f hf _;exact .own (hf b (by simp [refs]) r hr) h1
 ·intro b n g r hr hv f hf _;exact .bsl (hf b (by simp [refs]) r hr) hv
 ·intro g cs c _ ih f hr hs;exact .fn (ih f (by simpa [refs] using hr) hs)
 ·intro f _ _;exact .nil
 ·intro a v as vs _ _ ih1 ih2 f hr hs
  simp only [scalAVs,Bool.and_eq_true] at hs
  exact .cons (ih1 f (fun b hb=>hr b (by simp [refss,hb])) hs.1) (ih2 f (fun b hb=>hr b (by simp [refss,hb])) hs.2)
theorem RVs.scal {as:List AV} {vs:List Value} (h:RVs ρ w F as vs) (f:Nat→Nat) (hr:∀ b∈refss as,∀ r,ρ b=some r→ρ' (f b)=some r) (hs:scalAVs as=true):RVs ρ' w F' (rens f as) vs:=by
 induction as generalizing vs with
 | nil=>cases h;exact .nil
 | cons a as ih =>
  simp only [scalAVs,Bool.and_eq_true] at hs
  cases h with | cons h hs'=>exact .cons (h.scal f (fun b hb=>hr b (by simp [refss,hb])) hs.1) (ih hs' (fun b hb=>hr b (by simp [refss,hb])) hs.2)
theorem RV.scalX {a:AV} {v:Value} (h:RV ρ w F a v):∀ (f:Nat→Nat),(∀ b∈refs a,∀ r,ρ b=some r→∃ r1,ρ' (f b)=some r1∧r1.v=r.v)→scalAV a=true→RV ρ' w F' (AM.ren f a) v:=by
 refine RV.rec (motive_1:=fun a v _=>∀ (f:Nat→Nat),(∀ b∈refs a,∀ r,ρ b=some r→∃ r1,ρ' (f b)=some r1∧r1.v=r.v)→scalAV a=true→RV ρ' w F' (AM.ren f a) v)
  (motive_2:=fun as vs _=>∀ (f:Nat→Nat),(∀ b∈refss as,∀ r,ρ b=some r→∃ r1,ρ' (f b)=some r1∧r1.v=r.v)→scalAVs as=true→RVs ρ' w F' (AM.rens f as) vs) ?_ ?_ ?_ ?_ ?_ ?_ ?_ ?_ ?_ ?_ ?_ ?_ ?_ h
 ·intro v f _ _;exact .top v
 ·intro f _ _;exact .nilp
 ·intro x v fp h hf f _ hs
  refine .t h fun g hg=>?_
  cases h <;> first | (simp [scalAV,scalar] at hs;done) | cases hg
 ·intro cs c _ h1 ih f hr hs;exact .agg (ih f (by simpa [refs] using hr) hs) h1
 ·intro cs c _ ih f hr hs;exact .tup (ih f (by simpa [refs] using hr) hs)
 ·intro b off g r hr hv f hf _
  obtain ⟨r1,q1,q2⟩:=hf b (by simp [refs]) r hr
  exact .ptr q1 (q2.trans hv)
 ·intro b i sz off g n cap r hr hv f hf _
  obtain ⟨r1,q1,q2⟩:=hf b (by simp [refs]) r hr
  exact .eptr q1 (q2.trans hv)
 ·intro cs off g o c e fz fp hg hFg hc hfp f _ hs;simp [scalAV] at hs
 ·intro b r hr h1 f hf _
  obtain ⟨r1,q1,q2⟩:=hf b (by simp [refs]) r hr
  rw [← q2]
  exact .own q1 (by rw [q2];exact h1)
 ·intro b n g r hr hv f hf _
  obtain ⟨r1,q1,q2⟩:=hf b (by simp [refs]) r hr
  exact .bsl q1 (q2.trans hv)
 ·intro g cs c _ ih f hr hs;exact .fn (ih f (by simpa [refs] using hr) hs)
 ·intro f _ _;exact .nil
 ·intro a v as vs _ _ ih1 ih2 f hr hs
  simp only [scalAVs,Bool.and_eq_true] at hs
  exact .cons (ih1 f (fun b hb=>hr b (by simp [refss,hb])) hs.1) (ih2 f (fun b hb=>hr b (by simp [refss,hb])) hs.2)
theorem RVs.scalX {as:List AV} {vs:List Value} (h:RVs ρ w F as vs) (f:Nat→Nat) (hr:∀ b∈refss as,∀ r,ρ b=some r→∃ r1,ρ' (f b)=some r1∧r1.v=r.v) (hs:scalAVs as=true):RVs ρ' w F' (rens f as) vs:=by
 induction as generalizing vs with
 | nil=>cases h;exact .nil
 | cons a as ih =>
  simp only [scalAVs,Bool.and_eq_true] at hs
  cases h with | cons h hs'=>exact .cons (h.scalX f (fun b hb=>hr b (by simp [refss,hb])) hs.1) (ih hs' (fun b hb=>hr b (by simp [refss,hb])) hs.2)
theorem reach_nodup (n:Nat):∀ (todo acc:List Nat),acc.Nodup→(reach h n todo acc).Nodup:=by
 induction n with
 | zero=>intro todo acc ha;cases todo <;> simpa [reach] using ha
 | succ n ih =>
  intro todo acc ha
  cases todo with
  | nil=>simpa [reach] using ha
  | cons b todo =>
   simp only [reach]
   split
   ·exact ih _ _ ha
   ·rename_i hb
    refine ih _ _ ?_
    rw [List.nodup_append]
    refine ⟨ha,by simp,?_⟩
    intro x hx y hy hxy
    simp at hy
    subst hy
    subst hxy
    simp at hb
    exact hb hx
theorem idx_get {b:Nat} {ids:List Nat} (hb:b∈ids) (k:Nat):∃ i,idx b ids k=k+i∧ids[i]?=some b:=by
 induction ids generalizing k with
 | nil=>cases hb
 | cons c ids ih =>
  simp only [idx]
  split
  ·rename_i hc;subst hc;exact ⟨0,rfl,rfl⟩
  ·rename_i hc
   cases hb with
   | head=>exact absurd rfl hc
   | tail _ hb =>
    obtain ⟨i,h1,h2⟩:=ih hb (k+1)
    exact ⟨i+1,by rw [h1];omega,by simpa using h2⟩
def renM (ρ:Map) (ids:List Nat):Map:=fun i=>match ids[i]? with
 | some b=>ρ b
 | none=>none
theorem renM_idx {ids:List Nat} {b:Nat} (hb:b∈ids):renM ρ ids (idx b ids 0)=ρ b:=by
 obtain ⟨i,h1,h2⟩:=idx_get hb 0
 simp [renM,h1,h2]
theorem gt_ren {ids:List Nat} {f:Nat→Nat} (i:Nat):gt (ids.map fun b=>renB f (gt h b)) i=match ids[i]? with | some b=>renB f (gt h b) | none=>.dead:=by
 unfold gt
 rw [List.getElem?_map]
 cases ids[i]? <;> rfl
theorem isFresh_ren {f:Nat→Nat} {x:Blk}:isFresh (renB f x)=isFresh x:=by cases x <;> rfl
theorem free_renN {N':Par} {ids:List Nat} {f:Nat→Nat} {g:Nat} (hg:Free N ρ h g) (hn:N'.a g):Free N' (renM ρ ids) (ids.map fun b=>renB f (gt h b)) g:=by
 refine ⟨hn,?_⟩
 intro i r hr hd
 rw [gt_ren] at hd
 simp only [renM] at hr
 cases hi:ids[i]? with
 | none=>simp [hi] at hr
 | some b =>
  simp only [hi] at hr hd
  exact hg.2 b r hr fun hc=>hd (by rw [hc];rfl)
theorem free_ren {ids:List Nat} {f:Nat→Nat} {g:Nat} (hg:Free N ρ h g):Free N (renM ρ ids) (ids.map fun b=>renB f (gt h b)) g:=free_renN hg hg.1
theorem Rel.renN {N':Par} (R:Rel N base ρ h w) {ids:List Nat} (hnd:ids.Nodup) (hcl:∀ b∈ids,∀ c∈refsB (gt h b),c∈ids) (hn:∀ g,w.heap.size≤g→N'.a g∧N'.f g)
  (hO:∀ b∈ids,∀ r g,ρ b=some r→gt h b≠.dead→ownsB r g→N'.a g∧N'.f g) (hF:∀ g,Free N ρ h g→N'.a g) (hfr:∀ b∈ids,∀ r,ρ b=some r→isFresh (gt h b)=true→∀ g∈r.fp,N'.f g) :
  Rel N' base (renM ρ ids) (ids.map fun b=>renB (fun c=>idx c ids 0) (gt h b)) w:=by
 have inj_of:∀ {i j:Nat} {b:Nat},ids[i]?=some b→ids[j]?=some b→i=j:=by
  intro i j b hi hj
  obtain ⟨h1,h2⟩:=List.getElem?_eq_some_iff.1 hi
  obtain ⟨h3,h4⟩:=List.getElem?_eq_some_iff.1 hj
  rcases Nat.lt_trichotomy i j with hlt | rfl | hlt
  ·exact absurd (h2.trans h4.symm) (List.pairwise_iff_getElem.1 hnd i j h1 h3 hlt)
  ·rfl
  ·exact absurd (h4.trans h2.symm) (List.pairwise_iff_getElem.1 hnd j i h3 h1 hlt)
 refine ⟨R.hb,hn,?_,?_,?_,?_⟩
 ·intro i r g hr hd hg
  rw [gt_ren] at hd
  simp only [renM] at hr
  cases hi:ids[i]? with
  | none=>simp [hi] at hr
  | some b =>
   simp only [hi] at hr hd
   exact hO b (List.mem_of_getElem? hi) r g hr (fun hc=>hd (by rw [hc];rfl)) hg
 ·intro i hd
  rw [gt_ren] at hd ⊢
  cases hi:ids[i]? with
  | none=>simp [hi] at hd
  | some b =>
   simp only [hi] at hd ⊢
   have hb:b∈ids:=List.mem_of_getElem? hi
   obtain ⟨r,h1,h2⟩:=R.blk b fun hc=>hd (by rw [hc];rfl)
   refine ⟨r,by simp [renM,hi,h1],?_⟩
   cases hx:gt h b with
   | dead=>trivial
   | box cs =>
    rw [hx] at h2
    obtain ⟨h0,g,c,e,h3,h4,h5,h6,h7⟩:=h2
    exact ⟨h0,g,c,e,h3,h4,h5,h6.ren _ (fun c hc r hr=>by
     have hci:c∈ids:=hcl b hb c (by rw [hx];exact hc)
     rw [renM_idx hci];exact hr) fun g _ hg=>free_renN hg (hF g hg),h7⟩
   | arr e sz fr es =>
    rw [hx] at h2
    obtain ⟨h0,e',xs,he',h3,h4,h5,h6,h7,h8,h9⟩:=h2
    exact ⟨h0,e',xs,he',h3,h4,h5,h6,fun g hg=>free_renN (h7 g hg) (hF g (h7 g hg)),fun hf=>⟨(h8 hf).1,hfr b hb r h1 (by rw [hx];exact hf)⟩,h9⟩
   | det e sz es i' off c =>
    rw [hx] at h2
    obtain ⟨e',xs,rb,fa,fc,he,ho,hsz,hl,hrb,rest⟩:=h2
    exact ⟨e',xs,rb,fa,fc,he,ho,hsz,hl,by rw [renM_idx (hcl b hb c (by rw [hx];simp [refsB]))];exact hrb,rest⟩
   | xarr e sz es=>rw [hx] at h2;exact h2
 ·intro i j r r' g hr hr' hd hd' hg hg'
  rw [gt_ren] at hd hd'
  simp only [renM] at hr hr'
  cases hi:ids[i]? with
  | none=>simp [hi] at hr
  | some b =>
   cases hj:ids[j]? with
   | none=>simp [hj] at hr'
   | some c =>
    simp only [hi] at hr hd
    simp only [hj] at hr' hd'
    have:=R.inj b c r r' g hr hr' (fun hc=>hd (by rw [hc];rfl)) (fun hc=>hd' (by rw [hc];rfl)) hg hg'
    subst this
    exact inj_of hi hj
 ·intro i j r r' g hr hr' hf hf' hg hg'
  rw [gt_ren] at hf hf'
  simp only [renM] at hr hr'
  cases hi:ids[i]? with
  | none=>simp [hi] at hr
  | some b =>
   cases hj:ids[j]? with
   | none=>simp [hj] at hr'
   | some c =>
    simp only [hi,isFresh_ren] at hr hf
    simp only [hj,isFresh_ren] at hr' hf'
    have:=R.apart b c r r' g hr hr' hf hf' hg hg'
    subst this
    exact inj_of hi hj
theorem Rel.fresh (R:Rel N base ρ h w) {b:Nat} {r:Root} (hr:ρ b=some r) (hf:isFresh (gt h b)=true):∀ g∈r.fp,N.f g∧Free N ρ h g∧g<w.heap.size:=by
 obtain ⟨r',h1,h2⟩:=R.blk b (fresh_live hf)
 rw [hr] at h1
 cases h1
 cases hx:gt h b with
 | dead=>rw [hx] at hf;cases hf
 | box cs=>rw [hx] at hf;cases hf
 | arr e sz fr es =>
  rw [hx] at h2 hf
  obtain ⟨_,_,xs,_,_,_,_,h6,h7,h8,_⟩:=h2
  exact fun g hg=>⟨(h8 hf).2 g hg,h7 g hg,h6.lt g hg⟩
 | xarr e sz es=>rw [hx] at hf;cases hf
 | det e sz es i off c=>rw [hx] at hf;cases hf
theorem Rel.ren (R:Rel N base ρ h w) {ids:List Nat} (hnd:ids.Nodup) (hcl:∀ b∈ids,∀ c∈refsB (gt h b),c∈ids) :
  Rel N base (renM ρ ids) (ids.map fun b=>renB (fun c=>idx c ids 0) (gt h b)) w :=
 R.renN hnd hcl R.hN (fun _ _ _ _=>R.hO _ _ _) (fun _ hg=>hg.1) (fun _ _ _ hr hf g hg=>(R.fresh hr hf g hg).1)
theorem renM_none {ids:List Nat} {i:Nat} (hi:ids.length≤i):renM ρ ids i=none:=by
 simp [renM,List.getElem?_eq_none hi]
theorem lk_ren (f:Nat→Nat) (e:Env) (s:Nat):lk s (renE f e)=ren f (lk s e):=by
 induction e with
 | nil=>rfl
 | cons p e ih =>
  obtain ⟨k,v⟩:=p
  simp only [renE,List.map_cons,lk] at ih ⊢
  split
  ·rfl
  ·exact ih
theorem refs_lk (e:Env) (s:Nat):∀ b∈refs (lk s e),b∈refsE e:=by
 induction e with
 | nil=>intro b hb;simp [lk,refs] at hb
 | cons p e ih =>
  obtain ⟨k,v⟩:=p
  intro b hb
  simp only [refsE,List.flatMap_cons,List.mem_append] at ih ⊢
  simp only [lk] at hb
  split at hb
  ·exact .inl hb
  ·exact .inr (ih b hb)
theorem RelEnv.ren {e:Env} {tmps:Array Value} (hE:RelEnv ρ w F e tmps) (f:Nat→Nat) (hr:∀ b∈refsE e,∀ r,ρ b=some r→ρ' (f b)=some r) (hF:∀ g,g<w.heap.size→F g→F' g):RelEnv ρ' w F' (renE f e) tmps:=by
 intro s
 rw [lk_ren]
 exact (hE s).ren f (fun b hb=>hr b (refs_lk e s b hb)) hF
theorem lk_rst (keep:List Nat) (e:Env) (s:Nat):lk s (rst keep e)=if s∈keep then lk s e else .top:=by
 induction keep with
 | nil=>rfl
 | cons k keep ih =>
  simp only [rst,List.map_cons,lk] at ih ⊢
  rw [ih]
  by_cases hk:k=s
  ·simp [hk]
  ·simp [hk,Ne.symm hk]
theorem RelEnv.rst {e:Env} {tmps:Array Value} (hE:RelEnv ρ w F e tmps) (keep:List Nat):RelEnv ρ w F (rst keep e) tmps:=by
 intro s
 rw [lk_rst]
 split
 ·exact hE s
 ·exact .top _
theorem lk_scrub (e:Env) (s:Nat):lk s (scrubE h e)=scrub h (lk s e):=by
 induction e with
 | nil=>rfl
 | cons p e ih =>
  obtain ⟨k,v⟩:=p
  simp only [scrubE,List.map_cons,lk] at ih ⊢
  split
  ·rfl
  ·exact ih
theorem RV.scrub {a:AV} {v:Value} (hv:RV ρ w F a v):RV ρ w F (scrub h a) v:=by
 unfold AM.scrub
 split
 ·split
  ·exact .top _
  ·exact hv
 ·exact hv
theorem RelEnv.scrub {e:Env} {tmps:Array Value} (hE:RelEnv ρ w F e tmps):RelEnv ρ w F (scrubE h e) tmps:=by
 intro s
 rw [lk_scrub]
 exact (hE s).scrub
theorem closedB_spec {ids rs:List Nat} (hc:closedB h ids rs=true):(∀ b∈rs,b∈ids)∧∀ b∈ids,∀ c∈refsB (gt h b),c∈ids:=by
 simp only [closedB,Bool.and_eq_true,List.all_eq_true,List.contains_iff_mem] at hc
 exact hc
end
end Go.AM
/- part: AMJoin -/
namespace Go.AM
open Go.RowKit (Below)
section
variable {N:Par} {A:Nat→Prop} {base:Nat} {ρ ρc:Map} {h hr:List Blk} {w w':World}
def joinM (ρ ρc:Map) (n len:Nat):Map:=fun b=>if n≤b∧b<n+len then ρc (b - n) else ρ b
theorem gt_newU (n:Nat):∀ (bs:List Blk) (i:Nat) (h:List Blk) (b:Nat),gt (upd h (newU n bs i)) b=if n+i≤b∧b<n+i+bs.length then renB (fun c=>c+n) (gt bs (b - (n+i))) else gt h b
 | [],i,h,b=>by simp [newU,upd];intro h1 h2;omega
 | x::bs,i,h,b=>by
  simp only [newU,upd]
  rw [gt_newU n bs (i+1),gt_stB]
  by_cases h1:b=n+i
  ·subst h1
   rw [if_neg (by omega),if_pos rfl,if_pos (by simp)]
   simp [gt]
  ·by_cases h2:n+(i+1)≤b∧b<n+(i+1)+bs.length
   ·have h3:n+i≤b∧b<n+i+(x::bs).length:=by simp;omega
    rw [if_pos h2,if_pos h3]
    have:b - (n+i)=(b - (n+(i+1)))+1:=by omega
    rw [this]
    simp [gt]
   ·have h3:¬ (n+i≤b∧b<n+i+(x::bs).length):=by simp;omega
    rw [if_neg h2,if_neg h3,if_neg h1]
theorem newU_keys (n:Nat):∀ (bs:List Blk) (i b:Nat),b∈(newU n bs i).map Prod.fst↔n+i≤b∧b<n+i+bs.length
 | [],i,b=>by simp [newU]
 | x::bs,i,b=>by
  simp only [newU,List.map_cons,List.mem_cons,newU_keys n bs (i+1),List.length_cons]
  omega
theorem frB_arr {e sz:Nat} {fr:Bool} {es:List (List T)} {b:Nat} (hf:hr.all frB=true) (hb:gt hr b=.arr e sz fr es):fr=true:=by
 unfold gt at hb
 cases hx:hr[b]? with
 | none=>simp [hx] at hb
 | some x =>
  simp [hx] at hb
  subst hb
  have:=List.all_eq_true.1 hf _ (List.mem_of_getElem? hx)
  exact this
theorem frB_box {cs:List AV} {b:Nat} (hf:hr.all frB=true) (hb:gt hr b=.box cs):scalAVs cs=true:=by
 unfold gt at hb
 cases hx:hr[b]? with
 | none=>simp [hx] at hb
 | some x =>
  simp [hx] at hb
  subst hb
  exact List.all_eq_true.1 hf _ (List.mem_of_getElem? hx)
def calP (w:World) (A:Nat→Prop):Par:=⟨fun g=>w.heap.size≤g∨A g,fun g=>w.heap.size≤g,fun _=>False⟩
structure JoinH (N:Par) (A:Nat→Prop) (base:Nat) (ρ:Map) (h:List Blk) (w:World) (ρc:Map) (hr:List Blk) (w':World) (n:Nat):Prop where
 R:Rel N base ρ h w
 B:Below w.heap.size w w'
 Rc:Rel (calP w A) w.heap.size ρc hr w'
 new:∀ b,n≤b→b<n+hr.length→ρ b=none
 dom:∀ b,hr.length≤b→ρc b=none
 share:(∀ g,A g→Free N ρ h g)∨hr.all frB=true
theorem JoinH.free_new {n:Nat} (J:JoinH N A base ρ h w ρc hr w' n) {g:Nat} (hg:Free (calP w A) ρc hr g) (hs:w.heap.size≤g∨∀ g,A g→Free N ρ h g) :
  Free N (joinM ρ ρc n hr.length) (upd h (newU n hr 0)) g:=by
 have hor:w.heap.size≤g∨Free N ρ h g:=by
  rcases hs with hs | hs
  ·exact .inl hs
  ·exact hg.1.imp id (hs g)
 refine ⟨?_,?_⟩
 ·rcases hor with h1 | h1
  ·exact (J.R.hN g h1).1
  ·exact h1.1
 ·intro b r hb hd he
  rw [gt_newU] at hd
  simp only [Nat.add_zero] at hd
  simp only [joinM] at hb
  by_cases hc:n≤b∧b<n+hr.length
  ·rw [if_pos hc] at hb hd
   exact hg.2 (b - n) r hb (fun hx=>hd (by rw [hx];rfl)) he
  ·rw [if_neg hc] at hb hd
   have:=J.R.lt hb hd he
   rcases hor with h1 | h1
   ·omega
   ·exact h1.2 b r hb hd he
theorem JoinH.keeps {n:Nat} (J:JoinH N A base ρ h w ρc hr w' n):Keeps ρ w (Free N ρ h) (joinM ρ ρc n hr.length) w' (Free N (joinM ρ ρc n hr.length) (upd h (newU n hr 0))):=by
 constructor
 ·intro b r hb
  refine ⟨r,?_,rfl⟩
  simp only [joinM]
  rw [if_neg fun hc=>by rw [J.new b hc.1 hc.2] at hb;cases hb]
  exact hb
 ·intro g hlt hf
  refine ⟨⟨hf.1,?_⟩,J.B.block g hlt⟩
  intro b r hb hd he
  rw [gt_newU] at hd
  simp only [Nat.add_zero] at hd
  simp only [joinM] at hb
  by_cases hc:n≤b∧b<n+hr.length
  ·rw [if_pos hc] at hb hd
   have:=J.Rc.lt hb (fun hx=>hd (by rw [hx];rfl)) he
   omega
  ·rw [if_neg hc] at hb hd
   exact hf.2 b r hb hd he
theorem JoinH.root {n:Nat} (J:JoinH N A base ρ h w ρc hr w' n) {b:Nat} {r:Root} (hb:ρc b=some r):joinM ρ ρc n hr.length (b+n)=some r:=by
 have hlt:b<hr.length:=by
  rcases Nat.lt_or_ge b hr.length with h1 | h1
  ·exact h1
  ·rw [J.dom b h1] at hb;cases hb
 simp only [joinM]
 rw [if_pos (by omega),Nat.add_sub_cancel]
 exact hb
theorem JoinH.rel {n:Nat} (J:JoinH N A base ρ h w ρc hr w' n):Rel N base (joinM ρ ρc n hr.length) (upd h (newU n hr 0)) w':=by
 have hk:=J.keeps
 have hsplit:∀ b r,joinM ρ ρc n hr.length b=some r→gt (upd h (newU n hr 0)) b≠.dead →
   (ρ b=some r∧gt h b≠.dead∧gt (upd h (newU n hr 0)) b=gt h b)∨(n≤b∧ρc (b - n)=some r∧gt hr (b - n)≠.dead∧gt (upd h (newU n hr 0)) b=renB (fun c=>c+n) (gt hr (b - n))):=by
  intro b r hb hd
  rw [gt_newU] at hd ⊢
  simp only [Nat.add_zero] at hd ⊢
  simp only [joinM] at hb
  by_cases hc:n≤b∧b<n+hr.length
  ·rw [if_pos hc] at hb hd ⊢
   exact .inr ⟨hc.1,hb,fun hx=>hd (by rw [hx];rfl),rfl⟩
  ·rw [if_neg hc] at hb hd ⊢
   exact .inl ⟨hb,hd,rfl⟩
 refine ⟨Nat.le_trans J.R.hb J.B.size,fun g hl=>J.R.hN g (Nat.le_trans J.B.size hl),?_,?_,?_,?_⟩
 ·intro b r g hb hd hg
  rcases hsplit b r hb hd with ⟨h1,h2,_⟩ | ⟨h0,h1,h2,_⟩
  ·exact J.R.hO b r g h1 h2 hg
  ·exact J.R.hN g (J.Rc.lt h1 h2 hg).1
 ·intro b hd
  have hd':=hd
  rw [gt_newU] at hd
  simp only [Nat.add_zero] at hd
  by_cases hc:n≤b∧b<n+hr.length
  ·rw [if_pos hc] at hd
   obtain ⟨r,h1,h2⟩:=J.Rc.blk (b - n) fun hx=>hd (by rw [hx];rfl)
   refine ⟨r,by simp only [joinM];rw [if_pos hc];exact h1,?_⟩
   rw [gt_newU]
   simp only [Nat.add_zero]
   rw [if_pos hc]
   cases hx:gt hr (b - n) with
   | dead=>trivial
   | box cs =>
    rw [hx] at h2
    obtain ⟨h0,g,c,e,h3,h4,h5,h6,h7⟩:=h2
    refine ⟨h0,g,c,e,h3,Nat.le_trans J.R.hb h4,h5,?_,h7⟩
    rcases J.share with hs | hs
    ·exact h6.ren _ (fun c _ r hr'=>J.root hr') fun g _ hg=>J.free_new hg (.inr hs)
    ·exact h6.scal _ (fun c _ r hr'=>J.root hr') (frB_box hs hx)
   | arr e sz fr es =>
    rw [hx] at h2
    obtain ⟨h0,e',xs,he',h3,h4,h5,h6,h7,h8,h9⟩:=h2
    refine ⟨h0,e',xs,he',ownsRow_mono J.R.hb h3,h4,h5,h6,fun g hg=>?_,fun hf=>⟨(h8 hf).1,fun g hg=>(J.R.hN g ((h8 hf).2 g hg)).2⟩,fun hf=>(h9 hf).mono J.R.hb⟩
    rcases J.share with hs | hs
    ·exact J.free_new (h7 g hg) (.inr hs)
    ·exact J.free_new (h7 g hg) (.inl ((h8 (frB_arr hs hx)).2 g hg))
   | det e sz es i off c =>
    rw [hx] at h2
    obtain ⟨e',xs,rb,fa,fc,he,ho,hsz,hl,hrb,hcell,q1,q2,hex,hA,hC,oA,oC,rest⟩:=h2
    exact ⟨e',xs,rb,fa,fc,he,ownsRow_mono J.R.hb ho,hsz,hl,J.root hrb,hcell,q1,q2,hex,hA,hC,oA.mono J.R.hb,oC.mono J.R.hb,rest⟩
   | xarr e sz es =>
    rw [hx] at h2
    obtain ⟨e',xs,he',h3,h4,h5,h6,h7,rest⟩:=h2
    exact ⟨e',xs,he',ownsRow_mono J.R.hb h3,h4,h5,h6,h7.mono J.R.hb,rest⟩
  ·rw [if_neg hc] at hd
   obtain ⟨r,h1,h2⟩:=J.R.blk b hd
   refine ⟨r,by simp only [joinM];rw [if_neg hc];exact h1,?_⟩
   rw [gt_newU]
   simp only [Nat.add_zero]
   rw [if_neg hc]
   exact h2.keep hk fun g hg=>J.B.block g (h2.lt hd hg).2
 ·intro b b' r r' g hb hb' hd hd' hg hg'
  rcases hsplit b r hb hd with ⟨h1,h2,_⟩ | ⟨h0,h1,h2,_⟩ <;> rcases hsplit b' r' hb' hd' with ⟨h3,h4,_⟩ | ⟨h0',h3,h4,_⟩
  ·exact J.R.inj b b' r r' g h1 h3 h2 h4 hg hg'
  ·have q1:=(J.R.lt h1 h2 hg).2;have q2:=(J.Rc.lt h3 h4 hg').1;omega
  ·have q1:=(J.R.lt h3 h4 hg').2;have q2:=(J.Rc.lt h1 h2 hg).1;omega
  ·have:=J.Rc.inj (b - n) (b' - n) r r' g h1 h3 h2 h4 hg hg';omega
 ·intro b b' r r' g hb hb' hf hf' hg hg'
  have lt_of:∀ b r,ρ b=some r→isFresh (gt h b)=true→∀ g∈r.fp,g<w.heap.size:=by
   intro b r hb hf g hg
   obtain ⟨r2,h1,h2⟩:=J.R.blk b (fresh_live hf)
   rw [hb] at h1
   cases h1
   cases hx:gt h b with
   | dead=>rw [hx] at hf;cases hf
   | box cs=>rw [hx] at hf;cases hf
   | arr e sz fr es=>rw [hx] at h2;obtain ⟨_,_,xs,_,_,_,_,h6,_⟩:=h2;exact h6.lt g hg
   | xarr e sz es=>rw [hx] at hf;cases hf
   | det e sz es i off c=>rw [hx] at hf;cases hf
  have ge_of:∀ b r,ρc b=some r→isFresh (gt hr b)=true→∀ g∈r.fp,w.heap.size≤g:=by
   intro b r hb hf g hg
   obtain ⟨r2,h1,h2⟩:=J.Rc.blk b (fresh_live hf)
   rw [hb] at h1
   cases h1
   cases hx:gt hr b with
   | dead=>rw [hx] at hf;cases hf
   | box cs=>rw [hx] at hf;cases hf
   | arr e sz fr es =>
    rw [hx] at h2 hf
    obtain ⟨_,_,xs,_,_,_,_,_,_,h8,_⟩:=h2
    exact (h8 hf).2 g hg
   | xarr e sz es=>rw [hx] at hf;cases hf
   | det e sz es i off c=>rw [hx] at hf;cases hf
  rcases hsplit b r hb (fresh_live hf) with ⟨h1,h2,e1⟩ | ⟨h0,h1,h2,e1⟩ <;> rcases hsplit b' r' hb' (fresh_live hf') with ⟨h3,h4,e2⟩ | ⟨h0',h3,h4,e2⟩
  ·rw [e1] at hf;rw [e2] at hf';exact J.R.apart b b' r r' g h1 h3 hf hf' hg hg'
  ·rw [e1] at hf;rw [e2,isFresh_ren] at hf'
   have q1:=lt_of b r h1 hf g hg;have q2:=ge_of _ r' h3 hf' g hg';omega
  ·rw [e1,isFresh_ren] at hf;rw [e2] at hf'
   have q1:=lt_of b' r' h3 hf' g hg';have q2:=ge_of _ r h1 hf g hg;omega
  ·rw [e1,isFresh_ren] at hf;rw [e2,isFresh_ren] at hf'
   have:=J.Rc.apart (b - n) (b' - n) r r' g h1 h3 hf hf' hg hg';omega
theorem JoinH.val {n:Nat} (J:JoinH N A base ρ h w ρc hr w' n) {r:AV} {v:Value} (hv:RV ρc w' (Free (calP w A) ρc hr) r v) (hs:(∀ g,A g→Free N ρ h g)∨scalAV r=true) :
  RV (joinM ρ ρc n hr.length) w' (Free N (joinM ρ ρc n hr.length) (upd h (newU n hr 0))) (shift n r) v:=by
 rcases hs with hs | hs
 ·exact hv.ren _ (fun b _ r hr'=>J.root hr') fun g _ hg=>J.free_new hg (.inr hs)
 ·exact hv.scal _ (fun b _ r hr'=>J.root hr') hs
end
end Go.AM
/- part: AMSound -/
namespace Go.AM
open Go.RowKit (Below)
abbrev noMap:Map:=fun _=>none
def Sound (P:Program):Ctr:=fun f args h0 r h1=>callable P f=true∧∀ (N:Par) (base:Nat) (w:World) (ρ:Map) (vs:Array Value),Rel N base ρ h0 w→(∀ b,h0.length≤b→ρ b=none) →
 RVs ρ w (Free N ρ h0) args vs.toList→(∀ g,N.z g→Free N ρ h0 g) →
 Calls P f vs w fun e w'=>∃ v ρ',e=.returned v∧Below base w w'∧Rel N base ρ' h1 w'∧RV ρ' w' (Free N ρ' h1) r v∧(∀ b,h1.length≤b→ρ' b=none)∧h0.length≤h1.length ∧
  (∀ g,g<w.heap.size→¬ N.a g→w'.heap[g]?=w.heap[g]?)∧(∀ g,g<w.heap.size→N.z g→Free N ρ' h1 g∧w'.heap[g]?=w.heap[g]?) ∧
  ∀ b r0,b<h0.length→ρ b=some r0→∃ r1,ρ' b=some r1∧r1.v=r0.v
theorem Rel.empty {N:Par} {base:Nat} {w:World} (hb:base≤w.heap.size) (hN:∀ g,w.heap.size≤g→N.a g∧N.f g):Rel N base noMap [] w :=
 ⟨hb,hN,fun b r g hr=>(by cases hr),fun b hb=>absurd (by simp [gt]) hb,fun b b' r r' g hb=>(by cases hb),fun b b' r r' g hb=>(by cases hb)⟩
theorem Sound.data {P:Program} {f:Nat} {args:List AV} {r:AV} {hr:List Blk} (h:Sound P f args [] r hr) (w:World) (A:Nat→Prop) (vs:Array Value) (hv:RVs noMap w A args vs.toList) :
  Calls P f vs w fun e w'=>∃ v ρ,e=.returned v∧Below w.heap.size w w'∧Rel (calP w A) w.heap.size ρ hr w'∧RV ρ w' (Free (calP w A) ρ hr) r v∧∀ b,hr.length≤b→ρ b=none:=by
 have hk:Keeps noMap w A noMap w (Free (calP w A) noMap []):=⟨fun b r hb=>(by cases hb),fun g _ hg=>⟨⟨.inr hg,fun b r hb=>(by cases hb)⟩,rfl⟩⟩
 refine (h.2 (calP w A) w.heap.size w noMap vs (.empty (Nat.le_refl _) fun g hg=>⟨.inl hg,hg⟩) (fun _ _=>rfl) (hv.keep hk) (fun g hg=>hg.elim)).mono ?_
 rintro e w' ⟨v,ρ,rfl,h1,h2,h3,h4,_⟩
 exact ⟨v,ρ,rfl,h1,h2,h3,h4⟩
section
variable {P:Program} {N:Par} {base:Nat} {ρ:Map} {h:List Blk} {w:World} {e:Env} {a:Act} {inl:List Nat} {ops:Array Oper}
theorem frzT_rel {F:Nat→Prop} (R:Rel N base ρ h w) {v:AV} {x:T} {val:Value} (hf:frzT h v=some x) (hv:RV ρ w (Free N ρ h) v val) (hF:(refs v=[]∧∀ g,Free N ρ h g→F g)∨∀ g,F g):∃ fp,TR w x val fp∧∀ g∈fp,F g:=by
 cases v <;> try (simp [frzT] at hf;done)
 ·simp [frzT] at hf
  subst hf
  cases hv with
  | t hT hf=>exact ⟨_,hT,fun g hg=>hF.elim (fun h2=>h2.2 g (hf g hg)) fun h2=>h2 g⟩
 ·rename_i b
  simp only [frzT] at hf
  split at hf
  ·rename_i el sz fr es hb
   cases hf
   rcases hF with hF | hF
   ·simp [refs] at hF
   ·cases hv with
    | own hr hone =>
     obtain ⟨fp,hT,_,_⟩:=own_TR R hr hb
     exact ⟨fp,hT,fun g _=>hF g⟩
  ·rename_i el sz es hb
   cases hf
   rcases hF with hF | hF
   ·simp [refs] at hF
   ·cases hv with
    | own hr hone =>
     obtain ⟨fp,hT⟩:=xarr_TR R hr hb
     exact ⟨fp,hT,fun g _=>hF g⟩
  ·cases hf
theorem frzTs_rel {F:Nat→Prop} (R:Rel N base ρ h w):∀ {cs:List AV} {ts:List T} {vs:List Value},frzTs h cs=some ts→RVs ρ w (Free N ρ h) cs vs→((refss cs=[]∧∀ g,Free N ρ h g→F g)∨∀ g,F g)→∃ fp,TRs w ts vs fp∧∀ g∈fp,F g
 | [],ts,vs,hg,hv,_=>by simp [frzTs] at hg;subst hg;cases hv;exact ⟨[],.nil,fun g hg=>by cases hg⟩
 | c::cs,ts,vs,hg,hv,hF=>by
  cases hv with
  | cons h1 h2 =>
   simp only [frzTs] at hg
   split at hg
   ·rename_i x xs hx hxs
    cases hg
    obtain ⟨fp,h3,h4⟩:=frzT_rel R hx h1 (hF.imp (fun ⟨q1,q2⟩=>⟨by simp [refss] at q1;exact q1.1,q2⟩) id)
    obtain ⟨fq,h5,h6⟩:=frzTs_rel R hxs h2 (hF.imp (fun ⟨q1,q2⟩=>⟨by simp [refss] at q1;exact q1.2,q2⟩) id)
    exact ⟨fp++fq,.cons h3 h5,fun g hg=>(List.mem_append.1 hg).elim (h4 g) (h6 g)⟩
   ·cases hg
theorem frz1_rel {F:Nat→Prop} (R:Rel N base ρ h w) {v d:AV} {val:Value} (hf:frz1 h v=some d) (hv:RV ρ w (Free N ρ h) v val) (hF:(refs v=[]∧∀ g,Free N ρ h g→F g)∨∀ g,F g):RV noMap w F d val:=by
 cases v <;> try (simp [frz1] at hf;done)
 ·simp [frz1] at hf
  subst hf
  cases hv
  exact .nilp
 ·simp [frz1] at hf
  subst hf
  cases hv with
  | t hT hf=>exact .t hT fun g hg=>hF.elim (fun h2=>h2.2 g (hf g hg)) fun h2=>h2 g
 ·rename_i cs
  simp only [frz1] at hf
  split at hf
  ·rename_i ds hds
   cases hf
   cases hv with
   | agg hc h1 =>
    obtain ⟨fp,h3,h4⟩:=frzTs_rel R hds hc (hF.imp (fun ⟨q1,q2⟩=>⟨by simpa [refs] using q1,q2⟩) id)
    exact .agg (RVs.of_TRs h3 h4) h1
  ·cases hf
 ·rename_i b off
  simp only [frz1] at hf
  split at hf
  ·rename_i cs hb
   split at hf
   ·rename_i ts hts
    cases hf
    rcases hF with hF | hF
    ·simp [refs] at hF
    ·cases hv with
     | ptr hr hv =>
      obtain ⟨r',h1,h2⟩:=R.blk b (by rw [hb];intro hc;cases hc)
      rw [hr] at h1
      cases h1
      rw [hb] at h2
      obtain ⟨hx0,g',c,te,hv2,_,hh,hcs,hone⟩:=h2
      rw [hv] at hv2
      cases hv2
      obtain ⟨fp,h3,h4⟩:=frzTs_rel R hts hcs (.inr hF)
      have hl:ts.length=c.toList.length:=h3.length
      have:=RV.iptr (ρ:=noMap) (F:=F) (o:=0) (off:=off) hh (hF _) (by rw [List.drop_zero,hl,List.take_length];exact h3) (fun g _=>hF g)
      simpa using this
   ·cases hf
  ·cases hf
 ·simp [frz1] at hf
  subst hf
  cases hv with
  | iptr hg hF' hc hf=>exact .iptr hg (hF.elim (fun h2=>h2.2 _ hF') fun h2=>h2 _) hc fun g hg=>hF.elim (fun h2=>h2.2 g (hf g hg)) fun h2=>h2 g
 ·rename_i b
  simp only [frz1] at hf
  split at hf
  ·rename_i el sz fr es hb
   cases hf
   rcases hF with hF | hF
   ·simp [refs] at hF
   ·cases hv with
    | own hr hone =>
     obtain ⟨fp,hT,_,_⟩:=own_TR R hr hb
     exact .t hT fun g _=>hF g
  ·rename_i el sz es hb
   cases hf
   rcases hF with hF | hF
   ·simp [refs] at hF
   ·cases hv with
    | own hr hone =>
     obtain ⟨fp,hT⟩:=xarr_TR R hr hb
     exact .t hT fun g _=>hF g
  ·cases hf
theorem frz1s_rel {F:Nat→Prop} (R:Rel N base ρ h w):∀ {vs ds:List AV} {vals:List Value},frz1s h vs=some ds→RVs ρ w (Free N ρ h) vs vals→((refss vs=[]∧∀ g,Free N ρ h g→F g)∨∀ g,F g)→RVs noMap w F ds vals
 | [],ds,vals,hf,hv,_=>by simp [frz1s] at hf;subst hf;cases hv;exact .nil
 | v::vs,ds,vals,hf,hv,hF=>by
  cases hv with
  | cons h1 h2 =>
   simp only [frz1s] at hf
   split at hf
   ·rename_i x xs hx hxs
    cases hf
    exact .cons (frz1_rel R hx h1 (hF.imp (fun ⟨q1,q2⟩=>⟨by simp [refss] at q1;exact q1.1,q2⟩) id)) (frz1s_rel R hxs h2 (hF.imp (fun ⟨q1,q2⟩=>⟨by simp [refss] at q1;exact q1.2,q2⟩) id))
   ·cases hf
theorem frz_rel {F:Nat→Prop} (R:Rel N base ρ h w) {v d:AV} {val:Value} (hf:frz h v=some d) (hv:RV ρ w (Free N ρ h) v val) (hF:(refs v=[]∧∀ g,Free N ρ h g→F g)∨∀ g,F g):RV noMap w F d val:=by
 by_cases hx:∃ g cs,v=.fn g cs
 ·obtain ⟨g,cs,rfl⟩:=hx
  simp only [frz] at hf
  split at hf
  ·rename_i ds hds
   cases hf
   cases hv with
   | fn hc=>exact .fn (frz1s_rel R hds hc (hF.imp (fun ⟨q1,q2⟩=>⟨by simpa [refs] using q1,q2⟩) id))
  ·cases hf
 ·have:frz h v=frz1 h v:=by
   cases v <;> first | rfl | exact absurd ⟨_,_,rfl⟩ hx
  rw [this] at hf
  exact frz1_rel R hf hv hF
theorem frzs_rel {F:Nat→Prop} (R:Rel N base ρ h w) {vs ds:List AV} {vals:List Value} (hf:frzs h vs=some ds) (hv:RVs ρ w (Free N ρ h) vs vals) (hF:(refss vs=[]∧∀ g,Free N ρ h g→F g)∨∀ g,F g):RVs noMap w F ds vals:=by
 induction vs generalizing ds vals with
 | nil=>simp [frzs] at hf;subst hf;cases hv;exact .nil
 | cons v vs ih =>
  cases hv with
  | cons h1 h2 =>
   simp only [frzs] at hf
   split at hf
   ·rename_i x xs hx hxs
    cases hf
    exact .cons (frz_rel R hx h1 (hF.imp (fun ⟨q1,q2⟩=>⟨by simp [refss] at q1;exact q1.1,q2⟩) id)) (ih hxs h2 (hF.imp (fun ⟨q1,q2⟩=>⟨by simp [refss] at q1;exact q1.2,q2⟩) id))
   ·cases hf
theorem run_callFunc {f:Nat} (hc:callable P f=true) (args:Array Value) (w:World):(callFunc f args).run P w=.ok (.enter f args) w:=by
 unfold callable at hc
 split at hc
 ·rename_i fn hfn
  simp only [Bool.and_eq_true,bne_iff_ne,ne_eq] at hc
  cases hb:fn.body with
  | none=>simp [hb] at hc
  | some c=>simp [callFunc,hfn,hc.2,hb]
 ·cases hc
def opR (Γ:Ctr) (h:List Blk) (nx:Nat) (e:Env) (k:MOp) (v:AV) (u:List (Nat×Blk)):Prop:=match k with
 | .call f args=>∃ as,frzs h (args.map (ev e))=some as∧∃ r hr,Γ f as [] r hr∧(noOwn (args.map (ev e)) || frR r hr)=true∧v=shift nx r∧u=newU nx hr 0
 | .xcall f args=>∃ as,frzs h (args.map (ev e))=some as∧∃ r hr,Γ f as [] r hr∧frR r hr=true∧v=shift nx r∧u=newU nx (hr.map xB) 0
 | .icall f args=>mcallW Γ f (args.map (ev e)) h nx fun v' u'=>v=v'∧u=u'
 | .scall f args p=>mcallW Γ f (args.map (ev e)) h nx fun v' u'=>∃ u2,packU h u' (ev e p)=some u2∧v=v'∧u=u'++u2
 | .pcall f args=>pcallW Γ f (args.map (ev e)) h nx fun v' u'=>v=v'∧u=u'
 | .dcall f args=>∃ g caps,ev e f=.fn g caps∧mcallW Γ g (args.map (ev e)++caps) h nx fun v' u'=>v=v'∧u=u'
 | k=>evalOp h nx e k=some (v,u)
structure After (N:Par) (base:Nat) (ρ:Map) (h:List Blk) (w:World) (v:AV) (u:List (Nat×Blk)) (val:Value) (w':World) (ρ':Map):Prop where
 val:RV ρ' w' (Free N ρ' (upd h u)) v val
 rel:Rel N base ρ' (upd h u) w'
 keeps:Keeps ρ w (Free N ρ h) ρ' w' (Free N ρ' (upd h u))
 same:∀ b,b ∉ u.map Prod.fst→ρ b=none→ρ' b=none
 below:Below base w w'
 kn:∀ g,g<w.heap.size→¬ N.a g→w'.heap[g]?=w.heap[g]?
def named:MOp→Option (Nat×List Opd)
 | .call f args=>some (f,args)
 | .xcall f args=>some (f,args)
 | .icall f args=>some (f,args)
 | .scall f args _=>some (f,args)
 | .pcall f args=>some (f,args)
 | _=>none
theorem compK_call {op:Op} {k:MOp} (hk:compK P inl ops op=some k) :
  (∀ f args,named k=some (f,args)→∃ c,op=.call c∧c.callee=.value (.func f)∧mapO opd c.args.toList=some args∧callable P f=true) ∧
  (∀ x args,k=.dcall x args→∃ c y,op=.call c∧c.callee=.value y∧opd y=some x∧mapO opd c.args.toList=some args):=by
 cases op with
 | call c =>
  obtain ⟨callee,as,ts⟩:=c
  cases callee with
  | invoke r m=>simp [compK] at hk
  | builtin b =>
   have:named k=none∧(∀ x args,k≠.dcall x args):=by
    cases b <;> simp only [compK] at hk <;> (repeat' split at hk) <;> first
     | cases hk;done
     | (cases hk;exact ⟨rfl,by simp⟩)
     | (obtain ⟨_,_,rfl⟩:=Option.map_eq_some_iff.1 hk;exact ⟨rfl,by simp⟩)
   exact ⟨fun f args h=>(by rw [this.1] at h;cases h),fun x args h=>absurd h (this.2 x args)⟩
  | value y =>
   cases y with
   | func f =>
    simp only [compK] at hk
    split at hk
    ·rename_i hc
     obtain ⟨as',h1,h2⟩:=Option.map_eq_some_iff.1 hk
     have hn:named k=some (f,as')∧∀ x args,k≠.dcall x args:=by
      subst h2
      unfold callK
      repeat' split
      all_goals exact ⟨rfl,by simp⟩
     refine ⟨fun f' args hq=>?_,fun x args hq=>absurd hq (hn.2 x args)⟩
     rw [hn.1] at hq
     cases hq
     exact ⟨_,rfl,rfl,h1,hc⟩
    ·cases hk
   | tmp t =>
    simp only [compK] at hk
    split at hk
    ·rename_i x as' hx has
     cases hk
     refine ⟨by simp [named],?_⟩
     intro x' args hq
     cases hq
     exact ⟨_,_,rfl,rfl,hx,has⟩
    ·cases hk
   | const v =>
    simp only [compK] at hk
    split at hk
    ·rename_i x as' hx has
     cases hk
     refine ⟨by simp [named],?_⟩
     intro x' args hq
     cases hq
     exact ⟨_,_,rfl,rfl,hx,has⟩
    ·cases hk
   | global g =>
    simp only [compK] at hk
    split at hk
    ·rename_i x as' hx has
     simp [opd] at hx
    ·cases hk
 | makeFunc fn first caps =>
  have:named k=none∧(∀ x args,k≠.dcall x args):=by
   cases fn <;> simp only [compK] at hk <;> (repeat' split at hk) <;> first
    | (cases hk;done)
    | (cases hk;exact ⟨rfl,by simp⟩)
    | (obtain ⟨_,_,rfl⟩:=Option.map_eq_some_iff.1 hk;exact ⟨rfl,by simp⟩)
  exact ⟨fun f args h=>(by rw [this.1] at h;cases h),fun x args h=>absurd h (this.2 x args)⟩
 | slice t x lo hi mx =>
  have:named k=none∧(∀ x args,k≠.dcall x args):=by
   cases mx <;> simp only [compK] at hk <;> (repeat' split at hk) <;> first
    | (cases hk;done)
    | (cases hk;exact ⟨rfl,by simp⟩)
    | (obtain ⟨_,_,rfl⟩:=Option.map_eq_some_iff.1 hk;exact ⟨rfl,by simp⟩)
  exact ⟨fun f args h=>(by rw [this.1] at h;cases h),fun x args h=>absurd h (this.2 x args)⟩
 | _ =>
  have:named k=none∧(∀ x args,k≠.dcall x args):=by
   simp only [compK] at hk <;> (repeat' split at hk) <;> first
    | (cases hk;done)
    | (cases hk;exact ⟨rfl,by simp⟩)
    | (obtain ⟨_,_,rfl⟩:=Option.map_eq_some_iff.1 hk;exact ⟨rfl,by simp⟩)
  exact ⟨fun f args h=>(by rw [this.1] at h;cases h),fun x args h=>absurd h (this.2 x args)⟩
theorem exec_call {o:Oper} {c:Call} {f:Nat} (ho:o.op=.call c) (hc:c.callee=.value (.func f)) (hcl:callable P f=true) (w:World):(execOp a.eval o).run P w=.ok (.enter f (c.args.map a.eval)) w:=by
 unfold execOp
 rw [ho]
 simp [resolve,hc,Act.eval,Deferred.ofValue,invoke,run_callFunc hcl]
theorem contract_sound {o:Oper} (R:Rel N base ρ h w) {nx:Nat} {f:Nat} {vs as:List AV} {vals:Array Value} (hargs:RVs ρ w (Free N ρ h) vs vals.toList) {r:AV} {hr:List Blk} (hu:∀ b,b∈(newU nx hr 0).map Prod.fst→nx≤b→ρ b=none)
  (hfz:frzs h vs=some as) (hG:Sound P f as [] r hr) (hsh:(noOwn vs || frR r hr)=true) (hex:(execOp a.eval o).run P w=.ok (.enter f vals) w)
  {K:Act→World→Prop} {Q:Exit→Act→World→Prop} (hK:∀ val w' ρ',After N base ρ h w (shift nx r) (newU nx hr 0) val w' ρ'→K (a.put o.dst val) w'):o.wp P a w K Q:=by
 have hnew:∀ b,nx≤b→b<nx+hr.length→ρ b=none:=by
  intro b h1 h2
  refine hu b ?_ h1
  exact (newU_keys nx hr 0 b).2 (by omega)
 have main:∀ A:Nat→Prop,RVs noMap w A as vals.toList→((∀ g,A g→Free N ρ h g)∨frR r hr=true)→o.wp P a w K Q:=by
  intro A hA hs
  unfold Oper.wp
  rw [hex]
  show Calls P f vals w _
  refine (hG.data w A _ hA).mono ?_
  rintro e w' ⟨val,ρc,rfl,hB,hRc,hv,hdom⟩
  have J:JoinH N A base ρ h w ρc hr w' nx:=⟨R,hB,hRc,hnew,hdom,hs.imp id fun hf=>by simp only [frR,Bool.and_eq_true] at hf;exact hf.2⟩
  refine hK val w' (joinM ρ ρc nx hr.length) ⟨J.val hv (hs.imp id fun hf=>by simp only [frR,Bool.and_eq_true] at hf;exact hf.1),J.rel,J.keeps,?_,hB.mono R.hb,fun g hg _=>hB.block g hg⟩
  intro b hb hb0
  rw [newU_keys] at hb
  simp only [joinM]
  rw [if_neg (by omega)]
  exact hb0
 simp only [Bool.or_eq_true] at hsh
 rcases hsh with hsh | hsh
 ·have h0:refss vs=[]:=by simpa [noOwn] using hsh
  exact main (Free N ρ h) (frzs_rel R hfz hargs (.inl ⟨h0,fun _ h=>h⟩)) (.inl fun _ h=>h)
 ·exact main (fun _=>True) (frzs_rel R hfz hargs (.inr fun _=>trivial)) (.inr hsh)
def xR (b:Blk) (r:Root):Root:=if isFresh b=true then ⟨r.v,[],r.fp⟩ else r
def joinX (ρ ρc:Map) (n:Nat) (hr:List Blk):Map:=fun b=>if n≤b∧b<n+hr.length then (ρc (b - n)).map (xR (gt hr (b - n))) else ρ b
theorem gt_mapX (hr:List Blk) (i:Nat):gt (hr.map xB) i=xB (gt hr i):=by
 unfold gt
 rw [List.getElem?_map]
 cases hr[i]? <;> rfl
theorem renB_xB (f:Nat→Nat) (b:Blk):renB f (xB b)=xB (renB f b):=by
 cases b with
 | arr e sz fr es=>cases fr <;> rfl
 | _=>rfl
section
variable {A:Nat→Prop} {ρc:Map} {hr:List Blk} {w':World} {n:Nat}
theorem JoinH.xrel (J:JoinH N A base ρ h w ρc hr w' n) (hfr:hr.all frB=true) :
  Rel N base (joinX ρ ρc n hr) (upd h (newU n (hr.map xB) 0)) w'∧Keeps ρ w (Free N ρ h) (joinX ρ ρc n hr) w' (Free N (joinX ρ ρc n hr) (upd h (newU n (hr.map xB) 0))):=by
 have hgt:∀ b,gt (upd h (newU n (hr.map xB) 0)) b=if n≤b∧b<n+hr.length then xB (renB (fun c=>c+n) (gt hr (b - n))) else gt h b:=by
  intro b
  rw [gt_newU]
  simp only [Nat.add_zero,List.length_map]
  split
  ·rw [gt_mapX,renB_xB]
  ·rfl
 have hsplit:∀ b r,joinX ρ ρc n hr b=some r→gt (upd h (newU n (hr.map xB) 0)) b≠.dead →
   (ρ b=some r∧gt h b≠.dead∧gt (upd h (newU n (hr.map xB) 0)) b=gt h b) ∨
   (∃ r0,n≤b∧b<n+hr.length∧ρc (b - n)=some r0∧r=xR (gt hr (b - n)) r0∧gt hr (b - n)≠.dead∧gt (upd h (newU n (hr.map xB) 0)) b=xB (renB (fun c=>c+n) (gt hr (b - n)))):=by
  intro b r hb hd
  rw [hgt] at hd ⊢
  simp only [joinX] at hb
  by_cases hc:n≤b∧b<n+hr.length
  ·rw [if_pos hc] at hb hd ⊢
   obtain ⟨r0,h1,h2⟩:=Option.map_eq_some_iff.1 hb
   exact .inr ⟨r0,hc.1,hc.2,h1,h2.symm,fun hx=>hd (by rw [hx];rfl),rfl⟩
  ·rw [if_neg hc] at hb hd ⊢
   exact .inl ⟨hb,hd,rfl⟩
 -- the blocks of a new root are new
 have hnew:∀ i r0 g,ρc i=some r0→gt hr i≠.dead→ownsB (xR (gt hr i) r0) g→w.heap.size≤g∧(ownsB r0 g∨(isFresh (gt hr i)=true∧g∈r0.fp)):=by
  intro i r0 g h1 h2 h3
  unfold xR at h3
  by_cases hf:isFresh (gt hr i)=true
  ·rw [if_pos hf] at h3
   rcases h3 with h3 | h3
   ·exact ⟨(J.Rc.lt h1 h2 (.inl h3)).1,.inl (.inl h3)⟩
   ·exact ⟨(J.Rc.fresh h1 hf g h3).1,.inr ⟨hf,h3⟩⟩
  ·rw [if_neg hf] at h3
   exact ⟨(J.Rc.lt h1 h2 h3).1,.inl h3⟩
 have hfree:∀ g,g<w.heap.size→Free N ρ h g→Free N (joinX ρ ρc n hr) (upd h (newU n (hr.map xB) 0)) g:=by
  intro g hlt hg
  refine ⟨hg.1,fun b r hb hd he=>?_⟩
  rcases hsplit b r hb hd with ⟨h1,h2,_⟩ | ⟨r0,_,_,h1,h2,h3,_⟩
  ·exact hg.2 b r h1 h2 he
  ·rw [h2] at he
   have:=(hnew _ r0 g h1 h3 he).1
   omega
 have hkeep:Keeps ρ w (Free N ρ h) (joinX ρ ρc n hr) w' (Free N (joinX ρ ρc n hr) (upd h (newU n (hr.map xB) 0))):=by
  refine ⟨fun b r hb=>⟨r,?_,rfl⟩,fun g hlt hg=>⟨hfree g hlt hg,J.B.block g hlt⟩⟩
  simp only [joinX]
  rw [if_neg fun hc=>by rw [J.new b hc.1 hc.2] at hb;cases hb]
  exact hb
 have hroot:∀ c r0,ρc c=some r0→∃ r1,joinX ρ ρc n hr (c+n)=some r1∧r1.v=r0.v:=by
  intro c r0 hc
  have hlt:c<hr.length:=by
   rcases Nat.lt_or_ge c hr.length with q | q
   ·exact q
   ·rw [J.dom c q] at hc;cases hc
  refine ⟨xR (gt hr c) r0,?_,?_⟩
  ·simp only [joinX]
   rw [if_pos (by omega),Nat.add_sub_cancel,hc]
   rfl
  ·unfold xR;split <;> rfl
 refine ⟨⟨Nat.le_trans J.R.hb J.B.size,fun g hl=>J.R.hN g (Nat.le_trans J.B.size hl),?_,?_,?_,?_⟩,hkeep⟩
 ·intro b r g hb hd hg
  rcases hsplit b r hb hd with ⟨h1,h2,_⟩ | ⟨r0,_,_,h1,h2,h3,_⟩
  ·exact J.R.hO b r g h1 h2 hg
  ·rw [h2] at hg
   exact J.R.hN g (hnew _ r0 g h1 h3 hg).1
 ·intro b hd
  have hd0:=hd
  rw [hgt] at hd
  by_cases hc:n≤b∧b<n+hr.length
  ·rw [if_pos hc] at hd
   obtain ⟨r0,h1,h2⟩:=J.Rc.blk (b - n) fun hx=>hd (by rw [hx];rfl)
   refine ⟨xR (gt hr (b - n)) r0,by simp only [joinX];rw [if_pos hc,h1];rfl,?_⟩
   rw [hgt,if_pos hc]
   cases hx:gt hr (b - n) with
   | dead=>trivial
   | box cs =>
    rw [hx] at h2
    obtain ⟨h0,g,c,e,h3,h4,h5,h6,h7⟩:=h2
    exact ⟨h0,g,c,e,h3,Nat.le_trans J.R.hb h4,h5,h6.scalX _ (fun c _ r hr'=>hroot c r hr') (frB_box hfr hx),h7⟩
   | arr e sz fr es =>
    have hft:fr=true:=frB_arr hfr hx
    subst hft
    rw [hx] at h2
    obtain ⟨h0,e',xs,he',h3,h4,h5,h6,h7,h8,h9⟩:=h2
    exact ⟨e',xs,he',ownsRow_mono J.R.hb h3,h4,h5,h6,(h9 rfl).mono J.R.hb,(h8 rfl).1,fun g hg hv=>(h7 g hg).2 (b - n) r0 h1 (by rw [hx];intro hc;cases hc) (.inl hv)⟩
   | xarr e sz es =>
    rw [hx] at h2
    obtain ⟨e',xs,he',h3,h4,h5,h6,h7,rest⟩:=h2
    exact ⟨e',xs,he',ownsRow_mono J.R.hb h3,h4,h5,h6,h7.mono J.R.hb,rest⟩
   | det e sz es i off c =>
    rw [hx] at h2
    obtain ⟨e',xs,rb,fa,fc,he,ho,hsz,hl,hrb,hcell,q1,q2,hex,hA,hC,oA,oC,rest⟩:=h2
    obtain ⟨r1,k1,k2⟩:=hroot c rb hrb
    exact ⟨e',xs,r1,fa,fc,he,ownsRow_mono J.R.hb ho,hsz,hl,k1,by rw [k2];exact hcell,q1,q2,hex,hA,hC,oA.mono J.R.hb,oC.mono J.R.hb,rest⟩
  ·rw [if_neg hc] at hd
   obtain ⟨r,h1,h2⟩:=J.R.blk b hd
   refine ⟨r,by simp only [joinX];rw [if_neg hc];exact h1,?_⟩
   rw [hgt,if_neg hc]
   exact h2.keep hkeep fun g hg=>J.B.block g (h2.lt hd hg).2
 ·intro b b' r r' g hb hb' hd hd' hg hg'
  rcases hsplit b r hb hd with ⟨h1,h2,_⟩ | ⟨r0,z1,z2,h1,h2,h3,_⟩ <;> rcases hsplit b' r' hb' hd' with ⟨h4,h5,_⟩ | ⟨r1,z3,z4,h4,h5,h6,_⟩
  ·exact J.R.inj b b' r r' g h1 h4 h2 h5 hg hg'
  ·rw [h5] at hg'
   have q1:=(J.R.lt h1 h2 hg).2;have q2:=(hnew _ r1 g h4 h6 hg').1;omega
  ·rw [h2] at hg
   have q1:=(J.R.lt h4 h5 hg').2;have q2:=(hnew _ r0 g h1 h3 hg).1;omega
  ·rw [h2] at hg
   rw [h5] at hg'
   have key:b - n=b' - n:=by
    rcases (hnew _ r0 g h1 h3 hg).2 with q | ⟨q,q'⟩ <;> rcases (hnew _ r1 g h4 h6 hg').2 with p | ⟨p,p'⟩
    ·exact J.Rc.inj _ _ r0 r1 g h1 h4 h3 h6 q p
    ·exact absurd q ((J.Rc.fresh h4 p g p').2.1.2 _ r0 h1 h3)
    ·exact absurd p ((J.Rc.fresh h1 q g q').2.1.2 _ r1 h4 h6)
    ·exact J.Rc.apart _ _ r0 r1 g h1 h4 q p q' p'
   omega
 ·intro b b' r r' g hb hb' hf hf' hg hg'
  have nofr:∀ b r,joinX ρ ρc n hr b=some r→isFresh (gt (upd h (newU n (hr.map xB) 0)) b)=true→ρ b=some r∧isFresh (gt h b)=true:=by
   intro b r hb hf
   rcases hsplit b r hb (fresh_live hf) with ⟨h1,h2,e1⟩ | ⟨r0,_,_,h1,h2,h3,e1⟩
   ·rw [e1] at hf;exact ⟨h1,hf⟩
   ·exfalso
    rw [e1] at hf
    cases hx:gt hr (b - n) with
    | arr e sz fr es =>
     have hft:fr=true:=frB_arr hfr hx
     subst hft
     rw [hx] at hf;cases hf
    | _=>rw [hx] at hf;cases hf
  obtain ⟨h1,h2⟩:=nofr b r hb hf
  obtain ⟨h3,h4⟩:=nofr b' r' hb' hf'
  exact J.R.apart b b' r r' g h1 h3 h2 h4 hg hg'
end
theorem xcontract_sound {o:Oper} (R:Rel N base ρ h w) {nx:Nat} {f:Nat} {vs as:List AV} {vals:Array Value} (hargs:RVs ρ w (Free N ρ h) vs vals.toList) {r:AV} {hr:List Blk} (hu:∀ b,b∈(newU nx (hr.map xB) 0).map Prod.fst→nx≤b→ρ b=none)
  (hfz:frzs h vs=some as) (hG:Sound P f as [] r hr) (hsh:frR r hr=true) (hex:(execOp a.eval o).run P w=.ok (.enter f vals) w)
  {K:Act→World→Prop} {Q:Exit→Act→World→Prop} (hK:∀ val w' ρ',After N base ρ h w (shift nx r) (newU nx (hr.map xB) 0) val w' ρ'→K (a.put o.dst val) w'):o.wp P a w K Q:=by
 have hnew:∀ b,nx≤b→b<nx+hr.length→ρ b=none:=by
  intro b h1 h2
  refine hu b ?_ h1
  exact (newU_keys nx (hr.map xB) 0 b).2 (by simp;omega)
 unfold Oper.wp
 rw [hex]
 show Calls P f vals w _
 refine (hG.data w (fun _=>True) _ (frzs_rel R hfz hargs (.inr fun _=>trivial))).mono ?_
 rintro e w' ⟨val,ρc,rfl,hB,hRc,hv,hdom⟩
 simp only [frR,Bool.and_eq_true] at hsh
 have J:JoinH N (fun _=>True) base ρ h w ρc hr w' nx:=⟨R,hB,hRc,hnew,hdom,.inr hsh.2⟩
 obtain ⟨h1,h2⟩:=J.xrel hsh.2
 refine hK val w' (joinX ρ ρc nx hr) ⟨?_,h1,h2,?_,hB.mono R.hb,fun g hg _=>hB.block g hg⟩
 ·refine hv.scalX _ (fun c _ r0 hc=>?_) hsh.1
  have hlt:c<hr.length:=by
   rcases Nat.lt_or_ge c hr.length with q | q
   ·exact q
   ·rw [hdom c q] at hc;cases hc
  refine ⟨xR (gt hr c) r0,?_,?_⟩
  ·simp only [joinX]
   rw [if_pos (by omega),Nat.add_sub_cancel,hc]
   rfl
  ·unfold xR;split <;> rfl
 ·intro b hb hb0
  rw [newU_keys] at hb
  simp only [joinX]
  rw [if_neg (by simp at hb;omega)]
  exact hb0
end
end Go.AM
