/-
  Parts of the proofs for this seat: AMGive AMSwap.
-/
import Derived.Test.YtbapkgocloaaeaaGreatP3
import Derived.Test.YtbapkgocloaaeaaGreatP4
set_option linter.unusedSimpArgs false
set_option linter.unusedVariables false
namespace Go.AM
open Go.RowKit (Below)
section
variable {P:Program} {N:Par} {base:Nat} {ρ:Map} {h:List Blk} {w:World}
theorem xarr_TRA (R:Rel N base ρ h w) {b:Nat} {r:Root} (hr:ρ b=some r) {el sz:Nat} {es:List (List T)} (hb:gt h b=.xarr el sz es):∃ fp,TR w (.lst sz es) r.v fp∧∀ g∈fp,ownsB r g:=by
 have hd:gt h b≠.dead:=by rw [hb];intro hc;cases hc
 obtain ⟨r',h1,h2⟩:=R.blk b hd
 rw [hr] at h1
 cases h1
 rw [hb] at h2
 obtain ⟨e',xs,_,hown,hsz,hl,ht,_⟩:=h2
 by_cases hz:es=[]
 ·subst hz
  refine ⟨[],?_,fun g hg=>by cases hg⟩
  rcases hown.2 with ⟨hv,_⟩ | ⟨g,cap,cur,hv,_⟩ <;> rw [hv] <;> exact .lst0 _ _ _
 ·rcases hown.2 with ⟨_,hz'⟩ | ⟨g,cap,cur,hv,hbg,hg,hcap,_,hcs',htake⟩
  ·exact absurd (List.eq_nil_of_length_eq_zero hz') hz
  ·refine ⟨g::r.ex,?_,?_⟩
   ·rw [hv]
    refine .lst hz hsz hcap hg hl ?_
    rw [List.drop_zero,htake];exact ht
   ·intro x hx
    cases hx with
    | head=>exact .inl (by rw [hv];rfl)
    | tail _ hx=>exact .inr hx
theorem frzT_relA (R:Rel N base ρ h w) {v:AV} {x:T} {val:Value} (hf:frzT h v=some x) (hv:RV ρ w (Free N ρ h) v val):∃ fp,TR w x val fp∧∀ g∈fp,N.a g:=by
 cases v <;> try (simp [frzT] at hf;done)
 ·simp [frzT] at hf
  subst hf
  cases hv with
  | t hT hf=>exact ⟨_,hT,fun g hg=>(hf g hg).1⟩
 ·rename_i b
  simp only [frzT] at hf
  split at hf
  ·rename_i el sz fr es hb
   cases hf
   cases hv with
   | own hr hone =>
    have hd:gt h b≠.dead:=by rw [hb];intro hc;cases hc
    obtain ⟨fp,hT,_,hg,_⟩:=own_TR R hr hb
    obtain ⟨r',h1,h2⟩:=R.blk b hd
    rw [hr] at h1
    cases h1
    rw [hb] at h2
    obtain ⟨_,_,_,_,_,_,_,_,hfree,_⟩:=h2
    exact ⟨fp,hT,fun g hg'=>(hg g hg').elim (fun q=>(R.hO b _ g hr hd (.inl q)).1) fun q=>(hfree g q).1⟩
  ·rename_i el sz es hb
   cases hf
   cases hv with
   | own hr hone =>
    have hd:gt h b≠.dead:=by rw [hb];intro hc;cases hc
    obtain ⟨fp,hT,hg⟩:=xarr_TRA R hr hb
    exact ⟨fp,hT,fun g hg'=>(R.hO b _ g hr hd (hg g hg')).1⟩
  ·cases hf
theorem frzTs_relA (R:Rel N base ρ h w):∀ {cs:List AV} {ts:List T} {vs:List Value},frzTs h cs=some ts→RVs ρ w (Free N ρ h) cs vs→∃ fp,TRs w ts vs fp∧∀ g∈fp,N.a g
 | [],ts,vs,hg,hv=>by simp [frzTs] at hg;subst hg;cases hv;exact ⟨[],.nil,fun g hg=>by cases hg⟩
 | c::cs,ts,vs,hg,hv=>by
  cases hv with
  | cons h1 h2 =>
   simp only [frzTs] at hg
   split at hg
   ·rename_i x xs hx hxs
    cases hg
    obtain ⟨fp,h3,h4⟩:=frzT_relA R hx h1
    obtain ⟨fq,h5,h6⟩:=frzTs_relA R hxs h2
    exact ⟨fp++fq,.cons h3 h5,fun g hg=>(List.mem_append.1 hg).elim (h4 g) (h6 g)⟩
   ·cases hg
def givA:AV→Bool
 | .t _ | .own _ | .agg _=>true
 | _=>false
theorem frz_relA (R:Rel N base ρ h w) {v d:AV} {val:Value} (hp:givA v=true) (hf:frz h v=some d) (hv:RV ρ w (Free N ρ h) v val):RV noMap w N.a d val:=by
 cases v <;> try (simp [givA] at hp;done)
 ·simp [frz,frz1] at hf
  subst hf
  cases hv with
  | t hT hf=>exact .t hT fun g hg=>(hf g hg).1
 ·rename_i cs
  simp only [frz,frz1] at hf
  split at hf
  ·rename_i ds hds
   cases hf
   cases hv with
   | agg hc h1 =>
    obtain ⟨fp,h3,h4⟩:=frzTs_relA R hds hc
    exact .agg (RVs.of_TRs h3 h4) h1
  ·cases hf
 ·rename_i b
  have hv':=hv
  have:∃ x,frzT h (.own b)=some x∧d=.t x:=by
   simp only [frz,frz1] at hf
   simp only [frzT]
   split at hf
   ·cases hf;exact ⟨_,rfl,rfl⟩
   ·cases hf;exact ⟨_,rfl,rfl⟩
   ·cases hf
  obtain ⟨x,hx,rfl⟩:=this
  obtain ⟨fp,h3,h4⟩:=frzT_relA R hx hv'
  exact .t h3 h4
theorem frzs_relA (R:Rel N base ρ h w):∀ {vs ds:List AV} {vals:List Value},vs.all givA=true→frzs h vs=some ds→RVs ρ w (Free N ρ h) vs vals→RVs noMap w N.a ds vals
 | [],ds,vals,_,hf,hv=>by simp [frzs] at hf;subst hf;cases hv;exact .nil
 | v::vs,ds,vals,hp,hf,hv=>by
  simp only [List.all_cons,Bool.and_eq_true] at hp
  cases hv with
  | cons h1 h2 =>
   simp only [frzs] at hf
   split at hf
   ·rename_i x xs hx hxs
    cases hf
    exact .cons (frz_relA R hp.1 hx h1) (frzs_relA R hp.2 hxs h2)
   ·cases hf
theorem gt_deads (n b:Nat):gt (List.replicate n Blk.dead) b=.dead:=by
 unfold gt
 by_cases hb:b<n
 ·simp [hb]
 ·rw [List.getElem?_eq_none (by simpa using hb)];rfl
theorem stB_end:∀ (l:List Blk) (x:Blk),stB l l.length x=l++[x]
 | [],x=>by simp [stB]
 | b::l,x=>by simp [stB,stB_end l x]
theorem upd_end (n:Nat):∀ (hr:List Blk) (i:Nat) (l:List Blk),l.length=n+i→upd l (newU n hr i)=l++hr.map (renB fun c=>c+n)
 | [],i,l,_=>by simp [newU,upd]
 | b::hr,i,l,hl=>by
  simp only [newU,upd,← hl]
  rw [stB_end,upd_end n hr (i+1) _ (by simp [hl];omega)]
  simp
theorem upd_deads (hr:List Blk) (n:Nat):upd (List.replicate n Blk.dead) (newU n hr 0)=List.replicate n Blk.dead++hr.map (renB fun c=>c+n):=upd_end n hr 0 _ (by simp)
theorem give_sound {f:Nat} {vs as:List AV} {h0:List Blk} {r:AV} {hr:List Blk} (hp:vs.all givA=true) (hfz:frzs h0 vs=some as) (hG:Sound P f as [] r hr) :
  Sound P f vs h0 (shift h0.length r) (List.replicate h0.length .dead++hr.map (renB fun c=>c+h0.length)):=by
 refine ⟨hG.1,?_⟩
 intro N base w ρ vals R hdom hv hz
 have hA:=frzs_relA R hp hfz hv
 have R0:Rel N base ρ (List.replicate h0.length .dead) w:=⟨R.hb,R.hN,fun b r g _ hd=>absurd (gt_deads _ b) hd,fun b hd=>absurd (gt_deads _ b) hd,fun b b' r r' g _ _ hd=>absurd (gt_deads _ b) hd,fun b b' r r' g _ _ hf=>by rw [gt_deads] at hf;cases hf⟩
 refine (hG.data w N.a vals hA).mono ?_
 rintro e w' ⟨val,ρc,rfl,hB,hRc,hv',hdc⟩
 have J:JoinH N N.a base ρ (List.replicate h0.length .dead) w ρc hr w' h0.length:=⟨R0,hB,hRc,fun b hb _=>hdom b hb,hdc,.inl fun g hg=>⟨hg,fun b r _ hd=>absurd (gt_deads _ b) hd⟩⟩
 have e1:=upd_deads hr h0.length
 have jr:=J.rel
 have jv:=J.val hv' (.inl fun g hg=>⟨hg,fun b r _ hd=>absurd (gt_deads _ b) hd⟩)
 have jk:=J.keeps
 rw [e1] at jr jv jk
 refine ⟨val,joinM ρ ρc h0.length hr.length,rfl,hB.mono R.hb,jr,jv,?_,by simp,fun g hg _=>hB.block g hg,fun g hg hzz=>?_,?_⟩
 ·intro b hb
  simp at hb
  simp only [joinM]
  rw [if_neg (by omega)]
  exact hdom b (by omega)
 ·exact jk.free g hg ⟨(hz g hzz).1,fun b r _ hd=>absurd (gt_deads _ b) hd⟩
 ·intro b r0 hb hr0
  exact ⟨r0,by simp only [joinM];rw [if_neg (by omega)];exact hr0,rfl⟩
end
theorem one_sound {P:Program} {C:CallE} {tbl:Nat→Option MFun} (hT:TblOK P tbl) (hC:∀ f as h0 r hr,C f as h0=some (r,hr)→Sound P f as h0 r hr) {f:Nat} {as:List AV} {h0:List Blk} {m:MFun} (ht:tbl f=some m) (hl:as.length=m.np) {r:AV} {hr:List Blk}
  (h:Ev C [.fin h0.length m.res] m.body ⟨initE as 0,[rootsE h0 0],h0⟩=some (r,hr)):Sound P f as h0 r hr:=by
 obtain ⟨n,h⟩:=Lim_some h
 obtain ⟨fn,ks,inl,h1,h2,h3⟩:=hT f m ht
 have hW:=runN_W (Γ:=Sound P) hC n m.body _ _ h
 refine sound_of h1 h3 h2 ⟨hl,?_⟩
 refine Wc_mono m.body (fun x s hq=>?_) hW
 obtain ⟨k,hk,h4⟩:=hq
 obtain ⟨k,rfl⟩:=runN_pos h4
 have fin:finE h0.length m.res s=some (r,hr)→∀ x,(∀ i,x≠.x i)→bodyQ m.res (fun v s=>canonR h0.length v s=some (r,hr)) x s:=by
  intro hf x hx
  unfold finE at hf
  cases x with
  | x i=>exact absurd rfl (hx i)
  | n =>
   simp only [bodyQ]
   split at hf
   ·rename_i v hv;rw [hv];exact hf
   ·cases hf
  | r =>
   simp only [bodyQ]
   split at hf
   ·rename_i v hv;rw [hv];exact hf
   ·cases hf
 cases x with
 | n=>exact fin h4 _ (fun i hc=>by cases hc)
 | r=>exact fin h4 _ (fun i hc=>by cases hc)
 | x i=>simp only [runN,step] at h4;cases h4
noncomputable def give (C:CallE) (g:Nat):CallE:=fun f vs h0=>if f=g∧h0≠[] then (if vs.all givA=true then (match frzs h0 vs with
 | some d=>(match C g d [] with
  | some (r,hr)=>some (shift h0.length r,List.replicate h0.length .dead++hr.map (renB fun c=>c+h0.length))
  | none=>none)
 | none=>none) else none) else C f vs h0
theorem give_ok {P:Program} {C:CallE} {g:Nat} (hC:∀ f as h0 r hr,C f as h0=some (r,hr)→Sound P f as h0 r hr) (f:Nat) (as:List AV) (h0:List Blk) (r:AV) (hr:List Blk) (h:give C g f as h0=some (r,hr)):Sound P f as h0 r hr:=by
 unfold give at h
 split at h
 ·rename_i hf
  obtain ⟨rfl,_⟩:=hf
  split at h
  ·rename_i hp
   split at h
   ·rename_i d hd
    split at h
    ·rename_i r1 hr1 hc
     cases h
     exact give_sound hp hd (hC _ _ _ _ _ hc)
    ·cases h
   ·cases h
  ·cases h
 ·exact hC _ _ _ _ _ h
theorem give_not {C:CallE} {g f:Nat} (h:f≠g) (vs:List AV) (h0:List Blk):give C g f vs h0=C f vs h0:=by simp [give,h]
theorem give_at {C:CallE} {g:Nat} {vs d:List AV} {b:Blk} {h0:List Blk} {r:AV} {hr:List Blk} (hp:vs.all givA=true) (hd:frzs (b::h0) vs=some d) (hc:C g d []=some (r,hr)) :
  give C g g vs (b::h0)=some (shift (h0.length+1) r,List.replicate (h0.length+1) .dead++hr.map (renB fun c=>c+(h0.length+1))):=by
 unfold give
 rw [if_pos ⟨rfl,by simp⟩]
 simp only [hp,hd,hc,if_true,List.length_cons]
end Go.AM
