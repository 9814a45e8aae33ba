/-
  Parts of the proofs for this seat: LX LY.
-/
import Derived.Test.YtnnjbejcffjgfaaGreatP24
set_option linter.unusedSectionVars false
set_option linter.unusedSimpArgs false
set_option linter.unusedVariables false
set_option maxRecDepth 100000
set_option maxHeartbeats 4000000
namespace Go.Proofs.YtnnjbejcffjgfaaGreat
open Go.AM
noncomputable section
def ordM(l:List Int)(u:Int):Int:=l.foldl (λu x=>orI u (shlI 1 x)) u
theorem Zcwt(l:List Int)(u x:Int):ordM (l++[x]) u=orI (ordM l u) (shlI 1 x):=by unfold ordM;rw[List.foldl_append];rfl
def WkR(o:List Int)(mask used:Int)(b:Bool)(r:Rs):Prop :=
 (used=mask/\r=some (.own 0,[.arr 3 1 true (o.map ic)]))\/
 (used≠mask/\∃y:List Int,(0<(y.length:Int)↔b=true)/\r=some (.own 1,[.arr 3 1 true (o.map ic),.arr 3 1 true (y.map ic)]))
theorem l_w0(s:Zh)(q:Zc)(o:List Int)(mask:Int)(ho:o.length<=1000)(hp:∀x∈o,0<=x):∀i,i<=o.length->∀u r,(if ordM (o.drop i) u=mask then some (AV.own 0,[Blk.arr 3 1 true (o.map ic)])=some r else Zet o s q mask (ordM (o.drop i) u) 0=some r)->Zyf o s q mask u i=some r:=by
 refine down _ ?_ ?_
 .intro u r hr;rw[Yg]at hr;refine Zb3s _ _ _ _ _ _ _ ?_;rw[if_neg (by omega)];exact hr
 .intro i hi ih u r hr;rw[Yd hi]at hr;refine Zb3s _ _ _ _ _ _ _ ?_;rw[if_pos (by omega),wS hi (by omega)];exact⟨by omega,_,gE hi,by have:=hp _ (Yb hi);omega,ih _ _ hr⟩
theorem x_wk{s:Zh}{q:Zc}{o:List Int}{mask:Int}{b:Bool}(ho:o.length<=1000)(hp:∀x∈o,0<=x)(h:ordM o 0≠mask->∃y:List Int,(0<(y.length:Int)↔b=true)/\Zet o s q mask (ordM o 0) 0=some (.own 1,[.arr 3 1 true (o.map ic),.arr 3 1 true (y.map ic)])):WkR o mask (ordM o 0) b (Zfu o s q mask):=by
 by_cases e:ordM o 0=mask
 .refine .inl ⟨e,Zb3t _ _ _ _ _ (l_w0 s q o mask ho hp 0 (Ya _) 0 _ ?_)⟩;rw[Yq,if_pos e]
 .obtain⟨y,h1,h2⟩:=h e;refine .inr ⟨e,y,h1,Zb3t _ _ _ _ _ (l_w0 s q o mask ho hp 0 (Ya _) 0 _ ?_)⟩;rw[Yq,if_neg e];exact h2
section
variable{s:Zh}{q:Zc}(c:Ctx s q)
include c
theorem l_w1{f:Nat}{mask used:Int}(hm:M16 mask)(co:mask<2 ^ q.Atoms.length)(hu:M16 used)(cd:1<=used)(cc:used<2 ^ q.Atoms.length)(hs:andI used mask=used)(cp:used≠mask)(hp:popc (Zr mask used)<=f+1)(o:List Int)(ho:o.length+f+1<=1000)(cl:∀x∈o,0<=x)(cn:ordM o 0=used)
  (ih:∀(p:List Int) (u:Int),p.length+f<=1000->(∀x∈p,0<=x)->ordM p 0=u->M16 u->1<=u->u<2 ^ q.Atoms.length->andI u mask=u->popc (Zr mask u)<=f->WkR p mask u (sfB s q f u (Zr mask u)) (Zfu p s q mask)) :
  ∀i,i<=q.Atoms.length->∃y:List Int,(0<(y.length:Int)↔((mskL (Zr mask used) i (q.Atoms.length-i)).any λi=>extB s q used i && sfB s q f (orI used (shlI 1 i)) (Zr (Zr mask used) (shlI 1 i)))=true)/\Zet o s q mask used i=some (.own 1,[.arr 3 1 true (o.map ic),.arr 3 1 true (y.map ic)]):=by
 have hn4:=c.n4;have hl16:M16 (Zr mask used):=by
  obtain⟨a,rfl⟩:=m16 hm;obtain⟨u,rfl⟩:=m16 hu;exact(Zn4 a u hs).1
 refine down _ ?_ ?_
 .refine⟨[],by rw[Y6];simp[mskL],Z5k _ _ _ _ _ _ _ ?_⟩;rw[if_neg (by omega)]
 .intro i hi ihi;have hb:Zx (Zr mask used) i=(Zx mask i && !Zx used i)/\(Zx mask i=true->andI (orI used (shlI 1 i)) mask=orI used (shlI 1 i))/\M16 (orI used (shlI 1 i))/\Zr mask (orI used (shlI 1 i))=Zr (Zr mask used) (shlI 1 i):=by
   obtain⟨a,rfl⟩:=m16 hm;obtain⟨u,rfl⟩:=m16 hu;exact f_nxt a u ⟨i,by omega⟩ hs
  rw[show q.Atoms.length-i=(q.Atoms.length-(i+1))+1 by omega,mskL,hb.1];rcases ft (Zx mask i)with e|e
  .have e1:andI (shrI mask i) 1=1:=of_decide_eq_true e;rw[e,Ye];have skip:extB s q used i=false->∀r,Zet o s q mask used ((i+1:Nat):Int)=some r->Zet o s q mask used i=some r:=by
    intro ee r hr;refine Z5k _ _ _ _ _ _ _ ?_;rw[if_pos (by omega),if_pos e1,wS hi (by omega)];refine⟨by omega,_,Zb7x c cd cc hi,?_⟩;rw[ee,if_neg (by decide)];exact hr
   rcases ft (Zx used i)with e2|e2
   .have ee:extB s q used i=false:=by unfold extB;rw[if_pos (of_decide_eq_true e2)]
    obtain⟨y,h1,h2⟩:=ihi;rw[e2,if_neg (by decide)];exact⟨y,h1,skip ee _ h2⟩
   .rw[e2,if_pos (by rfl),Yck];rcases ft (extB s q used i)with ee|ee
    .rw[ee,Ye];have hleft:Zx (Zr mask used) i=true:=by rw[hb.1,e,e2];rfl
     have hpn:popc (Zr mask (orI used (shlI 1 i)))<=f:=by
      rw[hb.2.2.2];obtain⟨a,ha⟩:=m16 hl16;rw[ha]at hp hleft|-;have:=(Zlr a ⟨i,by omega⟩ hleft).2;simp only at this;omega
     have hor:=orS_lt hn4.2 hu cc hi;have rcl:=ih (o++[(i:Int)]) (orI used (shlI 1 i)) (by simp;omega) (by intro x hx;rcases Yi.1 hx with h|h;exact cl x h;simp at h;omega) (by rw[Zcwt,cn]) hb.2.2.1 hor.1 hor.2 (hb.2.1 e) hpn;rw[hb.2.2.2]at rcl
     have stp:∀r,((∃v2:List Int,Zfu (o++[(i:Int)]) s q mask=some (.own 0,[.arr 3 1 true (v2.map ic)])/\(if 0<(v2.length:Int)then some (AV.own 1,[Blk.arr 3 1 true (o.map ic),.arr 3 1 true (v2.map ic)])=some r else Zet o s q mask used ((i+1:Nat):Int)=some r))\/
       (∃v3 v4:List Int,Zfu (o++[(i:Int)]) s q mask=some (.own 1,[.arr 3 1 true (v3.map ic),.arr 3 1 true (v4.map ic)])/\(if 0<(v4.length:Int)then some (AV.own 1,[Blk.arr 3 1 true (o.map ic),.arr 3 1 true (v4.map ic)])=some r else Zet o s q mask used ((i+1:Nat):Int)=some r)))->Zet o s q mask used i=some r:=by
      intro r hr;refine Z5k _ _ _ _ _ _ _ ?_;rw[if_pos (by omega),if_pos e1,wS hi (by omega)];refine⟨by omega,_,Zb7x c cd cc hi,?_⟩;rw[ee,if_pos rfl];exact⟨by omega,by omega,hr⟩
     rcases rcl with⟨r0,r1⟩|⟨r0,y,r1,r2⟩
     .have hz:Zr (Zr mask used) (shlI 1 i)=0:=by
       rw[<-hb.2.2.2];obtain⟨a,ha⟩:=m16 hm;obtain⟨u,hu'⟩:=m16 hb.2.2.1;have:=(Zn4 a u (by rw[<-ha,<-hu'];exact hb.2.1 e)).2;rw[<-ha,<-hu']at this;exact this.1 r0
      rw[hz,Z6w,Bool.true_or];refine⟨o++[(i:Int)],by simp,stp _ (.inl ⟨_,r1,?_⟩)⟩;rw[if_pos (by simp)]
     .rcases ft (sfB s q f (orI used (shlI 1 i)) (Zr (Zr mask used) (shlI 1 i)))with e5|e5
      .rw[e5,Bool.true_or];have hy:=r1.2 e5;refine⟨y,by simp only[iff_true];exact hy,stp _ (.inr ⟨_,_,r2,?_⟩)⟩;rw[if_pos hy]
      .rw[e5,Y7];obtain⟨y',h1,h2⟩:=ihi;refine⟨y',h1,stp _ (.inr ⟨_,_,r2,?_⟩)⟩;rw[if_neg (λh=>by rw[r1.1 h]at e5;cases e5)];exact h2
    .rw[ee,Y4,Y7];obtain⟨y,h1,h2⟩:=ihi;exact⟨y,h1,skip ee _ h2⟩
  .have e1:¬andI (shrI mask i) 1=1:=of_decide_eq_false e;obtain⟨y,h1,h2⟩:=ihi;rw[e,Y4,if_neg (by decide)];refine⟨y,h1,Z5k _ _ _ _ _ _ _ ?_⟩;rw[if_pos (by omega),if_neg e1,wS hi (by omega)];exact⟨by omega,h2⟩
theorem Zcwu{mask:Int}(hm:M16 mask)(cc:mask<2 ^ q.Atoms.length):∀(f:Nat),f<=5->∀(p:List Int) (u:Int),p.length+f<=1000->(∀x∈p,0<=x)->ordM p 0=u->M16 u->1<=u->u<2 ^ q.Atoms.length->andI u mask=u->popc (Zr mask u)<=f->WkR p mask u (sfB s q f u (Zr mask u)) (Zfu p s q mask):=by
 intro f
 induction f with
 |zero =>
  intro _ p u hp hpos hou hu hu1 hu2 hs hpc;subst hou;refine x_wk (by omega) hpos λhne=>?_
  exfalso;obtain⟨a,ha⟩:=m16 hm;obtain⟨w,hw⟩:=m16 hu;rw[ha,hw]at hs hpc hne;have k:=Zn4 a w hs;obtain⟨z,hz⟩:=m16 k.1;have k2:=k.2;rw[hz]at hpc k2;by_cases h:z.1=0
  .exact hne (k2.2 (by omega))
  .have:=(Zy2 z h).1;omega
 |succ f ih =>
  intro hf p u hp hpos hou hu hu1 hu2 hs hpc;subst hou;refine x_wk (by omega) hpos λhne=>?_
  have hl16:M16 (Zr mask (ordM p 0))/\(ordM p 0=mask↔Zr mask (ordM p 0)=0):=by
   obtain⟨a,rfl⟩:=m16 hm;obtain⟨u,hu'⟩:=m16 hu;rw[hu']at hs|-;exact Zn4 a u hs
  have hlt:Zr mask (ordM p 0)<2 ^ q.Atoms.length:=by
   have:Zr mask (ordM p 0)<=mask:=by
    obtain⟨a,rfl⟩:=m16 hm;obtain⟨u,hu'⟩:=m16 hu;rw[hu'];exact f_le2 a u
   omega
  have b:=l_w1 c hm cc hu hu1 hu2 hs hne hpc p (by omega) hpos rfl (λy u a1 a2 a3 a4 a5 a6 a7 a8=>ih (by omega) y u a1 a2 a3 a4 a5 a6 a7 a8) 0 (Ya _);rw[sfB,if_neg (λh=>hne (hl16.2.2 h)),msk_n hl16.1.1 hlt c.n4.2];exact b
def lbS(s:Zh)(q:Zc)(m b:Int)(i:Nat):Int:=if sfB s q 4 (shlI 1 i) (Zr m (shlI 1 i))=true then(if b<Zbp s q i then Zbp s q i else b)else b
def lbV(s:Zh)(q:Zc)(m:Int):Int:=(mskL m 0 q.Atoms.length).foldl (lbS s q m) 0
theorem l_iLB{m:Int}(h1:1<=m)(h2:m<2 ^ q.Atoms.length)(l:List Nat)(hl:∀i∈l,i<q.Atoms.length/\Zx m i=true)(h4:l.length<=4):∀i,i<=l.length->∀b,Znt s q (l.map λn:Nat=>(n:Int)) m b l.length i=some (I ((l.drop i).foldl (lbS s q m) b),[]):=by
 have hn4:=c.n4;have h16:=Zdn (by omega) h2 hn4.2;refine down _ ?_ ?_
 .intro b;refine Zb3m _ _ _ _ _ _ _ _ ?_;rw[if_neg (by omega),Yg];rfl
 .intro i hi ih b;obtain⟨hm,him⟩:=hl _ (Yb hi);have hsh:=sh_lt hn4.2 hm;have hnx:M16 (Zr m (shlI 1 (l[i]:Nat)))/\popc (Zr m (shlI 1 (l[i]:Nat)))+1=popc m/\Zr m (shlI 1 (l[i]:Nat))<=m:=by
   obtain⟨a,rfl⟩:=m16 h16;have h1:=Zlr a ⟨l[i],by omega⟩ him;exact⟨h1.1,h1.2,f_le a ⟨l[i],by omega⟩⟩
  have hpm:=popc4 h16;have so:=Zcws c 4 (by omega) [((l[i]:Nat):Int)] (shlI 1 (l[i]:Nat)) (Zr m (shlI 1 (l[i]:Nat))) (by simp) (Zdn (by omega) hsh.2.1 hn4.2) hsh.1 hsh.2.1 hnx.1 (by omega) (by omega);rw[Yd hi,Yc0];refine Zb3m _ _ _ _ _ _ _ _ ?_;rw[if_pos (by omega),wS hi (by omega)];refine⟨by omega,_,gM (m:=0) hi,by omega,?_⟩;rcases so with⟨r0,r1⟩|⟨r0,r1,y,r2⟩|⟨r0,r1,r2⟩
  .refine .inl ⟨_,r1,_,_,_,_,Zsb c hm,?_⟩;have e:lbS s q m b l[i]=(if b<((tab s q l[i]).Rows.length:Int)then((tab s q l[i]).Rows.length:Int)else b):=by unfold lbS;rw[r0,Z6w,if_pos rfl];rfl
   rw[<-e];exact ih _
  .refine .inr (.inr ⟨_,_,r2,_,_,_,_,Zsb c hm,?_⟩);have e:lbS s q m b l[i]=(if b<((tab s q l[i]).Rows.length:Int)then((tab s q l[i]).Rows.length:Int)else b):=by unfold lbS;rw[r1,if_pos rfl];rfl
   rw[<-e];exact ih _
  .refine .inr (.inl ⟨_,r2,?_⟩);have e:lbS s q m b l[i]=b:=by unfold lbS;rw[r1,if_neg (by decide)]
   rw[e];exact ih _
theorem Zcwv{m:Int}(h1:1<=m)(h2:m<2 ^ q.Atoms.length)(le:okQ s q m=true){i:Nat}(hi:i<q.Atoms.length):∃y:List Int,Zyg s q m i=some (.own 0,[.arr 3 1 true (y.map ic)])/\(0<(y.length:Int)↔(Zx m i && sfB s q 4 (shlI 1 i) (Zr m (shlI 1 i)))=true):=by
 have hn4:=c.n4;have h16:=Zdn (by omega) h2 hn4.2;have wn:w ((q.Atoms.length:Int)-1)=(q.Atoms.length:Int)-1:=Zw (by omega) (by omega);have stp:∀r,(if andI (shrI m i) 1=0 then some (AV.own 0,[Blk.arr 3 1 true (([]:List Int).map ic)])=some r else((∃v3:List Int,Zfu [(i:Int)] s q m=some (.own 0,[.arr 3 1 true (v3.map ic)])/\some (AV.own 0,[Blk.arr 3 1 true (v3.map ic)])=some r)\/(∃v4 v5:List Int,Zfu [(i:Int)] s q m=some (.own 1,[.arr 3 1 true (v4.map ic),.arr 3 1 true (v5.map ic)])/\some (AV.own 0,[Blk.arr 3 1 true (v5.map ic)])=some r)))->Zyg s q m i=some r:=by
  intro r hr;refine Zcsc _ _ _ _ _ ⟨_,Zgp c.le c.lq m,?_⟩;rw[le,if_pos rfl];refine⟨_,Z8 _ _ _,?_⟩;rw[wn,Zy.2 ⟨by omega,by omega⟩,if_pos rfl];exact⟨by omega,hr⟩
 rcases ft (Zx m i)with e|e
 .have e1:¬andI (shrI m i) 1=0:=λhc=>by rw[(Zg4 h16 (by omega)).1 hc]at e;cases e
  have hsh:=sh_lt hn4.2 hi;have hpm:=popc4 h16;have hpl:popc (Zr m (shlI 1 i))<=4:=by
   obtain⟨a,rfl⟩:=m16 h16;have:=(Zlr a ⟨i,by omega⟩ e).2;simp only at this;omega
  have hsub:andI (shlI 1 (i:Int)) m=shlI 1 i:=by
   obtain⟨a,rfl⟩:=m16 h16;exact f_shm a ⟨i,by omega⟩ e
  have wk:=Zcwu c h16 h2 4 (by omega) [(i:Int)] (shlI 1 i) (by simp) (by simp) hsh.2.2 (Zdn (by omega) hsh.2.1 hn4.2) hsh.1 hsh.2.1 hsub hpl;rw[e,Ye];rcases wk with⟨r0,r1⟩|⟨r0,y,r1,r2⟩
  .have hz:Zr m (shlI 1 i)=0:=by
    obtain⟨a,ha⟩:=m16 h16;obtain⟨u,hu'⟩:=m16 (Zdn (by omega) hsh.2.1 hn4.2:M16 (shlI 1 (i:Int)));have:=(Zn4 a u (by rw[<-ha,<-hu'];exact hsub)).2;rw[<-ha,<-hu']at this;exact this.1 r0
   refine⟨[(i:Int)],stp _ ?_,by rw[hz,Z6w];simp⟩;rw[if_neg e1];exact .inl ⟨_,r1,rfl⟩
  .refine⟨y,stp _ ?_,r1⟩;rw[if_neg e1];exact .inr ⟨_,_,r2,rfl⟩
 .refine⟨[],stp _ ?_,by rw[e];simp⟩;rw[if_pos ((Zg4 h16 (by omega)).2 e)]
theorem l_sLB{m:Int}(h1:1<=m)(h2:m<2 ^ q.Atoms.length)(le:okQ s q m=true):∀i,i<=q.Atoms.length->∀b,Zry s q m b i=some (I ((mskL m i (q.Atoms.length-i)).foldl (lbS s q m) b),[]):=by
 have hn4:=c.n4;refine down _ ?_ ?_
 .intro b;refine Zb3u _ _ _ _ _ _ ?_;rw[if_neg (by omega),Y6];rfl
 .intro i hi ih b;obtain⟨y,y1,y2⟩:=Zcwv c h1 h2 le hi;refine Zb3u _ _ _ _ _ _ ?_;rw[if_pos (by omega),wS hi (by omega),show q.Atoms.length-i=(q.Atoms.length-(i+1))+1 by omega,mskL];refine⟨_,y1,?_⟩;rcases ft (Zx m i)with e|e
  .rw[e,Ye]at y2;rw[e,if_pos rfl,Yc0];rcases ft (sfB s q 4 (shlI 1 i) (Zr m (shlI 1 i)))with e5|e5
   .rw[if_pos (y2.2 e5)];refine⟨_,_,_,_,x_16S c hi,?_⟩;have ee:lbS s q m b i=(if b<((tab s q i).Rows.length:Int)then((tab s q i).Rows.length:Int)else b):=by unfold lbS;rw[e5,if_pos rfl];rfl
    rw[<-ee];exact ih _
   .rw[if_neg (λh=>by rw[y2.1 h]at e5;cases e5)];have ee:lbS s q m b i=b:=by unfold lbS;rw[e5,if_neg (by decide)]
    rw[ee];exact ih _
  .rw[e,Y4]at y2;rw[if_neg (λh=>by have:=y2.1 h;cases this),e,if_neg (by decide)];exact ih _
end
def lbF(s:Zh)(q:Zc)(m:Int):Int:=if okQ s q m=true then lbV s q m else -1
theorem Zcww{s:Zh}{q:Zc}(h:Zc0 s)(hq:LeQ q)(m:Int):Z42 s q m=some (I (lbF s q m),[]):=by
 refine Zcr4 _ _ _ _ ⟨_,Zlq h hq m,?_⟩;unfold lbF;rcases ft (okQ s q m)with e|e
 .obtain⟨c,h1,h2⟩:=Zjk h hq e;rw[if_pos e,if_pos e];refine .inr ⟨_,Zlp (Zdn (by omega) h2 c.n4.2),?_⟩;rw[c.msk h1 h2,Yo];have:=l_iLB c h1 h2 (mskL m 0 q.Atoms.length) (λi hi=>by have:=Zed hi;exact⟨by omega,this.2.2⟩) (by have:=Zg6 m q.Atoms.length 0;have:=c.n4;omega) 0 (Ya _) 0;exact this
 .rw[if_neg (by rw[e];decide),if_neg (by rw[e];decide)]
theorem Zcwx{s:Zh}{q:Zc}(h:Zc0 s)(hq:LeQ q)(m:Int):Z5a s q m=some (I (lbF s q m),[]):=by
 refine Zcsd _ _ _ _ ⟨_,Zgp h hq m,?_⟩;unfold lbF;rcases ft (okQ s q m)with e|e
 .obtain⟨c,h1,h2⟩:=Zjk h hq e;rw[if_pos e,if_pos e];exact l_sLB c h1 h2 e 0 (Ya _) 0
 .rw[if_neg (by rw[e];decide),if_neg (by rw[e];decide)]
def lbAt(s:Zh)(q:Zc)(m:Nat):Int:=if conn q.Atoms (m:Int)=true/\m≠0 then lbF s q m else 0
def lbL(s:Zh)(q:Zc)(k:Nat):List Int:=(List.range k).map (lbAt s q)
theorem Zbla(s:Zh)(q:Zc)(k:Nat):lbL s q (k+1)=lbL s q k++[lbAt s q k]:=by
 unfold lbL;rw[Ybs,Y0];rfl
theorem Zn6(s:Zh)(q:Zc)(k:Nat):(lbL s q k).length=k:=by simp[lbL]
def lbsF(s:Zh)(q:Zc):List Int:=if okQ s q 1=true then lbL s q (2 ^ q.Atoms.length)else[]
section
variable{s:Zh}{q:Zc}(c:Ctx s q)
include c
theorem l_iLBs:∀k:Nat,k<=2 ^ q.Atoms.length->∀(x:List Int) (j:Nat),1<=k->x.drop j=Zfy q.Atoms k (2 ^ q.Atoms.length-k)->x.length<=16->
  Zru s q (lbL s q k++List.replicate (2 ^ q.Atoms.length-k) 0) x x.length j=some (.own 0,[.arr Zbc 1 true ((lbL s q (2 ^ q.Atoms.length)).map ic)]):=by
 have hp:=Zn3 q.Atoms.length;have h16:2 ^ q.Atoms.length<=16:=Nat.pow_le_pow_right (by omega:0<2) (Zen c.vq).2;refine down _ ?_ ?_
 .intro x j _ hx hl;rw[Y6,Zb6t]at hx;have:=List.drop_eq_nil_iff.1 hx;refine Zb3n _ _ _ _ _ _ _ ?_;rw[if_neg (by omega),Y6,List.replicate_zero,Ybl]
 .intro k hk ih x j h1 hx hl;rw[show 2 ^ q.Atoms.length-k=(2 ^ q.Atoms.length-(k+1))+1 by omega,Zbkr]at hx;rw[show 2 ^ q.Atoms.length-k=(2 ^ q.Atoms.length-(k+1))+1 by omega];rcases ft (conn q.Atoms k)with e|e
  .rw[if_pos e]at hx;have hj:j<x.length:=by
    refine Nat.lt_of_not_le λh=>?_
    rw[Ybd h]at hx;simp at hx
   have hg:x[j]?=some (k:Int):=by
    have:=congrArg (λl=>l[0]?) hx;simpa using this
   have hd:x.drop (j+1)=Zfy q.Atoms (k+1) (2 ^ q.Atoms.length-(k+1)):=by
    have:=congrArg (List.drop 1) hx;simpa[Ybt]using this
   have wk':w ((j:Int)+1)=((j+1:Nat):Int):=by rw[show((j+1:Nat):Int)=(j:Int)+1 by omega];exact Zw (by omega) (by omega)
   refine Zb3n _ _ _ _ _ _ _ ?_;rw[if_pos (by omega)];refine⟨by omega,_,by rw[Yh];exact hg,_,Zcww c.le c.lq k,by omega,0,?_,?_⟩
   .rw[Yh,Ycg (by rw[Zn6];omega),Zn6,Y6,Ybq];rfl
   .rw[wk',Yh,List.set_append_right _ _ (by rw[Zn6];omega),Zn6,Y6,Ybq,List.set_cons_zero];have ih:=ih x (j+1) (by omega) hd hl;rw[Zbla]at ih;have ea:lbAt s q k=lbF s q k:=by unfold lbAt;rw[if_pos ⟨e,by omega⟩]
    rw[ea,Yz]at ih;exact ih
  .rw[if_neg (by rw[e];decide),Yb2]at hx;have ih:=ih x j (by omega) hx hl;rw[Zbla]at ih;have ea:lbAt s q k=0:=by unfold lbAt;rw[if_neg (by rw[e];simp)]
   rw[ea,Yz]at ih;rw[Ybq];exact ih
theorem l_sLBs:∀k:Nat,k<=2 ^ q.Atoms.length->Zrz s q (lbL s q k) k=some (.own 0,[.arr Zbc 1 true ((lbL s q (2 ^ q.Atoms.length)).map ic)]):=by
 have hf:=Zjh c.vq;have hp:=Zn3 q.Atoms.length;have h16:2 ^ q.Atoms.length<=16:=Nat.pow_le_pow_right (by omega:0<2) (Zen c.vq).2;refine down _ ?_ ?_
 .refine Zb3v _ _ _ _ _ ⟨_,Zi7 q c.lq,?_⟩;rw[if_neg (by rw[hf];omega)]
 .intro k hk ih;have wk':w ((k:Int)+1)=((k+1:Nat):Int):=by rw[show((k+1:Nat):Int)=(k:Int)+1 by omega];exact Zw (by omega) (by omega)
  have hr:inR (k:Int) 0 (Zbm q.Zp q.Atoms)=true:=Zy.2 ⟨by omega,by rw[hf];omega⟩;have ec:Zg5 q.Zp q.Atoms k=(decide ((k:Int)≠0) && conn q.Atoms k):=by unfold Zg5;rw[c.vq,hr,Ye,Ye]
  have hl:=Zn6 s q k;refine Zb3v _ _ _ _ _ ⟨_,Zi7 q c.lq,?_⟩;rw[if_pos (by rw[hf];omega)];refine⟨_,Zbkq q c.lq k,?_⟩;rw[wk',ec];rw[Zbla]at ih;rcases ft (decide ((k:Int)≠0) && conn q.Atoms k)with e|e
  .rw[if_pos e];refine⟨_,Zcwx c.le c.lq k,by omega,?_⟩;simp only[Yc,decide_eq_true_eq]at e;have ea:lbAt s q k=lbF s q k:=by unfold lbAt;rw[if_pos ⟨e.2,by omega⟩]
   rw[ea]at ih;exact ih
  .rw[if_neg (by rw[e];decide)];refine⟨by omega,?_⟩;have ea:lbAt s q k=0:=by
    unfold lbAt;rw[if_neg];rintro⟨h1,h2⟩;rw[h1,Bool.and_true]at e;exact absurd (of_decide_eq_false e) (by simp;omega)
   rw[ea]at ih;exact ih
end
theorem Zcwy{s:Zh}{q:Zc}(h:Zc0 s)(hq:LeQ q):Zrt s q=some (if okQ s q 1=true then(.own 0,[.arr Zbc 1 true ((lbsF s q).map ic)])else(.t .nil,[])):=by
 refine Zcsb ⟨_,Zlq h hq 1,?_⟩;rcases ft (okQ s q 1)with e|e
 .obtain⟨c,h1,h2⟩:=Zjk h hq e;have hf:=Zjh c.vq;have hp:=Zn3 q.Atoms.length;have h16:2 ^ q.Atoms.length<=16:=Nat.pow_le_pow_right (by omega:0<2) (Zen c.vq).2;have wk':w (Zbm q.Zp q.Atoms+1)=((2 ^ q.Atoms.length:Nat):Int):=by rw[hf,hp,show(2:Int) ^ q.Atoms.length-1+1=2 ^ q.Atoms.length by omega];exact Zw (by omega) (by omega)
  rw[if_pos e,if_pos e];refine⟨_,Zny q hq,?_⟩;rw[wk',Yh];refine⟨by omega,by omega,by have:(16:Nat)*8<=room:=(by decide);omega,by omega,_,Zb6v q hq c.vq,?_⟩;have b:=l_iLBs c 1 Nat.one_le_two_pow (Zsa q.Atoms) 0 (by omega) (by rw[Yq];rfl) (by have:=Zb6u (qa:=q.Atoms) (k:=1) (n:=2 ^ q.Atoms.length-1);unfold Zsa;omega);have e0:lbL s q 1=[0]:=by simp[lbL,lbAt]
  rw[e0,List.singleton_append,<-Ybq,show 2 ^ q.Atoms.length-1+1=2 ^ q.Atoms.length by omega]at b;unfold lbsF;rw[if_pos e];exact b
 .rw[if_neg (by rw[e];decide),if_neg (by rw[e];decide)]
theorem Zcwz{s:Zh}{q:Zc}(h:Zc0 s)(hq:LeQ q):Z5c s q=some (.own 0,[.arr Zbc 1 true ((lbsF s q).map ic)]):=by
 refine Zcse _ _ _ ⟨_,Zi7 q hq,_,Zgp h hq _,?_⟩;rw[Zb7s];unfold lbsF;rcases ft (okQ s q 1)with e|e
 .obtain⟨c,h1,h2⟩:=Zjk h hq e;rw[if_pos e,if_pos e];exact l_sLBs c 0 (Ya _)
 .rw[if_neg (by rw[e];decide),if_neg (by rw[e];decide)]
theorem Zblb{s:Zh}{q:Zc}(h:Zc0 s)(hq:LeQ q):(lbsF s q).length<=16:=by
 unfold lbsF;rcases ft (okQ s q 1)with e|e
 .obtain⟨c,_,_⟩:=Zjk h hq e;rw[if_pos e,Zn6];exact Nat.pow_le_pow_right (by omega:0<2) (Zen c.vq).2
 .rw[if_neg (by rw[e];decide)];exact Ya _
theorem lbs_len{s:Zh}{q:Zc}(e:okQ s q 1=true):(lbsF s q).length=2 ^ q.Atoms.length/\(ubsF s q).length=2 ^ q.Atoms.length:=by
 unfold lbsF ubsF;rw[if_pos e,if_pos e,Zn6,Zn5];exact⟨rfl,rfl⟩
def okB(s:Zh)(q:Zc):Bool:=okQ s q 1 && Zg5 q.Zp q.Atoms (Zbm q.Zp q.Atoms)
def bbR(s:Zh)(q:Zc):AV×List Blk:=if okB s q=true then(.tup [.agg [.own 0,.own 1],Bo true],[.arr Zbc 1 true (((lbsF s q).map Zcx).map ic),.arr Zbc 1 true (((ubsF s q).map Zcx).map ic)])else(.tup [.agg [.t .nil,.t .nil],Bo false],[])
theorem Zcw0{s:Zh}{q:Zc}(h:Zc0 s)(hq:LeQ q):Z46 s q=some (bbR s q):=by
 refine Zcr8 _ _ _ ⟨_,Zlq h hq 1,?_⟩;unfold bbR okB;rcases ft (okQ s q 1)with e|e
 .have l1:=Zblb h hq;have l2:=Zb7t h hq;have b1:=Zcwy h hq;have b2:=Zcwo h hq;rw[if_pos e]at b1 b2;rw[if_pos e,e,Ye];refine⟨_,Zny q hq,_,Zcvs q hq _,?_⟩;rcases ft (Zg5 q.Zp q.Atoms (Zbm q.Zp q.Atoms))with e2|e2
  .rw[if_pos e2,if_pos e2];exact .inr ⟨_,b1,_,Zb7u _ (by omega),.inr ⟨_,b2,_,Zb7u _ (by omega),rfl⟩⟩
  .rw[if_neg (by rw[e2];decide),if_neg (by rw[e2];decide)]
 .rw[if_neg (by rw[e];decide),e,Y4,if_neg (by decide)]
theorem Zcw1{s:Zh}{q:Zc}(h:Zc0 s)(hq:LeQ q):Z5h s q=some (bbR s q):=by
 refine Zcsj _ _ _ ⟨_,Zcwz h hq,_,Zcwp h hq,?_⟩;have l1:=Zblb h hq;unfold bbR okB;rcases ft (okQ s q 1)with e|e
 .have hl:=lbs_len e;have h1:1<=2 ^ q.Atoms.length:=Nat.one_le_two_pow;rw[if_neg (by omega),e,Ye];refine⟨_,Zi7 q hq,_,Zbkq q hq _,?_⟩;rcases ft (Zg5 q.Zp q.Atoms (Zbm q.Zp q.Atoms))with e2|e2
  .rw[if_pos e2,if_pos e2];exact x_sBB _ _ (by omega) (by omega) (by omega)
  .rw[if_neg (by rw[e2];decide),if_neg (by rw[e2];decide)]
 .have e0:lbsF s q=[]:=by unfold lbsF;rw[if_neg (by rw[e];decide)]
  rw[e0,if_pos (by rfl),e,Y4,if_neg (by decide)]
end
end Go.Proofs.YtnnjbejcffjgfaaGreat
