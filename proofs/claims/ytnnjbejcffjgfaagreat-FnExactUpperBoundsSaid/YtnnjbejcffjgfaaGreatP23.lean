/-
  Parts of the proofs for this seat: LL.
-/
import Derived.Test.YtnnjbejcffjgfaaGreatP22
set_option linter.unusedSectionVars false
set_option linter.unusedSimpArgs false
set_option linter.unusedVariables false
set_option maxRecDepth 100000
set_option maxHeartbeats 4000000
namespace Go.Proofs.YtnnjbejcffjgfaaGreat
open Go.AM
theorem Zbla{s:Zf}{q:Zb}(c:Ctx s q)(m:Int):Le (Zbe q m):=by
 have:=Zjo q c.vq m;omega
theorem Zb7l{s:Zf}{q:Zb}{i:Nat}(h:i<q.Atoms.length)(used:Int):degC s q i used=degV (tab s q i) (Zb7 (Zbe q used) 0 (atA q i).Vars):=by
 unfold degC;rw[if_pos h]
theorem Zcwx{s:Zf}{q:Zb}(c:Ctx s q){i:Nat}(h:i<q.Atoms.length)(used:Int):Z1p s q i (Zbe q used)=some (I (degC s q i used),[]):=by
 rw[Zb7l h];exact Zcnz ⟨_,_,_,_,Zsg c h,by omega,_,Ze0 h,_,Zbk6 (by have:=c.vars3 h;omega) (Zbla c used),_,Zb7g (c.lt h) (c.vt h) (c.cols h _),rfl⟩
theorem pw84{f:Nat}(h:f<=4):(1:Int)<=8 ^ f/\(8:Int) ^ f<=4096:=by
 have h1:(8:Nat) ^ f<=8 ^ 4:=Nat.pow_le_pow_right (by decide) h;have h2:1<=(8:Nat) ^ f:=Nat.pos_of_ne_zero (by simp);have e:((8:Int) ^ f)=(((8:Nat) ^ f:Nat):Int):=by push_cast;rfl
 omega
def trm(s:Zf)(q:Zb)(f:Nat)(used c:Int)(i:Nat):Int:=degC s q i used*chG s q f (orI used (shlI 1 i)) (Zr c (shlI 1 i))
theorem trm_w{s:Zf}{q:Zb}(c:Ctx s q){f:Nat}(hf:f<=4){used left:Int}(hl:M16 left){i:Nat}(hi:i<4)(hm:Zx left i=true):w (degC s q i used*chG s q f (orI used (shlI 1 i)) (Zr left (shlI 1 i)))=trm s q f used left i:=by
 obtain⟨a,rfl⟩:=m16 hl;have h1:=Zb7k c i used;have h2:=chG_in c f (orI used (shlI 1 i)) (Zr (a.1:Int) (shlI 1 i)) (Zlu a ⟨i,hi⟩ hm).1;have h3:=pw84 hf;have h4:=Int.mul_nonneg h1.1 h2.1;have h5:=Int.mul_le_mul h1.2 h2.2 h2.1 (by omega);exact w_in ⟨by omega,by omega⟩
theorem Zb7m{s:Zf}{q:Zb}{f:Nat}{used left:Int}(h:left≠0):chG s q (f+1) used left=(mskL left 0 4).foldl (λb i=>bst b (trm s q f used left i)) (-1):=by
 rw[chG,if_neg h];rfl
theorem l_ich{s:Zf}{q:Zb}(c:Ctx s q){f:Nat}(hf:f<=4){used left:Int}(hl:M16 left)(cc:left<2 ^ q.Atoms.length)(ih:∀(u l:Int),M16 l->l<2 ^ q.Atoms.length->popc l<=f->Zpq s q u l=some (I (chG s q f u l),[]))(hp:popc left<=f+1):∀i,i<=(mskL left 0 4).length->∀b,Zmk s q ((mskL left 0 4).map λn:Nat=>(n:Int)) used left b (mskL left 0 4).length i=some (I (((mskL left 0 4).drop i).foldl (λb i=>bst b (trm s q f used left i)) b),[]):=by
 have hlen:=Zg8 left 4 0;refine down _ ?_ ?_
 .intro b;refine Zbzz ?_;rw[if_neg (by omega),Yg];rfl
 .intro i hi ihi b;obtain⟨_,hi4,hm⟩:=Zee (Yb hi);have hin:(mskL left 0 4)[i]<q.Atoms.length:=by
   rcases Ybi (mskL left 0 4)[i] q.Atoms.length with h|h
   .exact h
   .exfalso;obtain⟨a,rfl⟩:=m16 hl;have hn:=c.n4;have ha:a.1<2 ^ q.Atoms.length:=by
     have e:((2:Int) ^ q.Atoms.length)=(((2:Nat) ^ q.Atoms.length:Nat):Int):=by push_cast;rfl
     omega
    have:=f_hi a ⟨q.Atoms.length,by omega⟩ ⟨(mskL (a.1:Int) 0 4)[i],by omega⟩ ha h;simp only at this;rw[this]at hm;cases hm
  have hnext:M16 (Zr left (shlI 1 ((mskL left 0 4)[i]:Nat)))/\popc (Zr left (shlI 1 ((mskL left 0 4)[i]:Nat)))+1=popc left/\Zr left (shlI 1 ((mskL left 0 4)[i]:Nat))<=left:=by
   obtain⟨a,rfl⟩:=m16 hl;have h1:=Zlu a ⟨(mskL (a.1:Int) 0 4)[i],by omega⟩ hm;exact⟨h1.1,h1.2,f_le a ⟨(mskL (a.1:Int) 0 4)[i],by omega⟩⟩
  refine Zbzz ?_;rw[if_pos (by omega),wS hi (by omega),Yd hi,Yc0];refine⟨by omega,_,gM (m:=0) hi,_,Z52 q used c.lq c.vq,_,Zcwx c hin used,by omega,_,ih _ _ hnext.1 (by omega) (by omega),?_⟩;rw[trm_w c hf hl (by omega) hm];by_cases h1:b<0
  .rw[if_pos h1,show bst b (trm s q f used left (mskL left 0 4)[i])=trm s q f used left (mskL left 0 4)[i] by unfold bst;rw[if_pos (.inl h1)]];exact ihi _
  .rw[if_neg h1];by_cases h2:trm s q f used left (mskL left 0 4)[i]<b
   .rw[if_pos h2,show bst b (trm s q f used left (mskL left 0 4)[i])=trm s q f used left (mskL left 0 4)[i] by unfold bst;rw[if_pos (.inr h2)]];exact ihi _
   .rw[if_neg h2,show bst b (trm s q f used left (mskL left 0 4)[i])=b by unfold bst;rw[if_neg (by rintro(h|h);exact h1 h;exact h2 h)]];exact ihi _
theorem Zcwy{s:Zf}{q:Zb}(c:Ctx s q):∀(f:Nat),f<=5->∀(used cc:Int),M16 cc->cc<2 ^ q.Atoms.length->popc cc<=f->Zpq s q used cc=some (I (chG s q f used cc),[]):=by
 intro f
 induction f with
 |zero =>
  intro _ used cc hl _ hp;refine Zbz0 ?_;have h0:cc=0:=by
   obtain⟨a,rfl⟩:=m16 hl;by_cases h:a.1=0
   .omega
   .have:=(Zy5 a h).1;omega
  rw[if_pos h0];rfl
 |succ f ih =>
  intro hf used cc hl hlt hp;refine Zbz0 ?_;by_cases h0:cc=0
  .rw[if_pos h0,chG,if_pos h0]
  rw[if_neg h0,Zb7m h0];refine .inr ⟨_,Zlt hl,?_⟩;have:=l_ich c (f:=f) (by omega) (used:=used) hl hlt (ih (by omega)) hp 0 (Ya _) (-1);unfold Zls;rw[Z6u,Yo];simpa using this
theorem popc4{m:Int}(h:M16 m):popc m<=4:=by
 obtain⟨a,rfl⟩:=m16 h;exact(f_pop a).2.2.2
theorem Zcwz{s:Zf}{q:Zb}(c:Ctx s q){m:Int}(h1:1<=m)(h2:m<2 ^ q.Atoms.length)(le:okQ s q m=true):Zuk s q m=some (I (chG s q 4 0 m),[]):=by
 have h16:=Zdo (by omega) h2 c.n4.2;refine Zcn0 ⟨_,Zjp c.le c.lq m,?_⟩;rw[le,if_pos rfl];exact⟨_,Zcwy c 4 (by omega) 0 m h16 h2 (popc4 h16),rfl⟩
theorem Zn7:∀(m u:Fin 16),andI (u.1:Int) m.1=u.1->M16 (Zr (m.1:Int) u.1)/\((u.1:Int)=m.1↔Zr (m.1:Int) u.1=0):=by decide +kernel
theorem f_nxt:∀(m u:Fin 16) (i:Fin 4),andI (u.1:Int) m.1=u.1->(Zx (Zr (m.1:Int) u.1) i.1=(Zx (m.1:Int) i.1 && !Zx (u.1:Int) i.1))/\(Zx (m.1:Int) i.1=true->andI (orI (u.1:Int) (shlI 1 i.1)) m.1=orI (u.1:Int) (shlI 1 i.1))/\M16 (orI (u.1:Int) (shlI 1 i.1))/\Zr (m.1:Int) (orI (u.1:Int) (shlI 1 i.1))=Zr (Zr (m.1:Int) u.1) (shlI 1 i.1):=by decide +kernel
theorem l_sch{s:Zf}{q:Zb}(c:Ctx s q){f:Nat}(hf:f<=4){mask used:Int}(hm:M16 mask)(cc:mask<2 ^ q.Atoms.length)(hu:M16 used)(hs:andI used mask=used)(ih:∀(u:Int),M16 u->andI u mask=u->popc (Zr mask u)<=f->Zq5 ((List.range q.Atoms.length).map λi=>Zt (tab s q i)) q mask u=some (I (chG s q f u (Zr mask u)),[]))(hp:popc (Zr mask used)<=f+1):∀i,i<=q.Atoms.length->∀b,Ziz q ((List.range q.Atoms.length).map λi=>Zt (tab s q i)) mask used b i=some (I ((mskL (Zr mask used) i (q.Atoms.length-i)).foldl (λb i=>bst b (trm s q f used (Zr mask used) i)) b),[]):=by
 have hn4:=c.n4;have hl16:M16 (Zr mask used):=by
  obtain⟨a,rfl⟩:=m16 hm;obtain⟨u,rfl⟩:=m16 hu;exact(Zn7 a u hs).1
 refine down _ ?_ ?_
 .intro b;refine Zb2e ?_;rw[if_neg (by omega),Y6];rfl
 .intro i hi ihi b;have hb:Zx (Zr mask used) i=(Zx mask i && !Zx used i)/\(Zx mask i=true->andI (orI used (shlI 1 i)) mask=orI used (shlI 1 i))/\M16 (orI used (shlI 1 i))/\Zr mask (orI used (shlI 1 i))=Zr (Zr mask used) (shlI 1 i):=by
   obtain⟨a,rfl⟩:=m16 hm;obtain⟨u,rfl⟩:=m16 hu;exact f_nxt a u ⟨i,by omega⟩ hs
  refine Zb2e ?_;rw[if_pos (by omega),wS hi (by omega),show q.Atoms.length-i=(q.Atoms.length-(i+1))+1 by omega,mskL,hb.1];refine⟨by omega,?_⟩;by_cases e:andI (shrI mask i) 1=1
  .have e':Zx mask i=true:=decide_eq_true e;rw[if_pos e,e',Ye];rcases ft (Zx used i)with e2|e2
   .rw[if_neg (λhc=>by rw[(Zg6 hu (by omega)).1 hc]at e2;cases e2),e2,if_neg (by decide)];exact ihi b
   .have hleft:Zx (Zr mask used) i=true:=by rw[hb.1,e',e2];rfl
    rw[if_pos ((Zg6 hu (by omega)).2 e2),e2,if_pos (by rfl),Yc0];have hg:((List.range q.Atoms.length).map λi=>Zt (tab s q i))[((i:Nat):Int).toNat]?=some (Zt (tab s q i)):=by
     rw[Yh,Ybh,List.getElem?_range hi];rfl
    have hpn:popc (Zr mask (orI used (shlI 1 i)))<=f:=by
     rw[hb.2.2.2];obtain⟨a,ha⟩:=m16 hl16;rw[ha]at hp hleft|-;have:=(Zlu a ⟨i,by omega⟩ hleft).2;simp only at this;omega
    have hd:((degS (tab s q i) (Zb7 (Zbe q used) 0 (atA q i).Vars))++[0])[0]?=some (degC s q i used):=by
     rw[Zb7l hi];unfold degV;cases degS (tab s q i) (Zb7 (Zbe q used) 0 (atA q i).Vars)<;>rfl
    have hlen:=Zy4 (c.vt hi) (Zb7 (Zbe q used) 0 (atA q i).Vars);have hvl:Zq0 (Zbo (pV used q.Atoms))=some (.own 0,[.arr 3 1 true ((Zbe q used).map ic)]):=by
     have:=Zb7e (pV used q.Atoms) 0 (by omega) [] (by simp);have e4:=vars4 q c.vq used;refine Zb2b ?_;rw[Yb2]at this;rw[show 4-0=4 from rfl,e4]at this;exact this
    refine⟨by omega,_,hg,_,Ze0 hi,_,Z53 q used c.lq (Ztd c.vq),_,hvl,_,Zbk7 (by have:=c.vars3 hi;omega) (Zbla c used),_,x_13 (c.vt hi) (c.cols hi _),by omega,_,hd,_,ih _ hb.2.2.1 (hb.2.1 e') hpn,?_⟩;rw[hb.2.2.2,trm_w c hf hl16 (by omega) hleft];by_cases h1:b<0
    .rw[if_pos h1,show bst b (trm s q f used (Zr mask used) i)=trm s q f used (Zr mask used) i by unfold bst;rw[if_pos (.inl h1)]];exact ihi _
    .rw[if_neg h1];by_cases h2:trm s q f used (Zr mask used) i<b
     .rw[if_pos h2,show bst b (trm s q f used (Zr mask used) i)=trm s q f used (Zr mask used) i by unfold bst;rw[if_pos (.inr h2)]];exact ihi _
     .rw[if_neg h2,show bst b (trm s q f used (Zr mask used) i)=b by unfold bst;rw[if_neg (by rintro(h|h);exact h1 h;exact h2 h)]];exact ihi _
  .have e':Zx mask i=false:=decide_eq_false e;rw[if_neg e,e',Y4,if_neg (by decide)];exact ihi b
theorem Zcw0{s:Zf}{q:Zb}(c:Ctx s q){mask:Int}(hm:M16 mask)(cc:mask<2 ^ q.Atoms.length):∀(f:Nat),f<=5->∀(used:Int),M16 used->andI used mask=used->popc (Zr mask used)<=f->Zq5 ((List.range q.Atoms.length).map λi=>Zt (tab s q i)) q mask used=some (I (chG s q f used (Zr mask used)),[]):=by
 intro f;have key:∀used,M16 used->andI used mask=used->M16 (Zr mask used)/\(used=mask↔Zr mask used=0):=by
  intro used hu hs;obtain⟨a,rfl⟩:=m16 hm;obtain⟨u,rfl⟩:=m16 hu;exact Zn7 a u hs
 induction f with
 |zero =>
  intro _ used hu hs hp;obtain⟨k1,k2⟩:=key used hu hs;refine Zb2f ?_;have h0:Zr mask used=0:=by
   obtain⟨a,ha⟩:=m16 k1;rw[ha]at hp|-;by_cases h:a.1=0
   .omega
   .have:=(Zy5 a h).1;omega
  rw[if_pos (k2.2 h0)];rfl
 |succ f ih =>
  intro hf used hu hs hp;obtain⟨k1,k2⟩:=key used hu hs;refine Zb2f ?_;by_cases h0:used=mask
  .rw[if_pos h0,chG,if_pos (k2.1 h0)]
  have hne:Zr mask used≠0:=λhc=>h0 (k2.2 hc)
  rw[if_neg h0,Zb7m hne];have hn4:=c.n4;have hlt:Zr mask used<2 ^ q.Atoms.length:=by
   have:Zr mask used<=mask:=by
    obtain⟨a,rfl⟩:=m16 hm;obtain⟨u,rfl⟩:=m16 hu;exact f_le2 a u
   omega
  have:=l_sch c (f:=f) (by omega) hm cc hu hs (ih (by omega)) hp 0 (Ya _) (-1);rw[Nat.sub_zero,<-msk_n k1.1 hlt hn4.2]at this;exact this
theorem Zcw1{s:Zf}{q:Zb}(c:Ctx s q){m:Int}(h1:1<=m)(h2:m<2 ^ q.Atoms.length)(le:okQ s q m=true):Zww s q m=some (I (chG s q 4 0 m),[]):=by
 have hn4:=c.n4;have h16:=Zdo (by omega) h2 c.n4.2;have e0:Zr m 0=m:=by obtain⟨a,rfl⟩:=m16 h16;exact f_not0 a
 have main:∀i,i<=q.Atoms.length->Zwx s q ((List.range i).map λi=>Zt (tab s q i)) m i=some (I (chG s q 4 0 m),[]):=by
  refine down _ ?_ ?_
  .refine Zb2g ?_;rw[if_neg (by omega)];refine⟨chG s q 4 0 m,?_,rfl⟩;have:=Zcw0 c h16 h2 4 (by omega) 0 ⟨by omega,by omega⟩ (by obtain⟨a,rfl⟩:=m16 h16;exact f_and0 a) (by rw[e0];exact popc4 h16);rw[e0]at this;exact this
  .intro i hi ih;refine Zb2g ?_;rw[if_pos (by omega),wS hi (by omega)];rw[Ybs,Y0]at ih;exact⟨_,_,_,_,x_16S c hi,by simp;omega,ih⟩
 refine Zcq1 ⟨_,Zgp c.le c.lq m,?_⟩;rw[le,if_pos rfl];exact main 0 (Ya _)
theorem ch_in{s:Zf}{q:Zb}(c:Ctx s q){m:Int}(h:M16 m):0<=chG s q 4 0 m:=(chG_in c 4 0 m h).1
def pairV(s:Zf)(q:Zb)(a b:Nat):Int:=pairS (degS (tab s q a) (Zb7 (Zed q (shlI 1 a) (shlI 1 b)) 0 (atA q a).Vars)) (degS (tab s q b) (Zb7 (Zed q (shlI 1 a) (shlI 1 b)) 0 (atA q b).Vars))
theorem Zy6{s:Zf}{q:Zb}(c:Ctx s q){i:Nat}(h:i<q.Atoms.length):MQ q.Atoms (shlI 1 i):=by
 have hn4:=c.n4;have h1:(2:Nat) ^ i<2 ^ q.Atoms.length:=Nat.pow_lt_pow_right (by decide) h;rw[Zsc (n:=(i:Int)) (by omega) (by omega),Yh];have e:∀k:Nat,((2:Int) ^ k)=(((2:Nat) ^ k:Nat):Int):=λk=>by push_cast;rfl
 refine⟨?_,?_⟩
 .rw[e];exact Int.natCast_nonneg _
 .exact_mod_cast h1
theorem Zb7n{s:Zf}{q:Zb}(c:Ctx s q):okQ s q 1=true/\okQ s q (Zbm q.Zp q.Atoms)=true:=by
 have h1:=Zkc c.vq;have hn:=c.n4;have h2:(2:Nat) ^ 1<=2 ^ q.Atoms.length:=Nat.pow_le_pow_right (by decide) hn.1;have e:((2:Int) ^ q.Atoms.length)=(((2:Nat) ^ q.Atoms.length:Nat):Int):=by push_cast;rfl
 have hf:Zbm q.Zp q.Atoms=2 ^ q.Atoms.length-1:=by unfold Zbm;rw[if_pos c.vq,h1.2.1]
 unfold okQ;rw[c.st,c.qf,hf,Ye,Ye,Ye,Ye];exact⟨Zy.2 ⟨by omega,by omega⟩,Zy.2 ⟨by omega,by omega⟩⟩
theorem Z6v{s:Zf}{q:Zb}(c:Ctx s q)(a b:Int):Le (Zed q a b):=by
 have:=Zjo q c.vq a;have h2:=Yct (has (Zbe q b)) (Zbe q a);unfold Zed;omega
theorem Zcw2{s:Zf}{q:Zb}(c:Ctx s q){a b:Nat}(ha:a<q.Atoms.length)(hb:b<q.Atoms.length)(cc:a≠b):Zup s q a b=some (I (pairV s q a b),[]):=by
 have hn4:=c.n4;have l1:=Zy4 (c.vt ha) (Zb7 (Zed q (shlI 1 a) (shlI 1 b)) 0 (atA q a).Vars);have l2:=Zy4 (c.vt hb) (Zb7 (Zed q (shlI 1 a) (shlI 1 b)) 0 (atA q b).Vars);refine Zcn8 ⟨_,Zjp c.le c.lq 1,?_⟩;rw[(Zb7n c).1,if_pos rfl,w_in (x:=(q.Atoms.length:Int)-1) ⟨by omega,by omega⟩];refine⟨_,Zbv _ _ _,?_⟩;rw[show inR (a:Int) 0 ((q.Atoms.length:Int)-1)=true from Zy.2 ⟨by omega,by omega⟩,if_pos rfl];refine⟨_,Zbv _ _ _,?_⟩;rw[show inR (b:Int) 0 ((q.Atoms.length:Int)-1)=true from Zy.2 ⟨by omega,by omega⟩,if_pos rfl,if_neg (by omega)];exact⟨by omega,by omega,_,Zcwr q c.lq c.vq _ _ (Zy6 c ha) (Zy6 c hb),_,_,_,_,Zsg c ha,by omega,_,Ze0 ha,_,Zbk6 (by have:=c.vars3 ha;omega) (Z6v c _ _),_,Zbky (c.lt ha) (c.vt ha) (c.cols ha _),_,_,_,_,Zsg c hb,by omega,_,Ze0 hb,_,Zbk6 (by have:=c.vars3 hb;omega) (Z6v c _ _),_,Zbky (c.lt hb) (c.vt hb) (c.cols hb _),_,Zcvg (by omega) (by omega),rfl⟩
theorem Zcw3{s:Zf}{q:Zb}(c:Ctx s q){a b:Nat}(ha:a<q.Atoms.length)(hb:b<q.Atoms.length)(cc:a≠b):Zrc s q a b=some (I (pairV s q a b),[]):=by
 have hn4:=c.n4;have l1:=Zy4 (c.vt ha) (Zb7 (Zed q (shlI 1 a) (shlI 1 b)) 0 (atA q a).Vars);have l2:=Zy4 (c.vt hb) (Zb7 (Zed q (shlI 1 a) (shlI 1 b)) 0 (atA q b).Vars);refine Zcq9 ⟨_,Zjc _ c.lq,_,Zgp c.le c.lq _,?_⟩;rw[(Zb7n c).2,if_pos rfl,w_in (x:=(q.Atoms.length:Int)-1) ⟨by omega,by omega⟩];refine⟨_,Z8 _ _ _,?_⟩;rw[show inR (a:Int) 0 ((q.Atoms.length:Int)-1)=true from Zy.2 ⟨by omega,by omega⟩,if_pos rfl];refine⟨_,Z8 _ _ _,?_⟩;rw[show inR (b:Int) 0 ((q.Atoms.length:Int)-1)=true from Zy.2 ⟨by omega,by omega⟩,if_pos rfl,if_neg (by omega)];exact⟨by omega,by omega,_,Zb7f q c.lq c.vq _ _ (Zy6 c ha) (Zy6 c hb),_,_,_,_,x_16S c ha,by omega,_,Ze0 ha,_,Zbk7 (by have:=c.vars3 ha;omega) (Z6v c _ _),_,Zbk4 (c.lt ha) (c.vt ha) (c.cols ha _),_,_,_,_,x_16S c hb,by omega,_,Ze0 hb,_,Zbk7 (by have:=c.vars3 hb;omega) (Z6v c _ _),_,Zbk4 (c.lt hb) (c.vt hb) (c.cols hb _),_,Zcvh (by omega) (by omega),rfl⟩
end Go.Proofs.YtnnjbejcffjgfaaGreat
