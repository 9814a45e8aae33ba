/-
  Parts of the proofs for this seat: L33.
-/
import Derived.Test.YtgbipcfdgfjplaaGreatP29
import Derived.Test.YtgbipcfdgfjplaaGreatP30
set_option linter.unusedSectionVars false
set_option linter.unusedSimpArgs false
set_option linter.unusedVariables false
set_option maxRecDepth 100000
set_option maxHeartbeats 4000000
namespace Go.Proofs.YtgbipcfdgfjplaaGreat
open Go.AM
theorem dec_u8(ts:V4)(h:HasShs [.int .u8] ts):∃n:Int,ts=kc .u8 n/\True:=by
 obtain⟨t,us,rfl,h1,h2⟩:=ZqT h;cases dec_nil h2
 cases h1 with
 |int h=>exact⟨_,rfl,trivial⟩
theorem decB{t:T}(h:HasSh (.slice [.int .u8]) t):∃xs:WA,t=.lst 1 (xs.map (kc .u8))/\OkL (λ_=>True) xs:=Z3u dec_u8 h
theorem ZCY{c:Zf}(g:GC c):∃(c':Zf) (n:Int),ZeA c=some (I n,[cB c'])/\GC c':=by
 obtain⟨c1,b,e1,g1⟩:=U1 g 12;rcases tf b with hb|hb
 .subst hb;obtain⟨c2,n,e2,g2,_⟩:=Uc g1 [5,20,60,200,1000] (by simp) (by simp);obtain⟨c3,k,e3,g3,_⟩:=ZZ g2 40;exact⟨c3,_,Zxn _ _ ⟨c1,false,e1,by rw[Yb (by simp)];exact⟨c2,_,n,e2,c3,k,e3,rfl⟩⟩,g3⟩
 .subst hb;obtain⟨c2,n,e2,g2,_⟩:=Uc g1 [(-1),0,1000000000000,1000000000001,9223372036854775807] (by simp) (by simp);exact⟨c2,_,Zxn _ _ ⟨c1,true,e1,by rw[Ya rfl];exact⟨c2,_,n,e2,rfl⟩⟩,g2⟩
theorem ZCZ(a:WA)(ha:a.length<=1048576):∃(m:Zm) (d:Zn) (q:Ze) (p:Zo) (b:Int) (l:List Zd),ZeL a=some (.tup [.agg (m.c.map .t),.agg (d.c.map .t),.agg (q.c.map .t),.agg (p.c.map .t),I b,L 2 (l.map Zd.c)],[])/\LeM m/\LeD d/\LeQ q/\l.length<=100:=by
 obtain⟨c,m,d,q,p,e,g,hm,⟨hd,hd2⟩,hq,hp⟩:=ZC9 a ha;obtain⟨c0,b,e0,g0⟩:=ZCY g;obtain⟨c1,l,e1,g1,h1,h2⟩:=ZCA g0 d (Zbb.le hd hd2) q hq;exact⟨m,d,q,p,b,l,Z7q _ _ ⟨c,m,d,q,p,e,c0,b,e0,c1,l,e1,rfl⟩,hm.le,Zbb.le hd hd2,hq,h2⟩
def SmA(a:ZV):Prop:=a.Vars.length<=100/\a.Rows.length<=5000/\∀r∈a.Rows,r.length<=100
theorem Z2d{a:ZV}(h:SmA a):Zda a a=some (Bo true,[]):=by
 obtain⟨h1,h2,h3⟩:=h;refine Z9l _ _ _ ⟨_,Zgp _ _ (by omega) (by omega),?_⟩;rw[Zd1,Ya rfl,Ya rfl]
 have:∀i,i<=a.Rows.length->ZfT a a i=some (Bo true,[]):=by
  refine down _ ?_ ?_
  .exact Zzl _ _ _ _ (by rw[Yb (by omega)])
  .intro i hi ih;have:=h3 _ (Yh hi);refine Zzl _ _ _ _ ?_;rw[Ya (by omega),wS hi (by omega)];exact⟨by omega,_,gE hi,_,gE hi,_,Zgp _ _ (by omega) (by omega),by rw[Zd1,Ya rfl];exact ih⟩
 exact this 0 (Yd _)
theorem Z2e{r:Run}(h:SmA r.ZV)(hs:r.Seen.length<=1000):ZfU r r=some (Bo true,[]):=by
 refine Z9p ?_;rw[Ya rfl,Ya rfl,Ya rfl,Ya rfl];refine⟨_,Z2d h,?_⟩;rw[Ya rfl]
 have:∀i,i<=r.Seen.length->ZaQ r r i=some (Bo true,[]):=by
  refine down _ ?_ ?_
  .exact Zzp (by rw[Yb (by omega)])
  .intro i hi ih;refine Zzp ?_;rw[Ya (by omega),wS hi (by omega)];exact⟨by omega,_,gE hi,_,gE hi,by rw[Ya ⟨rfl,rfl,rfl⟩];exact ih⟩
 exact this 0 (Yd _)
theorem x_same{l:WA}(h:l.length<=1000):ZfW l l=some (Bo true,[]):=by
 refine Z9o _ _ _ ?_;rw[Ya rfl]
 have:∀i,i<=l.length->ZfX l l i=some (Bo true,[]):=by
  refine down _ ?_ ?_
  .exact Zzm _ _ _ _ (by rw[Yb (by omega)])
  .intro i hi ih;refine Zzm _ _ _ _ ?_;rw[Ya (by omega),wS hi (by omega)];exact⟨by omega,_,gE hi,_,gE hi,by rw[Ya rfl];exact ih⟩
 exact this 0 (Yd _)
theorem ZDa:ZfV []=some (Bo true,[]):=Z9n _ _ (by rw[Ya (by decide)];exact Z9m _ _ _ (by rw[Yb (by omega)]))
def U7(s:Zb)(d:Bool)(c st:Int)(cc:List Zg):Run:=⟨d,c,st,cc,if d=true then⟨s.Vars,W9 s.Rows⟩else⟨[],[]⟩⟩
theorem ZDb(nl:Bool)(s:Zb)(K:Bool×Int×Int×List Zg×List Zd):Xa nl s K=(.tup [.agg ((U7 s K.1 K.2.1 K.2.2.1 K.2.2.2.1).c.map .t),L 2 (K.2.2.2.2.map Zd.c),Bo true],[]):=by
 obtain⟨d,c,st,seen,kl⟩:=K;cases d<;>rfl
theorem ZDc(nl:Bool)(s:Zb)(K:Bool×Int×Int×List Zg):Ug nl s K=(.tup [.agg ((U7 s K.1 K.2.1 K.2.2.1 K.2.2.2).c.map .t),Bo true],[]):=by
 obtain⟨d,c,st,seen⟩:=K;cases d<;>rfl
theorem Z2f{m:Zm}{l:List Zb}{info:List Za}{rs:WA}{bud:Int}:∀(xs:List Zj) (ys:List Za) (i:Nat) (c s:Int) (e:List Zg) (kl:List Zd),(Xf m l info rs bud xs ys i c s e kl).2.2.2.1.length<=e.length+xs.length/\(kl.length<=8->(Xf m l info rs bud xs ys i c s e kl).2.2.2.2.length<=8)
 |[],ys,i,c,s,e,kl=>by unfold Xf;exact⟨by simp,id⟩
 |x::xs,[],i,c,s,e,kl=>by unfold Xf;exact⟨by simp,id⟩
 |x::xs,y::ys,i,c,s,e,kl=>by
  have ih:=λc s e kl=>Z2f (m:=m) (l:=l) (info:=info) (rs:=rs) (bud:=bud) xs ys (i+1) c s e kl
  unfold Xf;split
  .obtain⟨h1,h2⟩:=ih c s e kl;exact⟨by simp only[Ys];omega,h2⟩
  .split
   .refine⟨?_,id⟩;show(if _ then(if _ then e else e++[_])else e).length<=_;split
    .split<;>simp
    .simp
   .split
    .obtain⟨h1,h2⟩:=ih (w (c+coK m l rs x y i)) (w (s+1)) (e++[Jx l y i]) (kpU ⟨y.Mask,Zz l i⟩ kl);exact⟨by simp only[Ym,Ys,Ybu]at h1|-;omega,λh=>h2 (Kn _ h)⟩
    .obtain⟨h1,h2⟩:=ih (w (c+coK m l rs x y i)) (w (s+1)) e kl;exact⟨by simp only[Ys];omega,h2⟩
theorem smA{s:Zb}(h:VS s)(d:Bool)(c st:Int)(seen:List Zg):SmA (U7 s d c st seen).ZV:=by
 unfold U7 SmA;cases d
 .simp
 .have hl:=Z00 (VW s.Rows);have hp:=(Zd2 s.Rows).length_eq;have h4:=h.four;have h5:=h.len;refine⟨by show s.Vars.length<=_;omega,by show(W9 s.Rows).length<=_;unfold W9;omega,λr hr=>?_⟩;have hr:r∈W9 s.Rows:=hr;unfold W9 at hr;have:=h.row4 ((Zd2 s.Rows).mem_iff.1 ((ZjD _ _).1 hr));omega
open Classical in
theorem Z2h(a:WA)(ha:OkL (λ_=>True) a):C Z33 [L 1 (a.map (kc .u8))] []=some (Bo true,[]):=by
 refine Z9q a _ ⟨_,Z6B _ _ rfl,?_⟩;by_cases hb:1048576<(a.length:Int)
 .rw[Ya (by simpa using hb)]
 rw[Yb (by simpa using hb)];obtain⟨m,d,q,p,bud,kept,e1,hm,hd,hq,hk⟩:=ZCZ a (by omega);have f1:=ZCD hm hd hq p bud kept (by omega);have f2:=ZCE hm hd hq p bud kept (by omega);have g1:=Z16 m hm q hq p kept (by omega);have g2:=Z17 m hm q hq p kept (by omega);have g3:=ZCz m q p kept
 -- the WC steps are the same;then what follows
 have two:∀(r:Run) (more:List Zd) (is:Bool),more.length<=100->(if is=true then UV m d q p r bud kept more 0=some (Bo true,[])else r.Cost=0)->KZ m d q p r bud kept more is more 0=some (Bo true,[]):=by
  intro r more is hmore hnext
  have:∀i,i<=more.length->KZ m d q p r bud kept more is more i=some (Bo true,[]):=by
   refine down _ ?_ ?_
   .refine Zzs ?_;rw[Yb (by omega)];have fin:(if is=true then UV m d q p r bud kept more 0=some (Bo true,[])else some (Bo (decide (r.Cost=0)),([]:V1))=some (Bo true,[])):=by
     rcases tf is with h|h
     .rw[h]at hnext|-;simp at hnext|-;rw[hnext]
     .rw[h]at hnext|-;simpa using hnext
    cases hr:WC m q p kept with
    |none =>
     rw[hr]at g1 g2
     exact .inl ⟨g1,[],g2,_,ZDa,by rw[Ya rfl];exact fin⟩
    |some rs =>
     rw[hr]at g1 g2;exact .inr ⟨rs,g1,rs,g2,_,x_same (by have:=g3 rs hr;omega),by rw[Ya rfl];exact fin⟩
   .intro i hi ih;refine Zzs ?_;rw[Ya (by omega),wS hi (by omega)];exact⟨by omega,_,gE hi,_,gE hi,by rw[Ya ⟨rfl,rfl⟩];exact ih⟩
  exact this 0 (Yd _)
 -- what is kept
 have last:∀(more:List Zd),more.length<=100->(∀k∈more,Vt d q k.Mask=some (I k.Size,[]))->ZaS d q more 0=some (Bo true,[]):=by
  intro more hmore hall
  have:∀i,i<=more.length->ZaS d q more i=some (Bo true,[]):=by
   refine down _ ?_ ?_
   .exact Zzo _ _ _ _ _ (by rw[Yb (by omega)])
   .intro i hi ih;refine Zzo _ _ _ _ _ ?_;rw[Ya (by omega),wS hi (by omega)];exact⟨by omega,_,gE hi,_,hall _ (Yh hi),by rw[Ya rfl];exact ih⟩
  exact this 0 (Yd _)
 -- all that was kept before is true,or the law asks no more
 have one:∀(r:Run) (more:List Zd),((∀k∈kept,Vt d q k.Mask=some (I k.Size,[]))->UV m d q p r bud kept more kept.length=some (Bo true,[]))->UV m d q p r bud kept more 0=some (Bo true,[]):=by
  intro r more hend
  have:∀i,i<=kept.length->(∀j (h:j<kept.length),j<i->Vt d q kept[j].Mask=some (I kept[j].Size,[]))->UV m d q p r bud kept more i=some (Bo true,[]):=by
   refine down _ ?_ ?_
   .intro H;refine hend λk hk=>?_
    obtain⟨j,hj,rfl⟩:=Ycm hk;exact H j hj hj
   .intro i hi ih H;obtain⟨n,hn⟩:=ZzX d hd q hq kept[i].Mask;refine Zzn _ _ _ _ _ _ _ _ _ _ ?_;rw[Ya (by omega),wS hi (by omega)];refine⟨by omega,_,gE hi,n,hn,?_⟩;by_cases hs:kept[i].Size=n
    .rw[Ya hs];refine ih λj hj hji=>?_
     rcases Nat.lt_succ_iff_lt_or_eq.1 hji with c|c
     .exact H j hj c
     .subst c;rw[hs];exact hn
    .rw[Yb hs]
  exact this 0 (Yd _) (λj _ h=>absurd h (Nat.not_lt_zero _))
 refine⟨m,d,q,p,bud,kept,e1,?_⟩;by_cases hrr:∃s K,rrF m d q p bud kept=some (s,K)
 .obtain⟨s,K,hr⟩:=hrr;rw[hr]at f1 f2;have f1:Za8 m d q p bud kept=some (Xa false s K):=f1;have f2:ZaP m d q p bud kept=some (Xa true s K):=f2;rw[ZDb]at f1 f2
  -- what the run is
  have hr0:=hr;unfold rrF at hr;split at hr
  .cases hr
  rename_i info hpi;split at hr
  rotate_left
  .cases hr
  rename_i hc;obtain⟨hf,hadm,hbud,h8⟩:=hc;have P:PI q p info:=⟨hpi⟩;have hg:=Zd4 hf P;have R:VN q p info (XN d q p.Steps info):=⟨P,hg.1,hg.2⟩;have hv:=R.last.2;simp only[Ybo,Ybr]at hr;obtain⟨hs,hK⟩:=hr;have hs2:VS s:=by rw[<-hs];exact hv
  have sk:=Z2f (m:=m) (l:=XN d q p.Steps info) (info:=info) (rs:=(WC m q p kept).getD []) (bud:=bud) p.Steps info 0 0 0 [] kept;rw[hK]at sk;have h14:=P.val;have hmore:K.2.2.2.2.length<=8:=sk.2 h8;refine⟨_,_,_,f1,_,_,_,f2,rfl,_,Z2e (smA hs2 _ _ _ _) (by have:=sk.1;show K.2.2.2.1.length<=_;simp at this;omega),rfl,rfl,two _ _ _ (by omega) ?_⟩;rw[Ya rfl];refine one _ _ λhall=>?_
  have law:=ZCX hm hd hq hf P hadm hbud hall;simp only at law;rw[hK]at law;obtain⟨l1,l2,l3⟩:=law;have f3:Zgb m d q p bud=some (Ug true s (runF m (XN d q p.Steps info) bud p.Steps info 0 0 0 [])):=by
   have:=ZC4 hm hd hq p bud;unfold rwbF at this;rw[hpi]at this;simp only at this;rw[Ya ⟨hf,hadm,hbud⟩,hs]at this;exact this
  rw[ZDc]at f3;generalize runF m (XN d q p.Steps info) bud p.Steps info 0 0 0 []=F at l1 l2 f3;refine Zzn _ _ _ _ _ _ _ _ _ _ ?_;rw[Yb (by omega)];refine⟨_,_,f3,?_⟩;rw[Yb (show ¬(U7 s F.1 F.2.1 F.2.2.1 F.2.2.2).Cost<(U7 s K.1 K.2.1 K.2.2.1 K.2.2.2.1).Cost from λh=>absurd l1 (Int.not_le.2 h))];have fin:=last K.2.2.2.2 (by omega) l3;rcases tf F.1 with hF|hF
  .rw[Yb (show ¬(U7 s F.1 F.2.1 F.2.2.1 F.2.2.2).Done=true from λh=>by rw[show F.1=true from h]at hF;cases hF)];exact fin
  .have hKd:=l2 hF;rw[Ya (show(U7 s F.1 F.2.1 F.2.2.1 F.2.2.2).Done=true from hF),Ya (show(U7 s K.1 K.2.1 K.2.2.1 K.2.2.2.1).Done=true from hKd)];have ea:(U7 s K.1 K.2.1 K.2.2.1 K.2.2.2.1).ZV=(U7 s F.1 F.2.1 F.2.2.1 F.2.2.2).ZV:=by unfold U7;rw[hF,hKd]
   rw[ea];exact⟨_,Z2d (smA hs2 _ _ _ _),by rw[Ya rfl];exact fin⟩
 .have hr:rrF m d q p bud kept=none:=by
   cases h:rrF m d q p bud kept with
   |none=>rfl
   |some sk=>exact absurd ⟨sk.1,sk.2,h⟩ hrr
  rw[hr]at f1 f2;have f1:Za8 m d q p bud kept=some (.tup [.agg ((⟨false,0,0,[],⟨[],[]⟩⟩:Run).c.map .t),L 2 (kept.map Zd.c),Bo false],[]):=f1;have f2:ZaP m d q p bud kept=some (.tup [.agg ((⟨false,0,0,[],⟨[],[]⟩⟩:Run).c.map .t),L 2 (kept.map Zd.c),Bo false],[]):=f2;exact⟨_,_,_,f1,_,_,_,f2,rfl,_,Z2e ⟨by simp,by simp,by simp⟩ (by simp),rfl,rfl,two _ _ _ hk (by rw[Yb (by simp)])⟩
end Go.Proofs.YtgbipcfdgfjplaaGreat
