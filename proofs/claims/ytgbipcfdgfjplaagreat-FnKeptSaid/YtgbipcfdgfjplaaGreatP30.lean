/-
  Parts of the proofs for this seat: ST ST2 OM KU.
-/
import Derived.Test.YtgbipcfdgfjplaaGreatP28
import Derived.Test.YtgbipcfdgfjplaaGreatP29
set_option linter.unusedSectionVars false
set_option linter.unusedSimpArgs false
set_option linter.unusedVariables false
set_option maxRecDepth 100000
set_option maxHeartbeats 4000000
namespace Go.Proofs.YtgbipcfdgfjplaaGreat
open Go.AM
theorem Q4{a b c:Int}:inR a b c=true↔b<=a/\a<=c:=by simp[inR]
theorem nd_inj{l:WA}(h:l.Nodup){i j:Nat}(hi:i<l.length)(hj:j<l.length)(e:l[i]=l[j]):i=j:=by
 have hp:=Yci.1 h;rcases Ydh i j with c|c|c
 .exact absurd e (hp i j hi hj c)
 .exact c
 .exact absurd e.symm (hp j i hj hi c)
theorem ZqM{vs y:WA}(hn:vs.Nodup){j:Nat}(hj:j<vs.length)(hy:y.length=vs.length):ZN vs y vs[j]=y[j]:=by
 obtain⟨h1,h2,h3⟩:=Xj (ZO.2 (Yh hj));have e:(cix vs vs[j]).toNat=j:=by
  have h4:=(Yv.1 h3).2;exact nd_inj hn h2 hj h4
 unfold ZN ZP;rw[e,Y5,Yi (by omega)];rfl
theorem Zg2{vs y:WA}(hn:vs.Nodup)(hy:y.length=vs.length):vs.map (ZN vs y)=y:=by
 refine Yca (by simp[hy]) λj h1 h2=>?_
 rw[List.getElem_map];exact ZqM hn (by simpa using h1) hy
def Zg3(d:Zn)(q:Ze)(m:Int)(y:WA):Prop:=y.length=(ZI q m).length/\∀(i:Nat) (a:Zc),q.Atoms[i]?=some a->Zx m i=true->a.Vars.map (ZN (ZI q m) y)∈Ve d a
theorem ZCJ{a b c:WA}(h1:Zy a b<0)(h2:Zy b c<0):Zy a c<0:=by
 have h3:=Zbf a b c (by omega) (by omega);by_cases h:Zy a c=0
 .have:=Jq a c h;subst this;have:=V7 a b;omega
 .omega
theorem Z1S:∀(rows:XS) (p:Option (WA)),XM ltR p rows=true->(∀x,p=some x->∀r∈rows,Zy x r<0)/\rows.Pairwise λa b=>Zy a b<0
 |[],p,_=>⟨λ_ _ _ h=>(by cases h),.nil⟩
 |r::rows,p,h=>by
  unfold XM at h;simp only[Ye]at h;obtain⟨h1,h2⟩:=h;obtain⟨h3,h4⟩:=Z1S rows (some r) h2;refine⟨?_,Y4.2 ⟨h3 r rfl,h4⟩⟩;rintro x rfl s hs;have hx:Zy x r<0:=by simpa[nxt,ltR]using h1
  rcases Yl.1 hs with hs|hs
  .rw[hs];exact hx
  .exact ZCJ hx (h3 r rfl s hs)
theorem ZCK{rows:XS}(h:XM ltR none rows=true):rows.Nodup:=(Z1S rows none h).2.imp λ{a b} hab he=>by
 subst he;have:=Zd1 a;omega
theorem Z1T{vs y avs r:WA}(hn:vs.Nodup)(hy:y.length=vs.length)(hs:∀v∈avs,v∈vs)(hr:r.length=avs.length):UY avs vs y r=true↔avs.map (ZN vs y)=r:=by
 rw[ZdB];constructor
 .intro h;refine Yca (by simp[hr]) λk h1 h2=>?_
  have hk:k<avs.length:=by simpa using h1
  rw[List.getElem_map];obtain⟨j,hj,e⟩:=Ycm (hs _ (Yh hk));have:=h (avs[k],r[k]) (by rw[List.mem_iff_getElem];exact⟨k,by rw[List.length_zip];omega,by rw[List.getElem_zip]⟩) (vs[j],y[j]) (by rw[List.mem_iff_getElem];exact⟨j,by rw[List.length_zip];omega,by rw[List.getElem_zip]⟩) e;rw[<-e,ZqM hn hj hy];exact this
 .intro h c hc z hz e;obtain⟨k,hk,rfl⟩:=Ycm hc;obtain⟨j,hj,rfl⟩:=Ycm hz;rw[List.length_zip]at hk hj;simp only[List.getElem_zip]at e|-;have h1:ZN vs y avs[k]=r[k]:=by
   have:(avs.map (ZN vs y))[k]'(by simp;omega)=r[k]:=by simp only[h]
   rwa [List.getElem_map]at this
  rw[<-h1,<-e];exact(ZqM hn (by omega) hy).symm
theorem ZqN{d:Zn}{m:Int}{p:Zq×Zc}:∀{ts:List Zc} {i:Nat},p∈XF d m ts i↔∃j a,ts[j]?=some a/\Zx m (i+j)=true/\X3 d a.Name=some p.1/\p.2=a
 |[],i=>by simp[XF]
 |b::ts,i=>by
  have ih:=ZqN (d:=d) (m:=m) (p:=p) (ts:=ts) (i:=i+1);have split:(∃j a,(b::ts)[j]?=some a/\Zx m (i+j)=true/\X3 d a.Name=some p.1/\p.2=a)↔((Zx m i=true/\X3 d b.Name=some p.1/\p.2=b)\/∃j a,ts[j]?=some a/\Zx m (i+1+j)=true/\X3 d a.Name=some p.1/\p.2=a):=by
   constructor
   .rintro⟨j,a,h1,h2,h3,h4⟩
    cases j with
    |zero=>simp at h1;subst h1;exact .inl ⟨by simpa using h2,h3,h4⟩
    |succ j=>exact .inr ⟨j,a,by simpa using h1,by rw[show i+1+j=i+(j+1) by omega];exact h2,h3,h4⟩
   .rintro(⟨h2,h3,h4⟩|⟨j,a,h1,h2,h3,h4⟩)
    .exact⟨0,b,rfl,by simpa using h2,h3,h4⟩
    .exact⟨j+1,a,by simpa using h1,by rw[show i+(j+1)=i+1+j by omega];exact h2,h3,h4⟩
  rw[split];unfold XF
  cases e:X3 d b.Name with
  |none=>simp[ih]
  |some t =>
   dsimp only;by_cases hm:andI (shrI m i) 1=1
   .rw[Ya hm,Yl,ih];constructor
    .rintro(h|h)
     .rw[h];exact .inl ⟨by simp[Zx,hm],rfl,rfl⟩
     .exact .inr h
    .rintro(⟨_,h3,h4⟩|h)
     .left;cases p;simp only at h3 h4;cases h3;rw[h4]
     .exact .inr h
   .rw[Yb hm,ih];constructor
    .exact .inr
    .rintro(⟨h2,_⟩|h)
     .simp[Zx,hm]at h2
     .exact h
theorem ZdC{q:Ze}(hv:Zu q.Zk q.Atoms=true){m:Int}{i:Nat}{a:Zc}(hi:q.Atoms[i]?=some a)(hm:Zx m i=true):∀v∈a.Vars,v∈ZI q m:=by
 intro v hv1;have ha:a∈q.Atoms:=Yz hi;rw[Zbc hv];have hb:=Q4.1 (Zeg hv a ha v hv1);have hn:=UC hv;have key:∀(l:List Zc) (k i:Nat),l[i]?=some a->Zx m (k+i)=true->ZT m l k (v.toNat:Nat)=true:=by
  intro l
  induction l with
  |nil=>intro k i h;simp at h
  |cons b l ih =>
   intro k i h hm;unfold ZT
   cases i with
   |zero =>
    simp at h;subst h
    have:((v.toNat:Nat):Int)=v:=by omega
    rw[this,show Zx m k=true by simpa using hm,ZO.2 hv1];rfl
   |succ i=>rw[ih (k+1) i (by simpa using h) (by rw[show k+1+i=k+(i+1) by omega];exact hm)];simp
 unfold vin pV;rw[key q.Atoms 0 i hi (by simpa using hm)];simp[inR];omega
section
variable{d:Zn}{q:Ze}(hf:Z6 d q=true)
include hf
theorem Q5:Zu q.Zk q.Atoms=true:=by unfold Z6 at hf;simp only[Ye]at hf;exact hf.1
theorem ZCL{m:Int}(hm:M16 m)(y:WA):y∈Zjz d q m↔Zg3 d q m y:=by
 have hv:=Q5 hf;have hn:=Zg0 q m;rw[Z1Q d q hf m hm];unfold Zg3;refine and_congr_right λhy=>?_
 rw[Zke];have ok:∀{i:Nat} {a:Zc},q.Atoms[i]?=some a->∃t,X3 d a.Name=some t/\Ve d a=t.Rows/\∀r∈t.Rows,r.length=a.Vars.length:=by
  intro i a hi;obtain⟨t,t1,_,t3,_,t5,_⟩:=Zgw hf (Yz hi);exact⟨t,t1,t3,λr hr=>Kj (t5 r hr)⟩
 constructor
 .intro h i a hi hmi;obtain⟨t,t1,t2,t3⟩:=ok hi;obtain⟨r,hr,hf⟩:=h (t,a) (ZqN.2 ⟨i,a,hi,by simpa using hmi,t1,rfl⟩);rw[(Z1T hn hy (ZdC hv hi hmi) (t3 r hr)).1 hf,t2];exact hr
 .intro h p hp;obtain⟨i,a,hi,hmi,t1,rfl⟩:=ZqN.1 hp;rw[Yq]at hmi;have h1:=h i _ hi hmi;obtain⟨t,t1',t2,t3⟩:=ok hi;rw[t1]at t1';cases t1';rw[t2]at h1;exact⟨_,h1,(Z1T hn hy (ZdC hv hi hmi) (t3 _ h1)).2 rfl⟩
end
structure GTm (d:Zn) (q:Ze) (m:Int) (s:Zb):Prop where
 nodup:s.Rows.Nodup
 mem:∀r,r∈s.Rows↔Zg3 d q m r
section
variable{d:Zn}{q:Ze}(hf:Z6 d q=true)
include hf
theorem ZCM{x:Zj}{c:List Za}{y:Za}(F:Ue q.Atoms x c y)(hk:x.Kind=1):GTm d q y.Mask (V0 d q x.Zc):=by
 have hv:=Q5 hf;obtain⟨h1,rfl⟩:=F.scan hk;have hr:=Q4.1 h1;have h4:=Xx hv;obtain⟨i,hi⟩:∃i:Nat,x.Zc=i:=⟨x.Zc.toNat,by omega⟩;have hlt:i<q.Atoms.length:=by omega
 have ha:q.Atoms[i]?=some q.Atoms[i]:=Yi hlt;show GTm d q (shlI 1 x.Zc) _;rw[hi];generalize q.Atoms[i]=a at ha;have hV:Z1 a.Vars=ZI q (shlI 1 (i:Int)):=Zqp hv ha;have hnd:=Z0k hv (Yz ha);have hn:(Z1 a.Vars).Nodup:=(Zgt a.Vars).nodup_iff.2 hnd;obtain⟨t,t1,_,t3,_,t5,t6⟩:=Zgw hf (Yz ha);have hs:V0 d q (i:Int)=⟨Z1 a.Vars,(Ve d a).map λr=>(Z1 a.Vars).map (ZN a.Vars r)⟩:=by
  unfold V0;rw[Yf,ha];rfl
 -- what a scanned row reads as again
 have back:∀r∈Ve d a,a.Vars.map (ZN (Z1 a.Vars) ((Z1 a.Vars).map (ZN a.Vars r)))=r:=by
  intro r hr;rw[t3]at hr;have hl:=Kj (t5 r hr);rw[show a.Vars.map (ZN (Z1 a.Vars) ((Z1 a.Vars).map (ZN a.Vars r)))=a.Vars.map (ZN a.Vars r)from Ybe λv hv=>Qa (ZO.2 ((Q2 _ _).2 hv)) _];exact Zg2 hnd hl
 rw[hs];constructor
 .show((Ve d a).map _).Nodup;refine List.pairwise_map.2 ?_;have hnr:(Ve d a).Nodup:=by
   rw[t3];exact ZCK t6
  refine List.Pairwise.imp_of_mem ?_ hnr;intro r r' hr hr' hne he;apply hne;rw[<-back r hr,<-back r' hr',he]
 .intro r;show r∈(Ve d a).map _↔_;rw[Y2];have one:∀j:Nat,j<4->(Zx (shlI 1 (i:Int)) j=true↔j=i):=by
   intro j hj;have:=bitS ⟨i,by omega⟩ ⟨j,hj⟩;simp only at this;rw[this];simp
  constructor
  .rintro⟨t',ht',rfl⟩;refine⟨by rw[Y6,hV],λj b hj hmj=>?_⟩;have hj4:j<q.Atoms.length:=(Yv.1 hj).1;obtain rfl:=(one j (by omega)).1 hmj;rw[ha]at hj;cases hj;rw[<-hV,back t' ht'];exact ht'
  .rintro⟨hl,hm⟩;have:=hm i a ha ((one i (by omega)).2 rfl);rw[<-hV]at this hl;refine⟨_,this,?_⟩;rw[show(Z1 a.Vars).map (ZN a.Vars (a.Vars.map (ZN (Z1 a.Vars) r)))=(Z1 a.Vars).map (ZN (Z1 a.Vars) r)from Ybe λv hv=>Qa (ZO.2 ((Q2 _ _).1 hv)) _];exact Zg2 hn hl
end
theorem ZCN{x:Nat}{rows:XS}(h:rows.Nodup):(Vy x rows).Nodup:=by
 unfold Vy;refine List.pairwise_flatMap.2 ⟨λi _=>h.filter _,?_⟩;refine List.Pairwise.imp ?_ (List.nodup_range (n:=10));intro i j hij r hr s hs e;subst e;have h1:=of_decide_eq_true (Y0.1 hr).2;have h2:=of_decide_eq_true (Y0.1 hs).2;omega
theorem ZCO{d:Zn}{q:Ze}{u:Za}{s:Zb}(G:GS q u s)(T:GTm d q u.Mask s){v:Int}(hv:has s.Vars v=true):GTm d q u.Mask (Zbd s v):=by
 have hk:∀r∈s.Rows,0<=kx (cix s.Vars v).toNat r/\kx (cix s.Vars v).toNat r<=9:=λr hr=>(Zj5 (G.rows r hr) (Xj hv).2.1).2
 exact⟨ZCN T.nodup,λr=>(Z0l hk r).trans (T.mem r)⟩
theorem Z1U{av x bv y:WA}:agr av x bv y=true↔∀(i:Nat) (h:i<av.length),cix bv av[i]<0\/x.getD i 0=ZP y (cix bv av[i]):=by
 unfold agr;simp only[Yn,Ybm,Yb6,decide_eq_true_eq];constructor
 .intro h i hi;have:=h i hi
  rwa [show av.getD i 0=av[i] by rw[Y5,Yi hi];rfl]at this
 .intro h i hi;have:=h i hi
  rwa [show av.getD i 0=av[i] by rw[Y5,Yi hi];rfl]
section
variable{d:Zn}{q:Ze}(hf:Z6 d q=true){u z:Za}{a b:Zb}(A:GS q u a)(B:GS q z b)(TA:GTm d q u.Mask a)(TB:GTm d q z.Mask b)(hu:0<=u.Mask/\u.Mask<16)(hz:0<=z.Mask/\z.Mask<16)
include hf A B hu hz
theorem ZqO:uni a.Vars b.Vars=ZI q (orI u.Mask z.Mask):=by rw[A.vars,B.vars];exact Zqo (Q5 hf) hu hz
theorem Z1V(v:Int):v∈uni a.Vars b.Vars↔v∈a.Vars\/v∈b.Vars:=Zgu (by rw[A.vars];exact Jn (Q5 hf) _) (by rw[B.vars];exact Jn (Q5 hf) _) v
theorem j_nd:(uni a.Vars b.Vars).Nodup/\a.Vars.Nodup/\b.Vars.Nodup:=by
 rw[ZqO hf A B hu hz,A.vars,B.vars];exact⟨Zg0 q _,Zg0 q _,Zg0 q _⟩
abbrev Ko(a b:Zb)(x y:WA):WA:=(uni a.Vars b.Vars).map (mrV a.Vars x b.Vars y)
theorem j_val{x y:WA}(hx:x∈a.Rows)(hy:y∈b.Rows)(h:agr a.Vars x b.Vars y=true):(∀v∈a.Vars,ZN (uni a.Vars b.Vars) (Ko a b x y) v=ZN a.Vars x v)/\∀v∈b.Vars,ZN (uni a.Vars b.Vars) (Ko a b x y) v=ZN b.Vars y v:=by
 have hs:=Z1V hf A B hu hz;have hxl:=Kj (A.rows x hx);have h1:∀v∈a.Vars,ZN (uni a.Vars b.Vars) (Ko a b x y) v=ZN a.Vars x v:=by
  intro v hv;rw[Qa (ZO.2 ((hs v).2 (.inl hv)))];unfold mrV;rw[Ya (W7.2 (ZO.2 hv))];rfl
 refine⟨h1,λv hv=>?_⟩;rw[Qa (ZO.2 ((hs v).2 (.inr hv)))];unfold mrV;by_cases ha:v∈a.Vars
 .rw[Ya (W7.2 (ZO.2 ha))];obtain⟨g1,g2,g3⟩:=Xj (ZO.2 ha);have e:a.Vars[(cix a.Vars v).toNat]=v:=(Yv.1 g3).2;have:=Z1U.1 h _ g2;rw[e]at this;rcases this with c|c
  .have:=W7.2 (ZO.2 hv);omega
  .exact c
 .rw[Yb (λc=>ha (ZO.1 (W7.1 c)))];rfl
include TA TB
theorem Q6{x y:WA}(hx:x∈a.Rows)(hy:y∈b.Rows)(h:agr a.Vars x b.Vars y=true):Zg3 d q (orI u.Mask z.Mask) (Ko a b x y)/\x=a.Vars.map (ZN (uni a.Vars b.Vars) (Ko a b x y))/\y=b.Vars.map (ZN (uni a.Vars b.Vars) (Ko a b x y)):=by
 obtain⟨h1,h2⟩:=j_val hf A B hu hz hx hy h;obtain⟨n1,n2,n3⟩:=j_nd hf A B hu hz;have hvars:=ZqO hf A B hu hz;refine⟨⟨by rw[Y6,hvars],λi c hi hm=>?_⟩,?_,?_⟩
 .have hi4:i<4:=by have:=(Yv.1 hi).1;have:=Xx (Q5 hf);omega
  rw[Zj3 hu hz hi4,Yb6]at hm;rw[<-hvars];rcases hm with hm|hm
  .have hin:=ZdC (Q5 hf) hi hm;rw[Ybe λv hv=>h1 v (by rw[A.vars];exact hin v hv)];have:=((TA.mem x).1 hx).2 i c hi hm
   rwa [show ZI q u.Mask=a.Vars from A.vars.symm]at this
  .have hin:=ZdC (Q5 hf) hi hm;rw[Ybe λv hv=>h2 v (by rw[B.vars];exact hin v hv)];have:=((TB.mem y).1 hy).2 i c hi hm
   rwa [show ZI q z.Mask=b.Vars from B.vars.symm]at this
 .rw[Ybe h1];exact(Zg2 n2 (Kj (A.rows x hx))).symm
 .rw[Ybe h2];exact(Zg2 n3 (Kj (B.rows y hy))).symm
theorem Z1W{r:WA}(h:Zg3 d q (orI u.Mask z.Mask) r):a.Vars.map (ZN (uni a.Vars b.Vars) r)∈a.Rows/\b.Vars.map (ZN (uni a.Vars b.Vars) r)∈b.Rows/\agr a.Vars (a.Vars.map (ZN (uni a.Vars b.Vars) r)) b.Vars (b.Vars.map (ZN (uni a.Vars b.Vars) r))=true/\r=Ko a b (a.Vars.map (ZN (uni a.Vars b.Vars) r)) (b.Vars.map (ZN (uni a.Vars b.Vars) r)):=by
 obtain⟨n1,n2,n3⟩:=j_nd hf A B hu hz;have hvars:=ZqO hf A B hu hz;have hs:=Z1V hf A B hu hz;obtain⟨hl,hm⟩:=h;rw[<-hvars]at hl hm;have hv:=Q5 hf;have h4:=Xx hv;refine⟨(TA.mem _).2 ⟨by rw[Y6,A.vars],λi c hi hmi=>?_⟩,(TB.mem _).2 ⟨by rw[Y6,B.vars],λi c hi hmi=>?_⟩,?_,?_⟩
 .have hin:=ZdC hv hi hmi;have hi4:i<4:=by have:=(Yv.1 hi).1;omega
  rw[show ZI q u.Mask=a.Vars from A.vars.symm];rw[Ybe (g:=ZN (uni a.Vars b.Vars) r) λv hvv=>Qa (ZO.2 (by rw[A.vars];exact hin v hvv)) _];exact hm i c hi (by rw[Zj3 hu hz hi4,hmi];rfl)
 .have hin:=ZdC hv hi hmi;have hi4:i<4:=by have:=(Yv.1 hi).1;omega
  rw[show ZI q z.Mask=b.Vars from B.vars.symm];rw[Ybe (g:=ZN (uni a.Vars b.Vars) r) λv hvv=>Qa (ZO.2 (by rw[B.vars];exact hin v hvv)) _];exact hm i c hi (by rw[Zj3 hu hz hi4,hmi];simp)
 .rw[Z1U];intro i hi;by_cases c:cix b.Vars a.Vars[i]<0
  .exact .inl c
  .right;have hb:has b.Vars a.Vars[i]=true:=W7.1 (by omega);have:=Qa hb (ZN (uni a.Vars b.Vars) r);unfold ZN at this|-;rw[this];rw[Y5,Ych,Yi hi];rfl
 .conv=>lhs;rw[<-Zg2 n1 hl]
  refine Ybe λv hvv=>?_
  unfold mrV;by_cases ha:v∈a.Vars
  .rw[Ya (W7.2 (ZO.2 ha))];exact(Qa (ZO.2 ha) _).symm
  .rw[Yb (λc=>ha (ZO.1 (W7.1 c)))];exact(Qa (ZO.2 (((hs v).1 hvv).resolve_left ha)) _).symm
theorem Z1X:GTm d q (orI u.Mask z.Mask) (W8 a b):=by
 have inv:∀x∈a.Rows,∀y∈b.Rows,∀r,prS (uni a.Vars b.Vars) a.Vars x b.Vars y=some r->agr a.Vars x b.Vars y=true/\r=Ko a b x y:=by
  intro x _ y _ r h;unfold prS at h;split at h
  .rename_i hg;cases h;exact⟨hg,rfl⟩
  .cases h
 constructor
 .show(Xu _ a b).Nodup;unfold Xu;refine List.pairwise_flatMap.2 ⟨λx hx=>?_,?_⟩
  .rw[List.pairwise_filterMap];refine List.Pairwise.imp_of_mem ?_ TB.nodup;intro y y' hy hy' hne r hr r' hr' e;obtain⟨g1,e1⟩:=inv x hx y hy r hr;obtain⟨g2,e2⟩:=inv x hx y' hy' r' hr';apply hne;rw[(Q6 hf A B TA TB hu hz hx hy g1).2.2,(Q6 hf A B TA TB hu hz hx hy' g2).2.2,<-e1,<-e2,e]
  .refine List.Pairwise.imp_of_mem ?_ TA.nodup;intro x x' hx hx' hne r hr r' hr' e;obtain⟨y,hy,hr⟩:=Yb7.1 hr;obtain⟨y',hy',hr'⟩:=Yb7.1 hr';obtain⟨g1,e1⟩:=inv x hx y hy r hr;obtain⟨g2,e2⟩:=inv x' hx' y' hy' r' hr';apply hne;rw[(Q6 hf A B TA TB hu hz hx hy g1).2.1,(Q6 hf A B TA TB hu hz hx' hy' g2).2.1,<-e1,<-e2,e]
 .intro r;show r∈Xu _ a b↔_;unfold Xu;simp only[Ybv,Yb7];constructor
  .rintro⟨x,hx,y,hy,h⟩;obtain⟨g,rfl⟩:=inv x hx y hy r h;exact(Q6 hf A B TA TB hu hz hx hy g).1
  .intro h;obtain⟨h1,h2,h3,h4⟩:=Z1W hf A B TA TB hu hz h;exact⟨_,h1,_,h2,by unfold prS;rw[Ya h3];exact congrArg some h4.symm⟩
theorem ZCP:GTm d q (orI u.Mask z.Mask) (Jo a b):=by
 have inv:∀x∈a.Rows,∀y∈b.Rows,∀r,prS (uni a.Vars b.Vars) a.Vars x b.Vars y=some r->agr a.Vars x b.Vars y=true/\r=Ko a b x y:=by
  intro x _ y _ r h;unfold prS at h;split at h
  .rename_i hg;cases h;exact⟨hg,rfl⟩
  .cases h
 constructor
 .show(Vz _ a b).Nodup;unfold Vz;refine List.pairwise_flatMap.2 ⟨λy hy=>?_,?_⟩
  .rw[List.pairwise_filterMap];refine List.Pairwise.imp_of_mem ?_ TA.nodup;intro x x' hx hx' hne r hr r' hr' e;obtain⟨g1,e1⟩:=inv x hx y hy r hr;obtain⟨g2,e2⟩:=inv x' hx' y hy r' hr';apply hne;rw[(Q6 hf A B TA TB hu hz hx hy g1).2.1,(Q6 hf A B TA TB hu hz hx' hy g2).2.1,<-e1,<-e2,e]
  .refine List.Pairwise.imp_of_mem ?_ TB.nodup;intro y y' hy hy' hne r hr r' hr' e;obtain⟨x,hx,hr⟩:=Yb7.1 hr;obtain⟨x',hx',hr'⟩:=Yb7.1 hr';obtain⟨g1,e1⟩:=inv x hx y hy r hr;obtain⟨g2,e2⟩:=inv x' hx' y' hy' r' hr';apply hne;rw[(Q6 hf A B TA TB hu hz hx hy g1).2.2,(Q6 hf A B TA TB hu hz hx' hy' g2).2.2,<-e1,<-e2,e]
 .intro r;show r∈Vz _ a b↔_;unfold Vz;simp only[Ybv,Yb7];constructor
  .rintro⟨y,hy,x,hx,h⟩;obtain⟨g,rfl⟩:=inv x hx y hy r h;exact(Q6 hf A B TA TB hu hz hx hy g).1
  .intro h;obtain⟨h1,h2,h3,h4⟩:=Z1W hf A B TA TB hu hz h;exact⟨_,h2,_,h1,by unfold prS;rw[Ya h3];exact congrArg some h4.symm⟩
end
def GTs(d:Zn)(q:Ze)(info:List Za)(c:List Zb):Prop:=∀(j:Nat) (s:Zb),c[j]?=some s->∃y,info[j]?=some y/\GS q y s/\GTm d q y.Mask s
theorem GTs.gs{d:Zn}{q:Ze}{info:List Za}{out:List Zb}(G:GTs d q info out):GSs q info out:=λj s h=>by obtain⟨y,h1,h2,_⟩:=G j s h;exact⟨y,h1,h2⟩
theorem ZqP{d:Zn}{q:Ze}{info:List Za}{out:List Zb}(G:GTs d q info out){i:Nat}{s:Int}{u:Za}(hi:out.length=i)(h0:0<=s)(h:(info.take i)[s.toNat]?=some u):GS q u (out.getD s.toNat ⟨[],[]⟩)/\GTm d q u.Mask (out.getD s.toNat ⟨[],[]⟩):=by
 obtain⟨h1,h2,h3⟩:=Zbe G.gs hi h0 h;obtain⟨y,e1,e2,e3⟩:=G _ _ h2;rw[Ybh]at h;split at h
 .rw[h]at e1;cases e1;exact⟨h3,e3⟩
 .cases h
theorem st_gt{d:Zn}{q:Ze}(h:Z6 d q=true){info:List Za}{out:List Zb}(G:GTs d q info out)(hM:∀y∈info,0<=y.Mask/\y.Mask<16){i:Nat}(hi:out.length=i){x:Zj}{y:Za}(F:Ue q.Atoms x (info.take i) y):GTm d q y.Mask (stS d q x y out):=by
 have hq:=Q5 h;have hm:∀{s:Nat} {u:Za},(info.take i)[s]?=some u->0<=u.Mask/\u.Mask<16:=λhs=>hM _ (Y9 (Yz hs))
 unfold stS;by_cases k1:x.Kind=1
 .rw[Ya k1];exact ZCM h F k1
 .rw[Yb k1];by_cases k2:x.Kind=2
  .rw[Ya k2];obtain⟨s,u,f1,f2,f3,rfl⟩:=F.sort k2;obtain⟨A,TA⟩:=ZqP G hi f1 f2;exact ZCO A TA (Zqu hq A f3 s).2
  .rw[Yb k2];obtain⟨s,u,t,z,o,f1,f2,f3,f4,f5,rfl,f6⟩:=F.join k1 k2;obtain⟨A,TA⟩:=ZqP G hi f1 f2;obtain⟨B,TB⟩:=ZqP G hi f3 f4;rcases f6 with⟨k,rfl⟩|⟨k,rfl⟩|⟨k,g1,g2,g3,g4,rfl⟩
   .rw[Ya k];exact ZCP h A B TA TB (hm f2) (hm f4)
   .rw[Yb (by omega)];exact Z1X h A B TA TB (hm f2) (hm f4)
   .rw[Yb (by omega)];exact Z1X h A B TA TB (hm f2) (hm f4)
theorem ZCQ{d:Zn}{q:Ze}{info:List Za}{out:List Zb}(G:GTs d q info out){i:Nat}(hi:out.length=i){y:Za}(hy:info[i]?=some y){s:Zb}(g:GS q y s)(t:GTm d q y.Mask s):GTs d q info (out++[s]):=by
 intro j s' hs;by_cases hj:j<out.length
 .rw[Ybl hj]at hs;exact G j s' hs
 .have:j=out.length:=by
   have:=(Yv.1 hs).1;simp at this;omega
  subst this;simp at hs;subst hs;exact⟨y,by rw[hi];exact hy,g,t⟩
theorem ZCR{d:Zn}{q:Ze}(h:Z6 d q=true){info:List Za}(hM:∀y∈info,0<=y.Mask/\y.Mask<16){c:List Zj}(hl:info.length=c.length)(hF:∀(j:Nat) (y:Za) (x:Zj),info[j]?=some y->c[j]?=some x->Ue q.Atoms x (info.take j) y) :
  ∀i,i<=c.length->∀(cc:List Zb),cc.length=i->GTs d q info cc->GTs d q info (Wp d q (c.drop i) (info.drop i) cc):=by
 refine down _ ?_ ?_
 .intro cc ho G;rw[Yp];exact G
 .intro i hi ih cc ho G;have hi2:i<info.length:=by omega
  have hx:c[i]?=some c[i]:=Yi hi;have hy:info[i]?=some info[i]:=Yi hi2;have hg:=Zj6 h G.gs hM ho (hF i _ _ hy hx);have ht:=st_gt h G hM ho (hF i _ _ hy hx);rw[Yj hi,Yj hi2,Wp];exact ih _ (by simp[ho]) (ZCQ G ho hy hg ht)
theorem ZCS{d:Zn}{q:Ze}(h:Z6 d q=true){p:Zo}{info:List Za}(P:PI q p info):GTs d q info (XN d q p.Steps info):=by
 have:=ZCR h P.mask P.val.2.1 (Zd0 P.eq) 0 (Yd _) [] rfl (λj s h=>by simp at h);simpa[XN]using this
theorem ZCT{d:Zn}{q:Ze}(h:Z6 d q=true){p:Zo}{info:List Za}(P:PI q p info){i:Nat}{y:Za}(hy:info[i]?=some y):((XN d q p.Steps info).getD i ⟨[],[]⟩).Rows.length=(Zgr d q y.Mask).length:=by
 have hl:=(Zd4 h P).2;have hi:i<info.length:=(Yv.1 hy).1;have hi2:i<(XN d q p.Steps info).length:=by rw[hl,<-P.val.2.1];exact hi
 obtain⟨y',e1,_,T⟩:=ZCS h P i _ (Yi hi2);rw[hy]at e1;cases e1;rw[Y5,Yi hi2];have hm:=P.mask y (Yz hy);exact ZCI d q h y.Mask hm _ T.nodup λr=>(T.mem r).trans (ZCL h hm r).symm
theorem ZqQ{a:Int}(h:0<=a/\a<=7):inR (Z5 a) 0 4096=true:=by
 have:a=0\/a=1\/a=2\/a=3\/a=4\/a=5\/a=6\/a=7:=by omega
 rcases this with rfl|rfl|rfl|rfl|rfl|rfl|rfl|rfl<;>decide
theorem ZqR{o:Zr}(hv:Xi o=true){a b c:Int}(ha:0<=a/\a<=7)(hb:0<=b/\b<=7)(hc:0<=c/\c<=7):X7 o (Z5 a) (Z5 b) (Z5 c)=tcl o [a,b,c]:=by
 unfold X7 tcl;rw[hv,ZqQ ha,ZqQ hb,ZqQ hc];rfl
theorem up1{o:Zr}(h:¬Kf o){a b c:Int}(ha:0<=a/\a+1<=7)(hb:0<=b/\b<=7)(hc:0<=c/\c<=7):tcl o [a,b,c]<=tcl o [a+1,b,c] :=
 Int.not_lt.1 λq=>h ⟨[a,b,c],⟨a,b,c,rfl,⟨ha.1,by omega⟩,hb,hc⟩,0,by omega,by omega,a,rfl,ha.2,q⟩
theorem up2{o:Zr}(h:¬Kf o){a b c:Int}(ha:0<=a/\a<=7)(hb:0<=b/\b+1<=7)(hc:0<=c/\c<=7):tcl o [a,b,c]<=tcl o [a,b+1,c] :=
 Int.not_lt.1 λq=>h ⟨[a,b,c],⟨a,b,c,rfl,ha,⟨hb.1,by omega⟩,hc⟩,1,by omega,by omega,b,rfl,hb.2,q⟩
theorem up3{o:Zr}(h:¬Kf o){a b c:Int}(ha:0<=a/\a<=7)(hb:0<=b/\b<=7)(hc:0<=c/\c+1<=7):tcl o [a,b,c]<=tcl o [a,b,c+1] :=
 Int.not_lt.1 λq=>h ⟨[a,b,c],⟨a,b,c,rfl,ha,hb,⟨hc.1,by omega⟩⟩,2,by omega,by omega,c,rfl,hc.2,q⟩
theorem Z1Y{f:Int->Int}(h:∀x,0<=x->x+1<=7->f x<=f (x+1)){a:Int}(h0:0<=a):∀n:Nat,a+n<=7->f a<=f (a+n)
 |0,_=>by simp
 |n+1,hn=>by
  have h1:=Z1Y h h0 n (by omega);have h2:=h (a+n) (by omega) (by omega);rw[show a+((n+1:Nat):Int)=a+n+1 by omega];omega
theorem ZqS{f:Int->Int}(h:∀x,0<=x->x+1<=7->f x<=f (x+1)){a b:Int}(h0:0<=a)(c:a<=b)(h7:b<=7):f a<=f b:=by
 have:=Z1Y h h0 (b-a).toNat (by omega)
 rwa [show a+((b-a).toNat:Int)=b by omega]at this
theorem ZCU{o:Zr}(h:Wn o){a b c a' b' c':Int}(ha:0<=a/\a<=a'/\a'<=7)(hb:0<=b/\b<=b'/\b'<=7)(hc:0<=c/\c<=c'/\c'<=7):X7 o (Z5 a) (Z5 b) (Z5 c)<=X7 o (Z5 a') (Z5 b') (Z5 c'):=by
 obtain⟨h1,h2,_⟩:=h;rw[ZqR h1 ⟨by omega,by omega⟩ ⟨by omega,by omega⟩ ⟨by omega,by omega⟩,ZqR h1 ⟨by omega,by omega⟩ ⟨by omega,by omega⟩ ⟨by omega,by omega⟩];have q1:=ZqS (f:=λx=>tcl o [x,b,c]) (λx k1 k2=>up1 h2 ⟨k1,k2⟩ ⟨by omega,by omega⟩ ⟨by omega,by omega⟩) ha.1 ha.2.1 ha.2.2;have q2:=ZqS (f:=λx=>tcl o [a',x,c]) (λx k1 k2=>up2 h2 ⟨by omega,by omega⟩ ⟨k1,k2⟩ ⟨by omega,by omega⟩) hb.1 hb.2.1 hb.2.2;have q3:=ZqS (f:=λx=>tcl o [a',b',x]) (λx k1 k2=>up3 h2 ⟨by omega,by omega⟩ ⟨by omega,by omega⟩ ⟨k1,k2⟩) hc.1 hc.2.1 hc.2.2;exact Int.le_trans (Int.le_trans q1 q2) q3
theorem Z1Z{m:Zm}(h:X8 m)(k:Int):Wn (mOp m k):=by
 obtain⟨h1,h2,h3,h4,h5⟩:=h;unfold mOp
 repeat' split
 all_goals assumption
theorem ZdD{n:Int}(h0:0<=n)(h1:n<=4096):0<=X0 n/\X0 n<=7:=by
 unfold X0
 repeat' split
 all_goals omega
theorem op_ge{o:Zr}(h:Wn o){a b n:Int}(ha:0<=a/\a<=4096)(hb:0<=b/\b<=4096)(hn:0<=n/\n<=4096):X7 o 0 0 (XI n)<=X7 o (XI a) (XI b) (XI n):=by
 have h1:=ZdD ha.1 ha.2;have h2:=ZdD hb.1 hb.2;have h3:=ZdD hn.1 hn.2;have:=ZCU h (a:=0) (b:=0) (c:=X0 n) (a':=X0 a) (b':=X0 b) (c':=X0 n) ⟨by omega,by omega,by omega⟩ ⟨by omega,by omega,by omega⟩ ⟨by omega,by omega,by omega⟩;rw[show Z5 0=0 from by decide]at this;exact this
theorem Z2a{o:Zr}(h:Wn o){a b n:Int}(ha:inR a 0 7=true)(hb:inR b 0 7=true)(hn:inR n 0 7=true):1<=X7 o (Z5 a) (Z5 b) (Z5 n):=by
 simp[inR]at ha hb hn;rw[ZqR h.1 ⟨ha.1,ha.2⟩ ⟨hb.1,hb.2⟩ ⟨hn.1,hn.2⟩];exact Int.not_lt.1 λq=>h.2.2 ⟨[a,b,n],⟨a,b,n,rfl,⟨ha.1,ha.2⟩,⟨hb.1,hb.2⟩,⟨hn.1,hn.2⟩⟩,q⟩
theorem wI{x:Int}(h1:-9223372036854775808<=x)(h2:x<=9223372036854775807):w x=x:=ZD h1 h2
section
variable{m:Zm}{l:List Zb}{info:List Za}{rs:WA}{bud:Int}(hb:0<=bud)(hb2:bud<=1000000000000)
include hb hb2
theorem Zg4:∀(xs:List Zj) (ys:List Za) (i:Nat) (cA cB sA sB:Int) (eA eB:List Zg) (kl:List Zd),0<=cB->cB<=cA->cA<=bud->
  (∀(j:Nat) (x:Zj) (y:Za),xs[j]?=some x->ys[j]?=some y->0<=coK m l rs x y (i+j)/\0<=stC m l x y (i+j)/\coK m l rs x y (i+j)<=stC m l x y (i+j))->
  0<=(Xf m l info rs bud xs ys i cB sB eB kl).2.1/\(Xf m l info rs bud xs ys i cB sB eB kl).2.1<=bud/\
  ((runF m l bud xs ys i cA sA eA).1=true->(Xf m l info rs bud xs ys i cB sB eB kl).1=true/\(Xf m l info rs bud xs ys i cB sB eB kl).2.1<=(runF m l bud xs ys i cA sA eA).2.1)/\
  ((runF m l bud xs ys i cA sA eA).1=false->(runF m l bud xs ys i cA sA eA).2.1=bud)
 |[],ys,i,cA,cB,sA,sB,eA,eB,kl,h0,h1,h2,_=>by
  unfold Xf runF
  exact⟨h0,Int.le_trans h1 h2,λ_=>⟨rfl,h1⟩,λh=>by cases h⟩
 |x::xs,[],i,cA,cB,sA,sB,eA,eB,kl,h0,h1,h2,_=>by
  unfold Xf runF
  exact⟨h0,Int.le_trans h1 h2,λ_=>⟨rfl,h1⟩,λh=>by cases h⟩
 |x::xs,y::ys,i,cA,cB,sA,sB,eA,eB,kl,h0,h1,h2,H=>by
  obtain⟨g1,g2,g3⟩:=H 0 x y rfl rfl;rw[Ybs]at g1 g2 g3;have H':∀(j:Nat) (x:Zj) (y:Za),xs[j]?=some x->ys[j]?=some y->0<=coK m l rs x y (i+1+j)/\0<=stC m l x y (i+1+j)/\coK m l rs x y (i+1+j)<=stC m l x y (i+1+j):=by
   intro j x' y' hx hy;have:=H (j+1) x' y' (by simpa using hx) (by simpa using hy)
   rwa [show i+(j+1)=i+1+j by omega]at this
  have wa:w (bud-cA)=bud-cA:=wI (by omega) (by omega);have wb:w (bud-cB)=bud-cB:=wI (by omega) (by omega);unfold Xf runF;rw[wa,wb];by_cases hA:bud-cA<stC m l x y i
  ·-- the other run stops
   rw[Ya hA];have self:=λcB (sB:Int) (eB:List Zg) (kl:List Zd) (q0:0<=cB) (q1:cB<=bud)=>Zg4 xs ys (i+1) bud cB 0 sB [] eB kl q0 q1 (Int.le_refl _) H'
   by_cases hs:rs.any (XG info i)=true
   .rw[Ya hs];obtain⟨k1,k2,_⟩:=self cB sB eB kl h0 (by omega);exact⟨k1,k2,λh=>(by cases h),λ_=>rfl⟩
   .rw[Yb hs];by_cases hB:bud-cB<coK m l rs x y i
    .rw[Ya hB];exact⟨hb,Int.le_refl _,λh=>(by cases h),λ_=>rfl⟩
    .rw[Yb hB];have wc:w (cB+coK m l rs x y i)=cB+coK m l rs x y i:=wI (by omega) (by omega);rw[wc];split
     .obtain⟨k1,k2,_⟩:=self (cB+coK m l rs x y i) (w (sB+1)) (eB++[Jx l y i]) (kpU ⟨y.Mask,Zz l i⟩ kl) (by omega) (by omega);exact⟨k1,k2,λh=>(by cases h),λ_=>rfl⟩
     .obtain⟨k1,k2,_⟩:=self (cB+coK m l rs x y i) (w (sB+1)) eB kl (by omega) (by omega);exact⟨k1,k2,λh=>(by cases h),λ_=>rfl⟩
  .rw[Yb hA];have wd:w (cA+stC m l x y i)=cA+stC m l x y i:=wI (by omega) (by omega);rw[wd];by_cases hs:rs.any (XG info i)=true
   .rw[Ya hs];exact Zg4 xs ys (i+1) _ cB _ sB _ eB kl h0 (by omega) (by omega) H'
   .rw[Yb hs,Yb (by omega)];have wc:w (cB+coK m l rs x y i)=cB+coK m l rs x y i:=wI (by omega) (by omega);rw[wc];split
    .exact Zg4 xs ys (i+1) _ _ _ _ _ _ _ (by omega) (by omega) (by omega) H'
    .exact Zg4 xs ys (i+1) _ _ _ _ _ _ _ (by omega) (by omega) (by omega) H'
end
theorem Zbn(x:Zd):∀(b:Bool) (l:List Zd) (e:Zd),e∈kpF x b l->e=x\/e∈l
 |true,[],e,h=>by simp[kpF]at h
 |false,[],e,h=>by simp[kpF]at h;exact .inl h
 |true,y::ys,e,h=>by
  unfold kpF at h;split at h
  .exact(Zbn x true ys e h).imp id λq=>by simp[q]
  .rcases Yl.1 h with h|h
   .exact .inr (by simp[h])
   .exact(Zbn x true ys e h).imp id λq=>by simp[q]
 |false,y::ys,e,h=>by
  unfold kpF at h;split at h
  .split at h
   .rcases Yl.1 h with h|h
    .exact .inl h
    .exact(Zbn x true ys e h).imp id λq=>by simp[q]
   .simp only[Yl]at h;rcases h with h|h|h
    .exact .inl h
    .exact .inr (by simp[h])
    .exact(Zbn x true ys e h).imp id λq=>by simp[q]
  .split at h
   .exact(Zbn x false ys e h).imp id λq=>by simp[q]
   .rcases Yl.1 h with h|h
    .exact .inr (by simp[h])
    .exact(Zbn x false ys e h).imp id λq=>by simp[q]
theorem ZCV{x:Zd}{l:List Zd}{e:Zd}(h:e∈kpU x l):e=x\/e∈l:=by
 unfold kpU at h;split at h
 .exact Zbn x false l e h
 .exact .inr h
theorem Zkf{m:Zm}{l:List Zb}{info:List Za}{rs:WA}{bud:Int}{P:Zd->Prop}:∀(xs:List Zj) (ys:List Za) (i:Nat) (c s:Int) (e:List Zg) (kl:List Zd),
  (∀(j:Nat) (y:Za),ys[j]?=some y->P ⟨y.Mask,Zz l (i+j)⟩)->(∀k∈kl,P k)->∀k∈(Xf m l info rs bud xs ys i c s e kl).2.2.2.2,P k
 |[],ys,i,c,s,e,kl,_,hk=>by unfold Xf;exact hk
 |x::xs,[],i,c,s,e,kl,_,hk=>by unfold Xf;exact hk
 |x::xs,y::ys,i,c,s,e,kl,hy,hk=>by
  have hy':∀(j:Nat) (y':Za),ys[j]?=some y'->P ⟨y'.Mask,Zz l (i+1+j)⟩:=by
   intro j y' h;have:=hy (j+1) y' (by simpa using h)
   rwa [show i+(j+1)=i+1+j by omega]at this
  have h0:=hy 0 y rfl;rw[Ybs]at h0;unfold Xf;split
  .exact Zkf xs ys (i+1) _ _ _ _ hy' hk
  .split
   .exact hk
   .split
    .refine Zkf xs ys (i+1) _ _ _ _ hy' λk hkk=>?_
     rcases ZCV hkk with h|h
     .rw[h];exact h0
     .exact hk k h
    .exact Zkf xs ys (i+1) _ _ _ _ hy' hk
theorem or1:∀a b:Fin 16,1<=(a.1:Int)->1<=orI (a.1:Int) (b.1:Int):=by decide
theorem shl1:∀i:Fin 4,1<=shlI 1 (i.1:Int):=by decide
theorem ZCW{q:Ze}{p:Zo}{info:List Za}(P:PI q p info):∀(i:Nat) (y:Za),info[i]?=some y->1<=y.Mask:=by
 intro i
 induction i using Nat.strongRecOn with
 |_ i ih =>
 intro y hy;have hl:=P.val.2.1;have hi:=(Yv.1 hy).1;have hx:p.Steps[i]?=some p.Steps[i]:=Yi (by omega);have F:=Zd0 P.eq i y _ hy hx;have lt:∀{s:Int} {u:Za},(info.take i)[s.toNat]?=some u->1<=u.Mask/\(0<=u.Mask/\u.Mask<16):=by
  intro s u h;rw[Ybh]at h;split at h
  .rename_i hlt;exact⟨ih s.toNat hlt u h,P.mask u (Yz h)⟩
  .cases h
 by_cases k1:p.Steps[i].Kind=1
 .obtain⟨h1,rfl⟩:=F.scan k1;have:=Q4.1 h1;have h4:=Xx P.val.1;have:=shl1 ⟨p.Steps[i].Zc.toNat,by omega⟩;simp only at this
  rwa [show((p.Steps[i].Zc.toNat:Nat):Int)=p.Steps[i].Zc by omega]at this
 .by_cases k2:p.Steps[i].Kind=2
  .obtain⟨s,u,f1,f2,-,rfl⟩:=F.sort k2;exact(lt f2).1
  .obtain⟨s,u,t,z,o,f1,f2,f3,f4,-,rfl,-⟩:=F.join k1 k2;obtain⟨a1,a2,a3⟩:=lt f2;obtain⟨b1,b2,b3⟩:=lt f4;have:=or1 ⟨u.Mask.toNat,by omega⟩ ⟨z.Mask.toNat,by omega⟩ (by simp only;omega);simp only at this
   rwa [show((u.Mask.toNat:Nat):Int)=u.Mask by omega,show((z.Mask.toNat:Nat):Int)=z.Mask by omega]at this
theorem Z2b{d:Zn}(hd:LeD d){q:Ze}(hq:LeQ q)(hf:Z6 d q=true){p:Zo}{info:List Za}(P:PI q p info){i:Nat}{y:Za}(hy:info[i]?=some y):Vt d q y.Mask=some (I (Zz (XN d q p.Steps info) i),[]):=by
 have hm:=(Zho P.eq).1 y (Yz hy);have hv:=P.val.1;have:=Zjp hv;have h1:=ZCW P i y hy;unfold Zz;rw[ZCT hf P hy];exact ZzT d hd q hq hf y.Mask h1 ⟨hm.1,hm.2⟩ (by have:=hm.2;omega)
theorem Z2c(c:Int):∀ks:List Zd,0<=X9 ks c->∃k∈ks,k.Mask=c/\inR k.Size 0 4096=true/\X9 ks c=k.Size
 |[],h=>by unfold X9 at h;omega
 |k::ks,h=>by
  unfold X9 at h|-;rcases tf (okK c k)with e|e
  .rw[e]at h|-;simp only[Y7,if_false]at h|-;obtain⟨k',h1,h2⟩:=Z2c c ks h;exact⟨k',by simp[h1],h2⟩
  .rw[Ya e]at h|-;unfold okK at e;simp only[Ye,decide_eq_true_eq]at e;exact⟨k,by simp,e.1,e.2,rfl⟩
open Classical in
theorem ZCX{m:Zm}(hm:LeM m){d:Zn}(hd:LeD d){q:Ze}(hq:LeQ q)(hf:Z6 d q=true){p:Zo}{info:List Za}(P:PI q p info)(ha:X8 m){bud:Int}(hb:inR bud 0 1000000000000=true){c:List Zd}(hk:∀k∈c,Vt d q k.Mask=some (I k.Size,[])) :
  let l:=XN d q p.Steps info
  let K:=Xf m l info ((WC m q p c).getD []) bud p.Steps info 0 0 0 [] c
  let F:=runF m l bud p.Steps info 0 0 0 []
  K.2.1<=F.2.1/\(F.1=true->K.1=true)/\∀k∈K.2.2.2.2,Vt d q k.Mask=some (I k.Size,[]):=by
 intro l K F;have hb':=Q4.1 hb;have hg:=Zd4 hf P;have R:VN q p info l:=⟨P,hg.1,hg.2⟩
 have sim:=Zg4 (m:=m) (l:=l) (info:=info) (rs:=(WC m q p c).getD []) hb'.1 hb'.2 p.Steps info 0 0 0 0 0 [] [] c (by omega) (by omega) hb'.1 (by
  intro i x y hx hy;rw[Yq];have hi:i<p.Steps.length:=(Yv.1 hx).1;obtain⟨x',y',hx',hy',-,k15,kr,krl,hL,hR⟩:=R.at_ hi;rw[hx]at hx';cases hx';rw[hy]at hy';cases hy';have rng:∀k:Int,0<=((l.getD k.toNat ⟨[],[]⟩).Rows.length:Int)/\((l.getD k.toNat ⟨[],[]⟩).Rows.length:Int)<=4096:=λk=>⟨by omega,by have:=R.n4096 k;omega⟩
  have cls:∀k:Int,0<=((l.getD k.toNat ⟨[],[]⟩).Rows.length:Int)/\((l.getD k.toNat ⟨[],[]⟩).Rows.length:Int)<=4096:=rng;have ri:=rng (i:Int);rw[Yf]at ri;have ci:=ZdD ri.1 ri.2
  -- the sides of a step,as sizes
  have left:∃a:Int,(0<=a/\a<=4096)/\lfC l y i=XI a:=by
   unfold lfC ruS;split
   .exact⟨_,rng _,rfl⟩
   .exact⟨_,ri,by rw[Yf]⟩
  have right:∃a:Int,(0<=a/\a<=4096)/\rtC l y=XI a:=by
   unfold rtC ruS;split
   .exact⟨_,rng _,rfl⟩
   .exact⟨0,⟨by omega,by omega⟩,by decide⟩
  obtain⟨a1,r1,e1⟩:=left;obtain⟨a2,r2,e2⟩:=right;have hru:ruS l (i:Int)=XI (Zz l i):=by unfold ruS Zz;rw[Yf]
  have good:=Z1Z ha x.Kind;have st1:1<=stC m l x y i:=by
   unfold stC;rw[e1,e2,hru];have c1:=ZdD r1.1 r1.2;have c2:=ZdD r2.1 r2.2;exact Z2a good (a:=X0 a1) (b:=X0 a2) (n:=X0 (Zz l i)) (Q4.2 c1) (Q4.2 c2) (Q4.2 ci)
  unfold coK;rcases tf (has ((WC m q p c).getD []) i)with hh|hh
  .rw[hh];simp only[Y7,if_false];exact⟨by omega,by omega,Int.le_refl _⟩
  .rw[Ya hh];have rd1:WB m (Zz l i)=X7 m.Scan (XI (Zz l i)) 0 (XI (Zz l i)):=by
    unfold WB;rw[Ya (show inR (Zz l i) 0 4096=true from Q4.2 ri)]
   have p1:1<=WB m (Zz l i):=by
    rw[rd1];have:=Z2a (Z1Z ha 1) (a:=X0 (Zz l i)) (b:=0) (n:=X0 (Zz l i)) (Q4.2 ci) (by decide) (Q4.2 ci);rw[show Z5 0=0 from by decide]at this;exact this
   refine⟨by omega,by omega,?_⟩
   -- the step may be read
   have hmem:=ZO.1 hh;have er:WC m q p c=some (U6 (first info) (rdL m p.Steps info c 0)):=by
    unfold WC;rw[P.eq];simp[ha]
   rw[er]at hmem;have hrd:=(Y0.1 (Y0.1 hmem).1).2;unfold rdB at hrd;rw[Yf,hx,hy]at hrd;simp only[Ye,decide_eq_true_eq]at hrd;obtain⟨q1,q2⟩:=hrd;obtain⟨k,k1,k2,k3,k4⟩:=Z2c _ _ q1;have e3:=hk k k1;rw[k2,Z2b hd hq hf P hy]at e3;have e4:Zz l i=k.Size:=by
    have:=Yb8 e3;simp only[Ybr,AV.t.injEq,T.int.injEq,and_true,true_and]at this;exact this
   rw[k4,<-e4]at q2;unfold Uf at q2;have q3:=of_decide_eq_true q2;have q4:=op_ge good r1 r2 ri;unfold stC;rw[e1,e2,hru]
   exact Int.le_trans q3 q4)
 obtain⟨s1,s2,s3,s4⟩:=sim;refine⟨?_,λh=>(s3 h).1,?_⟩
 .show K.2.1<=F.2.1;rcases tf F.1 with h|h
  .have:=s4 h;show K.2.1<=F.2.1;rw[show F.2.1=bud from this];exact s2
  .exact(s3 h).2
 .refine Zkf p.Steps info 0 _ _ _ _ (λj y hy=>?_) hk;rw[Yq];exact Z2b hd hq hf P hy
end Go.Proofs.YtgbipcfdgfjplaaGreat
