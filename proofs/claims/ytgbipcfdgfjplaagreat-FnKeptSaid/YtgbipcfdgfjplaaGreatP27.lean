/-
  Parts of the proofs for this seat: SA SB SC.
-/
import Derived.Test.YtgbipcfdgfjplaaGreatP25
import Derived.Test.YtgbipcfdgfjplaaGreatP26
set_option linter.unusedSectionVars false
set_option linter.unusedSimpArgs false
set_option linter.unusedVariables false
set_option maxRecDepth 100000
set_option maxHeartbeats 4000000
namespace Go.Proofs.YtgbipcfdgfjplaaGreat
open Go.AM
structure VS (s:Zb):Prop where
 rows:∀r∈s.Rows,rwB s.Vars.length r=true
 vars:VM none s.Vars=true
 len:s.Rows.length<=4096
 four:s.Vars.length<=4
theorem Zq3:∀{l:WA} {p:Option Int},VM p l=true->∀x∈l,inR x 0 3=true
 |[],_,_,x,hx=>by cases hx
 |y::l,p,h,x,hx=>by
  unfold VM at h;simp only[Ye]at h;rcases Yl.1 hx with rfl|hx
  .exact h.1.1
  .exact Zq3 h.2 x hx
theorem Z0M:∀{l:WA} {p:Option Int},VM p l=true->Asc l/\∀q,p=some q->∀x∈l,q<x
 |[],_,_=>⟨.nil,by simp⟩
 |y::l,p,h=>by
  unfold VM at h;simp only[Ye]at h;obtain⟨i1,i2⟩:=Z0M h.2;refine⟨Y4.2 ⟨i2 y rfl,i1⟩,λq hq x hx=>?_⟩;subst hq;have h1:q<y:=by simpa[nxt]using h.1.2
  rcases Yl.1 hx with rfl|hx
  .exact h1
  .have:=i2 y rfl x hx;omega
theorem GS.vs{q:Ze}{y:Za}{s:Zb}(h:GS q y s)(hq:Zu q.Zk q.Atoms=true):VS s:=by
 refine⟨h.rows,?_,by have:=h.len;have:=Zj4 y.Mask;omega,?_⟩
 .rw[h.vars];exact Zqr _ _ (Zdz _ _ _) (Jn hq _) (by simp)
 .rw[h.vars];have:=J8 y.Mask q.Atoms q.Zk.toNat;have:=UC hq;omega
theorem VS.row4{s:Zb}(h:VS s){r:WA}(hr:r∈s.Rows):r.length=s.Vars.length/\r.length<=4:=by
 have:=Kj (h.rows r hr);have:=h.four;omega
theorem l_cols(vs:WA)(hl:vs.length<=100):∀i,i<=vs.length->Zcn vs 4 vs vs.length i=some (Bo (VM (pvA vs i) (vs.drop i)),[]):=by
 refine down _ ?_ ?_
 .refine ZxM _ _ _ _ _ _ ?_;rw[Yb (by omega),Yp];rfl
 .intro i hi ih;refine ZxM _ _ _ _ _ _ ?_;rw[Ya (by omega),Yj hi,VM,wS hi (by omega),show w ((4:Int)-1)=3 by decide];refine⟨by omega,_,gE hi,_,WN _ _ _,?_⟩;rw[show pvA vs (i+1)=some vs[i]from Yi hi]at ih;rcases tf (inR vs[i] 0 3)with e|e
  .rw[e];simp
  .rw[e,Ya rfl,ih];by_cases h0:(0:Int)<(i:Int)
   .rw[Ya h0,wP (by omega) hi (by omega),Zdx (by omega) (by omega)];refine⟨by omega,_,gE (by omega),?_⟩;by_cases h2:vs[i]<=vs[i-1]
    .rw[Ya h2];simp[nxt];omega
    .rw[Yb h2];simp[nxt,show vs[i-1]<vs[i] by omega]
   .obtain rfl:i=0:=by omega
    rw[Yb h0];simp[nxt,pvA]
theorem ZB8{s:Zb}(h:VS s):∀i,i<=s.Rows.length->Zco s s.Rows s.Rows.length i=some (Bo true,[]):=by
 have hl:=h.len;refine down _ ?_ ?_
 .refine ZxN _ _ _ _ _ ?_;rw[Yb (by omega)];refine⟨_,Z7I _ _ ⟨_,Z7H _ _ _ (by simpa using l_cols s.Vars (by have:=h.four;omega) 0 (Yd _)),rfl⟩,?_⟩
  have:VM (pvA s.Vars 0) s.Vars=true:=h.vars
  rw[this,Ya rfl];simp;omega
 .intro i hi ih;refine ZxN _ _ _ _ _ ?_;have hm:=Yh hi;have:=h.row4 hm;rw[Ya (by omega),wS hi (by omega)];refine⟨by omega,_,gE hi,_,ZzL _ _ (by omega),?_⟩;rw[h.rows _ hm,Ya rfl];exact ih
theorem Zbg{s:Zb}(h:VS s):Ua s=some (Bo true,[]):=Z7J _ _ (ZB8 h 0 (Yd _))
theorem ZB9{s:Zb}(h:VS s):∀i,i<=s.Rows.length->ZfB s i=some (Bo true,[]):=by
 have hl:=h.len;refine down _ ?_ ?_
 .refine ZyC _ _ _ ?_;rw[Yb (by omega)];simp;omega
 .intro i hi ih;refine ZyC _ _ _ ?_;have hm:=Yh hi;have:=h.row4 hm;rw[Ya (by omega),wS hi (by omega)];refine⟨by omega,_,gE hi,_,ZzM _ _ (by omega),?_⟩;rw[h.rows _ hm,Ya rfl];exact ih
theorem ZBA{s:Zb}(h:VS s):∀i,i<=s.Vars.length->VM (pvA s.Vars i) (s.Vars.drop i)=true->Zc9 s i=some (Bo true,[]):=by
 have h4:=h.four;refine down _ ?_ ?_
 .intro _;refine ZyB _ _ _ ?_;rw[Yb (by omega)];exact ZB9 h 0 (Yd _)
 .intro i hi ih ha;refine ZyB _ _ _ ?_;rw[Yj hi,VM]at ha;simp only[Ye]at ha;have ih:=ih (by rw[show pvA s.Vars (i+1)=some s.Vars[i]from Yi hi];exact ha.2);rw[Ya (by omega),wS hi (by omega)];refine⟨by omega,_,gE hi,_,XD _ _ _,?_⟩;rw[ha.1.1,Ya rfl,ih];by_cases h0:(0:Int)<(i:Int)
  .have h2:=ha.1.2;rw[Zdx (by omega) (by omega)]at h2;rw[Ya h0,wP (by omega) hi (by omega)];refine⟨by omega,_,gE (by omega),?_⟩;have h3:s.Vars[i-1]<s.Vars[i]:=by simpa[nxt]using h2
   rw[Yb (by omega)]
  .rw[Yb h0]
theorem Zbh{s:Zb}(h:VS s):Uu s=some (Bo true,[]):=Z8D _ _ (ZBA h 0 (Yd _) h.vars)
theorem xIx{vs:WA}(h:vs.length<=4)(v:Int):WX vs v=some (I (cix vs v),[]):=Z9s vs v (by omega)
theorem xFd{vs:WA}(h:vs.length<=4)(v:Int):VH vs v=some (I (cix vs v),[]):=Z9C vs v (by omega)
theorem VS.ok{s:Zb}(h:VS s){v:Int}(hv:has s.Vars v=true):∀r∈s.Rows,okC (cix s.Vars v).toNat r:=λr hr=>Zj5 (h.rows r hr) (Xj hv).2.1
theorem ZBB{s:Zb}(h:VS s){v:Int}(hv:has s.Vars v=true):∃fr,Zcr s v=some (.tup [.agg [.own 0,.own 1],Bo true],[.arr 3 1 true ((Zbd s v).Vars.map ic),.arr 42 1 fr ((Zbd s v).Rows.map isc)]):=by
 obtain⟨c1,c2,c3⟩:=Xj hv;obtain⟨fr,hs⟩:=ZBb (x:=(cix s.Vars v).toNat) h.len (h.ok hv);have h4:=h.four;refine⟨fr,Z7Q _ _ _ ⟨_,xIx h4 v,?_⟩⟩;rw[Yb (by omega)];refine⟨_,Zbg h,?_⟩;rw[Ya rfl];rw[show((cix s.Vars v).toNat:Int)=cix s.Vars v by omega]at hs;exact⟨_,Zdp _ (by omega),_,ZpZ _ (λr hr=>(h.row4 hr).2) (by have:=h.len;omega),_,_,_,hs,rfl⟩
theorem Z0N{rows:XS}{x:Nat}(hl:rows.length<=4096)(hk:∀r∈rows,okC x r)(hs:rows.Pairwise λa b=>kx x a<=kx x b):∀i,i<rows.length->Zfi rows x i=some (Bo true,[])
 |0,h=>by
  refine Zp2 _ _ _ _ ?_
  rw[Yb (by omega)]
 |i+1,h=>by
  have ih:=Z0N hl hk hs i (by omega);refine Zp2 _ _ _ _ ?_;have hw:w (((i+1:Nat):Int)-1)=(i:Int):=by rw[wA (by omega) (by omega)];omega
  obtain⟨p1,p2,p3⟩:=hk _ (Yh h);obtain⟨q1,q2,q3⟩:=hk _ (Yh (show i<rows.length by omega));have hlt:=(Yci.1 hs) i (i+1) (by omega) h (by omega);have e1:rows[i+1][x]=kx x rows[i+1]:=(getElem!_pos rows[i+1] x p1).symm;have e2:rows[i][x]=kx x rows[i]:=(getElem!_pos rows[i] x q1).symm;rw[Ya (by omega),hw];refine⟨by omega,_,gE h,by omega,_,gE (by omega),_,Z7V _ _ _ _ ⟨by omega,_,gE p1,_,gE q1,rfl⟩,?_⟩;rw[e1,e2,wA (by omega) (by omega),Yb (by omega)];exact ih
theorem Z0O{s:Zb}(h:VS s){v:Int}(hv:has s.Vars v=true)(hs:s.Rows.Pairwise λa b=>kx (cix s.Vars v).toNat a<=kx (cix s.Vars v).toNat b):Zfj s v=some (Bo true,[]):=by
 obtain⟨c1,c2,c3⟩:=Xj hv;refine Z7X _ _ _ ⟨_,xIx h.four v,?_⟩;rw[Yb (by omega)];refine⟨_,Zbg h,?_⟩;rw[Ya rfl];refine⟨_,Z7W _ _ (Bo true,[]) ?_,rfl⟩;have hl:=h.len
 cases hc:s.Rows with
 |nil =>
  refine Zp2 _ _ _ _ ?_
  rw[Yb (by decide)]
 |cons r rs =>
  rw[hc]at hl;have:=Z0N (rows:=r::rs) hl (by rw[<-hc];exact h.ok hv) (by rw[<-hc];exact hs) rs.length (by simp);rw[show w (((r::rs).length:Int)-1)=(rs.length:Int) by simp only[Ys]at hl|-;rw[wA (by omega) (by omega)];omega];rw[show((cix s.Vars v).toNat:Int)=cix s.Vars v by omega]at this;exact this
theorem ZBC{s:Zb}(h:VS s){x:Nat}(hk:∀r∈s.Rows,okC x r)(hs:s.Rows.Pairwise λa b=>kx x a<=kx x b):∀i,i<=s.Rows.length->0<i->ZfE s x i=some (Bo true,[]):=by
 have hl:=h.len;refine down _ ?_ ?_
 .intro h0;refine Zp8 _ _ _ _ ?_;rw[Yb (by omega)]
 .intro i hi ih h0;have ih:=ih (by omega);obtain⟨j,rfl⟩:∃j,i=j+1:=⟨i-1,by omega⟩;refine Zp8 _ _ _ _ ?_;have hw:w (((j+1:Nat):Int)-1)=(j:Int):=by rw[wA (by omega) (by omega)];omega
  obtain⟨p1,p2,p3⟩:=hk _ (Yh hi);obtain⟨q1,q2,q3⟩:=hk _ (Yh (show j<s.Rows.length by omega));have hlt:=(Yci.1 hs) j (j+1) (by omega) hi (by omega);have e1:s.Rows[j+1][x]=kx x s.Rows[j+1]:=(getElem!_pos s.Rows[j+1] x p1).symm;have e2:s.Rows[j][x]=kx x s.Rows[j]:=(getElem!_pos s.Rows[j] x q1).symm;rw[Ya (by omega),hw,wS hi (by omega)];refine⟨by omega,_,gE (by omega),by omega,_,gE q1,by omega,_,gE hi,_,gE p1,?_⟩;rw[e1,e2,Yb (by omega)];exact ih
theorem Z0P{s:Zb}(h:VS s){v:Int}(hv:has s.Vars v=true)(hs:s.Rows.Pairwise λa b=>kx (cix s.Vars v).toNat a<=kx (cix s.Vars v).toNat b):ZcI s v=some (Bo true,[]):=by
 obtain⟨c1,c2,c3⟩:=Xj hv;have hl:=h.len;refine Z8L _ _ _ ⟨_,xFd h.four v,_,Zbh h,?_⟩;rw[Ya rfl,Yb (by omega)]
 cases hc:s.Rows with
 |nil =>
  refine Zp8 _ _ _ _ ?_
  rw[hc,Yb (by simp)]
 |cons r rs =>
  have:=ZBC h (h.ok hv) hs 1 (by rw[hc];simp) (by omega);rw[show((cix s.Vars v).toNat:Int)=cix s.Vars v by omega]at this;exact this
def ZJ(s:Zb):XR:=if s.Rows=[]then(.tup [.agg [.own 0,.t .nil],Bo true],[.arr 3 1 true (s.Vars.map ic)])else(.tup [.agg [.own 0,.own 1],Bo true],[.arr 3 1 true (s.Vars.map ic),.arr 42 1 true (s.Rows.map isc)])
theorem Js{vs:WA}{rows:XS}(h:rows≠[]):ZJ ⟨vs,rows⟩=(.tup [.agg [.own 0,.own 1],Bo true],[.arr 3 1 true (vs.map ic),.arr 42 1 true (rows.map isc)]):=by unfold ZJ;rw[Yb h]
theorem Jt{vs:WA}:ZJ ⟨vs,[]⟩=(.tup [.agg [.own 0,.t .nil],Bo true],[.arr 3 1 true (vs.map ic)]):=by unfold ZJ;rw[Ya rfl]
def Qb(x:Nat)(rows:XS)(c:Nat):XS:=(List.range' c (10-c)).flatMap λi:Nat=>rows.filter λr=>decide (kx x r=(i:Int))
theorem clsF_0(x:Nat)(rows:XS):Qb x rows 0=Vy x rows:=by unfold Qb Vy;rw[Yd5]
theorem Z0Q{x:Nat}{rows:XS}{c:Nat}(h:c<10):Qb x rows c=(rows.filter λr=>decide (kx x r=(c:Int)))++Qb x rows (c+1):=by
 unfold Qb;rw[show 10-c=(10-(c+1))+1 by omega,Ycl,Ybx]
theorem Z0R(x:Nat)(rows:XS):Qb x rows 10=[]:=rfl
section
variable{s:Zb}(h:VS s){x:Nat}(hk:∀r∈s.Rows,okC x r)
include h hk
theorem ZBD(vs:WA):∀c:Nat,c<=10->(∀acc:XS,acc≠[]->acc.length<=50000-4096*(10-c)->ZiA s vs acc x c=some (ZJ ⟨vs,acc++Qb x s.Rows c⟩)):=by
 have hl:=h.len;refine down 10 ?_ ?_
 .intro acc ha hb;refine ZyF _ _ _ _ _ _ ?_;rw[Yb (by decide),Z0R,Ybd,Js ha]
 .intro c hc ih acc ha hb;refine ZyF _ _ _ _ _ _ ?_;rw[Ya (by omega),Z0Q hc];have inner:∀i,i<=s.Rows.length->∀acc:XS,acc≠[]->acc.length+(s.Rows.length-i)<=50000-4096*(10-(c+1))->KR s vs acc x c i=some (ZJ ⟨vs,acc++(((s.Rows.drop i).filter λr=>decide (kx x r=(c:Int)))++Qb x s.Rows (c+1))⟩):=by
   refine down _ ?_ ?_
   .intro acc ha hb;refine Zji _ _ _ _ _ _ _ ?_;rw[Yb (by omega),Yp,wA (by omega) (by omega)]
    exact_mod_cast ih acc ha (by omega)
   .intro i hi ih2 acc ha hb;refine Zji _ _ _ _ _ _ _ ?_;obtain⟨p1,p2,p3⟩:=hk _ (Yh hi);have e1:s.Rows[i][x]=kx x s.Rows[i]:=(getElem!_pos s.Rows[i] x p1).symm;have h4:=h.row4 (Yh hi);rw[Ya (by omega),wS hi (by omega),Yj hi];refine⟨by omega,_,gE hi,by omega,_,gE p1,?_⟩;rw[e1];by_cases e:kx x s.Rows[i]=(c:Int)
    .rw[Ya e,Ycz (by simpa using e)];refine⟨by omega,by omega,?_⟩;rw[ih2 _ (by simp) (by simp;omega)];simp
    .rw[Yb e,Yc0 (by simpa using e)];exact ih2 acc ha (by omega)
  simpa using inner 0 (Yd _) acc ha (by omega)
theorem ZBE(vs:WA):∀c:Nat,c<=10->ZfC s vs x c=some (ZJ ⟨vs,Qb x s.Rows c⟩):=by
 have hl:=h.len;refine down 10 ?_ ?_
 .refine ZyD _ _ _ _ _ ?_;rw[Yb (by decide),Z0R,Jt]
 .intro c hc ih;refine ZyD _ _ _ _ _ ?_;rw[Ya (by omega),Z0Q hc];have inner:∀i,i<=s.Rows.length->ZfD s vs x c i=some (ZJ ⟨vs,((s.Rows.drop i).filter λr=>decide (kx x r=(c:Int)))++Qb x s.Rows (c+1)⟩):=by
   refine down _ ?_ ?_
   .refine ZyE _ _ _ _ _ _ ?_;rw[Yb (by omega),Yp,wA (by omega) (by omega)]
    exact_mod_cast ih
   .intro i hi ih2;refine ZyE _ _ _ _ _ _ ?_;obtain⟨p1,p2,p3⟩:=hk _ (Yh hi);have e1:s.Rows[i][x]=kx x s.Rows[i]:=(getElem!_pos s.Rows[i] x p1).symm;have h4:=h.row4 (Yh hi);rw[Ya (by omega),wS hi (by omega),Yj hi];refine⟨by omega,_,gE hi,by omega,_,gE p1,?_⟩;rw[e1];by_cases e:kx x s.Rows[i]=(c:Int)
    .rw[Ya e,Ycz (by simpa using e)];refine⟨by omega,?_⟩
     -- the first row: the rest of this round,then the further classes
     have rest:∀k,k<=s.Rows.length->∀acc:XS,acc≠[]->acc.length+(s.Rows.length-k)<=5000->KR s vs acc x c k=some (ZJ ⟨vs,acc++(((s.Rows.drop k).filter λr=>decide (kx x r=(c:Int)))++Qb x s.Rows (c+1))⟩):=by
      refine down _ ?_ ?_
      .intro acc ha hb;refine Zji _ _ _ _ _ _ _ ?_;rw[Yb (by omega),Yp,wA (by omega) (by omega)]
       exact_mod_cast ZBD h hk vs (c+1) (by omega) acc ha (by omega)
      .intro k hk2 ih3 acc ha hb;refine Zji _ _ _ _ _ _ _ ?_;obtain⟨p1,p2,p3⟩:=hk _ (Yh hk2);have e1:s.Rows[k][x]=kx x s.Rows[k]:=(getElem!_pos s.Rows[k] x p1).symm;have h4:=h.row4 (Yh hk2);rw[Ya (by omega),wS hk2 (by omega),Yj hk2];refine⟨by omega,_,gE hk2,by omega,_,gE p1,?_⟩;rw[e1];by_cases e:kx x s.Rows[k]=(c:Int)
       .rw[Ya e,Ycz (by simpa using e)];refine⟨by omega,by omega,?_⟩;rw[ih3 _ (by simp) (by simp;omega)];simp
       .rw[Yb e,Yc0 (by simpa using e)];exact ih3 acc ha (by omega)
     rw[rest (i+1) (by omega) [s.Rows[i]] (by simp) (by simp;omega)];simp
    .rw[Yb e,Yc0 (by simpa using e)];exact ih2
  simpa using inner 0 (Yd _)
end
theorem ZBF{s:Zb}(h:VS s){v:Int}(hv:has s.Vars v=true):ZaB s v=some (ZJ (Zbd s v)):=by
 obtain⟨c1,c2,c3⟩:=Xj hv;refine Z8E _ _ _ ⟨_,xFd h.four v,_,Zbh h,?_⟩;rw[Ya rfl,Yb (by omega)];refine⟨by have:=h.four;omega,?_⟩;have:=ZBE h (h.ok hv) s.Vars 0 (by omega);rw[clsF_0,show((cix s.Vars v).toNat:Int)=cix s.Vars v by omega]at this;exact this
theorem Z0S{l:WA}(h:l.length<=4096):Zae l=some (.tup [],[.arr 3 1 true ((Z1 l).map ic)]):=by unfold Zae;exact ZB7 h
theorem x_cptI{l:WA}(h:l.length<=4096):Zim l=some (.own 1,[.dead,.arr 3 1 true ((Xq l).map ic)]):=by unfold Zim;exact c_cptI h
theorem V8{r:WA}{i:Int}(h0:0<=i)(h:i.toNat<r.length):r[i.toNat]?=some (ZP r i):=by unfold ZP;rw[Y5,Yi h];rfl
def scR(a:Zc)(r:WA):WA:=(Z1 a.Vars).map λv=>ZP r (cix a.Vars v)
section
variable{a:Zc}(ha:a.Vars.length<=4)
include ha
omit ha in
theorem ZjL:(Z1 a.Vars).length=a.Vars.length:=(Zgt _).length_eq
theorem ZBG{r:WA}(hr:r.length=a.Vars.length)(rows:XS)(n i:Int)(R:XR):∀j,j<=(Z1 a.Vars).length->
  Zai a (Z1 a.Vars) [scR a r] rows n (w (i+1))=some R->ZeY a (Z1 a.Vars) ((scR a r).take j) rows r n i (Z1 a.Vars).length j=some R:=by
 have h4:=ZjL (a:=a);refine down _ ?_ ?_
 .intro h;refine ZxJ _ _ _ _ _ _ _ _ _ _ ?_;rw[Yb (by omega),Yb4 (by simp[scR])];exact h
 .intro j hj ih h;refine ZxJ _ _ _ _ _ _ _ _ _ _ ?_;have hh:has a.Vars (Z1 a.Vars)[j]=true:=ZO.2 ((Q2 _ _).1 (Yh hj));obtain⟨c1,c2,c3⟩:=Xj hh;rw[Ya (by omega),wS hj (by omega)];refine⟨by omega,_,gE hj,_,xIx ha _,c1,_,V8 c1 (by omega),by simp;omega,?_⟩;have hl:j<(scR a r).length:=by simp[scR];omega
  have:=ih h;rw[Yb0 hl]at this;simpa[scR]using this
theorem ZBH{r:WA}(hr:r.length=a.Vars.length)(acc rows:XS)(c:acc.length<=1000)(n i:Int)(R:XR):∀j,j<=(Z1 a.Vars).length->
  Zai a (Z1 a.Vars) (acc++[scR a r]) rows n (w (i+1))=some R->ZeZ a (Z1 a.Vars) acc ((scR a r).take j) rows r n i (Z1 a.Vars).length j=some R:=by
 have h4:=ZjL (a:=a);refine down _ ?_ ?_
 .intro h;refine ZxL _ _ _ _ _ _ _ _ _ _ _ ?_;rw[Yb (by omega),Yb4 (by simp[scR])];exact⟨by omega,h⟩
 .intro j hj ih h;refine ZxL _ _ _ _ _ _ _ _ _ _ _ ?_;have hh:has a.Vars (Z1 a.Vars)[j]=true:=ZO.2 ((Q2 _ _).1 (Yh hj));obtain⟨c1,c2,c3⟩:=Xj hh;rw[Ya (by omega),wS hj (by omega)];refine⟨by omega,_,gE hj,_,xIx ha _,c1,_,V8 c1 (by omega),by simp;omega,?_⟩;have hl:j<(scR a r).length:=by simp[scR];omega
  have:=ih h;rw[Yb0 hl]at this;simpa[scR]using this
theorem ZBI{rows:XS}(hn:rows.length<=8)(hr:∀r∈rows,r.length=a.Vars.length):∀i,i<=rows.length->∀acc:XS,acc≠[]->acc.length<=i->
  Zai a (Z1 a.Vars) acc rows rows.length i=some (ZJ ⟨Z1 a.Vars,acc++(rows.drop i).map (scR a)⟩):=by
 refine down _ ?_ ?_
 .intro acc h0 hl;refine ZxK _ _ _ _ _ _ _ ?_;rw[Yb (by omega),Yp,Yb5,Ybd,Js h0]
 .intro i hi ih acc h0 hl;refine ZxK _ _ _ _ _ _ _ ?_;rw[Ya (by omega)];refine⟨by omega,_,gE hi,?_⟩;have:=ZBH ha (hr _ (Yh hi)) acc rows (by omega) rows.length i _ 0 (Yd _) (by rw[wS hi (by omega)];exact ih (acc++[scR a rows[i]]) (by simp) (by simp;omega));rw[Ycq,Yt]at this;rw[Yj hi,Yw];exact this
end
theorem ZBJ{d:Zn}(hd:LeD d){q:Ze}(hq:LeQ q)(h:Z6 d q=true){i:Int}(hi:inR i 0 (q.Atoms.length-1)=true):Zah d q i=some (ZJ (V0 d q i)):=by
 have hv:Zu q.Zk q.Atoms=true:=by unfold Z6 at h;simp only[Ye]at h;exact h.1
 have hl:=Xx hv;have hi':=hi;simp[inR]at hi';have hlt:i.toNat<q.Atoms.length:=by omega
 have he:q.Atoms[i.toNat]?=some q.Atoms[i.toNat]:=Yi hlt;have hm:q.Atoms[i.toNat]∈q.Atoms:=Yh hlt;generalize q.Atoms[i.toNat]=a at he hm;obtain⟨t,t1,t2,t3,t4,t5,t6⟩:=Zgw h hm;have hvl:=J7 hv a hm;have ha:a.Vars.length<=4:=by omega
 have hr:∀r∈t.Rows,r.length=a.Vars.length:=λr hr=>Kj (t5 r hr)
 have hsc:V0 d q i=⟨Z1 a.Vars,t.Rows.map (scR a)⟩:=by
  unfold V0;rw[he];simp only[t3];rfl
 have hk:=ZzQ d hd a.Name;rw[t1]at hk;rw[hsc];refine Z7G _ _ _ _ ⟨_,Zqb d hd q hq,?_⟩;rw[h,Ya rfl,show w ((q.Atoms.length:Int)-1)=(q.Atoms.length:Int)-1 from ZD (by omega) (by omega)];refine⟨_,WN _ _ _,?_⟩;rw[hi,Ya rfl];refine⟨by omega,a,he,.inr ⟨_,_,_,hk,_,Zdp _ (by omega),_,Z0S (by omega),?_⟩⟩;refine Z7F _ _ _ _ _ _ ?_
 cases hc:t.Rows with
 |nil=>rw[Yb (by simp),Yb5,Jt]
 |cons r rs =>
  rw[hc]at hr t4;rw[Ya (by simp)];refine⟨by omega,r,rfl,?_⟩
  have:=ZBG ha (hr r (by simp)) (r::rs) (r::rs).length 0 _ 0 (Yd _) (by
   rw[show w ((0:Int)+1)=((1:Nat):Int) by decide]
   exact ZBI ha t4 hr 1 (by simp) [scR a r] (by simp) (by simp))
  rw[Ycq]at this;simpa using this
theorem l_col(a:Zc)(ha:a.Vars.length<=4)(v:Int):∀k,k<=a.Vars.length->Zf3 a v k=some (I (ZM (λx=>decide (v=x)) (a.Vars.drop k) k),[]):=by
 refine down _ ?_ ?_
 .refine Zy6 _ _ _ _ ?_;rw[Yb (by omega),Yp];rfl
 .intro k hk ih;refine Zy6 _ _ _ _ ?_;rw[Ya (by omega),Kz _ hk,wS hk (by omega)];refine⟨by omega,_,gE hk,?_⟩;by_cases e:a.Vars[k]=v
  .rw[Ya e,Ya (by simp[e])]
  .rw[Yb e,Yb (by simpa using λh=>e h.symm)];exact ih
theorem Z0T(a:Zc)(ha:a.Vars.length<=4)(v:Int):Zf2 a v=some (I (cix a.Vars v),[]):=Z88 _ _ _ (by simpa[cix]using l_col a ha v 0 (Yd _))
theorem l_list(p:Nat->Bool):∀v,v<=4->JM (((List.range v).filter p).map λu:Nat=>(u:Int)) (ZH p) v=some (.own 0,[.arr 3 1 true ((((List.range 4).filter p).map λu:Nat=>(u:Int)).map ic)]):=by
 refine down 4 ?_ ?_
 .refine Zjc _ _ _ _ ?_;rw[Yb (by decide)]
 .intro v hv ih;refine Zjc _ _ _ _ ?_;have hb:=Zhj p (v:=(v:Int)) (by simp[inR];omega);rw[Yf]at hb;have hlen:(((List.range v).filter p).map λu:Nat=>(u:Int)).length<=v:=by
   rw[Y6];exact Yu (Ybz _ _) (by simp)
  rw[Ya (by omega),wS hv (by omega)];rw[Ycp,Ydd,Ybn]at ih;refine⟨by omega,?_⟩;rcases tf (p v)with e|e
  .rw[Yb (by rw[hb,e];decide)];rw[Yc0 (by simp[e])]at ih;simpa using ih
  .rw[Ya (hb.2 e)];rw[Ycz (by simp[e])]at ih;exact⟨by omega,by simpa using ih⟩
theorem varL4{n:Int}{qa:List Zc}(h:Zu n qa=true)(m:Int):Z9 m qa 4=Z9 m qa n.toNat:=by
 refine Zgs (Zdz _ _ _) (Zdz _ _ _) λv=>?_
 rw[Zbc h];unfold Z9 vin;simp only[Y2,Y0,Ybm,Ye];constructor
 .rintro⟨u,⟨hu,hp⟩,rfl⟩;exact⟨by simp[inR];omega,by simpa using hp⟩
 .rintro⟨h1,h2⟩;simp[inR]at h1;exact⟨v.toNat,⟨by omega,h2⟩,by omega⟩
theorem shl4:∀i n:Fin 5,i.1<n.1->1<=n.1->inR (shlI 1 (i.1:Int)) 0 (w (shlI 1 (n.1:Int)-1))=true:=by decide
theorem ZBK{q:Ze}(hq:LeQ q)(h:Zu q.Zk q.Atoms=true){i:Nat}(hi:i<q.Atoms.length):UE q (shlI 1 (i:Int))=some (.own 0,[.arr 3 1 true ((Z9 (shlI 1 (i:Int)) q.Atoms q.Zk.toNat).map ic)]):=by
 have hl:=Xx h;refine Zxi _ _ _ ⟨true,Zxa _ _ _ ⟨_,ZaU q hq,?_⟩,?_⟩
 .rw[h,Ya rfl];refine⟨by omega,_,XD _ _ _,?_⟩;have:=shl4 ⟨i,by omega⟩ ⟨q.Atoms.length,by omega⟩ hi hl.1;simp only[]at this;rw[this]
 .rw[Ya rfl];refine⟨_,ZaV q _ hq (K1 h),_,Zxh _ _ (l_list _ 0 (by omega)),?_⟩;rw[<-varL4 h];rfl
section
variable{q:Ze}{a:Zc}(ha:a.Vars.length<=4){i:Nat}(he:q.Atoms[i]?=some a)(nm:V5)(ar:Int)
include ha he
theorem ZBL{rows:XS}{k:Nat}(hk:k<rows.length)(hr:rows[k].length=a.Vars.length)(R:XR):∀j,j<=(Z1 a.Vars).length->
  ZaA q nm ar rows (Z1 a.Vars) [scR a rows[k]] i (w (k+1))=some R->Zf7 q nm ar rows (Z1 a.Vars) ((scR a rows[k]).take j) i k j=some R:=by
 have h4:=ZjL (a:=a);refine down _ ?_ ?_
 .intro h;refine Zy7 _ _ _ _ _ _ _ _ _ _ ?_;rw[Yb (by omega),Yb4 (by simp[scR])];exact h
 .intro j hj ih h;refine Zy7 _ _ _ _ _ _ _ _ _ _ ?_;have hh:has a.Vars (Z1 a.Vars)[j]=true:=ZO.2 ((Q2 _ _).1 (Yh hj));obtain⟨c1,c2,c3⟩:=Xj hh;rw[Ya (by omega),wS hj (by omega)];refine⟨by omega,_,gE hk,by omega,a,by rw[Yf];exact he,by omega,_,gE hj,_,Z0T a ha _,c1,_,V8 c1 (by omega),by simp;omega,?_⟩;have hl:j<(scR a rows[k]).length:=by simp[scR];omega
  have:=ih h;rw[Yb0 hl]at this;simpa[scR]using this
theorem ZBM{rows:XS}{k:Nat}(hk:k<rows.length)(hr:rows[k].length=a.Vars.length)(acc:XS)(c:acc.length<=1000)(R:XR):∀j,j<=(Z1 a.Vars).length->
  ZaA q nm ar rows (Z1 a.Vars) (acc++[scR a rows[k]]) i (w (k+1))=some R->Zf8 q nm ar rows (Z1 a.Vars) acc ((scR a rows[k]).take j) i k j=some R:=by
 have h4:=ZjL (a:=a);refine down _ ?_ ?_
 .intro h;refine Zy9 _ _ _ _ _ _ _ _ _ _ _ ?_;rw[Yb (by omega),Yb4 (by simp[scR])];exact⟨by omega,h⟩
 .intro j hj ih h;refine Zy9 _ _ _ _ _ _ _ _ _ _ _ ?_;have hh:has a.Vars (Z1 a.Vars)[j]=true:=ZO.2 ((Q2 _ _).1 (Yh hj));obtain⟨c1,c2,c3⟩:=Xj hh;rw[Ya (by omega),wS hj (by omega)];refine⟨by omega,_,gE hk,by omega,a,by rw[Yf];exact he,by omega,_,gE hj,_,Z0T a ha _,c1,_,V8 c1 (by omega),by simp;omega,?_⟩;have hl:j<(scR a rows[k]).length:=by simp[scR];omega
  have:=ih h;rw[Yb0 hl]at this;simpa[scR]using this
theorem ZBN{rows:XS}(hn:rows.length<=8)(hr:∀r∈rows,r.length=a.Vars.length):∀k,k<=rows.length->∀acc:XS,acc≠[]->acc.length<=k->
  ZaA q nm ar rows (Z1 a.Vars) acc i k=some (ZJ ⟨Z1 a.Vars,acc++(rows.drop k).map (scR a)⟩):=by
 refine down _ ?_ ?_
 .intro acc h0 hl;refine Zy8 _ _ _ _ _ _ _ _ _ ?_;rw[Yb (by omega),Yp,Yb5,Ybd,Js h0]
 .intro k hk ih acc h0 hl;refine Zy8 _ _ _ _ _ _ _ _ _ ?_;rw[Ya (by omega)];have:=ZBM ha he nm ar hk (hr _ (Yh hk)) acc (by omega) _ 0 (Yd _) (by rw[wS hk (by omega)];exact ih (acc++[scR a rows[k]]) (by simp) (by simp;omega));rw[Ycq,Yt]at this;rw[Yj hk,Yw];exact this
end
theorem ZBO{d:Zn}(hd:LeD d){q:Ze}(hq:LeQ q)(h:Z6 d q=true){i:Int}(hi:inR i 0 (q.Atoms.length-1)=true):Za9 d q i=some (ZJ (V0 d q i)):=by
 have hv:Zu q.Zk q.Atoms=true:=by unfold Z6 at h;simp only[Ye]at h;exact h.1
 have hl:=Xx hv;have hi':=hi;simp[inR]at hi';obtain⟨n,rfl⟩:∃n:Nat,i=(n:Int):=⟨i.toNat,by omega⟩;have hlt:n<q.Atoms.length:=by omega
 have he:q.Atoms[n]?=some q.Atoms[n]:=Yi hlt;have hm:q.Atoms[n]∈q.Atoms:=Yh hlt;generalize q.Atoms[n]=a at he hm;obtain⟨t,t1,t2,t3,t4,t5,t6⟩:=Zgw h hm;have hvl:=J7 hv a hm;have ha:a.Vars.length<=4:=by omega
 have hr:∀r∈t.Rows,r.length=a.Vars.length:=λr hr=>Kj (t5 r hr)
 have hsc:V0 d q (n:Int)=⟨Z1 a.Vars,t.Rows.map (scR a)⟩:=by
  unfold V0;rw[Yf,he];simp only[t3];rfl
 have hk:=Zqa d hd a.Name;rw[t1]at hk;have hM:=ZBK hq hv hlt;rw[<-Zqp hv he]at hM;rw[hsc];refine Z8B _ _ _ _ ⟨_,Zdy d hd q hq,?_⟩;rw[h,Ya rfl,show w ((q.Atoms.length:Int)-1)=(q.Atoms.length:Int)-1 from ZD (by omega) (by omega)];refine⟨_,XD _ _ _,?_⟩;rw[hi,Ya rfl];refine⟨by omega,a,by rw[Yf];exact he,?_⟩;by_cases hc:t.Rows=[]
 .simp only[Zba,Ya hc]at hk;refine .inl ⟨_,_,_,hk,by omega,_,hM,?_⟩;refine Z89 _ _ _ _ _ _ _ ?_;rw[Yb (by decide),hc,Yb5,Jt]
 .simp only[Zba,Yb hc]at hk;refine .inr ⟨_,_,_,hk,by omega,_,hM,?_⟩;have h0:0<t.Rows.length:=Yc1.2 hc;refine Z8A _ _ _ _ _ _ _ _ ?_;rw[Ya (by omega)]
  have:=ZBL ha he t.Name t.Arity h0 (hr _ (Yh h0)) _ 0 (Yd _) (by
   rw[show w (((0:Nat):Int)+1)=((1:Nat):Int) by decide]
   exact ZBN ha he t.Name t.Arity t4 hr 1 (by omega) [scR a t.Rows[0]] (by simp) (by simp))
  rw[Ycq]at this;have e:[scR a t.Rows[0]]++(t.Rows.drop 1).map (scR a)=t.Rows.map (scR a):=by
   conv=>rhs;rw[<-Yo (l:=t.Rows),Yj h0]
   rfl
  rw[e]at this
  exact_mod_cast this
def okV(av x bv y:WA)(v:Int):Bool:=decide (cix av v<0) || decide (cix bv v<0) || decide (ZP x (cix av v)=ZP y (cix bv v))
theorem cix_at{av:WA}(h:av.Nodup){i:Nat}(hi:i<av.length):cix av av[i]=(i:Int):=by
 obtain⟨h1,h2,h3⟩:=Xj (vs:=av) (v:=av[i]) (ZO.2 (Yh hi));rw[Yi h2]at h3;have:=(List.getElem_inj h).1 (Yb8 h3);omega
theorem ZBP{l:WA}(h:Asc l):l.Nodup:=h.imp (by intro a b h;omega)
theorem ZBQ{vs av x bv y:WA}(ha:av.Nodup)(h1:∀v∈av,v∈vs):agr av x bv y=vs.all (okV av x bv y):=by
 rw[Yby];unfold agr;rw[Yn,Yn];constructor
 .intro h v hv;unfold okV;by_cases hc:cix av v<0
  .simp[hc]
  .have hh:has av v=true:=W7.1 (by omega);obtain⟨c1,c2,c3⟩:=Xj hh;have:=h (cix av v).toNat (Ybm.2 c2);have e:av.getD (cix av v).toNat 0=v:=by rw[Y5,c3];rfl
   rw[e]at this;have e2:x.getD (cix av v).toNat 0=ZP x (cix av v):=rfl;rw[e2]at this;simp only[Yb6,decide_eq_true_eq]at this|-;omega
 .intro h i hi;have hi:=Ybm.1 hi;have e:av.getD i 0=av[i]:=by rw[Y5,Yi hi];rfl
  have:=h av[i] (h1 _ (Yh hi));unfold okV at this;rw[cix_at ha hi]at this;rw[e];have e2:ZP x (i:Int)=x.getD i 0:=by unfold ZP;rw[Yf]
  rw[e2]at this;simp only[Yb6,decide_eq_true_eq]at this|-;omega
abbrev Kl(a b:Zb)(r:AV):Blk:=.box [L 1 (a.Vars.map ic),L 1 (a.Rows.map isc),L 1 (b.Vars.map ic),L 1 (b.Rows.map isc),.own 1,r]
section
variable{a b:Zb}(ha:a.Vars.length<=4)(hb:b.Vars.length<=4){vs:WA}(hvs:vs.length<=8)(hh:∀v∈vs,has a.Vars v=true\/has b.Vars v=true){x y:WA}(hx:x.length=a.Vars.length)(hy:y.length=b.Vars.length)
include ha hb hvs hh hx hy
theorem l_pair:∀i,i<=vs.length->Zar a b vs ((vs.take i).map (mrV a.Vars x b.Vars y)) x y vs.length i =
  some (.tup [],if(vs.drop i).all (okV a.Vars x b.Vars y)=true then[Kl a b (.own 2),.arr 3 1 true (vs.map ic),.arr 42 1 true (([vs.map (mrV a.Vars x b.Vars y)]).map isc)]else[Kl a b (.t .nil),.arr 3 1 true (vs.map ic)]):=by
 refine down _ ?_ ?_
 .refine ZxY _ _ _ _ _ _ _ _ _ ?_;rw[Yb (by omega),Yp,Ya (by rfl),Yc4]
 .intro i hi ih;refine ZxY _ _ _ _ _ _ _ _ _ ?_;rw[Ya (by omega),wS hi (by omega),Yj hi,Y3];rw[Yb0 hi,Ybn]at ih;have hl:((vs.take i).map (mrV a.Vars x b.Vars y)).length<=8:=by simp;omega
  refine⟨by omega,_,gE hi,_,xIx ha _,_,xIx hb _,?_⟩;have hv:=hh _ (Yh hi);generalize hvi:vs[i]=v at *
  by_cases h1:cix a.Vars v<0
  .have hbv:has b.Vars v=true:=hv.resolve_left λe=>by have:=(Xj e).1;omega
   obtain⟨c1,c2,c3⟩:=Xj hbv;rw[Ya h1,show okV a.Vars x b.Vars y v=true by simp[okV,h1],Yy];have e:mrV a.Vars x b.Vars y v=ZP y (cix b.Vars v):=by unfold mrV;rw[Yb (by omega)]
   refine⟨c1,_,V8 c1 (by omega),by omega,?_⟩;rw[<-ih,<-e];rfl
  .have hav:has a.Vars v=true:=W7.1 (by omega);obtain⟨d1,d2,d3⟩:=Xj hav;have e:mrV a.Vars x b.Vars y v=ZP x (cix a.Vars v):=by unfold mrV;rw[Ya d1]
   rw[Yb h1];by_cases h2:0<=cix b.Vars v
   .obtain⟨c1,c2,c3⟩:=Xj (W7.1 h2);rw[Ya h2];refine⟨d1,_,V8 d1 (by omega),_,V8 c1 (by omega),?_⟩;by_cases h3:ZP x (cix a.Vars v)=ZP y (cix b.Vars v)
    .rw[Ya h3,show okV a.Vars x b.Vars y v=true by simp[okV,h3],Yy];refine⟨by omega,?_⟩;rw[<-ih,<-e];rfl
    .rw[Yb h3,show okV a.Vars x b.Vars y v=false by simp[okV,h3,h1];omega,Ydq,Yb (by decide)]
   .rw[Yb h2,show okV a.Vars x b.Vars y v=true by simp[okV];omega,Yy];refine⟨d1,_,V8 d1 (by omega),by omega,?_⟩;rw[<-ih,<-e];rfl
theorem ZBR{acc:XS}(c:acc.length<=100000):∀i,i<=vs.length->Zat a b vs acc ((vs.take i).map (mrV a.Vars x b.Vars y)) x y vs.length i =
  some (.tup [],if(vs.drop i).all (okV a.Vars x b.Vars y)=true then[Kl a b (.own 3),.arr 3 1 true (vs.map ic),.dead,.arr 42 1 true ((acc++[vs.map (mrV a.Vars x b.Vars y)]).map isc)]else[Kl a b (.own 2),.arr 3 1 true (vs.map ic),.arr 42 1 true (acc.map isc)]):=by
 refine down _ ?_ ?_
 .refine Zya _ _ _ _ _ _ _ _ _ _ ?_;rw[Yb (by omega),Yp,Ya (by rfl),Yc4];exact⟨by omega,rfl⟩
 .intro i hi ih;refine Zya _ _ _ _ _ _ _ _ _ _ ?_;rw[Ya (by omega),wS hi (by omega),Yj hi,Y3];rw[Yb0 hi,Ybn]at ih;have hl:((vs.take i).map (mrV a.Vars x b.Vars y)).length<=8:=by simp;omega
  refine⟨by omega,_,gE hi,_,xIx ha _,_,xIx hb _,?_⟩;have hv:=hh _ (Yh hi);generalize hvi:vs[i]=v at *
  by_cases h1:cix a.Vars v<0
  .have hbv:has b.Vars v=true:=hv.resolve_left λe=>by have:=(Xj e).1;omega
   obtain⟨c1,c2,c3⟩:=Xj hbv;rw[Ya h1,show okV a.Vars x b.Vars y v=true by simp[okV,h1],Yy];have e:mrV a.Vars x b.Vars y v=ZP y (cix b.Vars v):=by unfold mrV;rw[Yb (by omega)]
   refine⟨c1,_,V8 c1 (by omega),by omega,?_⟩;rw[<-ih,<-e];rfl
  .have hav:has a.Vars v=true:=W7.1 (by omega);obtain⟨d1,d2,d3⟩:=Xj hav;have e:mrV a.Vars x b.Vars y v=ZP x (cix a.Vars v):=by unfold mrV;rw[Ya d1]
   rw[Yb h1];by_cases h2:0<=cix b.Vars v
   .obtain⟨c1,c2,c3⟩:=Xj (W7.1 h2);rw[Ya h2];refine⟨d1,_,V8 d1 (by omega),_,V8 c1 (by omega),?_⟩;by_cases h3:ZP x (cix a.Vars v)=ZP y (cix b.Vars v)
    .rw[Ya h3,show okV a.Vars x b.Vars y v=true by simp[okV,h3],Yy];refine⟨by omega,?_⟩;rw[<-ih,<-e];rfl
    .rw[Yb h3,show okV a.Vars x b.Vars y v=false by simp[okV,h3,h1];omega,Ydq,Yb (by decide)]
   .rw[Yb h2,show okV a.Vars x b.Vars y v=true by simp[okV];omega,Yy];refine⟨d1,_,V8 d1 (by omega),by omega,?_⟩;rw[<-ih,<-e];rfl
end
structure J2 (a b:Zb):Prop where
 va:VS a
 vb:VS b
 prod:a.Rows.length*b.Rows.length<=4096
section
variable{a b:Zb}(J:J2 a b)
include J
theorem J2.ina:∀x∈a.Vars,inR x 0 3=true:=Zq3 J.va.vars
theorem J2.inb:∀x∈b.Vars,inR x 0 3=true:=Zq3 J.vb.vars
omit J in
theorem J2.hh:∀v∈uni a.Vars b.Vars,has a.Vars v=true\/has b.Vars v=true:=λ_ h=>Zqv h
omit J in
theorem J2.len:(uni a.Vars b.Vars).length<=8:=Yu (Ybz _ _) (by simp)
theorem J2.agr(x y:WA):agr a.Vars x b.Vars y=(uni a.Vars b.Vars).all (okV a.Vars x b.Vars y):=ZBQ (ZBP (Z0M J.va.vars).1) λv hv=>(Zgu J.ina J.inb v).2 (.inl hv)
theorem Z0U{x y:WA}(hx:x∈a.Rows)(hy:y∈b.Rows):KC a b (uni a.Vars b.Vars) x y=some (.tup [],match prS (uni a.Vars b.Vars) a.Vars x b.Vars y with
  |some r=>[Kl a b (.own 2),.arr 3 1 true ((uni a.Vars b.Vars).map ic),.arr 42 1 true (([r]).map isc)]
  |none=>[Kl a b (.t .nil),.arr 3 1 true ((uni a.Vars b.Vars).map ic)]):=by
 have:=l_pair J.va.four J.vb.four J2.len J2.hh (J.va.row4 hx).1 (J.vb.row4 hy).1 0 (Yd _);refine Z7S _ _ _ _ _ _ ?_;rw[Ycq,Yo,<-J.agr]at this;unfold prS;rcases tf (Go.Proofs.YtgbipcfdgfjplaaGreat.agr a.Vars x b.Vars y)with e|e
 .rw[e,Yb (by decide)]at this|-;exact this
 .rw[e,Ya rfl]at this|-;exact this
theorem Z0V{x y:WA}(hx:x∈a.Rows)(hy:y∈b.Rows){acc:XS}(c:acc.length<=100000):Zas a b (uni a.Vars b.Vars) acc x y=some (.tup [],match prS (uni a.Vars b.Vars) a.Vars x b.Vars y with
  |some r=>[Kl a b (.own 3),.arr 3 1 true ((uni a.Vars b.Vars).map ic),.dead,.arr 42 1 true ((acc++[r]).map isc)]
  |none=>[Kl a b (.own 2),.arr 3 1 true ((uni a.Vars b.Vars).map ic),.arr 42 1 true (acc.map isc)]):=by
 have:=ZBR J.va.four J.vb.four J2.len J2.hh (J.va.row4 hx).1 (J.vb.row4 hy).1 c 0 (Yd _);refine Z7T _ _ _ _ _ _ _ ?_;rw[Ycq,Yo,<-J.agr]at this;unfold prS;rcases tf (Go.Proofs.YtgbipcfdgfjplaaGreat.agr a.Vars x b.Vars y)with e|e
 .rw[e,Yb (by decide)]at this|-;exact this
 .rw[e,Ya rfl]at this|-;exact this
theorem Z0W:Zcs a b=some (.ptr 0 0,[Kl a b (.t .nil),.arr 3 1 true ((uni a.Vars b.Vars).map ic)]):=by
 have h1:=J.va.four;have h2:=J.vb.four;have hl:(Z1 (a.Vars++b.Vars)).length=(a.Vars++b.Vars).length:=(Zgt _).length_eq;have hc:=ZAS J.ina J.inb;refine Z7R _ _ _ ⟨_,Zdp _ (by omega),by omega,_,Z0S (by simp;omega),_,x_cptI (by rw[hl];simp;omega),?_⟩;rw[hc]
def hTl(a b:Zb)(j:Nat):XS:=(b.Rows.drop j).flatMap λy=>a.Rows.filterMap λx=>prS (uni a.Vars b.Vars) a.Vars x b.Vars y
omit J in
theorem Z0X{j:Nat}(h:j<b.Rows.length):hTl a b j=(a.Rows.filterMap λx=>prS (uni a.Vars b.Vars) a.Vars x b.Vars b.Rows[j])++hTl a b (j+1):=by
 unfold hTl;rw[Yj h,Ybx]
omit J in
theorem Z0Y{j:Nat}(h:b.Rows.length<=j):hTl a b j=[]:=by unfold hTl;rw[Ybw h];rfl
theorem hlim{j i:Nat}(hj:j<b.Rows.length)(hi:i<=a.Rows.length):a.Rows.length*j+i<=4096:=by
 have hp:=J.prod
 have:a.Rows.length*(j+1)<=a.Rows.length*b.Rows.length:=Nat.mul_le_mul_left _ hj
 rw[Ydm]at this
 skip
 omega
theorem Z0Z{j:Nat}(hj:j<b.Rows.length)(ih:∀acc:XS,acc≠[]->acc.length<=a.Rows.length*(j+1)->Zfh a a b (uni a.Vars b.Vars) acc b.Rows b.Rows.length ((j+1:Nat):Int)=some (ZJ ⟨uni a.Vars b.Vars,acc++hTl a b (j+1)⟩)) :
  ∀i,i<=a.Rows.length->∀acc:XS,acc≠[]->acc.length<=a.Rows.length*j+i->Zav a a b (uni a.Vars b.Vars) acc b.Rows[j] b.Rows b.Rows.length j a.Rows a.Rows.length i=some (ZJ ⟨uni a.Vars b.Vars,acc++(((a.Rows.drop i).filterMap λx=>prS (uni a.Vars b.Vars) a.Vars x b.Vars b.Rows[j])++hTl a b (j+1))⟩):=by
 have hl1:=J.va.len;have hl2:=J.vb.len;refine down _ ?_ ?_
 .intro acc h0 hacc;have:=hlim J hj (Yg _);refine Zye _ _ _ _ _ _ _ _ _ _ _ _ _ ?_;rw[Yb (by omega),Yb (by omega),Yp,Yd8,Ybk,wS hj (by omega)];exact ih acc h0 (by rw[Ydm];omega)
 .intro i hi ih2 acc h0 hacc;have:=hlim J hj (i:=i) (by omega);refine Zye _ _ _ _ _ _ _ _ _ _ _ _ _ ?_;rw[Ya (by omega),wS hi (by omega)];refine⟨by omega,_,gE hi,?_⟩;have hP:=Z0V J (Yh hi) (Yh hj) (acc:=acc) (by omega);rw[Yj hi]
  cases hc:prS (uni a.Vars b.Vars) a.Vars a.Rows[i] b.Vars b.Rows[j]with
  |none =>
   rw[hc]at hP;rw[Ydu (f:=λx=>prS (uni a.Vars b.Vars) a.Vars x b.Vars b.Rows[j]) hc]
   exact .inl ⟨_,_,_,_,hP,ih2 acc h0 (by omega)⟩
  |some r =>
   rw[hc]at hP;rw[Ydv (f:=λx=>prS (uni a.Vars b.Vars) a.Vars x b.Vars b.Rows[j]) hc];refine .inr ⟨_,_,_,_,hP,?_⟩;rw[ih2 (acc++[r]) (by simp) (by simp;omega)];simp
theorem l_h1a:∀j,j<=b.Rows.length->∀acc:XS,acc≠[]->acc.length<=a.Rows.length*j->Zfh a a b (uni a.Vars b.Vars) acc b.Rows b.Rows.length j=some (ZJ ⟨uni a.Vars b.Vars,acc++hTl a b j⟩):=by
 have hp:=J.prod;have hl1:=J.va.len;have hl2:=J.vb.len;refine down _ ?_ ?_
 .intro acc h0 hacc;refine Zyf _ _ _ _ _ _ _ _ _ ?_;rw[Yb (by omega),Z0Y (Yg _),Ybd,Js h0]
  skip
  refine .inr ⟨Zyb _ _ _ _ _ ?_,rfl⟩;rw[Yb (by omega)]
 .intro j hj ih acc h0 hacc;refine Zyf _ _ _ _ _ _ _ _ _ ?_;rw[Ya (by omega)];refine⟨by omega,_,gE hj,?_⟩;have:=Z0Z J hj ih 0 (Yd _) acc h0 (by omega);rw[Yo,<-Z0X hj]at this;exact this
theorem l_h1:∀j,j<=b.Rows.length->Zff a a b (uni a.Vars b.Vars) b.Rows b.Rows.length j=some (ZJ ⟨uni a.Vars b.Vars,hTl a b j⟩):=by
 have hl1:=J.va.len;have hl2:=J.vb.len;refine down _ ?_ ?_
 .refine Zyc _ _ _ _ _ _ _ _ ?_;rw[Yb (by omega),Z0Y (Yg _),Jt];exact⟨ZxZ _ _ _ _ rfl,rfl⟩
 .intro j hj ih;have inner:∀i,i<=a.Rows.length->Zfg a a b (uni a.Vars b.Vars) b.Rows[j] b.Rows b.Rows.length j a.Rows a.Rows.length i=some (ZJ ⟨uni a.Vars b.Vars,((a.Rows.drop i).filterMap λx=>prS (uni a.Vars b.Vars) a.Vars x b.Vars b.Rows[j])++hTl a b (j+1)⟩):=by
   refine down _ ?_ ?_
   .refine Zyd _ _ _ _ _ _ _ _ _ _ _ _ ?_;rw[Yb (by omega),Yp,Yd8,Ybk,wS hj (by omega)];exact ih
   .intro i hi ih2;refine Zyd _ _ _ _ _ _ _ _ _ _ _ _ ?_;rw[Ya (by omega),wS hi (by omega)];refine⟨by omega,_,gE hi,?_⟩;have hP:=Z0U J (Yh hi) (Yh hj);rw[Yj hi]
    cases hc:prS (uni a.Vars b.Vars) a.Vars a.Rows[i] b.Vars b.Rows[j]with
    |none =>
     rw[hc]at hP;rw[Ydu (f:=λx=>prS (uni a.Vars b.Vars) a.Vars x b.Vars b.Rows[j]) hc]
     exact .inl ⟨_,_,_,hP,ih2⟩
    |some r =>
     rw[hc]at hP;rw[Ydv (f:=λx=>prS (uni a.Vars b.Vars) a.Vars x b.Vars b.Rows[j]) hc];refine .inr ⟨_,_,_,_,hP,?_⟩;rw[Z0Z J hj (l_h1a J (j+1) hj) (i+1) (by omega) [r] (by simp) (by simp only[Ys,Ybu];omega)];simp
  refine Zyc _ _ _ _ _ _ _ _ ?_;rw[Ya (by omega)];refine⟨by omega,_,gE hj,?_⟩;have:=inner 0 (Yd _);rw[Yo,<-Z0X hj]at this;exact this
theorem ZBS:Zau a b=some (ZJ (Jo a b)):=by
 refine Z7U _ _ _ ⟨_,Zbg J.va,?_⟩;rw[Ya rfl];refine⟨_,Zbg J.vb,?_⟩;rw[Ya rfl];refine⟨_,_,_,Z0W J,?_⟩;have:=l_h1 J 0 (Yd _);have e:hTl a b 0=Vz (uni a.Vars b.Vars) a b:=by unfold hTl Vz;rw[Yo]
 rw[e]at this;exact this
def nTl(a b:Zb)(j:Nat):XS:=(a.Rows.drop j).flatMap λx=>b.Rows.filterMap λy=>prS (uni a.Vars b.Vars) a.Vars x b.Vars y
omit J in
theorem Z1a{j:Nat}(h:j<a.Rows.length):nTl a b j=(b.Rows.filterMap λy=>prS (uni a.Vars b.Vars) a.Vars a.Rows[j] b.Vars y)++nTl a b (j+1):=by
 unfold nTl;rw[Yj h,Ybx]
omit J in
theorem Z1b{j:Nat}(h:a.Rows.length<=j):nTl a b j=[]:=by unfold nTl;rw[Ybw h];rfl
theorem nlim{j i:Nat}(hj:j<a.Rows.length)(hi:i<=b.Rows.length):b.Rows.length*j+i<=4096:=by
 have hp:=J.prod
 have:b.Rows.length*(j+1)<=b.Rows.length*a.Rows.length:=Nat.mul_le_mul_left _ hj
 rw[Ydm]at this;rw[Yc8]at hp;omega
theorem Z1c{j:Nat}(hj:j<a.Rows.length)(ih:∀acc:XS,acc≠[]->acc.length<=b.Rows.length*(j+1)->Zfm b a b (uni a.Vars b.Vars) acc a.Rows a.Rows.length ((j+1:Nat):Int)=some (ZJ ⟨uni a.Vars b.Vars,acc++nTl a b (j+1)⟩)) :
  ∀i,i<=b.Rows.length->∀acc:XS,acc≠[]->acc.length<=b.Rows.length*j+i->Zaw b a b (uni a.Vars b.Vars) acc a.Rows[j] a.Rows a.Rows.length j b.Rows b.Rows.length i=some (ZJ ⟨uni a.Vars b.Vars,acc++(((b.Rows.drop i).filterMap λy=>prS (uni a.Vars b.Vars) a.Vars a.Rows[j] b.Vars y)++nTl a b (j+1))⟩):=by
 have hl1:=J.va.len;have hl2:=J.vb.len;refine down _ ?_ ?_
 .intro acc h0 hacc;have:=nlim J hj (Yg _);refine Zyi _ _ _ _ _ _ _ _ _ _ _ _ _ ?_;rw[Yb (by omega),Yb (by omega),Yp,Yd8,Ybk,wS hj (by omega)];exact ih acc h0 (by rw[Ydm];omega)
 .intro i hi ih2 acc h0 hacc;have:=nlim J hj (i:=i) (by omega);refine Zyi _ _ _ _ _ _ _ _ _ _ _ _ _ ?_;rw[Ya (by omega),wS hi (by omega)];refine⟨by omega,_,gE hi,?_⟩;have hP:=Z0V J (Yh hj) (Yh hi) (acc:=acc) (by omega);rw[Yj hi]
  cases hc:prS (uni a.Vars b.Vars) a.Vars a.Rows[j] b.Vars b.Rows[i]with
  |none =>
   rw[hc]at hP;rw[Ydu (f:=λy=>prS (uni a.Vars b.Vars) a.Vars a.Rows[j] b.Vars y) hc]
   exact .inl ⟨_,_,_,_,hP,ih2 acc h0 (by omega)⟩
  |some r =>
   rw[hc]at hP;rw[Ydv (f:=λy=>prS (uni a.Vars b.Vars) a.Vars a.Rows[j] b.Vars y) hc];refine .inr ⟨_,_,_,_,hP,?_⟩;rw[ih2 (acc++[r]) (by simp) (by simp;omega)];simp
theorem l_n1a:∀j,j<=a.Rows.length->∀acc:XS,acc≠[]->acc.length<=b.Rows.length*j->Zfm b a b (uni a.Vars b.Vars) acc a.Rows a.Rows.length j=some (ZJ ⟨uni a.Vars b.Vars,acc++nTl a b j⟩):=by
 have hp:=J.prod;have hl1:=J.va.len;have hl2:=J.vb.len;refine down _ ?_ ?_
 .intro acc h0 hacc;refine Zyj _ _ _ _ _ _ _ _ _ ?_;rw[Yb (by omega),Z1b (Yg _),Ybd,Js h0];rw[Yc8]at hp;refine .inr ⟨Zyb _ _ _ _ _ ?_,rfl⟩;rw[Yb (by omega)]
 .intro j hj ih acc h0 hacc;refine Zyj _ _ _ _ _ _ _ _ _ ?_;rw[Ya (by omega)];refine⟨by omega,_,gE hj,?_⟩;have:=Z1c J hj ih 0 (Yd _) acc h0 (by omega);rw[Yo,<-Z1a hj]at this;exact this
theorem l_n1:∀j,j<=a.Rows.length->Zfk b a b (uni a.Vars b.Vars) a.Rows a.Rows.length j=some (ZJ ⟨uni a.Vars b.Vars,nTl a b j⟩):=by
 have hl1:=J.va.len;have hl2:=J.vb.len;refine down _ ?_ ?_
 .refine Zyg _ _ _ _ _ _ _ _ ?_;rw[Yb (by omega),Z1b (Yg _),Jt];exact⟨ZxZ _ _ _ _ rfl,rfl⟩
 .intro j hj ih;have inner:∀i,i<=b.Rows.length->Zfl b a b (uni a.Vars b.Vars) a.Rows[j] a.Rows a.Rows.length j b.Rows b.Rows.length i=some (ZJ ⟨uni a.Vars b.Vars,((b.Rows.drop i).filterMap λy=>prS (uni a.Vars b.Vars) a.Vars a.Rows[j] b.Vars y)++nTl a b (j+1)⟩):=by
   refine down _ ?_ ?_
   .refine Zyh _ _ _ _ _ _ _ _ _ _ _ _ ?_;rw[Yb (by omega),Yp,Yd8,Ybk,wS hj (by omega)];exact ih
   .intro i hi ih2;refine Zyh _ _ _ _ _ _ _ _ _ _ _ _ ?_;rw[Ya (by omega),wS hi (by omega)];refine⟨by omega,_,gE hi,?_⟩;have hP:=Z0U J (Yh hj) (Yh hi);rw[Yj hi]
    cases hc:prS (uni a.Vars b.Vars) a.Vars a.Rows[j] b.Vars b.Rows[i]with
    |none =>
     rw[hc]at hP;rw[Ydu (f:=λy=>prS (uni a.Vars b.Vars) a.Vars a.Rows[j] b.Vars y) hc]
     exact .inl ⟨_,_,_,hP,ih2⟩
    |some r =>
     rw[hc]at hP;rw[Ydv (f:=λy=>prS (uni a.Vars b.Vars) a.Vars a.Rows[j] b.Vars y) hc];refine .inr ⟨_,_,_,_,hP,?_⟩;rw[Z1c J hj (l_n1a J (j+1) hj) (i+1) (by omega) [r] (by simp) (by simp only[Ys,Ybu];omega)];simp
  refine Zyg _ _ _ _ _ _ _ _ ?_;rw[Ya (by omega)];refine⟨by omega,_,gE hj,?_⟩;have:=inner 0 (Yd _);rw[Yo,<-Z1a hj]at this;exact this
theorem Z1d:Qq a b=some (ZJ (W8 a b)):=by
 refine Z7Y _ _ _ ⟨_,Zbg J.va,?_⟩;rw[Ya rfl];refine⟨_,Zbg J.vb,?_⟩;rw[Ya rfl];refine⟨_,_,_,Z0W J,?_⟩;have:=l_n1 J 0 (Yd _);have e:nTl a b 0=Xu (uni a.Vars b.Vars) a b:=by unfold nTl Xu;rw[Yo]
 rw[e]at this;exact this
theorem ZBT{v:Int}(ha:has a.Vars v=true)(hb:has b.Vars v=true)(sa:a.Rows.Pairwise λp q=>kx (cix a.Vars v).toNat p<=kx (cix a.Vars v).toNat q)(sb:b.Rows.Pairwise λp q=>kx (cix b.Vars v).toNat p<=kx (cix b.Vars v).toNat q):Zax a b v=some (ZJ (W8 a b)):=by
 refine Z7Z _ _ _ _ ⟨_,Z0O J.va ha sa,?_⟩;rw[Ya rfl];refine⟨_,Z0O J.vb hb sb,?_⟩;rw[Ya rfl];have hN:=Z1d J;by_cases h:(W8 a b).Rows=[]
 .have e:ZJ (W8 a b)=(.tup [.agg [.own 0,.t .nil],Bo true],[.arr 3 1 true ((W8 a b).Vars.map ic)]):=by unfold ZJ;rw[Ya h]
  rw[e]at hN|-;exact .inr (.inl ⟨_,hN,rfl⟩)
 .have e:ZJ (W8 a b)=(.tup [.agg [.own 0,.own 1],Bo true],[.arr 3 1 true ((W8 a b).Vars.map ic),.arr 42 1 true ((W8 a b).Rows.map isc)]):=by unfold ZJ;rw[Yb h]
  rw[e]at hN|-;exact .inr (.inr ⟨_,_,hN,rfl⟩)
end
end Go.Proofs.YtgbipcfdgfjplaaGreat
