/-
  Parts of the proofs for this seat: SA SB SC.
-/
import Derived.Test.YtobfkfgdneeabaaGreatP27
set_option linter.all false
set_option maxRecDepth 100000
set_option maxHeartbeats 4000000
namespace Go.Proofs.YtobfkfgdneeabaaGreat
open Go.AM
structure VS (s:Ze):Prop where
 rows:∀r∈s.Rows,B3 s.Vars.length r=true
 vars:Qo none s.Vars=true
 len:s.Rows.length<=4096
 four:s.Vars.length<=4
def Z28:∀{l:V2} {p:Option Int},Qo p l=true->∀x∈l,Am x 0 3=true
 |[],_,_,x,hx=>by cases hx
 |y::l,p,h,x,hx=>by
  unfold Qo at h;simp only[Yf]at h;rcases Yy.1 hx with rfl|hx
  .exact h.1.1
  .exact Z28 h.2 x hx
def ZDs:∀{l:V2} {p:Option Int},Qo p l=true->Asc l/\∀q,p=some q->∀x∈l,q<x
 |[],_,_=>⟨.nil,Z⟩
 |y::l,p,h=>by
  unfold Qo at h;simp only[Yf]at h;obtain⟨i1,i2⟩:=ZDs h.2;refine⟨Y4.2 ⟨i2 y rfl,i1⟩,λq hq x hx=>?_⟩;subst hq;have h1:q<y:=by simpa[BD]using h.1.2
  grind
def GS.vs{q:Zc}{y:Zf}{s:Ze}(h:GS q y s)(hq:Zx q.Zi q.Atoms=true):VS s:=by
 refine⟨h.rows,?_,by have:=h.len;have:=ZqL y.Mask;omega,?_⟩
 .rw[h.vars];exact Z2x _ _ (aU _ _ _) (I3 hq _) Z
 .rw[h.vars];have:=Mj y.Mask q.Atoms q.Zi.toNat;have:=Kf hq;omega
def VS.Ve{s:Ze}(h:VS s){r:V2}(hr:r∈s.Rows):r.length=s.Vars.length/\r.length<=4:=by
 have:=G9 (h.rows r hr);have:=h.four;omega
def Oo(vs:V2)(hl:vs.length<=100):∀i,i<=vs.length->mV vs 4 vs vs.length i=some (Bo (Qo (BS vs i) (vs.drop i)),[]):=by
 refine down _ ?_ ?_
 .apply UI.2.2.1;rw[Ao,Yl];rfl
 .intro i hi ih;apply UI.2.2.1;rw[An,Yg hi,Qo,wS hi E,show w ((4:Int)-1)=3 by decide];refine⟨E,_,gE hi,_,Uu _ _ _,?_⟩;rw[show BS vs (i+1)=some vs[i]from Yh hi]at ih;rcases tf (Am vs[i] 0 3)with e|e
  .rw[e];simp
  .rw[e,Ya rfl,ih];by_cases h0:(0:Int)<(i:Int)
   .rw[Ya h0,wP E hi E,G5 E E];refine⟨E,_,gE E,?_⟩;by_cases h2:vs[i]<=vs[i-1]
    .rw[Ya h2];simp[BD];omega
    .rw[Yb h2];simp[BD,show vs[i-1]<vs[i] by omega]
   .obtain rfl:i=0:=by omega
    rw[Yb h0];simp[BD,BS]
def ZQa{s:Ze}(h:VS s):∀i,i<=s.Rows.length->mW s s.Rows s.Rows.length i=some (Bo true,[]):=by
 have hl:=h.len;refine down _ ?_ ?_
 .apply Zq5.1;rw[Ao];refine⟨_,UI.2.2.2.2 _ _ ⟨_,UI.2.2.2.1 _ _ _ (by simpa using Oo s.Vars (by have:=h.four;omega) 0 (Yc _)),rfl⟩,?_⟩
  have:Qo (BS s.Vars 0) s.Vars=true:=h.vars
  grind
 .intro i hi ih;apply Zq5.1;have hm:=Ye hi;have:=h.Ve hm;rw[An,wS hi E];refine⟨E,_,gE hi,_,ZCA _ _ E,?_⟩;rw[h.rows _ hm,Ya rfl];exact ih
def Oq{s:Ze}(h:VS s):QD s=some (Bo true,[]):=Zq5.2.1 _ _ (ZQa h 0 (Yc _))
def ZQb{s:Ze}(h:VS s):∀i,i<=s.Rows.length->n8 s i=some (Bo true,[]):=by
 have hl:=h.len;refine down _ ?_ ?_
 .grind [G0.2.2.1]
 .intro i hi ih;apply G0.2.2.1;have hm:=Ye hi;have:=h.Ve hm;rw[An,wS hi E];refine⟨E,_,gE hi,_,ZCB _ _ E,?_⟩;rw[h.rows _ hm,Ya rfl];exact ih
def ZQc{s:Ze}(h:VS s):∀i,i<=s.Vars.length->Qo (BS s.Vars i) (s.Vars.drop i)=true->YM s i=some (Bo true,[]):=by
 have h4:=h.four;refine down _ ?_ ?_
 .intro _;apply G0.2.1;rw[Ao];exact ZQb h 0 (Yc _)
 .intro i hi ih ha;apply G0.2.1;rw[Yg hi,Qo]at ha;simp only[Yf]at ha;have ih:=ih (by rw[show BS s.Vars (i+1)=some s.Vars[i]from Yh hi];exact ha.2);rw[An,wS hi E];refine⟨E,_,gE hi,_,ZS _ _ _,?_⟩;rw[ha.1.1,Ya rfl,ih];by_cases h0:(0:Int)<(i:Int)
  .have h2:=ha.1.2;rw[G5 E E]at h2;rw[Ya h0,wP E hi E];refine⟨E,_,gE E,?_⟩;have h3:s.Vars[i-1]<s.Vars[i]:=by simpa[BD]using h2
   rw[Ao]
  .rw[Yb h0]
def Ot{s:Ze}(h:VS s):Qj s=some (Bo true,[]):=G0.2.2.2 _ _ (ZQc h 0 (Yc _) h.vars)
def I9{vs:V2}(h:vs.length<=4)(v:Int):UG vs v=some (I (AD vs v),[]):=ZOA vs v E
theorem Hb{vs:V2}(h:vs.length<=4)(v:Int):QG vs v=some (I (AD vs v),[]):=ZOZ vs v E
def VS.ok{s:Ze}(h:VS s){v:Int}(hv:has s.Vars v=true):∀r∈s.Rows,FC (AD s.Vars v).toNat r:=λr hr=>ZqM (h.rows r hr) (XT hv).2.1
def ZQd{s:Ze}(h:VS s){v:Int}(hv:has s.Vars v=true):∃fr,T3 s v=some (.tup [.agg [.own 0,.own 1],Bo true],[.arr 3 1 true ((Oe s v).Vars.map ic),.arr 38 1 fr ((Oe s v).Rows.map Ae)]):=by
 obtain⟨c1,c2,c3⟩:=XT hv;obtain⟨fr,hs⟩:=ZPN (x:=(AD s.Vars v).toNat) h.len (h.ok hv);have h4:=h.four;refine⟨fr,Wi.1.1.1.2 _ _ _ ⟨_,I9 h4 v,?_⟩⟩;rw[Ao];refine⟨_,Oq h,?_⟩;rw[Ya rfl];rw[show((AD s.Vars v).toNat:Int)=AD s.Vars v by omega]at hs;exact⟨_,IX _ E,_,Z2l _ (λr hr=>(h.Ve hr).2) (by have:=h.len;omega),_,_,_,hs,rfl⟩
def ZDt{rows:XS}{x:Nat}(hl:rows.length<=4096)(hk:∀r∈rows,FC x r)(hs:rows.Pairwise λa b=>kx x a<=kx x b):∀i,i<rows.length->nA rows x i=some (Bo true,[])
 |0,h=>by
  simp[Wi.2.2.2.1]
 |i+1,h=>by
  have ih:=ZDt hl hk hs i E;apply Wi.2.2.2.1;have hw:w (((i+1:Nat):Int)-1)=(i:Int):=by rw[wA E E];omega
  obtain⟨p1,p2,p3⟩:=hk _ (Ye h);obtain⟨q1,q2,q3⟩:=hk _ (Ye (show i<rows.length by omega));have hlt:=(Lz.1 hs) i (i+1) E h E;have e1:rows[i+1][x]=kx x rows[i+1]:=(getElem!_pos rows[i+1] x p1).symm;have e2:rows[i][x]=kx x rows[i]:=(getElem!_pos rows[i] x q1).symm;rw[An,hw];refine⟨E,_,gE h,E,_,gE E,_,Wi.2.2.1.2 _ _ _ _ ⟨E,_,gE p1,_,gE q1,rfl⟩,?_⟩
  grind [wA]
def ZDu{s:Ze}(h:VS s){v:Int}(hv:has s.Vars v=true)(hs:s.Rows.Pairwise λa b=>kx (AD s.Vars v).toNat a<=kx (AD s.Vars v).toNat b):T6 s v=some (Bo true,[]):=by
 obtain⟨c1,c2,c3⟩:=XT hv;refine Wi.2.2.2.2.2 _ _ _ ⟨_,I9 h.four v,?_⟩;rw[Ao];refine⟨_,Oq h,?_⟩;rw[Ya rfl];refine⟨_,Wi.2.2.2.2.1 _ _ (Bo true,[]) ?_,rfl⟩;have hl:=h.len
 cases hc:s.Rows with
 |nil =>
  apply Wi.2.2.2.1
  rw[Yb Om]
 |cons r rs =>
  rw[hc]at hl;have:=ZDt (rows:=r::rs) hl (by rw[<-hc];exact h.ok hv) (by rw[<-hc];exact hs) rs.length Z
  grind [List.length_cons,wA]
def ZQe{s:Ze}(h:VS s){x:Nat}(hk:∀r∈s.Rows,FC x r)(hs:s.Rows.Pairwise λa b=>kx x a<=kx x b):∀i,i<=s.Rows.length->0<i->oF s x i=some (Bo true,[]):=by
 have hl:=h.len;refine down _ ?_ ?_
 .simp[WI.1.1.1]
 .intro i hi ih h0;have ih:=ih E;obtain⟨j,rfl⟩:∃j,i=j+1:=⟨i-1,E⟩;apply WI.1.1.1;have hw:w (((j+1:Nat):Int)-1)=(j:Int):=by rw[wA E E];omega
  obtain⟨p1,p2,p3⟩:=hk _ (Ye hi);obtain⟨q1,q2,q3⟩:=hk _ (Ye (show j<s.Rows.length by omega));have hlt:=(Lz.1 hs) j (j+1) E hi E;have e1:s.Rows[j+1][x]=kx x s.Rows[j+1]:=(getElem!_pos s.Rows[j+1] x p1).symm;have e2:s.Rows[j][x]=kx x s.Rows[j]:=(getElem!_pos s.Rows[j] x q1).symm;rw[An,hw,wS hi E];refine⟨E,_,gE E,E,_,gE q1,E,_,gE hi,_,gE p1,?_⟩
  simp_all
def ZDv{s:Ze}(h:VS s){v:Int}(hv:has s.Vars v=true)(hs:s.Rows.Pairwise λa b=>kx (AD s.Vars v).toNat a<=kx (AD s.Vars v).toNat b):oE s v=some (Bo true,[]):=by
 obtain⟨c1,c2,c3⟩:=XT hv;have hl:=h.len;refine WI.1.1.2.1 _ _ _ ⟨_,Hb h.four v,_,Ot h,?_⟩;rw[Ya rfl,Ao]
 cases hc:s.Rows with
 |nil =>
  simp_all [WI.1.1.1]
 |cons r rs =>
  have:=ZQe h (h.ok hv) hs 1 (by rw[hc];simp) E
  grind
def Xh(s:Ze):XR:=if s.Rows=[]then(.tup [.agg [.own 0,.t .nil],Bo true],[.arr 3 1 true (s.Vars.map ic)])else(.tup [.agg [.own 0,.own 1],Bo true],[.arr 3 1 true (s.Vars.map ic),.arr 38 1 true (s.Rows.map Ae)])
theorem KS{vs:V2}{rows:XS}(h:rows≠[]):Xh ⟨vs,rows⟩=(.tup [.agg [.own 0,.own 1],Bo true],[.arr 3 1 true (vs.map ic),.arr 38 1 true (rows.map Ae)]):=by unfold Xh;rw[Yb h]
def La{vs:V2}:Xh ⟨vs,[]⟩=(.tup [.agg [.own 0,.t .nil],Bo true],[.arr 3 1 true (vs.map ic)]):=by unfold Xh;rw[Ya rfl]
def KY(x:Nat)(rows:XS)(c:Nat):XS:=(List.range' c (10-c)).flatMap λi:Nat=>rows.filter λr=>decide (kx x r=(i:Int))
def Ou(x:Nat)(rows:XS):KY x rows 0=UJ x rows:=by unfold KY UJ;rw[xF]
def ZDw{x:Nat}{rows:XS}{c:Nat}(h:c<10):KY x rows c=(rows.filter λr=>decide (kx x r=(c:Int)))++KY x rows (c+1):=by
 unfold KY;rw[show 10-c=(10-(c+1))+1 by omega,Fs,Es]
def ZDx(x:Nat)(rows:XS):KY x rows 10=[]:=rfl
section
variable{s:Ze}(h:VS s){x:Nat}(hk:∀r∈s.Rows,FC x r)
include h hk
theorem ZQf(vs:V2):∀c:Nat,c<=10->(∀acc:XS,acc≠[]->acc.length<=50000-4096*(10-c)->Zql s vs acc x c=some (Xh ⟨vs,acc++KY x s.Rows c⟩)):=by
 have hl:=h.len;refine down 10 ?_ ?_
 .simp_all [Xy.1.1.2.2,ZDx,CX,KS]
 .intro c hc ih acc ha hb;apply Xy.1.1.2.2;rw[An,ZDw hc];have inner:∀i,i<=s.Rows.length->∀acc:XS,acc≠[]->acc.length+(s.Rows.length-i)<=50000-4096*(10-(c+1))->IJ s vs acc x c i=some (Xh ⟨vs,acc++(((s.Rows.drop i).filter λr=>decide (kx x r=(c:Int)))++KY x s.Rows (c+1))⟩):=by
   refine down _ ?_ ?_
   .grind [Xy.1.1.2.1,List.drop_length,wA]
   .intro i hi ih2 acc ha hb;apply Xy.1.1.2.1;obtain⟨p1,p2,p3⟩:=hk _ (Ye hi);have e1:s.Rows[i][x]=kx x s.Rows[i]:=(getElem!_pos s.Rows[i] x p1).symm;have h4:=h.Ve (Ye hi);rw[An,wS hi E,Yg hi];refine⟨E,_,gE hi,E,_,gE p1,?_⟩;rw[e1];by_cases e:kx x s.Rows[i]=(c:Int)
    .rw[Ya e,cS (by simpa using e)];refine⟨E,E,?_⟩;rw[ih2 _ Z (by simp;omega)];simp
    .grind
  grind
theorem ZQg(vs:V2):∀c:Nat,c<=10->oA s vs x c=some (Xh ⟨vs,KY x s.Rows c⟩):=by
 have hl:=h.len;refine down 10 ?_ ?_
 .simp[Xy.1.1.1.1,ZDx,La]
 .intro c hc ih;apply Xy.1.1.1.1;rw[An,ZDw hc];have inner:∀i,i<=s.Rows.length->oB s vs x c i=some (Xh ⟨vs,((s.Rows.drop i).filter λr=>decide (kx x r=(c:Int)))++KY x s.Rows (c+1)⟩):=by
   refine down _ ?_ ?_
   .grind [Xy.1.1.1.2,List.drop_length,wA]
   .intro i hi ih2;apply Xy.1.1.1.2;obtain⟨p1,p2,p3⟩:=hk _ (Ye hi);have e1:s.Rows[i][x]=kx x s.Rows[i]:=(getElem!_pos s.Rows[i] x p1).symm;have h4:=h.Ve (Ye hi);rw[An,wS hi E,Yg hi];refine⟨E,_,gE hi,E,_,gE p1,?_⟩;rw[e1];by_cases e:kx x s.Rows[i]=(c:Int)
    .rw[Ya e,cS (by simpa using e)];refine⟨E,?_⟩
     -- the first row: the rest of this round,then the further classes
     have rest:∀k,k<=s.Rows.length->∀acc:XS,acc≠[]->acc.length+(s.Rows.length-k)<=5000->IJ s vs acc x c k=some (Xh ⟨vs,acc++(((s.Rows.drop k).filter λr=>decide (kx x r=(c:Int)))++KY x s.Rows (c+1))⟩):=by
      refine down _ ?_ ?_
      .intro acc ha hb;apply Xy.1.1.2.1;rw[Ao,Yl,wA E E]
       exact_mod_cast ZQf h hk vs (c+1) E acc ha E
      .intro k hk2 ih3 acc ha hb;apply Xy.1.1.2.1;obtain⟨p1,p2,p3⟩:=hk _ (Ye hk2);have e1:s.Rows[k][x]=kx x s.Rows[k]:=(getElem!_pos s.Rows[k] x p1).symm;have h4:=h.Ve (Ye hk2);rw[An,wS hk2 E,Yg hk2];refine⟨E,_,gE hk2,E,_,gE p1,?_⟩;rw[e1];by_cases e:kx x s.Rows[k]=(c:Int)
       .rw[Ya e,cS (by simpa using e)];refine⟨E,E,?_⟩;rw[ih3 _ Z (by simp;omega)];simp
       .grind
     rw[rest (i+1) E [s.Rows[i]] Z (by simp;omega)];simp
    .grind
  grind
end
def ZQh{s:Ze}(h:VS s){v:Int}(hv:has s.Vars v=true):n9 s v=some (Xh (Oe s v)):=by
 obtain⟨c1,c2,c3⟩:=XT hv;refine Xy.1.2.1.1 _ _ _ ⟨_,Hb h.four v,_,Ot h,?_⟩;rw[Ya rfl,Ao];refine⟨by have:=h.four;omega,?_⟩;have:=ZQg h (h.ok hv) s.Vars 0 E;rw[Ou,show((AD s.Vars v).toNat:Int)=AD s.Vars v by omega]at this;exact this
theorem ZDy{l:V2}(h:l.length<=4096):M9 l=some (.tup [],[.arr 3 1 true ((ZE l).map ic)]):=by unfold M9;exact ZPZ h
theorem Ov{l:V2}(h:l.length<=4096):ZpK l=some (.own 1,[.dead,.arr 3 1 true ((Wg l).map ic)]):=by unfold ZpK;exact On h
theorem UN{r:V2}{i:Int}(h0:0<=i)(h:i.toNat<r.length):r[i.toNat]?=some (Xp r i):=by unfold Xp;rw[CF,Yh h];rfl
def BP(a:Zd)(r:V2):V2:=(ZE a.Vars).map λv=>Xp r (AD a.Vars v)
section
variable{a:Zd}(ha:a.Vars.length<=4)
include ha
omit ha in
theorem ZqX:(ZE a.Vars).length=a.Vars.length:=(qQ _).length_eq
theorem ZQi{r:V2}(hr:r.length=a.Vars.length)(rows:XS)(n i:Int)(R:XR):∀j,j<=(ZE a.Vars).length->
  Na a (ZE a.Vars) [BP a r] rows n (w (i+1))=some R->mT a (ZE a.Vars) ((BP a r).take j) rows r n i (ZE a.Vars).length j=some R:=by
 have h4:=ZqX (a:=a);refine down _ ?_ ?_
 .intro h;apply UI.1.2.2.1;rw[Ao,FL (by simp[BP])];exact h
 .intro j hj ih h;apply UI.1.2.2.1;have hh:has a.Vars (ZE a.Vars)[j]=true:=Xj.2 ((J7 _ _).1 (Ye hj));obtain⟨c1,c2,c3⟩:=XT hh;rw[An,wS hj E];refine⟨E,_,gE hj,_,I9 ha _,c1,_,UN c1 E,by simp;omega,?_⟩;have hl:j<(BP a r).length:=by simp[BP];omega
  have:=ih h;rw[Yx hl]at this;simpa[BP]using this
theorem ZQj{r:V2}(hr:r.length=a.Vars.length)(acc rows:XS)(c:acc.length<=1000)(n i:Int)(R:XR):∀j,j<=(ZE a.Vars).length->
  Na a (ZE a.Vars) (acc++[BP a r]) rows n (w (i+1))=some R->mU a (ZE a.Vars) acc ((BP a r).take j) rows r n i (ZE a.Vars).length j=some R:=by
 have h4:=ZqX (a:=a);refine down _ ?_ ?_
 .intro h;apply UI.2.1.1;rw[Ao,FL (by simp[BP])];exact⟨E,h⟩
 .intro j hj ih h;apply UI.2.1.1;have hh:has a.Vars (ZE a.Vars)[j]=true:=Xj.2 ((J7 _ _).1 (Ye hj));obtain⟨c1,c2,c3⟩:=XT hh;rw[An,wS hj E];refine⟨E,_,gE hj,_,I9 ha _,c1,_,UN c1 E,by simp;omega,?_⟩;have hl:j<(BP a r).length:=by simp[BP];omega
  have:=ih h;rw[Yx hl]at this;simpa[BP]using this
theorem ZQk{rows:XS}(hn:rows.length<=8)(hr:∀r∈rows,r.length=a.Vars.length):∀i,i<=rows.length->∀acc:XS,acc≠[]->acc.length<=i->
  Na a (ZE a.Vars) acc rows rows.length i=some (Xh ⟨ZE a.Vars,acc++(rows.drop i).map (BP a)⟩):=by
 refine down _ ?_ ?_
 .simp_all [UI.1.2.2.2,Yl,De,CX,KS]
 .intro i hi ih acc h0 hl;apply UI.1.2.2.2;rw[An];refine⟨E,_,gE hi,?_⟩;have:=ZQj ha (hr _ (Ye hi)) acc rows E rows.length i _ 0 (Yc _) (by rw[wS hi E];exact ih (acc++[BP a rows[i]]) Z (by simp;omega))
  grind [List.append_assoc,List.drop_eq_getElem_cons]
end
def ZQl{d:Zj}(hd:BA d){q:Zc}(hq:AW q)(h:ZN d q=true){i:Int}(hi:Am i 0 (q.Atoms.length-1)=true):mS d q i=some (Xh (UL d q i)):=by
 have hv:Zx q.Zi q.Atoms=true:=by unfold ZN at h;simp only[Yf]at h;exact h.1
 have hl:=XF hv;have hi':=hi;simp[Am]at hi';have hlt:i.toNat<q.Atoms.length:=by omega
 have he:q.Atoms[i.toNat]?=some q.Atoms[i.toNat]:=Yh hlt;have hm:q.Atoms[i.toNat]∈q.Atoms:=Ye hlt;generalize q.Atoms[i.toNat]=a at he hm;obtain⟨t,t1,t2,t3,t4,t5,t6⟩:=qZ h hm;have hvl:=Sg hv a hm;have ha:a.Vars.length<=4:=by omega
 have hr:∀r∈t.Rows,r.length=a.Vars.length:=λr hr=>G9 (t5 r hr)
 have hsc:UL d q i=⟨ZE a.Vars,t.Rows.map (BP a)⟩:=by
  unfold UL;rw[he];simp only[t3];rfl
 have hk:=ZCG d hd a.Name;rw[t1]at hk;rw[hsc];refine UI.2.1.2 _ _ _ _ ⟨_,ZqF d hd q hq,?_⟩;rw[h,Ya rfl,show w ((q.Atoms.length:Int)-1)=(q.Atoms.length:Int)-1 from ZF E E];refine⟨_,Uu _ _ _,?_⟩;rw[hi,Ya rfl];refine⟨E,a,he,.inr ⟨_,_,_,hk,_,IX _ E,_,ZDy E,?_⟩⟩;apply UI.1.2.1
 cases hc:t.Rows with
 |nil=>rw[Yb Z,De,La]
 |cons r rs =>
  rw[hc]at hr t4;rw[Ya Z];refine⟨E,r,rfl,?_⟩
  have:=ZQi ha (hr r Z) (r::rs) (r::rs).length 0 _ 0 (Yc _) (by
   rw[show w ((0:Int)+1)=((1:Nat):Int) by decide]
   exact ZQk ha t4 hr 1 Z [BP a r] Z Z)
  simp_all
def rL(a:Zd)(ha:a.Vars.length<=4)(v:Int):∀k,k<=a.Vars.length->S6 a v k=some (I (XD (λx=>decide (v=x)) (a.Vars.drop k) k),[]):=by
 refine down _ ?_ ?_
 .apply X8.2.1.1.1;rw[Ao,Yl];rfl
 .intro k hk ih;apply X8.2.1.1.1;rw[An,Sf _ hk,wS hk E];refine⟨E,_,gE hk,?_⟩
  grind
def ZDz(a:Zd)(ha:a.Vars.length<=4)(v:Int):Gw a v=some (I (AD a.Vars v),[]):=X8.2.1.1.2 _ _ _ (by simpa[AD]using rL a ha v 0 (Yc _))
def Ow(p:Nat->Bool):∀v,v<=4->MG (((List.range v).filter p).map λu:Nat=>(u:Int)) (Xi p) v=some (.own 0,[.arr 3 1 true ((((List.range 4).filter p).map λu:Nat=>(u:Int)).map ic)]):=by
 refine down 4 ?_ ?_
 .simp[Ur.2.2.1]
 .intro v hv ih;apply Ur.2.2.1;have hb:=Zn1 p (v:=(v:Int)) (by simp[Am];omega);rw[Yj]at hb;have hlen:(((List.range v).filter p).map λu:Nat=>(u:Int)).length<=v:=by
   grind
  rw[An,wS hv E];rw[Di,xA,Y5]at ih
  grind
def rM{n:Int}{qa:List Zd}(h:Zx n qa=true)(m:Int):ZX m qa 4=ZX m qa n.toNat:=by
 refine qP (aU _ _ _) (aU _ _ _) λv=>?_
 rw[Od h];unfold ZX Bz;simp only[Yn,Ep,Y8,Yf];constructor
 .rintro⟨u,⟨hu,hp⟩,rfl⟩;exact⟨by simp[Am];omega,by simpa using hp⟩
 .rintro⟨h1,h2⟩;simp[Am]at h1
  grind
def Aba:∀i n:Fin 5,i.1<n.1->1<=n.1->Am (Ac 1 (i.1:Int)) 0 (w (Ac 1 (n.1:Int)-1))=true:=by decide
def ZQm{q:Zc}(hq:AW q)(h:Zx q.Zi q.Atoms=true){i:Nat}(hi:i<q.Atoms.length):Q9 q (Ac 1 (i:Int))=some (.own 0,[.arr 3 1 true ((ZX (Ac 1 (i:Int)) q.Atoms q.Zi.toNat).map ic)]):=by
 have hl:=XF h;refine X6.1.1.1 _ _ _ ⟨true,XG.1.2.2.2.2 _ _ _ ⟨_,pM q hq,?_⟩,?_⟩
 .rw[h,Ya rfl];refine⟨E,_,ZS _ _ _,?_⟩;have:=Aba ⟨i,E⟩ ⟨q.Atoms.length,E⟩ hi hl.1
  simp_all
 .rw[Ya rfl];refine⟨_,IV q _ hq (Gp h),_,Ur.2.2.2 _ _ (Ow _ 0 E),?_⟩;rw[<-rM h];rfl
section
variable{q:Zc}{a:Zd}(ha:a.Vars.length<=4){i:Nat}(he:q.Atoms[i]?=some a)(nm:KI)(ar:Int)
include ha he
theorem ZQn{rows:XS}{k:Nat}(hk:k<rows.length)(hr:rows[k].length=a.Vars.length)(R:XR):∀j,j<=(ZE a.Vars).length->
  NB q nm ar rows (ZE a.Vars) [BP a rows[k]] i (w (k+1))=some R->nY q nm ar rows (ZE a.Vars) ((BP a rows[k]).take j) i k j=some R:=by
 have h4:=ZqX (a:=a);refine down _ ?_ ?_
 .intro h;apply W1.2.2.2.1;rw[Ao,FL (by simp[BP])];exact h
 .intro j hj ih h;apply W1.2.2.2.1;have hh:has a.Vars (ZE a.Vars)[j]=true:=Xj.2 ((J7 _ _).1 (Ye hj));obtain⟨c1,c2,c3⟩:=XT hh;rw[An,wS hj E];refine⟨E,_,gE hk,E,a,by rw[Yj];exact he,E,_,gE hj,_,ZDz a ha _,c1,_,UN c1 E,by simp;omega,?_⟩;have hl:j<(BP a rows[k]).length:=by simp[BP];omega
  have:=ih h;rw[Yx hl]at this;simpa[BP]using this
theorem ZQo{rows:XS}{k:Nat}(hk:k<rows.length)(hr:rows[k].length=a.Vars.length)(acc:XS)(c:acc.length<=1000)(R:XR):∀j,j<=(ZE a.Vars).length->
  NB q nm ar rows (ZE a.Vars) (acc++[BP a rows[k]]) i (w (k+1))=some R->nZ q nm ar rows (ZE a.Vars) acc ((BP a rows[k]).take j) i k j=some R:=by
 have h4:=ZqX (a:=a);refine down _ ?_ ?_
 .intro h;apply W1.2.2.2.2.2;rw[Ao,FL (by simp[BP])];exact⟨E,h⟩
 .intro j hj ih h;apply W1.2.2.2.2.2;have hh:has a.Vars (ZE a.Vars)[j]=true:=Xj.2 ((J7 _ _).1 (Ye hj));obtain⟨c1,c2,c3⟩:=XT hh;rw[An,wS hj E];refine⟨E,_,gE hk,E,a,by rw[Yj];exact he,E,_,gE hj,_,ZDz a ha _,c1,_,UN c1 E,by simp;omega,?_⟩;have hl:j<(BP a rows[k]).length:=by simp[BP];omega
  have:=ih h;rw[Yx hl]at this;simpa[BP]using this
theorem ZQp{rows:XS}(hn:rows.length<=8)(hr:∀r∈rows,r.length=a.Vars.length):∀k,k<=rows.length->∀acc:XS,acc≠[]->acc.length<=k->
  NB q nm ar rows (ZE a.Vars) acc i k=some (Xh ⟨ZE a.Vars,acc++(rows.drop k).map (BP a)⟩):=by
 refine down _ ?_ ?_
 .simp_all [W1.2.2.2.2.1,Yl,De,CX,KS]
 .intro k hk ih acc h0 hl;apply W1.2.2.2.2.1;rw[An];have:=ZQo ha he nm ar hk (hr _ (Ye hk)) acc E _ 0 (Yc _) (by rw[wS hk E];exact ih (acc++[BP a rows[k]]) Z (by simp;omega))
  grind [List.append_assoc,List.drop_eq_getElem_cons]
end
def ZQq{d:Zj}(hd:BA d){q:Zc}(hq:AW q)(h:ZN d q=true){i:Int}(hi:Am i 0 (q.Atoms.length-1)=true):nW d q i=some (Xh (UL d q i)):=by
 have hv:Zx q.Zi q.Atoms=true:=by unfold ZN at h;simp only[Yf]at h;exact h.1
 have hl:=XF hv;have hi':=hi;simp[Am]at hi';obtain⟨n,rfl⟩:∃n:Nat,i=(n:Int):=⟨i.toNat,E⟩;have hlt:n<q.Atoms.length:=by omega
 have he:q.Atoms[n]?=some q.Atoms[n]:=Yh hlt;have hm:q.Atoms[n]∈q.Atoms:=Ye hlt;generalize q.Atoms[n]=a at he hm;obtain⟨t,t1,t2,t3,t4,t5,t6⟩:=qZ h hm;have hvl:=Sg hv a hm;have ha:a.Vars.length<=4:=by omega
 have hr:∀r∈t.Rows,r.length=a.Vars.length:=λr hr=>G9 (t5 r hr)
 have hsc:UL d q (n:Int)=⟨ZE a.Vars,t.Rows.map (BP a)⟩:=by
  unfold UL;rw[Yj,he];simp only[t3];rfl
 have hk:=G6 d hd a.Name;rw[t1]at hk;have hM:=ZQm hq hv hlt;rw[<-Z2v hv he]at hM;rw[hsc];refine G0.1.1 _ _ _ _ ⟨_,IY d hd q hq,?_⟩;rw[h,Ya rfl,show w ((q.Atoms.length:Int)-1)=(q.Atoms.length:Int)-1 from ZF E E];refine⟨_,ZS _ _ _,?_⟩;rw[hi,Ya rfl];refine⟨E,a,by rw[Yj];exact he,?_⟩;by_cases hc:t.Rows=[]
 .simp only[QK,Ya hc]at hk
  simp_all [W1.2.2.1.1,De,La]
 .simp only[QK,Yb hc]at hk;refine .inr ⟨_,_,_,hk,E,_,hM,?_⟩;have h0:0<t.Rows.length:=CE.2 hc;apply W1.2.2.1.2;rw[An]
  have:=ZQn ha he t.Name t.Arity h0 (hr _ (Ye h0)) _ 0 (Yc _) (by
   rw[show w (((0:Nat):Int)+1)=((1:Nat):Int) by decide]
   exact ZQp ha he t.Name t.Arity t4 hr 1 E [BP a t.Rows[0]] Z Z)
  rw[cW]at this;have e:[BP a t.Rows[0]]++(t.Rows.drop 1).map (BP a)=t.Rows.map (BP a):=by
   conv=>rhs;rw[<-Yq (l:=t.Rows),Yg h0]
   rfl
  simp_all
def okV(av x bv y:V2)(v:Int):Bool:=decide (AD av v<0) || decide (AD bv v<0) || decide (Xp x (AD av v)=Xp y (AD bv v))
def Ox{av:V2}(h:av.Nodup){i:Nat}(hi:i<av.length):AD av av[i]=(i:Int):=by
 obtain⟨h1,h2,h3⟩:=XT (vs:=av) (v:=av[i]) (Xj.2 (Ye hi))
 grind [List.getElem?_eq_getElem,List.getElem_inj,Option.some.inj]
def ZQr{l:V2}(h:Asc l):l.Nodup:=h.imp (by intro a b h;omega)
def ZQs{vs av x bv y:V2}(ha:av.Nodup)(h1:∀v∈av,v∈vs):agr av x bv y=vs.all (okV av x bv y):=by
 rw[Ft];unfold agr;rw[Ym,Ym];constructor
 .intro h v hv;unfold okV;by_cases hc:AD av v<0
  .simp[hc]
  .have hh:has av v=true:=VK.1 E;obtain⟨c1,c2,c3⟩:=XT hh;have:=h (AD av v).toNat (Y8.2 c2);have e:av.getD (AD av v).toNat 0=v:=by rw[CF,c3];rfl
   rw[e]at this;have e2:x.getD (AD av v).toNat 0=Xp x (AD av v):=rfl
   grind
 .intro h i hi;have hi:=Y8.1 hi;have e:av.getD i 0=av[i]:=by rw[CF,Yh hi];rfl
  have:=h av[i] (h1 _ (Ye hi));unfold okV at this;rw[Ox ha hi]at this;rw[e];have e2:Xp x (i:Int)=x.getD i 0:=by unfold Xp;rw[Yj]
  grind
abbrev Hc(a b:Ze)(r:AV):AF:=.box [L 1 (a.Vars.map ic),L 1 (a.Rows.map Ae),L 1 (b.Vars.map ic),L 1 (b.Rows.map Ae),.own 1,r]
section
variable{a b:Ze}(ha:a.Vars.length<=4)(hb:b.Vars.length<=4){vs:V2}(hvs:vs.length<=8)(hh:∀v∈vs,has a.Vars v=true\/has b.Vars v=true){x y:V2}(hx:x.length=a.Vars.length)(hy:y.length=b.Vars.length)
include ha hb hvs hh hx hy
theorem Oy:∀i,i<=vs.length->Nk a b vs ((vs.take i).map (BL a.Vars x b.Vars y)) x y vs.length i =
  some (.tup [],if(vs.drop i).all (okV a.Vars x b.Vars y)=true then[Hc a b (.own 2),.arr 3 1 true (vs.map ic),.arr 38 1 true (([vs.map (BL a.Vars x b.Vars y)]).map Ae)]else[Hc a b (.t .nil),.arr 3 1 true (vs.map ic)]):=by
 refine down _ ?_ ?_
 .apply Wi.1.1.2.2;simp
 .intro i hi ih;apply Wi.1.1.2.2;rw[An,wS hi E,Yg hi,Y6];rw[Yx hi,Y5]at ih;have hl:((vs.take i).map (BL a.Vars x b.Vars y)).length<=8:=by simp;omega
  refine⟨E,_,gE hi,_,I9 ha _,_,I9 hb _,?_⟩;have hv:=hh _ (Ye hi);generalize hvi:vs[i]=v at *
  by_cases h1:AD a.Vars v<0
  .have hbv:has b.Vars v=true:=hv.resolve_left λe=>by have:=(XT e).1;omega
   obtain⟨c1,c2,c3⟩:=XT hbv;rw[Ya h1,show okV a.Vars x b.Vars y v=true by simp[okV,h1],Yk];have e:BL a.Vars x b.Vars y v=Xp y (AD b.Vars v):=by unfold BL;rw[Ao]
   grind [UN]
  .have hav:has a.Vars v=true:=VK.1 E;obtain⟨d1,d2,d3⟩:=XT hav;have e:BL a.Vars x b.Vars y v=Xp x (AD a.Vars v):=by unfold BL;rw[Ya d1]
   rw[Yb h1];by_cases h2:0<=AD b.Vars v
   .obtain⟨c1,c2,c3⟩:=XT (VK.1 h2);rw[Ya h2];refine⟨d1,_,UN d1 E,_,UN c1 E,?_⟩;by_cases h3:Xp x (AD a.Vars v)=Xp y (AD b.Vars v)
    .rw[Ya h3,show okV a.Vars x b.Vars y v=true by simp[okV,h3],Yk]
     grind
    .rw[Yb h3,show okV a.Vars x b.Vars y v=false by simp[okV,h3,h1];omega,FM,Yb Om]
   .rw[Yb h2,show okV a.Vars x b.Vars y v=true by simp[okV];omega,Yk]
    grind [UN]
theorem ZQt{acc:XS}(c:acc.length<=100000):∀i,i<=vs.length->Nl a b vs acc ((vs.take i).map (BL a.Vars x b.Vars y)) x y vs.length i =
  some (.tup [],if(vs.drop i).all (okV a.Vars x b.Vars y)=true then[Hc a b (.own 3),.arr 3 1 true (vs.map ic),.dead,.arr 38 1 true ((acc++[vs.map (BL a.Vars x b.Vars y)]).map Ae)]else[Hc a b (.own 2),.arr 3 1 true (vs.map ic),.arr 38 1 true (acc.map Ae)]):=by
 refine down _ ?_ ?_
 .apply Wi.1.2.2.1
  grind
 .intro i hi ih;apply Wi.1.2.2.1;rw[An,wS hi E,Yg hi,Y6];rw[Yx hi,Y5]at ih;have hl:((vs.take i).map (BL a.Vars x b.Vars y)).length<=8:=by simp;omega
  refine⟨E,_,gE hi,_,I9 ha _,_,I9 hb _,?_⟩;have hv:=hh _ (Ye hi);generalize hvi:vs[i]=v at *
  by_cases h1:AD a.Vars v<0
  .have hbv:has b.Vars v=true:=hv.resolve_left λe=>by have:=(XT e).1;omega
   obtain⟨c1,c2,c3⟩:=XT hbv;rw[Ya h1,show okV a.Vars x b.Vars y v=true by simp[okV,h1],Yk];have e:BL a.Vars x b.Vars y v=Xp y (AD b.Vars v):=by unfold BL;rw[Ao]
   grind [UN]
  .have hav:has a.Vars v=true:=VK.1 E;obtain⟨d1,d2,d3⟩:=XT hav;have e:BL a.Vars x b.Vars y v=Xp x (AD a.Vars v):=by unfold BL;rw[Ya d1]
   rw[Yb h1];by_cases h2:0<=AD b.Vars v
   .obtain⟨c1,c2,c3⟩:=XT (VK.1 h2);rw[Ya h2];refine⟨d1,_,UN d1 E,_,UN c1 E,?_⟩;by_cases h3:Xp x (AD a.Vars v)=Xp y (AD b.Vars v)
    .rw[Ya h3,show okV a.Vars x b.Vars y v=true by simp[okV,h3],Yk]
     grind
    .rw[Yb h3,show okV a.Vars x b.Vars y v=false by simp[okV,h3,h1];omega,FM,Yb Om]
   .rw[Yb h2,show okV a.Vars x b.Vars y v=true by simp[okV];omega,Yk]
    grind [UN]
end
structure J2 (a b:Ze):Prop where
 va:VS a
 vb:VS b
 prod:a.Rows.length*b.Rows.length<=4096
section
variable{a b:Ze}(J:J2 a b)
include J
theorem J2.ina:∀x∈a.Vars,Am x 0 3=true:=Z28 J.va.vars
theorem J2.inb:∀x∈b.Vars,Am x 0 3=true:=Z28 J.vb.vars
omit J in
theorem J2.hh:∀v∈Ar a.Vars b.Vars,has a.Vars v=true\/has b.Vars v=true:=λ_ h=>Z22 h
omit J in
theorem J2.len:(Ar a.Vars b.Vars).length<=8:=Yz (Ydv _ _) Z
theorem J2.agr(x y:V2):agr a.Vars x b.Vars y=(Ar a.Vars b.Vars).all (okV a.Vars x b.Vars y):=ZQs (ZQr (ZDs J.va.vars).1) λv hv=>(qR J.ina J.inb v).2 (.inl hv)
theorem ZD0{x y:V2}(hx:x∈a.Rows)(hy:y∈b.Rows):Iz a b (Ar a.Vars b.Vars) x y=some (.tup [],match BB (Ar a.Vars b.Vars) a.Vars x b.Vars y with
  |some r=>[Hc a b (.own 2),.arr 3 1 true ((Ar a.Vars b.Vars).map ic),.arr 38 1 true (([r]).map Ae)]
  |none=>[Hc a b (.t .nil),.arr 3 1 true ((Ar a.Vars b.Vars).map ic)]):=by
 have:=Oy J.va.four J.vb.four J2.len J2.hh (J.va.Ve hx).1 (J.vb.Ve hy).1 0 (Yc _);apply Wi.1.2.1.1;rw[cW,Yq,<-J.agr]at this;unfold BB;rcases tf (Go.Proofs.YtobfkfgdneeabaaGreat.agr a.Vars x b.Vars y)with e|e
 .simp_all
 .simp_all
theorem ZD1{x y:V2}(hx:x∈a.Rows)(hy:y∈b.Rows){acc:XS}(c:acc.length<=100000):IA a b (Ar a.Vars b.Vars) acc x y=some (.tup [],match BB (Ar a.Vars b.Vars) a.Vars x b.Vars y with
  |some r=>[Hc a b (.own 3),.arr 3 1 true ((Ar a.Vars b.Vars).map ic),.dead,.arr 38 1 true ((acc++[r]).map Ae)]
  |none=>[Hc a b (.own 2),.arr 3 1 true ((Ar a.Vars b.Vars).map ic),.arr 38 1 true (acc.map Ae)]):=by
 have:=ZQt J.va.four J.vb.four J2.len J2.hh (J.va.Ve hx).1 (J.vb.Ve hy).1 c 0 (Yc _);apply Wi.1.2.2.2.1;rw[cW,Yq,<-J.agr]at this;unfold BB;rcases tf (Go.Proofs.YtobfkfgdneeabaaGreat.agr a.Vars x b.Vars y)with e|e
 .simp_all
 .simp_all
theorem ZD2:T4 a b=some (.ptr 0 0,[Hc a b (.t .nil),.arr 3 1 true ((Ar a.Vars b.Vars).map ic)]):=by
 have h1:=J.va.four;have h2:=J.vb.four;have hl:(ZE (a.Vars++b.Vars)).length=(a.Vars++b.Vars).length:=(qQ _).length_eq;have hc:=ZPE J.ina J.inb
 grind [Wi.1.1.2.1,IX,ZDy,Ov]
def hTl(a b:Ze)(j:Nat):XS:=(b.Rows.drop j).flatMap λy=>a.Rows.filterMap λx=>BB (Ar a.Vars b.Vars) a.Vars x b.Vars y
omit J in
theorem ZD3{j:Nat}(h:j<b.Rows.length):hTl a b j=(a.Rows.filterMap λx=>BB (Ar a.Vars b.Vars) a.Vars x b.Vars b.Rows[j])++hTl a b (j+1):=by
 unfold hTl;rw[Yg h,Es]
omit J in
theorem ZD4{j:Nat}(h:b.Rows.length<=j):hTl a b j=[]:=by unfold hTl;rw[FK h];rfl
theorem aW{j i:Nat}(hj:j<b.Rows.length)(hi:i<=a.Rows.length):a.Rows.length*j+i<=4096:=by
 have hp:=J.prod
 have:a.Rows.length*(j+1)<=a.Rows.length*b.Rows.length:=Nat.mul_le_mul_left _ hj
 grind
theorem ZD5{j:Nat}(hj:j<b.Rows.length)(ih:∀acc:XS,acc≠[]->acc.length<=a.Rows.length*(j+1)->m9 a a b (Ar a.Vars b.Vars) acc b.Rows b.Rows.length ((j+1:Nat):Int)=some (Xh ⟨Ar a.Vars b.Vars,acc++hTl a b (j+1)⟩)) :
  ∀i,i<=a.Rows.length->∀acc:XS,acc≠[]->acc.length<=a.Rows.length*j+i->Nn a a b (Ar a.Vars b.Vars) acc b.Rows[j] b.Rows b.Rows.length j a.Rows a.Rows.length i=some (Xh ⟨Ar a.Vars b.Vars,acc++(((a.Rows.drop i).filterMap λx=>BB (Ar a.Vars b.Vars) a.Vars x b.Vars b.Rows[j])++hTl a b (j+1))⟩):=by
 have hl1:=J.va.len;have hl2:=J.vb.len;refine down _ ?_ ?_
 .intro acc h0 hacc;have:=aW J hj (Yi _)
  grind [Wi.2.1.2.1,List.drop_length,wS,Nat.mul_succ]
 .intro i hi ih2 acc h0 hacc;have:=aW J hj (i:=i) E;apply Wi.2.1.2.1;rw[An,wS hi E];refine⟨E,_,gE hi,?_⟩;have hP:=ZD1 J (Ye hi) (Ye hj) (acc:=acc) E;rw[Yg hi]
  cases hc:BB (Ar a.Vars b.Vars) a.Vars a.Rows[i] b.Vars b.Rows[j]with
  |none =>
   grind
  |some r =>
   rw[hc]at hP;rw[xG (f:=λx=>BB (Ar a.Vars b.Vars) a.Vars x b.Vars b.Rows[j]) hc];refine .inr ⟨_,_,_,_,hP,?_⟩;rw[ih2 (acc++[r]) Z (by simp;omega)];simp
theorem rN:∀j,j<=b.Rows.length->∀acc:XS,acc≠[]->acc.length<=a.Rows.length*j->m9 a a b (Ar a.Vars b.Vars) acc b.Rows b.Rows.length j=some (Xh ⟨Ar a.Vars b.Vars,acc++hTl a b j⟩):=by
 have hp:=J.prod;have hl1:=J.va.len;have hl2:=J.vb.len;refine down _ ?_ ?_
 .intro acc h0 hacc;apply Wi.2.1.2.2;rw[Ao,ZD4 (Yi _),CX,KS h0]
  skip
  grind [Wi.1.2.2.2.2]
 .intro j hj ih acc h0 hacc;apply Wi.2.1.2.2;rw[An];refine⟨E,_,gE hj,?_⟩;have:=ZD5 J hj ih 0 (Yc _) acc h0 E
  simp_all [Yq,ZD3]
theorem Abb:∀j,j<=b.Rows.length->m7 a a b (Ar a.Vars b.Vars) b.Rows b.Rows.length j=some (Xh ⟨Ar a.Vars b.Vars,hTl a b j⟩):=by
 have hl1:=J.va.len;have hl2:=J.vb.len;refine down _ ?_ ?_
 .simp[Wi.2.1.1.1,ZD4,Yi,La,Wi.1.2.1.2]
 .intro j hj ih;have inner:∀i,i<=a.Rows.length->m8 a a b (Ar a.Vars b.Vars) b.Rows[j] b.Rows b.Rows.length j a.Rows a.Rows.length i=some (Xh ⟨Ar a.Vars b.Vars,((a.Rows.drop i).filterMap λx=>BB (Ar a.Vars b.Vars) a.Vars x b.Vars b.Rows[j])++hTl a b (j+1)⟩):=by
   refine down _ ?_ ?_
   .grind [Wi.2.1.1.2,List.drop_length,wS]
   .intro i hi ih2;apply Wi.2.1.1.2;rw[An,wS hi E];refine⟨E,_,gE hi,?_⟩;have hP:=ZD0 J (Ye hi) (Ye hj);rw[Yg hi]
    cases hc:BB (Ar a.Vars b.Vars) a.Vars a.Rows[i] b.Vars b.Rows[j]with
    |none =>
     grind
    |some r =>
     rw[hc]at hP;rw[xG (f:=λx=>BB (Ar a.Vars b.Vars) a.Vars x b.Vars b.Rows[j]) hc];refine .inr ⟨_,_,_,_,hP,?_⟩;rw[ZD5 J hj (rN J (j+1) hj) (i+1) E [r] Z (by simp only[Ys,DJ];omega)];simp
  apply Wi.2.1.1.1;rw[An];refine⟨E,_,gE hj,?_⟩;have:=inner 0 (Yc _)
  simp_all [Yq,ZD3]
theorem ZQu:Nm a b=some (Xh (I4 a b)):=by
 refine Wi.2.2.1.1 _ _ _ ⟨_,Oq J.va,?_⟩;rw[Ya rfl];refine⟨_,Oq J.vb,?_⟩;rw[Ya rfl];refine⟨_,_,_,ZD2 J,?_⟩;have:=Abb J 0 (Yc _);have e:hTl a b 0=UK (Ar a.Vars b.Vars) a b:=by unfold hTl UK;rw[Yq]
 rw[e]at this;exact this
def Eh(a b:Ze)(j:Nat):XS:=(a.Rows.drop j).flatMap λx=>b.Rows.filterMap λy=>BB (Ar a.Vars b.Vars) a.Vars x b.Vars y
omit J in
theorem ZD6{j:Nat}(h:j<a.Rows.length):Eh a b j=(b.Rows.filterMap λy=>BB (Ar a.Vars b.Vars) a.Vars a.Rows[j] b.Vars y)++Eh a b (j+1):=by
 unfold Eh;rw[Yg h,Es]
omit J in
theorem ZD7{j:Nat}(h:a.Rows.length<=j):Eh a b j=[]:=by unfold Eh;rw[FK h];rfl
theorem rO{j i:Nat}(hj:j<a.Rows.length)(hi:i<=b.Rows.length):b.Rows.length*j+i<=4096:=by
 have hp:=J.prod
 have:b.Rows.length*(j+1)<=b.Rows.length*a.Rows.length:=Nat.mul_le_mul_left _ hj
 grind
theorem ZD8{j:Nat}(hj:j<a.Rows.length)(ih:∀acc:XS,acc≠[]->acc.length<=b.Rows.length*(j+1)->nD b a b (Ar a.Vars b.Vars) acc a.Rows a.Rows.length ((j+1:Nat):Int)=some (Xh ⟨Ar a.Vars b.Vars,acc++Eh a b (j+1)⟩)) :
  ∀i,i<=b.Rows.length->∀acc:XS,acc≠[]->acc.length<=b.Rows.length*j+i->Np b a b (Ar a.Vars b.Vars) acc a.Rows[j] a.Rows a.Rows.length j b.Rows b.Rows.length i=some (Xh ⟨Ar a.Vars b.Vars,acc++(((b.Rows.drop i).filterMap λy=>BB (Ar a.Vars b.Vars) a.Vars a.Rows[j] b.Vars y)++Eh a b (j+1))⟩):=by
 have hl1:=J.va.len;have hl2:=J.vb.len;refine down _ ?_ ?_
 .intro acc h0 hacc;have:=rO J hj (Yi _)
  grind [Wj.1.1.2.2,List.drop_length,wS,Nat.mul_succ]
 .intro i hi ih2 acc h0 hacc;have:=rO J hj (i:=i) E;apply Wj.1.1.2.2;rw[An,wS hi E];refine⟨E,_,gE hi,?_⟩;have hP:=ZD1 J (Ye hj) (Ye hi) (acc:=acc) E;rw[Yg hi]
  cases hc:BB (Ar a.Vars b.Vars) a.Vars a.Rows[j] b.Vars b.Rows[i]with
  |none =>
   grind
  |some r =>
   rw[hc]at hP;rw[xG (f:=λy=>BB (Ar a.Vars b.Vars) a.Vars a.Rows[j] b.Vars y) hc];refine .inr ⟨_,_,_,_,hP,?_⟩;rw[ih2 (acc++[r]) Z (by simp;omega)];simp
theorem rP:∀j,j<=a.Rows.length->∀acc:XS,acc≠[]->acc.length<=b.Rows.length*j->nD b a b (Ar a.Vars b.Vars) acc a.Rows a.Rows.length j=some (Xh ⟨Ar a.Vars b.Vars,acc++Eh a b j⟩):=by
 have hp:=J.prod;have hl1:=J.va.len;have hl2:=J.vb.len;refine down _ ?_ ?_
 .intro acc h0 hacc;apply Wj.1.2.1;rw[Ao,ZD7 (Yi _),CX,KS h0]
  grind [Nat.mul_comm,Wi.1.2.2.2.2]
 .intro j hj ih acc h0 hacc;apply Wj.1.2.1;rw[An];refine⟨E,_,gE hj,?_⟩;have:=ZD8 J hj ih 0 (Yc _) acc h0 E
  simp_all [Yq,ZD6]
theorem Abc:∀j,j<=a.Rows.length->nB b a b (Ar a.Vars b.Vars) a.Rows a.Rows.length j=some (Xh ⟨Ar a.Vars b.Vars,Eh a b j⟩):=by
 have hl1:=J.va.len;have hl2:=J.vb.len;refine down _ ?_ ?_
 .simp[Wj.1.1.1,ZD7,Yi,La,Wi.1.2.1.2]
 .intro j hj ih;have inner:∀i,i<=b.Rows.length->nC b a b (Ar a.Vars b.Vars) a.Rows[j] a.Rows a.Rows.length j b.Rows b.Rows.length i=some (Xh ⟨Ar a.Vars b.Vars,((b.Rows.drop i).filterMap λy=>BB (Ar a.Vars b.Vars) a.Vars a.Rows[j] b.Vars y)++Eh a b (j+1)⟩):=by
   refine down _ ?_ ?_
   .grind [Wj.1.1.2.1,List.drop_length,wS]
   .intro i hi ih2;apply Wj.1.1.2.1;rw[An,wS hi E];refine⟨E,_,gE hi,?_⟩;have hP:=ZD0 J (Ye hj) (Ye hi);rw[Yg hi]
    cases hc:BB (Ar a.Vars b.Vars) a.Vars a.Rows[j] b.Vars b.Rows[i]with
    |none =>
     grind
    |some r =>
     rw[hc]at hP;rw[xG (f:=λy=>BB (Ar a.Vars b.Vars) a.Vars a.Rows[j] b.Vars y) hc];refine .inr ⟨_,_,_,_,hP,?_⟩;rw[ZD8 J hj (rP J (j+1) hj) (i+1) E [r] Z (by simp only[Ys,DJ];omega)];simp
  apply Wj.1.1.1;rw[An];refine⟨E,_,gE hj,?_⟩;have:=inner 0 (Yc _)
  simp_all [Yq,ZD6]
theorem ZD9:GR a b=some (Xh (VL a b)):=by
 refine Wj.1.2.2.1 _ _ _ ⟨_,Oq J.va,?_⟩;rw[Ya rfl];refine⟨_,Oq J.vb,?_⟩;rw[Ya rfl];refine⟨_,_,_,ZD2 J,?_⟩;have:=Abc J 0 (Yc _);have e:Eh a b 0=Wp (Ar a.Vars b.Vars) a b:=by unfold Eh Wp;rw[Yq]
 rw[e]at this;exact this
theorem ZQv{v:Int}(ha:has a.Vars v=true)(hb:has b.Vars v=true)(sa:a.Rows.Pairwise λp q=>kx (AD a.Vars v).toNat p<=kx (AD a.Vars v).toNat q)(sb:b.Rows.Pairwise λp q=>kx (AD b.Vars v).toNat p<=kx (AD b.Vars v).toNat q):ZpQ a b v=some (Xh (VL a b)):=by
 refine Wj.1.2.2.2 _ _ _ _ ⟨_,ZDu J.va ha sa,?_⟩;rw[Ya rfl];refine⟨_,ZDu J.vb hb sb,?_⟩;rw[Ya rfl];have hN:=ZD9 J;by_cases h:(VL a b).Rows=[]
 .have e:Xh (VL a b)=(.tup [.agg [.own 0,.t .nil],Bo true],[.arr 3 1 true ((VL a b).Vars.map ic)]):=by unfold Xh;rw[Ya h]
  simp_all
 .have e:Xh (VL a b)=(.tup [.agg [.own 0,.own 1],Bo true],[.arr 3 1 true ((VL a b).Vars.map ic),.arr 38 1 true ((VL a b).Rows.map Ae)]):=by unfold Xh;rw[Yb h]
  simp_all
end
