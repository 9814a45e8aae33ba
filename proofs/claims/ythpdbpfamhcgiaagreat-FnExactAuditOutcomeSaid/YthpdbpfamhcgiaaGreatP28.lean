/-
  Parts of the proofs for this seat: SA SB SC.
-/
import Derived.Test.YthpdbpfamhcgiaaGreatP27
set_option linter.all false
set_option maxRecDepth 100000
set_option maxHeartbeats 4000000
namespace Go.Proofs.YthpdbpfamhcgiaaGreat
open Go.AM
structure VS (s:Zm):Prop where
 rows:∀r∈s.Rows,rwB s.Za.length r=true
 vars:Qy none s.Za=true
 len:s.Rows.length<=4096
 four:s.Za.length<=4
def Z0w:∀{l:V6} {p:Option Int},Qy p l=true->∀x∈l,inR x 0 3=true
 |[],_,_,x,hx=>by cases hx
 |y::l,p,h,x,hx=>by
  unfold Qy at h;simp only[Yg]at h;rcases Yba.1 hx with rfl|hx
  .exact h.1.1
  .exact Z0w h.2 x hx
def Z9S:∀{l:V6} {p:Option Int},Qy p l=true->Asc l/\∀q,p=some q->∀x∈l,q<x
 |[],_,_=>⟨.nil,by simp⟩
 |y::l,p,h=>by
  unfold Qy at h;simp only[Yg]at h;obtain⟨i1,i2⟩:=Z9S h.2;refine⟨Y4.2 ⟨i2 y rfl,i1⟩,λq hq x hx=>?_⟩;subst hq;have h1:q<y:=by simpa[nxt]using h.1.2
  grind
def GS.vs{q:Zf}{y:Zo}{s:Zm}(h:GS q y s)(hq:Z9 q.Zk q.Zb=true):VS s:=by
 refine⟨h.rows,?_,by have:=h.len;have:=Zp5 y.Mask;omega,?_⟩
 .rw[h.vars];exact Z0h _ _ (Zhl _ _ _) (Zhn hq _) (by simp)
 .rw[h.vars];have:=Zbl y.Mask q.Zb q.Zk.toNat;have:=U2 hq;omega
def VS.row4{s:Zm}(h:VS s){r:V6}(hr:r∈s.Rows):r.length=s.Za.length/\r.length<=4:=by
 have:=Zp6 (h.rows r hr);have:=h.four;omega
def l_cols(vs:V6)(hl:vs.length<=100):∀i,i<=vs.length->Zfd vs 4 vs vs.length i=some (Bo (Qy (pvA vs i) (vs.drop i)),[]):=by
 refine down _ ?_ ?_
 .apply X9.2.2.1.1;rw[Ynx,Yk];rfl
 .intro i hi ih;apply X9.2.2.1.1;rw[Ypx,Yi hi,Qy,wS hi (by omega),show w ((4:Int)-1)=3 by decide];refine⟨by omega,_,gE hi,_,X0 _ _ _,?_⟩;rw[show pvA vs (i+1)=some vs[i]from Yf hi]at ih;rcases tf (inR vs[i] 0 3)with e|e
  .rw[e];simp
  .rw[e,Ya rfl,ih];by_cases h0:(0:Int)<(i:Int)
   .rw[Ya h0,wP (by omega) hi (by omega),ZaE (by omega) (by omega)];refine⟨by omega,_,gE (by omega),?_⟩;by_cases h2:vs[i]<=vs[i-1]
    .rw[Ya h2];simp[nxt];omega
    .rw[Yb h2];simp[nxt,show vs[i-1]<vs[i] by omega]
   .obtain rfl:i=0:=by omega
    rw[Yb h0];simp[nxt,pvA]
def ZN5{s:Zm}(h:VS s):∀i,i<=s.Rows.length->Zjg s s.Rows s.Rows.length i=some (Bo true,[]):=by
 have hl:=h.len;refine down _ ?_ ?_
 .apply WH.2.2.2.1;rw[Ynx];refine⟨_,WH.2.2.1.2 _ _ ⟨_,X9.2.2.1.2 _ _ _ (by simpa using l_cols s.Za (by have:=h.four;omega) 0 (Yc _)),rfl⟩,?_⟩
  have:Qy (pvA s.Za 0) s.Za=true:=h.vars
  grind
 .intro i hi ih;apply WH.2.2.2.1;have hm:=Ye hi;have:=h.row4 hm;rw[Ypx,wS hi (by omega)];refine⟨by omega,_,gE hi,_,Z9m _ _ (by omega),?_⟩;rw[h.rows _ hm,Ya rfl];exact ih
def Zem{s:Zm}(h:VS s):QI s=some (Bo true,[]):=WH.2.2.2.2.1 _ _ (ZN5 h 0 (Yc _))
def ZN6{s:Zm}(h:VS s):∀i,i<=s.Rows.length->ZkR s i=some (Bo true,[]):=by
 have hl:=h.len;refine down _ ?_ ?_
 .grind [Wm.1.2.2.2.1]
 .intro i hi ih;apply Wm.1.2.2.2.1;have hm:=Ye hi;have:=h.row4 hm;rw[Ypx,wS hi (by omega)];refine⟨by omega,_,gE hi,_,Z9n _ _ (by omega),?_⟩;rw[h.rows _ hm,Ya rfl];exact ih
def ZN7{s:Zm}(h:VS s):∀i,i<=s.Za.length->Qy (pvA s.Za i) (s.Za.drop i)=true->Zgy s i=some (Bo true,[]):=by
 have h4:=h.four;refine down _ ?_ ?_
 .intro _;apply Wm.1.2.2.1;rw[Ynx];exact ZN6 h 0 (Yc _)
 .intro i hi ih ha;apply Wm.1.2.2.1;rw[Yi hi,Qy]at ha;simp only[Yg]at ha;have ih:=ih (by rw[show pvA s.Za (i+1)=some s.Za[i]from Yf hi];exact ha.2);rw[Ypx,wS hi (by omega)];refine⟨by omega,_,gE hi,_,Xx _ _ _,?_⟩;rw[ha.1.1,Ya rfl,ih];by_cases h0:(0:Int)<(i:Int)
  .have h2:=ha.1.2;rw[ZaE (by omega) (by omega)]at h2;rw[Ya h0,wP (by omega) hi (by omega)];refine⟨by omega,_,gE (by omega),?_⟩;have h3:s.Za[i-1]<s.Za[i]:=by simpa[nxt]using h2
   rw[Ynx]
  .rw[Yb h0]
def Zen{s:Zm}(h:VS s):Km s=some (Bo true,[]):=Wm.1.2.2.2.2 _ _ (ZN7 h 0 (Yc _) h.vars)
def xIx{vs:V6}(h:vs.length<=4)(v:Int):VZ vs v=some (I (cix vs v),[]):=Z9c vs v (by omega)
theorem xFd{vs:V6}(h:vs.length<=4)(v:Int):U7 vs v=some (I (cix vs v),[]):=Z9f vs v (by omega)
def VS.ok{s:Zm}(h:VS s){v:Int}(hv:has s.Za v=true):∀r∈s.Rows,okC (cix s.Za v).toNat r:=λr hr=>Z0i (h.rows r hr) (WE hv).2.1
def ZN8{s:Zm}(h:VS s){v:Int}(hv:has s.Za v=true):∃fr,Zfw s v=some (.tup [.agg [.own 0,.own 1],Bo true],[.arr 3 1 true ((Zho s v).Za.map ic),.arr 40 1 fr ((Zho s v).Rows.map isc)]):=by
 obtain⟨c1,c2,c3⟩:=WE hv;obtain⟨fr,hs⟩:=ZN1 (x:=(cix s.Za v).toNat) h.len (h.ok hv);have h4:=h.four;refine⟨fr,ZbM.1.2.1 _ _ _ ⟨_,xIx h4 v,?_⟩⟩;rw[Ynx];refine⟨_,Zem h,?_⟩;rw[Ya rfl];rw[show((cix s.Za v).toNat:Int)=cix s.Za v by omega]at hs;exact⟨_,Zeg _ (by omega),_,Zpw _ (λr hr=>(h.row4 hr).2) (by have:=h.len;omega),_,_,_,hs,rfl⟩
def Z9T{rows:V4}{x:Nat}(hl:rows.length<=4096)(hk:∀r∈rows,okC x r)(hs:rows.Pairwise λa b=>kx x a<=kx x b):∀i,i<rows.length->Zjp rows x i=some (Bo true,[])
 |0,h=>by
  simp[Wy.2.1.1.1]
 |i+1,h=>by
  have ih:=Z9T hl hk hs i (by omega);apply Wy.2.1.1.1;have hw:w (((i+1:Nat):Int)-1)=(i:Int):=by rw[wA (by omega) (by omega)];omega
  obtain⟨p1,p2,p3⟩:=hk _ (Ye h);obtain⟨q1,q2,q3⟩:=hk _ (Ye (show i<rows.length by omega));have hlt:=(Ybv.1 hs) i (i+1) (by omega) h (by omega);have e1:rows[i+1][x]=kx x rows[i+1]:=(getElem!_pos rows[i+1] x p1).symm;have e2:rows[i][x]=kx x rows[i]:=(getElem!_pos rows[i] x q1).symm;rw[Ypx,hw];refine⟨by omega,_,gE h,by omega,_,gE (by omega),_,Wy.1.2.2.2.2 _ _ _ _ ⟨by omega,_,gE p1,_,gE q1,rfl⟩,?_⟩
  grind [wA]
def Z9U{s:Zm}(h:VS s){v:Int}(hv:has s.Za v=true)(hs:s.Rows.Pairwise λa b=>kx (cix s.Za v).toNat a<=kx (cix s.Za v).toNat b):Zjq s v=some (Bo true,[]):=by
 obtain⟨c1,c2,c3⟩:=WE hv;refine Wy.2.1.2.1 _ _ _ ⟨_,xIx h.four v,?_⟩;rw[Ynx];refine⟨_,Zem h,?_⟩;rw[Ya rfl];refine⟨_,Wy.2.1.1.2 _ _ (Bo true,[]) ?_,rfl⟩;have hl:=h.len
 cases hc:s.Rows with
 |nil =>
  apply Wy.2.1.1.1
  rw[Yb (by decide)]
 |cons r rs =>
  rw[hc]at hl;have:=Z9T (rows:=r::rs) hl (by rw[<-hc];exact h.ok hv) (by rw[<-hc];exact hs) rs.length (by simp)
  grind [List.length_cons,wA]
def ZN9{s:Zm}(h:VS s){x:Nat}(hk:∀r∈s.Rows,okC x r)(hs:s.Rows.Pairwise λa b=>kx x a<=kx x b):∀i,i<=s.Rows.length->0<i->ZkX s x i=some (Bo true,[]):=by
 have hl:=h.len;refine down _ ?_ ?_
 .simp[Vw.2.2.2.1]
 .intro i hi ih h0;have ih:=ih (by omega);obtain⟨j,rfl⟩:∃j,i=j+1:=⟨i-1,by omega⟩;apply Vw.2.2.2.1;have hw:w (((j+1:Nat):Int)-1)=(j:Int):=by rw[wA (by omega) (by omega)];omega
  obtain⟨p1,p2,p3⟩:=hk _ (Ye hi);obtain⟨q1,q2,q3⟩:=hk _ (Ye (show j<s.Rows.length by omega));have hlt:=(Ybv.1 hs) j (j+1) (by omega) hi (by omega);have e1:s.Rows[j+1][x]=kx x s.Rows[j+1]:=(getElem!_pos s.Rows[j+1] x p1).symm;have e2:s.Rows[j][x]=kx x s.Rows[j]:=(getElem!_pos s.Rows[j] x q1).symm;rw[Ypx,hw,wS hi (by omega)];refine⟨by omega,_,gE (by omega),by omega,_,gE q1,by omega,_,gE hi,_,gE p1,?_⟩
  simp_all
def Z9V{s:Zm}(h:VS s){v:Int}(hv:has s.Za v=true)(hs:s.Rows.Pairwise λa b=>kx (cix s.Za v).toNat a<=kx (cix s.Za v).toNat b):Zg4 s v=some (Bo true,[]):=by
 obtain⟨c1,c2,c3⟩:=WE hv;have hl:=h.len;refine Vw.2.2.2.2 _ _ _ ⟨_,xFd h.four v,_,Zen h,?_⟩;rw[Ya rfl,Ynx]
 cases hc:s.Rows with
 |nil =>
  simp_all [Vw.2.2.2.1]
 |cons r rs =>
  have:=ZN9 h (h.ok hv) hs 1 (by rw[hc];simp) (by omega)
  grind
def XF(s:Zm):V3:=if s.Rows=[]then(.tup [.agg [.own 0,.t .nil],Bo true],[.arr 3 1 true (s.Za.map ic)])else(.tup [.agg [.own 0,.own 1],Bo true],[.arr 3 1 true (s.Za.map ic),.arr 40 1 true (s.Rows.map isc)])
theorem ZbW{vs:V6}{rows:V4}(h:rows≠[]):XF ⟨vs,rows⟩=(.tup [.agg [.own 0,.own 1],Bo true],[.arr 3 1 true (vs.map ic),.arr 40 1 true (rows.map isc)]):=by unfold XF;rw[Yb h]
def ZbX{vs:V6}:XF ⟨vs,[]⟩=(.tup [.agg [.own 0,.t .nil],Bo true],[.arr 3 1 true (vs.map ic)]):=by unfold XF;rw[Ya rfl]
def Jl(x:Nat)(rows:V4)(c:Nat):V4:=(List.range' c (10-c)).flatMap λi:Nat=>rows.filter λr=>decide (kx x r=(i:Int))
def clsF_0(x:Nat)(rows:V4):Jl x rows 0=QR x rows:=by unfold Jl QR;rw[Ydp]
def Z9W{x:Nat}{rows:V4}{c:Nat}(h:c<10):Jl x rows c=(rows.filter λr=>decide (kx x r=(c:Int)))++Jl x rows (c+1):=by
 unfold Jl;rw[show 10-c=(10-(c+1))+1 by omega,Ybs,Ybq]
def Z9X(x:Nat)(rows:V4):Jl x rows 10=[]:=rfl
section
variable{s:Zm}(h:VS s){x:Nat}(hk:∀r∈s.Rows,okC x r)
include h hk
theorem ZNA(vs:V6):∀c:Nat,c<=10->(∀acc:V4,acc≠[]->acc.length<=50000-4096*(10-c)->ZoF s vs acc x c=some (XF ⟨vs,acc++Jl x s.Rows c⟩)):=by
 have hl:=h.len;refine down 10 ?_ ?_
 .simp_all [Wm.2.1.2.2,Z9X,Y9,ZbW]
 .intro c hc ih acc ha hb;apply Wm.2.1.2.2;rw[Ypx,Z9W hc];have inner:∀i,i<=s.Rows.length->∀acc:V4,acc≠[]->acc.length+(s.Rows.length-i)<=50000-4096*(10-(c+1))->ZbG s vs acc x c i=some (XF ⟨vs,acc++(((s.Rows.drop i).filter λr=>decide (kx x r=(c:Int)))++Jl x s.Rows (c+1))⟩):=by
   refine down _ ?_ ?_
   .grind [Wm.2.1.2.1,List.drop_length,wA]
   .intro i hi ih2 acc ha hb;apply Wm.2.1.2.1;obtain⟨p1,p2,p3⟩:=hk _ (Ye hi);have e1:s.Rows[i][x]=kx x s.Rows[i]:=(getElem!_pos s.Rows[i] x p1).symm;have h4:=h.row4 (Ye hi);rw[Ypx,wS hi (by omega),Yi hi];refine⟨by omega,_,gE hi,by omega,_,gE p1,?_⟩;rw[e1];by_cases e:kx x s.Rows[i]=(c:Int)
    .rw[Ya e,Yc1 (by simpa using e)];refine⟨by omega,by omega,?_⟩;rw[ih2 _ (by simp) (by simp;omega)];simp
    .grind
  grind
theorem ZNB(vs:V6):∀c:Nat,c<=10->ZkT s vs x c=some (XF ⟨vs,Jl x s.Rows c⟩):=by
 have hl:=h.len;refine down 10 ?_ ?_
 .simp[Wm.2.1.1.1,Z9X,ZbX]
 .intro c hc ih;apply Wm.2.1.1.1;rw[Ypx,Z9W hc];have inner:∀i,i<=s.Rows.length->ZkU s vs x c i=some (XF ⟨vs,((s.Rows.drop i).filter λr=>decide (kx x r=(c:Int)))++Jl x s.Rows (c+1)⟩):=by
   refine down _ ?_ ?_
   .grind [Wm.2.1.1.2,List.drop_length,wA]
   .intro i hi ih2;apply Wm.2.1.1.2;obtain⟨p1,p2,p3⟩:=hk _ (Ye hi);have e1:s.Rows[i][x]=kx x s.Rows[i]:=(getElem!_pos s.Rows[i] x p1).symm;have h4:=h.row4 (Ye hi);rw[Ypx,wS hi (by omega),Yi hi];refine⟨by omega,_,gE hi,by omega,_,gE p1,?_⟩;rw[e1];by_cases e:kx x s.Rows[i]=(c:Int)
    .rw[Ya e,Yc1 (by simpa using e)];refine⟨by omega,?_⟩
     -- the first row: the rest of this round,then the further classes
     have rest:∀k,k<=s.Rows.length->∀acc:V4,acc≠[]->acc.length+(s.Rows.length-k)<=5000->ZbG s vs acc x c k=some (XF ⟨vs,acc++(((s.Rows.drop k).filter λr=>decide (kx x r=(c:Int)))++Jl x s.Rows (c+1))⟩):=by
      refine down _ ?_ ?_
      .intro acc ha hb;apply Wm.2.1.2.1;rw[Ynx,Yk,wA (by omega) (by omega)]
       exact_mod_cast ZNA h hk vs (c+1) (by omega) acc ha (by omega)
      .intro k hk2 ih3 acc ha hb;apply Wm.2.1.2.1;obtain⟨p1,p2,p3⟩:=hk _ (Ye hk2);have e1:s.Rows[k][x]=kx x s.Rows[k]:=(getElem!_pos s.Rows[k] x p1).symm;have h4:=h.row4 (Ye hk2);rw[Ypx,wS hk2 (by omega),Yi hk2];refine⟨by omega,_,gE hk2,by omega,_,gE p1,?_⟩;rw[e1];by_cases e:kx x s.Rows[k]=(c:Int)
       .rw[Ya e,Yc1 (by simpa using e)];refine⟨by omega,by omega,?_⟩;rw[ih3 _ (by simp) (by simp;omega)];simp
       .grind
     rw[rest (i+1) (by omega) [s.Rows[i]] (by simp) (by simp;omega)];simp
    .grind
  grind
end
def ZNC{s:Zm}(h:VS s){v:Int}(hv:has s.Za v=true):ZkS s v=some (XF (Zho s v)):=by
 obtain⟨c1,c2,c3⟩:=WE hv;refine Wm.2.2.1.1 _ _ _ ⟨_,xFd h.four v,_,Zen h,?_⟩;rw[Ya rfl,Ynx];refine⟨by have:=h.four;omega,?_⟩;have:=ZNB h (h.ok hv) s.Za 0 (by omega);rw[clsF_0,show((cix s.Za v).toNat:Int)=cix s.Za v by omega]at this;exact this
theorem Z9Y{l:V6}(h:l.length<=4096):KN l=some (.tup [],[.arr 3 1 true ((Xg l).map ic)]):=by unfold KN;exact Z9Q h
theorem x_cptI{l:V6}(h:l.length<=4096):Zb0 l=some (.own 1,[.dead,.arr 3 1 true ((XM l).map ic)]):=by unfold Zb0;exact Z9R h
theorem Qa{r:V6}{i:Int}(h0:0<=i)(h:i.toNat<r.length):r[i.toNat]?=some (XV r i):=by unfold XV;rw[Yb1,Yf h];rfl
def scR(a:Ze)(r:V6):V6:=(Xg a.Za).map λv=>XV r (cix a.Za v)
section
variable{a:Ze}(ha:a.Za.length<=4)
include ha
omit ha in
theorem ZpE:(Xg a.Za).length=a.Za.length:=(Zp3 _).length_eq
theorem ZND{r:V6}(hr:r.length=a.Za.length)(rows:V4)(n i:Int)(R:V3):∀j,j<=(Xg a.Za).length->
  ZcW a (Xg a.Za) [scR a r] rows n (w (i+1))=some R->Zje a (Xg a.Za) ((scR a r).take j) rows r n i (Xg a.Za).length j=some R:=by
 have h4:=ZpE (a:=a);refine down _ ?_ ?_
 .intro h;apply WH.2.1.1.2;rw[Ynx,Ybp (by simp[scR])];exact h
 .intro j hj ih h;apply WH.2.1.1.2;have hh:has a.Za (Xg a.Za)[j]=true:=Vj.2 ((ZbU _ _).1 (Ye hj));obtain⟨c1,c2,c3⟩:=WE hh;rw[Ypx,wS hj (by omega)];refine⟨by omega,_,gE hj,_,xIx ha _,c1,_,Qa c1 (by omega),by simp;omega,?_⟩;have hl:j<(scR a r).length:=by simp[scR];omega
  have:=ih h;rw[Yp hl]at this;simpa[scR]using this
theorem ZNE{r:V6}(hr:r.length=a.Za.length)(acc rows:V4)(c:acc.length<=1000)(n i:Int)(R:V3):∀j,j<=(Xg a.Za).length->
  ZcW a (Xg a.Za) (acc++[scR a r]) rows n (w (i+1))=some R->Zjf a (Xg a.Za) acc ((scR a r).take j) rows r n i (Xg a.Za).length j=some R:=by
 have h4:=ZpE (a:=a);refine down _ ?_ ?_
 .intro h;apply WH.2.1.2.2;rw[Ynx,Ybp (by simp[scR])];exact⟨by omega,h⟩
 .intro j hj ih h;apply WH.2.1.2.2;have hh:has a.Za (Xg a.Za)[j]=true:=Vj.2 ((ZbU _ _).1 (Ye hj));obtain⟨c1,c2,c3⟩:=WE hh;rw[Ypx,wS hj (by omega)];refine⟨by omega,_,gE hj,_,xIx ha _,c1,_,Qa c1 (by omega),by simp;omega,?_⟩;have hl:j<(scR a r).length:=by simp[scR];omega
  have:=ih h;rw[Yp hl]at this;simpa[scR]using this
theorem ZNF{rows:V4}(hn:rows.length<=8)(hr:∀r∈rows,r.length=a.Za.length):∀i,i<=rows.length->∀acc:V4,acc≠[]->acc.length<=i->
  ZcW a (Xg a.Za) acc rows rows.length i=some (XF ⟨Xg a.Za,acc++(rows.drop i).map (scR a)⟩):=by
 refine down _ ?_ ?_
 .simp_all [WH.2.1.2.1,Yk,Yca,Y9,ZbW]
 .intro i hi ih acc h0 hl;apply WH.2.1.2.1;rw[Ypx];refine⟨by omega,_,gE hi,?_⟩;have:=ZNE ha (hr _ (Ye hi)) acc rows (by omega) rows.length i _ 0 (Yc _) (by rw[wS hi (by omega)];exact ih (acc++[scR a rows[i]]) (by simp) (by simp;omega))
  grind [List.append_assoc,List.drop_eq_getElem_cons]
end
def ZNG{d:Zp}(hd:LeD d){q:Zf}(hq:LeQ q)(h:Xp d q=true){i:Int}(hi:inR i 0 (q.Zb.length-1)=true):Zjd d q i=some (XF (Kt d q i)):=by
 have hv:Z9 q.Zk q.Zb=true:=by unfold Xp at h;simp only[Yg]at h;exact h.1
 have hl:=Wg hv;have hi':=hi;simp[inR]at hi';have hlt:i.toNat<q.Zb.length:=by omega
 have he:q.Zb[i.toNat]?=some q.Zb[i.toNat]:=Yf hlt;have hm:q.Zb[i.toNat]∈q.Zb:=Ye hlt;generalize q.Zb[i.toNat]=a at he hm;obtain⟨t,t1,t2,t3,t4,t5,t6⟩:=Z0l h hm;have hvl:=Zah hv a hm;have ha:a.Za.length<=4:=by omega
 have hr:∀r∈t.Rows,r.length=a.Za.length:=λr hr=>Zp6 (t5 r hr)
 have hsc:Kt d q i=⟨Xg a.Za,t.Rows.map (scR a)⟩:=by
  unfold Kt;rw[he];simp only[t3];rfl
 have hk:=ZaF d hd a.Zq;rw[t1]at hk;rw[hsc];refine WH.2.2.1.1 _ _ _ _ ⟨_,ZbS d hd q hq,?_⟩;rw[h,Ya rfl,show w ((q.Zb.length:Int)-1)=(q.Zb.length:Int)-1 from ZL (by omega) (by omega)];refine⟨_,X0 _ _ _,?_⟩;rw[hi,Ya rfl];refine⟨by omega,a,he,.inr ⟨_,_,_,hk,_,Zeg _ (by omega),_,Z9Y (by omega),?_⟩⟩;apply WH.2.1.1.1
 cases hc:t.Rows with
 |nil=>rw[Yb (by simp),Yca,ZbX]
 |cons r rs =>
  rw[hc]at hr t4;rw[Ya (by simp)];refine⟨by omega,r,rfl,?_⟩
  have:=ZND ha (hr r (by simp)) (r::rs) (r::rs).length 0 _ 0 (Yc _) (by
   rw[show w ((0:Int)+1)=((1:Nat):Int) by decide]
   exact ZNF ha t4 hr 1 (by simp) [scR a r] (by simp) (by simp))
  simp_all
def l_col(a:Ze)(ha:a.Za.length<=4)(v:Int):∀k,k<=a.Za.length->ZkM a v k=some (I (XZ (λx=>decide (v=x)) (a.Za.drop k) k),[]):=by
 refine down _ ?_ ?_
 .apply Wd.2.2.2.2.1;rw[Ynx,Yk];rfl
 .intro k hk ih;apply Wd.2.2.2.2.1;rw[Ypx,Zii _ hk,wS hk (by omega)];refine⟨by omega,_,gE hk,?_⟩
  grind
def Z9Z(a:Ze)(ha:a.Za.length<=4)(v:Int):Zgw a v=some (I (cix a.Za v),[]):=Wd.2.2.2.2.2 _ _ _ (by simpa[cix]using l_col a ha v 0 (Yc _))
def l_list(p:Nat->Bool):∀v,v<=4->ZdE (((List.range v).filter p).map λu:Nat=>(u:Int)) (XD p) v=some (.own 0,[.arr 3 1 true ((((List.range 4).filter p).map λu:Nat=>(u:Int)).map ic)]):=by
 refine down 4 ?_ ?_
 .simp[XB.2.1.2.1]
 .intro v hv ih;apply XB.2.1.2.1;have hb:=ZmH p (v:=(v:Int)) (by simp[inR];omega);rw[Yh]at hb;have hlen:(((List.range v).filter p).map λu:Nat=>(u:Int)).length<=v:=by
   grind
  rw[Ypx,wS hv (by omega)];rw[Yb8,Yc2,Y3]at ih
  grind
def varL4{n:Int}{qa:List Ze}(h:Z9 n qa=true)(m:Int):Xo m qa 4=Xo m qa n.toNat:=by
 refine Zl9 (Zhl _ _ _) (Zhl _ _ _) λv=>?_
 rw[Zhm h];unfold Xo vin;simp only[Yt,Ybb,Ybg,Yg];constructor
 .rintro⟨u,⟨hu,hp⟩,rfl⟩;exact⟨by simp[inR];omega,by simpa using hp⟩
 .rintro⟨h1,h2⟩;simp[inR]at h1
  grind
def shl4:∀i n:Fin 5,i.1<n.1->1<=n.1->inR (shlI 1 (i.1:Int)) 0 (w (shlI 1 (n.1:Int)-1))=true:=by decide
def ZNH{q:Zf}(hq:LeQ q)(h:Z9 q.Zk q.Zb=true){i:Nat}(hi:i<q.Zb.length):Kl q (shlI 1 (i:Int))=some (.own 0,[.arr 3 1 true ((Xo (shlI 1 (i:Int)) q.Zb q.Zk.toNat).map ic)]):=by
 have hl:=Wg h;refine XB.2.2.1.1 _ _ _ ⟨true,W6.1.2.2.1 _ _ _ ⟨_,ZgY q hq,?_⟩,?_⟩
 .rw[h,Ya rfl];refine⟨by omega,_,Xx _ _ _,?_⟩;have:=shl4 ⟨i,by omega⟩ ⟨q.Zb.length,by omega⟩ hi hl.1
  simp_all
 .rw[Ya rfl];refine⟨_,Zeb q _ hq (Zai h),_,XB.2.1.2.2 _ _ (l_list _ 0 (by omega)),?_⟩;rw[<-varL4 h];rfl
section
variable{q:Zf}{a:Ze}(ha:a.Za.length<=4){i:Nat}(he:q.Zb[i]?=some a)(nm:YA)(ar:Int)
include ha he
theorem ZNI{rows:V4}{k:Nat}(hk:k<rows.length)(hr:rows[k].length=a.Za.length)(R:V3):∀j,j<=(Xg a.Za).length->
  ZdG q nm ar rows (Xg a.Za) [scR a rows[k]] i (w (k+1))=some R->ZkO q nm ar rows (Xg a.Za) ((scR a rows[k]).take j) i k j=some R:=by
 have h4:=ZpE (a:=a);refine down _ ?_ ?_
 .intro h;apply Wm.1.1.2.1;rw[Ynx,Ybp (by simp[scR])];exact h
 .intro j hj ih h;apply Wm.1.1.2.1;have hh:has a.Za (Xg a.Za)[j]=true:=Vj.2 ((ZbU _ _).1 (Ye hj));obtain⟨c1,c2,c3⟩:=WE hh;rw[Ypx,wS hj (by omega)];refine⟨by omega,_,gE hk,by omega,a,by rw[Yh];exact he,by omega,_,gE hj,_,Z9Z a ha _,c1,_,Qa c1 (by omega),by simp;omega,?_⟩;have hl:j<(scR a rows[k]).length:=by simp[scR];omega
  have:=ih h;rw[Yp hl]at this;simpa[scR]using this
theorem ZNJ{rows:V4}{k:Nat}(hk:k<rows.length)(hr:rows[k].length=a.Za.length)(acc:V4)(c:acc.length<=1000)(R:V3):∀j,j<=(Xg a.Za).length->
  ZdG q nm ar rows (Xg a.Za) (acc++[scR a rows[k]]) i (w (k+1))=some R->ZkP q nm ar rows (Xg a.Za) acc ((scR a rows[k]).take j) i k j=some R:=by
 have h4:=ZpE (a:=a);refine down _ ?_ ?_
 .intro h;apply Wm.1.2.1.1;rw[Ynx,Ybp (by simp[scR])];exact⟨by omega,h⟩
 .intro j hj ih h;apply Wm.1.2.1.1;have hh:has a.Za (Xg a.Za)[j]=true:=Vj.2 ((ZbU _ _).1 (Ye hj));obtain⟨c1,c2,c3⟩:=WE hh;rw[Ypx,wS hj (by omega)];refine⟨by omega,_,gE hk,by omega,a,by rw[Yh];exact he,by omega,_,gE hj,_,Z9Z a ha _,c1,_,Qa c1 (by omega),by simp;omega,?_⟩;have hl:j<(scR a rows[k]).length:=by simp[scR];omega
  have:=ih h;rw[Yp hl]at this;simpa[scR]using this
theorem ZNK{rows:V4}(hn:rows.length<=8)(hr:∀r∈rows,r.length=a.Za.length):∀k,k<=rows.length->∀acc:V4,acc≠[]->acc.length<=k->
  ZdG q nm ar rows (Xg a.Za) acc i k=some (XF ⟨Xg a.Za,acc++(rows.drop k).map (scR a)⟩):=by
 refine down _ ?_ ?_
 .simp_all [Wm.1.1.2.2,Yk,Yca,Y9,ZbW]
 .intro k hk ih acc h0 hl;apply Wm.1.1.2.2;rw[Ypx];have:=ZNJ ha he nm ar hk (hr _ (Ye hk)) acc (by omega) _ 0 (Yc _) (by rw[wS hk (by omega)];exact ih (acc++[scR a rows[k]]) (by simp) (by simp;omega))
  grind [List.append_assoc,List.drop_eq_getElem_cons]
end
def ZNL{d:Zp}(hd:LeD d){q:Zf}(hq:LeQ q)(h:Xp d q=true){i:Int}(hi:inR i 0 (q.Zb.length-1)=true):ZkN d q i=some (XF (Kt d q i)):=by
 have hv:Z9 q.Zk q.Zb=true:=by unfold Xp at h;simp only[Yg]at h;exact h.1
 have hl:=Wg hv;have hi':=hi;simp[inR]at hi';obtain⟨n,rfl⟩:∃n:Nat,i=(n:Int):=⟨i.toNat,by omega⟩;have hlt:n<q.Zb.length:=by omega
 have he:q.Zb[n]?=some q.Zb[n]:=Yf hlt;have hm:q.Zb[n]∈q.Zb:=Ye hlt;generalize q.Zb[n]=a at he hm;obtain⟨t,t1,t2,t3,t4,t5,t6⟩:=Z0l h hm;have hvl:=Zah hv a hm;have ha:a.Za.length<=4:=by omega
 have hr:∀r∈t.Rows,r.length=a.Za.length:=λr hr=>Zp6 (t5 r hr)
 have hsc:Kt d q (n:Int)=⟨Xg a.Za,t.Rows.map (scR a)⟩:=by
  unfold Kt;rw[Yh,he];simp only[t3];rfl
 have hk:=ZaG d hd a.Zq;rw[t1]at hk;have hM:=ZNH hq hv hlt;rw[<-Z9A hv he]at hM;rw[hsc];refine Wm.1.2.1.2 _ _ _ _ ⟨_,ZaH d hd q hq,?_⟩;rw[h,Ya rfl,show w ((q.Zb.length:Int)-1)=(q.Zb.length:Int)-1 from ZL (by omega) (by omega)];refine⟨_,Xx _ _ _,?_⟩;rw[hi,Ya rfl];refine⟨by omega,a,by rw[Yh];exact he,?_⟩;by_cases hc:t.Rows=[]
 .simp only[QQ,Ya hc]at hk
  simp_all [Wm.1.1.1.1,Yca,ZbX]
 .simp only[QQ,Yb hc]at hk;refine .inr ⟨_,_,_,hk,by omega,_,hM,?_⟩;have h0:0<t.Rows.length:=Yc5.2 hc;apply Wm.1.1.1.2;rw[Ypx]
  have:=ZNI ha he t.Zq t.Zu h0 (hr _ (Ye h0)) _ 0 (Yc _) (by
   rw[show w (((0:Nat):Int)+1)=((1:Nat):Int) by decide]
   exact ZNK ha he t.Zq t.Zu t4 hr 1 (by omega) [scR a t.Rows[0]] (by simp) (by simp))
  rw[Yc3]at this;have e:[scR a t.Rows[0]]++(t.Rows.drop 1).map (scR a)=t.Rows.map (scR a):=by
   conv=>rhs;rw[<-Ym (l:=t.Rows),Yi h0]
   rfl
  simp_all
def okV(av x bv y:V6)(v:Int):Bool:=decide (cix av v<0) || decide (cix bv v<0) || decide (XV x (cix av v)=XV y (cix bv v))
def cix_at{av:V6}(h:av.Nodup){i:Nat}(hi:i<av.length):cix av av[i]=(i:Int):=by
 obtain⟨h1,h2,h3⟩:=WE (vs:=av) (v:=av[i]) (Vj.2 (Ye hi))
 grind [List.getElem?_eq_getElem,List.getElem_inj,Option.some.inj]
def ZNM{l:V6}(h:Asc l):l.Nodup:=h.imp (by intro a b h;omega)
def ZNN{vs av x bv y:V6}(ha:av.Nodup)(h1:∀v∈av,v∈vs):agr av x bv y=vs.all (okV av x bv y):=by
 rw[Ybx];unfold agr;rw[Yl,Yl];constructor
 .intro h v hv;unfold okV;by_cases hc:cix av v<0
  .simp[hc]
  .have hh:has av v=true:=Jj.1 (by omega);obtain⟨c1,c2,c3⟩:=WE hh;have:=h (cix av v).toNat (Ybg.2 c2);have e:av.getD (cix av v).toNat 0=v:=by rw[Yb1,c3];rfl
   rw[e]at this;have e2:x.getD (cix av v).toNat 0=XV x (cix av v):=rfl
   grind
 .intro h i hi;have hi:=Ybg.1 hi;have e:av.getD i 0=av[i]:=by rw[Yb1,Yf hi];rfl
  have:=h av[i] (h1 _ (Ye hi));unfold okV at this;rw[cix_at ha hi]at this;rw[e];have e2:XV x (i:Int)=x.getD i 0:=by unfold XV;rw[Yh]
  grind
abbrev ZaJ(a b:Zm)(r:AV):Blk:=.box [L 1 (a.Za.map ic),L 1 (a.Rows.map isc),L 1 (b.Za.map ic),L 1 (b.Rows.map isc),.own 1,r]
section
variable{a b:Zm}(ha:a.Za.length<=4)(hb:b.Za.length<=4){vs:V6}(hvs:vs.length<=8)(hh:∀v∈vs,has a.Za v=true\/has b.Za v=true){x y:V6}(hx:x.length=a.Za.length)(hy:y.length=b.Za.length)
include ha hb hvs hh hx hy
theorem l_pair:∀i,i<=vs.length->Zdf a b vs ((vs.take i).map (mrV a.Za x b.Za y)) x y vs.length i =
  some (.tup [],if(vs.drop i).all (okV a.Za x b.Za y)=true then[ZaJ a b (.own 2),.arr 3 1 true (vs.map ic),.arr 40 1 true (([vs.map (mrV a.Za x b.Za y)]).map isc)]else[ZaJ a b (.t .nil),.arr 3 1 true (vs.map ic)]):=by
 refine down _ ?_ ?_
 .apply ZbM.2.1;simp
 .intro i hi ih;apply ZbM.2.1;rw[Ypx,wS hi (by omega),Yi hi,Y5];rw[Yp hi,Y3]at ih;have hl:((vs.take i).map (mrV a.Za x b.Za y)).length<=8:=by simp;omega
  refine⟨by omega,_,gE hi,_,xIx ha _,_,xIx hb _,?_⟩;have hv:=hh _ (Ye hi);generalize hvi:vs[i]=v at *
  by_cases h1:cix a.Za v<0
  .have hbv:has b.Za v=true:=hv.resolve_left λe=>by have:=(WE e).1;omega
   obtain⟨c1,c2,c3⟩:=WE hbv;rw[Ya h1,show okV a.Za x b.Za y v=true by simp[okV,h1],Yn];have e:mrV a.Za x b.Za y v=XV y (cix b.Za v):=by unfold mrV;rw[Ynx]
   grind [Qa]
  .have hav:has a.Za v=true:=Jj.1 (by omega);obtain⟨d1,d2,d3⟩:=WE hav;have e:mrV a.Za x b.Za y v=XV x (cix a.Za v):=by unfold mrV;rw[Ya d1]
   rw[Yb h1];by_cases h2:0<=cix b.Za v
   .obtain⟨c1,c2,c3⟩:=WE (Jj.1 h2);rw[Ya h2];refine⟨d1,_,Qa d1 (by omega),_,Qa c1 (by omega),?_⟩;by_cases h3:XV x (cix a.Za v)=XV y (cix b.Za v)
    .rw[Ya h3,show okV a.Za x b.Za y v=true by simp[okV,h3],Yn]
     grind
    .rw[Yb h3,show okV a.Za x b.Za y v=false by simp[okV,h3,h1];omega,Yc4,Yb (by decide)]
   .rw[Yb h2,show okV a.Za x b.Za y v=true by simp[okV];omega,Yn]
    grind [Qa]
theorem ZNO{acc:V4}(c:acc.length<=100000):∀i,i<=vs.length->Zdh a b vs acc ((vs.take i).map (mrV a.Za x b.Za y)) x y vs.length i =
  some (.tup [],if(vs.drop i).all (okV a.Za x b.Za y)=true then[ZaJ a b (.own 3),.arr 3 1 true (vs.map ic),.dead,.arr 40 1 true ((acc++[vs.map (mrV a.Za x b.Za y)]).map isc)]else[ZaJ a b (.own 2),.arr 3 1 true (vs.map ic),.arr 40 1 true (acc.map isc)]):=by
 refine down _ ?_ ?_
 .apply Wy.1.1.1.1
  grind
 .intro i hi ih;apply Wy.1.1.1.1;rw[Ypx,wS hi (by omega),Yi hi,Y5];rw[Yp hi,Y3]at ih;have hl:((vs.take i).map (mrV a.Za x b.Za y)).length<=8:=by simp;omega
  refine⟨by omega,_,gE hi,_,xIx ha _,_,xIx hb _,?_⟩;have hv:=hh _ (Ye hi);generalize hvi:vs[i]=v at *
  by_cases h1:cix a.Za v<0
  .have hbv:has b.Za v=true:=hv.resolve_left λe=>by have:=(WE e).1;omega
   obtain⟨c1,c2,c3⟩:=WE hbv;rw[Ya h1,show okV a.Za x b.Za y v=true by simp[okV,h1],Yn];have e:mrV a.Za x b.Za y v=XV y (cix b.Za v):=by unfold mrV;rw[Ynx]
   grind [Qa]
  .have hav:has a.Za v=true:=Jj.1 (by omega);obtain⟨d1,d2,d3⟩:=WE hav;have e:mrV a.Za x b.Za y v=XV x (cix a.Za v):=by unfold mrV;rw[Ya d1]
   rw[Yb h1];by_cases h2:0<=cix b.Za v
   .obtain⟨c1,c2,c3⟩:=WE (Jj.1 h2);rw[Ya h2];refine⟨d1,_,Qa d1 (by omega),_,Qa c1 (by omega),?_⟩;by_cases h3:XV x (cix a.Za v)=XV y (cix b.Za v)
    .rw[Ya h3,show okV a.Za x b.Za y v=true by simp[okV,h3],Yn]
     grind
    .rw[Yb h3,show okV a.Za x b.Za y v=false by simp[okV,h3,h1];omega,Yc4,Yb (by decide)]
   .rw[Yb h2,show okV a.Za x b.Za y v=true by simp[okV];omega,Yn]
    grind [Qa]
end
structure J2 (a b:Zm):Prop where
 va:VS a
 vb:VS b
 prod:a.Rows.length*b.Rows.length<=4096
section
variable{a b:Zm}(J:J2 a b)
include J
theorem J2.ina:∀x∈a.Za,inR x 0 3=true:=Z0w J.va.vars
theorem J2.inb:∀x∈b.Za,inR x 0 3=true:=Z0w J.vb.vars
omit J in
theorem J2.hh:∀v∈uni a.Za b.Za,has a.Za v=true\/has b.Za v=true:=λ_ h=>Z0m h
omit J in
theorem J2.len:(uni a.Za b.Za).length<=8:=Yr (Ycn _ _) (by simp)
theorem J2.agr(x y:V6):agr a.Za x b.Za y=(uni a.Za b.Za).all (okV a.Za x b.Za y):=ZNN (ZNM (Z9S J.va.vars).1) λv hv=>(Zp4 J.ina J.inb v).2 (.inl hv)
theorem ZAa{x y:V6}(hx:x∈a.Rows)(hy:y∈b.Rows):Zb4 a b (uni a.Za b.Za) x y=some (.tup [],match prS (uni a.Za b.Za) a.Za x b.Za y with
  |some r=>[ZaJ a b (.own 2),.arr 3 1 true ((uni a.Za b.Za).map ic),.arr 40 1 true (([r]).map isc)]
  |none=>[ZaJ a b (.t .nil),.arr 3 1 true ((uni a.Za b.Za).map ic)]):=by
 have:=l_pair J.va.four J.vb.four J2.len J2.hh (J.va.row4 hx).1 (J.vb.row4 hy).1 0 (Yc _);apply ZbM.2.2.1;rw[Yc3,Ym,<-J.agr]at this;unfold prS;rcases tf (Go.Proofs.YthpdbpfamhcgiaaGreat.agr a.Za x b.Za y)with e|e
 .simp_all
 .simp_all
theorem ZAb{x y:V6}(hx:x∈a.Rows)(hy:y∈b.Rows){acc:V4}(c:acc.length<=100000):Zdg a b (uni a.Za b.Za) acc x y=some (.tup [],match prS (uni a.Za b.Za) a.Za x b.Za y with
  |some r=>[ZaJ a b (.own 3),.arr 3 1 true ((uni a.Za b.Za).map ic),.dead,.arr 40 1 true ((acc++[r]).map isc)]
  |none=>[ZaJ a b (.own 2),.arr 3 1 true ((uni a.Za b.Za).map ic),.arr 40 1 true (acc.map isc)]):=by
 have:=ZNO J.va.four J.vb.four J2.len J2.hh (J.va.row4 hx).1 (J.vb.row4 hy).1 c 0 (Yc _);apply Wy.1.1.1.2;rw[Yc3,Ym,<-J.agr]at this;unfold prS;rcases tf (Go.Proofs.YthpdbpfamhcgiaaGreat.agr a.Za x b.Za y)with e|e
 .simp_all
 .simp_all
theorem ZAc:Zfx a b=some (.ptr 0 0,[ZaJ a b (.t .nil),.arr 3 1 true ((uni a.Za b.Za).map ic)]):=by
 have h1:=J.va.four;have h2:=J.vb.four;have hl:(Xg (a.Za++b.Za)).length=(a.Za++b.Za).length:=(Zp3 _).length_eq;have hc:=ZNp J.ina J.inb
 grind [ZbM.1.2.2,Zeg,Z9Y,x_cptI]
def hTl(a b:Zm)(j:Nat):V4:=(b.Rows.drop j).flatMap λy=>a.Rows.filterMap λx=>prS (uni a.Za b.Za) a.Za x b.Za y
omit J in
theorem ZAd{j:Nat}(h:j<b.Rows.length):hTl a b j=(a.Rows.filterMap λx=>prS (uni a.Za b.Za) a.Za x b.Za b.Rows[j])++hTl a b (j+1):=by
 unfold hTl;rw[Yi h,Ybq]
omit J in
theorem ZAe{j:Nat}(h:b.Rows.length<=j):hTl a b j=[]:=by unfold hTl;rw[Ybk h];rfl
theorem hlim{j i:Nat}(hj:j<b.Rows.length)(hi:i<=a.Rows.length):a.Rows.length*j+i<=4096:=by
 have hp:=J.prod
 have:a.Rows.length*(j+1)<=a.Rows.length*b.Rows.length:=Nat.mul_le_mul_left _ hj
 grind
theorem ZAf{j:Nat}(hj:j<b.Rows.length)(ih:∀acc:V4,acc≠[]->acc.length<=a.Rows.length*(j+1)->Zjo a a b (uni a.Za b.Za) acc b.Rows b.Rows.length ((j+1:Nat):Int)=some (XF ⟨uni a.Za b.Za,acc++hTl a b (j+1)⟩)) :
  ∀i,i<=a.Rows.length->∀acc:V4,acc≠[]->acc.length<=a.Rows.length*j+i->Zdj a a b (uni a.Za b.Za) acc b.Rows[j] b.Rows b.Rows.length j a.Rows a.Rows.length i=some (XF ⟨uni a.Za b.Za,acc++(((a.Rows.drop i).filterMap λx=>prS (uni a.Za b.Za) a.Za x b.Za b.Rows[j])++hTl a b (j+1))⟩):=by
 have hl1:=J.va.len;have hl2:=J.vb.len;refine down _ ?_ ?_
 .intro acc h0 hacc;have:=hlim J hj (Yj _)
  grind [Wy.1.2.1.2,List.drop_length,wS,Nat.mul_succ]
 .intro i hi ih2 acc h0 hacc;have:=hlim J hj (i:=i) (by omega);apply Wy.1.2.1.2;rw[Ypx,wS hi (by omega)];refine⟨by omega,_,gE hi,?_⟩;have hP:=ZAb J (Ye hi) (Ye hj) (acc:=acc) (by omega);rw[Yi hi]
  cases hc:prS (uni a.Za b.Za) a.Za a.Rows[i] b.Za b.Rows[j]with
  |none =>
   grind
  |some r =>
   rw[hc]at hP;rw[Ydq (f:=λx=>prS (uni a.Za b.Za) a.Za x b.Za b.Rows[j]) hc];refine .inr ⟨_,_,_,_,hP,?_⟩;rw[ih2 (acc++[r]) (by simp) (by simp;omega)];simp
theorem l_h1a:∀j,j<=b.Rows.length->∀acc:V4,acc≠[]->acc.length<=a.Rows.length*j->Zjo a a b (uni a.Za b.Za) acc b.Rows b.Rows.length j=some (XF ⟨uni a.Za b.Za,acc++hTl a b j⟩):=by
 have hp:=J.prod;have hl1:=J.va.len;have hl2:=J.vb.len;refine down _ ?_ ?_
 .intro acc h0 hacc;apply Wy.1.2.2.1;rw[Ynx,ZAe (Yj _),Y9,ZbW h0]
  skip
  grind [Wy.1.1.2.1]
 .intro j hj ih acc h0 hacc;apply Wy.1.2.2.1;rw[Ypx];refine⟨by omega,_,gE hj,?_⟩;have:=ZAf J hj ih 0 (Yc _) acc h0 (by omega)
  simp_all [Ym,ZAd]
theorem l_h1:∀j,j<=b.Rows.length->Zjm a a b (uni a.Za b.Za) b.Rows b.Rows.length j=some (XF ⟨uni a.Za b.Za,hTl a b j⟩):=by
 have hl1:=J.va.len;have hl2:=J.vb.len;refine down _ ?_ ?_
 .simp[Wy.1.1.2.2,ZAe,Yj,ZbX,ZbM.2.2.2]
 .intro j hj ih;have inner:∀i,i<=a.Rows.length->Zjn a a b (uni a.Za b.Za) b.Rows[j] b.Rows b.Rows.length j a.Rows a.Rows.length i=some (XF ⟨uni a.Za b.Za,((a.Rows.drop i).filterMap λx=>prS (uni a.Za b.Za) a.Za x b.Za b.Rows[j])++hTl a b (j+1)⟩):=by
   refine down _ ?_ ?_
   .grind [Wy.1.2.1.1,List.drop_length,wS]
   .intro i hi ih2;apply Wy.1.2.1.1;rw[Ypx,wS hi (by omega)];refine⟨by omega,_,gE hi,?_⟩;have hP:=ZAa J (Ye hi) (Ye hj);rw[Yi hi]
    cases hc:prS (uni a.Za b.Za) a.Za a.Rows[i] b.Za b.Rows[j]with
    |none =>
     grind
    |some r =>
     rw[hc]at hP;rw[Ydq (f:=λx=>prS (uni a.Za b.Za) a.Za x b.Za b.Rows[j]) hc];refine .inr ⟨_,_,_,_,hP,?_⟩;rw[ZAf J hj (l_h1a J (j+1) hj) (i+1) (by omega) [r] (by simp) (by simp only[Yw,Ybj];omega)];simp
  apply Wy.1.1.2.2;rw[Ypx];refine⟨by omega,_,gE hj,?_⟩;have:=inner 0 (Yc _)
  simp_all [Ym,ZAd]
theorem ZNP:Zdi a b=some (XF (Zel a b)):=by
 refine Wy.1.2.2.2.1 _ _ _ ⟨_,Zem J.va,?_⟩;rw[Ya rfl];refine⟨_,Zem J.vb,?_⟩;rw[Ya rfl];refine⟨_,_,_,ZAc J,?_⟩;have:=l_h1 J 0 (Yc _);have e:hTl a b 0=Jk (uni a.Za b.Za) a b:=by unfold hTl Jk;rw[Ym]
 rw[e]at this;exact this
def nTl(a b:Zm)(j:Nat):V4:=(a.Rows.drop j).flatMap λx=>b.Rows.filterMap λy=>prS (uni a.Za b.Za) a.Za x b.Za y
omit J in
theorem ZAg{j:Nat}(h:j<a.Rows.length):nTl a b j=(b.Rows.filterMap λy=>prS (uni a.Za b.Za) a.Za a.Rows[j] b.Za y)++nTl a b (j+1):=by
 unfold nTl;rw[Yi h,Ybq]
omit J in
theorem ZAh{j:Nat}(h:a.Rows.length<=j):nTl a b j=[]:=by unfold nTl;rw[Ybk h];rfl
theorem nlim{j i:Nat}(hj:j<a.Rows.length)(hi:i<=b.Rows.length):b.Rows.length*j+i<=4096:=by
 have hp:=J.prod
 have:b.Rows.length*(j+1)<=b.Rows.length*a.Rows.length:=Nat.mul_le_mul_left _ hj
 grind
theorem ZAi{j:Nat}(hj:j<a.Rows.length)(ih:∀acc:V4,acc≠[]->acc.length<=b.Rows.length*(j+1)->Zjt b a b (uni a.Za b.Za) acc a.Rows a.Rows.length ((j+1:Nat):Int)=some (XF ⟨uni a.Za b.Za,acc++nTl a b (j+1)⟩)) :
  ∀i,i<=b.Rows.length->∀acc:V4,acc≠[]->acc.length<=b.Rows.length*j+i->Zdk b a b (uni a.Za b.Za) acc a.Rows[j] a.Rows a.Rows.length j b.Rows b.Rows.length i=some (XF ⟨uni a.Za b.Za,acc++(((b.Rows.drop i).filterMap λy=>prS (uni a.Za b.Za) a.Za a.Rows[j] b.Za y)++nTl a b (j+1))⟩):=by
 have hl1:=J.va.len;have hl2:=J.vb.len;refine down _ ?_ ?_
 .intro acc h0 hacc;have:=nlim J hj (Yj _)
  grind [Wy.2.2.1.2,List.drop_length,wS,Nat.mul_succ]
 .intro i hi ih2 acc h0 hacc;have:=nlim J hj (i:=i) (by omega);apply Wy.2.2.1.2;rw[Ypx,wS hi (by omega)];refine⟨by omega,_,gE hi,?_⟩;have hP:=ZAb J (Ye hj) (Ye hi) (acc:=acc) (by omega);rw[Yi hi]
  cases hc:prS (uni a.Za b.Za) a.Za a.Rows[j] b.Za b.Rows[i]with
  |none =>
   grind
  |some r =>
   rw[hc]at hP;rw[Ydq (f:=λy=>prS (uni a.Za b.Za) a.Za a.Rows[j] b.Za y) hc];refine .inr ⟨_,_,_,_,hP,?_⟩;rw[ih2 (acc++[r]) (by simp) (by simp;omega)];simp
theorem l_n1a:∀j,j<=a.Rows.length->∀acc:V4,acc≠[]->acc.length<=b.Rows.length*j->Zjt b a b (uni a.Za b.Za) acc a.Rows a.Rows.length j=some (XF ⟨uni a.Za b.Za,acc++nTl a b j⟩):=by
 have hp:=J.prod;have hl1:=J.va.len;have hl2:=J.vb.len;refine down _ ?_ ?_
 .intro acc h0 hacc;apply Wy.2.2.2.1;rw[Ynx,ZAh (Yj _),Y9,ZbW h0]
  grind [Nat.mul_comm,Wy.1.1.2.1]
 .intro j hj ih acc h0 hacc;apply Wy.2.2.2.1;rw[Ypx];refine⟨by omega,_,gE hj,?_⟩;have:=ZAi J hj ih 0 (Yc _) acc h0 (by omega)
  simp_all [Ym,ZAg]
theorem l_n1:∀j,j<=a.Rows.length->Zjr b a b (uni a.Za b.Za) a.Rows a.Rows.length j=some (XF ⟨uni a.Za b.Za,nTl a b j⟩):=by
 have hl1:=J.va.len;have hl2:=J.vb.len;refine down _ ?_ ?_
 .simp[Wy.2.1.2.2,ZAh,Yj,ZbX,ZbM.2.2.2]
 .intro j hj ih;have inner:∀i,i<=b.Rows.length->Zjs b a b (uni a.Za b.Za) a.Rows[j] a.Rows a.Rows.length j b.Rows b.Rows.length i=some (XF ⟨uni a.Za b.Za,((b.Rows.drop i).filterMap λy=>prS (uni a.Za b.Za) a.Za a.Rows[j] b.Za y)++nTl a b (j+1)⟩):=by
   refine down _ ?_ ?_
   .grind [Wy.2.2.1.1,List.drop_length,wS]
   .intro i hi ih2;apply Wy.2.2.1.1;rw[Ypx,wS hi (by omega)];refine⟨by omega,_,gE hi,?_⟩;have hP:=ZAa J (Ye hj) (Ye hi);rw[Yi hi]
    cases hc:prS (uni a.Za b.Za) a.Za a.Rows[j] b.Za b.Rows[i]with
    |none =>
     grind
    |some r =>
     rw[hc]at hP;rw[Ydq (f:=λy=>prS (uni a.Za b.Za) a.Za a.Rows[j] b.Za y) hc];refine .inr ⟨_,_,_,_,hP,?_⟩;rw[ZAi J hj (l_n1a J (j+1) hj) (i+1) (by omega) [r] (by simp) (by simp only[Yw,Ybj];omega)];simp
  apply Wy.2.1.2.2;rw[Ypx];refine⟨by omega,_,gE hj,?_⟩;have:=inner 0 (Yc _)
  simp_all [Ym,ZAg]
theorem ZAj:JB a b=some (XF (Us a b)):=by
 refine Wy.2.2.2.2.1 _ _ _ ⟨_,Zem J.va,?_⟩;rw[Ya rfl];refine⟨_,Zem J.vb,?_⟩;rw[Ya rfl];refine⟨_,_,_,ZAc J,?_⟩;have:=l_n1 J 0 (Yc _);have e:nTl a b 0=Vg (uni a.Za b.Za) a b:=by unfold nTl Vg;rw[Ym]
 rw[e]at this;exact this
theorem ZNQ{v:Int}(ha:has a.Za v=true)(hb:has b.Za v=true)(sa:a.Rows.Pairwise λp q=>kx (cix a.Za v).toNat p<=kx (cix a.Za v).toNat q)(sb:b.Rows.Pairwise λp q=>kx (cix b.Za v).toNat p<=kx (cix b.Za v).toNat q):Zju a b v=some (XF (Us a b)):=by
 refine Wy.2.2.2.2.2 _ _ _ _ ⟨_,Z9U J.va ha sa,?_⟩;rw[Ya rfl];refine⟨_,Z9U J.vb hb sb,?_⟩;rw[Ya rfl];have hN:=ZAj J;by_cases h:(Us a b).Rows=[]
 .have e:XF (Us a b)=(.tup [.agg [.own 0,.t .nil],Bo true],[.arr 3 1 true ((Us a b).Za.map ic)]):=by unfold XF;rw[Ya h]
  simp_all
 .have e:XF (Us a b)=(.tup [.agg [.own 0,.own 1],Bo true],[.arr 3 1 true ((Us a b).Za.map ic),.arr 40 1 true ((Us a b).Rows.map isc)]):=by unfold XF;rw[Yb h]
  simp_all
end
