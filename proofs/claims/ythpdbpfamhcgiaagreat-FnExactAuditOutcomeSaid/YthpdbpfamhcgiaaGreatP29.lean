/-
  Parts of the proofs for this seat: SD SE SF RX RT SQ SG.
-/
import Derived.Test.YthpdbpfamhcgiaaGreatP28
set_option linter.all false
set_option maxRecDepth 100000
set_option maxHeartbeats 4000000
namespace Go.Proofs.YthpdbpfamhcgiaaGreat
open Go.AM
def ZNR{a b:V6}(ha:a.length<=4)(hb:b.length<=4):∀v,v<=4->Zg0 (((List.range v).map λu:Nat=>(u:Int)).filter λv=>has a v || has b v) a b v=some (.own 0,[.arr 3 1 true ((uni a b).map ic)]):=by
 refine down 4 ?_ ?_
 .apply Wm.2.2.1.2;rw[Yb (by decide)];rfl
 .intro v hv ih;have hl:(((List.range v).map λu:Nat=>(u:Int)).filter λv=>has a v || has b v).length<=4:=by
   grind
  rw[Yb8,Y3,Yc2]at ih;apply Wm.2.2.1.2;rw[Ypx,wS hv (by omega)];refine⟨_,Zea _ _ (by omega),?_⟩;rcases tf (has a (v:Int))with e|e
  .rw[e,Yb (by decide)];refine⟨_,Zea _ _ (by omega),?_⟩
   grind
  .grind
def Z0x{a b:V6}(ha:a.length<=4)(hb:b.length<=4):ZbH a b=some (.own 0,[.arr 3 1 true ((uni a b).map ic)]):=Wm.2.2.2.1 _ _ _ (ZNR ha hb 0 (by omega))
def agP(av x bv y:V6)(i:Nat):Bool:=decide (cix bv (av.getD i 0)<0) || decide (x.getD i 0=XV y (cix bv (av.getD i 0)))
def ZNS{av x bv y:V6}(hb:bv.length<=4)(ha:av.length<=4)(hx:x.length=av.length)(hy:y.length=bv.length):∀i,i<=av.length->ZkV av x bv y i=some (Bo ((List.range' i (av.length-i)).all (agP av x bv y)),[]):=by
 refine down _ ?_ ?_
 .simp[Wm.2.2.2.2.1,Ycc]
 .intro i hi ih;apply Wm.2.2.2.2.1;rw[Ypx,wS hi (by omega),show av.length-i=(av.length-(i+1))+1 by omega,Ybs,Y5];refine⟨by omega,_,gE hi,_,xFd hb _,?_⟩;have e0:av.getD i 0=av[i]:=by rw[Yb1,Yf hi];rfl
  by_cases h:0<=cix bv av[i]
  .obtain⟨c1,c2,c3⟩:=WE (Jj.1 h);rw[Ya h];refine⟨_,gE (by omega),_,Qa c1 (by omega),?_⟩;have e1:x.getD i 0=x[i]:=by rw[Yb1,Yf (show i<x.length by omega)];rfl
   by_cases h2:x[i]=XV y (cix bv av[i])
   .rw[Ya h2,ih,show agP av x bv y i=true by unfold agP;rw[e0,e1];simp[h2],Yn]
   .rw[Yb h2,show agP av x bv y i=false by unfold agP;rw[e0,e1];simp[h2];omega,Yc4]
  .rw[Yb h,ih,show agP av x bv y i=true by unfold agP;rw[e0];simp;omega,Yn]
def ZNT{av x bv y:V6}(hb:bv.length<=4)(ha:av.length<=4)(hx:x.length=av.length)(hy:y.length=bv.length):VG av x bv y=some (Bo (agr av x bv y),[]):=by
 apply Wm.2.2.2.2.2;have:=ZNS hb ha hx hy 0 (Yc _);rw[Ycl,<-Ydp]at this;exact this
def ZNU{vs av x bv y:V6}(c:vs.length<=8)(ha:av.length<=4)(hb:bv.length<=4)(hh:∀v∈vs,has av v=true\/has bv v=true)(hx:x.length=av.length)(hy:y.length=bv.length):∀i,i<=vs.length->Zg1 ((vs.take i).map (mrV av x bv y)) vs av x bv y i=some (.own 0,[.arr 3 1 true ((vs.map (mrV av x bv y)).map ic)]):=by
 refine down _ ?_ ?_
 .simp[ZzQ.1,Y2]
 .intro i hi ih;apply ZzQ.1;rw[Yp hi,Y3]at ih;have hl:((vs.take i).map (mrV av x bv y)).length<=8:=by simp;omega
  rw[Ypx,wS hi (by omega)];refine⟨by omega,_,gE hi,_,xFd ha _,?_⟩;have hv:=hh _ (Ye hi);generalize vs[i]=v at *
  by_cases h:0<=cix av v
  .obtain⟨c1,c2,c3⟩:=WE (Jj.1 h);have e:mrV av x bv y v=XV x (cix av v):=by unfold mrV;rw[Ya h]
   grind [Qa]
  .have hbv:has bv v=true:=hv.resolve_left λe=>h (Jj.2 e)
   obtain⟨c1,c2,c3⟩:=WE hbv;have e:mrV av x bv y v=XV y (cix bv v):=by unfold mrV;rw[Yb h]
   grind [xFd,Qa]
def ZNV{vs av x bv y:V6}(c:vs.length<=8)(ha:av.length<=4)(hb:bv.length<=4)(hh:∀v∈vs,has av v=true\/has bv v=true)(hx:x.length=av.length)(hy:y.length=bv.length):UW vs av x bv y=some (.own 0,[.arr 3 1 true ((vs.map (mrV av x bv y)).map ic)]) :=
 ZzQ.2 _ _ _ _ _ _ (by simpa using ZNU c ha hb hh hx hy 0 (Yc _))
def pj(a b:Zm)(flip:Bool)(only:Int)(c i k:Nat):Option (V6) :=
 if flip=true then prS (uni a.Za b.Za) a.Za (a.Rows.getD k []) b.Za (b.Rows.getD i [])
 else if only<0\/kx c (a.Rows.getD i [])=only then prS (uni a.Za b.Za) a.Za (a.Rows.getD i []) b.Za (b.Rows.getD k [])else none
def oN(a b:Zm)(flip:Bool):Nat:=if flip=true then b.Rows.length else a.Rows.length
def iN(a b:Zm)(flip:Bool):Nat:=if flip=true then a.Rows.length else b.Rows.length
structure Md (a b:Zm) (flip:Bool) (only x1:Int) (c:Nat):Prop where
 m1:flip=true->only<0
 m2:0<=only->x1=(c:Int)/\∀r∈a.Rows,c<r.length
def mn{n i:Nat}(hn:n<=4096)(h:i<n):(if w ((n:Int)-1)<(i:Int)then w ((n:Int)-1)else(i:Int))=(i:Int):=by
 grind [wA]
def mx{n i:Nat}(hn:n<=4096)(h:0<n):∃j:Nat,j<n/\(if w ((n:Int)-1)<(i:Int)then w ((n:Int)-1)else(i:Int))=(j:Int):=by
 rw[wA (by omega) (by omega)];by_cases e:(n:Int)-1<(i:Int)
 .rw[Ya e];exact⟨n-1,by omega,by omega⟩
 .grind
def gDr{rows:V4}{i:Nat}(h:i<rows.length):rows.getD i []=rows[i]:=by rw[Yb1,Yf h];rfl
section
variable{a b:Zm}(J:J2 a b){flip:Bool}{only x1:Int}{c:Nat}(M:Md a b flip only x1 c)
include J M
omit M in
theorem x_ag{x y:V6}(hx:x∈a.Rows)(hy:y∈b.Rows):VG a.Za x b.Za y=some (Bo (agr a.Za x b.Za y),[]):=ZNT J.vb.four J.va.four (J.va.row4 hx).1 (J.vb.row4 hy).1
omit M in
theorem x_mg{x y:V6}(hx:x∈a.Rows)(hy:y∈b.Rows):UW (uni a.Za b.Za) a.Za x b.Za y=some (.own 0,[.arr 3 1 true (((uni a.Za b.Za).map (mrV a.Za x b.Za y)).map ic)]):=ZNV J2.len J.va.four J.vb.four J2.hh (J.va.row4 hx).1 (J.vb.row4 hy).1
theorem ZpF{i k:Nat}(hi:i<oN a b flip)(hk:k<iN a b flip){N:Prop}{A:V6->Prop}(h:match pj a b flip only c i k with|none=>N|some r=>A r) :
  (0<=(if w ((a.Rows.length:Int)-1)<(i:Int)then w ((a.Rows.length:Int)-1)else(i:Int))/\∃e1,a.Rows[(if w ((a.Rows.length:Int)-1)<(i:Int)then w ((a.Rows.length:Int)-1)else(i:Int)).toNat]?=some e1/\
   0<=(if w ((b.Rows.length:Int)-1)<(k:Int)then w ((b.Rows.length:Int)-1)else(k:Int))/\∃e2,b.Rows[(if w ((b.Rows.length:Int)-1)<(k:Int)then w ((b.Rows.length:Int)-1)else(k:Int)).toNat]?=some e2/\
   (if flip=true then 0<=(k:Int)/\∃e3,a.Rows[(k:Int).toNat]?=some e3/\0<=(i:Int)/\∃e4,b.Rows[(i:Int).toNat]?=some e4/\
     (if only<0 then ∃v,VG a.Za e3 b.Za e4=some (Bo v,[])/\(if v=true then ∃u,UW (uni a.Za b.Za) a.Za e3 b.Za e4=some (.own 0,[.arr 3 1 true (u.map ic)])/\A u else N)
     else 0<=x1/\∃e7,e3[x1.toNat]?=some e7/\(if e7=only then ∃v,VG a.Za e3 b.Za e4=some (Bo v,[])/\(if v=true then ∃u,UW (uni a.Za b.Za) a.Za e3 b.Za e4=some (.own 0,[.arr 3 1 true (u.map ic)])/\A u else N)else N))
    else(if only<0 then ∃v,VG a.Za e1 b.Za e2=some (Bo v,[])/\(if v=true then ∃u,UW (uni a.Za b.Za) a.Za e1 b.Za e2=some (.own 0,[.arr 3 1 true (u.map ic)])/\A u else N)
     else 0<=x1/\∃e7,e1[x1.toNat]?=some e7/\(if e7=only then ∃v,VG a.Za e1 b.Za e2=some (Bo v,[])/\(if v=true then ∃u,UW (uni a.Za b.Za) a.Za e1 b.Za e2=some (.own 0,[.arr 3 1 true (u.map ic)])/\A u else N)else N)))):=by
 have hla:=J.va.len;have hlb:=J.vb.len;have core:∀{x y:V6},x∈a.Rows->y∈b.Rows->(match prS (uni a.Za b.Za) a.Za x b.Za y with|none=>N|some r=>A r)->
   ∃v,VG a.Za x b.Za y=some (Bo v,[])/\(if v=true then ∃u,UW (uni a.Za b.Za) a.Za x b.Za y=some (.own 0,[.arr 3 1 true (u.map ic)])/\A u else N):=by
  intro x y hx hy hm;refine⟨_,x_ag J hx hy,?_⟩;unfold prS at hm
  grind [x_mg]
 rcases tf flip with e|e
 .subst e;simp only[oN,iN,Yby,if_false]at hi hk;simp only[pj,Yby,if_false]at h;rw[gDr hi,gDr hk]at h;rw[mn hla hi,mn hlb hk];refine⟨by omega,_,gE hi,by omega,_,gE hk,?_⟩;rw[Yb (by decide)];by_cases ho:only<0
  .simp_all
  .obtain⟨hx1,hc⟩:=M.m2 (by omega);have hci:=hc _ (Ye hi);have e1:a.Rows[i][c]=kx c a.Rows[i]:=(getElem!_pos a.Rows[i] c hci).symm;rw[Yb ho,hx1];refine⟨by omega,_,gE hci,?_⟩
   grind
 .subst e;have ho:=M.m1 rfl;simp only[oN,iN,if_true]at hi hk;simp only[pj,if_true]at h;rw[gDr hi,gDr hk]at h;obtain⟨p,hp,ep⟩:=mx (i:=i) hla (show 0<a.Rows.length by omega);obtain⟨r,hr,er⟩:=mx (i:=k) hlb (show 0<b.Rows.length by omega)
  simp_all
def pjT(a b:Zm)(flip:Bool)(only:Int)(c i k:Nat):V4:=(List.range' k (iN a b flip-k)).filterMap (pj a b flip only c i)
def pjO(a b:Zm)(flip:Bool)(only:Int)(c i:Nat):V4:=(List.range' i (oN a b flip-i)).flatMap λi=>pjT a b flip only c i 0
omit J M in
theorem ZpG{i k:Nat}(h:iN a b flip<=k):pjT a b flip only c i k=[]:=by unfold pjT;rw[show iN a b flip-k=0 by omega];rfl
omit J M in
theorem ZpH{i k:Nat}(h:k<iN a b flip):pjT a b flip only c i k=(match pj a b flip only c i k with|none=>[]|some r=>[r])++pjT a b flip only c i (k+1):=by
 unfold pjT;rw[show iN a b flip-k=(iN a b flip-(k+1))+1 by omega,Ybs]
 grind
omit J M in
theorem ZpI{i:Nat}(h:oN a b flip<=i):pjO a b flip only c i=[]:=by unfold pjO;rw[show oN a b flip-i=0 by omega];rfl
omit J M in
theorem ZpJ{i:Nat}(h:i<oN a b flip):pjO a b flip only c i=pjT a b flip only c i 0++pjO a b flip only c (i+1):=by
 unfold pjO;rw[show oN a b flip-i=(oN a b flip-(i+1))+1 by omega,Ybs,Ybq]
omit M in
theorem Zhs:oN a b flip<=4096/\iN a b flip<=4096:=by
 have:=J.va.len;have:=J.vb.len;unfold oN iN
 grind
def jN(vs:V6)(rows:V4):V3:=(.agg [.own 0,.own 1],[.arr 3 1 true (vs.map ic),.arr 40 1 true (rows.map isc)])
def jN1(vs:V6)(rows:V4):V3:=(.agg [.own 0,.own 2],[.arr 3 1 true (vs.map ic),.dead,.arr 40 1 true (rows.map isc)])
def jR(vs:V6)(rows:V4):V3:=if rows=[]then(.agg [.own 0,.t .nil],[.arr 3 1 true (vs.map ic)])else jN vs rows
def jR1(vs:V6)(acc rows:V4):V3:=if rows=[]then jN vs acc else jN1 vs (acc++rows)
theorem ZAk{i:Nat}(hi:i<oN a b flip)(ih:∀acc:V4,acc≠[]->(acc++pjO a b flip only c (i+1)).length<=4096->ZkW a b (uni a.Za b.Za) acc flip only x1 (oN a b flip) (iN a b flip) ((i+1:Nat):Int)=some (jN (uni a.Za b.Za) (acc++pjO a b flip only c (i+1)))) :
  ∀k,k<=iN a b flip->∀acc:V4,acc≠[]->(acc++(pjT a b flip only c i k++pjO a b flip only c (i+1))).length<=4096->Kn a b (uni a.Za b.Za) acc flip only x1 (oN a b flip) (iN a b flip) i k=some (jN (uni a.Za b.Za) (acc++(pjT a b flip only c i k++pjO a b flip only c (i+1)))):=by
 obtain⟨ho,hn⟩:=Zhs J (flip:=flip);refine down _ ?_ ?_
 .intro acc h0 hl;apply Vw.1.2.1;rw[ZpG (Yj _),Ybi]at hl|-;rw[Ynx,wS hi (by omega)];exact ih acc h0 hl
 .intro k hk ih2 acc h0 hl;apply Vw.1.2.1;have hal:acc.length<=4096:=by rw[Yq]at hl;omega
  rw[ZpH hk]at hl|-;rw[Ypx,Ypx,wS hk (by omega)]
  have h:=ZpF J M hi hk (N:=Kn a b (uni a.Za b.Za) acc flip only x1 (oN a b flip) (iN a b flip) i ((k+1:Nat):Int)=some (jN (uni a.Za b.Za) (acc++((match pj a b flip only c i k with|none=>[]|some r=>[r])++pjT a b flip only c i (k+1)++pjO a b flip only c (i+1))))) (A:=λr=>acc.length+1<=68719476736/\Kn a b (uni a.Za b.Za) (acc++[r]) flip only x1 (oN a b flip) (iN a b flip) i ((k+1:Nat):Int)=some (jN (uni a.Za b.Za) (acc++((match pj a b flip only c i k with|none=>[]|some r=>[r])++pjT a b flip only c i (k+1)++pjO a b flip only c (i+1))))) (by
   cases hc:pj a b flip only c i k with
   |none =>
    rw[hc]at hl
    exact ih2 acc h0 hl
   |some r =>
    rw[hc]at hl;refine⟨by omega,?_⟩;have:=ih2 (acc++[r]) (by simp) (by simpa using hl);rw[this]
    simp)
  rcases tf flip with e|e<;>subst e<;>simp only[Yby,if_false,if_true,eq_self_iff_true]at h|-<;>exact h
theorem l_j1a:∀i,i<=oN a b flip->∀acc:V4,acc≠[]->(acc++pjO a b flip only c i).length<=4096->ZkW a b (uni a.Za b.Za) acc flip only x1 (oN a b flip) (iN a b flip) i=some (jN (uni a.Za b.Za) (acc++pjO a b flip only c i)):=by
 obtain⟨ho,hn⟩:=Zhs J (flip:=flip);refine down _ ?_ ?_
 .intro acc h0 hl;apply Vw.1.2.2.1;rw[Ynx,ZpI (Yj _),Y9];rfl
 .intro i hi ih acc h0 hl;apply Vw.1.2.2.1;rw[ZpJ hi]at hl|-;rw[Ypx];exact ZAk J M hi ih 0 (Yc _) acc h0 hl
theorem ZAl{i:Nat}(hi:i<oN a b flip)(ih:∀acc:V4,acc≠[]->(acc++pjO a b flip only c (i+1)).length<=4096->ZkY a b (uni a.Za b.Za) acc flip only x1 (oN a b flip) (iN a b flip) ((i+1:Nat):Int)=some (jN1 (uni a.Za b.Za) (acc++pjO a b flip only c (i+1)))) :
  ∀k,k<=iN a b flip->∀acc:V4,acc≠[]->(acc++(pjT a b flip only c i k++pjO a b flip only c (i+1))).length<=4096->Ko a b (uni a.Za b.Za) acc flip only x1 (oN a b flip) (iN a b flip) i k=some (jN1 (uni a.Za b.Za) (acc++(pjT a b flip only c i k++pjO a b flip only c (i+1)))):=by
 obtain⟨ho,hn⟩:=Zhs J (flip:=flip);refine down _ ?_ ?_
 .intro acc h0 hl;apply XI.1.1.2.2;rw[ZpG (Yj _),Ybi]at hl|-;rw[Ynx,wS hi (by omega)];exact ih acc h0 hl
 .intro k hk ih2 acc h0 hl;apply XI.1.1.2.2;have hal:acc.length<=4096:=by rw[Yq]at hl;omega
  rw[ZpH hk]at hl|-;rw[Ypx,Ypx,wS hk (by omega)]
  have h:=ZpF J M hi hk (N:=Ko a b (uni a.Za b.Za) acc flip only x1 (oN a b flip) (iN a b flip) i ((k+1:Nat):Int)=some (jN1 (uni a.Za b.Za) (acc++((match pj a b flip only c i k with|none=>[]|some r=>[r])++pjT a b flip only c i (k+1)++pjO a b flip only c (i+1))))) (A:=λr=>acc.length+1<=68719476736/\Ko a b (uni a.Za b.Za) (acc++[r]) flip only x1 (oN a b flip) (iN a b flip) i ((k+1:Nat):Int)=some (jN1 (uni a.Za b.Za) (acc++((match pj a b flip only c i k with|none=>[]|some r=>[r])++pjT a b flip only c i (k+1)++pjO a b flip only c (i+1))))) (by
   cases hc:pj a b flip only c i k with
   |none =>
    rw[hc]at hl
    exact ih2 acc h0 hl
   |some r =>
    rw[hc]at hl;refine⟨by omega,?_⟩;have:=ih2 (acc++[r]) (by simp) (by simpa using hl);rw[this]
    simp)
  rcases tf flip with e|e<;>subst e<;>simp only[Yby,if_false,if_true,eq_self_iff_true]at h|-<;>exact h
theorem l_k1a:∀i,i<=oN a b flip->∀acc:V4,acc≠[]->(acc++pjO a b flip only c i).length<=4096->ZkY a b (uni a.Za b.Za) acc flip only x1 (oN a b flip) (iN a b flip) i=some (jN1 (uni a.Za b.Za) (acc++pjO a b flip only c i)):=by
 obtain⟨ho,hn⟩:=Zhs J (flip:=flip);refine down _ ?_ ?_
 .intro acc h0 hl;apply XI.1.2.1;rw[Ynx,ZpI (Yj _),Y9];rfl
 .intro i hi ih acc h0 hl;apply XI.1.2.1;rw[ZpJ hi]at hl|-;rw[Ypx];exact ZAl J M hi ih 0 (Yc _) acc h0 hl
theorem l_j1:∀i,i<=oN a b flip->(pjO a b flip only c i).length<=4096->Zg2 a b (uni a.Za b.Za) flip only x1 (oN a b flip) (iN a b flip) i=some (jR (uni a.Za b.Za) (pjO a b flip only c i)):=by
 obtain⟨ho,hn⟩:=Zhs J (flip:=flip);refine down _ ?_ ?_
 .intro hl;apply Vw.1.1.1;rw[Ynx,ZpI (Yj _)];rfl
 .intro i hi ih hl;have inner:∀k,k<=iN a b flip->((pjT a b flip only c i k++pjO a b flip only c (i+1))).length<=4096->ZdK a b (uni a.Za b.Za) flip only x1 (oN a b flip) (iN a b flip) i k=some (jR (uni a.Za b.Za) (pjT a b flip only c i k++pjO a b flip only c (i+1))):=by
   refine down _ ?_ ?_
   .intro hl;apply Vw.1.1.2;rw[ZpG (Yj _),Ybi]at hl|-
    grind [wS]
   .intro k hk ih2 hl;apply Vw.1.1.2
    skip
    rw[ZpH hk]at hl|-;rw[Ypx,wS hk (by omega)]
    have h:=ZpF J M hi hk (N:=ZdK a b (uni a.Za b.Za) flip only x1 (oN a b flip) (iN a b flip) i ((k+1:Nat):Int)=some (jR (uni a.Za b.Za) ((match pj a b flip only c i k with|none=>[]|some r=>[r])++pjT a b flip only c i (k+1)++pjO a b flip only c (i+1)))) (A:=λr=>Kn a b (uni a.Za b.Za) ([r]) flip only x1 (oN a b flip) (iN a b flip) i ((k+1:Nat):Int)=some (jR (uni a.Za b.Za) ((match pj a b flip only c i k with|none=>[]|some r=>[r])++pjT a b flip only c i (k+1)++pjO a b flip only c (i+1)))) (by
     cases hc:pj a b flip only c i k with
     |none =>
      simp_all
     |some r =>
      rw[hc]at hl;dsimp only;have:=ZAk J M hi (l_j1a J M (i+1) hi) (k+1) hk ([r]) (by simp) (by simpa using hl);rw[this]
      simp[jR,jN])
    rcases tf flip with e|e<;>subst e<;>simp only[Yby,if_false,if_true,eq_self_iff_true]at h|-<;>exact h
  apply Vw.1.1.1;rw[ZpJ hi]at hl|-
  grind
theorem l_k1{acc:V4}(h0:acc≠[]):∀i,i<=oN a b flip->(acc++pjO a b flip only c i).length<=4096->Zg5 a b (uni a.Za b.Za) acc flip only x1 (oN a b flip) (iN a b flip) i=some (jR1 (uni a.Za b.Za) acc (pjO a b flip only c i)):=by
 obtain⟨ho,hn⟩:=Zhs J (flip:=flip);refine down _ ?_ ?_
 .intro hl;apply XI.1.1.1;rw[Ynx,ZpI (Yj _)];rfl
 .intro i hi ih hl;have inner:∀k,k<=iN a b flip->(acc++(pjT a b flip only c i k++pjO a b flip only c (i+1))).length<=4096->ZdN a b (uni a.Za b.Za) acc flip only x1 (oN a b flip) (iN a b flip) i k=some (jR1 (uni a.Za b.Za) acc (pjT a b flip only c i k++pjO a b flip only c (i+1))):=by
   refine down _ ?_ ?_
   .intro hl;apply XI.1.1.2.1;rw[ZpG (Yj _),Ybi]at hl|-
    grind [wS]
   .intro k hk ih2 hl;apply XI.1.1.2.1;have hal:acc.length<=4096:=by rw[Yq]at hl;omega
    rw[ZpH hk]at hl|-;rw[Ypx,Ypx,wS hk (by omega)]
    have h:=ZpF J M hi hk (N:=ZdN a b (uni a.Za b.Za) acc flip only x1 (oN a b flip) (iN a b flip) i ((k+1:Nat):Int)=some (jR1 (uni a.Za b.Za) acc ((match pj a b flip only c i k with|none=>[]|some r=>[r])++pjT a b flip only c i (k+1)++pjO a b flip only c (i+1)))) (A:=λr=>acc.length+1<=68719476736/\Ko a b (uni a.Za b.Za) (acc++[r]) flip only x1 (oN a b flip) (iN a b flip) i ((k+1:Nat):Int)=some (jR1 (uni a.Za b.Za) acc ((match pj a b flip only c i k with|none=>[]|some r=>[r])++pjT a b flip only c i (k+1)++pjO a b flip only c (i+1)))) (by
     cases hc:pj a b flip only c i k with
     |none =>
      simp_all
     |some r =>
      rw[hc]at hl;refine⟨by omega,?_⟩;have:=ZAl J M hi (l_k1a J M (i+1) hi) (k+1) hk (acc++[r]) (by simp) (by simpa using hl);rw[this]
      simp[jR1,jN1])
    rcases tf flip with e|e<;>subst e<;>simp only[Yby,if_false,if_true,eq_self_iff_true]at h|-<;>exact h
  apply XI.1.1.1;rw[ZpJ hi]at hl|-
  grind
end
def ZAm{α:Type}(l:List α)(d:α):(List.range' 0 l.length).map (λi=>l.getD i d)=l:=by
 refine Ybz (by simp) λi h1 h2=>?_
 simp_all
def Z0y{α β:Type}(l:List α)(d:α)(f:α->List β):(List.range' 0 l.length).flatMap (λi=>f (l.getD i d))=l.flatMap f:=by
 conv=>rhs;rw[<-ZAm l d]
 rw[List.flatMap_map]
def Z0z{α β:Type}(l:List α)(d:α)(f:α->Option β):(List.range' 0 l.length).filterMap (λi=>f (l.getD i d))=l.filterMap f:=by
 conv=>rhs;rw[<-ZAm l d]
 rw[List.filterMap_map];rfl
def ZAn(a b:Zm)(only:Int)(c:Nat):pjO a b true only c 0=Jk (uni a.Za b.Za) a b:=by
 unfold pjO pjT Jk oN iN pj;simp only[if_true,Ycl];rw[<-Z0y b.Rows [] λy=>a.Rows.filterMap λx=>prS (uni a.Za b.Za) a.Za x b.Za y];congr 1;funext i;rw[Z0z a.Rows [] λx=>prS (uni a.Za b.Za) a.Za x b.Za (b.Rows.getD i [])]
def ZAo(a b:Zm)(c:Nat):pjO a b false (-1) c 0=Vg (uni a.Za b.Za) a b:=by
 unfold pjO pjT Vg oN iN pj;simp only[Yby,if_false,Ycl,show((-1:Int)<0)=True by simp,true_or,if_true];rw[<-Z0y a.Rows [] λx=>b.Rows.filterMap λy=>prS (uni a.Za b.Za) a.Za x b.Za y];congr 1;funext i;rw[Z0z b.Rows [] λy=>prS (uni a.Za b.Za) a.Za (a.Rows.getD i []) b.Za y]
def ZAp{α β:Type}(p:α->Bool)(f:α->List β):∀l:List α,(l.filter p).flatMap f=l.flatMap λx=>if p x=true then f x else[]
 |[]=>rfl
 |x::l=>by
  have ih:=ZAp p f l
  grind
def ZpK(a b:Zm)(u c:Nat):pjO a b false (u:Int) c 0=Vg (uni a.Za b.Za) ⟨a.Za,a.Rows.filter λr=>decide (kx c r=(u:Int))⟩ b:=by
 unfold pjO pjT Vg oN iN pj;simp only[Yby,if_false,Ycl,show((u:Int)<0)=False by simp,false_or];rw[ZAp,<-Z0y a.Rows [] λx=>if decide (kx c x=(u:Int))=true then b.Rows.filterMap λy=>prS (uni a.Za b.Za) a.Za x b.Za y else[]];congr 1;funext i;by_cases e:kx c (a.Rows.getD i [])=(u:Int)
 .simp only[e,if_true,decide_true];rw[Z0z b.Rows [] λy=>prS (uni a.Za b.Za) a.Za (a.Rows.getD i []) b.Za y]
 .simp_all
section
variable{a b:Zm}(J:J2 a b)
include J
theorem Z00:(Vg (uni a.Za b.Za) a b).length<=4096:=by
 have:=Z9D (uni a.Za b.Za) a b;have:=J.prod
 grind
theorem ZAq:(Jk (uni a.Za b.Za) a b).length<=4096:=by
 have:=Z9E (uni a.Za b.Za) a b;have:=J.prod;omega
omit J in
theorem Z01{vs:V6}{rows:V4}(hn:rows≠[])(hl:rows.length<=4096):JH vs rows=some (.tup [.agg [.own 0,.own 1],Bo true],[.arr 3 1 true (vs.map ic),.arr 40 1 true (rows.map isc)]):=by
 grind [Vw.2.1.2.1]
theorem ZNW:ZdL a b=some (XF (Zel a b)):=by
 refine Vw.2.1.2.2 _ _ _ ⟨_,Zen J.va,?_⟩;rw[Ya rfl];refine⟨_,Zen J.vb,?_⟩;rw[Ya rfl];refine⟨_,Z0x J.va.four J.vb.four,?_⟩;have hj:JG (uni a.Za b.Za) a b true 0 (-1)=some (jR (uni a.Za b.Za) (Jk (uni a.Za b.Za) a b)):=by
  refine Vw.1.2.2.2 _ _ _ _ _ _ _ ⟨_,xFd J.va.four 0,?_⟩;rw[Ya rfl];have:=l_j1 J (flip:=true) (only:=-1) (x1:=cix a.Za 0) (c:=0) ⟨λ_=>by decide,λh=>absurd h (by decide)⟩ 0 (Yc _) (by rw[ZAn];exact ZAq J);rw[ZAn]at this;exact this
 show(_\/_);unfold Zel;by_cases e:Jk (uni a.Za b.Za) a b=[]
 .rw[e]at hj|-;exact .inl ⟨_,hj,_,Vw.2.1.1 _ _ rfl,by rw[ZbX]⟩
 .unfold jR at hj;rw[Yb e]at hj;exact .inr ⟨_,_,hj,.inr ⟨_,_,Z01 e (ZAq J),by rw[ZbW e]⟩⟩
theorem ZNX:ZdM a b=some (XF (Us a b)):=by
 refine Vw.2.2.1 _ _ _ ⟨_,Zen J.va,?_⟩;rw[Ya rfl];refine⟨_,Zen J.vb,?_⟩;rw[Ya rfl];refine⟨_,Z0x J.va.four J.vb.four,?_⟩;have hj:JG (uni a.Za b.Za) a b false 0 (-1)=some (jR (uni a.Za b.Za) (Vg (uni a.Za b.Za) a b)):=by
  refine Vw.1.2.2.2 _ _ _ _ _ _ _ ⟨_,xFd J.va.four 0,?_⟩;rw[Yb (by decide)];have:=l_j1 J (flip:=false) (only:=-1) (x1:=cix a.Za 0) (c:=0) ⟨λh=>absurd h (by decide),λh=>absurd h (by decide)⟩ 0 (Yc _) (by rw[ZAo];exact Z00 J);rw[ZAo]at this;exact this
 show(_\/_);unfold Us;by_cases e:Vg (uni a.Za b.Za) a b=[]
 .rw[e]at hj|-;exact .inl ⟨_,hj,_,Vw.2.1.1 _ _ rfl,by rw[ZbX]⟩
 .unfold jR at hj;rw[Yb e]at hj;exact .inr ⟨_,_,hj,.inr ⟨_,_,Z01 e (Z00 J),by rw[ZbW e]⟩⟩
omit J in
def mgT(a b:Zm)(c u:Nat):V4:=(List.range' u (10-u)).flatMap λi:Nat=>Vg (uni a.Za b.Za) ⟨a.Za,a.Rows.filter λr=>decide (kx c r=(i:Int))⟩ b
omit J in
theorem ZAr{c u:Nat}(h:u<10):mgT a b c u=Vg (uni a.Za b.Za) ⟨a.Za,a.Rows.filter λr=>decide (kx c r=(u:Int))⟩ b++mgT a b c (u+1):=by
 unfold mgT;rw[show 10-u=(10-(u+1))+1 by omega,Ybs,Ybq]
variable{v:Int}(ha:has a.Za v=true)
include ha
theorem ZAs(u:Nat):Md a b false (u:Int) (cix a.Za v) (cix a.Za v).toNat:=by
 obtain⟨c1,c2,c3⟩:=WE ha;exact⟨λh=>absurd h (by decide),λ_=>⟨by omega,λr hr=>by have:=(J.va.row4 hr).1;omega⟩⟩
theorem l_mg0a:∀u:Nat,u<=10->∀acc:V4,acc≠[]->(acc++mgT a b (cix a.Za v).toNat u).length<=4096->Zg6 a b (uni a.Za b.Za) acc v u=some (XF ⟨uni a.Za b.Za,acc++mgT a b (cix a.Za v).toNat u⟩):=by
 refine down 10 ?_ ?_
 .intro acc h0 hl;rw[show mgT a b (cix a.Za v).toNat 10=[]from rfl,Y9]at hl|-
  grind [XI.2.1.1,ZbW,Z01]
 .intro u hu ih acc h0 hl;rw[ZAr hu]at hl|-;have hj:ZoI (uni a.Za b.Za) acc a b false v (u:Int)=some (jR1 (uni a.Za b.Za) acc (Vg (uni a.Za b.Za) ⟨a.Za,a.Rows.filter λr=>decide (kx (cix a.Za v).toNat r=(u:Int))⟩ b)):=by
   refine XI.1.2.2.1 _ _ _ _ _ _ _ _ ⟨_,xFd J.va.four v,?_⟩;rw[Yb (by decide)];have:=l_k1 J (ZAs J ha u) h0 0 (Yc _) (by rw[ZpK];simp only[Yq]at hl|-;omega);rw[ZpK]at this;exact this
  apply XI.2.1.1;rw[Ypx,wA (by omega) (by omega)];generalize Vg (uni a.Za b.Za) ⟨a.Za,a.Rows.filter λr=>decide (kx (cix a.Za v).toNat r=(u:Int))⟩ b=rows at *
  by_cases e:rows=[]
  .subst e;rw[Ybi]at hl|-;exact .inl ⟨_,_,hj,by exact_mod_cast ih acc h0 hl⟩
  .unfold jR1 at hj;rw[Yb e]at hj;refine .inr ⟨_,_,hj,?_⟩;have:=ih (acc++rows) (by simp[h0]) (by rw[Y6];exact hl)
   simp_all
theorem l_mg0:∀u:Nat,u<=10->(mgT a b (cix a.Za v).toNat u).length<=4096->ZkZ a b (uni a.Za b.Za) v u=some (XF ⟨uni a.Za b.Za,mgT a b (cix a.Za v).toNat u⟩):=by
 refine down 10 ?_ ?_
 .intro hl;apply XI.1.2.2.2;rw[Yb (by decide),show mgT a b (cix a.Za v).toNat 10=[]from rfl,ZbX];simp[Vw.2.1.1]
 .intro u hu ih hl;rw[ZAr hu]at hl|-;have hj:JG (uni a.Za b.Za) a b false v (u:Int)=some (jR (uni a.Za b.Za) (Vg (uni a.Za b.Za) ⟨a.Za,a.Rows.filter λr=>decide (kx (cix a.Za v).toNat r=(u:Int))⟩ b)):=by
   refine Vw.1.2.2.2 _ _ _ _ _ _ _ ⟨_,xFd J.va.four v,?_⟩;rw[Yb (by decide)];have:=l_j1 J (ZAs J ha u) 0 (Yc _) (by rw[ZpK];simp only[Yq]at hl|-;omega);rw[ZpK]at this;exact this
  apply XI.1.2.2.2;rw[Ypx,wA (by omega) (by omega)];generalize Vg (uni a.Za b.Za) ⟨a.Za,a.Rows.filter λr=>decide (kx (cix a.Za v).toNat r=(u:Int))⟩ b=rows at *
  by_cases e:rows=[]
  .subst e;rw[Ybi]at hl|-;exact .inl ⟨_,hj,by exact_mod_cast ih hl⟩
  .unfold jR at hj;rw[Yb e]at hj;refine .inr ⟨_,_,hj,?_⟩
   exact_mod_cast l_mg0a J ha (u+1) (by omega) rows e hl
theorem ZNY(hb:has b.Za v=true)(sa:a.Rows.Pairwise λp q=>kx (cix a.Za v).toNat p<=kx (cix a.Za v).toNat q)(sb:b.Rows.Pairwise λp q=>kx (cix b.Za v).toNat p<=kx (cix b.Za v).toNat q):ZoJ a b v=some (XF (Us a b)):=by
 refine XI.2.1.2.1 _ _ _ _ ⟨_,Z9V J.va ha sa,?_⟩;rw[Ya rfl];refine⟨_,Z9V J.vb hb sb,?_⟩;rw[Ya rfl];refine⟨_,Z0x J.va.four J.vb.four,?_⟩;have e:mgT a b (cix a.Za v).toNat 0=Vg (uni a.Za b.Za) a b:=by
  unfold mgT;rw[Ycl,<-Ydp];exact ZNy sa λr hr=>(J.va.ok ha r hr).2
 have:=l_mg0 J ha 0 (by omega) (by rw[e];exact Z00 J);rw[e]at this;exact this
end
def J2.of{q:Zf}(hq:Z9 q.Zk q.Zb=true){u z:Zo}{a b:Zm}(A:GS q u a)(B:GS q z b)(hu:0<=u.Mask/\u.Mask<16)(hz:0<=z.Mask/\z.Mask<16)(h0:andI u.Mask z.Mask=0):J2 a b:=by
 refine⟨A.vs hq,B.vs hq,?_⟩;have h1:=Ycb A.len B.len;rw[<-Nat.pow_add,<-Z0g hu hz h0]at h1
 grind [Nat.le_trans,Zp5]
def ZaK{out:List Zm}{s:Int}(h:s.toNat<out.length):out[s.toNat]?=some (out.getD s.toNat ⟨[],[]⟩):=by rw[Yb1,Yf h];rfl
section
variable{d:Zp}(hd:LeD d){q:Zf}(hq:LeQ q)(h:Xp d q=true){info:List Zo}(hM:∀y∈info,0<=y.Mask/\y.Mask<16)
include hd hq h hM
omit hd hq in
theorem ZAt{out:List Zm}(G:GSs q info out){i:Nat}(hi:out.length=i){x:Zj}{y:Zo}(F:JO q.Zb x (info.take i) y)(k1:x.Zs≠1)(k2:x.Zs≠2) :
  0<=y.Left/\out[y.Left.toNat]?=some (out.getD y.Left.toNat ⟨[],[]⟩)/\0<=y.Right/\out[y.Right.toNat]?=some (out.getD y.Right.toNat ⟨[],[]⟩)/\J2 (out.getD y.Left.toNat ⟨[],[]⟩) (out.getD y.Right.toNat ⟨[],[]⟩)/\(x.Zs=3\/x.Zs=4\/x.Zs=5)/\
  (x.Zs=4->∃v,x.Zl=v/\has (out.getD y.Left.toNat ⟨[],[]⟩).Za v=true/\has (out.getD y.Right.toNat ⟨[],[]⟩).Za v=true/\
   ((out.getD y.Left.toNat ⟨[],[]⟩).Rows.Pairwise λp q=>kx (cix (out.getD y.Left.toNat ⟨[],[]⟩).Za v).toNat p<=kx (cix (out.getD y.Left.toNat ⟨[],[]⟩).Za v).toNat q)/\
   ((out.getD y.Right.toNat ⟨[],[]⟩).Rows.Pairwise λp q=>kx (cix (out.getD y.Right.toNat ⟨[],[]⟩).Za v).toNat p<=kx (cix (out.getD y.Right.toNat ⟨[],[]⟩).Za v).toNat q)):=by
 have hv:Z9 q.Zk q.Zb=true:=by unfold Xp at h;simp only[Yg]at h;exact h.1
 have hm:∀{s:Nat} {u:Zo},(info.take i)[s]?=some u->0<=u.Mask/\u.Mask<16:=λhs=>hM _ (Ybl (Y8 hs))
 obtain⟨s,u,t,z,o,f1,f2,f3,f4,f5,rfl,f6⟩:=F.join k1 k2;obtain⟨a1,a2,A⟩:=Zhp G hi f1 f2;obtain⟨b1,b2,B⟩:=Zhp G hi f3 f4;refine⟨f1,a2,f3,b2,J2.of hv A B (hm f2) (hm f4) f5,by omega,λk4=>?_⟩;rcases f6 with⟨k,_⟩|⟨k,_⟩|⟨k,g1,g2,g3,g4,_⟩
 .omega
 .omega
 .have h0:0<=x.Zl:=by unfold vin at g1;simp only[Yg]at g1;have:=g1.1;simp[inR]at this;omega
  have A2:=A.ord (by rw[g3];exact h0);have B2:=B.ord (by rw[g4];exact h0)
  simp_all
omit hd hq hM in
theorem ZAu{out:List Zm}(G:GSs q info out){i:Nat}(hi:out.length=i){x:Zj}{y:Zo}(F:JO q.Zb x (info.take i) y)(k2:x.Zs=2) :
  0<=y.Left/\out[y.Left.toNat]?=some (out.getD y.Left.toNat ⟨[],[]⟩)/\VS (out.getD y.Left.toNat ⟨[],[]⟩)/\has (out.getD y.Left.toNat ⟨[],[]⟩).Za x.Zl=true:=by
 have hv:Z9 q.Zk q.Zb=true:=by unfold Xp at h;simp only[Yg]at h;exact h.1
 obtain⟨s,u,f1,f2,f3,rfl⟩:=F.sort k2;obtain⟨a1,a2,A⟩:=Zhp G hi f1 f2;exact⟨f1,a2,A.vs hv,(Z9I hv A f3 s).2⟩
omit hd hq h hM in
theorem ZaL(s:Zm):(s=⟨s.Za,[]⟩/\XF s=(.tup [.agg [.own 0,.t .nil],Bo true],[.arr 3 1 true (s.Za.map ic)]))\/XF s=(.tup [.agg [.own 0,.own 1],Bo true],[.arr 3 1 true (s.Za.map ic),.arr 40 1 true (s.Rows.map isc)]):=by
 by_cases e:s.Rows=[]
 .left;refine⟨by cases s;simp only at e;rw[e],?_⟩;unfold XF;rw[Ya e]
 .right;unfold XF;rw[Yb e]
theorem l_exec{steps:List Zj}(hl:info.length=steps.length)(cc:steps.length<=14)(hF:∀(j:Nat) (y:Zo) (x:Zj),info[j]?=some y->steps[j]?=some x->JO q.Zb x (info.take j) y):∀i,i<=steps.length->∀(out:List Zm) (fr:Bool),out.length=i->GSs q info out->
  ∃fr',Zdm d q info fr out steps steps.length i=some (.tup [.own 0,.own 1,Bo true],[.arr 255 4 true (info.map Zo.c),.arr 251 2 fr' ((Ut d q (steps.drop i) (info.drop i) out).map Zm.c)]):=by
 refine down _ ?_ ?_
 .intro out fr hi G;refine⟨fr,Vn.1.1.1 _ _ _ _ _ _ _ _ _ ?_⟩;rw[Ynx,Yk];rfl
 .intro i hi ih out fr ho G;have hi2:i<info.length:=by omega
  have hx:steps[i]?=some steps[i]:=Yf hi;have hy:info[i]?=some info[i]:=Yf hi2;have F:=hF i _ _ hy hx;have hg:=Z0n h G hM ho F;have G2:=Z0o G ho hy hg;have step:Ut d q (steps.drop i) (info.drop i) out=Ut d q (steps.drop (i+1)) (info.drop (i+1)) (out++[stS d q steps[i] info[i] out]):=by
   rw[Yi hi,Yi hi2,Ut]
  have nx:∀fr,∃fr',Zdm d q info fr (out++[stS d q steps[i] info[i] out]) steps steps.length ((i+1:Nat):Int)=some (.tup [.own 0,.own 1,Bo true],[.arr 255 4 true (info.map Zo.c),.arr 251 2 fr' ((Ut d q (steps.drop i) (info.drop i) out).map Zm.c)]):=by
   simp_all
  generalize Ut d q (steps.drop i) (info.drop i) out=fin at nx|-;generalize hxx:steps[i]=x at *
  generalize hyy:info[i]=y at *
  have hol:out.length+1<=68719476736:=by omega
  unfold stS at nx;by_cases k1:x.Zs=1
  .rw[Ya k1]at nx;obtain⟨f1,-⟩:=F.scan k1;have hs:=ZNG hd hq h f1;obtain⟨fr',hn⟩:=nx fr;refine⟨fr',Vn.1.1.1 _ _ _ _ _ _ _ _ _ ?_⟩;rw[Ypx,wS hi (by omega)];refine⟨by omega,x,by rw[Yh];exact hx,?_⟩;rw[Ya k1];rcases ZaL (Kt d q x.Ze)with⟨e1,e2⟩|e2
   .grind
   .rw[e2]at hs;exact .inr (.inr ⟨_,_,hs,hol,hn⟩)
  .rw[Yb k1]at nx;by_cases k2:x.Zs=2
   .rw[Ya k2]at nx;obtain⟨l1,l2,l3,l4⟩:=ZAu h G ho F k2;obtain⟨fs,hs⟩:=ZN8 l3 l4;obtain⟨fr',hn⟩:=nx (fr && fs);refine⟨fr',Vn.1.1.1 _ _ _ _ _ _ _ _ _ ?_⟩;rw[Ypx,wS hi (by omega)];refine⟨by omega,x,by rw[Yh];exact hx,?_⟩;rw[Yb k1,Ya k2];exact⟨y,by rw[Yh];exact hy,l1,_,l2,.inr ⟨_,_,_,hs,hol,hn⟩⟩
   .rw[Yb k2]at nx;obtain⟨l1,l2,r1,r2,J,kk,m4⟩:=ZAt h hM G ho F k1 k2;obtain⟨fr',hn⟩:=nx fr;refine⟨fr',Vn.1.1.1 _ _ _ _ _ _ _ _ _ ?_⟩;rw[Ypx,wS hi (by omega)];refine⟨by omega,x,by rw[Yh];exact hx,?_⟩;rw[Yb k1,Yb k2];by_cases k3:x.Zs=3
    .rw[Ya k3]at hn|-;refine⟨y,by rw[Yh];exact hy,l1,_,l2,r1,_,r2,?_⟩;have hs:=ZNP J;rcases ZaL (Zel (out.getD y.Left.toNat ⟨[],[]⟩) (out.getD y.Right.toNat ⟨[],[]⟩))with⟨e1,e2⟩|e2
     .grind
     .rw[e2]at hs;exact .inr (.inr ⟨_,_,hs,hol,hn⟩)
    .rw[Yb k3]at hn|-;by_cases k4:x.Zs=4
     .rw[Ya k4];refine⟨y,by rw[Yh];exact hy,l1,_,l2,r1,_,r2,?_⟩;obtain⟨v,v1,v2,v3,v4,v5⟩:=m4 k4;have hs:=ZNQ J v2 v3 v4 v5;rw[<-v1]at hs;rcases ZaL (Us (out.getD y.Left.toNat ⟨[],[]⟩) (out.getD y.Right.toNat ⟨[],[]⟩))with⟨e1,e2⟩|e2
      .grind
      .rw[e2]at hs;exact .inr (.inr ⟨_,_,hs,hol,hn⟩)
     .rw[Yb k4];refine⟨y,by rw[Yh];exact hy,l1,_,l2,r1,_,r2,?_⟩;have hs:=ZAj J;rcases ZaL (Us (out.getD y.Left.toNat ⟨[],[]⟩) (out.getD y.Right.toNat ⟨[],[]⟩))with⟨e1,e2⟩|e2
      .grind
      .rw[e2]at hs;exact .inr (.inr ⟨_,_,hs,hol,hn⟩)
theorem l_strm{p:Zg}(hl:info.length=p.Steps.length)(cc:p.Steps.length<=14)(hF:∀(j:Nat) (y:Zo) (x:Zj),info[j]?=some y->p.Steps[j]?=some x->JO q.Zb x (info.take j) y):∀i,i<=p.Steps.length->∀(out:List Zm),out.length=i->GSs q info out->
  Zg8 d q p info out i=some (.tup [.own 0,.own 1,Bo true],[.arr 251 2 true ((Ut d q (p.Steps.drop i) (info.drop i) out).map Zm.c),.arr 255 4 true (info.map Zo.c)]):=by
 refine down _ ?_ ?_
 .intro out hi G;apply XI.2.1.2.2;rw[Ynx,Yk];rfl
 .intro i hi ih out ho G;have hi2:i<info.length:=by omega
  have hx:p.Steps[i]?=some p.Steps[i]:=Yf hi;have hy:info[i]?=some info[i]:=Yf hi2;have F:=hF i _ _ hy hx;have hg:=Z0n h G hM ho F;have G2:=Z0o G ho hy hg;have step:Ut d q (p.Steps.drop i) (info.drop i) out=Ut d q (p.Steps.drop (i+1)) (info.drop (i+1)) (out++[stS d q p.Steps[i] info[i] out]):=by
   rw[Yi hi,Yi hi2,Ut]
  have hn:Zg8 d q p info (out++[stS d q p.Steps[i] info[i] out]) ((i+1:Nat):Int)=some (.tup [.own 0,.own 1,Bo true],[.arr 251 2 true ((Ut d q (p.Steps.drop i) (info.drop i) out).map Zm.c),.arr 255 4 true (info.map Zo.c)]):=by
   simp_all
  generalize Ut d q (p.Steps.drop i) (info.drop i) out=fin at hn|-;generalize hxx:p.Steps[i]=x at *
  generalize hyy:info[i]=y at *
  have hol:out.length+1<=68719476736:=by omega
  unfold stS at hn;apply XI.2.1.2.2;rw[Ypx,wS hi (by omega)];refine⟨by omega,x,by rw[Yh];exact hx,?_⟩;by_cases k1:x.Zs=1
  .rw[Ya k1]at hn|-;obtain⟨f1,-⟩:=F.scan k1;have hs:=ZNL hd hq h f1;rcases ZaL (Kt d q x.Ze)with⟨e1,e2⟩|e2
   .grind
   .rw[e2]at hs;exact .inr (.inr ⟨_,_,hs,hol,hn⟩)
  .rw[Yb k1]at hn|-;by_cases k2:x.Zs=2
   .rw[Ya k2]at hn|-;obtain⟨l1,l2,l3,l4⟩:=ZAu h G ho F k2;have hs:=ZNC l3 l4;refine⟨y,by rw[Yh];exact hy,l1,_,l2,?_⟩;rcases ZaL (Zho (out.getD y.Left.toNat ⟨[],[]⟩) x.Zl)with⟨e1,e2⟩|e2
    .grind
    .rw[e2]at hs;exact .inr (.inr ⟨_,_,hs,hol,hn⟩)
   .rw[Yb k2]at hn|-;obtain⟨l1,l2,r1,r2,J,kk,m4⟩:=ZAt h hM G ho F k1 k2;by_cases k3:x.Zs=3
    .rw[Ya k3]at hn|-;refine⟨y,by rw[Yh];exact hy,l1,_,l2,r1,_,r2,?_⟩;have hs:=ZNW J;rcases ZaL (Zel (out.getD y.Left.toNat ⟨[],[]⟩) (out.getD y.Right.toNat ⟨[],[]⟩))with⟨e1,e2⟩|e2
     .grind
     .rw[e2]at hs;exact .inr (.inr ⟨_,_,hs,hol,hn⟩)
    .rw[Yb k3]at hn|-;by_cases k5:x.Zs=5
     .rw[Ya k5];refine⟨y,by rw[Yh];exact hy,l1,_,l2,r1,_,r2,?_⟩;have hs:=ZNX J;rcases ZaL (Us (out.getD y.Left.toNat ⟨[],[]⟩) (out.getD y.Right.toNat ⟨[],[]⟩))with⟨e1,e2⟩|e2
      .grind
      .rw[e2]at hs;exact .inr (.inr ⟨_,_,hs,hol,hn⟩)
     .rw[Yb k5];refine⟨y,by rw[Yh];exact hy,l1,_,l2,r1,_,r2,?_⟩;have k4:x.Zs=4:=by clear m4;omega
      obtain⟨v,v1,v2,v3,v4,v5⟩:=m4 k4;have hs:=ZNY J v2 v3 v4 v5;rw[<-v1]at hs;rcases ZaL (Us (out.getD y.Left.toNat ⟨[],[]⟩) (out.getD y.Right.toNat ⟨[],[]⟩))with⟨e1,e2⟩|e2
      .grind
      .rw[e2]at hs;exact .inr (.inr ⟨_,_,hs,hol,hn⟩)
end
def ZaM(d:Zp)(q:Zf)(c:List Zj)(info:List Zo):List Zm:=Ut d q c info []
def Z02(q:Zf)(info:List Zo):GSs q info []:=λj s h=>by simp at h
def ZNZ{d:Zp}{q:Zf}(h:Xp d q=true){info:List Zo}(hM:∀y∈info,0<=y.Mask/\y.Mask<16){c:List Zj}(hl:info.length=c.length)(hF:∀(j:Nat) (y:Zo) (x:Zj),info[j]?=some y->c[j]?=some x->JO q.Zb x (info.take j) y) :
  ∀i,i<=c.length->∀(out:List Zm),out.length=i->GSs q info out->GSs q info (Ut d q (c.drop i) (info.drop i) out)/\(Ut d q (c.drop i) (info.drop i) out).length=c.length:=by
 refine down _ ?_ ?_
 .intro out ho G;rw[Yk];exact⟨G,ho⟩
 .intro i hi ih out ho G;have hi2:i<info.length:=by omega
  have hx:c[i]?=some c[i]:=Yf hi;have hy:info[i]?=some info[i]:=Yf hi2;have hg:=Z0n h G hM ho (hF i _ _ hy hx);rw[Yi hi,Yi hi2,Ut]
  grind [Z0o]
structure PI (q:Zf) (p:Zg) (info:List Zo):Prop where
 eq:Wv q.Zk q.Zb p.Steps=some info
def PI.val{q:Zf}{p:Zg}{info:List Zo}(P:PI q p info):Z9 q.Zk q.Zb=true/\info.length=p.Steps.length/\1<=p.Steps.length/\p.Steps.length<=14:=by
 have h:=Zc7 P.eq;omega
def PI.mask{q:Zf}{p:Zg}{info:List Zo}(P:PI q p info):∀y∈info,0<=y.Mask/\y.Mask<16:=by
 intro y hy;have h1:=(Z3p P.eq).1 y hy;have h2:=Wg P.val.1;unfold Zbm at h1
 have:(2:Int) ^ q.Zb.length<=2 ^ 4:=by
  rcases(show q.Zb.length=1\/q.Zb.length=2\/q.Zb.length=3\/q.Zb.length=4 by omega)with e|e|e|e<;>rw[e]<;>decide
 omega
def ZAv{d:Zp}{q:Zf}(h:Xp d q=true){p:Zg}{info:List Zo}(P:PI q p info):GSs q info (ZaM d q p.Steps info)/\(ZaM d q p.Steps info).length=p.Steps.length:=by
 have:=ZNZ h P.mask P.val.2.1 (Zp7 P.eq) 0 (Yc _) [] rfl (Z02 q info);simpa[ZaM]using this
def ZOa{d:Zp}(hd:LeD d){q:Zf}(hq:LeQ q)(h:Xp d q=true){p:Zg}{info:List Zo}(P:PI q p info):∃fr,Zdl d q p=some (.tup [.own 0,.own 1,Bo true],[.arr 255 4 true (info.map Zo.c),.arr 251 2 fr ((ZaM d q p.Steps info).map Zm.c)]):=by
 obtain⟨fr,hf⟩:=l_exec hd hq h P.mask P.val.2.1 P.val.2.2.2 (Zp7 P.eq) 0 (Yc _) [] true rfl (Z02 q info);have hp:=Zpr q p hq;rw[P.eq]at hp;refine⟨fr,Vn.1.1.2 _ _ _ _ (.inr ⟨_,hp,_,ZbS d hd q hq,?_⟩)⟩;rw[h,Ya rfl];exact hf
def ZAw{d:Zp}(hd:LeD d){q:Zf}(hq:LeQ q){p:Zg}(h:Wv q.Zk q.Zb p.Steps=none\/Xp d q=false):Zdl d q p=some (.tup [.t .nil,.t .nil,Bo false],[]):=by
 grind [Zpr,Vn.1.1.2,ZbS]
def ZOb{d:Zp}(hd:LeD d){q:Zf}(hq:LeQ q)(h:Xp d q=true){p:Zg}{info:List Zo}(P:PI q p info):Zg7 d q p=some (.tup [.own 0,.own 1,Bo true],[.arr 251 2 true ((ZaM d q p.Steps info).map Zm.c),.arr 255 4 true (info.map Zo.c)]):=by
 have hf:=l_strm hd hq h P.mask (p:=p) P.val.2.1 P.val.2.2.2 (Zp7 P.eq) 0 (Yc _) [] rfl (Z02 q info);have hp:=ZzS q p hq;rw[P.eq]at hp;refine XI.2.2.1.1 _ _ _ _ ⟨_,_,hp,?_⟩;rw[Ya rfl];refine⟨_,ZaH d hd q hq,?_⟩;rw[h,Ya rfl];exact hf
def ZAx{d:Zp}(hd:LeD d){q:Zf}(hq:LeQ q){p:Zg}(h:Wv q.Zk q.Zb p.Steps=none\/Xp d q=false):∃info:List Zo,Zg7 d q p=some (.tup [.own 0,.own 1,Bo false],[.arr 251 2 true (([]:List Zm).map Zm.c),.arr 255 4 true (info.map Zo.c)]):=by
 have hp:=ZzS q p hq
 cases e:Wv q.Zk q.Zb p.Steps with
 |none =>
  simp_all [XI.2.2.1.1]
 |some info =>
  grind [XI.2.2.1.1,ZaH]
def UC(rows:V4):V4:=WV (VF rows)
abbrev ZbY(l:V4):Prop:=l.Pairwise λa b=>Xv a b<0
def ZAy:∀{a b:V4},ZbY a->ZbY b->(∀x,x∈a↔x∈b)->a=b
 |[],[],_,_,_=>rfl
 |[],y::b,_,_,h=>by have:=(h y).2 (by simp);cases this
 |x::a,[],_,_,h=>by have:=(h x).1 (by simp);cases this
 |x::a,y::b,ha,hb,h=>by
  have ha':=Y4.1 ha;have hb':=Y4.1 hb;have e:x=y:=by
   have h1:=(h x).1 (by simp);have h2:=(h y).2 (by simp)
   grind [JP]
  subst e;rw[ZAy ha'.2 hb'.2 λz=>?_]
  grind [ZaI]
def Z03:∀{l:V4},(l.Pairwise λa b=>leR a b=true)->ZbY (WV l)
 |[],_=>by simp[WV]
 |[a],_=>by simp[WV]
 |a::b::l,h=>by
  have h1:=Y4.1 h;have ih:=Z03 h1.2;unfold WV;split
  .exact ih
  .rename_i e;refine Y4.2 ⟨λx hx=>?_,ih⟩;rw[ZlC]at hx;have hab:Xv a b<0:=by
    have h3:=h1.1 b (by simp);unfold leR at h3
    grind [Int.lt_or_eq_of_le,Qz]
   rcases Yba.1 hx with rfl|hx
   .exact hab
   .have h2:=(Y4.1 h1.2).1 x hx;unfold leR at h2
    grind [Zhq,Int.lt_or_eq_of_le,Qz,JP]
def ZOc(rows:V4):ZbY (UC rows):=Z03 (ZpD rows)
def ZAz(rows:V4)(x:V6):x∈UC rows↔x∈rows:=by unfold UC;rw[ZlC,(Zhr rows).mem_iff]
def ZOd(rows:V4):(UC rows).length<=rows.length:=by unfold UC;rw[<-(Zhr rows).length_eq];exact Z0s _
def ZA0{rows:V4}(h1:rows.length<=4096)(h2:∀r∈rows,r.length<=4):J8 rows=some (.own 0,[.arr 40 1 true ((UC rows).map isc)]):=by
 have hl:=(Zhr rows).length_eq;refine Jc.1.2.1 _ _ ⟨_,Zpw rows h2 (by omega),VF rows,?_,UC rows,?_,rfl⟩
 .unfold ZiA;exact Z0u h1 h2
 .unfold ZiB;exact Z0v (by omega) λr hr=>h2 r ((Zhr rows).mem_iff.1 hr)
def ZA1{s:Zm}(h:VS s):KQ s=some (.tup [.agg [.own 0,.own 1],Bo true],[.arr 3 1 true (s.Za.map ic),.arr 40 1 true ((UC s.Rows).map isc)]):=by
 refine Vn.2.2.2.2 _ _ ⟨_,Zem h,?_⟩;rw[Ya rfl];exact⟨_,Zeg _ (by have:=h.four;omega),_,ZA0 h.len λr hr=>(h.row4 hr).2,rfl⟩
def Vx:V4->V6->Bool->V4
 |[],row,put=>if put=true then[]else[row]
 |e::es,row,put=>if Xv e row=0 then e::Vx es row true else if 0<Xv e row then(if put=true then e::Vx es row true else row::e::Vx es row true)else e::Vx es row put
theorem ZpL:∀(es:V4) (row:V6),Vx es row true=es
 |[],_=>rfl
 |e::es,row=>by
  unfold Vx;rw[ZpL es row];simp
theorem ZlD:∀(es:V4) (row x:V6),x∈Vx es row false↔x∈es\/x=row
 |[],row,x=>by simp[Vx]
 |e::es,row,x=>by
  have ih:=ZlD es row x;unfold Vx
  grind [ZpL,Qz]
def ZA2:∀{es:V4} (row:V6),ZbY es->ZbY (Vx es row false)
 |[],row,_=>by simp[Vx]
 |e::es,row,h=>by
  have h':=Y4.1 h;unfold Vx;rw[ZpL];by_cases h1:Xv e row=0
  .rw[Ya h1];exact h
  .rw[Yb h1];by_cases h2:0<Xv e row
   .grind [JP,List.pairwise_cons,Zhq,Int.lt_or_eq_of_le,Qz]
   .rw[Yb h2];refine Y4.2 ⟨λx hx=>?_,ZA2 row h'.2⟩
    grind [ZlD]
def Z04:∀(es:V4) (row:V6) (put:Bool),(Vx es row put).length<=es.length+1
 |[],row,put=>by unfold Vx;split<;>simp
 |e::es,row,put=>by
  unfold Vx;rw[ZpL];have:=Z04 es row put
  grind
def l_put{rows:V4}{row:V6}(hl:rows.length<=5000)(h4:∀r∈rows,r.length<=4)(hr:row.length<=4):∀i,i<=rows.length->∀(out:V4) (put:Bool),out.length+2*(rows.length-i)<=20000->ZfW out rows row put i=some (.own 0,[.arr 40 1 true ((out++Vx (rows.drop i) row put).map isc)]):=by
 refine down _ ?_ ?_
 .intro out put ho;apply Ud.1.2.1;rw[Ynx,Yk];rcases tf put with e|e
  .subst e;rw[Yb (by decide)];exact⟨by omega,by omega,rfl⟩
  .subst e;rw[Ya rfl];simp[Vx]
 .intro i hi ih out put ho;have he:=h4 _ (Ye hi);apply Ud.1.2.1;rw[Ypx,wS hi (by omega),Yi hi];refine⟨by omega,_,gE hi,_,ZaD _ _ (by omega) (by omega),?_⟩;unfold Vx
  grind
def ZA3{rows:V4}{row:V6}(hl:rows.length<=5000)(h4:∀r∈rows,r.length<=4)(hr:row.length<=4):ZfV rows row=some (.own 0,[.arr 40 1 true ((Vx rows row false).map isc)]) :=
 Ud.1.2.2.1 _ _ _ (by simpa using l_put hl h4 hr 0 (Yc _) [] false (by simp;omega))
def x_put0{row:V6}(hr:row.length<=4):ZoL row=some (.own 0,[.arr 40 1 true (([row]).map isc)]):=by
 grind [WJ.1.2.1.1,WJ.1.1.2.2]
def ZaN(acc rows:V4):V4:=rows.foldl (λl r=>Vx l r false) acc
def ZA4:∀(rows acc:V4) (x:V6),x∈ZaN acc rows↔x∈acc\/x∈rows
 |[],acc,x=>by simp[ZaN]
 |r::rows,acc,x=>by
  show x∈ZaN (Vx acc r false) rows↔_;rw[ZA4 rows,ZlD,Yba,or_assoc]
def ZA5:∀{rows acc:V4},ZbY acc->ZbY (ZaN acc rows)
 |[],acc,h=>h
 |r::rows,acc,h=>ZA5 (rows:=rows) (ZA2 r h)
def ZA6(rows:V4):ZaN [] rows=UC rows :=
 ZAy (ZA5 .nil) (ZOc rows) λx=>by rw[ZA4,ZAz];simp
def ZOe{s:Zm}(h:VS s):∀i,i<=s.Rows.length->∀acc:V4,acc.length<=i->(∀r∈acc,r.length<=4)->Zlc s s.Za acc i=some (.tup [.agg [.own 0,.own 1],Bo true],[.arr 3 1 true (s.Za.map ic),.arr 40 1 true ((ZaN acc (s.Rows.drop i)).map isc)]):=by
 have hl:=h.len;refine down _ ?_ ?_
 .intro acc ha h4;apply WJ.1.2.2.1;rw[Ynx,Yk];rfl
 .intro i hi ih acc ha h4;have hr:=h.row4 (Ye hi);apply WJ.1.2.2.1;rw[Ypx,wS hi (by omega),Yi hi];have hp:=Z04 acc s.Rows[i] false
  exact⟨by omega,_,gE hi,_,ZA3 (by omega) h4 hr.2,ih _ (by omega) (λr hm=>by
   rcases(ZlD _ _ _).1 hm with hm|rfl
   .exact h4 r hm
   .exact hr.2)⟩
def ZpM(s:Zm):V3:=if s.Rows=[]then(.tup [.agg [.own 0,.t .nil],Bo true],[.arr 3 1 true (s.Za.map ic)])else(.tup [.agg [.own 0,.own 1],Bo true],[.arr 3 1 true (s.Za.map ic),.arr 40 1 true ((UC s.Rows).map isc)])
def ZA7{s:Zm}(h:VS s):Ja s=some (ZpM s):=by
 have h4:=h.four;refine WJ.1.2.2.2 _ _ ⟨_,Zen h,?_⟩;rw[Ya rfl];refine⟨by omega,WJ.1.2.1.2 _ _ _ _ ?_⟩;unfold ZpM;by_cases e:s.Rows=[]
 .simp_all
 .have h0:0<s.Rows.length:=Yc5.2 e;have hr:=h.row4 (Ye h0);rw[Ypx,Yb e];refine⟨by omega,_,gE h0,_,x_put0 hr.2,?_⟩;have:=ZOe h 1 (by omega) [s.Rows[0]] (by simp) (by simp[hr.2]);have e2:ZaN [s.Rows[0]] (s.Rows.drop 1)=UC s.Rows:=by
   rw[<-ZA6]
   conv=>rhs;rw[<-Ym (l:=s.Rows),Yi h0]
   rfl
  rw[e2]at this;rw[show w (0+1)=((1:Nat):Int) by decide];exact this
def ZOf(n:Int)(h0:0<=n)(h1:n<=4096):Zjv n 0=some (I (Vt n),[]):=by
 unfold Vt;rw[Yb (by omega:¬n<0)];refine Vn.1.2.1 _ _ _ ⟨_,Jh 0,?_⟩;rw[show Xt 0=0 from by decide];by_cases c0:n<=0
 .simp_all
 rw[Yb c0,Yb c0,show w (0+1)=1 from by decide];refine Vn.1.2.1 _ _ _ ⟨_,Jh 1,?_⟩;rw[show Xt 1=1 from by decide];by_cases c1:n<=1
 .simp_all
 rw[Yb c1,Yb c1,show w (1+1)=2 from by decide];refine Vn.1.2.1 _ _ _ ⟨_,Jh 2,?_⟩;rw[show Xt 2=4 from by decide];by_cases c2:n<=4
 .simp_all
 rw[Yb c2,Yb c2,show w (2+1)=3 from by decide];refine Vn.1.2.1 _ _ _ ⟨_,Jh 3,?_⟩;rw[show Xt 3=16 from by decide];by_cases c3:n<=16
 .simp_all
 rw[Yb c3,Yb c3,show w (3+1)=4 from by decide];refine Vn.1.2.1 _ _ _ ⟨_,Jh 4,?_⟩;rw[show Xt 4=64 from by decide];by_cases c4:n<=64
 .simp_all
 rw[Yb c4,Yb c4,show w (4+1)=5 from by decide];refine Vn.1.2.1 _ _ _ ⟨_,Jh 5,?_⟩;rw[show Xt 5=256 from by decide];by_cases c5:n<=256
 .simp_all
 rw[Yb c5,Yb c5,show w (5+1)=6 from by decide];refine Vn.1.2.1 _ _ _ ⟨_,Jh 6,?_⟩;rw[show Xt 6=1024 from by decide];by_cases c6:n<=1024
 .simp_all
 rw[Yb c6,Yb c6,show w (6+1)=7 from by decide];refine Vn.1.2.1 _ _ _ ⟨_,Jh 7,?_⟩;rw[show Xt 7=4096 from by decide]
 simp_all
def ZbZ{c a b:Prop}[Decidable c](h:c)(ha:a):if c then a else b:=by rw[Ya h];exact ha
theorem ZOg(n:Int)(h0:0<=n)(h1:n<=4096):Zla n 0=some (I (Vt n),[]):=by
 unfold Vt;rw[Yb (by omega:¬n<0)];refine XI.2.2.1.2 _ _ _ (ZbZ (by decide) ⟨_,VI 0,?_⟩);rw[show Xt 0=0 from by decide];by_cases c0:n<=0
 .simp_all
 rw[Yb c0,Yb c0,show w (0+1)=1 from by decide];refine XI.2.2.1.2 _ _ _ (ZbZ (by decide) ⟨_,VI 1,?_⟩);rw[show Xt 1=1 from by decide];by_cases c1:n<=1
 .simp_all
 rw[Yb c1,Yb c1,show w (1+1)=2 from by decide];refine XI.2.2.1.2 _ _ _ (ZbZ (by decide) ⟨_,VI 2,?_⟩);rw[show Xt 2=4 from by decide];by_cases c2:n<=4
 .simp_all
 rw[Yb c2,Yb c2,show w (2+1)=3 from by decide];refine XI.2.2.1.2 _ _ _ (ZbZ (by decide) ⟨_,VI 3,?_⟩);rw[show Xt 3=16 from by decide];by_cases c3:n<=16
 .simp_all
 rw[Yb c3,Yb c3,show w (3+1)=4 from by decide];refine XI.2.2.1.2 _ _ _ (ZbZ (by decide) ⟨_,VI 4,?_⟩);rw[show Xt 4=64 from by decide];by_cases c4:n<=64
 .simp_all
 rw[Yb c4,Yb c4,show w (4+1)=5 from by decide];refine XI.2.2.1.2 _ _ _ (ZbZ (by decide) ⟨_,VI 5,?_⟩);rw[show Xt 5=256 from by decide];by_cases c5:n<=256
 .simp_all
 rw[Yb c5,Yb c5,show w (5+1)=6 from by decide];refine XI.2.2.1.2 _ _ _ (ZbZ (by decide) ⟨_,VI 6,?_⟩);rw[show Xt 6=1024 from by decide];by_cases c6:n<=1024
 .simp_all
 rw[Yb c6,Yb c6,show w (6+1)=7 from by decide];refine XI.2.2.1.2 _ _ _ (ZbZ (by decide) ⟨_,VI 7,?_⟩);rw[show Xt 7=4096 from by decide]
 simp_all
def ZOh{n:Int}(h:inR n 0 4096=false):Vt n=-1:=by
 simp[inR]at h;unfold Vt;omega
def ZpN(n:Int):JC n=some (I (Vt n),[]):=by
 refine Vn.1.2.2.1 _ _ ⟨_,X0 _ _ _,?_⟩;rcases tf (inR n 0 4096)with e|e
 .simp_all [ZOh]
 .rw[Ya e];simp[inR]at e
  simp_all [ZOf]
def Z05(n:Int):Zdn n=some (I (Zih n),[]):=Vn.1.2.2.2 _ _ ⟨_,ZpN n,_,Jh _,rfl⟩
def Z06(n:Int)(h1:n<=4096):KZ n=some (I (Vt n),[]):=by
 apply XI.2.2.2.1;by_cases c:n<0
 .rw[Ya c];unfold Vt;rw[Ya c]
 .grind [ZOg]
def Z07(n:Int)(h1:n<=4096):VH n=some (I (Zih n),[]):=XI.2.2.2.2 _ _ ⟨_,Z06 n h1,_,VI _,rfl⟩
def Z08(m:Zn):Un m=some (.bsl 1 5,[.box (m.c.map .t),.box [.ptr 0 0,.ptr 0 6,.ptr 0 12,.ptr 0 18,.ptr 0 24]]):=W5.2.2.2.1 _ _ rfl
def fst(info:List Zo):Nat->Int->Int
 |0,i=>i
 |f+1,i=>match info[i.toNat]? with
  |some y=>if 0<=y.Left then fst info f y.Left else i
  |none=>i
def first(info:List Zo)(i:Int):Int:=fst info (i.toNat+1) i
def ruS(l:List Zm)(i:Int):Int:=Zih ((l.getD i.toNat ⟨[],[]⟩).Rows.length:Int)
def lfC(l:List Zm)(y:Zo)(i:Nat):Int:=if 0<=y.Left then ruS l y.Left else ruS l i
def rtC(l:List Zm)(y:Zo):Int:=if 0<=y.Right then ruS l y.Right else 0
def stC(m:Zn)(l:List Zm)(x:Zj)(y:Zo)(i:Nat):Int:=XQ (mOp m x.Zs) (lfC l y i) (rtC l y) (ruS l i)
def Zca(o:Z8)(l r b:Int)(k:Nat):Int:=match(List.range' k (8-k)).find? (λj:Nat=>decide (b<XQ o l r (Xt j)))with
 |some j=>(j:Int)
 |none=>8
def Q0(m:Zn)(l:List Zm)(x:Zj)(y:Zo)(b:Int):ZB:=⟨y.Mask,Zca (mOp m x.Zs) (ruS l y.Left) (ruS l y.Right) b 0,false⟩
def Zht(l:List Zm)(y:Zo)(i:Nat):ZB:=⟨y.Mask,Vt ((l.getD i ⟨[],[]⟩).Rows.length:Int),true⟩
def runF(m:Zn)(l:List Zm)(cc:Int):List Zj->List Zo->Nat->Int->Int->List ZB->Bool×Int×Int×List ZB
 |x::xs,y::ys,i,c,st,seen =>
  if w (cc-c)<stC m l x y i then(false,cc,st,if 3<=x.Zs then seen++[Q0 m l x y (w (cc-c))]else seen)
  else runF m l cc xs ys (i+1) (w (c+stC m l x y i)) (w (st+1)) (if 3<=x.Zs then seen++[Zht l y i]else seen)
 |_,_,_,c,st,seen=>(true,c,st,seen)
def Vy(nl:Bool)(s:Zm):Bool×Int×Int×List ZB->V3
 |(false,c,st,seen)=>(.tup [.agg [Bo false,I c,I st,L 3 (seen.map ZB.c),L 1 (([]:V6).map ic),L 1 (([]:V4).map isc)],Bo true],[])
 |(true,c,st,seen)=>(.tup [.agg [Bo true,I c,I st,L 3 (seen.map ZB.c),L 1 (s.Za.map ic),L 1 ((UC s.Rows).map isc)],Bo true],[])
def Zcb:UC []=[]:=by simp[UC,VF,WV]
theorem Zhu{m:Zn}(hm:LeM m)(k:Int):Le (mOp m k).Steps:=by
 obtain⟨h1,h2,h3,h4,h5⟩:=hm;unfold mOp
 grind
def ZA8{m:Zn}(h:Vf m)(k:Int):Wo (mOp m k)=true:=by
 obtain⟨h1,h2,h3,h4,h5⟩:=h;unfold mOp;split
 .exact h1.1
 .split
  .exact h2.1
  .split
   .exact h3.1
   .split
    .exact h4.1
    .exact h5.1
def ru_in{n:Nat}(h:n<=4096):inR (Zih (n:Int)) 0 4096=true:=by
 unfold Zih Vt;rw[Ynx]
 repeat' split
 all_goals first|decide|omega
theorem cls_in{k:Nat}(h:k<=7):inR (Xt (k:Int)) 0 4096=true:=by
 have:∀k:Fin 8,inR (Xt (k.1:Int)) 0 4096=true:=by decide
 exact this ⟨k,by omega⟩
theorem opc_eq{o:Z8}(h:Wo o=true){l r n:Int}(hl:inR l 0 4096=true)(hr:inR r 0 4096=true)(hn:inR n 0 4096=true):Zee o l r n=XQ o l r n:=by
 unfold XQ
 simp_all
def ZA9{o:Z8}{l r b:Int}{k:Nat}(h:k<8):Zca o l r b k=if b<XQ o l r (Xt k)then(k:Int)else Zca o l r b (k+1):=by
 unfold Zca;rw[show 8-k=(8-(k+1))+1 by omega,Ybs,List.find?_cons]
 grind
def ZOi{o:Z8}(hs:Le o.Steps)(hv:Wo o=true){l r b:Int}(hl:inR l 0 4096=true)(hr:inR r 0 4096=true):∀k:Nat,k<=8->Zjw o l r b k=some (I (Zca o l r b k),[]):=by
 refine down 8 ?_ ?_
 .apply Vn.2.2.1;rw[Yb (by decide)];rfl
 .intro k hk ih;apply Vn.2.2.1;rw[Ypx,wS hk (by omega),ZA9 hk]
  grind [Jh,ZMJ,opc_eq,cls_in]
def ZAA{o:Z8}(hs:Le o.Steps)(hv:Wo o=true){l r b:Int}(hl:inR l 0 4096=true)(hr:inR r 0 4096=true):WN o l r b=some (I (Zca o l r b 0),[]) :=
 Vn.2.2.2.1 _ _ _ _ _ (ZOi hs hv hl hr 0 (by omega))
def ZOj{m:Zn}(hm:LeM m)(kd:Int){l r b:Int}:∀k:Nat,k<=8->Zlb m kd l r b k=some (I (Zca (mOp m kd) l r b k),[]):=by
 refine down 8 ?_ ?_
 .apply WJ.1.1.1.2;rw[Yb (by decide)];rfl
 .intro k hk ih;apply WJ.1.1.1.2;rw[Ypx,wS hk (by omega),ZA9 hk];refine⟨_,Zeh m kd,_,VI _,_,Kr _ (Zhu hm kd) _ _ _,?_⟩
  grind
def ZAB{m:Zn}(hm:LeM m)(ha:Vf m){kd:Int}(hk:inR kd 1 5=true){l r b:Int}(hl:inR l 0 4096=true)(hr:inR r 0 4096=true):ZdP m kd l r b=some (I (Zca (mOp m kd) l r b 0),[]):=by
 refine WJ.1.1.2.1 _ _ _ _ _ _ ⟨_,Zhi m hm,?_⟩;rw[Ya (by simpa using ha)];refine⟨_,Xx _ _ _,?_⟩;rw[hk,Ya rfl];refine⟨_,Xx _ _ _,?_⟩;rw[hl,Ya rfl];refine⟨_,Xx _ _ _,?_⟩;rw[hr,Ya rfl];exact ZOj hm kd 0 (by omega)
structure ZaO (q:Zf) (p:Zg) (info:List Zo) (l:List Zm):Prop where
 P:PI q p info
 G:GSs q info l
 len:l.length=p.Steps.length
section
variable{q:Zf}{p:Zg}{info:List Zo}{l:List Zm}(R:ZaO q p info l)
include R
theorem ZaO.n4096(i:Int):(l.getD i.toNat ⟨[],[]⟩).Rows.length<=4096:=by
 by_cases h:i.toNat<l.length
 .obtain⟨y,_,g⟩:=R.G _ _ (ZaK h);have:=g.len;have:=Zp5 y.Mask;omega
 .simp_all
theorem ZaO.ru(i:Int):inR (ruS l i) 0 4096=true:=ru_in (R.n4096 i)
theorem ZaO.at_{i:Nat}(hi:i<p.Steps.length):∃x y,p.Steps[i]?=some x/\info[i]?=some y/\p.Steps[i]=x/\(1<=x.Zs/\x.Zs<=5)/\(0<=y.Right↔3<=x.Zs)/\(0<=y.Right->0<=y.Left)/\(0<=y.Left->y.Left.toNat<i)/\(0<=y.Right->y.Right.toNat<i):=by
 have hl:=R.P.val.2.1;have hx:p.Steps[i]?=some p.Steps[i]:=Yf hi;have hy:info[i]?=some info[i]:=Yf (by omega);have F:=Zp7 R.P.eq i _ _ hy hx;refine⟨_,_,hx,hy,rfl,?_⟩;generalize p.Steps[i]=x at *
 generalize info[i]=y at *
 have hlt:∀{s:Int} {u:Zo},(info.take i)[s.toNat]?=some u->s.toNat<i:=by
  grind
 by_cases k1:x.Zs=1
 .obtain⟨-,rfl⟩:=F.scan k1
  simp_all
 .by_cases k2:x.Zs=2
  .obtain⟨s,u,f1,f2,-,rfl⟩:=F.sort k2
   simp_all
  .obtain⟨s,u,t,z,o,f1,f2,f3,f4,-,rfl,f6⟩:=F.join k1 k2
   grind
theorem ZaO.rt{y:Zo}:inR (rtC l y) 0 4096=true:=by
 unfold rtC;split
 .exact R.ru _
 .decide
theorem Z09{i:Nat}{x:Zj}{y:Zo}(hi:i<p.Steps.length)(hy:info[i]?=some y)(hL:0<=y.Left->y.Left.toNat<i)(hR:0<=y.Right->y.Right.toNat<i)(c:0<=y.Right->0<=y.Left):Zaw info l i=some (.tup [I (lfC l y i),I (rtC l y),I (ruS l i)],[]):=by
 have hl:=R.len;have h0:l[(i:Int).toNat]?=some (l.getD (i:Int).toNat ⟨[],[]⟩):=ZaK (by omega);refine Vn.2.1.1 _ _ _ _ ⟨by omega,_,h0,_,Z05 _,y,by rw[Yh];exact hy,?_⟩;unfold lfC rtC;by_cases h1:0<=y.Left
 .rw[Ya h1,Ya h1];refine⟨_,ZaK (by have:=hL h1;omega),_,Z05 _,?_⟩;by_cases h2:0<=y.Right
  .rw[Ya h2,Ya h2];exact⟨_,ZaK (by have:=hR h2;omega),_,Z05 _,rfl⟩
  .rw[Yb h2,Yb h2];rfl
 .have h2:¬0<=y.Right:=λh=>h1 (c h)
  rw[Yb h1,Yb h1,Yb h2,Yb h2];rfl
theorem ZAC{m:Zn}(hm:LeM m){i:Nat}{x:Zj}{y:Zo}(hi:i<p.Steps.length)(hx:p.Steps[i]?=some x)(hy:info[i]?=some y)(hk:1<=x.Zs/\x.Zs<=5)(hL:0<=y.Left->y.Left.toNat<i)(hR:0<=y.Right->y.Right.toNat<i)(c:0<=y.Right->0<=y.Left):Zdo m p info l i=some (I (stC m l x y i),[]):=by
 refine ZLt ⟨_,_,_,Z09 R (x:=x) hi hy hL hR c,Z08 m,by omega,x,by rw[Yh];exact hx,?_⟩;unfold stC mOp
 grind [wA,Jg]
theorem ZpO{m:Zn}{bud:Int}{i:Nat}{x:Zj}{y:Zo}(hi:i<p.Steps.length)(hx:p.Steps[i]?=some x)(hy:info[i]?=some y)(c st:Int)(cc:List ZB) :
  runF m l bud (p.Steps.drop i) (info.drop i) i c st cc=if w (bud-c)<stC m l x y i then(false,bud,st,if 3<=x.Zs then cc++[Q0 m l x y (w (bud-c))]else cc)else runF m l bud (p.Steps.drop (i+1)) (info.drop (i+1)) (i+1) (w (c+stC m l x y i)) (w (st+1)) (if 3<=x.Zs then cc++[Zht l y i]else cc):=by
 have hl:=R.P.val.2.1;have hx':p.Steps[i]=x:=by rw[Yf hi]at hx;exact Yc6 hx
 have hy':info[i]'(by omega)=y:=by rw[Yf (by omega)]at hy;exact Yc6 hy
 rw[Yi hi,Yi (show i<info.length by omega),hx',hy',runF]
omit R in
theorem ZpP{m:Zn}{bud:Int}(c st:Int)(cc:List ZB):runF m l bud (p.Steps.drop p.Steps.length) (info.drop p.Steps.length) p.Steps.length c st cc=(true,c,st,cc):=by rw[Yk];rfl
theorem ZaO.last:l[((p.Steps.length-1:Nat):Int).toNat]?=some (l.getD (p.Steps.length-1) ⟨[],[]⟩)/\VS (l.getD (p.Steps.length-1) ⟨[],[]⟩):=by
 have h:=R.P.val;have hl:=R.len;have h1:l[((p.Steps.length-1:Nat):Int).toNat]?=some (l.getD ((p.Steps.length-1:Nat):Int).toNat ⟨[],[]⟩):=ZaK (by omega);rw[Yh]at h1|-;obtain⟨y,_,g⟩:=R.G _ _ h1;exact⟨h1,g.vs h.1⟩
end
