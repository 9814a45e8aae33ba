/-
  Parts of the proofs for this seat: SD SE SF RX RT SQ.
-/
import Derived.Test.YtgbipcfdgfjplaaGreatP20
import Derived.Test.YtgbipcfdgfjplaaGreatP27
set_option linter.unusedSectionVars false
set_option linter.unusedSimpArgs false
set_option linter.unusedVariables false
set_option maxRecDepth 100000
set_option maxHeartbeats 4000000
namespace Go.Proofs.YtgbipcfdgfjplaaGreat
open Go.AM
theorem ZBU{a b:WA}(ha:a.length<=4)(hb:b.length<=4):∀v,v<=4->ZaC (((List.range v).map λu:Nat=>(u:Int)).filter λv=>has a v || has b v) a b v=some (.own 0,[.arr 3 1 true ((uni a b).map ic)]):=by
 refine down 4 ?_ ?_
 .refine ZyG _ _ _ _ _ ?_;rw[Yb (by decide)];rfl
 .intro v hv ih;have hl:(((List.range v).map λu:Nat=>(u:Int)).filter λv=>has a v || has b v).length<=4:=by
   refine Yu (Ybz _ _) ?_;simp;omega
  rw[Ycp,Ybn,Ydd]at ih;refine ZyG _ _ _ _ _ ?_;rw[Ya (by omega),wS hv (by omega)];refine⟨_,Zdg _ _ (by omega),?_⟩;rcases tf (has a (v:Int))with e|e
  .rw[e,Yb (by decide)];refine⟨_,Zdg _ _ (by omega),?_⟩;rcases tf (has b (v:Int))with e2|e2
   .rw[e2,Yb (by decide)];simpa[e,e2]using ih
   .rw[e2,Ya rfl];exact⟨by omega,by simpa[e,e2]using ih⟩
  .rw[e,Ya rfl];exact⟨by omega,by simpa[e]using ih⟩
theorem Zq4{a b:WA}(ha:a.length<=4)(hb:b.length<=4):KT a b=some (.own 0,[.arr 3 1 true ((uni a b).map ic)]):=Z8F _ _ _ (ZBU ha hb 0 (by omega))
def agP(av x bv y:WA)(i:Nat):Bool:=decide (cix bv (av.getD i 0)<0) || decide (x.getD i 0=ZP y (cix bv (av.getD i 0)))
theorem ZBV{av x bv y:WA}(hb:bv.length<=4)(ha:av.length<=4)(hx:x.length=av.length)(hy:y.length=bv.length):∀i,i<=av.length->ZcD av x bv y i=some (Bo ((List.range' i (av.length-i)).all (agP av x bv y)),[]):=by
 refine down _ ?_ ?_
 .refine ZyH _ _ _ _ _ _ ?_;rw[Yb (by omega),Yc5];rfl
 .intro i hi ih;refine ZyH _ _ _ _ _ _ ?_;rw[Ya (by omega),wS hi (by omega),show av.length-i=(av.length-(i+1))+1 by omega,Ycl,Y3];refine⟨by omega,_,gE hi,_,xFd hb _,?_⟩;have e0:av.getD i 0=av[i]:=by rw[Y5,Yi hi];rfl
  by_cases h:0<=cix bv av[i]
  .obtain⟨c1,c2,c3⟩:=Xj (W7.1 h);rw[Ya h];refine⟨_,gE (by omega),_,V8 c1 (by omega),?_⟩;have e1:x.getD i 0=x[i]:=by rw[Y5,Yi (show i<x.length by omega)];rfl
   by_cases h2:x[i]=ZP y (cix bv av[i])
   .rw[Ya h2,ih,show agP av x bv y i=true by unfold agP;rw[e0,e1];simp[h2],Yy]
   .rw[Yb h2,show agP av x bv y i=false by unfold agP;rw[e0,e1];simp[h2];omega,Ydq]
  .rw[Yb h,ih,show agP av x bv y i=true by unfold agP;rw[e0];simp;omega,Yy]
theorem ZBW{av x bv y:WA}(hb:bv.length<=4)(ha:av.length<=4)(hx:x.length=av.length)(hy:y.length=bv.length):Xs av x bv y=some (Bo (agr av x bv y),[]):=by
 refine Z8G _ _ _ _ _ ?_;have:=ZBV hb ha hx hy 0 (Yd _);rw[Yda,<-Yd5]at this;exact this
theorem ZBX{vs av x bv y:WA}(c:vs.length<=8)(ha:av.length<=4)(hb:bv.length<=4)(hh:∀v∈vs,has av v=true\/has bv v=true)(hx:x.length=av.length)(hy:y.length=bv.length):∀i,i<=vs.length->ZcE ((vs.take i).map (mrV av x bv y)) vs av x bv y i=some (.own 0,[.arr 3 1 true ((vs.map (mrV av x bv y)).map ic)]):=by
 refine down _ ?_ ?_
 .refine ZyI _ _ _ _ _ _ _ _ ?_;rw[Yb (by omega),Yc4]
 .intro i hi ih;refine ZyI _ _ _ _ _ _ _ _ ?_;rw[Yb0 hi,Ybn]at ih;have hl:((vs.take i).map (mrV av x bv y)).length<=8:=by simp;omega
  rw[Ya (by omega),wS hi (by omega)];refine⟨by omega,_,gE hi,_,xFd ha _,?_⟩;have hv:=hh _ (Yh hi);generalize vs[i]=v at *
  by_cases h:0<=cix av v
  .obtain⟨c1,c2,c3⟩:=Xj (W7.1 h);have e:mrV av x bv y v=ZP x (cix av v):=by unfold mrV;rw[Ya h]
   rw[Ya h];refine⟨_,V8 c1 (by omega),by omega,?_⟩;rw[<-ih,<-e];rfl
  .have hbv:has bv v=true:=hv.resolve_left λe=>h (W7.2 e)
   obtain⟨c1,c2,c3⟩:=Xj hbv;have e:mrV av x bv y v=ZP y (cix bv v):=by unfold mrV;rw[Yb h]
   rw[Yb h];refine⟨_,xFd hb _,c1,_,V8 c1 (by omega),by omega,?_⟩;rw[<-ih,<-e];rfl
theorem ZBY{vs av x bv y:WA}(c:vs.length<=8)(ha:av.length<=4)(hb:bv.length<=4)(hh:∀v∈vs,has av v=true\/has bv v=true)(hx:x.length=av.length)(hy:y.length=bv.length):Xt vs av x bv y=some (.own 0,[.arr 3 1 true ((vs.map (mrV av x bv y)).map ic)]) :=
 Z8H _ _ _ _ _ _ (by simpa using ZBX c ha hb hh hx hy 0 (Yd _))
def pj(a b:Zb)(flip:Bool)(only:Int)(c i k:Nat):Option (WA) :=
 if flip=true then prS (uni a.Vars b.Vars) a.Vars (a.Rows.getD k []) b.Vars (b.Rows.getD i [])
 else if only<0\/kx c (a.Rows.getD i [])=only then prS (uni a.Vars b.Vars) a.Vars (a.Rows.getD i []) b.Vars (b.Rows.getD k [])else none
def oN(a b:Zb)(flip:Bool):Nat:=if flip=true then b.Rows.length else a.Rows.length
def iN(a b:Zb)(flip:Bool):Nat:=if flip=true then a.Rows.length else b.Rows.length
structure Md (a b:Zb) (flip:Bool) (only x1:Int) (c:Nat):Prop where
 m1:flip=true->only<0
 m2:0<=only->x1=(c:Int)/\∀r∈a.Rows,c<r.length
theorem mn{n i:Nat}(hn:n<=4096)(h:i<n):(if w ((n:Int)-1)<(i:Int)then w ((n:Int)-1)else(i:Int))=(i:Int):=by
 rw[wA (by omega) (by omega),Yb (by omega)]
theorem mx{n i:Nat}(hn:n<=4096)(h:0<n):∃j:Nat,j<n/\(if w ((n:Int)-1)<(i:Int)then w ((n:Int)-1)else(i:Int))=(j:Int):=by
 rw[wA (by omega) (by omega)];by_cases e:(n:Int)-1<(i:Int)
 .rw[Ya e];exact⟨n-1,by omega,by omega⟩
 .rw[Yb e];exact⟨i,by omega,rfl⟩
theorem gDr{rows:XS}{i:Nat}(h:i<rows.length):rows.getD i []=rows[i]:=by rw[Y5,Yi h];rfl
section
variable{a b:Zb}(J:J2 a b){flip:Bool}{only x1:Int}{c:Nat}(M:Md a b flip only x1 c)
include J M
omit M in
theorem x_ag{x y:WA}(hx:x∈a.Rows)(hy:y∈b.Rows):Xs a.Vars x b.Vars y=some (Bo (agr a.Vars x b.Vars y),[]):=ZBW J.vb.four J.va.four (J.va.row4 hx).1 (J.vb.row4 hy).1
omit M in
theorem x_mg{x y:WA}(hx:x∈a.Rows)(hy:y∈b.Rows):Xt (uni a.Vars b.Vars) a.Vars x b.Vars y=some (.own 0,[.arr 3 1 true (((uni a.Vars b.Vars).map (mrV a.Vars x b.Vars y)).map ic)]):=ZBY J2.len J.va.four J.vb.four J2.hh (J.va.row4 hx).1 (J.vb.row4 hy).1
theorem ZjM{i k:Nat}(hi:i<oN a b flip)(hk:k<iN a b flip){N:Prop}{A:WA->Prop}(h:match pj a b flip only c i k with|none=>N|some r=>A r) :
  (0<=(if w ((a.Rows.length:Int)-1)<(i:Int)then w ((a.Rows.length:Int)-1)else(i:Int))/\∃e1,a.Rows[(if w ((a.Rows.length:Int)-1)<(i:Int)then w ((a.Rows.length:Int)-1)else(i:Int)).toNat]?=some e1/\
   0<=(if w ((b.Rows.length:Int)-1)<(k:Int)then w ((b.Rows.length:Int)-1)else(k:Int))/\∃e2,b.Rows[(if w ((b.Rows.length:Int)-1)<(k:Int)then w ((b.Rows.length:Int)-1)else(k:Int)).toNat]?=some e2/\
   (if flip=true then 0<=(k:Int)/\∃e3,a.Rows[(k:Int).toNat]?=some e3/\0<=(i:Int)/\∃e4,b.Rows[(i:Int).toNat]?=some e4/\
     (if only<0 then ∃v,Xs a.Vars e3 b.Vars e4=some (Bo v,[])/\(if v=true then ∃u,Xt (uni a.Vars b.Vars) a.Vars e3 b.Vars e4=some (.own 0,[.arr 3 1 true (u.map ic)])/\A u else N)
     else 0<=x1/\∃e7,e3[x1.toNat]?=some e7/\(if e7=only then ∃v,Xs a.Vars e3 b.Vars e4=some (Bo v,[])/\(if v=true then ∃u,Xt (uni a.Vars b.Vars) a.Vars e3 b.Vars e4=some (.own 0,[.arr 3 1 true (u.map ic)])/\A u else N)else N))
    else(if only<0 then ∃v,Xs a.Vars e1 b.Vars e2=some (Bo v,[])/\(if v=true then ∃u,Xt (uni a.Vars b.Vars) a.Vars e1 b.Vars e2=some (.own 0,[.arr 3 1 true (u.map ic)])/\A u else N)
     else 0<=x1/\∃e7,e1[x1.toNat]?=some e7/\(if e7=only then ∃v,Xs a.Vars e1 b.Vars e2=some (Bo v,[])/\(if v=true then ∃u,Xt (uni a.Vars b.Vars) a.Vars e1 b.Vars e2=some (.own 0,[.arr 3 1 true (u.map ic)])/\A u else N)else N)))):=by
 have hla:=J.va.len;have hlb:=J.vb.len;have core:∀{x y:WA},x∈a.Rows->y∈b.Rows->(match prS (uni a.Vars b.Vars) a.Vars x b.Vars y with|none=>N|some r=>A r)->
   ∃v,Xs a.Vars x b.Vars y=some (Bo v,[])/\(if v=true then ∃u,Xt (uni a.Vars b.Vars) a.Vars x b.Vars y=some (.own 0,[.arr 3 1 true (u.map ic)])/\A u else N):=by
  intro x y hx hy hm;refine⟨_,x_ag J hx hy,?_⟩;unfold prS at hm;by_cases e:agr a.Vars x b.Vars y=true
  .rw[Ya e]at hm|-;exact⟨_,x_mg J hx hy,hm⟩
  .rw[Yb e]at hm|-;exact hm
 rcases tf flip with e|e
 .subst e;simp only[oN,iN,Y7,if_false]at hi hk;simp only[pj,Y7,if_false]at h;rw[gDr hi,gDr hk]at h;rw[mn hla hi,mn hlb hk];refine⟨by omega,_,gE hi,by omega,_,gE hk,?_⟩;rw[Yb (by decide)];by_cases ho:only<0
  .rw[Ya (.inl ho)]at h;rw[Ya ho];exact core (Yh hi) (Yh hk) h
  .obtain⟨hx1,hc⟩:=M.m2 (by omega);have hci:=hc _ (Yh hi);have e1:a.Rows[i][c]=kx c a.Rows[i]:=(getElem!_pos a.Rows[i] c hci).symm;rw[Yb ho,hx1];refine⟨by omega,_,gE hci,?_⟩;rw[e1];by_cases h2:kx c a.Rows[i]=only
   .rw[Ya (.inr h2)]at h;rw[Ya h2];exact core (Yh hi) (Yh hk) h
   .rw[Yb (λh3=>h3.elim ho h2)]at h;rw[Yb h2];exact h
 .subst e;have ho:=M.m1 rfl;simp only[oN,iN,if_true]at hi hk;simp only[pj,if_true]at h;rw[gDr hi,gDr hk]at h;obtain⟨p,hp,ep⟩:=mx (i:=i) hla (show 0<a.Rows.length by omega);obtain⟨r,hr,er⟩:=mx (i:=k) hlb (show 0<b.Rows.length by omega);rw[ep,er];refine⟨by omega,_,gE hp,by omega,_,gE hr,?_⟩;rw[Ya rfl];refine⟨by omega,_,gE hk,by omega,_,gE hi,?_⟩;rw[Ya ho];exact core (Yh hk) (Yh hi) h
def pjT(a b:Zb)(flip:Bool)(only:Int)(c i k:Nat):XS:=(List.range' k (iN a b flip-k)).filterMap (pj a b flip only c i)
def pjO(a b:Zb)(flip:Bool)(only:Int)(c i:Nat):XS:=(List.range' i (oN a b flip-i)).flatMap λi=>pjT a b flip only c i 0
omit J M in
theorem ZjN{i k:Nat}(h:iN a b flip<=k):pjT a b flip only c i k=[]:=by unfold pjT;rw[show iN a b flip-k=0 by omega];rfl
omit J M in
theorem ZjO{i k:Nat}(h:k<iN a b flip):pjT a b flip only c i k=(match pj a b flip only c i k with|none=>[]|some r=>[r])++pjT a b flip only c i (k+1):=by
 unfold pjT;rw[show iN a b flip-k=(iN a b flip-(k+1))+1 by omega,Ycl]
 cases hc:pj a b flip only c i k with
 |none=>rw[Ydu hc];rfl
 |some r=>rw[Ydv hc];rfl
omit J M in
theorem ZjP{i:Nat}(h:oN a b flip<=i):pjO a b flip only c i=[]:=by unfold pjO;rw[show oN a b flip-i=0 by omega];rfl
omit J M in
theorem ZjQ{i:Nat}(h:i<oN a b flip):pjO a b flip only c i=pjT a b flip only c i 0++pjO a b flip only c (i+1):=by
 unfold pjO;rw[show oN a b flip-i=(oN a b flip-(i+1))+1 by omega,Ycl,Ybx]
omit M in
theorem Zd3:oN a b flip<=4096/\iN a b flip<=4096:=by
 have:=J.va.len;have:=J.vb.len;unfold oN iN;constructor<;>split<;>omega
def jN(vs:WA)(rows:XS):XR:=(.agg [.own 0,.own 1],[.arr 3 1 true (vs.map ic),.arr 42 1 true (rows.map isc)])
def jN1(vs:WA)(rows:XS):XR:=(.agg [.own 0,.own 2],[.arr 3 1 true (vs.map ic),.dead,.arr 42 1 true (rows.map isc)])
def jR(vs:WA)(rows:XS):XR:=if rows=[]then(.agg [.own 0,.t .nil],[.arr 3 1 true (vs.map ic)])else jN vs rows
def jR1(vs:WA)(acc rows:XS):XR:=if rows=[]then jN vs acc else jN1 vs (acc++rows)
theorem Z1e{i:Nat}(hi:i<oN a b flip)(ih:∀acc:XS,acc≠[]->(acc++pjO a b flip only c (i+1)).length<=4096->ZcG a b (uni a.Vars b.Vars) acc flip only x1 (oN a b flip) (iN a b flip) ((i+1:Nat):Int)=some (jN (uni a.Vars b.Vars) (acc++pjO a b flip only c (i+1)))) :
  ∀k,k<=iN a b flip->∀acc:XS,acc≠[]->(acc++(pjT a b flip only c i k++pjO a b flip only c (i+1))).length<=4096->XW a b (uni a.Vars b.Vars) acc flip only x1 (oN a b flip) (iN a b flip) i k=some (jN (uni a.Vars b.Vars) (acc++(pjT a b flip only c i k++pjO a b flip only c (i+1)))):=by
 obtain⟨ho,hn⟩:=Zd3 J (flip:=flip);refine down _ ?_ ?_
 .intro acc h0 hl;refine ZyL _ _ _ _ _ _ _ _ _ _ _ _ ?_;rw[ZjN (Yg _),Ybk]at hl|-;rw[Yb (by omega),wS hi (by omega)];exact ih acc h0 hl
 .intro k hk ih2 acc h0 hl;refine ZyL _ _ _ _ _ _ _ _ _ _ _ _ ?_;have hal:acc.length<=4096:=by rw[Ym]at hl;omega
  rw[ZjO hk]at hl|-;rw[Ya (by omega),Ya (by omega),wS hk (by omega)]
  have h:=ZjM J M hi hk (N:=XW a b (uni a.Vars b.Vars) acc flip only x1 (oN a b flip) (iN a b flip) i ((k+1:Nat):Int)=some (jN (uni a.Vars b.Vars) (acc++((match pj a b flip only c i k with|none=>[]|some r=>[r])++pjT a b flip only c i (k+1)++pjO a b flip only c (i+1))))) (A:=λr=>acc.length+1<=68719476736/\XW a b (uni a.Vars b.Vars) (acc++[r]) flip only x1 (oN a b flip) (iN a b flip) i ((k+1:Nat):Int)=some (jN (uni a.Vars b.Vars) (acc++((match pj a b flip only c i k with|none=>[]|some r=>[r])++pjT a b flip only c i (k+1)++pjO a b flip only c (i+1))))) (by
   cases hc:pj a b flip only c i k with
   |none =>
    rw[hc]at hl
    exact ih2 acc h0 hl
   |some r =>
    rw[hc]at hl;refine⟨by omega,?_⟩;have:=ih2 (acc++[r]) (by simp) (by simpa using hl);rw[this]
    simp)
  rcases tf flip with e|e<;>subst e<;>simp only[Y7,if_false,if_true,eq_self_iff_true]at h|-<;>exact h
theorem l_j1a:∀i,i<=oN a b flip->∀acc:XS,acc≠[]->(acc++pjO a b flip only c i).length<=4096->ZcG a b (uni a.Vars b.Vars) acc flip only x1 (oN a b flip) (iN a b flip) i=some (jN (uni a.Vars b.Vars) (acc++pjO a b flip only c i)):=by
 obtain⟨ho,hn⟩:=Zd3 J (flip:=flip);refine down _ ?_ ?_
 .intro acc h0 hl;refine ZyM _ _ _ _ _ _ _ _ _ _ _ ?_;rw[Yb (by omega),ZjP (Yg _),Ybd];rfl
 .intro i hi ih acc h0 hl;refine ZyM _ _ _ _ _ _ _ _ _ _ _ ?_;rw[ZjQ hi]at hl|-;rw[Ya (by omega)];exact Z1e J M hi ih 0 (Yd _) acc h0 hl
theorem Z1f{i:Nat}(hi:i<oN a b flip)(ih:∀acc:XS,acc≠[]->(acc++pjO a b flip only c (i+1)).length<=4096->ZcJ a b (uni a.Vars b.Vars) acc flip only x1 (oN a b flip) (iN a b flip) ((i+1:Nat):Int)=some (jN1 (uni a.Vars b.Vars) (acc++pjO a b flip only c (i+1)))) :
  ∀k,k<=iN a b flip->∀acc:XS,acc≠[]->(acc++(pjT a b flip only c i k++pjO a b flip only c (i+1))).length<=4096->XX a b (uni a.Vars b.Vars) acc flip only x1 (oN a b flip) (iN a b flip) i k=some (jN1 (uni a.Vars b.Vars) (acc++(pjT a b flip only c i k++pjO a b flip only c (i+1)))):=by
 obtain⟨ho,hn⟩:=Zd3 J (flip:=flip);refine down _ ?_ ?_
 .intro acc h0 hl;refine ZyP _ _ _ _ _ _ _ _ _ _ _ _ ?_;rw[ZjN (Yg _),Ybk]at hl|-;rw[Yb (by omega),wS hi (by omega)];exact ih acc h0 hl
 .intro k hk ih2 acc h0 hl;refine ZyP _ _ _ _ _ _ _ _ _ _ _ _ ?_;have hal:acc.length<=4096:=by rw[Ym]at hl;omega
  rw[ZjO hk]at hl|-;rw[Ya (by omega),Ya (by omega),wS hk (by omega)]
  have h:=ZjM J M hi hk (N:=XX a b (uni a.Vars b.Vars) acc flip only x1 (oN a b flip) (iN a b flip) i ((k+1:Nat):Int)=some (jN1 (uni a.Vars b.Vars) (acc++((match pj a b flip only c i k with|none=>[]|some r=>[r])++pjT a b flip only c i (k+1)++pjO a b flip only c (i+1))))) (A:=λr=>acc.length+1<=68719476736/\XX a b (uni a.Vars b.Vars) (acc++[r]) flip only x1 (oN a b flip) (iN a b flip) i ((k+1:Nat):Int)=some (jN1 (uni a.Vars b.Vars) (acc++((match pj a b flip only c i k with|none=>[]|some r=>[r])++pjT a b flip only c i (k+1)++pjO a b flip only c (i+1))))) (by
   cases hc:pj a b flip only c i k with
   |none =>
    rw[hc]at hl
    exact ih2 acc h0 hl
   |some r =>
    rw[hc]at hl;refine⟨by omega,?_⟩;have:=ih2 (acc++[r]) (by simp) (by simpa using hl);rw[this]
    simp)
  rcases tf flip with e|e<;>subst e<;>simp only[Y7,if_false,if_true,eq_self_iff_true]at h|-<;>exact h
theorem l_k1a:∀i,i<=oN a b flip->∀acc:XS,acc≠[]->(acc++pjO a b flip only c i).length<=4096->ZcJ a b (uni a.Vars b.Vars) acc flip only x1 (oN a b flip) (iN a b flip) i=some (jN1 (uni a.Vars b.Vars) (acc++pjO a b flip only c i)):=by
 obtain⟨ho,hn⟩:=Zd3 J (flip:=flip);refine down _ ?_ ?_
 .intro acc h0 hl;refine ZyQ _ _ _ _ _ _ _ _ _ _ _ ?_;rw[Yb (by omega),ZjP (Yg _),Ybd];rfl
 .intro i hi ih acc h0 hl;refine ZyQ _ _ _ _ _ _ _ _ _ _ _ ?_;rw[ZjQ hi]at hl|-;rw[Ya (by omega)];exact Z1f J M hi ih 0 (Yd _) acc h0 hl
theorem l_j1:∀i,i<=oN a b flip->(pjO a b flip only c i).length<=4096->ZcF a b (uni a.Vars b.Vars) flip only x1 (oN a b flip) (iN a b flip) i=some (jR (uni a.Vars b.Vars) (pjO a b flip only c i)):=by
 obtain⟨ho,hn⟩:=Zd3 J (flip:=flip);refine down _ ?_ ?_
 .intro hl;refine ZyJ _ _ _ _ _ _ _ _ _ _ ?_;rw[Yb (by omega),ZjP (Yg _)];rfl
 .intro i hi ih hl;have inner:∀k,k<=iN a b flip->((pjT a b flip only c i k++pjO a b flip only c (i+1))).length<=4096->UQ a b (uni a.Vars b.Vars) flip only x1 (oN a b flip) (iN a b flip) i k=some (jR (uni a.Vars b.Vars) (pjT a b flip only c i k++pjO a b flip only c (i+1))):=by
   refine down _ ?_ ?_
   .intro hl;refine ZyK _ _ _ _ _ _ _ _ _ _ _ ?_;rw[ZjN (Yg _),Ybk]at hl|-;rw[Yb (by omega),wS hi (by omega)];exact ih hl
   .intro k hk ih2 hl;refine ZyK _ _ _ _ _ _ _ _ _ _ _ ?_
    skip
    rw[ZjO hk]at hl|-;rw[Ya (by omega),wS hk (by omega)]
    have h:=ZjM J M hi hk (N:=UQ a b (uni a.Vars b.Vars) flip only x1 (oN a b flip) (iN a b flip) i ((k+1:Nat):Int)=some (jR (uni a.Vars b.Vars) ((match pj a b flip only c i k with|none=>[]|some r=>[r])++pjT a b flip only c i (k+1)++pjO a b flip only c (i+1)))) (A:=λr=>XW a b (uni a.Vars b.Vars) ([r]) flip only x1 (oN a b flip) (iN a b flip) i ((k+1:Nat):Int)=some (jR (uni a.Vars b.Vars) ((match pj a b flip only c i k with|none=>[]|some r=>[r])++pjT a b flip only c i (k+1)++pjO a b flip only c (i+1)))) (by
     cases hc:pj a b flip only c i k with
     |none =>
      rw[hc]at hl
      exact ih2 hl
     |some r =>
      rw[hc]at hl;dsimp only;have:=Z1e J M hi (l_j1a J M (i+1) hi) (k+1) hk ([r]) (by simp) (by simpa using hl);rw[this]
      simp[jR,jN])
    rcases tf flip with e|e<;>subst e<;>simp only[Y7,if_false,if_true,eq_self_iff_true]at h|-<;>exact h
  refine ZyJ _ _ _ _ _ _ _ _ _ _ ?_;rw[ZjQ hi]at hl|-;rw[Ya (by omega)];exact inner 0 (Yd _) hl
theorem l_k1{acc:XS}(h0:acc≠[]):∀i,i<=oN a b flip->(acc++pjO a b flip only c i).length<=4096->ZaI a b (uni a.Vars b.Vars) acc flip only x1 (oN a b flip) (iN a b flip) i=some (jR1 (uni a.Vars b.Vars) acc (pjO a b flip only c i)):=by
 obtain⟨ho,hn⟩:=Zd3 J (flip:=flip);refine down _ ?_ ?_
 .intro hl;refine ZyN _ _ _ _ _ _ _ _ _ _ _ ?_;rw[Yb (by omega),ZjP (Yg _)];rfl
 .intro i hi ih hl;have inner:∀k,k<=iN a b flip->(acc++(pjT a b flip only c i k++pjO a b flip only c (i+1))).length<=4096->UR a b (uni a.Vars b.Vars) acc flip only x1 (oN a b flip) (iN a b flip) i k=some (jR1 (uni a.Vars b.Vars) acc (pjT a b flip only c i k++pjO a b flip only c (i+1))):=by
   refine down _ ?_ ?_
   .intro hl;refine ZyO _ _ _ _ _ _ _ _ _ _ _ _ ?_;rw[ZjN (Yg _),Ybk]at hl|-;rw[Yb (by omega),wS hi (by omega)];exact ih hl
   .intro k hk ih2 hl;refine ZyO _ _ _ _ _ _ _ _ _ _ _ _ ?_;have hal:acc.length<=4096:=by rw[Ym]at hl;omega
    rw[ZjO hk]at hl|-;rw[Ya (by omega),Ya (by omega),wS hk (by omega)]
    have h:=ZjM J M hi hk (N:=UR a b (uni a.Vars b.Vars) acc flip only x1 (oN a b flip) (iN a b flip) i ((k+1:Nat):Int)=some (jR1 (uni a.Vars b.Vars) acc ((match pj a b flip only c i k with|none=>[]|some r=>[r])++pjT a b flip only c i (k+1)++pjO a b flip only c (i+1)))) (A:=λr=>acc.length+1<=68719476736/\XX a b (uni a.Vars b.Vars) (acc++[r]) flip only x1 (oN a b flip) (iN a b flip) i ((k+1:Nat):Int)=some (jR1 (uni a.Vars b.Vars) acc ((match pj a b flip only c i k with|none=>[]|some r=>[r])++pjT a b flip only c i (k+1)++pjO a b flip only c (i+1)))) (by
     cases hc:pj a b flip only c i k with
     |none =>
      rw[hc]at hl
      exact ih2 hl
     |some r =>
      rw[hc]at hl;refine⟨by omega,?_⟩;have:=Z1f J M hi (l_k1a J M (i+1) hi) (k+1) hk (acc++[r]) (by simp) (by simpa using hl);rw[this]
      simp[jR1,jN1])
    rcases tf flip with e|e<;>subst e<;>simp only[Y7,if_false,if_true,eq_self_iff_true]at h|-<;>exact h
  refine ZyN _ _ _ _ _ _ _ _ _ _ _ ?_;rw[ZjQ hi]at hl|-;rw[Ya (by omega)];exact inner 0 (Yd _) hl
end
theorem Z1g{α:Type}(l:List α)(d:α):(List.range' 0 l.length).map (λi=>l.getD i d)=l:=by
 refine Yca (by simp) λi h1 h2=>?_
 simp[Y5,h2]
theorem Zq5{α β:Type}(l:List α)(d:α)(f:α->List β):(List.range' 0 l.length).flatMap (λi=>f (l.getD i d))=l.flatMap f:=by
 conv=>rhs;rw[<-Z1g l d]
 rw[List.flatMap_map]
theorem Zq6{α β:Type}(l:List α)(d:α)(f:α->Option β):(List.range' 0 l.length).filterMap (λi=>f (l.getD i d))=l.filterMap f:=by
 conv=>rhs;rw[<-Z1g l d]
 rw[List.filterMap_map];rfl
theorem Z1h(a b:Zb)(only:Int)(c:Nat):pjO a b true only c 0=Vz (uni a.Vars b.Vars) a b:=by
 unfold pjO pjT Vz oN iN pj;simp only[if_true,Yda];rw[<-Zq5 b.Rows [] λy=>a.Rows.filterMap λx=>prS (uni a.Vars b.Vars) a.Vars x b.Vars y];congr 1;funext i;rw[Zq6 a.Rows [] λx=>prS (uni a.Vars b.Vars) a.Vars x b.Vars (b.Rows.getD i [])]
theorem Z1i(a b:Zb)(c:Nat):pjO a b false (-1) c 0=Xu (uni a.Vars b.Vars) a b:=by
 unfold pjO pjT Xu oN iN pj;simp only[Y7,if_false,Yda,show((-1:Int)<0)=True by simp,true_or,if_true];rw[<-Zq5 a.Rows [] λx=>b.Rows.filterMap λy=>prS (uni a.Vars b.Vars) a.Vars x b.Vars y];congr 1;funext i;rw[Zq6 b.Rows [] λy=>prS (uni a.Vars b.Vars) a.Vars (a.Rows.getD i []) b.Vars y]
theorem Z1j{α β:Type}(p:α->Bool)(f:α->List β):∀l:List α,(l.filter p).flatMap f=l.flatMap λx=>if p x=true then f x else[]
 |[]=>rfl
 |x::l=>by
  have ih:=Z1j p f l;rw[Ybx,<-ih,Ycc];split
  .rw[Ybx]
  .rfl
theorem ZjR(a b:Zb)(u c:Nat):pjO a b false (u:Int) c 0=Xu (uni a.Vars b.Vars) ⟨a.Vars,a.Rows.filter λr=>decide (kx c r=(u:Int))⟩ b:=by
 unfold pjO pjT Xu oN iN pj;simp only[Y7,if_false,Yda,show((u:Int)<0)=False by simp,false_or];rw[Z1j,<-Zq5 a.Rows [] λx=>if decide (kx c x=(u:Int))=true then b.Rows.filterMap λy=>prS (uni a.Vars b.Vars) a.Vars x b.Vars y else[]];congr 1;funext i;by_cases e:kx c (a.Rows.getD i [])=(u:Int)
 .simp only[e,if_true,decide_true];rw[Zq6 b.Rows [] λy=>prS (uni a.Vars b.Vars) a.Vars (a.Rows.getD i []) b.Vars y]
 .simp only[e,if_false,decide_false,Y7];simp
section
variable{a b:Zb}(J:J2 a b)
include J
theorem Zq7:(Xu (uni a.Vars b.Vars) a b).length<=4096:=by
 have:=Z0o (uni a.Vars b.Vars) a b;have:=J.prod;rw[Yc8]at this;omega
theorem Z1k:(Vz (uni a.Vars b.Vars) a b).length<=4096:=by
 have:=Z0p (uni a.Vars b.Vars) a b;have:=J.prod;omega
omit J in
theorem Zq8{vs:WA}{rows:XS}(hn:rows≠[])(hl:rows.length<=4096):Qs vs rows=some (.tup [.agg [.own 0,.own 1],Bo true],[.arr 3 1 true (vs.map ic),.arr 42 1 true (rows.map isc)]):=by
 refine Z8I _ _ _ ?_;rw[Yb (by omega)]
theorem ZBZ:ZaG a b=some (ZJ (Jo a b)):=by
 refine Z8J _ _ _ ⟨_,Zbh J.va,?_⟩;rw[Ya rfl];refine⟨_,Zbh J.vb,?_⟩;rw[Ya rfl];refine⟨_,Zq4 J.va.four J.vb.four,?_⟩;have hj:Uv (uni a.Vars b.Vars) a b true 0 (-1)=some (jR (uni a.Vars b.Vars) (Vz (uni a.Vars b.Vars) a b)):=by
  refine Zp6 _ _ _ _ _ _ _ ⟨_,xFd J.va.four 0,?_⟩;rw[Ya rfl];have:=l_j1 J (flip:=true) (only:=-1) (x1:=cix a.Vars 0) (c:=0) ⟨λ_=>by decide,λh=>absurd h (by decide)⟩ 0 (Yd _) (by rw[Z1h];exact Z1k J);rw[Z1h]at this;exact this
 show(_\/_);unfold Jo;by_cases e:Vz (uni a.Vars b.Vars) a b=[]
 .rw[e]at hj|-;exact .inl ⟨_,hj,_,Zp7 _ _ rfl,by rw[Jt]⟩
 .unfold jR at hj;rw[Yb e]at hj;exact .inr ⟨_,_,hj,.inr ⟨_,_,Zq8 e (Z1k J),by rw[Js e]⟩⟩
theorem ZCa:ZaH a b=some (ZJ (W8 a b)):=by
 refine Z8K _ _ _ ⟨_,Zbh J.va,?_⟩;rw[Ya rfl];refine⟨_,Zbh J.vb,?_⟩;rw[Ya rfl];refine⟨_,Zq4 J.va.four J.vb.four,?_⟩;have hj:Uv (uni a.Vars b.Vars) a b false 0 (-1)=some (jR (uni a.Vars b.Vars) (Xu (uni a.Vars b.Vars) a b)):=by
  refine Zp6 _ _ _ _ _ _ _ ⟨_,xFd J.va.four 0,?_⟩;rw[Yb (by decide)];have:=l_j1 J (flip:=false) (only:=-1) (x1:=cix a.Vars 0) (c:=0) ⟨λh=>absurd h (by decide),λh=>absurd h (by decide)⟩ 0 (Yd _) (by rw[Z1i];exact Zq7 J);rw[Z1i]at this;exact this
 show(_\/_);unfold W8;by_cases e:Xu (uni a.Vars b.Vars) a b=[]
 .rw[e]at hj|-;exact .inl ⟨_,hj,_,Zp7 _ _ rfl,by rw[Jt]⟩
 .unfold jR at hj;rw[Yb e]at hj;exact .inr ⟨_,_,hj,.inr ⟨_,_,Zq8 e (Zq7 J),by rw[Js e]⟩⟩
omit J in
def mgT(a b:Zb)(c u:Nat):XS:=(List.range' u (10-u)).flatMap λi:Nat=>Xu (uni a.Vars b.Vars) ⟨a.Vars,a.Rows.filter λr=>decide (kx c r=(i:Int))⟩ b
omit J in
theorem Z1l{c u:Nat}(h:u<10):mgT a b c u=Xu (uni a.Vars b.Vars) ⟨a.Vars,a.Rows.filter λr=>decide (kx c r=(u:Int))⟩ b++mgT a b c (u+1):=by
 unfold mgT;rw[show 10-u=(10-(u+1))+1 by omega,Ycl,Ybx]
variable{v:Int}(ha:has a.Vars v=true)
include ha
theorem Z1m(u:Nat):Md a b false (u:Int) (cix a.Vars v) (cix a.Vars v).toNat:=by
 obtain⟨c1,c2,c3⟩:=Xj ha;exact⟨λh=>absurd h (by decide),λ_=>⟨by omega,λr hr=>by have:=(J.va.row4 hr).1;omega⟩⟩
theorem l_mg0a:∀u:Nat,u<=10->∀acc:XS,acc≠[]->(acc++mgT a b (cix a.Vars v).toNat u).length<=4096->ZcL a b (uni a.Vars b.Vars) acc v u=some (ZJ ⟨uni a.Vars b.Vars,acc++mgT a b (cix a.Vars v).toNat u⟩):=by
 refine down 10 ?_ ?_
 .intro acc h0 hl;rw[show mgT a b (cix a.Vars v).toNat 10=[]from rfl,Ybd]at hl|-;refine ZyS _ _ _ _ _ _ _ ?_;rw[Yb (by decide),Js h0];exact .inr ⟨_,_,Zq8 h0 hl,rfl⟩
 .intro u hu ih acc h0 hl;rw[Z1l hu]at hl|-;have hj:ZfF (uni a.Vars b.Vars) acc a b false v (u:Int)=some (jR1 (uni a.Vars b.Vars) acc (Xu (uni a.Vars b.Vars) ⟨a.Vars,a.Rows.filter λr=>decide (kx (cix a.Vars v).toNat r=(u:Int))⟩ b)):=by
   refine Z8M _ _ _ _ _ _ _ _ ⟨_,xFd J.va.four v,?_⟩;rw[Yb (by decide)];have:=l_k1 J (Z1m J ha u) h0 0 (Yd _) (by rw[ZjR];simp only[Ym]at hl|-;omega);rw[ZjR]at this;exact this
  refine ZyS _ _ _ _ _ _ _ ?_;rw[Ya (by omega),wA (by omega) (by omega)];generalize Xu (uni a.Vars b.Vars) ⟨a.Vars,a.Rows.filter λr=>decide (kx (cix a.Vars v).toNat r=(u:Int))⟩ b=rows at *
  by_cases e:rows=[]
  .subst e;rw[Ybk]at hl|-;exact .inl ⟨_,_,hj,by exact_mod_cast ih acc h0 hl⟩
  .unfold jR1 at hj;rw[Yb e]at hj;refine .inr ⟨_,_,hj,?_⟩;have:=ih (acc++rows) (by simp[h0]) (by rw[Yt];exact hl);rw[Yt]at this
   exact_mod_cast this
theorem l_mg0:∀u:Nat,u<=10->(mgT a b (cix a.Vars v).toNat u).length<=4096->ZfG a b (uni a.Vars b.Vars) v u=some (ZJ ⟨uni a.Vars b.Vars,mgT a b (cix a.Vars v).toNat u⟩):=by
 refine down 10 ?_ ?_
 .intro hl;refine ZyR _ _ _ _ _ _ ?_;rw[Yb (by decide),show mgT a b (cix a.Vars v).toNat 10=[]from rfl,Jt];exact⟨_,Zp7 _ _ rfl,rfl⟩
 .intro u hu ih hl;rw[Z1l hu]at hl|-;have hj:Uv (uni a.Vars b.Vars) a b false v (u:Int)=some (jR (uni a.Vars b.Vars) (Xu (uni a.Vars b.Vars) ⟨a.Vars,a.Rows.filter λr=>decide (kx (cix a.Vars v).toNat r=(u:Int))⟩ b)):=by
   refine Zp6 _ _ _ _ _ _ _ ⟨_,xFd J.va.four v,?_⟩;rw[Yb (by decide)];have:=l_j1 J (Z1m J ha u) 0 (Yd _) (by rw[ZjR];simp only[Ym]at hl|-;omega);rw[ZjR]at this;exact this
  refine ZyR _ _ _ _ _ _ ?_;rw[Ya (by omega),wA (by omega) (by omega)];generalize Xu (uni a.Vars b.Vars) ⟨a.Vars,a.Rows.filter λr=>decide (kx (cix a.Vars v).toNat r=(u:Int))⟩ b=rows at *
  by_cases e:rows=[]
  .subst e;rw[Ybk]at hl|-;exact .inl ⟨_,hj,by exact_mod_cast ih hl⟩
  .unfold jR at hj;rw[Yb e]at hj;refine .inr ⟨_,_,hj,?_⟩
   exact_mod_cast l_mg0a J ha (u+1) (by omega) rows e hl
theorem ZCb(hb:has b.Vars v=true)(sa:a.Rows.Pairwise λp q=>kx (cix a.Vars v).toNat p<=kx (cix a.Vars v).toNat q)(sb:b.Rows.Pairwise λp q=>kx (cix b.Vars v).toNat p<=kx (cix b.Vars v).toNat q):ZcK a b v=some (ZJ (W8 a b)):=by
 refine Z8N _ _ _ _ ⟨_,Z0P J.va ha sa,?_⟩;rw[Ya rfl];refine⟨_,Z0P J.vb hb sb,?_⟩;rw[Ya rfl];refine⟨_,Zq4 J.va.four J.vb.four,?_⟩;have e:mgT a b (cix a.Vars v).toNat 0=Xu (uni a.Vars b.Vars) a b:=by
  unfold mgT;rw[Yda,<-Yd5];exact ZAY sa λr hr=>(J.va.ok ha r hr).2
 have:=l_mg0 J ha 0 (by omega) (by rw[e];exact Zq7 J);rw[e]at this;exact this
end
theorem J2.of{q:Ze}(hq:Zu q.Zk q.Atoms=true){u z:Za}{a b:Zb}(A:GS q u a)(B:GS q z b)(hu:0<=u.Mask/\u.Mask<16)(hz:0<=z.Mask/\z.Mask<16)(h0:andI u.Mask z.Mask=0):J2 a b:=by
 refine⟨A.vs hq,B.vs hq,?_⟩;have h1:=Ydj A.len B.len;rw[<-Nat.pow_add,<-Zqq hu hz h0]at h1;exact Yu h1 (Zj4 _)
theorem U5{out:List Zb}{s:Int}(h:s.toNat<out.length):out[s.toNat]?=some (out.getD s.toNat ⟨[],[]⟩):=by rw[Y5,Yi h];rfl
section
variable{d:Zn}(hd:LeD d){q:Ze}(hq:LeQ q)(h:Z6 d q=true){info:List Za}(hM:∀y∈info,0<=y.Mask/\y.Mask<16)
include hd hq h hM
omit hd hq in
theorem Z1n{out:List Zb}(G:GSs q info out){i:Nat}(hi:out.length=i){x:Zj}{y:Za}(F:Ue q.Atoms x (info.take i) y)(k1:x.Kind≠1)(k2:x.Kind≠2) :
  0<=y.Left/\out[y.Left.toNat]?=some (out.getD y.Left.toNat ⟨[],[]⟩)/\0<=y.Right/\out[y.Right.toNat]?=some (out.getD y.Right.toNat ⟨[],[]⟩)/\J2 (out.getD y.Left.toNat ⟨[],[]⟩) (out.getD y.Right.toNat ⟨[],[]⟩)/\(x.Kind=3\/x.Kind=4\/x.Kind=5)/\
  (x.Kind=4->∃v,x.Order=v/\has (out.getD y.Left.toNat ⟨[],[]⟩).Vars v=true/\has (out.getD y.Right.toNat ⟨[],[]⟩).Vars v=true/\
   ((out.getD y.Left.toNat ⟨[],[]⟩).Rows.Pairwise λp q=>kx (cix (out.getD y.Left.toNat ⟨[],[]⟩).Vars v).toNat p<=kx (cix (out.getD y.Left.toNat ⟨[],[]⟩).Vars v).toNat q)/\
   ((out.getD y.Right.toNat ⟨[],[]⟩).Rows.Pairwise λp q=>kx (cix (out.getD y.Right.toNat ⟨[],[]⟩).Vars v).toNat p<=kx (cix (out.getD y.Right.toNat ⟨[],[]⟩).Vars v).toNat q)):=by
 have hv:Zu q.Zk q.Atoms=true:=by unfold Z6 at h;simp only[Ye]at h;exact h.1
 have hm:∀{s:Nat} {u:Za},(info.take i)[s]?=some u->0<=u.Mask/\u.Mask<16:=λhs=>hM _ (Y9 (Yz hs))
 obtain⟨s,u,t,z,o,f1,f2,f3,f4,f5,rfl,f6⟩:=F.join k1 k2;obtain⟨a1,a2,A⟩:=Zbe G hi f1 f2;obtain⟨b1,b2,B⟩:=Zbe G hi f3 f4;refine⟨f1,a2,f3,b2,J2.of hv A B (hm f2) (hm f4) f5,by omega,λk4=>?_⟩;rcases f6 with⟨k,_⟩|⟨k,_⟩|⟨k,g1,g2,g3,g4,_⟩
 .omega
 .omega
 .have h0:0<=x.Order:=by unfold vin at g1;simp only[Ye]at g1;have:=g1.1;simp[inR]at this;omega
  have A2:=A.ord (by rw[g3];exact h0);have B2:=B.ord (by rw[g4];exact h0);rw[g3]at A2;rw[g4]at B2;exact⟨_,rfl,A2.1,B2.1,A2.2,B2.2⟩
omit hd hq hM in
theorem Z1o{out:List Zb}(G:GSs q info out){i:Nat}(hi:out.length=i){x:Zj}{y:Za}(F:Ue q.Atoms x (info.take i) y)(k2:x.Kind=2) :
  0<=y.Left/\out[y.Left.toNat]?=some (out.getD y.Left.toNat ⟨[],[]⟩)/\VS (out.getD y.Left.toNat ⟨[],[]⟩)/\has (out.getD y.Left.toNat ⟨[],[]⟩).Vars x.Order=true:=by
 have hv:Zu q.Zk q.Atoms=true:=by unfold Z6 at h;simp only[Ye]at h;exact h.1
 obtain⟨s,u,f1,f2,f3,rfl⟩:=F.sort k2;obtain⟨a1,a2,A⟩:=Zbe G hi f1 f2;exact⟨f1,a2,A.vs hv,(Zqu hv A f3 s).2⟩
omit hd hq h hM in
theorem Km(s:Zb):(s=⟨s.Vars,[]⟩/\ZJ s=(.tup [.agg [.own 0,.t .nil],Bo true],[.arr 3 1 true (s.Vars.map ic)]))\/ZJ s=(.tup [.agg [.own 0,.own 1],Bo true],[.arr 3 1 true (s.Vars.map ic),.arr 42 1 true (s.Rows.map isc)]):=by
 by_cases e:s.Rows=[]
 .left;refine⟨by cases s;simp only at e;rw[e],?_⟩;unfold ZJ;rw[Ya e]
 .right;unfold ZJ;rw[Yb e]
theorem l_exec{steps:List Zj}(hl:info.length=steps.length)(cd:steps.length<=14)(hF:∀(j:Nat) (y:Za) (x:Zj),info[j]?=some y->steps[j]?=some x->Ue q.Atoms x (info.take j) y):∀i,i<=steps.length->∀(cc:List Zb) (fr:Bool),cc.length=i->GSs q info cc->
  ∃fr',VD d q info fr cc steps steps.length i=some (.tup [.own 0,.own 1,Bo true],[.arr 113 4 true (info.map Za.c),.arr 102 2 fr' ((Wp d q (steps.drop i) (info.drop i) cc).map Zb.c)]):=by
 refine down _ ?_ ?_
 .intro cc fr hi G;refine⟨fr,Zjg _ _ _ _ _ _ _ _ _ ?_⟩;rw[Yb (by omega),Yp];rfl
 .intro i hi ih cc fr ho G;have hi2:i<info.length:=by omega
  have hx:steps[i]?=some steps[i]:=Yi hi;have hy:info[i]?=some info[i]:=Yi hi2;have F:=hF i _ _ hy hx;have hg:=Zj6 h G hM ho F;have G2:=Zqw G ho hy hg;have step:Wp d q (steps.drop i) (info.drop i) cc=Wp d q (steps.drop (i+1)) (info.drop (i+1)) (cc++[stS d q steps[i] info[i] cc]):=by
   rw[Yj hi,Yj hi2,Wp]
  have nx:∀fr,∃fr',VD d q info fr (cc++[stS d q steps[i] info[i] cc]) steps steps.length ((i+1:Nat):Int)=some (.tup [.own 0,.own 1,Bo true],[.arr 113 4 true (info.map Za.c),.arr 102 2 fr' ((Wp d q (steps.drop i) (info.drop i) cc).map Zb.c)]):=by
   intro fr;rw[step];exact ih _ fr (by simp[ho]) G2
  generalize Wp d q (steps.drop i) (info.drop i) cc=fin at nx|-;generalize hxx:steps[i]=x at *
  generalize hyy:info[i]=y at *
  have hol:cc.length+1<=68719476736:=by omega
  unfold stS at nx;by_cases k1:x.Kind=1
  .rw[Ya k1]at nx;obtain⟨f1,-⟩:=F.scan k1;have hs:=ZBJ hd hq h f1;obtain⟨fr',hn⟩:=nx fr;refine⟨fr',Zjg _ _ _ _ _ _ _ _ _ ?_⟩;rw[Ya (by omega),wS hi (by omega)];refine⟨by omega,x,by rw[Yf];exact hx,?_⟩;rw[Ya k1];rcases Km (V0 d q x.Zc)with⟨e1,e2⟩|e2
   .rw[e2]at hs;rw[e1]at hn;exact .inr (.inl ⟨_,hs,hol,hn⟩)
   .rw[e2]at hs;exact .inr (.inr ⟨_,_,hs,hol,hn⟩)
  .rw[Yb k1]at nx;by_cases k2:x.Kind=2
   .rw[Ya k2]at nx;obtain⟨l1,l2,l3,l4⟩:=Z1o h G ho F k2;obtain⟨fs,hs⟩:=ZBB l3 l4;obtain⟨fr',hn⟩:=nx (fr && fs);refine⟨fr',Zjg _ _ _ _ _ _ _ _ _ ?_⟩;rw[Ya (by omega),wS hi (by omega)];refine⟨by omega,x,by rw[Yf];exact hx,?_⟩;rw[Yb k1,Ya k2];exact⟨y,by rw[Yf];exact hy,l1,_,l2,.inr ⟨_,_,_,hs,hol,hn⟩⟩
   .rw[Yb k2]at nx;obtain⟨l1,l2,r1,r2,J,kk,m4⟩:=Z1n h hM G ho F k1 k2;obtain⟨fr',hn⟩:=nx fr;refine⟨fr',Zjg _ _ _ _ _ _ _ _ _ ?_⟩;rw[Ya (by omega),wS hi (by omega)];refine⟨by omega,x,by rw[Yf];exact hx,?_⟩;rw[Yb k1,Yb k2];by_cases k3:x.Kind=3
    .rw[Ya k3]at hn|-;refine⟨y,by rw[Yf];exact hy,l1,_,l2,r1,_,r2,?_⟩;have hs:=ZBS J;rcases Km (Jo (cc.getD y.Left.toNat ⟨[],[]⟩) (cc.getD y.Right.toNat ⟨[],[]⟩))with⟨e1,e2⟩|e2
     .rw[e2]at hs;rw[e1]at hn;exact .inr (.inl ⟨_,hs,hol,hn⟩)
     .rw[e2]at hs;exact .inr (.inr ⟨_,_,hs,hol,hn⟩)
    .rw[Yb k3]at hn|-;by_cases k4:x.Kind=4
     .rw[Ya k4];refine⟨y,by rw[Yf];exact hy,l1,_,l2,r1,_,r2,?_⟩;obtain⟨v,v1,v2,v3,v4,v5⟩:=m4 k4;have hs:=ZBT J v2 v3 v4 v5;rw[<-v1]at hs;rcases Km (W8 (cc.getD y.Left.toNat ⟨[],[]⟩) (cc.getD y.Right.toNat ⟨[],[]⟩))with⟨e1,e2⟩|e2
      .rw[e2]at hs;rw[e1]at hn;exact .inr (.inl ⟨_,hs,hol,hn⟩)
      .rw[e2]at hs;exact .inr (.inr ⟨_,_,hs,hol,hn⟩)
     .rw[Yb k4];refine⟨y,by rw[Yf];exact hy,l1,_,l2,r1,_,r2,?_⟩;have hs:=Z1d J;rcases Km (W8 (cc.getD y.Left.toNat ⟨[],[]⟩) (cc.getD y.Right.toNat ⟨[],[]⟩))with⟨e1,e2⟩|e2
      .rw[e2]at hs;rw[e1]at hn;exact .inr (.inl ⟨_,hs,hol,hn⟩)
      .rw[e2]at hs;exact .inr (.inr ⟨_,_,hs,hol,hn⟩)
theorem l_strm{p:Zo}(hl:info.length=p.Steps.length)(cd:p.Steps.length<=14)(hF:∀(j:Nat) (y:Za) (x:Zj),info[j]?=some y->p.Steps[j]?=some x->Ue q.Atoms x (info.take j) y):∀i,i<=p.Steps.length->∀(cc:List Zb),cc.length=i->GSs q info cc->
  Wf d q p info cc i=some (.tup [.own 0,.own 1,Bo true],[.arr 102 2 true ((Wp d q (p.Steps.drop i) (info.drop i) cc).map Zb.c),.arr 113 4 true (info.map Za.c)]):=by
 refine down _ ?_ ?_
 .intro cc hi G;refine ZyT _ _ _ _ _ _ _ ?_;rw[Yb (by omega),Yp];rfl
 .intro i hi ih cc ho G;have hi2:i<info.length:=by omega
  have hx:p.Steps[i]?=some p.Steps[i]:=Yi hi;have hy:info[i]?=some info[i]:=Yi hi2;have F:=hF i _ _ hy hx;have hg:=Zj6 h G hM ho F;have G2:=Zqw G ho hy hg;have step:Wp d q (p.Steps.drop i) (info.drop i) cc=Wp d q (p.Steps.drop (i+1)) (info.drop (i+1)) (cc++[stS d q p.Steps[i] info[i] cc]):=by
   rw[Yj hi,Yj hi2,Wp]
  have hn:Wf d q p info (cc++[stS d q p.Steps[i] info[i] cc]) ((i+1:Nat):Int)=some (.tup [.own 0,.own 1,Bo true],[.arr 102 2 true ((Wp d q (p.Steps.drop i) (info.drop i) cc).map Zb.c),.arr 113 4 true (info.map Za.c)]):=by
   rw[step];exact ih _ (by simp[ho]) G2
  generalize Wp d q (p.Steps.drop i) (info.drop i) cc=fin at hn|-;generalize hxx:p.Steps[i]=x at *
  generalize hyy:info[i]=y at *
  have hol:cc.length+1<=68719476736:=by omega
  unfold stS at hn;refine ZyT _ _ _ _ _ _ _ ?_;rw[Ya (by omega),wS hi (by omega)];refine⟨by omega,x,by rw[Yf];exact hx,?_⟩;by_cases k1:x.Kind=1
  .rw[Ya k1]at hn|-;obtain⟨f1,-⟩:=F.scan k1;have hs:=ZBO hd hq h f1;rcases Km (V0 d q x.Zc)with⟨e1,e2⟩|e2
   .rw[e2]at hs;rw[e1]at hn;exact .inr (.inl ⟨_,hs,hol,hn⟩)
   .rw[e2]at hs;exact .inr (.inr ⟨_,_,hs,hol,hn⟩)
  .rw[Yb k1]at hn|-;by_cases k2:x.Kind=2
   .rw[Ya k2]at hn|-;obtain⟨l1,l2,l3,l4⟩:=Z1o h G ho F k2;have hs:=ZBF l3 l4;refine⟨y,by rw[Yf];exact hy,l1,_,l2,?_⟩;rcases Km (Zbd (cc.getD y.Left.toNat ⟨[],[]⟩) x.Order)with⟨e1,e2⟩|e2
    .rw[e2]at hs;rw[e1]at hn;exact .inr (.inl ⟨_,hs,hol,hn⟩)
    .rw[e2]at hs;exact .inr (.inr ⟨_,_,hs,hol,hn⟩)
   .rw[Yb k2]at hn|-;obtain⟨l1,l2,r1,r2,J,kk,m4⟩:=Z1n h hM G ho F k1 k2;by_cases k3:x.Kind=3
    .rw[Ya k3]at hn|-;refine⟨y,by rw[Yf];exact hy,l1,_,l2,r1,_,r2,?_⟩;have hs:=ZBZ J;rcases Km (Jo (cc.getD y.Left.toNat ⟨[],[]⟩) (cc.getD y.Right.toNat ⟨[],[]⟩))with⟨e1,e2⟩|e2
     .rw[e2]at hs;rw[e1]at hn;exact .inl ⟨_,hs,hol,hn⟩
     .rw[e2]at hs;exact .inr (.inr ⟨_,_,hs,hol,hn⟩)
    .rw[Yb k3]at hn|-;by_cases k5:x.Kind=5
     .rw[Ya k5];refine⟨y,by rw[Yf];exact hy,l1,_,l2,r1,_,r2,?_⟩;have hs:=ZCa J;rcases Km (W8 (cc.getD y.Left.toNat ⟨[],[]⟩) (cc.getD y.Right.toNat ⟨[],[]⟩))with⟨e1,e2⟩|e2
      .rw[e2]at hs;rw[e1]at hn;exact .inl ⟨_,hs,hol,hn⟩
      .rw[e2]at hs;exact .inr (.inr ⟨_,_,hs,hol,hn⟩)
     .rw[Yb k5];refine⟨y,by rw[Yf];exact hy,l1,_,l2,r1,_,r2,?_⟩;have k4:x.Kind=4:=by clear m4;omega
      obtain⟨v,v1,v2,v3,v4,v5⟩:=m4 k4;have hs:=ZCb J v2 v3 v4 v5;rw[<-v1]at hs;rcases Km (W8 (cc.getD y.Left.toNat ⟨[],[]⟩) (cc.getD y.Right.toNat ⟨[],[]⟩))with⟨e1,e2⟩|e2
      .rw[e2]at hs;rw[e1]at hn;exact .inr (.inl ⟨_,hs,hol,hn⟩)
      .rw[e2]at hs;exact .inr (.inr ⟨_,_,hs,hol,hn⟩)
end
def XN(d:Zn)(q:Ze)(c:List Zj)(info:List Za):List Zb:=Wp d q c info []
theorem Zq9(q:Ze)(info:List Za):GSs q info []:=λj s h=>by simp at h
theorem ZCc{d:Zn}{q:Ze}(h:Z6 d q=true){info:List Za}(hM:∀y∈info,0<=y.Mask/\y.Mask<16){c:List Zj}(hl:info.length=c.length)(hF:∀(j:Nat) (y:Za) (x:Zj),info[j]?=some y->c[j]?=some x->Ue q.Atoms x (info.take j) y) :
  ∀i,i<=c.length->∀(cc:List Zb),cc.length=i->GSs q info cc->GSs q info (Wp d q (c.drop i) (info.drop i) cc)/\(Wp d q (c.drop i) (info.drop i) cc).length=c.length:=by
 refine down _ ?_ ?_
 .intro cc ho G;rw[Yp];exact⟨G,ho⟩
 .intro i hi ih cc ho G;have hi2:i<info.length:=by omega
  have hx:c[i]?=some c[i]:=Yi hi;have hy:info[i]?=some info[i]:=Yi hi2;have hg:=Zj6 h G hM ho (hF i _ _ hy hx);rw[Yj hi,Yj hi2,Wp];exact ih _ (by simp[ho]) (Zqw G ho hy hg)
structure PI (q:Ze) (p:Zo) (info:List Za):Prop where
 eq:Xr q.Zk q.Atoms p.Steps=some info
theorem PI.val{q:Ze}{p:Zo}{info:List Za}(P:PI q p info):Zu q.Zk q.Atoms=true/\info.length=p.Steps.length/\1<=p.Steps.length/\p.Steps.length<=14:=by
 have h:=JB P.eq;have h2:=P.eq;unfold Xr at h2;split at h2
 .rename_i hc;have:=hc.2;simp[inR]at this;exact⟨h.1,h.2.1,by omega,by omega⟩
 .cases h2
theorem PI.mask{q:Ze}{p:Zo}{info:List Za}(P:PI q p info):∀y∈info,0<=y.Mask/\y.Mask<16:=by
 intro y hy;have h1:=(Zho P.eq).1 y hy;have h2:=Xx P.val.1;unfold JC at h1
 have:(2:Int) ^ q.Atoms.length<=2 ^ 4:=by
  rcases(show q.Atoms.length=1\/q.Atoms.length=2\/q.Atoms.length=3\/q.Atoms.length=4 by omega)with e|e|e|e<;>rw[e]<;>decide
 omega
theorem Zd4{d:Zn}{q:Ze}(h:Z6 d q=true){p:Zo}{info:List Za}(P:PI q p info):GSs q info (XN d q p.Steps info)/\(XN d q p.Steps info).length=p.Steps.length:=by
 have:=ZCc h P.mask P.val.2.1 (Zd0 P.eq) 0 (Yd _) [] rfl (Zq9 q info);simpa[XN]using this
theorem ZCd{d:Zn}(hd:LeD d){q:Ze}(hq:LeQ q)(h:Z6 d q=true){p:Zo}{info:List Za}(P:PI q p info):∃fr,Zay d q p=some (.tup [.own 0,.own 1,Bo true],[.arr 113 4 true (info.map Za.c),.arr 102 2 fr ((XN d q p.Steps info).map Zb.c)]):=by
 obtain⟨fr,hf⟩:=l_exec hd hq h P.mask P.val.2.1 P.val.2.2.2 (Zd0 P.eq) 0 (Yd _) [] true rfl (Zq9 q info);have hp:=ZpF q p hq;rw[P.eq]at hp;refine⟨fr,Zp3 _ _ _ _ (.inr ⟨_,hp,_,Zqb d hd q hq,?_⟩)⟩;rw[h,Ya rfl];exact hf
theorem Z1p{d:Zn}(hd:LeD d){q:Ze}(hq:LeQ q){p:Zo}(h:Xr q.Zk q.Atoms p.Steps=none\/Z6 d q=false):Zay d q p=some (.tup [.t .nil,.t .nil,Bo false],[]):=by
 have hp:=ZpF q p hq
 cases e:Xr q.Zk q.Atoms p.Steps with
 |none =>
  rw[e]at hp
  exact Zp3 _ _ _ _ (.inl ⟨hp,rfl⟩)
 |some info =>
  rw[e]at hp;have h2:Z6 d q=false:=h.resolve_left (by rw[e];simp);refine Zp3 _ _ _ _ (.inr ⟨_,hp,_,Zqb d hd q hq,?_⟩);rw[h2,Yb (by decide)]
theorem Z1q{d:Zn}(hd:LeD d){q:Ze}(hq:LeQ q)(h:Z6 d q=true){p:Zo}{info:List Za}(P:PI q p info):KV d q p=some (.tup [.own 0,.own 1,Bo true],[.arr 102 2 true ((XN d q p.Steps info).map Zb.c),.arr 113 4 true (info.map Za.c)]):=by
 have hf:=l_strm hd hq h P.mask (p:=p) P.val.2.1 P.val.2.2.2 (Zd0 P.eq) 0 (Yd _) [] rfl (Zq9 q info);have hp:=Zjk q p hq;rw[P.eq]at hp;refine Zp9 _ _ _ _ ⟨_,_,hp,?_⟩;rw[Ya rfl];refine⟨_,Zdy d hd q hq,?_⟩;rw[h,Ya rfl];exact hf
theorem ZjS{d:Zn}(hd:LeD d){q:Ze}(hq:LeQ q){p:Zo}(h:Xr q.Zk q.Atoms p.Steps=none\/Z6 d q=false):∃info:List Za,KV d q p=some (.tup [.own 0,.own 1,Bo false],[.arr 102 2 true (([]:List Zb).map Zb.c),.arr 113 4 true (info.map Za.c)]):=by
 have hp:=Zjk q p hq
 cases e:Xr q.Zk q.Atoms p.Steps with
 |none =>
  rw[e]at hp;refine⟨[],Zp9 _ _ _ _ ⟨[],false,hp,?_⟩⟩
  rw[Yb (by decide)]
 |some info =>
  rw[e]at hp;have h2:Z6 d q=false:=h.resolve_left (by rw[e];simp);refine⟨info,Zp9 _ _ _ _ ⟨_,_,hp,?_⟩⟩;rw[Ya rfl];refine⟨_,Zdy d hd q hq,?_⟩;rw[h2,Yb (by decide)]
def W9(rows:XS):XS:=Wj (VW rows)
abbrev Ju(l:XS):Prop:=l.Pairwise λa b=>Zy a b<0
theorem Z1r:∀{a b:XS},Ju a->Ju b->(∀x,x∈a↔x∈b)->a=b
 |[],[],_,_,_=>rfl
 |[],y::b,_,_,h=>by have:=(h y).2 (by simp);cases this
 |x::a,[],_,_,h=>by have:=(h x).1 (by simp);cases this
 |x::a,y::b,ha,hb,h=>by
  have ha':=Y4.1 ha;have hb':=Y4.1 hb;have e:x=y:=by
   have h1:=(h x).1 (by simp);have h2:=(h y).2 (by simp);rcases Yl.1 h1 with e|e
   .exact e
   .rcases Yl.1 h2 with e2|e2
    .exact e2.symm
    .have h3:=hb'.1 x e;have h4:=ha'.1 y e2;have:=V7 x y;omega
  subst e;rw[Z1r ha'.2 hb'.2 λz=>?_];constructor
  .intro hz;have:=(h z).1 (by simp[hz]);rcases Yl.1 this with e|e
   .subst e;have:=ha'.1 _ hz;rw[Zd1]at this;omega
   .exact e
  .intro hz;have:=(h z).2 (by simp[hz]);rcases Yl.1 this with e|e
   .subst e;have:=hb'.1 _ hz;rw[Zd1]at this;omega
   .exact e
theorem Z1s:∀{l:XS},(l.Pairwise λa b=>leR a b=true)->Ju (Wj l)
 |[],_=>by simp[Wj]
 |[a],_=>by simp[Wj]
 |a::b::l,h=>by
  have h1:=Y4.1 h;have ih:=Z1s h1.2;unfold Wj;split
  .exact ih
  .rename_i e;refine Y4.2 ⟨λx hx=>?_,ih⟩;rw[ZjD]at hx;have hab:Zy a b<0:=by
    have h3:=h1.1 b (by simp);unfold leR at h3;simp only[decide_eq_true_eq]at h3;rcases Yd7 h3 with h4|h4
    .exact h4
    .exact absurd (Jq _ _ h4) e
   rcases Yl.1 hx with rfl|hx
   .exact hab
   .have h2:=(Y4.1 h1.2).1 x hx;unfold leR at h2;simp only[decide_eq_true_eq]at h2;have h5:=Zbf a b x (by omega) h2;rcases Yd7 h5 with h4|h4
    .exact h4
    .have:=Jq _ _ h4;subst this;have:=V7 a b;omega
theorem ZCe(rows:XS):Ju (W9 rows):=Z1s (Z0z rows)
theorem ZCf(rows:XS)(x:WA):x∈W9 rows↔x∈rows:=by unfold W9;rw[ZjD,(Zd2 rows).mem_iff]
theorem ZCg{rows:XS}(h1:rows.length<=4096)(h2:∀r∈rows,r.length<=4):Zi7 rows=some (.own 0,[.arr 42 1 true ((W9 rows).map isc)]):=by
 have hl:=(Zd2 rows).length_eq;refine Z85 _ _ ⟨_,ZpZ rows h2 (by omega),VW rows,?_,W9 rows,?_,rfl⟩
 .unfold ZnV;exact c_sort h1 h2
 .unfold ZnW;exact c_cpt (by omega) λr hr=>h2 r ((Zd2 rows).mem_iff.1 hr)
theorem Z1t{s:Zb}(h:VS s):UM s=some (.tup [.agg [.own 0,.own 1],Bo true],[.arr 3 1 true (s.Vars.map ic),.arr 42 1 true ((W9 s.Rows).map isc)]):=by
 refine Z86 _ _ ⟨_,Zbg h,?_⟩;rw[Ya rfl];exact⟨_,Zdp _ (by have:=h.four;omega),_,ZCg h.len λr hr=>(h.row4 hr).2,rfl⟩
def XZ:XS->WA->Bool->XS
 |[],row,put=>if put=true then[]else[row]
 |e::es,row,put=>if Zy e row=0 then e::XZ es row true else if 0<Zy e row then(if put=true then e::XZ es row true else row::e::XZ es row true)else e::XZ es row put
theorem ZjT:∀(es:XS) (row:WA),XZ es row true=es
 |[],_=>rfl
 |e::es,row=>by
  unfold XZ;rw[ZjT es row];simp
theorem ZjU:∀(es:XS) (row x:WA),x∈XZ es row false↔x∈es\/x=row
 |[],row,x=>by simp[XZ]
 |e::es,row,x=>by
  have ih:=ZjU es row x;unfold XZ;rw[ZjT];by_cases h1:Zy e row=0
  .rw[Ya h1];have:=Jq _ _ h1;subst this;simp;exact λh=>.inl h
  .rw[Yb h1];by_cases h2:0<Zy e row
   .rw[Ya h2,Yb (by decide)];simp only[Yl];constructor
    .rintro(h|h|h)
     .exact .inr h
     .exact .inl (.inl h)
     .exact .inl (.inr h)
    .rintro((h|h)|h)
     .exact .inr (.inl h)
     .exact .inr (.inr h)
     .exact .inl h
   .rw[Yb h2,Yl,ih,Yl,or_assoc]
theorem Z1u:∀{es:XS} (row:WA),Ju es->Ju (XZ es row false)
 |[],row,_=>by simp[XZ]
 |e::es,row,h=>by
  have h':=Y4.1 h;unfold XZ;rw[ZjT];by_cases h1:Zy e row=0
  .rw[Ya h1];exact h
  .rw[Yb h1];by_cases h2:0<Zy e row
   .rw[Ya h2,Yb (by decide)];have h3:Zy row e<0:=by have:=V7 e row;omega
    refine Y4.2 ⟨λx hx=>?_,h⟩;rcases Yl.1 hx with rfl|hx
    .exact h3
    .have h4:=h'.1 x hx;have h5:=Zbf row e x (by omega) (by omega);rcases Yd7 h5 with h6|h6
     .exact h6
     .have:=Jq _ _ h6;subst this;have:=V7 e row;omega
   .rw[Yb h2];refine Y4.2 ⟨λx hx=>?_,Z1u row h'.2⟩;rw[ZjU]at hx;rcases hx with hx|rfl
    .exact h'.1 x hx
    .omega
theorem Z1v:∀(es:XS) (row:WA) (put:Bool),(XZ es row put).length<=es.length+1
 |[],row,put=>by unfold XZ;split<;>simp
 |e::es,row,put=>by
  unfold XZ;rw[ZjT];have:=Z1v es row put;split
  .simp
  .split
   .split<;>simp
   .simp only[Ys];omega
theorem l_put{rows:XS}{row:WA}(hl:rows.length<=5000)(h4:∀r∈rows,r.length<=4)(hr:row.length<=4):∀i,i<=rows.length->∀(c:XS) (put:Bool),c.length+2*(rows.length-i)<=20000->Wu c rows row put i=some (.own 0,[.arr 42 1 true ((c++XZ (rows.drop i) row put).map isc)]):=by
 refine down _ ?_ ?_
 .intro c put ho;refine Zgc _ _ _ _ _ _ ?_;rw[Yb (by omega),Yp];rcases tf put with e|e
  .subst e;rw[Yb (by decide)];exact⟨by omega,by omega,rfl⟩
  .subst e;rw[Ya rfl];simp[XZ]
 .intro i hi ih c put ho;have he:=h4 _ (Yh hi);refine Zgc _ _ _ _ _ _ ?_;rw[Ya (by omega),wS hi (by omega),Yj hi];refine⟨by omega,_,gE hi,_,Zgp _ _ (by omega) (by omega),?_⟩;unfold XZ;by_cases h1:Zy rows[i] row=0
  .rw[Ya h1,Ya h1,Yb (by omega)];refine⟨by omega,by omega,?_⟩;rw[ih _ _ (by simp;omega)];simp
  .rw[Yb h1,Yb h1];by_cases h2:0<Zy rows[i] row
   .rw[Ya h2,Ya h2];rcases tf put with e|e
    .subst e;rw[Yb (by decide),Yb (by decide)];refine⟨by omega,by omega,by omega,by omega,?_⟩;rw[ih _ _ (by simp;omega)];simp
    .subst e;rw[Ya rfl,Ya rfl];refine⟨by omega,by omega,?_⟩;rw[ih _ _ (by simp;omega)];simp
   .rw[Yb h2,Yb h2];refine⟨by omega,by omega,?_⟩;rw[ih _ _ (by simp;omega)];simp
theorem x_put1{rows:XS}{row:WA}(hl:rows.length<=5000)(h4:∀r∈rows,r.length<=4)(hr:row.length<=4):K4 rows row=some (.own 0,[.arr 42 1 true ((XZ rows row false).map isc)]) :=
 ZwL _ _ _ (by simpa using l_put hl h4 hr 0 (Yd _) [] false (by simp;omega))
theorem x_put0{row:WA}(hr:row.length<=4):K3 row=some (.own 0,[.arr 42 1 true (([row]).map isc)]):=by
 refine ZwJ _ _ (ZwI _ _ _ _ _ ?_);rw[Yb (by decide),Yb (by decide)];exact⟨by omega,by simp,rfl⟩
def Zbi(acc rows:XS):XS:=rows.foldl (λl r=>XZ l r false) acc
theorem Z1w:∀(rows acc:XS) (x:WA),x∈Zbi acc rows↔x∈acc\/x∈rows
 |[],acc,x=>by simp[Zbi]
 |r::rows,acc,x=>by
  show x∈Zbi (XZ acc r false) rows↔_;rw[Z1w rows,ZjU,Yl,or_assoc]
theorem Z1x:∀{rows acc:XS},Ju acc->Ju (Zbi acc rows)
 |[],acc,h=>h
 |r::rows,acc,h=>Z1x (rows:=rows) (Z1u r h)
theorem ZCh(rows:XS):Zbi [] rows=W9 rows :=
 Z1r (Z1x .nil) (ZCe rows) λx=>by rw[Z1w,ZCf];simp
theorem ZCi{s:Zb}(h:VS s):∀i,i<=s.Rows.length->∀acc:XS,acc.length<=i->(∀r∈acc,r.length<=4)->ZfQ s s.Vars acc i=some (.tup [.agg [.own 0,.own 1],Bo true],[.arr 3 1 true (s.Vars.map ic),.arr 42 1 true ((Zbi acc (s.Rows.drop i)).map isc)]):=by
 have hl:=h.len;refine down _ ?_ ?_
 .intro acc ha h4;refine Zzi _ _ _ _ _ ?_;rw[Yb (by omega),Yp];rfl
 .intro i hi ih acc ha h4;have hr:=h.row4 (Yh hi);refine Zzi _ _ _ _ _ ?_;rw[Ya (by omega),wS hi (by omega),Yj hi];have hp:=Z1v acc s.Rows[i] false
  exact⟨by omega,_,gE hi,_,x_put1 (by omega) h4 hr.2,ih _ (by omega) (λr hm=>by
   rcases(ZjU _ _ _).1 hm with hm|rfl
   .exact h4 r hm
   .exact hr.2)⟩
def Zd5(s:Zb):XR:=if s.Rows=[]then(.tup [.agg [.own 0,.t .nil],Bo true],[.arr 3 1 true (s.Vars.map ic)])else(.tup [.agg [.own 0,.own 1],Bo true],[.arr 3 1 true (s.Vars.map ic),.arr 42 1 true ((W9 s.Rows).map isc)])
theorem ZjV{s:Zb}(h:VS s):Wl s=some (Zd5 s):=by
 have h4:=h.four;refine Z9k _ _ ⟨_,Zbh h,?_⟩;rw[Ya rfl];refine⟨by omega,Z9j _ _ _ _ ?_⟩;unfold Zd5;by_cases e:s.Rows=[]
 .rw[Yb (by rw[e];simp),Ya e]
 .have h0:0<s.Rows.length:=Yc1.2 e;have hr:=h.row4 (Yh h0);rw[Ya (by omega),Yb e];refine⟨by omega,_,gE h0,_,x_put0 hr.2,?_⟩;have:=ZCi h 1 (by omega) [s.Rows[0]] (by simp) (by simp[hr.2]);have e2:Zbi [s.Rows[0]] (s.Rows.drop 1)=W9 s.Rows:=by
   rw[<-ZCh]
   conv=>rhs;rw[<-Yo (l:=s.Rows),Yj h0]
   rfl
  rw[e2]at this;rw[show w (0+1)=((1:Nat):Int) by decide];exact this
def U6(f:Int->Int)(rd:WA):WA:=rd.filter λi=>!(rd.any λk=>decide (i<k) && decide (f k<=i))
def Z1y(f:Int->Int)(rd:WA):WA:=rd.foldl (λout i=>(out.filter λk=>decide (k<f i))++[i]) []
theorem ZCj(f:Int->Int)(l:WA)(i:Int)(h:∀x∈l,x<i):U6 f (l++[i])=((U6 f l).filter λk=>decide (k<f i))++[i]:=by
 unfold U6;rw[Ydd];congr 1
 .rw[List.filter_filter];refine List.filter_congr λx hx=>?_
  have hlt:=h x hx;rw[List.any_append];simp only[Ydk,List.any_nil,Bool.or_false,hlt,decide_true,Yy];by_cases hf:f i<=x
  .have:¬x<f i:=by omega
   simp[hf,this]
  .have:x<f i:=by omega
   simp[hf,this]
 .have:((l++[i]).any λk=>decide (i<k) && decide (f k<=i))=false:=by
   rw[Ydp];intro x hx;rcases Yk.mp hx with hx|hx
   .have:=h x hx
    have:¬i<x:=by omega
    simp[this]
   .simp at hx;subst hx;simp
  simp only[Ycc,this];simp
theorem Z1z(f:Int->Int):∀l2 l1:WA,List.Pairwise (·<·) (l1++l2)->l2.foldl (λout i=>(out.filter λk=>decide (k<f i))++[i]) (U6 f l1)=U6 f (l1++l2)
 |[],l1,_=>by simp
 |i::l2,l1,h=>by
  have e:l1++i::l2=(l1++[i])++l2:=by simp
  rw[e]at h|-;rw[Ydw,<-ZCj f l1 i (λx hx=>(List.pairwise_append.mp (List.pairwise_append.mp h).1).2.2 x hx i (by simp))];exact Z1z f l2 (l1++[i]) h
theorem ZCk(f:Int->Int)(l:WA)(h:List.Pairwise (·<·) l):Z1y f l=U6 f l:=Z1z f l [] h
theorem ZCl(n:Int)(h0:0<=n)(h1:n<=4096):Zfu n 0=some (I (X0 n),[]):=by
 unfold X0;rw[Yb (by omega:¬n<0)];refine Jd _ _ _ ⟨_,Qx 0,?_⟩;rw[show Z5 0=0 from by decide];by_cases c0:n<=0
 .rw[Ya c0,Ya c0]
 rw[Yb c0,Yb c0,show w (0+1)=1 from by decide];refine Jd _ _ _ ⟨_,Qx 1,?_⟩;rw[show Z5 1=1 from by decide];by_cases c1:n<=1
 .rw[Ya c1,Ya c1]
 rw[Yb c1,Yb c1,show w (1+1)=2 from by decide];refine Jd _ _ _ ⟨_,Qx 2,?_⟩;rw[show Z5 2=4 from by decide];by_cases c2:n<=4
 .rw[Ya c2,Ya c2]
 rw[Yb c2,Yb c2,show w (2+1)=3 from by decide];refine Jd _ _ _ ⟨_,Qx 3,?_⟩;rw[show Z5 3=16 from by decide];by_cases c3:n<=16
 .rw[Ya c3,Ya c3]
 rw[Yb c3,Yb c3,show w (3+1)=4 from by decide];refine Jd _ _ _ ⟨_,Qx 4,?_⟩;rw[show Z5 4=64 from by decide];by_cases c4:n<=64
 .rw[Ya c4,Ya c4]
 rw[Yb c4,Yb c4,show w (4+1)=5 from by decide];refine Jd _ _ _ ⟨_,Qx 5,?_⟩;rw[show Z5 5=256 from by decide];by_cases c5:n<=256
 .rw[Ya c5,Ya c5]
 rw[Yb c5,Yb c5,show w (5+1)=6 from by decide];refine Jd _ _ _ ⟨_,Qx 6,?_⟩;rw[show Z5 6=1024 from by decide];by_cases c6:n<=1024
 .rw[Ya c6,Ya c6]
 rw[Yb c6,Yb c6,show w (6+1)=7 from by decide];refine Jd _ _ _ ⟨_,Qx 7,?_⟩;rw[show Z5 7=4096 from by decide];rw[Ya h1,Ya h1]
theorem Jv{c a b:Prop}[Decidable c](h:c)(ha:a):if c then a else b:=by rw[Ya h];exact ha
theorem ZCm(n:Int)(h0:0<=n)(h1:n<=4096):ZfM n 0=some (I (X0 n),[]):=by
 unfold X0;rw[Yb (by omega:¬n<0)];refine Je _ _ _ (Jv (by decide) ⟨_,Qy 0,?_⟩);rw[show Z5 0=0 from by decide];by_cases c0:n<=0
 .rw[Ya c0,Ya c0]
 rw[Yb c0,Yb c0,show w (0+1)=1 from by decide];refine Je _ _ _ (Jv (by decide) ⟨_,Qy 1,?_⟩);rw[show Z5 1=1 from by decide];by_cases c1:n<=1
 .rw[Ya c1,Ya c1]
 rw[Yb c1,Yb c1,show w (1+1)=2 from by decide];refine Je _ _ _ (Jv (by decide) ⟨_,Qy 2,?_⟩);rw[show Z5 2=4 from by decide];by_cases c2:n<=4
 .rw[Ya c2,Ya c2]
 rw[Yb c2,Yb c2,show w (2+1)=3 from by decide];refine Je _ _ _ (Jv (by decide) ⟨_,Qy 3,?_⟩);rw[show Z5 3=16 from by decide];by_cases c3:n<=16
 .rw[Ya c3,Ya c3]
 rw[Yb c3,Yb c3,show w (3+1)=4 from by decide];refine Je _ _ _ (Jv (by decide) ⟨_,Qy 4,?_⟩);rw[show Z5 4=64 from by decide];by_cases c4:n<=64
 .rw[Ya c4,Ya c4]
 rw[Yb c4,Yb c4,show w (4+1)=5 from by decide];refine Je _ _ _ (Jv (by decide) ⟨_,Qy 5,?_⟩);rw[show Z5 5=256 from by decide];by_cases c5:n<=256
 .rw[Ya c5,Ya c5]
 rw[Yb c5,Yb c5,show w (5+1)=6 from by decide];refine Je _ _ _ (Jv (by decide) ⟨_,Qy 6,?_⟩);rw[show Z5 6=1024 from by decide];by_cases c6:n<=1024
 .rw[Ya c6,Ya c6]
 rw[Yb c6,Yb c6,show w (6+1)=7 from by decide];refine Je _ _ _ (Jv (by decide) ⟨_,Qy 7,?_⟩);rw[show Z5 7=4096 from by decide];rw[Ya h1,Ya h1]
theorem ZCn{n:Int}(h:inR n 0 4096=false):X0 n=-1:=by
 simp[inR]at h;unfold X0
 repeat' split
 all_goals omega
theorem Zgy(n:Int):Ut n=some (I (X0 n),[]):=by
 refine Z8m _ _ ⟨_,WN _ _ _,?_⟩;rcases tf (inR n 0 4096)with e|e
 .rw[e,ZCn e];simp
 .rw[Ya e];simp[inR]at e;exact ZCl n e.1 e.2
theorem Zbj(n:Int):Wk n=some (I (XI n),[]):=Z8n _ _ ⟨_,Zgy n,_,Qx _,rfl⟩
theorem Zbk(n:Int)(h1:n<=4096):VI n=some (I (X0 n),[]):=by
 refine Z9a _ _ ?_;by_cases c:n<0
 .rw[Ya c];unfold X0;rw[Ya c]
 .rw[Yb c];exact ZCm n (by omega) h1
theorem Zbl(n:Int)(h1:n<=4096):Xm n=some (I (XI n),[]):=Z9b _ _ ⟨_,Zbk n h1,_,Qy _,rfl⟩
def WB(m:Zm)(n:Int):Int:=if inR n 0 4096=true then X7 m.Scan (XI n) 0 (XI n)else -1
theorem ZqA(m:Zm)(hm:LeM m)(n:Int):QS m n=some (I (WB m n),[]):=by
 refine Z8p _ _ _ ⟨_,Zbj n,?_⟩;unfold WB;rcases tf (inR n 0 4096)with e|e
 .rw[Ya ((Zs7 n).2 e),e];simp
 .have:¬XI n<0:=λhc=>by rw[(Zs7 n).1 hc]at e;cases e
  rw[Yb this,Ya e];exact⟨_,ZaX _ hm.1 _ _ _,rfl⟩
theorem ZqB(m:Zm)(hm:LeM m)(n:Int):KW m n=some (I (WB m n),[]):=by
 refine Z9c _ _ _ ⟨_,XD _ _ _,?_⟩;unfold WB;rcases tf (inR n 0 4096)with e|e
 .rw[e];simp
 .rw[Ya e,Ya e];simp[inR]at e;exact⟨_,Zbl n e.2,_,Zdj _ hm.1 _ _ _,rfl⟩
def Uf(m:Zm)(k n:Int):Bool:=decide (WB m n<=X7 (mOp m k) 0 0 (XI n))
theorem ZjW(m:Zm):VE m=some (.bsl 1 5,[.box (m.c.map .t),.box [.ptr 0 0,.ptr 0 6,.ptr 0 12,.ptr 0 18,.ptr 0 24]]):=Zyk _ _ rfl
open Classical in
theorem ZCo(m:Zm)(hm:LeM m)(k n:Int):Zfv m k n=some (Bo (inR k 3 5 && inR n 0 4096 && decide (X8 m) && Uf m k n),[]):=by
 refine Z8q ⟨_,WN _ _ _,?_⟩;rcases tf (inR k 3 5)with e|e
 .rw[e];simp
 rw[Ya e];refine⟨_,WN _ _ _,?_⟩;rcases tf (inR n 0 4096)with e2|e2
 .rw[e,e2];simp
 rw[Ya e2];refine⟨_,ZpK m hm,?_⟩;by_cases e3:X8 m
 rotate_left
 .simp[e,e2,e3]
 rw[Ya (by simp[e3])];refine⟨_,ZqA m hm n,ZjW m,?_⟩;have q:=λj=>ZaX _ (hm.op j) 0 0 (XI n)
 have h3:k=3\/k=4\/k=5:=by simp[inR]at e;omega
 have q3:=q 3;have q4:=q 4;have q5:=q 5;simp only[mOp,Int.reduceEq,if_false,if_true]at q3 q4 q5;rcases h3 with rfl|rfl|rfl
 .rw[Yb (by decide),Yb (by decide),Ya (by decide)];exact⟨_,Zbj n,_,q3,by simp[e,e2,e3,Uf,mOp]⟩
 .rw[Yb (by decide),Yb (by decide),Yb (by decide),Ya (by decide)];exact⟨_,Zbj n,_,q4,by simp[e,e2,e3,Uf,mOp]⟩
 .rw[Yb (by decide),Yb (by decide),Yb (by decide),Yb (by decide),Ya (by decide)];exact⟨_,Zbj n,_,q5,by simp[e,e2,e3,Uf,mOp]⟩
theorem ZCp{qa:List Zc}{x:Zj}{info:List Za}{st:WA}{y:Za}(hs:Vq info st)(h:WW qa x info st=some y):y.Left<info.length/\(0<=y.Right->x.Kind<=5):=by
 unfold WW at h;split at h
 .split at h
  .cases h;exact⟨by simp;omega,λhc=>absurd (show(0:Int)<=-1 from hc) (by decide)⟩
  .cases h
 .split at h
  .cases h
  .split at h
   .split at h
    .rename_i s y' ht;split at h
     .cases h;obtain⟨_,t2,t3,_⟩:=UD hs (Yg 1) ht;exact⟨by simp;omega,λhc=>absurd (show(0:Int)<=-1 from hc) (by decide)⟩
     .cases h
    .cases h
   .split at h
    .rename_i s y' t z ht hu;split at h
     .obtain⟨_,t2,t3,_⟩:=UD hs (by omega:1<=2) ht;obtain⟨o,ho,rfl⟩:=Yr.1 h;refine⟨by simp;omega,λ_=>?_⟩;unfold VV at ho;split at ho
      .omega
      .split at ho
       .omega
       .split at ho
        .omega
        .cases ho
     .cases h
    .cases h
theorem Z10{qa:List Zc}:∀{xs:List Zj} {i:Nat} {info:List Za} {st:WA} {c:List Za} {cc:WA},XB qa xs i info st=some (c,cc)->
  Vq info st->info.length=i->∃tail,c=info++tail/\tail.length=xs.length/\∀(j:Nat) (y:Za) (x:Zj),tail[j]?=some y->xs[j]?=some x->y.Left<(i:Int)+j/\(0<=y.Right->x.Kind<=5)
 |[],i,info,st,c,cc,h,hs,hi=>by
  simp[XB]at h;obtain⟨rfl,rfl⟩:=h
  exact⟨[],by simp,rfl,by intro j y x hj;simp at hj⟩
 |x::xs,i,info,st,c,cc,h,hs,hi=>by
  rw[XB]at h;split at h
  .cases h
  .rename_i y hy;have hn:=Zeh hs y (st.length-WI y);rw[hi]at hn;obtain⟨tail,g2,g3,g4⟩:=Z10 h hn (by simp[hi]);refine⟨y::tail,by simp[g2],by simp[g3],?_⟩;intro j y' x' hj hx
   cases j with
   |zero =>
    simp at hj hx;subst hj;subst hx;have:=ZCp hs hy
    exact⟨by omega,this.2⟩
   |succ j =>
    have:=g4 j y' x' (by simpa using hj) (by simpa using hx);exact⟨by omega,this.2⟩
def lw(info:List Za):Prop:=∀(i:Nat) (y:Za),info[i]?=some y->y.Left<(i:Int)
theorem Zd6{n:Int}{qa:List Zc}{steps:List Zj}{info:List Za}(h:Xr n qa steps=some info) :
  lw info/\∀(j:Nat) (y:Za) (x:Zj),info[j]?=some y->steps[j]?=some x->0<=y.Right->x.Kind<=5:=by
 have hl:=(JB h).2.1;unfold Xr at h;split at h
 .split at h
  .rename_i info' st hg;split at h
   .cases h;obtain⟨tail,g2,g3,g4⟩:=Z10 hg (λs hs=>by cases hs) rfl;simp at g2;subst g2;refine⟨λi y hi=>?_,λj y x hj hx=>(g4 j y x hj hx).2⟩;have hi2:i<steps.length:=by
     have:=(Yv.1 hi).1;omega
    have:=(g4 i y _ hi (Yi hi2)).1;omega
   .cases h
  .cases h
 .cases h
def fst(info:List Za):Nat->Int->Int
 |0,i=>i
 |f+1,i=>match info[i.toNat]? with
  |some y=>if 0<=y.Left then fst info f y.Left else i
  |none=>i
def first(info:List Za)(i:Int):Int:=fst info (i.toNat+1) i
theorem Z11{info:List Za}(h:lw info):∀(f:Nat) (i:Int),0<=i->i.toNat<f->i.toNat<info.length->Zfw info i=some (I (fst info f i),[])
 |0,_,_,h1,_=>absurd h1 (Nat.not_lt_zero _)
 |f+1,i,h0,h1,h2=>by
  have e:=Yi h2;have hl:=h _ _ e;refine Z8r _ _ _ ⟨h0,_,e,?_⟩;unfold fst;rw[e];by_cases c:0<=info[i.toNat].Left
  .simp only[Ya c];exact Z11 h f _ c (by omega) (by omega)
  .simp only[Yb c]
theorem Z12{info:List Za}(h:lw info):∀(f:Nat) (i:Int),0<=i->i.toNat<f->i.toNat<info.length->ZfN info i=some (I (fst info f i),[])
 |0,_,_,h1,_=>absurd h1 (Nat.not_lt_zero _)
 |f+1,i,h0,h1,h2=>by
  have e:=Yi h2;have hl:=h _ _ e;refine Z9d _ _ _ ⟨h0,_,e,?_⟩;unfold fst;rw[e];by_cases c:0<=info[i.toNat].Left
  .simp only[Ya c];exact Z12 h f _ c (by omega) (by omega)
  .simp only[Yb c]
theorem ZCq{info:List Za}(h:lw info){i:Int}(h0:0<=i)(h2:i.toNat<info.length):Zi3 info i=some (I (first info i),[]):=Z8s _ _ _ (Z11 h _ i h0 (by omega) h2)
theorem Z13{info:List Za}(h:lw info){i:Int}(h0:0<=i)(h2:i.toNat<info.length):ZcX info i=some (I (first info i),[]):=Z9e _ _ _ (Z12 h _ i h0 (by omega) h2)
def XG(info:List Za)(i k:Int):Bool:=decide (i<k) && decide (first info k<=i)
theorem Z14{info:List Za}(h:lw info)(i:Int){k:Int}(h0:0<=k)(h2:k.toNat<info.length):Zfx info i k=some (Bo (XG info i k),[]):=by
 refine Z8t _ _ _ _ ?_;unfold XG;by_cases c:i<k
 .rw[Ya c];exact⟨_,ZCq h h0 h2,by simp[c]⟩
 .rw[Yb c];simp[c]
def inI(info:List Za)(js:WA):Prop:=∀j∈js,0<=j/\j.toNat<info.length
theorem ZCr{info:List Za}(h:lw info)(js:WA)(hj:inI info js)(hl:js.length<=1000)(i:Int):∀n,n<=js.length->Zfy js info i js.length n=some (I (ZM (XG info i) (js.drop n) n),[]):=by
 refine down _ ?_ ?_
 .refine Zyy _ _ _ _ _ _ ?_;rw[Yb (by omega),Yp];rfl
 .intro n hn ih;have h5:=ZL (i:=n) (by omega);obtain⟨g1,g2⟩:=hj _ (Yh hn);refine Zyy _ _ _ _ _ _ ?_;rw[Ya (by omega)];refine⟨by omega,_,Yi hn,_,Z8u _ _ _ _ ⟨_,Z14 h i g1 g2,rfl⟩,?_⟩;rw[Kz _ hn];split
  .rfl
  .rw[show w ((n:Int)+1)=((n+1:Nat):Int)from h5];exact ih
theorem ZCs{info:List Za}(h:lw info)(js:WA)(hj:inI info js)(hl:js.length<=1000)(i:Int):Zi6 js info i=some (Bo (js.any (XG info i)),[]):=by
 have q:=ZCr h js hj hl i 0 (Yd _);refine Z8w _ _ _ _ ⟨_,Z8v _ _ _ _ q,?_⟩;rw[Yo];rcases tf (js.any (XG info i))with e|e
 .rw[Zef _ _ _ e,e];rfl
 .have:=Zhk _ _ 0 e;rw[e];simp[this]
def okK(c:Int)(x:Zd):Bool:=decide (x.Mask=c) && inR x.Size 0 4096
def X9:List Zd->Int->Int
 |[],_=>-1
 |k::ks,mask=>if okK mask k=true then k.Size else X9 ks mask
theorem ZqC(c:Int):∀(ks:List Zd) (i:Nat),(ZM (okK c) ks i=-1/\X9 ks c=-1)\/∃(j:Nat) (k:Zd),ZM (okK c) ks i=((i+j:Nat):Int)/\ks[j]?=some k/\okK c k=true/\X9 ks c=k.Size
 |[],_=>.inl ⟨rfl,rfl⟩
 |k::ks,i=>by
  unfold ZM X9;rcases tf (okK c k)with e|e
  .rw[e];simp only[Y7,if_false];rcases ZqC c ks (i+1)with⟨h1,h2⟩|⟨j,k',h1,h2,h3,h4⟩
   .exact .inl ⟨h1,h2⟩
   .refine .inr ⟨j+1,k',?_,by simpa using h2,h3,h4⟩;rw[h1];omega
  .rw[e];exact .inr ⟨0,k,rfl,rfl,e,rfl⟩
theorem ZCt(ks:List Zd)(hl:Le ks)(info:List Za)(i:Int)(y:Za)(h0:0<=i)(hy:info[i.toNat]?=some y):∀n,n<=ks.length->Zft ks info i ks.length n=some (I (ZM (okK y.Mask) (ks.drop n) n),[]):=by
 refine down _ ?_ ?_
 .refine Zyx _ _ _ _ _ _ ?_;rw[Yb (by omega),Yp];rfl
 .intro n hn ih;have h5:=ZL (i:=n) (by omega);have q:Zi2 ks[n] info i=some (Bo (okK y.Mask ks[n]),[]):=by
   refine Z8k _ _ _ _ ⟨h0,_,hy,?_⟩;unfold okK;by_cases c:ks[n].Mask=y.Mask
   .rw[Ya c];exact⟨_,WN _ _ _,by simp[c]⟩
   .rw[Yb c];simp[c]
  refine Zyx _ _ _ _ _ _ ?_;rw[Ya (by omega)];refine⟨by omega,_,Yi hn,_,q,?_⟩;rw[Kz _ hn];split
  .rfl
  .rw[show w ((n:Int)+1)=((n+1:Nat):Int)from h5];exact ih
theorem ZCu(ks:List Zd)(hl:Le ks)(info:List Za)(i:Int)(y:Za)(h0:0<=i)(hy:info[i.toNat]?=some y):Zfs ks info i=some (I (ZM (okK y.Mask) ks 0),[]):=Z8l _ _ _ _ (ZCt ks hl info i y h0 hy 0 (Yd _))
theorem ZCv(ks:List Zd)(hl:Le ks)(cc:Int):∀n,n<=ks.length->ZcW ks cc n=some (I (X9 (ks.drop n) cc),[]):=by
 refine down _ ?_ ?_
 .refine Zzd _ _ _ _ ?_;rw[Yb (by omega),Yp];rfl
 .intro n hn ih;have h5:=ZL (i:=n) (by omega);refine Zzd _ _ _ _ ?_;rw[Ya (by omega)];refine⟨by omega,_,Yi hn,?_⟩;rw[Yj hn,X9,show w ((n:Int)+1)=((n+1:Nat):Int)from h5];unfold okK;by_cases c:ks[n].Mask=cc
  .rw[Ya c];refine⟨_,XD _ _ _,?_⟩;rcases tf (inR ks[n].Size 0 4096)with e|e
   .rw[e];simp only[Y7,if_false,Bool.and_false];exact ih
   .rw[e];simp[c]
  .rw[Yb c];simp only[c,decide_false,Ydq,Y7,if_false];exact ih
theorem ZCw(ks:List Zd)(hl:Le ks)(c:Int):ZiO ks c=some (I (X9 ks c),[]):=Z8Z _ _ _ (ZCv ks hl c 0 (Yd _))
theorem ZCx(steps:List Zj)(hl:steps.length<=100):∀i,i<=steps.length->∀out,out.length<=i->Zc4 out steps steps.length i=some (.own 0,[.arr ZU 1 true ((out++jst (steps.drop i) i).map ic)]):=by
 refine down _ ?_ ?_
 .intro out ho;refine Zyw _ _ _ _ _ ?_;rw[Yb (by omega),Yp];simp[jst]
 .intro i hi ih out ho;have h5:=ZL (i:=i) (by omega);refine Zyw _ _ _ _ _ ?_;rw[Ya (by omega),ZsK hi];refine⟨by omega,_,Yi hi,?_⟩;rw[show w ((i:Int)+1)=((i+1:Nat):Int)from h5];by_cases c:3<=(steps[i]).Kind
  .rw[Ya (by simpa using c),Ya c];refine⟨by omega,?_⟩;rw[ih _ (by simp;omega)];simp
  .rw[Yb (by simpa using c),Yb c];exact ih _ (by omega)
theorem ZCy(p:Zo)(hl:p.Steps.length<=100):Zfr p=some (.own 0,[.arr ZU 1 true ((jst p.Steps 0).map ic)]):=by
 have:=ZCx p.Steps hl 0 (Yd _) [] (Yd _);exact Z8j _ _ (by simpa using this)
theorem ZqD:∀(xs:List Zj) (i:Nat),List.Pairwise (·<·) (jst xs i)
 |[],_=>by simp[jst]
 |x::xs,i=>by
  unfold jst;split
  .refine Y4.2 ⟨λj hj=>?_,ZqD xs (i+1)⟩;have:=JD hj;omega
  .exact ZqD xs (i+1)
def rdB(m:Zm)(cc:List Zj)(info:List Za)(c:List Zd)(i:Int):Bool:=match cc[i.toNat]?,info[i.toNat]? with
 |some x,some y=>decide (0<=X9 c y.Mask) && Uf m x.Kind (X9 c y.Mask)
 |_,_=>false
def rdL(m:Zm)(c:List Zj)(info:List Za)(cc:List Zd)(i:Nat):WA:=(jst (c.drop i) i).filter (rdB m c info cc)
theorem l_rs1{info:List Za}(h:lw info)(rd:WA)(hj:inI info rd)(hl:rd.length<=1000):∀i,i<=rd.length->∀out,out.length<=i->
  Za5 info rd out rd.length i=some (.own 0,[.arr ZU 1 true ((out++(rd.drop i).filter λi=>!(rd.any (XG info i))).map ic)]):=by
 refine down _ ?_ ?_
 .intro out ho;refine Zy0 _ _ _ _ _ _ ?_;rw[Yb (by omega),Yp];simp
 .intro i hi ih out ho;have h5:=ZL (i:=i) (by omega);refine Zy0 _ _ _ _ _ _ ?_;rw[Ya (by omega)];refine⟨by omega,_,Yi hi,_,ZCs h rd hj hl _,?_⟩;rw[show w ((i:Int)+1)=((i+1:Nat):Int)from h5,Yj hi,Ycc];rcases tf (rd.any (XG info rd[i]))with e|e
  .rw[e,Yb (by decide),Ya (by decide)];refine⟨by omega,?_⟩;rw[ih _ (by simp;omega)];simp
  .rw[e,Ya rfl,Yb (by decide)];exact ih _ (by omega)
theorem l_rs0{m:Zm}(hm:LeM m)(ha:X8 m){p:Zo}{info:List Za}{kept:List Zd}(hk:Le kept)(c:info.length=p.Steps.length)
  (hK:∀(j:Nat) (y:Za) (x:Zj),info[j]?=some y->p.Steps[j]?=some x->(0<=y.Right↔3<=x.Kind)/\(0<=y.Right->x.Kind<=5))
  (js:WA) (hj:∀j∈js,0<=j/\∃x,p.Steps[j.toNat]?=some x/\3<=x.Kind) (hl:js.length<=1000) (r:XR):∀i,i<=js.length->∀rd,rd.length<=i->
  (∀l,l=rd++(js.drop i).filter (rdB m p.Steps info kept)->Za5 info l [] l.length 0=some r)->Za4 m p info rd js kept js.length i=some r:=by
 refine down _ ?_ ?_
 .intro rd ho hr;refine Zyz _ _ _ _ _ _ _ _ _ ?_;rw[Yb (by omega)];exact hr rd (by simp)
 .intro i hi ih rd ho hr;have h5:=ZL (i:=i) (by omega);obtain⟨j0,x,hx,h3⟩:=hj _ (Yh hi);have hlt:js[i].toNat<info.length:=by
   have:=(Yv.1 hx).1;omega
  have hy:=Yi hlt;generalize hy0:info[js[i].toNat]=y at hy;have hkk:=hK _ _ _ hy hx;have h35:inR x.Kind 3 5=true:=by
   have:=hkk.2 (hkk.1.2 h3);simp[inR];omega
  have hb:rdB m p.Steps info kept js[i]=(decide (0<=X9 kept y.Mask) && Uf m x.Kind (X9 kept y.Mask)):=by
   unfold rdB;rw[hx,hy]
  refine Zyz _ _ _ _ _ _ _ _ _ ?_;rw[Ya (by omega)];refine⟨by omega,_,Yi hi,_,ZCu kept hk info _ y j0 hy,?_⟩;rw[show w ((i:Int)+1)=((i+1:Nat):Int)from h5];rw[Yj hi,Ycc,hb]at hr;rcases ZqC y.Mask kept 0 with⟨f1,f2⟩|⟨j,k,f1,f2,f3,f4⟩
  .rw[f1,Yb (by decide)];rw[f2]at hr;exact ih _ (by omega) (by simpa using hr)
  .rw[f1,Ya (by omega)];have f5:=f3;simp only[okK,Ye,decide_eq_true_eq]at f5;have f6:=f5.2;simp[inR]at f6;refine⟨j0,_,hx,k,by simpa using f2,_,ZCo m hm _ _,?_⟩;rw[f4,show decide (0<=k.Size)=true by simp[f6.1],Yy]at hr;rcases tf (Uf m x.Kind k.Size)with e|e
   .rw[h35,f5.2,e];rw[e]at hr;simp only[Bool.and_false,Y7,if_false]at hr|-;exact ih _ (by omega) hr
   .rw[h35,f5.2,e];rw[e]at hr;simp only[ha,decide_true,Bool.and_self,if_true]at hr|-;refine⟨by omega,ih _ (by simp;omega) (by simpa using hr)⟩
open Classical in
noncomputable def WC(m:Zm)(q:Ze)(p:Zo)(c:List Zd):Option (WA):=match Xr q.Zk q.Atoms p.Steps with
 |some info=>if decide (X8 m)=true then some (U6 (first info) (rdL m p.Steps info c 0))else none
 |none=>none
theorem Z15:∀(xs:List Zj) (i:Nat) (j:Int),j∈jst xs i->∃x,xs[(j-i).toNat]?=some x/\3<=x.Kind
 |[],_,_,h=>by cases h
 |x::xs,i,j,h=>by
  unfold jst at h;have go:j∈jst xs (i+1)->∃y,(x::xs)[(j-i).toNat]?=some y/\3<=y.Kind:=λh=>by
   have:=JD h;obtain⟨y,h1,h2⟩:=Z15 xs (i+1) j h;refine⟨y,?_,h2⟩;rw[show(j-(i:Int)).toNat=(j-((i+1:Nat):Int)).toNat+1 by omega];simpa using h1
  split at h
  .rename_i c
   cases h with
   |head=>exact⟨x,by simp,c⟩
   |tail _ h=>exact go h
  .exact go h
theorem rdL_in(m:Zm)(steps:List Zj)(info:List Za)(kept:List Zd)(hl:info.length=steps.length):inI info (rdL m steps info kept 0):=by
 intro j hj;unfold rdL at hj;have:=JD (Y0.1 hj).1;simp at this;omega
open Classical in
theorem Z16(m:Zm)(hm:LeM m)(q:Ze)(hq:LeQ q)(p:Zo)(kept:List Zd)(hk:Le kept):QU m q p kept=some (match WC m q p kept with
  |some l=>(.own 0,[.arr ZU 1 true (l.map ic)])
  |none=>(.t .nil,[])):=by
 have q1:=ZpF q p hq;refine Z8x _ _ _ _ _ ?_;unfold WC
 cases he:Xr q.Zk q.Atoms p.Steps with
 |none=>rw[he]at q1;exact .inl ⟨q1,rfl⟩
 |some info =>
  rw[he]at q1;obtain⟨l1,l2,l3,l4⟩:=JB he;obtain⟨lf,l5⟩:=Zd6 he;have l6:=(Zho he).2;refine .inr ⟨info,q1,_,ZpK m hm,?_⟩;by_cases ha:X8 m
  rotate_left
  .simp[ha]
  .rw[Ya (by simp[ha])];refine⟨_,ZCy p (by omega),?_⟩;have hjl:=Zei p.Steps 0;refine l_rs0 hm ha hk l2 (λj y x h1 h2=>⟨l6 j y x h1 h2,l5 j y x h1 h2⟩) _ (λj hj=>?_) (by omega) _ 0 (Yd _) [] (Yd _) (λl hl=>?_)
   .have h1:=JD hj;obtain⟨x,h2,h3⟩:=Z15 _ _ _ hj;exact⟨by omega,x,by simpa using h2,h3⟩
   .have e:l=rdL m p.Steps info kept 0:=by simpa[rdL]using hl
    subst e;have hrl:(rdL m p.Steps info kept 0).length<=1000:=by
     unfold rdL;have:=Ybz (rdB m p.Steps info kept) (jst (p.Steps.drop 0) 0);have:=Zei (p.Steps.drop 0) 0;simp at this;simp at *
     omega
    have b:=l_rs1 lf _ (rdL_in m p.Steps info kept l2) hrl 0 (Yd _) [] (Yd _);rw[Yo,Ybk]at b;rw[show((0:Nat):Int)=0 from rfl]at b;rw[b];simp[ha];rfl
theorem ZCz(m:Zm)(q:Ze)(p:Zo)(c:List Zd):∀l,WC m q p c=some l->l.length<=14:=by
 intro l h;unfold WC at h;split at h
 .rename_i info he;obtain⟨l1,l2,l3,l4⟩:=JB he;split at h
  .cases h;unfold U6 rdL;refine Yu (Ybz _ _) (Yu (Ybz _ _) (Yu (Zei _ _) ?_));simp;omega
  .cases h
 .cases h
theorem l_sr0(m:Zm)(p:Zo)(out:WA)(info:List Za)(cc:List Zd)(i f:Int)(hl:out.length<=1000)(r:XR)(hr:QZ m p ((out.filter λk=>decide (k<f))++[i]) info cc (w (i+1))=some r):∀k,k<=out.length->∀next,next.length<=k->next++(out.drop k).filter (λk=>decide (k<f))=out.filter (λk=>decide (k<f))->
  ZcY m p out info next cc i f k=some r:=by
 refine down _ ?_ ?_
 .intro next ho hn
  refine Zzf _ _ _ _ _ _ _ _ _ _ ?_;rw[Yb (by omega)];rw[Yp,List.filter_nil,Ybd]at hn;subst hn;exact⟨by omega,hr⟩
 .intro k hk ih next ho hn
  have h5:=ZL (i:=k) (by omega);refine Zzf _ _ _ _ _ _ _ _ _ _ ?_;rw[Ya (by omega)];refine⟨by omega,_,Yi hk,?_⟩;rw[show w ((k:Int)+1)=((k+1:Nat):Int)from h5];rw[Yj hk,Ycc]at hn;by_cases c:out[k]<f
  .rw[Ya (by simpa using c)]at hn|-;exact⟨by omega,ih _ (by simp;omega) (by simpa using hn)⟩
  .rw[Yb (by simpa using c)]at hn|-;exact ih _ (by omega) hn
theorem l_sr1{m:Zm}(hm:LeM m){p:Zo}{info:List Za}{kept:List Zd}(hk:Le kept)(cc:info.length=p.Steps.length)(hl:p.Steps.length<=14)(lf:lw info)
  (hK:∀(j:Nat) (y:Za) (x:Zj),info[j]?=some y->p.Steps[j]?=some x->(0<=y.Right↔3<=x.Kind)):∀i,i<=p.Steps.length->∀out,out.length<=i->
  QZ m p out info kept i=some (.own 0,[.arr ZU 1 true (((rdL m p.Steps info kept i).foldl (λout i=>(out.filter λk=>decide (k<first info i))++[i]) out).map ic)]):=by
 refine down _ ?_ ?_
 .intro out ho;refine Zze _ _ _ _ _ _ _ ?_;rw[Yb (by omega)];simp[rdL,jst]
 .intro i hi ih out ho;have h5:=ZL (i:=i) (by omega);have hi':i<info.length:=by omega
  have hx:=Yi hi;have hy:=Yi hi';generalize hx0:p.Steps[i]=x at hx;generalize hy0:info[i]=y at hy;have hkk:=hK _ _ _ hy hx;have hb:rdB m p.Steps info kept i=(decide (0<=X9 kept y.Mask) && Uf m x.Kind (X9 kept y.Mask)):=by
   unfold rdB;rw[show(i:Int).toNat=i by omega,hx,hy]
  have hd:rdL m p.Steps info kept i=if 3<=x.Kind/\rdB m p.Steps info kept i=true then(i:Int)::rdL m p.Steps info kept (i+1)else rdL m p.Steps info kept (i+1):=by
   unfold rdL;rw[ZsK hi,hx0];by_cases c:3<=x.Kind
   .rw[Ya c,Ycc];simp only[c,true_and]
   .rw[Yb c];simp only[c,false_and,if_false]
  refine Zze _ _ _ _ _ _ _ ?_;rw[Ya (by omega)];refine⟨by omega,y,hy,_,ZCw kept hk _,?_⟩;have h6:w ((i:Int)+1)=((i+1:Nat):Int):=h5;by_cases c1:y.Right<0
  .rw[Ya c1,h6]
   have:¬3<=x.Kind:=λhc=>by have:=hkk.2 hc;omega
   rw[hd,Yb (λhc=>this hc.1)];exact ih _ (by omega)
  rw[Yb c1];have c3:3<=x.Kind:=hkk.1 (by omega);by_cases c2:X9 kept y.Mask<0
  .rw[Ya c2,h6]
   have:¬0<=X9 kept y.Mask:=by omega
   rw[hd,hb,Yb (λhc=>by have h8:=hc.2;simp only[Ye,decide_eq_true_eq]at h8;exact this h8.1)];exact ih _ (by omega)
  rw[Yb c2];have hn:X9 kept y.Mask<=4096:=by
   rcases ZqC y.Mask kept 0 with⟨f1,f2⟩|⟨j,k,f1,f2,f3,f4⟩
   .omega
   .simp only[okK,Ye,inR,decide_eq_true_eq]at f3;omega
  refine⟨_,ZqB m hm _,x,by simpa using hx,_,Zjn m _,_,Zbl _ hn,_,Zdj _ (hm.op _) _ _ _,?_⟩;by_cases c4:X7 (mOp m x.Kind) 0 0 (XI (X9 kept y.Mask))<WB m (X9 kept y.Mask)
  .rw[Ya c4,h6]
   have:¬Uf m x.Kind (X9 kept y.Mask)=true:=by unfold Uf;simp;omega
   rw[hd,hb,Yb (λhc=>this (by have:=hc.2;simp only[Ye]at this;exact this.2))];exact ih _ (by omega)
  .rw[Yb c4]
   have:Uf m x.Kind (X9 kept y.Mask)=true:=by unfold Uf;simp;omega
   refine⟨_,Z13 lf (by omega) (by omega),?_⟩;refine l_sr0 _ _ _ _ _ _ _ (by omega) _ ?_ 0 (Yd _) [] (Yd _) (by simp);rw[hd,hb,Ya ⟨c3,by simp[this];omega⟩,h6];have fl:=Ybz (λk=>decide (k<first info i)) out;rw[ih _ (by simp;omega)];rfl
open Classical in
theorem Z17(m:Zm)(hm:LeM m)(q:Ze)(hq:LeQ q)(p:Zo)(kept:List Zd)(hk:Le kept):KX m q p kept=some (.own 0,[.arr ZU 1 true (((WC m q p kept).getD []).map ic)]):=by
 have q1:=Zjk q p hq;refine Z9f _ _ _ _ _ ?_;unfold WC
 cases he:Xr q.Zk q.Atoms p.Steps with
 |none=>rw[he]at q1;exact⟨[],false,q1,by simp⟩
 |some info =>
  rw[he]at q1;obtain⟨l1,l2,l3,l4⟩:=JB he;obtain⟨lf,l5⟩:=Zd6 he;have l6:=(Zho he).2;refine⟨info,true,q1,?_⟩;rw[Ya rfl];refine⟨_,Zjo m hm,?_⟩;by_cases ha:X8 m
  rotate_left
  .simp[ha]
  .rw[Ya (by simp[ha])];have b:=l_sr1 hm hk l2 l4 lf l6 0 (Yd _) [] (Yd _);have k:=ZCk (first info) (rdL m p.Steps info kept 0) (by unfold rdL;exact(ZqD _ _).filter _);unfold Z1y at k;rw[k]at b;rw[show((0:Nat):Int)=0 from rfl]at b;rw[b];simp[ha]
end Go.Proofs.YtgbipcfdgfjplaaGreat
