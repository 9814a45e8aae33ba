/-
  Parts of the proofs for this seat: SD SE SF RX RT SQ SG.
-/
import Derived.Test.YtobfkfgdneeabaaGreatP28
set_option linter.all false
set_option maxRecDepth 100000
set_option maxHeartbeats 4000000
namespace Go.Proofs.YtobfkfgdneeabaaGreat
open Go.AM
def ZQw{a b:V2}(ha:a.length<=4)(hb:b.length<=4):∀v,v<=4->YO (((List.range v).map λu:Nat=>(u:Int)).filter λv=>has a v || has b v) a b v=some (.own 0,[.arr 3 1 true ((Ar a b).map ic)]):=by
 refine down 4 ?_ ?_
 .apply Xy.1.2.1.2;rw[Yb Om];rfl
 .intro v hv ih;have hl:(((List.range v).map λu:Nat=>(u:Int)).filter λv=>has a v || has b v).length<=4:=by
   grind
  rw[Di,Y5,xA]at ih;apply Xy.1.2.1.2;rw[An,wS hv E];refine⟨_,G3 _ _ E,?_⟩;rcases tf (has a (v:Int))with e|e
  .rw[e,Yb Om];refine⟨_,G3 _ _ E,?_⟩
   grind
  .grind
def Z29{a b:V2}(ha:a.length<=4)(hb:b.length<=4):IK a b=some (.own 0,[.arr 3 1 true ((Ar a b).map ic)]):=Xy.1.2.2.1 _ _ _ (ZQw ha hb 0 E)
def Oz(av x bv y:V2)(i:Nat):Bool:=decide (AD bv (av.getD i 0)<0) || decide (x.getD i 0=Xp y (AD bv (av.getD i 0)))
def ZQx{av x bv y:V2}(hb:bv.length<=4)(ha:av.length<=4)(hx:x.length=av.length)(hy:y.length=bv.length):∀i,i<=av.length->oC av x bv y i=some (Bo ((List.range' i (av.length-i)).all (Oz av x bv y)),[]):=by
 refine down _ ?_ ?_
 .simp[Xy.1.2.2.2.1,Et]
 .intro i hi ih;apply Xy.1.2.2.2.1;rw[An,wS hi E,show av.length-i=(av.length-(i+1))+1 by omega,Fs,Y6];refine⟨E,_,gE hi,_,Hb hb _,?_⟩;have e0:av.getD i 0=av[i]:=by rw[CF,Yh hi];rfl
  by_cases h:0<=AD bv av[i]
  .obtain⟨c1,c2,c3⟩:=XT (VK.1 h);rw[Ya h];refine⟨_,gE E,_,UN c1 E,?_⟩;have e1:x.getD i 0=x[i]:=by rw[CF,Yh (show i<x.length by omega)];rfl
   by_cases h2:x[i]=Xp y (AD bv av[i])
   .rw[Ya h2,ih,show Oz av x bv y i=true by unfold Oz;rw[e0,e1];simp[h2],Yk]
   .rw[Yb h2,show Oz av x bv y i=false by unfold Oz;rw[e0,e1];simp[h2];omega,FM]
  .rw[Yb h,ih,show Oz av x bv y i=true by unfold Oz;rw[e0];simp;omega,Yk]
def ZQy{av x bv y:V2}(hb:bv.length<=4)(ha:av.length<=4)(hx:x.length=av.length)(hy:y.length=bv.length):VH av x bv y=some (Bo (agr av x bv y),[]):=by
 apply Xy.1.2.2.2.2;have:=ZQx hb ha hx hy 0 (Yc _);rw[Hz,<-xF]at this;exact this
def ZQz{vs av x bv y:V2}(c:vs.length<=8)(ha:av.length<=4)(hb:bv.length<=4)(hh:∀v∈vs,has av v=true\/has bv v=true)(hx:x.length=av.length)(hy:y.length=bv.length):∀i,i<=vs.length->YP ((vs.take i).map (BL av x bv y)) vs av x bv y i=some (.own 0,[.arr 3 1 true ((vs.map (BL av x bv y)).map ic)]):=by
 refine down _ ?_ ?_
 .simp[Xy.2.1.1.1,Yw]
 .intro i hi ih;apply Xy.2.1.1.1;rw[Yx hi,Y5]at ih;have hl:((vs.take i).map (BL av x bv y)).length<=8:=by simp;omega
  rw[An,wS hi E];refine⟨E,_,gE hi,_,Hb ha _,?_⟩;have hv:=hh _ (Ye hi);generalize vs[i]=v at *
  by_cases h:0<=AD av v
  .obtain⟨c1,c2,c3⟩:=XT (VK.1 h);have e:BL av x bv y v=Xp x (AD av v):=by unfold BL;rw[Ya h]
   grind [UN]
  .have hbv:has bv v=true:=hv.resolve_left λe=>h (VK.2 e)
   obtain⟨c1,c2,c3⟩:=XT hbv;have e:BL av x bv y v=Xp y (AD bv v):=by unfold BL;rw[Yb h]
   grind [Hb,UN]
def ZQ0{vs av x bv y:V2}(c:vs.length<=8)(ha:av.length<=4)(hb:bv.length<=4)(hh:∀v∈vs,has av v=true\/has bv v=true)(hx:x.length=av.length)(hy:y.length=bv.length):Qk vs av x bv y=some (.own 0,[.arr 3 1 true ((vs.map (BL av x bv y)).map ic)]) :=
 Xy.2.1.1.2 _ _ _ _ _ _ (by simpa using ZQz c ha hb hh hx hy 0 (Yc _))
def pj(a b:Ze)(flip:Bool)(only:Int)(c i k:Nat):Option (V2) :=
 if flip=true then BB (Ar a.Vars b.Vars) a.Vars (a.Rows.getD k []) b.Vars (b.Rows.getD i [])
 else if only<0\/kx c (a.Rows.getD i [])=only then BB (Ar a.Vars b.Vars) a.Vars (a.Rows.getD i []) b.Vars (b.Rows.getD k [])else none
def oN(a b:Ze)(flip:Bool):Nat:=if flip=true then b.Rows.length else a.Rows.length
def iN(a b:Ze)(flip:Bool):Nat:=if flip=true then a.Rows.length else b.Rows.length
structure Md (a b:Ze) (flip:Bool) (only x1:Int) (c:Nat):Prop where
 m1:flip=true->only<0
 m2:0<=only->x1=(c:Int)/\∀r∈a.Rows,c<r.length
def mn{n i:Nat}(hn:n<=4096)(h:i<n):(if w ((n:Int)-1)<(i:Int)then w ((n:Int)-1)else(i:Int))=(i:Int):=by
 grind [wA]
def mx{n i:Nat}(hn:n<=4096)(h:0<n):∃j:Nat,j<n/\(if w ((n:Int)-1)<(i:Int)then w ((n:Int)-1)else(i:Int))=(j:Int):=by
 rw[wA E E];by_cases e:(n:Int)-1<(i:Int)
 .rw[Ya e];exact⟨n-1,E,E⟩
 .grind
def gDr{rows:XS}{i:Nat}(h:i<rows.length):rows.getD i []=rows[i]:=by rw[CF,Yh h];rfl
section
variable{a b:Ze}(J:J2 a b){flip:Bool}{only x1:Int}{c:Nat}(M:Md a b flip only x1 c)
include J M
omit M in
theorem Abd{x y:V2}(hx:x∈a.Rows)(hy:y∈b.Rows):VH a.Vars x b.Vars y=some (Bo (agr a.Vars x b.Vars y),[]):=ZQy J.vb.four J.va.four (J.va.Ve hx).1 (J.vb.Ve hy).1
omit M in
theorem Abe{x y:V2}(hx:x∈a.Rows)(hy:y∈b.Rows):Qk (Ar a.Vars b.Vars) a.Vars x b.Vars y=some (.own 0,[.arr 3 1 true (((Ar a.Vars b.Vars).map (BL a.Vars x b.Vars y)).map ic)]):=ZQ0 J2.len J.va.four J.vb.four J2.hh (J.va.Ve hx).1 (J.vb.Ve hy).1
theorem ZqY{i k:Nat}(hi:i<oN a b flip)(hk:k<iN a b flip){N:Prop}{A:V2->Prop}(h:match pj a b flip only c i k with|none=>N|some r=>A r) :
  (0<=(if w ((a.Rows.length:Int)-1)<(i:Int)then w ((a.Rows.length:Int)-1)else(i:Int))/\∃e1,a.Rows[(if w ((a.Rows.length:Int)-1)<(i:Int)then w ((a.Rows.length:Int)-1)else(i:Int)).toNat]?=some e1/\
   0<=(if w ((b.Rows.length:Int)-1)<(k:Int)then w ((b.Rows.length:Int)-1)else(k:Int))/\∃e2,b.Rows[(if w ((b.Rows.length:Int)-1)<(k:Int)then w ((b.Rows.length:Int)-1)else(k:Int)).toNat]?=some e2/\
   (if flip=true then 0<=(k:Int)/\∃e3,a.Rows[(k:Int).toNat]?=some e3/\0<=(i:Int)/\∃e4,b.Rows[(i:Int).toNat]?=some e4/\
     (if only<0 then ∃v,VH a.Vars e3 b.Vars e4=some (Bo v,[])/\(if v=true then ∃u,Qk (Ar a.Vars b.Vars) a.Vars e3 b.Vars e4=some (.own 0,[.arr 3 1 true (u.map ic)])/\A u else N)
     else 0<=x1/\∃e7,e3[x1.toNat]?=some e7/\(if e7=only then ∃v,VH a.Vars e3 b.Vars e4=some (Bo v,[])/\(if v=true then ∃u,Qk (Ar a.Vars b.Vars) a.Vars e3 b.Vars e4=some (.own 0,[.arr 3 1 true (u.map ic)])/\A u else N)else N))
    else(if only<0 then ∃v,VH a.Vars e1 b.Vars e2=some (Bo v,[])/\(if v=true then ∃u,Qk (Ar a.Vars b.Vars) a.Vars e1 b.Vars e2=some (.own 0,[.arr 3 1 true (u.map ic)])/\A u else N)
     else 0<=x1/\∃e7,e1[x1.toNat]?=some e7/\(if e7=only then ∃v,VH a.Vars e1 b.Vars e2=some (Bo v,[])/\(if v=true then ∃u,Qk (Ar a.Vars b.Vars) a.Vars e1 b.Vars e2=some (.own 0,[.arr 3 1 true (u.map ic)])/\A u else N)else N)))):=by
 have hla:=J.va.len;have hlb:=J.vb.len;have core:∀{x y:V2},x∈a.Rows->y∈b.Rows->(match BB (Ar a.Vars b.Vars) a.Vars x b.Vars y with|none=>N|some r=>A r)->
   ∃v,VH a.Vars x b.Vars y=some (Bo v,[])/\(if v=true then ∃u,Qk (Ar a.Vars b.Vars) a.Vars x b.Vars y=some (.own 0,[.arr 3 1 true (u.map ic)])/\A u else N):=by
  intro x y hx hy hm;refine⟨_,Abd J hx hy,?_⟩;unfold BB at hm
  grind [Abe]
 rcases tf flip with e|e
 .subst e;simp only[oN,iN,Fy,if_false]at hi hk;simp only[pj,Fy,if_false]at h;rw[gDr hi,gDr hk]at h;rw[mn hla hi,mn hlb hk];refine⟨E,_,gE hi,E,_,gE hk,?_⟩;rw[Yb Om];by_cases ho:only<0
  .simp_all
  .obtain⟨hx1,hc⟩:=M.m2 E;have hci:=hc _ (Ye hi);have e1:a.Rows[i][c]=kx c a.Rows[i]:=(getElem!_pos a.Rows[i] c hci).symm;rw[Yb ho,hx1];refine⟨E,_,gE hci,?_⟩
   grind
 .subst e;have ho:=M.m1 rfl;simp only[oN,iN,if_true]at hi hk;simp only[pj,if_true]at h;rw[gDr hi,gDr hk]at h;obtain⟨p,hp,ep⟩:=mx (i:=i) hla (show 0<a.Rows.length by omega);obtain⟨r,hr,er⟩:=mx (i:=k) hlb (show 0<b.Rows.length by omega)
  simp_all
def Cb(a b:Ze)(flip:Bool)(only:Int)(c i k:Nat):XS:=(List.range' k (iN a b flip-k)).filterMap (pj a b flip only c i)
def BH(a b:Ze)(flip:Bool)(only:Int)(c i:Nat):XS:=(List.range' i (oN a b flip-i)).flatMap λi=>Cb a b flip only c i 0
omit J M in
theorem ZqZ{i k:Nat}(h:iN a b flip<=k):Cb a b flip only c i k=[]:=by unfold Cb;rw[show iN a b flip-k=0 by omega];rfl
omit J M in
theorem Zra{i k:Nat}(h:k<iN a b flip):Cb a b flip only c i k=(match pj a b flip only c i k with|none=>[]|some r=>[r])++Cb a b flip only c i (k+1):=by
 unfold Cb;rw[show iN a b flip-k=(iN a b flip-(k+1))+1 by omega,Fs]
 grind
omit J M in
theorem Zrb{i:Nat}(h:oN a b flip<=i):BH a b flip only c i=[]:=by unfold BH;rw[show oN a b flip-i=0 by omega];rfl
omit J M in
theorem Zrc{i:Nat}(h:i<oN a b flip):BH a b flip only c i=Cb a b flip only c i 0++BH a b flip only c (i+1):=by
 unfold BH;rw[show oN a b flip-i=(oN a b flip-(i+1))+1 by omega,Fs,Es]
omit M in
theorem aX:oN a b flip<=4096/\iN a b flip<=4096:=by
 have:=J.va.len;have:=J.vb.len;unfold oN iN
 grind
def jN(vs:V2)(rows:XS):XR:=(.agg [.own 0,.own 1],[.arr 3 1 true (vs.map ic),.arr 38 1 true (rows.map Ae)])
def OA(vs:V2)(rows:XS):XR:=(.agg [.own 0,.own 2],[.arr 3 1 true (vs.map ic),.dead,.arr 38 1 true (rows.map Ae)])
def jR(vs:V2)(rows:XS):XR:=if rows=[]then(.agg [.own 0,.t .nil],[.arr 3 1 true (vs.map ic)])else jN vs rows
def OB(vs:V2)(acc rows:XS):XR:=if rows=[]then jN vs acc else OA vs (acc++rows)
theorem ZDA{i:Nat}(hi:i<oN a b flip)(ih:∀acc:XS,acc≠[]->(acc++BH a b flip only c (i+1)).length<=4096->oD a b (Ar a.Vars b.Vars) acc flip only x1 (oN a b flip) (iN a b flip) ((i+1:Nat):Int)=some (jN (Ar a.Vars b.Vars) (acc++BH a b flip only c (i+1)))) :
  ∀k,k<=iN a b flip->∀acc:XS,acc≠[]->(acc++(Cb a b flip only c i k++BH a b flip only c (i+1))).length<=4096->Kr a b (Ar a.Vars b.Vars) acc flip only x1 (oN a b flip) (iN a b flip) i k=some (jN (Ar a.Vars b.Vars) (acc++(Cb a b flip only c i k++BH a b flip only c (i+1)))):=by
 obtain⟨ho,hn⟩:=aX J (flip:=flip);refine down _ ?_ ?_
 .intro acc h0 hl;apply Xy.2.2.1.1;rw[ZqZ (Yi _),Er]at hl|-;rw[Ao,wS hi E];exact ih acc h0 hl
 .intro k hk ih2 acc h0 hl;apply Xy.2.2.1.1;have hal:acc.length<=4096:=by rw[Yo]at hl;omega
  rw[Zra hk]at hl|-;rw[An,An,wS hk E]
  have h:=ZqY J M hi hk (N:=Kr a b (Ar a.Vars b.Vars) acc flip only x1 (oN a b flip) (iN a b flip) i ((k+1:Nat):Int)=some (jN (Ar a.Vars b.Vars) (acc++((match pj a b flip only c i k with|none=>[]|some r=>[r])++Cb a b flip only c i (k+1)++BH a b flip only c (i+1))))) (A:=λr=>acc.length+1<=68719476736/\Kr a b (Ar a.Vars b.Vars) (acc++[r]) flip only x1 (oN a b flip) (iN a b flip) i ((k+1:Nat):Int)=some (jN (Ar a.Vars b.Vars) (acc++((match pj a b flip only c i k with|none=>[]|some r=>[r])++Cb a b flip only c i (k+1)++BH a b flip only c (i+1))))) (by
   cases hc:pj a b flip only c i k with
   |none =>
    rw[hc]at hl
    exact ih2 acc h0 hl
   |some r =>
    rw[hc]at hl;refine⟨E,?_⟩;have:=ih2 (acc++[r]) Z (by simpa using hl);rw[this]
    simp)
  rcases tf flip with e|e<;>subst e<;>simp only[Fy,if_false,if_true,eq_self_iff_true]at h|-<;>exact h
theorem rQ:∀i,i<=oN a b flip->∀acc:XS,acc≠[]->(acc++BH a b flip only c i).length<=4096->oD a b (Ar a.Vars b.Vars) acc flip only x1 (oN a b flip) (iN a b flip) i=some (jN (Ar a.Vars b.Vars) (acc++BH a b flip only c i)):=by
 obtain⟨ho,hn⟩:=aX J (flip:=flip);refine down _ ?_ ?_
 .intro acc h0 hl;apply Xy.2.2.1.2;rw[Ao,Zrb (Yi _),CX];rfl
 .intro i hi ih acc h0 hl;apply Xy.2.2.1.2;rw[Zrc hi]at hl|-;rw[An];exact ZDA J M hi ih 0 (Yc _) acc h0 hl
theorem ZDB{i:Nat}(hi:i<oN a b flip)(ih:∀acc:XS,acc≠[]->(acc++BH a b flip only c (i+1)).length<=4096->oG a b (Ar a.Vars b.Vars) acc flip only x1 (oN a b flip) (iN a b flip) ((i+1:Nat):Int)=some (OA (Ar a.Vars b.Vars) (acc++BH a b flip only c (i+1)))) :
  ∀k,k<=iN a b flip->∀acc:XS,acc≠[]->(acc++(Cb a b flip only c i k++BH a b flip only c (i+1))).length<=4096->Ks a b (Ar a.Vars b.Vars) acc flip only x1 (oN a b flip) (iN a b flip) i k=some (OA (Ar a.Vars b.Vars) (acc++(Cb a b flip only c i k++BH a b flip only c (i+1)))):=by
 obtain⟨ho,hn⟩:=aX J (flip:=flip);refine down _ ?_ ?_
 .intro acc h0 hl;apply WI.1.2.2.1;rw[ZqZ (Yi _),Er]at hl|-;rw[Ao,wS hi E];exact ih acc h0 hl
 .intro k hk ih2 acc h0 hl;apply WI.1.2.2.1;have hal:acc.length<=4096:=by rw[Yo]at hl;omega
  rw[Zra hk]at hl|-;rw[An,An,wS hk E]
  have h:=ZqY J M hi hk (N:=Ks a b (Ar a.Vars b.Vars) acc flip only x1 (oN a b flip) (iN a b flip) i ((k+1:Nat):Int)=some (OA (Ar a.Vars b.Vars) (acc++((match pj a b flip only c i k with|none=>[]|some r=>[r])++Cb a b flip only c i (k+1)++BH a b flip only c (i+1))))) (A:=λr=>acc.length+1<=68719476736/\Ks a b (Ar a.Vars b.Vars) (acc++[r]) flip only x1 (oN a b flip) (iN a b flip) i ((k+1:Nat):Int)=some (OA (Ar a.Vars b.Vars) (acc++((match pj a b flip only c i k with|none=>[]|some r=>[r])++Cb a b flip only c i (k+1)++BH a b flip only c (i+1))))) (by
   cases hc:pj a b flip only c i k with
   |none =>
    rw[hc]at hl
    exact ih2 acc h0 hl
   |some r =>
    rw[hc]at hl;refine⟨E,?_⟩;have:=ih2 (acc++[r]) Z (by simpa using hl);rw[this]
    simp)
  rcases tf flip with e|e<;>subst e<;>simp only[Fy,if_false,if_true,eq_self_iff_true]at h|-<;>exact h
theorem rR:∀i,i<=oN a b flip->∀acc:XS,acc≠[]->(acc++BH a b flip only c i).length<=4096->oG a b (Ar a.Vars b.Vars) acc flip only x1 (oN a b flip) (iN a b flip) i=some (OA (Ar a.Vars b.Vars) (acc++BH a b flip only c i)):=by
 obtain⟨ho,hn⟩:=aX J (flip:=flip);refine down _ ?_ ?_
 .intro acc h0 hl;apply WI.1.2.2.2;rw[Ao,Zrb (Yi _),CX];rfl
 .intro i hi ih acc h0 hl;apply WI.1.2.2.2;rw[Zrc hi]at hl|-;rw[An];exact ZDB J M hi ih 0 (Yc _) acc h0 hl
theorem OC:∀i,i<=oN a b flip->(BH a b flip only c i).length<=4096->YQ a b (Ar a.Vars b.Vars) flip only x1 (oN a b flip) (iN a b flip) i=some (jR (Ar a.Vars b.Vars) (BH a b flip only c i)):=by
 obtain⟨ho,hn⟩:=aX J (flip:=flip);refine down _ ?_ ?_
 .intro hl;apply Xy.2.1.2.1;rw[Ao,Zrb (Yi _)];rfl
 .intro i hi ih hl;have inner:∀k,k<=iN a b flip->((Cb a b flip only c i k++BH a b flip only c (i+1))).length<=4096->NF a b (Ar a.Vars b.Vars) flip only x1 (oN a b flip) (iN a b flip) i k=some (jR (Ar a.Vars b.Vars) (Cb a b flip only c i k++BH a b flip only c (i+1))):=by
   refine down _ ?_ ?_
   .intro hl;apply Xy.2.1.2.2;rw[ZqZ (Yi _),Er]at hl|-
    grind [wS]
   .intro k hk ih2 hl;apply Xy.2.1.2.2
    skip
    rw[Zra hk]at hl|-;rw[An,wS hk E]
    have h:=ZqY J M hi hk (N:=NF a b (Ar a.Vars b.Vars) flip only x1 (oN a b flip) (iN a b flip) i ((k+1:Nat):Int)=some (jR (Ar a.Vars b.Vars) ((match pj a b flip only c i k with|none=>[]|some r=>[r])++Cb a b flip only c i (k+1)++BH a b flip only c (i+1)))) (A:=λr=>Kr a b (Ar a.Vars b.Vars) ([r]) flip only x1 (oN a b flip) (iN a b flip) i ((k+1:Nat):Int)=some (jR (Ar a.Vars b.Vars) ((match pj a b flip only c i k with|none=>[]|some r=>[r])++Cb a b flip only c i (k+1)++BH a b flip only c (i+1)))) (by
     cases hc:pj a b flip only c i k with
     |none =>
      simp_all
     |some r =>
      rw[hc]at hl;dsimp only;have:=ZDA J M hi (rQ J M (i+1) hi) (k+1) hk ([r]) Z (by simpa using hl);rw[this]
      simp[jR,jN])
    rcases tf flip with e|e<;>subst e<;>simp only[Fy,if_false,if_true,eq_self_iff_true]at h|-<;>exact h
  apply Xy.2.1.2.1;rw[Zrc hi]at hl|-
  grind
theorem Abf{acc:XS}(h0:acc≠[]):∀i,i<=oN a b flip->(acc++BH a b flip only c i).length<=4096->YR a b (Ar a.Vars b.Vars) acc flip only x1 (oN a b flip) (iN a b flip) i=some (OB (Ar a.Vars b.Vars) acc (BH a b flip only c i)):=by
 obtain⟨ho,hn⟩:=aX J (flip:=flip);refine down _ ?_ ?_
 .intro hl;apply WI.1.1.2.2;rw[Ao,Zrb (Yi _)];rfl
 .intro i hi ih hl;have inner:∀k,k<=iN a b flip->(acc++(Cb a b flip only c i k++BH a b flip only c (i+1))).length<=4096->NJ a b (Ar a.Vars b.Vars) acc flip only x1 (oN a b flip) (iN a b flip) i k=some (OB (Ar a.Vars b.Vars) acc (Cb a b flip only c i k++BH a b flip only c (i+1))):=by
   refine down _ ?_ ?_
   .intro hl;apply WI.1.2.1;rw[ZqZ (Yi _),Er]at hl|-
    grind [wS]
   .intro k hk ih2 hl;apply WI.1.2.1;have hal:acc.length<=4096:=by rw[Yo]at hl;omega
    rw[Zra hk]at hl|-;rw[An,An,wS hk E]
    have h:=ZqY J M hi hk (N:=NJ a b (Ar a.Vars b.Vars) acc flip only x1 (oN a b flip) (iN a b flip) i ((k+1:Nat):Int)=some (OB (Ar a.Vars b.Vars) acc ((match pj a b flip only c i k with|none=>[]|some r=>[r])++Cb a b flip only c i (k+1)++BH a b flip only c (i+1)))) (A:=λr=>acc.length+1<=68719476736/\Ks a b (Ar a.Vars b.Vars) (acc++[r]) flip only x1 (oN a b flip) (iN a b flip) i ((k+1:Nat):Int)=some (OB (Ar a.Vars b.Vars) acc ((match pj a b flip only c i k with|none=>[]|some r=>[r])++Cb a b flip only c i (k+1)++BH a b flip only c (i+1)))) (by
     cases hc:pj a b flip only c i k with
     |none =>
      simp_all
     |some r =>
      rw[hc]at hl;refine⟨E,?_⟩;have:=ZDB J M hi (rR J M (i+1) hi) (k+1) hk (acc++[r]) Z (by simpa using hl);rw[this]
      simp[OB,OA])
    rcases tf flip with e|e<;>subst e<;>simp only[Fy,if_false,if_true,eq_self_iff_true]at h|-<;>exact h
  apply WI.1.1.2.2;rw[Zrc hi]at hl|-
  grind
end
def ZDC{α:Type}(l:List α)(d:α):(List.range' 0 l.length).map (λi=>l.getD i d)=l:=by
 refine D9 Z λi h1 h2=>?_
 simp_all
def Z2A{α β:Type}(l:List α)(d:α)(f:α->List β):(List.range' 0 l.length).flatMap (λi=>f (l.getD i d))=l.flatMap f:=by
 conv=>rhs;rw[<-ZDC l d]
 rw[List.flatMap_map]
def Z2B{α β:Type}(l:List α)(d:α)(f:α->Option β):(List.range' 0 l.length).filterMap (λi=>f (l.getD i d))=l.filterMap f:=by
 conv=>rhs;rw[<-ZDC l d]
 rw[List.filterMap_map];rfl
def ZDD(a b:Ze)(only:Int)(c:Nat):BH a b true only c 0=UK (Ar a.Vars b.Vars) a b:=by
 unfold BH Cb UK oN iN pj;simp only[if_true,Hz];rw[<-Z2A b.Rows [] λy=>a.Rows.filterMap λx=>BB (Ar a.Vars b.Vars) a.Vars x b.Vars y];congr 1;funext i;rw[Z2B a.Rows [] λx=>BB (Ar a.Vars b.Vars) a.Vars x b.Vars (b.Rows.getD i [])]
def ZDE(a b:Ze)(c:Nat):BH a b false (-1) c 0=Wp (Ar a.Vars b.Vars) a b:=by
 unfold BH Cb Wp oN iN pj;simp only[Fy,if_false,Hz,show((-1:Int)<0)=True by simp,true_or,if_true];rw[<-Z2A a.Rows [] λx=>b.Rows.filterMap λy=>BB (Ar a.Vars b.Vars) a.Vars x b.Vars y];congr 1;funext i;rw[Z2B b.Rows [] λy=>BB (Ar a.Vars b.Vars) a.Vars (a.Rows.getD i []) b.Vars y]
def ZDF{α β:Type}(p:α->Bool)(f:α->List β):∀l:List α,(l.filter p).flatMap f=l.flatMap λx=>if p x=true then f x else[]
 |[]=>rfl
 |x::l=>by
  have ih:=ZDF p f l
  grind
def Zrd(a b:Ze)(u c:Nat):BH a b false (u:Int) c 0=Wp (Ar a.Vars b.Vars) ⟨a.Vars,a.Rows.filter λr=>decide (kx c r=(u:Int))⟩ b:=by
 unfold BH Cb Wp oN iN pj;simp only[Fy,if_false,Hz,show((u:Int)<0)=False by simp,false_or];rw[ZDF,<-Z2A a.Rows [] λx=>if decide (kx c x=(u:Int))=true then b.Rows.filterMap λy=>BB (Ar a.Vars b.Vars) a.Vars x b.Vars y else[]];congr 1;funext i;by_cases e:kx c (a.Rows.getD i [])=(u:Int)
 .simp only[e,if_true,decide_true];rw[Z2B b.Rows [] λy=>BB (Ar a.Vars b.Vars) a.Vars (a.Rows.getD i []) b.Vars y]
 .simp_all
section
variable{a b:Ze}(J:J2 a b)
include J
theorem Z2C:(Wp (Ar a.Vars b.Vars) a b).length<=4096:=by
 have:=ZCY (Ar a.Vars b.Vars) a b;have:=J.prod
 grind
theorem ZDG:(UK (Ar a.Vars b.Vars) a b).length<=4096:=by
 have:=ZCZ (Ar a.Vars b.Vars) a b;have:=J.prod;omega
omit J in
theorem Z2D{vs:V2}{rows:XS}(hn:rows≠[])(hl:rows.length<=4096):KT vs rows=some (.tup [.agg [.own 0,.own 1],Bo true],[.arr 3 1 true (vs.map ic),.arr 38 1 true (rows.map Ae)]):=by
 grind [Xy.2.2.2.2.2]
theorem ZQ1:NH a b=some (Xh (I4 a b)):=by
 refine ZCz.1 _ _ _ ⟨_,Ot J.va,?_⟩;rw[Ya rfl];refine⟨_,Ot J.vb,?_⟩;rw[Ya rfl];refine⟨_,Z29 J.va.four J.vb.four,?_⟩;have hj:KR (Ar a.Vars b.Vars) a b true 0 (-1)=some (jR (Ar a.Vars b.Vars) (UK (Ar a.Vars b.Vars) a b)):=by
  refine Xy.2.2.2.1 _ _ _ _ _ _ _ ⟨_,Hb J.va.four 0,?_⟩;rw[Ya rfl];have:=OC J (flip:=true) (only:=-1) (x1:=AD a.Vars 0) (c:=0) ⟨λ_=>by decide,λh=>absurd h Om⟩ 0 (Yc _) (by rw[ZDD];exact ZDG J);rw[ZDD]at this;exact this
 show(_\/_);unfold I4;by_cases e:UK (Ar a.Vars b.Vars) a b=[]
 .rw[e]at hj|-;exact .inl ⟨_,hj,_,Xy.2.2.2.2.1 _ _ rfl,by rw[La]⟩
 .unfold jR at hj;rw[Yb e]at hj;exact .inr ⟨_,_,hj,.inr ⟨_,_,Z2D e (ZDG J),by rw[KS e]⟩⟩
theorem ZQ2:NI a b=some (Xh (VL a b)):=by
 refine ZCz.2 _ _ _ ⟨_,Ot J.va,?_⟩;rw[Ya rfl];refine⟨_,Ot J.vb,?_⟩;rw[Ya rfl];refine⟨_,Z29 J.va.four J.vb.four,?_⟩;have hj:KR (Ar a.Vars b.Vars) a b false 0 (-1)=some (jR (Ar a.Vars b.Vars) (Wp (Ar a.Vars b.Vars) a b)):=by
  refine Xy.2.2.2.1 _ _ _ _ _ _ _ ⟨_,Hb J.va.four 0,?_⟩;rw[Yb Om];have:=OC J (flip:=false) (only:=-1) (x1:=AD a.Vars 0) (c:=0) ⟨λh=>absurd h Om,λh=>absurd h Om⟩ 0 (Yc _) (by rw[ZDE];exact Z2C J);rw[ZDE]at this;exact this
 show(_\/_);unfold VL;by_cases e:Wp (Ar a.Vars b.Vars) a b=[]
 .rw[e]at hj|-;exact .inl ⟨_,hj,_,Xy.2.2.2.2.1 _ _ rfl,by rw[La]⟩
 .unfold jR at hj;rw[Yb e]at hj;exact .inr ⟨_,_,hj,.inr ⟨_,_,Z2D e (Z2C J),by rw[KS e]⟩⟩
omit J in
def Fm(a b:Ze)(c u:Nat):XS:=(List.range' u (10-u)).flatMap λi:Nat=>Wp (Ar a.Vars b.Vars) ⟨a.Vars,a.Rows.filter λr=>decide (kx c r=(i:Int))⟩ b
omit J in
theorem ZDH{c u:Nat}(h:u<10):Fm a b c u=Wp (Ar a.Vars b.Vars) ⟨a.Vars,a.Rows.filter λr=>decide (kx c r=(u:Int))⟩ b++Fm a b c (u+1):=by
 unfold Fm;rw[show 10-u=(10-(u+1))+1 by omega,Fs,Es]
variable{v:Int}(ha:has a.Vars v=true)
include ha
theorem ZDI(u:Nat):Md a b false (u:Int) (AD a.Vars v) (AD a.Vars v).toNat:=by
 obtain⟨c1,c2,c3⟩:=XT ha;exact⟨λh=>absurd h Om,λ_=>⟨E,λr hr=>by have:=(J.va.Ve hr).1;omega⟩⟩
theorem OD:∀u:Nat,u<=10->∀acc:XS,acc≠[]->(acc++Fm a b (AD a.Vars v).toNat u).length<=4096->YS a b (Ar a.Vars b.Vars) acc v u=some (Xh ⟨Ar a.Vars b.Vars,acc++Fm a b (AD a.Vars v).toNat u⟩):=by
 refine down 10 ?_ ?_
 .intro acc h0 hl;rw[show Fm a b (AD a.Vars v).toNat 10=[]from rfl,CX]at hl|-
  grind [WI.2.1.2.2,KS,Z2D]
 .intro u hu ih acc h0 hl;rw[ZDH hu]at hl|-;have hj:Zqo (Ar a.Vars b.Vars) acc a b false v (u:Int)=some (OB (Ar a.Vars b.Vars) acc (Wp (Ar a.Vars b.Vars) ⟨a.Vars,a.Rows.filter λr=>decide (kx (AD a.Vars v).toNat r=(u:Int))⟩ b)):=by
   refine WI.2.1.1 _ _ _ _ _ _ _ _ ⟨_,Hb J.va.four v,?_⟩;rw[Yb Om];have:=Abf J (ZDI J ha u) h0 0 (Yc _) (by rw[Zrd];simp only[Yo]at hl|-;omega);rw[Zrd]at this;exact this
  apply WI.2.1.2.2;rw[An,wA E E];generalize Wp (Ar a.Vars b.Vars) ⟨a.Vars,a.Rows.filter λr=>decide (kx (AD a.Vars v).toNat r=(u:Int))⟩ b=rows at *
  by_cases e:rows=[]
  .subst e;rw[Er]at hl|-;exact .inl ⟨_,_,hj,by exact_mod_cast ih acc h0 hl⟩
  .unfold OB at hj;rw[Yb e]at hj;refine .inr ⟨_,_,hj,?_⟩;have:=ih (acc++rows) (by simp[h0]) (by rw[D6];exact hl)
   simp_all
theorem rS:∀u:Nat,u<=10->(Fm a b (AD a.Vars v).toNat u).length<=4096->oH a b (Ar a.Vars b.Vars) v u=some (Xh ⟨Ar a.Vars b.Vars,Fm a b (AD a.Vars v).toNat u⟩):=by
 refine down 10 ?_ ?_
 .intro hl;apply WI.2.1.2.1;rw[Yb Om,show Fm a b (AD a.Vars v).toNat 10=[]from rfl,La];simp[Xy.2.2.2.2.1]
 .intro u hu ih hl;rw[ZDH hu]at hl|-;have hj:KR (Ar a.Vars b.Vars) a b false v (u:Int)=some (jR (Ar a.Vars b.Vars) (Wp (Ar a.Vars b.Vars) ⟨a.Vars,a.Rows.filter λr=>decide (kx (AD a.Vars v).toNat r=(u:Int))⟩ b)):=by
   refine Xy.2.2.2.1 _ _ _ _ _ _ _ ⟨_,Hb J.va.four v,?_⟩;rw[Yb Om];have:=OC J (ZDI J ha u) 0 (Yc _) (by rw[Zrd];simp only[Yo]at hl|-;omega);rw[Zrd]at this;exact this
  apply WI.2.1.2.1;rw[An,wA E E];generalize Wp (Ar a.Vars b.Vars) ⟨a.Vars,a.Rows.filter λr=>decide (kx (AD a.Vars v).toNat r=(u:Int))⟩ b=rows at *
  by_cases e:rows=[]
  .subst e;rw[Er]at hl|-;exact .inl ⟨_,hj,by exact_mod_cast ih hl⟩
  .unfold jR at hj;rw[Yb e]at hj;refine .inr ⟨_,_,hj,?_⟩
   exact_mod_cast OD J ha (u+1) E rows e hl
theorem ZQ3(hb:has b.Vars v=true)(sa:a.Rows.Pairwise λp q=>kx (AD a.Vars v).toNat p<=kx (AD a.Vars v).toNat q)(sb:b.Rows.Pairwise λp q=>kx (AD b.Vars v).toNat p<=kx (AD b.Vars v).toNat q):Zqp a b v=some (Xh (VL a b)):=by
 refine WI.2.2.1.1 _ _ _ _ ⟨_,ZDv J.va ha sa,?_⟩;rw[Ya rfl];refine⟨_,ZDv J.vb hb sb,?_⟩;rw[Ya rfl];refine⟨_,Z29 J.va.four J.vb.four,?_⟩;have e:Fm a b (AD a.Vars v).toNat 0=Wp (Ar a.Vars b.Vars) a b:=by
  unfold Fm;rw[Hz,<-xF];exact ZPK sa λr hr=>(J.va.ok ha r hr).2
 have:=rS J ha 0 E (by rw[e];exact Z2C J);rw[e]at this;exact this
end
def J2.of{q:Zc}(hq:Zx q.Zi q.Atoms=true){u z:Zf}{a b:Ze}(A:GS q u a)(B:GS q z b)(hu:0<=u.Mask/\u.Mask<16)(hz:0<=z.Mask/\z.Mask<16)(h0:Ai u.Mask z.Mask=0):J2 a b:=by
 refine⟨A.vs hq,B.vs hq,?_⟩;have h1:=LF A.len B.len;rw[<-Nat.pow_add,<-Z2w hu hz h0]at h1
 grind [Nat.le_trans,ZqL]
def Hd{out:List Ze}{s:Int}(h:s.toNat<out.length):out[s.toNat]?=some (out.getD s.toNat ⟨[],[]⟩):=by rw[CF,Yh h];rfl
section
variable{d:Zj}(hd:BA d){q:Zc}(hq:AW q)(h:ZN d q=true){info:List Zf}(hM:∀y∈info,0<=y.Mask/\y.Mask<16)
include hd hq h hM
omit hd hq in
theorem ZDJ{out:List Ze}(G:DS q info out){i:Nat}(hi:out.length=i){x:Zn}{y:Zf}(F:QL q.Atoms x (info.take i) y)(k1:x.Kind≠1)(k2:x.Kind≠2) :
  0<=y.Left/\out[y.Left.toNat]?=some (out.getD y.Left.toNat ⟨[],[]⟩)/\0<=y.Right/\out[y.Right.toNat]?=some (out.getD y.Right.toNat ⟨[],[]⟩)/\J2 (out.getD y.Left.toNat ⟨[],[]⟩) (out.getD y.Right.toNat ⟨[],[]⟩)/\(x.Kind=3\/x.Kind=4\/x.Kind=5)/\
  (x.Kind=4->∃v,x.Order=v/\has (out.getD y.Left.toNat ⟨[],[]⟩).Vars v=true/\has (out.getD y.Right.toNat ⟨[],[]⟩).Vars v=true/\
   ((out.getD y.Left.toNat ⟨[],[]⟩).Rows.Pairwise λp q=>kx (AD (out.getD y.Left.toNat ⟨[],[]⟩).Vars v).toNat p<=kx (AD (out.getD y.Left.toNat ⟨[],[]⟩).Vars v).toNat q)/\
   ((out.getD y.Right.toNat ⟨[],[]⟩).Rows.Pairwise λp q=>kx (AD (out.getD y.Right.toNat ⟨[],[]⟩).Vars v).toNat p<=kx (AD (out.getD y.Right.toNat ⟨[],[]⟩).Vars v).toNat q)):=by
 have hv:Zx q.Zi q.Atoms=true:=by unfold ZN at h;simp only[Yf]at h;exact h.1
 have hm:∀{s:Nat} {u:Zf},(info.take i)[s]?=some u->0<=u.Mask/\u.Mask<16:=λhs=>hM _ (DK (Yu hs))
 obtain⟨s,u,t,z,o,f1,f2,f3,f4,f5,rfl,f6⟩:=F.join k1 k2;obtain⟨a1,a2,A⟩:=Og G hi f1 f2;obtain⟨b1,b2,B⟩:=Og G hi f3 f4;refine⟨f1,a2,f3,b2,J2.of hv A B (hm f2) (hm f4) f5,E,λk4=>?_⟩;rcases f6 with⟨k,_⟩|⟨k,_⟩|⟨k,g1,g2,g3,g4,_⟩
 .omega
 .omega
 .have h0:0<=x.Order:=by unfold Bz at g1;simp only[Yf]at g1;have:=g1.1;simp[Am]at this;omega
  have A2:=A.ord (by rw[g3];exact h0);have B2:=B.ord (by rw[g4];exact h0)
  simp_all
omit hd hq hM in
theorem ZDK{out:List Ze}(G:DS q info out){i:Nat}(hi:out.length=i){x:Zn}{y:Zf}(F:QL q.Atoms x (info.take i) y)(k2:x.Kind=2) :
  0<=y.Left/\out[y.Left.toNat]?=some (out.getD y.Left.toNat ⟨[],[]⟩)/\VS (out.getD y.Left.toNat ⟨[],[]⟩)/\has (out.getD y.Left.toNat ⟨[],[]⟩).Vars x.Order=true:=by
 have hv:Zx q.Zi q.Atoms=true:=by unfold ZN at h;simp only[Yf]at h;exact h.1
 obtain⟨s,u,f1,f2,f3,rfl⟩:=F.sort k2;obtain⟨a1,a2,A⟩:=Og G hi f1 f2;exact⟨f1,a2,A.vs hv,(Z21 hv A f3 s).2⟩
omit hd hq h hM in
theorem He(s:Ze):(s=⟨s.Vars,[]⟩/\Xh s=(.tup [.agg [.own 0,.t .nil],Bo true],[.arr 3 1 true (s.Vars.map ic)]))\/Xh s=(.tup [.agg [.own 0,.own 1],Bo true],[.arr 3 1 true (s.Vars.map ic),.arr 38 1 true (s.Rows.map Ae)]):=by
 by_cases e:s.Rows=[]
 .left;refine⟨by cases s;simp only at e;rw[e],?_⟩;unfold Xh;rw[Ya e]
 .right;unfold Xh;rw[Yb e]
theorem OE{steps:List Zn}(hl:info.length=steps.length)(cd:steps.length<=14)(hF:∀(j:Nat) (y:Zf) (x:Zn),info[j]?=some y->steps[j]?=some x->QL q.Atoms x (info.take j) y):∀i,i<=steps.length->∀(cc:List Ze) (fr:Bool),cc.length=i->DS q info cc->
  ∃fr',Nr d q info fr cc steps steps.length i=some (.tup [.own 0,.own 1,Bo true],[.arr 81 4 true (info.map Zf.c),.arr 134 2 fr' ((V0 d q (steps.drop i) (info.drop i) cc).map Ze.c)]):=by
 refine down _ ?_ ?_
 .intro cc fr hi G;refine⟨fr,Wj.2.1.1 _ _ _ _ _ _ _ _ _ ?_⟩;rw[Ao,Yl];rfl
 .intro i hi ih cc fr ho G;have hi2:i<info.length:=by omega
  have hx:steps[i]?=some steps[i]:=Yh hi;have hy:info[i]?=some info[i]:=Yh hi2;have F:=hF i _ _ hy hx;have hg:=ZqN h G hM ho F;have G2:=Z23 G ho hy hg;have step:V0 d q (steps.drop i) (info.drop i) cc=V0 d q (steps.drop (i+1)) (info.drop (i+1)) (cc++[Fl d q steps[i] info[i] cc]):=by
   rw[Yg hi,Yg hi2,V0]
  have nx:∀fr,∃fr',Nr d q info fr (cc++[Fl d q steps[i] info[i] cc]) steps steps.length ((i+1:Nat):Int)=some (.tup [.own 0,.own 1,Bo true],[.arr 81 4 true (info.map Zf.c),.arr 134 2 fr' ((V0 d q (steps.drop i) (info.drop i) cc).map Ze.c)]):=by
   simp_all
  generalize V0 d q (steps.drop i) (info.drop i) cc=fin at nx|-;generalize hxx:steps[i]=x at *
  generalize hyy:info[i]=y at *
  have hol:cc.length+1<=68719476736:=by omega
  unfold Fl at nx;by_cases k1:x.Kind=1
  .rw[Ya k1]at nx;obtain⟨f1,-⟩:=F.scan k1;have hs:=ZQl hd hq h f1;obtain⟨fr',hn⟩:=nx fr;refine⟨fr',Wj.2.1.1 _ _ _ _ _ _ _ _ _ ?_⟩;rw[An,wS hi E];refine⟨E,x,by rw[Yj];exact hx,?_⟩;rw[Ya k1];rcases He (UL d q x.Zd)with⟨e1,e2⟩|e2
   .grind
   .rw[e2]at hs;exact .inr (.inr ⟨_,_,hs,hol,hn⟩)
  .rw[Yb k1]at nx;by_cases k2:x.Kind=2
   .rw[Ya k2]at nx;obtain⟨l1,l2,l3,l4⟩:=ZDK h G ho F k2;obtain⟨fs,hs⟩:=ZQd l3 l4;obtain⟨fr',hn⟩:=nx (fr && fs);refine⟨fr',Wj.2.1.1 _ _ _ _ _ _ _ _ _ ?_⟩;rw[An,wS hi E];refine⟨E,x,by rw[Yj];exact hx,?_⟩;rw[Yb k1,Ya k2];exact⟨y,by rw[Yj];exact hy,l1,_,l2,.inr ⟨_,_,_,hs,hol,hn⟩⟩
   .rw[Yb k2]at nx;obtain⟨l1,l2,r1,r2,J,kk,m4⟩:=ZDJ h hM G ho F k1 k2;obtain⟨fr',hn⟩:=nx fr;refine⟨fr',Wj.2.1.1 _ _ _ _ _ _ _ _ _ ?_⟩;rw[An,wS hi E];refine⟨E,x,by rw[Yj];exact hx,?_⟩;rw[Yb k1,Yb k2];by_cases k3:x.Kind=3
    .rw[Ya k3]at hn|-;refine⟨y,by rw[Yj];exact hy,l1,_,l2,r1,_,r2,?_⟩;have hs:=ZQu J;rcases He (I4 (cc.getD y.Left.toNat ⟨[],[]⟩) (cc.getD y.Right.toNat ⟨[],[]⟩))with⟨e1,e2⟩|e2
     .grind
     .rw[e2]at hs;exact .inr (.inr ⟨_,_,hs,hol,hn⟩)
    .rw[Yb k3]at hn|-;by_cases k4:x.Kind=4
     .rw[Ya k4];refine⟨y,by rw[Yj];exact hy,l1,_,l2,r1,_,r2,?_⟩;obtain⟨v,v1,v2,v3,v4,v5⟩:=m4 k4;have hs:=ZQv J v2 v3 v4 v5;rw[<-v1]at hs;rcases He (VL (cc.getD y.Left.toNat ⟨[],[]⟩) (cc.getD y.Right.toNat ⟨[],[]⟩))with⟨e1,e2⟩|e2
      .grind
      .rw[e2]at hs;exact .inr (.inr ⟨_,_,hs,hol,hn⟩)
     .rw[Yb k4];refine⟨y,by rw[Yj];exact hy,l1,_,l2,r1,_,r2,?_⟩;have hs:=ZD9 J;rcases He (VL (cc.getD y.Left.toNat ⟨[],[]⟩) (cc.getD y.Right.toNat ⟨[],[]⟩))with⟨e1,e2⟩|e2
      .grind
      .rw[e2]at hs;exact .inr (.inr ⟨_,_,hs,hol,hn⟩)
theorem OG{p:Zr}(hl:info.length=p.Steps.length)(cd:p.Steps.length<=14)(hF:∀(j:Nat) (y:Zf) (x:Zn),info[j]?=some y->p.Steps[j]?=some x->QL q.Atoms x (info.take j) y):∀i,i<=p.Steps.length->∀(cc:List Ze),cc.length=i->DS q info cc->
  YU d q p info cc i=some (.tup [.own 0,.own 1,Bo true],[.arr 134 2 true ((V0 d q (p.Steps.drop i) (info.drop i) cc).map Ze.c),.arr 81 4 true (info.map Zf.c)]):=by
 refine down _ ?_ ?_
 .intro cc hi G;apply WI.2.2.1.2;rw[Ao,Yl];rfl
 .intro i hi ih cc ho G;have hi2:i<info.length:=by omega
  have hx:p.Steps[i]?=some p.Steps[i]:=Yh hi;have hy:info[i]?=some info[i]:=Yh hi2;have F:=hF i _ _ hy hx;have hg:=ZqN h G hM ho F;have G2:=Z23 G ho hy hg;have step:V0 d q (p.Steps.drop i) (info.drop i) cc=V0 d q (p.Steps.drop (i+1)) (info.drop (i+1)) (cc++[Fl d q p.Steps[i] info[i] cc]):=by
   rw[Yg hi,Yg hi2,V0]
  have hn:YU d q p info (cc++[Fl d q p.Steps[i] info[i] cc]) ((i+1:Nat):Int)=some (.tup [.own 0,.own 1,Bo true],[.arr 134 2 true ((V0 d q (p.Steps.drop i) (info.drop i) cc).map Ze.c),.arr 81 4 true (info.map Zf.c)]):=by
   simp_all
  generalize V0 d q (p.Steps.drop i) (info.drop i) cc=fin at hn|-;generalize hxx:p.Steps[i]=x at *
  generalize hyy:info[i]=y at *
  have hol:cc.length+1<=68719476736:=by omega
  unfold Fl at hn;apply WI.2.2.1.2;rw[An,wS hi E];refine⟨E,x,by rw[Yj];exact hx,?_⟩;by_cases k1:x.Kind=1
  .rw[Ya k1]at hn|-;obtain⟨f1,-⟩:=F.scan k1;have hs:=ZQq hd hq h f1;rcases He (UL d q x.Zd)with⟨e1,e2⟩|e2
   .grind
   .rw[e2]at hs;exact .inr (.inr ⟨_,_,hs,hol,hn⟩)
  .rw[Yb k1]at hn|-;by_cases k2:x.Kind=2
   .rw[Ya k2]at hn|-;obtain⟨l1,l2,l3,l4⟩:=ZDK h G ho F k2;have hs:=ZQh l3 l4;refine⟨y,by rw[Yj];exact hy,l1,_,l2,?_⟩;rcases He (Oe (cc.getD y.Left.toNat ⟨[],[]⟩) x.Order)with⟨e1,e2⟩|e2
    .grind
    .rw[e2]at hs;exact .inr (.inr ⟨_,_,hs,hol,hn⟩)
   .rw[Yb k2]at hn|-;obtain⟨l1,l2,r1,r2,J,kk,m4⟩:=ZDJ h hM G ho F k1 k2;by_cases k3:x.Kind=3
    .rw[Ya k3]at hn|-;refine⟨y,by rw[Yj];exact hy,l1,_,l2,r1,_,r2,?_⟩;have hs:=ZQ1 J;rcases He (I4 (cc.getD y.Left.toNat ⟨[],[]⟩) (cc.getD y.Right.toNat ⟨[],[]⟩))with⟨e1,e2⟩|e2
     .grind
     .rw[e2]at hs;exact .inr (.inr ⟨_,_,hs,hol,hn⟩)
    .rw[Yb k3]at hn|-;by_cases k5:x.Kind=5
     .rw[Ya k5];refine⟨y,by rw[Yj];exact hy,l1,_,l2,r1,_,r2,?_⟩;have hs:=ZQ2 J;rcases He (VL (cc.getD y.Left.toNat ⟨[],[]⟩) (cc.getD y.Right.toNat ⟨[],[]⟩))with⟨e1,e2⟩|e2
      .grind
      .rw[e2]at hs;exact .inr (.inr ⟨_,_,hs,hol,hn⟩)
     .rw[Yb k5];refine⟨y,by rw[Yj];exact hy,l1,_,l2,r1,_,r2,?_⟩;have k4:x.Kind=4:=by clear m4;omega
      obtain⟨v,v1,v2,v3,v4,v5⟩:=m4 k4;have hs:=ZQ3 J v2 v3 v4 v5;rw[<-v1]at hs;rcases He (VL (cc.getD y.Left.toNat ⟨[],[]⟩) (cc.getD y.Right.toNat ⟨[],[]⟩))with⟨e1,e2⟩|e2
      .grind
      .rw[e2]at hs;exact .inr (.inr ⟨_,_,hs,hol,hn⟩)
end
def Xz(d:Zj)(q:Zc)(c:List Zn)(info:List Zf):List Ze:=V0 d q c info []
def Z2E(q:Zc)(info:List Zf):DS q info []:=λj s h=>by simp at h
def ZQ4{d:Zj}{q:Zc}(h:ZN d q=true){info:List Zf}(hM:∀y∈info,0<=y.Mask/\y.Mask<16){c:List Zn}(hl:info.length=c.length)(hF:∀(j:Nat) (y:Zf) (x:Zn),info[j]?=some y->c[j]?=some x->QL q.Atoms x (info.take j) y) :
  ∀i,i<=c.length->∀(cc:List Ze),cc.length=i->DS q info cc->DS q info (V0 d q (c.drop i) (info.drop i) cc)/\(V0 d q (c.drop i) (info.drop i) cc).length=c.length:=by
 refine down _ ?_ ?_
 .intro cc ho G;rw[Yl];exact⟨G,ho⟩
 .intro i hi ih cc ho G;have hi2:i<info.length:=by omega
  have hx:c[i]?=some c[i]:=Yh hi;have hy:info[i]?=some info[i]:=Yh hi2;have hg:=ZqN h G hM ho (hF i _ _ hy hx);rw[Yg hi,Yg hi2,V0]
  grind [Z23]
structure PI (q:Zc) (p:Zr) (info:List Zf):Prop where
 eq:ZG q.Zi q.Atoms p.Steps=some info
def PI.val{q:Zc}{p:Zr}{info:List Zf}(P:PI q p info):Zx q.Zi q.Atoms=true/\info.length=p.Steps.length/\1<=p.Steps.length/\p.Steps.length<=14:=by
 have h:=Um P.eq;omega
def PI.mask{q:Zc}{p:Zr}{info:List Zf}(P:PI q p info):∀y∈info,0<=y.Mask/\y.Mask<16:=by
 intro y hy;have h1:=(Zn5 P.eq).1 y hy;have h2:=XF P.val.1;unfold Gr at h1
 have:(2:Int) ^ q.Atoms.length<=2 ^ 4:=by
  rcases(show q.Atoms.length=1\/q.Atoms.length=2\/q.Atoms.length=3\/q.Atoms.length=4 by omega)with e|e|e|e<;>rw[e]<;>decide
 omega
def rT{d:Zj}{q:Zc}(h:ZN d q=true){p:Zr}{info:List Zf}(P:PI q p info):DS q info (Xz d q p.Steps info)/\(Xz d q p.Steps info).length=p.Steps.length:=by
 have:=ZQ4 h P.mask P.val.2.1 (qY P.eq) 0 (Yc _) [] rfl (Z2E q info);simpa[Xz]using this
def ZQ5{d:Zj}(hd:BA d){q:Zc}(hq:AW q)(h:ZN d q=true){p:Zr}{info:List Zf}(P:PI q p info):∃fr,Nq d q p=some (.tup [.own 0,.own 1,Bo true],[.arr 81 4 true (info.map Zf.c),.arr 134 2 fr ((Xz d q p.Steps info).map Ze.c)]):=by
 obtain⟨fr,hf⟩:=OE hd hq h P.mask P.val.2.1 P.val.2.2.2 (qY P.eq) 0 (Yc _) [] true rfl (Z2E q info);have hp:=aK q p hq;rw[P.eq]at hp;refine⟨fr,Wj.2.1.2.1 _ _ _ _ (.inr ⟨_,hp,_,ZqF d hd q hq,?_⟩)⟩;rw[h,Ya rfl];exact hf
def ZDL{d:Zj}(hd:BA d){q:Zc}(hq:AW q){p:Zr}(h:ZG q.Zi q.Atoms p.Steps=none\/ZN d q=false):Nq d q p=some (.tup [.t .nil,.t .nil,Bo false],[]):=by
 grind [aK,Wj.2.1.2.1,ZqF]
def ZQ6{d:Zj}(hd:BA d){q:Zc}(hq:AW q)(h:ZN d q=true){p:Zr}{info:List Zf}(P:PI q p info):YT d q p=some (.tup [.own 0,.own 1,Bo true],[.arr 134 2 true ((Xz d q p.Steps info).map Ze.c),.arr 81 4 true (info.map Zf.c)]):=by
 have hf:=OG hd hq h P.mask (p:=p) P.val.2.1 P.val.2.2.2 (qY P.eq) 0 (Yc _) [] rfl (Z2E q info);have hp:=G4 q p hq;rw[P.eq]at hp;refine WI.2.2.2.1 _ _ _ _ ⟨_,_,hp,?_⟩;rw[Ya rfl];refine⟨_,IY d hd q hq,?_⟩;rw[h,Ya rfl];exact hf
def ZDM{d:Zj}(hd:BA d){q:Zc}(hq:AW q){p:Zr}(h:ZG q.Zi q.Atoms p.Steps=none\/ZN d q=false):∃info:List Zf,YT d q p=some (.tup [.own 0,.own 1,Bo false],[.arr 134 2 true (([]:List Ze).map Ze.c),.arr 81 4 true (info.map Zf.c)]):=by
 have hp:=G4 q p hq
 cases e:ZG q.Zi q.Atoms p.Steps with
 |none =>
  simp_all [WI.2.2.2.1]
 |some info =>
  grind [WI.2.2.2.1,IY]
def Ua(rows:XS):XS:=Vx (Kg rows)
abbrev Hf(l:XS):Prop:=l.Pairwise λa b=>ZH a b<0
def Zre:∀{a b:XS},Hf a->Hf b->(∀x,x∈a↔x∈b)->a=b
 |[],[],_,_,_=>rfl
 |[],y::b,_,_,h=>by have:=(h y).2 Z;cases this
 |x::a,[],_,_,h=>by have:=(h x).1 Z;cases this
 |x::a,y::b,ha,hb,h=>by
  have ha':=Y4.1 ha;have hb':=Y4.1 hb;have e:x=y:=by
   have h1:=(h x).1 Z;have h2:=(h y).2 Z
   grind [Kv]
  subst e;rw[Zre ha'.2 hb'.2 λz=>?_]
  grind [KX]
def ZDN:∀{l:XS},(l.Pairwise λa b=>Db a b=true)->Hf (Vx l)
 |[],_=>by simp[Vx]
 |[a],_=>by simp[Vx]
 |a::b::l,h=>by
  have h1:=Y4.1 h;have ih:=ZDN h1.2;unfold Vx;split
  .exact ih
  .rename_i e;refine Y4.2 ⟨λx hx=>?_,ih⟩;rw[Z26]at hx;have hab:ZH a b<0:=by
    have h3:=h1.1 b Z;unfold Db at h3
    grind [Int.lt_or_eq_of_le,UM]
   rcases Yy.1 hx with rfl|hx
   .exact hab
   .have h2:=(Y4.1 h1.2).1 x hx;unfold Db at h2
    grind [I8,Int.lt_or_eq_of_le,UM,Kv]
def Z2F(rows:XS):Hf (Ua rows):=ZDN (ZDh rows)
def rU(rows:XS)(x:V2):x∈Ua rows↔x∈rows:=by unfold Ua;rw[Z26,(rJ rows).mem_iff]
def ZDO(rows:XS):(Ua rows).length<=rows.length:=by unfold Ua;rw[<-(rJ rows).length_eq];exact ZDi _
def ZQ7{rows:XS}(h1:rows.length<=4096)(h2:∀r∈rows,r.length<=4):ZpS rows=some (.own 0,[.arr 38 1 true ((Ua rows).map Ae)]):=by
 have hl:=(rJ rows).length_eq;refine IU.2.1 _ _ ⟨_,Z2l rows h2 E,Kg rows,?_,Ua rows,?_,rfl⟩
 .unfold ZzT;exact Ol h1 h2
 .unfold ZzU;exact rK E λr hr=>h2 r ((rJ rows).mem_iff.1 hr)
def ZDP{s:Ze}(h:VS s):KO s=some (.tup [.agg [.own 0,.own 1],Bo true],[.arr 3 1 true (s.Vars.map ic),.arr 38 1 true ((Ua s.Rows).map Ae)]):=by
 refine IU.2.2.1 _ _ ⟨_,Oq h,?_⟩;rw[Ya rfl];exact⟨_,IX _ (by have:=h.four;omega),_,ZQ7 h.len λr hr=>(h.Ve hr).2,rfl⟩
def WO:XS->V2->Bool->XS
 |[],row,put=>if put=true then[]else[row]
 |e::es,row,put=>if ZH e row=0 then e::WO es row true else if 0<ZH e row then(if put=true then e::WO es row true else row::e::WO es row true)else e::WO es row put
theorem Zrf:∀(es:XS) (row:V2),WO es row true=es
 |[],_=>rfl
 |e::es,row=>by
  unfold WO;rw[Zrf es row];simp
theorem OH:∀(es:XS) (row x:V2),x∈WO es row false↔x∈es\/x=row
 |[],row,x=>by simp[WO]
 |e::es,row,x=>by
  have ih:=OH es row x;unfold WO
  grind [Zrf,UM]
def ZDQ:∀{es:XS} (row:V2),Hf es->Hf (WO es row false)
 |[],row,_=>by simp[WO]
 |e::es,row,h=>by
  have h':=Y4.1 h;unfold WO;rw[Zrf];by_cases h1:ZH e row=0
  .rw[Ya h1];exact h
  .rw[Yb h1];by_cases h2:0<ZH e row
   .grind [Kv,List.pairwise_cons,I8,Int.lt_or_eq_of_le,UM]
   .rw[Yb h2];refine Y4.2 ⟨λx hx=>?_,ZDQ row h'.2⟩
    grind [OH]
def rV:∀(es:XS) (row:V2) (put:Bool),(WO es row put).length<=es.length+1
 |[],row,put=>by unfold WO;split<;>simp
 |e::es,row,put=>by
  unfold WO;rw[Zrf];have:=rV es row put
  grind
def rW{rows:XS}{row:V2}(hl:rows.length<=5000)(h4:∀r∈rows,r.length<=4)(hr:row.length<=4):∀i,i<=rows.length->∀(c:XS) (put:Bool),c.length+2*(rows.length-i)<=20000->Qg c rows row put i=some (.own 0,[.arr 38 1 true ((c++WO (rows.drop i) row put).map Ae)]):=by
 refine down _ ?_ ?_
 .intro c put ho;apply Xl.2.2.2.1;rw[Ao,Yl];rcases tf put with e|e
  .subst e;rw[Yb Om];exact⟨E,E,rfl⟩
  .subst e;rw[Ya rfl];simp[WO]
 .intro i hi ih c put ho;have he:=h4 _ (Ye hi);apply Xl.2.2.2.1;rw[An,wS hi E,Yg hi];refine⟨E,_,gE hi,_,KV _ _ E E,?_⟩;unfold WO
  grind
def Z2G{rows:XS}{row:V2}(hl:rows.length<=5000)(h4:∀r∈rows,r.length<=4)(hr:row.length<=4):Kh rows row=some (.own 0,[.arr 38 1 true ((WO rows row false).map Ae)]) :=
 Xl.2.2.2.2.1 _ _ _ (by simpa using rW hl h4 hr 0 (Yc _) [] false (by simp;omega))
def OI{row:V2}(hr:row.length<=4):KE row=some (.own 0,[.arr 38 1 true (([row]).map Ae)]):=by
 grind [Xl.2.1.2.1,Xl.2.1.1.2]
def J8(acc rows:XS):XS:=rows.foldl (λl r=>WO l r false) acc
def ZDR:∀(rows acc:XS) (x:V2),x∈J8 acc rows↔x∈acc\/x∈rows
 |[],acc,x=>by simp[J8]
 |r::rows,acc,x=>by
  show x∈J8 (WO acc r false) rows↔_;rw[ZDR rows,OH,Yy,or_assoc]
def ZDS:∀{rows acc:XS},Hf acc->Hf (J8 acc rows)
 |[],acc,h=>h
 |r::rows,acc,h=>ZDS (rows:=rows) (ZDQ r h)
def Z2H(rows:XS):J8 [] rows=Ua rows :=
 Zre (ZDS .nil) (Z2F rows) λx=>by rw[ZDR,rU];simp
def ZQ8{s:Ze}(h:VS s):∀i,i<=s.Rows.length->∀acc:XS,acc.length<=i->(∀r∈acc,r.length<=4)->oJ s s.Vars acc i=some (.tup [.agg [.own 0,.own 1],Bo true],[.arr 3 1 true (s.Vars.map ic),.arr 38 1 true ((J8 acc (s.Rows.drop i)).map Ae)]):=by
 have hl:=h.len;refine down _ ?_ ?_
 .intro acc ha h4;apply Us.1.2.2.2;rw[Ao,Yl];rfl
 .intro i hi ih acc ha h4;have hr:=h.Ve (Ye hi);apply Us.1.2.2.2;rw[An,wS hi E,Yg hi];have hp:=rV acc s.Rows[i] false
  exact⟨E,_,gE hi,_,Z2G E h4 hr.2,ih _ E (λr hm=>by
   rcases(OH _ _ _).1 hm with hm|rfl
   .exact h4 r hm
   .exact hr.2)⟩
def Zrg(s:Ze):XR:=if s.Rows=[]then(.tup [.agg [.own 0,.t .nil],Bo true],[.arr 3 1 true (s.Vars.map ic)])else(.tup [.agg [.own 0,.own 1],Bo true],[.arr 3 1 true (s.Vars.map ic),.arr 38 1 true ((Ua s.Rows).map Ae)])
def ZDT{s:Ze}(h:VS s):KU s=some (Zrg s):=by
 have h4:=h.four;refine Us.2.1.1 _ _ ⟨_,Ot h,?_⟩;rw[Ya rfl];refine⟨E,Us.1.2.2.1 _ _ _ _ ?_⟩;unfold Zrg;by_cases e:s.Rows=[]
 .simp_all
 .have h0:0<s.Rows.length:=CE.2 e;have hr:=h.Ve (Ye h0);rw[An,Yb e];refine⟨E,_,gE h0,_,OI hr.2,?_⟩;have:=ZQ8 h 1 E [s.Rows[0]] Z (by simp[hr.2]);have e2:J8 [s.Rows[0]] (s.Rows.drop 1)=Ua s.Rows:=by
   rw[<-Z2H]
   conv=>rhs;rw[<-Yq (l:=s.Rows),Yg h0]
   rfl
  rw[e2]at this;rw[show w (0+1)=((1:Nat):Int) by decide];exact this
def ZQ9(n:Int)(h0:0<=n)(h1:n<=4096):nE n 0=some (I (X4 n),[]):=by
 unfold X4;rw[Yb (E:¬n<0)];refine Wj.2.1.2.2 _ _ _ ⟨_,J4 0,?_⟩;rw[show ZT 0=0 from by decide];by_cases c0:n<=0
 .simp_all
 rw[Yb c0,Yb c0,show w (0+1)=1 from by decide];refine Wj.2.1.2.2 _ _ _ ⟨_,J4 1,?_⟩;rw[show ZT 1=1 from by decide];by_cases c1:n<=1
 .simp_all
 rw[Yb c1,Yb c1,show w (1+1)=2 from by decide];refine Wj.2.1.2.2 _ _ _ ⟨_,J4 2,?_⟩;rw[show ZT 2=4 from by decide];by_cases c2:n<=4
 .simp_all
 rw[Yb c2,Yb c2,show w (2+1)=3 from by decide];refine Wj.2.1.2.2 _ _ _ ⟨_,J4 3,?_⟩;rw[show ZT 3=16 from by decide];by_cases c3:n<=16
 .simp_all
 rw[Yb c3,Yb c3,show w (3+1)=4 from by decide];refine Wj.2.1.2.2 _ _ _ ⟨_,J4 4,?_⟩;rw[show ZT 4=64 from by decide];by_cases c4:n<=64
 .simp_all
 rw[Yb c4,Yb c4,show w (4+1)=5 from by decide];refine Wj.2.1.2.2 _ _ _ ⟨_,J4 5,?_⟩;rw[show ZT 5=256 from by decide];by_cases c5:n<=256
 .simp_all
 rw[Yb c5,Yb c5,show w (5+1)=6 from by decide];refine Wj.2.1.2.2 _ _ _ ⟨_,J4 6,?_⟩;rw[show ZT 6=1024 from by decide];by_cases c6:n<=1024
 .simp_all
 rw[Yb c6,Yb c6,show w (6+1)=7 from by decide];refine Wj.2.1.2.2 _ _ _ ⟨_,J4 7,?_⟩;rw[show ZT 7=4096 from by decide]
 simp_all
def Lb{c a b:Prop}[Decidable c](h:c)(ha:a):if c then a else b:=by rw[Ya h];exact ha
theorem ZQA(n:Int)(h0:0<=n)(h1:n<=4096):lR n 0=some (I (X4 n),[]):=by
 unfold X4;rw[Yb (E:¬n<0)];refine ZY.2.1.2.1 _ _ _ (Lb Om ⟨_,VI 0,?_⟩);rw[show ZT 0=0 from by decide];by_cases c0:n<=0
 .simp_all
 rw[Yb c0,Yb c0,show w (0+1)=1 from by decide];refine ZY.2.1.2.1 _ _ _ (Lb Om ⟨_,VI 1,?_⟩);rw[show ZT 1=1 from by decide];by_cases c1:n<=1
 .simp_all
 rw[Yb c1,Yb c1,show w (1+1)=2 from by decide];refine ZY.2.1.2.1 _ _ _ (Lb Om ⟨_,VI 2,?_⟩);rw[show ZT 2=4 from by decide];by_cases c2:n<=4
 .simp_all
 rw[Yb c2,Yb c2,show w (2+1)=3 from by decide];refine ZY.2.1.2.1 _ _ _ (Lb Om ⟨_,VI 3,?_⟩);rw[show ZT 3=16 from by decide];by_cases c3:n<=16
 .simp_all
 rw[Yb c3,Yb c3,show w (3+1)=4 from by decide];refine ZY.2.1.2.1 _ _ _ (Lb Om ⟨_,VI 4,?_⟩);rw[show ZT 4=64 from by decide];by_cases c4:n<=64
 .simp_all
 rw[Yb c4,Yb c4,show w (4+1)=5 from by decide];refine ZY.2.1.2.1 _ _ _ (Lb Om ⟨_,VI 5,?_⟩);rw[show ZT 5=256 from by decide];by_cases c5:n<=256
 .simp_all
 rw[Yb c5,Yb c5,show w (5+1)=6 from by decide];refine ZY.2.1.2.1 _ _ _ (Lb Om ⟨_,VI 6,?_⟩);rw[show ZT 6=1024 from by decide];by_cases c6:n<=1024
 .simp_all
 rw[Yb c6,Yb c6,show w (6+1)=7 from by decide];refine ZY.2.1.2.1 _ _ _ (Lb Om ⟨_,VI 7,?_⟩);rw[show ZT 7=4096 from by decide]
 simp_all
def ZQB{n:Int}(h:Am n 0 4096=false):X4 n=-1:=by
 simp[Am]at h;unfold X4;omega
def Z2I(n:Int):IB n=some (I (X4 n),[]):=by
 refine Wj.2.2.1.1 _ _ ⟨_,Uu _ _ _,?_⟩;rcases tf (Am n 0 4096)with e|e
 .simp_all [ZQB]
 .rw[Ya e];simp[Am]at e
  simp_all [ZQ9]
def Z2J(n:Int):Ns n=some (I (Se n),[]):=Wj.2.2.1.2 _ _ ⟨_,Z2I n,_,J4 _,rfl⟩
def Z2K(n:Int)(h1:n<=4096):Uo n=some (I (X4 n),[]):=by
 apply ZY.2.1.2.2;by_cases c:n<0
 .rw[Ya c];unfold X4;rw[Ya c]
 .grind [ZQA]
def Z2L(n:Int)(h1:n<=4096):Vz n=some (I (Se n),[]):=WI.2.2.2.2 _ _ ⟨_,Z2K n h1,_,VI _,rfl⟩
def Z2M(m:Zt):Ko m=some (.bsl 1 5,[.box (m.c.map .t),.box [.ptr 0 0,.ptr 0 6,.ptr 0 12,.ptr 0 18,.ptr 0 24]]):=Wy.1.2.1.1 _ _ rfl
def ZQC{qa:List Zd}{x:Zn}{info:List Zf}{st:V2}{y:Zf}(hs:Vc info st)(h:Wm qa x info st=some y):y.Left<info.length/\(0<=y.Right->x.Kind<=5):=by
 unfold Wm at h;split at h
 .grind
 .split at h
  .cases h
  .split at h
   .split at h
    .rename_i s y' ht;split at h
     .cases h;obtain⟨_,t2,t3,_⟩:=VV hs (Yi 1) ht
      simp_all
     .cases h
    .cases h
   .split at h
    .rename_i s y' t z ht hu;split at h
     .obtain⟨_,t2,t3,_⟩:=VV hs (E:1<=2) ht;obtain⟨o,ho,rfl⟩:=Yr.1 h;refine⟨by simp;omega,λ_=>?_⟩;unfold Vw at ho
      grind
     .cases h
    .cases h
def ZDU{qa:List Zd}:∀{xs:List Zn} {i:Nat} {info:List Zf} {st:V2} {c:List Zf} {cc:V2},Xv qa xs i info st=some (c,cc)->
  Vc info st->info.length=i->∃tail,c=info++tail/\tail.length=xs.length/\∀(j:Nat) (y:Zf) (x:Zn),tail[j]?=some y->xs[j]?=some x->y.Left<(i:Int)+j/\(0<=y.Right->x.Kind<=5)
 |[],i,info,st,c,cc,h,hs,hi=>by
  simp[Xv]at h
  simp_all
 |x::xs,i,info,st,c,cc,h,hs,hi=>by
  rw[Xv]at h;split at h
  .cases h
  .rename_i y hy;have hn:=H3 hs y (st.length-Xk y);rw[hi]at hn;obtain⟨tail,g2,g3,g4⟩:=ZDU h hn (by simp[hi]);refine⟨y::tail,by simp[g2],by simp[g3],?_⟩;intro j y' x' hj hx
   cases j with
   |zero =>
    simp at hj hx;subst hj;subst hx;have:=ZQC hs hy
    omega
   |succ j =>
    grind
def lw(info:List Zf):Prop:=∀(i:Nat) (y:Zf),info[i]?=some y->y.Left<(i:Int)
def Z2N{n:Int}{qa:List Zd}{steps:List Zn}{info:List Zf}(h:ZG n qa steps=some info) :
  lw info/\∀(j:Nat) (y:Zf) (x:Zn),info[j]?=some y->steps[j]?=some x->0<=y.Right->x.Kind<=5:=by
 have hl:=(Um h).2.1;unfold ZG at h;split at h
 .split at h
  .rename_i AE st hg;split at h
   .cases h;obtain⟨tail,g2,g3,g4⟩:=ZDU hg (λs hs=>by cases hs) rfl;simp at g2;subst g2;refine⟨λi y hi=>?_,λj y x hj hx=>(g4 j y x hj hx).2⟩;have hi2:i<steps.length:=by
     grind
    simp_all
   .cases h
  .cases h
 .cases h
def fst(info:List Zf):Nat->Int->Int
 |0,i=>i
 |f+1,i=>match info[i.toNat]? with
  |some y=>if 0<=y.Left then fst info f y.Left else i
  |none=>i
def first(info:List Zf)(i:Int):Int:=fst info (i.toNat+1) i
def ZDV{info:List Zf}(h:lw info):∀(f:Nat) (i:Int),0<=i->i.toNat<f->i.toNat<info.length->mQ info i=some (I (fst info f i),[])
 |0,_,_,h1,_=>absurd h1 (Nat.not_lt_zero _)
 |f+1,i,h0,h1,h2=>by
  have e:=Yh h2;have hl:=h _ _ e;refine WN.2.2.1.2 _ _ _ ⟨h0,_,e,?_⟩;unfold fst;rw[e];by_cases c:0<=info[i.toNat].Left
  .simp only[Ya c];exact ZDV h f _ c E E
  .simp only[Yb c]
def ZDW{info:List Zf}(h:lw info):∀(f:Nat) (i:Int),0<=i->i.toNat<f->i.toNat<info.length->nU info i=some (I (fst info f i),[])
 |0,_,_,h1,_=>absurd h1 (Nat.not_lt_zero _)
 |f+1,i,h0,h1,h2=>by
  have e:=Yh h2;have hl:=h _ _ e;refine W1.2.1.1.1 _ _ _ ⟨h0,_,e,?_⟩;unfold fst;rw[e];by_cases c:0<=info[i.toNat].Left
  .simp only[Ya c];exact ZDW h f _ c E E
  .simp only[Yb c]
def ZQD{info:List Zf}(h:lw info){i:Int}(h0:0<=i)(h2:i.toNat<info.length):Zp7 info i=some (I (first info i),[]):=WN.2.2.2.1 _ _ _ (ZDV h _ i h0 E h2)
def ZQE{info:List Zf}(h:lw info){i:Int}(h0:0<=i)(h2:i.toNat<info.length):nT info i=some (I (first info i),[]):=W1.2.1.1.2 _ _ _ (ZDW h _ i h0 E h2)
def ZDX{info:List Zf}(h:lw info):∀(f:Nat) (i:Int),0<=i->0<=fst info f i/\fst info f i<=i
 |0,i,h0=>⟨h0,Int.le_refl _⟩
 |f+1,i,h0=>by
  unfold fst;split
  .rename_i y hy;split
   .rename_i c;have:=h _ _ hy;have:=ZDX h f y.Left c;omega
   .omega
  .omega
def ZDY{info:List Zf}(h:lw info){i:Int}(h0:0<=i):0<=first info i/\first info i<=i:=ZDX h _ i h0
def WU(info:List Zf)(c:List Zn)(i:Int):List Zn:=(c.take (i+1).toNat).drop (first info i).toNat
def noP:XR:=(.tup [.agg [.t .nil],Bo false],[])
def Zrh(l:List Zn):XR:=(.tup [.agg [.own 0],Bo true],[.arr 118 3 true (l.map Zn.c)])
def D4(info:List Zf)(mask:Int):V2->Option Int
 |[]=>none
 |j::js=>match info[j.toNat]? with
  |some y=>if y.Mask=mask then some j else D4 info mask js
  |none=>none
def ZDZ(info:List Zf)(c:List Zn):Option Int->XR
 |some j=>Zrh (WU info c j)
 |none=>noP
def Zri(q:Zc)(p:Zr)(mask:Int):XR:=match ZG q.Zi q.Atoms p.Steps with
 |some info=>ZDZ info p.Steps (D4 info mask (Ck p.Steps 0))
 |none=>noP
def CD(l:List Ze)(i:Int):Int:=Se ((l.getD i.toNat ⟨[],[]⟩).Rows.length:Int)
def Ei(l:List Ze)(y:Zf)(i:Nat):Int:=if 0<=y.Left then CD l y.Left else CD l i
def Ej(l:List Ze)(y:Zf):Int:=if 0<=y.Right then CD l y.Right else 0
def CN(m:Zt)(l:List Ze)(x:Zn)(y:Zf)(i:Nat):Int:=WB (BC m x.Kind) (Ei l y i) (Ej l y) (CD l i)
def Hg(o:Zy)(l r b:Int)(k:Nat):Int:=match(List.range' k (8-k)).find? (λj:Nat=>decide (b<WB o l r (ZT j)))with
 |some j=>(j:Int)
 |none=>8
def Qp(m:Zt)(l:List Ze)(x:Zn)(y:Zf)(b:Int):Zu:=⟨y.Mask,Hg (BC m x.Kind) (CD l y.Left) (CD l y.Right) b 0,false⟩
def Hh(l:List Ze)(y:Zf)(i:Nat):Zu:=⟨y.Mask,X4 ((l.getD i ⟨[],[]⟩).Rows.length:Int),true⟩
def A6(m:Zt)(l:List Ze)(cc:Int):List Zn->List Zf->Nat->Int->Int->List Zu->Bool×Int×Int×List Zu
 |x::xs,y::ys,i,c,st,seen =>
  if w (cc-c)<CN m l x y i then(false,cc,st,if 3<=x.Kind then seen++[Qp m l x y (w (cc-c))]else seen)
  else A6 m l cc xs ys (i+1) (w (c+CN m l x y i)) (w (st+1)) (if 3<=x.Kind then seen++[Hh l y i]else seen)
 |_,_,_,c,st,seen=>(true,c,st,seen)
def Vf(nl:Bool)(s:Ze):Bool×Int×Int×List Zu->XR
 |(false,c,st,seen)=>(.tup [.agg [Bo false,I c,I st,L 3 (seen.map Zu.c),L 1 (([]:V2).map ic),L 1 (([]:XS).map Ae)],Bo true],[])
 |(true,c,st,seen)=>(.tup [.agg [Bo true,I c,I st,L 3 (seen.map Zu.c),L 1 (s.Vars.map ic),L 1 ((Ua s.Rows).map Ae)],Bo true],[])
def Lc:Ua []=[]:=by simp[Ua,Kg,Vx]
theorem aY{m:Zt}(hm:Ci m)(k:Int):Le (BC m k).Steps:=by
 obtain⟨h1,h2,h3,h4,h5⟩:=hm;unfold BC
 grind
def ZEa{m:Zt}(h:VJ m)(k:Int):XZ (BC m k)=true:=by
 obtain⟨h1,h2,h3,h4,h5⟩:=h;unfold BC;split
 .exact h1.1
 .split
  .exact h2.1
  .split
   .exact h3.1
   .split
    .exact h4.1
    .exact h5.1
def rX{n:Nat}(h:n<=4096):Am (Se (n:Int)) 0 4096=true:=by
 unfold Se X4;rw[Ao]
 repeat' split
 all_goals first|decide|omega
theorem OJ{k:Nat}(h:k<=7):Am (ZT (k:Int)) 0 4096=true:=by
 have:∀k:Fin 8,Am (ZT (k.1:Int)) 0 4096=true:=by decide
 exact this ⟨k,E⟩
theorem OK{o:Zy}(h:XZ o=true){l r n:Int}(hl:Am l 0 4096=true)(hr:Am r 0 4096=true)(hn:Am n 0 4096=true):aM o l r n=WB o l r n:=by
 unfold WB
 simp_all
theorem Zrj{o:Zy}{l r b:Int}{k:Nat}(h:k<8):Hg o l r b k=if b<WB o l r (ZT k)then(k:Int)else Hg o l r b (k+1):=by
 unfold Hg;rw[show 8-k=(8-(k+1))+1 by omega,Fs,List.find?_cons]
 grind
def ZQF{o:Zy}(hs:Le o.Steps)(hv:XZ o=true){l r b:Int}(hl:Am l 0 4096=true)(hr:Am r 0 4096=true):∀k:Nat,k<=8->nF o l r b k=some (I (Hg o l r b k),[]):=by
 refine down 8 ?_ ?_
 .apply IU.1.1;rw[Yb Om];rfl
 .intro k hk ih;apply IU.1.1;rw[An,wS hk E,Zrj hk]
  grind [J4,ZPe,OK,OJ]
def ZEb{o:Zy}(hs:Le o.Steps)(hv:XZ o=true){l r b:Int}(hl:Am l 0 4096=true)(hr:Am r 0 4096=true):W8 o l r b=some (I (Hg o l r b 0),[]) :=
 IU.1.2 _ _ _ _ _ (ZQF hs hv hl hr 0 E)
def ZQG{m:Zt}(hm:Ci m)(kd:Int){l r b:Int}:∀k:Nat,k<=8->oI m kd l r b k=some (I (Hg (BC m kd) l r b k),[]):=by
 refine down 8 ?_ ?_
 .apply Us.1.1.2;rw[Yb Om];rfl
 .intro k hk ih;apply Us.1.1.2;rw[An,wS hk E,Zrj hk];refine⟨_,Z2j m kd,_,VI _,_,ZqA _ (aY hm kd) _ _ _,?_⟩
  grind
def ZEc{m:Zt}(hm:Ci m)(ha:VJ m){kd:Int}(hk:Am kd 1 5=true){l r b:Int}(hl:Am l 0 4096=true)(hr:Am r 0 4096=true):NL m kd l r b=some (I (Hg (BC m kd) l r b 0),[]):=by
 refine Us.1.2.1 _ _ _ _ _ _ ⟨_,Z2k m hm,?_⟩;rw[Ya (by simpa using ha)];refine⟨_,ZS _ _ _,?_⟩;rw[hk,Ya rfl];refine⟨_,ZS _ _ _,?_⟩;rw[hl,Ya rfl];refine⟨_,ZS _ _ _,?_⟩;rw[hr,Ya rfl];exact ZQG hm kd 0 E
structure Kw (q:Zc) (p:Zr) (info:List Zf) (l:List Ze):Prop where
 P:PI q p info
 G:DS q info l
 len:l.length=p.Steps.length
section
variable{q:Zc}{p:Zr}{info:List Zf}{l:List Ze}(R:Kw q p info l)
include R
theorem Kw.n4096(i:Int):(l.getD i.toNat ⟨[],[]⟩).Rows.length<=4096:=by
 by_cases h:i.toNat<l.length
 .obtain⟨y,_,g⟩:=R.G _ _ (Hd h);have:=g.len;have:=ZqL y.Mask;omega
 .simp_all
theorem Kw.ru(i:Int):Am (CD l i) 0 4096=true:=rX (R.n4096 i)
theorem Kw.at_{i:Nat}(hi:i<p.Steps.length):∃x y,p.Steps[i]?=some x/\info[i]?=some y/\p.Steps[i]=x/\(1<=x.Kind/\x.Kind<=5)/\(0<=y.Right↔3<=x.Kind)/\(0<=y.Right->0<=y.Left)/\(0<=y.Left->y.Left.toNat<i)/\(0<=y.Right->y.Right.toNat<i):=by
 have hl:=R.P.val.2.1;have hx:p.Steps[i]?=some p.Steps[i]:=Yh hi;have hy:info[i]?=some info[i]:=Yh E;have F:=qY R.P.eq i _ _ hy hx;refine⟨_,_,hx,hy,rfl,?_⟩;generalize p.Steps[i]=x at *
 generalize info[i]=y at *
 have hlt:∀{s:Int} {u:Zf},(info.take i)[s.toNat]?=some u->s.toNat<i:=by
  grind
 by_cases k1:x.Kind=1
 .obtain⟨-,rfl⟩:=F.scan k1
  simp_all
 .by_cases k2:x.Kind=2
  .obtain⟨s,u,f1,f2,-,rfl⟩:=F.sort k2
   simp_all
  .obtain⟨s,u,t,z,o,f1,f2,f3,f4,-,rfl,f6⟩:=F.join k1 k2
   grind
theorem Kw.lf{y:Zf}(i:Nat):Am (Ei l y i) 0 4096=true:=by unfold Ei;split<;>exact R.ru _
theorem Kw.rt{y:Zf}:Am (Ej l y) 0 4096=true:=by
 unfold Ej;split
 .exact R.ru _
 .decide
theorem Z2O{i:Nat}{x:Zn}{y:Zf}(hi:i<p.Steps.length)(hy:info[i]?=some y)(hL:0<=y.Left->y.Left.toNat<i)(hR:0<=y.Right->y.Right.toNat<i)(c:0<=y.Right->0<=y.Left):GU info l i=some (.tup [I (Ei l y i),I (Ej l y),I (CD l i)],[]):=by
 have hl:=R.len;have h0:l[(i:Int).toNat]?=some (l.getD (i:Int).toNat ⟨[],[]⟩):=Hd E;refine Wj.2.2.2.1 _ _ _ _ ⟨E,_,h0,_,Z2J _,y,by rw[Yj];exact hy,?_⟩;unfold Ei Ej;by_cases h1:0<=y.Left
 .rw[Ya h1,Ya h1];refine⟨_,Hd (by have:=hL h1;omega),_,Z2J _,?_⟩;by_cases h2:0<=y.Right
  .rw[Ya h2,Ya h2];exact⟨_,Hd (by have:=hR h2;omega),_,Z2J _,rfl⟩
  .rw[Yb h2,Yb h2];rfl
 .have h2:¬0<=y.Right:=λh=>h1 (c h)
  rw[Yb h1,Yb h1,Yb h2,Yb h2];rfl
theorem ZEd{m:Zt}(hm:Ci m){i:Nat}{x:Zn}{y:Zf}(hi:i<p.Steps.length)(hx:p.Steps[i]?=some x)(hy:info[i]?=some y)(hk:1<=x.Kind/\x.Kind<=5)(hL:0<=y.Left->y.Left.toNat<i)(hR:0<=y.Right->y.Right.toNat<i)(c:0<=y.Right->0<=y.Left):Nt m p info l i=some (I (CN m l x y i),[]):=by
 refine ZOr _ _ _ _ _ _ ⟨_,_,_,Z2O R (x:=x) hi hy hL hR c,Z2M m,E,x,by rw[Yj];exact hx,?_⟩;unfold CN BC
 grind [wA,ZPf]
theorem rY{m:Zt}{Ay:Int}{i:Nat}{x:Zn}{y:Zf}(hi:i<p.Steps.length)(hx:p.Steps[i]?=some x)(hy:info[i]?=some y)(c st:Int)(cc:List Zu) :
  A6 m l Ay (p.Steps.drop i) (info.drop i) i c st cc=if w (Ay-c)<CN m l x y i then(false,Ay,st,if 3<=x.Kind then cc++[Qp m l x y (w (Ay-c))]else cc)else A6 m l Ay (p.Steps.drop (i+1)) (info.drop (i+1)) (i+1) (w (c+CN m l x y i)) (w (st+1)) (if 3<=x.Kind then cc++[Hh l y i]else cc):=by
 have hl:=R.P.val.2.1;have hx':p.Steps[i]=x:=by rw[Yh hi]at hx;exact w7 hx
 have hy':info[i]' E=y:=by rw[Yh E]at hy;exact w7 hy
 rw[Yg hi,Yg (show i<info.length by omega),hx',hy',A6]
omit R in
theorem rZ{m:Zt}{Ay:Int}(c st:Int)(cc:List Zu):A6 m l Ay (p.Steps.drop p.Steps.length) (info.drop p.Steps.length) p.Steps.length c st cc=(true,c,st,cc):=by rw[Yl];rfl
theorem Kw.last:l[((p.Steps.length-1:Nat):Int).toNat]?=some (l.getD (p.Steps.length-1) ⟨[],[]⟩)/\VS (l.getD (p.Steps.length-1) ⟨[],[]⟩):=by
 have h:=R.P.val;have hl:=R.len;have h1:l[((p.Steps.length-1:Nat):Int).toNat]?=some (l.getD ((p.Steps.length-1:Nat):Int).toNat ⟨[],[]⟩):=Hd E;rw[Yj]at h1|-;obtain⟨y,_,g⟩:=R.G _ _ h1;exact⟨h1,g.vs h.1⟩
end
