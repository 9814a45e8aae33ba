/-
  Parts of the proofs for this seat: LB LC LD LE LF LG LH SFx GA GB LQ GC.
-/
import Derived.Test.YtnnjbejcffjgfaaGreatP20
set_option linter.unusedSectionVars false
set_option linter.unusedSimpArgs false
set_option linter.unusedVariables false
set_option maxRecDepth 100000
set_option maxHeartbeats 4000000
namespace Go.Proofs.YtnnjbejcffjgfaaGreat
open Go.AM
theorem gDn{xs:List Int}{i:Nat}(h:i<xs.length):xs[((i:Nat):Int).toNat]?=some (xs.getD i 0):=by
 rw[Yh];exact gD h
theorem gR{xs:List Za}{i:Nat}(h:i<xs.length):xs[i]?=some (xs.getD i r0):=by
 rw[Yy,Yj h];rfl
theorem gRn{xs:List Za}{i:Nat}(h:i<xs.length):xs[((i:Nat):Int).toNat]?=some (xs.getD i r0):=by
 rw[Yh];exact gR h
theorem gCn{xs:List (List Za)}{i:Nat}(h:i<xs.length):xs[((i:Nat):Int).toNat]?=some (xs.getD i []):=by
 rw[Yh,Yy,Yj h];rfl
abbrev Best(best:Int)(n:Nat):Prop:=best=-1\/(0<=best/\best<n)
theorem Zcuw(d:Zn)(hl:d.Costs.length<=1000)(hF:d.Free.length=d.Costs.length):∀i,i<=d.Costs.length->∀best,Best best d.Costs.length->Zkn d best d.Costs d.Costs.length i=some (I (entG d.Free (d.Costs.drop i) i best),[]):=by
 refine down _ ?_ ?_
 .intro best hb;refine Zb0p ?_;rw[if_neg (by omega),Yg];rfl
 .intro i hi ih best hb;refine Zb0p ?_;rw[if_pos (by omega),Yd hi,entG,wS hi (by omega)];refine⟨by omega,_,gE hi,?_⟩;by_cases h1:0<d.Costs[i].Num
  .rw[if_pos h1];by_cases h2:best<0
   .rw[if_pos h2,if_pos ⟨h1,.inl h2⟩];exact ih i (.inr ⟨by omega,by omega⟩)
   .rw[if_neg h2];refine⟨_,gDn (by omega),by omega,_,gD (by omega),?_⟩;by_cases h3:d.Free.getD i 0<d.Free.getD best.toNat 0
    .rw[if_pos h3,if_pos ⟨h1,.inr h3⟩];exact ih i (.inr ⟨by omega,by omega⟩)
    .rw[if_neg h3,if_neg (by rintro⟨_,h|h⟩;exact h2 h;exact h3 h)];exact ih best hb
  .rw[if_neg h1,if_neg (λhc=>h1 hc.1)];exact ih best hb
theorem Zyv{d:Zn}(h:Zd6 d):Zvc d=some (I (ent d),[]):=by
 have:=h.lk;have:=h.n;exact Zcoo (by simpa[ent]using Zcuw d (by omega) (by omega) 0 (Ya _) (-1) (.inl rfl))
theorem Zcux(d:Zn)(hl:d.Costs.length<=1000)(hF:d.Free.length=d.Costs.length):∀i,i<=d.Costs.length->∀best,Best best d.Costs.length->Zkx d best i=some (I (entG d.Free (d.Costs.drop i) i best),[]):=by
 refine down _ ?_ ?_
 .intro best hb;refine Zb3b ?_;rw[if_neg (by omega),Yg];rfl
 .intro i hi ih best hb;refine Zb3b ?_;rw[if_pos (by omega),Yd hi,entG,wS hi (by omega)];refine⟨by omega,_,gE hi,?_⟩;by_cases h1:0<d.Costs[i].Num
  .rw[if_pos h1];by_cases h2:best<0
   .rw[if_pos h2,if_pos ⟨h1,.inl h2⟩];exact ih i (.inr ⟨by omega,by omega⟩)
   .rw[if_neg h2];refine⟨_,gDn (by omega),by omega,_,gD (by omega),?_⟩;by_cases h3:d.Free.getD i 0<d.Free.getD best.toNat 0
    .rw[if_pos h3,if_pos ⟨h1,.inr h3⟩];exact ih i (.inr ⟨by omega,by omega⟩)
    .rw[if_neg h3,if_neg (by rintro⟨_,h|h⟩;exact h2 h;exact h3 h)];exact ih best hb
  .rw[if_neg h1,if_neg (λhc=>h1 hc.1)];exact ih best hb
theorem l_all(l:List Za)(hl:l.length<=1000)(h:allV l):∀i,i<=l.length->Zxi l i=some (Bo true,[]):=by
 refine down _ ?_ ?_
 .refine Zb28 ?_;rw[if_neg (by omega)]
 .intro i hi ih;refine Zb28 ?_;rw[if_pos (by omega),wS hi (by omega)];refine⟨by omega,_,gE hi,_,Zd7 _,?_⟩;rw[h _ (Yb hi),if_pos rfl];exact ih
theorem x_all{l:List Za}(hl:l.length<=1000)(h:allV l):Zrk l=some (Bo true,[]):=Zcrs (l_all l hl h 0 (Ya _))
theorem l_val1{d:Zn}(h:Zd6 d):∀i,i<=d.Basic.length->Zxl d d.Basic.length d.Free.length i=some (Bo true,[]):=by
 have hm:=h.m;have hn:=h.n;have hll:=h.ll;have hlk:=h.lk;have hlc:=h.lc;refine down _ ?_ ?_
 .refine Zb3a ?_;rw[if_neg (by omega)];refine⟨_,x_all (by omega) h.vl,?_⟩;rw[if_pos rfl];refine⟨_,x_all (by omega) h.vk,?_⟩;rw[if_pos rfl];exact⟨_,Zd7 _,by rw[h.vv]⟩
 .intro i hi ih;have hi':i<d.Cells.length:=by omega
  obtain⟨hr,hv⟩:=h.rw' _ (Yb hi');refine Zb3a ?_;rw[if_pos (by omega),wS hi (by omega)];refine⟨by omega,_,gE hi',?_⟩;rw[if_pos (by omega)];refine⟨_,x_all (by omega) hv,?_⟩;rw[if_pos rfl];exact ih
theorem l_val0{d:Zn}(h:Zd6 d):∀i,i<=d.Basic.length+d.Free.length->Zxk d (d.Basic++d.Free) d.Basic.length d.Free.length i=some (Bo true,[]):=by
 have hm:=h.m;have hn:=h.n;have e:w ((d.Basic.length:Int)+(d.Free.length:Int))=((d.Basic.length+d.Free.length:Nat):Int):=by rw[w_in ⟨by omega,by omega⟩];omega
 refine down _ ?_ ?_
 .refine Zb29 ?_;rw[e,if_neg (by omega)];exact l_val1 h 0 (Ya _)
 .intro i hi ih;refine Zb29 ?_;rw[e,if_pos (by omega),wS hi (by omega)];have hh:has (d.Basic++d.Free) (i:Int)=true:=by
   have:=h.vs i hi;simpa[has]using this
  refine⟨_,Zn0 _ _ (by simp;omega),?_⟩;rw[hh,if_pos rfl];exact ih
theorem Zbkc{d:Zn}(h:Zd6 d):Znq d=some (Bo true,[]):=by
 have hm:=h.m;have hn:=h.n;have hll:=h.ll;have hlk:=h.lk;have hlc:=h.lc;refine Zcrt ?_;rw[if_neg (by omega)];refine⟨_,Z8 _ _ _,?_⟩;rw[show inR (d.Free.length:Int) 1 15=true from Zy.2 ⟨by omega,by omega⟩,if_pos rfl,if_pos (by omega),if_pos (by omega),if_pos (by omega)];exact⟨by omega,by omega,l_val0 h 0 (Ya _)⟩
theorem Z6b{d:Zn}(h:Zd6 d):Zxm d=some (I (ent d),[]):=by
 have hlk:=h.lk;have hn:=h.n;refine Zcru ⟨_,Zbkc h,?_⟩;rw[if_pos rfl];have:=Zcux d (by omega) (by omega) 0 (Ya _) (-1) (.inl rfl);simpa[ent]using this
theorem Zez{d:Zn}(h:Zd6 d){i j:Nat}(hi:i<d.Basic.length)(hj:j<d.Free.length):(d.Cells.getD i []).length=d.Free.length/\allV (d.Cells.getD i [])/\(d.Cells.getD i [])[((j:Nat):Int).toNat]?=some (Zbk d i j):=by
 have hi':i<d.Cells.length:=by have:=h.lc;omega
 have e:d.Cells.getD i []=d.Cells[i]:=by rw[Yy,Yj hi'];rfl
 obtain⟨hr,hv⟩:=h.rw' _ (Yb hi');unfold Zbk;rw[e];exact⟨hr,hv,gRn (by omega)⟩
theorem Zcuy{d:Zn}(h:Zd6 d){j:Nat}(hj:j<d.Free.length):∀i,i<=d.Basic.length->∀best least,Best best d.Basic.length->Zhr d least j best d.Basic.length i=some (I (lvG d j (d.Basic.length-i) i best least),[]):=by
 have hm:=h.m;have hll:=h.ll;have hlc:=h.lc;refine down _ ?_ ?_
 .intro best least hb;refine Zb0r ?_;rw[if_neg (by omega),Y6];rfl
 .intro i hi ih best least hb;refine Zb0r ?_;obtain⟨_,_,hc⟩:=Zez h hi hj;rw[if_pos (by omega),wS hi (by omega),show d.Basic.length-i=(d.Basic.length-(i+1))+1 by omega,lvG];refine⟨by omega,_,gCn (by omega),by omega,_,hc,?_⟩;by_cases h1:(Zbk d i j).Num<=0
  .rw[if_pos h1,if_pos h1];exact ih best least hb
  .rw[if_neg h1,if_neg h1];refine⟨_,gRn (by omega),_,_,Zb40 _ _,?_⟩
   cases e:divR (d.Limits.getD i r0) (Zbk d i j)with
   |none=>rw[if_neg (by decide)]
   |some q =>
    rw[if_pos (by rfl)];refine⟨_,Zct1 _ _,?_⟩;simp only[Option.getD_some];by_cases h2:best<0
    .rw[if_pos h2,if_pos (.inl h2)];exact ih i q (.inr ⟨by omega,by omega⟩)
    rw[if_neg h2];by_cases h3:cmpN q least<0
    .rw[if_pos h3,if_pos (.inr (.inl h3))];exact ih i q (.inr ⟨by omega,by omega⟩)
    rw[if_neg h3];by_cases h4:cmpN q least=0
    .rw[if_pos h4];refine⟨_,gDn hi,by omega,_,gD (by omega),?_⟩;by_cases h5:d.Basic.getD i 0<d.Basic.getD best.toNat 0
     .rw[if_pos h5,if_pos (.inr (.inr ⟨h4,h5⟩))];exact ih i q (.inr ⟨by omega,by omega⟩)
     .rw[if_neg h5,if_neg (by rintro(h|h|h);exact h2 h;exact h3 h;exact h5 h.2)];exact ih best least hb
    .rw[if_neg h4,if_neg (by rintro(h|h|h);exact h2 h;exact h3 h;exact h4 h.1)];exact ih best least hb
theorem Z6c{d:Zn}(h:Zd6 d){j:Nat}(hj:j<d.Free.length):Zvf d j=some (I (lea d j),[]) :=
 Zcot (Zcuy h hj 0 (Ya _) (-1) r0 (.inl rfl))
theorem Zcuz{d:Zn}(h:Zd6 d){j:Nat}(hj:j<d.Free.length):∀i,i<=d.Basic.length->∀best least,Best best d.Basic.length->Zhy d least j best i=some (I (lvG d j (d.Basic.length-i) i best least),[]):=by
 have hm:=h.m;have hll:=h.ll;have hlc:=h.lc;refine down _ ?_ ?_
 .intro best least hb;refine Zb3c ?_;rw[if_neg (by omega),Y6];rfl
 .intro i hi ih best least hb;refine Zb3c ?_;obtain⟨_,_,hc⟩:=Zez h hi hj;rw[if_pos (by omega),wS hi (by omega),show d.Basic.length-i=(d.Basic.length-(i+1))+1 by omega,lvG];refine⟨by omega,_,gCn (by omega),by omega,_,hc,?_⟩;by_cases h1:(Zbk d i j).Num<=0
  .rw[if_pos h1,if_pos h1];exact ih best least hb
  .rw[if_neg h1,if_neg h1];refine⟨_,gRn (by omega),_,_,Z51 _ _,?_⟩
   cases e:divR (d.Limits.getD i r0) (Zbk d i j)with
   |none=>rw[if_neg (by decide)]
   |some q =>
    rw[if_pos (by rfl)];refine⟨_,Zct2 _ _,?_⟩;simp only[Option.getD_some];by_cases h2:best<0
    .rw[if_pos h2,if_pos (.inl h2)];exact ih i q (.inr ⟨by omega,by omega⟩)
    rw[if_neg h2];by_cases h3:cmpN q least<0
    .rw[if_pos h3,if_pos (.inr (.inl h3))];exact ih i q (.inr ⟨by omega,by omega⟩)
    rw[if_neg h3];by_cases h4:cmpN q least=0
    .rw[if_pos h4];refine⟨_,gDn hi,by omega,_,gD (by omega),?_⟩;by_cases h5:d.Basic.getD i 0<d.Basic.getD best.toNat 0
     .rw[if_pos h5,if_pos (.inr (.inr ⟨h4,h5⟩))];exact ih i q (.inr ⟨by omega,by omega⟩)
     .rw[if_neg h5,if_neg (by rintro(h|h|h);exact h2 h;exact h3 h;exact h5 h.2)];exact ih best least hb
    .rw[if_neg h4,if_neg (by rintro(h|h|h);exact h2 h;exact h3 h;exact h4 h.1)];exact ih best least hb
theorem Zbkd{d:Zn}(h:Zd6 d){j:Nat}(hj:j<d.Free.length):Zxn d j=some (I (lea d j),[]):=by
 have hn:=h.n;refine Zcrx ⟨_,Zbkc h,?_⟩;rw[if_pos rfl,w_in ⟨by omega,by omega⟩];refine⟨_,Z8 _ _ _,?_⟩;rw[show inR (j:Int) 0 ((d.Free.length:Int)-1)=true from Zy.2 ⟨by omega,by omega⟩,if_pos rfl];exact Zcuz h hj 0 (Ya _) (-1) r0 (.inl rfl)
theorem b3(x a b:Bool):(x || !(a && b))=((x || !a) || !b):=by cases x<;>cases a<;>cases b<;>rfl
theorem getO{O:List (Option Za)}{k:Nat}(h:k<O.length):O[k]=O.getD k none:=by
 rw[Yy,Yj h];rfl
theorem Zfx{O:List (Option Za)}{k:Nat}(h:k<O.length):vals (O.take (k+1))=vals (O.take k)++[(O.getD k none).getD r0]:=by
 rw[Y1 h,Zctm,getO h];rfl
theorem Zh2{O:List (Option Za)}{k:Nat}(h:k<O.length):allS (O.take (k+1))=(allS (O.take k) && (O.getD k none).isSome):=by
 rw[Y1 h,Zctl,getO h];simp[allS]
def mixL(O:List (Option Za))(l:List Za)(k:Nat):List Za:=vals (O.take k)++l.drop k
theorem Zbke(O:List (Option Za))(l:List Za):mixL O l 0=l:=by simp[mixL,vals]
theorem Zbkf{O:List (Option Za)}{l:List Za}(h:O.length=l.length):mixL O l l.length=vals O:=by
 unfold mixL;rw[Yg,Ybl,<-h,Yl]
theorem Zll{O:List (Option Za)}{l:List Za}(h:O.length=l.length){k:Nat}(hk:k<l.length):(mixL O l k)[((k:Nat):Int).toNat]?=some (l.getD k r0):=by
 unfold mixL;have e:(vals (O.take k)).length=k:=by rw[Zdu,Yp];omega
 rw[Yh,Ycg (by omega),e,Y6,Ydo,Ybr];exact gR hk
theorem Zr9{O:List (Option Za)}{l:List Za}(h:O.length=l.length){k:Nat}(hk:k<l.length):(mixL O l k).set k ((O.getD k none).getD r0)=mixL O l (k+1):=by
 unfold mixL;have e:(vals (O.take k)).length=k:=by rw[Zdu,Yp];omega
 rw[Zfx (by omega),List.set_append_right _ _ (by omega),e,Y6,Yd hk,List.set_cons_zero,Yz];rfl
theorem Zb5k(l p:List Za)(a:Za)(j:Nat){k:Nat}(hk:k<l.length):(rowI l p a j).getD k none=celI k j (l.getD k r0) (l.getD j r0) a (p.getD k r0):=by
 unfold rowI;rw[Yy,Ybh,List.getElem?_range hk];rfl
theorem Z6d(l p:List Za)(j:Nat){k:Nat}(hk:k<l.length):(rowS l p j).getD k none=celS k j (l.getD k r0) (l.getD j r0) (p.getD k r0):=by
 unfold rowS;rw[Yy,Ybh,List.getElem?_range hk];rfl
theorem Zb5l(l p:List Za)(a:Za)(j:Nat):(rowI l p a j).length=l.length:=by simp[rowI]
theorem Zb5m(row:List Za)(j:Nat){k:Nat}(hk:k<row.length):(prow row j).getD k none=if k=j then divR ⟨1,1⟩ (row.getD j r0)else divR (row.getD k r0) (row.getD j r0):=by
 unfold prow;rw[Yy,Ybh,List.getElem?_range hk];rfl
theorem Zb5n(o:Option Za):nR (o.getD r0)=(o.map nR).getD r0:=by cases o<;>rfl
theorem Zb5o(o:Option Za)(h:∀r,o=some r->vR r=true):In63 (o.getD r0).Num:=by
 cases o with
 |none=>exact⟨by decide,by decide⟩
 |some r=>exact Zlg (h r rfl)
theorem Zbkg(n:Int):Zkm n=some (.agg ((⟨n,1⟩:Za).c.map .t),[]):=Zcoj rfl
theorem Z6e{l:List Za}(h:l≠[])(h2:l.length<=1000):Zko l=some (.own 0,[.arr 149 2 true (l.map Za.c)]):=Zco1 ⟨h,by omega,rfl⟩
theorem Zbkh{l:List Int}(h2:l.length<=1000):Zep l=some (.own 0,[.arr 3 1 true (l.map ic)]):=Zby6 ⟨by omega,rfl⟩
section
variable{l pr:List Za}{a:Za}{j:Nat}(hv:allV l)(hp:pr.length=l.length)(hj:j<l.length)(h15:l.length<=1000)
include hv hp hj h15
theorem l_chg(x:Z4):∀k,k<=l.length->Zp0 (mixL (rowI l pr a j) l k) j ⟨x.bad || !allS ((rowI l pr a j).take k)⟩ a pr (l.getD j r0) l.length k=some (.own 6,[.box [I j],.box [.ptr 2 0],.box ((⟨x.bad || !allS (rowI l pr a j)⟩:Z4).c.map .t),.box (a.c.map .t),.box [.own 5],.arr 149 2 true (pr.map Za.c),.arr 149 2 true ((vals (rowI l pr a j)).map Za.c)]):=by
 have hO:=Zb5l l pr a j;refine down _ ?_ ?_
 .refine Zb0s ?_;rw[if_neg (by omega),Zbkf hO,<-hO,Yl]
 .intro k hk ih;refine Zb0s ?_;rw[<-Zr9 hO hk,Zh2 (by omega),Zb5k l pr a j hk,b3]at ih;rw[if_pos (by omega),wS hk (by omega)];by_cases e:k=j
  .rw[if_pos (by omega)];refine⟨_,_,Zyr _ _ _,_,Zlf (Zb5o _ λr hr=>Zgk hr),by omega,_,Zll hO hk,?_⟩;rw[celI,if_pos e]at ih;rw[Zb5n,Yh];simpa using ih
  .rw[if_neg (by omega)];refine⟨by omega,_,Zll hO hk,_,Zlf (Zlg (Zgl hv hj)),_,gRn (by omega),_,_,Zr8 _ _ _ _,?_⟩;rw[celI,if_neg e]at ih;rw[Yh];exact ih
theorem x_chg(x:Z4):Zmt j x a pr l=some (.own 6,[.box [I j],.box [.ptr 2 0],.box ((⟨x.bad || !allS (rowI l pr a j)⟩:Z4).c.map .t),.box (a.c.map .t),.box [.own 5],.arr 149 2 true (pr.map Za.c),.arr 149 2 true ((vals (rowI l pr a j)).map Za.c)]):=by
 refine Zco2 ⟨by omega,_,gRn hj,_,Z6e (by rintro rfl;simp at hj) h15,?_⟩;have:=l_chg hv hp hj h15 (a:=a) x 0 (Ya _);rw[Zbke]at this;simpa[allS]using this
theorem l_chg1(x:Z4):∀k,k<=l.length->Zp1 (mixL (rowI l pr a j) l k) j ⟨x.bad || !allS ((rowI l pr a j).take k)⟩ a pr (l.getD j r0) l.length k=some (.own 5,[.box [I j],.box [.ptr 2 0],.box ((⟨x.bad || !allS (rowI l pr a j)⟩:Z4).c.map .t),.box (a.c.map .t),.box [L 2 (pr.map Za.c)],.arr 149 2 true ((vals (rowI l pr a j)).map Za.c)]):=by
 have hO:=Zb5l l pr a j;refine down _ ?_ ?_
 .refine Zb0t ?_;rw[if_neg (by omega),Zbkf hO,<-hO,Yl]
 .intro k hk ih;refine Zb0t ?_;rw[<-Zr9 hO hk,Zh2 (by omega),Zb5k l pr a j hk,b3]at ih;rw[if_pos (by omega),wS hk (by omega)];by_cases e:k=j
  .rw[if_pos (by omega)];refine⟨_,_,Zyr _ _ _,_,Zlf (Zb5o _ λr hr=>Zgk hr),by omega,_,Zll hO hk,?_⟩;rw[celI,if_pos e]at ih;rw[Zb5n,Yh];simpa using ih
  .rw[if_neg (by omega)];refine⟨by omega,_,Zll hO hk,_,Zlf (Zlg (Zgl hv hj)),_,gRn (by omega),_,_,Zr8 _ _ _ _,?_⟩;rw[celI,if_neg e]at ih;rw[Yh];exact ih
theorem x_chg1(x:Z4):Zvi j x a pr l=some (.own 5,[.box [I j],.box [.ptr 2 0],.box ((⟨x.bad || !allS (rowI l pr a j)⟩:Z4).c.map .t),.box (a.c.map .t),.box [L 2 (pr.map Za.c)],.arr 149 2 true ((vals (rowI l pr a j)).map Za.c)]):=by
 refine Zco3 ⟨by omega,_,gRn hj,_,Z6e (by rintro rfl;simp at hj) h15,?_⟩;have:=l_chg1 hv hp hj h15 (a:=a) x 0 (Ya _);rw[Zbke]at this;simpa[allS]using this
end
def Zlm:AV×List Blk:=(.tup [.agg [.own 0,.own 1,.own 2,.own 3,.own 4,I 0,I 0],Bo false],[.arr 3 1 true (([]:List Int).map ic),.arr 3 1 true (([]:List Int).map ic),.arr 179 1 true (([]:List (List Za)).map (lc 2 Za.c)),.arr 149 2 true (([]:List Za).map Za.c),.arr 149 2 true (([]:List Za).map Za.c)])
def Zjg(fr:Bool)(d:Zn):AV×List Blk:=(.tup [.agg [.own 0,.own 1,.own 2,.own 3,.own 4,I d.Value.Num,I d.Value.Den],Bo true],[.arr 3 1 true (d.Basic.map ic),.arr 3 1 true (d.Free.map ic),.arr 179 1 fr (d.Cells.map (lc 2 Za.c)),.arr 149 2 true (d.Limits.map Za.c),.arr 149 2 true (d.Costs.map Za.c)])
def Zc0(d:Zn)(i j:Nat):AV×List Blk:=if okO d i j=true then Zjg false (Zbs d i j)else Zlm
def Zcc(d:Zn)(i j r:Nat):List (List Za):=((Zex d i j).take r).map vals
def pRow(d:Zn)(i j:Nat):List (Option Za):=prow (d.Cells.getD i []) j
def okU(d:Zn)(i j r:Nat):Bool:=(allS (pRow d i j) && (limO d i j).isSome) && (((Zex d i j).take r).all allS && allS ((Zb0 d i j).take r))
def limV(d:Zn)(i j:Nat):Za:=(limO d i j).getD r0
theorem Zn4(d:Zn)(i j:Nat):(Zex d i j).length=d.Cells.length:=by simp[Zex]
theorem Zd9(d:Zn)(i j:Nat):(Zb0 d i j).length=d.Limits.length:=by simp[Zb0]
theorem Zb5p(d:Zn)(i j:Nat){r:Nat}(hr:r<d.Cells.length):(Zex d i j)[r]'(by rw[Zn4];exact hr)=if r=i then pRow d i j else rowS (d.Cells.getD r []) (vals (pRow d i j)) j:=by simp[Zex,pRow]
theorem Zg3(d:Zn)(i j:Nat){r:Nat}(hr:r<d.Limits.length):(Zb0 d i j).getD r none=if r=i then limO d i j else leS (d.Limits.getD r r0) (Zbk d r j) (limV d i j):=by
 unfold Zb0;rw[Yy,Ybh,List.getElem?_range hr];rfl
theorem Zh3(d:Zn)(i j:Nat){r:Nat}(hr:r<d.Cells.length):Zcc d i j (r+1)=Zcc d i j r++[vals (if r=i then pRow d i j else rowS (d.Cells.getD r []) (vals (pRow d i j)) j)]:=by
 unfold Zcc;rw[Y1 (by rw[Zn4];exact hr),Y0,Zb5p d i j hr];rfl
theorem Zjh(d:Zn)(i j:Nat){r:Nat}(hr:r<d.Cells.length)(c:r<d.Limits.length):okU d i j (r+1)=(okU d i j r && (allS (if r=i then pRow d i j else rowS (d.Cells.getD r []) (vals (pRow d i j)) j) && (if r=i then limO d i j else leS (d.Limits.getD r r0) (Zbk d r j) (limV d i j)).isSome)):=by
 unfold okU;rw[Y1 (by rw[Zn4];exact hr),List.all_append,Zb5p d i j hr,Zh2 (by rw[Zd9];exact c),Zg3 d i j c];simp only[Y5,List.all_nil,Bool.and_true];generalize allS (pRow d i j)=p;generalize (limO d i j).isSome=q;generalize ((Zex d i j).take r).all allS=s;generalize allS ((Zb0 d i j).take r)=t;generalize allS (if r=i then pRow d i j else rowS (d.Cells.getD r []) (vals (pRow d i j)) j)=u;generalize (if r=i then limO d i j else leS (d.Limits.getD r r0) (Zbk d r j) (limV d i j)).isSome=v;cases p<;>cases q<;>cases s<;>cases t<;>cases u<;>cases v<;>rfl
theorem okU_i(d:Zn){i j:Nat}(hr:i<d.Cells.length)(c:i<d.Limits.length):okU d i j (i+1)=okU d i j i:=by
 rw[Zjh d i j hr c,if_pos rfl,if_pos rfl];unfold okU;generalize allS (pRow d i j)=p;generalize (limO d i j).isSome=q;generalize ((Zex d i j).take i).all allS=s;generalize allS ((Zb0 d i j).take i)=t;cases p<;>cases q<;>cases s<;>cases t<;>rfl
theorem Zbki{d:Zn}{i j:Nat}(hl:d.Limits.length=d.Cells.length):okO d i j=(okU d i j d.Cells.length && allS (Zcp d i j) && (valO d i j).isSome):=by
 unfold okO okU;rw[<-Zn4 d i j,Yl,Zn4,<-hl,<-Zd9 d i j,Yl];unfold pRow;generalize allS (prow (d.Cells.getD i []) j)=p;generalize (limO d i j).isSome=q;generalize (Zex d i j).all allS=s;generalize allS (Zb0 d i j)=t;generalize allS (Zcp d i j)=u;generalize (valO d i j).isSome=v;cases p<;>cases q<;>cases s<;>cases t<;>cases u<;>cases v<;>rfl
theorem Z0l{α:Type}(p:α->Bool)(l:List α)(r:Nat)(h:l.all p=true):(l.take r).all p=true:=Yn.2 λx hx=>Yn.1 h x (Ybe hx)
theorem Zyw{d:Zn}{i j r:Nat}(h:okU d i j r=false):okO d i j=false:=by
 rcases ft (okO d i j)with e|e
 .unfold okO at e;simp only[Yc]at e;obtain⟨⟨⟨⟨⟨o1,o2⟩,o3⟩,o4⟩,o5⟩,o6⟩:=e;unfold okU pRow at h;rw[o1,o2,Z0l _ _ _ o3,show allS ((Zb0 d i j).take r)=true from Z0l _ _ _ o4]at h;cases h
 .exact e
structure PivC (d:Zn) (i j:Nat):Prop where
 v:Zd6 d
 hi:i<d.Basic.length
 hj:j<d.Free.length
 nz:(Zbk d i j).Num≠0
section
variable{d:Zn}{i j:Nat}(h:PivC d i j)
include h
theorem PivC.cj:j<(d.Cells.getD i []).length:=by have:=(Zez h.v h.hi h.hj).1;have:=h.hj;omega
theorem PivC.va:vR (Zbk d i j)=true:=Zgl (Zez h.v h.hi h.hj).2.1 h.cj
theorem PivC.row{l:List Za}(hl:l.length=d.Free.length)(hv:allV l):rowI l (vals (pRow d i j)) (Zbk d i j) j=rowS l (vals (pRow d i j)) j :=
 row_eq h.cj (Zgl hv (by have:=h.hj;omega)) h.va h.nz
theorem PivC.plen:(vals (pRow d i j)).length=d.Free.length:=by
 unfold pRow;rw[Zdu,Zbj2];exact(Zez h.v h.hi h.hj).1
theorem val_of:Zfq ⟨!okU d i j d.Cells.length || !allS (Zcp d i j)⟩ d.Value (d.Costs.getD j r0) (limV d i j)=some (.agg (((valO d i j).getD r0).c.map .t),[.box ((⟨!okO d i j⟩:Z4).c.map .t)]):=by
 rw[Zr8,Zbki (by have:=h.v.ll;have:=h.v.lc;omega)];unfold rkR;have e:((!okU d i j d.Cells.length || !allS (Zcp d i j)) || !(valO d i j).isSome)=(!(okU d i j d.Cells.length && allS (Zcp d i j) && (valO d i j).isSome)):=by
  generalize okU d i j d.Cells.length=p;generalize allS (Zcp d i j)=q;generalize (valO d i j).isSome=s;cases p<;>cases q<;>cases s<;>rfl
 rw[<-e];rfl
theorem cost_row:rowI d.Costs (vals (pRow d i j)) (Zbk d i j) j=Zcp d i j:=h.row h.v.lk h.v.vk
theorem l_p1a(V:Za):∀r,r<=d.Cells.length->i<r->Zmw d j V ⟨!okU d i j r⟩ d.Value (d.Basic.set i (d.Free.getD j 0)) (d.Free.set j (d.Basic.getD i 0)) false (Zcc d i j r) (mixL (Zb0 d i j) d.Limits r) d.Costs (vals (pRow d i j)) (limV d i j) (Zbk d i j) i d.Cells d.Cells.length r=some (Zc0 d i j):=by
 have hm:=h.v.m;have hn:=h.v.n;have hll:=h.v.ll;have hlk:=h.v.lk;have hlc:=h.v.lc;have hj:=h.hj;have hpl:=h.plen;refine down _ ?_ ?_
 .intro hr;refine Zb0v ?_;rw[if_neg (by omega)];have hx:=x_chg1 (a:=Zbk d i j) h.v.vk (show(vals (pRow d i j)).length=d.Costs.length by omega) (show j<d.Costs.length by omega) (by omega) ⟨!okU d i j d.Cells.length⟩;rw[cost_row h]at hx;refine⟨_,_,_,_,_,hx,by omega,_,gRn (by omega),_,_,val_of h,?_⟩;unfold Zc0;rcases ft (okO d i j)with e|e
  .rw[e,if_neg (by decide),if_pos rfl];have e1:mixL (Zb0 d i j) d.Limits d.Cells.length=vals (Zb0 d i j):=by
    rw[show d.Cells.length=d.Limits.length by omega];exact Zbkf (Zd9 d i j)
   have e2:Zcc d i j d.Cells.length=(Zex d i j).map vals:=by
    unfold Zcc;rw[<-Zn4 d i j,Yl]
   rw[e1,e2];rfl
  .rw[e,if_pos (by rfl),if_neg (by decide)];rfl
 .intro r hr ih hir;refine Zb0v ?_;have hrb:r<d.Basic.length:=by omega
  obtain⟨hc1,hc2,hc3⟩:=Zez h.v hrb hj;have hcv:vR (Zbk d r j)=true:=Zgl hc2 (by omega);rw[if_pos (by omega),wS hr (by omega)];refine⟨by omega,_,gCn hr,?_⟩;rw[if_neg (by omega)];have hx:=x_chg1 (a:=Zbk d i j) hc2 (show(vals (pRow d i j)).length=(d.Cells.getD r []).length by omega) (show j<(d.Cells.getD r []).length by omega) (by omega) ⟨!okU d i j r⟩;rw[h.row hc1 hc2]at hx;refine⟨_,_,_,_,_,hx,by simp[Zcc];omega,_,gRn (by omega),by omega,_,hc3,_,Zlf (Zlg hcv),_,_,Zr8 _ _ _ _,_,Zll (Zd9 d i j) (by omega),?_⟩;have ih:=ih (by omega);rw[Zh3 d i j hr,Zjh d i j hr (by omega),if_neg (by omega),if_neg (by omega),<-Zr9 (Zd9 d i j) (by omega),Zg3 d i j (by omega),if_neg (by omega)]at ih;rw[pl_le,Yh];have e (a b c:Bool):(!(a && (b && c)))=((!a || !b) || !c):=by cases a<;>cases b<;>cases c<;>rfl
  rw[e]at ih;exact ih
theorem l_p1b(V:Za):∀r,r<=i->0<r->Zvl d j V ⟨!okU d i j r⟩ d.Value (d.Basic.set i (d.Free.getD j 0)) (d.Free.set j (d.Basic.getD i 0)) (Zcc d i j r) (mixL (Zb0 d i j) d.Limits r) d.Costs (vals (pRow d i j)) (limV d i j) (Zbk d i j) i d.Cells d.Cells.length r=some (Zc0 d i j):=by
 have hm:=h.v.m;have hn:=h.v.n;have hll:=h.v.ll;have hlk:=h.v.lk;have hlc:=h.v.lc;have hj:=h.hj;have hi:=h.hi;have hpl:=h.plen;refine down _ ?_ ?_
 .intro hr;refine Zb0w ?_;rw[if_pos (by omega),wS (show i<d.Cells.length by omega) (by omega)];refine⟨by omega,_,gCn (by omega),?_⟩;rw[if_pos rfl];refine⟨by simp[Zcc];omega,_,Zll (Zd9 d i j) (by omega),?_⟩;have:=l_p1a h V (i+1) (by omega) (by omega);rw[Zh3 d i j (by omega),okU_i d (by omega) (by omega),if_pos rfl,<-Zr9 (Zd9 d i j) (by omega),Zg3 d i j (by omega),if_pos rfl]at this;rw[Yh];exact this
 .intro r hr ih hir;refine Zb0w ?_;have hrb:r<d.Basic.length:=by omega
  obtain⟨hc1,hc2,hc3⟩:=Zez h.v hrb hj;have hcv:vR (Zbk d r j)=true:=Zgl hc2 (by omega);rw[if_pos (by omega),wS (show r<d.Cells.length by omega) (by omega)];refine⟨by omega,_,gCn (by omega),?_⟩;rw[if_neg (by omega)];have hx:=x_chg (a:=Zbk d i j) hc2 (show(vals (pRow d i j)).length=(d.Cells.getD r []).length by omega) (show j<(d.Cells.getD r []).length by omega) (by omega) ⟨!okU d i j r⟩;rw[h.row hc1 hc2]at hx;refine⟨_,_,_,_,_,hx,by simp[Zcc];omega,_,gRn (by omega),by omega,_,hc3,_,Zlf (Zlg hcv),_,_,Zr8 _ _ _ _,_,Zll (Zd9 d i j) (by omega),?_⟩;have ih:=ih (by omega);rw[Zh3 d i j (by omega),Zjh d i j (by omega) (by omega),if_neg (by omega),if_neg (by omega),<-Zr9 (Zd9 d i j) (by omega),Zg3 d i j (by omega),if_neg (by omega)]at ih;rw[pl_le,Yh];have e (a b c:Bool):(!(a && (b && c)))=((!a || !b) || !c):=by cases a<;>cases b<;>cases c<;>rfl
  rw[e]at ih;exact ih
omit h in
theorem Z6f:okU d i j 0=(allS (pRow d i j) && (limO d i j).isSome):=by simp[okU,allS]
theorem l_p1(V:Za):Z2f d j V ⟨!okU d i j 0⟩ d.Value (d.Basic.set i (d.Free.getD j 0)) (d.Free.set j (d.Basic.getD i 0)) d.Limits d.Costs (vals (pRow d i j)) (limV d i j) (Zbk d i j) i d.Cells d.Cells.length 0=some (Zc0 d i j):=by
 have hm:=h.v.m;have hn:=h.v.n;have hll:=h.v.ll;have hlk:=h.v.lk;have hlc:=h.v.lc;have hj:=h.hj;have hi:=h.hi;have hpl:=h.plen;refine Zco4 ?_;rw[if_pos (by omega),show w (0+1)=((0+1:Nat):Int) by decide];refine⟨by omega,_,gCn (i:=0) (by omega),?_⟩;have g0:=Zll (Zd9 d i j) (show 0<d.Limits.length by omega);have s0:=Zr9 (Zd9 d i j) (show 0<d.Limits.length by omega);rw[Zbke]at g0 s0;by_cases e0:i=0
 .rw[if_pos (by omega)];refine⟨_,g0,?_⟩;have:=l_p1a h V (0+1) (by omega) (by omega);rw[Zh3 d i j (by omega),Zjh d i j (by omega) (by omega),if_pos e0.symm,if_pos e0.symm,<-s0,Zg3 d i j (by omega),if_pos e0.symm]at this;have e:(okU d i j 0 && (allS (pRow d i j) && (limO d i j).isSome))=okU d i j 0:=by rw[Z6f,Bool.and_self]
  rw[e]at this;exact this
 .rw[if_neg (by omega)];obtain⟨hc1,hc2,hc3⟩:=Zez h.v (show 0<d.Basic.length by omega) hj;have hcv:vR (Zbk d 0 j)=true:=Zgl hc2 (by omega);have hx:=x_chg (a:=Zbk d i j) hc2 (show(vals (pRow d i j)).length=(d.Cells.getD 0 []).length by omega) (show j<(d.Cells.getD 0 []).length by omega) (by omega) ⟨!okU d i j 0⟩;rw[h.row hc1 hc2]at hx;refine⟨_,_,_,_,_,hx,_,gRn (i:=0) (by omega),by omega,_,hc3,_,Zlf (Zlg hcv),_,_,Zr8 _ _ _ _,_,g0,?_⟩;have ih:=l_p1b h V (0+1) (by omega) (by omega);rw[Zh3 d i j (by omega),Zjh d i j (by omega) (by omega),if_neg (by omega),if_neg (by omega),<-s0,Zg3 d i j (by omega),if_neg (by omega)]at ih;rw[pl_le];have e (a b c:Bool):(!(a && (b && c)))=((!a || !b) || !c):=by cases a<;>cases b<;>cases c<;>rfl
  rw[e]at ih;exact ih
theorem l_p0(V:Za):∀k,k<=(d.Cells.getD i []).length->Zp2 d j V ⟨!allS ((pRow d i j).take k)⟩ (Zbk d i j) d.Value (d.Basic.set i (d.Free.getD j 0)) (d.Free.set j (d.Basic.getD i 0)) d.Limits d.Costs (vals ((pRow d i j).take k)) i (d.Cells.getD i []) (d.Cells.getD i []).length k=some (Zc0 d i j):=by
 have hn:=h.v.n;have hm:=h.v.m;have hll:=h.v.ll;have hi:=h.hi;have hc:=(Zez h.v h.hi h.hj).1;have hpl:(pRow d i j).length=(d.Cells.getD i []).length:=by unfold pRow;rw[Zbj2]
 refine down _ ?_ ?_
 .refine Zb0u ?_;rw[if_neg (by omega),<-hpl,Yl];refine⟨by omega,_,gRn (by omega),_,_,Zyr _ _ _,?_⟩;have:=l_p1 h V;rw[Z6f]at this;have e (a b:Bool):(!(a && b))=(!a || !b):=by cases a<;>cases b<;>rfl
  rw[e]at this;exact this
 .intro k hk ih;refine Zb0u ?_;have hpg:=Zb5m (d.Cells.getD i []) j hk;rw[Zfx (by omega),Zh2 (by omega),show(pRow d i j).getD k none=_ from hpg]at ih;have e (a b:Bool):(!(a && b))=(!a || !b):=by cases a<;>cases b<;>rfl
  rw[e]at ih;rw[if_pos (by omega),wS hk (by omega)];refine⟨by omega,_,gRn hk,?_⟩;by_cases ej:k=j
  .rw[if_pos (by omega)];rw[if_pos ej]at ih;exact⟨_,Zbkg 1,_,_,Zyr _ _ _,by rw[Zdu,Yp];omega,ih⟩
  .rw[if_neg (by omega)];rw[if_neg ej]at ih;exact⟨_,_,Zyr _ _ _,by rw[Zdu,Yp];omega,ih⟩
theorem Zcu0:Zmv d i j=some (Zc0 d i j):=by
 have hn:=h.v.n;have hm:=h.v.m;have hll:=h.v.ll;have hlk:=h.v.lk;have hlc:=h.v.lc;have hi:=h.hi;have hj:=h.hj;refine Zco5 ⟨by omega,_,gCn (by omega),by omega,_,(Zez h.v hi hj).2.2,?_⟩;rw[if_neg h.nz];refine⟨_,Zbkh (by omega),_,Zbkh (by omega),_,Z6e (by intro he;rw[he]at hll;simp at hll;omega) (by omega),_,Z6e (by intro he;rw[he]at hlk;simp at hlk;omega) (by omega),_,gDn hj,_,gDn hi,_,gDn hi,_,gDn hj,?_⟩;have:=l_p0 h ⟨0,0⟩ 0 (Ya _);rw[Yh,Yh];simpa[allS,vals]using this
end
theorem Zdv(n:Int):Zcb n=some (.agg ((⟨n,1⟩:Za).c.map .t),[]):=Zcrl rfl
theorem Zcu1{O:List (Option Za)}{k:Nat}(h:allS (O.take k)=false):allS O=false:=by
 rcases ft (allS O)with e|e
 .rw[show allS (O.take k)=true from Z0l _ _ _ e]at h;cases h
 .exact e
section
variable{d:Zn}{i j:Nat}(h:PivC d i j)
include h
theorem Zb5q:(Zcp d i j).length=d.Free.length:=by unfold Zcp;rw[Zyq];exact h.v.lk
theorem Zb5r{k:Nat}(hk:k<d.Free.length):(Zcp d i j).getD k none=celS k j (d.Costs.getD k r0) (d.Costs.getD j r0) ((vals (pRow d i j)).getD k r0):=Z6d _ _ _ (by have:=h.v.lk;omega)
omit h in
theorem pivF(e:okO d i j=false):Zc0 d i j=Zlm:=by unfold Zc0;rw[e,if_neg (by decide)]
omit h in
theorem okO_c{k:Nat}(hl:d.Limits.length=d.Cells.length)(e:(okU d i j d.Cells.length && allS ((Zcp d i j).take k))=false):okO d i j=false:=by
 rw[Zbki hl];rcases ft (okU d i j d.Cells.length)with e1|e1
 .rw[e1,Ye]at e;rw[Zcu1 e];simp
 .rw[e1];rfl
omit h in
theorem j5cF(V U l:Za)(B F:List Int)(C:List (List Za))(L K p:List Za)(k:Int):Zrn d V l U B F false C L K j false p k false=some Zlm:=by
 refine Zb3m ?_;rw[if_neg (by decide)];rfl
theorem j5c(V U:Za)(k:Int):Zrn d V (limV d i j) U (d.Basic.set i (d.Free.getD j 0)) (d.Free.set j (d.Basic.getD i 0)) false (Zcc d i j d.Cells.length) (vals (Zb0 d i j)) (vals (Zcp d i j)) j (okU d i j d.Cells.length && allS (Zcp d i j)) (vals (pRow d i j)) k false=some (Zc0 d i j):=by
 have hlk:=h.v.lk;have hj:=h.hj;have hl:d.Limits.length=d.Cells.length:=by have:=h.v.ll;have:=h.v.lc;omega
 rcases ft (okU d i j d.Cells.length && allS (Zcp d i j))with e|e
 .rw[e];refine Zb3m ?_;rw[if_pos rfl];refine⟨by omega,_,gRn (by omega),_,_,Zb41 _ _,_,_,Zctz _ _,?_⟩;have hO:okO d i j=(valO d i j).isSome:=by rw[Zbki hl,e,Ye]
  have e1:okU d i j d.Cells.length=true:=by simp only[Yc]at e;exact e.1
  have eL:(limO d i j).isSome=true:=by unfold okU at e1;simp only[Yc]at e1;exact e1.1.2
  obtain⟨lim,hlim⟩:=Option.isSome_iff_exists.1 eL;have eV:limV d i j=lim:=by unfold limV;rw[hlim];rfl
  have eP:valO d i j=(mulR (d.Costs.getD j r0) lim).bind (addR d.Value):=by
   unfold valO;rw[hlim];exact pl_full h.v.vv (Zgl h.v.vk (by omega)) (Zgk hlim)
  unfold Zc0;rw[hO,eP,eV]
  cases hm:mulR (d.Costs.getD j r0) lim with
  |none=>rfl
  |some y =>
   rw[if_pos (by rfl)]
   cases ha:addR d.Value y with
   |none=>simp only[Option.getD_some,Option.bind_some,ha];rfl
   |some z =>
    simp only[Option.getD_some,Option.bind_some,ha,Option.isSome_some,if_true];have e2:Zcc d i j d.Cells.length=(Zex d i j).map vals:=by
     unfold Zcc;rw[<-Zn4 d i j,Yl]
    have e3:valO d i j=some z:=by rw[eP,hm];exact ha
    rw[e2];unfold Zjg Zbs;rw[e3];rfl
 .rw[e,j5cF,pivF (okO_c (k:=(Zcp d i j).length) hl (by rw[Yl];exact e))]
theorem l_3c(V U:Za):∀k,k<=d.Free.length->Znr d V (limV d i j) U (d.Basic.set i (d.Free.getD j 0)) (d.Free.set j (d.Basic.getD i 0)) false (Zcc d i j d.Cells.length) (vals (Zb0 d i j)) (vals ((Zcp d i j).take k)) j (okU d i j d.Cells.length && allS ((Zcp d i j).take k)) (vals (pRow d i j)) k=some (Zc0 d i j):=by
 have hlk:=h.v.lk;have hn:=h.v.n;have hj:=h.hj;have hpl:=h.plen;have hcl:=Zb5q h;have hl:d.Limits.length=d.Cells.length:=by have:=h.v.ll;have:=h.v.lc;omega
 refine down _ ?_ ?_
 .refine Zb3j ?_;rw[if_neg (by omega),<-hcl,Yl];exact j5c h V U _
 .intro k hk ih;refine Zb3j ?_;rw[if_pos (by omega),wS hk (by omega)];rcases ft (okU d i j d.Cells.length && allS ((Zcp d i j).take k))with e|e
  .rw[e,if_pos rfl];rw[Zfx (by omega),Zh2 (by omega),<-Bool.and_assoc,e,Ye,Zb5r h hk,celS]at ih;refine⟨by omega,_,gRn (by omega),?_⟩;by_cases ej:k=j
   .rw[if_pos (by omega)];rw[if_pos ej]at ih;exact⟨_,Zdv 0,by omega,_,gRn (by omega),_,gRn (by omega),_,_,Zfw _ _ _,by rw[Zdu,Yp];omega,ih⟩
   .rw[if_neg (by omega)];rw[if_neg ej]at ih;exact⟨by omega,_,gRn (by omega),_,gRn (by omega),_,_,Zfw _ _ _,by rw[Zdu,Yp];omega,ih⟩
  .rw[e,if_neg (by decide),j5cF,pivF (okO_c hl e)]
theorem l_3a(V U:Za):Zrm d V (limV d i j) U (d.Basic.set i (d.Free.getD j 0)) (d.Free.set j (d.Basic.getD i 0)) false (Zcc d i j d.Cells.length) (vals (Zb0 d i j)) j (okU d i j d.Cells.length) (vals (pRow d i j)) 0=some (Zc0 d i j):=by
 have hlk:=h.v.lk;have hn:=h.v.n;have hj:=h.hj;have hpl:=h.plen;have hcl:=Zb5q h;refine Zb3h ?_;rw[if_pos (by omega),show w (0+1)=((0+1:Nat):Int) by decide];rcases ft (okU d i j d.Cells.length)with e|e
 .rw[e,if_pos rfl];have ih:=l_3c h V U (0+1) (by omega);rw[Zfx (by omega),Zh2 (by omega),Zb5r h (by omega),celS,e,Ye]at ih;refine⟨by omega,_,gRn (i:=0) (by omega),?_⟩;by_cases ej:0=j
  .rw[if_pos (by omega)];rw[if_pos ej]at ih;exact⟨_,Zdv 0,by omega,_,gRn (by omega),_,gRn (i:=0) (by omega),_,_,Zfw _ _ _,by simpa[allS,vals]using ih⟩
  .rw[if_neg (by omega)];rw[if_neg ej]at ih;exact⟨by omega,_,gRn (by omega),_,gRn (i:=0) (by omega),_,_,Zfw _ _ _,by simpa[allS,vals]using ih⟩
 .rw[e,if_neg (by decide),pivF (Zyw e)];refine Zb3k ?_;rw[if_neg (by decide)];rfl
theorem f_3a(V U:Za)(C:List (List Za))(L:List Za):Zrm d V (limV d i j) U (d.Basic.set i (d.Free.getD j 0)) (d.Free.set j (d.Basic.getD i 0)) false C L j false (vals (pRow d i j)) 0=some Zlm:=by
 have hn:=h.v.n;refine Zb3h ?_;rw[if_pos (by omega),if_neg (by decide)];refine Zb3k ?_;rw[if_neg (by decide)];rfl
theorem f_3d(V U:Za)(C:List (List Za))(L:List Za):Zxt d V (vals (pRow d i j)) (limV d i j) U (d.Basic.set i (d.Free.getD j 0)) (d.Free.set j (d.Basic.getD i 0)) false C L j false 0=some Zlm:=by
 have hn:=h.v.n;refine Zcr6 ?_;rw[if_pos (by omega),if_neg (by decide)];refine Zcr7 ?_;rw[if_neg (by decide)];rfl
theorem f_3(V U:Za):Zxs d V (vals (pRow d i j)) (limV d i j) U (d.Basic.set i (d.Free.getD j 0)) (d.Free.set j (d.Basic.getD i 0)) j false 0=some Zlm:=by
 have hn:=h.v.n;refine Zcr4 ?_;rw[if_pos (by omega),if_neg (by decide)];refine Zcr5 ?_;rw[if_neg (by decide)];rfl
theorem l_1(V U:Za)(res:AV×List Blk){r:Nat}(hr:r<d.Basic.length)(c:Zi2 d V (vals (pRow d i j)) (limV d i j) U (d.Basic.set i (d.Free.getD j 0)) (d.Free.set j (d.Basic.getD i 0)) false ([vals (rowS (d.Cells.getD r []) (vals (pRow d i j)) j)]) ([(leS (d.Limits.getD r r0) (Zbk d r j) (limV d i j)).getD r0]) i j (allS (rowS (d.Cells.getD r []) (vals (pRow d i j)) j) && (leS (d.Limits.getD r r0) (Zbk d r j) (limV d i j)).isSome) (w ((r:Int)+1))=some res):∀k,k<=d.Free.length->Zk5 d V (vals (pRow d i j)) (limV d i j) U (d.Basic.set i (d.Free.getD j 0)) (d.Free.set j (d.Basic.getD i 0)) (vals ((rowS (d.Cells.getD r []) (vals (pRow d i j)) j).take k)) i j (allS ((rowS (d.Cells.getD r []) (vals (pRow d i j)) j).take k)) r k=some res:=by
 have hlc:=h.v.lc;have hll:=h.v.ll;have hn:=h.v.n;have hj:=h.hj;have hpl:=h.plen;obtain⟨hc1,hc2,hc3⟩:=Zez h.v hr hj;have hO:(rowS (d.Cells.getD r []) (vals (pRow d i j)) j).length=d.Free.length:=by rw[Zyq];exact hc1
 refine down _ ?_ ?_
 .refine Zb3f ?_;rw[if_neg (by omega),<-hO,Yl];refine⟨by omega,_,gRn (by omega),_,gCn (by omega),by omega,_,hc3,_,_,Zfw _ _ _,?_⟩;rcases ft (allS (rowS (d.Cells.getD r []) (vals (pRow d i j)) j))with e|e
  .rw[e,Ye]at c;rw[e,if_pos rfl];exact c
  .rw[e,Y4]at c;rw[e,if_neg (by decide)];exact c
 .intro k hk ih;refine Zb3f ?_;rw[if_pos (by omega),wS hk (by omega)];rw[Zfx (by omega),Zh2 (by omega),Z6d _ _ _ (by omega),celS]at ih;have hlen:(vals ((rowS (d.Cells.getD r []) (vals (pRow d i j)) j).take k)).length+1<=68719476736:=by rw[Zdu,Yp];omega
  refine⟨by omega,_,gCn (by omega),by omega,_,gRn (by omega),?_⟩;by_cases ej:k=j
  .rw[if_pos (by omega)];rw[if_pos ej]at ih;refine⟨_,Zdv 0,by omega,_,hc3,_,gRn (by omega),_,_,Zfw _ _ _,?_⟩;rcases ft (allS ((rowS (d.Cells.getD r []) (vals (pRow d i j)) j).take k))with e|e
   .rw[e,if_pos rfl];rw[e,Ye]at ih;exact⟨hlen,ih⟩
   .rw[e,if_neg (by decide)];rw[e,Y4]at ih;exact⟨hlen,ih⟩
  .rw[if_neg (by omega)];rw[if_neg ej]at ih;refine⟨by omega,_,hc3,_,gRn (by omega),_,_,Zfw _ _ _,?_⟩;rcases ft (allS ((rowS (d.Cells.getD r []) (vals (pRow d i j)) j).take k))with e|e
   .rw[e,if_pos rfl];rw[e,Ye]at ih;exact⟨hlen,ih⟩
   .rw[e,if_neg (by decide)];rw[e,Y4]at ih;exact⟨hlen,ih⟩
theorem l_1a(V U:Za)(C:List (List Za))(L:List Za)(hC:C.length<=1000)(hL:L.length<=1000)(res:AV×List Blk){r:Nat}(hr:r<d.Basic.length)(c:Zi1 d V (limV d i j) U (d.Basic.set i (d.Free.getD j 0)) (d.Free.set j (d.Basic.getD i 0)) false (C++[vals (rowS (d.Cells.getD r []) (vals (pRow d i j)) j)]) (L++[(leS (d.Limits.getD r r0) (Zbk d r j) (limV d i j)).getD r0]) i j (allS (rowS (d.Cells.getD r []) (vals (pRow d i j)) j) && (leS (d.Limits.getD r r0) (Zbk d r j) (limV d i j)).isSome) (vals (pRow d i j)) (w ((r:Int)+1))=some res):∀k,k<=d.Free.length->Zk6 d V (limV d i j) U (d.Basic.set i (d.Free.getD j 0)) (d.Free.set j (d.Basic.getD i 0)) false C L (vals ((rowS (d.Cells.getD r []) (vals (pRow d i j)) j).take k)) i j (allS ((rowS (d.Cells.getD r []) (vals (pRow d i j)) j).take k)) (vals (pRow d i j)) r k=some res:=by
 have hlc:=h.v.lc;have hll:=h.v.ll;have hn:=h.v.n;have hj:=h.hj;have hpl:=h.plen;obtain⟨hc1,hc2,hc3⟩:=Zez h.v hr hj;have hO:(rowS (d.Cells.getD r []) (vals (pRow d i j)) j).length=d.Free.length:=by rw[Zyq];exact hc1
 refine down _ ?_ ?_
 .refine Zb3g ?_;rw[if_neg (by omega),<-hO,Yl];refine⟨by omega,_,gRn (by omega),_,gCn (by omega),by omega,_,hc3,_,_,Zfw _ _ _,?_⟩;rcases ft (allS (rowS (d.Cells.getD r []) (vals (pRow d i j)) j))with e|e
  .rw[e,Ye]at c;rw[e,if_pos rfl];exact⟨by omega,by omega,c⟩
  .rw[e,Y4]at c;rw[e,if_neg (by decide)];exact⟨by omega,by omega,c⟩
 .intro k hk ih;refine Zb3g ?_;rw[if_pos (by omega),wS hk (by omega)];rw[Zfx (by omega),Zh2 (by omega),Z6d _ _ _ (by omega),celS]at ih;have hlen:(vals ((rowS (d.Cells.getD r []) (vals (pRow d i j)) j).take k)).length+1<=68719476736:=by rw[Zdu,Yp];omega
  refine⟨by omega,_,gCn (by omega),by omega,_,gRn (by omega),?_⟩;by_cases ej:k=j
  .rw[if_pos (by omega)];rw[if_pos ej]at ih;refine⟨_,Zdv 0,by omega,_,hc3,_,gRn (by omega),_,_,Zfw _ _ _,?_⟩;rcases ft (allS ((rowS (d.Cells.getD r []) (vals (pRow d i j)) j).take k))with e|e
   .rw[e,if_pos rfl];rw[e,Ye]at ih;exact⟨hlen,ih⟩
   .rw[e,if_neg (by decide)];rw[e,Y4]at ih;exact⟨hlen,ih⟩
  .rw[if_neg (by omega)];rw[if_neg ej]at ih;refine⟨by omega,_,hc3,_,gRn (by omega),_,_,Zfw _ _ _,?_⟩;rcases ft (allS ((rowS (d.Cells.getD r []) (vals (pRow d i j)) j).take k))with e|e
   .rw[e,if_pos rfl];rw[e,Ye]at ih;exact⟨hlen,ih⟩
   .rw[e,if_neg (by decide)];rw[e,Y4]at ih;exact⟨hlen,ih⟩
theorem l_1b(V U:Za)(C:List (List Za))(L:List Za)(hC:C.length<=1000)(hL:L.length<=1000)(res:AV×List Blk){r:Nat}(hr:r<d.Basic.length)(c:Zi2 d V (vals (pRow d i j)) (limV d i j) U (d.Basic.set i (d.Free.getD j 0)) (d.Free.set j (d.Basic.getD i 0)) false (C++[vals (rowS (d.Cells.getD r []) (vals (pRow d i j)) j)]) (L++[(leS (d.Limits.getD r r0) (Zbk d r j) (limV d i j)).getD r0]) i j (allS (rowS (d.Cells.getD r []) (vals (pRow d i j)) j) && (leS (d.Limits.getD r r0) (Zbk d r j) (limV d i j)).isSome) (w ((r:Int)+1))=some res):∀k,k<=d.Free.length->Zk7 d V (vals (pRow d i j)) (limV d i j) U (d.Basic.set i (d.Free.getD j 0)) (d.Free.set j (d.Basic.getD i 0)) false C L (vals ((rowS (d.Cells.getD r []) (vals (pRow d i j)) j).take k)) i j (allS ((rowS (d.Cells.getD r []) (vals (pRow d i j)) j).take k)) r k=some res:=by
 have hlc:=h.v.lc;have hll:=h.v.ll;have hn:=h.v.n;have hj:=h.hj;have hpl:=h.plen;obtain⟨hc1,hc2,hc3⟩:=Zez h.v hr hj;have hO:(rowS (d.Cells.getD r []) (vals (pRow d i j)) j).length=d.Free.length:=by rw[Zyq];exact hc1
 refine down _ ?_ ?_
 .refine Zb3l ?_;rw[if_neg (by omega),<-hO,Yl];refine⟨by omega,_,gRn (by omega),_,gCn (by omega),by omega,_,hc3,_,_,Zfw _ _ _,?_⟩;rcases ft (allS (rowS (d.Cells.getD r []) (vals (pRow d i j)) j))with e|e
  .rw[e,Ye]at c;rw[e,if_pos rfl];exact⟨by omega,by omega,c⟩
  .rw[e,Y4]at c;rw[e,if_neg (by decide)];exact⟨by omega,by omega,c⟩
 .intro k hk ih;refine Zb3l ?_;rw[if_pos (by omega),wS hk (by omega)];rw[Zfx (by omega),Zh2 (by omega),Z6d _ _ _ (by omega),celS]at ih;have hlen:(vals ((rowS (d.Cells.getD r []) (vals (pRow d i j)) j).take k)).length+1<=68719476736:=by rw[Zdu,Yp];omega
  refine⟨by omega,_,gCn (by omega),by omega,_,gRn (by omega),?_⟩;by_cases ej:k=j
  .rw[if_pos (by omega)];rw[if_pos ej]at ih;refine⟨_,Zdv 0,by omega,_,hc3,_,gRn (by omega),_,_,Zfw _ _ _,?_⟩;rcases ft (allS ((rowS (d.Cells.getD r []) (vals (pRow d i j)) j).take k))with e|e
   .rw[e,if_pos rfl];rw[e,Ye]at ih;exact⟨hlen,ih⟩
   .rw[e,if_neg (by decide)];rw[e,Y4]at ih;exact⟨hlen,ih⟩
  .rw[if_neg (by omega)];rw[if_neg ej]at ih;refine⟨by omega,_,hc3,_,gRn (by omega),_,_,Zfw _ _ _,?_⟩;rcases ft (allS ((rowS (d.Cells.getD r []) (vals (pRow d i j)) j).take k))with e|e
   .rw[e,if_pos rfl];rw[e,Ye]at ih;exact⟨hlen,ih⟩
   .rw[e,if_neg (by decide)];rw[e,Y4]at ih;exact⟨hlen,ih⟩
theorem l_2a(V U:Za):∀r,r<=d.Basic.length->i<r->Zi1 d V (limV d i j) U (d.Basic.set i (d.Free.getD j 0)) (d.Free.set j (d.Basic.getD i 0)) false (Zcc d i j r) (vals ((Zb0 d i j).take r)) i j (okU d i j r) (vals (pRow d i j)) r=some (Zc0 d i j):=by
 have hm:=h.v.m;have hlc:=h.v.lc;have hll:=h.v.ll;have hn:=h.v.n;have hi:=h.hi;have hj:=h.hj;have hol:=Zd9 d i j;refine down _ ?_ ?_
 .intro hr;refine Zb3e ?_;rw[if_neg (by omega),show d.Basic.length=d.Cells.length by omega,show(Zb0 d i j).take d.Cells.length=Zb0 d i j from Ycf (by omega)];exact l_3a h V U
 .intro r hr ih hir;refine Zb3e ?_;rw[if_pos (by omega)];rcases ft (okU d i j r)with e|e
  .rw[e,if_pos rfl,if_neg (by omega)];have ih:=ih (by omega);rw[Zh3 d i j (by omega),Zjh d i j (by omega) (by omega),e,Ye,if_neg (by omega),if_neg (by omega),Zfx (by omega),Zg3 d i j (by omega),if_neg (by omega)]at ih;have:=l_1a h V U (Zcc d i j r) (vals ((Zb0 d i j).take r)) (by simp[Zcc];omega) (by rw[Zdu,Yp];omega) _ hr (by rw[wS hr (by omega)];exact ih) 0 (Ya _);simpa[allS,vals]using this
  .rw[e,if_neg (by decide),f_3a h,pivF (Zyw e)]
theorem l_2b(V U:Za):∀r,r<=i->0<r->Zi2 d V (vals (pRow d i j)) (limV d i j) U (d.Basic.set i (d.Free.getD j 0)) (d.Free.set j (d.Basic.getD i 0)) false (Zcc d i j r) (vals ((Zb0 d i j).take r)) i j (okU d i j r) r=some (Zc0 d i j):=by
 have hm:=h.v.m;have hlc:=h.v.lc;have hll:=h.v.ll;have hn:=h.v.n;have hi:=h.hi;have hj:=h.hj;have hol:=Zd9 d i j;refine down _ ?_ ?_
 .intro hr;refine Zb3i ?_;rw[if_pos (by omega),wS (show i<d.Basic.length by omega) (by omega)];rcases ft (okU d i j i)with e|e
  .rw[e,if_pos rfl,if_pos rfl];have ih:=l_2a h V U (i+1) (by omega) (by omega);rw[Zh3 d i j (by omega),okU_i d (by omega) (by omega),e,if_pos rfl,Zfx (by omega),Zg3 d i j (by omega),if_pos rfl]at ih;exact⟨by simp[Zcc];omega,by rw[Zdu,Yp];omega,ih⟩
  .rw[e,if_neg (by decide),f_3d h,pivF (Zyw e)]
 .intro r hr ih hir;have hr':r<d.Basic.length:=by omega
  refine Zb3i ?_;rw[if_pos (by omega)];rcases ft (okU d i j r)with e|e
  .rw[e,if_pos rfl,if_neg (by omega)];have ih:=ih (by omega);rw[Zh3 d i j (by omega),Zjh d i j (by omega) (by omega),e,Ye,if_neg (by omega),if_neg (by omega),Zfx (by omega),Zg3 d i j (by omega),if_neg (by omega)]at ih;have:=l_1b h V U (Zcc d i j r) (vals ((Zb0 d i j).take r)) (by simp[Zcc];omega) (by rw[Zdu,Yp];omega) _ hr' (by rw[wS hr' (by omega)];exact ih) 0 (Ya _);simpa[allS,vals]using this
  .rw[e,if_neg (by decide),f_3d h,pivF (Zyw e)]
theorem l_2(V U:Za):Zxr d V (vals (pRow d i j)) (limV d i j) U (d.Basic.set i (d.Free.getD j 0)) (d.Free.set j (d.Basic.getD i 0)) i j (okU d i j 0) 0=some (Zc0 d i j):=by
 have hm:=h.v.m;have hlc:=h.v.lc;have hll:=h.v.ll;have hn:=h.v.n;have hi:=h.hi;have hj:=h.hj;have hol:=Zd9 d i j;refine Zcr3 ?_;rw[if_pos (by omega)];have w1:w (0+1)=((0+1:Nat):Int):=by decide
 rcases ft (okU d i j 0)with e|e
 .rw[e,if_pos rfl];by_cases e0:i=0
  .rw[if_pos (by omega),w1];have ih:=l_2a h V U (0+1) (by omega) (by omega);have e2:(okU d i j 0 && (allS (pRow d i j) && (limO d i j).isSome))=okU d i j 0:=by rw[Z6f,Bool.and_self]
   rw[Zh3 d i j (by omega),Zjh d i j (by omega) (by omega),if_pos e0.symm,if_pos e0.symm,e2,e,Zfx (by omega),Zg3 d i j (by omega),if_pos e0.symm]at ih;simpa[Zcc,vals,limV]using ih
  .rw[if_neg (by omega)];have ih:=l_2b h V U (0+1) (by omega) (by omega);rw[Zh3 d i j (by omega),Zjh d i j (by omega) (by omega),e,Ye,if_neg (by omega),if_neg (by omega),Zfx (by omega),Zg3 d i j (by omega),if_neg (by omega)]at ih;have:=l_1 h V U _ (show 0<d.Basic.length by omega) (by rw[show((0:Nat):Int)+1=0+1 from rfl,w1];simpa[Zcc,vals]using ih) 0 (Ya _);simpa[allS,vals]using this
 .rw[e,if_neg (by decide),f_3 h,pivF (Zyw e)]
theorem l_sp0(V:Za):∀k,k<=d.Free.length->Zk4 d V (Zbk d i j) (vals ((pRow d i j).take k)) i j (allS ((pRow d i j).take k)) k=some (Zc0 d i j):=by
 have hm:=h.v.m;have hlc:=h.v.lc;have hll:=h.v.ll;have hn:=h.v.n;have hi:=h.hi;have hj:=h.hj;have hol:=Zd9 d i j;have hpl:=h.plen;rw[Zdu]at hpl;obtain⟨hc1,hc2,hc3⟩:=Zez h.v hi hj;refine down _ ?_ ?_
 .refine Zb3d ?_;rw[if_neg (by omega),<-hpl,Yl];have fin:=l_2 h V ⟨0,0⟩;rw[Z6f]at fin;refine⟨by omega,_,gRn (by omega),_,_,Z51 _ _,?_⟩;rcases ft (allS (pRow d i j))with e|e
  .rw[e,Ye]at fin;rw[e,if_pos rfl];exact⟨by omega,by omega,by omega,_,gDn hj,_,gDn hi,fin⟩
  .rw[e,Y4]at fin;rw[e,if_neg (by decide)];exact⟨by omega,by omega,by omega,_,gDn hj,_,gDn hi,fin⟩
 .intro k hk ih;refine Zb3d ?_;rw[if_pos (by omega),wS hk (by omega)];rw[Zfx (by omega),Zh2 (by omega),show(pRow d i j).getD k none=_ from Zb5m (d.Cells.getD i []) j (by omega)]at ih;have hlen:(vals ((pRow d i j).take k)).length+1<=68719476736:=by rw[Zdu,Yp];omega
  refine⟨by omega,_,gCn (by omega),by omega,_,gRn (by omega),_,_,Z51 _ _,?_⟩;by_cases ej:k=j
  .rw[if_pos (by omega)];rw[if_pos ej]at ih;refine⟨_,Zdv 1,_,_,Z51 _ _,?_⟩;rcases ft (allS ((pRow d i j).take k))with e|e
   .rw[e,if_pos rfl];rw[e,Ye]at ih;exact⟨hlen,ih⟩
   .rw[e,if_neg (by decide)];rw[e,Y4]at ih;exact⟨hlen,ih⟩
  .rw[if_neg (by omega)];rw[if_neg ej]at ih;rcases ft (allS ((pRow d i j).take k))with e|e
   .rw[e,if_pos rfl];rw[e,Ye]at ih;exact⟨hlen,ih⟩
   .rw[e,if_neg (by decide)];rw[e,Y4]at ih;exact⟨hlen,ih⟩
theorem Zcu2:Zrl d i j=some (Zc0 d i j):=by
 have hm:=h.v.m;have hlc:=h.v.lc;have hll:=h.v.ll;have hn:=h.v.n;have hi:=h.hi;have hj:=h.hj;have hol:=Zd9 d i j;refine Zcr8 ⟨_,Zbkc h.v,?_⟩;rw[if_pos rfl];refine⟨_,Z8 _ _ _,?_⟩;rw[w_in ⟨by omega,by omega⟩,show inR (i:Int) 0 ((d.Basic.length:Int)-1)=true from Zy.2 ⟨by omega,by omega⟩,if_pos rfl];refine⟨_,Z8 _ _ _,?_⟩;rw[w_in ⟨by omega,by omega⟩,show inR (j:Int) 0 ((d.Free.length:Int)-1)=true from Zy.2 ⟨by omega,by omega⟩,if_pos rfl];refine⟨by omega,_,gCn (by omega),by omega,_,(Zez h.v hi hj).2.2,?_⟩;rw[if_neg h.nz];have:=l_sp0 h ⟨0,0⟩ 0 (Ya _);simpa[allS,vals]using this
end
def coef(x:Int):Bool:=inR x (-9) 9
def Zh4(n:Nat)(r:List Int):Bool:=r.all coef && decide ((r.length:Int)=n)
def Zc1(p:Program):Bool:=inR p.Objective.length 1 15 && decide ((p.Rows.length:Int)<=64) && decide ((p.Rows.length:Int)=p.Limits.length) && (p.Objective.all coef && (p.Rows.all (Zh4 p.Objective.length) && p.Limits.all λx=>inR x 0 99))
structure LeP (p:Program):Prop where
 o:p.Objective.length<=1000
 r:p.Rows.length<=1000
 l:p.Limits.length<=1000
 row:∀r∈p.Rows,r.length<=1000
theorem Zo0{α:Type}(q:α->Bool){xs:List α}{i:Nat}(h:i<xs.length):(xs.drop i).all q=(q xs[i] && (xs.drop (i+1)).all q):=by
 rw[Yd h,Y5]
theorem l_iv2(l:List Int)(hl:l.length<=1000):∀i,i<=l.length->Zu4 l l.length i=some (Bo ((l.drop i).all λx=>inR x 0 99),[]):=by
 refine down _ ?_ ?_
 .refine Zb0j ?_;rw[if_neg (by omega),Yg];rfl
 .intro i hi ih;refine Zb0j ?_;rw[if_pos (by omega),wS hi (by omega),Zo0 _ hi];refine⟨by omega,_,gE hi,_,Zbv _ _ _,?_⟩;rcases ft (inR l[i] 0 99)with e|e
  .rw[e,if_pos rfl,Ye];exact ih
  .rw[e,if_neg (by decide)];rfl
theorem l_iv0(p:Program)(fr:Bool)(x:List (List Int))(n:Nat)(row:List Int)(hr:row.length<=1000)(j:Int)(b:Bool)(len:Int)(c:Zpz p fr x n len (w (j+1))=some (Bo b,[])):∀k,k<=row.length->Zu3 p fr x n row len j row row.length k=some (Bo ((row.drop k).all coef && decide ((row.length:Int)=n) && b),[]):=by
 refine down _ ?_ ?_
 .refine Zb0i ?_;rw[if_neg (by omega),Yg,List.all_nil,Ye];by_cases e:(row.length:Int)=n
  .rw[if_pos e,decide_eq_true e,Ye];exact c
  .rw[if_neg e,decide_eq_false e];rfl
 .intro k hk ih;refine Zb0i ?_;rw[if_pos (by omega),wS hk (by omega),Zo0 _ hk];refine⟨by omega,_,gE hk,_,Zbv _ _ _,?_⟩;rw[show inR row[k] (-9) 9=coef row[k]from rfl];rcases ft (coef row[k])with e|e
  .rw[e,if_pos rfl,Ye];exact ih
  .rw[e,if_neg (by decide)];rfl
theorem l_iv1(p:Program)(fr:Bool)(x:List (List Int))(n:Nat)(hx:x.length<=1001)(hr:∀r∈x,r.length<=1000)(hl:p.Limits.length<=1000):∀i,i<=x.length->Zpz p fr x n x.length i=some (Bo ((x.drop i).all (Zh4 n) && p.Limits.all λy=>inR y 0 99),[]):=by
 refine down _ ?_ ?_
 .refine Zb0h ?_;rw[if_neg (by omega),Yg,List.all_nil,Ye];simpa using l_iv2 p.Limits hl 0 (Ya _)
 .intro i hi ih;refine Zb0h ?_;rw[if_pos (by omega),Zo0 _ hi];refine⟨by omega,_,gE hi,?_⟩;have:=l_iv0 p fr x n x[i] (hr _ (Yb hi)) i _ x.length (by rw[wS hi (by omega)];exact ih) 0 (Ya _);rw[Yq]at this;rw[show Zh4 n x[i]=(x[i].all coef && decide ((x[i].length:Int)=n))from rfl,Bool.and_assoc];exact this
theorem Zb5s{p:Program}(h:LeP p):Zmr p=some (Bo (Zc1 p),[]):=by
 have h1:=h.o;have h2:=h.r;have h3:=h.l;refine Zcoi ⟨_,Zbv _ _ _,?_⟩;unfold Zc1;rcases ft (inR (p.Objective.length:Int) 1 15)with e|e
 .rw[e,if_pos rfl,Ye];by_cases e2:64<(p.Rows.length:Int)
  .rw[if_pos e2,decide_eq_false (by omega)];rfl
  rw[if_neg e2,decide_eq_true (show(p.Rows.length:Int)<=64 by omega),Ye];by_cases e3:(p.Limits.length:Int)=(p.Rows.length:Int)
  .rw[if_pos e3,decide_eq_true e3.symm,Ye];refine⟨by omega,by omega,?_⟩
   have:=l_iv1 p false (p.Rows++[p.Objective]) p.Objective.length (by simp;omega) (by
    intro r hr;rcases Yi.1 hr with hr|hr
    .exact h.row r hr
    .rw[List.mem_singleton.1 hr];exact h1) h3 0 (Ya _)
   rw[Yq,List.all_append]at this;rw[show(((0:Nat):Int))=0 from rfl]at this;rw[this];have e4:[p.Objective].all (Zh4 p.Objective.length)=p.Objective.all coef:=by simp[Zh4]
   rw[e4];generalize p.Rows.all (Zh4 p.Objective.length)=a;generalize p.Objective.all coef=b;generalize (p.Limits.all λy=>inR y 0 99)=c;cases a<;>cases b<;>cases c<;>rfl
  .rw[if_neg e3,decide_eq_false (λhc=>e3 hc.symm)];rfl
 .rw[e,if_neg (by decide)];rfl
def chk(n:Nat):List (List Int)->List Int->Bool
 |r::rs,l::ls=>decide ((r.length:Int)=n) && (inR l 0 99 && (r.all coef && chk n rs ls))
 |_,_=>true
theorem chk_eq(n:Nat):∀(rs:List (List Int)) (ls:List Int),rs.length=ls.length->chk n rs ls=(rs.all (Zh4 n) && ls.all λx=>inR x 0 99)
 |[],[],_=>rfl
 |r::rs,l::ls,h=>by
  unfold chk;rw[chk_eq n rs ls (by simpa using h),Y5,Y5];unfold Zh4;generalize decide ((r.length:Int)=n)=a;generalize inR l 0 99=b;generalize r.all coef=c;generalize (rs.all λr=>r.all coef && decide ((r.length:Int)=n))=d;generalize (ls.all λx=>inR x 0 99)=e
  cases a<;>cases b<;>cases c<;>cases d<;>cases e<;>rfl
 |[],_::_,h=>by cases h
 |_::_,[],h=>by cases h
theorem l_sv1(p:Program){i:Nat}(hi:i<p.Rows.length)(hr:p.Rows[i].length=p.Objective.length)(ho:p.Objective.length<=1000)(b:Bool)(c:Zri p p.Objective.length (w ((i:Int)+1))=some (Bo b,[])):∀k,k<=p.Objective.length->Zxc p p.Objective.length i k=some (Bo ((p.Rows[i].drop k).all coef && b),[]):=by
 refine down _ ?_ ?_
 .refine Zb20 ?_;rw[if_neg (by omega),<-hr,Yg,List.all_nil,Ye,hr];exact c
 .intro k hk ih;refine Zb20 ?_;rw[if_pos (by omega),wS hk (by omega),Zo0 _ (by omega)];refine⟨by omega,_,gE hi,by omega,_,gE (by omega),_,Z8 _ _ _,?_⟩;rw[show inR p.Rows[i][k] (-9) 9=coef p.Rows[i][k]from rfl];rcases ft (coef p.Rows[i][k])with e|e
  .rw[e,if_pos rfl,Ye];exact ih
  .rw[e,if_neg (by decide)];rfl
theorem l_sv2(p:Program)(h:LeP p)(hl:p.Rows.length=p.Limits.length):∀i,i<=p.Rows.length->Zri p p.Objective.length i=some (Bo (chk p.Objective.length (p.Rows.drop i) (p.Limits.drop i)),[]):=by
 have h1:=h.o;have h2:=h.r;refine down _ ?_ ?_
 .refine Zb2z ?_;rw[if_neg (by omega),Yg];rfl
 .intro i hi ih;have hi2:i<p.Limits.length:=by omega
  refine Zb2z ?_;rw[if_pos (by omega),Yd hi,Yd hi2,chk];refine⟨by omega,_,gE hi,?_⟩;by_cases e:(p.Rows[i].length:Int)=p.Objective.length
  .rw[if_pos e,decide_eq_true e,Ye];refine⟨_,gE hi2,_,Z8 _ _ _,?_⟩;rcases ft (inR p.Limits[i] 0 99)with e2|e2
   .rw[e2,if_pos rfl,Ye];have:=l_sv1 p hi (by omega) h1 _ (by rw[wS hi (by omega)];exact ih) 0 (Ya _);rw[Yq]at this;exact this
   .rw[e2,if_neg (by decide)];rfl
  .rw[if_neg e,decide_eq_false e];rfl
theorem l_sv0(p:Program)(h:LeP p)(hl:p.Rows.length=p.Limits.length):∀k,k<=p.Objective.length->Zxb p p.Objective.length k=some (Bo ((p.Objective.drop k).all coef && chk p.Objective.length p.Rows p.Limits),[]):=by
 have h1:=h.o;refine down _ ?_ ?_
 .refine Zb2y ?_;rw[if_neg (by omega),Yg,List.all_nil,Ye];simpa using l_sv2 p h hl 0 (Ya _)
 .intro k hk ih;refine Zb2y ?_;rw[if_pos (by omega),wS hk (by omega),Zo0 _ hk];refine⟨by omega,_,gE hk,_,Z8 _ _ _,?_⟩;rw[show inR p.Objective[k] (-9) 9=coef p.Objective[k]from rfl];rcases ft (coef p.Objective[k])with e|e
  .rw[e,if_pos rfl,Ye];exact ih
  .rw[e,if_neg (by decide)];rfl
theorem Zb5t{p:Program}(h:LeP p):Zxa p=some (Bo (Zc1 p),[]):=by
 refine Zcrk ⟨_,Z8 _ _ _,?_⟩;unfold Zc1;rcases ft (inR (p.Objective.length:Int) 1 15)with e|e
 .rw[e,if_pos rfl,Ye];by_cases e2:64<(p.Rows.length:Int)
  .rw[if_pos e2,decide_eq_false (by omega)];rfl
  rw[if_neg e2,decide_eq_true (show(p.Rows.length:Int)<=64 by omega),Ye];by_cases e3:(p.Rows.length:Int)=(p.Limits.length:Int)
  .rw[if_pos e3,decide_eq_true e3,Ye];have:=l_sv0 p h (by omega) 0 (Ya _);rw[Yq,chk_eq _ _ _ (by omega)]at this;exact this
  .rw[if_neg e3,decide_eq_false e3];rfl
 .rw[e,if_neg (by decide)];rfl
def wh(l:List Int):List Za:=l.map λn=>⟨n,1⟩
def Zdw(n:Nat):List Int:=(List.range n).map λk:Nat=>(k:Int)
def basN(n m:Nat):List Int:=(List.range m).map λi:Nat=>(n:Int)+i
def Zcd(p:Program):Zn:=⟨basN p.Objective.length p.Rows.length,Zdw p.Objective.length,p.Rows.map wh,wh p.Limits,wh p.Objective,⟨0,1⟩⟩
theorem Zb5u(n:Nat):Zdw (n+1)=Zdw n++[(n:Int)]:=by simp[Zdw,Ybs]
theorem Zbkj(n m:Nat):basN n (m+1)=basN n m++[(n:Int)+m]:=by simp[basN,Ybs]
theorem Zsa(n:Nat):(Zdw n).length=n:=by simp[Zdw]
theorem Zyx(n m:Nat):(basN n m).length=m:=by simp[basN]
theorem Zn5{l:List Int}{i:Nat}(h:i<l.length):wh (l.take (i+1))=wh (l.take i)++[⟨l[i],1⟩]:=by
 unfold wh;rw[Y1 h,Y0];rfl
theorem Zln(l:List Int):(wh l).length=l.length:=by simp[wh]
theorem l_wholes(l:List Int)(hl:l.length<=1000):∀i,i<=l.length->Zu5 (wh (l.take i)) l l.length i=some (.own 0,[.arr 149 2 true ((wh l).map Za.c)]):=by
 refine down _ ?_ ?_
 .refine Zb0k ?_;rw[if_neg (by omega),Yl]
 .intro i hi ih;refine Zb0k ?_;rw[if_pos (by omega),wS hi (by omega)];rw[Zn5 hi]at ih;exact⟨by omega,_,gE hi,_,Zbkg _,by rw[Zln,Yp];omega,ih⟩
theorem Zsb{l:List Int}(hl:l.length<=1000):Zgd l=some (.own 0,[.arr 149 2 true ((wh l).map Za.c)]):=Zcok (by simpa[wh]using l_wholes l hl 0 (Ya _))
theorem Z6g{l:List (List Int)}{i:Nat}(h:i<l.length):(l.take (i+1)).map wh=(l.take i).map wh++[wh l[i]]:=by
 rw[Y1 h,Y0];rfl
theorem wAdd{n i:Nat}(hn:n<=1000)(hi:i<=1000):w ((n:Int)+(i:Int))=(n:Int)+i:=w_in ⟨by omega,by omega⟩
section
variable{p:Program}(h:LeP p)(hm:p.Rows≠[])(hn:p.Objective≠[])
include h hm hn
theorem l_iid1(V V1:Za)(F:List Int)(L K:List Za):∀i,i<=p.Rows.length->0<i->Zvb V V1 (basN p.Objective.length i) F ((p.Rows.take i).map wh) L K p.Objective.length p.Rows p.Rows.length i=some (Zjg true ⟨basN p.Objective.length p.Rows.length,F,p.Rows.map wh,L,K,V1⟩):=by
 have h1:=h.o;have h2:=h.r;refine down _ ?_ ?_
 .intro _;refine Zb0o ?_;rw[if_neg (by omega),Yl];rfl
 .intro i hi ih h0;refine Zb0o ?_;rw[if_pos (by omega),wS hi (by omega),wAdd h1 (by omega)];have ih:=ih (by omega);rw[Zbkj,Z6g hi]at ih;exact⟨by omega,_,gE hi,by rw[Zyx];omega,_,Zsb (h.row _ (Yb hi)),by rw[Yo,Yp];omega,ih⟩
theorem l_iid0(V V1:Za)(L K:List Za):∀k,k<=p.Objective.length->0<k->Zva p V V1 (Zdw k) L K p.Objective.length k=some (Zjg true ⟨basN p.Objective.length p.Rows.length,Zdw p.Objective.length,p.Rows.map wh,L,K,V1⟩):=by
 have h1:=h.o;have h2:=h.r;refine down _ ?_ ?_
 .intro _;refine Zb0n ?_;rw[if_neg (by omega)];have hp:0<p.Rows.length:=Yba.2 hm;refine Zcom ?_;rw[if_pos (by omega),show w (0+1)=((0+1:Nat):Int) by decide];have:=l_iid1 h hm hn V V1 (Zdw p.Objective.length) L K (0+1) (by omega) (by omega);rw[Z6g hp]at this;have e:basN p.Objective.length (0+1)=[w ((p.Objective.length:Int)+0)]:=by
   have:=wAdd (n:=p.Objective.length) (i:=0) h1 (by omega);rw[show((0:Nat):Int)=0 from rfl]at this;rw[this];simp[basN]
  rw[e]at this;exact⟨by omega,_,gE (i:=0) hp,_,Zsb (h.row _ (Yb hp)),by simpa using this⟩
 .intro k hk ih h0;refine Zb0n ?_;rw[if_pos (by omega),wS hk (by omega)];have ih:=ih (by omega);rw[Zb5u]at ih;exact⟨by rw[Zsa];omega,ih⟩
theorem Zcu3:Zu9 p=some (if Zc1 p=true then Zjg true (Zcd p)else Zlm):=by
 have h1:=h.o;refine Zcon ⟨_,Zb5s h,?_⟩;rcases ft (Zc1 p)with e|e
 .rw[e,if_pos rfl,if_pos rfl];refine⟨_,Zsb h.l,_,Zsb h.o,_,Zbkg 0,?_⟩;have hp:0<p.Objective.length:=Yba.2 hn;refine Zcol ?_;rw[if_pos (by omega),show w (0+1)=((0+1:Nat):Int) by decide];exact l_iid0 h hm hn ⟨0,0⟩ ⟨0,1⟩ (wh p.Limits) (wh p.Objective) (0+1) (by omega) (by omega)
 .rw[e,if_neg (by decide),if_neg (by decide)];rfl
end
structure OkP (p:Program):Prop where
 o:1<=p.Objective.length/\p.Objective.length<=15
 r:p.Rows.length<=64
 l:p.Rows.length=p.Limits.length
 row:∀r∈p.Rows,r.length=p.Objective.length
 lim:∀x∈p.Limits,0<=x/\x<=99
 cs:(∀x∈p.Objective,coef x=true)/\∀r∈p.Rows,∀x∈r,coef x=true
theorem Zyy{p:Program}(h:Zc1 p=true):OkP p:=by
 unfold Zc1 at h;simp only[Yc,decide_eq_true_eq]at h;obtain⟨⟨⟨h1,h2⟩,h3⟩,h4,h5,h6⟩:=h;have h1:=Zy.1 h1;refine⟨by omega,by omega,by omega,λr hr=>?_,λx hx=>Zy.1 (Yn.1 h6 x hx),λx hx=>Yn.1 h4 x hx,λr hr x hx=>?_⟩
 .have:=Yn.1 h5 r hr;unfold Zh4 at this;simp only[Yc,decide_eq_true_eq]at this;omega
 .have:=Yn.1 h5 r hr;unfold Zh4 at this;simp only[Yc,decide_eq_true_eq]at this;exact Yn.1 this.1 x hx
section
variable{p:Program}(h:OkP p)(hm:p.Rows≠[])
include h hm
omit hm in
theorem l_row1a(V V1:Za)(F:List Int)(K:List Za)(res:AV×List Blk){i:Nat}(hi:i<p.Rows.length)(c:Znp p V V1 ([w ((p.Objective.length:Int)+i)]) F ([wh p.Rows[i]]) ([⟨p.Limits.getD i 0,1⟩]) K p.Objective.length (w ((i:Int)+1))=some res):∀k,k<=p.Objective.length->Zxf p V V1 F K (wh (p.Rows[i].take k)) p.Objective.length i k=some res:=by
 have h1:=h.o;have h2:=h.r;have hl:=h.l;have hr:=h.row _ (Yb hi);refine down _ ?_ ?_
 .refine Zb23 ?_;rw[if_neg (by omega),<-hr,Yl,hr];exact⟨by omega,_,gDn (by omega),_,Zdv _,c⟩
 .intro k hk ih;refine Zb23 ?_;rw[if_pos (by omega),wS hk (by omega)];rw[Zn5 (by omega)]at ih;exact⟨by omega,_,gE hi,by omega,_,gE (by omega),_,Zdv _,by rw[Zln,Yp];omega,ih⟩
omit hm in
theorem l_row1c(V V1:Za)(B F:List Int)(C:List (List Za))(L K:List Za)(hB:B.length<=1000/\C.length<=1000/\L.length<=1000)(res:AV×List Blk){i:Nat}(hi:i<p.Rows.length)(c:Znp p V V1 (B++[w ((p.Objective.length:Int)+i)]) F (C++[wh p.Rows[i]]) (L++[⟨p.Limits.getD i 0,1⟩]) K p.Objective.length (w ((i:Int)+1))=some res):∀k,k<=p.Objective.length->Zxg p V V1 B F C L K (wh (p.Rows[i].take k)) p.Objective.length i k=some res:=by
 have h1:=h.o;have h2:=h.r;have hl:=h.l;have hr:=h.row _ (Yb hi);refine down _ ?_ ?_
 .refine Zb25 ?_;rw[if_neg (by omega),<-hr,Yl,hr];exact⟨by omega,by omega,by omega,_,gDn (by omega),_,Zdv _,by omega,c⟩
 .intro k hk ih;refine Zb25 ?_;rw[if_pos (by omega),wS hk (by omega)];rw[Zn5 (by omega)]at ih;exact⟨by omega,_,gE hi,by omega,_,gE (by omega),_,Zdv _,by rw[Zln,Yp];omega,ih⟩
omit h hm in
theorem getI{l:List Int}{i:Nat}(h:i<l.length):l[i]=l.getD i 0:=by
 rw[Yy,Yj h];rfl
omit hm in
theorem l_row2c(V V1:Za)(F:List Int)(K:List Za):∀i,i<=p.Rows.length->0<i->Znp p V V1 (basN p.Objective.length i) F ((p.Rows.take i).map wh) (wh (p.Limits.take i)) K p.Objective.length i=some (Zjg true ⟨basN p.Objective.length p.Rows.length,F,p.Rows.map wh,wh p.Limits,K,V1⟩):=by
 have h1:=h.o;have h2:=h.r;have hl:=h.l;refine down _ ?_ ?_
 .intro _;refine Zb24 ?_;rw[if_neg (by omega),Yl,hl,Yl];rfl
 .intro i hi ih h0;refine Zb24 ?_;rw[if_pos (by omega)];have ih:=ih (by omega);rw[Zbkj,Z6g hi,Zn5 (by omega),getI (by omega)]at ih;have:=l_row1c h V V1 (basN p.Objective.length i) F ((p.Rows.take i).map wh) (wh (p.Limits.take i)) K (by rw[Zyx,Yo,Yp,Zln,Yp];omega) _ hi (by rw[wS hi (by omega),wAdd (by omega) (by omega)];exact ih) 0 (Ya _);simpa[wh]using this
theorem l_row0a(V V1:Za):∀k,k<=p.Objective.length->0<k->Zxe p V V1 (Zdw k) (wh (p.Objective.take k)) p.Objective.length k=some (Zjg true ⟨basN p.Objective.length p.Rows.length,Zdw p.Objective.length,p.Rows.map wh,wh p.Limits,wh p.Objective,V1⟩):=by
 have h1:=h.o;have h2:=h.r;have hl:=h.l;refine down _ ?_ ?_
 .intro _;refine Zb22 ?_;rw[if_neg (by omega),Yl];have hp:0<p.Rows.length:=Yba.2 hm;refine Zcrn ?_;rw[if_pos (by omega)];have ih:=l_row2c h V V1 (Zdw p.Objective.length) (wh p.Objective) (0+1) (by omega) (by omega);rw[Zbkj,Z6g hp,Zn5 (by omega),getI (by omega)]at ih;have:=l_row1a h V V1 (Zdw p.Objective.length) (wh p.Objective) (Zjg true ⟨basN p.Objective.length p.Rows.length,Zdw p.Objective.length,p.Rows.map wh,wh p.Limits,wh p.Objective,V1⟩) hp (by rw[wS hp (by omega),wAdd (by omega) (by omega)];simpa[basN,wh]using ih) 0 (Ya _);simpa[wh]using this
 .intro k hk ih h0;refine Zb22 ?_;rw[if_pos (by omega),wS hk (by omega)];have ih:=ih (by omega);rw[Zb5u,Zn5 hk]at ih;exact⟨by rw[Zsa];omega,by omega,_,gE hk,_,Zdv _,by rw[Zln,Yp];omega,ih⟩
end
theorem Zcu4{p:Program}(h:LeP p)(hm:p.Rows≠[]):Zxd p=some (if Zc1 p=true then Zjg true (Zcd p)else Zlm):=by
 refine Zcro ⟨_,Zb5t h,?_⟩;rcases ft (Zc1 p)with e|e
 .rw[e,if_pos rfl,if_pos rfl];have ho:=Zyy e;have h1:=ho.o;refine⟨_,Zdv 0,?_⟩;refine Zcrm ?_;rw[if_pos (by omega),show w (0+1)=((0+1:Nat):Int) by decide];have:=l_row0a ho hm ⟨0,0⟩ ⟨0,1⟩ (0+1) (by omega) (by omega);rw[Zn5 (show 0<p.Objective.length by omega)]at this;exact⟨by omega,_,gE (i:=0) (by omega),_,Zdv _,by simpa[Zdw,wh,Zcd]using this⟩
 .rw[e,if_neg (by decide),if_neg (by decide)];rfl
theorem vR_wh{x:Int}(h:-2147483647<=x/\x<=2147483647):vR ⟨x,1⟩=true:=Zew.2 ⟨by simp only;omega,by simp only;omega,by simp⟩
theorem wh_v{l:List Int}(h:∀x∈l,-2147483647<=x/\x<=2147483647):allV (wh l):=by
 intro r hr;obtain⟨x,hx,rfl⟩:=Yr.1 hr;exact vR_wh (h x hx)
theorem Zb5v{x:Int}(h:coef x=true):-2147483647<=x/\x<=2147483647:=by have:=Zy.1 h;omega
theorem Zbkk{p:Program}(h:OkP p):Good (Zcd p):=by
 have h1:=h.o;have h2:=h.r;refine⟨⟨by simp[Zcd,basN];omega,by simp[Zcd,Zdw];omega,by simp[Zcd,basN],by simp[Zcd,basN,wh,h.l],by simp[Zcd,Zdw,wh],?_,?_,?_,?_,v0⟩,?_,by simp[Zcd]⟩
 .intro v hv;simp only[Zcd,Zyx,Zsa]at hv;simp only[Zcd,Yi];rcases Ybi v p.Objective.length with hl|hl
  .right;exact Yr.2 ⟨v,Ybo.2 hl,rfl⟩
  .left;exact Yr.2 ⟨v-p.Objective.length,Ybo.2 (by omega),by omega⟩
 .intro r hr;obtain⟨x,hx,rfl⟩:=Yr.1 hr;refine⟨?_,wh_v λy hy=>Zb5v (h.cs.2 x hx y hy)⟩;rw[Zln];simp[Zcd,Zsa,h.row x hx]
 .exact wh_v λx hx=>by have:=h.lim x hx;omega
 .exact wh_v λx hx=>Zb5v (h.cs.1 x hx)
 .intro r hr;obtain⟨x,hx,rfl⟩:=Yr.1 hr;exact(h.lim x hx).1
def failS:AV×List Blk:=(.tup [.agg [I 0,I 0,.own 0,.own 1],Bo false],[.arr 149 2 true (([]:List Za).map Za.c),.arr 149 2 true (([]:List Za).map Za.c)])
def solR(v:Za)(P D:List Za):AV×List Blk:=(.tup [.agg [I v.Num,I v.Den,.own 0,.own 1],Bo true],[.arr 149 2 true (P.map Za.c),.arr 149 2 true (D.map Za.c)])
def Ans(o:Option Zn)(r:Rs):Prop:=match o with
 |none=>r=some failS
 |some d=>∃P D:List Za,r=some (solR d.Value P D)
structure Fits (p:Program) (d:Zn):Prop where
 g:Good d
 m:d.Basic.length=p.Rows.length
 n:d.Free.length=p.Objective.length
theorem setR{xs:List Za}{k:Int}(h0:0<=k)(h:k<xs.length):∃e,xs[k.toNat]?=some e:=⟨_,gR (i:=k.toNat) (by omega)⟩
theorem l_isol2{p:Program}{d:Zn}(h:Fits p d)(V:Za):∀i,i<=d.Free.length->∀x x1:List Za,x1.length=p.Rows.length->∃P D:List Za,Zp3 V d d.Value x x1 p.Objective.length d.Free d.Free.length i=some (solR d.Value P D):=by
 have hv:=Z5x h.g.v;have h1:=h.g.v.n;have h2:=h.g.v.m;have h3:=h.m;have h4:=h.n;have hlk:=h.g.v.lk;refine down _ ?_ ?_
 .intro x x1 hx;refine⟨x,x1,Zbjn ?_⟩;rw[if_neg (by omega)];rfl
 .intro i hi ih x x1 hx;have hb:=hv d.Free[i] (Yci _ (Yb hi));by_cases c:(p.Objective.length:Int)<=d.Free[i]
  .obtain⟨P,D,hPD⟩:=ih x (x1.set (d.Free[i]-p.Objective.length).toNat (nR (d.Costs.getD i r0))) (by rw[Y9];exact hx);refine⟨P,D,Zbjn ?_⟩;have hw:w (d.Free[i]-p.Objective.length)=d.Free[i]-p.Objective.length:=w_in ⟨by omega,by omega⟩;obtain⟨e,he⟩:=setR (xs:=x1) (k:=d.Free[i]-p.Objective.length) (by omega) (by omega);rw[if_pos (by omega),wS hi (by omega)];refine⟨by omega,_,gE hi,?_⟩;rw[if_pos c];refine⟨_,gRn (by omega),_,Zlf (Zlg (Zgl h.g.v.vk (by omega))),?_⟩;rw[hw];exact⟨by omega,_,he,hPD⟩
  .obtain⟨P,D,hPD⟩:=ih x x1 hx;refine⟨P,D,Zbjn ?_⟩;rw[if_pos (by omega),wS hi (by omega)];refine⟨by omega,_,gE hi,?_⟩;rw[if_neg c];exact hPD
theorem l_isol1{p:Program}{d:Zn}(h:Fits p d)(V:Za):∀i,i<=d.Basic.length->∀x x1:List Za,x.length=p.Objective.length->x1.length=p.Rows.length->∃P D:List Za,Zmx V d d.Value x x1 p.Objective.length d.Basic d.Basic.length i=some (solR d.Value P D):=by
 have hv:=Z5x h.g.v;have h1:=h.g.v.n;have h2:=h.g.v.m;have h3:=h.m;have h4:=h.n;have hll:=h.g.v.ll;refine down _ ?_ ?_
 .intro x x1 hx hx1;obtain⟨P,D,hPD⟩:=l_isol2 h V 0 (Ya _) x x1 hx1;refine⟨P,D,Zbjm ?_⟩;rw[if_neg (by omega)];exact hPD
 .intro i hi ih x x1 hx hx1;have hb:=hv d.Basic[i] (Ych _ (Yb hi));by_cases c:d.Basic[i]<(p.Objective.length:Int)
  .obtain⟨P,D,hPD⟩:=ih (x.set d.Basic[i].toNat (d.Limits.getD i r0)) x1 (by rw[Y9];exact hx) hx1;refine⟨P,D,Zbjm ?_⟩;obtain⟨e,he⟩:=setR (xs:=x) (k:=d.Basic[i]) (by omega) (by omega);rw[if_pos (by omega),wS hi (by omega)];refine⟨by omega,_,gE hi,?_⟩;rw[if_pos c];exact⟨_,gRn (by omega),by omega,_,he,hPD⟩
  .obtain⟨P,D,hPD⟩:=ih x x1 hx hx1;refine⟨P,D,Zbjm ?_⟩;rw[if_pos (by omega),wS hi (by omega)];refine⟨by omega,_,gE hi,?_⟩;rw[if_neg c];exact hPD
theorem Zlo{n:Nat}(h:n<=1000):n*8<=room:=by unfold room;omega
theorem Zb5w{p:Program}{d:Zn}(h:Fits p d)(h1:¬ent d<0)(h2:¬lea d (ent d).toNat<0)(ok:okO d (lea d (ent d).toNat).toNat (ent d).toNat=true):Fits p (Zbs d (lea d (ent d).toNat).toNat (ent d).toNat) :=
 ⟨Zb4t h.g h1 h2 ok,by simp[Zbs,h.m],by simp[Zbs,h.n]⟩
theorem Zb5x{d:Zn}(h:Good d)(h1:¬ent d<0)(h2:¬lea d (ent d).toNat<0):PivC d (lea d (ent d).toNat).toNat (ent d).toNat:=by
 have hk:=h.v.lk;rcases Z5v d with e|⟨e1,e2,e3⟩
 .omega
 rcases lea_ok d (ent d).toNat with l|⟨l1,l2,l3,l4⟩
 .omega
 refine⟨h.v,by omega,by omega,?_⟩;unfold onD at l3;omega
theorem l_isol0{p:Program}(V:Za):∀(f:Nat) (d:Zn),Fits p d->1<=f->f<=300->Ans (Zfv f d) (Zge p V d (300-(f:Int))):=by
 intro f
 induction f with
 |zero=>intro d h hf;omega
 |succ f ih =>
  intro d h hf hf2;have hk:=h.g.v.lk;have hnn:=h.n;have hmm:=h.m;have hv1:=h.g.v.n;have hv2:=h.g.v.m;unfold Zfv;by_cases h1:ent d<0
  .rw[if_pos h1];obtain⟨P,D,hPD⟩:=l_isol1 h V 0 (Ya _) (wh (List.replicate p.Objective.length 0)) (wh (List.replicate p.Rows.length 0)) (by rw[Zln,Ybu]) (by rw[Zln,Ybu]);refine⟨P,D,Zyl ⟨_,Zyv h.g.v,?_⟩⟩;rw[if_neg (by omega),Yh,Yh];exact⟨by omega,by omega,Zlo (by omega),by omega,_,Zsb (by rw[Ybu];omega),by omega,by omega,Zlo (by omega),by omega,_,Zsb (by rw[Ybu];omega),hPD⟩
  rw[if_neg h1];obtain⟨j,hj⟩:∃j:Nat,ent d=j:=⟨(ent d).toNat,by omega⟩;have hjn:j<d.Free.length:=by
   rcases Z5v d with e|⟨e1,e2,e3⟩<;>omega
  by_cases h2:lea d (ent d).toNat<0
  .rw[if_pos h2];rw[hj,Yh]at h2;refine Zyl ⟨_,Zyv h.g.v,?_⟩;rw[if_pos (by omega),hj];refine⟨_,Z6c h.g.v hjn,?_⟩;rw[if_pos h2];rfl
  rw[if_neg h2];have hP:=Zcu0 (Zb5x h.g h1 h2);have hst:=Zb5w h h1 h2;rw[hj,Yh]at h2 hP hst|-;obtain⟨i,hi⟩:∃i:Nat,lea d j=i:=⟨(lea d j).toNat,by omega⟩;rw[hi,Yh]at hP hst|-
  cases f with
  |zero =>
   have:(if okO d i j=true then Zfv 0 (Zbs d i j)else none)=none:=by split<;>rfl
   rw[this];refine Zyl ⟨_,Zyv h.g.v,?_⟩;rw[hj,if_pos (by omega)];refine⟨_,Z6c h.g.v hjn,?_⟩
   rw[hi,if_neg (by omega),if_pos (by omega)];rfl
  |succ f =>
   have hwr:w ((300-((f+1+1:Nat):Int))+1)=300-((f+1:Nat):Int):=by rw[w_in ⟨by omega,by omega⟩];omega
   unfold Zc0 at hP;rcases ft (okO d i j)with ok|ok
   .rw[ok,if_pos rfl]at hP|-;have ih:=ih (Zbs d i j) (hst ok) (by omega) (by omega);have key:∀r,Zge p V (Zbs d i j) (300-((f+1:Nat):Int))=some r->Zge p V d (300-((f+1+1:Nat):Int))=some r:=by
     intro r hr;refine Zyl ⟨_,Zyv h.g.v,?_⟩;rw[hj,if_pos (by omega)];refine⟨_,Z6c h.g.v hjn,?_⟩;rw[hi,if_neg (by omega),if_neg (by omega)];refine .inr ⟨_,_,_,_,_,_,_,hP,?_⟩;rw[hwr];exact hr
    cases hs:Zfv (f+1) (Zbs d i j)with
    |none=>rw[hs]at ih;exact key _ ih
    |some d'=>rw[hs]at ih;obtain⟨P,D,hPD⟩:=ih;exact⟨P,D,key _ hPD⟩
   .rw[ok,if_neg (by decide)]at hP|-;refine Zyl ⟨_,Zyv h.g.v,?_⟩;rw[hj,if_pos (by omega)];refine⟨_,Z6c h.g.v hjn,?_⟩;rw[hi,if_neg (by omega),if_neg (by omega)];refine .inl ⟨[],[],[],[],[],r0,false,hP,?_⟩;rw[if_neg (by decide)];rfl
def lpV(p:Program):Option Zn:=if Zc1 p=true then Zfv 300 (Zcd p)else none
theorem Zcu5{p:Program}(h:LeP p)(hm:p.Rows≠[])(hn:p.Objective≠[]):Ans (lpV p) (Zvm p):=by
 have hI:=Zcu3 h hm hn;unfold lpV;rcases ft (Zc1 p)with e|e
 .rw[e,if_pos rfl]at hI|-;have ho:=Zyy e;have hs:=l_isol0 (p:=p) ⟨0,0⟩ 300 (Zcd p) ⟨Zbkk ho,by simp[Zcd,Zyx],by simp[Zcd,Zsa]⟩ (by omega) (by omega);have key:∀r,Zge p ⟨0,0⟩ (Zcd p) (300-((300:Nat):Int))=some r->Zvm p=some r:=by
   intro r hr;refine Zb0x ⟨_,_,_,_,_,_,_,hI,?_⟩;rw[if_pos rfl];exact hr
  cases hs':Zfv 300 (Zcd p)with
  |none=>rw[hs']at hs;exact key _ hs
  |some d'=>rw[hs']at hs;obtain⟨P,D,hPD⟩:=hs;exact⟨P,D,key _ hPD⟩
 .rw[e,if_neg (by decide)]at hI|-;refine Zb0x ⟨[],[],[],[],[],r0,false,hI,?_⟩;rw[if_neg (by decide)];rfl
section
variable{p:Program}{d:Zn}(h:Fits p d)(hm:p.Rows≠[])
include h
theorem l_ss3(V:Za):∀i,i<=d.Free.length->∀x x1:List Za,x1.length=p.Rows.length->∃P D:List Za,Zrp p V d d.Value x x1 i=some (solR d.Value P D):=by
 have hv:=Z5x h.g.v;have h1:=h.g.v.n;have h2:=h.g.v.m;have h3:=h.m;have h4:=h.n;have hlk:=h.g.v.lk;refine down _ ?_ ?_
 .intro x x1 hx;refine⟨x,x1,Zbju ?_⟩;rw[if_neg (by omega)];rfl
 .intro i hi ih x x1 hx;have hb:=hv d.Free[i] (Yci _ (Yb hi));by_cases c:(p.Objective.length:Int)<=d.Free[i]
  .have hq:=Zlg (Zgl (k:=i) h.g.v.vk (by omega));obtain⟨P,D,hPD⟩:=ih x (x1.set (d.Free[i]-p.Objective.length).toNat ⟨w (0-(d.Costs.getD i r0).Num),(d.Costs.getD i r0).Den⟩) (by rw[Y9];exact hx);refine⟨P,D,Zbju ?_⟩;have hw:w (d.Free[i]-p.Objective.length)=d.Free[i]-p.Objective.length:=w_in ⟨by omega,by omega⟩;obtain⟨e,he⟩:=setR (xs:=x1) (k:=d.Free[i]-p.Objective.length) (by omega) (by omega);rw[if_pos (by omega),wS hi (by omega)];refine⟨by omega,_,gE hi,?_⟩;rw[if_pos c];refine⟨_,gRn (by omega),?_⟩;rw[hw];exact⟨by omega,_,he,hPD⟩
  .obtain⟨P,D,hPD⟩:=ih x x1 hx;refine⟨P,D,Zbju ?_⟩;rw[if_pos (by omega),wS hi (by omega)];refine⟨by omega,_,gE hi,?_⟩;rw[if_neg c];exact hPD
theorem l_ss2(V:Za):∀i,i<=d.Basic.length->∀x x1:List Za,x.length=p.Objective.length->x1.length=p.Rows.length->∃P D:List Za,Zro p V d d.Value x x1 i=some (solR d.Value P D):=by
 have hv:=Z5x h.g.v;have h1:=h.g.v.n;have h2:=h.g.v.m;have h3:=h.m;have h4:=h.n;have hll:=h.g.v.ll;refine down _ ?_ ?_
 .intro x x1 hx hx1;obtain⟨P,D,hPD⟩:=l_ss3 h V 0 (Ya _) x x1 hx1;refine⟨P,D,Zbjt ?_⟩;rw[if_neg (by omega)];exact hPD
 .intro i hi ih x x1 hx hx1;have hb:=hv d.Basic[i] (Ych _ (Yb hi));by_cases c:d.Basic[i]<(p.Objective.length:Int)
  .obtain⟨P,D,hPD⟩:=ih (x.set d.Basic[i].toNat (d.Limits.getD i r0)) x1 (by rw[Y9];exact hx) hx1;refine⟨P,D,Zbjt ?_⟩;obtain⟨e,he⟩:=setR (xs:=x) (k:=d.Basic[i]) (by omega) (by omega);rw[if_pos (by omega),wS hi (by omega)];refine⟨by omega,_,gE hi,?_⟩;rw[if_pos c];exact⟨_,gRn (by omega),by omega,_,he,hPD⟩
  .obtain⟨P,D,hPD⟩:=ih x x1 hx hx1;refine⟨P,D,Zbjt ?_⟩;rw[if_pos (by omega),wS hi (by omega)];refine⟨by omega,_,gE hi,?_⟩;rw[if_neg c];exact hPD
theorem l_ss1(V:Za):∀i,i<=p.Rows.length->∀x x1:List Za,x.length=p.Objective.length->x1.length=i->∃P D:List Za,Zxy p V d d.Value x x1 i=some (solR d.Value P D):=by
 have h2:=h.g.v.m;have h3:=h.m;refine down _ ?_ ?_
 .intro x x1 hx hx1;obtain⟨P,D,hPD⟩:=l_ss2 h V 0 (Ya _) x x1 hx hx1;refine⟨P,D,Zb3o ?_⟩;rw[if_neg (by omega)];exact hPD
 .intro i hi ih x x1 hx hx1;obtain⟨P,D,hPD⟩:=ih x (x1++[⟨0,1⟩]) hx (by simp[hx1]);refine⟨P,D,Zb3o ?_⟩;rw[if_pos (by omega),wS hi (by omega)];exact⟨_,Zdv 0,by omega,hPD⟩
include hm in
theorem l_ss0(V:Za):∀k,k<=p.Objective.length->∀x:List Za,x.length=k->∃P D:List Za,Zxx p V d d.Value x k=some (solR d.Value P D):=by
 have h1:=h.g.v.n;have h4:=h.n;have hp:0<p.Rows.length:=Yba.2 hm;refine down _ ?_ ?_
 .intro x hx;obtain⟨P,D,hPD⟩:=l_ss1 h V (0+1) (by omega) x [⟨0,1⟩] hx rfl;refine⟨P,D,Zb3n ?_⟩;rw[if_neg (by omega)];refine Zcsa ?_;rw[if_pos (by omega),show w (0+1)=((0+1:Nat):Int) by decide];exact⟨_,Zdv 0,hPD⟩
 .intro k hk ih x hx;obtain⟨P,D,hPD⟩:=ih (x++[⟨0,1⟩]) (by simp[hx]);refine⟨P,D,Zb3n ?_⟩;rw[if_pos (by omega),wS hk (by omega)];exact⟨_,Zdv 0,by omega,hPD⟩
include hm in
theorem l_ss(V:Za):∃P D:List Za,Z4l p V d d.Value 0=some (solR d.Value P D):=by
 have h1:=h.g.v.n;have h4:=h.n;obtain⟨P,D,hPD⟩:=l_ss0 h hm V (0+1) (by omega) [⟨0,1⟩] rfl;refine⟨P,D,Zcr9 ?_⟩;rw[if_pos (by omega),show w (0+1)=((0+1:Nat):Int) by decide];exact⟨_,Zdv 0,hPD⟩
end
theorem l_ss4{p:Program}(hm:p.Rows≠[])(V:Za):∀(f:Nat) (d:Zn),Fits p d->f<=300->Ans (Zfv f d) (Zi3 p V d (300-(f:Int))):=by
 intro f
 induction f with
 |zero =>
  intro d h hf;refine Zyo ?_
  rw[if_neg (by omega)];rfl
 |succ f ih =>
  intro d h hf2;have hk:=h.g.v.lk;unfold Zfv;by_cases h1:ent d<0
  .rw[if_pos h1];obtain⟨P,D,hPD⟩:=l_ss h hm V;refine⟨P,D,Zyo ?_⟩;rw[if_pos (by omega)];refine⟨_,Z6b h.g.v,?_⟩;rw[if_pos h1];exact hPD
  rw[if_neg h1];obtain⟨j,hj⟩:∃j:Nat,ent d=j:=⟨(ent d).toNat,by omega⟩;have hjn:j<d.Free.length:=by
   rcases Z5v d with e|⟨e1,e2,e3⟩<;>omega
  by_cases h2:lea d (ent d).toNat<0
  .rw[if_pos h2];rw[hj,Yh]at h2;refine Zyo ?_;rw[if_pos (by omega)];refine⟨_,Z6b h.g.v,?_⟩;rw[if_neg h1,hj];refine⟨_,Zbkd h.g.v hjn,?_⟩;rw[if_pos h2];rfl
  rw[if_neg h2];have hP:=Zcu2 (Zb5x h.g h1 h2);have hst:=Zb5w h h1 h2;rw[hj,Yh]at h2 hP hst|-;obtain⟨i,hi⟩:∃i:Nat,lea d j=i:=⟨(lea d j).toNat,by omega⟩;rw[hi,Yh]at hP hst|-;have hwr:w ((300-((f+1:Nat):Int))+1)=300-(f:Int):=by rw[w_in ⟨by omega,by omega⟩];omega
  unfold Zc0 at hP;rcases ft (okO d i j)with ok|ok
  .rw[ok,if_pos rfl]at hP|-;have ih:=ih (Zbs d i j) (hst ok) (by omega);have key:∀r,Zi3 p V (Zbs d i j) (300-(f:Int))=some r->Zi3 p V d (300-((f+1:Nat):Int))=some r:=by
    intro r hr;refine Zyo ?_;rw[if_pos (by omega)];refine⟨_,Z6b h.g.v,?_⟩;rw[if_neg h1,hj];refine⟨_,Zbkd h.g.v hjn,?_⟩;rw[hi,if_neg (by omega)];refine .inr ⟨_,_,_,_,_,_,_,hP,?_⟩;rw[hwr];exact hr
   cases hs:Zfv f (Zbs d i j)with
   |none=>rw[hs]at ih;exact key _ ih
   |some d'=>rw[hs]at ih;obtain⟨P,D,hPD⟩:=ih;exact⟨P,D,key _ hPD⟩
  .rw[ok,if_neg (by decide)]at hP|-;refine Zyo ?_;rw[if_pos (by omega)];refine⟨_,Z6b h.g.v,?_⟩;rw[if_neg h1,hj];refine⟨_,Zbkd h.g.v hjn,?_⟩;rw[hi,if_neg (by omega)];refine .inl ⟨[],[],[],[],[],r0,false,hP,?_⟩;rw[if_neg (by decide)];rfl
theorem Zcu6{p:Program}(h:LeP p)(hm:p.Rows≠[]):Ans (lpV p) (Zxw p):=by
 have hI:=Zcu4 h hm;unfold lpV;rcases ft (Zc1 p)with e|e
 .rw[e,if_pos rfl]at hI|-;have ho:=Zyy e;have hs:=l_ss4 (p:=p) hm ⟨0,0⟩ 300 (Zcd p) ⟨Zbkk ho,by simp[Zcd,Zyx],by simp[Zcd,Zsa]⟩ (by omega);have key:∀r,Zi3 p ⟨0,0⟩ (Zcd p) (300-((300:Nat):Int))=some r->Zxw p=some r:=by
   intro r hr;refine Zb3p ⟨_,_,_,_,_,_,_,hI,?_⟩;rw[if_pos rfl];exact hr
  cases hs':Zfv 300 (Zcd p)with
  |none=>rw[hs']at hs;exact key _ hs
  |some d'=>rw[hs']at hs;obtain⟨P,D,hPD⟩:=hs;exact⟨P,D,key _ hPD⟩
 .rw[e,if_neg (by decide)]at hI|-;refine Zb3p ⟨[],[],[],[],[],r0,false,hI,?_⟩;rw[if_neg (by decide)];rfl
theorem lpV_good{p:Program}{d:Zn}(h:lpV p=some d):Good d:=by
 unfold lpV at h;split at h
 .rename_i e;exact Zb4u 300 (Zbkk (Zyy e)) h
 .cases h
set_option maxRecDepth 100000 in
theorem shl_pow:∀n:Fin 60,shlI 1 (n.1:Int)=2 ^ n.1:=by decide
theorem Zsc{n:Int}(h0:0<=n)(h:n<60):shlI 1 n=2 ^ n.toNat:=by
 have:=shl_pow ⟨n.toNat,by omega⟩;simp only at this;rw[<-this];congr 1;omega
theorem pow40{n:Int}(h:n<=40):(1:Int)<=2 ^ n.toNat/\(2:Int) ^ n.toNat<=1099511627776:=by
 have h1:(2:Nat) ^ n.toNat<=2 ^ 40:=Nat.pow_le_pow_right (by decide) (by omega);have h2:1<=(2:Nat) ^ n.toNat:=Nat.one_le_two_pow;have e:((2:Int) ^ n.toNat)=(((2:Nat) ^ n.toNat:Nat):Int):=by push_cast;rfl
 rw[e]
 have:(2:Nat) ^ 40=1099511627776:=by decide
 omega
theorem mul_in{p k:Int}(h0:1<=p)(hp:p<=1099511627776)(hk:1<=k)(c:k<=5000):1<=p*k/\p*k<=5497558138880000:=by
 have h1:=Int.mul_le_mul h0 hk (by omega) (by omega);have h2:=Int.mul_le_mul hp c (by omega) (by omega);omega
theorem l_iat{k cc:Int}(hk:1<=k/\k<=5000)(hn:0<=cc/\cc<=40):∀(n:Nat) (p:Int),(n:Int)<=4611686018427387904->1<=p->p<=2 ^ cc.toNat->Zvn k n cc p=some (Bo (atM k (2 ^ cc.toNat) n p),[]):=by
 have hB:=pow40 hn.2;intro n
 induction n with
 |zero =>
  intro p _ _ _;refine Zb0y ?_
  rw[if_neg (by omega)];rfl
 |succ n ih =>
  intro p h9 h0 hp;have hm:=mul_in h0 (by omega) hk.1 hk.2;refine Zb0y ?_;rw[if_pos (by omega),w_in (x:=p*k) ⟨by omega,by omega⟩,Zsc hn.1 (by omega),atM];refine⟨by omega,?_⟩;by_cases c:(2:Int) ^ cc.toNat<p*k
  .rw[if_pos c,if_pos c]
  .rw[if_neg c,if_neg c,show w (((n+1:Nat):Int)-1)=(n:Int) by rw[w_in ⟨by omega,by omega⟩];omega];exact ih (p*k) (by omega) hm.1 (by omega)
theorem Zcu7{k c cc:Int}(hk:1<=k/\k<=5000)(hn:0<=cc/\cc<=40)(hd:0<=c/\c<=4611686018427387904):Z2j k c cc=some (Bo (atM k (2 ^ cc.toNat) c.toNat 1),[]):=by
 have hB:=pow40 hn.2;have:=l_iat hk hn c.toNat 1 (by omega) (by omega) hB.1;rw[show((c.toNat:Nat):Int)=c by omega]at this;exact Zco8 this
theorem l_sat{k cc den:Int}(hk:1<=k/\k<=5000)(hn:0<=cc/\cc<=40)(hd:den<=4611686018427387904):∀(n:Nat) (p i:Int),den-i=n->0<=i->1<=p->p<=2 ^ cc.toNat->Zx0 k den cc p i=some (Bo (atM k (2 ^ cc.toNat) n p),[]):=by
 have hB:=pow40 hn.2;intro n
 induction n with
 |zero =>
  intro p i _ _ _ _;refine Zb3q ?_
  rw[if_neg (by omega)];rfl
 |succ n ih =>
  intro p i h9 hi h0 hp;have hm:=mul_in h0 (by omega) hk.1 hk.2;refine Zb3q ?_;rw[if_pos (by omega),w_in (x:=p*k) ⟨by omega,by omega⟩,Zsc hn.1 (by omega),atM];refine⟨by omega,?_⟩;by_cases c:(2:Int) ^ cc.toNat<p*k
  .rw[if_pos c,if_pos c]
  .rw[if_neg c,if_neg c,show w (i+1)=i+1 from w_in ⟨by omega,by omega⟩];exact ih (p*k) (i+1) (by omega) (by omega) hm.1 (by omega)
theorem Zcu8{k c cc:Int}(hk:1<=k/\k<=5000)(hn:0<=cc/\cc<=40)(hd:0<=c/\c<=4611686018427387904):Z4o k c cc=some (Bo (atM k (2 ^ cc.toNat) c.toNat 1),[]):=by
 have hB:=pow40 hn.2;exact Zcse (l_sat hk hn hd.2 c.toNat 1 0 (by omega) (by omega) (by omega) hB.1)
theorem Zb5y{r:Za}(h:vR r=true):(-2147483647<=r.Num.tdiv r.Den/\r.Num.tdiv r.Den<=2147483647)/\In63 (r.Num.tdiv r.Den*r.Den):=by
 obtain⟨h1,h2,h3⟩:=Zb2 h;have e:(r.Num.tdiv r.Den).natAbs<=r.Num.natAbs:=by rw[Int.natAbs_tdiv];exact Nat.div_le_self _ _
 have hA:-2147483647<=r.Num.tdiv r.Den/\r.Num.tdiv r.Den<=2147483647:=by omega
 have:=Zck hA h2;exact⟨hA,by omega,by omega⟩
theorem Zcu9{r:Za}(h:vR r=true):Z2i r=some (I (Zgm r),[]):=by
 obtain⟨h1,h2⟩:=Zb5y h;have h3:=Zb2 h;refine Zco7 ⟨_,Zgn r,?_⟩;rw[h,if_pos rfl,w_in (x:=r.Num.tdiv r.Den) ⟨by omega,by omega⟩,w_in h2,w_in (x:=r.Num.tdiv r.Den+1) ⟨by omega,by omega⟩];refine⟨by omega,?_⟩;unfold Zgm;split<;>rfl
theorem Zcva{r:Za}(h:vR r=true):Z4n r=some (I (Zgm r),[]):=by
 obtain⟨h1,h2⟩:=Zb5y h;have h3:=Zb2 h;refine Zcsc ⟨_,Zd7 r,?_⟩;rw[h,if_pos rfl,w_in (x:=r.Num.tdiv r.Den) ⟨by omega,by omega⟩,w_in h2,w_in (x:=r.Num.tdiv r.Den+1) ⟨by omega,by omega⟩];refine⟨by omega,?_⟩;unfold Zgm;split<;>rfl
theorem Zb5z{r:Za}(h0:0<=r.Num)(hd:1<=r.Den):0<=Zgm r:=by
 have:0<=r.Num.tdiv r.Den:=Int.tdiv_nonneg h0 (by omega)
 unfold Zgm;split<;>omega
theorem l_ipf{r:Za}(h:vR r=true)(h0:0<=r.Num/\r.Num<=40):∀(f:Nat) (k:Int),k=4096-f->1<=k->Zvo r k=some (I (pfG (2 ^ r.Num.toNat) r.Den.toNat f k),[]):=by
 have h3:=Zb2 h;intro f
 induction f with
 |zero =>
  intro k hk h1;refine Zb0z ?_
  rw[if_neg (by omega)];rfl
 |succ f ih =>
  intro k hk h1;refine Zb0z ?_;rw[if_pos (by omega),w_in (x:=k+1) ⟨by omega,by omega⟩,pfG];refine⟨_,Zcu7 ⟨by omega,by omega⟩ h0 ⟨by omega,by omega⟩,?_⟩;rcases ft (atM (k+1) (2 ^ r.Num.toNat) r.Den.toNat 1)with e|e
  .rw[e,if_pos rfl,if_pos rfl];exact ih (k+1) (by omega) (by omega)
  .rw[e,if_neg (by decide),if_neg (by decide)]
theorem l_spf{r:Za}(h:vR r=true)(h0:0<=r.Num/\r.Num<=40):∀(f:Nat) (k:Int),k=4096-f->1<=k->Zx2 r k=some (I (pfG (2 ^ r.Num.toNat) r.Den.toNat f k),[]):=by
 have h3:=Zb2 h;intro f
 induction f with
 |zero =>
  intro k hk h1;refine Zb3r ?_
  rw[if_neg (by omega)];rfl
 |succ f ih =>
  intro k hk h1;refine Zb3r ?_;rw[if_pos (by omega),w_in (x:=k+1) ⟨by omega,by omega⟩,pfG];refine⟨_,Zcu8 ⟨by omega,by omega⟩ h0 ⟨by omega,by omega⟩,?_⟩;rcases ft (atM (k+1) (2 ^ r.Num.toNat) r.Den.toNat 1)with e|e
  .rw[e,if_pos rfl,if_pos rfl];exact ih (k+1) (by omega) (by omega)
  .rw[e,if_neg (by decide),if_neg (by decide)]
theorem Zcvb{r:Za}(h:vR r=true)(h0:0<=r.Num):Z2k r=some (I (pfl r),[]):=by
 have h3:=Zb2 h;refine Zco9 ⟨_,Zgn r,?_⟩;rw[h,if_pos rfl,if_neg (by omega)];by_cases c:40<r.Num
 .rw[if_pos c];have hc:=Zb5z h0 h3.2.2;refine⟨_,Zcu9 h,?_⟩;unfold pfl twoP;rw[if_pos c];by_cases c2:12<=Zgm r
  .rw[if_pos c2,if_pos c2]
  .rw[if_neg c2,if_neg c2];exact⟨by omega,by rw[Zsc hc (by omega)]⟩
 .rw[if_neg c];by_cases c2:r.Num<r.Den
  .rw[if_pos c2,pfl_one h0 c c2]
  .rw[if_neg c2];unfold pfl;rw[if_neg c];exact l_ipf h ⟨h0,by omega⟩ 4095 1 (by omega) (by omega)
theorem Zcvc{r:Za}(h:vR r=true)(h0:0<=r.Num):Zx1 r=some (I (pfl r),[]):=by
 have h3:=Zb2 h;refine Zcsf ⟨_,Zd7 r,?_⟩;rw[h,if_pos rfl,if_neg (by omega)];by_cases c:40<r.Num
 .rw[if_pos c];have hc:=Zb5z h0 h3.2.2;refine⟨_,Zcva h,twoP (Zgm r),Zcsd ?_,?_⟩
  .unfold twoP;by_cases c2:12<Zgm r
   .rw[if_pos c2,if_pos (by omega)]
   .rw[if_neg c2];refine⟨by omega,?_⟩;rw[Zsc hc (by omega)];by_cases c3:12<=Zgm r
    .rw[if_pos c3,show Zgm r=12 by omega];rfl
    .rw[if_neg c3]
  .unfold pfl;rw[if_pos c]
 .rw[if_neg c];unfold pfl;rw[if_neg c];exact l_spf h ⟨h0,by omega⟩ 4095 1 (by omega) (by omega)
def clogG(n:Int):Nat->Int->Int
 |0,b=>b
 |f+1,b=>if shlI 1 b<n then clogG n f (b+1)else b
def clog(n:Int):Int:=if inR n 1 4096=true then clogG n 12 0 else -1
theorem l_icl{n:Int}(h:n<=4096):∀(f:Nat) (b:Int),b=12-f->0<=b->Zut n b=some (I (clogG n f b),[]):=by
 intro f
 induction f with
 |zero =>
  intro b hb h0;refine Zbz6 ⟨by omega,?_⟩
  rw[show b=12 by omega,if_neg (by rw[show shlI 1 12=4096 by decide];omega)];rfl
 |succ f ih =>
  intro b hb h0;refine Zbz6 ⟨by omega,?_⟩;rw[w_in (x:=b+1) ⟨by omega,by omega⟩,clogG];by_cases c:shlI 1 b<n
  .rw[if_pos c,if_pos c];exact ih (b+1) (by omega) (by omega)
  .rw[if_neg c,if_neg c]
theorem l_scl{n:Int}(h:n<=4096):∀(f:Nat) (b:Int),b=12-f->0<=b->Zwz n b=some (I (clogG n f b),[]):=by
 intro f
 induction f with
 |zero =>
  intro b hb h0;refine Zb2n ⟨by omega,?_⟩
  rw[show b=12 by omega,if_neg (by rw[show shlI 1 12=4096 by decide];omega)];rfl
 |succ f ih =>
  intro b hb h0;refine Zb2n ⟨by omega,?_⟩;rw[w_in (x:=b+1) ⟨by omega,by omega⟩,clogG];by_cases c:shlI 1 b<n
  .rw[if_pos c,if_pos c];exact ih (b+1) (by omega) (by omega)
  .rw[if_neg c,if_neg c]
theorem Zcvd(n:Int):Zus n=some (I (clog n),[]):=by
 refine Zcob ⟨_,Zbv _ _ _,?_⟩;unfold clog;rcases ft (inR n 1 4096)with e|e
 .rw[e,if_pos rfl,if_pos rfl];exact l_icl (Zy.1 e).2 12 0 (by omega) (by omega)
 .rw[e,if_neg (by decide),if_neg (by decide)]
theorem Zcve(n:Int):Z3x n=some (I (clog n),[]):=by
 refine Zcrd ⟨_,Z8 _ _ _,?_⟩;unfold clog;rcases ft (inR n 1 4096)with e|e
 .rw[e,if_pos rfl,if_pos rfl];exact l_scl (Zy.1 e).2 12 0 (by omega) (by omega)
 .rw[e,if_neg (by decide),if_neg (by decide)]
def setV:Int->List Int->Int
 |s,[]=>s
 |s,v::vs=>setV (if inR v 0 3=true then orI s (shlI 1 v)else s) vs
theorem l_ivs(xs:List Int)(hl:xs.length<=1000):∀i,i<=xs.length->∀s,Zpv s xs xs.length i=some (I (setV s (xs.drop i)),[]):=by
 refine down _ ?_ ?_
 .intro s;refine Zbz5 ?_;rw[if_neg (by omega),Yg];rfl
 .intro i hi ih s;refine Zbz5 ?_;rw[if_pos (by omega),wS hi (by omega),Yd hi,setV];refine⟨by omega,_,gE hi,_,Zbv _ _ _,?_⟩;rcases ft (inR xs[i] 0 3)with e|e
  .have:=Zy.1 e;rw[e,if_pos rfl,if_pos rfl];exact⟨by omega,ih _⟩
  .rw[e,if_neg (by decide),if_neg (by decide)];exact ih _
theorem Zb50{xs:List Int}(hl:xs.length<=1000):Zpu xs=some (I (setV 0 xs),[]):=Zcoa (by simpa using l_ivs xs hl 0 (Ya _) 0)
theorem l_svs(xs:List Int)(hl:xs.length<=1000):∀i,i<=xs.length->∀s,Zrd xs s i=some (I (setV s (xs.drop i)),[]):=by
 refine down _ ?_ ?_
 .intro s;refine Zb2m ?_;rw[if_neg (by omega),Yg];rfl
 .intro i hi ih s;refine Zb2m ?_;rw[if_pos (by omega),wS hi (by omega),Yd hi,setV];refine⟨by omega,_,gE hi,_,Z8 _ _ _,?_⟩;rcases ft (inR xs[i] 0 3)with e|e
  .have:=Zy.1 e;rw[e,if_pos rfl,if_pos rfl];exact⟨by omega,ih _⟩
  .rw[e,if_neg (by decide),if_neg (by decide)];exact ih _
theorem Zcvf{xs:List Int}(hl:xs.length<=1000):Z3v xs=some (I (setV 0 xs),[]):=Zcrb (by simpa using l_svs xs hl 0 (Ya _) 0)
def Zh5(m:Int):Nat->List Int->List Int
 |_,[]=>[]
 |k,v::vs=>if andI (shrI m k) 1=1 then v::Zh5 m (k+1) vs else Zh5 m (k+1) vs
theorem l_s16v(a:Atom)(m:Int)(h3:a.Vars.length<=3):∀i,i<=a.Vars.length->∀s,Zng a m s i=some (I (setV s (Zh5 m i (a.Vars.drop i))),[]):=by
 refine down _ ?_ ?_
 .intro s;refine Zb2l ?_;rw[if_neg (by omega),Yg];rfl
 .intro i hi ih s;refine Zb2l ?_;rw[if_pos (by omega),if_pos (by omega),wS hi (by omega),Yd hi,Zh5];refine⟨by omega,?_⟩;by_cases c:andI (shrI m i) 1=1
  .rw[if_pos c,if_pos c,setV];refine⟨by omega,_,gE hi,_,Z8 _ _ _,?_⟩;rcases ft (inR a.Vars[i] 0 3)with e|e
   .have:=Zy.1 e;rw[e,if_pos rfl,if_pos rfl];exact⟨by omega,ih _⟩
   .rw[e,if_neg (by decide),if_neg (by decide)];exact ih _
  .rw[if_neg c,if_neg c];exact ih _
theorem x_16v{a:Atom}{m:Int}(h3:a.Vars.length<=3):Z3t a m=some (I (setV 0 (Zh5 m 0 a.Vars)),[]):=Zcra (by simpa using l_s16v a m h3 0 (Ya _) 0)
def geI(a b:Int):Bool:=decide (b<=a)
def Zdn:Int->Option Int->List Int->Bool
 |_,_,[]=>true
 |left,p,v::vs=>inR v 1 left && nxt geI p v && Zdn (left-v) (some v) vs
theorem l_ids(xs:List Int)(hl:Le xs):∀i,i<=xs.length->∀left,0<=left->left<=8->Zpt xs left xs xs.length i=some (Bo (Zdn left (pvA xs i) (xs.drop i)),[]):=by
 refine down _ ?_ ?_
 .intro left _ _;refine Zbz2 ?_;rw[if_neg (by omega),Yg];rfl
 .intro i hi ih left h0 h8;refine Zbz2 ?_;rw[if_pos (by omega),wS hi (by omega),Yd hi,Zdn];refine⟨by omega,_,gE hi,_,Zbv _ _ _,?_⟩;rw[show pvA xs (i+1)=some xs[i]from Yj hi]at ih;rcases ft (inR xs[i] 1 left)with e|e
  .have e':=Zy.1 e;rw[e,if_pos rfl,Ye,w_in (x:=left-xs[i]) ⟨by omega,by omega⟩];have ih:=ih (left-xs[i]) (by omega) (by omega);by_cases c:(0:Int)<(i:Int)
   .rw[if_pos c,wP (by omega) hi (by omega),Zjd (by omega) (by omega)];refine⟨by omega,_,gE (by omega),?_⟩;by_cases c2:xs[i-1]<xs[i]
    .rw[if_pos c2];simp[nxt,geI];omega
    .rw[if_neg c2,ih];simp[nxt,geI,show xs[i]<=xs[i-1] by omega]
   .obtain rfl:i=0:=by omega
    rw[if_neg c,ih];simp[nxt,pvA]
  .rw[e,if_neg (by decide)];simp
theorem Zb51{xs:List Int}(hl:Le xs):Zum xs=some (Bo (Zdn 8 none xs),[]):=Zcn5 (by simpa[pvA]using l_ids xs hl 0 (Ya _) 8 (by omega) (by omega))
theorem l_sds(xs:List Int)(hl:Le xs):∀i,i<=xs.length->∀left,0<=left->left<=8->Zrb xs (8-left) i=some (Bo (Zdn left (pvA xs i) (xs.drop i)),[]):=by
 refine down _ ?_ ?_
 .intro left _ _;refine Zb2j ?_;rw[if_neg (by omega),Yg];rfl
 .intro i hi ih left h0 h8;refine Zb2j ?_;rw[if_pos (by omega),wS hi (by omega),Yd hi,Zdn,show w (8-(8-left))=left by rw[w_in ⟨by omega,by omega⟩];omega];refine⟨by omega,_,gE hi,_,Z8 _ _ _,?_⟩;rw[show pvA xs (i+1)=some xs[i]from Yj hi]at ih;rcases ft (inR xs[i] 1 left)with e|e
  .have e':=Zy.1 e;rw[e,if_pos rfl,Ye,show w (8-left+xs[i])=8-(left-xs[i]) by rw[w_in ⟨by omega,by omega⟩];omega];have ih:=ih (left-xs[i]) (by omega) (by omega);by_cases c:(0:Int)<(i:Int)
   .rw[if_pos c,wP (by omega) hi (by omega),Zjd (by omega) (by omega)];refine⟨by omega,_,gE (by omega),?_⟩;by_cases c2:xs[i-1]<xs[i]
    .rw[if_pos c2];simp[nxt,geI];omega
    .rw[if_neg c2,ih];simp[nxt,geI,show xs[i]<=xs[i-1] by omega]
   .obtain rfl:i=0:=by omega
    rw[if_neg c,ih];simp[nxt,pvA]
  .rw[e,if_neg (by decide)];simp
theorem Z6h{xs:List Int}(hl:Le xs):Zra xs=some (Bo (Zdn 8 none xs),[]):=Zcq7 (by simpa[pvA]using l_sds xs hl 0 (Ya _) 8 (by omega) (by omega))
def Zji:List Int->List Int->Int->Int
 |x::xs,y::ys,n=>Zji xs ys (w (n+w (x*y)))
 |_,_,n=>n
def pairS(a b:List Int):Int:=if Zdn 8 none a && Zdn 8 none b then Zji a b 0 else 0
theorem Zb52{xs ys:List Int}{n:Int}(h:xs=[]\/ys=[]):Zji xs ys n=n:=by
 rcases h with rfl|rfl
 .rfl
 .cases xs<;>rfl
theorem l_ips(a b:List Int)(ha:Le a):∀i,i<=a.length->∀n,Zuo a b n i=some (I (Zji (a.drop i) (b.drop i) n),[]):=by
 refine down _ ?_ ?_
 .intro n;refine Zbz3 ?_;rw[if_neg (by omega),Yg];rfl
 .intro i hi ih n;refine Zbz3 ?_;rw[if_pos (by omega)];by_cases c:(i:Int)<(b.length:Int)
  .have hb:i<b.length:=by omega
   rw[if_pos c,wS hi (by omega),Yd hi,Yd hb,Zji];exact⟨by omega,_,gE hi,_,gE hb,ih _⟩
  .rw[if_neg c,Zb52 (.inr (Ybd (by omega)))]
theorem l_sps(a b:List Int)(ha:Le a)(hb:Le b)(hd:(Zdn 8 none a && Zdn 8 none b)=true):∀i,i<=a.length->∀n,Zwy a b n i=some (I (Zji (a.drop i) (b.drop i) n),[]):=by
 simp only[Yc]at hd;refine down _ ?_ ?_
 .intro n;refine Zbjr ?_;rw[if_neg (by omega),Yg];rfl
 .intro i hi ih n;refine Zbjr ?_;rw[if_pos (by omega)];by_cases c:(i:Int)<(b.length:Int)
  .have hb':i<b.length:=by omega
   rw[if_pos c,wS hi (by omega),Yd hi,Yd hb',Zji];refine⟨_,Z6h ha,?_⟩;rw[hd.1,if_pos rfl];refine⟨_,Z6h hb,?_⟩;rw[hd.2,if_pos rfl];exact⟨by omega,_,gE hi,_,gE hb',ih _⟩
  .rw[if_neg c,Zb52 (.inr (Ybd (by omega)))]
theorem Zcvg{a b:List Int}(ha:Le a)(hb:Le b):Zun a b=some (I (pairS a b),[]):=by
 refine Zcn6 ⟨_,Zb51 ha,?_⟩;unfold pairS;rcases ft (Zdn 8 none a)with e|e
 .rw[e,if_pos rfl,Ye];refine⟨_,Zb51 hb,?_⟩;rcases ft (Zdn 8 none b)with e2|e2
  .rw[e2,if_pos rfl,if_pos rfl];simpa using l_ips a b ha 0 (Ya _) 0
  .rw[e2,if_neg (by decide),if_neg (by decide)]
 .rw[e,if_neg (by decide),Y4,if_neg (by decide)]
theorem Zcvh{a b:List Int}(ha:Le a)(hb:Le b):Z3r a b=some (I (pairS a b),[]):=by
 refine Zcq8 ?_;unfold pairS;rcases ft (Zdn 8 none a && Zdn 8 none b)with e|e
 .rw[e,if_pos rfl];simpa using l_sps a b ha hb e 0 (Ya _) 0
 .rw[e,if_neg (by decide)];refine Zbjr ?_;by_cases c1:(0:Int)<(a.length:Int)
  .rw[if_pos c1];by_cases c2:(0:Int)<(b.length:Int)
   .rw[if_pos c2];refine⟨_,Z6h ha,?_⟩;rcases ft (Zdn 8 none a)with e1|e1
    .rw[e1,if_pos rfl];rw[e1,Ye]at e;refine⟨_,Z6h hb,?_⟩;rw[e,if_neg (by decide)]
    .rw[e1,if_neg (by decide)]
   .rw[if_neg c2]
  .rw[if_neg c1]
theorem Zbkl:∀{xs:List Int} {c:Int} {p:Option Int},c<=8->Zdn c p xs=true->(xs.length:Int)<=max c 0/\∀x∈xs,1<=x/\x<=8
 |[],c,p,_,_=>⟨by simp;omega,λx hx=>by cases hx⟩
 |v::vs,c,p,h8,h=>by
  simp only[Zdn,Yc]at h;have e:=Zy.1 h.1.1;obtain⟨h1,h2⟩:=Zbkl (by omega) h.2;refine⟨by simp only[Yw];omega,λx hx=>?_⟩;rcases Yx.1 hx with rfl|hx
  .omega
  .exact h2 x hx
theorem Zb53:∀{xs ys:List Int} {n:Int},(∀x∈xs,1<=x/\x<=8)->(∀x∈ys,1<=x/\x<=8)->0<=n->n+64*xs.length<=1000000->0<=Zji xs ys n
 |x::xs,y::ys,n,hx,hy,h0,hb=>by
  unfold Zji;have h1:=hx x (by simp);have h2:=hy y (by simp);have h3:=Int.mul_le_mul h1.2 h2.2 (by omega) (by omega);have h4:=Int.mul_nonneg (show 0<=x by omega) (show 0<=y by omega);simp only[Yw]at hb;rw[w_in (x:=x*y) ⟨by omega,by omega⟩,w_in (x:=n+x*y) ⟨by omega,by omega⟩]
  exact Zb53 (λz hz=>hx z (by simp[hz])) (λz hz=>hy z (by simp[hz])) (by omega) (by omega)
 |[],_,n,_,_,h0,_=>h0
 |_::_,[],n,_,_,h0,_=>h0
theorem pairS_nn(a b:List Int):0<=pairS a b:=by
 unfold pairS;split
 .rename_i h;simp only[Yc]at h;have h1:=Zbkl (by omega) h.1;have h2:=Zbkl (by omega) h.2;exact Zb53 h1.2 h2.2 (Int.le_refl _) (by omega)
 .exact Int.le_refl _
def ansR(rows:List (List Int)):List (List Int):=cptR (srtR rows)
abbrev AscR(l:List (List Int)):Prop:=l.Pairwise λa b=>cmpR a b<0
theorem Z6i:∀{a b:List (List Int)},AscR a->AscR b->(∀x,x∈a↔x∈b)->a=b
 |[],[],_,_,_=>rfl
 |[],y::b,_,_,h=>by have:=(h y).2 (by simp);cases this
 |x::a,[],_,_,h=>by have:=(h x).1 (by simp);cases this
 |x::a,y::b,ha,hb,h=>by
  have ha':=Ybm.1 ha;have hb':=Ybm.1 hb;have e:x=y:=by
   have h1:=(h x).1 (by simp);have h2:=(h y).2 (by simp);rcases Yx.1 h1 with e|e
   .exact e
   .rcases Yx.1 h2 with e2|e2
    .exact e2.symm
    .have h3:=hb'.1 x e;have h4:=ha'.1 y e2;have:=Zey x y;omega
  subst e;rw[Z6i ha'.2 hb'.2 λz=>?_];constructor
  .intro hz;have:=(h z).1 (by simp[hz]);rcases Yx.1 this with e|e
   .subst e;have:=ha'.1 _ hz;rw[Zje]at this;omega
   .exact e
  .intro hz;have:=(h z).2 (by simp[hz]);rcases Yx.1 this with e|e
   .subst e;have:=hb'.1 _ hz;rw[Zje]at this;omega
   .exact e
theorem Zb54:∀{l:List (List Int)},(l.Pairwise λa b=>leR a b=true)->AscR (cptR l)
 |[],_=>by simp[cptR]
 |[a],_=>by simp[cptR]
 |a::b::l,h=>by
  have h1:=Ybm.1 h;have ih:=Zb54 h1.2;unfold cptR;split
  .exact ih
  .rename_i e;refine Ybm.2 ⟨λx hx=>?_,ih⟩;rw[Zbka]at hx;have hab:cmpR a b<0:=by
    have h3:=h1.1 b (by simp);unfold leR at h3;simp only[decide_eq_true_eq]at h3;rcases Yc8 h3 with h4|h4
    .exact h4
    .exact absurd (Zfc _ _ h4) e
   rcases Yx.1 hx with rfl|hx
   .exact hab
   .have h2:=(Ybm.1 h1.2).1 x hx;unfold leR at h2;simp only[decide_eq_true_eq]at h2;have h5:=Zn3 a b x (by omega) h2;rcases Yc8 h5 with h4|h4
    .exact h4
    .have:=Zfc _ _ h4;subst this;have:=Zey a b;omega
theorem Zbkm(rows:List (List Int)):AscR (ansR rows):=Zb54 (Zb49 rows)
theorem Z6j(rows:List (List Int))(x:List Int):x∈ansR rows↔x∈rows:=by unfold ansR;rw[Zbka,(Zyu rows).mem_iff]
theorem ansR_len(rows:List (List Int)):(ansR rows).length<=rows.length:=by unfold ansR;rw[<-(Zyu rows).length_eq];exact Zb5a _
theorem Zcvi{rows:List (List Int)}(h1:rows.length<=4096)(h2:∀r∈rows,r.length<=4):Ztn rows=some (.own 0,[.arr 56 1 true ((ansR rows).map isc)]):=by
 have hl:=(Zyu rows).length_eq;refine Zcmi ⟨_,Zbj9 rows h2 (by omega),srtR rows,?_,ansR rows,?_,rfl⟩
 .unfold Z9z;exact c_sort h1 h2
 .unfold Z90;exact c_cpt (by omega) λr hr=>h2 r ((Zyu rows).mem_iff.1 hr)
def putR:List (List Int)->List Int->Bool->List (List Int)
 |[],row,put=>if put=true then[]else[row]
 |e::es,row,put=>if cmpR e row=0 then e::putR es row true else if 0<cmpR e row then(if put=true then e::putR es row true else row::e::putR es row true)else e::putR es row put
theorem Z6k:∀(es:List (List Int)) (row:List Int),putR es row true=es
 |[],_=>rfl
 |e::es,row=>by
  unfold putR;rw[Z6k es row];simp
theorem Zsd:∀(es:List (List Int)) (row x:List Int),x∈putR es row false↔x∈es\/x=row
 |[],row,x=>by simp[putR]
 |e::es,row,x=>by
  have ih:=Zsd es row x;unfold putR;rw[Z6k];by_cases h1:cmpR e row=0
  .rw[if_pos h1];have:=Zfc _ _ h1;subst this;simp;exact λh=>.inl h
  .rw[if_neg h1];by_cases h2:0<cmpR e row
   .rw[if_pos h2,if_neg (by decide)];simp only[Yx];constructor
    .rintro(h|h|h)
     .exact .inr h
     .exact .inl (.inl h)
     .exact .inl (.inr h)
    .rintro((h|h)|h)
     .exact .inr (.inl h)
     .exact .inr (.inr h)
     .exact .inl h
   .rw[if_neg h2,Yx,ih,Yx,or_assoc]
theorem Zb55:∀{es:List (List Int)} (row:List Int),AscR es->AscR (putR es row false)
 |[],row,_=>by simp[putR]
 |e::es,row,h=>by
  have h':=Ybm.1 h;unfold putR;rw[Z6k];by_cases h1:cmpR e row=0
  .rw[if_pos h1];exact h
  .rw[if_neg h1];by_cases h2:0<cmpR e row
   .rw[if_pos h2,if_neg (by decide)];have h3:cmpR row e<0:=by have:=Zey e row;omega
    refine Ybm.2 ⟨λx hx=>?_,h⟩;rcases Yx.1 hx with rfl|hx
    .exact h3
    .have h4:=h'.1 x hx;have h5:=Zn3 row e x (by omega) (by omega);rcases Yc8 h5 with h6|h6
     .exact h6
     .have:=Zfc _ _ h6;subst this;have:=Zey e row;omega
   .rw[if_neg h2];refine Ybm.2 ⟨λx hx=>?_,Zb55 row h'.2⟩;rw[Zsd]at hx;rcases hx with hx|rfl
    .exact h'.1 x hx
    .omega
theorem Z6l:∀(es:List (List Int)) (row:List Int) (put:Bool),(putR es row put).length<=es.length+1
 |[],row,put=>by unfold putR;split<;>simp
 |e::es,row,put=>by
  unfold putR;rw[Z6k];have:=Z6l es row put;split
  .simp
  .split
   .split<;>simp
   .simp only[Yw];omega
theorem l_put{rows:List (List Int)}{row:List Int}(hl:rows.length<=5000)(h4:∀r∈rows,r.length<=4)(hr:row.length<=4):∀i,i<=rows.length->∀(out:List (List Int)) (put:Bool),out.length+2*(rows.length-i)<=20000->Zit out rows row put i=some (.own 0,[.arr 56 1 true ((out++putR (rows.drop i) row put).map isc)]):=by
 refine down _ ?_ ?_
 .intro out put ho;refine Zb09 ?_;rw[if_neg (by omega),Yg];rcases tf put with e|e
  .subst e;rw[if_neg (by decide)];exact⟨by omega,by omega,rfl⟩
  .subst e;rw[if_pos rfl];simp[putR]
 .intro i hi ih out put ho;have he:=h4 _ (Yb hi);refine Zb09 ?_;rw[if_pos (by omega),wS hi (by omega),Yd hi];refine⟨by omega,_,gE hi,_,Zlj _ _ (by omega) (by omega),?_⟩;unfold putR;by_cases h1:cmpR rows[i] row=0
  .rw[if_pos h1,if_pos h1,if_neg (by omega)];refine⟨by omega,by omega,?_⟩;rw[ih _ _ (by simp;omega)];simp
  .rw[if_neg h1,if_neg h1];by_cases h2:0<cmpR rows[i] row
   .rw[if_pos h2,if_pos h2];rcases tf put with e|e
    .subst e;rw[if_neg (by decide),if_neg (by decide)];refine⟨by omega,by omega,by omega,by omega,?_⟩;rw[ih _ _ (by simp;omega)];simp
    .subst e;rw[if_pos rfl,if_pos rfl];refine⟨by omega,by omega,?_⟩;rw[ih _ _ (by simp;omega)];simp
   .rw[if_neg h2,if_neg h2];refine⟨by omega,by omega,?_⟩;rw[ih _ _ (by simp;omega)];simp
theorem x_put1{rows:List (List Int)}{row:List Int}(hl:rows.length<=5000)(h4:∀r∈rows,r.length<=4)(hr:row.length<=4):Zqa rows row=some (.own 0,[.arr 56 1 true ((putR rows row false).map isc)]) :=
 Zcpn (by simpa using l_put hl h4 hr 0 (Ya _) [] false (by simp;omega))
def Zlp(c rows:List (List Int)):List (List Int):=rows.foldl (λl r=>putR l r false) c
theorem Zb56:∀(rows c:List (List Int)) (x:List Int),x∈Zlp c rows↔x∈c\/x∈rows
 |[],c,x=>by simp[Zlp]
 |r::rows,c,x=>by
  show x∈Zlp (putR c r false) rows↔_;rw[Zb56 rows,Zsd,Yx,or_assoc]
theorem Zb57:∀{rows c:List (List Int)},AscR c->AscR (Zlp c rows)
 |[],c,h=>h
 |r::rows,c,h=>Zb57 (rows:=rows) (Zb55 r h)
theorem Zb58(rows:List (List Int)):Zlp [] rows=ansR rows :=
 Z6i (Zb57 .nil) (Zbkm rows) λx=>by rw[Zb56,Z6j];simp
def selT(rows:List (List Int))(cols:List Int):List (List Int):=rows.map λr=>selC r cols
def cnt(all:List (List Int))(g:List Int):Int:=((all.filter λx=>decide (x=g)).length:Int)
def subs(n:Int):List (List Int):=if n=1 then[[0]]else if n=2 then[[0],[1],[0,1]]else[[0],[1],[0,1],[2],[0,2],[1,2],[0,1,2]]
def grpV(rows:List (List Int))(cols:List Int):List (List Int):=ansR (selT rows cols)
def grpN(rows:List (List Int))(cols:List Int):List Int:=(grpV rows cols).map (cnt (selT rows cols))
def grp(rows:List (List Int))(cols:List Int):Zh:=⟨cols,grpV rows cols,grpN rows cols⟩
def Zt(t:Ze):Zg:=⟨t.Name,t.Arity,t.Rows.length,(subs t.Arity).map (grp t.Rows)⟩
theorem Zbkn{n:Int}(h:inR n 1 3=true):∀c∈subs n,c.length<=3/\(∀x∈c,0<=x/\x<n)/\c.Pairwise (·<·):=by
 have h':1<=n/\n<=3:=by simpa[inR]using h
 have:n=1\/n=2\/n=3:=by omega
 rcases this with rfl|rfl|rfl<;>decide
theorem Zyz(rows:List (List Int))(cols:List Int):(selT rows cols).length=rows.length:=by simp[selT]
theorem Z6m(rows:List (List Int))(cols:List Int):(grpV rows cols).length<=rows.length:=by
 have:=ansR_len (selT rows cols);rw[Zyz]at this;exact this
theorem Zb59{rows:List (List Int)}{cols x:List Int}(h:x∈selT rows cols):x.length=cols.length:=by
 obtain⟨r,_,rfl⟩:=Yr.1 h;simp[selC]
theorem Zbko{rows:List (List Int)}{cols x:List Int}(h:x∈grpV rows cols):x.length=cols.length:=Zb59 ((Z6j _ _).1 h)
theorem Zbkp(all:List (List Int))(g:List Int):0<=cnt all g:=by unfold cnt;omega
theorem cnt_le(all:List (List Int))(g:List Int):cnt all g<=all.length:=by
 unfold cnt;have:=Yct (λx=>decide (x=g)) all;omega
def ltI(a b:Int):Bool:=decide (a<b)
def ascN(n:Int):Option Int->List Int->Bool
 |_,[]=>true
 |p,v::vs=>inR v 0 (n-1) && nxt ltI p v && ascN n (some v) vs
def Zbw(n:Int)(vs:List Int):Bool:=ascN n none vs
theorem Zb6a{n:Int}:∀{vs:List Int} {p:Option Int},ascN n p vs=true->∀c∈vs,0<=c/\c<n
 |[],_,_,c,hc=>by cases hc
 |v::vs,p,h,c,hc=>by
  simp only[ascN,Yc]at h;have h1:0<=v/\v<=n-1:=by simpa[inR]using h.1.1
  rcases Yx.1 hc with rfl|hc
  .omega
  .exact Zb6a h.2 c hc
theorem Zb6b{n:Int}:∀{vs:List Int} {q:Int},ascN n (some q) vs=true->-1<=q->q<n->(vs.length:Int)<=n-1-q
 |[],q,_,h1,h2=>by simp;omega
 |v::vs,q,h,h1,h2=>by
  simp only[ascN,Yc]at h;have h3:0<=v/\v<=n-1:=by simpa[inR]using h.1.1
  have h4:q<v:=by simpa[nxt,ltI]using h.1.2
  have:=Zb6b h.2 (by omega) (by omega);simp only[Yw];omega
theorem Zbkq{n:Int}{vs:List Int}(h:Zbw n vs=true)(hn:0<=n):(vs.length:Int)<=n:=by
 cases vs with
 |nil=>simp;omega
 |cons v vs =>
  simp only[Zbw,ascN,Yc]at h;have h3:0<=v/\v<=n-1:=by simpa[inR]using h.1.1
  have:=Zb6b h.2 (by omega) (by omega);simp only[Yw];omega
theorem Z6n{n:Int}(h:inR n 1 3=true):∀c∈subs n,Zbw n c=true:=by
 have h':1<=n/\n<=3:=by simpa[inR]using h
 have:n=1\/n=2\/n=3:=by omega
 rcases this with rfl|rfl|rfl<;>decide
theorem w1{n:Int}(h:1<=n/\n<=3):w (n-1)=n-1:=Zw (by omega) (by omega)
theorem Zcvj(n:Int)(hn:1<=n/\n<=3)(vs:List Int)(hl:Le vs):∀i,i<=vs.length->Zo7 vs n vs vs.length i=some (Bo (ascN n (pvA vs i) (vs.drop i)),[]):=by
 refine down _ ?_ ?_
 .refine Zby4 ?_;rw[if_neg (by omega),Yg];rfl
 .intro i hi ih;refine Zby4 ?_;rw[if_pos (by omega),Yd hi,ascN,wS hi (by omega),w1 hn];refine⟨by omega,_,gE hi,_,Zbv _ _ _,?_⟩;rw[show pvA vs (i+1)=some vs[i]from Yj hi]at ih;rcases tf (inR vs[i] 0 (n-1))with e|e
  .rw[e];simp
  .rw[e,if_pos rfl,ih];by_cases h0:(0:Int)<(i:Int)
   .rw[if_pos h0,wP (by omega) hi (by omega),Zjd (by omega) (by omega)];refine⟨by omega,_,gE (by omega),?_⟩;by_cases h2:vs[i]<=vs[i-1]
    .rw[if_pos h2];simp[nxt,ltI];omega
    .rw[if_neg h2];simp[nxt,ltI,show vs[i-1]<vs[i] by omega]
   .obtain rfl:i=0:=by omega
    rw[if_neg h0];simp[nxt,pvA]
theorem Zb6c(n:Int)(hn:1<=n/\n<=3)(vs:List Int)(hl:Le vs):Zo6 vs n=some (Bo (Zbw n vs),[]) :=
 Zcmg (by simpa[Zbw,pvA]using Zcvj n hn vs hl 0 (Ya _))
theorem Zcvk(t:Ze)(h:LeT t)(hn:1<=t.Arity/\t.Arity<=3)(vs:List Int)(hl:Le vs):∀i,i<=vs.length->Zp8 t vs i=some (Bo (ascN t.Arity (pvA vs i) (vs.drop i) && Z3 t),[]):=by
 refine down _ ?_ ?_
 .refine Zb07 ?_;rw[if_neg (by omega),Yg];exact⟨_,Z56 t h,by simp[ascN]⟩
 .intro i hi ih;refine Zb07 ?_;rw[if_pos (by omega),Yd hi,ascN,wS hi (by omega),w1 hn];refine⟨by omega,_,gE hi,_,Z8 _ _ _,?_⟩;rw[show pvA vs (i+1)=some vs[i]from Yj hi]at ih;rcases tf (inR vs[i] 0 (t.Arity-1))with e|e
  .rw[e];simp
  .rw[e,if_pos rfl,ih];by_cases h0:(0:Int)<(i:Int)
   .rw[if_pos h0,wP (by omega) hi (by omega),Zjd (by omega) (by omega)];refine⟨by omega,_,gE (by omega),?_⟩;by_cases h2:vs[i]<=vs[i-1]
    .rw[if_pos h2];simp[nxt,ltI];omega
    .rw[if_neg h2];simp[nxt,ltI,show vs[i-1]<vs[i] by omega]
   .obtain rfl:i=0:=by omega
    rw[if_neg h0];simp[nxt,pvA]
theorem Zb6d(t:Ze)(h:LeT t)(hn:1<=t.Arity/\t.Arity<=3)(vs:List Int)(hl:Le vs):Zp7 t vs=some (Bo (Zbw t.Arity vs && Z3 t),[]) :=
 Zcpl (by simpa[Zbw,pvA]using Zcvk t h hn vs hl 0 (Ya _))
theorem Zcvl{n:Int}(h:inR n 1 3=true):Zo5 n=some (.own 0,[.arr 56 1 true ((subs n).map isc)]):=by
 have h':1<=n/\n<=3:=by simpa[inR]using h
 have w01:w (0+1)=1:=by decide
 have w12:w (1+1)=2:=by decide
 have w23:w (2+1)=3:=by decide
 have w34:w (3+1)=4:=by decide
 have b1:Ze4 1=some (.own 0,[.arr 3 1 true (([0]:List Int).map ic)]):=by
  refine Zla ?_
  repeat (refine Zi5 ?_;simp +decide[-List.map_cons,w01,w12,w23,w34])
 have b2:Ze4 2=some (.own 0,[.arr 3 1 true (([1]:List Int).map ic)]):=by
  refine Zla ?_
  repeat (refine Zi5 ?_;simp +decide[-List.map_cons,w01,w12,w23,w34])
 have b3:Ze4 3=some (.own 0,[.arr 3 1 true (([0,1]:List Int).map ic)]):=by
  refine Zla ?_
  repeat (refine Zi5 ?_;simp +decide[-List.map_cons,w01,w12,w23,w34])
 have b4:Ze4 4=some (.own 0,[.arr 3 1 true (([2]:List Int).map ic)]):=by
  refine Zla ?_
  repeat (refine Zi5 ?_;simp +decide[-List.map_cons,w01,w12,w23,w34])
 have b5:Ze4 5=some (.own 0,[.arr 3 1 true (([0,2]:List Int).map ic)]):=by
  refine Zla ?_
  repeat (refine Zi5 ?_;simp +decide[-List.map_cons,w01,w12,w23,w34])
 have b6:Ze4 6=some (.own 0,[.arr 3 1 true (([1,2]:List Int).map ic)]):=by
  refine Zla ?_
  repeat (refine Zi5 ?_;simp +decide[-List.map_cons,w01,w12,w23,w34])
 have b7:Ze4 7=some (.own 0,[.arr 3 1 true (([0,1,2]:List Int).map ic)]):=by
  refine Zla ?_
  repeat (refine Zi5 ?_;simp +decide[-List.map_cons,w01,w12,w23,w34])
 refine Zcmf ⟨_,Zbv _ _ _,?_⟩;rw[h,if_pos rfl];have step:∀(out:List (List Int)) (s:Int) (v:List Int) (r:AV×List Blk),s<shlI 1 n->Ze4 s=some (.own 0,[.arr 3 1 true (v.map ic)])->out.length+1<=68719476736->Zkd (out++[v]) n (w (s+1))=some r->Zkd out n s=some r:=by
  intro out s v r h1 h2 h3 h4;refine Zby3 ⟨by omega,?_⟩;rw[if_pos h1];exact⟨_,h2,h3,h4⟩
 have fin:∀(out:List (List Int)) (s:Int),¬s<shlI 1 n->Zkd out n s=some (.own 0,[.arr 56 1 true (out.map isc)]):=by
  intro out s h1;refine Zby3 ⟨by omega,?_⟩;rw[if_neg h1]
 have:n=1\/n=2\/n=3:=by omega
 rcases this with rfl|rfl|rfl
 .exact step _ 1 _ _ (by decide) b1 (by decide) (fin _ _ (by decide))
 .exact step _ 1 _ _ (by decide) b1 (by decide) (step _ 2 _ _ (by decide) b2 (by decide) (step _ 3 _ _ (by decide) b3 (by decide) (fin _ _ (by decide))))
 .exact step _ 1 _ _ (by decide) b1 (by decide) (step _ 2 _ _ (by decide) b2 (by decide) (step _ 3 _ _ (by decide) b3 (by decide) (step _ 4 _ _ (by decide) b4 (by decide) (step _ 5 _ _ (by decide) b5 (by decide) (step _ 6 _ _ (by decide) b6 (by decide) (step _ 7 _ _ (by decide) b7 (by decide) (fin _ _ (by decide))))))))
theorem Zcvm{n:Int}(h:inR n 1 3=true):Zvw n=some (.own 0,[.arr 56 1 true ((subs n).map isc)]):=by
 have h':1<=n/\n<=3:=by simpa[inR]using h
 have w01:w (0+1)=1:=by decide
 have w12:w (1+1)=2:=by decide
 have w23:w (2+1)=3:=by decide
 have b:∀{s:Int} {v:List Int},Zmz [] s 0=some (.own 0,[.arr 3 1 true (v.map ic)])->Zer s=some (.own 0,[.arr 3 1 true (v.map ic)]):=λh=>Zb05 h
 have b1:Zer 1=some (.own 0,[.arr 3 1 true (([0]:List Int).map ic)]):=by
  refine b ?_
  repeat (refine Zi7 ?_;simp +decide[-List.map_cons,w01,w12,w23])
 have b2:Zer 2=some (.own 0,[.arr 3 1 true (([1]:List Int).map ic)]):=by
  refine b ?_
  repeat (refine Zi7 ?_;simp +decide[-List.map_cons,w01,w12,w23])
 have b3:Zer 3=some (.own 0,[.arr 3 1 true (([0,1]:List Int).map ic)]):=by
  refine b ?_
  repeat (refine Zi7 ?_;simp +decide[-List.map_cons,w01,w12,w23])
 have b4:Zer 4=some (.own 0,[.arr 3 1 true (([2]:List Int).map ic)]):=by
  refine b ?_
  repeat (refine Zi7 ?_;simp +decide[-List.map_cons,w01,w12,w23])
 have b5:Zer 5=some (.own 0,[.arr 3 1 true (([0,2]:List Int).map ic)]):=by
  refine b ?_
  repeat (refine Zi7 ?_;simp +decide[-List.map_cons,w01,w12,w23])
 have b6:Zer 6=some (.own 0,[.arr 3 1 true (([1,2]:List Int).map ic)]):=by
  refine b ?_
  repeat (refine Zi7 ?_;simp +decide[-List.map_cons,w01,w12,w23])
 have b7:Zer 7=some (.own 0,[.arr 3 1 true (([0,1,2]:List Int).map ic)]):=by
  refine b ?_
  repeat (refine Zi7 ?_;simp +decide[-List.map_cons,w01,w12,w23])
 refine Zcpk ?_;have step:∀(out:List (List Int)) (s:Int) (v:List Int) (r:AV×List Blk),s<shlI 1 n->Zer s=some (.own 0,[.arr 3 1 true (v.map ic)])->out.length+1<=68719476736->Zm0 (out++[v]) n (w (s+1))=some r->Zm0 out n s=some r:=by
  intro out s v r h1 h2 h3 h4;refine Zb06 ⟨_,Z8 _ _ _,?_⟩;rw[h,if_pos rfl];refine⟨by omega,?_⟩;rw[if_pos h1];exact⟨_,h2,h3,h4⟩
 have fin:∀(out:List (List Int)) (s:Int),¬s<shlI 1 n->Zm0 out n s=some (.own 0,[.arr 56 1 true (out.map isc)]):=by
  intro out s h1;refine Zb06 ⟨_,Z8 _ _ _,?_⟩;rw[h,if_pos rfl];refine⟨by omega,?_⟩;rw[if_neg h1]
 have:n=1\/n=2\/n=3:=by omega
 rcases this with rfl|rfl|rfl
 .exact step _ 1 _ _ (by decide) b1 (by decide) (fin _ _ (by decide))
 .exact step _ 1 _ _ (by decide) b1 (by decide) (step _ 2 _ _ (by decide) b2 (by decide) (step _ 3 _ _ (by decide) b3 (by decide) (fin _ _ (by decide))))
 .exact step _ 1 _ _ (by decide) b1 (by decide) (step _ 2 _ _ (by decide) b2 (by decide) (step _ 3 _ _ (by decide) b3 (by decide) (step _ 4 _ _ (by decide) b4 (by decide) (step _ 5 _ _ (by decide) b5 (by decide) (step _ 6 _ _ (by decide) b6 (by decide) (step _ 7 _ _ (by decide) b7 (by decide) (fin _ _ (by decide))))))))
theorem dropQ{α:Type}[DecidableEq α]{xs ys:List α}{i:Nat}(h1:i<xs.length)(h2:i<ys.length):decide (xs.drop i=ys.drop i)=(decide (xs[i]=ys[i]) && decide (xs.drop (i+1)=ys.drop (i+1))):=by
 have e:(xs.drop i=ys.drop i)=(xs[i]=ys[i]/\xs.drop (i+1)=ys.drop (i+1)):=by
  rw[Yd h1,Yd h2,Yc4]
 rw[decide_eq_decide.2 (iff_of_eq e),Bool.decide_and]
theorem l_slEq(xs ys:List Int)(hl:ys.length=xs.length)(hx:xs.length<=4294967296):∀i,i<=xs.length->Zto xs ys xs.length i=some (Bo (decide (xs.drop i=ys.drop i)),[]):=by
 refine down _ ?_ ?_
 .refine Zby8 ?_;rw[if_neg (by omega),Yg,<-hl,Yg];simp
 .intro i hi ih;have hi':i<ys.length:=by omega
  refine Zby8 ?_;rw[if_pos (by omega),wS hi (by omega),dropQ hi hi'];refine⟨by omega,_,gE hi,_,gE hi',?_⟩;by_cases c:xs[i]=ys[i]
  .rw[if_pos c,ih];simp[c]
  .rw[if_neg c];simp[c]
theorem Zy0(xs ys:List Int)(hx:xs.length<=4294967296):Zin xs ys=some (Bo (decide (xs=ys)),[]):=by
 refine Zcmj ?_;by_cases c:(xs.length:Int)=(ys.length:Int)
 .rw[if_pos c];simpa using l_slEq xs ys (by omega) hx 0 (Ya _)
 .rw[if_neg c]
  have:¬xs=ys:=λhc=>c (by rw[hc])
  simp[this]
structure RowsN (rows:List (List Int)) (n:Nat):Prop where
 len:rows.length<=8
 row:∀r∈rows,r.length=n
 n3:n<=3
structure Zlq (cols:List Int) (n:Nat):Prop where
 len:cols.length<=3
 mem:∀c∈cols,0<=c/\c<n
theorem Zg4{t:Ze}(h:Z3 t=true):RowsN t.Rows t.Arity.toNat/\1<=t.Arity/\t.Arity<=3:=by
 have h8:=Zd8 h;unfold Z3 at h;simp only[Yc]at h;have h2:1<=t.Arity/\t.Arity<=3:=by simpa[inR]using h.1.1.2
 refine⟨⟨h8,λr hr=>?_,by omega⟩,h2⟩;have h1:=Yn.1 h.2.1 r hr;unfold rwB at h1;simp only[Yc,decide_eq_true_eq]at h1;omega
theorem Zbkr{n:Int}{cols:List Int}(h:Zbw n cols=true)(hn:1<=n/\n<=3):Zlq cols n.toNat:=by
 have h1:=Zbkq h (by omega);exact⟨by omega,λc hc=>by have:=Zb6a h c hc;omega⟩
theorem Zbks{row cols:List Int}{n:Nat}(hr:row.length=n)(hn:n<=3)(hc:Zlq cols n):Zc7 row cols=some (.tup [.own 0,Bo true],[.arr 3 1 true ((selC row cols).map ic)]) :=
 Zb5j row cols (by have:=hc.len;omega) (by omega) (by rw[hr];exact hc.mem)
theorem Zcvn(row cols:List Int)(h4:cols.length<=1000)(hr:Le row)(hc:∀c∈cols,0<=c/\c<row.length):∀i,i<=cols.length->Zvz (selC row (cols.take i)) row cols i=some (.tup [.own 0,Bo true],[.arr 3 1 true ((selC row cols).map ic)]):=by
 refine down _ ?_ ?_
 .refine Zb08 ?_;rw[if_neg (by omega),Yl]
 .intro i hi ih;obtain⟨h0,h1⟩:=hc _ (Yb hi);refine Zb08 ?_;rw[if_pos (by omega),wS hi (by omega)];refine⟨by omega,_,gE hi,_,Z8 _ _ _,?_⟩;rw[show w ((row.length:Int)-1)=(row.length:Int)-1 from Zw (by omega) (by omega)];rw[show inR cols[i] 0 ((row.length:Int)-1)=true by simp[inR];omega,if_pos rfl];refine⟨h0,_,gD (by omega),by simp[selC];omega,?_⟩;rw[show selC row (cols.take (i+1))=selC row (cols.take i)++[row.getD cols[i].toNat 0] by unfold selC;rw[Y1 hi,Y0];rfl]at ih;exact ih
theorem Z6o{row cols:List Int}{n:Nat}(hr:row.length=n)(hn:n<=3)(hc:Zlq cols n):Zkq row cols=some (.tup [.own 0,Bo true],[.arr 3 1 true ((selC row cols).map ic)]) :=
 Zcpm (by simpa[selC]using Zcvn row cols (by have:=hc.len;omega) (by omega) (by rw[hr];exact hc.mem) 0 (Ya _))
theorem Zb6e{all:List (List Int)}{j:Nat}(hj:j<all.length)(g:List Int):cnt (all.take (j+1)) g=cnt (all.take j) g+(if g=all[j]then 1 else 0):=by
 unfold cnt;rw[Y1 hj,Ycz];by_cases e:all[j]=g
 .simp[e]
 .simp[e,Ne.symm e]
def mkC(all cc:List (List Int))(k:Nat)(c:Int):List Int:=(cc.take k).map (cnt all)++c::List.replicate (cc.length-k-1) 0
theorem mkC_get{all groups:List (List Int)}{k:Nat}(hk:k<groups.length)(c:Int):(mkC all groups k c)[k]?=some c:=by
 unfold mkC;rw[Ycg (by simp;omega)];simp[Ybb (Yb9 hk)]
theorem mkC_set{all groups:List (List Int)}{k:Nat}(hk:k<groups.length)(c d:Int):(mkC all groups k c).set k d=mkC all groups k d:=by
 unfold mkC;rw[List.set_append_right _ _ (by simp;omega)];simp[Ybb (Yb9 hk)]
def gcR(cc:List (List Int))(c:List Int):AV×List Blk:=(.tup [.own 0,.own 1],[.arr 56 1 true (cc.map isc),.arr 3 1 true (c.map ic)])
theorem l_gc1(all groups:List (List Int))(r:AV×List Blk)(ha:all.length<=4096)(h4:∀x∈all,x.length<=4){k:Nat}(hk:k<groups.length)(cd:groups.length<=4096)(cc:groups[k].length<=4)
  (c:Zma all groups (mkC all groups k (cnt all groups[k])) groups.length (w ((k:Int)+1))=some r):∀j,j<=all.length->Zo9 all groups (mkC all groups k (cnt (all.take j) groups[k])) k groups[k] groups.length k all.length j=some r:=by
 refine down _ ?_ ?_
 .refine Zbza ?_;rw[if_neg (by omega),Yl];exact c
 .intro j hj ih;refine Zbza ?_;rw[if_pos (by omega),wS hj (by omega)];refine⟨by omega,_,gE hj,_,Zy0 _ _ (by omega),?_⟩;rw[Zb6e hj]at ih;by_cases e:groups[k]=all[j]
  .rw[if_pos e]at ih;rw[if_pos (by simpa using e)];refine⟨by omega,_,by rw[Yh];exact mkC_get hk _,?_⟩;have h1:=Zbkp (all.take j) groups[k];have h2:=cnt_le (all.take j) groups[k];have h3:(all.take j).length<=all.length:=by simp;omega
   rw[Yh,mkC_set hk,show w (cnt (all.take j) groups[k]+1)=cnt (all.take j) groups[k]+1 from Zw (by omega) (by omega)];exact ih
  .rw[if_neg e,Int.add_zero]at ih;rw[if_neg (by simpa using e)];exact ih
theorem l_gc2(all groups:List (List Int))(ha:all.length<=4096)(h4:∀x∈all,x.length<=4)(hg:groups.length<=4096)(c:∀x∈groups,x.length<=4):∀k,k<=groups.length->Zma all groups ((groups.take k).map (cnt all)++List.replicate (groups.length-k) 0) groups.length k=some (gcR groups (groups.map (cnt all))):=by
 refine down _ ?_ ?_
 .refine Zby9 ?_;rw[if_neg (by omega),Yl];simp[gcR]
 .intro k hk ih;refine Zby9 ?_;rw[if_pos (by omega)];refine⟨by omega,_,gE hk,?_⟩;have e0:(groups.take k).map (cnt all)++List.replicate (groups.length-k) 0=mkC all groups k (cnt (all.take 0) groups[k]):=by
   unfold mkC;rw[show groups.length-k=(groups.length-k-1)+1 by omega,Ybq];simp[cnt]
  rw[e0];refine l_gc1 all groups _ ha h4 hk hg (c _ (Yb hk)) ?_ 0 (Ya _);rw[wS hk (by omega)];have e1:(groups.take (k+1)).map (cnt all)++List.replicate (groups.length-(k+1)) 0=mkC all groups k (cnt all groups[k]):=by
   unfold mkC;rw[Y1 hk,Y0,show groups.length-(k+1)=groups.length-k-1 by omega];simp
  rw[e1]at ih;exact ih
theorem l_gc0{rows:List (List Int)}{cols:List Int}{n:Nat}(hR:RowsN rows n)(hC:Zlq cols n):∀i,i<=rows.length->Zio (selT (rows.take i) cols) cols rows rows.length i=some (gcR (grpV rows cols) (grpN rows cols)):=by
 have h8:=hR.len;have h3:=hC.len;refine down _ ?_ ?_
 .refine Zbzb ?_;rw[if_neg (by omega),Yl];have hl:=Zyz rows cols;have hg:=Z6m rows cols;have h4:∀r∈selT rows cols,r.length<=4:=λr hr=>by have:=Zb59 hr;omega
  refine⟨grpV rows cols,Zcvi (by omega) h4,by omega,by omega,by rw[Yh];unfold room;omega,by omega,?_⟩;have:=l_gc2 (selT rows cols) (grpV rows cols) (by omega) h4 (by omega) (λx hx=>by have:=Zbko hx;omega) 0 (Ya _);simpa[grpN]using this
 .intro i hi ih;refine Zbzb ?_;rw[if_pos (by omega),wS hi (by omega)];have hr:=hR.row _ (Yb hi);rw[show selT (rows.take (i+1)) cols=selT (rows.take i) cols++[selC rows[i] cols] by unfold selT;rw[Y1 hi,Y0];rfl]at ih;exact⟨by omega,_,gE hi,.inr ⟨_,Zbks hr hR.n3 hC,by simp[selT];omega,ih⟩⟩
theorem Zbkt{t:Ze}(h:LeT t)(hv:Z3 t=true){cols:List Int}(hc:Zbw t.Arity cols=true):Zgx t cols=some (gcR (grpV t.Rows cols) (grpN t.Rows cols)):=by
 obtain⟨hR,hA⟩:=Zg4 hv;have hC:=Zbkr hc hA;refine Zcmk ⟨_,Z55 t h,?_⟩;rw[hv,if_pos rfl];refine⟨_,Zb6c _ hA cols (by have:=hC.len;omega),?_⟩;rw[hc,if_pos rfl];simpa[selT]using l_gc0 hR hC 0 (Ya _)
theorem l_sgc1(t:Ze)(c:List (List Int))(counts cols:List Int){n:Nat}(hR:RowsN t.Rows n)(hC:Zlq cols n)(r:AV×List Blk){k:Nat}(hk:k<c.length)(cd:∀x∈c,x.length<=4)(cl:counts.length<=4096)
  (cc:Zqc t c (counts++[cnt (selT t.Rows cols) c[k]]) cols (w ((k:Int)+1))=some r):∀j,j<=t.Rows.length->Zqd t c counts cols k (cnt (selT (t.Rows.take j) cols) c[k]) j=some r:=by
 have h8:=hR.len;refine down _ ?_ ?_
 .refine Zb1c ?_;rw[if_neg (by omega),Yl];exact⟨by omega,cc⟩
 .intro j hj ih;refine Zb1c ?_;rw[if_pos (by omega),wS hj (by omega)];have hr:=hR.row _ (Yb hj);have hv4:=cd _ (Yb hk);have hs:(selC t.Rows[j] cols).length<=3:=by have:=hC.len;simp[selC];omega
  refine⟨by omega,_,gE hj,_,_,Z6o hr hR.n3 hC,by omega,_,gE hk,_,Zlj _ _ (by omega) (by omega),?_⟩;have hj':j<(selT t.Rows cols).length:=by rw[Zyz];exact hj
  have ht:∀i,selT (t.Rows.take i) cols=(selT t.Rows cols).take i:=λi=>by simp[selT,List.map_take]
  have he:(selT t.Rows cols)[j]=selC t.Rows[j] cols:=by simp[selT]
  rw[ht,Zb6e hj',he]at ih;rw[ht];by_cases e:c[k]=selC t.Rows[j] cols
  .rw[if_pos e]at ih;rw[if_pos (by rw[e];exact Zje _)];have h1:=Zbkp ((selT t.Rows cols).take j) c[k];have h2:=cnt_le ((selT t.Rows cols).take j) c[k];have h3:((selT t.Rows cols).take j).length<=t.Rows.length:=by rw[Yp,Zyz];omega
   rw[show w (cnt ((selT t.Rows cols).take j) c[k]+1)=cnt ((selT t.Rows cols).take j) c[k]+1 from Zw (by omega) (by omega)];exact ih
  .rw[if_neg e,Int.add_zero]at ih;rw[if_neg (λhc=>e (Zfc _ _ hc).symm)];exact ih
theorem l_sgc2(t:Ze)(values:List (List Int))(cols:List Int){n:Nat}(hR:RowsN t.Rows n)(hC:Zlq cols n)(hv:values.length<=4096)(c:∀x∈values,x.length<=4):∀k,k<=values.length->Zqc t values ((values.take k).map (cnt (selT t.Rows cols))) cols k=some (gcR values (values.map (cnt (selT t.Rows cols)))):=by
 refine down _ ?_ ?_
 .refine Zb1b ?_;rw[if_neg (by omega),Yl];rfl
 .intro k hk ih;refine Zb1b ?_;rw[if_pos (by omega)];rw[Y1 hk,Y0]at ih;have:=l_sgc1 t values ((values.take k).map (cnt (selT t.Rows cols))) cols hR hC _ hk c (by simp;omega) (by rw[wS hk (by omega)];exact ih) 0 (Ya _);simpa[cnt,selT]using this
theorem l_sgc0(t:Ze)(cols:List Int){n:Nat}(hR:RowsN t.Rows n)(hC:Zlq cols n):∀i,i<=t.Rows.length->∀acc:List (List Int),acc.length<=i->(∀x∈acc,x.length<=4)->
  Zv2 t acc [] cols i=some (gcR (Zlp acc (selT (t.Rows.drop i) cols)) ((Zlp acc (selT (t.Rows.drop i) cols)).map (cnt (selT t.Rows cols)))):=by
 have h8:=hR.len;refine down _ ?_ ?_
 .intro acc ha h4;refine Zb1a ?_;rw[if_neg (by omega),Yg];exact l_sgc2 t acc cols hR hC (by omega) h4 0 (Ya _)
 .intro i hi ih acc ha h4;refine Zb1a ?_;rw[if_pos (by omega),wS hi (by omega),Yd hi];have hr:=hR.row _ (Yb hi);have hs:(selC t.Rows[i] cols).length<=4:=by have:=hC.len;simp[selC];omega
  have hp:=Z6l acc (selC t.Rows[i] cols) false
  exact⟨by omega,_,gE hi,_,_,Z6o hr hR.n3 hC,_,x_put1 (by omega) h4 hs,ih _ (by omega) (λx hx=>by
   rcases(Zsd _ _ _).1 hx with hx|rfl
   .exact h4 x hx
   .exact hs)⟩
theorem Zb6f{t:Ze}(h:LeT t)(hv:Z3 t=true){cols:List Int}(hc:Zbw t.Arity cols=true):Zqb t cols=some (gcR (grpV t.Rows cols) (grpN t.Rows cols)):=by
 obtain⟨hR,hA⟩:=Zg4 hv;have hC:=Zbkr hc hA;refine Zcpo ⟨_,Zb6d t h hA cols (by have:=hC.len;omega),?_⟩;rw[hc,hv,if_pos (by rfl)];have:=l_sgc0 t cols hR hC 0 (Ya _) [] (by simp) (by simp);rw[Yq,Zb58]at this;exact this
end Go.Proofs.YtnnjbejcffjgfaaGreat
