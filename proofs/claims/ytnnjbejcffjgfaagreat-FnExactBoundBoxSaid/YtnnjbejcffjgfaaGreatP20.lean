/-
  Parts of the proofs for this seat: LB LC LD LE LF LG LH SFx GA GB LQ GC.
-/
import Derived.Test.YtnnjbejcffjgfaaGreatP19
set_option linter.unusedSectionVars false
set_option linter.unusedSimpArgs false
set_option linter.unusedVariables false
set_option maxRecDepth 100000
set_option maxHeartbeats 4000000
namespace Go.Proofs.YtnnjbejcffjgfaaGreat
open Go.AM
theorem gDn{xs:List Int}{i:Nat}(h:i<xs.length):xs[((i:Nat):Int).toNat]?=some (xs.getD i 0):=by
 rw[Yh];exact gD h
theorem gR{xs:List Za}{i:Nat}(h:i<xs.length):xs[i]?=some (xs.getD i r0):=by
 rw[Yy,Yj h];rfl
theorem gRn{xs:List Za}{i:Nat}(h:i<xs.length):xs[((i:Nat):Int).toNat]?=some (xs.getD i r0):=by
 rw[Yh];exact gR h
theorem gCn{xs:List (List Za)}{i:Nat}(h:i<xs.length):xs[((i:Nat):Int).toNat]?=some (xs.getD i []):=by
 rw[Yh,Yy,Yj h];rfl
abbrev Best(best:Int)(n:Nat):Prop:=best=-1\/(0<=best/\best<n)
theorem Zct2(d:Zm)(hl:d.Costs.length<=1000)(hF:d.Free.length=d.Costs.length):∀i,i<=d.Costs.length->∀best,Best best d.Costs.length->Zki d best d.Costs d.Costs.length i=some (I (entG d.Free (d.Costs.drop i) i best),[]):=by
 refine down _ ?_ ?_
 .intro best hb;refine Zbz7 _ _ _ _ _ _ ?_;rw[if_neg (by omega),Yg];rfl
 .intro i hi ih best hb;refine Zbz7 _ _ _ _ _ _ ?_;rw[if_pos (by omega),Yd hi,entG,wS hi (by omega)];refine⟨by omega,_,gE hi,?_⟩;by_cases h1:0<d.Costs[i].Num
  .rw[if_pos h1];by_cases h2:best<0
   .rw[if_pos h2,if_pos ⟨h1,.inl h2⟩];exact ih i (.inr ⟨by omega,by omega⟩)
   .rw[if_neg h2];refine⟨_,gDn (by omega),by omega,_,gD (by omega),?_⟩;by_cases h3:d.Free.getD i 0<d.Free.getD best.toNat 0
    .rw[if_pos h3,if_pos ⟨h1,.inr h3⟩];exact ih i (.inr ⟨by omega,by omega⟩)
    .rw[if_neg h3,if_neg (by rintro⟨_,h|h⟩;exact h2 h;exact h3 h)];exact ih best hb
  .rw[if_neg h1,if_neg (λhc=>h1 hc.1)];exact ih best hb
theorem Zys{d:Zm}(h:Zd5 d):Zu6 d=some (I (ent d),[]):=by
 have:=h.lk;have:=h.n;exact Zcnw _ _ (by simpa[ent]using Zct2 d (by omega) (by omega) 0 (Ya _) (-1) (.inl rfl))
theorem Zct3(d:Zm)(hl:d.Costs.length<=1000)(hF:d.Free.length=d.Costs.length):∀i,i<=d.Costs.length->∀best,Best best d.Costs.length->Zks d best i=some (I (entG d.Free (d.Costs.drop i) i best),[]):=by
 refine down _ ?_ ?_
 .intro best hb;refine Zb2t _ _ _ _ ?_;rw[if_neg (by omega),Yg];rfl
 .intro i hi ih best hb;refine Zb2t _ _ _ _ ?_;rw[if_pos (by omega),Yd hi,entG,wS hi (by omega)];refine⟨by omega,_,gE hi,?_⟩;by_cases h1:0<d.Costs[i].Num
  .rw[if_pos h1];by_cases h2:best<0
   .rw[if_pos h2,if_pos ⟨h1,.inl h2⟩];exact ih i (.inr ⟨by omega,by omega⟩)
   .rw[if_neg h2];refine⟨_,gDn (by omega),by omega,_,gD (by omega),?_⟩;by_cases h3:d.Free.getD i 0<d.Free.getD best.toNat 0
    .rw[if_pos h3,if_pos ⟨h1,.inr h3⟩];exact ih i (.inr ⟨by omega,by omega⟩)
    .rw[if_neg h3,if_neg (by rintro⟨_,h|h⟩;exact h2 h;exact h3 h)];exact ih best hb
  .rw[if_neg h1,if_neg (λhc=>h1 hc.1)];exact ih best hb
theorem l_all(l:List Za)(hl:l.length<=1000)(h:allV l):∀i,i<=l.length->Zxd l i=some (Bo true,[]):=by
 refine down _ ?_ ?_
 .refine Zb2q _ _ _ ?_;rw[if_neg (by omega)]
 .intro i hi ih;refine Zb2q _ _ _ ?_;rw[if_pos (by omega),wS hi (by omega)];refine⟨by omega,_,gE hi,_,Zd6 _,?_⟩;rw[h _ (Yb hi),if_pos rfl];exact ih
theorem x_all{l:List Za}(hl:l.length<=1000)(h:allV l):Zrh l=some (Bo true,[]):=Zcq0 _ _ (l_all l hl h 0 (Ya _))
theorem l_val1{d:Zm}(h:Zd5 d):∀i,i<=d.Basic.length->Zxg d d.Basic.length d.Free.length i=some (Bo true,[]):=by
 have hm:=h.m;have hn:=h.n;have hll:=h.ll;have hlk:=h.lk;have hlc:=h.lc;refine down _ ?_ ?_
 .refine Zb2s _ _ _ _ _ ?_;rw[if_neg (by omega)];refine⟨_,x_all (by omega) h.vl,?_⟩;rw[if_pos rfl];refine⟨_,x_all (by omega) h.vk,?_⟩;rw[if_pos rfl];exact⟨_,Zd6 _,by rw[h.vv]⟩
 .intro i hi ih;have hi':i<d.Cells.length:=by omega
  obtain⟨hr,hv⟩:=h.rw' _ (Yb hi');refine Zb2s _ _ _ _ _ ?_;rw[if_pos (by omega),wS hi (by omega)];refine⟨by omega,_,gE hi',?_⟩;rw[if_pos (by omega)];refine⟨_,x_all (by omega) hv,?_⟩;rw[if_pos rfl];exact ih
theorem l_val0{d:Zm}(h:Zd5 d):∀i,i<=d.Basic.length+d.Free.length->Zxf d (d.Basic++d.Free) d.Basic.length d.Free.length i=some (Bo true,[]):=by
 have hm:=h.m;have hn:=h.n;have e:w ((d.Basic.length:Int)+(d.Free.length:Int))=((d.Basic.length+d.Free.length:Nat):Int):=by rw[w_in ⟨by omega,by omega⟩];omega
 refine down _ ?_ ?_
 .refine Zb2r _ _ _ _ _ _ ?_;rw[e,if_neg (by omega)];exact l_val1 h 0 (Ya _)
 .intro i hi ih;refine Zb2r _ _ _ _ _ _ ?_;rw[e,if_pos (by omega),wS hi (by omega)];have hh:has (d.Basic++d.Free) (i:Int)=true:=by
   have:=h.vs i hi;simpa[has]using this
  refine⟨_,Znx _ _ (by simp;omega),?_⟩;rw[hh,if_pos rfl];exact ih
theorem Zbj1{d:Zm}(h:Zd5 d):Znm d=some (Bo true,[]):=by
 have hm:=h.m;have hn:=h.n;have hll:=h.ll;have hlk:=h.lk;have hlc:=h.lc;refine Zcq1 _ _ ?_;rw[if_neg (by omega)];refine⟨_,Z8 _ _ _,?_⟩;rw[show inR (d.Free.length:Int) 1 15=true from Zy.2 ⟨by omega,by omega⟩,if_pos rfl,if_pos (by omega),if_pos (by omega),if_pos (by omega)];exact⟨by omega,by omega,l_val0 h 0 (Ya _)⟩
theorem Z55{d:Zm}(h:Zd5 d):Zxh d=some (I (ent d),[]):=by
 have hlk:=h.lk;have hn:=h.n;refine Zcq2 _ _ ⟨_,Zbj1 h,?_⟩;rw[if_pos rfl];have:=Zct3 d (by omega) (by omega) 0 (Ya _) (-1) (.inl rfl);simpa[ent]using this
theorem Zey{d:Zm}(h:Zd5 d){i j:Nat}(hi:i<d.Basic.length)(hj:j<d.Free.length):(d.Cells.getD i []).length=d.Free.length/\allV (d.Cells.getD i [])/\(d.Cells.getD i [])[((j:Nat):Int).toNat]?=some (Zbk d i j):=by
 have hi':i<d.Cells.length:=by have:=h.lc;omega
 have e:d.Cells.getD i []=d.Cells[i]:=by rw[Yy,Yj hi'];rfl
 obtain⟨hr,hv⟩:=h.rw' _ (Yb hi');unfold Zbk;rw[e];exact⟨hr,hv,gRn (by omega)⟩
theorem Zct4{d:Zm}(h:Zd5 d){j:Nat}(hj:j<d.Free.length):∀i,i<=d.Basic.length->∀best least,Best best d.Basic.length->Zho d least j best d.Basic.length i=some (I (lvG d j (d.Basic.length-i) i best least),[]):=by
 have hm:=h.m;have hll:=h.ll;have hlc:=h.lc;refine down _ ?_ ?_
 .intro best least hb;refine Zbz9 _ _ _ _ _ _ _ ?_;rw[if_neg (by omega),Y6];rfl
 .intro i hi ih best least hb;refine Zbz9 _ _ _ _ _ _ _ ?_;obtain⟨_,_,hc⟩:=Zey h hi hj;rw[if_pos (by omega),wS hi (by omega),show d.Basic.length-i=(d.Basic.length-(i+1))+1 by omega,lvG];refine⟨by omega,_,gCn (by omega),by omega,_,hc,?_⟩;by_cases h1:(Zbk d i j).Num<=0
  .rw[if_pos h1,if_pos h1];exact ih best least hb
  .rw[if_neg h1,if_neg h1];refine⟨_,gRn (by omega),_,_,Zb4i _ _,?_⟩
   cases e:divR (d.Limits.getD i r0) (Zbk d i j)with
   |none=>rw[if_neg (by decide)]
   |some q =>
    rw[if_pos (by rfl)];refine⟨_,Zcs7 _ _,?_⟩;simp only[Option.getD_some];by_cases h2:best<0
    .rw[if_pos h2,if_pos (.inl h2)];exact ih i q (.inr ⟨by omega,by omega⟩)
    rw[if_neg h2];by_cases h3:cmpN q least<0
    .rw[if_pos h3,if_pos (.inr (.inl h3))];exact ih i q (.inr ⟨by omega,by omega⟩)
    rw[if_neg h3];by_cases h4:cmpN q least=0
    .rw[if_pos h4];refine⟨_,gDn hi,by omega,_,gD (by omega),?_⟩;by_cases h5:d.Basic.getD i 0<d.Basic.getD best.toNat 0
     .rw[if_pos h5,if_pos (.inr (.inr ⟨h4,h5⟩))];exact ih i q (.inr ⟨by omega,by omega⟩)
     .rw[if_neg h5,if_neg (by rintro(h|h|h);exact h2 h;exact h3 h;exact h5 h.2)];exact ih best least hb
    .rw[if_neg h4,if_neg (by rintro(h|h|h);exact h2 h;exact h3 h;exact h4 h.1)];exact ih best least hb
theorem Z56{d:Zm}(h:Zd5 d){j:Nat}(hj:j<d.Free.length):Zu9 d j=some (I (lea d j),[]) :=
 Zcn1 _ _ _ (Zct4 h hj 0 (Ya _) (-1) r0 (.inl rfl))
theorem Zct5{d:Zm}(h:Zd5 d){j:Nat}(hj:j<d.Free.length):∀i,i<=d.Basic.length->∀best least,Best best d.Basic.length->Zhv d least j best i=some (I (lvG d j (d.Basic.length-i) i best least),[]):=by
 have hm:=h.m;have hll:=h.ll;have hlc:=h.lc;refine down _ ?_ ?_
 .intro best least hb;refine Zb2u _ _ _ _ _ _ ?_;rw[if_neg (by omega),Y6];rfl
 .intro i hi ih best least hb;refine Zb2u _ _ _ _ _ _ ?_;obtain⟨_,_,hc⟩:=Zey h hi hj;rw[if_pos (by omega),wS hi (by omega),show d.Basic.length-i=(d.Basic.length-(i+1))+1 by omega,lvG];refine⟨by omega,_,gCn (by omega),by omega,_,hc,?_⟩;by_cases h1:(Zbk d i j).Num<=0
  .rw[if_pos h1,if_pos h1];exact ih best least hb
  .rw[if_neg h1,if_neg h1];refine⟨_,gRn (by omega),_,_,Z5v _ _,?_⟩
   cases e:divR (d.Limits.getD i r0) (Zbk d i j)with
   |none=>rw[if_neg (by decide)]
   |some q =>
    rw[if_pos (by rfl)];refine⟨_,Zcs8 _ _,?_⟩;simp only[Option.getD_some];by_cases h2:best<0
    .rw[if_pos h2,if_pos (.inl h2)];exact ih i q (.inr ⟨by omega,by omega⟩)
    rw[if_neg h2];by_cases h3:cmpN q least<0
    .rw[if_pos h3,if_pos (.inr (.inl h3))];exact ih i q (.inr ⟨by omega,by omega⟩)
    rw[if_neg h3];by_cases h4:cmpN q least=0
    .rw[if_pos h4];refine⟨_,gDn hi,by omega,_,gD (by omega),?_⟩;by_cases h5:d.Basic.getD i 0<d.Basic.getD best.toNat 0
     .rw[if_pos h5,if_pos (.inr (.inr ⟨h4,h5⟩))];exact ih i q (.inr ⟨by omega,by omega⟩)
     .rw[if_neg h5,if_neg (by rintro(h|h|h);exact h2 h;exact h3 h;exact h5 h.2)];exact ih best least hb
    .rw[if_neg h4,if_neg (by rintro(h|h|h);exact h2 h;exact h3 h;exact h4 h.1)];exact ih best least hb
theorem Zbj2{d:Zm}(h:Zd5 d){j:Nat}(hj:j<d.Free.length):Zxi d j=some (I (lea d j),[]):=by
 have hn:=h.n;refine Zcq5 _ _ _ ⟨_,Zbj1 h,?_⟩;rw[if_pos rfl,w_in ⟨by omega,by omega⟩];refine⟨_,Z8 _ _ _,?_⟩;rw[show inR (j:Int) 0 ((d.Free.length:Int)-1)=true from Zy.2 ⟨by omega,by omega⟩,if_pos rfl];exact Zct5 h hj 0 (Ya _) (-1) r0 (.inl rfl)
theorem b3(x a b:Bool):(x || !(a && b))=((x || !a) || !b):=by cases x<;>cases a<;>cases b<;>rfl
theorem getO{O:List (Option Za)}{k:Nat}(h:k<O.length):O[k]=O.getD k none:=by
 rw[Yy,Yj h];rfl
theorem Zfx{O:List (Option Za)}{k:Nat}(h:k<O.length):vals (O.take (k+1))=vals (O.take k)++[(O.getD k none).getD r0]:=by
 rw[Y1 h,Zcss,getO h];rfl
theorem Zhz{O:List (Option Za)}{k:Nat}(h:k<O.length):allS (O.take (k+1))=(allS (O.take k) && (O.getD k none).isSome):=by
 rw[Y1 h,Zcsr,getO h];simp[allS]
def mixL(O:List (Option Za))(l:List Za)(k:Nat):List Za:=vals (O.take k)++l.drop k
theorem Zbj3(O:List (Option Za))(l:List Za):mixL O l 0=l:=by simp[mixL,vals]
theorem Zbj4{O:List (Option Za)}{l:List Za}(h:O.length=l.length):mixL O l l.length=vals O:=by
 unfold mixL;rw[Yg,Ybl,<-h,Yl]
theorem Zlh{O:List (Option Za)}{l:List Za}(h:O.length=l.length){k:Nat}(hk:k<l.length):(mixL O l k)[((k:Nat):Int).toNat]?=some (l.getD k r0):=by
 unfold mixL;have e:(vals (O.take k)).length=k:=by rw[Zdt,Yp];omega
 rw[Yh,Ycg (by omega),e,Y6,Ydo,Ybr];exact gR hk
theorem Zr4{O:List (Option Za)}{l:List Za}(h:O.length=l.length){k:Nat}(hk:k<l.length):(mixL O l k).set k ((O.getD k none).getD r0)=mixL O l (k+1):=by
 unfold mixL;have e:(vals (O.take k)).length=k:=by rw[Zdt,Yp];omega
 rw[Zfx (by omega),List.set_append_right _ _ (by omega),e,Y6,Yd hk,List.set_cons_zero,Yz];rfl
theorem Zb42(l p:List Za)(a:Za)(j:Nat){k:Nat}(hk:k<l.length):(rowI l p a j).getD k none=celI k j (l.getD k r0) (l.getD j r0) a (p.getD k r0):=by
 unfold rowI;rw[Yy,Ybh,List.getElem?_range hk];rfl
theorem Z57(l p:List Za)(j:Nat){k:Nat}(hk:k<l.length):(rowS l p j).getD k none=celS k j (l.getD k r0) (l.getD j r0) (p.getD k r0):=by
 unfold rowS;rw[Yy,Ybh,List.getElem?_range hk];rfl
theorem Zb43(l p:List Za)(a:Za)(j:Nat):(rowI l p a j).length=l.length:=by simp[rowI]
theorem Zb44(row:List Za)(j:Nat){k:Nat}(hk:k<row.length):(prow row j).getD k none=if k=j then divR ⟨1,1⟩ (row.getD j r0)else divR (row.getD k r0) (row.getD j r0):=by
 unfold prow;rw[Yy,Ybh,List.getElem?_range hk];rfl
theorem Zb45(o:Option Za):nR (o.getD r0)=(o.map nR).getD r0:=by cases o<;>rfl
theorem Zb46(o:Option Za)(h:∀r,o=some r->vR r=true):In63 (o.getD r0).Num:=by
 cases o with
 |none=>exact⟨by decide,by decide⟩
 |some r=>exact Zlc (h r rfl)
theorem Zbj5(n:Int):Zkh n=some (.agg ((⟨n,1⟩:Za).c.map .t),[]):=Zcnr _ _ rfl
theorem Z58{l:List Za}(h:l≠[])(h2:l.length<=1000):Zkj l=some (.own 0,[.arr 149 2 true (l.map Za.c)]):=Zcn9 ⟨h,by omega,rfl⟩
theorem Zbj6{l:List Int}(h2:l.length<=1000):Zeo l=some (.own 0,[.arr 3 1 true (l.map ic)]):=Zbyo _ _ ⟨by omega,rfl⟩
section
variable{l pr:List Za}{a:Za}{j:Nat}(hv:allV l)(hp:pr.length=l.length)(hj:j<l.length)(h15:l.length<=1000)
include hv hp hj h15
theorem l_chg(x:Z4):∀k,k<=l.length->Zpy (mixL (rowI l pr a j) l k) j ⟨x.bad || !allS ((rowI l pr a j).take k)⟩ a pr (l.getD j r0) l.length k=some (.own 6,[.box [I j],.box [.ptr 2 0],.box ((⟨x.bad || !allS (rowI l pr a j)⟩:Z4).c.map .t),.box (a.c.map .t),.box [.own 5],.arr 149 2 true (pr.map Za.c),.arr 149 2 true ((vals (rowI l pr a j)).map Za.c)]):=by
 have hO:=Zb43 l pr a j;refine down _ ?_ ?_
 .refine Zb0a _ _ _ _ _ _ _ _ _ ?_;rw[if_neg (by omega),Zbj4 hO,<-hO,Yl]
 .intro k hk ih;refine Zb0a _ _ _ _ _ _ _ _ _ ?_;rw[<-Zr4 hO hk,Zhz (by omega),Zb42 l pr a j hk,b3]at ih;rw[if_pos (by omega),wS hk (by omega)];by_cases e:k=j
  .rw[if_pos (by omega)];refine⟨_,_,Zyo _ _ _,_,Zlb (Zb46 _ λr hr=>Zgk hr),by omega,_,Zlh hO hk,?_⟩;rw[celI,if_pos e]at ih;rw[Zb45,Yh];simpa using ih
  .rw[if_neg (by omega)];refine⟨by omega,_,Zlh hO hk,_,Zlb (Zlc (Zgl hv hj)),_,gRn (by omega),_,_,Zr3 _ _ _ _,?_⟩;rw[celI,if_neg e]at ih;rw[Yh];exact ih
theorem x_chg(x:Z4):Zmp j x a pr l=some (.own 6,[.box [I j],.box [.ptr 2 0],.box ((⟨x.bad || !allS (rowI l pr a j)⟩:Z4).c.map .t),.box (a.c.map .t),.box [.own 5],.arr 149 2 true (pr.map Za.c),.arr 149 2 true ((vals (rowI l pr a j)).map Za.c)]):=by
 refine Zcoa _ _ _ _ _ _ ⟨by omega,_,gRn hj,_,Z58 (by rintro rfl;simp at hj) h15,?_⟩;have:=l_chg hv hp hj h15 (a:=a) x 0 (Ya _);rw[Zbj3]at this;simpa[allS]using this
theorem l_chg1(x:Z4):∀k,k<=l.length->Zpz (mixL (rowI l pr a j) l k) j ⟨x.bad || !allS ((rowI l pr a j).take k)⟩ a pr (l.getD j r0) l.length k=some (.own 5,[.box [I j],.box [.ptr 2 0],.box ((⟨x.bad || !allS (rowI l pr a j)⟩:Z4).c.map .t),.box (a.c.map .t),.box [L 2 (pr.map Za.c)],.arr 149 2 true ((vals (rowI l pr a j)).map Za.c)]):=by
 have hO:=Zb43 l pr a j;refine down _ ?_ ?_
 .refine Zb0b _ _ _ _ _ _ _ _ _ ?_;rw[if_neg (by omega),Zbj4 hO,<-hO,Yl]
 .intro k hk ih;refine Zb0b _ _ _ _ _ _ _ _ _ ?_;rw[<-Zr4 hO hk,Zhz (by omega),Zb42 l pr a j hk,b3]at ih;rw[if_pos (by omega),wS hk (by omega)];by_cases e:k=j
  .rw[if_pos (by omega)];refine⟨_,_,Zyo _ _ _,_,Zlb (Zb46 _ λr hr=>Zgk hr),by omega,_,Zlh hO hk,?_⟩;rw[celI,if_pos e]at ih;rw[Zb45,Yh];simpa using ih
  .rw[if_neg (by omega)];refine⟨by omega,_,Zlh hO hk,_,Zlb (Zlc (Zgl hv hj)),_,gRn (by omega),_,_,Zr3 _ _ _ _,?_⟩;rw[celI,if_neg e]at ih;rw[Yh];exact ih
theorem x_chg1(x:Z4):Zvc j x a pr l=some (.own 5,[.box [I j],.box [.ptr 2 0],.box ((⟨x.bad || !allS (rowI l pr a j)⟩:Z4).c.map .t),.box (a.c.map .t),.box [L 2 (pr.map Za.c)],.arr 149 2 true ((vals (rowI l pr a j)).map Za.c)]):=by
 refine Zcob _ _ _ _ _ _ ⟨by omega,_,gRn hj,_,Z58 (by rintro rfl;simp at hj) h15,?_⟩;have:=l_chg1 hv hp hj h15 (a:=a) x 0 (Ya _);rw[Zbj3]at this;simpa[allS]using this
end
def Zli:AV×List Blk:=(.tup [.agg [.own 0,.own 1,.own 2,.own 3,.own 4,I 0,I 0],Bo false],[.arr 3 1 true (([]:List Int).map ic),.arr 3 1 true (([]:List Int).map ic),.arr 179 1 true (([]:List (List Za)).map (lc 2 Za.c)),.arr 149 2 true (([]:List Za).map Za.c),.arr 149 2 true (([]:List Za).map Za.c)])
def Zjb(fr:Bool)(d:Zm):AV×List Blk:=(.tup [.agg [.own 0,.own 1,.own 2,.own 3,.own 4,I d.Value.Num,I d.Value.Den],Bo true],[.arr 3 1 true (d.Basic.map ic),.arr 3 1 true (d.Free.map ic),.arr 179 1 fr (d.Cells.map (lc 2 Za.c)),.arr 149 2 true (d.Limits.map Za.c),.arr 149 2 true (d.Costs.map Za.c)])
def Zcy(d:Zm)(i j:Nat):AV×List Blk:=if okO d i j=true then Zjb false (Zbs d i j)else Zli
def Zcb(d:Zm)(i j r:Nat):List (List Za):=((Zew d i j).take r).map vals
def pRow(d:Zm)(i j:Nat):List (Option Za):=prow (d.Cells.getD i []) j
def okU(d:Zm)(i j r:Nat):Bool:=(allS (pRow d i j) && (limO d i j).isSome) && (((Zew d i j).take r).all allS && allS ((Zbz d i j).take r))
def limV(d:Zm)(i j:Nat):Za:=(limO d i j).getD r0
theorem Zn1(d:Zm)(i j:Nat):(Zew d i j).length=d.Cells.length:=by simp[Zew]
theorem Zd8(d:Zm)(i j:Nat):(Zbz d i j).length=d.Limits.length:=by simp[Zbz]
theorem Zb47(d:Zm)(i j:Nat){r:Nat}(hr:r<d.Cells.length):(Zew d i j)[r]'(by rw[Zn1];exact hr)=if r=i then pRow d i j else rowS (d.Cells.getD r []) (vals (pRow d i j)) j:=by simp[Zew,pRow]
theorem Zg1(d:Zm)(i j:Nat){r:Nat}(hr:r<d.Limits.length):(Zbz d i j).getD r none=if r=i then limO d i j else leS (d.Limits.getD r r0) (Zbk d r j) (limV d i j):=by
 unfold Zbz;rw[Yy,Ybh,List.getElem?_range hr];rfl
theorem Zh0(d:Zm)(i j:Nat){r:Nat}(hr:r<d.Cells.length):Zcb d i j (r+1)=Zcb d i j r++[vals (if r=i then pRow d i j else rowS (d.Cells.getD r []) (vals (pRow d i j)) j)]:=by
 unfold Zcb;rw[Y1 (by rw[Zn1];exact hr),Y0,Zb47 d i j hr];rfl
theorem Zjc(d:Zm)(i j:Nat){r:Nat}(hr:r<d.Cells.length)(c:r<d.Limits.length):okU d i j (r+1)=(okU d i j r && (allS (if r=i then pRow d i j else rowS (d.Cells.getD r []) (vals (pRow d i j)) j) && (if r=i then limO d i j else leS (d.Limits.getD r r0) (Zbk d r j) (limV d i j)).isSome)):=by
 unfold okU;rw[Y1 (by rw[Zn1];exact hr),List.all_append,Zb47 d i j hr,Zhz (by rw[Zd8];exact c),Zg1 d i j c];simp only[Y5,List.all_nil,Bool.and_true];generalize allS (pRow d i j)=p;generalize (limO d i j).isSome=q;generalize ((Zew d i j).take r).all allS=s;generalize allS ((Zbz d i j).take r)=t;generalize allS (if r=i then pRow d i j else rowS (d.Cells.getD r []) (vals (pRow d i j)) j)=u;generalize (if r=i then limO d i j else leS (d.Limits.getD r r0) (Zbk d r j) (limV d i j)).isSome=v;cases p<;>cases q<;>cases s<;>cases t<;>cases u<;>cases v<;>rfl
theorem okU_i(d:Zm){i j:Nat}(hr:i<d.Cells.length)(c:i<d.Limits.length):okU d i j (i+1)=okU d i j i:=by
 rw[Zjc d i j hr c,if_pos rfl,if_pos rfl];unfold okU;generalize allS (pRow d i j)=p;generalize (limO d i j).isSome=q;generalize ((Zew d i j).take i).all allS=s;generalize allS ((Zbz d i j).take i)=t;cases p<;>cases q<;>cases s<;>cases t<;>rfl
theorem Zbj7{d:Zm}{i j:Nat}(hl:d.Limits.length=d.Cells.length):okO d i j=(okU d i j d.Cells.length && allS (Zcp d i j) && (valO d i j).isSome):=by
 unfold okO okU;rw[<-Zn1 d i j,Yl,Zn1,<-hl,<-Zd8 d i j,Yl];unfold pRow;generalize allS (prow (d.Cells.getD i []) j)=p;generalize (limO d i j).isSome=q;generalize (Zew d i j).all allS=s;generalize allS (Zbz d i j)=t;generalize allS (Zcp d i j)=u;generalize (valO d i j).isSome=v;cases p<;>cases q<;>cases s<;>cases t<;>cases u<;>cases v<;>rfl
theorem Z0h{α:Type}(p:α->Bool)(l:List α)(r:Nat)(h:l.all p=true):(l.take r).all p=true:=Yn.2 λx hx=>Yn.1 h x (Ybe hx)
theorem Zyt{d:Zm}{i j r:Nat}(h:okU d i j r=false):okO d i j=false:=by
 rcases ft (okO d i j)with e|e
 .unfold okO at e;simp only[Yc]at e;obtain⟨⟨⟨⟨⟨o1,o2⟩,o3⟩,o4⟩,o5⟩,o6⟩:=e;unfold okU pRow at h;rw[o1,o2,Z0h _ _ _ o3,show allS ((Zbz d i j).take r)=true from Z0h _ _ _ o4]at h;cases h
 .exact e
structure PivC (d:Zm) (i j:Nat):Prop where
 v:Zd5 d
 hi:i<d.Basic.length
 hj:j<d.Free.length
 nz:(Zbk d i j).Num≠0
section
variable{d:Zm}{i j:Nat}(h:PivC d i j)
include h
theorem PivC.cj:j<(d.Cells.getD i []).length:=by have:=(Zey h.v h.hi h.hj).1;have:=h.hj;omega
theorem PivC.va:vR (Zbk d i j)=true:=Zgl (Zey h.v h.hi h.hj).2.1 h.cj
theorem PivC.row{l:List Za}(hl:l.length=d.Free.length)(hv:allV l):rowI l (vals (pRow d i j)) (Zbk d i j) j=rowS l (vals (pRow d i j)) j :=
 row_eq h.cj (Zgl hv (by have:=h.hj;omega)) h.va h.nz
theorem PivC.plen:(vals (pRow d i j)).length=d.Free.length:=by
 unfold pRow;rw[Zdt,Zbjr];exact(Zey h.v h.hi h.hj).1
theorem val_of:Zfq ⟨!okU d i j d.Cells.length || !allS (Zcp d i j)⟩ d.Value (d.Costs.getD j r0) (limV d i j)=some (.agg (((valO d i j).getD r0).c.map .t),[.box ((⟨!okO d i j⟩:Z4).c.map .t)]):=by
 rw[Zr3,Zbj7 (by have:=h.v.ll;have:=h.v.lc;omega)];unfold rkR;have e:((!okU d i j d.Cells.length || !allS (Zcp d i j)) || !(valO d i j).isSome)=(!(okU d i j d.Cells.length && allS (Zcp d i j) && (valO d i j).isSome)):=by
  generalize okU d i j d.Cells.length=p;generalize allS (Zcp d i j)=q;generalize (valO d i j).isSome=s;cases p<;>cases q<;>cases s<;>rfl
 rw[<-e];rfl
theorem cost_row:rowI d.Costs (vals (pRow d i j)) (Zbk d i j) j=Zcp d i j:=h.row h.v.lk h.v.vk
theorem l_p1a(V:Za):∀r,r<=d.Cells.length->i<r->Zms d j V ⟨!okU d i j r⟩ d.Value (d.Basic.set i (d.Free.getD j 0)) (d.Free.set j (d.Basic.getD i 0)) false (Zcb d i j r) (mixL (Zbz d i j) d.Limits r) d.Costs (vals (pRow d i j)) (limV d i j) (Zbk d i j) i d.Cells d.Cells.length r=some (Zcy d i j):=by
 have hm:=h.v.m;have hn:=h.v.n;have hll:=h.v.ll;have hlk:=h.v.lk;have hlc:=h.v.lc;have hj:=h.hj;have hpl:=h.plen;refine down _ ?_ ?_
 .intro hr;refine Zb0d _ _ _ _ _ _ _ _ _ _ _ _ _ _ _ _ _ _ _ ?_;rw[if_neg (by omega)];have hx:=x_chg1 (a:=Zbk d i j) h.v.vk (show(vals (pRow d i j)).length=d.Costs.length by omega) (show j<d.Costs.length by omega) (by omega) ⟨!okU d i j d.Cells.length⟩;rw[cost_row h]at hx;refine⟨_,_,_,_,_,hx,by omega,_,gRn (by omega),_,_,val_of h,?_⟩;unfold Zcy;rcases ft (okO d i j)with e|e
  .rw[e,if_neg (by decide),if_pos rfl];have e1:mixL (Zbz d i j) d.Limits d.Cells.length=vals (Zbz d i j):=by
    rw[show d.Cells.length=d.Limits.length by omega];exact Zbj4 (Zd8 d i j)
   have e2:Zcb d i j d.Cells.length=(Zew d i j).map vals:=by
    unfold Zcb;rw[<-Zn1 d i j,Yl]
   rw[e1,e2];rfl
  .rw[e,if_pos (by rfl),if_neg (by decide)];rfl
 .intro r hr ih hir;refine Zb0d _ _ _ _ _ _ _ _ _ _ _ _ _ _ _ _ _ _ _ ?_;have hrb:r<d.Basic.length:=by omega
  obtain⟨hc1,hc2,hc3⟩:=Zey h.v hrb hj;have hcv:vR (Zbk d r j)=true:=Zgl hc2 (by omega);rw[if_pos (by omega),wS hr (by omega)];refine⟨by omega,_,gCn hr,?_⟩;rw[if_neg (by omega)];have hx:=x_chg1 (a:=Zbk d i j) hc2 (show(vals (pRow d i j)).length=(d.Cells.getD r []).length by omega) (show j<(d.Cells.getD r []).length by omega) (by omega) ⟨!okU d i j r⟩;rw[h.row hc1 hc2]at hx;refine⟨_,_,_,_,_,hx,by simp[Zcb];omega,_,gRn (by omega),by omega,_,hc3,_,Zlb (Zlc hcv),_,_,Zr3 _ _ _ _,_,Zlh (Zd8 d i j) (by omega),?_⟩;have ih:=ih (by omega);rw[Zh0 d i j hr,Zjc d i j hr (by omega),if_neg (by omega),if_neg (by omega),<-Zr4 (Zd8 d i j) (by omega),Zg1 d i j (by omega),if_neg (by omega)]at ih;rw[pl_le,Yh];have e (a b c:Bool):(!(a && (b && c)))=((!a || !b) || !c):=by cases a<;>cases b<;>cases c<;>rfl
  rw[e]at ih;exact ih
theorem l_p1b(V:Za):∀r,r<=i->0<r->Zvf d j V ⟨!okU d i j r⟩ d.Value (d.Basic.set i (d.Free.getD j 0)) (d.Free.set j (d.Basic.getD i 0)) (Zcb d i j r) (mixL (Zbz d i j) d.Limits r) d.Costs (vals (pRow d i j)) (limV d i j) (Zbk d i j) i d.Cells d.Cells.length r=some (Zcy d i j):=by
 have hm:=h.v.m;have hn:=h.v.n;have hll:=h.v.ll;have hlk:=h.v.lk;have hlc:=h.v.lc;have hj:=h.hj;have hi:=h.hi;have hpl:=h.plen;refine down _ ?_ ?_
 .intro hr;refine Zb0e _ _ _ _ _ _ _ _ _ _ _ _ _ _ _ _ _ _ ?_;rw[if_pos (by omega),wS (show i<d.Cells.length by omega) (by omega)];refine⟨by omega,_,gCn (by omega),?_⟩;rw[if_pos rfl];refine⟨by simp[Zcb];omega,_,Zlh (Zd8 d i j) (by omega),?_⟩;have:=l_p1a h V (i+1) (by omega) (by omega);rw[Zh0 d i j (by omega),okU_i d (by omega) (by omega),if_pos rfl,<-Zr4 (Zd8 d i j) (by omega),Zg1 d i j (by omega),if_pos rfl]at this;rw[Yh];exact this
 .intro r hr ih hir;refine Zb0e _ _ _ _ _ _ _ _ _ _ _ _ _ _ _ _ _ _ ?_;have hrb:r<d.Basic.length:=by omega
  obtain⟨hc1,hc2,hc3⟩:=Zey h.v hrb hj;have hcv:vR (Zbk d r j)=true:=Zgl hc2 (by omega);rw[if_pos (by omega),wS (show r<d.Cells.length by omega) (by omega)];refine⟨by omega,_,gCn (by omega),?_⟩;rw[if_neg (by omega)];have hx:=x_chg (a:=Zbk d i j) hc2 (show(vals (pRow d i j)).length=(d.Cells.getD r []).length by omega) (show j<(d.Cells.getD r []).length by omega) (by omega) ⟨!okU d i j r⟩;rw[h.row hc1 hc2]at hx;refine⟨_,_,_,_,_,hx,by simp[Zcb];omega,_,gRn (by omega),by omega,_,hc3,_,Zlb (Zlc hcv),_,_,Zr3 _ _ _ _,_,Zlh (Zd8 d i j) (by omega),?_⟩;have ih:=ih (by omega);rw[Zh0 d i j (by omega),Zjc d i j (by omega) (by omega),if_neg (by omega),if_neg (by omega),<-Zr4 (Zd8 d i j) (by omega),Zg1 d i j (by omega),if_neg (by omega)]at ih;rw[pl_le,Yh];have e (a b c:Bool):(!(a && (b && c)))=((!a || !b) || !c):=by cases a<;>cases b<;>cases c<;>rfl
  rw[e]at ih;exact ih
omit h in
theorem Z59:okU d i j 0=(allS (pRow d i j) && (limO d i j).isSome):=by simp[okU,allS]
theorem l_p1(V:Za):Z2b d j V ⟨!okU d i j 0⟩ d.Value (d.Basic.set i (d.Free.getD j 0)) (d.Free.set j (d.Basic.getD i 0)) d.Limits d.Costs (vals (pRow d i j)) (limV d i j) (Zbk d i j) i d.Cells d.Cells.length 0=some (Zcy d i j):=by
 have hm:=h.v.m;have hn:=h.v.n;have hll:=h.v.ll;have hlk:=h.v.lk;have hlc:=h.v.lc;have hj:=h.hj;have hi:=h.hi;have hpl:=h.plen;refine Zcoc _ _ _ _ _ _ _ _ _ _ _ _ _ _ _ _ _ ?_;rw[if_pos (by omega),show w (0+1)=((0+1:Nat):Int) by decide];refine⟨by omega,_,gCn (i:=0) (by omega),?_⟩;have g0:=Zlh (Zd8 d i j) (show 0<d.Limits.length by omega);have s0:=Zr4 (Zd8 d i j) (show 0<d.Limits.length by omega);rw[Zbj3]at g0 s0;by_cases e0:i=0
 .rw[if_pos (by omega)];refine⟨_,g0,?_⟩;have:=l_p1a h V (0+1) (by omega) (by omega);rw[Zh0 d i j (by omega),Zjc d i j (by omega) (by omega),if_pos e0.symm,if_pos e0.symm,<-s0,Zg1 d i j (by omega),if_pos e0.symm]at this;have e:(okU d i j 0 && (allS (pRow d i j) && (limO d i j).isSome))=okU d i j 0:=by rw[Z59,Bool.and_self]
  rw[e]at this;exact this
 .rw[if_neg (by omega)];obtain⟨hc1,hc2,hc3⟩:=Zey h.v (show 0<d.Basic.length by omega) hj;have hcv:vR (Zbk d 0 j)=true:=Zgl hc2 (by omega);have hx:=x_chg (a:=Zbk d i j) hc2 (show(vals (pRow d i j)).length=(d.Cells.getD 0 []).length by omega) (show j<(d.Cells.getD 0 []).length by omega) (by omega) ⟨!okU d i j 0⟩;rw[h.row hc1 hc2]at hx;refine⟨_,_,_,_,_,hx,_,gRn (i:=0) (by omega),by omega,_,hc3,_,Zlb (Zlc hcv),_,_,Zr3 _ _ _ _,_,g0,?_⟩;have ih:=l_p1b h V (0+1) (by omega) (by omega);rw[Zh0 d i j (by omega),Zjc d i j (by omega) (by omega),if_neg (by omega),if_neg (by omega),<-s0,Zg1 d i j (by omega),if_neg (by omega)]at ih;rw[pl_le];have e (a b c:Bool):(!(a && (b && c)))=((!a || !b) || !c):=by cases a<;>cases b<;>cases c<;>rfl
  rw[e]at ih;exact ih
theorem l_p0(V:Za):∀k,k<=(d.Cells.getD i []).length->Zp0 d j V ⟨!allS ((pRow d i j).take k)⟩ (Zbk d i j) d.Value (d.Basic.set i (d.Free.getD j 0)) (d.Free.set j (d.Basic.getD i 0)) d.Limits d.Costs (vals ((pRow d i j).take k)) i (d.Cells.getD i []) (d.Cells.getD i []).length k=some (Zcy d i j):=by
 have hn:=h.v.n;have hm:=h.v.m;have hll:=h.v.ll;have hi:=h.hi;have hc:=(Zey h.v h.hi h.hj).1;have hpl:(pRow d i j).length=(d.Cells.getD i []).length:=by unfold pRow;rw[Zbjr]
 refine down _ ?_ ?_
 .refine Zb0c _ _ _ _ _ _ _ _ _ _ _ _ _ _ _ _ ?_;rw[if_neg (by omega),<-hpl,Yl];refine⟨by omega,_,gRn (by omega),_,_,Zyo _ _ _,?_⟩;have:=l_p1 h V;rw[Z59]at this;have e (a b:Bool):(!(a && b))=(!a || !b):=by cases a<;>cases b<;>rfl
  rw[e]at this;exact this
 .intro k hk ih;refine Zb0c _ _ _ _ _ _ _ _ _ _ _ _ _ _ _ _ ?_;have hpg:=Zb44 (d.Cells.getD i []) j hk;rw[Zfx (by omega),Zhz (by omega),show(pRow d i j).getD k none=_ from hpg]at ih;have e (a b:Bool):(!(a && b))=(!a || !b):=by cases a<;>cases b<;>rfl
  rw[e]at ih;rw[if_pos (by omega),wS hk (by omega)];refine⟨by omega,_,gRn hk,?_⟩;by_cases ej:k=j
  .rw[if_pos (by omega)];rw[if_pos ej]at ih;exact⟨_,Zbj5 1,_,_,Zyo _ _ _,by rw[Zdt,Yp];omega,ih⟩
  .rw[if_neg (by omega)];rw[if_neg ej]at ih;exact⟨_,_,Zyo _ _ _,by rw[Zdt,Yp];omega,ih⟩
theorem Zct6:Zmr d i j=some (Zcy d i j):=by
 have hn:=h.v.n;have hm:=h.v.m;have hll:=h.v.ll;have hlk:=h.v.lk;have hlc:=h.v.lc;have hi:=h.hi;have hj:=h.hj;refine Zcod _ _ _ _ ⟨by omega,_,gCn (by omega),by omega,_,(Zey h.v hi hj).2.2,?_⟩;rw[if_neg h.nz];refine⟨_,Zbj6 (by omega),_,Zbj6 (by omega),_,Z58 (by intro he;rw[he]at hll;simp at hll;omega) (by omega),_,Z58 (by intro he;rw[he]at hlk;simp at hlk;omega) (by omega),_,gDn hj,_,gDn hi,_,gDn hi,_,gDn hj,?_⟩;have:=l_p0 h ⟨0,0⟩ 0 (Ya _);rw[Yh,Yh];simpa[allS,vals]using this
end
theorem Zdu(n:Int):Zca n=some (.agg ((⟨n,1⟩:Za).c.map .t),[]):=Zcqt _ _ rfl
theorem Zct7{O:List (Option Za)}{k:Nat}(h:allS (O.take k)=false):allS O=false:=by
 rcases ft (allS O)with e|e
 .rw[show allS (O.take k)=true from Z0h _ _ _ e]at h;cases h
 .exact e
section
variable{d:Zm}{i j:Nat}(h:PivC d i j)
include h
theorem Zb48:(Zcp d i j).length=d.Free.length:=by unfold Zcp;rw[Zyn];exact h.v.lk
theorem Zb49{k:Nat}(hk:k<d.Free.length):(Zcp d i j).getD k none=celS k j (d.Costs.getD k r0) (d.Costs.getD j r0) ((vals (pRow d i j)).getD k r0):=Z57 _ _ _ (by have:=h.v.lk;omega)
omit h in
theorem pivF(e:okO d i j=false):Zcy d i j=Zli:=by unfold Zcy;rw[e,if_neg (by decide)]
omit h in
theorem okO_c{k:Nat}(hl:d.Limits.length=d.Cells.length)(e:(okU d i j d.Cells.length && allS ((Zcp d i j).take k))=false):okO d i j=false:=by
 rw[Zbj7 hl];rcases ft (okU d i j d.Cells.length)with e1|e1
 .rw[e1,Ye]at e;rw[Zct7 e];simp
 .rw[e1];rfl
omit h in
theorem j5cF(V U l:Za)(B F:List Int)(C:List (List Za))(L K p:List Za)(k:Int):Zrk d V l U B F false C L K j false p k false=some Zli:=by
 refine Zb24 _ _ _ _ _ _ _ _ _ _ _ _ _ _ _ _ ?_;rw[if_neg (by decide)];rfl
theorem j5c(V U:Za)(k:Int):Zrk d V (limV d i j) U (d.Basic.set i (d.Free.getD j 0)) (d.Free.set j (d.Basic.getD i 0)) false (Zcb d i j d.Cells.length) (vals (Zbz d i j)) (vals (Zcp d i j)) j (okU d i j d.Cells.length && allS (Zcp d i j)) (vals (pRow d i j)) k false=some (Zcy d i j):=by
 have hlk:=h.v.lk;have hj:=h.hj;have hl:d.Limits.length=d.Cells.length:=by have:=h.v.ll;have:=h.v.lc;omega
 rcases ft (okU d i j d.Cells.length && allS (Zcp d i j))with e|e
 .rw[e];refine Zb24 _ _ _ _ _ _ _ _ _ _ _ _ _ _ _ _ ?_;rw[if_pos rfl];refine⟨by omega,_,gRn (by omega),_,_,Zb4j _ _,_,_,Zcs5 _ _,?_⟩;have hO:okO d i j=(valO d i j).isSome:=by rw[Zbj7 hl,e,Ye]
  have e1:okU d i j d.Cells.length=true:=by simp only[Yc]at e;exact e.1
  have eL:(limO d i j).isSome=true:=by unfold okU at e1;simp only[Yc]at e1;exact e1.1.2
  obtain⟨lim,hlim⟩:=Option.isSome_iff_exists.1 eL;have eV:limV d i j=lim:=by unfold limV;rw[hlim];rfl
  have eP:valO d i j=(mulR (d.Costs.getD j r0) lim).bind (addR d.Value):=by
   unfold valO;rw[hlim];exact pl_full h.v.vv (Zgl h.v.vk (by omega)) (Zgk hlim)
  unfold Zcy;rw[hO,eP,eV]
  cases hm:mulR (d.Costs.getD j r0) lim with
  |none=>rfl
  |some y =>
   rw[if_pos (by rfl)]
   cases ha:addR d.Value y with
   |none=>simp only[Option.getD_some,Option.bind_some,ha];rfl
   |some z =>
    simp only[Option.getD_some,Option.bind_some,ha,Option.isSome_some,if_true];have e2:Zcb d i j d.Cells.length=(Zew d i j).map vals:=by
     unfold Zcb;rw[<-Zn1 d i j,Yl]
    have e3:valO d i j=some z:=by rw[eP,hm];exact ha
    rw[e2];unfold Zjb Zbs;rw[e3];rfl
 .rw[e,j5cF,pivF (okO_c (k:=(Zcp d i j).length) hl (by rw[Yl];exact e))]
theorem l_3c(V U:Za):∀k,k<=d.Free.length->Znn d V (limV d i j) U (d.Basic.set i (d.Free.getD j 0)) (d.Free.set j (d.Basic.getD i 0)) false (Zcb d i j d.Cells.length) (vals (Zbz d i j)) (vals ((Zcp d i j).take k)) j (okU d i j d.Cells.length && allS ((Zcp d i j).take k)) (vals (pRow d i j)) k=some (Zcy d i j):=by
 have hlk:=h.v.lk;have hn:=h.v.n;have hj:=h.hj;have hpl:=h.plen;have hcl:=Zb48 h;have hl:d.Limits.length=d.Cells.length:=by have:=h.v.ll;have:=h.v.lc;omega
 refine down _ ?_ ?_
 .refine Zb21 _ _ _ _ _ _ _ _ _ _ _ _ _ _ _ ?_;rw[if_neg (by omega),<-hcl,Yl];exact j5c h V U _
 .intro k hk ih;refine Zb21 _ _ _ _ _ _ _ _ _ _ _ _ _ _ _ ?_;rw[if_pos (by omega),wS hk (by omega)];rcases ft (okU d i j d.Cells.length && allS ((Zcp d i j).take k))with e|e
  .rw[e,if_pos rfl];rw[Zfx (by omega),Zhz (by omega),<-Bool.and_assoc,e,Ye,Zb49 h hk,celS]at ih;refine⟨by omega,_,gRn (by omega),?_⟩;by_cases ej:k=j
   .rw[if_pos (by omega)];rw[if_pos ej]at ih;exact⟨_,Zdu 0,by omega,_,gRn (by omega),_,gRn (by omega),_,_,Zfw _ _ _,by rw[Zdt,Yp];omega,ih⟩
   .rw[if_neg (by omega)];rw[if_neg ej]at ih;exact⟨by omega,_,gRn (by omega),_,gRn (by omega),_,_,Zfw _ _ _,by rw[Zdt,Yp];omega,ih⟩
  .rw[e,if_neg (by decide),j5cF,pivF (okO_c hl e)]
theorem l_3a(V U:Za):Zrj d V (limV d i j) U (d.Basic.set i (d.Free.getD j 0)) (d.Free.set j (d.Basic.getD i 0)) false (Zcb d i j d.Cells.length) (vals (Zbz d i j)) j (okU d i j d.Cells.length) (vals (pRow d i j)) 0=some (Zcy d i j):=by
 have hlk:=h.v.lk;have hn:=h.v.n;have hj:=h.hj;have hpl:=h.plen;have hcl:=Zb48 h;refine Zb2z _ _ _ _ _ _ _ _ _ _ _ _ _ _ ?_;rw[if_pos (by omega),show w (0+1)=((0+1:Nat):Int) by decide];rcases ft (okU d i j d.Cells.length)with e|e
 .rw[e,if_pos rfl];have ih:=l_3c h V U (0+1) (by omega);rw[Zfx (by omega),Zhz (by omega),Zb49 h (by omega),celS,e,Ye]at ih;refine⟨by omega,_,gRn (i:=0) (by omega),?_⟩;by_cases ej:0=j
  .rw[if_pos (by omega)];rw[if_pos ej]at ih;exact⟨_,Zdu 0,by omega,_,gRn (by omega),_,gRn (i:=0) (by omega),_,_,Zfw _ _ _,by simpa[allS,vals]using ih⟩
  .rw[if_neg (by omega)];rw[if_neg ej]at ih;exact⟨by omega,_,gRn (by omega),_,gRn (i:=0) (by omega),_,_,Zfw _ _ _,by simpa[allS,vals]using ih⟩
 .rw[e,if_neg (by decide),pivF (Zyt e)];refine Zb22 _ _ _ _ _ _ _ _ _ _ _ _ _ _ _ ?_;rw[if_neg (by decide)];rfl
theorem f_3a(V U:Za)(C:List (List Za))(L:List Za):Zrj d V (limV d i j) U (d.Basic.set i (d.Free.getD j 0)) (d.Free.set j (d.Basic.getD i 0)) false C L j false (vals (pRow d i j)) 0=some Zli:=by
 have hn:=h.v.n;refine Zb2z _ _ _ _ _ _ _ _ _ _ _ _ _ _ ?_;rw[if_pos (by omega),if_neg (by decide)];refine Zb22 _ _ _ _ _ _ _ _ _ _ _ _ _ _ _ ?_;rw[if_neg (by decide)];rfl
theorem f_3d(V U:Za)(C:List (List Za))(L:List Za):Zxo d V (vals (pRow d i j)) (limV d i j) U (d.Basic.set i (d.Free.getD j 0)) (d.Free.set j (d.Basic.getD i 0)) false C L j false 0=some Zli:=by
 have hn:=h.v.n;refine Zcre _ _ _ _ _ _ _ _ _ _ _ _ _ _ ?_;rw[if_pos (by omega),if_neg (by decide)];refine Zcrf _ _ _ _ _ _ _ _ _ _ _ _ _ _ _ ?_;rw[if_neg (by decide)];rfl
theorem f_3(V U:Za):Zxn d V (vals (pRow d i j)) (limV d i j) U (d.Basic.set i (d.Free.getD j 0)) (d.Free.set j (d.Basic.getD i 0)) j false 0=some Zli:=by
 have hn:=h.v.n;refine Zcrc _ _ _ _ _ _ _ _ _ _ _ ?_;rw[if_pos (by omega),if_neg (by decide)];refine Zcrd _ _ _ _ _ _ _ _ _ _ _ _ ?_;rw[if_neg (by decide)];rfl
theorem l_1(V U:Za)(res:AV×List Blk){r:Nat}(hr:r<d.Basic.length)(c:Ziz d V (vals (pRow d i j)) (limV d i j) U (d.Basic.set i (d.Free.getD j 0)) (d.Free.set j (d.Basic.getD i 0)) false ([vals (rowS (d.Cells.getD r []) (vals (pRow d i j)) j)]) ([(leS (d.Limits.getD r r0) (Zbk d r j) (limV d i j)).getD r0]) i j (allS (rowS (d.Cells.getD r []) (vals (pRow d i j)) j) && (leS (d.Limits.getD r r0) (Zbk d r j) (limV d i j)).isSome) (w ((r:Int)+1))=some res):∀k,k<=d.Free.length->Zk0 d V (vals (pRow d i j)) (limV d i j) U (d.Basic.set i (d.Free.getD j 0)) (d.Free.set j (d.Basic.getD i 0)) (vals ((rowS (d.Cells.getD r []) (vals (pRow d i j)) j).take k)) i j (allS ((rowS (d.Cells.getD r []) (vals (pRow d i j)) j).take k)) r k=some res:=by
 have hlc:=h.v.lc;have hll:=h.v.ll;have hn:=h.v.n;have hj:=h.hj;have hpl:=h.plen;obtain⟨hc1,hc2,hc3⟩:=Zey h.v hr hj;have hO:(rowS (d.Cells.getD r []) (vals (pRow d i j)) j).length=d.Free.length:=by rw[Zyn];exact hc1
 refine down _ ?_ ?_
 .refine Zb2x _ _ _ _ _ _ _ _ _ _ _ _ _ _ ?_;rw[if_neg (by omega),<-hO,Yl];refine⟨by omega,_,gRn (by omega),_,gCn (by omega),by omega,_,hc3,_,_,Zfw _ _ _,?_⟩;rcases ft (allS (rowS (d.Cells.getD r []) (vals (pRow d i j)) j))with e|e
  .rw[e,Ye]at c;rw[e,if_pos rfl];exact c
  .rw[e,Y4]at c;rw[e,if_neg (by decide)];exact c
 .intro k hk ih;refine Zb2x _ _ _ _ _ _ _ _ _ _ _ _ _ _ ?_;rw[if_pos (by omega),wS hk (by omega)];rw[Zfx (by omega),Zhz (by omega),Z57 _ _ _ (by omega),celS]at ih;have hlen:(vals ((rowS (d.Cells.getD r []) (vals (pRow d i j)) j).take k)).length+1<=68719476736:=by rw[Zdt,Yp];omega
  refine⟨by omega,_,gCn (by omega),by omega,_,gRn (by omega),?_⟩;by_cases ej:k=j
  .rw[if_pos (by omega)];rw[if_pos ej]at ih;refine⟨_,Zdu 0,by omega,_,hc3,_,gRn (by omega),_,_,Zfw _ _ _,?_⟩;rcases ft (allS ((rowS (d.Cells.getD r []) (vals (pRow d i j)) j).take k))with e|e
   .rw[e,if_pos rfl];rw[e,Ye]at ih;exact⟨hlen,ih⟩
   .rw[e,if_neg (by decide)];rw[e,Y4]at ih;exact⟨hlen,ih⟩
  .rw[if_neg (by omega)];rw[if_neg ej]at ih;refine⟨by omega,_,hc3,_,gRn (by omega),_,_,Zfw _ _ _,?_⟩;rcases ft (allS ((rowS (d.Cells.getD r []) (vals (pRow d i j)) j).take k))with e|e
   .rw[e,if_pos rfl];rw[e,Ye]at ih;exact⟨hlen,ih⟩
   .rw[e,if_neg (by decide)];rw[e,Y4]at ih;exact⟨hlen,ih⟩
theorem l_1a(V U:Za)(C:List (List Za))(L:List Za)(hC:C.length<=1000)(hL:L.length<=1000)(res:AV×List Blk){r:Nat}(hr:r<d.Basic.length)(c:Ziy d V (limV d i j) U (d.Basic.set i (d.Free.getD j 0)) (d.Free.set j (d.Basic.getD i 0)) false (C++[vals (rowS (d.Cells.getD r []) (vals (pRow d i j)) j)]) (L++[(leS (d.Limits.getD r r0) (Zbk d r j) (limV d i j)).getD r0]) i j (allS (rowS (d.Cells.getD r []) (vals (pRow d i j)) j) && (leS (d.Limits.getD r r0) (Zbk d r j) (limV d i j)).isSome) (vals (pRow d i j)) (w ((r:Int)+1))=some res):∀k,k<=d.Free.length->Zk1 d V (limV d i j) U (d.Basic.set i (d.Free.getD j 0)) (d.Free.set j (d.Basic.getD i 0)) false C L (vals ((rowS (d.Cells.getD r []) (vals (pRow d i j)) j).take k)) i j (allS ((rowS (d.Cells.getD r []) (vals (pRow d i j)) j).take k)) (vals (pRow d i j)) r k=some res:=by
 have hlc:=h.v.lc;have hll:=h.v.ll;have hn:=h.v.n;have hj:=h.hj;have hpl:=h.plen;obtain⟨hc1,hc2,hc3⟩:=Zey h.v hr hj;have hO:(rowS (d.Cells.getD r []) (vals (pRow d i j)) j).length=d.Free.length:=by rw[Zyn];exact hc1
 refine down _ ?_ ?_
 .refine Zb2y _ _ _ _ _ _ _ _ _ _ _ _ _ _ _ _ _ ?_;rw[if_neg (by omega),<-hO,Yl];refine⟨by omega,_,gRn (by omega),_,gCn (by omega),by omega,_,hc3,_,_,Zfw _ _ _,?_⟩;rcases ft (allS (rowS (d.Cells.getD r []) (vals (pRow d i j)) j))with e|e
  .rw[e,Ye]at c;rw[e,if_pos rfl];exact⟨by omega,by omega,c⟩
  .rw[e,Y4]at c;rw[e,if_neg (by decide)];exact⟨by omega,by omega,c⟩
 .intro k hk ih;refine Zb2y _ _ _ _ _ _ _ _ _ _ _ _ _ _ _ _ _ ?_;rw[if_pos (by omega),wS hk (by omega)];rw[Zfx (by omega),Zhz (by omega),Z57 _ _ _ (by omega),celS]at ih;have hlen:(vals ((rowS (d.Cells.getD r []) (vals (pRow d i j)) j).take k)).length+1<=68719476736:=by rw[Zdt,Yp];omega
  refine⟨by omega,_,gCn (by omega),by omega,_,gRn (by omega),?_⟩;by_cases ej:k=j
  .rw[if_pos (by omega)];rw[if_pos ej]at ih;refine⟨_,Zdu 0,by omega,_,hc3,_,gRn (by omega),_,_,Zfw _ _ _,?_⟩;rcases ft (allS ((rowS (d.Cells.getD r []) (vals (pRow d i j)) j).take k))with e|e
   .rw[e,if_pos rfl];rw[e,Ye]at ih;exact⟨hlen,ih⟩
   .rw[e,if_neg (by decide)];rw[e,Y4]at ih;exact⟨hlen,ih⟩
  .rw[if_neg (by omega)];rw[if_neg ej]at ih;refine⟨by omega,_,hc3,_,gRn (by omega),_,_,Zfw _ _ _,?_⟩;rcases ft (allS ((rowS (d.Cells.getD r []) (vals (pRow d i j)) j).take k))with e|e
   .rw[e,if_pos rfl];rw[e,Ye]at ih;exact⟨hlen,ih⟩
   .rw[e,if_neg (by decide)];rw[e,Y4]at ih;exact⟨hlen,ih⟩
theorem l_1b(V U:Za)(C:List (List Za))(L:List Za)(hC:C.length<=1000)(hL:L.length<=1000)(res:AV×List Blk){r:Nat}(hr:r<d.Basic.length)(c:Ziz d V (vals (pRow d i j)) (limV d i j) U (d.Basic.set i (d.Free.getD j 0)) (d.Free.set j (d.Basic.getD i 0)) false (C++[vals (rowS (d.Cells.getD r []) (vals (pRow d i j)) j)]) (L++[(leS (d.Limits.getD r r0) (Zbk d r j) (limV d i j)).getD r0]) i j (allS (rowS (d.Cells.getD r []) (vals (pRow d i j)) j) && (leS (d.Limits.getD r r0) (Zbk d r j) (limV d i j)).isSome) (w ((r:Int)+1))=some res):∀k,k<=d.Free.length->Zk2 d V (vals (pRow d i j)) (limV d i j) U (d.Basic.set i (d.Free.getD j 0)) (d.Free.set j (d.Basic.getD i 0)) false C L (vals ((rowS (d.Cells.getD r []) (vals (pRow d i j)) j).take k)) i j (allS ((rowS (d.Cells.getD r []) (vals (pRow d i j)) j).take k)) r k=some res:=by
 have hlc:=h.v.lc;have hll:=h.v.ll;have hn:=h.v.n;have hj:=h.hj;have hpl:=h.plen;obtain⟨hc1,hc2,hc3⟩:=Zey h.v hr hj;have hO:(rowS (d.Cells.getD r []) (vals (pRow d i j)) j).length=d.Free.length:=by rw[Zyn];exact hc1
 refine down _ ?_ ?_
 .refine Zb23 _ _ _ _ _ _ _ _ _ _ _ _ _ _ _ _ _ ?_;rw[if_neg (by omega),<-hO,Yl];refine⟨by omega,_,gRn (by omega),_,gCn (by omega),by omega,_,hc3,_,_,Zfw _ _ _,?_⟩;rcases ft (allS (rowS (d.Cells.getD r []) (vals (pRow d i j)) j))with e|e
  .rw[e,Ye]at c;rw[e,if_pos rfl];exact⟨by omega,by omega,c⟩
  .rw[e,Y4]at c;rw[e,if_neg (by decide)];exact⟨by omega,by omega,c⟩
 .intro k hk ih;refine Zb23 _ _ _ _ _ _ _ _ _ _ _ _ _ _ _ _ _ ?_;rw[if_pos (by omega),wS hk (by omega)];rw[Zfx (by omega),Zhz (by omega),Z57 _ _ _ (by omega),celS]at ih;have hlen:(vals ((rowS (d.Cells.getD r []) (vals (pRow d i j)) j).take k)).length+1<=68719476736:=by rw[Zdt,Yp];omega
  refine⟨by omega,_,gCn (by omega),by omega,_,gRn (by omega),?_⟩;by_cases ej:k=j
  .rw[if_pos (by omega)];rw[if_pos ej]at ih;refine⟨_,Zdu 0,by omega,_,hc3,_,gRn (by omega),_,_,Zfw _ _ _,?_⟩;rcases ft (allS ((rowS (d.Cells.getD r []) (vals (pRow d i j)) j).take k))with e|e
   .rw[e,if_pos rfl];rw[e,Ye]at ih;exact⟨hlen,ih⟩
   .rw[e,if_neg (by decide)];rw[e,Y4]at ih;exact⟨hlen,ih⟩
  .rw[if_neg (by omega)];rw[if_neg ej]at ih;refine⟨by omega,_,hc3,_,gRn (by omega),_,_,Zfw _ _ _,?_⟩;rcases ft (allS ((rowS (d.Cells.getD r []) (vals (pRow d i j)) j).take k))with e|e
   .rw[e,if_pos rfl];rw[e,Ye]at ih;exact⟨hlen,ih⟩
   .rw[e,if_neg (by decide)];rw[e,Y4]at ih;exact⟨hlen,ih⟩
theorem l_2a(V U:Za):∀r,r<=d.Basic.length->i<r->Ziy d V (limV d i j) U (d.Basic.set i (d.Free.getD j 0)) (d.Free.set j (d.Basic.getD i 0)) false (Zcb d i j r) (vals ((Zbz d i j).take r)) i j (okU d i j r) (vals (pRow d i j)) r=some (Zcy d i j):=by
 have hm:=h.v.m;have hlc:=h.v.lc;have hll:=h.v.ll;have hn:=h.v.n;have hi:=h.hi;have hj:=h.hj;have hol:=Zd8 d i j;refine down _ ?_ ?_
 .intro hr;refine Zb2w _ _ _ _ _ _ _ _ _ _ _ _ _ _ _ ?_;rw[if_neg (by omega),show d.Basic.length=d.Cells.length by omega,show(Zbz d i j).take d.Cells.length=Zbz d i j from Ycf (by omega)];exact l_3a h V U
 .intro r hr ih hir;refine Zb2w _ _ _ _ _ _ _ _ _ _ _ _ _ _ _ ?_;rw[if_pos (by omega)];rcases ft (okU d i j r)with e|e
  .rw[e,if_pos rfl,if_neg (by omega)];have ih:=ih (by omega);rw[Zh0 d i j (by omega),Zjc d i j (by omega) (by omega),e,Ye,if_neg (by omega),if_neg (by omega),Zfx (by omega),Zg1 d i j (by omega),if_neg (by omega)]at ih;have:=l_1a h V U (Zcb d i j r) (vals ((Zbz d i j).take r)) (by simp[Zcb];omega) (by rw[Zdt,Yp];omega) _ hr (by rw[wS hr (by omega)];exact ih) 0 (Ya _);simpa[allS,vals]using this
  .rw[e,if_neg (by decide),f_3a h,pivF (Zyt e)]
theorem l_2b(V U:Za):∀r,r<=i->0<r->Ziz d V (vals (pRow d i j)) (limV d i j) U (d.Basic.set i (d.Free.getD j 0)) (d.Free.set j (d.Basic.getD i 0)) false (Zcb d i j r) (vals ((Zbz d i j).take r)) i j (okU d i j r) r=some (Zcy d i j):=by
 have hm:=h.v.m;have hlc:=h.v.lc;have hll:=h.v.ll;have hn:=h.v.n;have hi:=h.hi;have hj:=h.hj;have hol:=Zd8 d i j;refine down _ ?_ ?_
 .intro hr;refine Zb20 _ _ _ _ _ _ _ _ _ _ _ _ _ _ _ ?_;rw[if_pos (by omega),wS (show i<d.Basic.length by omega) (by omega)];rcases ft (okU d i j i)with e|e
  .rw[e,if_pos rfl,if_pos rfl];have ih:=l_2a h V U (i+1) (by omega) (by omega);rw[Zh0 d i j (by omega),okU_i d (by omega) (by omega),e,if_pos rfl,Zfx (by omega),Zg1 d i j (by omega),if_pos rfl]at ih;exact⟨by simp[Zcb];omega,by rw[Zdt,Yp];omega,ih⟩
  .rw[e,if_neg (by decide),f_3d h,pivF (Zyt e)]
 .intro r hr ih hir;have hr':r<d.Basic.length:=by omega
  refine Zb20 _ _ _ _ _ _ _ _ _ _ _ _ _ _ _ ?_;rw[if_pos (by omega)];rcases ft (okU d i j r)with e|e
  .rw[e,if_pos rfl,if_neg (by omega)];have ih:=ih (by omega);rw[Zh0 d i j (by omega),Zjc d i j (by omega) (by omega),e,Ye,if_neg (by omega),if_neg (by omega),Zfx (by omega),Zg1 d i j (by omega),if_neg (by omega)]at ih;have:=l_1b h V U (Zcb d i j r) (vals ((Zbz d i j).take r)) (by simp[Zcb];omega) (by rw[Zdt,Yp];omega) _ hr' (by rw[wS hr' (by omega)];exact ih) 0 (Ya _);simpa[allS,vals]using this
  .rw[e,if_neg (by decide),f_3d h,pivF (Zyt e)]
theorem l_2(V U:Za):Zxm d V (vals (pRow d i j)) (limV d i j) U (d.Basic.set i (d.Free.getD j 0)) (d.Free.set j (d.Basic.getD i 0)) i j (okU d i j 0) 0=some (Zcy d i j):=by
 have hm:=h.v.m;have hlc:=h.v.lc;have hll:=h.v.ll;have hn:=h.v.n;have hi:=h.hi;have hj:=h.hj;have hol:=Zd8 d i j;refine Zcrb _ _ _ _ _ _ _ _ _ _ _ _ ?_;rw[if_pos (by omega)];have w1:w (0+1)=((0+1:Nat):Int):=by decide
 rcases ft (okU d i j 0)with e|e
 .rw[e,if_pos rfl];by_cases e0:i=0
  .rw[if_pos (by omega),w1];have ih:=l_2a h V U (0+1) (by omega) (by omega);have e2:(okU d i j 0 && (allS (pRow d i j) && (limO d i j).isSome))=okU d i j 0:=by rw[Z59,Bool.and_self]
   rw[Zh0 d i j (by omega),Zjc d i j (by omega) (by omega),if_pos e0.symm,if_pos e0.symm,e2,e,Zfx (by omega),Zg1 d i j (by omega),if_pos e0.symm]at ih;simpa[Zcb,vals,limV]using ih
  .rw[if_neg (by omega)];have ih:=l_2b h V U (0+1) (by omega) (by omega);rw[Zh0 d i j (by omega),Zjc d i j (by omega) (by omega),e,Ye,if_neg (by omega),if_neg (by omega),Zfx (by omega),Zg1 d i j (by omega),if_neg (by omega)]at ih;have:=l_1 h V U _ (show 0<d.Basic.length by omega) (by rw[show((0:Nat):Int)+1=0+1 from rfl,w1];simpa[Zcb,vals]using ih) 0 (Ya _);simpa[allS,vals]using this
 .rw[e,if_neg (by decide),f_3 h,pivF (Zyt e)]
theorem l_sp0(V:Za):∀k,k<=d.Free.length->Zkz d V (Zbk d i j) (vals ((pRow d i j).take k)) i j (allS ((pRow d i j).take k)) k=some (Zcy d i j):=by
 have hm:=h.v.m;have hlc:=h.v.lc;have hll:=h.v.ll;have hn:=h.v.n;have hi:=h.hi;have hj:=h.hj;have hol:=Zd8 d i j;have hpl:=h.plen;rw[Zdt]at hpl;obtain⟨hc1,hc2,hc3⟩:=Zey h.v hi hj;refine down _ ?_ ?_
 .refine Zb2v _ _ _ _ _ _ _ _ _ ?_;rw[if_neg (by omega),<-hpl,Yl];have fin:=l_2 h V ⟨0,0⟩;rw[Z59]at fin;refine⟨by omega,_,gRn (by omega),_,_,Z5v _ _,?_⟩;rcases ft (allS (pRow d i j))with e|e
  .rw[e,Ye]at fin;rw[e,if_pos rfl];exact⟨by omega,by omega,by omega,_,gDn hj,_,gDn hi,fin⟩
  .rw[e,Y4]at fin;rw[e,if_neg (by decide)];exact⟨by omega,by omega,by omega,_,gDn hj,_,gDn hi,fin⟩
 .intro k hk ih;refine Zb2v _ _ _ _ _ _ _ _ _ ?_;rw[if_pos (by omega),wS hk (by omega)];rw[Zfx (by omega),Zhz (by omega),show(pRow d i j).getD k none=_ from Zb44 (d.Cells.getD i []) j (by omega)]at ih;have hlen:(vals ((pRow d i j).take k)).length+1<=68719476736:=by rw[Zdt,Yp];omega
  refine⟨by omega,_,gCn (by omega),by omega,_,gRn (by omega),_,_,Z5v _ _,?_⟩;by_cases ej:k=j
  .rw[if_pos (by omega)];rw[if_pos ej]at ih;refine⟨_,Zdu 1,_,_,Z5v _ _,?_⟩;rcases ft (allS ((pRow d i j).take k))with e|e
   .rw[e,if_pos rfl];rw[e,Ye]at ih;exact⟨hlen,ih⟩
   .rw[e,if_neg (by decide)];rw[e,Y4]at ih;exact⟨hlen,ih⟩
  .rw[if_neg (by omega)];rw[if_neg ej]at ih;rcases ft (allS ((pRow d i j).take k))with e|e
   .rw[e,if_pos rfl];rw[e,Ye]at ih;exact⟨hlen,ih⟩
   .rw[e,if_neg (by decide)];rw[e,Y4]at ih;exact⟨hlen,ih⟩
theorem Zct8:Zri d i j=some (Zcy d i j):=by
 have hm:=h.v.m;have hlc:=h.v.lc;have hll:=h.v.ll;have hn:=h.v.n;have hi:=h.hi;have hj:=h.hj;have hol:=Zd8 d i j;refine Zcrg _ _ _ _ ⟨_,Zbj1 h.v,?_⟩;rw[if_pos rfl];refine⟨_,Z8 _ _ _,?_⟩;rw[w_in ⟨by omega,by omega⟩,show inR (i:Int) 0 ((d.Basic.length:Int)-1)=true from Zy.2 ⟨by omega,by omega⟩,if_pos rfl];refine⟨_,Z8 _ _ _,?_⟩;rw[w_in ⟨by omega,by omega⟩,show inR (j:Int) 0 ((d.Free.length:Int)-1)=true from Zy.2 ⟨by omega,by omega⟩,if_pos rfl];refine⟨by omega,_,gCn (by omega),by omega,_,(Zey h.v hi hj).2.2,?_⟩;rw[if_neg h.nz];have:=l_sp0 h ⟨0,0⟩ 0 (Ya _);simpa[allS,vals]using this
end
def coef(x:Int):Bool:=inR x (-9) 9
def Zh1(n:Nat)(r:List Int):Bool:=r.all coef && decide ((r.length:Int)=n)
def Zcz(p:Program):Bool:=inR p.Objective.length 1 15 && decide ((p.Rows.length:Int)<=64) && decide ((p.Rows.length:Int)=p.Limits.length) && (p.Objective.all coef && (p.Rows.all (Zh1 p.Objective.length) && p.Limits.all λx=>inR x 0 99))
structure LeP (p:Program):Prop where
 o:p.Objective.length<=1000
 r:p.Rows.length<=1000
 l:p.Limits.length<=1000
 row:∀r∈p.Rows,r.length<=1000
theorem Zoy{α:Type}(q:α->Bool){xs:List α}{i:Nat}(h:i<xs.length):(xs.drop i).all q=(q xs[i] && (xs.drop (i+1)).all q):=by
 rw[Yd h,Y5]
theorem l_iv2(l:List Int)(hl:l.length<=1000):∀i,i<=l.length->Zuy l l.length i=some (Bo ((l.drop i).all λx=>inR x 0 99),[]):=by
 refine down _ ?_ ?_
 .refine Zbz1 _ _ _ _ ?_;rw[if_neg (by omega),Yg];rfl
 .intro i hi ih;refine Zbz1 _ _ _ _ ?_;rw[if_pos (by omega),wS hi (by omega),Zoy _ hi];refine⟨by omega,_,gE hi,_,Zbu _ _ _,?_⟩;rcases ft (inR l[i] 0 99)with e|e
  .rw[e,if_pos rfl,Ye];exact ih
  .rw[e,if_neg (by decide)];rfl
theorem l_iv0(p:Program)(fr:Bool)(x:List (List Int))(n:Nat)(row:List Int)(hr:row.length<=1000)(j:Int)(b:Bool)(len:Int)(c:Zpx p fr x n len (w (j+1))=some (Bo b,[])):∀k,k<=row.length->Zux p fr x n row len j row row.length k=some (Bo ((row.drop k).all coef && decide ((row.length:Int)=n) && b),[]):=by
 refine down _ ?_ ?_
 .refine Zbz0 _ _ _ _ _ _ _ _ _ _ _ ?_;rw[if_neg (by omega),Yg,List.all_nil,Ye];by_cases e:(row.length:Int)=n
  .rw[if_pos e,decide_eq_true e,Ye];exact c
  .rw[if_neg e,decide_eq_false e];rfl
 .intro k hk ih;refine Zbz0 _ _ _ _ _ _ _ _ _ _ _ ?_;rw[if_pos (by omega),wS hk (by omega),Zoy _ hk];refine⟨by omega,_,gE hk,_,Zbu _ _ _,?_⟩;rw[show inR row[k] (-9) 9=coef row[k]from rfl];rcases ft (coef row[k])with e|e
  .rw[e,if_pos rfl,Ye];exact ih
  .rw[e,if_neg (by decide)];rfl
theorem l_iv1(p:Program)(fr:Bool)(x:List (List Int))(n:Nat)(hx:x.length<=1001)(hr:∀r∈x,r.length<=1000)(hl:p.Limits.length<=1000):∀i,i<=x.length->Zpx p fr x n x.length i=some (Bo ((x.drop i).all (Zh1 n) && p.Limits.all λy=>inR y 0 99),[]):=by
 refine down _ ?_ ?_
 .refine Zbzz _ _ _ _ _ _ _ ?_;rw[if_neg (by omega),Yg,List.all_nil,Ye];simpa using l_iv2 p.Limits hl 0 (Ya _)
 .intro i hi ih;refine Zbzz _ _ _ _ _ _ _ ?_;rw[if_pos (by omega),Zoy _ hi];refine⟨by omega,_,gE hi,?_⟩;have:=l_iv0 p fr x n x[i] (hr _ (Yb hi)) i _ x.length (by rw[wS hi (by omega)];exact ih) 0 (Ya _);rw[Yq]at this;rw[show Zh1 n x[i]=(x[i].all coef && decide ((x[i].length:Int)=n))from rfl,Bool.and_assoc];exact this
theorem Zb5a{p:Program}(h:LeP p):Zmn p=some (Bo (Zcz p),[]):=by
 have h1:=h.o;have h2:=h.r;have h3:=h.l;refine Zcnq _ _ ⟨_,Zbu _ _ _,?_⟩;unfold Zcz;rcases ft (inR (p.Objective.length:Int) 1 15)with e|e
 .rw[e,if_pos rfl,Ye];by_cases e2:64<(p.Rows.length:Int)
  .rw[if_pos e2,decide_eq_false (by omega)];rfl
  rw[if_neg e2,decide_eq_true (show(p.Rows.length:Int)<=64 by omega),Ye];by_cases e3:(p.Limits.length:Int)=(p.Rows.length:Int)
  .rw[if_pos e3,decide_eq_true e3.symm,Ye];refine⟨by omega,by omega,?_⟩
   have:=l_iv1 p false (p.Rows++[p.Objective]) p.Objective.length (by simp;omega) (by
    intro r hr;rcases Yi.1 hr with hr|hr
    .exact h.row r hr
    .rw[List.mem_singleton.1 hr];exact h1) h3 0 (Ya _)
   rw[Yq,List.all_append]at this;rw[show(((0:Nat):Int))=0 from rfl]at this;rw[this];have e4:[p.Objective].all (Zh1 p.Objective.length)=p.Objective.all coef:=by simp[Zh1]
   rw[e4];generalize p.Rows.all (Zh1 p.Objective.length)=a;generalize p.Objective.all coef=b;generalize (p.Limits.all λy=>inR y 0 99)=c;cases a<;>cases b<;>cases c<;>rfl
  .rw[if_neg e3,decide_eq_false (λhc=>e3 hc.symm)];rfl
 .rw[e,if_neg (by decide)];rfl
def chk(n:Nat):List (List Int)->List Int->Bool
 |r::rs,l::ls=>decide ((r.length:Int)=n) && (inR l 0 99 && (r.all coef && chk n rs ls))
 |_,_=>true
theorem chk_eq(n:Nat):∀(rs:List (List Int)) (ls:List Int),rs.length=ls.length->chk n rs ls=(rs.all (Zh1 n) && ls.all λx=>inR x 0 99)
 |[],[],_=>rfl
 |r::rs,l::ls,h=>by
  unfold chk;rw[chk_eq n rs ls (by simpa using h),Y5,Y5];unfold Zh1;generalize decide ((r.length:Int)=n)=a;generalize inR l 0 99=b;generalize r.all coef=c;generalize (rs.all λr=>r.all coef && decide ((r.length:Int)=n))=d;generalize (ls.all λx=>inR x 0 99)=e
  cases a<;>cases b<;>cases c<;>cases d<;>cases e<;>rfl
 |[],_::_,h=>by cases h
 |_::_,[],h=>by cases h
theorem l_sv1(p:Program){i:Nat}(hi:i<p.Rows.length)(hr:p.Rows[i].length=p.Objective.length)(ho:p.Objective.length<=1000)(b:Bool)(c:Zrf p p.Objective.length (w ((i:Int)+1))=some (Bo b,[])):∀k,k<=p.Objective.length->Zw7 p p.Objective.length i k=some (Bo ((p.Rows[i].drop k).all coef && b),[]):=by
 refine down _ ?_ ?_
 .refine Zb2i _ _ _ _ _ ?_;rw[if_neg (by omega),<-hr,Yg,List.all_nil,Ye,hr];exact c
 .intro k hk ih;refine Zb2i _ _ _ _ _ ?_;rw[if_pos (by omega),wS hk (by omega),Zoy _ (by omega)];refine⟨by omega,_,gE hi,by omega,_,gE (by omega),_,Z8 _ _ _,?_⟩;rw[show inR p.Rows[i][k] (-9) 9=coef p.Rows[i][k]from rfl];rcases ft (coef p.Rows[i][k])with e|e
  .rw[e,if_pos rfl,Ye];exact ih
  .rw[e,if_neg (by decide)];rfl
theorem l_sv2(p:Program)(h:LeP p)(hl:p.Rows.length=p.Limits.length):∀i,i<=p.Rows.length->Zrf p p.Objective.length i=some (Bo (chk p.Objective.length (p.Rows.drop i) (p.Limits.drop i)),[]):=by
 have h1:=h.o;have h2:=h.r;refine down _ ?_ ?_
 .refine Zb2h _ _ _ _ ?_;rw[if_neg (by omega),Yg];rfl
 .intro i hi ih;have hi2:i<p.Limits.length:=by omega
  refine Zb2h _ _ _ _ ?_;rw[if_pos (by omega),Yd hi,Yd hi2,chk];refine⟨by omega,_,gE hi,?_⟩;by_cases e:(p.Rows[i].length:Int)=p.Objective.length
  .rw[if_pos e,decide_eq_true e,Ye];refine⟨_,gE hi2,_,Z8 _ _ _,?_⟩;rcases ft (inR p.Limits[i] 0 99)with e2|e2
   .rw[e2,if_pos rfl,Ye];have:=l_sv1 p hi (by omega) h1 _ (by rw[wS hi (by omega)];exact ih) 0 (Ya _);rw[Yq]at this;exact this
   .rw[e2,if_neg (by decide)];rfl
  .rw[if_neg e,decide_eq_false e];rfl
theorem l_sv0(p:Program)(h:LeP p)(hl:p.Rows.length=p.Limits.length):∀k,k<=p.Objective.length->Zw6 p p.Objective.length k=some (Bo ((p.Objective.drop k).all coef && chk p.Objective.length p.Rows p.Limits),[]):=by
 have h1:=h.o;refine down _ ?_ ?_
 .refine Zb2g _ _ _ _ ?_;rw[if_neg (by omega),Yg,List.all_nil,Ye];simpa using l_sv2 p h hl 0 (Ya _)
 .intro k hk ih;refine Zb2g _ _ _ _ ?_;rw[if_pos (by omega),wS hk (by omega),Zoy _ hk];refine⟨by omega,_,gE hk,_,Z8 _ _ _,?_⟩;rw[show inR p.Objective[k] (-9) 9=coef p.Objective[k]from rfl];rcases ft (coef p.Objective[k])with e|e
  .rw[e,if_pos rfl,Ye];exact ih
  .rw[e,if_neg (by decide)];rfl
theorem Zb5b{p:Program}(h:LeP p):Zw5 p=some (Bo (Zcz p),[]):=by
 refine Zcqs _ _ ⟨_,Z8 _ _ _,?_⟩;unfold Zcz;rcases ft (inR (p.Objective.length:Int) 1 15)with e|e
 .rw[e,if_pos rfl,Ye];by_cases e2:64<(p.Rows.length:Int)
  .rw[if_pos e2,decide_eq_false (by omega)];rfl
  rw[if_neg e2,decide_eq_true (show(p.Rows.length:Int)<=64 by omega),Ye];by_cases e3:(p.Rows.length:Int)=(p.Limits.length:Int)
  .rw[if_pos e3,decide_eq_true e3,Ye];have:=l_sv0 p h (by omega) 0 (Ya _);rw[Yq,chk_eq _ _ _ (by omega)]at this;exact this
  .rw[if_neg e3,decide_eq_false e3];rfl
 .rw[e,if_neg (by decide)];rfl
def wh(l:List Int):List Za:=l.map λn=>⟨n,1⟩
def Zdv(n:Nat):List Int:=(List.range n).map λk:Nat=>(k:Int)
def basN(n m:Nat):List Int:=(List.range m).map λi:Nat=>(n:Int)+i
def Zcc(p:Program):Zm:=⟨basN p.Objective.length p.Rows.length,Zdv p.Objective.length,p.Rows.map wh,wh p.Limits,wh p.Objective,⟨0,1⟩⟩
theorem Zb5c(n:Nat):Zdv (n+1)=Zdv n++[(n:Int)]:=by simp[Zdv,Ybs]
theorem Zbj8(n m:Nat):basN n (m+1)=basN n m++[(n:Int)+m]:=by simp[basN,Ybs]
theorem Zr5(n:Nat):(Zdv n).length=n:=by simp[Zdv]
theorem Zyu(n m:Nat):(basN n m).length=m:=by simp[basN]
theorem Zn2{l:List Int}{i:Nat}(h:i<l.length):wh (l.take (i+1))=wh (l.take i)++[⟨l[i],1⟩]:=by
 unfold wh;rw[Y1 h,Y0];rfl
theorem Zlj(l:List Int):(wh l).length=l.length:=by simp[wh]
theorem l_wholes(l:List Int)(hl:l.length<=1000):∀i,i<=l.length->Zuz (wh (l.take i)) l l.length i=some (.own 0,[.arr 149 2 true ((wh l).map Za.c)]):=by
 refine down _ ?_ ?_
 .refine Zbz2 _ _ _ _ _ ?_;rw[if_neg (by omega),Yl]
 .intro i hi ih;refine Zbz2 _ _ _ _ _ ?_;rw[if_pos (by omega),wS hi (by omega)];rw[Zn2 hi]at ih;exact⟨by omega,_,gE hi,_,Zbj5 _,by rw[Zlj,Yp];omega,ih⟩
theorem Zr6{l:List Int}(hl:l.length<=1000):Zgd l=some (.own 0,[.arr 149 2 true ((wh l).map Za.c)]):=Zcns _ _ (by simpa[wh]using l_wholes l hl 0 (Ya _))
theorem Z6a{l:List (List Int)}{i:Nat}(h:i<l.length):(l.take (i+1)).map wh=(l.take i).map wh++[wh l[i]]:=by
 rw[Y1 h,Y0];rfl
theorem wAdd{n i:Nat}(hn:n<=1000)(hi:i<=1000):w ((n:Int)+(i:Int))=(n:Int)+i:=w_in ⟨by omega,by omega⟩
section
variable{p:Program}(h:LeP p)(hm:p.Rows≠[])(hn:p.Objective≠[])
include h hm hn
theorem l_iid1(V V1:Za)(F:List Int)(L K:List Za):∀i,i<=p.Rows.length->0<i->Zu5 V V1 (basN p.Objective.length i) F ((p.Rows.take i).map wh) L K p.Objective.length p.Rows p.Rows.length i=some (Zjb true ⟨basN p.Objective.length p.Rows.length,F,p.Rows.map wh,L,K,V1⟩):=by
 have h1:=h.o;have h2:=h.r;refine down _ ?_ ?_
 .intro _;refine Zbz6 _ _ _ _ _ _ _ _ _ _ _ _ ?_;rw[if_neg (by omega),Yl];rfl
 .intro i hi ih h0;refine Zbz6 _ _ _ _ _ _ _ _ _ _ _ _ ?_;rw[if_pos (by omega),wS hi (by omega),wAdd h1 (by omega)];have ih:=ih (by omega);rw[Zbj8,Z6a hi]at ih;exact⟨by omega,_,gE hi,by rw[Zyu];omega,_,Zr6 (h.row _ (Yb hi)),by rw[Yo,Yp];omega,ih⟩
theorem l_iid0(V V1:Za)(L K:List Za):∀k,k<=p.Objective.length->0<k->Zu4 p V V1 (Zdv k) L K p.Objective.length k=some (Zjb true ⟨basN p.Objective.length p.Rows.length,Zdv p.Objective.length,p.Rows.map wh,L,K,V1⟩):=by
 have h1:=h.o;have h2:=h.r;refine down _ ?_ ?_
 .intro _;refine Zbz5 _ _ _ _ _ _ _ _ _ ?_;rw[if_neg (by omega)];have hp:0<p.Rows.length:=Yba.2 hm;refine Zcnu _ _ _ _ _ _ _ _ _ _ ?_;rw[if_pos (by omega),show w (0+1)=((0+1:Nat):Int) by decide];have:=l_iid1 h hm hn V V1 (Zdv p.Objective.length) L K (0+1) (by omega) (by omega);rw[Z6a hp]at this;have e:basN p.Objective.length (0+1)=[w ((p.Objective.length:Int)+0)]:=by
   have:=wAdd (n:=p.Objective.length) (i:=0) h1 (by omega);rw[show((0:Nat):Int)=0 from rfl]at this;rw[this];simp[basN]
  rw[e]at this;exact⟨by omega,_,gE (i:=0) hp,_,Zr6 (h.row _ (Yb hp)),by simpa using this⟩
 .intro k hk ih h0;refine Zbz5 _ _ _ _ _ _ _ _ _ ?_;rw[if_pos (by omega),wS hk (by omega)];have ih:=ih (by omega);rw[Zb5c]at ih;exact⟨by rw[Zr5];omega,ih⟩
theorem Zct9:Zu3 p=some (if Zcz p=true then Zjb true (Zcc p)else Zli):=by
 have h1:=h.o;refine Zcnv _ _ ⟨_,Zb5a h,?_⟩;rcases ft (Zcz p)with e|e
 .rw[e,if_pos rfl,if_pos rfl];refine⟨_,Zr6 h.l,_,Zr6 h.o,_,Zbj5 0,?_⟩;have hp:0<p.Objective.length:=Yba.2 hn;refine Zcnt _ _ _ _ _ _ _ _ ?_;rw[if_pos (by omega),show w (0+1)=((0+1:Nat):Int) by decide];exact l_iid0 h hm hn ⟨0,0⟩ ⟨0,1⟩ (wh p.Limits) (wh p.Objective) (0+1) (by omega) (by omega)
 .rw[e,if_neg (by decide),if_neg (by decide)];rfl
end
structure OkP (p:Program):Prop where
 o:1<=p.Objective.length/\p.Objective.length<=15
 r:p.Rows.length<=64
 l:p.Rows.length=p.Limits.length
 row:∀r∈p.Rows,r.length=p.Objective.length
 lim:∀x∈p.Limits,0<=x/\x<=99
 cs:(∀x∈p.Objective,coef x=true)/\∀r∈p.Rows,∀x∈r,coef x=true
theorem Zyv{p:Program}(h:Zcz p=true):OkP p:=by
 unfold Zcz at h;simp only[Yc,decide_eq_true_eq]at h;obtain⟨⟨⟨h1,h2⟩,h3⟩,h4,h5,h6⟩:=h;have h1:=Zy.1 h1;refine⟨by omega,by omega,by omega,λr hr=>?_,λx hx=>Zy.1 (Yn.1 h6 x hx),λx hx=>Yn.1 h4 x hx,λr hr x hx=>?_⟩
 .have:=Yn.1 h5 r hr;unfold Zh1 at this;simp only[Yc,decide_eq_true_eq]at this;omega
 .have:=Yn.1 h5 r hr;unfold Zh1 at this;simp only[Yc,decide_eq_true_eq]at this;exact Yn.1 this.1 x hx
section
variable{p:Program}(h:OkP p)(hm:p.Rows≠[])
include h hm
omit hm in
theorem l_row1a(V V1:Za)(F:List Int)(K:List Za)(res:AV×List Blk){i:Nat}(hi:i<p.Rows.length)(c:Znl p V V1 ([w ((p.Objective.length:Int)+i)]) F ([wh p.Rows[i]]) ([⟨p.Limits.getD i 0,1⟩]) K p.Objective.length (w ((i:Int)+1))=some res):∀k,k<=p.Objective.length->Zxa p V V1 F K (wh (p.Rows[i].take k)) p.Objective.length i k=some res:=by
 have h1:=h.o;have h2:=h.r;have hl:=h.l;have hr:=h.row _ (Yb hi);refine down _ ?_ ?_
 .refine Zb2l _ _ _ _ _ _ _ _ _ _ ?_;rw[if_neg (by omega),<-hr,Yl,hr];exact⟨by omega,_,gDn (by omega),_,Zdu _,c⟩
 .intro k hk ih;refine Zb2l _ _ _ _ _ _ _ _ _ _ ?_;rw[if_pos (by omega),wS hk (by omega)];rw[Zn2 (by omega)]at ih;exact⟨by omega,_,gE hi,by omega,_,gE (by omega),_,Zdu _,by rw[Zlj,Yp];omega,ih⟩
omit hm in
theorem l_row1c(V V1:Za)(B F:List Int)(C:List (List Za))(L K:List Za)(hB:B.length<=1000/\C.length<=1000/\L.length<=1000)(res:AV×List Blk){i:Nat}(hi:i<p.Rows.length)(c:Znl p V V1 (B++[w ((p.Objective.length:Int)+i)]) F (C++[wh p.Rows[i]]) (L++[⟨p.Limits.getD i 0,1⟩]) K p.Objective.length (w ((i:Int)+1))=some res):∀k,k<=p.Objective.length->Zxb p V V1 B F C L K (wh (p.Rows[i].take k)) p.Objective.length i k=some res:=by
 have h1:=h.o;have h2:=h.r;have hl:=h.l;have hr:=h.row _ (Yb hi);refine down _ ?_ ?_
 .refine Zb2n _ _ _ _ _ _ _ _ _ _ _ _ _ ?_;rw[if_neg (by omega),<-hr,Yl,hr];exact⟨by omega,by omega,by omega,_,gDn (by omega),_,Zdu _,by omega,c⟩
 .intro k hk ih;refine Zb2n _ _ _ _ _ _ _ _ _ _ _ _ _ ?_;rw[if_pos (by omega),wS hk (by omega)];rw[Zn2 (by omega)]at ih;exact⟨by omega,_,gE hi,by omega,_,gE (by omega),_,Zdu _,by rw[Zlj,Yp];omega,ih⟩
omit h hm in
theorem getI{l:List Int}{i:Nat}(h:i<l.length):l[i]=l.getD i 0:=by
 rw[Yy,Yj h];rfl
omit hm in
theorem l_row2c(V V1:Za)(F:List Int)(K:List Za):∀i,i<=p.Rows.length->0<i->Znl p V V1 (basN p.Objective.length i) F ((p.Rows.take i).map wh) (wh (p.Limits.take i)) K p.Objective.length i=some (Zjb true ⟨basN p.Objective.length p.Rows.length,F,p.Rows.map wh,wh p.Limits,K,V1⟩):=by
 have h1:=h.o;have h2:=h.r;have hl:=h.l;refine down _ ?_ ?_
 .intro _;refine Zb2m _ _ _ _ _ _ _ _ _ _ _ ?_;rw[if_neg (by omega),Yl,hl,Yl];rfl
 .intro i hi ih h0;refine Zb2m _ _ _ _ _ _ _ _ _ _ _ ?_;rw[if_pos (by omega)];have ih:=ih (by omega);rw[Zbj8,Z6a hi,Zn2 (by omega),getI (by omega)]at ih;have:=l_row1c h V V1 (basN p.Objective.length i) F ((p.Rows.take i).map wh) (wh (p.Limits.take i)) K (by rw[Zyu,Yo,Yp,Zlj,Yp];omega) _ hi (by rw[wS hi (by omega),wAdd (by omega) (by omega)];exact ih) 0 (Ya _);simpa[wh]using this
theorem l_row0a(V V1:Za):∀k,k<=p.Objective.length->0<k->Zw9 p V V1 (Zdv k) (wh (p.Objective.take k)) p.Objective.length k=some (Zjb true ⟨basN p.Objective.length p.Rows.length,Zdv p.Objective.length,p.Rows.map wh,wh p.Limits,wh p.Objective,V1⟩):=by
 have h1:=h.o;have h2:=h.r;have hl:=h.l;refine down _ ?_ ?_
 .intro _;refine Zb2k _ _ _ _ _ _ _ _ ?_;rw[if_neg (by omega),Yl];have hp:0<p.Rows.length:=Yba.2 hm;refine Zcqv _ _ _ _ _ _ _ _ ?_;rw[if_pos (by omega)];have ih:=l_row2c h V V1 (Zdv p.Objective.length) (wh p.Objective) (0+1) (by omega) (by omega);rw[Zbj8,Z6a hp,Zn2 (by omega),getI (by omega)]at ih;have:=l_row1a h V V1 (Zdv p.Objective.length) (wh p.Objective) (Zjb true ⟨basN p.Objective.length p.Rows.length,Zdv p.Objective.length,p.Rows.map wh,wh p.Limits,wh p.Objective,V1⟩) hp (by rw[wS hp (by omega),wAdd (by omega) (by omega)];simpa[basN,wh]using ih) 0 (Ya _);simpa[wh]using this
 .intro k hk ih h0;refine Zb2k _ _ _ _ _ _ _ _ ?_;rw[if_pos (by omega),wS hk (by omega)];have ih:=ih (by omega);rw[Zb5c,Zn2 hk]at ih;exact⟨by rw[Zr5];omega,by omega,_,gE hk,_,Zdu _,by rw[Zlj,Yp];omega,ih⟩
end
theorem Zcua{p:Program}(h:LeP p)(hm:p.Rows≠[]):Zw8 p=some (if Zcz p=true then Zjb true (Zcc p)else Zli):=by
 refine Zcqw _ _ ⟨_,Zb5b h,?_⟩;rcases ft (Zcz p)with e|e
 .rw[e,if_pos rfl,if_pos rfl];have ho:=Zyv e;have h1:=ho.o;refine⟨_,Zdu 0,?_⟩;refine Zcqu _ _ _ _ _ _ ?_;rw[if_pos (by omega),show w (0+1)=((0+1:Nat):Int) by decide];have:=l_row0a ho hm ⟨0,0⟩ ⟨0,1⟩ (0+1) (by omega) (by omega);rw[Zn2 (show 0<p.Objective.length by omega)]at this;exact⟨by omega,_,gE (i:=0) (by omega),_,Zdu _,by simpa[Zdv,wh,Zcc]using this⟩
 .rw[e,if_neg (by decide),if_neg (by decide)];rfl
theorem vR_wh{x:Int}(h:-2147483647<=x/\x<=2147483647):vR ⟨x,1⟩=true:=Zev.2 ⟨by simp only;omega,by simp only;omega,by simp⟩
theorem wh_v{l:List Int}(h:∀x∈l,-2147483647<=x/\x<=2147483647):allV (wh l):=by
 intro r hr;obtain⟨x,hx,rfl⟩:=Yr.1 hr;exact vR_wh (h x hx)
theorem Zb5d{x:Int}(h:coef x=true):-2147483647<=x/\x<=2147483647:=by have:=Zy.1 h;omega
theorem Zbj9{p:Program}(h:OkP p):Good (Zcc p):=by
 have h1:=h.o;have h2:=h.r;refine⟨⟨by simp[Zcc,basN];omega,by simp[Zcc,Zdv];omega,by simp[Zcc,basN],by simp[Zcc,basN,wh,h.l],by simp[Zcc,Zdv,wh],?_,?_,?_,?_,v0⟩,?_,by simp[Zcc]⟩
 .intro v hv;simp only[Zcc,Zyu,Zr5]at hv;simp only[Zcc,Yi];rcases Ybi v p.Objective.length with hl|hl
  .right;exact Yr.2 ⟨v,Ybo.2 hl,rfl⟩
  .left;exact Yr.2 ⟨v-p.Objective.length,Ybo.2 (by omega),by omega⟩
 .intro r hr;obtain⟨x,hx,rfl⟩:=Yr.1 hr;refine⟨?_,wh_v λy hy=>Zb5d (h.cs.2 x hx y hy)⟩;rw[Zlj];simp[Zcc,Zr5,h.row x hx]
 .exact wh_v λx hx=>by have:=h.lim x hx;omega
 .exact wh_v λx hx=>Zb5d (h.cs.1 x hx)
 .intro r hr;obtain⟨x,hx,rfl⟩:=Yr.1 hr;exact(h.lim x hx).1
def failS:AV×List Blk:=(.tup [.agg [I 0,I 0,.own 0,.own 1],Bo false],[.arr 149 2 true (([]:List Za).map Za.c),.arr 149 2 true (([]:List Za).map Za.c)])
def solR(v:Za)(P D:List Za):AV×List Blk:=(.tup [.agg [I v.Num,I v.Den,.own 0,.own 1],Bo true],[.arr 149 2 true (P.map Za.c),.arr 149 2 true (D.map Za.c)])
def Ans(o:Option Zm)(r:Rs):Prop:=match o with
 |none=>r=some failS
 |some d=>∃P D:List Za,r=some (solR d.Value P D)
structure Fits (p:Program) (d:Zm):Prop where
 g:Good d
 m:d.Basic.length=p.Rows.length
 n:d.Free.length=p.Objective.length
theorem setR{xs:List Za}{k:Int}(h0:0<=k)(h:k<xs.length):∃e,xs[k.toNat]?=some e:=⟨_,gR (i:=k.toNat) (by omega)⟩
theorem l_isol2{p:Program}{d:Zm}(h:Fits p d)(V:Za):∀i,i<=d.Free.length->∀x x1:List Za,x1.length=p.Rows.length->∃P D:List Za,Zp1 V d d.Value x x1 p.Objective.length d.Free d.Free.length i=some (solR d.Value P D):=by
 have hv:=Z5r h.g.v;have h1:=h.g.v.n;have h2:=h.g.v.m;have h3:=h.m;have h4:=h.n;have hlk:=h.g.v.lk;refine down _ ?_ ?_
 .intro x x1 hx;refine⟨x,x1,Zbjc _ _ _ _ _ _ _ _ _ _ ?_⟩;rw[if_neg (by omega)];rfl
 .intro i hi ih x x1 hx;have hb:=hv d.Free[i] (Yci _ (Yb hi));by_cases c:(p.Objective.length:Int)<=d.Free[i]
  .obtain⟨P,D,hPD⟩:=ih x (x1.set (d.Free[i]-p.Objective.length).toNat (nR (d.Costs.getD i r0))) (by rw[Y9];exact hx);refine⟨P,D,Zbjc _ _ _ _ _ _ _ _ _ _ ?_⟩;have hw:w (d.Free[i]-p.Objective.length)=d.Free[i]-p.Objective.length:=w_in ⟨by omega,by omega⟩;obtain⟨e,he⟩:=setR (xs:=x1) (k:=d.Free[i]-p.Objective.length) (by omega) (by omega);rw[if_pos (by omega),wS hi (by omega)];refine⟨by omega,_,gE hi,?_⟩;rw[if_pos c];refine⟨_,gRn (by omega),_,Zlb (Zlc (Zgl h.g.v.vk (by omega))),?_⟩;rw[hw];exact⟨by omega,_,he,hPD⟩
  .obtain⟨P,D,hPD⟩:=ih x x1 hx;refine⟨P,D,Zbjc _ _ _ _ _ _ _ _ _ _ ?_⟩;rw[if_pos (by omega),wS hi (by omega)];refine⟨by omega,_,gE hi,?_⟩;rw[if_neg c];exact hPD
theorem l_isol1{p:Program}{d:Zm}(h:Fits p d)(V:Za):∀i,i<=d.Basic.length->∀x x1:List Za,x.length=p.Objective.length->x1.length=p.Rows.length->∃P D:List Za,Zmt V d d.Value x x1 p.Objective.length d.Basic d.Basic.length i=some (solR d.Value P D):=by
 have hv:=Z5r h.g.v;have h1:=h.g.v.n;have h2:=h.g.v.m;have h3:=h.m;have h4:=h.n;have hll:=h.g.v.ll;refine down _ ?_ ?_
 .intro x x1 hx hx1;obtain⟨P,D,hPD⟩:=l_isol2 h V 0 (Ya _) x x1 hx1;refine⟨P,D,Zbjb _ _ _ _ _ _ _ _ _ _ ?_⟩;rw[if_neg (by omega)];exact hPD
 .intro i hi ih x x1 hx hx1;have hb:=hv d.Basic[i] (Ych _ (Yb hi));by_cases c:d.Basic[i]<(p.Objective.length:Int)
  .obtain⟨P,D,hPD⟩:=ih (x.set d.Basic[i].toNat (d.Limits.getD i r0)) x1 (by rw[Y9];exact hx) hx1;refine⟨P,D,Zbjb _ _ _ _ _ _ _ _ _ _ ?_⟩;obtain⟨e,he⟩:=setR (xs:=x) (k:=d.Basic[i]) (by omega) (by omega);rw[if_pos (by omega),wS hi (by omega)];refine⟨by omega,_,gE hi,?_⟩;rw[if_pos c];exact⟨_,gRn (by omega),by omega,_,he,hPD⟩
  .obtain⟨P,D,hPD⟩:=ih x x1 hx hx1;refine⟨P,D,Zbjb _ _ _ _ _ _ _ _ _ _ ?_⟩;rw[if_pos (by omega),wS hi (by omega)];refine⟨by omega,_,gE hi,?_⟩;rw[if_neg c];exact hPD
theorem Zlk{n:Nat}(h:n<=1000):n*8<=room:=by unfold room;omega
theorem Zb5e{p:Program}{d:Zm}(h:Fits p d)(h1:¬ent d<0)(h2:¬lea d (ent d).toNat<0)(ok:okO d (lea d (ent d).toNat).toNat (ent d).toNat=true):Fits p (Zbs d (lea d (ent d).toNat).toNat (ent d).toNat) :=
 ⟨Zb4b h.g h1 h2 ok,by simp[Zbs,h.m],by simp[Zbs,h.n]⟩
theorem Zb5f{d:Zm}(h:Good d)(h1:¬ent d<0)(h2:¬lea d (ent d).toNat<0):PivC d (lea d (ent d).toNat).toNat (ent d).toNat:=by
 have hk:=h.v.lk;rcases Z5p d with e|⟨e1,e2,e3⟩
 .omega
 rcases lea_ok d (ent d).toNat with l|⟨l1,l2,l3,l4⟩
 .omega
 refine⟨h.v,by omega,by omega,?_⟩;unfold onD at l3;omega
theorem l_isol0{p:Program}(V:Za):∀(f:Nat) (d:Zm),Fits p d->1<=f->f<=300->Ans (Zfv f d) (Zge p V d (300-(f:Int))):=by
 intro f
 induction f with
 |zero=>intro d h hf;omega
 |succ f ih =>
  intro d h hf hf2;have hk:=h.g.v.lk;have hnn:=h.n;have hmm:=h.m;have hv1:=h.g.v.n;have hv2:=h.g.v.m;unfold Zfv;by_cases h1:ent d<0
  .rw[if_pos h1];obtain⟨P,D,hPD⟩:=l_isol1 h V 0 (Ya _) (wh (List.replicate p.Objective.length 0)) (wh (List.replicate p.Rows.length 0)) (by rw[Zlj,Ybu]) (by rw[Zlj,Ybu]);refine⟨P,D,Zyi ⟨_,Zys h.g.v,?_⟩⟩;rw[if_neg (by omega),Yh,Yh];exact⟨by omega,by omega,Zlk (by omega),by omega,_,Zr6 (by rw[Ybu];omega),by omega,by omega,Zlk (by omega),by omega,_,Zr6 (by rw[Ybu];omega),hPD⟩
  rw[if_neg h1];obtain⟨j,hj⟩:∃j:Nat,ent d=j:=⟨(ent d).toNat,by omega⟩;have hjn:j<d.Free.length:=by
   rcases Z5p d with e|⟨e1,e2,e3⟩<;>omega
  by_cases h2:lea d (ent d).toNat<0
  .rw[if_pos h2];rw[hj,Yh]at h2;refine Zyi ⟨_,Zys h.g.v,?_⟩;rw[if_pos (by omega),hj];refine⟨_,Z56 h.g.v hjn,?_⟩;rw[if_pos h2];rfl
  rw[if_neg h2];have hP:=Zct6 (Zb5f h.g h1 h2);have hst:=Zb5e h h1 h2;rw[hj,Yh]at h2 hP hst|-;obtain⟨i,hi⟩:∃i:Nat,lea d j=i:=⟨(lea d j).toNat,by omega⟩;rw[hi,Yh]at hP hst|-
  cases f with
  |zero =>
   have:(if okO d i j=true then Zfv 0 (Zbs d i j)else none)=none:=by split<;>rfl
   rw[this];refine Zyi ⟨_,Zys h.g.v,?_⟩;rw[hj,if_pos (by omega)];refine⟨_,Z56 h.g.v hjn,?_⟩
   rw[hi,if_neg (by omega),if_pos (by omega)];rfl
  |succ f =>
   have hwr:w ((300-((f+1+1:Nat):Int))+1)=300-((f+1:Nat):Int):=by rw[w_in ⟨by omega,by omega⟩];omega
   unfold Zcy at hP;rcases ft (okO d i j)with ok|ok
   .rw[ok,if_pos rfl]at hP|-;have ih:=ih (Zbs d i j) (hst ok) (by omega) (by omega);have key:∀r,Zge p V (Zbs d i j) (300-((f+1:Nat):Int))=some r->Zge p V d (300-((f+1+1:Nat):Int))=some r:=by
     intro r hr;refine Zyi ⟨_,Zys h.g.v,?_⟩;rw[hj,if_pos (by omega)];refine⟨_,Z56 h.g.v hjn,?_⟩;rw[hi,if_neg (by omega),if_neg (by omega)];refine .inr ⟨_,_,_,_,_,_,_,hP,?_⟩;rw[hwr];exact hr
    cases hs:Zfv (f+1) (Zbs d i j)with
    |none=>rw[hs]at ih;exact key _ ih
    |some d'=>rw[hs]at ih;obtain⟨P,D,hPD⟩:=ih;exact⟨P,D,key _ hPD⟩
   .rw[ok,if_neg (by decide)]at hP|-;refine Zyi ⟨_,Zys h.g.v,?_⟩;rw[hj,if_pos (by omega)];refine⟨_,Z56 h.g.v hjn,?_⟩;rw[hi,if_neg (by omega),if_neg (by omega)];refine .inl ⟨[],[],[],[],[],r0,false,hP,?_⟩;rw[if_neg (by decide)];rfl
def lpV(p:Program):Option Zm:=if Zcz p=true then Zfv 300 (Zcc p)else none
theorem Zcub{p:Program}(h:LeP p)(hm:p.Rows≠[])(hn:p.Objective≠[]):Ans (lpV p) (Zvg p):=by
 have hI:=Zct9 h hm hn;unfold lpV;rcases ft (Zcz p)with e|e
 .rw[e,if_pos rfl]at hI|-;have ho:=Zyv e;have hs:=l_isol0 (p:=p) ⟨0,0⟩ 300 (Zcc p) ⟨Zbj9 ho,by simp[Zcc,Zyu],by simp[Zcc,Zr5]⟩ (by omega) (by omega);have key:∀r,Zge p ⟨0,0⟩ (Zcc p) (300-((300:Nat):Int))=some r->Zvg p=some r:=by
   intro r hr;refine Zb0f _ _ ⟨_,_,_,_,_,_,_,hI,?_⟩;rw[if_pos rfl];exact hr
  cases hs':Zfv 300 (Zcc p)with
  |none=>rw[hs']at hs;exact key _ hs
  |some d'=>rw[hs']at hs;obtain⟨P,D,hPD⟩:=hs;exact⟨P,D,key _ hPD⟩
 .rw[e,if_neg (by decide)]at hI|-;refine Zb0f _ _ ⟨[],[],[],[],[],r0,false,hI,?_⟩;rw[if_neg (by decide)];rfl
section
variable{p:Program}{d:Zm}(h:Fits p d)(hm:p.Rows≠[])
include h
theorem l_ss3(V:Za):∀i,i<=d.Free.length->∀x x1:List Za,x1.length=p.Rows.length->∃P D:List Za,Zrm p V d d.Value x x1 i=some (solR d.Value P D):=by
 have hv:=Z5r h.g.v;have h1:=h.g.v.n;have h2:=h.g.v.m;have h3:=h.m;have h4:=h.n;have hlk:=h.g.v.lk;refine down _ ?_ ?_
 .intro x x1 hx;refine⟨x,x1,Zbjj _ _ _ _ _ _ _ _ ?_⟩;rw[if_neg (by omega)];rfl
 .intro i hi ih x x1 hx;have hb:=hv d.Free[i] (Yci _ (Yb hi));by_cases c:(p.Objective.length:Int)<=d.Free[i]
  .have hq:=Zlc (Zgl (k:=i) h.g.v.vk (by omega));obtain⟨P,D,hPD⟩:=ih x (x1.set (d.Free[i]-p.Objective.length).toNat ⟨w (0-(d.Costs.getD i r0).Num),(d.Costs.getD i r0).Den⟩) (by rw[Y9];exact hx);refine⟨P,D,Zbjj _ _ _ _ _ _ _ _ ?_⟩;have hw:w (d.Free[i]-p.Objective.length)=d.Free[i]-p.Objective.length:=w_in ⟨by omega,by omega⟩;obtain⟨e,he⟩:=setR (xs:=x1) (k:=d.Free[i]-p.Objective.length) (by omega) (by omega);rw[if_pos (by omega),wS hi (by omega)];refine⟨by omega,_,gE hi,?_⟩;rw[if_pos c];refine⟨_,gRn (by omega),?_⟩;rw[hw];exact⟨by omega,_,he,hPD⟩
  .obtain⟨P,D,hPD⟩:=ih x x1 hx;refine⟨P,D,Zbjj _ _ _ _ _ _ _ _ ?_⟩;rw[if_pos (by omega),wS hi (by omega)];refine⟨by omega,_,gE hi,?_⟩;rw[if_neg c];exact hPD
theorem l_ss2(V:Za):∀i,i<=d.Basic.length->∀x x1:List Za,x.length=p.Objective.length->x1.length=p.Rows.length->∃P D:List Za,Zrl p V d d.Value x x1 i=some (solR d.Value P D):=by
 have hv:=Z5r h.g.v;have h1:=h.g.v.n;have h2:=h.g.v.m;have h3:=h.m;have h4:=h.n;have hll:=h.g.v.ll;refine down _ ?_ ?_
 .intro x x1 hx hx1;obtain⟨P,D,hPD⟩:=l_ss3 h V 0 (Ya _) x x1 hx1;refine⟨P,D,Zbji _ _ _ _ _ _ _ _ ?_⟩;rw[if_neg (by omega)];exact hPD
 .intro i hi ih x x1 hx hx1;have hb:=hv d.Basic[i] (Ych _ (Yb hi));by_cases c:d.Basic[i]<(p.Objective.length:Int)
  .obtain⟨P,D,hPD⟩:=ih (x.set d.Basic[i].toNat (d.Limits.getD i r0)) x1 (by rw[Y9];exact hx) hx1;refine⟨P,D,Zbji _ _ _ _ _ _ _ _ ?_⟩;obtain⟨e,he⟩:=setR (xs:=x) (k:=d.Basic[i]) (by omega) (by omega);rw[if_pos (by omega),wS hi (by omega)];refine⟨by omega,_,gE hi,?_⟩;rw[if_pos c];exact⟨_,gRn (by omega),by omega,_,he,hPD⟩
  .obtain⟨P,D,hPD⟩:=ih x x1 hx hx1;refine⟨P,D,Zbji _ _ _ _ _ _ _ _ ?_⟩;rw[if_pos (by omega),wS hi (by omega)];refine⟨by omega,_,gE hi,?_⟩;rw[if_neg c];exact hPD
theorem l_ss1(V:Za):∀i,i<=p.Rows.length->∀x x1:List Za,x.length=p.Objective.length->x1.length=i->∃P D:List Za,Zxt p V d d.Value x x1 i=some (solR d.Value P D):=by
 have h2:=h.g.v.m;have h3:=h.m;refine down _ ?_ ?_
 .intro x x1 hx hx1;obtain⟨P,D,hPD⟩:=l_ss2 h V 0 (Ya _) x x1 hx hx1;refine⟨P,D,Zb26 _ _ _ _ _ _ _ _ ?_⟩;rw[if_neg (by omega)];exact hPD
 .intro i hi ih x x1 hx hx1;obtain⟨P,D,hPD⟩:=ih x (x1++[⟨0,1⟩]) hx (by simp[hx1]);refine⟨P,D,Zb26 _ _ _ _ _ _ _ _ ?_⟩;rw[if_pos (by omega),wS hi (by omega)];exact⟨_,Zdu 0,by omega,hPD⟩
include hm in
theorem l_ss0(V:Za):∀k,k<=p.Objective.length->∀x:List Za,x.length=k->∃P D:List Za,Zxs p V d d.Value x k=some (solR d.Value P D):=by
 have h1:=h.g.v.n;have h4:=h.n;have hp:0<p.Rows.length:=Yba.2 hm;refine down _ ?_ ?_
 .intro x hx;obtain⟨P,D,hPD⟩:=l_ss1 h V (0+1) (by omega) x [⟨0,1⟩] hx rfl;refine⟨P,D,Zb25 _ _ _ _ _ _ _ ?_⟩;rw[if_neg (by omega)];refine Zcri _ _ _ _ _ _ _ ?_;rw[if_pos (by omega),show w (0+1)=((0+1:Nat):Int) by decide];exact⟨_,Zdu 0,hPD⟩
 .intro k hk ih x hx;obtain⟨P,D,hPD⟩:=ih (x++[⟨0,1⟩]) (by simp[hx]);refine⟨P,D,Zb25 _ _ _ _ _ _ _ ?_⟩;rw[if_pos (by omega),wS hk (by omega)];exact⟨_,Zdu 0,by omega,hPD⟩
include hm in
theorem l_ss(V:Za):∃P D:List Za,Z4h p V d d.Value 0=some (solR d.Value P D):=by
 have h1:=h.g.v.n;have h4:=h.n;obtain⟨P,D,hPD⟩:=l_ss0 h hm V (0+1) (by omega) [⟨0,1⟩] rfl;refine⟨P,D,Zcrh _ _ _ _ _ _ ?_⟩;rw[if_pos (by omega),show w (0+1)=((0+1:Nat):Int) by decide];exact⟨_,Zdu 0,hPD⟩
end
theorem l_ss4{p:Program}(hm:p.Rows≠[])(V:Za):∀(f:Nat) (d:Zm),Fits p d->f<=300->Ans (Zfv f d) (Zi0 p V d (300-(f:Int))):=by
 intro f
 induction f with
 |zero =>
  intro d h hf;refine Zyl _ _ _ _ _ ?_
  rw[if_neg (by omega)];rfl
 |succ f ih =>
  intro d h hf2;have hk:=h.g.v.lk;unfold Zfv;by_cases h1:ent d<0
  .rw[if_pos h1];obtain⟨P,D,hPD⟩:=l_ss h hm V;refine⟨P,D,Zyl _ _ _ _ _ ?_⟩;rw[if_pos (by omega)];refine⟨_,Z55 h.g.v,?_⟩;rw[if_pos h1];exact hPD
  rw[if_neg h1];obtain⟨j,hj⟩:∃j:Nat,ent d=j:=⟨(ent d).toNat,by omega⟩;have hjn:j<d.Free.length:=by
   rcases Z5p d with e|⟨e1,e2,e3⟩<;>omega
  by_cases h2:lea d (ent d).toNat<0
  .rw[if_pos h2];rw[hj,Yh]at h2;refine Zyl _ _ _ _ _ ?_;rw[if_pos (by omega)];refine⟨_,Z55 h.g.v,?_⟩;rw[if_neg h1,hj];refine⟨_,Zbj2 h.g.v hjn,?_⟩;rw[if_pos h2];rfl
  rw[if_neg h2];have hP:=Zct8 (Zb5f h.g h1 h2);have hst:=Zb5e h h1 h2;rw[hj,Yh]at h2 hP hst|-;obtain⟨i,hi⟩:∃i:Nat,lea d j=i:=⟨(lea d j).toNat,by omega⟩;rw[hi,Yh]at hP hst|-;have hwr:w ((300-((f+1:Nat):Int))+1)=300-(f:Int):=by rw[w_in ⟨by omega,by omega⟩];omega
  unfold Zcy at hP;rcases ft (okO d i j)with ok|ok
  .rw[ok,if_pos rfl]at hP|-;have ih:=ih (Zbs d i j) (hst ok) (by omega);have key:∀r,Zi0 p V (Zbs d i j) (300-(f:Int))=some r->Zi0 p V d (300-((f+1:Nat):Int))=some r:=by
    intro r hr;refine Zyl _ _ _ _ _ ?_;rw[if_pos (by omega)];refine⟨_,Z55 h.g.v,?_⟩;rw[if_neg h1,hj];refine⟨_,Zbj2 h.g.v hjn,?_⟩;rw[hi,if_neg (by omega)];refine .inr ⟨_,_,_,_,_,_,_,hP,?_⟩;rw[hwr];exact hr
   cases hs:Zfv f (Zbs d i j)with
   |none=>rw[hs]at ih;exact key _ ih
   |some d'=>rw[hs]at ih;obtain⟨P,D,hPD⟩:=ih;exact⟨P,D,key _ hPD⟩
  .rw[ok,if_neg (by decide)]at hP|-;refine Zyl _ _ _ _ _ ?_;rw[if_pos (by omega)];refine⟨_,Z55 h.g.v,?_⟩;rw[if_neg h1,hj];refine⟨_,Zbj2 h.g.v hjn,?_⟩;rw[hi,if_neg (by omega)];refine .inl ⟨[],[],[],[],[],r0,false,hP,?_⟩;rw[if_neg (by decide)];rfl
theorem Zcuc{p:Program}(h:LeP p)(hm:p.Rows≠[]):Ans (lpV p) (Zxr p):=by
 have hI:=Zcua h hm;unfold lpV;rcases ft (Zcz p)with e|e
 .rw[e,if_pos rfl]at hI|-;have ho:=Zyv e;have hs:=l_ss4 (p:=p) hm ⟨0,0⟩ 300 (Zcc p) ⟨Zbj9 ho,by simp[Zcc,Zyu],by simp[Zcc,Zr5]⟩ (by omega);have key:∀r,Zi0 p ⟨0,0⟩ (Zcc p) (300-((300:Nat):Int))=some r->Zxr p=some r:=by
   intro r hr;refine Zb27 _ _ ⟨_,_,_,_,_,_,_,hI,?_⟩;rw[if_pos rfl];exact hr
  cases hs':Zfv 300 (Zcc p)with
  |none=>rw[hs']at hs;exact key _ hs
  |some d'=>rw[hs']at hs;obtain⟨P,D,hPD⟩:=hs;exact⟨P,D,key _ hPD⟩
 .rw[e,if_neg (by decide)]at hI|-;refine Zb27 _ _ ⟨[],[],[],[],[],r0,false,hI,?_⟩;rw[if_neg (by decide)];rfl
theorem lpV_good{p:Program}{d:Zm}(h:lpV p=some d):Good d:=by
 unfold lpV at h;split at h
 .rename_i e;exact Zb4c 300 (Zbj9 (Zyv e)) h
 .cases h
set_option maxRecDepth 100000 in
theorem shl_pow:∀n:Fin 60,shlI 1 (n.1:Int)=2 ^ n.1:=by decide
theorem Zr7{n:Int}(h0:0<=n)(h:n<60):shlI 1 n=2 ^ n.toNat:=by
 have:=shl_pow ⟨n.toNat,by omega⟩;simp only at this;rw[<-this];congr 1;omega
theorem pow40{n:Int}(h:n<=40):(1:Int)<=2 ^ n.toNat/\(2:Int) ^ n.toNat<=1099511627776:=by
 have h1:(2:Nat) ^ n.toNat<=2 ^ 40:=Nat.pow_le_pow_right (by decide) (by omega);have h2:1<=(2:Nat) ^ n.toNat:=Nat.one_le_two_pow;have e:((2:Int) ^ n.toNat)=(((2:Nat) ^ n.toNat:Nat):Int):=by push_cast;rfl
 rw[e]
 have:(2:Nat) ^ 40=1099511627776:=by decide
 omega
theorem mul_in{p k:Int}(h0:1<=p)(hp:p<=1099511627776)(hk:1<=k)(c:k<=5000):1<=p*k/\p*k<=5497558138880000:=by
 have h1:=Int.mul_le_mul h0 hk (by omega) (by omega);have h2:=Int.mul_le_mul hp c (by omega) (by omega);omega
theorem l_iat{k cc:Int}(hk:1<=k/\k<=5000)(hn:0<=cc/\cc<=40):∀(n:Nat) (p:Int),(n:Int)<=4611686018427387904->1<=p->p<=2 ^ cc.toNat->Zvh k n cc p=some (Bo (atM k (2 ^ cc.toNat) n p),[]):=by
 have hB:=pow40 hn.2;intro n
 induction n with
 |zero =>
  intro p _ _ _;refine Zb0g _ _ _ _ _ ?_
  rw[if_neg (by omega)];rfl
 |succ n ih =>
  intro p h9 h0 hp;have hm:=mul_in h0 (by omega) hk.1 hk.2;refine Zb0g _ _ _ _ _ ?_;rw[if_pos (by omega),w_in (x:=p*k) ⟨by omega,by omega⟩,Zr7 hn.1 (by omega),atM];refine⟨by omega,?_⟩;by_cases c:(2:Int) ^ cc.toNat<p*k
  .rw[if_pos c,if_pos c]
  .rw[if_neg c,if_neg c,show w (((n+1:Nat):Int)-1)=(n:Int) by rw[w_in ⟨by omega,by omega⟩];omega];exact ih (p*k) (by omega) hm.1 (by omega)
theorem Zcud{k c cc:Int}(hk:1<=k/\k<=5000)(hn:0<=cc/\cc<=40)(hd:0<=c/\c<=4611686018427387904):Z2f k c cc=some (Bo (atM k (2 ^ cc.toNat) c.toNat 1),[]):=by
 have hB:=pow40 hn.2;have:=l_iat hk hn c.toNat 1 (by omega) (by omega) hB.1;rw[show((c.toNat:Nat):Int)=c by omega]at this;exact Zcog _ _ _ _ this
theorem l_sat{k cc den:Int}(hk:1<=k/\k<=5000)(hn:0<=cc/\cc<=40)(hd:den<=4611686018427387904):∀(n:Nat) (p i:Int),den-i=n->0<=i->1<=p->p<=2 ^ cc.toNat->Zxv k den cc p i=some (Bo (atM k (2 ^ cc.toNat) n p),[]):=by
 have hB:=pow40 hn.2;intro n
 induction n with
 |zero =>
  intro p i _ _ _ _;refine Zb28 _ _ _ _ _ _ ?_
  rw[if_neg (by omega)];rfl
 |succ n ih =>
  intro p i h9 hi h0 hp;have hm:=mul_in h0 (by omega) hk.1 hk.2;refine Zb28 _ _ _ _ _ _ ?_;rw[if_pos (by omega),w_in (x:=p*k) ⟨by omega,by omega⟩,Zr7 hn.1 (by omega),atM];refine⟨by omega,?_⟩;by_cases c:(2:Int) ^ cc.toNat<p*k
  .rw[if_pos c,if_pos c]
  .rw[if_neg c,if_neg c,show w (i+1)=i+1 from w_in ⟨by omega,by omega⟩];exact ih (p*k) (i+1) (by omega) (by omega) hm.1 (by omega)
theorem Zcue{k c cc:Int}(hk:1<=k/\k<=5000)(hn:0<=cc/\cc<=40)(hd:0<=c/\c<=4611686018427387904):Z4k k c cc=some (Bo (atM k (2 ^ cc.toNat) c.toNat 1),[]):=by
 have hB:=pow40 hn.2;exact Zcrm _ _ _ _ (l_sat hk hn hd.2 c.toNat 1 0 (by omega) (by omega) (by omega) hB.1)
theorem Zb5g{r:Za}(h:vR r=true):(-2147483647<=r.Num.tdiv r.Den/\r.Num.tdiv r.Den<=2147483647)/\In63 (r.Num.tdiv r.Den*r.Den):=by
 obtain⟨h1,h2,h3⟩:=Zb1 h;have e:(r.Num.tdiv r.Den).natAbs<=r.Num.natAbs:=by rw[Int.natAbs_tdiv];exact Nat.div_le_self _ _
 have hA:-2147483647<=r.Num.tdiv r.Den/\r.Num.tdiv r.Den<=2147483647:=by omega
 have:=Zck hA h2;exact⟨hA,by omega,by omega⟩
theorem Zcuf{r:Za}(h:vR r=true):Z2e r=some (I (Zgm r),[]):=by
 obtain⟨h1,h2⟩:=Zb5g h;have h3:=Zb1 h;refine Zcof _ _ ⟨_,Zgn r,?_⟩;rw[h,if_pos rfl,w_in (x:=r.Num.tdiv r.Den) ⟨by omega,by omega⟩,w_in h2,w_in (x:=r.Num.tdiv r.Den+1) ⟨by omega,by omega⟩];refine⟨by omega,?_⟩;unfold Zgm;split<;>rfl
theorem Zcug{r:Za}(h:vR r=true):Z4j r=some (I (Zgm r),[]):=by
 obtain⟨h1,h2⟩:=Zb5g h;have h3:=Zb1 h;refine Zcrk _ _ ⟨_,Zd6 r,?_⟩;rw[h,if_pos rfl,w_in (x:=r.Num.tdiv r.Den) ⟨by omega,by omega⟩,w_in h2,w_in (x:=r.Num.tdiv r.Den+1) ⟨by omega,by omega⟩];refine⟨by omega,?_⟩;unfold Zgm;split<;>rfl
theorem Zb5h{r:Za}(h0:0<=r.Num)(hd:1<=r.Den):0<=Zgm r:=by
 have:0<=r.Num.tdiv r.Den:=Int.tdiv_nonneg h0 (by omega)
 unfold Zgm;split<;>omega
theorem l_ipf{r:Za}(h:vR r=true)(h0:0<=r.Num/\r.Num<=40):∀(f:Nat) (k:Int),k=4096-f->1<=k->Zvi r k=some (I (pfG (2 ^ r.Num.toNat) r.Den.toNat f k),[]):=by
 have h3:=Zb1 h;intro f
 induction f with
 |zero =>
  intro k hk h1;refine Zb0h _ _ _ ?_
  rw[if_neg (by omega)];rfl
 |succ f ih =>
  intro k hk h1;refine Zb0h _ _ _ ?_;rw[if_pos (by omega),w_in (x:=k+1) ⟨by omega,by omega⟩,pfG];refine⟨_,Zcud ⟨by omega,by omega⟩ h0 ⟨by omega,by omega⟩,?_⟩;rcases ft (atM (k+1) (2 ^ r.Num.toNat) r.Den.toNat 1)with e|e
  .rw[e,if_pos rfl,if_pos rfl];exact ih (k+1) (by omega) (by omega)
  .rw[e,if_neg (by decide),if_neg (by decide)]
theorem l_spf{r:Za}(h:vR r=true)(h0:0<=r.Num/\r.Num<=40):∀(f:Nat) (k:Int),k=4096-f->1<=k->Zxx r k=some (I (pfG (2 ^ r.Num.toNat) r.Den.toNat f k),[]):=by
 have h3:=Zb1 h;intro f
 induction f with
 |zero =>
  intro k hk h1;refine Zb29 _ _ _ ?_
  rw[if_neg (by omega)];rfl
 |succ f ih =>
  intro k hk h1;refine Zb29 _ _ _ ?_;rw[if_pos (by omega),w_in (x:=k+1) ⟨by omega,by omega⟩,pfG];refine⟨_,Zcue ⟨by omega,by omega⟩ h0 ⟨by omega,by omega⟩,?_⟩;rcases ft (atM (k+1) (2 ^ r.Num.toNat) r.Den.toNat 1)with e|e
  .rw[e,if_pos rfl,if_pos rfl];exact ih (k+1) (by omega) (by omega)
  .rw[e,if_neg (by decide),if_neg (by decide)]
theorem Zcuh{r:Za}(h:vR r=true)(h0:0<=r.Num):Z2g r=some (I (pfl r),[]):=by
 have h3:=Zb1 h;refine Zcoh _ _ ⟨_,Zgn r,?_⟩;rw[h,if_pos rfl,if_neg (by omega)];by_cases c:40<r.Num
 .rw[if_pos c];have hc:=Zb5h h0 h3.2.2;refine⟨_,Zcuf h,?_⟩;unfold pfl twoP;rw[if_pos c];by_cases c2:12<=Zgm r
  .rw[if_pos c2,if_pos c2]
  .rw[if_neg c2,if_neg c2];exact⟨by omega,by rw[Zr7 hc (by omega)]⟩
 .rw[if_neg c];by_cases c2:r.Num<r.Den
  .rw[if_pos c2,pfl_one h0 c c2]
  .rw[if_neg c2];unfold pfl;rw[if_neg c];exact l_ipf h ⟨h0,by omega⟩ 4095 1 (by omega) (by omega)
theorem Zcui{r:Za}(h:vR r=true)(h0:0<=r.Num):Zxw r=some (I (pfl r),[]):=by
 have h3:=Zb1 h;refine Zcrn _ _ ⟨_,Zd6 r,?_⟩;rw[h,if_pos rfl,if_neg (by omega)];by_cases c:40<r.Num
 .rw[if_pos c];have hc:=Zb5h h0 h3.2.2;refine⟨_,Zcug h,twoP (Zgm r),Zcrl _ _ ?_,?_⟩
  .unfold twoP;by_cases c2:12<Zgm r
   .rw[if_pos c2,if_pos (by omega)]
   .rw[if_neg c2];refine⟨by omega,?_⟩;rw[Zr7 hc (by omega)];by_cases c3:12<=Zgm r
    .rw[if_pos c3,show Zgm r=12 by omega];rfl
    .rw[if_neg c3]
  .unfold pfl;rw[if_pos c]
 .rw[if_neg c];unfold pfl;rw[if_neg c];exact l_spf h ⟨h0,by omega⟩ 4095 1 (by omega) (by omega)
def clogG(n:Int):Nat->Int->Int
 |0,b=>b
 |f+1,b=>if shlI 1 b<n then clogG n f (b+1)else b
def clog(n:Int):Int:=if inR n 1 4096=true then clogG n 12 0 else -1
theorem l_icl{n:Int}(h:n<=4096):∀(f:Nat) (b:Int),b=12-f->0<=b->Zun n b=some (I (clogG n f b),[]):=by
 intro f
 induction f with
 |zero =>
  intro b hb h0;refine Zbzo _ _ _ ⟨by omega,?_⟩
  rw[show b=12 by omega,if_neg (by rw[show shlI 1 12=4096 by decide];omega)];rfl
 |succ f ih =>
  intro b hb h0;refine Zbzo _ _ _ ⟨by omega,?_⟩;rw[w_in (x:=b+1) ⟨by omega,by omega⟩,clogG];by_cases c:shlI 1 b<n
  .rw[if_pos c,if_pos c];exact ih (b+1) (by omega) (by omega)
  .rw[if_neg c,if_neg c]
theorem l_scl{n:Int}(h:n<=4096):∀(f:Nat) (b:Int),b=12-f->0<=b->Zwu n b=some (I (clogG n f b),[]):=by
 intro f
 induction f with
 |zero =>
  intro b hb h0;refine Zb15 _ _ _ ⟨by omega,?_⟩
  rw[show b=12 by omega,if_neg (by rw[show shlI 1 12=4096 by decide];omega)];rfl
 |succ f ih =>
  intro b hb h0;refine Zb15 _ _ _ ⟨by omega,?_⟩;rw[w_in (x:=b+1) ⟨by omega,by omega⟩,clogG];by_cases c:shlI 1 b<n
  .rw[if_pos c,if_pos c];exact ih (b+1) (by omega) (by omega)
  .rw[if_neg c,if_neg c]
theorem Zcuj(n:Int):Zum n=some (I (clog n),[]):=by
 refine Zcnj _ _ ⟨_,Zbu _ _ _,?_⟩;unfold clog;rcases ft (inR n 1 4096)with e|e
 .rw[e,if_pos rfl,if_pos rfl];exact l_icl (Zy.1 e).2 12 0 (by omega) (by omega)
 .rw[e,if_neg (by decide),if_neg (by decide)]
theorem Zcuk(n:Int):Z3t n=some (I (clog n),[]):=by
 refine Zcql _ _ ⟨_,Z8 _ _ _,?_⟩;unfold clog;rcases ft (inR n 1 4096)with e|e
 .rw[e,if_pos rfl,if_pos rfl];exact l_scl (Zy.1 e).2 12 0 (by omega) (by omega)
 .rw[e,if_neg (by decide),if_neg (by decide)]
def setV:Int->List Int->Int
 |s,[]=>s
 |s,v::vs=>setV (if inR v 0 3=true then orI s (shlI 1 v)else s) vs
theorem l_ivs(xs:List Int)(hl:xs.length<=1000):∀i,i<=xs.length->∀s,Zpt s xs xs.length i=some (I (setV s (xs.drop i)),[]):=by
 refine down _ ?_ ?_
 .intro s;refine Zbzn _ _ _ _ _ ?_;rw[if_neg (by omega),Yg];rfl
 .intro i hi ih s;refine Zbzn _ _ _ _ _ ?_;rw[if_pos (by omega),wS hi (by omega),Yd hi,setV];refine⟨by omega,_,gE hi,_,Zbu _ _ _,?_⟩;rcases ft (inR xs[i] 0 3)with e|e
  .have:=Zy.1 e;rw[e,if_pos rfl,if_pos rfl];exact⟨by omega,ih _⟩
  .rw[e,if_neg (by decide),if_neg (by decide)];exact ih _
theorem Zb5i{xs:List Int}(hl:xs.length<=1000):Zps xs=some (I (setV 0 xs),[]):=Zcni _ _ (by simpa using l_ivs xs hl 0 (Ya _) 0)
theorem l_svs(xs:List Int)(hl:xs.length<=1000):∀i,i<=xs.length->∀s,Zra xs s i=some (I (setV s (xs.drop i)),[]):=by
 refine down _ ?_ ?_
 .intro s;refine Zb14 _ _ _ _ ?_;rw[if_neg (by omega),Yg];rfl
 .intro i hi ih s;refine Zb14 _ _ _ _ ?_;rw[if_pos (by omega),wS hi (by omega),Yd hi,setV];refine⟨by omega,_,gE hi,_,Z8 _ _ _,?_⟩;rcases ft (inR xs[i] 0 3)with e|e
  .have:=Zy.1 e;rw[e,if_pos rfl,if_pos rfl];exact⟨by omega,ih _⟩
  .rw[e,if_neg (by decide),if_neg (by decide)];exact ih _
theorem Zcul{xs:List Int}(hl:xs.length<=1000):Z3r xs=some (I (setV 0 xs),[]):=Zcqj _ _ (by simpa using l_svs xs hl 0 (Ya _) 0)
def Zh2(m:Int):Nat->List Int->List Int
 |_,[]=>[]
 |k,v::vs=>if andI (shrI m k) 1=1 then v::Zh2 m (k+1) vs else Zh2 m (k+1) vs
theorem l_s16v(a:Atom)(m:Int)(h3:a.Vars.length<=3):∀i,i<=a.Vars.length->∀s,Znc a m s i=some (I (setV s (Zh2 m i (a.Vars.drop i))),[]):=by
 refine down _ ?_ ?_
 .intro s;refine Zb13 _ _ _ _ _ ?_;rw[if_neg (by omega),Yg];rfl
 .intro i hi ih s;refine Zb13 _ _ _ _ _ ?_;rw[if_pos (by omega),if_pos (by omega),wS hi (by omega),Yd hi,Zh2];refine⟨by omega,?_⟩;by_cases c:andI (shrI m i) 1=1
  .rw[if_pos c,if_pos c,setV];refine⟨by omega,_,gE hi,_,Z8 _ _ _,?_⟩;rcases ft (inR a.Vars[i] 0 3)with e|e
   .have:=Zy.1 e;rw[e,if_pos rfl,if_pos rfl];exact⟨by omega,ih _⟩
   .rw[e,if_neg (by decide),if_neg (by decide)];exact ih _
  .rw[if_neg c,if_neg c];exact ih _
theorem x_16v{a:Atom}{m:Int}(h3:a.Vars.length<=3):Z3p a m=some (I (setV 0 (Zh2 m 0 a.Vars)),[]):=Zcqi _ _ _ (by simpa using l_s16v a m h3 0 (Ya _) 0)
def geI(a b:Int):Bool:=decide (b<=a)
def Zdm:Int->Option Int->List Int->Bool
 |_,_,[]=>true
 |left,p,v::vs=>inR v 1 left && nxt geI p v && Zdm (left-v) (some v) vs
theorem l_ids(xs:List Int)(hl:Le xs):∀i,i<=xs.length->∀left,0<=left->left<=8->Zpr xs left xs xs.length i=some (Bo (Zdm left (pvA xs i) (xs.drop i)),[]):=by
 refine down _ ?_ ?_
 .intro left _ _;refine Zbzk _ _ _ _ _ _ ?_;rw[if_neg (by omega),Yg];rfl
 .intro i hi ih left h0 h8;refine Zbzk _ _ _ _ _ _ ?_;rw[if_pos (by omega),wS hi (by omega),Yd hi,Zdm];refine⟨by omega,_,gE hi,_,Zbu _ _ _,?_⟩;rw[show pvA xs (i+1)=some xs[i]from Yj hi]at ih;rcases ft (inR xs[i] 1 left)with e|e
  .have e':=Zy.1 e;rw[e,if_pos rfl,Ye,w_in (x:=left-xs[i]) ⟨by omega,by omega⟩];have ih:=ih (left-xs[i]) (by omega) (by omega);by_cases c:(0:Int)<(i:Int)
   .rw[if_pos c,wP (by omega) hi (by omega),Zi8 (by omega) (by omega)];refine⟨by omega,_,gE (by omega),?_⟩;by_cases c2:xs[i-1]<xs[i]
    .rw[if_pos c2];simp[nxt,geI];omega
    .rw[if_neg c2,ih];simp[nxt,geI,show xs[i]<=xs[i-1] by omega]
   .obtain rfl:i=0:=by omega
    rw[if_neg c,ih];simp[nxt,pvA]
  .rw[e,if_neg (by decide)];simp
theorem Zb5j{xs:List Int}(hl:Le xs):Zug xs=some (Bo (Zdm 8 none xs),[]):=Zcnd _ _ (by simpa[pvA]using l_ids xs hl 0 (Ya _) 8 (by omega) (by omega))
theorem l_sds(xs:List Int)(hl:Le xs):∀i,i<=xs.length->∀left,0<=left->left<=8->Zq8 xs (8-left) i=some (Bo (Zdm left (pvA xs i) (xs.drop i)),[]):=by
 refine down _ ?_ ?_
 .intro left _ _;refine Zb11 _ _ _ _ ?_;rw[if_neg (by omega),Yg];rfl
 .intro i hi ih left h0 h8;refine Zb11 _ _ _ _ ?_;rw[if_pos (by omega),wS hi (by omega),Yd hi,Zdm,show w (8-(8-left))=left by rw[w_in ⟨by omega,by omega⟩];omega];refine⟨by omega,_,gE hi,_,Z8 _ _ _,?_⟩;rw[show pvA xs (i+1)=some xs[i]from Yj hi]at ih;rcases ft (inR xs[i] 1 left)with e|e
  .have e':=Zy.1 e;rw[e,if_pos rfl,Ye,show w (8-left+xs[i])=8-(left-xs[i]) by rw[w_in ⟨by omega,by omega⟩];omega];have ih:=ih (left-xs[i]) (by omega) (by omega);by_cases c:(0:Int)<(i:Int)
   .rw[if_pos c,wP (by omega) hi (by omega),Zi8 (by omega) (by omega)];refine⟨by omega,_,gE (by omega),?_⟩;by_cases c2:xs[i-1]<xs[i]
    .rw[if_pos c2];simp[nxt,geI];omega
    .rw[if_neg c2,ih];simp[nxt,geI,show xs[i]<=xs[i-1] by omega]
   .obtain rfl:i=0:=by omega
    rw[if_neg c,ih];simp[nxt,pvA]
  .rw[e,if_neg (by decide)];simp
theorem Z6b{xs:List Int}(hl:Le xs):Zq7 xs=some (Bo (Zdm 8 none xs),[]):=Zcqf _ _ (by simpa[pvA]using l_sds xs hl 0 (Ya _) 8 (by omega) (by omega))
def Zjd:List Int->List Int->Int->Int
 |x::xs,y::ys,n=>Zjd xs ys (w (n+w (x*y)))
 |_,_,n=>n
def pairS(a b:List Int):Int:=if Zdm 8 none a && Zdm 8 none b then Zjd a b 0 else 0
theorem Zb5k{xs ys:List Int}{n:Int}(h:xs=[]\/ys=[]):Zjd xs ys n=n:=by
 rcases h with rfl|rfl
 .rfl
 .cases xs<;>rfl
theorem l_ips(a b:List Int)(ha:Le a):∀i,i<=a.length->∀n,Zui a b n i=some (I (Zjd (a.drop i) (b.drop i) n),[]):=by
 refine down _ ?_ ?_
 .intro n;refine Zbzl _ _ _ _ _ ?_;rw[if_neg (by omega),Yg];rfl
 .intro i hi ih n;refine Zbzl _ _ _ _ _ ?_;rw[if_pos (by omega)];by_cases c:(i:Int)<(b.length:Int)
  .have hb:i<b.length:=by omega
   rw[if_pos c,wS hi (by omega),Yd hi,Yd hb,Zjd];exact⟨by omega,_,gE hi,_,gE hb,ih _⟩
  .rw[if_neg c,Zb5k (.inr (Ybd (by omega)))]
theorem l_sps(a b:List Int)(ha:Le a)(hb:Le b)(hd:(Zdm 8 none a && Zdm 8 none b)=true):∀i,i<=a.length->∀n,Zwt a b n i=some (I (Zjd (a.drop i) (b.drop i) n),[]):=by
 simp only[Yc]at hd;refine down _ ?_ ?_
 .intro n;refine Zbjg _ _ _ _ _ ?_;rw[if_neg (by omega),Yg];rfl
 .intro i hi ih n;refine Zbjg _ _ _ _ _ ?_;rw[if_pos (by omega)];by_cases c:(i:Int)<(b.length:Int)
  .have hb':i<b.length:=by omega
   rw[if_pos c,wS hi (by omega),Yd hi,Yd hb',Zjd];refine⟨_,Z6b ha,?_⟩;rw[hd.1,if_pos rfl];refine⟨_,Z6b hb,?_⟩;rw[hd.2,if_pos rfl];exact⟨by omega,_,gE hi,_,gE hb',ih _⟩
  .rw[if_neg c,Zb5k (.inr (Ybd (by omega)))]
theorem Zcum{a b:List Int}(ha:Le a)(hb:Le b):Zuh a b=some (I (pairS a b),[]):=by
 refine Zcne _ _ _ ⟨_,Zb5j ha,?_⟩;unfold pairS;rcases ft (Zdm 8 none a)with e|e
 .rw[e,if_pos rfl,Ye];refine⟨_,Zb5j hb,?_⟩;rcases ft (Zdm 8 none b)with e2|e2
  .rw[e2,if_pos rfl,if_pos rfl];simpa using l_ips a b ha 0 (Ya _) 0
  .rw[e2,if_neg (by decide),if_neg (by decide)]
 .rw[e,if_neg (by decide),Y4,if_neg (by decide)]
theorem Zcun{a b:List Int}(ha:Le a)(hb:Le b):Z3n a b=some (I (pairS a b),[]):=by
 refine Zcqg _ _ _ ?_;unfold pairS;rcases ft (Zdm 8 none a && Zdm 8 none b)with e|e
 .rw[e,if_pos rfl];simpa using l_sps a b ha hb e 0 (Ya _) 0
 .rw[e,if_neg (by decide)];refine Zbjg _ _ _ _ _ ?_;by_cases c1:(0:Int)<(a.length:Int)
  .rw[if_pos c1];by_cases c2:(0:Int)<(b.length:Int)
   .rw[if_pos c2];refine⟨_,Z6b ha,?_⟩;rcases ft (Zdm 8 none a)with e1|e1
    .rw[e1,if_pos rfl];rw[e1,Ye]at e;refine⟨_,Z6b hb,?_⟩;rw[e,if_neg (by decide)]
    .rw[e1,if_neg (by decide)]
   .rw[if_neg c2]
  .rw[if_neg c1]
theorem Zbka:∀{xs:List Int} {c:Int} {p:Option Int},c<=8->Zdm c p xs=true->(xs.length:Int)<=max c 0/\∀x∈xs,1<=x/\x<=8
 |[],c,p,_,_=>⟨by simp;omega,λx hx=>by cases hx⟩
 |v::vs,c,p,h8,h=>by
  simp only[Zdm,Yc]at h;have e:=Zy.1 h.1.1;obtain⟨h1,h2⟩:=Zbka (by omega) h.2;refine⟨by simp only[Yw];omega,λx hx=>?_⟩;rcases Yx.1 hx with rfl|hx
  .omega
  .exact h2 x hx
theorem Zb5l:∀{xs ys:List Int} {n:Int},(∀x∈xs,1<=x/\x<=8)->(∀x∈ys,1<=x/\x<=8)->0<=n->n+64*xs.length<=1000000->0<=Zjd xs ys n
 |x::xs,y::ys,n,hx,hy,h0,hb=>by
  unfold Zjd;have h1:=hx x (by simp);have h2:=hy y (by simp);have h3:=Int.mul_le_mul h1.2 h2.2 (by omega) (by omega);have h4:=Int.mul_nonneg (show 0<=x by omega) (show 0<=y by omega);simp only[Yw]at hb;rw[w_in (x:=x*y) ⟨by omega,by omega⟩,w_in (x:=n+x*y) ⟨by omega,by omega⟩]
  exact Zb5l (λz hz=>hx z (by simp[hz])) (λz hz=>hy z (by simp[hz])) (by omega) (by omega)
 |[],_,n,_,_,h0,_=>h0
 |_::_,[],n,_,_,h0,_=>h0
theorem pairS_nn(a b:List Int):0<=pairS a b:=by
 unfold pairS;split
 .rename_i h;simp only[Yc]at h;have h1:=Zbka (by omega) h.1;have h2:=Zbka (by omega) h.2;exact Zb5l h1.2 h2.2 (Int.le_refl _) (by omega)
 .exact Int.le_refl _
def ansR(rows:List (List Int)):List (List Int):=cptR (srtR rows)
abbrev AscR(l:List (List Int)):Prop:=l.Pairwise λa b=>cmpR a b<0
theorem Z6c:∀{a b:List (List Int)},AscR a->AscR b->(∀x,x∈a↔x∈b)->a=b
 |[],[],_,_,_=>rfl
 |[],y::b,_,_,h=>by have:=(h y).2 (by simp);cases this
 |x::a,[],_,_,h=>by have:=(h x).1 (by simp);cases this
 |x::a,y::b,ha,hb,h=>by
  have ha':=Ybm.1 ha;have hb':=Ybm.1 hb;have e:x=y:=by
   have h1:=(h x).1 (by simp);have h2:=(h y).2 (by simp);rcases Yx.1 h1 with e|e
   .exact e
   .rcases Yx.1 h2 with e2|e2
    .exact e2.symm
    .have h3:=hb'.1 x e;have h4:=ha'.1 y e2;have:=Zex x y;omega
  subst e;rw[Z6c ha'.2 hb'.2 λz=>?_];constructor
  .intro hz;have:=(h z).1 (by simp[hz]);rcases Yx.1 this with e|e
   .subst e;have:=ha'.1 _ hz;rw[Zi9]at this;omega
   .exact e
  .intro hz;have:=(h z).2 (by simp[hz]);rcases Yx.1 this with e|e
   .subst e;have:=hb'.1 _ hz;rw[Zi9]at this;omega
   .exact e
theorem Zb5m:∀{l:List (List Int)},(l.Pairwise λa b=>leR a b=true)->AscR (cptR l)
 |[],_=>by simp[cptR]
 |[a],_=>by simp[cptR]
 |a::b::l,h=>by
  have h1:=Ybm.1 h;have ih:=Zb5m h1.2;unfold cptR;split
  .exact ih
  .rename_i e;refine Ybm.2 ⟨λx hx=>?_,ih⟩;rw[Zbjz]at hx;have hab:cmpR a b<0:=by
    have h3:=h1.1 b (by simp);unfold leR at h3;simp only[decide_eq_true_eq]at h3;rcases Yc8 h3 with h4|h4
    .exact h4
    .exact absurd (Zfb _ _ h4) e
   rcases Yx.1 hx with rfl|hx
   .exact hab
   .have h2:=(Ybm.1 h1.2).1 x hx;unfold leR at h2;simp only[decide_eq_true_eq]at h2;have h5:=Zn0 a b x (by omega) h2;rcases Yc8 h5 with h4|h4
    .exact h4
    .have:=Zfb _ _ h4;subst this;have:=Zex a b;omega
theorem Zbkb(rows:List (List Int)):AscR (ansR rows):=Zb5m (Zb4r rows)
theorem Z6d(rows:List (List Int))(x:List Int):x∈ansR rows↔x∈rows:=by unfold ansR;rw[Zbjz,(Zyr rows).mem_iff]
theorem ansR_len(rows:List (List Int)):(ansR rows).length<=rows.length:=by unfold ansR;rw[<-(Zyr rows).length_eq];exact Zb4s _
theorem Zcuo{rows:List (List Int)}(h1:rows.length<=4096)(h2:∀r∈rows,r.length<=4):Zth rows=some (.own 0,[.arr 56 1 true ((ansR rows).map isc)]):=by
 have hl:=(Zyr rows).length_eq;refine Zclq _ _ ⟨_,Zbjy rows h2 (by omega),srtR rows,?_,ansR rows,?_,rfl⟩
 .unfold Z9o;exact c_sort h1 h2
 .unfold Z9p;exact c_cpt (by omega) λr hr=>h2 r ((Zyr rows).mem_iff.1 hr)
def putR:List (List Int)->List Int->Bool->List (List Int)
 |[],row,put=>if put=true then[]else[row]
 |e::es,row,put=>if cmpR e row=0 then e::putR es row true else if 0<cmpR e row then(if put=true then e::putR es row true else row::e::putR es row true)else e::putR es row put
theorem Z6e:∀(es:List (List Int)) (row:List Int),putR es row true=es
 |[],_=>rfl
 |e::es,row=>by
  unfold putR;rw[Z6e es row];simp
theorem Zr8:∀(es:List (List Int)) (row x:List Int),x∈putR es row false↔x∈es\/x=row
 |[],row,x=>by simp[putR]
 |e::es,row,x=>by
  have ih:=Zr8 es row x;unfold putR;rw[Z6e];by_cases h1:cmpR e row=0
  .rw[if_pos h1];have:=Zfb _ _ h1;subst this;simp;exact λh=>.inl h
  .rw[if_neg h1];by_cases h2:0<cmpR e row
   .rw[if_pos h2,if_neg (by decide)];simp only[Yx];constructor
    .rintro(h|h|h)
     .exact .inr h
     .exact .inl (.inl h)
     .exact .inl (.inr h)
    .rintro((h|h)|h)
     .exact .inr (.inl h)
     .exact .inr (.inr h)
     .exact .inl h
   .rw[if_neg h2,Yx,ih,Yx,or_assoc]
theorem Zb5n:∀{es:List (List Int)} (row:List Int),AscR es->AscR (putR es row false)
 |[],row,_=>by simp[putR]
 |e::es,row,h=>by
  have h':=Ybm.1 h;unfold putR;rw[Z6e];by_cases h1:cmpR e row=0
  .rw[if_pos h1];exact h
  .rw[if_neg h1];by_cases h2:0<cmpR e row
   .rw[if_pos h2,if_neg (by decide)];have h3:cmpR row e<0:=by have:=Zex e row;omega
    refine Ybm.2 ⟨λx hx=>?_,h⟩;rcases Yx.1 hx with rfl|hx
    .exact h3
    .have h4:=h'.1 x hx;have h5:=Zn0 row e x (by omega) (by omega);rcases Yc8 h5 with h6|h6
     .exact h6
     .have:=Zfb _ _ h6;subst this;have:=Zex e row;omega
   .rw[if_neg h2];refine Ybm.2 ⟨λx hx=>?_,Zb5n row h'.2⟩;rw[Zr8]at hx;rcases hx with hx|rfl
    .exact h'.1 x hx
    .omega
theorem Z6f:∀(es:List (List Int)) (row:List Int) (put:Bool),(putR es row put).length<=es.length+1
 |[],row,put=>by unfold putR;split<;>simp
 |e::es,row,put=>by
  unfold putR;rw[Z6e];have:=Z6f es row put;split
  .simp
  .split
   .split<;>simp
   .simp only[Yw];omega
theorem l_put{rows:List (List Int)}{row:List Int}(hl:rows.length<=5000)(h4:∀r∈rows,r.length<=4)(hr:row.length<=4):∀i,i<=rows.length->∀(out:List (List Int)) (put:Bool),out.length+2*(rows.length-i)<=20000->Ziq out rows row put i=some (.own 0,[.arr 56 1 true ((out++putR (rows.drop i) row put).map isc)]):=by
 refine down _ ?_ ?_
 .intro out put ho;refine Zb0r _ _ _ _ _ _ ?_;rw[if_neg (by omega),Yg];rcases tf put with e|e
  .subst e;rw[if_neg (by decide)];exact⟨by omega,by omega,rfl⟩
  .subst e;rw[if_pos rfl];simp[putR]
 .intro i hi ih out put ho;have he:=h4 _ (Yb hi);refine Zb0r _ _ _ _ _ _ ?_;rw[if_pos (by omega),wS hi (by omega),Yd hi];refine⟨by omega,_,gE hi,_,Zlf _ _ (by omega) (by omega),?_⟩;unfold putR;by_cases h1:cmpR rows[i] row=0
  .rw[if_pos h1,if_pos h1,if_neg (by omega)];refine⟨by omega,by omega,?_⟩;rw[ih _ _ (by simp;omega)];simp
  .rw[if_neg h1,if_neg h1];by_cases h2:0<cmpR rows[i] row
   .rw[if_pos h2,if_pos h2];rcases tf put with e|e
    .subst e;rw[if_neg (by decide),if_neg (by decide)];refine⟨by omega,by omega,by omega,by omega,?_⟩;rw[ih _ _ (by simp;omega)];simp
    .subst e;rw[if_pos rfl,if_pos rfl];refine⟨by omega,by omega,?_⟩;rw[ih _ _ (by simp;omega)];simp
   .rw[if_neg h2,if_neg h2];refine⟨by omega,by omega,?_⟩;rw[ih _ _ (by simp;omega)];simp
theorem x_put1{rows:List (List Int)}{row:List Int}(hl:rows.length<=5000)(h4:∀r∈rows,r.length<=4)(hr:row.length<=4):Zp7 rows row=some (.own 0,[.arr 56 1 true ((putR rows row false).map isc)]) :=
 Zcov _ _ _ (by simpa using l_put hl h4 hr 0 (Ya _) [] false (by simp;omega))
def Zll(c rows:List (List Int)):List (List Int):=rows.foldl (λl r=>putR l r false) c
theorem Zb5o:∀(rows c:List (List Int)) (x:List Int),x∈Zll c rows↔x∈c\/x∈rows
 |[],c,x=>by simp[Zll]
 |r::rows,c,x=>by
  show x∈Zll (putR c r false) rows↔_;rw[Zb5o rows,Zr8,Yx,or_assoc]
theorem Zb5p:∀{rows c:List (List Int)},AscR c->AscR (Zll c rows)
 |[],c,h=>h
 |r::rows,c,h=>Zb5p (rows:=rows) (Zb5n r h)
theorem Zb5q(rows:List (List Int)):Zll [] rows=ansR rows :=
 Z6c (Zb5p .nil) (Zbkb rows) λx=>by rw[Zb5o,Z6d];simp
def selT(rows:List (List Int))(cols:List Int):List (List Int):=rows.map λr=>selC r cols
def cnt(all:List (List Int))(g:List Int):Int:=((all.filter λx=>decide (x=g)).length:Int)
def subs(n:Int):List (List Int):=if n=1 then[[0]]else if n=2 then[[0],[1],[0,1]]else[[0],[1],[0,1],[2],[0,2],[1,2],[0,1,2]]
def grpV(rows:List (List Int))(cols:List Int):List (List Int):=ansR (selT rows cols)
def grpN(rows:List (List Int))(cols:List Int):List Int:=(grpV rows cols).map (cnt (selT rows cols))
def grp(rows:List (List Int))(cols:List Int):Zg:=⟨cols,grpV rows cols,grpN rows cols⟩
def Zt(t:Ze):Zf:=⟨t.Name,t.Arity,t.Rows.length,(subs t.Arity).map (grp t.Rows)⟩
theorem Zbkc{n:Int}(h:inR n 1 3=true):∀c∈subs n,c.length<=3/\(∀x∈c,0<=x/\x<n)/\c.Pairwise (·<·):=by
 have h':1<=n/\n<=3:=by simpa[inR]using h
 have:n=1\/n=2\/n=3:=by omega
 rcases this with rfl|rfl|rfl<;>decide
theorem Zyw(rows:List (List Int))(cols:List Int):(selT rows cols).length=rows.length:=by simp[selT]
theorem Z6g(rows:List (List Int))(cols:List Int):(grpV rows cols).length<=rows.length:=by
 have:=ansR_len (selT rows cols);rw[Zyw]at this;exact this
theorem Zb5r{rows:List (List Int)}{cols x:List Int}(h:x∈selT rows cols):x.length=cols.length:=by
 obtain⟨r,_,rfl⟩:=Yr.1 h;simp[selC]
theorem Zbkd{rows:List (List Int)}{cols x:List Int}(h:x∈grpV rows cols):x.length=cols.length:=Zb5r ((Z6d _ _).1 h)
theorem Zbke(all:List (List Int))(g:List Int):0<=cnt all g:=by unfold cnt;omega
theorem cnt_le(all:List (List Int))(g:List Int):cnt all g<=all.length:=by
 unfold cnt;have:=Ycs (λx=>decide (x=g)) all;omega
def ltI(a b:Int):Bool:=decide (a<b)
def ascN(n:Int):Option Int->List Int->Bool
 |_,[]=>true
 |p,v::vs=>inR v 0 (n-1) && nxt ltI p v && ascN n (some v) vs
def Zbv(n:Int)(vs:List Int):Bool:=ascN n none vs
theorem Zb5s{n:Int}:∀{vs:List Int} {p:Option Int},ascN n p vs=true->∀c∈vs,0<=c/\c<n
 |[],_,_,c,hc=>by cases hc
 |v::vs,p,h,c,hc=>by
  simp only[ascN,Yc]at h;have h1:0<=v/\v<=n-1:=by simpa[inR]using h.1.1
  rcases Yx.1 hc with rfl|hc
  .omega
  .exact Zb5s h.2 c hc
theorem Zb5t{n:Int}:∀{vs:List Int} {q:Int},ascN n (some q) vs=true->-1<=q->q<n->(vs.length:Int)<=n-1-q
 |[],q,_,h1,h2=>by simp;omega
 |v::vs,q,h,h1,h2=>by
  simp only[ascN,Yc]at h;have h3:0<=v/\v<=n-1:=by simpa[inR]using h.1.1
  have h4:q<v:=by simpa[nxt,ltI]using h.1.2
  have:=Zb5t h.2 (by omega) (by omega);simp only[Yw];omega
theorem Zbkf{n:Int}{vs:List Int}(h:Zbv n vs=true)(hn:0<=n):(vs.length:Int)<=n:=by
 cases vs with
 |nil=>simp;omega
 |cons v vs =>
  simp only[Zbv,ascN,Yc]at h;have h3:0<=v/\v<=n-1:=by simpa[inR]using h.1.1
  have:=Zb5t h.2 (by omega) (by omega);simp only[Yw];omega
theorem Z6h{n:Int}(h:inR n 1 3=true):∀c∈subs n,Zbv n c=true:=by
 have h':1<=n/\n<=3:=by simpa[inR]using h
 have:n=1\/n=2\/n=3:=by omega
 rcases this with rfl|rfl|rfl<;>decide
theorem w1{n:Int}(h:1<=n/\n<=3):w (n-1)=n-1:=Zw (by omega) (by omega)
theorem Zcup(n:Int)(hn:1<=n/\n<=3)(vs:List Int)(hl:Le vs):∀i,i<=vs.length->Zo5 vs n vs vs.length i=some (Bo (ascN n (pvA vs i) (vs.drop i)),[]):=by
 refine down _ ?_ ?_
 .refine Zbym _ _ _ _ _ _ ?_;rw[if_neg (by omega),Yg];rfl
 .intro i hi ih;refine Zbym _ _ _ _ _ _ ?_;rw[if_pos (by omega),Yd hi,ascN,wS hi (by omega),w1 hn];refine⟨by omega,_,gE hi,_,Zbu _ _ _,?_⟩;rw[show pvA vs (i+1)=some vs[i]from Yj hi]at ih;rcases tf (inR vs[i] 0 (n-1))with e|e
  .rw[e];simp
  .rw[e,if_pos rfl,ih];by_cases h0:(0:Int)<(i:Int)
   .rw[if_pos h0,wP (by omega) hi (by omega),Zi8 (by omega) (by omega)];refine⟨by omega,_,gE (by omega),?_⟩;by_cases h2:vs[i]<=vs[i-1]
    .rw[if_pos h2];simp[nxt,ltI];omega
    .rw[if_neg h2];simp[nxt,ltI,show vs[i-1]<vs[i] by omega]
   .obtain rfl:i=0:=by omega
    rw[if_neg h0];simp[nxt,pvA]
theorem Zb5u(n:Int)(hn:1<=n/\n<=3)(vs:List Int)(hl:Le vs):Zo4 vs n=some (Bo (Zbv n vs),[]) :=
 Zclo _ _ _ (by simpa[Zbv,pvA]using Zcup n hn vs hl 0 (Ya _))
theorem Zcuq(t:Ze)(h:LeT t)(hn:1<=t.Arity/\t.Arity<=3)(vs:List Int)(hl:Le vs):∀i,i<=vs.length->Zp5 t vs i=some (Bo (ascN t.Arity (pvA vs i) (vs.drop i) && Z3 t),[]):=by
 refine down _ ?_ ?_
 .refine Zb0p _ _ _ _ ?_;rw[if_neg (by omega),Yg];exact⟨_,Z50 t h,by simp[ascN]⟩
 .intro i hi ih;refine Zb0p _ _ _ _ ?_;rw[if_pos (by omega),Yd hi,ascN,wS hi (by omega),w1 hn];refine⟨by omega,_,gE hi,_,Z8 _ _ _,?_⟩;rw[show pvA vs (i+1)=some vs[i]from Yj hi]at ih;rcases tf (inR vs[i] 0 (t.Arity-1))with e|e
  .rw[e];simp
  .rw[e,if_pos rfl,ih];by_cases h0:(0:Int)<(i:Int)
   .rw[if_pos h0,wP (by omega) hi (by omega),Zi8 (by omega) (by omega)];refine⟨by omega,_,gE (by omega),?_⟩;by_cases h2:vs[i]<=vs[i-1]
    .rw[if_pos h2];simp[nxt,ltI];omega
    .rw[if_neg h2];simp[nxt,ltI,show vs[i-1]<vs[i] by omega]
   .obtain rfl:i=0:=by omega
    rw[if_neg h0];simp[nxt,pvA]
theorem Zb5v(t:Ze)(h:LeT t)(hn:1<=t.Arity/\t.Arity<=3)(vs:List Int)(hl:Le vs):Zp4 t vs=some (Bo (Zbv t.Arity vs && Z3 t),[]) :=
 Zcot _ _ _ (by simpa[Zbv,pvA]using Zcuq t h hn vs hl 0 (Ya _))
theorem Zcur{n:Int}(h:inR n 1 3=true):Zo3 n=some (.own 0,[.arr 56 1 true ((subs n).map isc)]):=by
 have h':1<=n/\n<=3:=by simpa[inR]using h
 have w01:w (0+1)=1:=by decide
 have w12:w (1+1)=2:=by decide
 have w23:w (2+1)=3:=by decide
 have w34:w (3+1)=4:=by decide
 have b1:Ze3 1=some (.own 0,[.arr 3 1 true (([0]:List Int).map ic)]):=by
  refine Zk6 _ _ ?_
  repeat (refine Zi1 _ _ _ _ ?_;simp +decide[-List.map_cons,w01,w12,w23,w34])
 have b2:Ze3 2=some (.own 0,[.arr 3 1 true (([1]:List Int).map ic)]):=by
  refine Zk6 _ _ ?_
  repeat (refine Zi1 _ _ _ _ ?_;simp +decide[-List.map_cons,w01,w12,w23,w34])
 have b3:Ze3 3=some (.own 0,[.arr 3 1 true (([0,1]:List Int).map ic)]):=by
  refine Zk6 _ _ ?_
  repeat (refine Zi1 _ _ _ _ ?_;simp +decide[-List.map_cons,w01,w12,w23,w34])
 have b4:Ze3 4=some (.own 0,[.arr 3 1 true (([2]:List Int).map ic)]):=by
  refine Zk6 _ _ ?_
  repeat (refine Zi1 _ _ _ _ ?_;simp +decide[-List.map_cons,w01,w12,w23,w34])
 have b5:Ze3 5=some (.own 0,[.arr 3 1 true (([0,2]:List Int).map ic)]):=by
  refine Zk6 _ _ ?_
  repeat (refine Zi1 _ _ _ _ ?_;simp +decide[-List.map_cons,w01,w12,w23,w34])
 have b6:Ze3 6=some (.own 0,[.arr 3 1 true (([1,2]:List Int).map ic)]):=by
  refine Zk6 _ _ ?_
  repeat (refine Zi1 _ _ _ _ ?_;simp +decide[-List.map_cons,w01,w12,w23,w34])
 have b7:Ze3 7=some (.own 0,[.arr 3 1 true (([0,1,2]:List Int).map ic)]):=by
  refine Zk6 _ _ ?_
  repeat (refine Zi1 _ _ _ _ ?_;simp +decide[-List.map_cons,w01,w12,w23,w34])
 refine Zcln _ _ ⟨_,Zbu _ _ _,?_⟩;rw[h,if_pos rfl];have step:∀(out:List (List Int)) (s:Int) (v:List Int) (r:AV×List Blk),s<shlI 1 n->Ze3 s=some (.own 0,[.arr 3 1 true (v.map ic)])->out.length+1<=68719476736->Zj8 (out++[v]) n (w (s+1))=some r->Zj8 out n s=some r:=by
  intro out s v r h1 h2 h3 h4;refine Zbyl _ _ _ _ ⟨by omega,?_⟩;rw[if_pos h1];exact⟨_,h2,h3,h4⟩
 have fin:∀(out:List (List Int)) (s:Int),¬s<shlI 1 n->Zj8 out n s=some (.own 0,[.arr 56 1 true (out.map isc)]):=by
  intro out s h1;refine Zbyl _ _ _ _ ⟨by omega,?_⟩;rw[if_neg h1]
 have:n=1\/n=2\/n=3:=by omega
 rcases this with rfl|rfl|rfl
 .exact step _ 1 _ _ (by decide) b1 (by decide) (fin _ _ (by decide))
 .exact step _ 1 _ _ (by decide) b1 (by decide) (step _ 2 _ _ (by decide) b2 (by decide) (step _ 3 _ _ (by decide) b3 (by decide) (fin _ _ (by decide))))
 .exact step _ 1 _ _ (by decide) b1 (by decide) (step _ 2 _ _ (by decide) b2 (by decide) (step _ 3 _ _ (by decide) b3 (by decide) (step _ 4 _ _ (by decide) b4 (by decide) (step _ 5 _ _ (by decide) b5 (by decide) (step _ 6 _ _ (by decide) b6 (by decide) (step _ 7 _ _ (by decide) b7 (by decide) (fin _ _ (by decide))))))))
theorem Zcus{n:Int}(h:inR n 1 3=true):Zvr n=some (.own 0,[.arr 56 1 true ((subs n).map isc)]):=by
 have h':1<=n/\n<=3:=by simpa[inR]using h
 have w01:w (0+1)=1:=by decide
 have w12:w (1+1)=2:=by decide
 have w23:w (2+1)=3:=by decide
 have b:∀{s:Int} {v:List Int},Zmv [] s 0=some (.own 0,[.arr 3 1 true (v.map ic)])->Zeq s=some (.own 0,[.arr 3 1 true (v.map ic)]):=λh=>Zb0n _ _ h
 have b1:Zeq 1=some (.own 0,[.arr 3 1 true (([0]:List Int).map ic)]):=by
  refine b ?_
  repeat (refine Zi3 _ _ _ _ ?_;simp +decide[-List.map_cons,w01,w12,w23])
 have b2:Zeq 2=some (.own 0,[.arr 3 1 true (([1]:List Int).map ic)]):=by
  refine b ?_
  repeat (refine Zi3 _ _ _ _ ?_;simp +decide[-List.map_cons,w01,w12,w23])
 have b3:Zeq 3=some (.own 0,[.arr 3 1 true (([0,1]:List Int).map ic)]):=by
  refine b ?_
  repeat (refine Zi3 _ _ _ _ ?_;simp +decide[-List.map_cons,w01,w12,w23])
 have b4:Zeq 4=some (.own 0,[.arr 3 1 true (([2]:List Int).map ic)]):=by
  refine b ?_
  repeat (refine Zi3 _ _ _ _ ?_;simp +decide[-List.map_cons,w01,w12,w23])
 have b5:Zeq 5=some (.own 0,[.arr 3 1 true (([0,2]:List Int).map ic)]):=by
  refine b ?_
  repeat (refine Zi3 _ _ _ _ ?_;simp +decide[-List.map_cons,w01,w12,w23])
 have b6:Zeq 6=some (.own 0,[.arr 3 1 true (([1,2]:List Int).map ic)]):=by
  refine b ?_
  repeat (refine Zi3 _ _ _ _ ?_;simp +decide[-List.map_cons,w01,w12,w23])
 have b7:Zeq 7=some (.own 0,[.arr 3 1 true (([0,1,2]:List Int).map ic)]):=by
  refine b ?_
  repeat (refine Zi3 _ _ _ _ ?_;simp +decide[-List.map_cons,w01,w12,w23])
 refine Zcos _ _ ?_;have step:∀(out:List (List Int)) (s:Int) (v:List Int) (r:AV×List Blk),s<shlI 1 n->Zeq s=some (.own 0,[.arr 3 1 true (v.map ic)])->out.length+1<=68719476736->Zmw (out++[v]) n (w (s+1))=some r->Zmw out n s=some r:=by
  intro out s v r h1 h2 h3 h4;refine Zb0o _ _ _ _ ⟨_,Z8 _ _ _,?_⟩;rw[h,if_pos rfl];refine⟨by omega,?_⟩;rw[if_pos h1];exact⟨_,h2,h3,h4⟩
 have fin:∀(out:List (List Int)) (s:Int),¬s<shlI 1 n->Zmw out n s=some (.own 0,[.arr 56 1 true (out.map isc)]):=by
  intro out s h1;refine Zb0o _ _ _ _ ⟨_,Z8 _ _ _,?_⟩;rw[h,if_pos rfl];refine⟨by omega,?_⟩;rw[if_neg h1]
 have:n=1\/n=2\/n=3:=by omega
 rcases this with rfl|rfl|rfl
 .exact step _ 1 _ _ (by decide) b1 (by decide) (fin _ _ (by decide))
 .exact step _ 1 _ _ (by decide) b1 (by decide) (step _ 2 _ _ (by decide) b2 (by decide) (step _ 3 _ _ (by decide) b3 (by decide) (fin _ _ (by decide))))
 .exact step _ 1 _ _ (by decide) b1 (by decide) (step _ 2 _ _ (by decide) b2 (by decide) (step _ 3 _ _ (by decide) b3 (by decide) (step _ 4 _ _ (by decide) b4 (by decide) (step _ 5 _ _ (by decide) b5 (by decide) (step _ 6 _ _ (by decide) b6 (by decide) (step _ 7 _ _ (by decide) b7 (by decide) (fin _ _ (by decide))))))))
theorem dropQ{α:Type}[DecidableEq α]{xs ys:List α}{i:Nat}(h1:i<xs.length)(h2:i<ys.length):decide (xs.drop i=ys.drop i)=(decide (xs[i]=ys[i]) && decide (xs.drop (i+1)=ys.drop (i+1))):=by
 have e:(xs.drop i=ys.drop i)=(xs[i]=ys[i]/\xs.drop (i+1)=ys.drop (i+1)):=by
  rw[Yd h1,Yd h2,Yc4]
 rw[decide_eq_decide.2 (iff_of_eq e),Bool.decide_and]
theorem l_slEq(xs ys:List Int)(hl:ys.length=xs.length)(hx:xs.length<=4294967296):∀i,i<=xs.length->Zti xs ys xs.length i=some (Bo (decide (xs.drop i=ys.drop i)),[]):=by
 refine down _ ?_ ?_
 .refine Zbyq _ _ _ _ _ ?_;rw[if_neg (by omega),Yg,<-hl,Yg];simp
 .intro i hi ih;have hi':i<ys.length:=by omega
  refine Zbyq _ _ _ _ _ ?_;rw[if_pos (by omega),wS hi (by omega),dropQ hi hi'];refine⟨by omega,_,gE hi,_,gE hi',?_⟩;by_cases c:xs[i]=ys[i]
  .rw[if_pos c,ih];simp[c]
  .rw[if_neg c];simp[c]
theorem Zyx(xs ys:List Int)(hx:xs.length<=4294967296):Zik xs ys=some (Bo (decide (xs=ys)),[]):=by
 refine Zclr _ _ _ ?_;by_cases c:(xs.length:Int)=(ys.length:Int)
 .rw[if_pos c];simpa using l_slEq xs ys (by omega) hx 0 (Ya _)
 .rw[if_neg c]
  have:¬xs=ys:=λhc=>c (by rw[hc])
  simp[this]
structure RowsN (rows:List (List Int)) (n:Nat):Prop where
 len:rows.length<=8
 row:∀r∈rows,r.length=n
 n3:n<=3
structure Zlm (cols:List Int) (n:Nat):Prop where
 len:cols.length<=3
 mem:∀c∈cols,0<=c/\c<n
theorem Zg2{t:Ze}(h:Z3 t=true):RowsN t.Rows t.Arity.toNat/\1<=t.Arity/\t.Arity<=3:=by
 have h8:=Zd7 h;unfold Z3 at h;simp only[Yc]at h;have h2:1<=t.Arity/\t.Arity<=3:=by simpa[inR]using h.1.1.2
 refine⟨⟨h8,λr hr=>?_,by omega⟩,h2⟩;have h1:=Yn.1 h.2.1 r hr;unfold rwB at h1;simp only[Yc,decide_eq_true_eq]at h1;omega
theorem Zbkg{n:Int}{cols:List Int}(h:Zbv n cols=true)(hn:1<=n/\n<=3):Zlm cols n.toNat:=by
 have h1:=Zbkf h (by omega);exact⟨by omega,λc hc=>by have:=Zb5s h c hc;omega⟩
theorem Zbkh{row cols:List Int}{n:Nat}(hr:row.length=n)(hn:n<=3)(hc:Zlm cols n):Zc5 row cols=some (.tup [.own 0,Bo true],[.arr 3 1 true ((selC row cols).map ic)]) :=
 Zb41 row cols (by have:=hc.len;omega) (by omega) (by rw[hr];exact hc.mem)
theorem Zcut(row cols:List Int)(h4:cols.length<=1000)(hr:Le row)(hc:∀c∈cols,0<=c/\c<row.length):∀i,i<=cols.length->Zvu (selC row (cols.take i)) row cols i=some (.tup [.own 0,Bo true],[.arr 3 1 true ((selC row cols).map ic)]):=by
 refine down _ ?_ ?_
 .refine Zb0q _ _ _ _ _ ?_;rw[if_neg (by omega),Yl]
 .intro i hi ih;obtain⟨h0,h1⟩:=hc _ (Yb hi);refine Zb0q _ _ _ _ _ ?_;rw[if_pos (by omega),wS hi (by omega)];refine⟨by omega,_,gE hi,_,Z8 _ _ _,?_⟩;rw[show w ((row.length:Int)-1)=(row.length:Int)-1 from Zw (by omega) (by omega)];rw[show inR cols[i] 0 ((row.length:Int)-1)=true by simp[inR];omega,if_pos rfl];refine⟨h0,_,gD (by omega),by simp[selC];omega,?_⟩;rw[show selC row (cols.take (i+1))=selC row (cols.take i)++[row.getD cols[i].toNat 0] by unfold selC;rw[Y1 hi,Y0];rfl]at ih;exact ih
theorem Z6i{row cols:List Int}{n:Nat}(hr:row.length=n)(hn:n<=3)(hc:Zlm cols n):Zkl row cols=some (.tup [.own 0,Bo true],[.arr 3 1 true ((selC row cols).map ic)]) :=
 Zcou _ _ _ (by simpa[selC]using Zcut row cols (by have:=hc.len;omega) (by omega) (by rw[hr];exact hc.mem) 0 (Ya _))
theorem Zb5w{all:List (List Int)}{j:Nat}(hj:j<all.length)(g:List Int):cnt (all.take (j+1)) g=cnt (all.take j) g+(if g=all[j]then 1 else 0):=by
 unfold cnt;rw[Y1 hj,Ycz];by_cases e:all[j]=g
 .simp[e]
 .simp[e,Ne.symm e]
def mkC(all cc:List (List Int))(k:Nat)(c:Int):List Int:=(cc.take k).map (cnt all)++c::List.replicate (cc.length-k-1) 0
theorem mkC_get{all groups:List (List Int)}{k:Nat}(hk:k<groups.length)(c:Int):(mkC all groups k c)[k]?=some c:=by
 unfold mkC;rw[Ycg (by simp;omega)];simp[Ybb (Yb9 hk)]
theorem mkC_set{all groups:List (List Int)}{k:Nat}(hk:k<groups.length)(c d:Int):(mkC all groups k c).set k d=mkC all groups k d:=by
 unfold mkC;rw[List.set_append_right _ _ (by simp;omega)];simp[Ybb (Yb9 hk)]
def gcR(cc:List (List Int))(c:List Int):AV×List Blk:=(.tup [.own 0,.own 1],[.arr 56 1 true (cc.map isc),.arr 3 1 true (c.map ic)])
theorem l_gc1(all groups:List (List Int))(r:AV×List Blk)(ha:all.length<=4096)(h4:∀x∈all,x.length<=4){k:Nat}(hk:k<groups.length)(cd:groups.length<=4096)(cc:groups[k].length<=4)
  (c:Zl6 all groups (mkC all groups k (cnt all groups[k])) groups.length (w ((k:Int)+1))=some r):∀j,j<=all.length->Zo7 all groups (mkC all groups k (cnt (all.take j) groups[k])) k groups[k] groups.length k all.length j=some r:=by
 refine down _ ?_ ?_
 .refine Zbys _ _ _ _ _ _ _ _ _ _ ?_;rw[if_neg (by omega),Yl];exact c
 .intro j hj ih;refine Zbys _ _ _ _ _ _ _ _ _ _ ?_;rw[if_pos (by omega),wS hj (by omega)];refine⟨by omega,_,gE hj,_,Zyx _ _ (by omega),?_⟩;rw[Zb5w hj]at ih;by_cases e:groups[k]=all[j]
  .rw[if_pos e]at ih;rw[if_pos (by simpa using e)];refine⟨by omega,_,by rw[Yh];exact mkC_get hk _,?_⟩;have h1:=Zbke (all.take j) groups[k];have h2:=cnt_le (all.take j) groups[k];have h3:(all.take j).length<=all.length:=by simp;omega
   rw[Yh,mkC_set hk,show w (cnt (all.take j) groups[k]+1)=cnt (all.take j) groups[k]+1 from Zw (by omega) (by omega)];exact ih
  .rw[if_neg e,Int.add_zero]at ih;rw[if_neg (by simpa using e)];exact ih
theorem l_gc2(all groups:List (List Int))(ha:all.length<=4096)(h4:∀x∈all,x.length<=4)(hg:groups.length<=4096)(c:∀x∈groups,x.length<=4):∀k,k<=groups.length->Zl6 all groups ((groups.take k).map (cnt all)++List.replicate (groups.length-k) 0) groups.length k=some (gcR groups (groups.map (cnt all))):=by
 refine down _ ?_ ?_
 .refine Zbyr _ _ _ _ _ _ ?_;rw[if_neg (by omega),Yl];simp[gcR]
 .intro k hk ih;refine Zbyr _ _ _ _ _ _ ?_;rw[if_pos (by omega)];refine⟨by omega,_,gE hk,?_⟩;have e0:(groups.take k).map (cnt all)++List.replicate (groups.length-k) 0=mkC all groups k (cnt (all.take 0) groups[k]):=by
   unfold mkC;rw[show groups.length-k=(groups.length-k-1)+1 by omega,Ybq];simp[cnt]
  rw[e0];refine l_gc1 all groups _ ha h4 hk hg (c _ (Yb hk)) ?_ 0 (Ya _);rw[wS hk (by omega)];have e1:(groups.take (k+1)).map (cnt all)++List.replicate (groups.length-(k+1)) 0=mkC all groups k (cnt all groups[k]):=by
   unfold mkC;rw[Y1 hk,Y0,show groups.length-(k+1)=groups.length-k-1 by omega];simp
  rw[e1]at ih;exact ih
theorem l_gc0{rows:List (List Int)}{cols:List Int}{n:Nat}(hR:RowsN rows n)(hC:Zlm cols n):∀i,i<=rows.length->Zil (selT (rows.take i) cols) cols rows rows.length i=some (gcR (grpV rows cols) (grpN rows cols)):=by
 have h8:=hR.len;have h3:=hC.len;refine down _ ?_ ?_
 .refine Zbyt ?_;rw[if_neg (by omega),Yl];have hl:=Zyw rows cols;have hg:=Z6g rows cols;have h4:∀r∈selT rows cols,r.length<=4:=λr hr=>by have:=Zb5r hr;omega
  refine⟨grpV rows cols,Zcuo (by omega) h4,by omega,by omega,by rw[Yh];unfold room;omega,by omega,?_⟩;have:=l_gc2 (selT rows cols) (grpV rows cols) (by omega) h4 (by omega) (λx hx=>by have:=Zbkd hx;omega) 0 (Ya _);simpa[grpN]using this
 .intro i hi ih;refine Zbyt ?_;rw[if_pos (by omega),wS hi (by omega)];have hr:=hR.row _ (Yb hi);rw[show selT (rows.take (i+1)) cols=selT (rows.take i) cols++[selC rows[i] cols] by unfold selT;rw[Y1 hi,Y0];rfl]at ih;exact⟨by omega,_,gE hi,.inr ⟨_,Zbkh hr hR.n3 hC,by simp[selT];omega,ih⟩⟩
theorem Zbki{t:Ze}(h:LeT t)(hv:Z3 t=true){cols:List Int}(hc:Zbv t.Arity cols=true):Zgv t cols=some (gcR (grpV t.Rows cols) (grpN t.Rows cols)):=by
 obtain⟨hR,hA⟩:=Zg2 hv;have hC:=Zbkg hc hA;refine Zcls _ _ _ ⟨_,Z5z t h,?_⟩;rw[hv,if_pos rfl];refine⟨_,Zb5u _ hA cols (by have:=hC.len;omega),?_⟩;rw[hc,if_pos rfl];simpa[selT]using l_gc0 hR hC 0 (Ya _)
theorem l_sgc1(t:Ze)(c:List (List Int))(counts cols:List Int){n:Nat}(hR:RowsN t.Rows n)(hC:Zlm cols n)(r:AV×List Blk){k:Nat}(hk:k<c.length)(cd:∀x∈c,x.length<=4)(cl:counts.length<=4096)
  (cc:Zp9 t c (counts++[cnt (selT t.Rows cols) c[k]]) cols (w ((k:Int)+1))=some r):∀j,j<=t.Rows.length->Zqa t c counts cols k (cnt (selT (t.Rows.take j) cols) c[k]) j=some r:=by
 have h8:=hR.len;refine down _ ?_ ?_
 .refine Zb0u _ _ _ _ _ _ _ _ ?_;rw[if_neg (by omega),Yl];exact⟨by omega,cc⟩
 .intro j hj ih;refine Zb0u _ _ _ _ _ _ _ _ ?_;rw[if_pos (by omega),wS hj (by omega)];have hr:=hR.row _ (Yb hj);have hv4:=cd _ (Yb hk);have hs:(selC t.Rows[j] cols).length<=3:=by have:=hC.len;simp[selC];omega
  refine⟨by omega,_,gE hj,_,_,Z6i hr hR.n3 hC,by omega,_,gE hk,_,Zlf _ _ (by omega) (by omega),?_⟩;have hj':j<(selT t.Rows cols).length:=by rw[Zyw];exact hj
  have ht:∀i,selT (t.Rows.take i) cols=(selT t.Rows cols).take i:=λi=>by simp[selT,List.map_take]
  have he:(selT t.Rows cols)[j]=selC t.Rows[j] cols:=by simp[selT]
  rw[ht,Zb5w hj',he]at ih;rw[ht];by_cases e:c[k]=selC t.Rows[j] cols
  .rw[if_pos e]at ih;rw[if_pos (by rw[e];exact Zi9 _)];have h1:=Zbke ((selT t.Rows cols).take j) c[k];have h2:=cnt_le ((selT t.Rows cols).take j) c[k];have h3:((selT t.Rows cols).take j).length<=t.Rows.length:=by rw[Yp,Zyw];omega
   rw[show w (cnt ((selT t.Rows cols).take j) c[k]+1)=cnt ((selT t.Rows cols).take j) c[k]+1 from Zw (by omega) (by omega)];exact ih
  .rw[if_neg e,Int.add_zero]at ih;rw[if_neg (λhc=>e (Zfb _ _ hc).symm)];exact ih
theorem l_sgc2(t:Ze)(values:List (List Int))(cols:List Int){n:Nat}(hR:RowsN t.Rows n)(hC:Zlm cols n)(hv:values.length<=4096)(c:∀x∈values,x.length<=4):∀k,k<=values.length->Zp9 t values ((values.take k).map (cnt (selT t.Rows cols))) cols k=some (gcR values (values.map (cnt (selT t.Rows cols)))):=by
 refine down _ ?_ ?_
 .refine Zb0t _ _ _ _ _ _ ?_;rw[if_neg (by omega),Yl];rfl
 .intro k hk ih;refine Zb0t _ _ _ _ _ _ ?_;rw[if_pos (by omega)];rw[Y1 hk,Y0]at ih;have:=l_sgc1 t values ((values.take k).map (cnt (selT t.Rows cols))) cols hR hC _ hk c (by simp;omega) (by rw[wS hk (by omega)];exact ih) 0 (Ya _);simpa[cnt,selT]using this
theorem l_sgc0(t:Ze)(cols:List Int){n:Nat}(hR:RowsN t.Rows n)(hC:Zlm cols n):∀i,i<=t.Rows.length->∀acc:List (List Int),acc.length<=i->(∀x∈acc,x.length<=4)->
  Zvx t acc [] cols i=some (gcR (Zll acc (selT (t.Rows.drop i) cols)) ((Zll acc (selT (t.Rows.drop i) cols)).map (cnt (selT t.Rows cols)))):=by
 have h8:=hR.len;refine down _ ?_ ?_
 .intro acc ha h4;refine Zb0s _ _ _ _ _ _ ?_;rw[if_neg (by omega),Yg];exact l_sgc2 t acc cols hR hC (by omega) h4 0 (Ya _)
 .intro i hi ih acc ha h4;refine Zb0s _ _ _ _ _ _ ?_;rw[if_pos (by omega),wS hi (by omega),Yd hi];have hr:=hR.row _ (Yb hi);have hs:(selC t.Rows[i] cols).length<=4:=by have:=hC.len;simp[selC];omega
  have hp:=Z6f acc (selC t.Rows[i] cols) false
  exact⟨by omega,_,gE hi,_,_,Z6i hr hR.n3 hC,_,x_put1 (by omega) h4 hs,ih _ (by omega) (λx hx=>by
   rcases(Zr8 _ _ _).1 hx with hx|rfl
   .exact h4 x hx
   .exact hs)⟩
theorem Zb5x{t:Ze}(h:LeT t)(hv:Z3 t=true){cols:List Int}(hc:Zbv t.Arity cols=true):Zp8 t cols=some (gcR (grpV t.Rows cols) (grpN t.Rows cols)):=by
 obtain⟨hR,hA⟩:=Zg2 hv;have hC:=Zbkg hc hA;refine Zcow _ _ _ ⟨_,Zb5v t h hA cols (by have:=hC.len;omega),?_⟩;rw[hc,hv,if_pos (by rfl)];have:=l_sgc0 t cols hR hC 0 (Ya _) [] (by simp) (by simp);rw[Yq,Zb5q]at this;exact this
end Go.Proofs.YtnnjbejcffjgfaaGreat
