/-
  Parts of the proofs for this seat: UB DR UC.
-/
import Derived.Test.YthdihnbeifcppaaGreatP35
set_option linter.all false
set_option maxRecDepth 100000
set_option maxHeartbeats 4000000
namespace Go.Proofs.YthdihnbeifcppaaGreat
open Go.AM
noncomputable section
def ZaG(row:V6):V4->Nat->Int
 |[],_=>-1
 |r::rs,i=>if r=row then i else ZaG row rs (i+1)
def Zvo{row:V6}:∀{rs:V4} (i:Nat),row ∉ rs->ZaG row rs i=-1
 |[],_,_=>rfl
 |r::rs,i,h=>by
  simp only[Y3,not_or]at h;rw[ZaG,Yb (Ne.symm h.1)];exact Zvo _ h.2
def Zms{row:V6}:∀{rs:V4} (i:Nat),row∈rs->∃(k:Nat) (h:k<rs.length),ZaG row rs i=((i+k:Nat):Int)/\rs[k]=row
 |r::rs,i,h=>by
  unfold ZaG;by_cases e:r=row
  .exact⟨0,by simp,by rw[Ya e];simp,e⟩
  .rw[Yb e];obtain⟨k,hk,h1,h2⟩:=Zms (i+1) ((Y3.1 h).resolve_left (Ne.symm e));exact⟨k+1,by simpa using hk,by rw[h1];congr 1;omega,by simpa using h2⟩
def l_idxR(rows:V4)(row:V6)(h:Lf rows/\∀r∈rows,Lf r):∀i,i<=rows.length->Zg3 rows row rows.length i=some (I (ZaG row (rows.drop i) i),[]):=by
 have hl:=h.1;refine down _ ?_ ?_
 .apply WK.2.1.2.1;rw[Ynx,Yo];rfl
 .intro i hi ih;apply WK.2.1.2.1;rw[Ypx,wS hi (by omega),Yi hi];refine⟨by omega,_,gE hi,_,WK.2.1.1.2 _ _ _ ⟨_,Ze0 _ _ (h.2 _ (Yc hi)),rfl⟩,?_⟩;unfold ZaG;by_cases e:rows[i]=row
  .rw[Ya (by simpa using e),Ya e]
  .rw[Yb (by simpa using e),Yb e];exact ih
def Zvp(t:Zc)(h:LfT t)(row:V6):Zds t row=some (I (ZaG row t.Rows 0),[]) :=
 WK.2.2.1.1 _ _ _ ⟨_,WK.2.1.2.2 _ _ _ (by simpa using l_idxR t.Rows row h 0 (Yd _)),rfl⟩
def U8(t:Zc)(row:V6):Bool:=Xc t && decide (row∈t.Rows)
def LfT.le{t:Zc}(h:LfT t):LeT t:=⟨by have:=h.1;omega,λr hr=>by have:=h.2 r hr;omega⟩
def LfD.le{d:Zl}(h:LfD d):LeD d:=⟨by have:=h.1;omega,λt ht=>(h.2 t ht).le⟩
def ZJB(t:Zc)(h:LfT t)(row:V6):ZkB t row=some (Bo (U8 t row),[]):=by
 refine WK.2.2.2.2.1 _ _ _ ⟨_,Zex t h.le,?_⟩;unfold U8;rcases tf (Xc t)with e|e
 .rw[e];simp
 rw[e,Ya rfl];refine⟨_,Zvp t h row,?_⟩;by_cases hm:row∈t.Rows
 .obtain⟨k,hk,h1,-⟩:=Zms 0 hm;rw[h1];simp[hm]
 .rw[Zvo 0 hm];simp[hm]
def l_has(t:Zc)(h:LfT t)(row:V6)(hr:Lf row):∀i,i<=t.Rows.length->ZhL t row i=some (Bo (Xc t && decide (row∈t.Rows.drop i)),[]):=by
 have hl:=h.1;refine down _ ?_ ?_
 .apply Ww.2.1.2.2;rw[Ynx,Yo];simp
 .intro i hi ih;apply Ww.2.1.2.2;rw[Ypx,wS hi (by omega),Yi hi];refine⟨_,Zey t h.le,?_⟩;rcases tf (Xc t)with e|e
  .rw[e];simp
  rw[e,Ya rfl];have:=h.2 _ (Yc hi);refine⟨by omega,_,gE hi,_,JA _ _ (by omega) (by omega),?_⟩;by_cases c:t.Rows[i]=row
  .rw[Ya (by rw[c];exact KQ _)];simp[c]
  .rw[Yb (λhc=>c (Ul _ _ hc)),ih,e];simp only[Y3,Ne.symm c,false_or]
def Z4S(t:Zc)(h:LfT t)(row:V6)(hr:Lf row):ZhK t row=some (Bo (U8 t row),[]) :=
 Ww.2.2.1.1 _ _ _ (by simpa[U8]using l_has t h row hr 0 (Yd _))
def VT(t:Zc)(b:Bool):V3:=(.tup [.agg [.t (.str t.Name),I t.Arity,.own 0],Bo b],[.arr 42 1 true (t.Rows.map isc)])
def ZaH(t:Zc)(row:V6):Bool:=Xc t && rwB t.Arity row && !decide (row∈t.Rows) && decide ((t.Rows.length:Int)<8)
def Kw(t:Zc)(row:V6):Zc:=if ZaH t row=true then⟨t.Name,t.Arity,Km (t.Rows++[row])⟩else t
def Z4T{n:Int}{row:V6}(h:rwB n row=true):(row.length:Int)=n:=by
 unfold rwB at h;simp only[Yg,decide_eq_true_eq]at h;exact h.2
def ZJC(t:Zc)(h:LfT t)(row:V6)(hr:Lf row):Zg4 t row=some (VT (Kw t row) (ZaH t row)):=by
 refine WK.2.2.2.1 _ _ _ ⟨_,_,_,Ja t h,_,Zex t h.le,?_⟩;unfold Kw ZaH;rcases tf (Xc t)with e|e
 .rw[e];simp[VT]
 rw[e,Ya rfl];refine⟨_,Z2E _ _ (by omega),?_⟩;rcases tf (rwB t.Arity row)with e2|e2
 .rw[e2];simp[VT]
 rw[e2,Ya rfl];refine⟨_,Zvp t h row,?_⟩;by_cases hm:row∈t.Rows
 .obtain⟨k,hk,h1,-⟩:=Zms 0 hm;rw[h1,Ypx];simp[VT,hm]
 rw[Zvo 0 hm,Yb (by decide)];by_cases h8:8<=(t.Rows.length:Int)
 .rw[Ya h8];simp[VT,hm,show ¬(t.Rows.length:Int)<8 by omega]
 rw[Yb h8];have hA:=(QF e).2;have hw:=Z4T e2;have h3:=Zid e;refine⟨by omega,_,Z2Q (by simp;omega) (λr hr=>?_),?_⟩
 .rcases Yl.1 hr with hr|hr
  .have:=h3 r hr;omega
  .obtain rfl:r=row:=by simpa using hr
   omega
 .simp[VT,hm,show(t.Rows.length:Int)<8 by omega]
def Z4U{t:Zc}(h:Xc t=true):QD t.Rows:=by
 unfold Xc at h;simp only[Yg]at h;exact(Z2W _ _ h.2.2).2
def ZJD(t:Zc)(h:LfT t)(row:V6)(hr:Lf row):ZhM t row=some (VT (Kw t row) (ZaH t row)):=by
 refine Ww.2.2.1.2 _ _ _ ⟨_,_,_,Jb t h,_,Zey t h.le,?_⟩;unfold Kw ZaH;rcases tf (Xc t)with e|e
 .rw[e];simp[VT]
 rw[e,Ya rfl];refine⟨_,Z2F _ _ (by omega),?_⟩;rcases tf (rwB t.Arity row)with e2|e2
 .rw[e2];simp[VT]
 rw[e2,Ya rfl];refine⟨_,Z4S t h row hr,?_⟩;unfold U8;rw[e,Yw];by_cases hm:row∈t.Rows
 .rw[Ya (by simpa using hm)];simp[VT,hm]
 rw[Yb (by simpa using hm)];have h8':=Za6 e;by_cases h8:(t.Rows.length:Int)=8
 .rw[Ya h8];simp[VT,hm,show ¬(t.Rows.length:Int)<8 by omega]
 rw[Yb h8];have hA:=(QF e).2;have hw:=Z4T e2;have h3:=Zid e;refine⟨_,Z2S (rows:=t.Rows) (row:=row) (by omega) (λr hr=>by have:=h3 r hr;omega) (by omega),?_⟩;rw[ZGK (Z4U e)];simp[VT,hm,show(t.Rows.length:Int)<8 by omega]
def Kx(t:Zc)(row:V6):Zc:=if U8 t row=true then⟨t.Name,t.Arity,t.Rows.filter (λx=>decide (x≠row))⟩else t
def ZJE(t:Zc)(h:LfT t)(row:V6):Zg5 t row=some (VT (Kx t row) (U8 t row)):=by
 refine WK.2.2.2.2.2 _ _ _ ⟨_,_,_,Ja t h,_,ZJB t h row,?_⟩;unfold Kx;rcases tf (U8 t row)with e|e
 .rw[e];rfl
 rw[e,Ya rfl,Ya rfl];unfold U8 at e;simp only[Yg,decide_eq_true_eq]at e;obtain⟨k,hk,h1,h2⟩:=Zms 0 e.2;have hl:=h.1;refine⟨_,Zvp t h row,_,by rw[h1,Yu,wS hk (by omega)];exact ZGH _ _ _ (by omega),?_⟩;have:=Z2V t.Rows k hk (Z4U e.1);rw[h2]at this;rw[Yk,Yk,this];rfl
def l_del(t:Zc)(h:LfT t)(row:V6)(hr:Lf row)(a:UP)(b:Int):∀i,i<=t.Rows.length->∀x,x.length<=i->ZhO t a b t.Name t.Arity x row i=some (VT ⟨t.Name,t.Arity,x++(t.Rows.drop i).filter (λx=>decide (x≠row))⟩ true):=by
 have hl:=h.1;refine down _ ?_ ?_
 .intro x hx;apply Ww.2.2.2.1;rw[Ynx,Yo];simp[VT]
 .intro i hi ih x hx;apply Ww.2.2.2.1;rw[Ypx,wS hi (by omega),Yi hi];have:=h.2 _ (Yc hi);refine⟨by omega,_,gE hi,_,JA _ _ (by omega) (by omega),?_⟩;by_cases c:t.Rows[i]=row
  .rw[Ya (by rw[c];exact KQ _),ih x (by omega),Ydp (by simp[c])]
  .rw[Yb (λhc=>c (Ul _ _ hc)),Yco (by simp[c])];refine⟨by omega,by omega,?_⟩;rw[ih (x++[t.Rows[i]]) (by simp;omega)];simp
def ZJF(t:Zc)(h:LfT t)(row:V6)(hr:Lf row):ZhN t row=some (VT (Kx t row) (U8 t row)):=by
 refine Ww.2.2.2.2.1 _ _ _ ⟨_,_,_,Jb t h,_,Z4S t h row hr,?_⟩;unfold Kx;rcases tf (U8 t row)with e|e
 .rw[e];rfl
 rw[e,Ya rfl,Ya rfl];simpa using l_del t h row hr ⟨#[]⟩ 0 0 (Yd _) [] (by simp)
def U9(d:Zl)(l:List Zc):V3:=if Xn ⟨l⟩=true then(.tup [.agg [.own 0],Bo true],[.arr 179 3 true (l.map Zc.c)])else(.tup [.agg [.own 0],Bo false],[.arr 179 3 true (d.Tables.map Zc.c)])
def Zmt(t x:Zc)(xs:List Zc)(done:Bool):Xy t (x::xs) done=(if !done && !ltN x t then[t]else[])++((if x.Name≠t.Name then[x]else[])++Xy t xs (done || !ltN x t)):=rfl
def Zmu{d:Zl}{t:Zc}(hd:LfD d)(ht:LfT t){full:List Zc}(hf:full.length<=8589934592)(hv:Xn ⟨full⟩=decide ((full.length:Int)<=6)):∀i,i<=d.Tables.length->∀(c:List Zc) (done:Bool),c++Xy t (d.Tables.drop i) done=full->Zaq d t c done d.Tables d.Tables.length i=some (U9 d full):=by
 have hl:=hd.1;refine down _ ?_ ?_
 .intro c done he;apply WL.1.1.2.1;rw[Ynx];rw[Yo]at he;have hc:=congrArg List.length he;rcases tf done with e|e
  .rw[e]at he hc|-;simp only[Xy,Ybl,if_false,Yn,List.length_singleton]at he hc;rw[Yb (by decide)];refine⟨_,_,_,Ja t ht,by omega,?_⟩;unfold U9;rw[hv];by_cases h6:6<(c.length:Int)+1
   .rw[Ya h6,Yb (by simp;omega)];exact⟨_,ZaF d hd,rfl⟩
   .rw[Yb h6,Ya (by simp;omega),<-he]
  .rw[e]at he hc|-;simp only[Xy,if_true,Ybb]at he;subst he;rw[Ya rfl];unfold U9;rw[hv];by_cases h6:6<(c.length:Int)
   .rw[Ya h6,Yb (by simp;omega)];exact⟨_,ZaF d hd,rfl⟩
   .rw[Yb h6,Ya (by simp;omega)]
 .intro i hi ih c done he;apply WL.1.1.2.1;rw[Ypx,wS hi (by omega)];rw[Yi hi,Zmt]at he;have hc:=congrArg List.length he;simp only[Yn]at hc;have hx:=Ja _ (hd.2 _ (Yc hi));refine⟨by omega,_,gE hi,?_⟩;rcases tf done with e|e
  .rw[e]at he hc|-;rw[Yb (by decide)];rcases tf (ltN d.Tables[i] t)with e2|e2
   .rw[Yb (by rw[show Op.bytesLess d.Tables[i].Name.toList t.Name.toList=false from e2];decide)];rw[e2]at he hc;simp only[Bool.not_false,Bool.and_self,if_true,Ybz,List.length_singleton]at he hc;refine⟨_,_,_,Ja t ht,by omega,?_⟩;by_cases hn:d.Tables[i].Name=t.Name
    .rw[Ya hn];rw[Yb (by simpa using hn)]at he;exact ih _ _ (by simpa using he)
    .rw[Yb hn];rw[Ya hn]at he hc;refine⟨_,_,_,hx,by simp at hc;omega,?_⟩;exact ih _ _ (by simpa using he)
   .rw[Ya (show Op.bytesLess d.Tables[i].Name.toList t.Name.toList=true from e2)];rw[e2]at he hc;simp only[Bool.not_true,Bool.and_false,Ybl,if_false,Bool.or_self,Y7]at he hc;by_cases hn:d.Tables[i].Name=t.Name
    .rw[Ya hn];rw[Yb (by simpa using hn)]at he;exact ih _ _ (by simpa using he)
    .rw[Yb hn];rw[Ya hn]at he hc;refine⟨_,_,_,hx,by simp at hc;omega,?_⟩;exact ih _ _ (by simpa using he)
  .rw[e]at he hc|-;rw[Ya rfl];simp only[Bool.not_true,Ycq,Ybl,if_false,Bool.true_or,Y7]at he hc;by_cases hn:d.Tables[i].Name=t.Name
   .rw[Ya hn];rw[Yb (by simpa using hn)]at he;exact ih _ _ (by simpa using he)
   .rw[Yb hn];rw[Ya hn]at he hc;refine⟨_,_,_,hx,by simp at hc;omega,?_⟩;exact ih _ _ (by simpa using he)
def stay(v:Int)(es:List Zo):List Zo:=es.filter λe=>e.Version == v
def Z4V(v:Int)(es:List Zo):(stay v es).length<=es.length:=Ybs _ _
def ZJG(v:Int)(es:List Zo):∀x∈stay v es,x∈es:=λ_ hx=>(Ybc.1 hx).1
def ZJH(es:List Zo)(v:Int):ZkF es v=some (.own 2,[.dead,.box [I v],.arr 128 8 true ((stay v es).map Zo.c)]):=by
 unfold ZkF;refine ZcA t76 ?_;have h1:(es.map Zo.c).all Zfp=true:=by
  rw[List.all_map,Yy];intro x _;rfl
 have h2:(es.map Zo.c).filter (Uh v)=(stay v es).map Zo.c:=by
  rw[List.filter_map];rfl
 show(if 76=76/\(es.map Zo.c).all Zfp=true then _ else _)=_;rw[Ya ⟨rfl,h1⟩,h2]
def dsV(m:Za)(c:ZH)(v:Int):ZH:=if KZ m c=true then⟨c.Clock,stay v c.Entries⟩else c
def dsN(m:Za)(c:ZH)(v:Int):Int:=if KZ m c=true then(c.Entries.length:Int)-(stay v c.Entries).length else 0
def ZJI(m:Za)(hm:LeM m)(c:ZH)(h:Lc c.Entries)(v:Int):ZkG m c v=some (.tup [.agg [I (dsV m c v).Clock,.own 0],I (dsN m c v)],[.arr 128 8 true ((dsV m c v).Entries.map Zo.c)]):=by
 have hl:=h.1;have hk:=Z4V v c.Entries;refine WL.1.2.2.2 _ _ _ _ ⟨_,_,Z4O c h,_,Z4E m hm c h.le,?_⟩;unfold dsV dsN;rcases tf (KZ m c)with e|e
 .rw[e];rfl
 .rw[Ya e,Ya e,Ya e];refine⟨_,_,ZJH _ v,?_⟩;rw[show w ((c.Entries.length:Int)-(stay v c.Entries).length)=(c.Entries.length:Int)-(stay v c.Entries).length from Z1 (by omega) (by omega)]
def l_dr_a(c:ZH)(h:Lc c.Entries)(a b v:Int):∀i,i<=c.Entries.length->∀acc,acc.length<=i->Zei c a b false acc v i=some (.tup [.agg [I b,L 8 ((acc++stay v (c.Entries.drop i)).map Zo.c)],I ((c.Entries.length:Int)-(acc++stay v (c.Entries.drop i)).length)],[]):=by
 have hl:=h.1;refine down _ ?_ ?_
 .intro acc ho;apply Qk.2.2.1;rw[Ynx,Yo,show stay v []=[]from rfl,Ybb,show w ((c.Entries.length:Int)-acc.length)=(c.Entries.length:Int)-acc.length from Z1 (by omega) (by omega)]
 .intro i hi ih acc ho;apply Qk.2.2.1;rw[Ypx,wS hi (by omega),Yi hi];refine⟨by omega,_,gE hi,?_⟩;by_cases hv:c.Entries[i].Version=v
  .rw[Ya hv];have ih:=ih (acc++[c.Entries[i]]) (by simp;omega);rw[Ybo,List.singleton_append]at ih;rw[show stay v (c.Entries[i]::c.Entries.drop (i+1))=c.Entries[i]::stay v (c.Entries.drop (i+1)) by unfold stay;rw[Yco (by simp[hv])]];exact⟨_,Zmr _ (h.2 _ (Yc hi)),by omega,ih⟩
  .rw[Yb hv,show stay v (c.Entries[i]::c.Entries.drop (i+1))=stay v (c.Entries.drop (i+1)) by unfold stay;rw[Ydp (by simp[hv])]];exact ih acc (by omega)
def l_dr(c:ZH)(h:Lc c.Entries)(a b v:Int):∀i,i<=c.Entries.length->ZhS c a b v i=some (.tup [.agg [I b,L 8 ((stay v (c.Entries.drop i)).map Zo.c)],I ((c.Entries.length:Int)-(stay v (c.Entries.drop i)).length)],[]):=by
 have hl:=h.1;refine down _ ?_ ?_
 .apply Qk.2.1.2;rw[Ynx,Yo,show w ((c.Entries.length:Int)-0)=(c.Entries.length:Int)-0 from Z1 (by omega) (by omega)];rfl
 .intro i hi ih;apply Qk.2.1.2;rw[Ypx,wS hi (by omega),Yi hi];refine⟨by omega,_,gE hi,?_⟩;by_cases hv:c.Entries[i].Version=v
  .rw[Ya hv,show stay v (c.Entries[i]::c.Entries.drop (i+1))=c.Entries[i]::stay v (c.Entries.drop (i+1)) by unfold stay;rw[Yco (by simp[hv])]];have:=l_dr_a c h a b v (i+1) hi [c.Entries[i]] (by simp);rw[List.singleton_append]at this;exact⟨_,Zmr _ (h.2 _ (Yc hi)),this⟩
  .rw[Yb hv,show stay v (c.Entries[i]::c.Entries.drop (i+1))=stay v (c.Entries.drop (i+1)) by unfold stay;rw[Ydp (by simp[hv])]];exact ih
def ZJJ(m:Za)(hm:LeM m)(c:ZH)(h:Lc c.Entries)(v:Int):ZlB m c v=some (.tup [.agg ((dsV m c v).c.map .t),I (dsN m c v)],[]):=by
 refine Qk.2.2.2.1 _ _ _ _ ⟨_,Z4F m hm c h.le,?_⟩;unfold dsV dsN;rcases tf (KZ m c)with e|e
 .rw[e,Yb (by decide)];exact⟨_,Z4P c h,rfl⟩
 .rw[Ya e,Ya e,Ya e];simpa using l_dr c h 0 c.Clock v 0 (Yd _)
def l_iset{d:Zl}{t:Zc}(hd:LfD d)(ht:LfT t){full:List Zc}(hf:full.length<=8589934592)(hv:Xn ⟨full⟩=decide ((full.length:Int)<=6)):∀i,i<=d.Tables.length->∀(done:Bool),Xy t (d.Tables.drop i) done=full->Zdu d t done d.Tables d.Tables.length i=some (U9 d full):=by
 have hl:=hd.1;refine down _ ?_ ?_
 .intro done he;apply WL.1.1.1;rw[Ynx];rw[Yo]at he;rcases tf done with e|e
  .rw[e]at he|-;simp only[Xy,Ybl,if_false]at he;subst he;rw[Yb (by decide)];refine⟨_,_,_,Ja t ht,?_⟩;unfold U9;rw[hv,Ya (by simp)]
  .rw[e]at he|-;simp only[Xy,if_true]at he;subst he;rw[Ya rfl];unfold U9;rw[hv,Ya (by simp)]
 .intro i hi ih done he;apply WL.1.1.1;rw[Ypx,wS hi (by omega)];rw[Yi hi,Zmt]at he;have hc:=congrArg List.length he;simp only[Yn]at hc;have hx:=Ja _ (hd.2 _ (Yc hi));refine⟨by omega,_,gE hi,?_⟩;rcases tf done with e|e
  .rw[e]at he hc|-;rw[Yb (by decide)];rcases tf (ltN d.Tables[i] t)with e2|e2
   .rw[Yb (by rw[show Op.bytesLess d.Tables[i].Name.toList t.Name.toList=false from e2];decide)];rw[e2]at he hc;simp only[Bool.not_false,Bool.and_self,if_true,Ybz,List.length_singleton]at he hc;refine⟨_,_,_,Ja t ht,?_⟩;by_cases hn:d.Tables[i].Name=t.Name
    .rw[Ya hn];rw[Yb (by simpa using hn)]at he;exact Zmu hd ht hf hv _ (by omega) _ _ (by simpa using he)
    .rw[Yb hn];rw[Ya hn]at he hc;refine⟨_,_,_,hx,?_⟩;exact Zmu hd ht hf hv _ (by omega) _ _ (by simpa using he)
   .rw[Ya (show Op.bytesLess d.Tables[i].Name.toList t.Name.toList=true from e2)];rw[e2]at he hc;simp only[Bool.not_true,Bool.and_false,Ybl,if_false,Bool.or_self,Y7]at he hc;by_cases hn:d.Tables[i].Name=t.Name
    .rw[Ya hn];rw[Yb (by simpa using hn)]at he;exact ih _ (by simpa using he)
    .rw[Yb hn];rw[Ya hn]at he hc;refine⟨_,_,_,hx,?_⟩;exact Zmu hd ht hf hv _ (by omega) _ _ (by simpa using he)
  .rw[e]at he hc|-;rw[Ya rfl];simp only[Bool.not_true,Ycq,Ybl,if_false,Bool.true_or,Y7]at he hc;by_cases hn:d.Tables[i].Name=t.Name
   .rw[Ya hn];rw[Yb (by simpa using hn)]at he;exact ih _ (by simpa using he)
   .rw[Yb hn];rw[Ya hn]at he hc;refine⟨_,_,_,hx,?_⟩;exact Zmu hd ht hf hv _ (by omega) _ _ (by simpa using he)
def Zmv{d:Zl}{t:Zc}(hd:LfD d)(ht:LfT t){full:List Zc}(hf:full.length<=8589934592)(hv:LfD ⟨full⟩):∀i,i<=d.Tables.length->∀(c:List Zc) (done:Bool),c++Xy t (d.Tables.drop i) done=full->Qg d t c done i=some (U9 d full):=by
 have hl:=hd.1;refine down _ ?_ ?_
 .intro c done he;apply Qk.1.1.2;rw[Ynx];rw[Yo]at he;have hc:=congrArg List.length he;rcases tf done with e|e
  .rw[e]at he hc|-;simp only[Xy,Ybl,if_false,Yn,List.length_singleton]at he hc;rw[Yb (by decide)];refine⟨_,_,_,Jb t ht,by omega,_,Zez _ (by rw[show c++[(⟨t.Name,t.Arity,t.Rows⟩:Zc)]=full from he];exact hv.le),?_⟩;rw[show c++[(⟨t.Name,t.Arity,t.Rows⟩:Zc)]=full from he];unfold U9;rcases tf (Xn ⟨full⟩)with e3|e3
   .rw[e3,Yb (by decide),Yb (by decide)];exact⟨_,JG d hd,rfl⟩
   .rw[e3,Ya rfl,Ya rfl]
  .rw[e]at he hc|-;simp only[Xy,if_true,Ybb]at he;subst he;rw[Ya rfl];refine⟨_,Zez _ hv.le,?_⟩;unfold U9;rcases tf (Xn ⟨c⟩)with e3|e3
   .rw[e3,Yb (by decide),Yb (by decide)];exact⟨_,JG d hd,rfl⟩
   .rw[e3,Ya rfl,Ya rfl]
 .intro i hi ih c done he;apply Qk.1.1.2;rw[Ypx,wS hi (by omega)];rw[Yi hi,Zmt]at he;have hc:=congrArg List.length he;simp only[Yn]at hc;have hx:=Jb _ (hd.2 _ (Yc hi));rcases tf done with e|e
  .rw[e]at he hc|-;rw[Yb (by decide)];refine⟨by omega,_,gE hi,?_⟩;rcases tf (ltN d.Tables[i] t)with e2|e2
   .rw[Yb (by rw[show Op.bytesLess d.Tables[i].Name.toList t.Name.toList=false from e2];decide)];rw[e2]at he hc;simp only[Bool.not_false,Bool.and_self,if_true,Ybz,List.length_singleton]at he hc;refine⟨_,_,_,Jb t ht,by omega,?_⟩;by_cases hn:d.Tables[i].Name=t.Name
    .rw[Ya hn];rw[Yb (by simpa using hn)]at he;exact ih _ _ (by simpa using he)
    .rw[Yb hn];rw[Ya hn]at he hc;refine⟨_,_,_,hx,by simp at hc;omega,?_⟩;exact ih _ _ (by simpa using he)
   .rw[Ya (show Op.bytesLess d.Tables[i].Name.toList t.Name.toList=true from e2)];rw[e2]at he hc;simp only[Bool.not_true,Bool.and_false,Ybl,if_false,Bool.or_self,Y7]at he hc;by_cases hn:d.Tables[i].Name=t.Name
    .rw[Ya hn];rw[Yb (by simpa using hn)]at he;exact ih _ _ (by simpa using he)
    .rw[Yb hn];rw[Ya hn]at he hc;refine⟨_,_,_,hx,by simp at hc;omega,?_⟩;exact ih _ _ (by simpa using he)
  .rw[e]at he hc|-;rw[Ya rfl];refine⟨by omega,_,gE hi,?_⟩;simp only[Bool.not_true,Ycq,Ybl,if_false,Bool.true_or,Y7]at he hc;by_cases hn:d.Tables[i].Name=t.Name
   .rw[Ya hn];rw[Yb (by simpa using hn)]at he;exact ih _ _ (by simpa using he)
   .rw[Yb hn];rw[Ya hn]at he hc;refine⟨_,_,_,hx,by simp at hc;omega,?_⟩;exact ih _ _ (by simpa using he)
def x_vd0:ZhP=some (Bo true,[]):=ZFD _ (Ww.2.2.2.2.2 _ _ (by simp))
def l_sset{d:Zl}{t:Zc}(hd:LfD d)(ht:LfT t){full:List Zc}(hf:full.length<=8589934592)(hv:LfD ⟨full⟩):∀i,i<=d.Tables.length->∀(done:Bool),Xy t (d.Tables.drop i) done=full->Zeh d t done i=some (U9 d full):=by
 have hl:=hd.1;refine down _ ?_ ?_
 .intro done he;apply Qk.1.1.1;rw[Ynx];rw[Yo]at he;rcases tf done with e|e
  .rw[e]at he|-;simp only[Xy,Ybl,if_false]at he;subst he;rw[Yb (by decide)];refine⟨_,_,_,Jb t ht,_,Zez _ hv.le,?_⟩;unfold U9;rcases tf (Xn ⟨[t]⟩)with e3|e3
   .rw[e3,Yb (by decide),Yb (by decide)];exact⟨_,JG d hd,rfl⟩
   .rw[e3,Ya rfl,Ya rfl]
  .rw[e]at he|-;simp only[Xy,if_true]at he;subst he;rw[Ya rfl];refine⟨_,x_vd0,?_⟩;unfold U9;rw[Ya rfl,Ya (by decide)]
 .intro i hi ih done he;apply Qk.1.1.1;rw[Ypx,wS hi (by omega)];rw[Yi hi,Zmt]at he;have hc:=congrArg List.length he;simp only[Yn]at hc;have hx:=Jb _ (hd.2 _ (Yc hi));rcases tf done with e|e
  .rw[e]at he hc|-;rw[Yb (by decide)];refine⟨by omega,_,gE hi,?_⟩;rcases tf (ltN d.Tables[i] t)with e2|e2
   .rw[Yb (by rw[show Op.bytesLess d.Tables[i].Name.toList t.Name.toList=false from e2];decide)];rw[e2]at he hc;simp only[Bool.not_false,Bool.and_self,if_true,Ybz,List.length_singleton]at he hc;refine⟨_,_,_,Jb t ht,?_⟩;by_cases hn:d.Tables[i].Name=t.Name
    .rw[Ya hn];rw[Yb (by simpa using hn)]at he;exact Zmv hd ht hf hv _ (by omega) _ _ (by simpa using he)
    .rw[Yb hn];rw[Ya hn]at he hc;refine⟨_,_,_,hx,?_⟩;exact Zmv hd ht hf hv _ (by omega) _ _ (by simpa using he)
   .rw[Ya (show Op.bytesLess d.Tables[i].Name.toList t.Name.toList=true from e2)];rw[e2]at he hc;simp only[Bool.not_true,Bool.and_false,Ybl,if_false,Bool.or_self,Y7]at he hc;by_cases hn:d.Tables[i].Name=t.Name
    .rw[Ya hn];rw[Yb (by simpa using hn)]at he;exact ih _ (by simpa using he)
    .rw[Yb hn];rw[Ya hn]at he hc;refine⟨_,_,_,hx,?_⟩;exact Zmv hd ht hf hv _ (by omega) _ _ (by simpa using he)
  .rw[e]at he hc|-;rw[Ya rfl];refine⟨by omega,_,gE hi,?_⟩;simp only[Bool.not_true,Ycq,Ybl,if_false,Bool.true_or,Y7]at he hc;by_cases hn:d.Tables[i].Name=t.Name
   .rw[Ya hn];rw[Yb (by simpa using hn)]at he;exact ih _ (by simpa using he)
   .rw[Yb hn];rw[Ya hn]at he hc;refine⟨_,_,_,hx,?_⟩;exact Zmv hd ht hf hv _ (by omega) _ _ (by simpa using he)
def Zvq{d:Zl}{t:Zc}(hd:LfD d)(h6:d.Tables.length<=6)(ht:LfT t):LfD ⟨Xy t d.Tables false⟩:=by
 have:=Zig t d.Tables false;refine⟨by simp at this;show(Xy t d.Tables false).length<=_;omega,λx hx=>?_⟩;rcases ZlT t _ _ x hx with rfl|hx
 .exact ht
 .exact hd.2 x hx
def Jc(d:Zl)(t:Zc):Bool:=Xn d && Xc t && Xn ⟨Xy t d.Tables false⟩
def stV(d:Zl)(t:Zc):Zl:=if Jc d t=true then⟨Xy t d.Tables false⟩else d
def dbB(d:Zl)(b:Bool):V3:=(.tup [.agg [.own 0],Bo b],[.arr 179 3 true (d.Tables.map Zc.c)])
def Z4W{d:Zl}{t:Zc}(hd:LfD d)(ht:LfT t):Zg7 d t=some (dbB (stV d t) (Jc d t)):=by
 refine WL.1.1.2.2 _ _ _ ⟨_,Zu4 d hd.le,?_⟩;unfold stV Jc;rcases tf (Xn d)with e|e
 .rw[e,Yb (by decide)];exact⟨_,ZaF d hd,rfl⟩
 rw[e,Ya rfl];refine⟨_,Zex t ht.le,?_⟩;rcases tf (Xc t)with e2|e2
 .rw[e2,Yb (by decide)];exact⟨_,ZaF d hd,rfl⟩
 rw[e2,Ya rfl,Yw,Yw];have h6:=Zci e;have hs:=Zvq hd h6 ht;have:=Zig t d.Tables false;have:=l_iset hd ht (full:=Xy t d.Tables false) (by simp at this;omega) (ZGL e e2) 0 (Yd _) false rfl;rw[show((0:Nat):Int)=0 from rfl]at this;rw[this];unfold U9 dbB;rcases tf (Xn ⟨Xy t d.Tables false⟩)with e3|e3<;>simp[e3]
def Z4X{d:Zl}{t:Zc}(hd:LfD d)(ht:LfT t):ZhR d t=some (dbB (stV d t) (Jc d t)):=by
 refine Qk.1.2.1 _ _ _ ⟨_,Zez d hd.le,?_⟩;unfold stV Jc;rcases tf (Xn d)with e|e
 .rw[e,Yb (by decide)];exact⟨_,JG d hd,rfl⟩
 rw[e,Ya rfl];refine⟨_,Zey t ht.le,?_⟩;rcases tf (Xc t)with e2|e2
 .rw[e2,Yb (by decide)];exact⟨_,JG d hd,rfl⟩
 rw[e2,Ya rfl,Yw,Yw];have h6:=Zci e;have hs:=Zvq hd h6 ht;have:=Zig t d.Tables false;have:=l_sset hd ht (full:=Xy t d.Tables false) (by simp at this;omega) hs 0 (Yd _) false rfl;rw[show((0:Nat):Int)=0 from rfl]at this;rw[this];unfold U9 dbB;rcases tf (Xn ⟨Xy t d.Tables false⟩)with e3|e3<;>simp[e3]
def apV(d:Zl)(u:ZR):Zl×Bool:=match X1 d u.Name with
 |none=>(d,false)
 |some t=>if u.Insert=true then(if ZaH t u.Row=true then(stV d (Kw t u.Row),Jc d (Kw t u.Row))else(d,false))else(if U8 t u.Row=true then(stV d (Kx t u.Row),Jc d (Kx t u.Row))else(d,false))
def Zmw{t:Zc}(h:LfT t){row:V6}(hr:Lf row)(hk:Xc t=true):LfT (Kw t row):=by
 unfold Kw;split
 .have h8:=Za6 hk;have hl:=Z2P (t.Rows++[row]);refine⟨by simp at hl|-;omega,λr hm=>?_⟩;rcases Yl.1 ((ZlR _ r).1 hm)with hm|hm
  .exact h.2 r hm
  .obtain rfl:r=row:=by simpa using hm
   exact hr
 .exact h
def Zmx{t:Zc}(h:LfT t){row:V6}:LfT (Kx t row):=by
 unfold Kx;split
 .exact⟨Y1 (Ybs _ _) h.1,λr hm=>h.2 r (Ybc.1 hm).1⟩
 .exact h
def Z4Y{d:Zl}{t:Zc}(hd:LfD d)(ht:LfT t):LfD (stV d t):=by
 unfold stV;split
 .rename_i e;unfold Jc at e;simp only[Yg]at e;exact Zvq hd (Zci e.1.1) ht
 .exact hd
def Zvr{d:Zl}(hd:LfD d){n:UP}{t:Zc}(h:X1 d n=some t):LfT t:=hd.2 t (ZlP h).2.1
def Zvs{d:Zl}(hd:LfD d){u:ZR}(hu:Lf u.Row):LfD (apV d u).1:=by
 unfold apV
 cases hq:X1 d u.Name with
 |none=>exact hd
 |some t =>
  have ht:=Zvr hd hq;simp only;split
  .split
   .exact Z4Y hd (Zmw ht hu (Qn hq))
   .exact hd
  .split
   .exact Z4Y hd (Zmx ht)
   .exact hd
def ZJK{d:Zl}(hd:LfD d){u:ZR}(hu:Lf u.Row):ZkD d u=some (dbB (apV d u).1 (apV d u).2):=by
 have hl:=Zcc d hd.le u.Name;apply WL.1.2.1;unfold apV
 cases hq:X1 d u.Name with
 |none=>rw[hq]at hl;exact .inl ⟨_,_,hl,_,ZaF d hd,rfl⟩
 |some t =>
  rw[hq]at hl;have ht:=Zvr hd hq;refine .inr ⟨_,_,_,hl,?_⟩;simp only;rcases tf u.Insert with e|e
  .rw[e,Yb (by decide),Yb (by decide)];refine⟨_,_,_,_,ZJE t ht u.Row,?_⟩;rcases tf (U8 t u.Row)with e2|e2
   .rw[e2,Yb (by decide),Yb (by decide)];exact⟨_,ZaF d hd,rfl⟩
   .rw[e2,Ya rfl,Ya rfl];exact⟨_,_,Z4W hd (Zmx ht),rfl⟩
  .rw[e,Ya rfl,Ya rfl];refine⟨_,_,_,_,ZJC t ht u.Row hu,?_⟩;rcases tf (ZaH t u.Row)with e2|e2
   .rw[e2,Yb (by decide),Yb (by decide)];exact⟨_,ZaF d hd,rfl⟩
   .rw[e2,Ya rfl,Ya rfl];exact⟨_,_,Z4W hd (Zmw ht hu (Qn hq)),rfl⟩
def ZJL{d:Zl}(hd:LfD d){u:ZR}(hu:Lf u.Row):Zl8 d u=some (.tup [.agg ((apV d u).1.c.map .t),Bo (apV d u).2],[]):=by
 have hl:=Zcd d hd.le u.Name;apply Qk.1.2.2;unfold apV
 cases hq:X1 d u.Name with
 |none=>rw[hq]at hl;exact .inr ⟨_,_,hl,_,JG d hd,rfl⟩
 |some t =>
  rw[hq]at hl;have ht:=Zvr hd hq;refine .inl ⟨_,_,_,hl,?_⟩;simp only;rcases tf u.Insert with e|e
  .rw[e,Yb (by decide),Yb (by decide)];refine⟨_,_,_,_,ZJF t ht u.Row hu,?_⟩;rcases tf (U8 t u.Row)with e2|e2
   .rw[e2,Yb (by decide),Yb (by decide)];exact⟨_,JG d hd,rfl⟩
   .rw[e2,Ya rfl,Ya rfl];exact⟨_,_,Z4X hd (Zmx ht),rfl⟩
  .rw[e,Ya rfl,Ya rfl];refine⟨_,_,_,_,ZJD t ht u.Row hu,?_⟩;rcases tf (ZaH t u.Row)with e2|e2
   .rw[e2,Yb (by decide),Yb (by decide)];exact⟨_,JG d hd,rfl⟩
   .rw[e2,Ya rfl,Ya rfl];exact⟨_,_,Z4X hd (Zmw ht hu (Qn hq)),rfl⟩
def QR(s:Zs)(u:ZR):Bool:=QQ s && !decide (s.Zu.Version=999) && ((apV s.Zl u).2 && KU (apV s.Zl u).1 s.Dependencies s.Inclusions)
def upV(s:Zs)(u:ZR):Zs:=if QR s u=true then⟨(apV s.Zl u).1,U3 (apV s.Zl u).1 (s.Zu.Version+1),s.Dependencies,s.Inclusions⟩else s
def Z4Z{s:Zs}(h:QQ s=true):1<=s.Zu.Version/\s.Zu.Version<=999:=by
 unfold QQ at h;simp only[Yg]at h;simpa[inR]using h.1.1.2
def ZJM{s:Zs}(h:LfS s){u:ZR}(hu:Lf u.Row):ZkE s u=some (.tup [.agg [.own 0,I (upV s u).Zu.Version,.own 1,.own 2,.own 3],Bo (QR s u)],(JF (upV s u)).2):=by
 have hS:=h.le;refine WL.1.2.2.1 _ _ _ ⟨_,_,_,_,_,Z4K _ h,_,Z4G hS,?_⟩;unfold upV QR;rcases tf (QQ s)with e|e
 .rw[e];simp[JF]
 rw[e,Ya rfl];by_cases hv:s.Zu.Version=999
 .rw[Ya hv];simp[hv,JF]
 rw[Yb hv];refine⟨_,_,ZJK h.d hu,?_⟩;rcases tf (apV s.Zl u).2 with e2|e2
 .rw[e2];simp[JF]
 rw[e2,Ya rfl];have hd:=Zvs h.d hu;refine⟨_,Z3y hd.le hS.f hS.x,?_⟩;rcases tf (KU (apV s.Zl u).1 s.Dependencies s.Inclusions)with e3|e3
 .rw[show KU (⟨(apV s.Zl u).1.Tables⟩:Zl) s.Dependencies s.Inclusions=false from e3];simp[JF]
 rw[show KU (⟨(apV s.Zl u).1.Tables⟩:Zl) s.Dependencies s.Inclusions=true from e3,Ya rfl];have:=Z4Z e;refine⟨_,_,_,by rw[show w (s.Zu.Version+1)=s.Zu.Version+1 from Z1 (by omega) (by omega)];exact Z3l hd.le _,?_⟩;simp[hv,e3,JF]
def ZJN{s:Zs}(h:LfS s){u:ZR}(hu:Lf u.Row):Zl9 s u=some (.tup [.agg ((upV s u).c.map .t),Bo (QR s u)],[]):=by
 have hS:=h.le;refine Qk.2.1.1 _ _ _ ⟨_,Z4H hS,?_⟩;have hcp:=Z4R _ h;unfold upV QR;rcases tf (QQ s)with e|e
 .rw[e,Yb (by decide)];exact⟨_,_,_,_,_,hcp,by simp⟩
 rw[e,Ya rfl];by_cases hv:s.Zu.Version=999
 .rw[Ya hv];exact⟨_,_,_,_,_,hcp,by simp[hv]⟩
 rw[Yb hv];refine⟨_,_,ZJL h.d hu,?_⟩;rcases tf (apV s.Zl u).2 with e2|e2
 .rw[e2,Yb (by decide)];exact⟨_,_,_,_,_,hcp,by simp⟩
 rw[e2,Ya rfl];have hd:=Zvs h.d hu;refine⟨_,Z3z hd.le hS.f hS.x,?_⟩;rcases tf (KU (apV s.Zl u).1 s.Dependencies s.Inclusions)with e3|e3
 .rw[e3,Yb (by decide)];exact⟨_,_,_,_,_,hcp,by simp⟩
 rw[e3,Ya rfl];have:=Z4Z e;refine⟨_,_,by rw[show w (s.Zu.Version+1)=s.Zu.Version+1 from Z1 (by omega) (by omega)];exact Z3m hd.le _,_,XT.2.1.2.1 _ _ (by simpa using Z4Q _ h.f 0 (Yd _)),tks h.x,?_⟩;simp[hv]
def ZaI(s:ZJ)(u:ZR):Bool:=Zcr s && QR s.Zs u
def suV(s:ZJ)(u:ZR):ZJ:=if ZaI s u=true then⟨upV s.Zs u,s.Za,dsV s.Za s.Cache (upV s.Zs u).Zu.Version,s.Ratio,s.Slack,s.Queries,s.Spent⟩else s
def ZJO{s:ZJ}(h:LfE s){u:ZR}(hu:Lf u.Row):ZkH s u=some (.tup [sesV (suV s u),Bo (ZaI s u)],sesB (suV s u)):=by
 refine WL.2.1.1 _ _ _ ⟨_,_,_,_,_,_,_,_,_,_,_,_,_,_,_,_,_,_,_,_,_,_,_,_,_,_,_,_,_,_,_,_,_,_,_,_,_,_,_,_,_,ZJ9 s h,_,ZJu h.st.le h.mo.le h.ca.le,?_⟩;unfold suV ZaI;rcases tf (Zcr s)with e|e
 .rw[e];simp;rfl
 rw[e,Ya rfl];refine⟨_,_,_,_,_,_,ZJM h.st hu,?_⟩;rcases tf (QR s.Zs u)with e2|e2
 .rw[e2];simp;rfl
 rw[e2,Ya rfl];refine⟨_,_,_,ZJI _ h.mo.le _ h.ca _,?_⟩;simp;rfl
def ZJP{s:ZJ}(h:LfE s){u:ZR}(hu:Lf u.Row):ZlC s u=some (.tup [.agg ((suV s u).c.map .t),Bo (ZaI s u)],[]):=by
 refine Qk.2.2.2.2 _ _ _ ⟨_,ZJA s h,_,ZJv h.st.le h.mo.le h.ca.le,?_⟩;unfold suV ZaI;rcases tf (Zcr s)with e|e
 .rw[e];simp
 rw[e,Ya rfl];refine⟨_,_,ZJN h.st hu,?_⟩;rcases tf (QR s.Zs u)with e2|e2
 .rw[e2];simp
 rw[e2,Ya rfl];refine⟨_,_,ZJJ _ h.mo.le _ h.ca _,?_⟩;simp
end
