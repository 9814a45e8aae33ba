/-
  Parts of the proofs for this seat: GF MK SP.
-/
import Derived.Test.YthdihnbeifcppaaGreatP26
set_option linter.all false
set_option maxRecDepth 100000
set_option maxHeartbeats 4000000
namespace Go.Proofs.YthdihnbeifcppaaGreat
open Go.AM
def JC(d:Zl)(x:Zr):Bool:=match X1 d x.Name,X1 d x.Into with
 |some a,some b=>inR x.Column 0 (a.Arity-1) && inR x.IntoColumn 0 (b.Arity-1)
 |_,_=>false
def Z3r{d:Zl}(h:LeD d)(x:Zr):ZcU d x=some (Bo (JC d x),[]):=by
 have h1:=Zcc d h x.Name;have h2:=Zcc d h x.Into;apply WY.2.2.2.2;unfold JC
 cases hq:X1 d x.Name with
 |none =>
  rw[hq]at h1
  cases hq2:X1 d x.Into with
  |none=>rw[hq2]at h2;exact .inl ⟨_,_,h1,.inl ⟨_,_,h2,rfl⟩⟩
  |some b=>rw[hq2]at h2;exact .inl ⟨_,_,h1,.inr ⟨_,_,_,h2,rfl⟩⟩
 |some a =>
  rw[hq]at h1
  cases hq2:X1 d x.Into with
  |none=>rw[hq2]at h2;exact .inr ⟨_,_,_,h1,.inl ⟨_,_,h2,rfl⟩⟩
  |some b =>
   rw[hq2]at h2;refine .inr ⟨_,_,_,h1,.inr ⟨_,_,_,h2,_,XX _ _ _,?_⟩⟩;rw[w1 (QF (Qn hq)).2,w1 (QF (Qn hq2)).2];rcases tf (inR x.Column 0 (a.Arity-1))with e|e
   .rw[e];simp[e]
   .rw[e,Ya rfl];exact⟨_,XX _ _ _,by simp[e]⟩
def Z3s{d:Zl}(h:LeD d)(x:Zr):Zd7 d x=some (Bo (JC d x),[]):=by
 have h1:=Zcd d h x.Name;have h2:=Zcd d h x.Into;apply W8.2.2.2.2;unfold JC
 cases hq:X1 d x.Name with
 |none =>
  rw[hq]at h1
  cases hq2:X1 d x.Into with
  |none=>rw[hq2]at h2;exact .inr ⟨_,_,h1,.inr ⟨_,_,h2,by simp⟩⟩
  |some b=>rw[hq2]at h2;exact .inr ⟨_,_,h1,.inl ⟨_,_,_,h2,by simp⟩⟩
 |some a =>
  rw[hq]at h1
  cases hq2:X1 d x.Into with
  |none=>rw[hq2]at h2;exact .inl ⟨_,_,_,h1,.inr ⟨_,_,h2,by simp⟩⟩
  |some b =>
   rw[hq2]at h2;refine .inl ⟨_,_,_,h1,.inl ⟨_,_,_,h2,?_⟩⟩;rw[w1 (QF (Qn hq)).2,w1 (QF (Qn hq2)).2];refine⟨_,Wo _ _ _,?_⟩;rcases tf (inR x.Column 0 (a.Arity-1))with e|e
   .rw[e];simp[e]
   .rw[e,Ya rfl];exact⟨_,Wo _ _ _,by simp[e]⟩
def ZQ(rows:V4)(c:Int):V6:=rows.map λr=>r.getD c.toNat 0
structure Qp (rows:V4) (c:Int):Prop where
 len:rows.length<=8
 row:∀r∈rows,(c.toNat<r.length/\r.length<=3)/\∀v∈r,0<=v/\v<=9
 c0:0<=c
def Z3t{t:Zc}(hv:Xc t=true){c:Int}(hc:inR c 0 (t.Arity-1)=true):Qp t.Rows c:=by
 obtain⟨hR,hA⟩:=QF hv;have h2:0<=c/\c<=t.Arity-1:=by simpa[inR]using hc
 refine⟨hR.len,λr hr=>⟨?_,λv hx=>?_⟩,h2.1⟩
 .have:=hR.row r hr;omega
 .unfold Xc at hv;simp only[Yg]at hv;have h1:=Yy.1 hv.2.1 r hr;unfold rwB at h1;simp only[Yg]at h1;simpa[dig,inR]using Yy.1 h1.1 v hx
def ZHo{rows:V4}{c:Int}(h:Qp rows c):∀v∈ZQ rows c,0<=v/\v<=9:=by
 intro v hv;obtain⟨r,hr,rfl⟩:=Yr.1 hv;obtain⟨⟨h1,_⟩,h2⟩:=h.row r hr;apply h2;rw[Ydw,Yf h1];exact Yc h1
def WO(A B:V6):V6:=A.filter λv=>!(has B v)
def Z3u:∀{l:V6},XI l=[]->l=[]
 |[],_=>rfl
 |[a],h=>by simp[XI]at h
 |a::b::l,h=>by
  unfold XI at h;split at h
  .have:=Z3u h;cases this
  .cases h
def ZHp(l:V6):((XI (WI l)).length=0)↔l=[]:=by
 have hl:(WI l).length=l.length:=(Ydn _ _).length_eq;constructor
 .intro h;have h1:=Z3u (Ycg h);rw[h1]at hl;exact Ycg hl.symm
 .intro h;subst h;simp[WI,XI]
def x_fin{out:V6}(h:out.length<=4096):ZjX out=some (.tup [],[.arr 3 1 true ((WI out).map ic)])/\ZjY (WI out)=some (.own 1,[.dead,.arr 3 1 true ((XI (WI out)).map ic)]):=by
 have hl:(WI out).length=out.length:=(Ydn _ _).length_eq;unfold ZjX ZjY;exact⟨ZGG h,c_cptI (by omega)⟩
def ZHq{x:Zr}{A:V4}(hA:Qp A x.Column)(Wa:V6)(ht:Wa.length<=4096):∀i,i<=A.length->ZcW x Wa (WO (ZQ (A.take i) x.Column) Wa) A A.length i=some (.own 0,[.arr 3 1 true ((XI (WI (WO (ZQ A x.Column) Wa))).map ic)]):=by
 have h8:=hA.len;have hml:∀i,(WO (ZQ (A.take i) x.Column) Wa).length<=A.length:=λi=>by
  have:=Ybs (λv=>!(has Wa v)) (ZQ (A.take i) x.Column);unfold WO;simp only[ZQ,Y9,Yt]at this|-;omega
 refine down _ ?_ ?_
 .apply XS.1.1.1.2;rw[Ynx,Yp];have hm:=hml A.length;rw[Yp]at hm;have:=x_fin (out:=WO (ZQ A x.Column) Wa) (by omega);exact⟨_,this.1,_,this.2,rfl⟩
 .intro i hi ih;obtain⟨⟨h1,h2⟩,_⟩:=hA.row _ (Yc hi);apply XS.1.1.1.2;rw[Ypx,wS hi (by omega)];refine⟨by omega,_,gE hi,hA.c0,_,gD h1,_,Zca _ _ (by omega),?_⟩;have e:WO (ZQ (A.take (i+1)) x.Column) Wa=WO (ZQ (A.take i) x.Column) Wa++(if has Wa (A[i].getD x.Column.toNat 0)=true then[]else[A[i].getD x.Column.toNat 0]):=by
   unfold WO ZQ;rw[Y4 hi,Ybi,Yc7];simp only[Yx,Ycm];generalize A[i].getD x.Column.toNat 0=g;rw[Yb5,List.filter_nil];cases has Wa g<;>rfl
  rw[e]at ih;rcases tf (has Wa (A[i].getD x.Column.toNat 0))with q|q
  .rw[Yb (by rw[q];simp)]at ih|-;exact⟨by have:=hml i;omega,ih⟩
  .rw[Ya q,Ybb]at ih;rw[Ya q];exact ih
def ZHr{x:Zr}{A B:V4}(hA:Qp A x.Column)(hB:Qp B x.IntoColumn)(a:UP)(b:Int):∀i,i<=B.length->ZfN x a b A (ZQ (B.take i) x.IntoColumn) B B.length i=some (.own 0,[.arr 3 1 true ((XI (WI (WO (ZQ A x.Column) (ZQ B x.IntoColumn)))).map ic)]):=by
 have h8:=hB.len;refine down _ ?_ ?_
 .apply XS.1.1.1.1;rw[Ynx,Yp];exact ZHq hA _ (by simp[ZQ];omega) 0 (Yd _)
 .intro i hi ih;obtain⟨⟨h1,h2⟩,_⟩:=hB.row _ (Yc hi);apply XS.1.1.1.1;rw[Ypx,wS hi (by omega)];rw[show ZQ (B.take (i+1)) x.IntoColumn=ZQ (B.take i) x.IntoColumn++[B[i].getD x.IntoColumn.toNat 0] by unfold ZQ;rw[Y4 hi,Ybi];rfl]at ih;exact⟨by omega,_,gE hi,hB.c0,_,gD h1,by simp[ZQ];omega,ih⟩
def Kn(d:Zl)(x:Zr):Bool:=JC d x && (match X1 d x.Name,X1 d x.Into with
 |some a,some b=>(WO (ZQ a.Rows x.Column) (ZQ b.Rows x.IntoColumn)).isEmpty
 |_,_=>true)
def Z3v{d:Zl}{x:Zr}(hv:JC d x=true):∃a b,X1 d x.Name=some a/\X1 d x.Into=some b/\Qp a.Rows x.Column/\Qp b.Rows x.IntoColumn:=by
 unfold JC at hv
 cases hq:X1 d x.Name with
 |none=>rw[hq]at hv;cases hv
 |some a =>
  cases hq2:X1 d x.Into with
  |none=>rw[hq,hq2]at hv;cases hv
  |some b =>
   rw[hq,hq2]at hv;simp only[Yg]at hv;exact⟨a,b,rfl,rfl,Z3t (Qn hq) hv.1,Z3t (Qn hq2) hv.2⟩
def ZHs{d:Zl}(h:LeD d)(x:Zr):ZjZ d x=some (Bo (Kn d x),[]):=by
 refine XS.1.1.2.2 _ _ _ ⟨_,Z3r h x,?_⟩;unfold Kn;rcases tf (JC d x)with hv|hv
 .rw[hv];rfl
 obtain⟨a,b,h1,h2,hA,hB⟩:=Z3v hv;rw[hv,Ya rfl,Yw,h1,h2];have l1:=Zcc d h x.Name;have l2:=Zcc d h x.Into;rw[h1]at l1;rw[h2]at l2;have hM:ZfL d x=some (.own 0,[.arr 3 1 true ((XI (WI (WO (ZQ a.Rows x.Column) (ZQ b.Rows x.IntoColumn)))).map ic)]):=by
  refine XS.1.1.2.1 _ _ _ ⟨_,Z3r h x,?_⟩;rw[hv,Ya rfl];exact .inr ⟨_,_,_,l1,.inr ⟨_,_,_,l2,by simpa[ZQ]using ZHr hA hB a.Name a.Arity 0 (Yd _)⟩⟩
 refine .inr ⟨_,hM,?_⟩
 .have:=ZHp (WO (ZQ a.Rows x.Column) (ZQ b.Rows x.IntoColumn));by_cases e:WO (ZQ a.Rows x.Column) (ZQ b.Rows x.IntoColumn)=[]
  .simp[e,XI,WI]
  .have e2:¬((XI (WI (WO (ZQ a.Rows x.Column) (ZQ b.Rows x.IntoColumn)))).length=0):=λhc=>e (this.1 hc)
   have e4:¬XI (WI (WO (ZQ a.Rows x.Column) (ZQ b.Rows x.IntoColumn)))=[]:=λhc=>e2 (by rw[hc];rfl)
   have e5:(WO (ZQ a.Rows x.Column) (ZQ b.Rows x.IntoColumn)).isEmpty=false:=List.isEmpty_eq_false_iff.2 e;simp[e4,e5]
def KT(A B:V6)(u:Nat):V6:=((List.range' u (10-u)).filter λv:Nat=>has A (v:Int) && !(has B (v:Int))).map λn:Nat=>(n:Int)
def ZHt{A B:V6}{u:Nat}(h:u<10):KT A B u=(if(has A (u:Int) && !(has B (u:Int)))=true then[(u:Int)]else[])++KT A B (u+1):=by
 unfold KT;rw[show 10-u=(10-(u+1))+1 by omega,Yc8,Yb5];split<;>simp
def Z3w{xs:V6}{v:Int}:has xs v=true↔v∈xs:=by simp[has]
def ZHu{A B:V6}(hA:∀v∈A,0<=v/\v<=9):KT A B 0=[]↔WO A B=[]:=by
 constructor
 .intro h;unfold WO;rw[Ycp];intro v hv hb;have h1:=hA v hv;unfold KT at h;rw[List.map_eq_nil_iff,Ycp]at h;refine h v.toNat (by simp[List.mem_range'];omega) ?_;rw[show((v.toNat:Nat):Int)=v by omega,Z3w.2 hv,Yw];exact hb
 .intro h;unfold KT;rw[List.map_eq_nil_iff,Ycp];intro n _ hb;simp only[Yg]at hb;unfold WO at h;rw[Ycp]at h;exact h _ (Z3w.1 hb.1) hb.2
def Z3x(r:V6)(rows:V4)(c v:Int):has (ZQ (r::rows) c) v=(decide (r.getD c.toNat 0=v) || has (ZQ rows c) v):=by
 simp only[has,ZQ,Yx,Ydl];rw[show decide (v=r.getD c.toNat 0)=decide (r.getD c.toNat 0=v) by simp[eq_comm]]
def l_s1c{x:Zr}{A:V4}(hA:Qp A x.Column){B:V4}(hB:Qp B x.IntoColumn)(a:UP)(b:Int)(a':UP)(b':Int)(out:V6)(v:Int)(c:Bool)(r:V3):∀i,i<=B.length->∀two:Bool,(if(c && !(two || has (ZQ (B.drop i) x.IntoColumn) v))=true then out.length+1<=68719476736/\Kg x (out++[v]) a b A a' b' B (w (v+1))=some r else Kg x out a b A a' b' B (w (v+1))=some r)->Zd8 x out a b A a' b' B v c two i=some r:=by
 have h8:=hB.len;refine down _ ?_ ?_
 .intro two hr;apply WM.1.1.2.2;rw[Ynx];rw[Yo,show has (ZQ [] x.IntoColumn) v=false from rfl,Bool.or_false]at hr;cases c<;>cases two<;>simpa using hr
 .intro i hi ih two hr;obtain⟨⟨h1,h2⟩,_⟩:=hB.row _ (Yc hi);apply WM.1.1.2.2;rw[Ypx,wS hi (by omega)];rw[Yi hi,Z3x]at hr;rcases tf two with e|e
  .rw[Yb (by rw[e];simp)];refine⟨by omega,_,gE hi,hB.c0,_,gD h1,ih _ ?_⟩;rw[e,Ybz]at hr;exact hr
  .rw[Ya e];refine ih true ?_;rw[e]at hr;simpa using hr
def l_s0c{x:Zr}{A:V4}(hA:Qp A x.Column){B:V4}(hB:Qp B x.IntoColumn)(a:UP)(b:Int)(a':UP)(b':Int)(out:V6)(v:Int)(c:Bool)(r:V3):∀i,i<=A.length->∀one:Bool,Zd8 x out a b A a' b' B v (one || has (ZQ (A.drop i) x.Column) v) c 0=some r->Zhj x out a b A a' b' B v one c i=some r:=by
 have h8:=hA.len;refine down _ ?_ ?_
 .intro one hr;apply WM.1.1.2.1;rw[Ynx];rw[Yo,show has (ZQ [] x.Column) v=false from rfl,Bool.or_false]at hr;exact hr
 .intro i hi ih one hr;obtain⟨⟨h1,h2⟩,_⟩:=hA.row _ (Yc hi);apply WM.1.1.2.1;rw[Ypx,wS hi (by omega)];rw[Yi hi,Z3x]at hr;rcases tf one with e|e
  .rw[Yb (by rw[e];simp)];refine⟨by omega,_,gE hi,hA.c0,_,gD h1,ih _ ?_⟩;rw[e,Ybz]at hr;exact hr
  .rw[Ya e];refine ih true ?_;rw[e]at hr;simpa using hr
def l_s2c{x:Zr}{A:V4}(hA:Qp A x.Column){B:V4}(hB:Qp B x.IntoColumn)(a:UP)(b:Int)(a':UP)(b':Int):∀u,u<=10->∀out:V6,out.length<=u->Kg x out a b A a' b' B u=some (.own 0,[.arr 3 1 true ((out++KT (ZQ A x.Column) (ZQ B x.IntoColumn) u).map ic)]):=by
 refine down _ ?_ ?_
 .intro out ho;apply WM.1.1.1;rw[Ynx];simp[KT]
 .intro u hu ih out ho;have step:∀r,(if(has (ZQ A x.Column) (u:Int) && !(has (ZQ B x.IntoColumn) (u:Int)))=true then out.length+1<=68719476736/\Kg x (out++[(u:Int)]) a b A a' b' B (w ((u:Int)+1))=some r else Kg x out a b A a' b' B (w ((u:Int)+1))=some r)->Kg x out a b A a' b' B u=some r:=by
   intro r hr;apply WM.1.1.1;rw[Ypx];have q1:=l_s1c hA hB a b a' b' out u (has (ZQ A x.Column) (u:Int)) r 0 (Yd _) false (by simpa using hr);exact l_s0c hA hB a b a' b' out u false r 0 (Yd _) false (by simpa using q1)
  rw[ZHt hu,show w ((u:Int)+1)=((u+1:Nat):Int)from wS hu (by omega)]at *
  have e1:has (ZQ A x.Column) (u:Int)=has (ZQ A x.Column) (u:Int):=rfl;have e2:has (ZQ B x.IntoColumn) (u:Int)=has (ZQ B x.IntoColumn) (u:Int):=rfl;rw[e1,e2];apply step;rcases tf (has (ZQ A x.Column) (u:Int) && !(has (ZQ B x.IntoColumn) (u:Int)))with e|e
  .rw[Yb (by rw[e];simp),Yb (by rw[e];simp),Y7];exact ih _ (by omega)
  .rw[Ya e,Ya e];refine⟨by omega,?_⟩;rw[<-Ybo];exact ih _ (by simp;omega)
def ZHv{d:Zl}(h:LeD d)(x:Zr):ZkW d x=some (Bo (Kn d x),[]):=by
 refine WM.1.2.1.2 _ _ _ ⟨_,Z3s h x,?_⟩;unfold Kn;rcases tf (JC d x)with hv|hv
 .rw[hv];rfl
 obtain⟨a,b,h1,h2,hA,hB⟩:=Z3v hv;rw[hv,Ya rfl,Yw,h1,h2];have l1:=Zcd d h x.Name;have l2:=Zcd d h x.Into;rw[h1]at l1;rw[h2]at l2;simp only[ZlQ]at l1 l2;refine⟨KT (ZQ a.Rows x.Column) (ZQ b.Rows x.IntoColumn) 0,WM.1.2.1.1 _ _ _ ⟨_,Z3s h x,?_⟩,?_⟩
 .rw[hv,Ya rfl];exact .inl ⟨_,_,_,l1,.inl ⟨_,_,_,l2,l_s2c hA hB _ _ _ _ 0 (by omega) [] (by simp)⟩⟩
 .have:=ZHu (B:=ZQ b.Rows x.IntoColumn) (ZHo hA);by_cases e:WO (ZQ a.Rows x.Column) (ZQ b.Rows x.IntoColumn)=[]
  .rw[this.2 e];simp[e]
  .have e2:¬KT (ZQ a.Rows x.Column) (ZQ b.Rows x.IntoColumn) 0=[]:=λhc=>e (this.1 hc)
   have e5:(WO (ZQ a.Rows x.Column) (ZQ b.Rows x.IntoColumn)).isEmpty=false:=List.isEmpty_eq_false_iff.2 e;simp[e2,e5]
noncomputable def KU(d:Zl)(fs:List Zp)(xs:List Zr):Bool:=fs.all (JB d) && xs.all (Kn d) && (decide (fs.length<=8) && decide (xs.length<=8))
abbrev LeF(fs:List Zp):Prop:=Le fs/\∀f∈fs,f.From.length<=4294967296
def ZHw{d:Zl}(h:LeD d)(fs:List Zp)(xs:List Zr)(hx:Le xs):∀i,i<=xs.length->ZfQ d fs xs xs xs.length i=some (Bo ((xs.drop i).all (Kn d) && (decide (fs.length<=8) && decide (xs.length<=8))),[]):=by
 refine down _ ?_ ?_
 .apply XS.1.2.1.2;rw[Ynx,Yo];by_cases e:fs.length<=8
  .rw[Ypx];simp[e];omega
  .rw[Ynx];simp[e]
 .intro i hi ih;apply XS.1.2.1.2;rw[Ypx,wS hi hx,Yi hi,Ybh];refine⟨by omega,_,gE hi,_,ZHs h _,?_⟩;rcases tf (Kn d xs[i])with e|e
  .rw[e];simp
  .rw[e,Ya rfl,ih];simp
def Z3y{d:Zl}(h:LeD d){fs:List Zp}(hf:LeF fs){xs:List Zr}(hx:Le xs):ZcX d fs xs=some (Bo (KU d fs xs),[]):=by
 have main:∀i,i<=fs.length->ZfP d fs xs fs fs.length i=some (Bo ((fs.drop i).all (JB d) && xs.all (Kn d) && (decide (fs.length<=8) && decide (xs.length<=8))),[]):=by
  refine down _ ?_ ?_
  .apply XS.1.2.1.1;rw[Ynx,Yo];simpa using ZHw h fs xs hx 0 (Yd _)
  .intro i hi ih;apply XS.1.2.1.1;rw[Ypx,wS hi hf.1,Yi hi,Ybh];refine⟨by omega,_,gE hi,_,ZHm h _ (hf.2 _ (Yc hi)),?_⟩;rcases tf (JB d fs[i])with e|e
   .rw[e];simp
   .rw[e,Ya rfl,ih];simp
 exact XS.1.2.2.1 _ _ _ _ (by simpa[KU]using main 0 (Yd _))
def ZHx{d:Zl}(h:LeD d)(xs:List Zr)(hx:Le xs):∀i,i<=xs.length->Zhm d xs i=some (Bo ((xs.drop i).all (Kn d)),[]):=by
 refine down _ ?_ ?_
 .apply WM.1.2.2.2;rw[Ynx,Yo];rfl
 .intro i hi ih;apply WM.1.2.2.2;rw[Ypx,wS hi hx,Yi hi,Ybh];refine⟨by omega,_,gE hi,_,ZHv h _,?_⟩;rcases tf (Kn d xs[i])with e|e
  .rw[e];simp
  .rw[e,Ya rfl,ih];simp
def Z3z{d:Zl}(h:LeD d){fs:List Zp}(hf:LeF fs){xs:List Zr}(hx:Le xs):Zd9 d fs xs=some (Bo (KU d fs xs),[]):=by
 have main:∀i,i<=fs.length->Zhl d fs xs i=some (Bo ((fs.drop i).all (JB d) && xs.all (Kn d)),[]):=by
  refine down _ ?_ ?_
  .apply WM.1.2.2.1;rw[Ynx,Yo];simpa using ZHx h xs hx 0 (Yd _)
  .intro i hi ih;apply WM.1.2.2.1;rw[Ypx,wS hi hf.1,Yi hi,Ybh];refine⟨by omega,_,gE hi,_,ZHn h _ (hf.2 _ (Yc hi)),?_⟩;rcases tf (JB d fs[i])with e|e
   .rw[e];simp
   .rw[e,Ya rfl,ih];simp
 apply WM.2.1.1.1;unfold KU;by_cases e1:fs.length<=8
 .rw[Ynx];by_cases e2:xs.length<=8
  .rw[Ynx];simpa[e1,e2]using main 0 (Yd _)
  .rw[Ypx];simp[e2]
 .rw[Ypx];simp[e1]
def Xz(x:Int):Nat:=(if andI (shrI x 0) 1=1 then 1 else 0)+(if andI (shrI x 1) 1=1 then 1 else 0)+(if andI (shrI x 2) 1=1 then 1 else 0)+(if andI (shrI x 3) 1=1 then 1 else 0)
abbrev M16(x:Int):Prop:=0<=x/\x<16
def m16{x:Int}(h:M16 x):∃a:Fin 16,x=(a.1:Int):=⟨⟨x.toNat,by omega⟩,by simp;omega⟩
set_option maxRecDepth 100000 in
def f_or:∀a b:Fin 16,M16 (orI a.1 b.1)/\andI a.1 (orI a.1 b.1)=a.1/\(orI a.1 b.1=a.1\/Xz a.1+1<=Xz (orI a.1 b.1)):=by decide
set_option maxRecDepth 100000 in
def ZuE:∀a b:Fin 16,M16 (andI a.1 b.1)/\andI (andI a.1 b.1) b.1=andI a.1 b.1/\(andI (a.1:Int) b.1=a.1->Xz a.1<=Xz b.1/\(Xz b.1<=Xz a.1->a.1=b.1)):=by decide
set_option maxRecDepth 1000000 in
def f_sub:∀a b c:Fin 16,andI (a.1:Int) c.1=a.1->andI (b.1:Int) c.1=b.1->andI (orI a.1 b.1) c.1=orI a.1 b.1:=by decide
set_option maxRecDepth 100000 in
def f_bit:∀(a:Fin 16) (i:Fin 4),(andI (shrI a.1 i.1) 1=0↔¬andI (shrI a.1 i.1) 1=1):=by decide
set_option maxRecDepth 100000 in
def Z30:∀(i j:Fin 4),(andI (shrI (shlI 1 i.1) j.1) 1=1↔i=j)/\M16 (shlI 1 i.1):=by decide
set_option maxRecDepth 100000 in
def Z31:∀a:Fin 16,M16 (andI a.1 (w (0-a.1)))/\andI (andI a.1 (w (0-a.1))) a.1=andI a.1 (w (0-(a.1:Int))):=by decide
set_option maxRecDepth 100000 in
def Z32:∀(a:Fin 16),(a.1<2->Xz a.1<=1)/\(a.1<4->Xz a.1<=2)/\(a.1<8->Xz a.1<=3)/\Xz a.1<=4:=by decide
def f_bits:∀a b c d:Bool,M16 (Xw a b c d):=by decide
def Vl(qa:List Ze)(m:Int):Nat->Bool:=λi=>decide (i<qa.length) && (!ZP m i && shr qa (shlI 1 i) m)
def Ko(qa:List Ze)(m:Int):Int:=Xq (Vl qa m)
def ZHy(qa:List Ze)(m:Int):M16 (Ko qa m):=f_bits _ _ _ _
def ZHz{i j:Nat}(hi:i<4)(hj:j<4):ZP (shlI 1 i) j=decide (i=j):=by
 have:=(Z30 ⟨i,hi⟩ ⟨j,hj⟩).1;simp only[ZP,Fin.mk.injEq]at this|-;rw[Ybv,decide_eq_true_eq,decide_eq_true_eq];exact this
def ZlX{m:Int}(hm:M16 m){i:Nat}(hi:i<4):andI (shrI m i) 1=0↔ZP m i=false:=by
 obtain⟨a,rfl⟩:=m16 hm;have:=f_bit a ⟨i,hi⟩;simp only at this;rw[this,ZP,decide_eq_false_iff_not]
def ZH0(qa:List Ze)(h4:qa.length<=4){i:Nat}(hi:i<qa.length)(u:Int):∀k,k<=qa.length->Wx (shlI 1 i) (qa.drop k) k u=(decide (k<=i) && has qa[i].Vars u):=by
 refine down _ ?_ ?_
 .rw[Yo,Wx,decide_eq_false (by omega)];rfl
 .intro k hk ih;rw[ZnB _ hk,ih,ZHz (by omega) (by omega)];by_cases e:i=k
  .subst e;rw[decide_eq_true rfl,decide_eq_true (Yh _),decide_eq_false (by omega)];simp
  .by_cases e2:k<=i
   .rw[decide_eq_false e,decide_eq_true (by omega),decide_eq_true e2];simp
   .rw[decide_eq_false e,decide_eq_false (by omega),decide_eq_false e2];simp
def pV_one(qa:List Ze)(h4:qa.length<=4){i:Nat}(hi:i<qa.length)(u:Nat):pV (shlI 1 i) qa u=has qa[i].Vars u:=by
 have:=ZH0 qa h4 hi u 0 (Yd _);simpa[pV]using this
def ZH1{n:Int}{qa:List Ze}(h:Z6 n qa=true){i:Nat}(hi:i<qa.length)(m:Int):shr qa (shlI 1 i) m=qa[i].Vars.any (λv=>has (Xx m qa n.toNat) v):=by
 have h4:=(WH h).2;rw[Ybv,shr,List.any_eq_true,List.any_eq_true];simp only[Zfn h,pV_one qa h4 hi,Yg,Yb7];constructor
 .rintro⟨u,hu,h1,h2⟩;refine⟨(u:Int),Zab.1 h1,?_⟩;simp only[vin,Yg];exact⟨by simp[inR];omega,by simpa using h2⟩
 .rintro⟨v,hv,h2⟩;have h3:=Zbp h _ (Yc hi) v hv;simp[inR]at h3;simp only[vin,Yg]at h2;refine⟨v.toNat,by omega,?_,h2.2⟩;rw[Zab,Ycv h3.1];exact hv
def Z33{qa:List Ze}{m:Int}{i:Nat}(hi:i<4)(h:Vl qa m i=true):Wf (λu=>decide (u<i) && Vl qa m u) [(i:Int)]=λu=>decide (u<i+1) && Vl qa m u:=by
 funext u;simp only[Wf,has];by_cases e:u=i
 .subst e;rw[decide_eq_true (by omega:u<u+1),h];simp
 .by_cases e2:u<i
  .rw[decide_eq_true e2,decide_eq_true (by omega)]
   have:¬((u:Int)=(i:Int)):=by omega
   simp[this]
  .rw[decide_eq_false e2,decide_eq_false (by omega)]
   have:¬((u:Int)=(i:Int)):=by omega
   simp[this]
def ZlY{qa:List Ze}{m:Int}{i:Nat}(h:Vl qa m i=false):(λu=>decide (u<i) && Vl qa m u)=λu=>decide (u<i+1) && Vl qa m u:=by
 funext u;by_cases e:u=i
 .subst e;rw[h];simp
 .by_cases e2:u<i
  .rw[decide_eq_true e2,decide_eq_true (by omega)]
  .rw[decide_eq_false e2,decide_eq_false (by omega)]
def Z34(qa:List Ze)(m:Int):(λu=>decide (u<qa.length) && Vl qa m u)=Vl qa m:=by
 funext u;unfold Vl;by_cases e:u<qa.length
 .rw[decide_eq_true e];simp
 .rw[decide_eq_false e];simp
def ZH2(q:Zj)(hq:LeQ q)(hv:Z6 q.Zm q.Atoms=true)(m:Int)(hm:M16 m):∀i,i<=q.Atoms.length->
  Zdf (Xx m q.Atoms q.Zm.toNat) m (Xq λu=>decide (u<i) && Vl q.Atoms m u) q.Atoms q.Atoms.length i=some (I (Ko q.Atoms m),[]):=by
 have h4:=(WH hv).2;refine down _ ?_ ?_
 .apply U0.1.1.1;rw[Ynx,Z34];rfl
 .intro i hi ih;have hi4:i<4:=by omega
  have hinc:=ZL (i:=i) (by omega);simp only[Yz,Y0]at ih;apply U0.1.1.1;rw[Ypx];refine⟨by omega,q.Atoms[i],by rw[Yk];exact Yf hi,by omega,?_⟩;rw[show w ((i:Int)+1)=(i:Int)+1 from hinc];have hn:Vl q.Atoms m i=(!ZP m i && q.Atoms[i].Vars.any (λv=>has (Xx m q.Atoms q.Zm.toNat) v)):=by
   unfold Vl;rw[decide_eq_true hi,ZH1 hv hi];simp
  have hvars:=ZcL hv _ (Yc hi);have hvl:=ZcM m q.Atoms q.Zm.toNat;have hvn:=Q2 hv;rcases tf (ZP m i)with e1|e1
  .rw[Ya ((ZlX hm hi4).2 e1)];refine⟨_,Zuz q.Atoms[i].Vars (Xx m q.Atoms q.Zm.toNat) (by omega) (by omega),?_⟩;rcases tf (q.Atoms[i].Vars.any (λv=>has (Xx m q.Atoms q.Zm.toNat) v))with e2|e2
   .have e3:q.Atoms[i].Vars.filter (has (Xx m q.Atoms q.Zm.toNat))=[]:=by
     rw[Ycp];intro a ha;have:=Yde.1 e2 a ha;simpa using this
    rw[e3,Yb (by simp),ZlY (by rw[hn,e2];simp)];exact ih
   .have e3:0<(q.Atoms[i].Vars.filter (has (Xx m q.Atoms q.Zm.toNat))).length:=by
     obtain⟨v,hv1,hv2⟩:=List.any_eq_true.1 e2;exact List.length_pos_of_mem (Ybc.2 ⟨hv1,hv2⟩)
    rw[Ypx,Zj7 _ (by simp[inR];omega),Z33 hi4 (by rw[hn,e1,e2];rfl)];exact ih
  .rw[Yb (λhc=>by rw[(ZlX hm hi4).1 hc]at e1;cases e1),ZlY (by rw[hn,e1];rfl)];exact ih
def Z35(q:Zj)(hq:LeQ q)(hv:Z6 q.Zm q.Atoms=true)(m:Int)(hm:M16 m):Zkt q m=some (I (Ko q.Atoms m),[]):=by
 have b:=ZH2 q hq hv m hm 0 (Yd _);refine U0.1.1.2 _ _ _ ⟨_,ZhY q m hq hv,?_⟩;simpa[Xq,Xw]using b
def l_near(q:Zj)(hq:LeQ q)(hv:Z6 q.Zm q.Atoms=true)(m:Int)(hm:M16 m):∀i,i<=q.Atoms.length->
  ZdN q m (Xq λu=>decide (u<i) && Vl q.Atoms m u) (Xq (pV m q.Atoms)) i=some (I (Ko q.Atoms m),[]):=by
 have h4:=(WH hv).2;refine down _ ?_ ?_
 .apply W9.1.2.2.1;rw[Ynx,Z34];rfl
 .intro i hi ih;have hi4:i<4:=by omega
  have hinc:=ZL (i:=i) (by omega);simp only[Yz,Y0]at ih;apply W9.1.2.2.1;rw[Ypx];refine⟨by omega,?_⟩;rw[show w ((i:Int)+1)=(i:Int)+1 from hinc];have hn:Vl q.Atoms m i=(!ZP m i && shr q.Atoms (shlI 1 i) m):=by
   unfold Vl;rw[decide_eq_true hi];simp
  rcases tf (ZP m i)with e1|e1
  .rw[Ya ((ZlX hm hi4).2 e1)];refine⟨_,Zem q (shlI 1 i) hq (Zbp hv),?_⟩;rcases tf (shr q.Atoms (shlI 1 i) m)with e2|e2
   .rw[Ya ((ZnE q.Atoms (shlI 1 i) m).2 e2),ZlY (by rw[hn,e2];simp)];exact ih
   .rw[Yb (λhc=>by rw[(ZnE q.Atoms (shlI 1 i) m).1 hc]at e2;cases e2),Zj7 _ (by simp[inR];omega),Z33 hi4 (by rw[hn,e1,e2];rfl)];exact ih
  .rw[Yb (λhc=>by rw[(ZlX hm hi4).1 hc]at e1;cases e1),ZlY (by rw[hn,e1];rfl)];exact ih
def x_near(q:Zj)(hq:LeQ q)(hv:Z6 q.Zm q.Atoms=true)(m:Int)(hm:M16 m):Zli q m=some (I (Ko q.Atoms m),[]):=by
 have b:=l_near q hq hv m hm 0 (Yd _);refine W9.1.2.2.2 _ _ _ ⟨_,Zem q m hq (Zbp hv),?_⟩;simpa[Xq,Xw]using b
def QI(qa:List Ze)(c x:Int):Int:=orI x (andI (Ko qa x) c)
def JD(qa:List Ze)(c:Int):Nat->Int->Int
 |0,x=>x
 |n+1,x=>JD qa c n (QI qa c x)
def Wp(qa:List Ze)(c:Int):Bool:=decide (JD qa c qa.length (andI c (w (0-c)))=c)
abbrev ZlZ(x mask:Int):Prop:=andI x mask=x
def ZuF{qa:List Ze}{mask x:Int}(hm:M16 mask)(hx:M16 x)(hs:ZlZ x mask):M16 (QI qa mask x)/\ZlZ (QI qa mask x) mask/\(QI qa mask x=x\/Xz x+1<=Xz (QI qa mask x)):=by
 obtain⟨a,rfl⟩:=m16 hx;obtain⟨b,rfl⟩:=m16 hm;obtain⟨c,hc⟩:=m16 (ZHy qa (a.1:Int));unfold QI;rw[hc];obtain⟨d1,d2,_⟩:=ZuE c b;obtain⟨d,hd⟩:=m16 d1;rw[hd]at d2|-;obtain⟨e1,_,e3⟩:=f_or a d;exact⟨e1,f_sub a d b hs d2,e3⟩
def Z36{qa:List Ze}{mask x:Int}(h:QI qa mask x=x):∀n,JD qa mask n x=x
 |0=>rfl
 |n+1=>by rw[JD,h];exact Z36 h n
def ZH3(q:Zj)(hq:LeQ q)(hv:Z6 q.Zm q.Atoms=true)(mask:Int)(hm:M16 mask)(hp:Xz mask<=q.Atoms.length):∀(f:Nat) (x:Int),M16 x->ZlZ x mask->q.Atoms.length<=Xz x+f->
  Zgc q mask x=some (Bo (decide (JD q.Atoms mask f x=mask)),[]):=by
 intro f
 induction f with
 |zero =>
  intro x hx hs hf;have hxm:x=mask:=by
   obtain⟨a,rfl⟩:=m16 hx;obtain⟨b,rfl⟩:=m16 hm;have:=((ZuE a b).2.2 hs).2 (by omega);omega
  obtain⟨s1,s2,s3⟩:=ZuF (qa:=q.Atoms) hm hx hs;have hfix:QI q.Atoms mask x=x:=by
   rcases s3 with h|h
   .exact h
   .obtain⟨a,ha⟩:=m16 s1;obtain⟨b,rfl⟩:=m16 hm;rw[ha]at s2 h;have:=((ZuE a b).2.2 s2).1;rw[hxm]at h;omega
  refine U0.1.2.1 _ _ _ _ ⟨_,Z35 q hq hv x hx,?_⟩
  rw[Ya (show orI x (andI (Ko q.Atoms x) mask)=x from hfix)];rfl
 |succ f ih =>
  intro x hx hs hf;obtain⟨s1,s2,s3⟩:=ZuF (qa:=q.Atoms) hm hx hs;refine U0.1.2.1 _ _ _ _ ⟨_,Z35 q hq hv x hx,?_⟩;by_cases h:QI q.Atoms mask x=x
  .rw[Ya (show orI x (andI (Ko q.Atoms x) mask)=x from h),Z36 h]
  .rw[Yb (show ¬orI x (andI (Ko q.Atoms x) mask)=x from h)];exact ih (QI q.Atoms mask x) s1 s2 (by rcases s3 with h'|h';exact absurd h' h;omega)
def ZH4(q:Zj)(hq:LeQ q)(hv:Z6 q.Zm q.Atoms=true)(c:Int)(hm:M16 c):∀i,i<=q.Atoms.length->∀x,M16 x->ZlZ x c->
  Zhr q c x i=some (Bo (decide (JD q.Atoms c (q.Atoms.length-i) x=c)),[]):=by
 have h4:=(WH hv).2;refine down _ ?_ ?_
 .intro x _ _;apply W9.2.1.1.1;rw[Ynx,Ycw];rfl
 .intro i hi ih x hx hs;obtain⟨s1,s2,s3⟩:=ZuF (qa:=q.Atoms) hm hx hs;have hinc:=ZL (i:=i) (by omega);apply W9.2.1.1.1;rw[Ypx];refine⟨_,x_near q hq hv x hx,?_⟩;have ih:=ih _ s1 s2;simp only[Yz,Y0]at ih;rw[show w ((i:Int)+1)=(i:Int)+1 from hinc,show q.Atoms.length-i=(q.Atoms.length-(i+1))+1 by omega,JD];exact ih
abbrev MQ(qa:List Ze)(m:Int):Prop:=0<=m/\m<2 ^ qa.length
def MQ.m16{n:Int}{qa:List Ze}{m:Int}(hv:Z6 n qa=true)(h:MQ qa m):M16 m/\Xz m<=qa.length:=by
 have hl:=WH hv;obtain⟨h1,h2⟩:=h;have e:qa.length=1\/qa.length=2\/qa.length=3\/qa.length=4:=by omega
 have k16:M16 m:=by rcases e with e|e|e|e<;>rw[e]at h2<;>exact⟨h1,by omega⟩
 refine⟨k16,?_⟩;obtain⟨a,rfl⟩:=Go.Proofs.YthdihnbeifcppaaGreat.m16 k16;obtain⟨p1,p2,p3,p4⟩:=Z32 a;rcases e with e|e|e|e<;>rw[e]at h2|-
 .exact p1 (by omega)
 .exact p2 (by omega)
 .exact p3 (by omega)
 .exact p4
def Zma(q:Zj)(hq:LeQ q)(hv:Z6 q.Zm q.Atoms=true)(m:Int)(hm:MQ q.Atoms m)(h0:m≠0):Jv q m=some (Bo (Wp q.Atoms m),[]):=by
 obtain⟨k1,k2⟩:=hm.m16 hv;apply U0.1.2.2;rw[Yb h0];obtain⟨a,rfl⟩:=m16 k1;obtain⟨l1,l2⟩:=Z31 a;exact ZH3 q hq hv _ k1 k2 q.Atoms.length _ l1 l2 (by omega)
def Zmb(q:Zj)(hq:LeQ q)(hv:Z6 q.Zm q.Atoms=true)(m:Int)(hm:MQ q.Atoms m):Zax q m=some (Bo (Wp q.Atoms m),[]):=by
 obtain⟨k1,k2⟩:=hm.m16 hv;apply W9.2.1.1.2;obtain⟨a,rfl⟩:=m16 k1;obtain⟨l1,l2⟩:=Z31 a;exact ZH4 q hq hv _ k1 0 (Yd _) _ l1 l2
def Kp{n:Int}{qa:List Ze}(hv:Z6 n qa=true):ZW n qa=2 ^ qa.length-1:=by
 unfold ZW;rw[Ya hv,(Zbo hv).2.1]
def Z37(q:Zj)(hq:LeQ q)(m:Int):Zb7 q m=some (Bo (Z6 q.Zm q.Atoms && inR m 0 (ZW q.Zm q.Atoms)),[]):=by
 refine XG.2.2.2.2.2 _ _ _ ⟨_,ZhV q hq,?_⟩;rcases tf (Z6 q.Zm q.Atoms)with e|e
 .rw[e];simp
 .rw[e,Ya rfl];refine⟨by omega,_,XX _ _ _,?_⟩;rw[show w (shlI 1 (q.Atoms.length:Int)-1)=shlI 1 (q.Atoms.length:Int)-1 from(Zbo e).2.2.1];unfold ZW;rw[Ya e];simp
def Z38(q:Zj)(hq:LeQ q)(m:Int):ZdK q m=some (Bo (Z6 q.Zm q.Atoms && inR m 0 (ZW q.Zm q.Atoms)),[]):=by
 refine W9.1.1.2.1 _ _ _ ⟨_,ZlI q hq,?_⟩;rcases tf (Z6 q.Zm q.Atoms)with e|e
 .rw[e];simp
 .rw[e,Ya rfl];refine⟨by omega,_,Wo _ _ _,?_⟩;rw[show w (shlI 1 (q.Atoms.length:Int)-1)=shlI 1 (q.Atoms.length:Int)-1 from(Zbo e).2.2.1];unfold ZW;rw[Ya e];simp
def Zmc{n:Int}{qa:List Ze}(hv:Z6 n qa=true){m:Int}(h:inR m 0 (ZW n qa)=true):MQ qa m:=by
 rw[Kp hv]at h;simp[inR]at h;exact⟨h.1,by omega⟩
def WV(n:Int)(qa:List Ze)(m:Int):Bool:=Z6 n qa && inR m 0 (ZW n qa) && decide (m≠0) && Wp qa m
def Z39(q:Zj)(hq:LeQ q)(m:Int):Zdg q m=some (Bo (WV q.Zm q.Atoms m),[]):=by
 refine U0.2.1.1 _ _ _ ⟨_,Z37 q hq m,?_⟩;unfold WV;rcases tf (Z6 q.Zm q.Atoms)with e|e
 .rw[e];simp
 rcases tf (inR m 0 (ZW q.Zm q.Atoms))with e1|e1
 .rw[e,e1];simp
 rw[e,e1,Ya (by rfl)];have hm:=Zmc e e1;by_cases h0:m=0
 .refine⟨false,U0.1.2.2 _ _ _ (by rw[Ya h0]),?_⟩;simp[h0]
 .exact⟨_,Zma q hq e m hm h0,by simp[h0]⟩
def Z3A(q:Zj)(hq:LeQ q)(m:Int):ZbQ q m=some (Bo (WV q.Zm q.Atoms m),[]):=by
 refine W9.2.1.2.1 _ _ _ ⟨_,Z38 q hq m,?_⟩;unfold WV;rcases tf (Z6 q.Zm q.Atoms)with e|e
 .rw[e];simp
 rcases tf (inR m 0 (ZW q.Zm q.Atoms))with e1|e1
 .rw[e,e1];simp
 rw[e,e1,Ya (by rfl)];have hm:=Zmc e e1;by_cases h0:m=0
 .rw[Ynx];simp[h0]
 .rw[Ya (by have:=hm.1;omega)];exact⟨_,Zmb q hq e m hm,by simp[h0]⟩
def QJ(qa:List Ze)(k n:Nat):V6:=((List.range' k n).filter (λm:Nat=>Wp qa (m:Int))).map (λm:Nat=>(m:Int))
def Z3B{qa:List Ze}{k n:Nat}:QJ qa k (n+1)=(if Wp qa (k:Int)=true then[(k:Int)]else[])++QJ qa (k+1) n:=by
 unfold QJ;rw[Yc8,Yb5];split<;>simp
def ZH5{qa:List Ze}{k n:Nat}:(QJ qa k n).length<=n:=by
 unfold QJ;rw[Y9];exact Y1 (Ybs _ _) (by simp)
def Kq(k:Nat):((2 ^ k:Nat):Int)=2 ^ k:=by simp
def ZH6(q:Zj)(hq:LeQ q)(hv:Z6 q.Zm q.Atoms=true):∀k:Nat,k<=2 ^ q.Atoms.length->1<=k->∀out:V6,out.length<=k->
  Zdi q out k=some (.own 0,[.arr ZU 1 true ((out++QJ q.Atoms k (2 ^ q.Atoms.length-k)).map ic)]):=by
 have hf:=Kp hv;have hp:=Kq q.Atoms.length;have h16:2 ^ q.Atoms.length<=16:=Nat.pow_le_pow_right (by omega:0<2) (WH hv).2;refine down _ ?_ ?_
 .intro _ out _;refine ZbZ.1.1 _ _ _ _ ⟨_,Za4 q hq,?_⟩;rw[Yb (by rw[hf];omega),Ycw];simp[QJ]
 .intro k hk ih h1 out ho;have wk':w ((k:Int)+1)=(k:Int)+1:=Z1 (by omega) (by omega);refine ZbZ.1.1 _ _ _ _ ⟨_,Za4 q hq,?_⟩;rw[Ya (by rw[hf];omega)];refine⟨_,Zma q hq hv k ⟨by omega,by omega⟩ (by omega),?_⟩;rw[show 2 ^ q.Atoms.length-k=(2 ^ q.Atoms.length-(k+1))+1 by omega,Z3B,wk'];rcases tf (Wp q.Atoms k)with e|e
  .have ih:=ih (by omega) out (by omega);rw[e,Yb (by simp)];simpa using ih
  .have ih:=ih (by omega) (out++[(k:Int)]) (by simp;omega);rw[e,Ya rfl];refine⟨by omega,?_⟩;simpa using ih
def Z7(qa:List Ze):V6:=QJ qa 1 (2 ^ qa.length-1)
def ZH7(q:Zj)(hq:LeQ q)(hv:Z6 q.Zm q.Atoms=true):Zgo q=some (.own 0,[.arr ZU 1 true ((Z7 q.Atoms).map ic)]):=by
 have hpos:1<=2 ^ q.Atoms.length:=Nat.one_le_two_pow;have b:=ZH6 q hq hv 1 hpos (Yh _) [] (by simp);exact ZbZ.1.2 _ _ (by simpa[Z7]using b)
def ZH8(q:Zj)(hq:LeQ q)(hv:Z6 q.Zm q.Atoms=true):∀k:Nat,k<=2 ^ q.Atoms.length->1<=k->∀out:V6,out.length<=k->
  ZdS q out (ZW q.Zm q.Atoms) k=some (.own 0,[.arr ZU 1 true ((out++QJ q.Atoms k (2 ^ q.Atoms.length-k)).map ic)]):=by
 have hf:=Kp hv;have hp:=Kq q.Atoms.length;have h16:2 ^ q.Atoms.length<=16:=Nat.pow_le_pow_right (by omega:0<2) (WH hv).2;refine down _ ?_ ?_
 .intro _ out _;apply X6.2.1.1.1;rw[Yb (by rw[hf];omega),Ycw];simp[QJ]
 .intro k hk ih h1 out ho;have wk':w ((k:Int)+1)=(k:Int)+1:=Z1 (by omega) (by omega);apply X6.2.1.1.1;rw[Ya (by rw[hf];omega)];refine⟨_,Zmb q hq hv k ⟨by omega,by omega⟩,?_⟩;rw[show 2 ^ q.Atoms.length-k=(2 ^ q.Atoms.length-(k+1))+1 by omega,Z3B,wk'];rcases tf (Wp q.Atoms k)with e|e
  .have ih:=ih (by omega) out (by omega);rw[e,Yb (by simp)];simpa using ih
  .have ih:=ih (by omega) (out++[(k:Int)]) (by simp;omega);rw[e,Ya rfl];refine⟨by omega,?_⟩;simpa using ih
def ZH9(q:Zj)(hq:LeQ q)(hv:Z6 q.Zm q.Atoms=true):Zhx q=some (.own 0,[.arr ZU 1 true ((Z7 q.Atoms).map ic)]):=by
 have hpos:1<=2 ^ q.Atoms.length:=Nat.one_le_two_pow;have b:=ZH8 q hq hv 1 hpos (Yh _) [] (by simp);exact X6.2.1.1.2 _ _ ⟨_,ZhX q hq,by simpa[Z7]using b⟩
set_option maxRecDepth 100000 in
def Z3C:∀a m:Fin 16,andI (a.1:Int) m.1=a.1->KA (m.1:Int) a.1=(m.1:Int)-a.1/\(a.1:Int)<=m.1/\andI (a.1:Int) ((m.1:Int)-a.1)=0/\orI (a.1:Int) ((m.1:Int)-a.1)=m.1:=by decide
def Va(qa:List Ze)(c x:Int):Bool:=decide (andI x c=x) && (Wp qa x && Wp qa (c-x))
def Qq(qa:List Ze)(c:Int)(k n:Nat):V6:=((List.range' k n).filter (λm:Nat=>Va qa c (m:Int))).map (λm:Nat=>(m:Int))
def Z3D{qa:List Ze}{mask:Int}{k n:Nat}:Qq qa mask k (n+1)=(if Va qa mask (k:Int)=true then[(k:Int)]else[])++Qq qa mask (k+1) n:=by
 unfold Qq;rw[Yc8,Yb5];split<;>simp
def ZK(qa:List Ze)(c:Int):V6:=Qq qa c 1 (c.toNat-1)
def ZHA(q:Zj)(hq:LeQ q)(hv:Z6 q.Zm q.Atoms=true)(c:Nat)(hm:MQ q.Atoms c):∀k:Nat,k<=c->1<=k->∀out:V6,out.length<=k->
  ZbA q out c k=some (.own 0,[.arr ZU 1 true ((out++Qq q.Atoms c k (c-k)).map ic)]):=by
 have m16':=(hm.m16 hv).1;refine down _ ?_ ?_
 .intro _ out _;apply Zux.1;rw[Ynx,Ycw];simp[Qq]
 .intro k hk ih h1 out ho;have wk':w ((k:Int)+1)=(k:Int)+1:=Z1 (by omega) (by omega);apply Zux.1;rw[Ypx,show c-k=(c-(k+1))+1 by omega,Z3D,wk'];have skip:Va q.Atoms c k=false->ZbA q out c ((k:Int)+1)=some (.own 0,[.arr ZU 1 true ((out++((if Va q.Atoms c (k:Int)=true then[(k:Int)]else[])++Qq q.Atoms c (k+1) (c-(k+1)))).map ic)]):=by
   intro e;have ih:=ih (by omega) out (by omega);rw[e];simpa using ih
  by_cases e1:andI (k:Int) c=k
  .obtain⟨d1,d2,_⟩:=Z3C ⟨k,by omega⟩ ⟨c,by omega⟩ e1;simp only at d1 d2;rw[Ya e1];refine⟨_,Zma q hq hv k ⟨by omega,by have:=hm.2;omega⟩ (by omega),?_⟩;rcases tf (Wp q.Atoms k)with e2|e2
   .rw[e2,Yb (by simp)];exact skip (by simp[Va,e2])
   .rw[e2,Ya rfl,d1];refine⟨_,Zma q hq hv ((c:Int)-k) ⟨by omega,by have:=hm.2;omega⟩ (by omega),?_⟩;rcases tf (Wp q.Atoms ((c:Int)-k))with e3|e3
    .rw[e3,Yb (by simp)];exact skip (by simp[Va,e3])
    .rw[e3,Ya rfl];have es:Va q.Atoms c k=true:=by simp[Va,e1,e2,e3]
     rw[es,Ya rfl];have ih:=ih (by omega) (out++[(k:Int)]) (by simp;omega);exact⟨by omega,by simpa using ih⟩
  .rw[Yb e1];exact skip (by simp[Va,e1])
def ZuG(q:Zj)(hq:LeQ q)(m:Int)(hc:WV q.Zm q.Atoms m=true):Zgq q m=some (.own 0,[.arr ZU 1 true ((ZK q.Atoms m).map ic)]):=by
 have hc':=hc;simp only[WV,Yg,decide_eq_true_eq]at hc';obtain⟨⟨⟨hv,hr⟩,h0⟩,_⟩:=hc';have hm:=Zmc hv hr;obtain⟨k,rfl⟩:∃k:Nat,m=k:=⟨m.toNat,by have:=hm.1;omega⟩;refine Zux.2 _ _ _ ⟨_,Z39 q hq k,?_⟩;rw[hc,Ya rfl];have b:=ZHA q hq hv k hm 1 (by omega) (Yh _) [] (by simp);simpa[ZK]using b
def ZHB(q:Zj)(hq:LeQ q)(hv:Z6 q.Zm q.Atoms=true)(c:Nat)(hm:MQ q.Atoms c):∀k:Nat,k<=c->1<=k->∀out:V6,out.length<=k->
  ZbT q out c k=some (.own 0,[.arr ZU 1 true ((out++Qq q.Atoms c k (c-k)).map ic)]):=by
 have m16':=(hm.m16 hv).1;refine down _ ?_ ?_
 .intro _ out _;apply X6.2.1.2.1;rw[Ynx,Ycw];simp[Qq]
 .intro k hk ih h1 out ho;have wk':w ((k:Int)+1)=(k:Int)+1:=Z1 (by omega) (by omega);have wd:w ((c:Int)-k)=(c:Int)-k:=Z1 (by omega) (by omega);apply X6.2.1.2.1;rw[Ypx,show c-k=(c-(k+1))+1 by omega,Z3D,wk',wd];have skip:Va q.Atoms c k=false->ZbT q out c ((k:Int)+1)=some (.own 0,[.arr ZU 1 true ((out++((if Va q.Atoms c (k:Int)=true then[(k:Int)]else[])++Qq q.Atoms c (k+1) (c-(k+1)))).map ic)]):=by
   intro e;have ih:=ih (by omega) out (by omega);rw[e];simpa using ih
  by_cases e1:andI (k:Int) c=k
  .rw[Ya e1];refine⟨_,Zmb q hq hv k ⟨by omega,by have:=hm.2;omega⟩,?_⟩;rcases tf (Wp q.Atoms k)with e2|e2
   .rw[e2,Yb (by simp)];exact skip (by simp[Va,e2])
   .rw[e2,Ya rfl];refine⟨_,Zmb q hq hv ((c:Int)-k) ⟨by omega,by have:=hm.2;omega⟩,?_⟩;rcases tf (Wp q.Atoms ((c:Int)-k))with e3|e3
    .rw[e3,Yb (by simp)];exact skip (by simp[Va,e3])
    .rw[e3,Ya rfl];have es:Va q.Atoms c k=true:=by simp[Va,e1,e2,e3]
     rw[es,Ya rfl];have ih:=ih (by omega) (out++[(k:Int)]) (by simp;omega);exact⟨by omega,by simpa using ih⟩
  .rw[Yb e1];exact skip (by simp[Va,e1])
def ZHC(q:Zj)(hq:LeQ q)(m:Int)(hc:WV q.Zm q.Atoms m=true):Zhy q m=some (.own 0,[.arr ZU 1 true ((ZK q.Atoms m).map ic)]):=by
 have hc':=hc;simp only[WV,Yg,decide_eq_true_eq]at hc';obtain⟨⟨⟨hv,hr⟩,h0⟩,_⟩:=hc';have hm:=Zmc hv hr;obtain⟨k,rfl⟩:∃k:Nat,m=k:=⟨m.toNat,by have:=hm.1;omega⟩;refine X6.2.1.2.2 _ _ _ ⟨_,Z3A q hq k,?_⟩;rw[hc,Ya rfl];have b:=ZHB q hq hv k hm 1 (by omega) (Yh _) [] (by simp);simpa[ZK]using b
def Za9(m:Int)(k n:Nat):V6:=((List.range' k n).filter (λi:Nat=>ZP m i)).map (λi:Nat=>(i:Int))
def Z3E{m:Int}{k n:Nat}:Za9 m k (n+1)=(if ZP m k=true then[(k:Int)]else[])++Za9 m (k+1) n:=by
 unfold Za9;rw[Yc8,Yb5];split<;>simp
def VQ(m:Int):V6:=Za9 m 0 4
def ZHD(m:Int):∀k:Nat,k<=4->∀out:V6,out.length<=k->Zdk out m k=some (.own 0,[.arr ZU 1 true ((out++Za9 m k (4-k)).map ic)]):=by
 refine down _ ?_ ?_
 .intro out _;apply ZbZ.2.1;rw[Ynx];simp[Za9]
 .intro k hk ih out ho;have wk':w ((k:Int)+1)=(k:Int)+1:=Z1 (by omega) (by omega);apply ZbZ.2.1;rw[Ypx,show 4-k=(4-(k+1))+1 by omega,Z3E,wk'];refine⟨by omega,?_⟩;by_cases e:andI (shrI m k) 1=1
  .have ih:=ih (out++[(k:Int)]) (by simp;omega);rw[Ya e,Ya (by simp[ZP,e])];exact⟨by omega,by simpa using ih⟩
  .have ih:=ih out (by omega);rw[Yb e,Yb (by simp[ZP,e])];simpa using ih
def ZHE{m:Int}(hm:M16 m):Zdj m=some (.own 0,[.arr ZU 1 true ((VQ m).map ic)]):=by
 have b:=ZHD m 0 (by omega) [] (by simp);refine ZbZ.2.2.1 _ _ ⟨_,XX _ _ _,?_⟩;rw[Ya (by simp[inR];omega)];simpa[VQ]using b
def ZHF(m:Int)(hm:M16 m):∀k:Nat,k<=4->∀out:V6,out.length<=k->ZdX out m k=some (.own 0,[.arr ZU 1 true ((out++Za9 m k (4-k)).map ic)]):=by
 refine down _ ?_ ?_
 .intro out _;apply Wj.1.2.2.1;rw[Ynx];simp[Za9]
 .intro k hk ih out ho;have wk':w ((k:Int)+1)=(k:Int)+1:=Z1 (by omega) (by omega);apply Wj.1.2.2.1;rw[Ypx,show 4-k=(4-(k+1))+1 by omega,Z3E,wk'];refine⟨_,Wo _ _ _,?_⟩;rw[Ya (by simp[inR];omega)];refine⟨by omega,?_⟩;by_cases e:andI (shrI m k) 1=1
  .have ih:=ih (out++[(k:Int)]) (by simp;omega);rw[Ya e,Ya (by simp[ZP,e])];exact⟨by omega,by simpa using ih⟩
  .have ih:=ih out (by omega);rw[Yb e,Yb (by simp[ZP,e])];simpa using ih
def ZHG{m:Int}(hm:M16 m):Zh3 m=some (.own 0,[.arr ZU 1 true ((VQ m).map ic)]):=by
 have b:=ZHF m hm 0 (by omega) [] (by simp);exact Wj.1.2.2.2.1 _ _ (by simpa[VQ]using b)
