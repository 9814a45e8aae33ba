/-
  Parts of the proofs for this seat: GF GH NAx.
-/
import Derived.Test.YtobfkfgdneeabaaGreatP36
set_option linter.all false
set_option maxRecDepth 100000
set_option maxHeartbeats 4000000
namespace Go.Proofs.YtobfkfgdneeabaaGreat
open Go.AM
def cA(d:Zj)(x:Z2):Bool:=match ZZ d x.Name,ZZ d x.Into with
 |some a,some b=>Am x.Column 0 (a.Arity-1) && Am x.IntoColumn 0 (b.Arity-1)
 |_,_=>false
def ZGg{d:Zj}(h:BA d)(x:Z2):SA d x=some (Bo (cA d x),[]):=by
 have h1:=G6 d h x.Name;have h2:=G6 d h x.Into;apply WM.2.2.2.2;unfold cA
 cases hq:ZZ d x.Name with
 |none =>
  rw[hq]at h1
  cases hq2:ZZ d x.Into with
  |none=>rw[hq2]at h2;exact .inl ⟨_,_,_,h1,.inl ⟨_,_,_,h2,Z⟩⟩
  |some b =>
   rw[hq2]at h2;simp only[QK]at h2;by_cases e2:b.Rows=[]
   .rw[Ya e2]at h2;exact .inl ⟨_,_,_,h1,.inl ⟨_,_,_,h2,Z⟩⟩
   .rw[Yb e2]at h2;exact .inl ⟨_,_,_,h1,.inr ⟨_,_,_,h2,Z⟩⟩
 |some a =>
  rw[hq]at h1;simp only[QK]at h1;have wa:=w1 (PH (b8 hq)).2
  cases hq2:ZZ d x.Into with
  |none =>
   rw[hq2]at h2;by_cases e1:a.Rows=[]
   .rw[Ya e1]at h1;exact .inl ⟨_,_,_,h1,.inl ⟨_,_,_,h2,Z⟩⟩
   .rw[Yb e1]at h1;exact .inr ⟨_,_,_,h1,.inl ⟨_,_,_,h2,Z⟩⟩
  |some b =>
   rw[hq2]at h2;simp only[QK]at h2;have wb:=w1 (PH (b8 hq2)).2;by_cases e1:a.Rows=[]
   .rw[Ya e1]at h1;by_cases e2:b.Rows=[]
    .rw[Ya e2]at h2;refine .inl ⟨_,_,_,h1,.inl ⟨_,_,_,h2,?_⟩⟩
     simp_all
    .rw[Yb e2]at h2;refine .inl ⟨_,_,_,h1,.inr ⟨_,_,_,h2,?_⟩⟩
     simp_all
   .rw[Yb e1]at h1;by_cases e2:b.Rows=[]
    .rw[Ya e2]at h2;refine .inr ⟨_,_,_,h1,.inl ⟨_,_,_,h2,?_⟩⟩
     simp_all
    .rw[Yb e2]at h2;refine .inr ⟨_,_,_,h1,.inr ⟨_,_,_,h2,_,ZS _ _ _,?_⟩⟩
     simp_all
def Xm(rows:XS)(c:Int):V2:=rows.map λr=>r.getD c.toNat 0
structure U1 (rows:XS) (c:Int):Prop where
 len:rows.length<=8
 row:∀r∈rows,(c.toNat<r.length/\r.length<=3)/\∀v∈r,0<=v/\v<=9
 c0:0<=c
theorem ZT2{t:Zl}(hv:ZO t=true){c:Int}(hc:Am c 0 (t.Arity-1)=true):U1 t.Rows c:=by
 obtain⟨hR,hA⟩:=PH hv;have h2:0<=c/\c<=t.Arity-1:=by simpa[Am]using hc
 refine⟨hR.len,λr hr=>⟨?_,λv hx=>?_⟩,h2.1⟩
 .have:=hR.row r hr;omega
 .unfold ZO at hv;simp only[Yf]at hv;have h1:=Ym.1 hv.2.1 r hr;unfold B3 at h1;simp only[Yf]at h1;simpa[N8,Am]using Ym.1 h1.1 v hx
def ZT3{rows:XS}{c:Int}(h:U1 rows c):∀v∈Xm rows c,0<=v/\v<=9:=by
 intro v hv;obtain⟨r,hr,rfl⟩:=Yn.1 hv;obtain⟨⟨h1,_⟩,h2⟩:=h.row r hr
 simp_all
def uR(A B:V2):V2:=A.filter λv=>!(has B v)
def cC(d:Zj)(x:Z2):Bool:=cA d x && (match ZZ d x.Name,ZZ d x.Into with
 |some a,some b=>(uR (Xm a.Rows x.Column) (Xm b.Rows x.IntoColumn)).isEmpty
 |_,_=>true)
def PO{d:Zj}{x:Z2}(hv:cA d x=true):∃a b,ZZ d x.Name=some a/\ZZ d x.Into=some b/\U1 a.Rows x.Column/\U1 b.Rows x.IntoColumn:=by
 unfold cA at hv
 cases hq:ZZ d x.Name with
 |none=>rw[hq]at hv;cases hv
 |some a =>
  cases hq2:ZZ d x.Into with
  |none=>rw[hq,hq2]at hv;cases hv
  |some b =>
   rw[hq,hq2]at hv;simp only[Yf]at hv
   grind [ZT2,b8]
def UW(A B:V2)(u:Nat):V2:=((List.range' u (10-u)).filter λv:Nat=>has A (v:Int) && !(has B (v:Int))).map λn:Nat=>(n:Int)
def ZrR{A B:V2}{u:Nat}(h:u<10):UW A B u=(if(has A (u:Int) && !(has B (u:Int)))=true then[(u:Int)]else[])++UW A B (u+1):=by
 unfold UW;rw[show 10-u=(10-(u+1))+1 by omega,Fs,xH];split<;>simp
theorem ZGh{xs:V2}{v:Int}:has xs v=true↔v∈xs:=by simp[has]
def ZT4{A B:V2}(hA:∀v∈A,0<=v/\v<=9):UW A B 0=[]↔uR A B=[]:=by
 constructor
 .intro h;unfold uR;rw[cR];intro v hv hb;have h1:=hA v hv;unfold UW at h;rw[List.map_eq_nil_iff,cR]at h;refine h v.toNat (by simp[List.mem_range'];omega) ?_;rw[show((v.toNat:Nat):Int)=v by omega,ZGh.2 hv,Yk];exact hb
 .intro h;unfold UW;rw[List.map_eq_nil_iff,cR];intro n _ hb;simp only[Yf]at hb;unfold uR at h
  grind [List.filter_eq_nil_iff,ZGh]
def ZrS(r:V2)(rows:XS)(c v:Int):has (Xm (r::rows) c) v=(decide (r.getD c.toNat 0=v) || has (Xm rows c) v):=by
 simp only[has,Xm,Yv,HB]
 grind
theorem AbA{x:Z2}(a:KI)(b:Int)(a':KI)(b':Int)(c:V2)(v:Int)(one:Bool)(r:XR)(hr:(if(one && !(false))=true then c.length+1<=68719476736/\KG x (c++[v]) a b a' b' (w (v+1))=some r else KG x c a b a' b' (w (v+1))=some r)):SB x c a b a' b' v one false 0=some r:=by
 grind [Xt.1.2.2.2.2]
theorem AbB{x:Z2}(a:KI)(b:Int)(a':KI)(b':Int)(c:V2)(v:Int)(cc:Bool)(r:XR)(hr:SB x c a b a' b' v false cc 0=some r):iF x c a b a' b' v false cc 0=some r:=by
 simp_all [Xt.1.2.1.1]
theorem AbC{x:Z2}(a:KI)(b:Int)(a':KI)(b':Int):∀u,u<=10->∀out:V2,out.length<=u->KG x out a b a' b' u=some (.own 0,[.arr 3 1 true ((out++UW (Xm ([]:XS) x.Column) (Xm ([]:XS) x.IntoColumn) u).map ic)]):=by
 refine down _ ?_ ?_
 .intro out ho;apply Xt.1.1.1.1;rw[Ao];simp[UW]
 .intro u hu ih out ho;have step:∀r,(if(false && !(false))=true then out.length+1<=68719476736/\KG x (out++[(u:Int)]) a b a' b' (w ((u:Int)+1))=some r else KG x out a b a' b' (w ((u:Int)+1))=some r)->KG x out a b a' b' u=some r:=by
   grind [Xt.1.1.1.1,AbA,AbB]
  rw[ZrR hu,show w ((u:Int)+1)=((u+1:Nat):Int)from wS hu E]at *
  have e1:has (Xm ([]:XS) x.Column) (u:Int)=false:=rfl
  grind
def uS{x:Z2}{B:XS}(hB:U1 B x.IntoColumn)(a:KI)(b:Int)(a':KI)(b':Int)(c:V2)(v:Int)(cc:Bool)(r:XR):∀i,i<=B.length->∀two:Bool,(if(cc && !(two || has (Xm (B.drop i) x.IntoColumn) v))=true then c.length+1<=68719476736/\KH x (c++[v]) a b a' b' B (w (v+1))=some r else KH x c a b a' b' B (w (v+1))=some r)->SC x c a b a' b' B v cc two i=some r:=by
 have h8:=hB.len;refine down _ ?_ ?_
 .intro two hr;apply Xt.2.1.1.1;rw[Ao];rw[Yl,show has (Xm [] x.IntoColumn) v=false from rfl,Bool.or_false]at hr
  grind
 .intro i hi ih two hr;obtain⟨⟨h1,h2⟩,_⟩:=hB.row _ (Ye hi);apply Xt.2.1.1.1;rw[An,wS hi E];rw[Yg hi,ZrS]at hr;rcases tf two with e|e
  .rw[Yb (by rw[e];simp)];refine⟨E,_,gE hi,hB.c0,_,gD h1,ih _ ?_⟩
   simp_all
  .simp_all
def uT{x:Z2}{B:XS}(hB:U1 B x.IntoColumn)(a:KI)(b:Int)(a':KI)(b':Int)(c:V2)(v:Int)(cc:Bool)(r:XR)(hr:SC x c a b a' b' B v false cc 0=some r):iG x c a b a' b' B v false cc 0=some r:=by
 simp_all [Xt.1.2.1.2]
theorem uU{x:Z2}{B:XS}(hB:U1 B x.IntoColumn)(a:KI)(b:Int)(a':KI)(b':Int):∀u,u<=10->∀out:V2,out.length<=u->KH x out a b a' b' B u=some (.own 0,[.arr 3 1 true ((out++UW (Xm ([]:XS) x.Column) (Xm B x.IntoColumn) u).map ic)]):=by
 refine down _ ?_ ?_
 .intro out ho;apply Xt.1.1.1.2;rw[Ao];simp[UW]
 .intro u hu ih out ho;have step:∀r,(if(false && !(has (Xm B x.IntoColumn) (u:Int)))=true then out.length+1<=68719476736/\KH x (out++[(u:Int)]) a b a' b' B (w ((u:Int)+1))=some r else KH x out a b a' b' B (w ((u:Int)+1))=some r)->KH x out a b a' b' B u=some r:=by
   intro r hr;apply Xt.1.1.1.2;rw[An];have q1:=uS hB a b a' b' out u (false) r 0 (Yc _) false (by simpa using hr)
   simp_all [uT]
  rw[ZrR hu,show w ((u:Int)+1)=((u+1:Nat):Int)from wS hu E]at *
  have e1:has (Xm ([]:XS) x.Column) (u:Int)=false:=rfl
  grind
def uV{x:Z2}{A:XS}(hA:U1 A x.Column)(a:KI)(b:Int)(a':KI)(b':Int)(c:V2)(v:Int)(one:Bool)(r:XR)(hr:(if(one && !(false))=true then c.length+1<=68719476736/\KJ x (c++[v]) a b A a' b' (w (v+1))=some r else KJ x c a b A a' b' (w (v+1))=some r)):SD x c a b A a' b' v one false 0=some r:=by
 grind [Xt.2.1.1.2]
def uW{x:Z2}{A:XS}(hA:U1 A x.Column)(a:KI)(b:Int)(a':KI)(b':Int)(c:V2)(v:Int)(cc:Bool)(r:XR):∀i,i<=A.length->∀one:Bool,SD x c a b A a' b' v (one || has (Xm (A.drop i) x.Column) v) cc 0=some r->iH x c a b A a' b' v one cc i=some r:=by
 have h8:=hA.len;refine down _ ?_ ?_
 .intro one hr;apply Xt.1.2.2.1;rw[Ao];rw[Yl,show has (Xm [] x.Column) v=false from rfl,Bool.or_false]at hr;exact hr
 .intro i hi ih one hr;obtain⟨⟨h1,h2⟩,_⟩:=hA.row _ (Ye hi);apply Xt.1.2.2.1;rw[An,wS hi E];rw[Yg hi,ZrS]at hr;rcases tf one with e|e
  .rw[Yb (by rw[e];simp)];refine⟨E,_,gE hi,hA.c0,_,gD h1,ih _ ?_⟩
   simp_all
  .simp_all
theorem uX{x:Z2}{A:XS}(hA:U1 A x.Column)(a:KI)(b:Int)(a':KI)(b':Int):∀u,u<=10->∀out:V2,out.length<=u->KJ x out a b A a' b' u=some (.own 0,[.arr 3 1 true ((out++UW (Xm A x.Column) (Xm ([]:XS) x.IntoColumn) u).map ic)]):=by
 refine down _ ?_ ?_
 .intro out ho;apply Xt.1.1.2.1;rw[Ao];simp[UW]
 .intro u hu ih out ho;have step:∀r,(if(has (Xm A x.Column) (u:Int) && !(false))=true then out.length+1<=68719476736/\KJ x (out++[(u:Int)]) a b A a' b' (w ((u:Int)+1))=some r else KJ x out a b A a' b' (w ((u:Int)+1))=some r)->KJ x out a b A a' b' u=some r:=by
   intro r hr;apply Xt.1.1.2.1;rw[An];have q1:=uV hA a b a' b' out u (has (Xm A x.Column) (u:Int)) r (by simpa using hr);exact uW hA a b a' b' out u false r 0 (Yc _) false (by simpa using q1)
  rw[ZrR hu,show w ((u:Int)+1)=((u+1:Nat):Int)from wS hu E]at *
  have e1:has (Xm A x.Column) (u:Int)=has (Xm A x.Column) (u:Int):=rfl;have e2:has (Xm ([]:XS) x.IntoColumn) (u:Int)=false:=rfl
  grind
def uY{x:Z2}{A:XS}(hA:U1 A x.Column){B:XS}(hB:U1 B x.IntoColumn)(a:KI)(b:Int)(a':KI)(b':Int)(c:V2)(v:Int)(cc:Bool)(r:XR):∀i,i<=B.length->∀two:Bool,(if(cc && !(two || has (Xm (B.drop i) x.IntoColumn) v))=true then c.length+1<=68719476736/\KK x (c++[v]) a b A a' b' B (w (v+1))=some r else KK x c a b A a' b' B (w (v+1))=some r)->SE x c a b A a' b' B v cc two i=some r:=by
 have h8:=hB.len;refine down _ ?_ ?_
 .intro two hr;apply Xt.2.1.2.1;rw[Ao];rw[Yl,show has (Xm [] x.IntoColumn) v=false from rfl,Bool.or_false]at hr
  grind
 .intro i hi ih two hr;obtain⟨⟨h1,h2⟩,_⟩:=hB.row _ (Ye hi);apply Xt.2.1.2.1;rw[An,wS hi E];rw[Yg hi,ZrS]at hr;rcases tf two with e|e
  .rw[Yb (by rw[e];simp)];refine⟨E,_,gE hi,hB.c0,_,gD h1,ih _ ?_⟩
   simp_all
  .simp_all
def uZ{x:Z2}{A:XS}(hA:U1 A x.Column){B:XS}(hB:U1 B x.IntoColumn)(a:KI)(b:Int)(a':KI)(b':Int)(c:V2)(v:Int)(cc:Bool)(r:XR):∀i,i<=A.length->∀one:Bool,SE x c a b A a' b' B v (one || has (Xm (A.drop i) x.Column) v) cc 0=some r->iI x c a b A a' b' B v one cc i=some r:=by
 have h8:=hA.len;refine down _ ?_ ?_
 .intro one hr;apply Xt.1.2.2.2.1;rw[Ao];rw[Yl,show has (Xm [] x.Column) v=false from rfl,Bool.or_false]at hr;exact hr
 .intro i hi ih one hr;obtain⟨⟨h1,h2⟩,_⟩:=hA.row _ (Ye hi);apply Xt.1.2.2.2.1;rw[An,wS hi E];rw[Yg hi,ZrS]at hr;rcases tf one with e|e
  .rw[Yb (by rw[e];simp)];refine⟨E,_,gE hi,hA.c0,_,gD h1,ih _ ?_⟩
   simp_all
  .simp_all
def vA{x:Z2}{A:XS}(hA:U1 A x.Column){B:XS}(hB:U1 B x.IntoColumn)(a:KI)(b:Int)(a':KI)(b':Int):∀u,u<=10->∀out:V2,out.length<=u->KK x out a b A a' b' B u=some (.own 0,[.arr 3 1 true ((out++UW (Xm A x.Column) (Xm B x.IntoColumn) u).map ic)]):=by
 refine down _ ?_ ?_
 .intro out ho;apply Xt.1.1.2.2;rw[Ao];simp[UW]
 .intro u hu ih out ho;have step:∀r,(if(has (Xm A x.Column) (u:Int) && !(has (Xm B x.IntoColumn) (u:Int)))=true then out.length+1<=68719476736/\KK x (out++[(u:Int)]) a b A a' b' B (w ((u:Int)+1))=some r else KK x out a b A a' b' B (w ((u:Int)+1))=some r)->KK x out a b A a' b' B u=some r:=by
   intro r hr;apply Xt.1.1.2.2;rw[An];have q1:=uY hA hB a b a' b' out u (has (Xm A x.Column) (u:Int)) r 0 (Yc _) false (by simpa using hr);exact uZ hA hB a b a' b' out u false r 0 (Yc _) false (by simpa using q1)
  rw[ZrR hu,show w ((u:Int)+1)=((u+1:Nat):Int)from wS hu E]at *
  grind
def ZGi{d:Zj}(h:BA d)(x:Z2):SF d x=some (Bo (cC d x),[]):=by
 refine Xt.2.2.1.1 _ _ _ ⟨_,ZGg h x,?_⟩;unfold cC;rcases tf (cA d x)with hv|hv
 .rw[hv];rfl
 obtain⟨a,b,h1,h2,hA,hB⟩:=PO hv;rw[hv,Ya rfl,Yk,h1,h2];have l1:=G6 d h x.Name;have l2:=G6 d h x.Into;rw[h1]at l1;rw[h2]at l2;simp only[QK]at l1 l2;refine⟨UW (Xm a.Rows x.Column) (Xm b.Rows x.IntoColumn) 0,Xt.2.1.2.2 _ _ _ ⟨_,ZGg h x,?_⟩,?_⟩
 .rw[hv,Ya rfl];by_cases e1:a.Rows=[]
  .grind [AbC,uU]
  .rw[Yb e1]at l1;by_cases e2:b.Rows=[]
   .grind [uX]
   .rw[Yb e2]at l2;exact .inr ⟨_,_,_,l1,.inr ⟨_,_,_,l2,vA hA hB _ _ _ _ 0 E [] Z⟩⟩
 .have:=ZT4 (B:=Xm b.Rows x.IntoColumn) (ZT3 hA);by_cases e:uR (Xm a.Rows x.Column) (Xm b.Rows x.IntoColumn)=[]
  .rw[this.2 e];simp[e]
  .simp_all
noncomputable def ZrT(d:Zj)(fs:List Z9)(xs:List Z2):Bool:=fs.all (uQ d) && xs.all (cC d) && (decide (fs.length<=8) && decide (xs.length<=8))
abbrev cD(fs:List Z9):Prop:=Le fs/\∀f∈fs,f.From.length<=4294967296
def ZT5{d:Zj}(h:BA d)(xs:List Z2)(hx:Le xs):∀i,i<=xs.length->iT d xs i=some (Bo ((xs.drop i).all (cC d)),[]):=by
 refine down _ ?_ ?_
 .apply XK.1.2.2.2.1;simp
 .intro i hi ih;apply XK.1.2.2.2.1;rw[An,wS hi hx,Yg hi,Y6];refine⟨E,_,gE hi,_,ZGi h _,?_⟩
  simp_all
def Z3L{d:Zj}(h:BA d){fs:List Z9}(hf:cD fs){xs:List Z2}(hx:Le xs):SJ d fs xs=some (Bo (ZrT d fs xs),[]):=by
 have main:∀i,i<=fs.length->iS d fs xs i=some (Bo ((fs.drop i).all (uQ d) && xs.all (cC d)),[]):=by
  refine down _ ?_ ?_
  .apply XK.1.2.2.1;rw[Ao,Yl];simpa using ZT5 h xs hx 0 (Yc _)
  .intro i hi ih;apply XK.1.2.2.1;rw[An,wS hi hf.1,Yg hi,Y6];refine⟨E,_,gE hi,_,ZGf h _ (hf.2 _ (Ye hi)),?_⟩
   simp_all
 apply XK.1.2.2.2.2;unfold ZrT
 grind
structure Qt (s:Zs):Prop where
 d:BA s.Zj
 k:LeK s.ZM
 f:cD s.Dependencies
 x:Le s.Inclusions
noncomputable def PP(s:Zs):Bool:=WC s.Zj && Am s.ZM.Version 1 999 && decide (s.Zj.Tables.map ZJ=s.ZM.Tables) && ZrT s.Zj s.Dependencies s.Inclusions
def ZGj{d:Zj}(hv:WC d=true):(d.Tables.map ZJ).length<=4294967296/\∀s∈d.Tables.map ZJ,Em s:=by
 have h6:=Z3J hv;refine⟨by simp;omega,λs hs=>?_⟩;obtain⟨t,ht,rfl⟩:=Yn.1 hs;have hT:=QJ hv ht;have h7:=bY (VB hT);have h8:=Qn hT;refine⟨by simp[ZJ];omega,λg hg=>?_⟩;obtain⟨c,hc,rfl⟩:=Yn.1 hg;have hc3:=(Z3F (VB hT) c hc).1;have hg:=Z3G t.Rows c;refine⟨by simp only[grp];omega,⟨by simp only[grp];omega,λr hr=>?_⟩,by simp only[grp,Lp,Y1];omega⟩;have:=ZFS hr;omega
def ZT6{s:Zs}(h:Qt s):Zom s=some (Bo (PP s),[]):=by
 have hb:=ZGb h.d s.ZM.Version;refine X8.1.2.1.2 _ _ ⟨_,_,hb,?_⟩;unfold PP;rcases tf (WC s.Zj && Am s.ZM.Version 1 999)with e|e
 .simp[e]
 rw[e,Ya rfl,Yk];have hv:WC s.Zj=true:=by simp only[Yf]at e;exact e.1
 have c:bZ s.Zj s.ZM.Version=⟨s.ZM.Version,s.Zj.Tables.map ZJ⟩:=by unfold bZ;rw[Ya e]
 rw[c];refine⟨_,ZTx _ _ _ (ZGj hv) h.k,?_⟩;have q:ZrQ s.ZM.Version (s.Zj.Tables.map ZJ) s.ZM=decide (s.Zj.Tables.map ZJ=s.ZM.Tables):=by simp[ZrQ]
 rw[q];rcases tf (decide (s.Zj.Tables.map ZJ=s.ZM.Tables))with e2|e2
 .rw[e2];simp
 .rw[e2,Ya rfl];exact⟨_,Z3L h.d h.f h.x,Z⟩
abbrev Lf{α:Type}(xs:List α):Prop:=xs.length<=4294967296
abbrev LfT(t:Zl):Prop:=Lf t.Rows/\∀r∈t.Rows,Lf r
abbrev LfD(d:Zj):Prop:=Lf d.Tables/\∀t∈d.Tables,LfT t
abbrev dbR(d:Zj):XR:=(.agg [.own 0],[.arr 112 3 true (d.Tables.map Zl.c)])
theorem Lr{α:Type}{xs:List α}{i:Nat}(h:i<xs.length):xs.take i++[xs[i]]=xs.take (i+1):=(Yx h).symm
theorem cE{α:Type}{xs:List α}(h:0<xs.length):[xs[0]]=xs.take 1:=by
 rw[<-Lr h];rfl
theorem DU:w (0+1)=((1:Nat):Int):=by decide
theorem tkl{α:Type}{xs:List α}{i:Nat}(h:i<xs.length)(hl:xs.length<=4294967296):(xs.take i).length+1<=68719476736:=by
 grind
theorem Ls{α:Type}{xs:List α}(h:xs.length<=4294967296):xs.length<=68719476736:=by omega
def AbD(t:Zl)(h:LfT t)(a:KI)(b:Int):∀i,i<=t.Rows.length->Su t a b t.Name t.Arity (t.Rows.take i) i=some (.agg [.t (.str t.Name),I t.Arity,.own 0],[.arr 38 1 true (t.Rows.map Ae)]):=by
 have hl:=h.1;refine down _ ?_ ?_
 .simp[Xg.2.1.2.2,Yw]
 .grind [Xg.2.1.2.2,wS,Lr,gE,Ls,List.getElem_mem]
abbrev s4R(t:Zl):XR:=if t.Rows=[]then(.agg [.t (.str t.Name),I t.Arity,.t .nil],[])else(.agg [.t (.str t.Name),I t.Arity,.own 0],[.arr 38 1 true (t.Rows.map Ae)])
def vB(t:Zl)(h:LfT t):KF t=some (s4R t):=by
 refine Xg.2.2.1.1 _ _ (Xg.2.1.2.1 _ _ _ _ _ _ _ ?_);by_cases e:t.Rows=[]
 .simp_all
 .have h0:0<t.Rows.length:=CE.2 e;rw[An,DU];have:=AbD t h ⟨#[]⟩ 0 1 h0;rw[<-cE h0]at this
  grind
theorem tE(t:Zl)(h:t.Rows=[]):(⟨t.Name,t.Arity,[]⟩:Zl)=t:=Zl.ext rfl rfl h.symm
def AbE(d:Zj)(h:LfD d):∀i,i<=d.Tables.length->Mz d (d.Tables.take i) i=some (dbR d):=by
 have hl:=h.1;refine down _ ?_ ?_
 .apply XK.2.1.1.2;simp
 .intro i hi ih;apply XK.2.1.1.2;rw[An,wS hi E];rw[<-Lr hi]at ih;have s:=vB _ (h.2 _ (Ye hi));refine⟨E,_,gE hi,?_⟩;by_cases e:d.Tables[i].Rows=[]
  .grind [tkl,tE]
  .rw[s4R,Yb e]at s;exact .inr ⟨_,_,_,s,tkl hi hl,ih⟩
def ZT7(d:Zj)(h:LfD d):ZnO d=some (dbR d):=by
 refine XK.2.1.2.1 _ _ (XK.2.1.1.1 _ _ _ ?_);by_cases e:d.Tables=[]
 .simp_all
 .have h0:0<d.Tables.length:=CE.2 e;rw[An,DU];have:=AbE d h 1 h0;rw[<-cE h0]at this;have s:=vB _ (h.2 _ (Ye h0));refine⟨E,_,gE (i:=0) h0,?_⟩;by_cases e:d.Tables[0].Rows=[]
  .grind [tE]
  .rw[s4R,Yb e]at s;exact .inr ⟨_,_,_,s,this⟩
theorem vC(s:Z1)(h:Em s)(a:KI)(b c:Int)(r:XR){i:Nat}(hi:i<s.Groups.length)(cc:Gy s a b c s.Name s.Arity s.RowCount (s.Groups.take (i+1)) ((i+1:Nat):Int)=some r) :
  (∀k,k<=s.Groups[i].Values.length->jS s a b c s.Name s.Arity s.RowCount (s.Groups.take i) s.Groups[i].Columns (s.Groups[i].Values.take k) s.Groups[i].Counts i k=some r):=by
 have hl:=h.1;have g:=h.2 _ (Ye hi);have hv:=g.2.1.1;refine down _ ?_ ?_
 .refine W9.1.2.1.2 _ _ _ _ _ _ _ _ _ _ _ _ _ _ ⟨E,_,gE hi,?_⟩;rw[Ao,Yw,wS hi E];rw[<-Lr hi]at cc;exact⟨tkl hi hl,cc⟩
 .intro k hk ih;refine W9.1.2.1.2 _ _ _ _ _ _ _ _ _ _ _ _ _ _ ⟨E,_,gE hi,?_⟩;rw[An,wS hk E];rw[<-Lr hk]at ih
  grind
def PR(s:Z1)(h:Em s)(a:KI)(b c:Int):∀i,i<=s.Groups.length->Gy s a b c s.Name s.Arity s.RowCount (s.Groups.take i) i=some (.agg [.t (.str s.Name),I s.Arity,I s.RowCount,.own 0],[.arr 261 3 true (s.Groups.map ZA.c)]):=by
 have hl:=h.1;refine down _ ?_ ?_
 .simp[W9.1.1.2.2,Yw]
 .intro i hi ih;have g:=h.2 _ (Ye hi);have hv:=g.2.1.1;apply W9.1.1.2.2;rw[An];refine⟨E,_,gE hi,Ls g.1,Ls g.2.2,W9.1.2.1.1 _ _ _ _ _ _ _ _ _ _ _ _ _ ⟨E,_,gE hi,?_⟩⟩;by_cases e:s.Groups[i].Values=[]
  .rw[Yb (by rw[e];simp),wS hi E];rw[<-Lr hi]at ih;refine⟨tkl hi hl,?_⟩;rw[<-ih];congr 3;exact ZA.ext rfl e.symm rfl
  .grind [List.length_pos_iff,DU,vC,cE,gE,Ls]
theorem PS(s:Z1)(h:Em s)(r:XR)(hi:0<s.Groups.length)(c:Gy s ⟨#[]⟩ 0 0 s.Name s.Arity s.RowCount (s.Groups.take 1) ((1:Nat):Int)=some r) :
  ∀k,k<=s.Groups[0].Values.length->jQ s ⟨#[]⟩ 0 0 s.Name s.Arity s.RowCount s.Groups[0].Columns (s.Groups[0].Values.take k) s.Groups[0].Counts 0 k=some r:=by
 have hl:=h.1;have g:=h.2 _ (Ye hi);have hv:=g.2.1.1;refine down _ ?_ ?_
 .refine W9.1.1.2.1 _ _ _ _ _ _ _ _ _ _ _ _ _ ⟨E,_,gE (i:=0) hi,?_⟩;rw[Ao,Yw,DU];rw[<-cE hi]at c;exact c
 .grind [W9.1.1.2.1,gE,wS,Lr,Ls,List.getElem_mem]
def vD(s:Z1)(h:Em s):Zos s=some (.agg [.t (.str s.Name),I s.Arity,I s.RowCount,.own 0],[.arr 261 3 true (s.Groups.map ZA.c)]):=by
 have hl:=h.1;refine W9.1.2.2.1 _ _ (W9.1.1.1.1 _ _ _ _ _ _ _ _ _ ?_);by_cases e0:s.Groups=[]
 .simp_all
 .have hi:0<s.Groups.length:=CE.2 e0;have g:=h.2 _ (Ye hi);have ih:=PR s h ⟨#[]⟩ 0 0 1 hi;rw[An];refine⟨E,_,gE (i:=0) hi,Ls g.1,Ls g.2.2,W9.1.1.1.2 _ _ _ _ _ _ _ _ _ _ _ _ ⟨E,_,gE (i:=0) hi,?_⟩⟩;by_cases e:s.Groups[0].Values=[]
  .rw[Yb (by rw[e];simp),DU];rw[<-cE hi]at ih;rw[<-ih];congr 2;exact ZA.ext rfl e.symm rfl
  .grind [List.length_pos_iff,DU,PS,cE,gE,Ls]
