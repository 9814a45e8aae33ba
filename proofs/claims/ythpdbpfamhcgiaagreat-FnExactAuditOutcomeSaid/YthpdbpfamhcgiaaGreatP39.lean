/-
  Parts of the proofs for this seat: GF GH NG.
-/
import Derived.Test.YthpdbpfamhcgiaaGreatP37
import Derived.Test.YthpdbpfamhcgiaaGreatP38
set_option linter.all false
set_option maxRecDepth 100000
set_option maxHeartbeats 4000000
namespace Go.Proofs.YthpdbpfamhcgiaaGreat
open Go.AM
def ZaX(d:Zp)(x:Z7):Bool:=match X7 d x.Zq,X7 d x.Vr with
 |some a,some b=>inR x.Xu 0 (a.Zu-1) && inR x.XC 0 (b.Zu-1)
 |_,_=>false
def ZCy{d:Zp}(h:LeD d)(x:Z7):ZiM d x=some (Bo (ZaX d x),[]):=by
 have h1:=ZaF d h x.Zq;have h2:=ZaF d h x.Vr;apply Uc.1.2.2.1;unfold ZaX
 cases hq:X7 d x.Zq with
 |none =>
  rw[hq]at h1
  cases hq2:X7 d x.Vr with
  |none=>rw[hq2]at h2;exact .inl ⟨_,_,h1,.inl ⟨_,_,h2,rfl⟩⟩
  |some b=>rw[hq2]at h2;exact .inl ⟨_,_,h1,.inr ⟨_,_,_,h2,rfl⟩⟩
 |some a =>
  rw[hq]at h1
  cases hq2:X7 d x.Vr with
  |none=>rw[hq2]at h2;exact .inr ⟨_,_,_,h1,.inl ⟨_,_,h2,rfl⟩⟩
  |some b =>
   rw[hq2]at h2;refine .inr ⟨_,_,_,h1,.inr ⟨_,_,_,h2,_,X0 _ _ _,?_⟩⟩;rw[w1 (Jt (Zco hq)).2,w1 (Jt (Zco hq2)).2]
   simp_all
def ZCz{d:Zp}(h:LeD d)(x:Z7):Zkp d x=some (Bo (ZaX d x),[]):=by
 have h1:=ZaG d h x.Zq;have h2:=ZaG d h x.Vr;apply WA.1.1.1.1;unfold ZaX
 cases hq:X7 d x.Zq with
 |none =>
  rw[hq]at h1
  cases hq2:X7 d x.Vr with
  |none=>rw[hq2]at h2;exact .inl ⟨_,_,_,h1,.inl ⟨_,_,_,h2,by simp⟩⟩
  |some b =>
   rw[hq2]at h2;simp only[QQ]at h2;by_cases e2:b.Rows=[]
   .rw[Ya e2]at h2;exact .inl ⟨_,_,_,h1,.inl ⟨_,_,_,h2,by simp⟩⟩
   .rw[Yb e2]at h2;exact .inl ⟨_,_,_,h1,.inr ⟨_,_,_,h2,by simp⟩⟩
 |some a =>
  rw[hq]at h1;simp only[QQ]at h1;have wa:=w1 (Jt (Zco hq)).2
  cases hq2:X7 d x.Vr with
  |none =>
   rw[hq2]at h2;by_cases e1:a.Rows=[]
   .rw[Ya e1]at h1;exact .inl ⟨_,_,_,h1,.inl ⟨_,_,_,h2,by simp⟩⟩
   .rw[Yb e1]at h1;exact .inr ⟨_,_,_,h1,.inl ⟨_,_,_,h2,by simp⟩⟩
  |some b =>
   rw[hq2]at h2;simp only[QQ]at h2;have wb:=w1 (Jt (Zco hq2)).2;by_cases e1:a.Rows=[]
   .rw[Ya e1]at h1;by_cases e2:b.Rows=[]
    .rw[Ya e2]at h2;refine .inl ⟨_,_,_,h1,.inl ⟨_,_,_,h2,?_⟩⟩
     simp_all
    .rw[Yb e2]at h2;refine .inl ⟨_,_,_,h1,.inr ⟨_,_,_,h2,?_⟩⟩
     simp_all
   .rw[Yb e1]at h1;by_cases e2:b.Rows=[]
    .rw[Ya e2]at h2;refine .inr ⟨_,_,_,h1,.inl ⟨_,_,_,h2,?_⟩⟩
     simp_all
    .rw[Yb e2]at h2;refine .inr ⟨_,_,_,h1,.inr ⟨_,_,_,h2,_,Xx _ _ _,?_⟩⟩
     simp_all
def Xi(rows:V4)(c:Int):V6:=rows.map λr=>r.getD c.toNat 0
structure VQ (rows:V4) (c:Int):Prop where
 len:rows.length<=8
 row:∀r∈rows,(c.toNat<r.length/\r.length<=3)/\∀v∈r,0<=v/\v<=9
 c0:0<=c
theorem ZQR{t:Zt}(hv:XU t=true){c:Int}(hc:inR c 0 (t.Zu-1)=true):VQ t.Rows c:=by
 obtain⟨hR,hA⟩:=Jt hv;have h2:0<=c/\c<=t.Zu-1:=by simpa[inR]using hc
 refine⟨hR.len,λr hr=>⟨?_,λv hx=>?_⟩,h2.1⟩
 .have:=hR.row r hr;omega
 .unfold XU at hv;simp only[Yg]at hv;have h1:=Yl.1 hv.2.1 r hr;unfold rwB at h1;simp only[Yg]at h1;simpa[dig,inR]using Yl.1 h1.1 v hx
def ZQS{rows:V4}{c:Int}(h:VQ rows c):∀v∈Xi rows c,0<=v/\v<=9:=by
 intro v hv;obtain⟨r,hr,rfl⟩:=Yt.1 hv;obtain⟨⟨h1,_⟩,h2⟩:=h.row r hr
 simp_all
def UI(A B:V6):V6:=A.filter λv=>!(has B v)
theorem ZC0:∀{l:V6},XM l=[]->l=[]
 |[],_=>rfl
 |[a],h=>by simp[XM]at h
 |a::b::l,h=>by
  unfold XM at h;split at h
  .have:=ZC0 h;cases this
  .cases h
def ZQT(l:V6):((XM (Xg l)).length=0)↔l=[]:=by
 have hl:(Xg l).length=l.length:=(Ydg _ _).length_eq;constructor
 .grind [ZC0,List.eq_nil_of_length_eq_zero]
 .intro h;subst h;simp[Xg,XM]
theorem x_fin{out:V6}(h:out.length<=4096):KN out=some (.tup [],[.arr 3 1 true ((Xg out).map ic)])/\Zb0 (Xg out)=some (.own 1,[.dead,.arr 3 1 true ((XM (Xg out)).map ic)]):=by
 have hl:(Xg out).length=out.length:=(Ydg _ _).length_eq;unfold KN Zb0
 simp_all [Z9Q,Z9R]
def ZQU{x:Z7}{A:V4}(hA:VQ A x.Xu)(WP:V6)(ht:WP.length<=4096):∀i,i<=A.length->Zfk x WP (UI (Xi (A.take i) x.Xu) WP) A A.length i=some (.own 0,[.arr 3 1 true ((XM (Xg (UI (Xi A x.Xu) WP))).map ic)]):=by
 have h8:=hA.len;have hml:∀i,(UI (Xi (A.take i) x.Xu) WP).length<=A.length:=λi=>by
  have:=Ycn (λv=>!(has WP v)) (Xi (A.take i) x.Xu);unfold UI;simp only[Xi,Y1,Ybo]at this|-;omega
 refine down _ ?_ ?_
 .grind [Uc.2.1.1,List.take_length,x_fin]
 .intro i hi ih;obtain⟨⟨h1,h2⟩,_⟩:=hA.row _ (Ye hi);apply Uc.2.1.1;rw[Ypx,wS hi (by omega)];refine⟨by omega,_,gE hi,hA.c0,_,gD h1,_,ZbP _ _ (by omega),?_⟩;have e:UI (Xi (A.take (i+1)) x.Xu) WP=UI (Xi (A.take i) x.Xu) WP++(if has WP (A[i].getD x.Xu.toNat 0)=true then[]else[A[i].getD x.Xu.toNat 0]):=by
   unfold UI Xi;rw[Yp hi,Y3,Yc2]
   grind
  grind
def ZQV{x:Z7}{A B:V4}(hA:VQ A x.Xu)(hB:VQ B x.XC)(a:YA)(b:Int):∀i,i<=B.length->ZiP x a b A (Xi (B.take i) x.XC) B B.length i=some (.own 0,[.arr 3 1 true ((XM (Xg (UI (Xi A x.Xu) (Xi B x.XC)))).map ic)]):=by
 have h8:=hB.len;refine down _ ?_ ?_
 .apply Uc.1.2.2.2;rw[Ynx,Y2];exact ZQU hA _ (by simp[Xi];omega) 0 (Yc _)
 .intro i hi ih;obtain⟨⟨h1,h2⟩,_⟩:=hB.row _ (Ye hi);apply Uc.1.2.2.2;rw[Ypx,wS hi (by omega)];rw[show Xi (B.take (i+1)) x.XC=Xi (B.take i) x.XC++[B[i].getD x.XC.toNat 0] by unfold Xi;rw[Yp hi,Y3];rfl]at ih;exact⟨by omega,_,gE hi,hB.c0,_,gD h1,by simp[Xi];omega,ih⟩
def ZaY(d:Zp)(x:Z7):Bool:=ZaX d x && (match X7 d x.Zq,X7 d x.Vr with
 |some a,some b=>(UI (Xi a.Rows x.Xu) (Xi b.Rows x.XC)).isEmpty
 |_,_=>true)
def ZC1{d:Zp}{x:Z7}(hv:ZaX d x=true):∃a b,X7 d x.Zq=some a/\X7 d x.Vr=some b/\VQ a.Rows x.Xu/\VQ b.Rows x.XC:=by
 unfold ZaX at hv
 cases hq:X7 d x.Zq with
 |none=>rw[hq]at hv;cases hv
 |some a =>
  cases hq2:X7 d x.Vr with
  |none=>rw[hq,hq2]at hv;cases hv
  |some b =>
   rw[hq,hq2]at hv;simp only[Yg]at hv
   grind [ZQR,Zco]
def ZQW{d:Zp}(h:LeD d)(x:Z7):Znv d x=some (Bo (ZaY d x),[]):=by
 refine Uc.2.1.2.2 _ _ _ ⟨_,ZCy h x,?_⟩;unfold ZaY;rcases tf (ZaX d x)with hv|hv
 .rw[hv];rfl
 obtain⟨a,b,h1,h2,hA,hB⟩:=ZC1 hv;rw[hv,Ya rfl,Yn,h1,h2];have l1:=ZaF d h x.Zq;have l2:=ZaF d h x.Vr;rw[h1]at l1;rw[h2]at l2;have hM:ZiN d x=some (.own 0,[.arr 3 1 true ((XM (Xg (UI (Xi a.Rows x.Xu) (Xi b.Rows x.XC)))).map ic)]):=by
  refine Uc.2.1.2.1 _ _ _ ⟨_,ZCy h x,?_⟩;rw[hv,Ya rfl];exact .inr ⟨_,_,_,l1,.inr ⟨_,_,_,l2,by simpa[Xi]using ZQV hA hB a.Zq a.Zu 0 (Yc _)⟩⟩
 refine .inr ⟨_,hM,?_⟩
 .have:=ZQT (UI (Xi a.Rows x.Xu) (Xi b.Rows x.XC));by_cases e:UI (Xi a.Rows x.Xu) (Xi b.Rows x.XC)=[]
  .simp[e,XM,Xg]
  .simp_all
def Qe(A B:V6)(u:Nat):V6:=((List.range' u (10-u)).filter λv:Nat=>has A (v:Int) && !(has B (v:Int))).map λn:Nat=>(n:Int)
def Zqq{A B:V6}{u:Nat}(h:u<10):Qe A B u=(if(has A (u:Int) && !(has B (u:Int)))=true then[(u:Int)]else[])++Qe A B (u+1):=by
 unfold Qe;rw[show 10-u=(10-(u+1))+1 by omega,Ybs,Yc7];split<;>simp
theorem ZC2{xs:V6}{v:Int}:has xs v=true↔v∈xs:=by simp[has]
def ZQX{A B:V6}(hA:∀v∈A,0<=v/\v<=9):Qe A B 0=[]↔UI A B=[]:=by
 constructor
 .intro h;unfold UI;rw[Ych];intro v hv hb;have h1:=hA v hv;unfold Qe at h;rw[List.map_eq_nil_iff,Ych]at h;refine h v.toNat (by simp[List.mem_range'];omega) ?_;rw[show((v.toNat:Nat):Int)=v by omega,ZC2.2 hv,Yn];exact hb
 .intro h;unfold Qe;rw[List.map_eq_nil_iff,Ych];intro n _ hb;simp only[Yg]at hb;unfold UI at h
  grind [List.filter_eq_nil_iff,ZC2]
def Zqr(r:V6)(rows:V4)(c v:Int):has (Xi (r::rows) c) v=(decide (r.getD c.toNat 0=v) || has (Xi rows c) v):=by
 simp only[has,Xi,Y0,Ydl]
 grind
theorem m_s1{x:Z7}(a:YA)(b:Int)(a':YA)(b':Int)(out:V6)(v:Int)(one:Bool)(r:V3)(hr:(if(one && !(false))=true then out.length+1<=68719476736/\KT x (out++[v]) a b a' b' (w (v+1))=some r else KT x out a b a' b' (w (v+1))=some r)):Zgc x out a b a' b' v one false 0=some r:=by
 grind [WA.2.1.1.1]
theorem m_s0{x:Z7}(a:YA)(b:Int)(a':YA)(b':Int)(out:V6)(v:Int)(c:Bool)(r:V3)(hr:Zgc x out a b a' b' v false c 0=some r):Zkt x out a b a' b' v false c 0=some r:=by
 simp_all [WA.1.2.1.2]
theorem m_s2{x:Z7}(a:YA)(b:Int)(a':YA)(b':Int):∀u,u<=10->∀out:V6,out.length<=u->KT x out a b a' b' u=some (.own 0,[.arr 3 1 true ((out++Qe (Xi ([]:V4) x.Xu) (Xi ([]:V4) x.XC) u).map ic)]):=by
 refine down _ ?_ ?_
 .intro out ho;apply WA.1.1.1.2;rw[Ynx];simp[Qe]
 .intro u hu ih out ho;have step:∀r,(if(false && !(false))=true then out.length+1<=68719476736/\KT x (out++[(u:Int)]) a b a' b' (w ((u:Int)+1))=some r else KT x out a b a' b' (w ((u:Int)+1))=some r)->KT x out a b a' b' u=some r:=by
   grind [WA.1.1.1.2,m_s1,m_s0]
  rw[Zqq hu,show w ((u:Int)+1)=((u+1:Nat):Int)from wS hu (by omega)]at *
  have e1:has (Xi ([]:V4) x.Xu) (u:Int)=false:=rfl
  grind
def m_s1a{x:Z7}{B:V4}(hB:VQ B x.XC)(a:YA)(b:Int)(a':YA)(b':Int)(out:V6)(v:Int)(c:Bool)(r:V3):∀i,i<=B.length->∀two:Bool,(if(c && !(two || has (Xi (B.drop i) x.XC) v))=true then out.length+1<=68719476736/\KU x (out++[v]) a b a' b' B (w (v+1))=some r else KU x out a b a' b' B (w (v+1))=some r)->Zgd x out a b a' b' B v c two i=some r:=by
 have h8:=hB.len;refine down _ ?_ ?_
 .intro two hr;apply WA.2.1.1.2;rw[Ynx];rw[Yk,show has (Xi [] x.XC) v=false from rfl,Bool.or_false]at hr
  grind
 .intro i hi ih two hr;obtain⟨⟨h1,h2⟩,_⟩:=hB.row _ (Ye hi);apply WA.2.1.1.2;rw[Ypx,wS hi (by omega)];rw[Yi hi,Zqr]at hr;rcases tf two with e|e
  .rw[Yb (by rw[e];simp)];refine⟨by omega,_,gE hi,hB.c0,_,gD h1,ih _ ?_⟩
   simp_all
  .simp_all
def m_s0a{x:Z7}{B:V4}(hB:VQ B x.XC)(a:YA)(b:Int)(a':YA)(b':Int)(out:V6)(v:Int)(c:Bool)(r:V3)(hr:Zgd x out a b a' b' B v false c 0=some r):Zku x out a b a' b' B v false c 0=some r:=by
 simp_all [WA.1.2.2.1]
theorem m_s2a{x:Z7}{B:V4}(hB:VQ B x.XC)(a:YA)(b:Int)(a':YA)(b':Int):∀u,u<=10->∀out:V6,out.length<=u->KU x out a b a' b' B u=some (.own 0,[.arr 3 1 true ((out++Qe (Xi ([]:V4) x.Xu) (Xi B x.XC) u).map ic)]):=by
 refine down _ ?_ ?_
 .intro out ho;apply WA.1.1.2.1;rw[Ynx];simp[Qe]
 .intro u hu ih out ho;have step:∀r,(if(false && !(has (Xi B x.XC) (u:Int)))=true then out.length+1<=68719476736/\KU x (out++[(u:Int)]) a b a' b' B (w ((u:Int)+1))=some r else KU x out a b a' b' B (w ((u:Int)+1))=some r)->KU x out a b a' b' B u=some r:=by
   intro r hr;apply WA.1.1.2.1;rw[Ypx];have q1:=m_s1a hB a b a' b' out u (false) r 0 (Yc _) false (by simpa using hr)
   simp_all [m_s0a]
  rw[Zqq hu,show w ((u:Int)+1)=((u+1:Nat):Int)from wS hu (by omega)]at *
  have e1:has (Xi ([]:V4) x.Xu) (u:Int)=false:=rfl
  grind
def m_s1b{x:Z7}{A:V4}(hA:VQ A x.Xu)(a:YA)(b:Int)(a':YA)(b':Int)(out:V6)(v:Int)(one:Bool)(r:V3)(hr:(if(one && !(false))=true then out.length+1<=68719476736/\KV x (out++[v]) a b A a' b' (w (v+1))=some r else KV x out a b A a' b' (w (v+1))=some r)):Zge x out a b A a' b' v one false 0=some r:=by
 grind [WA.2.1.2.1]
def m_s0b{x:Z7}{A:V4}(hA:VQ A x.Xu)(a:YA)(b:Int)(a':YA)(b':Int)(out:V6)(v:Int)(c:Bool)(r:V3):∀i,i<=A.length->∀one:Bool,Zge x out a b A a' b' v (one || has (Xi (A.drop i) x.Xu) v) c 0=some r->Zkv x out a b A a' b' v one c i=some r:=by
 have h8:=hA.len;refine down _ ?_ ?_
 .intro one hr;apply WA.1.2.2.2.1;rw[Ynx];rw[Yk,show has (Xi [] x.Xu) v=false from rfl,Bool.or_false]at hr;exact hr
 .intro i hi ih one hr;obtain⟨⟨h1,h2⟩,_⟩:=hA.row _ (Ye hi);apply WA.1.2.2.2.1;rw[Ypx,wS hi (by omega)];rw[Yi hi,Zqr]at hr;rcases tf one with e|e
  .rw[Yb (by rw[e];simp)];refine⟨by omega,_,gE hi,hA.c0,_,gD h1,ih _ ?_⟩
   simp_all
  .simp_all
theorem m_s2b{x:Z7}{A:V4}(hA:VQ A x.Xu)(a:YA)(b:Int)(a':YA)(b':Int):∀u,u<=10->∀out:V6,out.length<=u->KV x out a b A a' b' u=some (.own 0,[.arr 3 1 true ((out++Qe (Xi A x.Xu) (Xi ([]:V4) x.XC) u).map ic)]):=by
 refine down _ ?_ ?_
 .intro out ho;apply WA.1.1.2.2;rw[Ynx];simp[Qe]
 .intro u hu ih out ho;have step:∀r,(if(has (Xi A x.Xu) (u:Int) && !(false))=true then out.length+1<=68719476736/\KV x (out++[(u:Int)]) a b A a' b' (w ((u:Int)+1))=some r else KV x out a b A a' b' (w ((u:Int)+1))=some r)->KV x out a b A a' b' u=some r:=by
   intro r hr;apply WA.1.1.2.2;rw[Ypx];have q1:=m_s1b hA a b a' b' out u (has (Xi A x.Xu) (u:Int)) r (by simpa using hr);exact m_s0b hA a b a' b' out u false r 0 (Yc _) false (by simpa using q1)
  rw[Zqq hu,show w ((u:Int)+1)=((u+1:Nat):Int)from wS hu (by omega)]at *
  have e1:has (Xi A x.Xu) (u:Int)=has (Xi A x.Xu) (u:Int):=rfl;have e2:has (Xi ([]:V4) x.XC) (u:Int)=false:=rfl
  grind
def m_s1c{x:Z7}{A:V4}(hA:VQ A x.Xu){B:V4}(hB:VQ B x.XC)(a:YA)(b:Int)(a':YA)(b':Int)(out:V6)(v:Int)(c:Bool)(r:V3):∀i,i<=B.length->∀two:Bool,(if(c && !(two || has (Xi (B.drop i) x.XC) v))=true then out.length+1<=68719476736/\KW x (out++[v]) a b A a' b' B (w (v+1))=some r else KW x out a b A a' b' B (w (v+1))=some r)->Zgf x out a b A a' b' B v c two i=some r:=by
 have h8:=hB.len;refine down _ ?_ ?_
 .intro two hr;apply WA.2.1.2.2;rw[Ynx];rw[Yk,show has (Xi [] x.XC) v=false from rfl,Bool.or_false]at hr
  grind
 .intro i hi ih two hr;obtain⟨⟨h1,h2⟩,_⟩:=hB.row _ (Ye hi);apply WA.2.1.2.2;rw[Ypx,wS hi (by omega)];rw[Yi hi,Zqr]at hr;rcases tf two with e|e
  .rw[Yb (by rw[e];simp)];refine⟨by omega,_,gE hi,hB.c0,_,gD h1,ih _ ?_⟩
   simp_all
  .simp_all
def m_s0c{x:Z7}{A:V4}(hA:VQ A x.Xu){B:V4}(hB:VQ B x.XC)(a:YA)(b:Int)(a':YA)(b':Int)(out:V6)(v:Int)(c:Bool)(r:V3):∀i,i<=A.length->∀one:Bool,Zgf x out a b A a' b' B v (one || has (Xi (A.drop i) x.Xu) v) c 0=some r->Zkw x out a b A a' b' B v one c i=some r:=by
 have h8:=hA.len;refine down _ ?_ ?_
 .intro one hr;apply WA.1.2.2.2.2;rw[Ynx];rw[Yk,show has (Xi [] x.Xu) v=false from rfl,Bool.or_false]at hr;exact hr
 .intro i hi ih one hr;obtain⟨⟨h1,h2⟩,_⟩:=hA.row _ (Ye hi);apply WA.1.2.2.2.2;rw[Ypx,wS hi (by omega)];rw[Yi hi,Zqr]at hr;rcases tf one with e|e
  .rw[Yb (by rw[e];simp)];refine⟨by omega,_,gE hi,hA.c0,_,gD h1,ih _ ?_⟩
   simp_all
  .simp_all
def m_s2c{x:Z7}{A:V4}(hA:VQ A x.Xu){B:V4}(hB:VQ B x.XC)(a:YA)(b:Int)(a':YA)(b':Int):∀u,u<=10->∀out:V6,out.length<=u->KW x out a b A a' b' B u=some (.own 0,[.arr 3 1 true ((out++Qe (Xi A x.Xu) (Xi B x.XC) u).map ic)]):=by
 refine down _ ?_ ?_
 .intro out ho;apply WA.1.2.1.1;rw[Ynx];simp[Qe]
 .intro u hu ih out ho;have step:∀r,(if(has (Xi A x.Xu) (u:Int) && !(has (Xi B x.XC) (u:Int)))=true then out.length+1<=68719476736/\KW x (out++[(u:Int)]) a b A a' b' B (w ((u:Int)+1))=some r else KW x out a b A a' b' B (w ((u:Int)+1))=some r)->KW x out a b A a' b' B u=some r:=by
   intro r hr;apply WA.1.2.1.1;rw[Ypx];have q1:=m_s1c hA hB a b a' b' out u (has (Xi A x.Xu) (u:Int)) r 0 (Yc _) false (by simpa using hr);exact m_s0c hA hB a b a' b' out u false r 0 (Yc _) false (by simpa using q1)
  rw[Zqq hu,show w ((u:Int)+1)=((u+1:Nat):Int)from wS hu (by omega)]at *
  grind
def ZQY{d:Zp}(h:LeD d)(x:Z7):Zot d x=some (Bo (ZaY d x),[]):=by
 refine WA.2.2.1.2 _ _ _ ⟨_,ZCz h x,?_⟩;unfold ZaY;rcases tf (ZaX d x)with hv|hv
 .rw[hv];rfl
 obtain⟨a,b,h1,h2,hA,hB⟩:=ZC1 hv;rw[hv,Ya rfl,Yn,h1,h2];have l1:=ZaG d h x.Zq;have l2:=ZaG d h x.Vr;rw[h1]at l1;rw[h2]at l2;simp only[QQ]at l1 l2;refine⟨Qe (Xi a.Rows x.Xu) (Xi b.Rows x.XC) 0,WA.2.2.1.1 _ _ _ ⟨_,ZCz h x,?_⟩,?_⟩
 .rw[hv,Ya rfl];by_cases e1:a.Rows=[]
  .grind [m_s2,m_s2a]
  .rw[Yb e1]at l1;by_cases e2:b.Rows=[]
   .grind [m_s2b]
   .rw[Yb e2]at l2;exact .inr ⟨_,_,_,l1,.inr ⟨_,_,_,l2,m_s2c hA hB _ _ _ _ 0 (by omega) [] (by simp)⟩⟩
 .have:=ZQX (B:=Xi b.Rows x.XC) (ZQS hA);by_cases e:UI (Xi a.Rows x.Xu) (Xi b.Rows x.XC)=[]
  .rw[this.2 e];simp[e]
  .simp_all
noncomputable def ZlR(d:Zp)(fs:List ZA)(xs:List Z7):Bool:=fs.all (Zey d) && xs.all (ZaY d) && (decide (fs.length<=8) && decide (xs.length<=8))
abbrev LeF(fs:List ZA):Prop:=Le fs/\∀f∈fs,f.ZY.length<=4294967296
def ZQZ{d:Zp}(h:LeD d)(fs:List ZA)(xs:List Z7)(hx:Le xs):∀i,i<=xs.length->ZiT d fs xs xs xs.length i=some (Bo ((xs.drop i).all (ZaY d) && (decide (fs.length<=8) && decide (xs.length<=8))),[]):=by
 refine down _ ?_ ?_
 .apply Uc.2.2.2.1;rw[Ynx,Yk];by_cases e:fs.length<=8
  .rw[Ypx];simp[e];omega
  .grind
 .intro i hi ih;apply Uc.2.2.2.1;rw[Ypx,wS hi hx,Yi hi,Y5];refine⟨by omega,_,gE hi,_,ZQW h _,?_⟩
  simp_all
def ZRa{d:Zp}(h:LeD d){fs:List ZA}(hf:LeF fs){xs:List Z7}(hx:Le xs):ZiR d fs xs=some (Bo (ZlR d fs xs),[]):=by
 have main:∀i,i<=fs.length->ZiS d fs xs fs fs.length i=some (Bo ((fs.drop i).all (Zey d) && xs.all (ZaY d) && (decide (fs.length<=8) && decide (xs.length<=8))),[]):=by
  refine down _ ?_ ?_
  .apply Uc.2.2.1;rw[Ynx,Yk];simpa using ZQZ h fs xs hx 0 (Yc _)
  .intro i hi ih;apply Uc.2.2.1;rw[Ypx,wS hi hf.1,Yi hi,Y5];refine⟨by omega,_,gE hi,_,ZQP h _ (hf.2 _ (Ye hi)),?_⟩
   simp_all
 exact Uc.2.2.2.2 _ _ _ _ (by simpa[ZlR]using main 0 (Yc _))
def ZRb{d:Zp}(h:LeD d)(xs:List Z7)(hx:Le xs):∀i,i<=xs.length->Zk1 d xs i=some (Bo ((xs.drop i).all (ZaY d)),[]):=by
 refine down _ ?_ ?_
 .apply WA.2.2.2.2.1;simp
 .intro i hi ih;apply WA.2.2.2.2.1;rw[Ypx,wS hi hx,Yi hi,Y5];refine⟨by omega,_,gE hi,_,ZQY h _,?_⟩
  simp_all
def ZRc{d:Zp}(h:LeD d){fs:List ZA}(hf:LeF fs){xs:List Z7}(hx:Le xs):Zkz d fs xs=some (Bo (ZlR d fs xs),[]):=by
 have main:∀i,i<=fs.length->Zk0 d fs xs i=some (Bo ((fs.drop i).all (Zey d) && xs.all (ZaY d)),[]):=by
  refine down _ ?_ ?_
  .apply WA.2.2.2.1;rw[Ynx,Yk];simpa using ZRb h xs hx 0 (Yc _)
  .intro i hi ih;apply WA.2.2.2.1;rw[Ypx,wS hi hf.1,Yi hi,Y5];refine⟨by omega,_,gE hi,_,ZQQ h _ (hf.2 _ (Ye hi)),?_⟩
   simp_all
 apply WA.2.2.2.2.2;unfold ZlR
 grind
structure ZlS (s:Xr):Prop where
 d:LeD s.Zp
 k:LeK s.ZN
 f:LeF s.QD
 x:Le s.QE
noncomputable def Zez(s:Xr):Bool:=WK s.Zp && inR s.ZN.Xh 1 999 && decide (s.Zp.Z6.map Vq=s.ZN.Z6) && ZlR s.Zp s.QD s.QE
def ZC3{d:Zp}(hv:WK d=true):(d.Z6.map Vq).length<=4294967296/\∀s∈d.Z6.map Vq,LeS s:=by
 have h6:=Z1z hv;refine⟨by simp;omega,λs hs=>?_⟩;obtain⟨t,ht,rfl⟩:=Yt.1 hs;have hT:=Qx hv ht;have h7:=ZlP (K3 hT);have h8:=Zei hT;refine⟨by simp[Vq];omega,λg hg=>?_⟩;obtain⟨c,hc,rfl⟩:=Yt.1 hg;have hc3:=(ZQw (K3 hT) c hc).1;have hg:=ZCf t.Rows c;refine⟨by simp only[grp];omega,⟨by simp only[grp];omega,λr hr=>?_⟩,by simp only[grp,Zh7,Y1];omega⟩;have:=ZCh hr;omega
theorem ZRd{s:Xr}(h:ZlS s):Znw s=some (Bo (Zez s),[]):=by
 have hb:=ZQ8 h.d s.ZN.Xh;refine WQ.1.1.1.1 _ _ ⟨_,_,hb,?_⟩;unfold Zez;rcases tf (WK s.Zp && inR s.ZN.Xh 1 999)with e|e
 .simp[e]
 rw[e,Ya rfl,Yn];have hv:WK s.Zp=true:=by simp only[Yg]at e;exact e.1
 have c:Zew s.Zp s.ZN.Xh=⟨s.ZN.Xh,s.Zp.Z6.map Vq⟩:=by unfold Zew;rw[Ya e]
 rw[c];refine⟨_,ZQD _ _ _ (ZC3 hv),?_⟩;have q:Zcn s.ZN.Xh (s.Zp.Z6.map Vq) s.ZN=decide (s.Zp.Z6.map Vq=s.ZN.Z6):=by simp[Zcn]
 rw[q];rcases tf (decide (s.Zp.Z6.map Vq=s.ZN.Z6))with e2|e2
 .rw[e2];simp
 .rw[e2,Ya rfl];exact⟨_,ZRa h.d h.f h.x,by simp⟩
def ZRe{s:Xr}(h:ZlS s):Zou s=some (Bo (Zez s),[]):=by
 have hb:=ZQA h.d s.ZN.Xh;refine Z8Z.1 _ _ ⟨_,_,hb,?_⟩;unfold Zez;rcases tf (WK s.Zp && inR s.ZN.Xh 1 999)with e|e
 .simp[e]
 rw[e,Ya rfl,Yn];have hv:WK s.Zp=true:=by simp only[Yg]at e;exact e.1
 have c:Zew s.Zp s.ZN.Xh=⟨s.ZN.Xh,s.Zp.Z6.map Vq⟩:=by unfold Zew;rw[Ya e]
 rw[c];refine⟨_,ZQI _ _ _ (ZC3 hv) h.k,?_⟩;have q:Zcn s.ZN.Xh (s.Zp.Z6.map Vq) s.ZN=decide (s.Zp.Z6.map Vq=s.ZN.Z6):=by simp[Zcn]
 rw[q];rcases tf (decide (s.Zp.Z6.map Vq=s.ZN.Z6))with e2|e2
 .rw[e2];simp
 .rw[e2,Ya rfl];exact⟨_,ZRc h.d h.f h.x,by simp⟩
abbrev LeA(a:ZW):Prop:=a.Za.length<=4294967296/\a.Rows.length<=4294967296/\∀r∈a.Rows,r.length<=4294967296
def ZRf(a b:ZW)(h:LeA a):Zjb a b=some (Bo (decide (a=b)),[]):=by
 refine WH.1.1.1.2 _ _ _ ⟨_,Zhj _ _ h.1,?_⟩;by_cases c:a.Za=b.Za
 .rw[Ya (by simpa using c)];exact⟨_,ZCt _ _ h.2,by simp[ZW.ext_iff,c]⟩
 .rw[Yb (by simpa using c)];simp[ZW.ext_iff,c]
def l_eqA(a b:ZW)(h:LeA a)(h':LeA b)(hl:b.Rows.length=a.Rows.length):∀i,i<=a.Rows.length->ZkI a b i=some (Bo (decide (a.Rows.drop i=b.Rows.drop i)),[]):=by
 refine down _ ?_ ?_
 .apply Wd.1.2.2.1
  simp_all
 .intro i hi ih;have hi':i<b.Rows.length:=by omega
  apply Wd.1.2.2.1;rw[Ypx,wS hi (by have:=h.2.1;omega),ZbT hi hi'];have l1:=h.2.2 _ (Ye hi);have l2:=h'.2.2 _ (Ye hi');refine⟨by omega,_,gE hi,_,gE hi',_,ZaD _ _ (by omega) (by omega),?_⟩;by_cases c:a.Rows[i]=b.Rows[i]
  .simp_all [ZaI]
  .grind [Qz]
def ZRg(a b:ZW)(h:LeA a)(h':LeA b):ZkH a b=some (Bo (decide (a=b)),[]):=by
 refine Wd.1.2.2.2 _ _ _ ⟨_,ZaD _ _ (by have:=h.1;omega) (by have:=h'.1;omega),?_⟩;by_cases c:a.Za=b.Za
 .rw[Ya (by rw[c];exact ZaI _)];by_cases l:(a.Rows.length:Int)=(b.Rows.length:Int)
  .rw[Ya l];have:=l_eqA a b h h' (by omega) 0 (Yc _);simpa[ZW.ext_iff,c]using this
  .rw[Yb l]
   have:¬a=b:=λe=>l (by rw[e])
   simp[this]
 .rw[Yb (λh=>c (Qz _ _ h))]
  have:¬a=b:=λe=>c (by rw[e])
  simp[this]
def x_evq{d:Zp}(hd:LeD d){q:Zf}(hq:LeQ q)(hf:Xp d q=true):∃a:ZW,LeA a/\ZiY d q=some (.tup [.agg (a.c.map .t),Bo true],[])/\ZkG d q=some (.tup [.agg (a.c.map .t),Bo true],[]):=by
 have hf':=hf;unfold Xp at hf';simp only[Yg,Yl]at hf';obtain⟨h1,h2,h3⟩:=Zh5 hf'.1;have hM:MQ q.Zb (ZX q.Zk q.Zb):=⟨by omega,by rw[Zql];omega⟩;have hin:inR (ZX q.Zk q.Zb) 1 (ZX q.Zk q.Zb)=true:=by simp[inR];omega
 obtain⟨ys,e1,e2,e3⟩:=Z1u Z1w hRep hd hq hf hM;subst e2;obtain⟨b,hb⟩:=l_EM d hd q hq hf'.1 hf'.2 _ hM (ZaR d q (ZX q.Zk q.Zb)) 0 (Yc _) [] true (by simp) (by simp) rfl;have hvl:=Zce q hf'.1 (ZX q.Zk q.Zb);have h4:=U2 hf'.1;refine⟨⟨XG q (ZX q.Zk q.Zb),ZaR d q (ZX q.Zk q.Zb)⟩,⟨by simp only;omega,by simp only;omega,λr hr=>?_⟩,?_,?_⟩
 .obtain⟨z,hz,_,rfl,_⟩:=(Zcf (Z0P _ _) _ _ _).1 hr;omega
 .refine WQ.2.2.2.1 _ _ _ ⟨_,Je q hq,.inl ⟨_,_,WQ.2.2.1.2 _ _ _ _ ⟨_,ZbS d hd q hq,?_⟩,rfl⟩⟩
  simp_all
 .refine Wd.1.2.1.2 _ _ _ ⟨_,Qu q hq,.inr (.inr ⟨_,b,_,Wd.1.2.1.1 _ _ _ _ ⟨_,ZaH d hd q hq,?_⟩,rfl⟩)⟩
  simp_all
def ZC4{s:Xr}(h:ZlS s)(v:Int):ZiU s v=some (Bo (Zez s && decide (s.ZN.Xh=v)),[]):=by
 grind [WQ.1.1.1.2,ZRd]
def ZC5{s:Xr}(h:ZlS s)(v:Int):Zk2 s v=some (Bo (Zez s && decide (s.ZN.Xh=v)),[]):=by
 refine Z8Z.2 _ _ _ ⟨_,ZRe h,?_⟩
 simp_all
open Classical in
def ZRh{m:Zn}(hm:LeM m){s:Xr}(hs:ZlS s){q:Zf}(hq:LeQ q){b:ZM}(hb:LeB b)(h1:b.Xl.length<=4294967296)(h2:b.ZO.length<=4294967296){o:Wj}(ho:LeA o.ZW)(hn:o.Ws.length<=4294967296):Zpx (ZfG m s q b o) (ZgQ m s q b o):=by
 have hI:=WY.1.1.2.2 m s q b o;have hS:=WB.2.2.2.2 m s q b o;have b1:=Z9g q b hq hb;have b2:=Z9h q b hq hb;have c1:=Z0E q hq (ZX q.Zk q.Zb);have c2:=ZpX q hq (ZX q.Zk q.Zb);have bo:Zi0 m q b=some (Bo (Qp q.Zk q.Zb b && Wp q.Zk q.Zb (ZX q.Zk q.Zb) && decide (Vf m)),[]):=by
  refine W9.2.2.1.1 _ _ _ _ ⟨_,b1,?_⟩;rcases tf (Qp q.Zk q.Zb b)with e|e
  .rw[e];rfl
  rw[e,Ya rfl];refine⟨_,Je q hq,_,c1,?_⟩;rcases tf (Wp q.Zk q.Zb (ZX q.Zk q.Zb))with e2|e2
  .rw[e2];rfl
  grind [Zpu]
 by_cases k:(Qp q.Zk q.Zb b=true/\Wp q.Zk q.Zb (ZX q.Zk q.Zb)=true/\Vf m)/\(Zez s && decide (s.ZN.Xh=b.Xh))=true/\Xp s.Zp q=true
 .obtain⟨⟨k1,k2,k3⟩,k4,k5⟩:=k;obtain⟨a,la,a1,a2⟩:=x_evq hs.d hq k5;obtain⟨r,u,hr,r1,r2⟩:=x_fac b h2;obtain⟨t,t1,t2⟩:=x_tot o.Ws hn;have n1:=ZMC q b o.Ws hq hb (by omega);have n2:=ZME q b o.Ws hq hb (by omega);have w1:=ZOs hm hs.d hq b h1 o.Ws hn;have w2:=ZOt hm hs.d hq b h1 o.Ws hn;have o1:=ZQr Z1w hRep hm hs.d hq;have o2:=ZQv Z1w hRep hm hs.d hq;obtain⟨f,f1,f2⟩:=x_inF o.U0 r (ocV m s.Zp q) hr;have q1:=ZRf o.ZW a ho;have q2:=ZRg a o.ZW la ho;rw[k1,k2,decide_eq_true k3]at bo
  have I1:∀x,(if decide (o.ZW=a)=true then ∃v,Zfq o.Ws=some (I v,[])/\(if o.U0=v then ∃v,Zfs q b o.Ws=some (Bo v,[])/\(if v=true then ∃v,Zf2 m s.Zp q b o.Ws=some (I v,[])/\(if 0<=v then(some (I 5,[]):V1)=some x else ∃v,ZjM m s.Zp q=some (I v,[])/\∃y,ZjN o.U0 r v=some (Bo y,[])/\(if y=true then(some (I 0,[]):V1)=some x else(some (I 6,[]):V1)=some x))else(some (I 4,[]):V1)=some x)else(some (I 3,[]):V1)=some x)else(some (I 2,[]):V1)=some x)->ZfG m s q b o=some x:=λx h =>
   hI x ⟨_,bo,⟨_,ZC4 hs _,by rw[k4];exact⟨_,ZbS _ hs.d q hq,by rw[k5];exact⟨_,_,a1,_,_,r1,_,q1,h⟩⟩⟩⟩
  have S1:∀x,(if decide (a=o.ZW)=true then ∃v,Zgu o.Ws=some (I v,[])/\(if v=o.U0 then ∃v,Zgv q b o.Ws=some (Bo v,[])/\(if v=true then ∃v,Zg9 m s.Zp q b o.Ws=some (I v,[])/\(if 0<=v then(some (I 5,[]):V1)=some x else ∃y z,ZgD b=some (.tup [.agg (XO.c y |>.map .t),Bo z],[])/\∃v,Zlx m s.Zp q=some (I v,[])/\∃u,Zly o.U0 y v=some (Bo u,[])/\(if u=true then(some (I 0,[]):V1)=some x else(some (I 6,[]):V1)=some x))else(some (I 4,[]):V1)=some x)else(some (I 3,[]):V1)=some x)else(some (I 2,[]):V1)=some x)->ZgQ m s q b o=some x:=λx h =>
   hS x ⟨_,Zhi m hm,by rw[Ya (decide_eq_true k3)];exact⟨_,ZC5 hs _,by rw[k4];exact⟨_,ZaH _ hs.d q hq,by rw[k5];exact⟨_,Qu q hq,_,c2,by rw[k2];exact⟨_,b2,by rw[k1];exact⟨_,_,a2,_,q2,h⟩⟩⟩⟩⟩⟩
  by_cases g1:o.ZW=a
  .by_cases g2:o.U0=t
   .generalize (Qp q.Zk q.Zb b && (decide (o.Ws≠[]) && Jf b o.Ws 0 o.Ws.length))=g at n1 n2;generalize fwF m s.Zp q b o.Ws 0=e at w1 w2
    cases g with
    |false=>exact⟨4,I1 _ (by rw[Ya (decide_eq_true g1)];exact⟨_,t1,by rw[Ya g2];exact⟨_,n1,rfl⟩⟩),S1 _ (by rw[Ya (decide_eq_true g1.symm)];exact⟨_,t2,by rw[Ya g2.symm];exact⟨_,n2,rfl⟩⟩)⟩
    |true =>
    by_cases g3:0<=e
    .exact⟨5,I1 _ (by rw[Ya (decide_eq_true g1)];exact⟨_,t1,by rw[Ya g2];exact⟨_,n1,_,w1,by rw[Ya g3]⟩⟩),S1 _ (by rw[Ya (decide_eq_true g1.symm)];exact⟨_,t2,by rw[Ya g2.symm];exact⟨_,n2,_,w2,by rw[Ya g3]⟩⟩)⟩
    .have A:∀x,(if f=true then(some (I 0,[]):V1)=some x else(some (I 6,[]):V1)=some x)->ZfG m s q b o=some x/\ZgQ m s q b o=some x:=λx h =>
      ⟨I1 _ (by rw[Ya (decide_eq_true g1)];exact⟨_,t1,by rw[Ya g2];exact⟨_,n1,_,w1,by rw[Yb g3];exact⟨_,o1,_,f1,h⟩⟩⟩),S1 _ (by rw[Ya (decide_eq_true g1.symm)];exact⟨_,t2,by rw[Ya g2.symm];exact⟨_,n2,_,w2,by rw[Yb g3];exact⟨_,_,r2,_,o2,_,f2,h⟩⟩⟩)⟩
     grind
   .exact⟨3,I1 _ (by rw[Ya (decide_eq_true g1)];exact⟨_,t1,by rw[Yb g2]⟩),S1 _ (by rw[Ya (decide_eq_true g1.symm)];exact⟨_,t2,by rw[Yb (Ne.symm g2)]⟩)⟩
  .grind
 .refine⟨1,hI _ ⟨_,bo,?_⟩,hS _ ⟨_,Zhi m hm,?_⟩⟩
  .split
   .refine⟨_,ZC4 hs _,?_⟩;split
    .refine⟨_,ZbS _ hs.d q hq,?_⟩;rw[Yb]
     simp_all
    .rfl
   .rfl
  .split
   .refine⟨_,ZC5 hs _,?_⟩;split
    .refine⟨_,ZaH _ hs.d q hq,?_⟩
     grind [Qu]
    .rfl
   .rfl
