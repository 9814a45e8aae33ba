/-
  Parts of the proofs for this seat: LS.
-/
import Derived.Test.YteaiinkcanpleaaGreatP25
set_option linter.all false
set_option maxRecDepth 100000
set_option maxHeartbeats 4000000
namespace Go.Proofs.YteaiinkcanpleaaGreat
open Go.AM
def ZM5(l:WL)(hl:l.length<=4294967296):∀i,i<=l.length->∀out:WL,out.length<=i->Md out l l l.length i=if Xl l=true then some (.own 0,[.arr Z9 1 true ((out++(l.drop i).map XJ).map ic)])else some (.t .nil,[]):=by
 refine down _ ?_ ?_
 .intro out _;rcases tf (Xl l)with e|e
  .rw[e];apply Wf.1.2.2.2.2;rw[Ao];exact⟨_,Zqd l Z,by rw[e,Yb Om]⟩
  .rw[e,Ya rfl];apply Wf.1.2.2.2.2;rw[Ao];exact⟨_,Zqd l Z,by rw[e,Ya rfl];simp⟩
 .intro i hi ih out ho;have h4:=Z7 (i:=i) Z;have ih:=ih (out++[XJ l[i]]) (by simp;omega);simp only[Ys,Yt]at ih;have go:∀r,Md (out++[XJ l[i]]) l l l.length ((i:Int)+1)=some r->Md out l l l.length i=some r:=by
   intro r hr;apply Wf.1.2.2.2.2;rw[An];refine⟨Z,l[i],by rw[Yh];exact Yd hi,_,ZMf _,Z,?_⟩;rw[show w ((i:Int)+1)=(i:Int)+1 from h4];exact hr
  rw[Yi hi,Yz];rcases tf (Xl l)with e|e
  .rw[e]at ih|-;exact go _ (by simpa using ih)
  .rw[e,Ya rfl]at ih|-;exact go _ (by simpa using ih)
def ZG(l:WL):WL:=l.map XJ
def ZAV(l:WL)(hl:l.length<=4294967296):HN l=if Xl l=true then some (.own 0,[.arr Z9 1 true ((ZG l).map ic)])else some (.t .nil,[]):=by
 have b:=ZM5 l hl 0 (Yc _) [] Om;rcases tf (Xl l)with e|e
 .rw[e]at b|-;exact Wf.2.1.1.1 _ _ b
 .rw[e,Ya rfl]at b|-;exact Wf.2.1.1.1 _ _ (by simpa[ZG]using b)
def ZM6(l:WL)(hl:l.length<=4294967296)(h:Xl l=true):∀i,i<=l.length->∀out:WL,out.length<=i->fL out l i=some (.own 0,[.arr Z9 1 true ((out++(l.drop i).map XJ).map ic)]):=by
 refine down _ ?_ ?_
 .intro out _;apply WY.2.1.2.1;rw[Ao];simp
 .intro i hi ih out ho;have h4:=Z7 (i:=i) Z;have ih:=ih (out++[XJ l[i]]) (by simp;omega);simp only[Ys,Yt]at ih;apply WY.2.1.2.1;rw[An];refine⟨_,Zqc l Z,?_⟩;rw[h,Ya rfl];refine⟨Z,l[i],by rw[Yh];exact Yd hi,_,Gk _,Z,?_⟩;rw[show w ((i:Int)+1)=(i:Int)+1 from h4,Yi hi,Yz];simpa using ih
def Zql(l:WL)(hl:l.length<=4294967296):Kk l=some (.own 0,[.arr Z9 1 true ((if Xl l=true then ZG l else[]).map ic)]):=by
 rcases tf (Xl l)with e|e
 .rw[e];refine WY.2.1.2.2 _ _ (WY.2.1.2.1 _ _ _ _ ?_);by_cases h:(0:Int)<l.length
  .rw[Ya h];exact⟨_,Zqc l Z,by rw[e,Yb Om];rfl⟩
  .rw[Yb h];rfl
 .have b:=ZM6 l hl e 0 (Yc _) [] Om;rw[e,Ya rfl];exact WY.2.1.2.2 _ _ (by simpa[ZG]using b)
abbrev XE(q:Zc)(m:Int):WL:=Xw m q.Atoms q.Zh.toNat
def ZAW(q:Zc)(hq:AI q)(hv:Zx q.Zh q.Atoms=true)(m:Int)(hm:MQ q.Atoms m):F9 q m=some (.own 0,[.arr Z9 1 true ((XE q m).map ic)]):=by
 refine US.2.1.1 _ _ _ ⟨_,ZAO q hq m,?_⟩
 have:Al m 0 (Z3 q.Zh q.Atoms)=true:=by rw[Qs hv];simp[Al];have:=hm.1;have:=hm.2;omega
 rw[hv,this,Ya (by rfl)];exact⟨_,kW q m hq hv,rfl⟩
def Vb(q:Zc)(a b:Int):WL:=(XE q a).filter (has (XE q b))
def Gp(q:Zc)(hv:Zx q.Zh q.Atoms=true)(m:Int):(XE q m).length<=4:=by
 have:=SA m q.Atoms q.Zh.toNat;have:=QE hv;unfold XE;omega
def ZM7(q:Zc)(hq:AI q)(hv:Zx q.Zh q.Atoms=true)(a b:Int)(ha:MQ q.Atoms a)(hb:MQ q.Atoms b):Mi q a b=some (.own 0,[.arr Z9 1 true ((Vb q a b).map ic)]):=by
 have l1:=Gp q hv a;have l2:=Gp q hv b;exact US.2.1.2 _ _ _ _ (.inl ⟨_,ZAW q hq hv a ha,.inl ⟨_,ZAW q hq hv b hb,_,Z0Y _ _ Z Z,rfl⟩⟩)
def ZAX(p:Nat->Bool):∀k:Nat,k<=4->∀out:WL,out.length<=k->PT out (Xs p) k=some (.own 0,[.arr Z9 1 true ((out++((List.range' k (4-k)).filter p).map (λu:Nat=>(u:Int))).map ic)]):=by
 refine down _ ?_ ?_
 .simp[XX.1.2.2.1]
 .intro k hk ih out ho;have CB:w ((k:Int)+1)=(k:Int)+1:=ZE Z Z;have hb:=Z0J p (v:=(k:Int)) (by simp[Al];omega);rw[Yh]at hb;apply XX.1.2.2.1;rw[An,show 4-k=(4-(k+1))+1 by omega,Ycl,rU,CB]
  grind
def ZAY(q:Zc)(hv:Zx q.Zh q.Atoms=true)(m:Int):((List.range' 0 4).filter (pV m q.Atoms)).map (λu:Nat=>(u:Int))=XE q m:=by
 have hn:=QE hv;have e:List.range' 0 4=List.range q.Zh.toNat++List.range' q.Zh.toNat (4-q.Zh.toNat):=by
  have h:=List.range'_append_1 (s:=0) (m:=q.Zh.toNat) (n:=4-q.Zh.toNat)
  simp_all [Yw,List.range_eq_range']
 unfold XE Xw;rw[e,List.filter_append];have e2:(List.range' q.Zh.toNat (4-q.Zh.toNat)).filter (pV m q.Atoms)=[]:=by
  rw[ON];intro u hu hp;have:=Z0O hv hp
  grind
 rw[e2];simp
def Zqm(q:Zc)(hq:AI q)(hv:Zx q.Zh q.Atoms=true)(m:Int)(hm:MQ q.Atoms m):Lu q m=some (.own 0,[.arr Z9 1 true ((XE q m).map ic)]):=by
 have b:=ZAX (pV m q.Atoms) 0 Z [] Om;rw[show 4-0=4 from rfl,ZAY q hv m]at b;refine XX.1.2.2.2.2 _ _ _ ⟨_,ZAP q hq m,?_⟩
 have:Al m 0 (Z3 q.Zh q.Atoms)=true:=by rw[Qs hv];simp[Al];have:=hm.1;have:=hm.2;omega
 rw[hv,this,Ya (by rfl)];exact⟨_,MR q m hq (H2 hv),_,XX.1.2.2.2.1 _ _ (by simpa using b),rfl⟩
def ZM8(x y:WL)(hy:Le y)(hx:x.length<=1000):∀i,i<=x.length->PU ((x.take i).filter (has y)) x y i=some (.own 0,[.arr Z9 1 true ((x.filter (has y)).map ic)]):=by
 refine down _ ?_ ?_
 .simp[XX.2.1.1.1]
 .intro i hi ih;have h4:=Z7 (i:=i) Z;have e4:((x.take i).filter (has y)).length+1<=68719476736:=by
   grind
  rw[Z0N _ hi]at ih;apply XX.2.1.1.1;rw[An];refine⟨Z,x[i],by rw[Yh];exact Yd hi,_,Qq y x[i] hy,?_⟩
  grind
theorem Z1i(q:Zc)(hq:AI q)(hv:Zx q.Zh q.Atoms=true)(a b:Int)(ha:MQ q.Atoms a)(hb:MQ q.Atoms b):Jz q a b=some (.own 0,[.arr Z9 1 true ((Vb q a b).map ic)]):=by
 have l1:=Gp q hv a;have l2:=Gp q hv b;have c:=ZM8 (XE q a) (XE q b) Z Z 0 (Yc _);exact XX.2.1.1.2 _ _ _ _ ⟨_,Zqm q hq hv a ha,_,Zqm q hq hv b hb,by simpa[Vb]using c⟩
