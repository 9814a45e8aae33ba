/-
  Parts of the proofs for this seat: V1 V2 V3 V4 V5 V6 OP AD MK SP PC PC2.
-/
import Derived.Test.YtcfaekfjkeobhaaGreatP7
import Derived.Test.YtcfaekfjkeobhaaGreatP12
import Derived.Test.YtcfaekfjkeobhaaGreatP13
import Derived.Test.YtcfaekfjkeobhaaGreatP14
import Derived.Test.YtcfaekfjkeobhaaGreatP15
import Derived.Test.YtcfaekfjkeobhaaGreatP16
import Derived.Test.YtcfaekfjkeobhaaGreatP17
import Derived.Test.YtcfaekfjkeobhaaGreatP18
set_option linter.unusedSectionVars false
set_option linter.unusedSimpArgs false
set_option linter.unusedVariables false
set_option maxRecDepth 100000
set_option maxHeartbeats 4000000
namespace Go.Proofs.YtcfaekfjkeobhaaGreat
open Go.AM
@[simp] theorem Zdz(a b c:Int):Zba a b c=some (Bo (inR a b c),[]):=by
 refine Zbym _ _ _ _ ?_;by_cases h:b<=a<;>simp[inR,h]
@[simp] theorem Zcu(a b c:Int):Zbk a b c=some (Bo (inR a b c),[]):=by
 refine Zbvy _ _ _ _ ?_;by_cases h:b<=a<;>simp[inR,h]
theorem lIndexI(xs:List Int)(v:Int)(hx:Le xs):∀i,i<=xs.length->
  Zso xs v xs.length i=some (I (Zb3 (λx=>decide (v=x)) (xs.drop i) i),[]):=by
 refine down _ ?_ ?_
 .refine Zbjq _ _ _ _ _ ?_;simp[Zb3]
 .intro i hi ih;refine Zbjq _ _ _ _ _ ?_;have h4:=Zw (i:=i) (by omega);rw[Zvs _ hi];simp at ih;by_cases e:v=xs[i]<;>simp[hi,h4,e,ih]
@[simp] theorem xIndexI(xs:List Int)(v:Int)(hx:Le xs):Zxe xs v=some (I (Zb3 (λx=>decide (v=x)) xs 0),[]):=by
 refine Zbyv _ _ _ ?_;have:=lIndexI xs v hx 0 (Yd _);simpa using this
@[simp] theorem Ztw(xs:List Int)(v:Int)(hx:Le xs):Zio xs v=some (Bo (has xs v),[]):=by
 refine Zbyw _ _ _ ?_;unfold has;rcases tf (xs.any (λx=>decide (v=x)))with e|e
 .simp[hx,Zba5 _ _ _ e,e]
 .have:=Zba6 _ _ 0 e;simp[hx,this,e]
theorem lIndexB(xs:List Bool)(v:Bool)(hx:Le xs):∀i,i<=xs.length->
  Zsp xs v xs.length i=some (I (Zb3 (λx=>v == x) (xs.drop i) i),[]):=by
 refine down _ ?_ ?_
 .refine Zbjr _ _ _ _ _ ?_;simp[Zb3]
 .intro i hi ih;refine Zbjr _ _ _ _ _ ?_;have h4:=Zw (i:=i) (by omega);rw[Zvs _ hi];simp at ih;by_cases e:v=xs[i]<;>simp[hi,h4,e,ih]
@[simp] theorem Zb0z(xs:List Bool)(v:Bool)(hx:Le xs):Zxg xs v=some (Bo (xs.any (λx=>v == x)),[]):=by
 refine Zbyy _ _ _ ?_;have q:Zxf xs v=some (I (Zb3 (λx=>v == x) xs 0),[]):=by
  refine Zbyx _ _ _ ?_;have:=lIndexB xs v hx 0 (Yd _);simpa using this
 rcases tf (xs.any (λx=>v == x))with e|e
 .rw[Zba5 _ _ _ e]at q;rw[e];simp[q]
 .have:=Zba6 _ _ 0 e;rw[e];simp[q,this]
theorem l_l7Has(xs:List Int)(v:Int)(hx:Le xs):∀i,i<=xs.length->Zm9 xs v i=some (Bo (has (xs.drop i) v),[]):=by
 unfold has;refine down _ ?_ ?_
 .refine Zbh0 _ _ _ _ ?_;simp
 .intro i hi ih;refine Zbh0 _ _ _ _ ?_;have h4:=Zw (i:=i) (by omega);rw[drop_any _ hi];simp at ih;by_cases e:v=xs[i]
  .simp[hi,h4,<-e]
  .have e':¬xs[i]=v:=λhc=>e hc.symm
   simp[hi,h4,e,e',ih]
@[simp] theorem Zbk6(xs:List Int)(v:Int)(hx:Le xs):Zm8 xs v=some (Bo (has xs v),[]):=by
 refine Zbv1 _ _ _ ?_;have:=l_l7Has xs v hx 0 (Yd _);simpa using this
theorem nm_aux(s:ByteArray)(P:Prop):(if(s.size:Int)=1 then(∃(b1:UInt8),s[0]?=some b1/\(if 97<=(b1.toNat:Int)then(some (Bo (decide ((b1.toNat:Int)<=122)),[])=some (Bo (nmOk s),([]:List Blk)))else(some (Bo false,[])=some (Bo (nmOk s),([]:List Blk)))))else(some (Bo false,[])=some (Bo (nmOk s),([]:List Blk)))):=by
 by_cases h:s.size=1
 .obtain⟨b,hb⟩:=get0 h;rw[if_pos (by omega)];refine⟨b,hb,?_⟩;have e:nmOk s=(decide (97<=(b.toNat:Int)) && decide ((b.toNat:Int)<=122)):=by
   unfold nmOk;rw[hb];simp only[h,decide_true,Y6]
  by_cases h1:(97:Int)<=(b.toNat:Int)
  .rw[if_pos h1,e,decide_eq_true h1,Y6]
  .rw[if_neg h1,e,decide_eq_false h1,Yde]
 .have h':¬(s.size:Int)=1:=by omega
  have:nmOk s=false:=by unfold nmOk;split<;>simp[h]
  simp[h',this]
@[simp] theorem x_nameOk(s:ByteArray):Zxd s=some (Bo (nmOk s),[]):=Zbyu _ _ (nm_aux s True)
@[simp] theorem x_l4Name(s:ByteArray):Zqz s=some (Bo (nmOk s),[]):=Zbv0 _ _ (nm_aux s True)
def LeQ(q:Zc):Prop:=Le q.Atoms/\∀a∈q.Atoms,Le a.Vars
def blB(p:Nat->Bool)(n:Nat):List Bool:=(List.range n).map p
theorem blB_set(p:Nat->Bool)(n:Nat){v:Int}(h:inR v 0 ((n:Int)-1)=true):(blB p n).set v.toNat true=blB (addV p [v]) n:=by
 simp[inR]at h;apply Ycw
 .simp[blB]
 .intro i h1 h2;simp only[blB,Yb5,Yb1,List.length_range]at h1;rw[List.getElem_set];simp only[blB,List.getElem_map,List.getElem_range];by_cases e:v.toNat=i
  .have:(i:Int)=v:=by omega
   simp[e,addV,has,this]
  .have:¬(i:Int)=v:=by omega
   simp[e,addV,has,this]
theorem Zb00(q:Zc)(n:Nat)(hn:n<=4)(hq:q.Zf=n)(a:Atom)(qa:List Atom)(l j:Int)(hv:Le a.Vars)(r:AV×List Blk):∀k,k<=a.Vars.length->∀p,
  (if Zfg n (a.Vars.take k) (a.Vars.drop k)=true then Zjw q (blB (addV p (a.Vars.drop k)) n) qa l (w (j+1))=some r else some (Bo false,[])=some r)->
  Zoo q (blB p n) a qa l j a.Vars a.Vars.length k=some r:=by
 refine down _ ?_ ?_
 .intro p h;refine Zbjt _ _ _ _ _ _ _ _ _ _ ?_;simpa[Zfg,Z0s]using h
 .intro k hk ih p h;have h4:=Zw (i:=k) (by omega);have hw:w (q.Zf-1)=(n:Int)-1:=by rw[hq];exact Z7 (by omega) (by omega)
  have hl:=Ztw (a.Vars.take k) a.Vars[k] (by simp;omega);refine Zbjt _ _ _ _ _ _ _ _ _ _ ?_;rw[Zba7 _ hk]at h;rcases tf (inR a.Vars[k] 0 ((n:Int)-1))with e1|e1
  .simp[e1]at h;simp[hk,h4,hw,e1,<-h]
  .rcases tf (has (a.Vars.take k) a.Vars[k])with e2|e2
   .rw[Z0t p hk]at h;simp only[e1,e2,Y6,Bool.not_false]at h;have ih:=ih _ h;have e0:=e1;simp[inR]at e0;have e5:(a.Vars[k]).toNat<(blB p n).length:=by simp[blB];omega
    have e6:=blB_set p n e1;have e7:k<=a.Vars.length:=by omega
    simp at ih;simp[hk,h4,hw,e1,e2,hl,e0,e5,e6,e7,ih]
   .simp[e1,e2]at h;have e7:k<=a.Vars.length:=by omega
    simp[hk,h4,hw,e1,e2,hl,e7,<-h]
theorem Zb01(q:Zc)(n:Nat)(hn:n<=4)(hq:q.Zf=n)(qa:List Atom)(hl:Le qa)(hv:∀a∈qa,Le a.Vars):∀k,k<=qa.length->∀p,
  Zjw q (blB p n) qa qa.length k=some (Bo ((qa.drop k).all (Zcr n) && (List.range n).all (addA p (qa.drop k))),[]):=by
 refine down _ ?_ ?_
 .intro p;refine Zbjs _ _ _ _ _ _ ?_;have e:addA p []=p:=by funext u;simp[addA]
  have q1:=Zb0z (blB p n) false (by simp[blB];omega);have q2:(blB p n).any (λx=>false == x)=!(List.range n).all p:=bl_any p n;rw[q2]at q1;simp[q1,e]
 .intro k hk ih p;refine Zbjs _ _ _ _ _ _ ?_;have h4:=Zw (i:=k) (by omega);rw[Zqp _ hk];rcases tf (nmOk qa[k].Name)with e1|e1
  .simp[hk,e1,Zcr]
  rcases tf (inR qa[k].Vars.length 1 3)with e2|e2
  .simp[hk,e1,e2,Zcr]
  have b:=Zb00 q n hn hq qa[k] qa qa.length k (hv _ (Yf hk)) (Bo (Zcr n qa[k] && (qa.drop (k+1)).all (Zcr n) && (List.range n).all (addA p (qa.drop k))),[]) 0 (Yd _) p ?_
  .simp at b;simp[hk,e1,e2,b]
  .simp only[List.take_zero,Yk,Zcr,e1,e2,Y6];rcases tf (Zfg n [] qa[k].Vars)with e3|e3
   .simp[e3]
   .have ih:=ih (addV p qa[k].Vars);simp only[e3,if_true,Y6,Zba8 p hk];simp at ih;rw[show w ((k:Int)+1)=(k:Int)+1 from h4,ih]
@[simp] theorem Ztx(q:Zc)(h:LeQ q):Zg1 q=some (Bo (Zn q.Zf q.Atoms),[]):=by
 refine Zby3 ?_;unfold Zn;rcases tf (inR q.Zf 1 4)with e1|e1
 .simp[e1]
 rcases tf (inR q.Atoms.length 1 4)with e2|e2
 .simp[e1,e2]
 have e0:=e1;simp[inR]at e0;have hn:q.Zf=(q.Zf.toNat:Int):=by omega
 have b:=Zb01 q q.Zf.toNat (by omega) hn q.Atoms h.1 h.2 0 (Yd _) (λ_=>false);have r1:q.Zf.toNat<=room:=room2 (by omega);have r2:q.Zf<=room:=by
  have:(q.Zf.toNat:Int)<=room:=by exact_mod_cast r1
  omega
 have r3:q.Zf<=140737488355328:=by omega
 have ez:blB (λ_=>false) q.Zf.toNat=List.replicate q.Zf.toNat false:=by
  apply Ycw<;>simp[blB]
 rw[ez,<-hn]at b;simp at b;simp[e1,e2,e0,r1,r2,r3,b];omega
theorem Zb02(q:Zc)(n:Nat)(c:1<=n)(hn:n<=4)(hq:q.Zf=n)(a:Atom)(j:Int)(hv:Le a.Vars)(r:AV×List Blk):∀k,k<=a.Vars.length->∀p,
  (if Zfg n (a.Vars.take k) (a.Vars.drop k)=true then Zna q (Zbj (addV p (a.Vars.drop k))) (w (j+1))=some r else some (Bo false,[])=some r)->
  Zq0 q a (Zbj p) j k=some r:=by
 refine down _ ?_ ?_
 .intro p h;refine Zbh2 _ _ _ _ _ _ ?_;simpa[Zfg,Z0s]using h
 .intro k hk ih p h;have h4:=Zw (i:=k) (by omega);have hw:w (q.Zf-1)=(n:Int)-1:=by rw[hq];exact Z7 (by omega) (by omega)
  have hl:=Zbk6 (a.Vars.take k) a.Vars[k] (by simp;omega);have e7:k<=a.Vars.length:=by omega
  refine Zbh2 _ _ _ _ _ _ ?_;rw[Zba7 _ hk]at h;rcases tf (inR a.Vars[k] 0 ((n:Int)-1))with e1|e1
  .simp[e1]at h;simp[hk,h4,hw,e1,<-h]
  .rcases tf (has (a.Vars.take k) a.Vars[k])with e2|e2
   .rw[Z0t p hk]at h;simp only[e1,e2,Y6,Bool.not_false]at h;have ih:=ih _ h;have e0:=e1;simp[inR]at e0;have e6:=Zvr p (v:=a.Vars[k]) (by simp[inR];omega);have e8:¬a.Vars[k]<0:=by omega
    simp at ih;simp[hk,h4,hw,e1,e2,hl,e0,e6,e7,e8,ih]
   .simp[e1,e2]at h;simp[hk,h4,hw,e1,e2,hl,e7,<-h]
def Zty(n:Int)(p:Nat->Bool):Bool:=decide (Zbj p=w (shlI 1 n-1))
theorem Zb03(q:Zc)(n:Nat)(c:1<=n)(hn:n<=4)(hq:q.Zf=n)(hl:Le q.Atoms)(hv:∀a∈q.Atoms,Le a.Vars):∀k,k<=q.Atoms.length->∀p,
  Zna q (Zbj p) k=some (Bo ((q.Atoms.drop k).all (Zcr n) && Zty n (addA p (q.Atoms.drop k))),[]):=by
 refine down _ ?_ ?_
 .intro p;refine Zbh1 _ _ _ _ ?_;have e:addA p []=p:=by funext u;simp[addA]
  have h0:¬(n:Int)<0:=by omega
  simp[e,hq,h0,Zty]
 .intro k hk ih p;refine Zbh1 _ _ _ _ ?_;have h4:=Zw (i:=k) (by omega);rw[Zqp _ hk];rcases tf (nmOk q.Atoms[k].Name)with e1|e1
  .simp[hk,e1,Zcr]
  rcases tf (inR q.Atoms[k].Vars.length 1 3)with e2|e2
  .simp[hk,e1,e2,Zcr]
  have b:=Zb02 q n c hn hq q.Atoms[k] k (hv _ (Yf hk)) (Bo (Zcr n q.Atoms[k] && (q.Atoms.drop (k+1)).all (Zcr n) && Zty n (addA p (q.Atoms.drop k))),[]) 0 (Yd _) p ?_
  .simp at b;simp[hk,e1,e2,b]
  .simp only[List.take_zero,Yk,Zcr,e1,e2,Y6];rcases tf (Zfg n [] q.Atoms[k].Vars)with e3|e3
   .simp[e3]
   .have ih:=ih (addV p q.Atoms[k].Vars);simp only[e3,if_true,Y6,Zba8 p hk];simp at ih;rw[show w ((k:Int)+1)=(k:Int)+1 from h4,ih]
@[simp] theorem Zge(q:Zc)(h:LeQ q):Zep q=some (Bo (Zn q.Zf q.Atoms),[]):=by
 refine Zbv2 _ _ ?_;unfold Zn;rcases tf (inR q.Zf 1 4)with e1|e1
 .simp[e1]
 rcases tf (inR q.Atoms.length 1 4)with e2|e2
 .simp[e1,e2]
 have e0:=e1;simp[inR]at e0;obtain⟨k,hk⟩:∃k:Nat,q.Zf=k:=⟨q.Zf.toNat,by omega⟩;have b:=Zb03 q k (by omega) (by omega) hk h.1 h.2 0 (Yd _) (λ_=>false);have ez:Zbj (λ_=>false)=0:=rfl;rw[ez]at b;simp only[Yk,Int.ofNat_zero]at b;have e3:(q.Atoms.all (Zcr k) && Zty k (addA (λ_=>false) q.Atoms))=(q.Atoms.all (Zcr k) && (List.range k).all (addA (λ_=>false) q.Atoms)):=by
  rcases tf (q.Atoms.all (Zcr k))with e3|e3
  .simp[e3]
  .have hk':k=1\/k=2\/k=3\/k=4:=by omega
   have hz:=all_in e3;have hz':∀u:Nat,k<=u->addA (λ_=>false) q.Atoms u=false:=λu hu=>by simp only[addA,Ycp];exact hz u (by omega)
   rw[e3,Y6,Y6,Ybo,Zty,decide_eq_true_eq,Zbj];rcases hk' with rfl|rfl|rfl|rfl
   .simp[shlI,Z7,Zvt,hz' 1 (by omega),hz' 2 (by omega),hz' 3 (by omega),Yc0]
   .simp[shlI,Z7,Zvt,hz' 2 (by omega),hz' 3 (by omega),Yc0]
   .simp[shlI,Z7,Zvt,hz' 3 (by omega),Yc0,and_assoc]
   .simp[shlI,Z7,Zvt,Yc0,and_assoc]
 rw[e3]at b;rw[hk]at e1;simp only[Zcu,Ybe,Ybj,AV.t.injEq,T.bool.injEq,and_true,exists_eq_left',e1,e2,if_true,b,hk,Yg];simp
@[simp] theorem Zkg(q:Zc)(h:LeQ q):Zd3 q=some (I (Zx q.Zf q.Atoms),[]):=by
 refine Zbyz _ _ ?_;have q1:=Ztx q h;unfold Zx;rcases tf (Zn q.Zf q.Atoms)with e|e
 .simp[q1,e]
 .have:=(Zjh e).2.2.1;have h0:¬((q.Atoms.length:Int)<0):=by omega
  simp[q1,e,this,h0]
@[simp] theorem Zc1(q:Zc)(h:LeQ q):Zdw q=some (I (Zx q.Zf q.Atoms),[]):=by
 refine Zbv8 _ _ ?_;have q1:=Zge q h;unfold Zx;rcases tf (Zn q.Zf q.Atoms)with e|e
 .simp[q1,e]
 .have:=(Zjh e).2.2.1;have h0:¬((q.Atoms.length:Int)<0):=by omega
  simp[q1,e,this,h0]
theorem Zb04(xs:List Int)(hx:Le xs):∀i,i<=xs.length->Zre xs i=some (Bo (Zch (xs.drop i) && decide ((xs.length:Int)<=16)),[]):=by
 refine down _ ?_ ?_
 .refine Zbii _ _ _ ?_;simp[Zch]
 .intro i hi ih;refine Zbii _ _ _ ?_;have h4:=Zw (i:=i) (by omega);rw[Zba2 hi];simp at ih;rcases tf (inR xs[i] 0 7)with h|h<;>simp[hi,h4,h,ih]
@[simp] theorem Zyn(xs:List Int)(hx:Le xs):Zle xs=some (Bo (Zbc xs),[]):=by
 refine Zbwh _ _ ?_;have:=Zb04 xs hx 0 (Yd _);simpa[Zbc]using this
theorem Zb05(xs:List Int)(hx:Le xs):∀i,i<=xs.length->Zsj xs xs xs.length i=some (Bo (Zch (xs.drop i) && decide ((xs.length:Int)<=16)),[]):=by
 refine down _ ?_ ?_
 .refine Zbjn _ _ _ _ _ ?_;simp[Zch]
 .intro i hi ih;refine Zbjn _ _ _ _ _ ?_;have h4:=Zw (i:=i) (by omega);rw[Zba2 hi];simp at ih;rcases tf (inR xs[i] 0 7)with h|h<;>simp[hi,h4,h,ih]
@[simp] theorem Zyo(xs:List Int)(hx:Le xs):Zly xs=some (Bo (Zbc xs),[]):=by
 refine Zbyn _ _ ?_;have:=Zb05 xs hx 0 (Yd _);simpa[Zbc]using this
theorem Zb06(xs ys:List Int)(hx:Le xs)(hl:ys.length=xs.length):∀i,i<=xs.length->Zr1 xs ys i=some (Bo (Zbe (xs.drop i) (ys.drop i)),[]):=by
 refine down _ ?_ ?_
 .refine Zbi7 _ _ _ _ ?_;simp[Zbe]
 .intro i hi ih;refine Zbi7 _ _ _ _ ?_;have hi2:i<ys.length:=by omega
  have h4:=Zw (i:=i) (by omega);rw[Zba3 hi hi2];simp at ih;by_cases h:xs[i]<ys[i]
  .simp[hi,hi2,h4,h,show ¬ys[i]<=xs[i] by omega]
  .simp[hi,hi2,h4,h,show ys[i]<=xs[i] by omega,ih]
@[simp] theorem Z6t(xs ys:List Int)(hx:Le xs):Zn7 xs ys=some (Bo (dom xs ys),[]):=by
 refine Zbxd _ _ _ ?_;by_cases hl:ys.length=xs.length
 .have:=Zb06 xs ys hx hl 0 (Yd _);simp at this;simp[hl,this,dom]
 .have h2:¬((xs.length:Int)=ys.length):=by omega
  have h1:¬(xs.length=ys.length):=by omega
  simp[h1,h2,dom]
theorem Zb07(xs ys:List Int)(hx:Le xs)(hl:ys.length=xs.length):∀i,i<=xs.length->Zsk xs ys xs.length i=some (Bo (Zbe (xs.drop i) (ys.drop i)),[]):=by
 refine down _ ?_ ?_
 .refine Zbjo _ _ _ _ _ ?_;simp[Zbe]
 .intro i hi ih;refine Zbjo _ _ _ _ _ ?_;have hi2:i<ys.length:=by omega
  have h4:=Zw (i:=i) (by omega);rw[Zba3 hi hi2];simp at ih;by_cases h:xs[i]<ys[i]
  .simp[hi,hi2,h4,h,show ¬ys[i]<=xs[i] by omega]
  .simp[hi,hi2,h4,h,show ys[i]<=xs[i] by omega,ih]
@[simp] theorem Z6u(xs ys:List Int)(hx:Le xs):Zol xs ys=some (Bo (dom xs ys),[]):=by
 refine Zbyo _ _ _ ?_;by_cases hl:ys.length=xs.length
 .have:=Zb07 xs ys hx hl 0 (Yd _);simp at this;simp[hl,this,dom]
 .have h2:¬((xs.length:Int)=ys.length):=by omega
  have h1:¬(xs.length=ys.length):=by omega
  simp[h1,h2,dom]
def LeX(b:Box):Prop:=Le b.Low/\Le b.High
@[simp] theorem Zbk7(b:Box)(h:LeX b):Zom b=some (Bo (Zb2 b.Low b.High),[]):=by
 refine Zbyp _ _ ?_;have q1:=Zyo b.Low h.1;have q2:=Zyo b.High h.2;have q3:=Z6u b.High b.Low h.2;unfold Zb2;rcases tf (Zbc b.Low)with e1|e1<;>rcases tf (Zbc b.High)with e2|e2<;>by_cases e3:0<b.Low.length<;>simp[q1,q2,q3,e1,e2,e3]
@[simp] theorem Zbk8(b:Box)(h:LeX b):Zn8 b=some (Bo (Zb2 b.Low b.High),[]):=by
 refine Zbxe _ _ ?_;have q1:=Zyn b.Low h.1;have q2:=Zyn b.High h.2;have q3:=Z6t b.High b.Low h.2;unfold Zb2;rcases tf (Zbc b.Low)with e1|e1<;>rcases tf (Zbc b.High)with e2|e2<;>by_cases e3:0<b.Low.length<;>simp[q1,q2,q3,e1,e2,e3]
theorem l_vars0(q:Zc)(m:Int)(hl:Le q.Atoms)(hv:∀a∈q.Atoms,Le a.Vars)(v:Nat)(c:v<8)(out:List Int)(ho:out.length<=8)(r:AV×List Blk):∀i,i<=q.Atoms.length->
  Zlz q (out++if hasV m (q.Atoms.drop i) i v=true then[(v:Int)]else[]) m (w ((v:Int)+1))=some r->
  Zop q out m v q.Atoms q.Atoms.length i=some r:=by
 refine down _ ?_ ?_
 .intro h;refine Zbjv _ _ _ _ _ _ _ _ ?_;simpa[hasV]using h
 .intro i hi ih h;refine Zbjv _ _ _ _ _ _ _ _ ?_;have h4:=Zw (i:=i) (by omega);have c1:=Ztw q.Atoms[i].Vars v (hv _ (Yf hi));have h0:¬(i:Int)<0:=by omega
  rw[Z0v _ hi]at h;by_cases e1:andI (shrI m i) 1=1
  .have e2:Z1 m i=true:=by simp[Z1,e1]
   rcases tf (has q.Atoms[i].Vars v)with e3|e3
   .simp[e2,e3]at h;have ih:=ih (by simpa using h);simp at ih;simp[hi,h4,h0,e1,c1,e3,ih]
   .simp[e2,e3]at h;have e4:out.length+1<=68719476736:=by omega
    simp[hi,h4,h0,e1,c1,e3,e4,h]
  .have e2:Z1 m i=false:=by simp[Z1,e1]
   simp[e2]at h;have ih:=ih (by simpa using h);simp at ih;simp[hi,h4,h0,e1,ih]
theorem l_vars1(q:Zc)(m:Int)(hl:Le q.Atoms)(hv:∀a∈q.Atoms,Le a.Vars)(n:Nat)(hq:q.Zf=n)(hn:n<=4):∀k,k<=n->
  Zlz q (varL m q.Atoms k) m k=some (.own 0,[.arr Z4 1 true ((varL m q.Atoms n).map ic)]):=by
 refine down _ ?_ ?_
 .refine Zbju _ _ _ _ _ ?_;simp[hq]
 .intro k hk ih;refine Zbju _ _ _ _ _ ?_;have h4:=Zw (i:=k) (by omega)
  have b:=l_vars0 q m hl hv k (by omega) (varL m q.Atoms k) (by have:=Zm6 m q.Atoms k;omega) _ 0 (Yd _) (by
   rw[Yk,<-Zbqj,show w ((k:Int)+1)=(k:Int)+1 from h4];simpa using ih)
  simp at b;simp[hq,hk,b]
@[simp] theorem Ztz(q:Zc)(m:Int)(h:LeQ q)(hv:Zn q.Zf q.Atoms=true):Zhv q m=some (.own 0,[.arr Z4 1 true ((varL m q.Atoms q.Zf.toNat).map ic)]):=by
 refine Zby1 _ _ _ ?_;have hn:=Zf1 hv;have b:=l_vars1 q m h.1 h.2 q.Zf.toNat (by omega) (by omega) 0 (Yd _);simpa[varL]using b
theorem l_both(b xs:List Int)(hb:Le b)(hx:xs.length<=1000000):∀i,i<=xs.length->
  Zoq ((xs.take i).filter (has b)) b xs xs.length i=some (.own 0,[.arr Z4 1 true ((xs.filter (has b)).map ic)]):=by
 refine down _ ?_ ?_
 .refine Zbjw _ _ _ _ _ _ ?_;simp
 .intro i hi ih;refine Zbjw _ _ _ _ _ _ ?_;have h4:=Zw (i:=i) (by omega);have c1:=Ztw b xs[i] hb;have e4:((xs.take i).filter (has b)).length+1<=68719476736:=by
   have:=Ybr (has b) (xs.take i);simp at this;omega
  rw[Z0w _ hi]at ih;rcases tf (has b xs[i])with e|e
  .simp[e]at ih;simp[hi,h4,c1,e,ih]
  .simp[e]at ih;simp[hi,h4,c1,e,e4,ih]
@[simp] theorem x_both(xs b:List Int)(hb:Le b)(hx:xs.length<=1000000):Zjx xs b=some (.own 0,[.arr Z4 1 true ((xs.filter (has b)).map ic)]):=by
 refine Zby2 _ _ _ ?_;have:=l_both b xs hb hx 0 (Yd _);simpa using this
theorem l_bits0(q:Zc)(m:Int)(hv:∀a∈q.Atoms,Le a.Vars)(c:Var4 q.Atoms)(i:Nat)(hi:i<q.Atoms.length)(hm:Z1 m i=true)(r:AV×List Blk):∀k,k<=q.Atoms[i].Vars.length->∀p,
  Zlc q m (Zbj (addV p (q.Atoms[i].Vars.drop k))) (w ((i:Int)+1))=some r->Znn q m (Zbj p) i k=some r:=by
 have e1:andI (shrI m i) 1=1:=by simpa[Z1]using hm
 have h0:¬(i:Int)<0:=by omega
 have ha:=Yf hi;refine down _ ?_ ?_
 .intro p h;refine Z56 _ _ _ _ _ _ ?_;rw[Yy,Z0s]at h;simp[hi,h]
 .intro k hk ih p h;refine Z56 _ _ _ _ _ _ ?_;have h4:=Zw (i:=k) (by have:=hv _ ha;omega);have e6:=Zvr p (v:=q.Atoms[i].Vars[k]) (c _ ha _ (Yf hk));have e7:=c _ ha _ (Yf hk);simp[inR]at e7;have e8:¬q.Atoms[i].Vars[k]<0:=by omega
  rw[Z0t p hk]at h;have ih:=ih _ h;simp at ih;simp[hi,hk,h0,e1,h4,e6,e7,e8,ih]
theorem l_bits1(q:Zc)(m:Int)(hl:Le q.Atoms)(hv:∀a∈q.Atoms,Le a.Vars)(c:Var4 q.Atoms):∀i,i<=q.Atoms.length->∀p,
  Zlc q m (Zbj p) i=some (I (Zbj (addM m p q.Atoms i)),[]):=by
 refine down _ ?_ ?_
 .intro p;refine Zbie _ _ _ _ _ ?_;have e:addM m p q.Atoms q.Atoms.length=p:=by funext u;simp[addM,hasV]
  simp[e]
 .intro i hi ih p;refine Zbie _ _ _ _ _ ?_;have h4:=Zw (i:=i) (by omega);have h0:¬(i:Int)<0:=by omega
  rw[Zbqi m p hi];rcases tf (Z1 m i)with e|e
  .have e1:¬andI (shrI m i) 1=1:=by simpa[Z1]using e
   have ih:=ih p;simp at ih;have b:Znn q m (Zbj p) i 0=some (I (Zbj (addM m p q.Atoms (i+1))),[]):=by
    refine Z56 _ _ _ _ _ _ ?_;simp[hi,h0,e1,h4,ih]
   simp[hi,e,b]
  .have ih:=ih (addV p q.Atoms[i].Vars);have b:=l_bits0 q m hv c i hi e _ 0 (Yd _) p (by rw[Yk,show w ((i:Int)+1)=(i:Int)+1 from h4];simpa using ih);simp at b;simp[hi,e,b]
@[simp] theorem Zpm(q:Zc)(m:Int)(h:LeQ q)(c:Var4 q.Atoms):Zeq q m=some (I (Zbj (pV m q.Atoms)),[]):=by
 refine Zbwa _ _ _ ?_;have b:=l_bits1 q m h.1 h.2 c 0 (Yd _) (λ_=>false);have ez:Zbj (λ_=>false)=0:=rfl;have e:addM m (λ_=>false) q.Atoms 0=pV m q.Atoms:=by funext u;simp[addM,pV]
 rw[ez,e]at b;simpa using b
theorem Zb08(q:Zc)(hq:LeQ q)(h:Zn q.Zf q.Atoms=true)(x:Zb)(info:List Zi)(st:List Int)(hs:StOk info st)(cc:info.length<=100)(cd:st.length<=100) :
  match Zdv q.Atoms x info st with
  |some y=>Zl0 q x info st=some (.tup [.agg (y.c.map .t),Bo true],[])
  |none=>∃y:Zi,Zl0 q x info st=some (.tup [.agg (y.c.map .t),Bo false],[]):=by
 have hl:=Zcs h;have wl:w ((q.Atoms.length:Int)-1)=(q.Atoms.length:Int)-1:=Z7 (by omega) (by omega);unfold Zdv;by_cases k1:x.Kind=1
 .rw[if_pos k1];by_cases c1:inR x.Atom 0 (q.Atoms.length-1)=true/\x.Order=0
  .rw[if_pos c1];have c2:=c1.1;simp[inR]at c2;have hlt:x.Atom.toNat<q.Atoms.length:=by omega
   have hv:=Zk3 h _ (Yf hlt);have h0:¬x.Atom<0:=by omega
   simp only;refine Zkf _ _ _ _ _ ?_;have e:q.Atoms[x.Atom.toNat].Vars.headD 0=q.Atoms[x.Atom.toNat].Vars[0]'(by omega):=by
    rw[Ydf,hd0 (by omega)]
   rw[Ydf]at e;simp[k1,wl,c1,h0,hlt,c2,e,show 0<q.Atoms[x.Atom.toNat].Vars.length by omega]
  .rw[if_neg c1];refine⟨⟨0,-1,-1,-1⟩,Zkf _ _ _ _ _ ?_⟩;rcases tf (inR x.Atom 0 (q.Atoms.length-1))with e|e
   .simp[k1,wl,e]
   .have e2:¬x.Order=0:=λhc=>c1 ⟨e,hc⟩
    simp[k1,wl,e,e2]
 rw[if_neg k1];by_cases k0:x.Atom=0
 rotate_left
 .rw[if_pos k0];exact⟨⟨0,-1,-1,-1⟩,Zkf _ _ _ _ _ (by simp[k1,k0])⟩
 rw[if_neg (by simpa using k0)];have w1:w ((st.length:Int)-1)=(st.length:Int)-1:=Z7 (by omega) (by omega);have w2:w ((st.length:Int)-2)=(st.length:Int)-2:=Z7 (by omega) (by omega);by_cases k2:x.Kind=2
 .rw[if_pos k2];by_cases n1:st.length<1
  .have:Zca st info 1=none:=by unfold Zca;rw[if_neg (by omega)]
   rw[this];have n1':(st.length:Int)<1:=by omega
   exact⟨⟨0,-1,-1,-1⟩,Zkf _ _ _ _ _ (by simp[k1,k2,k0,n1'])⟩
  .have n1':¬(st.length:Int)<1:=by omega
   obtain⟨s,y,t1,t2,t3,t4⟩:=Zk5 hs (by omega:1<=1) (by omega:1<=st.length);have z1:(0:Int)<=(st.length:Int)-1:=by omega
   have z5:(1:Int)<=(st.length:Int):=by omega
   have z2:((st.length:Int)-1).toNat=st.length-1:=by omega
   have q1:=Ztz q y.Mask hq h;have q2:=Ztw (varL y.Mask q.Atoms q.Zf.toNat) x.Order (by have:=Zm6 y.Mask q.Atoms q.Zf.toNat;have:=Zf1 h;omega);rw[Zqq h]at q2;rw[t1];simp only;by_cases c1:vin q.Atoms y.Mask x.Order=true/\y.Order≠x.Order
   .rw[if_pos c1];refine Zkf _ _ _ _ _ ?_;simp[k1,k2,k0,n1',w1,z1,z2,z5,t2,t3,t4,q1,q2,c1]
   .rw[if_neg c1];refine⟨⟨0,-1,-1,-1⟩,Zkf _ _ _ _ _ ?_⟩;rcases tf (vin q.Atoms y.Mask x.Order)with e|e
    .simp[k1,k2,k0,n1',w1,z1,z2,z5,t2,t3,t4,q1,q2,e]
    .have e2:y.Order=x.Order:=Decidable.byContradiction λhc=>c1 ⟨e,hc⟩
     simp[k1,k2,k0,n1',w1,z1,z2,z5,t2,t3,t4,q1,q2,e,e2]
 rw[if_neg k2];by_cases n2:st.length<2
 .have:Zca st info 2=none:=by unfold Zca;rw[if_neg (by omega)]
  rw[this];have n2':(st.length:Int)<2:=by omega
  exact⟨⟨0,-1,-1,-1⟩,Zkf _ _ _ _ _ (by simp[k1,k2,k0,n2'])⟩
 have n2':¬(st.length:Int)<2:=by omega
 obtain⟨s,y,t1,t2,t3,t4⟩:=Zk5 hs (by omega:1<=2) (by omega:2<=st.length);obtain⟨t,z,u1,u2,u3,u4⟩:=Zk5 hs (by omega:1<=1) (by omega:1<=st.length);have z1:(0:Int)<=(st.length:Int)-1:=by omega
 have z2:((st.length:Int)-1).toNat=st.length-1:=by omega
 have z3:(0:Int)<=(st.length:Int)-2:=by omega
 have z4:((st.length:Int)-2).toNat=st.length-2:=by omega
 have hn:=Zf1 h;have q1:=Ztz q y.Mask hq h;have q2:=Ztz q z.Mask hq h;have l1:=Zm6 y.Mask q.Atoms q.Zf.toNat;have l2:=Zm6 z.Mask q.Atoms q.Zf.toNat;have q3:=x_both (varL y.Mask q.Atoms q.Zf.toNat) (varL z.Mask q.Atoms q.Zf.toNat) (by omega) (by omega)
 have q4:=Ztw ((varL y.Mask q.Atoms q.Zf.toNat).filter (has (varL z.Mask q.Atoms q.Zf.toNat))) x.Order (by
  have:=Ybr (has (varL z.Mask q.Atoms q.Zf.toNat)) (varL y.Mask q.Atoms q.Zf.toNat);omega)
 rw[Zbql h]at q4;have q5:=Zbqk h y.Mask z.Mask;generalize hS:(varL y.Mask q.Atoms q.Zf.toNat).filter (has (varL z.Mask q.Atoms q.Zf.toNat))=S at q3 q4 q5;rw[t1,u1];simp only
 have base:∀(r:AV×List Blk),(if andI y.Mask z.Mask=0 then
    if((S.length:Int)=0)then some (.tup [.agg [I (orI y.Mask z.Mask),I (-1),I s,I t],Bo false],[])=some r
    else if x.Kind=3 then some (.tup [.agg [I (orI y.Mask z.Mask),I (-1),I s,I t],Bo (decide (x.Order=0))],[])=some r
    else if x.Kind=5 then some (.tup [.agg [I (orI y.Mask z.Mask),I y.Order,I s,I t],Bo (decide (x.Order=0))],[])=some r
    else if x.Kind=4 then
     if(vin q.Atoms y.Mask x.Order && vin q.Atoms z.Mask x.Order)=true then
      if y.Order=x.Order then some (.tup [.agg [I (orI y.Mask z.Mask),I x.Order,I s,I t],Bo (decide (z.Order=x.Order))],[])=some r
      else some (.tup [.agg [I (orI y.Mask z.Mask),I x.Order,I s,I t],Bo false],[])=some r
     else some (.tup [.agg [I (orI y.Mask z.Mask),I x.Order,I s,I t],Bo false],[])=some r
    else some (.tup [.agg [I (orI y.Mask z.Mask),I (-1),I s,I t],Bo false],[])=some r
   else some (.tup [.agg [I (orI y.Mask z.Mask),I (-1),I s,I t],Bo false],[])=some r)->Zl0 q x info st=some r:=by
  intro r hr;refine Zkf _ _ _ _ _ ?_;simp only[k1,k0,k2,if_false,if_true,n2',w1,w2,z1,z2,z3,z4,t2,t3,t4,u2,u3,u4,q1,q2,true_and,Ybe,exists_eq_left'];refine⟨_,rfl,_,rfl,S,?_,?_⟩
  .simpa using q3
  .simp only[q4,Ybe,Ybj,AV.t.injEq,T.bool.injEq,and_true,exists_eq_left'];simpa using hr
 by_cases c1:andI y.Mask z.Mask=0/\shr q.Atoms y.Mask z.Mask=true
 rotate_left
 .rw[if_neg c1];refine⟨⟨orI y.Mask z.Mask,-1,s,t⟩,base _ ?_⟩;by_cases c2:andI y.Mask z.Mask=0
  .have c3:S.length=0:=q5.2 (by rcases tf (shr q.Atoms y.Mask z.Mask)with e|e;exact e;exact absurd ⟨c2,e⟩ c1);have c4:(S.length:Int)=0:=by omega
   rw[if_pos c2,if_pos c4];simp
  .rw[if_neg c2];simp
 rw[if_pos c1];have c4:¬(S.length:Int)=0:=λhc=>by
  have:=q5.1 (by omega);rw[c1.2]at this;cases this
 have c5:¬S=[]:=λhc=>c4 (by simp[hc])
 unfold Zc5;by_cases j1:x.Kind=3/\x.Order=0
 .rw[if_pos j1];exact base _ (by simp[c1.1,c4,c5,j1])
 rw[if_neg j1];by_cases j2:x.Kind=5/\x.Order=0
 .rw[if_pos j2];exact base _ (by simp[c1.1,c4,c5,j2])
 rw[if_neg j2];by_cases j3:x.Kind=4/\vin q.Atoms y.Mask x.Order=true/\vin q.Atoms z.Mask x.Order=true/\y.Order=x.Order/\z.Order=x.Order
 .rw[if_pos j3];exact base _ (by simp[c1.1,c4,c5,j3])
 rw[if_neg j3];simp only[Option.map_none];by_cases k3:x.Kind=3
 .have e:¬x.Order=0:=λhc=>j1 ⟨k3,hc⟩
  exact⟨⟨orI y.Mask z.Mask,-1,s,t⟩,base _ (by simp[c1.1,c4,c5,k3,e])⟩
 by_cases k5:x.Kind=5
 .have e:¬x.Order=0:=λhc=>j2 ⟨k5,hc⟩
  exact⟨⟨orI y.Mask z.Mask,y.Order,s,t⟩,base _ (by simp[c1.1,c4,c5,k5,e])⟩
 by_cases k4:x.Kind=4
 .refine⟨⟨orI y.Mask z.Mask,x.Order,s,t⟩,base _ ?_⟩;rcases tf (vin q.Atoms y.Mask x.Order)with e1|e1<;>rcases tf (vin q.Atoms z.Mask x.Order)with e2|e2<;>by_cases e3:y.Order=x.Order<;>simp[c1.1,c4,c5,k4,e1,e2,e3];exact λe4=>j3 ⟨k4,e1,e2,e3,e4⟩
 .exact⟨⟨orI y.Mask z.Mask,-1,s,t⟩,base _ (by simp[c1.1,c4,c5,k3,k4,k5])⟩
@[simp] theorem Zyp(b v:Int):Zlr b v=some (Bo (inR v 0 3 && decide (andI (shrI b v) 1=1)),[]):=by
 refine Zbxg _ _ _ ?_;rcases tf (inR v 0 3)with e|e
 .simp[e]
 .have e0:=e;simp[inR]at e0
  have:¬v<0:=by omega
  simp[e,this]
def Zbs(x:Zb):Option Zi->AV×List Blk
 |some y=>(.tup [.agg (y.c.map .t),I (popsI x)],[])
 |none=>(.tup [.agg [I 0,I 0,I 0,I 0],I (-1)],[])
theorem Zb09(q:Zc)(hq:LeQ q)(h:Zn q.Zf q.Atoms=true)(x:Zb)(info:List Zi)(st:List Int)(hs:StOk info st)(cc:info.length<=100)(cd:st.length<=100) :
  Zls q x info st=some (Zbs x (Zdv q.Atoms x info st)):=by
 have hl:=Zcs h;have wl:w ((q.Atoms.length:Int)-1)=(q.Atoms.length:Int)-1:=Z7 (by omega) (by omega);unfold Zdv;by_cases k1:x.Kind=1
 .rw[if_pos k1];by_cases c1:inR x.Atom 0 (q.Atoms.length-1)=true/\x.Order=0
  .rw[if_pos c1];have c2:=c1.1;simp[inR]at c2;have hlt:x.Atom.toNat<q.Atoms.length:=by omega
   have hv:=Zk3 h _ (Yf hlt);have h0:¬x.Atom<0:=by omega
   refine Zhz _ _ _ _ _ ?_;have e:q.Atoms[x.Atom.toNat].Vars.headD 0=q.Atoms[x.Atom.toNat].Vars[0]'(by omega):=by
    rw[Ydf,hd0 (by omega)]
   rw[Ydf]at e;simp[k1,wl,c1,h0,hlt,c2,e,Zbs,popsI,show 0<q.Atoms[x.Atom.toNat].Vars.length by omega]
  .rw[if_neg c1];refine Zhz _ _ _ _ _ ?_;rcases tf (inR x.Atom 0 (q.Atoms.length-1))with e|e
   .simp[k1,wl,e,Zbs]
   .have e2:¬x.Order=0:=λhc=>c1 ⟨e,hc⟩
    simp[k1,wl,e,e2,Zbs]
 rw[if_neg k1];have w1:w ((st.length:Int)-1)=(st.length:Int)-1:=Z7 (by omega) (by omega);have w2:w ((st.length:Int)-2)=(st.length:Int)-2:=Z7 (by omega) (by omega);by_cases k0:x.Atom=0
 rotate_left
 .rw[if_pos k0];refine Zhz _ _ _ _ _ ?_;have j:∀b,Zlt q x ⟨0,0,0,0⟩ info st st.length x.Kind b=some (Zbs x none):=by
   intro b;refine Ztq ?_;cases b<;>simp[k0,Zbs]
  by_cases k2:x.Kind=2
  .simp[k1,k2,k0,Zbs]
  .by_cases k3:x.Kind=3<;>by_cases k4:x.Kind=4<;>simp[k1,k2,k0,k3,k4,j]<;>first|(simp only[k3]at j;simp[j,Zbs])|(simp only[k4]at j;simp[j,Zbs])|simp[Zbs]
 rw[if_neg (by simpa using k0)];by_cases k2:x.Kind=2
 .rw[if_pos k2];refine Zhz _ _ _ _ _ ?_;by_cases n1:st.length<1
  .have:Zca st info 1=none:=by unfold Zca;rw[if_neg (by omega)]
   rw[this];have n1':(st.length:Int)<1:=by omega
   simp[k1,k2,k0,n1',Zbs]
  .have n1':¬(st.length:Int)<1:=by omega
   obtain⟨s,y,t1,t2,t3,t4⟩:=Zk5 hs (by omega:1<=1) (by omega:1<=st.length);have z1:(0:Int)<=(st.length:Int)-1:=by omega
   have z5:(1:Int)<=(st.length:Int):=by omega
   have z2:((st.length:Int)-1).toNat=st.length-1:=by omega
   have q1:=Zpm q y.Mask hq (Zk4 h);have q2:(inR x.Order 0 3 && decide (andI (shrI (Zbj (pV y.Mask q.Atoms)) x.Order) 1=1))=vin q.Atoms y.Mask x.Order:=by
    unfold vin;rcases tf (inR x.Order 0 3)with e|e
    .simp[e]
    .rw[e,Y6,Y6,Ybo,decide_eq_true_eq];exact at_bit _ e
   rw[t1];simp only;by_cases e2:y.Order=x.Order
   .simp[k1,k2,k0,n1',w1,z1,z2,z5,t2,t3,t4,e2,Zbs]
   .rcases tf (vin q.Atoms y.Mask x.Order)with e|e
    .simp only[k1,k2,k0,n1',w1,z1,z2,t2,t3,t4,q1,Zyp,q2,e,e2,if_false,if_true,true_and,Ybe,exists_eq_left',Ybj,AV.t.injEq,T.int.injEq,T.bool.injEq,and_true];simp[Zbs]
    .simp only[k1,k2,k0,n1',w1,z1,z2,t2,t3,t4,q1,Zyp,q2,e,e2,if_false,if_true,true_and,Ybe,exists_eq_left',Ybj,AV.t.injEq,T.int.injEq,T.bool.injEq,and_true];simp[Zbs,popsI,k1,k2,e2]
 rw[if_neg k2]
 -- a join
 have q0:∀(b:Zi) (c:Zi) (y:Zi) (f:Bool),x.Kind=4->∀m1 m2,Zjr q x ⟨0,0,0,0⟩ b c y (andI (Zbj (pV m1 q.Atoms)) (Zbj (pV m2 q.Atoms))) f =
   if vin q.Atoms m1 x.Order=true/\vin q.Atoms m2 x.Order=true/\b.Order=x.Order/\c.Order=x.Order then some (.tup [.agg [I y.Mask,I x.Order,I y.Left,I y.Right],I 2],[])else some (Zbs x none):=by
  intro b c y f k4 m1 m2;have e:(inR x.Order 0 3 && decide (andI (shrI (andI (Zbj (pV m1 q.Atoms)) (Zbj (pV m2 q.Atoms))) x.Order) 1=1))=(vin q.Atoms m1 x.Order && vin q.Atoms m2 x.Order):=by
   unfold vin;rcases tf (inR x.Order 0 3)with e|e
   .simp[e]
   .rw[e,Y6,Y6,Y6,Ybo,decide_eq_true_eq,Zba4];simpa using at_bit (λu=>pV m1 q.Atoms u && pV m2 q.Atoms u) e
  split
  .rename_i hc;refine Z6h _ _ _ _ _ _ _ _ _ ?_;simp only[Zyp,e,hc];simp[k4]
  .rename_i hc;refine Z6h _ _ _ _ _ _ _ _ _ ?_;simp only[Zyp,e];rcases tf (vin q.Atoms m1 x.Order)with e1|e1<;>rcases tf (vin q.Atoms m2 x.Order)with e2|e2<;>by_cases e3:b.Order=x.Order<;>by_cases e4:c.Order=x.Order<;>simp[k4,e1,e2,e3,e4,Zbs];exact hc ⟨e1,e2,e3,e4⟩
 have q3:∀(b:Zi) (c:Zi) (y:Zi) (v:Int) (f:Bool),x.Kind≠4->Zjr q x ⟨0,0,0,0⟩ b c y v f=some (.tup [.agg (y.c.map .t),I 2],[]):=by
  intro b c y v f k4;exact Z6h _ _ _ _ _ _ _ _ _ (by simp[k4])
 have q5:∀(b:Zi) (c:Zi) (y:Zi) (v:Int),x.Kind≠4->Zn9 q x ⟨0,0,0,0⟩ b c y v=some (.tup [.agg (y.c.map .t),I 2],[]):=by
  intro b c y v k4;exact Zbxh _ _ _ _ _ _ _ _ (by simp[k4])
 by_cases kk:x.Kind=3\/x.Kind=4\/x.Kind=5
 rotate_left
 .have k3:¬x.Kind=3:=λhc=>kk (.inl hc)
  have k4:¬x.Kind=4:=λhc=>kk (.inr (.inl hc))
  have k5:¬x.Kind=5:=λhc=>kk (.inr (.inr hc))
  have hj:∀y z,Zc5 q.Atoms x y z=none:=by intro y z;simp[Zc5,k3,k4,k5]
  refine Yb (b:=some (Zbs x none)) (Zhz _ _ _ _ _ (by simp[k1,k2,k3,k4,k5,Zbs])) ?_;simp only[hj,Option.map_none,ite_self];split<;>rfl
 have k5':x.Kind≠3->x.Kind≠4->x.Kind=5:=λa b=>by rcases kk with h|h|h;exact absurd h a;exact absurd h b;exact h
 have red:∀r,Zlt q x ⟨0,0,0,0⟩ info st st.length x.Kind true=some r->(x.Kind=5->Zls q x info st=some r)->Zls q x info st=some r:=by
  intro r hr h5;by_cases k5:x.Kind=5
  .exact h5 k5
  .refine Zhz _ _ _ _ _ ?_;by_cases k3:x.Kind=3
   .rw[if_neg k1,if_neg k2,if_pos k3];exact hr
   .by_cases k4:x.Kind=4
    .rw[if_neg k1,if_neg k2,if_neg k3,if_pos k4];exact hr
    .exact absurd (k5' k3 k4) k5
 by_cases n2:st.length<2
 .have:Zca st info 2=none:=by unfold Zca;rw[if_neg (by omega)]
  rw[this];have n2':(st.length:Int)<2:=by omega
  refine red _ ?_ ?_
  .exact Ztq (by simp[k0,n2',Zbs])
  .intro k5;exact Zhz _ _ _ _ _ (by simp[k5,k0,n2',Zbs])
 have n2':¬(st.length:Int)<2:=by omega
 obtain⟨s,y,t1,t2,t3,t4⟩:=Zk5 hs (by omega:1<=2) (by omega:2<=st.length);obtain⟨t,z,u1,u2,u3,u4⟩:=Zk5 hs (by omega:1<=1) (by omega:1<=st.length);have z1:(0:Int)<=(st.length:Int)-1:=by omega
 have z2:((st.length:Int)-1).toNat=st.length-1:=by omega
 have z3:(0:Int)<=(st.length:Int)-2:=by omega
 have z4:((st.length:Int)-2).toNat=st.length-2:=by omega
 have b1:=Zpm q y.Mask hq (Zk4 h);have b2:=Zpm q z.Mask hq (Zk4 h);have b3:=Z0x q.Atoms y.Mask z.Mask;rw[t1,u1];simp only;by_cases c1:andI y.Mask z.Mask=0
 rotate_left
 .rw[if_neg (λhc=>c1 hc.1)];refine red _ ?_ ?_
  .refine Ztq ?_;simp only[k0,n2',w1,w2,z1,z2,z3,z4,t2,t3,t4,u2,u3,u4,b1,b2,c1,if_true,if_false,true_and,Ybe,exists_eq_left',Ybj,AV.t.injEq,T.int.injEq,and_true];simp[Zbs]
  .intro k5;refine Zhz _ _ _ _ _ ?_;simp only[k5,k0,n2',w1,w2,z1,z2,z3,z4,t2,t3,t4,u2,u3,u4,b1,b2,c1,if_true,if_false,true_and,Ybe,exists_eq_left',Ybj,AV.t.injEq,T.int.injEq,and_true];simp[Zbs]
 rcases tf (shr q.Atoms y.Mask z.Mask)with c2|c2
 .rw[if_neg (λhc=>by rw[hc.2]at c2;cases c2)];have c3:=b3.2 c2;refine red _ ?_ ?_
  .refine Ztq ?_;simp only[k0,n2',w1,w2,z1,z2,z3,z4,t2,t3,t4,u2,u3,u4,b1,b2,c1,c3,if_true,if_false,true_and,Ybe,exists_eq_left',Ybj,AV.t.injEq,T.int.injEq,and_true];simp[Zbs]
  .intro k5;refine Zhz _ _ _ _ _ ?_;simp only[k5,k0,n2',w1,w2,z1,z2,z3,z4,t2,t3,t4,u2,u3,u4,b1,b2,c1,c3,if_true,if_false,true_and,Ybe,exists_eq_left',Ybj,AV.t.injEq,T.int.injEq,and_true];simp[Zbs]
 rw[if_pos ⟨c1,c2⟩];have c3:¬andI (Zbj (pV y.Mask q.Atoms)) (Zbj (pV z.Mask q.Atoms))=0:=λhc=>by rw[b3.1 hc]at c2;cases c2
 have p2:popsI x=2:=by unfold popsI;rw[if_neg k1,if_neg k2]
 refine red _ ?_ ?_
 .refine Ztq ?_;simp only[k0,n2',w1,w2,z1,z2,z3,z4,t2,t3,t4,u2,u3,u4,b1,b2,c1,c3,if_true,if_false,true_and,Ybe,exists_eq_left',Ybj,AV.t.injEq,T.int.injEq,and_true];by_cases k4:x.Kind=4
  .have k3:¬x.Kind=3:=by omega
   have k5:¬x.Kind=5:=by omega
   rw[if_pos k4,q0 _ _ _ _ k4];simp only[Zc5,k3,k4,k5,false_and,true_and,if_false];split
   .rename_i hc;simp[Zbs,p2]
   .rfl
  .by_cases e:x.Order=0
   .by_cases k5:x.Kind=5
    .rw[if_neg k4,if_pos e,if_pos k5,q5 _ _ _ _ k4];simp[Zc5,k5,e,Zbs,p2]
    .have k3:x.Kind=3:=by omega
     rw[if_neg k4,if_pos e,if_neg k5,q3 _ _ _ _ _ k4];simp[Zc5,k3,e,Zbs,p2]
   .rw[if_neg k4,if_neg e];simp[Zc5,k4,e,Zbs]
 .intro k5;refine Zhz _ _ _ _ _ ?_;have k4:x.Kind≠4:=by omega
  simp only[k5,k0,n2',w1,w2,z1,z2,z3,z4,t2,t3,t4,u2,u3,u4,b1,b2,c1,c3,if_true,if_false,true_and,Ybe,exists_eq_left',Ybj,AV.t.injEq,T.int.injEq,and_true];by_cases e:x.Order=0
  .simp[e,q5 _ _ _ _ k4,Zc5,k5,Zbs,p2]
  .simp[e,Zc5,k5,Zbs]
theorem Zb1a(q:Zc)(hq:LeQ q)(h:Zn q.Zf q.Atoms=true)(p:Plan)(hl:p.Steps.length<=14):∀i,i<=p.Steps.length->∀info st,StOk info st->info.length=i->st.length<=i->
  Zr3 q p info st i=some (match Zci q.Atoms (p.Steps.drop i) i info st with
   |some (info',st')=>if st'.length=1 then(.tup [.own 0,Bo true],[.arr Zk7 4 true (info'.map Zi.c)])else(.tup [.own 0,Bo false],[.arr Zk7 4 true []])
   |none=>(.tup [.own 0,Bo false],[.arr Zk7 4 true []])):=by
 refine down _ ?_ ?_
 .intro info st _ _ _;rw[Yy,Zci];refine Zbi8 _ _ _ _ _ _ ?_;by_cases c:st.length=1
  .simp[c]
  .have c':¬(st.length:Int)=1:=by omega
   simp[c,c']
 .intro i hi ih info st hs hil hst;have h5:=Zw (i:=i) (by omega);have s1:=Zb09 q hq h p.Steps[i] info st hs (by omega) (by omega);rw[Zba9 q.Atoms hi];refine Zbi8 _ _ _ _ _ _ ?_
  cases he:Zdv q.Atoms p.Steps[i] info st with
  |none =>
   rw[he,Zbs]at s1;have e0:Zls q p.Steps[i] info st=some (.tup [.agg ((⟨0,0,0,0⟩:Zi).c.map .t),I (-1)],[]):=s1;rw[if_pos (by omega)];refine⟨by omega,_,Ya hi,_,_,e0,?_⟩
   simp
  |some y =>
   rw[he,Zbs]at s1;obtain⟨f1,f2,f3⟩:=Z0y hs he;rw[f1]at s1;have hn:=Zqr hs y (st.length-pops y);rw[hil]at hn;have ih:=ih (info++[y]) (st.take (st.length-pops y)++[(i:Int)]) hn (by simp[hil]) (st_len hst _);have w2:w ((st.length:Int)-(pops y:Int))=(st.length:Int)-(pops y:Int):=Z7 (by omega) (by omega);have z2:((st.length:Int)-(pops y:Int)).toNat=st.length-pops y:=by omega
   rw[if_pos (by omega)];refine⟨by omega,_,Ya hi,_,_,s1,?_⟩;rw[if_neg (by omega),w2,z2];refine⟨by omega,by omega,by omega,by omega,by omega,?_⟩;rw[show w ((i:Int)+1)=(i:Int)+1 from h5];simpa using ih
@[simp] theorem Zbk9(q:Zc)(p:Plan)(hq:LeQ q):Zr2 q p=some (match Zcb q.Zf q.Atoms p.Steps with
  |some info=>(.tup [.own 0,Bo true],[.arr Zk7 4 true (info.map Zi.c)])
  |none=>(.tup [.own 0,Bo false],[.arr Zk7 4 true []])):=by
 refine Zbxi _ _ _ ?_;have q1:=Zge q hq;unfold Zcb;rcases tf (Zn q.Zf q.Atoms)with e|e
 .simp[q1,e]
 rcases tf (inR p.Steps.length 1 14)with e2|e2
 .simp[q1,e,e2]
 .have e3:=e2;simp[inR]at e3;have b:=Zb1a q hq e p (by omega) 0 (Yd _) [] [] (λs hs=>by cases hs) rfl (Ye _);simp only[Yk]at b;simp only[q1,e,e2,Zcu,Ybe,Ybj,AV.t.injEq,T.bool.injEq,and_true,exists_eq_left',if_true,and_self];refine Yb b ?_
  cases Zci q.Atoms p.Steps 0 [] []with
  |none=>rfl
  |some r=>obtain⟨a,b⟩:=r;simp only;split<;>rfl
theorem Zb1b(q:Zc)(hq:LeQ q)(h:Zn q.Zf q.Atoms=true)(steps:List Zb)(hl:steps.length<=14):∀i,i<=steps.length->∀info st,StOk info st->info.length=i->st.length<=i->
  Zl1 q info st steps steps.length i=some (match Zci q.Atoms (steps.drop i) i info st with
   |some (info',st')=>if st'.length=1 then(.tup [.own 0,Bo true],[.arr Zk7 4 true (info'.map Zi.c)])else(.tup [.t .nil,Bo false],[])
   |none=>(.tup [.t .nil,Bo false],[])):=by
 refine down _ ?_ ?_
 .intro info st _ _ _;rw[Yy,Zci];refine Zbjx _ _ _ _ _ _ _ ?_;by_cases c:st.length=1
  .simp[c]
  .have c':¬(st.length:Int)=1:=by omega
   simp[c,c']
 .intro i hi ih info st hs hil hst;have h5:=Zw (i:=i) (by omega);have s1:=Zb08 q hq h steps[i] info st hs (by omega) (by omega);rw[Zba9 q.Atoms hi];refine Zbjx _ _ _ _ _ _ _ ?_
  cases he:Zdv q.Atoms steps[i] info st with
  |none =>
   rw[he]at s1;obtain⟨y,s1⟩:=s1;rw[if_pos (by omega)];refine⟨by omega,_,Ya hi,_,_,s1,?_⟩
   simp
  |some y =>
   rw[he]at s1;obtain⟨f1,f2,f3⟩:=Z0y hs he;have hn:=Zqr hs y (st.length-pops y);rw[hil]at hn;have ih:=ih (info++[y]) (st.take (st.length-pops y)++[(i:Int)]) hn (by simp[hil]) (st_len hst _);rw[if_pos (by omega)];refine⟨by omega,_,Ya hi,_,_,s1,?_⟩;rw[if_pos rfl];refine⟨by omega,?_⟩;simp only;unfold pops at ih f2|-;rw[show w ((i:Int)+1)=(i:Int)+1 from h5];by_cases r:0<=y.Right
   .simp only[if_pos r]at ih f2|-;have w2:w ((st.length:Int)-2)=(st.length:Int)-2:=Z7 (by omega) (by omega);have z2:((st.length:Int)-2).toNat=st.length-2:=by omega
    rw[w2,z2];refine⟨by omega,by omega,by omega,by simpa using ih⟩
   .simp only[if_neg r]at ih f2|-;by_cases l:0<=y.Left
    .simp only[if_pos l]at ih f2|-;have w2:w ((st.length:Int)-1)=(st.length:Int)-1:=Z7 (by omega) (by omega);have z2:((st.length:Int)-1).toNat=st.length-1:=by omega
     rw[w2,z2];refine⟨by omega,by omega,by omega,by simpa using ih⟩
    .simp only[if_neg l]at ih f2|-;exact⟨by omega,by simpa using ih⟩
@[simp] theorem Zbla(q:Zc)(p:Plan)(hq:LeQ q):Zjy q p=some (match Zcb q.Zf q.Atoms p.Steps with
  |some info=>(.tup [.own 0,Bo true],[.arr Zk7 4 true (info.map Zi.c)])
  |none=>(.tup [.t .nil,Bo false],[])):=by
 refine Zby4 _ _ _ ?_;have q1:=Ztx q hq;unfold Zcb;rcases tf (Zn q.Zf q.Atoms)with e|e
 .simp[q1,e]
 rcases tf (inR p.Steps.length 1 14)with e2|e2
 .simp[q1,e,e2]
 .have e3:=e2;simp[inR]at e3;have b:=Zb1b q hq e p.Steps (by omega) 0 (Yd _) [] [] (λs hs=>by cases hs) rfl (Ye _);simp only[Yk]at b;simp only[q1,e,e2,Zdz,Ybe,Ybj,AV.t.injEq,T.bool.injEq,and_true,exists_eq_left',if_true,and_self];refine Yb b ?_
  cases Zci q.Atoms p.Steps 0 [] []with
  |none=>rfl
  |some r=>obtain⟨a,b⟩:=r;simp only;split<;>rfl
@[simp] theorem Zb1c(q:Zc)(p:Plan)(hq:LeQ q):Zxm q p=some (I (Zjj q.Zf q.Atoms p.Steps),[]):=by
 refine Zby5 _ _ _ ?_;have q1:=Zbla q p hq;unfold Zjj
 cases he:Zcb q.Zf q.Atoms p.Steps with
 |none=>rw[he]at q1;exact .inl ⟨q1,rfl⟩
 |some info =>
  obtain⟨l1,l2,l3,l4⟩:=Zji he;rw[he]at q1;have hlt:info.length-1<info.length:=by omega
  have w1:w ((info.length:Int)-1)=(info.length:Int)-1:=Z7 (by omega) (by omega);have z2:((info.length:Int)-1).toNat=info.length-1:=by omega
  refine .inr ⟨info,q1,?_⟩;rw[w1,z2];refine⟨by omega,_,Ya hlt,?_⟩;simp[Ya hlt]
@[simp] theorem Zb1d(q:Zc)(p:Plan)(hq:LeQ q):Zwn q p=some (I (Zjj q.Zf q.Atoms p.Steps),[]):=by
 refine Zbxj _ _ _ ?_;have q1:=Zbk9 q p hq;unfold Zjj
 cases he:Zcb q.Zf q.Atoms p.Steps with
 |none=>rw[he]at q1;exact⟨[],false,q1,by simp⟩
 |some info =>
  obtain⟨l1,l2,l3,l4⟩:=Zji he;rw[he]at q1;have hlt:info.length-1<info.length:=by omega
  have w1:w ((info.length:Int)-1)=(info.length:Int)-1:=Z7 (by omega) (by omega);have z2:((info.length:Int)-1).toNat=info.length-1:=by omega
  refine⟨info,true,q1,?_⟩;rw[if_pos rfl,w1,z2];refine⟨by omega,_,Ya hlt,?_⟩;simp[Ya hlt]
def Zgf:Int->List Zj->Bool
 |_,[]=>true
 |p,s::r=>inR s.From 1 8192 && inR s.Add (-99) 99 && decide (p<s.From) && Zgf s.From r
def Zd7(l:List Zj):Nat->Int
 |0=>0
 |i+1=>match l[i]? with|some s=>s.From|none=>0
def Zd8(n:Int):Bool:=inR n (-99) 99
def Zb0(o:Zm):Bool:=Zd8 o.Fixed && Zd8 o.Zq && Zd8 o.Zs && Zd8 o.Zu && Zd8 o.Zt && decide (o.Steps.length<=4) && Zgf 0 o.Steps
theorem Zblb(p:Int){l:List Zj}{i:Nat}(h:i<l.length):Zgf p (l.drop i)=(inR l[i].From 1 8192 && inR l[i].Add (-99) 99 && decide (p<l[i].From) && Zgf l[i].From (l.drop (i+1))):=by
 rw[Yi h,Zgf]
@[simp] theorem Zb1e(n:Int):Zig n=some (Bo (Zd8 n),[]):=by
 refine Zbwl _ _ ?_;simp[Zd8]
theorem Zb1f(o:Zm)(hl:Le o.Steps):∀i,i<=o.Steps.length->Zlf o i=some (Bo (Zgf (Zd7 o.Steps i) (o.Steps.drop i)),[]):=by
 refine down _ ?_ ?_
 .refine Zbik _ _ _ ?_;simp[Zgf]
 .intro i hi ih;refine Zbik _ _ _ ?_;have h4:=Zw (i:=i) (by omega);rw[Zblb _ hi];have pn:Zd7 o.Steps (i+1)=o.Steps[i].From:=by simp[Zd7,Ya hi]
  rw[pn]at ih;simp only[Yq,Yr]at ih;rw[if_pos (by omega)];refine⟨by omega,o.Steps[i],by rw[Yg];exact Ya hi,_,Zcu _ _ _,?_⟩;rcases tf (inR o.Steps[i].From 1 8192)with e1|e1
  .rw[e1];simp
  rw[e1,if_pos rfl];refine⟨_,Zb1e _,?_⟩;unfold Zd8;rcases tf (inR o.Steps[i].Add (-99) 99)with e2|e2
  .rw[e2];simp
  rw[e2,if_pos rfl,show w ((i:Int)+1)=(i:Int)+1 from h4]
  cases i with
  |zero =>
   rw[if_neg (by omega),ih]
   have:Zd7 o.Steps 0<o.Steps[0].From:=by simp[inR]at e1;simp[Zd7];omega
   simp[this]
  |succ j =>
   have hj:j<o.Steps.length:=by omega
   have w2:w (((j+1:Nat):Int)-1)=j:=by rw[show((j+1:Nat):Int)-1=j by omega];exact Z7 (by omega) (by omega)
   have pj:Zd7 o.Steps (j+1)=o.Steps[j].From:=by simp[Zd7,Ya hj]
   rw[if_pos (by omega),w2,pj];refine⟨by omega,o.Steps[j],by rw[Yg];exact Ya hj,?_⟩;by_cases e3:o.Steps[j+1].From<=o.Steps[j].From
   .rw[if_pos e3,decide_eq_false (by omega)];simp
   .rw[if_neg e3,decide_eq_true (by omega),ih];simp
@[simp] theorem Zt0(o:Zm)(hl:Le o.Steps):Zih o=some (Bo (Zb0 o),[]):=by
 refine Zbwm _ _ ?_;have b:=Zb1f o hl 0 (Yd _);simp only[Zd7,Yk,Int.ofNat_zero]at b;have b:Zlf o 0=_:=b;unfold Zb0;rcases tf (Zd8 o.Fixed)with e1|e1
 .simp[e1]
 rcases tf (Zd8 o.Zq)with e2|e2
 .simp[e1,e2]
 rcases tf (Zd8 o.Zs)with e3|e3
 .simp[e1,e2,e3]
 rcases tf (Zd8 o.Zu)with e4|e4
 .simp[e1,e2,e3,e4]
 rcases tf (Zd8 o.Zt)with e5|e5
 .simp[e1,e2,e3,e4,e5]
 by_cases e6:o.Steps.length<=4
 .have e7:¬(4:Int)<o.Steps.length:=by omega
  simp[e1,e2,e3,e4,e5,e6,e7,b]
 .have e7:(4:Int)<o.Steps.length:=by omega
  simp[e1,e2,e3,e4,e5,e6,e7]
theorem Zb1g(o:Zm)(hl:Le o.Steps):∀i,i<=o.Steps.length->Zjz o o.Steps o.Steps.length i=some (Bo (Zgf (Zd7 o.Steps i) (o.Steps.drop i) && decide (o.Steps.length<=4)),[]):=by
 refine down _ ?_ ?_
 .refine Zbj2 _ _ _ _ _ ?_;rw[if_neg (by omega)];by_cases e:o.Steps.length<=4
  .simp[Zgf,e];omega
  .simp[Zgf,e];omega
 .intro i hi ih;refine Zbj2 _ _ _ _ _ ?_;have h4:=Zw (i:=i) (by omega);rw[Zblb _ hi];have pn:Zd7 o.Steps (i+1)=o.Steps[i].From:=by simp[Zd7,Ya hi]
  rw[pn]at ih;simp only[Yq,Yr]at ih;rw[if_pos (by omega)];refine⟨by omega,o.Steps[i],by rw[Yg];exact Ya hi,_,Zdz _ _ _,?_⟩;rcases tf (inR o.Steps[i].Add (-99) 99)with e2|e2
  .rw[e2];simp
  rw[e2,if_pos rfl];refine⟨_,Zdz _ _ _,?_⟩;rcases tf (inR o.Steps[i].From 1 8192)with e1|e1
  .rw[e1];simp
  rw[e1,if_pos rfl,show w ((i:Int)+1)=(i:Int)+1 from h4]
  cases i with
  |zero =>
   rw[if_neg (by omega),ih]
   have:Zd7 o.Steps 0<o.Steps[0].From:=by simp[inR]at e1;simp[Zd7];omega
   simp[this]
  |succ j =>
   have hj:j<o.Steps.length:=by omega
   have w2:w (((j+1:Nat):Int)-1)=j:=by rw[show((j+1:Nat):Int)-1=j by omega];exact Z7 (by omega) (by omega)
   have pj:Zd7 o.Steps (j+1)=o.Steps[j].From:=by simp[Zd7,Ya hj]
   rw[if_pos (by omega),w2,pj];refine⟨by omega,o.Steps[j],by rw[Yg];exact Ya hj,?_⟩;by_cases e3:o.Steps[j+1].From<=o.Steps[j].From
   .rw[if_pos e3,decide_eq_false (by omega)];simp
   .rw[if_neg e3,decide_eq_true (by omega),ih];simp
@[simp] theorem Zd9(o:Zm)(hl:Le o.Steps):Zct o=some (Bo (Zb0 o),[]):=by
 refine Zbzb _ _ ?_;have hc:Zxo o=some (.bsl 1 5,[.box (o.c.map .t),.box [.ptr 0 0,.ptr 0 1,.ptr 0 2,.ptr 0 3,.ptr 0 4]]):=Zbza _ _ rfl;refine⟨hc,?_⟩;have b:=Zb1g o hl 0 (Yd _);simp only[Zd7,Yk]at b;have b:Zjz o o.Steps o.Steps.length 0=_:=b;have w1:w (0+1)=1:=by decide
 have w2:w (1+1)=2:=by decide
 have w3:w (2+1)=3:=by decide
 have w4:w (3+1)=4:=by decide
 have w5:w (4+1)=5:=by decide
 unfold Zb0 Zd8;refine Zpj ?_;rw[if_pos (by omega),if_pos rfl];refine⟨_,Zdz _ _ _,?_⟩;rcases tf (inR o.Fixed (-99) 99)with e1|e1
 .rw[e1];simp
 rw[e1,if_pos rfl,w1];refine Zpj ?_;rw[if_pos (by omega),if_neg (by omega),if_pos rfl];refine⟨_,Zdz _ _ _,?_⟩;rcases tf (inR o.Zq (-99) 99)with e2|e2
 .rw[e2];simp
 rw[e2,if_pos rfl,w2];refine Zpj ?_;rw[if_pos (by omega),if_neg (by omega),if_neg (by omega),if_pos rfl];refine⟨_,Zdz _ _ _,?_⟩;rcases tf (inR o.Zs (-99) 99)with e3|e3
 .rw[e3];simp
 rw[e3,if_pos rfl,w3];refine Zpj ?_;rw[if_pos (by omega),if_neg (by omega),if_neg (by omega),if_neg (by omega),if_pos rfl];refine⟨_,Zdz _ _ _,?_⟩;rcases tf (inR o.Zu (-99) 99)with e4|e4
 .rw[e4];simp
 rw[e4,if_pos rfl,w4];refine Zpj ?_;rw[if_pos (by omega),if_neg (by omega),if_neg (by omega),if_neg (by omega),if_neg (by omega),if_pos rfl];refine⟨_,Zdz _ _ _,?_⟩;rcases tf (inR o.Zt (-99) 99)with e5|e5
 .rw[e5];simp
 rw[e5,if_pos rfl,w5];refine Zpj ?_;rw[if_neg (by omega),b];simp[Bool.and_comm]
def Zi0(o:Zm)(l r n:Int):Int:=w (w (w (w (o.Fixed+w (o.Zq*l))+w (o.Zs*r))+w (o.Zu*n))+w (w (o.Zt*l)*r))
def Zgg(l r n:Int)(s:Zj):Int:=if s.From<=w (l+r)then w (n+s.Add)else n
def Zpn(o:Zm)(l r n:Int):Int:=o.Steps.foldl (Zgg l r) (Zi0 o l r n)
def Zbg(o:Zm)(l r n:Int):Int:=if(Zb0 o && inR l 0 4096 && inR r 0 4096 && inR n 0 4096)=true then Zpn o l r n else 0
theorem Zb1h(l r:Int)(st:List Zj)(hl:Le st):∀i,i<=st.length->∀n,Zov l r n st st.length i=some (I ((st.drop i).foldl (Zgg l r) n),[]):=by
 refine down _ ?_ ?_
 .intro n;refine Zbj6 _ _ _ _ _ _ _ ?_;simp
 .intro i hi ih n;refine Zbj6 _ _ _ _ _ _ _ ?_;have h4:=Zw (i:=i) (by omega);rw[Yi hi,Yv];simp only[Yq,Yr]at ih;by_cases e:st[i].From<=w (l+r)
  .simp[hi,h4,e,ih,Zgg]
  .simp[hi,h4,e,ih,Zgg]
@[simp] theorem Zb46(o:Zm)(hl:Le o.Steps)(l r n:Int):Zou o l r n=some (I (Zpn o l r n),[]):=by
 refine Zbze _ _ _ _ _ ?_;have b:=Zb1h l r o.Steps hl 0 (Yd _) (Zi0 o l r n);simpa[Zpn,Zi0]using b
@[simp] theorem Zh1(o:Zm)(hl:Le o.Steps)(l r n:Int):Zcl o l r n=some (I (Zbg o l r n),[]):=by
 refine Zbzl _ _ _ _ _ ?_;unfold Zbg;rcases tf (Zb0 o)with e1|e1<;>rcases tf (inR l 0 4096)with e2|e2<;>rcases tf (inR r 0 4096)with e3|e3<;>rcases tf (inR n 0 4096)with e4|e4<;>simp[hl,e1,e2,e3,e4]
theorem Zb1i(o:Zm)(l r:Int)(hl:Le o.Steps):∀i,i<=o.Steps.length->∀n,Zlg o l r n i=some (I ((o.Steps.drop i).foldl (Zgg l r) n),[]):=by
 refine down _ ?_ ?_
 .intro n;refine Zbil _ _ _ _ _ _ ?_;simp
 .intro i hi ih n;refine Zbil _ _ _ _ _ _ ?_;have h4:=Zw (i:=i) (by omega);rw[Yi hi,Yv];simp only[Yq,Yr]at ih;by_cases e:o.Steps[i].From<=w (l+r)
  .simp[hi,h4,e,ih,Zgg]
  .simp[hi,h4,e,ih,Zgg]
@[simp] theorem Zg6(o:Zm)(hl:Le o.Steps)(l r n:Int):Zdf o l r n=some (I (Zbg o l r n),[]):=by
 refine Zbwn _ _ _ _ _ ?_;have b:=Zb1i o l r hl 0 (Yd _) (Zi0 o l r n);simp only[Yk,Zi0]at b;have b:Zlg o l r _ 0=_:=b;unfold Zbg;rcases tf (Zb0 o)with e1|e1<;>rcases tf (inR l 0 4096)with e2|e2<;>rcases tf (inR r 0 4096)with e3|e3<;>rcases tf (inR n 0 4096)with e4|e4<;>simp[hl,e1,e2,e3,e4,b,Zpn,Zi0]
@[simp] theorem Zb1j(c:Int):Zj0 c=some (I (Zbo c),[]):=by
 refine Zbzd _ _ ?_;cases h:inR c 0 7
 .simp[h,Zba1 h]
 .rcases cls8 h with rfl|rfl|rfl|rfl|rfl|rfl|rfl|rfl<;>simp[inR,Zbo,Z7,shlI]
@[simp] theorem Zb1k(c:Int):Zjo c=some (I (Zbo c),[]):=by
 refine Zbwj _ _ ?_;have e:∀n i r,(if i<c then Zno c (if 1<w (n*4)then w (n*4)else 1) (w (i+1))=some r else some (I n,[])=some r)->Zno c n i=some r:=λn i r h=>Zbwi _ _ _ _ h
 cases h:inR c 0 7
 .simp[h,Zba1 h]
 .refine⟨_,Zcu _ _ _,?_⟩;rw[h,if_pos rfl];rcases cls8 h with rfl|rfl|rfl|rfl|rfl|rfl|rfl|rfl
  all_goals repeat (refine e _ _ _ ?_;first|(rw[if_neg (by decide)];rfl)|rw[if_pos (by decide)])
def inT(t:List Int):Prop:=∃a b c:Int,t=[a,b,c]/\(0<=a/\a<=7)/\(0<=b/\b<=7)/\(0<=c/\c<=7)
def tcl(o:Zm):List Int->Int
 |[a,b,c]=>Zpn o (Zbo a) (Zbo b) (Zbo c)
 |_=>0
theorem Zpo{c:Int}(h0:0<=c)(h7:c<=7):inR (Zbo c) 0 4096=true:=by
 have:c=0\/c=1\/c=2\/c=3\/c=4\/c=5\/c=6\/c=7:=by omega
 rcases this with rfl|rfl|rfl|rfl|rfl|rfl|rfl|rfl<;>decide
theorem Zml(o:Zm)(hl:Le o.Steps){t:List Int}(h:inT t):Zg2 o t=some (I (tcl o t),[]):=by
 obtain⟨a,b,c,rfl,_⟩:=h;refine Zbzf _ _ _ ?_;simp[hl,tcl]
theorem Zyq(o:Zm)(hl:Le o.Steps)(hv:Zb0 o=true){t:List Int}(h:inT t):Zlh o t=some (I (tcl o t),[]):=by
 obtain⟨a,b,c,rfl,h1,h2,h3⟩:=h;refine Zbwo _ _ _ ?_;have c1:=Zpo h1.1 h1.2;have c2:=Zpo h2.1 h2.2;have c3:=Zpo h3.1 h3.2;simp[hl,tcl,Zbg,hv,c1,c2,c3]
theorem Zblc{t:List Int}(h:inT t){k:Nat}{e:Int}(hk:t[k]?=some e)(h7:e+1<=7):inT (t.set k (e+1)):=by
 obtain⟨a,b,c,rfl,h1,h2,h3⟩:=h
 match k,hk with
 |0,hk=>simp at hk;subst hk;exact⟨a+1,b,c,rfl,by omega,h2,h3⟩
 |1,hk=>simp at hk;subst hk;exact⟨a,b+1,c,rfl,h1,by omega,h3⟩
 |2,hk=>simp at hk;subst hk;exact⟨a,b,c+1,rfl,h1,h2,by omega⟩
 |k+3,hk=>simp at hk
theorem Zbld{t:List Int}(h:inT t){k:Nat}(hk:k<3):∃e,t[k]?=some e/\0<=e/\e<=7:=by
 obtain⟨a,b,c,rfl,h1,h2,h3⟩:=h
 match k,hk with
 |0,_=>exact⟨a,rfl,h1⟩
 |1,_=>exact⟨b,rfl,h2⟩
 |2,_=>exact⟨c,rfl,h3⟩
theorem Z6v{t:List Int}(h:inT t):t.length=3:=by obtain⟨a,b,c,rfl,_⟩:=h;rfl
def decK(o:Zm)(t:List Int)(k:Nat):Prop:=∃e,t[k]?=some e/\e+1<=7/\tcl o (t.set k (e+1))<tcl o t
def decF(o:Zm)(t:List Int)(k:Nat):Prop:=∃j,k<=j/\j<3/\decK o t j
def decr(o:Zm):Prop:=∃t,inT t/\decF o t 0
def cheap(o:Zm):Prop:=∃t,inT t/\tcl o t<1
abbrev Ze5(X:Rs)(p:Prop):Prop:=∃(xs ys:List Int) (b:Bool),X=some (.tup [.own 0,.own 1,Bo b],[.arr Z4 1 true (xs.map ic),.arr Z4 1 true (ys.map ic)])/\(b=true↔p)
theorem Ze5.congr{X:Rs}{p q:Prop}(h:Ze5 X p)(e:p↔q):Ze5 X q:=by
 obtain⟨xs,ys,b,h1,h2⟩:=h;exact⟨xs,ys,b,h1,h2.trans e⟩
theorem l_fd0(o:Zm)(hl:Le o.Steps)(hv:Zb0 o=true){t:List Int}(ht:inT t)(a b e:Int)(p:Prop)(hc:Ze5 (Znt o a b (w (e+1))) p):∀k:Nat,k<=3->
  Ze5 (Zii o t a b e k) (decF o t k\/p):=by
 have h3:=Z6v ht;refine down _ ?_ ?_
 .obtain⟨xs,ys,f,h1,h2⟩:=hc;refine⟨xs,ys,f,Zbip _ _ _ _ _ _ _ (by rw[if_neg (by omega)];exact h1),?_⟩;rw[h2];exact⟨.inr,λh=>h.elim (λ⟨j,a,b,_⟩=>by omega) id⟩
 .intro k hk ih;have h4:=Zw (i:=k) (by omega);obtain⟨x,hx,x0,x7⟩:=Zbld ht hk;have wx:w (x+1)=x+1:=Z7 (by omega) (by omega);simp only[Yq,Yr]at ih;have step:decF o t k↔(decK o t k\/decF o t (k+1)):=by
   constructor
   .rintro⟨j,j1,j2,j3⟩;by_cases hj:j=k
    .subst hj;exact .inl j3
    .exact .inr ⟨j,by omega,j2,j3⟩
   .rintro(h|⟨j,j1,j2,j3⟩)
    .exact⟨k,Ye _,hk,h⟩
    .exact⟨j,by omega,j2,j3⟩
  have pre:∀r,(if x+1<=7 then(if tcl o (t.set k (x+1))<tcl o t then some (.tup [.own 0,.own 1,Bo true],[.arr Z4 1 true (t.map ic),.arr Z4 1 true ((t.set k (x+1)).map ic)])=some r
    else Zii o t a b e ((k:Int)+1)=some r)else Zii o t a b e ((k:Int)+1)=some r)->Zii o t a b e k=some r:=by
   intro r hr;refine Zbip _ _ _ _ _ _ _ ?_;rw[if_pos (by omega)];refine⟨by omega,by omega,x,by rw[Yg];exact hx,?_⟩;rw[wx,Yg,show w ((k:Int)+1)=(k:Int)+1 from h4];by_cases h7:x+1<=7
   .rw[if_pos h7]at hr|-;exact⟨_,Zyq o hl hv (Zblc ht hx h7),_,Zyq o hl hv ht,hr⟩
   .rw[if_neg h7]at hr|-;exact hr
  have dk:decK o t k↔(x+1<=7/\tcl o (t.set k (x+1))<tcl o t):=by
   constructor
   .rintro⟨y,y1,y2,y3⟩;rw[hx]at y1;cases y1;exact⟨y2,y3⟩
   .rintro⟨y2,y3⟩;exact⟨x,hx,y2,y3⟩
  by_cases h7:x+1<=7/\tcl o (t.set k (x+1))<tcl o t
  .refine⟨_,_,true,pre _ (by rw[if_pos h7.1,if_pos h7.2]),?_⟩;rw[step,dk];exact⟨λ_=>.inl (.inl h7),λ_=>rfl⟩
  .obtain⟨xs,ys,f,i1,i2⟩:=ih;refine⟨xs,ys,f,pre _ ?_,?_⟩
   .split
    .split
     .rename_i a1 a2;exact absurd ⟨a1,a2⟩ h7
     .exact i1
    .exact i1
   .rw[i2,step,dk];constructor
    .exact λh=>h.imp .inr id
    .exact λh=>h.imp (λh=>h.resolve_left h7) id
theorem Zpp{P:Nat->Prop}{i:Nat}{p:Prop}(hi:i<8):((∃z,i<=z/\z<=7/\P z)\/p)↔(P i\/(∃z,i+1<=z/\z<=7/\P z)\/p):=by
 constructor
 .rintro(⟨z,z1,z2,z3⟩|h)
  .by_cases hz:z=i
   .subst hz;exact .inl z3
   .exact .inr (.inl ⟨z,by omega,z2,z3⟩)
  .exact .inr (.inr h)
 .rintro(h|⟨z,z1,z2,z3⟩|h)
  .exact .inl ⟨i,Ye _,by omega,h⟩
  .exact .inl ⟨z,by omega,z2,z3⟩
  .exact .inr h
theorem Zpq{P:Nat->Prop}{p:Prop}:((∃z,8<=z/\z<=7/\P z)\/p)↔p:=⟨λh=>h.elim (λ⟨z,a,b,_⟩=>by omega) id,.inr⟩
theorem l_fd1(o:Zm)(hl:Le o.Steps)(hv:Zb0 o=true)(a b:Nat)(ha:a<=7)(hb:b<=7)(p:Prop)(hc:Ze5 (Zns o a ((b:Int)+1)) p):∀e:Nat,e<=8->
  Ze5 (Znt o a b e) ((∃z:Nat,e<=z/\z<=7/\decF o [(a:Int),(b:Int),(z:Int)] 0)\/p):=by
 have wb:w ((b:Int)+1)=(b:Int)+1:=Z7 (by omega) (by omega);refine down _ ?_ ?_
 .refine Ze5.congr ?_ Zpq.symm;obtain⟨xs,ys,f,h1,h2⟩:=hc;exact⟨xs,ys,f,Zbio _ _ _ _ _ (by rw[if_neg (by omega),wb];exact h1),h2⟩
 .intro e he ih;have we:w ((e:Int)+1)=(e:Int)+1:=Z7 (by omega) (by omega);have hT:inT [(a:Int),(b:Int),(e:Int)]:=⟨a,b,e,rfl,by omega,by omega,by omega⟩;simp only[Yq,Yr]at ih;obtain⟨xs,ys,f,h1,h2⟩:=l_fd0 o hl hv hT a b e _ (by rw[we];exact ih) 0 (by omega);exact⟨xs,ys,f,Zbio _ _ _ _ _ (by rw[if_pos (by omega)];exact h1),h2.trans (Zpp (P:=λz:Nat=>decF o [(a:Int),(b:Int),(z:Int)] 0) he).symm⟩
theorem l_fd2(o:Zm)(hl:Le o.Steps)(hv:Zb0 o=true)(a:Nat)(ha:a<=7)(p:Prop)(hc:Ze5 (Znr o ((a:Int)+1)) p):∀b:Nat,b<=8->
  Ze5 (Zns o a b) ((∃y:Nat,b<=y/\y<=7/\∃z:Nat,0<=z/\z<=7/\decF o [(a:Int),(y:Int),(z:Int)] 0)\/p):=by
 have wa:w ((a:Int)+1)=(a:Int)+1:=Z7 (by omega) (by omega);refine down _ ?_ ?_
 .refine Ze5.congr ?_ Zpq.symm;obtain⟨xs,ys,f,h1,h2⟩:=hc;exact⟨xs,ys,f,Zbin _ _ _ _ (by rw[if_neg (by omega),wa];exact h1),h2⟩
 .intro b hb ih;simp only[Yq,Yr]at ih;obtain⟨xs,ys,f,h1,h2⟩:=l_fd1 o hl hv a b ha (by omega) _ ih 0 (by omega);exact⟨xs,ys,f,Zbin _ _ _ _ (by rw[if_pos (by omega)];exact h1),h2.trans (Zpp (P:=λy:Nat=>∃z:Nat,0<=z/\z<=7/\decF o [(a:Int),(y:Int),(z:Int)] 0) hb).symm⟩
theorem l_fd3(o:Zm)(hl:Le o.Steps)(hv:Zb0 o=true):∀a:Nat,a<=8->
  Ze5 (Znr o a) ((∃x:Nat,a<=x/\x<=7/\∃y:Nat,0<=y/\y<=7/\∃z:Nat,0<=z/\z<=7/\decF o [(x:Int),(y:Int),(z:Int)] 0)\/False):=by
 refine down _ ?_ ?_
 .refine Ze5.congr ?_ Zpq.symm;exact⟨[],[],false,Zbim _ _ _ (by rw[if_neg (by omega)]),by simp⟩
 .intro a ha ih;simp only[Yq,Yr]at ih;obtain⟨xs,ys,f,h1,h2⟩:=l_fd2 o hl hv a (by omega) _ ih 0 (by omega);exact⟨xs,ys,f,Zbim _ _ _ (by rw[if_pos (by omega)];exact h1),h2.trans (Zpp (P:=λx:Nat=>∃y:Nat,0<=y/\y<=7/\∃z:Nat,0<=z/\z<=7/\decF o [(x:Int),(y:Int),(z:Int)] 0) ha).symm⟩
theorem Zble(o:Zm)(P:List Int->Prop):(∃t,inT t/\P t)↔∃x:Nat,0<=x/\x<=7/\∃y:Nat,0<=y/\y<=7/\∃z:Nat,0<=z/\z<=7/\P [(x:Int),(y:Int),(z:Int)]:=by
 constructor
 .rintro⟨t,⟨a,b,c,rfl,h1,h2,h3⟩,h⟩;refine⟨a.toNat,by omega,by omega,b.toNat,by omega,by omega,c.toNat,by omega,by omega,?_⟩;rw[Yci h1.1,Yci h2.1,Yci h3.1];exact h
 .rintro⟨x,_,x2,y,_,y2,z,_,z2,h⟩;exact⟨_,⟨x,y,z,rfl,by omega,by omega,by omega⟩,h⟩
theorem Zb1l(o:Zm)(hl:Le o.Steps)(hv:Zb0 o=true):Ze5 (Zri o) (decr o):=by
 obtain⟨xs,ys,f,h1,h2⟩:=l_fd3 o hl hv 0 (by omega);refine⟨xs,ys,f,Zbwp _ _ ⟨_,Zt0 o hl,?_⟩,?_⟩
 .rw[hv,if_pos rfl];exact h1
 .rw[h2,decr,Zble o (λt=>decF o t 0)];simp
abbrev Zfm(X:Rs)(p:Prop):Prop:=∃(xs:List Int),X=some (.own 0,[.arr Z4 1 true (xs.map ic)])/\(xs≠[]↔p)
theorem Zfm.congr{X:Rs}{p q:Prop}(h:Zfm X p)(e:p↔q):Zfm X q:=by
 obtain⟨xs,h1,h2⟩:=h;exact⟨xs,h1,h2.trans e⟩
theorem l_ch0(o:Zm)(hl:Le o.Steps)(hv:Zb0 o=true)(a b:Nat)(ha:a<=7)(hb:b<=7)(p:Prop)(hc:Zfm (Znv o a ((b:Int)+1)) p):∀e:Nat,e<=8->
  Zfm (Zrl o a b e) ((∃z:Nat,e<=z/\z<=7/\tcl o [(a:Int),(b:Int),(z:Int)]<1)\/p):=by
 have wb:w ((b:Int)+1)=(b:Int)+1:=Z7 (by omega) (by omega);refine down _ ?_ ?_
 .refine Zfm.congr ?_ Zpq.symm;obtain⟨xs,h1,h2⟩:=hc;exact⟨xs,Z6b _ _ _ _ _ (by rw[if_neg (by omega),wb];exact h1),h2⟩
 .intro e he ih;have we:w ((e:Int)+1)=(e:Int)+1:=Z7 (by omega) (by omega);have hT:inT [(a:Int),(b:Int),(e:Int)]:=⟨a,b,e,rfl,by omega,by omega,by omega⟩;simp only[Yq,Yr]at ih;refine Zfm.congr ?_ (Zpp he).symm;by_cases h:tcl o [(a:Int),(b:Int),(e:Int)]<1
  .refine⟨[a,b,e],Z6b _ _ _ _ _ ?_,by simp[h]⟩;rw[if_pos (by omega)];exact⟨_,Zyq o hl hv hT,by rw[if_pos h]⟩
  .obtain⟨xs,h1,h2⟩:=ih;refine⟨xs,Z6b _ _ _ _ _ ?_,by rw[h2];simp[h]⟩;rw[if_pos (by omega)];exact⟨_,Zyq o hl hv hT,by rw[if_neg h,we];exact h1⟩
theorem l_ch1(o:Zm)(hl:Le o.Steps)(hv:Zb0 o=true)(a:Nat)(ha:a<=7)(p:Prop)(hc:Zfm (Znu o ((a:Int)+1)) p):∀b:Nat,b<=8->
  Zfm (Znv o a b) ((∃y:Nat,b<=y/\y<=7/\∃z:Nat,0<=z/\z<=7/\tcl o [(a:Int),(y:Int),(z:Int)]<1)\/p):=by
 have wa:w ((a:Int)+1)=(a:Int)+1:=Z7 (by omega) (by omega);refine down _ ?_ ?_
 .refine Zfm.congr ?_ Zpq.symm;obtain⟨xs,h1,h2⟩:=hc;exact⟨xs,Zbir _ _ _ _ (by rw[if_neg (by omega),wa];exact h1),h2⟩
 .intro b hb ih;simp only[Yq,Yr]at ih;obtain⟨xs,h1,h2⟩:=l_ch0 o hl hv a b ha (by omega) _ ih 0 (by omega);exact⟨xs,Zbir _ _ _ _ (by rw[if_pos (by omega)];exact h1),h2.trans (Zpp (P:=λy:Nat=>∃z:Nat,0<=z/\z<=7/\tcl o [(a:Int),(y:Int),(z:Int)]<1) hb).symm⟩
theorem l_ch2(o:Zm)(hl:Le o.Steps)(hv:Zb0 o=true):∀a:Nat,a<=8->
  Zfm (Znu o a) ((∃x:Nat,a<=x/\x<=7/\∃y:Nat,0<=y/\y<=7/\∃z:Nat,0<=z/\z<=7/\tcl o [(x:Int),(y:Int),(z:Int)]<1)\/False):=by
 refine down _ ?_ ?_
 .refine Zfm.congr ?_ Zpq.symm;exact⟨[],Zbiq _ _ _ (by rw[if_neg (by omega)]),by simp⟩
 .intro a ha ih;simp only[Yq,Yr]at ih;obtain⟨xs,h1,h2⟩:=l_ch1 o hl hv a (by omega) _ ih 0 (by omega);exact⟨xs,Zbiq _ _ _ (by rw[if_pos (by omega)];exact h1),h2.trans (Zpp (P:=λx:Nat=>∃y:Nat,0<=y/\y<=7/\∃z:Nat,0<=z/\z<=7/\tcl o [(x:Int),(y:Int),(z:Int)]<1) ha).symm⟩
theorem Zb1m(o:Zm)(hl:Le o.Steps)(hv:Zb0 o=true):Zfm (Zwe o) (cheap o):=by
 obtain⟨xs,h1,h2⟩:=l_ch2 o hl hv 0 (by omega);refine⟨xs,Zbwq _ _ h1,?_⟩;rw[h2,cheap,Zble o (λt=>tcl o t<1)];simp
def rowC(a b:Int)(c:Nat):List (List Int):=(List.range' c (8-c)).map λz:Nat=>[a,b,(z:Int)]
def rowB(a:Int)(b:Nat):List (List Int):=(List.range' b (8-b)).flatMap λy:Nat=>rowC a y 0
def rowA(a:Nat):List (List Int):=(List.range' a (8-a)).flatMap λx:Nat=>rowB x 0
theorem Z6w{i:Nat}(h:i<8):List.range' i (8-i)=i::List.range' (i+1) (8-(i+1)):=by
 rw[show 8-i=(8-(i+1))+1 by omega,Yc1]
theorem rowC_len(a b:Int)(c:Nat):(rowC a b c).length=8-c:=by simp[rowC]
theorem rowB_len(a:Int):(rowB a 0).length=64:=rfl
theorem l_tr0(a b:Nat)(hb:b<=7)(r:AV×List Blk):∀c:Nat,c<=8->∀out:List (List Int),out.length<=1000000->Zl4 (out++rowC a b c) a ((b:Int)+1)=some r->Zot out a b c=some r:=by
 have wb:w ((b:Int)+1)=(b:Int)+1:=Z7 (by omega) (by omega);have key:∀c:Nat,c<=8->∀out:List (List Int),out.length<=1000000+c->Zl4 (out++rowC a b c) a ((b:Int)+1)=some r->Zot out a b c=some r:=by
  refine down _ ?_ ?_
  .intro out ho h;refine Zbj5 _ _ _ _ _ ?_;rw[if_neg (by omega),wb];simpa[rowC]using h
  .intro c hc ih out ho h;have wc:w ((c:Int)+1)=(c:Int)+1:=Z7 (by omega) (by omega);refine Zbj5 _ _ _ _ _ ?_;rw[if_pos (by omega),wc];refine⟨by omega,?_⟩
   have ih:=ih (out++[[(a:Int),(b:Int),(c:Int)]]) (by simp;omega) (by
    rw[rowC,Z6w hc]at h
    simpa[rowC]using h)
   simpa using ih
 exact λc hc out ho h=>key c hc out (by omega) h
theorem l_tr1(a:Nat)(ha:a<=7)(r:AV×List Blk):∀b:Nat,b<=8->∀out:List (List Int),out.length<=100000+8*b->Zos (out++rowB a b) ((a:Int)+1)=some r->Zl4 out a b=some r:=by
 have wa:w ((a:Int)+1)=(a:Int)+1:=Z7 (by omega) (by omega);refine down _ ?_ ?_
 .intro out ho h;refine Zbj4 _ _ _ _ ?_;rw[if_neg (by omega),wa];simpa[rowB]using h
 .intro b hb ih out ho h;refine Zbj4 _ _ _ _ ?_;rw[if_pos (by omega)];refine l_tr0 a b (by omega) r 0 (by omega) out (by omega) ?_
  have ih:=ih (out++rowC a b 0) (by rw[Yj,rowC_len];omega) (by
   rw[rowB,Z6w hb]at h
   simpa[rowB]using h)
  simpa using ih
theorem l_tr2:∀a:Nat,a<=8->∀out:List (List Int),out.length<=64*a->Zos out a=some (.own 0,[.arr Zbbd 1 true ((out++rowA a).map isc)]):=by
 refine down _ ?_ ?_
 .intro out ho;refine Zbj3 _ _ _ ?_;rw[if_neg (by omega)];simp[rowA]
 .intro a ha ih out ho;refine Zbj3 _ _ _ ?_;rw[if_pos (by omega)];refine l_tr1 a (by omega) _ 0 (by omega) out (by omega) ?_;have ih:=ih (out++rowB a 0) (by rw[Yj,rowB_len];omega);rw[rowA,Z6w ha];simpa[rowA]using ih
def allT:List (List Int):=rowA 0
theorem Zpr:Zer=some (.own 0,[.arr Zbbd 1 true (allT.map isc)]):=Zbzc _ (l_tr2 0 (by omega) [] (by simp))
theorem Zgh(t:List Int):t∈allT↔inT t:=by
 simp only[allT,rowA,rowB,rowC,Yda,Y3,List.mem_range'_1,inT];constructor
 .rintro⟨x,hx,y,hy,z,hz,rfl⟩;exact⟨x,y,z,rfl,by omega,by omega,by omega⟩
 .rintro⟨a,b,c,rfl,h1,h2,h3⟩;refine⟨a.toNat,by omega,b.toNat,by omega,c.toNat,by omega,?_⟩;rw[Yci h1.1,Yci h2.1,Yci h3.1]
set_option maxRecDepth 100000 in
theorem Zps:allT.length=512:=rfl
@[simp] theorem Zpt(xs:List Int)(h:xs.length<=68719476736):Zg0 xs=some (.own 0,[.arr Z4 1 true (xs.map ic)]):=Zbyc _ _ ⟨h,rfl⟩
abbrev GoodI(X:Rs)(p:Prop):Prop:=(p/\∃xs ys:List Int,X=some (.tup [L 1 (xs.map ic),.own 0,Bo true],[.arr Z4 1 true (ys.map ic)]))\/(¬p/\X=some (.tup [.t .nil,.t .nil,Bo false],[]))
theorem l_id0(o:Zm)(hl:Le o.Steps)(ts:List (List Int)){t:List Int}(ht:inT t)(n i:Int)(p:Prop)(hc:GoodI (Zj1 o ts n (w (i+1))) p):∀k:Nat,k<=3->
  GoodI (Zf9 o ts t n i 3 k) (decF o t k\/p):=by
 have h3:=Z6v ht;refine down _ ?_ ?_
 .have e:(decF o t 3\/p)↔p:=⟨λh=>h.elim (λ⟨j,a,b,_⟩=>by omega) id,.inr⟩;rcases hc with⟨h,xs,ys,h1⟩|⟨h,h1⟩
  .exact .inl ⟨e.2 h,xs,ys,Z6o _ _ _ _ _ _ _ _ (by rw[if_neg (by omega)];exact h1)⟩
  .exact .inr ⟨λhc=>h (e.1 hc),Z6o _ _ _ _ _ _ _ _ (by rw[if_neg (by omega)];exact h1)⟩
 .intro k hk ih;have h4:=Zw (i:=k) (by omega);obtain⟨x,hx,x0,x7⟩:=Zbld ht hk;have wx:w (x+1)=x+1:=Z7 (by omega) (by omega);simp only[Yq,Yr]at ih;have step:decF o t k↔(decK o t k\/decF o t (k+1)):=by
   constructor
   .rintro⟨j,j1,j2,j3⟩;by_cases hj:j=k
    .subst hj;exact .inl j3
    .exact .inr ⟨j,by omega,j2,j3⟩
   .rintro(h|⟨j,j1,j2,j3⟩)
    .exact⟨k,Ye _,hk,h⟩
    .exact⟨j,by omega,j2,j3⟩
  have dk:decK o t k↔(x+1<=7/\tcl o (t.set k (x+1))<tcl o t):=by
   constructor
   .rintro⟨y,y1,y2,y3⟩;rw[hx]at y1;cases y1;exact⟨y2,y3⟩
   .rintro⟨y2,y3⟩;exact⟨x,hx,y2,y3⟩
  have pre:∀r,(if x+1<=7 then(if tcl o (t.set k (x+1))<tcl o t then some (.tup [L 1 (t.map ic),.own 0,Bo true],[.arr Z4 1 true ((t.set k (x+1)).map ic)])=some r
    else Zf9 o ts t n i 3 ((k:Int)+1)=some r)else Zf9 o ts t n i 3 ((k:Int)+1)=some r)->Zf9 o ts t n i 3 k=some r:=by
   intro r hr;refine Z6o _ _ _ _ _ _ _ _ ?_;rw[if_pos (by omega)];refine⟨by omega,x,by rw[Yg];exact hx,?_⟩;rw[show w ((k:Int)+1)=(k:Int)+1 from h4];by_cases h7:x=7
   .rw[if_pos h7];rw[if_neg (by omega)]at hr;exact hr
   .rw[if_neg h7];have h8:x+1<=7:=by omega
    rw[if_pos h8]at hr;refine⟨t,Zpt t (by omega),x,by rw[Yg];exact hx,?_⟩;rw[wx,Yg];exact⟨_,Zml o hl (Zblc ht hx h8),_,Zml o hl ht,hr⟩
  by_cases h7:x+1<=7/\tcl o (t.set k (x+1))<tcl o t
  .exact .inl ⟨.inl (step.2 (.inl (dk.2 h7))),_,_,pre _ (by rw[if_pos h7.1,if_pos h7.2])⟩
  .have go:∀r,Zf9 o ts t n i 3 ((k:Int)+1)=some r->Zf9 o ts t n i 3 k=some r:=by
    intro r hr;refine pre r ?_;split
    .split
     .rename_i a1 a2;exact absurd ⟨a1,a2⟩ h7
     .exact hr
    .exact hr
   have e:(decF o t k\/p)↔(decF o t (k+1)\/p):=by
    rw[step,dk];exact⟨λh=>h.imp (λh=>h.resolve_left h7) id,λh=>h.imp .inr id⟩
   rcases ih with⟨h,xs,ys,h1⟩|⟨h,h1⟩
   .exact .inl ⟨e.2 h,xs,ys,go _ h1⟩
   .exact .inr ⟨λhc=>h (e.1 hc),go _ h1⟩
theorem l_id1(o:Zm)(hl:Le o.Steps)(ts:List (List Int))(c:∀t∈ts,inT t)(hn:ts.length<=1000):∀i,i<=ts.length->GoodI (Zj1 o ts ts.length i) (∃t∈ts.drop i,decF o t 0):=by
 refine down _ ?_ ?_
 .refine .inr ⟨by simp,Zbj7 _ _ _ _ _ (by rw[if_neg (by omega)])⟩
 .intro i hi ih;have h4:=Zw (i:=i) (by omega);have ht:=c _ (Yf hi);simp only[Yq,Yr]at ih;have b:=l_id0 o hl ts ht ts.length i _ (by rw[show w ((i:Int)+1)=(i:Int)+1 from h4];exact ih) 0 (by omega);have go:∀r,Zf9 o ts ts[i] ts.length i 3 0=some r->Zj1 o ts ts.length i=some r:=by
   intro r hr;refine Zbj7 _ _ _ _ _ ?_;rw[if_pos (by omega)];refine⟨by omega,ts[i],by rw[Yg];exact Ya hi,?_⟩;rw[Z6v ht];exact hr
  have e:(∃t∈ts.drop i,decF o t 0)↔(decF o ts[i] 0\/∃t∈ts.drop (i+1),decF o t 0):=by
   rw[Yi hi];simp only[Y8,exists_eq_or_imp]
  rcases b with⟨h,xs,ys,h1⟩|⟨h,h1⟩
  .exact .inl ⟨e.2 h,xs,ys,go _ h1⟩
  .exact .inr ⟨λhc=>h (e.1 hc),go _ h1⟩
theorem Zt1(o:Zm)(hl:Le o.Steps)(hv:Zb0 o=true):GoodI (Zcj o) (decr o):=by
 have b:=l_id1 o hl allT (λt h=>(Zgh t).1 h) (by rw[Zps];omega) 0 (Yd _);have go:∀r,Zj1 o allT allT.length 0=some r->Zcj o=some r:=by
  intro r hr;refine Zbzg _ _ ⟨_,Zd9 o hl,?_⟩;rw[hv,if_pos rfl];exact⟨allT,Zpr,hr⟩
 have e:(∃t∈allT.drop 0,decF o t 0)↔decr o:=by
  simp only[Yk,Zgh,decr]
 rcases b with⟨h,xs,ys,h1⟩|⟨h,h1⟩
 .exact .inl ⟨e.1 h,xs,ys,go _ h1⟩
 .exact .inr ⟨λhc=>h (e.2 hc),go _ h1⟩
def Zbt(o:Zm):Prop:=Zb0 o=true/\¬decr o/\¬cheap o
def mOp(m:Ze)(k:Int):Zm:=if k=1 then m.Scan else if k=2 then m.Sort_ else if k=3 then m.Hash else if k=4 then m.Merge else m.Nested
abbrev LeM(m:Ze):Prop:=Le m.Scan.Steps/\Le m.Sort_.Steps/\Le m.Hash.Steps/\Le m.Merge.Steps/\Le m.Nested.Steps
theorem LeM.op{m:Ze}(h:LeM m)(k:Int):Le (mOp m k).Steps:=by
 unfold mOp;obtain⟨h1,h2,h3,h4,h5⟩:=h
 repeat' split
 all_goals assumption
@[simp] theorem Zpu(m:Ze)(k:Int):Zfh m k=some (.agg ((mOp m k).c.map .t),[]):=by
 refine Zbwk _ _ _ ?_;unfold mOp;by_cases h1:k=1
 .simp[h1]
 by_cases h2:k=2
 .simp[h2]
 by_cases h3:k=3
 .simp[h3]
 by_cases h4:k=4
 .simp[h4]
 .simp[h1,h2,h3,h4]
def Zck(m:Ze):Prop:=Zbt m.Scan/\Zbt m.Sort_/\Zbt m.Hash/\Zbt m.Merge/\Zbt m.Nested
theorem Zb1n(m:Ze)(hm:LeM m):∀k:Nat,k<=6->1<=k->
  ∃(xs ys:List Int) (n:Int),Znw m k=some (.tup [I n,.own 0,.own 1],[.arr Z4 1 true (xs.map ic),.arr Z4 1 true (ys.map ic)])/\(n=0↔∀j:Nat,k<=j->j<=5->Zbt (mOp m j)):=by
 refine down _ ?_ ?_
 .intro _;exact⟨[],[],0,Zbis _ _ _ (by rw[if_neg (by omega)]),⟨λ_ j h1 h2=>by omega,λ_=>rfl⟩⟩
 .intro k hk ih h1;have wk':w ((k:Int)+1)=(k:Int)+1:=Z7 (by omega) (by omega);have hl:=hm.op k;have step:(∀j:Nat,k<=j->j<=5->Zbt (mOp m j))↔(Zbt (mOp m k)/\∀j:Nat,k+1<=j->j<=5->Zbt (mOp m j)):=by
   constructor
   .exact λh=>⟨h k (Ye _) (by omega),λj a b=>h j (by omega) b⟩
   .rintro⟨a,b⟩ j c d;by_cases hj:j=k
    .subst hj;exact a
    .exact b j (by omega) d
  have kne:(k:Int)≠0:=by omega
  have pre:∀r,(∃v,Zih (mOp m k)=some (Bo v,[])/\_)->Znw m k=some r:=λr h=>Zbis _ _ _ (by rw[if_pos (by omega)];exact⟨mOp m k,Zpu m k,h⟩)
  rcases tf (Zb0 (mOp m k))with hv|hv
  .refine⟨[],[],k,pre _ ⟨false,by rw[Zt0 _ hl,hv],by rw[if_neg (by simp)]⟩,?_⟩;rw[step];exact⟨λh=>absurd h kne,λh=>by have:=h.1.1;rw[hv]at this;cases this⟩
  .obtain⟨xs,ys,f,d1,d2⟩:=Zb1l (mOp m k) hl hv
   cases f with
   |true =>
    refine⟨xs,ys,k,pre _ ⟨true,by rw[Zt0 _ hl,hv],?_⟩,?_⟩
    .rw[if_pos rfl];exact⟨xs,ys,true,d1,by rw[if_pos rfl]⟩
    .rw[step]
     exact⟨λh=>absurd h kne,λh=>absurd (d2.1 rfl) h.1.2.1⟩
   |false =>
    obtain⟨cs,c1,c2⟩:=Zb1m (mOp m k) hl hv;by_cases hc:cs=[]
    .obtain⟨xs',ys',n,i1,i2⟩:=ih (by omega);simp only[Yq,Yr]at i1;refine⟨xs',ys',n,pre _ ⟨true,by rw[Zt0 _ hl,hv],?_⟩,?_⟩
     .rw[if_pos rfl];refine⟨xs,ys,false,d1,?_⟩;rw[if_neg (by simp)];refine⟨cs,c1,?_⟩;rw[hc,if_neg (by simp),wk'];exact i1
     .rw[step,i2];refine⟨λh=>⟨⟨hv,λhd=>(by have:=d2.2 hd;cases this),λhch=>(c2.2 hch) hc⟩,h⟩,λh=>h.2⟩
    .refine⟨cs,[],k,pre _ ⟨true,by rw[Zt0 _ hl,hv],?_⟩,?_⟩
     .rw[if_pos rfl];refine⟨xs,ys,false,d1,?_⟩;rw[if_neg (by simp)];refine⟨cs,c1,?_⟩
      have:0<cs.length:=Ycb.2 hc
      rw[if_pos (by omega)]
     .rw[step];exact⟨λh=>absurd h kne,λh=>absurd (c2.1 hc) h.1.2.2⟩
theorem adm_iff(m:Ze):(∀j:Nat,1<=j->j<=5->Zbt (mOp m j))↔Zck m:=by
 constructor
 .intro h;exact⟨h 1 (by omega) (by omega),h 2 (by omega) (by omega),h 3 (by omega) (by omega),h 4 (by omega) (by omega),h 5 (by omega) (by omega)⟩
 .rintro⟨h1,h2,h3,h4,h5⟩ j a b
  have:j=1\/j=2\/j=3\/j=4\/j=5:=by omega
  rcases this with rfl|rfl|rfl|rfl|rfl
  .exact h1
  .exact h2
  .exact h3
  .exact h4
  .exact h5
open Classical in
theorem Zt2(m:Ze)(hm:LeM m):Zli m=some (Bo (decide (Zck m)),[]):=by
 obtain⟨xs,ys,n,h1,h2⟩:=Zb1n m hm 1 (by omega) (by omega);refine Zbws _ _ ⟨xs,ys,n,Zbwr _ _ h1,?_⟩;rw[adm_iff]at h2;by_cases h:Zck m
 .rw[decide_eq_true h,decide_eq_true (h2.2 h)]
 .rw[decide_eq_false h,decide_eq_false (λhc=>h (h2.1 hc))]
abbrev Zbq(X:Rs)(p:Prop):Prop:=(p/\X=some (.tup [I 0,.t .nil,.t .nil],[]))\/(¬p/\∃n:Int,n≠0/\((∃xs ys:List Int,X=some (.tup [I n,L 1 (xs.map ic),.own 0],[.arr Z4 1 true (ys.map ic)]))\/X=some (.tup [I n,.t .nil,.t .nil],[])\/∃xs:List Int,X=some (.tup [I n,L 1 (xs.map ic),.t .nil],[])))
theorem Zbq.of{X Y:Rs}{p:Prop}(h:Zbq X p)(e:∀r,X=some r->Y=some r):Zbq Y p:=by
 rcases h with⟨h,h1⟩|⟨h,n,hn,⟨xs,ys,h1⟩|h1|⟨xs,h1⟩⟩
 .exact .inl ⟨h,e _ h1⟩
 .exact .inr ⟨h,n,hn,.inl ⟨xs,ys,e _ h1⟩⟩
 .exact .inr ⟨h,n,hn,.inr (.inl (e _ h1))⟩
 .exact .inr ⟨h,n,hn,.inr (.inr ⟨xs,e _ h1⟩)⟩
theorem Zbq.congr{X:Rs}{p q:Prop}(h:Zbq X p)(e:p↔q):Zbq X q:=by
 rw[<-e];exact h
theorem Zt3{ts:List (List Int)}{j:Nat}(hj:j<ts.length){P:List Int->Prop}{p:Prop}:((∀t∈ts.drop j,P t)/\p)↔(P ts[j]/\(∀t∈ts.drop (j+1),P t)/\p):=by
 rw[Yi hj];simp only[Y8,forall_eq_or_imp,and_assoc]
theorem l_rf0(m:Ze)(hl:Le m.Scan.Steps)(ts:List (List Int))(c:∀t∈ts,inT t)(hn:ts.length<=1000)(kind:Int)(hk:kind≠0)(x1 x2:Int)(p:Prop)(hc:Zbq (Zbw m x1 (w (x2+1))) p):∀j,j<=ts.length->
  Zbq (Zj4 m ts kind x1 x2 ts.length j) ((∀t∈ts.drop j,¬tcl m.Scan t<1)/\p):=by
 refine down _ ?_ ?_
 .refine(hc.of λr hr=>Zbj8 _ _ _ _ _ _ _ _ (by rw[if_neg (by omega)];exact hr)).congr (by simp)
 .intro j hj ih;have h4:=Zw (i:=j) (by omega);have ht:=c _ (Yf hj);simp only[Yq,Yr]at ih;have pre:∀r,(if tcl m.Scan ts[j]<1 then some (.tup [I kind,L 1 (ts[j].map ic),.t .nil],[])=some r else Zj4 m ts kind x1 x2 ts.length ((j:Int)+1)=some r)->Zj4 m ts kind x1 x2 ts.length j=some r:=by
   intro r hr;refine Zbj8 _ _ _ _ _ _ _ _ ?_;rw[if_pos (by omega)];refine⟨by omega,ts[j],by rw[Yg];exact Ya hj,_,Zml _ hl ht,?_⟩;rw[show w ((j:Int)+1)=(j:Int)+1 from h4];exact hr
  refine Zbq.congr ?_ (Zt3 (P:=λt=>¬tcl m.Scan t<1) hj).symm;by_cases h:tcl m.Scan ts[j]<1
  .exact .inr ⟨λhc=>hc.1 h,kind,hk,.inr (.inr ⟨_,pre _ (by rw[if_pos h])⟩)⟩
  .exact(ih.of λr hr=>pre r (by rw[if_neg h];exact hr)).congr ⟨λhh=>⟨h,hh⟩,λhh=>hh.2⟩
theorem l_rf1(m:Ze)(hm:LeM m)(p:Prop)(hc:Zbq (Zbw m 5 1) p):Zbq (Zbw m 5 0) (Zbt m.Scan/\p):=by
 have hl:Le m.Scan.Steps:=by obtain⟨h1,h2,h3,h4,h5⟩:=hm;assumption
 have w1:w (1+0)=1:=by decide
 have w2:w (0+1)=1:=by decide
 have pre:∀r,(∃v,Zct m.Scan=some (Bo v,[])/\_)->Zbw m 5 0=some r:=λr h=>Zpk (by rw[if_pos (by omega),if_pos rfl];exact h)
 rcases tf (Zb0 m.Scan)with hv|hv
 .refine .inr ⟨λh=>(by have:=h.1.1;rw[hv]at this;cases this),1,by decide,.inr (.inl (pre _ ⟨false,by rw[Zd9 _ hl,hv],?_⟩))⟩;rw[if_neg (by simp),w1]
 rcases Zt1 m.Scan hl hv with⟨hd,xs,ys,d1⟩|⟨hd,d1⟩
 .refine .inr ⟨λh=>h.1.2.1 hd,1,by decide,.inl ⟨xs,ys,pre _ ⟨true,by rw[Zd9 _ hl,hv],?_⟩⟩⟩;rw[if_pos rfl,w1];exact .inr ⟨ys,xs,d1,rfl⟩
 .have b:=l_rf0 m hl allT (λt h=>(Zgh t).1 h) (by rw[Zps];omega) 1 (by decide) 5 0 p (by rw[w2];exact hc) 0 (Yd _);refine(b.of λr hr=>pre r ⟨true,by rw[Zd9 _ hl,hv],?_⟩).congr ?_
  .rw[if_pos rfl,w1];exact .inl ⟨d1,allT,Zpr,hr⟩
  .simp only[Yk,Zgh];constructor
   .rintro⟨h,hp⟩;exact⟨⟨hv,hd,λ⟨t,ht,hc⟩=>h t ht hc⟩,hp⟩
   .rintro⟨h,hp⟩;exact⟨λt ht hc=>h.2.2 ⟨t,ht,hc⟩,hp⟩
theorem l_rf0a(m:Ze)(hl:Le m.Sort_.Steps)(ts:List (List Int))(c:∀t∈ts,inT t)(hn:ts.length<=1000)(kind:Int)(hk:kind≠0)(x1 x2:Int)(p:Prop)(hc:Zbq (Zbw m x1 (w (x2+1))) p):∀j,j<=ts.length->
  Zbq (Zj5 m ts kind x1 x2 ts.length j) ((∀t∈ts.drop j,¬tcl m.Sort_ t<1)/\p):=by
 refine down _ ?_ ?_
 .refine(hc.of λr hr=>Zbj9 _ _ _ _ _ _ _ _ (by rw[if_neg (by omega)];exact hr)).congr (by simp)
 .intro j hj ih;have h4:=Zw (i:=j) (by omega);have ht:=c _ (Yf hj);simp only[Yq,Yr]at ih;have pre:∀r,(if tcl m.Sort_ ts[j]<1 then some (.tup [I kind,L 1 (ts[j].map ic),.t .nil],[])=some r else Zj5 m ts kind x1 x2 ts.length ((j:Int)+1)=some r)->Zj5 m ts kind x1 x2 ts.length j=some r:=by
   intro r hr;refine Zbj9 _ _ _ _ _ _ _ _ ?_;rw[if_pos (by omega)];refine⟨by omega,ts[j],by rw[Yg];exact Ya hj,_,Zml _ hl ht,?_⟩;rw[show w ((j:Int)+1)=(j:Int)+1 from h4];exact hr
  refine Zbq.congr ?_ (Zt3 (P:=λt=>¬tcl m.Sort_ t<1) hj).symm;by_cases h:tcl m.Sort_ ts[j]<1
  .exact .inr ⟨λhc=>hc.1 h,kind,hk,.inr (.inr ⟨_,pre _ (by rw[if_pos h])⟩)⟩
  .exact(ih.of λr hr=>pre r (by rw[if_neg h];exact hr)).congr ⟨λhh=>⟨h,hh⟩,λhh=>hh.2⟩
theorem l_rf1a(m:Ze)(hm:LeM m)(p:Prop)(hc:Zbq (Zbw m 5 2) p):Zbq (Zbw m 5 1) (Zbt m.Sort_/\p):=by
 have hl:Le m.Sort_.Steps:=by obtain⟨h1,h2,h3,h4,h5⟩:=hm;assumption
 have w1:w (1+1)=2:=by decide
 have w2:w (1+1)=2:=by decide
 have pre:∀r,(∃v,Zct m.Sort_=some (Bo v,[])/\_)->Zbw m 5 1=some r:=λr h=>Zpk (by rw[if_pos (by omega),if_neg (by omega),if_pos rfl];exact h)
 rcases tf (Zb0 m.Sort_)with hv|hv
 .refine .inr ⟨λh=>(by have:=h.1.1;rw[hv]at this;cases this),2,by decide,.inr (.inl (pre _ ⟨false,by rw[Zd9 _ hl,hv],?_⟩))⟩;rw[if_neg (by simp),w1]
 rcases Zt1 m.Sort_ hl hv with⟨hd,xs,ys,d1⟩|⟨hd,d1⟩
 .refine .inr ⟨λh=>h.1.2.1 hd,2,by decide,.inl ⟨xs,ys,pre _ ⟨true,by rw[Zd9 _ hl,hv],?_⟩⟩⟩;rw[if_pos rfl,w1];exact .inr ⟨ys,xs,d1,rfl⟩
 .have b:=l_rf0a m hl allT (λt h=>(Zgh t).1 h) (by rw[Zps];omega) 2 (by decide) 5 1 p (by rw[w2];exact hc) 0 (Yd _);refine(b.of λr hr=>pre r ⟨true,by rw[Zd9 _ hl,hv],?_⟩).congr ?_
  .rw[if_pos rfl,w1];exact .inl ⟨d1,allT,Zpr,hr⟩
  .simp only[Yk,Zgh];constructor
   .rintro⟨h,hp⟩;exact⟨⟨hv,hd,λ⟨t,ht,hc⟩=>h t ht hc⟩,hp⟩
   .rintro⟨h,hp⟩;exact⟨λt ht hc=>h.2.2 ⟨t,ht,hc⟩,hp⟩
theorem l_rf0b(m:Ze)(hl:Le m.Hash.Steps)(ts:List (List Int))(c:∀t∈ts,inT t)(hn:ts.length<=1000)(kind:Int)(hk:kind≠0)(x1 x2:Int)(p:Prop)(hc:Zbq (Zbw m x1 (w (x2+1))) p):∀j,j<=ts.length->
  Zbq (Zj6 m ts kind x1 x2 ts.length j) ((∀t∈ts.drop j,¬tcl m.Hash t<1)/\p):=by
 refine down _ ?_ ?_
 .refine(hc.of λr hr=>Zbka _ _ _ _ _ _ _ _ (by rw[if_neg (by omega)];exact hr)).congr (by simp)
 .intro j hj ih;have h4:=Zw (i:=j) (by omega);have ht:=c _ (Yf hj);simp only[Yq,Yr]at ih;have pre:∀r,(if tcl m.Hash ts[j]<1 then some (.tup [I kind,L 1 (ts[j].map ic),.t .nil],[])=some r else Zj6 m ts kind x1 x2 ts.length ((j:Int)+1)=some r)->Zj6 m ts kind x1 x2 ts.length j=some r:=by
   intro r hr;refine Zbka _ _ _ _ _ _ _ _ ?_;rw[if_pos (by omega)];refine⟨by omega,ts[j],by rw[Yg];exact Ya hj,_,Zml _ hl ht,?_⟩;rw[show w ((j:Int)+1)=(j:Int)+1 from h4];exact hr
  refine Zbq.congr ?_ (Zt3 (P:=λt=>¬tcl m.Hash t<1) hj).symm;by_cases h:tcl m.Hash ts[j]<1
  .exact .inr ⟨λhc=>hc.1 h,kind,hk,.inr (.inr ⟨_,pre _ (by rw[if_pos h])⟩)⟩
  .exact(ih.of λr hr=>pre r (by rw[if_neg h];exact hr)).congr ⟨λhh=>⟨h,hh⟩,λhh=>hh.2⟩
theorem l_rf1b(m:Ze)(hm:LeM m)(p:Prop)(hc:Zbq (Zbw m 5 3) p):Zbq (Zbw m 5 2) (Zbt m.Hash/\p):=by
 have hl:Le m.Hash.Steps:=by obtain⟨h1,h2,h3,h4,h5⟩:=hm;assumption
 have w1:w (1+2)=3:=by decide
 have w2:w (2+1)=3:=by decide
 have pre:∀r,(∃v,Zct m.Hash=some (Bo v,[])/\_)->Zbw m 5 2=some r:=λr h=>Zpk (by rw[if_pos (by omega),if_neg (by omega),if_neg (by omega),if_pos rfl];exact h)
 rcases tf (Zb0 m.Hash)with hv|hv
 .refine .inr ⟨λh=>(by have:=h.1.1;rw[hv]at this;cases this),3,by decide,.inr (.inl (pre _ ⟨false,by rw[Zd9 _ hl,hv],?_⟩))⟩;rw[if_neg (by simp),w1]
 rcases Zt1 m.Hash hl hv with⟨hd,xs,ys,d1⟩|⟨hd,d1⟩
 .refine .inr ⟨λh=>h.1.2.1 hd,3,by decide,.inl ⟨xs,ys,pre _ ⟨true,by rw[Zd9 _ hl,hv],?_⟩⟩⟩;rw[if_pos rfl,w1];exact .inr ⟨ys,xs,d1,rfl⟩
 .have b:=l_rf0b m hl allT (λt h=>(Zgh t).1 h) (by rw[Zps];omega) 3 (by decide) 5 2 p (by rw[w2];exact hc) 0 (Yd _);refine(b.of λr hr=>pre r ⟨true,by rw[Zd9 _ hl,hv],?_⟩).congr ?_
  .rw[if_pos rfl,w1];exact .inl ⟨d1,allT,Zpr,hr⟩
  .simp only[Yk,Zgh];constructor
   .rintro⟨h,hp⟩;exact⟨⟨hv,hd,λ⟨t,ht,hc⟩=>h t ht hc⟩,hp⟩
   .rintro⟨h,hp⟩;exact⟨λt ht hc=>h.2.2 ⟨t,ht,hc⟩,hp⟩
theorem l_rf0c(m:Ze)(hl:Le m.Merge.Steps)(ts:List (List Int))(c:∀t∈ts,inT t)(hn:ts.length<=1000)(kind:Int)(hk:kind≠0)(x1 x2:Int)(p:Prop)(hc:Zbq (Zbw m x1 (w (x2+1))) p):∀j,j<=ts.length->
  Zbq (Zj7 m ts kind x1 x2 ts.length j) ((∀t∈ts.drop j,¬tcl m.Merge t<1)/\p):=by
 refine down _ ?_ ?_
 .refine(hc.of λr hr=>Zbkb _ _ _ _ _ _ _ _ (by rw[if_neg (by omega)];exact hr)).congr (by simp)
 .intro j hj ih;have h4:=Zw (i:=j) (by omega);have ht:=c _ (Yf hj);simp only[Yq,Yr]at ih;have pre:∀r,(if tcl m.Merge ts[j]<1 then some (.tup [I kind,L 1 (ts[j].map ic),.t .nil],[])=some r else Zj7 m ts kind x1 x2 ts.length ((j:Int)+1)=some r)->Zj7 m ts kind x1 x2 ts.length j=some r:=by
   intro r hr;refine Zbkb _ _ _ _ _ _ _ _ ?_;rw[if_pos (by omega)];refine⟨by omega,ts[j],by rw[Yg];exact Ya hj,_,Zml _ hl ht,?_⟩;rw[show w ((j:Int)+1)=(j:Int)+1 from h4];exact hr
  refine Zbq.congr ?_ (Zt3 (P:=λt=>¬tcl m.Merge t<1) hj).symm;by_cases h:tcl m.Merge ts[j]<1
  .exact .inr ⟨λhc=>hc.1 h,kind,hk,.inr (.inr ⟨_,pre _ (by rw[if_pos h])⟩)⟩
  .exact(ih.of λr hr=>pre r (by rw[if_neg h];exact hr)).congr ⟨λhh=>⟨h,hh⟩,λhh=>hh.2⟩
theorem l_rf1c(m:Ze)(hm:LeM m)(p:Prop)(hc:Zbq (Zbw m 5 4) p):Zbq (Zbw m 5 3) (Zbt m.Merge/\p):=by
 have hl:Le m.Merge.Steps:=by obtain⟨h1,h2,h3,h4,h5⟩:=hm;assumption
 have w1:w (1+3)=4:=by decide
 have w2:w (3+1)=4:=by decide
 have pre:∀r,(∃v,Zct m.Merge=some (Bo v,[])/\_)->Zbw m 5 3=some r:=λr h=>Zpk (by rw[if_pos (by omega),if_neg (by omega),if_neg (by omega),if_neg (by omega),if_pos rfl];exact h)
 rcases tf (Zb0 m.Merge)with hv|hv
 .refine .inr ⟨λh=>(by have:=h.1.1;rw[hv]at this;cases this),4,by decide,.inr (.inl (pre _ ⟨false,by rw[Zd9 _ hl,hv],?_⟩))⟩;rw[if_neg (by simp),w1]
 rcases Zt1 m.Merge hl hv with⟨hd,xs,ys,d1⟩|⟨hd,d1⟩
 .refine .inr ⟨λh=>h.1.2.1 hd,4,by decide,.inl ⟨xs,ys,pre _ ⟨true,by rw[Zd9 _ hl,hv],?_⟩⟩⟩;rw[if_pos rfl,w1];exact .inr ⟨ys,xs,d1,rfl⟩
 .have b:=l_rf0c m hl allT (λt h=>(Zgh t).1 h) (by rw[Zps];omega) 4 (by decide) 5 3 p (by rw[w2];exact hc) 0 (Yd _);refine(b.of λr hr=>pre r ⟨true,by rw[Zd9 _ hl,hv],?_⟩).congr ?_
  .rw[if_pos rfl,w1];exact .inl ⟨d1,allT,Zpr,hr⟩
  .simp only[Yk,Zgh];constructor
   .rintro⟨h,hp⟩;exact⟨⟨hv,hd,λ⟨t,ht,hc⟩=>h t ht hc⟩,hp⟩
   .rintro⟨h,hp⟩;exact⟨λt ht hc=>h.2.2 ⟨t,ht,hc⟩,hp⟩
theorem l_rf0d(m:Ze)(hl:Le m.Nested.Steps)(ts:List (List Int))(c:∀t∈ts,inT t)(hn:ts.length<=1000)(kind:Int)(hk:kind≠0)(x1 x2:Int)(p:Prop)(hc:Zbq (Zbw m x1 (w (x2+1))) p):∀j,j<=ts.length->
  Zbq (Zj8 m ts kind x1 x2 ts.length j) ((∀t∈ts.drop j,¬tcl m.Nested t<1)/\p):=by
 refine down _ ?_ ?_
 .refine(hc.of λr hr=>Zbkc _ _ _ _ _ _ _ _ (by rw[if_neg (by omega)];exact hr)).congr (by simp)
 .intro j hj ih;have h4:=Zw (i:=j) (by omega);have ht:=c _ (Yf hj);simp only[Yq,Yr]at ih;have pre:∀r,(if tcl m.Nested ts[j]<1 then some (.tup [I kind,L 1 (ts[j].map ic),.t .nil],[])=some r else Zj8 m ts kind x1 x2 ts.length ((j:Int)+1)=some r)->Zj8 m ts kind x1 x2 ts.length j=some r:=by
   intro r hr;refine Zbkc _ _ _ _ _ _ _ _ ?_;rw[if_pos (by omega)];refine⟨by omega,ts[j],by rw[Yg];exact Ya hj,_,Zml _ hl ht,?_⟩;rw[show w ((j:Int)+1)=(j:Int)+1 from h4];exact hr
  refine Zbq.congr ?_ (Zt3 (P:=λt=>¬tcl m.Nested t<1) hj).symm;by_cases h:tcl m.Nested ts[j]<1
  .exact .inr ⟨λhc=>hc.1 h,kind,hk,.inr (.inr ⟨_,pre _ (by rw[if_pos h])⟩)⟩
  .exact(ih.of λr hr=>pre r (by rw[if_neg h];exact hr)).congr ⟨λhh=>⟨h,hh⟩,λhh=>hh.2⟩
theorem l_rf1d(m:Ze)(hm:LeM m)(p:Prop)(hc:Zbq (Zbw m 5 5) p):Zbq (Zbw m 5 4) (Zbt m.Nested/\p):=by
 have hl:Le m.Nested.Steps:=by obtain⟨h1,h2,h3,h4,h5⟩:=hm;assumption
 have w1:w (1+4)=5:=by decide
 have w2:w (4+1)=5:=by decide
 have pre:∀r,(∃v,Zct m.Nested=some (Bo v,[])/\_)->Zbw m 5 4=some r:=λr h=>Zpk (by rw[if_pos (by omega),if_neg (by omega),if_neg (by omega),if_neg (by omega),if_neg (by omega),if_pos rfl];exact h)
 rcases tf (Zb0 m.Nested)with hv|hv
 .refine .inr ⟨λh=>(by have:=h.1.1;rw[hv]at this;cases this),5,by decide,.inr (.inl (pre _ ⟨false,by rw[Zd9 _ hl,hv],?_⟩))⟩;rw[if_neg (by simp),w1]
 rcases Zt1 m.Nested hl hv with⟨hd,xs,ys,d1⟩|⟨hd,d1⟩
 .refine .inr ⟨λh=>h.1.2.1 hd,5,by decide,.inl ⟨xs,ys,pre _ ⟨true,by rw[Zd9 _ hl,hv],?_⟩⟩⟩;rw[if_pos rfl,w1];exact .inr ⟨ys,xs,d1,rfl⟩
 .have b:=l_rf0d m hl allT (λt h=>(Zgh t).1 h) (by rw[Zps];omega) 5 (by decide) 5 4 p (by rw[w2];exact hc) 0 (Yd _);refine(b.of λr hr=>pre r ⟨true,by rw[Zd9 _ hl,hv],?_⟩).congr ?_
  .rw[if_pos rfl,w1];exact .inl ⟨d1,allT,Zpr,hr⟩
  .simp only[Yk,Zgh];constructor
   .rintro⟨h,hp⟩;exact⟨⟨hv,hd,λ⟨t,ht,hc⟩=>h t ht hc⟩,hp⟩
   .rintro⟨h,hp⟩;exact⟨λt ht hc=>h.2.2 ⟨t,ht,hc⟩,hp⟩
open Classical in
theorem Zblf(m:Ze)(hm:LeM m):Zox m=some (Bo (decide (Zck m)),[]):=by
 have h5:Zbq (Zbw m 5 5) True:=.inl ⟨trivial,Zpk (by rw[if_neg (by omega)])⟩;have h0:=l_rf1 m hm _ (l_rf1a m hm _ (l_rf1b m hm _ (l_rf1c m hm _ (l_rf1d m hm _ h5))));have hop:Zhw m=some (.bsl 1 5,[.box (m.c.map .t),.box [.ptr 0 0,.ptr 0 6,.ptr 0 12,.ptr 0 18,.ptr 0 24]]):=Zbj1 _ _ rfl;have hR:Zbq (Zow m) (Zck m):=(h0.of λr hr=>Zbzh _ _ ⟨hop,hr⟩).congr (by simp[Zck]);refine Zbzi _ _ ?_;rcases hR with⟨h,h1⟩|⟨h,n,hn,⟨xs,ys,h1⟩|h1|⟨xs,h1⟩⟩
 .rw[decide_eq_true h];exact .inr (.inl ⟨0,h1,rfl⟩)
 .rw[decide_eq_false h];exact .inl ⟨ys,n,xs,h1,by rw[decide_eq_false hn]⟩
 .rw[decide_eq_false h];exact .inr (.inl ⟨n,h1,by rw[decide_eq_false hn]⟩)
 .rw[decide_eq_false h];exact .inr (.inr ⟨n,xs,h1,by rw[decide_eq_false hn]⟩)
def popc(x:Int):Nat:=(if andI (shrI x 0) 1=1 then 1 else 0)+(if andI (shrI x 1) 1=1 then 1 else 0)+(if andI (shrI x 2) 1=1 then 1 else 0)+(if andI (shrI x 3) 1=1 then 1 else 0)
abbrev M16(x:Int):Prop:=0<=x/\x<16
theorem m16{x:Int}(h:M16 x):∃a:Fin 16,x=(a.1:Int):=⟨⟨x.toNat,by omega⟩,by simp;omega⟩
set_option maxRecDepth 100000 in
theorem f_or:∀a b:Fin 16,M16 (orI a.1 b.1)/\andI a.1 (orI a.1 b.1)=a.1/\(orI a.1 b.1=a.1\/popc a.1+1<=popc (orI a.1 b.1)):=by decide
set_option maxRecDepth 100000 in
theorem f_and:∀a b:Fin 16,M16 (andI a.1 b.1)/\andI (andI a.1 b.1) b.1=andI a.1 b.1/\(andI (a.1:Int) b.1=a.1->popc a.1<=popc b.1/\(popc b.1<=popc a.1->a.1=b.1)):=by decide
set_option maxRecDepth 1000000 in
theorem f_sub:∀a b c:Fin 16,andI (a.1:Int) c.1=a.1->andI (b.1:Int) c.1=b.1->andI (orI a.1 b.1) c.1=orI a.1 b.1:=by decide
set_option maxRecDepth 100000 in
theorem f_bit:∀(a:Fin 16) (i:Fin 4),(andI (shrI a.1 i.1) 1=0↔¬andI (shrI a.1 i.1) 1=1):=by decide
set_option maxRecDepth 100000 in
theorem f_shl:∀(i j:Fin 4),(andI (shrI (shlI 1 i.1) j.1) 1=1↔i=j)/\M16 (shlI 1 i.1):=by decide
set_option maxRecDepth 100000 in
theorem f_low:∀a:Fin 16,M16 (andI a.1 (w (0-a.1)))/\andI (andI a.1 (w (0-a.1))) a.1=andI a.1 (w (0-(a.1:Int))):=by decide
set_option maxRecDepth 100000 in
theorem f_pop:∀(a:Fin 16),(a.1<2->popc a.1<=1)/\(a.1<4->popc a.1<=2)/\(a.1<8->popc a.1<=3)/\popc a.1<=4:=by decide
theorem f_bits:∀a b c d:Bool,M16 (bit4 a b c d):=by decide
def Zdq(qa:List Atom)(m:Int):Nat->Bool:=λi=>decide (i<qa.length) && (!Z1 m i && shr qa (shlI 1 i) m)
def Zg7(qa:List Atom)(m:Int):Int:=Zbj (Zdq qa m)
theorem nearM_16(qa:List Atom)(m:Int):M16 (Zg7 qa m):=f_bits _ _ _ _
theorem Zb1o{i j:Nat}(hi:i<4)(hj:j<4):Z1 (shlI 1 i) j=decide (i=j):=by
 have:=(f_shl ⟨i,hi⟩ ⟨j,hj⟩).1;simp only[Z1,Fin.mk.injEq]at this|-;rw[Ybo,decide_eq_true_eq,decide_eq_true_eq];exact this
theorem Zyr{m:Int}(hm:M16 m){i:Nat}(hi:i<4):andI (shrI m i) 1=0↔Z1 m i=false:=by
 obtain⟨a,rfl⟩:=m16 hm;have:=f_bit a ⟨i,hi⟩;simp only at this;rw[this,Z1,decide_eq_false_iff_not]
theorem hasV_one(qa:List Atom)(h4:qa.length<=4){i:Nat}(hi:i<qa.length)(u:Int):∀k,k<=qa.length->hasV (shlI 1 i) (qa.drop k) k u=(decide (k<=i) && has qa[i].Vars u):=by
 refine down _ ?_ ?_
 .rw[Yy,hasV,decide_eq_false (by omega)];rfl
 .intro k hk ih;rw[Z0v _ hk,ih,Zb1o (by omega) (by omega)];by_cases e:i=k
  .subst e;rw[decide_eq_true rfl,decide_eq_true (Ye _),decide_eq_false (by omega)];simp
  .by_cases e2:k<=i
   .rw[decide_eq_false e,decide_eq_true (by omega),decide_eq_true e2];simp
   .rw[decide_eq_false e,decide_eq_false (by omega),decide_eq_false e2];simp
theorem pV_one(qa:List Atom)(h4:qa.length<=4){i:Nat}(hi:i<qa.length)(u:Nat):pV (shlI 1 i) qa u=has qa[i].Vars u:=by
 have:=hasV_one qa h4 hi u 0 (Yd _);simpa[pV]using this
theorem shr_one{n:Int}{qa:List Atom}(h:Zn n qa=true){i:Nat}(hi:i<qa.length)(m:Int):shr qa (shlI 1 i) m=qa[i].Vars.any (λv=>has (varL m qa n.toNat) v):=by
 have h4:=(Zcs h).2;rw[Ybo,shr,List.any_eq_true,List.any_eq_true];simp only[Zqq h,pV_one qa h4 hi,Yc,Ybp];constructor
 .rintro⟨u,hu,h1,h2⟩;refine⟨(u:Int),Zjg.1 h1,?_⟩;simp only[vin,Yc];exact⟨by simp[inR];omega,by simpa using h2⟩
 .rintro⟨v,hv,h2⟩;have h3:=Zk4 h _ (Yf hi) v hv;simp[inR]at h3;simp only[vin,Yc]at h2;refine⟨v.toNat,by omega,?_,h2.2⟩;rw[Zjg,Yci h3.1];exact hv
theorem Zblg{qa:List Atom}{m:Int}{i:Nat}(hi:i<4)(h:Zdq qa m i=true):addV (λu=>decide (u<i) && Zdq qa m u) [(i:Int)]=λu=>decide (u<i+1) && Zdq qa m u:=by
 funext u;simp only[addV,has];by_cases e:u=i
 .subst e;rw[decide_eq_true (by omega:u<u+1),h];simp
 .by_cases e2:u<i
  .rw[decide_eq_true e2,decide_eq_true (by omega)]
   have:¬((u:Int)=(i:Int)):=by omega
   simp[this]
  .rw[decide_eq_false e2,decide_eq_false (by omega)]
   have:¬((u:Int)=(i:Int)):=by omega
   simp[this]
theorem Zys{qa:List Atom}{m:Int}{i:Nat}(h:Zdq qa m i=false):(λu=>decide (u<i) && Zdq qa m u)=λu=>decide (u<i+1) && Zdq qa m u:=by
 funext u;by_cases e:u=i
 .subst e;rw[h];simp
 .by_cases e2:u<i
  .rw[decide_eq_true e2,decide_eq_true (by omega)]
  .rw[decide_eq_false e2,decide_eq_false (by omega)]
theorem Zblh(qa:List Atom)(m:Int):(λu=>decide (u<qa.length) && Zdq qa m u)=Zdq qa m:=by
 funext u;unfold Zdq;by_cases e:u<qa.length
 .rw[decide_eq_true e];simp
 .rw[decide_eq_false e];simp
theorem Zb1p(q:Zc)(hq:LeQ q)(hv:Zn q.Zf q.Atoms=true)(m:Int)(hm:M16 m):∀i,i<=q.Atoms.length->
  Zl2 (varL m q.Atoms q.Zf.toNat) m (Zbj λu=>decide (u<i) && Zdq q.Atoms m u) q.Atoms q.Atoms.length i=some (I (Zg7 q.Atoms m),[]):=by
 have h4:=(Zcs hv).2;refine down _ ?_ ?_
 .refine Zbjy _ _ _ _ _ _ _ ?_;rw[if_neg (by omega),Zblh];rfl
 .intro i hi ih;have hi4:i<4:=by omega
  have hinc:=Zw (i:=i) (by omega);simp only[Yq,Yr]at ih;refine Zbjy _ _ _ _ _ _ _ ?_;rw[if_pos (by omega)];refine⟨by omega,q.Atoms[i],by rw[Yg];exact Ya hi,by omega,?_⟩;rw[show w ((i:Int)+1)=(i:Int)+1 from hinc];have hn:Zdq q.Atoms m i=(!Z1 m i && q.Atoms[i].Vars.any (λv=>has (varL m q.Atoms q.Zf.toNat) v)):=by
   unfold Zdq;rw[decide_eq_true hi,shr_one hv hi];simp
  have hvars:=Zk3 hv _ (Yf hi);have hvl:=Zm6 m q.Atoms q.Zf.toNat;have hvn:=Zf1 hv;rcases tf (Z1 m i)with e1|e1
  .rw[if_pos ((Zyr hm hi4).2 e1)];refine⟨_,x_both q.Atoms[i].Vars (varL m q.Atoms q.Zf.toNat) (by omega) (by omega),?_⟩;rcases tf (q.Atoms[i].Vars.any (λv=>has (varL m q.Atoms q.Zf.toNat) v))with e2|e2
   .have e3:q.Atoms[i].Vars.filter (has (varL m q.Atoms q.Zf.toNat))=[]:=by
     rw[Ycz];intro a ha;have:=Ycs.1 e2 a ha;simpa using this
    rw[e3,if_neg (by simp),Zys (by rw[hn,e2];simp)];exact ih
   .have e3:0<(q.Atoms[i].Vars.filter (has (varL m q.Atoms q.Zf.toNat))).length:=by
     obtain⟨v,hv1,hv2⟩:=List.any_eq_true.1 e2;exact List.length_pos_of_mem (Y4.2 ⟨hv1,hv2⟩)
    rw[if_pos (by omega),Zvr _ (by simp[inR];omega),Zblg hi4 (by rw[hn,e1,e2];rfl)];exact ih
  .rw[if_neg (λhc=>by rw[(Zyr hm hi4).1 hc]at e1;cases e1),Zys (by rw[hn,e1];rfl)];exact ih
theorem Zbli(q:Zc)(hq:LeQ q)(hv:Zn q.Zf q.Atoms=true)(m:Int)(hm:M16 m):Zxn q m=some (I (Zg7 q.Atoms m),[]):=by
 have b:=Zb1p q hq hv m hm 0 (Yd _);refine Zby8 _ _ _ ⟨_,Ztz q m hq hv,?_⟩;simpa[Zbj,bit4]using b
theorem l_near(q:Zc)(hq:LeQ q)(hv:Zn q.Zf q.Atoms=true)(m:Int)(hm:M16 m):∀i,i<=q.Atoms.length->
  Zld q m (Zbj λu=>decide (u<i) && Zdq q.Atoms m u) (Zbj (pV m q.Atoms)) i=some (I (Zg7 q.Atoms m),[]):=by
 have h4:=(Zcs hv).2;refine down _ ?_ ?_
 .refine Zbif _ _ _ _ _ _ ?_;rw[if_neg (by omega),Zblh];rfl
 .intro i hi ih;have hi4:i<4:=by omega
  have hinc:=Zw (i:=i) (by omega);simp only[Yq,Yr]at ih;refine Zbif _ _ _ _ _ _ ?_;rw[if_pos (by omega)];refine⟨by omega,?_⟩;rw[show w ((i:Int)+1)=(i:Int)+1 from hinc];have hn:Zdq q.Atoms m i=(!Z1 m i && shr q.Atoms (shlI 1 i) m):=by
   unfold Zdq;rw[decide_eq_true hi];simp
  rcases tf (Z1 m i)with e1|e1
  .rw[if_pos ((Zyr hm hi4).2 e1)];refine⟨_,Zpm q (shlI 1 i) hq (Zk4 hv),?_⟩;rcases tf (shr q.Atoms (shlI 1 i) m)with e2|e2
   .rw[if_pos ((Z0x q.Atoms (shlI 1 i) m).2 e2),Zys (by rw[hn,e2];simp)];exact ih
   .rw[if_neg (λhc=>by rw[(Z0x q.Atoms (shlI 1 i) m).1 hc]at e2;cases e2),Zvr _ (by simp[inR];omega),Zblg hi4 (by rw[hn,e1,e2];rfl)];exact ih
  .rw[if_neg (λhc=>by rw[(Zyr hm hi4).1 hc]at e1;cases e1),Zys (by rw[hn,e1];rfl)];exact ih
theorem x_near(q:Zc)(hq:LeQ q)(hv:Zn q.Zf q.Atoms=true)(m:Int)(hm:M16 m):Zv5 q m=some (I (Zg7 q.Atoms m),[]):=by
 have b:=l_near q hq hv m hm 0 (Yd _);refine Zbwb _ _ _ ⟨_,Zpm q m hq (Zk4 hv),?_⟩;simpa[Zbj,bit4]using b
def Zgi(qa:List Atom)(c x:Int):Int:=orI x (andI (Zg7 qa x) c)
def Zi1(qa:List Atom)(c:Int):Nat->Int->Int
 |0,x=>x
 |n+1,x=>Zi1 qa c n (Zgi qa c x)
def conn(qa:List Atom)(c:Int):Bool:=decide (Zi1 qa c qa.length (andI c (w (0-c)))=c)
abbrev SubM(x mask:Int):Prop:=andI x mask=x
theorem Z6x{qa:List Atom}{mask x:Int}(hm:M16 mask)(hx:M16 x)(hs:SubM x mask):M16 (Zgi qa mask x)/\SubM (Zgi qa mask x) mask/\(Zgi qa mask x=x\/popc x+1<=popc (Zgi qa mask x)):=by
 obtain⟨a,rfl⟩:=m16 hx;obtain⟨b,rfl⟩:=m16 hm;obtain⟨c,hc⟩:=m16 (nearM_16 qa (a.1:Int));unfold Zgi;rw[hc];obtain⟨d1,d2,_⟩:=f_and c b;obtain⟨d,hd⟩:=m16 d1;rw[hd]at d2|-;obtain⟨e1,_,e3⟩:=f_or a d;exact⟨e1,f_sub a d b hs d2,e3⟩
theorem Zblj{qa:List Atom}{mask x:Int}(h:Zgi qa mask x=x):∀n,Zi1 qa mask n x=x
 |0=>rfl
 |n+1=>by rw[Zi1,h];exact Zblj h n
theorem Zb1q(q:Zc)(hq:LeQ q)(hv:Zn q.Zf q.Atoms=true)(mask:Int)(hm:M16 mask)(hp:popc mask<=q.Atoms.length):∀(f:Nat) (x:Int),M16 x->SubM x mask->q.Atoms.length<=popc x+f->
  Zss q mask x=some (Bo (decide (Zi1 q.Atoms mask f x=mask)),[]):=by
 intro f
 induction f with
 |zero =>
  intro x hx hs hf;have hxm:x=mask:=by
   obtain⟨a,rfl⟩:=m16 hx;obtain⟨b,rfl⟩:=m16 hm;have:=((f_and a b).2.2 hs).2 (by omega);omega
  obtain⟨s1,s2,s3⟩:=Z6x (qa:=q.Atoms) hm hx hs;have hfix:Zgi q.Atoms mask x=x:=by
   rcases s3 with h|h
   .exact h
   .obtain⟨a,ha⟩:=m16 s1;obtain⟨b,rfl⟩:=m16 hm;rw[ha]at s2 h;have:=((f_and a b).2.2 s2).1;rw[hxm]at h;omega
  refine Zbjz _ _ _ _ ⟨_,Zbli q hq hv x hx,?_⟩
  rw[if_pos (show orI x (andI (Zg7 q.Atoms x) mask)=x from hfix)];rfl
 |succ f ih =>
  intro x hx hs hf;obtain⟨s1,s2,s3⟩:=Z6x (qa:=q.Atoms) hm hx hs;refine Zbjz _ _ _ _ ⟨_,Zbli q hq hv x hx,?_⟩;by_cases h:Zgi q.Atoms mask x=x
  .rw[if_pos (show orI x (andI (Zg7 q.Atoms x) mask)=x from h),Zblj h]
  .rw[if_neg (show ¬orI x (andI (Zg7 q.Atoms x) mask)=x from h)];exact ih (Zgi q.Atoms mask x) s1 s2 (by rcases s3 with h'|h';exact absurd h' h;omega)
theorem l_joined(q:Zc)(hq:LeQ q)(hv:Zn q.Zf q.Atoms=true)(c:Int)(hm:M16 c):∀i,i<=q.Atoms.length->∀x,M16 x->SubM x c->
  Zrb q c x i=some (Bo (decide (Zi1 q.Atoms c (q.Atoms.length-i) x=c)),[]):=by
 have h4:=(Zcs hv).2;refine down _ ?_ ?_
 .intro x _ _;refine Zbig _ _ _ _ _ ?_;rw[if_neg (by omega),Ycd];rfl
 .intro i hi ih x hx hs;obtain⟨s1,s2,s3⟩:=Z6x (qa:=q.Atoms) hm hx hs;have hinc:=Zw (i:=i) (by omega);refine Zbig _ _ _ _ _ ?_;rw[if_pos (by omega)];refine⟨_,x_near q hq hv x hx,?_⟩;have ih:=ih _ s1 s2;simp only[Yq,Yr]at ih;rw[show w ((i:Int)+1)=(i:Int)+1 from hinc,show q.Atoms.length-i=(q.Atoms.length-(i+1))+1 by omega,Zi1];exact ih
abbrev MQ(qa:List Atom)(m:Int):Prop:=0<=m/\m<2 ^ qa.length
theorem MQ.m16{n:Int}{qa:List Atom}{m:Int}(hv:Zn n qa=true)(h:MQ qa m):M16 m/\popc m<=qa.length:=by
 have hl:=Zcs hv;obtain⟨h1,h2⟩:=h;have e:qa.length=1\/qa.length=2\/qa.length=3\/qa.length=4:=by omega
 have k16:M16 m:=by rcases e with e|e|e|e<;>rw[e]at h2<;>exact⟨h1,by omega⟩
 refine⟨k16,?_⟩;obtain⟨a,rfl⟩:=Go.Proofs.YtcfaekfjkeobhaaGreat.m16 k16;obtain⟨p1,p2,p3,p4⟩:=f_pop a;rcases e with e|e|e|e<;>rw[e]at h2|-
 .exact p1 (by omega)
 .exact p2 (by omega)
 .exact p3 (by omega)
 .exact p4
theorem Zyt(q:Zc)(hq:LeQ q)(hv:Zn q.Zf q.Atoms=true)(m:Int)(hm:MQ q.Atoms m)(h0:m≠0):Zip q m=some (Bo (conn q.Atoms m),[]):=by
 obtain⟨k1,k2⟩:=hm.m16 hv;refine Zbj0 _ _ _ ?_;rw[if_neg h0];obtain⟨a,rfl⟩:=m16 k1;obtain⟨l1,l2⟩:=f_low a;exact Zb1q q hq hv _ k1 k2 q.Atoms.length _ l1 l2 (by omega)
theorem Zyu(q:Zc)(hq:LeQ q)(hv:Zn q.Zf q.Atoms=true)(m:Int)(hm:MQ q.Atoms m):Zjn q m=some (Bo (conn q.Atoms m),[]):=by
 obtain⟨k1,k2⟩:=hm.m16 hv;refine Zbwc _ _ _ ?_;obtain⟨a,rfl⟩:=m16 k1;obtain⟨l1,l2⟩:=f_low a;exact l_joined q hq hv _ k1 0 (Yd _) _ l1 l2
theorem Zg8{n:Int}{qa:List Atom}(hv:Zn n qa=true):Zx n qa=2 ^ qa.length-1:=by
 unfold Zx;rw[if_pos hv,(Zjh hv).2.1]
theorem Zblk(q:Zc)(hq:LeQ q)(m:Int):Zor q m=some (Bo (Zn q.Zf q.Atoms && inR m 0 (Zx q.Zf q.Atoms)),[]):=by
 refine Zby7 _ _ _ ⟨_,Ztx q hq,?_⟩;rcases tf (Zn q.Zf q.Atoms)with e|e
 .rw[e];simp
 .rw[e,if_pos rfl];refine⟨by omega,_,Zdz _ _ _,?_⟩;rw[show w (shlI 1 (q.Atoms.length:Int)-1)=shlI 1 (q.Atoms.length:Int)-1 from(Zjh e).2.2.1];unfold Zx;rw[if_pos e];simp
theorem Zbll(q:Zc)(hq:LeQ q)(m:Int):Znm q m=some (Bo (Zn q.Zf q.Atoms && inR m 0 (Zx q.Zf q.Atoms)),[]):=by
 refine Zbv9 _ _ _ ⟨_,Zge q hq,?_⟩;rcases tf (Zn q.Zf q.Atoms)with e|e
 .rw[e];simp
 .rw[e,if_pos rfl];refine⟨by omega,_,Zcu _ _ _,?_⟩;rw[show w (shlI 1 (q.Atoms.length:Int)-1)=shlI 1 (q.Atoms.length:Int)-1 from(Zjh e).2.2.1];unfold Zx;rw[if_pos e];simp
theorem Zyv{n:Int}{qa:List Atom}(hv:Zn n qa=true){m:Int}(h:inR m 0 (Zx n qa)=true):MQ qa m:=by
 rw[Zg8 hv]at h;simp[inR]at h;exact⟨h.1,by omega⟩
def Zcc(n:Int)(qa:List Atom)(m:Int):Bool:=Zn n qa && inR m 0 (Zx n qa) && decide (m≠0) && conn qa m
theorem Zblm(q:Zc)(hq:LeQ q)(m:Int):Zl3 q m=some (Bo (Zcc q.Zf q.Atoms m),[]):=by
 refine Zby9 _ _ _ ⟨_,Zblk q hq m,?_⟩;unfold Zcc;rcases tf (Zn q.Zf q.Atoms)with e|e
 .rw[e];simp
 rcases tf (inR m 0 (Zx q.Zf q.Atoms))with e1|e1
 .rw[e,e1];simp
 rw[e,e1,if_pos (by rfl)];have hm:=Zyv e e1;by_cases h0:m=0
 .refine⟨false,Zbj0 _ _ _ (by rw[if_pos h0]),?_⟩;simp[h0]
 .exact⟨_,Zyt q hq e m hm h0,by simp[h0]⟩
theorem Zkh(q:Zc)(hq:LeQ q)(m:Int):Zgu q m=some (Bo (Zcc q.Zf q.Atoms m),[]):=by
 refine Zbwd _ _ _ ⟨_,Zbll q hq m,?_⟩;unfold Zcc;rcases tf (Zn q.Zf q.Atoms)with e|e
 .rw[e];simp
 rcases tf (inR m 0 (Zx q.Zf q.Atoms))with e1|e1
 .rw[e,e1];simp
 rw[e,e1,if_pos (by rfl)];have hm:=Zyv e e1;by_cases h0:m=0
 .rw[if_neg (by omega)];simp[h0]
 .rw[if_pos (by have:=hm.1;omega)];exact⟨_,Zyu q hq e m hm,by simp[h0]⟩
def Zgj(qa:List Atom)(k n:Nat):List Int:=((List.range' k n).filter (λm:Nat=>conn qa (m:Int))).map (λm:Nat=>(m:Int))
theorem Zbln{qa:List Atom}{k n:Nat}:Zgj qa k (n+1)=(if conn qa (k:Int)=true then[(k:Int)]else[])++Zgj qa (k+1) n:=by
 unfold Zgj;rw[Yc1,Yct];split<;>simp
theorem Zb1r{qa:List Atom}{k n:Nat}:(Zgj qa k n).length<=n:=by
 unfold Zgj;rw[Yb1];exact Y0 (Ybr _ _) (by simp)
theorem Zg9(k:Nat):((2 ^ k:Nat):Int)=2 ^ k:=by simp
theorem Zb1s(q:Zc)(hq:LeQ q)(hv:Zn q.Zf q.Atoms=true):∀k:Nat,k<=2 ^ q.Atoms.length->1<=k->∀out:List Int,out.length<=k->
  Zo0 q out k=some (.own 0,[.arr Z4 1 true ((out++Zgj q.Atoms k (2 ^ q.Atoms.length-k)).map ic)]):=by
 have hf:=Zg8 hv;have hp:=Zg9 q.Atoms.length;have h16:2 ^ q.Atoms.length<=16:=Nat.pow_le_pow_right (by omega:0<2) (Zcs hv).2;refine down _ ?_ ?_
 .intro _ out _;refine Zbkh _ _ _ _ ⟨_,Zkg q hq,?_⟩;rw[if_neg (by rw[hf];omega),Ycd];simp[Zgj]
 .intro k hk ih h1 out ho;have wk':w ((k:Int)+1)=(k:Int)+1:=Z7 (by omega) (by omega);refine Zbkh _ _ _ _ ⟨_,Zkg q hq,?_⟩;rw[if_pos (by rw[hf];omega)];refine⟨_,Zyt q hq hv k ⟨by omega,by omega⟩ (by omega),?_⟩;rw[show 2 ^ q.Atoms.length-k=(2 ^ q.Atoms.length-(k+1))+1 by omega,Zbln,wk'];rcases tf (conn q.Atoms k)with e|e
  .have ih:=ih (by omega) out (by omega);rw[e,if_neg (by simp)];simpa using ih
  .have ih:=ih (by omega) (out++[(k:Int)]) (by simp;omega);rw[e,if_pos rfl];refine⟨by omega,?_⟩;simpa using ih
def Zp(qa:List Atom):List Int:=Zgj qa 1 (2 ^ qa.length-1)
theorem Zb1t(q:Zc)(hq:LeQ q)(hv:Zn q.Zf q.Atoms=true):Zs3 q=some (.own 0,[.arr Z4 1 true ((Zp q.Atoms).map ic)]):=by
 have hpos:1<=2 ^ q.Atoms.length:=Nat.one_le_two_pow;have b:=Zb1s q hq hv 1 hpos (Ye _) [] (by simp);exact Zbzo _ _ (by simpa[Zp]using b)
theorem Zb1u(q:Zc)(hq:LeQ q)(hv:Zn q.Zf q.Atoms=true):∀k:Nat,k<=2 ^ q.Atoms.length->1<=k->∀out:List Int,out.length<=k->
  Znx q out (Zx q.Zf q.Atoms) k=some (.own 0,[.arr Z4 1 true ((out++Zgj q.Atoms k (2 ^ q.Atoms.length-k)).map ic)]):=by
 have hf:=Zg8 hv;have hp:=Zg9 q.Atoms.length;have h16:2 ^ q.Atoms.length<=16:=Nat.pow_le_pow_right (by omega:0<2) (Zcs hv).2;refine down _ ?_ ?_
 .intro _ out _;refine Zbiu _ _ _ _ _ ?_;rw[if_neg (by rw[hf];omega),Ycd];simp[Zgj]
 .intro k hk ih h1 out ho;have wk':w ((k:Int)+1)=(k:Int)+1:=Z7 (by omega) (by omega);refine Zbiu _ _ _ _ _ ?_;rw[if_pos (by rw[hf];omega)];refine⟨_,Zyu q hq hv k ⟨by omega,by omega⟩,?_⟩;rw[show 2 ^ q.Atoms.length-k=(2 ^ q.Atoms.length-(k+1))+1 by omega,Zbln,wk'];rcases tf (conn q.Atoms k)with e|e
  .have ih:=ih (by omega) out (by omega);rw[e,if_neg (by simp)];simpa using ih
  .have ih:=ih (by omega) (out++[(k:Int)]) (by simp;omega);rw[e,if_pos rfl];refine⟨by omega,?_⟩;simpa using ih
theorem Zb1v(q:Zc)(hq:LeQ q)(hv:Zn q.Zf q.Atoms=true):Zrn q=some (.own 0,[.arr Z4 1 true ((Zp q.Atoms).map ic)]):=by
 have hpos:1<=2 ^ q.Atoms.length:=Nat.one_le_two_pow;have b:=Zb1u q hq hv 1 hpos (Ye _) [] (by simp);exact Zbwu _ _ ⟨_,Zc1 q hq,by simpa[Zp]using b⟩
set_option maxRecDepth 100000 in
theorem f_diff:∀a m:Fin 16,andI (a.1:Int) m.1=a.1->Zhm (m.1:Int) a.1=(m.1:Int)-a.1/\(a.1:Int)<=m.1/\andI (a.1:Int) ((m.1:Int)-a.1)=0/\orI (a.1:Int) ((m.1:Int)-a.1)=m.1:=by decide
def Zc7(qa:List Atom)(c x:Int):Bool:=decide (andI x c=x) && (conn qa x && conn qa (c-x))
def Zfn(qa:List Atom)(c:Int)(k n:Nat):List Int:=((List.range' k n).filter (λm:Nat=>Zc7 qa c (m:Int))).map (λm:Nat=>(m:Int))
theorem Zblo{qa:List Atom}{mask:Int}{k n:Nat}:Zfn qa mask k (n+1)=(if Zc7 qa mask (k:Int)=true then[(k:Int)]else[])++Zfn qa mask (k+1) n:=by
 unfold Zfn;rw[Yc1,Yct];split<;>simp
def Zz(qa:List Atom)(c:Int):List Int:=Zfn qa c 1 (c.toNat-1)
theorem Zb1w(q:Zc)(hq:LeQ q)(hv:Zn q.Zf q.Atoms=true)(c:Nat)(hm:MQ q.Atoms c):∀k:Nat,k<=c->1<=k->∀out:List Int,out.length<=k->
  Zis q out c k=some (.own 0,[.arr Z4 1 true ((out++Zfn q.Atoms c k (c-k)).map ic)]):=by
 have m16':=(hm.m16 hv).1;refine down _ ?_ ?_
 .intro _ out _;refine Zbkk _ _ _ _ _ ?_;rw[if_neg (by omega),Ycd];simp[Zfn]
 .intro k hk ih h1 out ho;have wk':w ((k:Int)+1)=(k:Int)+1:=Z7 (by omega) (by omega);refine Zbkk _ _ _ _ _ ?_;rw[if_pos (by omega),show c-k=(c-(k+1))+1 by omega,Zblo,wk'];have skip:Zc7 q.Atoms c k=false->Zis q out c ((k:Int)+1)=some (.own 0,[.arr Z4 1 true ((out++((if Zc7 q.Atoms c (k:Int)=true then[(k:Int)]else[])++Zfn q.Atoms c (k+1) (c-(k+1)))).map ic)]):=by
   intro e;have ih:=ih (by omega) out (by omega);rw[e];simpa using ih
  by_cases e1:andI (k:Int) c=k
  .obtain⟨d1,d2,_⟩:=f_diff ⟨k,by omega⟩ ⟨c,by omega⟩ e1;simp only at d1 d2;rw[if_pos e1];refine⟨_,Zyt q hq hv k ⟨by omega,by have:=hm.2;omega⟩ (by omega),?_⟩;rcases tf (conn q.Atoms k)with e2|e2
   .rw[e2,if_neg (by simp)];exact skip (by simp[Zc7,e2])
   .rw[e2,if_pos rfl,d1];refine⟨_,Zyt q hq hv ((c:Int)-k) ⟨by omega,by have:=hm.2;omega⟩ (by omega),?_⟩;rcases tf (conn q.Atoms ((c:Int)-k))with e3|e3
    .rw[e3,if_neg (by simp)];exact skip (by simp[Zc7,e3])
    .rw[e3,if_pos rfl];have es:Zc7 q.Atoms c k=true:=by simp[Zc7,e1,e2,e3]
     rw[es,if_pos rfl];have ih:=ih (by omega) (out++[(k:Int)]) (by simp;omega);exact⟨by omega,by simpa using ih⟩
  .rw[if_neg e1];exact skip (by simp[Zc7,e1])
theorem Z6y(q:Zc)(hq:LeQ q)(m:Int)(hc:Zcc q.Zf q.Atoms m=true):Zga q m=some (.own 0,[.arr Z4 1 true ((Zz q.Atoms m).map ic)]):=by
 have hc':=hc;simp only[Zcc,Yc,decide_eq_true_eq]at hc';obtain⟨⟨⟨hv,hr⟩,h0⟩,_⟩:=hc';have hm:=Zyv hv hr;obtain⟨k,rfl⟩:∃k:Nat,m=k:=⟨m.toNat,by have:=hm.1;omega⟩;refine Zbzu _ _ _ ⟨_,Zblm q hq k,?_⟩;rw[hc,if_pos rfl];have b:=Zb1w q hq hv k hm 1 (by omega) (Ye _) [] (by simp);simpa[Zz]using b
theorem Zb1x(q:Zc)(hq:LeQ q)(hv:Zn q.Zf q.Atoms=true)(c:Nat)(hm:MQ q.Atoms c):∀k:Nat,k<=c->1<=k->∀out:List Int,out.length<=k->
  Zij q out c k=some (.own 0,[.arr Z4 1 true ((out++Zfn q.Atoms c k (c-k)).map ic)]):=by
 have m16':=(hm.m16 hv).1;refine down _ ?_ ?_
 .intro _ out _;refine Zbiv _ _ _ _ _ ?_;rw[if_neg (by omega),Ycd];simp[Zfn]
 .intro k hk ih h1 out ho;have wk':w ((k:Int)+1)=(k:Int)+1:=Z7 (by omega) (by omega);have wd:w ((c:Int)-k)=(c:Int)-k:=Z7 (by omega) (by omega);refine Zbiv _ _ _ _ _ ?_;rw[if_pos (by omega),show c-k=(c-(k+1))+1 by omega,Zblo,wk',wd];have skip:Zc7 q.Atoms c k=false->Zij q out c ((k:Int)+1)=some (.own 0,[.arr Z4 1 true ((out++((if Zc7 q.Atoms c (k:Int)=true then[(k:Int)]else[])++Zfn q.Atoms c (k+1) (c-(k+1)))).map ic)]):=by
   intro e;have ih:=ih (by omega) out (by omega);rw[e];simpa using ih
  by_cases e1:andI (k:Int) c=k
  .rw[if_pos e1];refine⟨_,Zyu q hq hv k ⟨by omega,by have:=hm.2;omega⟩,?_⟩;rcases tf (conn q.Atoms k)with e2|e2
   .rw[e2,if_neg (by simp)];exact skip (by simp[Zc7,e2])
   .rw[e2,if_pos rfl];refine⟨_,Zyu q hq hv ((c:Int)-k) ⟨by omega,by have:=hm.2;omega⟩,?_⟩;rcases tf (conn q.Atoms ((c:Int)-k))with e3|e3
    .rw[e3,if_neg (by simp)];exact skip (by simp[Zc7,e3])
    .rw[e3,if_pos rfl];have es:Zc7 q.Atoms c k=true:=by simp[Zc7,e1,e2,e3]
     rw[es,if_pos rfl];have ih:=ih (by omega) (out++[(k:Int)]) (by simp;omega);exact⟨by omega,by simpa using ih⟩
  .rw[if_neg e1];exact skip (by simp[Zc7,e1])
theorem Zb1y(q:Zc)(hq:LeQ q)(m:Int)(hc:Zcc q.Zf q.Atoms m=true):Zro q m=some (.own 0,[.arr Z4 1 true ((Zz q.Atoms m).map ic)]):=by
 have hc':=hc;simp only[Zcc,Yc,decide_eq_true_eq]at hc';obtain⟨⟨⟨hv,hr⟩,h0⟩,_⟩:=hc';have hm:=Zyv hv hr;obtain⟨k,rfl⟩:∃k:Nat,m=k:=⟨m.toNat,by have:=hm.1;omega⟩;refine Zbwv _ _ _ ⟨_,Zkh q hq k,?_⟩;rw[hc,if_pos rfl];have b:=Zb1x q hq hv k hm 1 (by omega) (Ye _) [] (by simp);simpa[Zz]using b
def Zki(m:Int)(k n:Nat):List Int:=((List.range' k n).filter (λi:Nat=>Z1 m i)).map (λi:Nat=>(i:Int))
theorem Zblp{m:Int}{k n:Nat}:Zki m k (n+1)=(if Z1 m k=true then[(k:Int)]else[])++Zki m (k+1) n:=by
 unfold Zki;rw[Yc1,Yct];split<;>simp
def Zea(m:Int):List Int:=Zki m 0 4
theorem Zb1z(m:Int):∀k:Nat,k<=4->∀out:List Int,out.length<=k->Zo2 out m k=some (.own 0,[.arr Z4 1 true ((out++Zki m k (4-k)).map ic)]):=by
 refine down _ ?_ ?_
 .intro out _;refine Zbki _ _ _ _ ?_;rw[if_neg (by omega)];simp[Zki]
 .intro k hk ih out ho;have wk':w ((k:Int)+1)=(k:Int)+1:=Z7 (by omega) (by omega);refine Zbki _ _ _ _ ?_;rw[if_pos (by omega),show 4-k=(4-(k+1))+1 by omega,Zblp,wk'];refine⟨by omega,?_⟩;by_cases e:andI (shrI m k) 1=1
  .have ih:=ih (out++[(k:Int)]) (by simp;omega);rw[if_pos e,if_pos (by simp[Z1,e])];exact⟨by omega,by simpa using ih⟩
  .have ih:=ih out (by omega);rw[if_neg e,if_neg (by simp[Z1,e])];simpa using ih
theorem Zb10{m:Int}(hm:M16 m):Zo1 m=some (.own 0,[.arr Z4 1 true ((Zea m).map ic)]):=by
 have b:=Zb1z m 0 (by omega) [] (by simp);refine Zbzp _ _ ⟨_,Zdz _ _ _,?_⟩;rw[if_pos (by simp[inR];omega)];simpa[Zea]using b
theorem Zb11(m:Int)(hm:M16 m):∀k:Nat,k<=4->∀out:List Int,out.length<=k->Zn0 out m k=some (.own 0,[.arr Z4 1 true ((out++Zki m k (4-k)).map ic)]):=by
 refine down _ ?_ ?_
 .intro out _;refine Zbi0 _ _ _ _ ?_;rw[if_neg (by omega)];simp[Zki]
 .intro k hk ih out ho;have wk':w ((k:Int)+1)=(k:Int)+1:=Z7 (by omega) (by omega);refine Zbi0 _ _ _ _ ?_;rw[if_pos (by omega),show 4-k=(4-(k+1))+1 by omega,Zblp,wk'];refine⟨_,Zcu _ _ _,?_⟩;rw[if_pos (by simp[inR];omega)];refine⟨by omega,?_⟩;by_cases e:andI (shrI m k) 1=1
  .have ih:=ih (out++[(k:Int)]) (by simp;omega);rw[if_pos e,if_pos (by simp[Z1,e])];exact⟨by omega,by simpa using ih⟩
  .have ih:=ih out (by omega);rw[if_neg e,if_neg (by simp[Z1,e])];simpa using ih
theorem Zb12{m:Int}(hm:M16 m):Zrt m=some (.own 0,[.arr Z4 1 true ((Zea m).map ic)]):=by
 have b:=Zb11 m hm 0 (by omega) [] (by simp);exact Zbw1 _ _ (by simpa[Zea]using b)
structure Zmm (n:Nat) (x:Zb) (y:Zi):Prop where
 kind:1<=x.Kind/\x.Kind<=5
 refs:(y.Left=-1/\y.Right=-1)\/((0<=y.Left/\y.Left.toNat<n)/\(y.Right=-1\/(0<=y.Right/\y.Right.toNat<n)))
theorem Zmm.mono{n k:Nat}{x:Zb}{y:Zi}(h:Zmm n x y)(hk:n<=k):Zmm k x y:=by
 refine⟨h.kind,h.refs.imp id λ⟨⟨a,b⟩,c⟩=>⟨⟨a,by omega⟩,c.imp id λ⟨d,e⟩=>⟨d,by omega⟩⟩⟩
theorem Zblq{qa:List Atom}{x:Zb}{info:List Zi}{st:List Int}{y:Zi}(hs:StOk info st)(h:Zdv qa x info st=some y):Zmm info.length x y:=by
 unfold Zdv at h;split at h
 .rename_i k1;split at h
  .cases h;exact⟨by omega,.inl ⟨rfl,rfl⟩⟩
  .cases h
 .rename_i k1;split at h
  .cases h
  .split at h
   .rename_i k2;split at h
    .rename_i s y' ht;split at h
     .cases h;obtain⟨_,t2,t3,_⟩:=Zia hs (Ye 1) ht;exact⟨by omega,.inr ⟨⟨t2,t3⟩,.inl rfl⟩⟩
     .cases h
    .cases h
   .rename_i k2;split at h
    .rename_i s y' t z ht hu;split at h
     .obtain⟨_,t2,t3,_⟩:=Zia hs (by omega:1<=2) ht;obtain⟨_,u2,u3,_⟩:=Zia hs (by omega:1<=1) hu;obtain⟨o,ho,rfl⟩:=Yl.1 h;have hk:x.Kind=3\/x.Kind=4\/x.Kind=5:=by
       unfold Zc5 at ho;split at ho
       .omega
       .split at ho
        .omega
        .split at ho
         .omega
         .cases ho
      exact⟨by omega,.inr ⟨⟨t2,t3⟩,.inr ⟨u2,u3⟩⟩⟩
     .cases h
    .cases h
theorem Zblr{qa:List Atom}:∀{xs:List Zb} {i:Nat} {info:List Zi} {st:List Int} {c:List Zi} {cc:List Int},Zci qa xs i info st=some (c,cc)->
  StOk info st->info.length=i->∃tail,c=info++tail/\tail.length=xs.length/\∀(j:Nat) (y:Zi) (x:Zb),tail[j]?=some y->xs[j]?=some x->Zmm (i+j) x y
 |[],i,info,st,c,cc,h,hs,hi=>by
  simp[Zci]at h;obtain⟨rfl,rfl⟩:=h
  exact⟨[],by simp,rfl,by intro j y x hj;simp at hj⟩
 |x::xs,i,info,st,c,cc,h,hs,hi=>by
  rw[Zci]at h;split at h
  .cases h
  .rename_i y hy;have hn:=Zqr hs y (st.length-pops y);rw[hi]at hn;obtain⟨tail,g2,g3,g4⟩:=Zblr h hn (by simp[hi]);refine⟨y::tail,by simp[g2],by simp[g3],?_⟩;intro j y' x' hj hx
   cases j with
   |zero=>simp at hj hx;subst hj;subst hx;have:=Zblq hs hy;rw[hi]at this;exact this
   |succ j=>exact(g4 j y' x' (by simpa using hj) (by simpa using hx)).mono (by omega)
theorem Zbls{n:Int}{qa:List Atom}{steps:List Zb}{info:List Zi}(h:Zcb n qa steps=some info):∀(j:Nat) (y:Zi) (x:Zb),info[j]?=some y->steps[j]?=some x->Zmm j x y:=by
 unfold Zcb at h;split at h
 .split at h
  .rename_i info' st hg;split at h
   .cases h;obtain⟨tail,g2,g3,g4⟩:=Zblr hg (λs hs=>by cases hs) rfl;simp at g2;subst g2;intro j y x a b;have:=g4 j y x a b;simpa using this
   .cases h
  .cases h
 .cases h
def Zkj(xs:List Int):Bool:=xs.all (λx=>inR x 0 4096)
def Zb5(n:Int)(qa:List Atom)(xs:List Int):Bool:=Zn n qa && decide ((xs.length:Int)=Zx n qa+1) && Zkj xs
theorem Zb13(q:Zc)(hq:LeQ q)(xs:List Int)(hx:Le xs):∀i,i<=xs.length->Zsw q xs xs xs.length i=some (Bo (Zkj (xs.drop i) && (Zn q.Zf q.Atoms && decide ((xs.length:Int)=Zx q.Zf q.Atoms+1))),[]):=by
 refine down _ ?_ ?_
 .refine Zbke _ _ _ _ _ _ ?_;rw[if_neg (by omega)];refine⟨_,Ztx q hq,?_⟩;rcases tf (Zn q.Zf q.Atoms)with e|e
  .rw[e];simp
  .rw[e,if_pos rfl];refine⟨_,Zkg q hq,?_⟩;rw[show w (Zx q.Zf q.Atoms+1)=Zx q.Zf q.Atoms+1 from Zvu _ _];simp[Zkj]
 .intro i hi ih;have h4:=Zw (i:=i) (by omega);refine Zbke _ _ _ _ _ _ ?_;rw[if_pos (by omega)];refine⟨by omega,xs[i],by rw[Yg];exact Ya hi,_,Zdz _ _ _,?_⟩;unfold Zkj at ih|-;rw[Zqp _ hi];simp only[Yq,Yr]at ih;rcases tf (inR xs[i] 0 4096)with e|e
  .rw[e];simp
  .rw[e,if_pos rfl,show w ((i:Int)+1)=(i:Int)+1 from h4,ih];simp
theorem Zblt(q:Zc)(hq:LeQ q)(xs:List Int)(hx:Le xs):Zl8 q xs=some (Bo (Zb5 q.Zf q.Atoms xs),[]):=by
 have b:=Zb13 q hq xs hx 0 (Yd _);refine Zbzk _ _ _ (Yb b ?_);rw[Yk,Zb5,Bool.and_comm]
theorem Zb14(xs:List Int)(hx:Le xs):∀i,i<=xs.length->Zrm xs i=some (Bo (Zkj (xs.drop i)),[]):=by
 refine down _ ?_ ?_
 .refine Zbit _ _ _ ?_;rw[if_neg (by omega)];simp[Zkj]
 .intro i hi ih;have h4:=Zw (i:=i) (by omega);refine Zbit _ _ _ ?_;rw[if_pos (by omega)];refine⟨by omega,xs[i],by rw[Yg];exact Ya hi,_,Zcu _ _ _,?_⟩;unfold Zkj at ih|-;rw[Zqp _ hi];simp only[Yq,Yr]at ih;rcases tf (inR xs[i] 0 4096)with e|e
  .rw[e];simp
  .rw[e,if_pos rfl,show w ((i:Int)+1)=(i:Int)+1 from h4,ih];simp
theorem Zyw(q:Zc)(hq:LeQ q)(xs:List Int)(hx:Le xs):Zlj q xs=some (Bo (Zb5 q.Zf q.Atoms xs),[]):=by
 have b:=Zb14 xs hx 0 (Yd _);refine Zbwt _ _ _ ⟨_,Zge q hq,?_⟩;unfold Zb5;rcases tf (Zn q.Zf q.Atoms)with e|e
 .rw[e];simp
 rw[e,if_pos rfl];refine⟨_,Zc1 q hq,?_⟩;rw[show w (Zx q.Zf q.Atoms+1)=Zx q.Zf q.Atoms+1 from Zvu _ _];by_cases e2:(xs.length:Int)=Zx q.Zf q.Atoms+1
 .rw[if_pos e2,decide_eq_true e2];refine Yb b ?_;simp
 .rw[if_neg e2,decide_eq_false e2];simp
def szAt(sizes:List Int)(m:Int):Int:=(sizes[m.toNat]?).getD 0
def Zdr(info:List Zi)(i:Int):Int:=match info[i.toNat]? with|some y=>y.Mask|none=>0
def Zc2(m:Ze)(info:List Zi)(sizes:List Int)(x:Zb)(y:Zi):Int :=
 Zbg (mOp m x.Kind) (if y.Left<0 then szAt sizes y.Mask else szAt sizes (Zdr info y.Left)) (if y.Right<0 then 0 else szAt sizes (Zdr info y.Right)) (szAt sizes y.Mask)
def Zb6(m:Ze)(info:List Zi)(sizes:List Int):List Zb->List Zi->List Int
 |x::xs,y::ys=>Zc2 m info sizes x y::Zb6 m info sizes xs ys
 |_,_=>[]
theorem Zblu(m:Ze)(info:List Zi)(sizes:List Int){xs:List Zb}{ys:List Zi}{i:Nat}(hx:i<xs.length)(hy:i<ys.length) :
  Zb6 m info sizes (xs.drop i) (ys.drop i)=Zc2 m info sizes xs[i] ys[i]::Zb6 m info sizes (xs.drop (i+1)) (ys.drop (i+1)):=by
 rw[Yi hx,Yi hy,Zb6]
theorem Zpv{qa:List Atom}{n:Int}{sizes:List Int}(hs:Zb5 n qa sizes=true){y:Zi}(hm:Zk6 qa.length y):sizes[y.Mask.toNat]?=some (szAt sizes y.Mask):=by
 simp only[Zb5,Yc,decide_eq_true_eq]at hs;have hf:=Zg8 hs.1.1;have hlt:y.Mask.toNat<sizes.length:=by have:=hm.1;have:=hm.2;omega
 simp[szAt,Ya hlt]
theorem Zyx{info:List Zi}{i:Int}{n:Nat}(h:0<=i/\i.toNat<n)(hn:n<=info.length):∃y,info[i.toNat]?=some y/\y∈info/\Zdr info i=y.Mask:=by
 have hlt:i.toNat<info.length:=by omega
 exact⟨info[i.toNat],Ya hlt,Yf hlt,by simp[Zdr,Ya hlt]⟩
theorem Zb15{m:Ze}(hm:LeM m){n:Int}{qa:List Atom}{steps:List Zb}{info:List Zi}{sizes:List Int}(hi:Zcb n qa steps=some info)(hs:Zb5 n qa sizes=true){i:Nat}(h:i<info.length)(h':i<steps.length) :
  Zwp m steps[i].Kind info i sizes=some (I (Zc2 m info sizes steps[i] info[i]),[]):=by
 obtain⟨p1,_⟩:=Zbbc hi;have ok:=Zbls hi i info[i] steps[i] (Ya h) (Ya h');have s0:=Zpv hs (p1 _ (Yf h));have hm0:=(p1 _ (Yf h)).1;refine Zbxl _ _ _ _ _ _ ⟨by omega,info[i],by rw[Yg];exact Ya h,_,Zpu m _,?_⟩;have hl:=hm.op steps[i].Kind;unfold Zc2;rcases ok.refs with⟨a,b⟩|⟨a,b⟩
 .have c1:info[i].Left<0:=by omega
  have c2:info[i].Right<0:=by omega
  simp only[if_pos c1,if_pos c2];exact⟨hm0,_,s0,_,Zg6 _ hl _ _ _,rfl⟩
 .obtain⟨y1,y2,y3,y4⟩:=Zyx a (by omega:i<=info.length);have s1:=Zpv hs (p1 _ y3);have hm1:=(p1 _ y3).1;have c1:¬info[i].Left<0:=by omega
  simp only[if_neg c1,y4];rcases b with b|b
  .have c2:info[i].Right<0:=by omega
   simp only[if_pos c2];exact⟨a.1,y1,y2,hm1,_,s1,hm0,_,s0,_,Zg6 _ hl _ _ _,rfl⟩
  .obtain⟨z1,z2,z3,z4⟩:=Zyx b (by omega:i<=info.length);have s2:=Zpv hs (p1 _ z3);have hm2:=(p1 _ z3).1;have c2:¬info[i].Right<0:=by omega
   simp only[if_neg c2,z4];exact⟨a.1,y1,y2,hm1,_,s1,b.1,z1,z2,hm2,_,s2,hm0,_,s0,_,Zg6 _ hl _ _ _,rfl⟩
theorem Zb16{m:Ze}(hm:LeM m){n:Int}{qa:List Atom}{p:Plan}{info:List Zi}{sizes:List Int}(hi:Zcb n qa p.Steps=some info)(hs:Zb5 n qa sizes=true):∀i,i<=info.length->∀out:List Int,out.length=i->
  Zr4 m p out info sizes i=some (.own 0,[.arr Z4 1 true ((out++Zb6 m info sizes (p.Steps.drop i) (info.drop i)).map ic)]):=by
 obtain⟨l1,l2,l3,l4⟩:=Zji hi;refine down _ ?_ ?_
 .intro out _;refine Zbi9 _ _ _ _ _ _ _ ?_;rw[if_neg (by omega),Yy];cases p.Steps.drop info.length<;>simp[Zb6]
 .intro i h ih out ho;have h4:=Zw (i:=i) (by omega);have h':i<p.Steps.length:=by omega
  refine Zbi9 _ _ _ _ _ _ _ ?_;rw[if_pos (by omega)];refine⟨by omega,p.Steps[i],by rw[Yg];exact Ya h',_,Zb15 hm hi hs h h',by omega,?_⟩;have ih:=ih (out++[Zc2 m info sizes p.Steps[i] info[i]]) (by simp[ho]);rw[Zblu m info sizes h' h,show w ((i:Int)+1)=(i:Int)+1 from h4];simpa using ih
def Zfo(m:Ze)(n:Int)(qa:List Atom)(steps:List Zb)(sizes:List Int):List Int:=match Zcb n qa steps with
 |some info=>if Zb5 n qa sizes=true then Zb6 m info sizes steps info else[]
 |none=>[]
theorem Zb17(m:Ze)(hm:LeM m)(q:Zc)(hq:LeQ q)(p:Plan)(sizes:List Int)(hs:Le sizes):Zwq m q p sizes=some (.own 0,[.arr Z4 1 true ((Zfo m q.Zf q.Atoms p.Steps sizes).map ic)]):=by
 have q1:=Zbk9 q p hq;refine Zbxm _ _ _ _ _ ?_;unfold Zfo
 cases hi:Zcb q.Zf q.Atoms p.Steps with
 |none=>rw[hi]at q1;exact⟨[],false,q1,by rw[if_neg (by simp)]⟩
 |some info =>
  rw[hi]at q1;refine⟨info,true,q1,?_⟩;rw[if_pos rfl];refine⟨_,Zyw q hq sizes hs,?_⟩;simp only;rcases tf (Zb5 q.Zf q.Atoms sizes)with e|e
  .rw[e,if_neg (by simp),if_neg (by simp)]
  .rw[e,if_pos rfl,if_pos rfl];have b:=Zb16 hm hi e 0 (Yd _) [] rfl;simpa using b
theorem Zblv(m:Ze):Zhw m=some (.bsl 1 5,[.box (m.c.map .t),.box [.ptr 0 0,.ptr 0 6,.ptr 0 12,.ptr 0 18,.ptr 0 24]]):=Zbj1 _ _ rfl
theorem kinds{k:Int}(h:1<=k/\k<=5):k=1\/k=2\/k=3\/k=4\/k=5:=by omega
theorem j_SC(m:Ze)(hm:LeM m)(info:List Zi)(out:List Int)(ho:out.length<=100)(x:Zb)(hk:1<=x.Kind/\x.Kind<=5)(sizes:List Int)(i:Nat)(y:Zi)(hy:info[i]?=some y)(c:0<=y.Mask)(hs:sizes[y.Mask.toNat]?=some (szAt sizes y.Mask))(l r:Int)(x1:List Zb)(x2 x3:Int)(res:AV×List Blk)
  (h:Zb4 m info (out++[Zbg (mOp m x.Kind) l r (szAt sizes y.Mask)]) sizes x1 x2 (w (x3+1))=some res):Zoy m info out x sizes i l r x1 x2 x3=some res:=by
 refine Zbzr ⟨Zblv m,?_⟩;have ho':out.length+1<=68719476736:=by omega
 obtain⟨m1,m2,m3,m4,m5⟩:=hm;have hi:info[((i:Nat):Int).toNat]?=some y:=by rw[Yg];exact hy
 have hi0:(0:Int)<=(i:Int):=by omega
 rcases kinds hk with e|e|e|e|e<;>rw[e]at h|-
 .rw[if_pos (by decide)];exact⟨hi0,y,hi,c,_,hs,_,Zh1 _ m1 _ _ _,ho',h⟩
 .rw[if_neg (by decide),if_pos (by decide)];exact⟨hi0,y,hi,c,_,hs,_,Zh1 _ m2 _ _ _,ho',h⟩
 .rw[if_neg (by decide),if_neg (by decide),if_pos (by decide)];exact⟨hi0,y,hi,c,_,hs,_,Zh1 _ m3 _ _ _,ho',h⟩
 .rw[if_neg (by decide),if_neg (by decide),if_neg (by decide),if_pos (by decide)];exact⟨hi0,y,hi,c,_,hs,_,Zh1 _ m4 _ _ _,ho',h⟩
 .rw[if_neg (by decide),if_neg (by decide),if_neg (by decide),if_neg (by decide),if_pos (by decide)];exact⟨hi0,y,hi,c,_,hs,_,Zh1 _ m5 _ _ _,ho',h⟩
theorem j_SCa(m:Ze)(hm:LeM m)(info:List Zi)(out:List Int)(ho:out.length<=100)(x:Zb)(hk:1<=x.Kind/\x.Kind<=5)(sizes:List Int)(i:Nat)(y:Zi)(hy:info[i]?=some y)(c:0<=y.Mask)(hs:sizes[y.Mask.toNat]?=some (szAt sizes y.Mask))(l r:Int)(x1:List Zb)(x2 x3:Int)(f:Bool)(res:AV×List Blk)
  (h:Zb4 m info (out++[Zbg (mOp m x.Kind) l r (szAt sizes y.Mask)]) sizes x1 x2 (w (x3+1))=some res):Zoz m info out x sizes i l r x1 x2 x3 f=some res:=by
 refine Zbzs ⟨Zblv m,?_⟩;have ho':out.length+1<=68719476736:=by omega
 obtain⟨m1,m2,m3,m4,m5⟩:=hm;have hi:info[((i:Nat):Int).toNat]?=some y:=by rw[Yg];exact hy
 have hi0:(0:Int)<=(i:Int):=by omega
 rcases kinds hk with e|e|e|e|e<;>rw[e]at h|-
 .rw[if_pos (by decide)];exact⟨hi0,y,hi,c,_,hs,_,Zh1 _ m1 _ _ _,ho',h⟩
 .rw[if_neg (by decide),if_pos (by decide)];exact⟨hi0,y,hi,c,_,hs,_,Zh1 _ m2 _ _ _,ho',h⟩
 .rw[if_neg (by decide),if_neg (by decide),if_pos (by decide)];exact⟨hi0,y,hi,c,_,hs,_,Zh1 _ m3 _ _ _,ho',h⟩
 .rw[if_neg (by decide),if_neg (by decide),if_neg (by decide),if_pos (by decide)];exact⟨hi0,y,hi,c,_,hs,_,Zh1 _ m4 _ _ _,ho',h⟩
 .rw[if_neg (by decide),if_neg (by decide),if_neg (by decide),if_neg (by decide),if_pos (by decide)];exact⟨hi0,y,hi,c,_,hs,_,Zh1 _ m5 _ _ _,ho',h⟩
theorem Zb18{m:Ze}(hm:LeM m){n:Int}{qa:List Atom}{steps:List Zb}{info:List Zi}{sizes:List Int}(hi:Zcb n qa steps=some info)(hs:Zb5 n qa sizes=true):∀i,i<=steps.length->∀out:List Int,out.length=i->
  Zb4 m info out sizes steps steps.length i=some (.own 0,[.arr Z4 1 true ((out++Zb6 m info sizes (steps.drop i) (info.drop i)).map ic)]):=by
 obtain⟨l1,l2,l3,l4⟩:=Zji hi;obtain⟨p1,_⟩:=Zbbc hi;refine down _ ?_ ?_
 .intro out _;refine Zbkf _ _ _ _ _ _ _ _ ?_;rw[if_neg (by omega),Yy];simp[Zb6]
 .intro i h' ih out ho;have h4:=Zw (i:=i) (by omega);have h:i<info.length:=by omega
  have ok:=Zbls hi i info[i] steps[i] (Ya h) (Ya h');have s0:=Zpv hs (p1 _ (Yf h));have hm0:=(p1 _ (Yf h)).1;have ih:=ih (out++[Zc2 m info sizes steps[i] info[i]]) (by simp[ho]);simp only[Yq,Yr,Yz,List.singleton_append]at ih;rw[<-Zblu m info sizes h' h,<-show w ((i:Int)+1)=(i:Int)+1 from h4]at ih;unfold Zc2 at ih;refine Zbkf _ _ _ _ _ _ _ _ ?_;rw[if_pos (by omega)];refine⟨by omega,steps[i],by rw[Yg];exact Ya h',info[i],by rw[Yg];exact Ya h,hm0,_,s0,?_⟩;rcases ok.refs with⟨a,b⟩|⟨a,b⟩
  .have c1:info[i].Left<0:=by omega
   have c2:info[i].Right<0:=by omega
   have d1:¬0<=info[i].Left:=by omega
   have d2:¬0<=info[i].Right:=by omega
   simp only[if_pos c1,if_pos c2]at ih;simp only[if_neg d1,if_neg d2];exact j_SCa m hm info out (by omega) _ ok.kind sizes i info[i] (Ya h) hm0 s0 _ _ _ _ _ _ _ ih
  .obtain⟨y1,y2,y3,y4⟩:=Zyx a (by omega:i<=info.length);have s1:=Zpv hs (p1 _ y3);have hm1:=(p1 _ y3).1;have c1:¬info[i].Left<0:=by omega
   simp only[if_neg c1,y4]at ih;rw[if_pos a.1];refine⟨y1,y2,hm1,_,s1,?_⟩;rcases b with b|b
   .have c2:info[i].Right<0:=by omega
    have d2:¬0<=info[i].Right:=by omega
    simp only[if_pos c2]at ih;rw[if_neg d2];exact j_SCa m hm info out (by omega) _ ok.kind sizes i info[i] (Ya h) hm0 s0 _ _ _ _ _ _ _ ih
   .obtain⟨z1,z2,z3,z4⟩:=Zyx b (by omega:i<=info.length);have s2:=Zpv hs (p1 _ z3);have hm2:=(p1 _ z3).1;have c2:¬info[i].Right<0:=by omega
    simp only[if_neg c2,z4]at ih;rw[if_pos b.1];refine⟨z1,z2,hm2,_,s2,?_⟩;exact j_SC m hm info out (by omega) _ ok.kind sizes i info[i] (Ya h) hm0 s0 _ _ _ _ _ _ ih
theorem Z6z{m:Ze}{info:List Zi}{sizes:List Int}:∀{xs:List Zb} {ys:List Zi},xs.length=ys.length->(Zb6 m info sizes xs ys).length=xs.length
 |[],[],_=>rfl
 |[],_::_,h=>by simp at h
 |_::_,[],h=>by simp at h
 |x::xs,y::ys,h=>by rw[Zb6,Yx,Z6z (by simpa using h)];rfl
def Zh2(n:Int)(qa:List Atom)(steps:List Zb)(sizes:List Int):Bool:=(Zcb n qa steps).isSome && Zb5 n qa sizes
theorem Z60{m:Ze}{n:Int}{qa:List Atom}{steps:List Zb}{sizes:List Int}:Zfo m n qa steps sizes≠[]↔Zh2 n qa steps sizes=true:=by
 unfold Zfo Zh2
 cases hi:Zcb n qa steps with
 |none=>simp
 |some info =>
  obtain⟨l1,l2,l3,l4⟩:=Zji hi;rcases tf (Zb5 n qa sizes)with e|e
  .simp[e]
  .have:=Z6z (m:=m) (info:=info) (sizes:=sizes) (xs:=steps) (ys:=info) l2.symm;simp only[e,if_true,Option.isSome_some,Bool.and_self,iff_true];intro hc;rw[hc]at this;simp at this;omega
theorem Zb19(m:Ze)(hm:LeM m)(q:Zc)(hq:LeQ q)(p:Plan)(sizes:List Int)(hs:Le sizes) :
  Zl9 m q p sizes=if Zh2 q.Zf q.Atoms p.Steps sizes=true then some (.own 0,[.arr Z4 1 true ((Zfo m q.Zf q.Atoms p.Steps sizes).map ic)])else some (.t .nil,[]):=by
 have q1:=Zbla q p hq;unfold Zfo Zh2
 cases hi:Zcb q.Zf q.Atoms p.Steps with
 |none=>rw[hi]at q1;simp only[Option.isSome_none,Yde,Yby,if_false];exact Z6q _ _ _ _ _ (.inl ⟨q1,rfl⟩)
 |some info =>
  rw[hi]at q1;have hv:=Zblt q hq sizes hs;rcases tf (Zb5 q.Zf q.Atoms sizes)with e|e
  .simp only[e,Option.isSome_some,Bool.and_false,Yby,if_false];exact Z6q _ _ _ _ _ (.inr ⟨info,q1,false,by rw[hv,e],by rw[if_neg (by simp)]⟩)
  .simp only[e,Option.isSome_some,Bool.and_self,if_true];refine Z6q _ _ _ _ _ (.inr ⟨info,q1,true,by rw[hv,e],?_⟩);rw[if_pos rfl];have b:=Zb18 hm hi e 0 (Yd _) [] rfl;simpa using b
def sumW(xs:List Int)(n:Int):Int:=xs.foldl (λa b=>w (a+b)) n
theorem l_sum(xs:List Int)(hx:Le xs):∀i,i<=xs.length->∀n,Zs1 n xs xs.length i=some (I (sumW (xs.drop i) n),[]):=by
 refine down _ ?_ ?_
 .intro n;refine Zbkg _ _ _ _ _ ?_;simp[sumW]
 .intro i hi ih n;have h4:=Zw (i:=i) (by omega);refine Zbkg _ _ _ _ _ ?_;simp only[Yq,Yr]at ih;rw[Yi hi,sumW,Yv];simp[hi,h4,ih,sumW]
theorem x_sum(xs:List Int)(hx:Le xs):Zs0 xs=some (I (sumW xs 0),[]):=Zbzm _ _ (l_sum xs hx 0 (Yd _) 0)
theorem Zb2a(xs:List Int)(hx:Le xs):∀i,i<=xs.length->∀n,Zr5 xs n i=some (I (sumW (xs.drop i) n),[]):=by
 refine down _ ?_ ?_
 .intro n;refine Zbja _ _ _ _ ?_;simp[sumW]
 .intro i hi ih n;have h4:=Zw (i:=i) (by omega);refine Zbja _ _ _ _ ?_;simp only[Yq,Yr]at ih;rw[Yi hi,sumW,Yv];simp[hi,h4,ih,sumW]
def Zcm(m:Ze)(n:Int)(qa:List Atom)(steps:List Zb)(sizes:List Int):Int:=if Zh2 n qa steps sizes=true then sumW (Zfo m n qa steps sizes) 0 else -1
theorem Zblw{m:Ze}{n:Int}{qa:List Atom}{steps:List Zb}{sizes:List Int}:(Zfo m n qa steps sizes).length<=14:=by
 unfold Zfo
 cases hi:Zcb n qa steps with
 |none=>simp
 |some info =>
  obtain⟨l1,l2,l3,l4⟩:=Zji hi;simp only;split
  .rw[Z6z l2.symm];omega
  .simp
theorem Z61(m:Ze)(hm:LeM m)(q:Zc)(hq:LeQ q)(p:Plan)(sizes:List Int)(hs:Le sizes):Zir m q p sizes=some (I (Zcm m q.Zf q.Atoms p.Steps sizes),[]):=by
 have h1:=Zb19 m hm q hq p sizes hs;refine Zbzt ?_;unfold Zcm;rcases tf (Zh2 q.Zf q.Atoms p.Steps sizes)with e|e
 .rw[e,if_neg (by simp)]at h1;rw[e];exact .inl ⟨h1,by simp⟩
 .rw[e,if_pos rfl]at h1;rw[e];exact .inr ⟨_,h1,Z60.2 e,_,x_sum _ (by have:=Zblw (m:=m) (n:=q.Zf) (qa:=q.Atoms) (steps:=p.Steps) (sizes:=sizes);omega),by simp⟩
theorem Zb2b(m:Ze)(hm:LeM m)(q:Zc)(hq:LeQ q)(p:Plan)(sizes:List Int)(hs:Le sizes):Zwr m q p sizes=some (I (Zcm m q.Zf q.Atoms p.Steps sizes),[]):=by
 refine Zbxn _ _ _ _ _ ⟨_,Zb17 m hm q hq p sizes hs,?_⟩;unfold Zcm;by_cases e:Zfo m q.Zf q.Atoms p.Steps sizes=[]
 .have e2:Zh2 q.Zf q.Atoms p.Steps sizes=false:=by
   rcases tf (Zh2 q.Zf q.Atoms p.Steps sizes)with h|h
   .exact h
   .exact absurd e (Z60.2 h)
  rw[e2,e];simp
 .have e2:=Z60.1 e;have e3:¬((Zfo m q.Zf q.Atoms p.Steps sizes).length:Int)=0:=λhc=>e (Yca.1 (by omega))
  rw[if_neg e3,e2,if_pos rfl];exact Zb2a _ (by have:=Zblw (m:=m) (n:=q.Zf) (qa:=q.Atoms) (steps:=p.Steps) (sizes:=sizes);omega) 0 (Yd _) 0
end Go.Proofs.YtcfaekfjkeobhaaGreat
