/-
  Parts of the proofs for this seat: V1 V2 V3 V4 V5 V6 OP AD MK SP PC.
-/
import Derived.Test.YtcfaekfjkeobhaaGreatP6
import Derived.Test.YtcfaekfjkeobhaaGreatP10
import Derived.Test.YtcfaekfjkeobhaaGreatP11
import Derived.Test.YtcfaekfjkeobhaaGreatP12
import Derived.Test.YtcfaekfjkeobhaaGreatP13
import Derived.Test.YtcfaekfjkeobhaaGreatP14
import Derived.Test.YtcfaekfjkeobhaaGreatP15
set_option linter.unusedSectionVars false
set_option linter.unusedSimpArgs false
set_option linter.unusedVariables false
set_option maxRecDepth 100000
set_option maxHeartbeats 4000000
namespace Go.Proofs.YtcfaekfjkeobhaaGreat
open Go.AM
@[simp] theorem Zfb(a b c:Int):Zbj a b c=some (Bo (inR a b c),[]):=by
 refine Zbsa _ _ _ _ ?_;by_cases h:b<=a<;>simp[inR,h]
@[simp] theorem Zfz(a b c:Int):Zbv a b c=some (Bo (inR a b c),[]):=by
 refine Zbqf _ _ _ _ ?_;by_cases h:b<=a<;>simp[inR,h]
theorem lIndexI(xs:List Int)(v:Int)(hx:Le xs):∀i,i<=xs.length->
  Zqz xs v xs.length i=some (I (Zet (λx=>decide (v=x)) (xs.drop i) i),[]):=by
 refine down _ ?_ ?_
 .refine Zbe3 _ _ _ _ _ ?_;simp[Zet]
 .intro i hi ih;refine Zbe3 _ _ _ _ _ ?_;have h4:=Zw (i:=i) (by omega);rw[Z7l _ hi];simp at ih;by_cases e:v=xs[i]<;>simp[hi,h4,e,ih]
@[simp] theorem xIndexI(xs:List Int)(v:Int)(hx:Le xs):Zu3 xs v=some (I (Zet (λx=>decide (v=x)) xs 0),[]):=by
 refine Zbsc _ _ _ ?_;have:=lIndexI xs v hx 0 (Ye _);simpa using this
@[simp] theorem Zsc(xs:List Int)(v:Int)(hx:Le xs):Zh3 xs v=some (Bo (has xs v),[]):=by
 refine Zbsd _ _ _ ?_;unfold has;rcases tf (xs.any (λx=>decide (v=x)))with e|e
 .simp[hx,Z7m _ _ _ e,e]
 .have:=Z7n _ _ 0 e;simp[hx,this,e]
theorem lIndexB(xs:List Bool)(v:Bool)(hx:Le xs):∀i,i<=xs.length->
  Zq0 xs v xs.length i=some (I (Zet (λx=>v == x) (xs.drop i) i),[]):=by
 refine down _ ?_ ?_
 .refine Zbe4 _ _ _ _ _ ?_;simp[Zet]
 .intro i hi ih;refine Zbe4 _ _ _ _ _ ?_;have h4:=Zw (i:=i) (by omega);rw[Z7l _ hi];simp at ih;by_cases e:v=xs[i]<;>simp[hi,h4,e,ih]
@[simp] theorem Zbub(xs:List Bool)(v:Bool)(hx:Le xs):Zu5 xs v=some (Bo (xs.any (λx=>v == x)),[]):=by
 refine Zbsf _ _ _ ?_;have q:Zu4 xs v=some (I (Zet (λx=>v == x) xs 0),[]):=by
  refine Zbse _ _ _ ?_;have:=lIndexB xs v hx 0 (Ye _);simpa using this
 rcases tf (xs.any (λx=>v == x))with e|e
 .rw[Z7m _ _ _ e]at q;rw[e];simp[q]
 .have:=Z7n _ _ 0 e;rw[e];simp[q,this]
theorem l_l7Has(xs:List Int)(v:Int)(hx:Le xs):∀i,i<=xs.length->Zpr xs v i=some (Bo (has (xs.drop i) v),[]):=by
 unfold has;refine down _ ?_ ?_
 .refine Zbdn _ _ _ _ ?_;simp
 .intro i hi ih;refine Zbdn _ _ _ _ ?_;have h4:=Zw (i:=i) (by omega);rw[drop_any _ hi];simp at ih;by_cases e:v=xs[i]
  .simp[hi,h4,<-e]
  .have e':¬xs[i]=v:=λhc=>e hc.symm
   simp[hi,h4,e,e',ih]
@[simp] theorem Zbgr(xs:List Int)(v:Int)(hx:Le xs):Zkj xs v=some (Bo (has xs v),[]):=by
 refine Zbqi _ _ _ ?_;have:=l_l7Has xs v hx 0 (Ye _);simpa using this
theorem nm_aux(s:ByteArray)(P:Prop):(if(s.size:Int)=1 then(∃(b1:UInt8),s[0]?=some b1/\(if 97<=(b1.toNat:Int)then(some (Bo (decide ((b1.toNat:Int)<=122)),[])=some (Bo (nmOk s),([]:List Blk)))else(some (Bo false,[])=some (Bo (nmOk s),([]:List Blk)))))else(some (Bo false,[])=some (Bo (nmOk s),([]:List Blk)))):=by
 by_cases h:s.size=1
 .obtain⟨b,hb⟩:=get0 h;rw[if_pos (by omega)];refine⟨b,hb,?_⟩;have e:nmOk s=(decide (97<=(b.toNat:Int)) && decide ((b.toNat:Int)<=122)):=by
   unfold nmOk;rw[hb];simp only[h,decide_true,Yz]
  by_cases h1:(97:Int)<=(b.toNat:Int)
  .rw[if_pos h1,e,decide_eq_true h1,Yz]
  .rw[if_neg h1,e,decide_eq_false h1,Yc5]
 .have h':¬(s.size:Int)=1:=by omega
  have:nmOk s=false:=by unfold nmOk;split<;>simp[h]
  simp[h',this]
@[simp] theorem x_nameOk(s:ByteArray):Zqy s=some (Bo (nmOk s),[]):=Zbsb _ _ (nm_aux s True)
@[simp] theorem x_l4Name(s:ByteArray):Zpq s=some (Bo (nmOk s),[]):=Zbqh _ _ (nm_aux s True)
def LeQ(q:Zc):Prop:=Le q.Atoms/\∀a∈q.Atoms,Le a.Vars
def blB(p:Nat->Bool)(n:Nat):List Bool:=(List.range n).map p
theorem blB_set(p:Nat->Bool)(n:Nat){v:Int}(h:inR v 0 ((n:Int)-1)=true):(blB p n).set v.toNat true=blB (addV p [v]) n:=by
 simp[inR]at h;apply Ycq
 .simp[blB]
 .intro i h1 h2;simp only[blB,Ybz,Ybw,List.length_range]at h1;rw[List.getElem_set];simp only[blB,List.getElem_map,List.getElem_range];by_cases e:v.toNat=i
  .have:(i:Int)=v:=by omega
   simp[e,addV,has,this]
  .have:¬(i:Int)=v:=by omega
   simp[e,addV,has,this]
theorem Zbuc(q:Zc)(n:Nat)(hn:n<=4)(hq:q.Ze=n)(a:Atom)(qa:List Atom)(l j:Int)(hv:Le a.Vars)(r:AV×List Blk):∀k,k<=a.Vars.length->∀p,
  (if Ze7 n (a.Vars.take k) (a.Vars.drop k)=true then Zk2 q (blB (addV p (a.Vars.drop k)) n) qa l (w (j+1))=some r else some (Bo false,[])=some r)->
  Zq1 q (blB p n) a qa l j a.Vars a.Vars.length k=some r:=by
 refine down _ ?_ ?_
 .intro p h;refine Zbe6 _ _ _ _ _ _ _ _ _ _ ?_;simpa[Ze7,Zx5]using h
 .intro k hk ih p h;have h4:=Zw (i:=k) (by omega);have hw:w (q.Ze-1)=(n:Int)-1:=by rw[hq];exact Z4 (by omega) (by omega)
  have hl:=Zsc (a.Vars.take k) a.Vars[k] (by simp;omega);refine Zbe6 _ _ _ _ _ _ _ _ _ _ ?_;rw[Z7o _ hk]at h;rcases tf (inR a.Vars[k] 0 ((n:Int)-1))with e1|e1
  .simp[e1]at h;simp[hk,h4,hw,e1,<-h]
  .rcases tf (has (a.Vars.take k) a.Vars[k])with e2|e2
   .rw[Zx6 p hk]at h;simp only[e1,e2,Yz,Bool.not_false]at h;have ih:=ih _ h;have e0:=e1;simp[inR]at e0;have e5:(a.Vars[k]).toNat<(blB p n).length:=by simp[blB];omega
    have e6:=blB_set p n e1;have e7:k<=a.Vars.length:=by omega
    simp at ih;simp[hk,h4,hw,e1,e2,hl,e0,e5,e6,e7,ih]
   .simp[e1,e2]at h;have e7:k<=a.Vars.length:=by omega
    simp[hk,h4,hw,e1,e2,hl,e7,<-h]
theorem Zbud(q:Zc)(n:Nat)(hn:n<=4)(hq:q.Ze=n)(qa:List Atom)(hl:Le qa)(hv:∀a∈qa,Le a.Vars):∀k,k<=qa.length->∀p,
  Zk2 q (blB p n) qa qa.length k=some (Bo ((qa.drop k).all (Zcp n) && (List.range n).all (addA p (qa.drop k))),[]):=by
 refine down _ ?_ ?_
 .intro p;refine Zbe5 _ _ _ _ _ _ ?_;have e:addA p []=p:=by funext u;simp[addA]
  have q1:=Zbub (blB p n) false (by simp[blB];omega);have q2:(blB p n).any (λx=>false == x)=!(List.range n).all p:=bl_any p n;rw[q2]at q1;simp[q1,e]
 .intro k hk ih p;refine Zbe5 _ _ _ _ _ _ ?_;have h4:=Zw (i:=k) (by omega);rw[Zpg _ hk];rcases tf (nmOk qa[k].Name)with e1|e1
  .simp[hk,e1,Zcp]
  rcases tf (inR qa[k].Vars.length 1 3)with e2|e2
  .simp[hk,e1,e2,Zcp]
  have b:=Zbuc q n hn hq qa[k] qa qa.length k (hv _ (Yh hk)) (Bo (Zcp n qa[k] && (qa.drop (k+1)).all (Zcp n) && (List.range n).all (addA p (qa.drop k))),[]) 0 (Ye _) p ?_
  .simp at b;simp[hk,e1,e2,b]
  .simp only[List.take_zero,Yk,Zcp,e1,e2,Yz];rcases tf (Ze7 n [] qa[k].Vars)with e3|e3
   .simp[e3]
   .have ih:=ih (addV p qa[k].Vars);simp only[e3,if_true,Yz,Z7p p hk];simp at ih;rw[show w ((k:Int)+1)=(k:Int)+1 from h4,ih]
@[simp] theorem Zsd(q:Zc)(h:LeQ q):Zgh q=some (Bo (Zk q.Ze q.Atoms),[]):=by
 refine Zbsr ?_;unfold Zk;rcases tf (inR q.Ze 1 4)with e1|e1
 .simp[e1]
 rcases tf (inR q.Atoms.length 1 4)with e2|e2
 .simp[e1,e2]
 have e0:=e1;simp[inR]at e0;have hn:q.Ze=(q.Ze.toNat:Int):=by omega
 have b:=Zbud q q.Ze.toNat (by omega) hn q.Atoms h.1 h.2 0 (Ye _) (λ_=>false);have r1:q.Ze.toNat<=room:=room2 (by omega);have r2:q.Ze<=room:=by
  have:(q.Ze.toNat:Int)<=room:=by exact_mod_cast r1
  omega
 have r3:q.Ze<=140737488355328:=by omega
 have ez:blB (λ_=>false) q.Ze.toNat=List.replicate q.Ze.toNat false:=by
  apply Ycq<;>simp[blB]
 rw[ez,<-hn]at b;simp at b;simp[e1,e2,e0,r1,r2,r3,b];omega
theorem Zbue(q:Zc)(n:Nat)(c:1<=n)(hn:n<=4)(hq:q.Ze=n)(a:Atom)(j:Int)(hv:Le a.Vars)(r:AV×List Blk):∀k,k<=a.Vars.length->∀p,
  (if Ze7 n (a.Vars.take k) (a.Vars.drop k)=true then Zmf q (Zbf (addV p (a.Vars.drop k))) (w (j+1))=some r else some (Bo false,[])=some r)->
  Zps q a (Zbf p) j k=some r:=by
 refine down _ ?_ ?_
 .intro p h;refine Zbdp _ _ _ _ _ _ ?_;simpa[Ze7,Zx5]using h
 .intro k hk ih p h;have h4:=Zw (i:=k) (by omega);have hw:w (q.Ze-1)=(n:Int)-1:=by rw[hq];exact Z4 (by omega) (by omega)
  have hl:=Zbgr (a.Vars.take k) a.Vars[k] (by simp;omega);have e7:k<=a.Vars.length:=by omega
  refine Zbdp _ _ _ _ _ _ ?_;rw[Z7o _ hk]at h;rcases tf (inR a.Vars[k] 0 ((n:Int)-1))with e1|e1
  .simp[e1]at h;simp[hk,h4,hw,e1,<-h]
  .rcases tf (has (a.Vars.take k) a.Vars[k])with e2|e2
   .rw[Zx6 p hk]at h;simp only[e1,e2,Yz,Bool.not_false]at h;have ih:=ih _ h;have e0:=e1;simp[inR]at e0;have e6:=Ztx p (v:=a.Vars[k]) (by simp[inR];omega);have e8:¬a.Vars[k]<0:=by omega
    simp at ih;simp[hk,h4,hw,e1,e2,hl,e0,e6,e7,e8,ih]
   .simp[e1,e2]at h;simp[hk,h4,hw,e1,e2,hl,e7,<-h]
def Zse(n:Int)(p:Nat->Bool):Bool:=decide (Zbf p=w (shlI 1 n-1))
theorem Zbuf(q:Zc)(n:Nat)(c:1<=n)(hn:n<=4)(hq:q.Ze=n)(hl:Le q.Atoms)(hv:∀a∈q.Atoms,Le a.Vars):∀k,k<=q.Atoms.length->∀p,
  Zmf q (Zbf p) k=some (Bo ((q.Atoms.drop k).all (Zcp n) && Zse n (addA p (q.Atoms.drop k))),[]):=by
 refine down _ ?_ ?_
 .intro p;refine Zbdo _ _ _ _ ?_;have e:addA p []=p:=by funext u;simp[addA]
  have h0:¬(n:Int)<0:=by omega
  simp[e,hq,h0,Zse]
 .intro k hk ih p;refine Zbdo _ _ _ _ ?_;have h4:=Zw (i:=k) (by omega);rw[Zpg _ hk];rcases tf (nmOk q.Atoms[k].Name)with e1|e1
  .simp[hk,e1,Zcp]
  rcases tf (inR q.Atoms[k].Vars.length 1 3)with e2|e2
  .simp[hk,e1,e2,Zcp]
  have b:=Zbue q n c hn hq q.Atoms[k] k (hv _ (Yh hk)) (Bo (Zcp n q.Atoms[k] && (q.Atoms.drop (k+1)).all (Zcp n) && Zse n (addA p (q.Atoms.drop k))),[]) 0 (Ye _) p ?_
  .simp at b;simp[hk,e1,e2,b]
  .simp only[List.take_zero,Yk,Zcp,e1,e2,Yz];rcases tf (Ze7 n [] q.Atoms[k].Vars)with e3|e3
   .simp[e3]
   .have ih:=ih (addV p q.Atoms[k].Vars);simp only[e3,if_true,Yz,Z7p p hk];simp at ih;rw[show w ((k:Int)+1)=(k:Int)+1 from h4,ih]
@[simp] theorem Zf0(q:Zc)(h:LeQ q):Zej q=some (Bo (Zk q.Ze q.Atoms),[]):=by
 refine Zbqj _ _ ?_;unfold Zk;rcases tf (inR q.Ze 1 4)with e1|e1
 .simp[e1]
 rcases tf (inR q.Atoms.length 1 4)with e2|e2
 .simp[e1,e2]
 have e0:=e1;simp[inR]at e0;obtain⟨k,hk⟩:∃k:Nat,q.Ze=k:=⟨q.Ze.toNat,by omega⟩;have b:=Zbuf q k (by omega) (by omega) hk h.1 h.2 0 (Ye _) (λ_=>false);have ez:Zbf (λ_=>false)=0:=rfl;rw[ez]at b;simp only[Yk,Int.ofNat_zero]at b;have e3:(q.Atoms.all (Zcp k) && Zse k (addA (λ_=>false) q.Atoms))=(q.Atoms.all (Zcp k) && (List.range k).all (addA (λ_=>false) q.Atoms)):=by
  rcases tf (q.Atoms.all (Zcp k))with e3|e3
  .simp[e3]
  .have hk':k=1\/k=2\/k=3\/k=4:=by omega
   have hz:=all_in e3;have hz':∀u:Nat,k<=u->addA (λ_=>false) q.Atoms u=false:=λu hu=>by simp only[addA,Yci];exact hz u (by omega)
   rw[e3,Yz,Yz,Ybh,Zse,decide_eq_true_eq,Zbf];rcases hk' with rfl|rfl|rfl|rfl
   .simp[shlI,Z4,Zty,hz' 1 (by omega),hz' 2 (by omega),hz' 3 (by omega),Ycw]
   .simp[shlI,Z4,Zty,hz' 2 (by omega),hz' 3 (by omega),Ycw]
   .simp[shlI,Z4,Zty,hz' 3 (by omega),Ycw,and_assoc]
   .simp[shlI,Z4,Zty,Ycw,and_assoc]
 rw[e3]at b;rw[hk]at e1;simp only[Zfz,Y4,Y9,AV.t.injEq,T.bool.injEq,and_true,exists_eq_left',e1,e2,if_true,b,hk,Yd];simp
@[simp] theorem Zjp(q:Zc)(h:LeQ q):Zdz q=some (I (Zu q.Ze q.Atoms),[]):=by
 refine Zbsj _ _ ?_;have q1:=Zsd q h;unfold Zu;rcases tf (Zk q.Ze q.Atoms)with e|e
 .simp[q1,e]
 .have:=(Zit e).2.2.1;have h0:¬((q.Atoms.length:Int)<0):=by omega
  simp[q1,e,this,h0]
@[simp] theorem Zcs(q:Zc)(h:LeQ q):Zch q=some (I (Zu q.Ze q.Atoms),[]):=by
 refine Zbqp _ _ ?_;have q1:=Zf0 q h;unfold Zu;rcases tf (Zk q.Ze q.Atoms)with e|e
 .simp[q1,e]
 .have:=(Zit e).2.2.1;have h0:¬((q.Atoms.length:Int)<0):=by omega
  simp[q1,e,this,h0]
theorem Zbug(xs:List Int)(hx:Le xs):∀i,i<=xs.length->Zqb xs i=some (Bo (Zca (xs.drop i) && decide ((xs.length:Int)<=16)),[]):=by
 refine down _ ?_ ?_
 .refine Zbec _ _ _ ?_;simp[Zca]
 .intro i hi ih;refine Zbec _ _ _ ?_;have h4:=Zw (i:=i) (by omega);rw[Z7i hi];simp at ih;rcases tf (inR xs[i] 0 7)with h|h<;>simp[hi,h4,h,ih]
@[simp] theorem Zv3(xs:List Int)(hx:Le xs):Zkt xs=some (Bo (Z9 xs),[]):=by
 refine Zbq8 _ _ ?_;have:=Zbug xs hx 0 (Ye _);simpa[Z9]using this
theorem Zbuh(xs:List Int)(hx:Le xs):∀i,i<=xs.length->Zq2 xs xs xs.length i=some (Bo (Zca (xs.drop i) && decide ((xs.length:Int)<=16)),[]):=by
 refine down _ ?_ ?_
 .refine Zbe7 _ _ _ _ _ ?_;simp[Zca]
 .intro i hi ih;refine Zbe7 _ _ _ _ _ ?_;have h4:=Zw (i:=i) (by omega);rw[Z7i hi];simp at ih;rcases tf (inR xs[i] 0 7)with h|h<;>simp[hi,h4,h,ih]
@[simp] theorem Zv4(xs:List Int)(hx:Le xs):Zk3 xs=some (Bo (Z9 xs),[]):=by
 refine Zbsg _ _ ?_;have:=Zbuh xs hx 0 (Ye _);simpa[Z9]using this
theorem Zbui(xs ys:List Int)(hx:Le xs)(hl:ys.length=xs.length):∀i,i<=xs.length->Zqr xs ys i=some (Bo (Zba (xs.drop i) (ys.drop i)),[]):=by
 refine down _ ?_ ?_
 .refine Zbey _ _ _ _ ?_;simp[Zba]
 .intro i hi ih;refine Zbey _ _ _ _ ?_;have hi2:i<ys.length:=by omega
  have h4:=Zw (i:=i) (by omega);rw[Z7j hi hi2];simp at ih;by_cases h:xs[i]<ys[i]
  .simp[hi,hi2,h4,h,show ¬ys[i]<=xs[i] by omega]
  .simp[hi,hi2,h4,h,show ys[i]<=xs[i] by omega,ih]
@[simp] theorem Zsf(xs ys:List Int)(hx:Le xs):Zh2 xs ys=some (Bo (dom xs ys),[]):=by
 refine Zbrw _ _ _ ?_;by_cases hl:ys.length=xs.length
 .have:=Zbui xs ys hx hl 0 (Ye _);simp at this;simp[hl,this,dom]
 .have h2:¬((xs.length:Int)=ys.length):=by omega
  have h1:¬(xs.length=ys.length):=by omega
  simp[h1,h2,dom]
theorem Zbuj(xs ys:List Int)(hx:Le xs)(hl:ys.length=xs.length):∀i,i<=xs.length->Zq3 xs ys xs.length i=some (Bo (Zba (xs.drop i) (ys.drop i)),[]):=by
 refine down _ ?_ ?_
 .refine Zbe8 _ _ _ _ _ ?_;simp[Zba]
 .intro i hi ih;refine Zbe8 _ _ _ _ _ ?_;have hi2:i<ys.length:=by omega
  have h4:=Zw (i:=i) (by omega);rw[Z7j hi hi2];simp at ih;by_cases h:xs[i]<ys[i]
  .simp[hi,hi2,h4,h,show ¬ys[i]<=xs[i] by omega]
  .simp[hi,hi2,h4,h,show ys[i]<=xs[i] by omega,ih]
@[simp] theorem Z3g(xs ys:List Int)(hx:Le xs):Zk4 xs ys=some (Bo (dom xs ys),[]):=by
 refine Zbsh _ _ _ ?_;by_cases hl:ys.length=xs.length
 .have:=Zbuj xs ys hx hl 0 (Ye _);simp at this;simp[hl,this,dom]
 .have h2:¬((xs.length:Int)=ys.length):=by omega
  have h1:¬(xs.length=ys.length):=by omega
  simp[h1,h2,dom]
def LeX(b:Box):Prop:=Le b.Low/\Le b.High
@[simp] theorem Zv5(b:Box)(h:LeX b):Zh4 b=some (Bo (Z6 b.Low b.High),[]):=by
 refine Zbsi _ _ ?_;have q1:=Zv4 b.Low h.1;have q2:=Zv4 b.High h.2;have q3:=Z3g b.High b.Low h.2;unfold Z6;rcases tf (Z9 b.Low)with e1|e1<;>rcases tf (Z9 b.High)with e2|e2<;>by_cases e3:0<b.Low.length<;>simp[q1,q2,q3,e1,e2,e3]
@[simp] theorem Zv6(b:Box)(h:LeX b):Zi4 b=some (Bo (Z6 b.Low b.High),[]):=by
 refine Zbrx _ _ ?_;have q1:=Zv3 b.Low h.1;have q2:=Zv3 b.High h.2;have q3:=Zsf b.High b.Low h.2;unfold Z6;rcases tf (Z9 b.Low)with e1|e1<;>rcases tf (Z9 b.High)with e2|e2<;>by_cases e3:0<b.Low.length<;>simp[q1,q2,q3,e1,e2,e3]
theorem Zbgs(b:Box)(hv:Z6 b.Low b.High=true):∀i,i<=b.Low.length->∀n:Int,1<=n->n<=8 ^ i->
  Zrp b n b.Low.length i=some (I (n*vol (b.Low.drop i) (b.High.drop i)),[]):=by
 obtain⟨b1,b2,b3,b4⟩:=Zeu hv;refine down _ ?_ ?_
 .intro n _ _;refine Zbgb _ _ _ _ _ ?_;rw[Yba,<-b1,Yba,Zyc];simp
 .intro i hi0 ih n hn1 hn2;refine Zbgb _ _ _ _ _ ?_;have h5:=Zw (i:=i) (by omega);have hi2:i<b.High.length:=by omega
  obtain⟨g1,g2,g3⟩:=b4 i hi0 hi2;have p1:=pow8 (i:=i+1) (by omega);have p2:(8:Int) ^ (i+1)=8 ^ i*8:=Int.pow_succ 8 i;have hd:(b.High[i]-b.Low[i]+1)<=8:=by omega
  have hd1:1<=(b.High[i]-b.Low[i]+1):=by omega
  have m1:n*(b.High[i]-b.Low[i]+1)<=8 ^ i*8:=Int.mul_le_mul hn2 hd (by omega) (by omega);have m2:1<=n*(b.High[i]-b.Low[i]+1):=by
   have:=Int.mul_le_mul hn1 hd1 (by omega) (by omega);omega
  have w1:IntKind.wrap .i64 (b.High[i]-b.Low[i])=b.High[i]-b.Low[i]:=Z4 (by omega) (by omega);have w2:IntKind.wrap .i64 (b.High[i]-b.Low[i]+1)=b.High[i]-b.Low[i]+1:=Z4 (by omega) (by omega);have w3:IntKind.wrap .i64 (n*(b.High[i]-b.Low[i]+1))=n*(b.High[i]-b.Low[i]+1):=Z4 (by omega) (by omega);have ih:=ih (n*(b.High[i]-b.Low[i]+1)) m2 (by omega);rw[Zyd hi0 hi2,<-Int.mul_assoc];simp at ih;simp[hi0,hi2,h5,w1,w2,w3,ih]
@[simp] theorem Zbgt(b:Box)(h:LeX b):Zvm b=some (I (Zbu b.Low b.High),[]):=by
 refine Zbtt _ _ ?_;have q1:=Zv5 b h;unfold Zbu;rcases tf (Z6 b.Low b.High)with e|e
 .simp[q1,e]
 .have q2:=Zbgs b e 0 (Ye _) 1 (by omega) (by decide);have q3:Zn4 b=some (I (vol b.Low b.High),[]):=Zbgc _ _ (by simpa using q2);simp[q1,q3,e,capV]
theorem Zbuk(b:Box)(hv:Z6 b.Low b.High=true):∀i,i<=b.Low.length->∀n:Int,1<=n->
  Zrv b (capV n) i=some (I (capV (n*vol (b.Low.drop i) (b.High.drop i))),[]):=by
 obtain⟨b1,b2,b3,b4⟩:=Zeu hv;refine down _ ?_ ?_
 .intro n _;refine Zbgi _ _ _ _ ?_;rw[Yba,<-b1,Yba,Zyc];simp[b1]
 .intro i hi0 ih n hn1;refine Zbgi _ _ _ _ ?_;have h5:=Zw (i:=i) (by omega);have hi2:i<b.High.length:=by omega
  obtain⟨g1,g2,g3⟩:=b4 i hi0 hi2;have hd:(b.High[i]-b.Low[i]+1)<=8:=by omega
  have hd1:1<=(b.High[i]-b.Low[i]+1):=by omega
  obtain⟨c1,c2⟩:=cap_le hn1;have m1:capV n*(b.High[i]-b.Low[i]+1)<=401*8:=Int.mul_le_mul c2 hd (by omega) (by omega);have m2:1*1<=capV n*(b.High[i]-b.Low[i]+1):=Int.mul_le_mul c1 hd1 (by omega) (by omega);have m3:1*1<=n*(b.High[i]-b.Low[i]+1):=Int.mul_le_mul hn1 hd1 (by omega) (by omega);have w1:IntKind.wrap .i64 (b.High[i]-b.Low[i])=b.High[i]-b.Low[i]:=Z4 (by omega) (by omega);have w2:IntKind.wrap .i64 (b.High[i]-b.Low[i]+1)=b.High[i]-b.Low[i]+1:=Z4 (by omega) (by omega);have w3:IntKind.wrap .i64 (capV n*(b.High[i]-b.Low[i]+1))=capV n*(b.High[i]-b.Low[i]+1):=Z4 (by omega) (by omega);have ih:=ih (n*(b.High[i]-b.Low[i]+1)) (by omega);rw[<-cap_mul hn1 hd1]at ih;rw[Zyd hi0 hi2,<-Int.mul_assoc];simp at ih;simp[hi0,hi2,h5,w1,w2,w3,cap_flip,ih]
@[simp] theorem Zbgu(b:Box)(h:LeX b):Zru b=some (I (Zbu b.Low b.High),[]):=by
 refine Zbtv _ _ ?_;have q1:=Zv6 b h;unfold Zbu;rcases tf (Z6 b.Low b.High)with e|e
 .simp[q1,e]
 .have q2:=Zbuk b e 0 (Ye _) 1 (by omega);have e1:capV 1=1:=by decide
  rw[e1]at q2;simp at q2;simp[q1,e,q2]
theorem l_vars0(q:Zc)(m:Int)(hl:Le q.Atoms)(hv:∀a∈q.Atoms,Le a.Vars)(v:Nat)(c:v<8)(out:List Int)(ho:out.length<=8)(r:AV×List Blk):∀i,i<=q.Atoms.length->
  Zk5 q (out++if hasV m (q.Atoms.drop i) i v=true then[(v:Int)]else[]) m (w ((v:Int)+1))=some r->
  Znh q out m v q.Atoms q.Atoms.length i=some r:=by
 refine down _ ?_ ?_
 .intro h;refine Zbfa _ _ _ _ _ _ _ _ ?_;simpa[hasV]using h
 .intro i hi ih h;refine Zbfa _ _ _ _ _ _ _ _ ?_;have h4:=Zw (i:=i) (by omega);have c1:=Zsc q.Atoms[i].Vars v (hv _ (Yh hi));have h0:¬(i:Int)<0:=by omega
  rw[Zx8 _ hi]at h;by_cases e1:andI (shrI m i) 1=1
  .have e2:Zz m i=true:=by simp[Zz,e1]
   rcases tf (has q.Atoms[i].Vars v)with e3|e3
   .simp[e2,e3]at h;have ih:=ih (by simpa using h);simp at ih;simp[hi,h4,h0,e1,c1,e3,ih]
   .simp[e2,e3]at h;have e4:out.length+1<=68719476736:=by omega
    simp[hi,h4,h0,e1,c1,e3,e4,h]
  .have e2:Zz m i=false:=by simp[Zz,e1]
   simp[e2]at h;have ih:=ih (by simpa using h);simp at ih;simp[hi,h4,h0,e1,ih]
theorem l_vars1(q:Zc)(m:Int)(hl:Le q.Atoms)(hv:∀a∈q.Atoms,Le a.Vars)(n:Nat)(hq:q.Ze=n)(hn:n<=4):∀k,k<=n->
  Zk5 q (varL m q.Atoms k) m k=some (.own 0,[.arr Z1 1 true ((varL m q.Atoms n).map ic)]):=by
 refine down _ ?_ ?_
 .refine Zbe9 _ _ _ _ _ ?_;simp[hq]
 .intro k hk ih;refine Zbe9 _ _ _ _ _ ?_;have h4:=Zw (i:=k) (by omega)
  have b:=l_vars0 q m hl hv k (by omega) (varL m q.Atoms k) (by have:=Zmd m q.Atoms k;omega) _ 0 (Ye _) (by
   rw[Yk,<-Zblt,show w ((k:Int)+1)=(k:Int)+1 from h4];simpa using ih)
  simp at b;simp[hq,hk,b]
@[simp] theorem Zsg(q:Zc)(m:Int)(h:LeQ q)(hv:Zk q.Ze q.Atoms=true):Zg5 q m=some (.own 0,[.arr Z1 1 true ((varL m q.Atoms q.Ze.toNat).map ic)]):=by
 refine Zbsl _ _ _ ?_;have hn:=Zfq hv;have b:=l_vars1 q m h.1 h.2 q.Ze.toNat (by omega) (by omega) 0 (Ye _);simpa[varL]using b
theorem l_both(b xs:List Int)(hb:Le b)(hx:xs.length<=1000000):∀i,i<=xs.length->
  Zni ((xs.take i).filter (has b)) b xs xs.length i=some (.own 0,[.arr Z1 1 true ((xs.filter (has b)).map ic)]):=by
 refine down _ ?_ ?_
 .refine Zbfb _ _ _ _ _ _ ?_;simp
 .intro i hi ih;refine Zbfb _ _ _ _ _ _ ?_;have h4:=Zw (i:=i) (by omega);have c1:=Zsc b xs[i] hb;have e4:((xs.take i).filter (has b)).length+1<=68719476736:=by
   have:=Ybr (has b) (xs.take i);simp at this;omega
  rw[Zx9 _ hi]at ih;rcases tf (has b xs[i])with e|e
  .simp[e]at ih;simp[hi,h4,c1,e,ih]
  .simp[e]at ih;simp[hi,h4,c1,e,e4,ih]
@[simp] theorem x_both(xs b:List Int)(hb:Le b)(hx:xs.length<=1000000):Zi8 xs b=some (.own 0,[.arr Z1 1 true ((xs.filter (has b)).map ic)]):=by
 refine Zbsm _ _ _ ?_;have:=l_both b xs hb hx 0 (Ye _);simpa using this
theorem l_bits0(q:Zc)(m:Int)(hv:∀a∈q.Atoms,Le a.Vars)(c:Var4 q.Atoms)(i:Nat)(hi:i<q.Atoms.length)(hm:Zz m i=true)(r:AV×List Blk):∀k,k<=q.Atoms[i].Vars.length->∀p,
  Zkn q m (Zbf (addV p (q.Atoms[i].Vars.drop k))) (w ((i:Int)+1))=some r->Zms q m (Zbf p) i k=some r:=by
 have e1:andI (shrI m i) 1=1:=by simpa[Zz]using hm
 have h0:¬(i:Int)<0:=by omega
 have ha:=Yh hi;refine down _ ?_ ?_
 .intro p h;refine Z2w _ _ _ _ _ _ ?_;rw[Yba,Zx5]at h;simp[hi,h]
 .intro k hk ih p h;refine Z2w _ _ _ _ _ _ ?_;have h4:=Zw (i:=k) (by have:=hv _ ha;omega);have e6:=Ztx p (v:=q.Atoms[i].Vars[k]) (c _ ha _ (Yh hk));have e7:=c _ ha _ (Yh hk);simp[inR]at e7;have e8:¬q.Atoms[i].Vars[k]<0:=by omega
  rw[Zx6 p hk]at h;have ih:=ih _ h;simp at ih;simp[hi,hk,h0,e1,h4,e6,e7,e8,ih]
theorem l_bits1(q:Zc)(m:Int)(hl:Le q.Atoms)(hv:∀a∈q.Atoms,Le a.Vars)(c:Var4 q.Atoms):∀i,i<=q.Atoms.length->∀p,
  Zkn q m (Zbf p) i=some (I (Zbf (addM m p q.Atoms i)),[]):=by
 refine down _ ?_ ?_
 .intro p;refine Zbd1 _ _ _ _ _ ?_;have e:addM m p q.Atoms q.Atoms.length=p:=by funext u;simp[addM,hasV]
  simp[e]
 .intro i hi ih p;refine Zbd1 _ _ _ _ _ ?_;have h4:=Zw (i:=i) (by omega);have h0:¬(i:Int)<0:=by omega
  rw[Zbls m p hi];rcases tf (Zz m i)with e|e
  .have e1:¬andI (shrI m i) 1=1:=by simpa[Zz]using e
   have ih:=ih p;simp at ih;have b:Zms q m (Zbf p) i 0=some (I (Zbf (addM m p q.Atoms (i+1))),[]):=by
    refine Z2w _ _ _ _ _ _ ?_;simp[hi,h0,e1,h4,ih]
   simp[hi,e,b]
  .have ih:=ih (addV p q.Atoms[i].Vars);have b:=l_bits0 q m hv c i hi e _ 0 (Ye _) p (by rw[Yk,show w ((i:Int)+1)=(i:Int)+1 from h4];simpa using ih);simp at b;simp[hi,e,b]
@[simp] theorem Zob(q:Zc)(m:Int)(h:LeQ q)(c:Var4 q.Atoms):Zek q m=some (I (Zbf (pV m q.Atoms)),[]):=by
 refine Zbqr _ _ _ ?_;have b:=l_bits1 q m h.1 h.2 c 0 (Ye _) (λ_=>false);have ez:Zbf (λ_=>false)=0:=rfl;have e:addM m (λ_=>false) q.Atoms 0=pV m q.Atoms:=by funext u;simp[addM,pV]
 rw[ez,e]at b;simpa using b
theorem Zbul(q:Zc)(hq:LeQ q)(h:Zk q.Ze q.Atoms=true)(x:Zb)(info:List Zf)(st:List Int)(hs:StOk info st)(cc:info.length<=100)(cd:st.length<=100) :
  match Zdr q.Atoms x info st with
  |some y=>Zk6 q x info st=some (.tup [.agg (y.c.map .t),Bo true],[])
  |none=>∃y:Zf,Zk6 q x info st=some (.tup [.agg (y.c.map .t),Bo false],[]):=by
 have hl:=Zcq h;have wl:w ((q.Atoms.length:Int)-1)=(q.Atoms.length:Int)-1:=Z4 (by omega) (by omega);unfold Zdr;by_cases k1:x.Kind=1
 .rw[if_pos k1];by_cases c1:inR x.Atom 0 (q.Atoms.length-1)=true/\x.Order=0
  .rw[if_pos c1];have c2:=c1.1;simp[inR]at c2;have hlt:x.Atom.toNat<q.Atoms.length:=by omega
   have hv:=Zkc h _ (Yh hlt);have h0:¬x.Atom<0:=by omega
   simp only;refine Zjo _ _ _ _ _ ?_;have e:q.Atoms[x.Atom.toNat].Vars.headD 0=q.Atoms[x.Atom.toNat].Vars[0]'(by omega):=by
    rw[Yc6,hd0 (by omega)]
   rw[Yc6]at e;simp[k1,wl,c1,h0,hlt,c2,e,show 0<q.Atoms[x.Atom.toNat].Vars.length by omega]
  .rw[if_neg c1];refine⟨⟨0,-1,-1,-1⟩,Zjo _ _ _ _ _ ?_⟩;rcases tf (inR x.Atom 0 (q.Atoms.length-1))with e|e
   .simp[k1,wl,e]
   .have e2:¬x.Order=0:=λhc=>c1 ⟨e,hc⟩
    simp[k1,wl,e,e2]
 rw[if_neg k1];by_cases k0:x.Atom=0
 rotate_left
 .rw[if_pos k0];exact⟨⟨0,-1,-1,-1⟩,Zjo _ _ _ _ _ (by simp[k1,k0])⟩
 rw[if_neg (by simpa using k0)];have w1:w ((st.length:Int)-1)=(st.length:Int)-1:=Z4 (by omega) (by omega);have w2:w ((st.length:Int)-2)=(st.length:Int)-2:=Z4 (by omega) (by omega);by_cases k2:x.Kind=2
 .rw[if_pos k2];by_cases n1:st.length<1
  .have:Zcb st info 1=none:=by unfold Zcb;rw[if_neg (by omega)]
   rw[this];have n1':(st.length:Int)<1:=by omega
   exact⟨⟨0,-1,-1,-1⟩,Zjo _ _ _ _ _ (by simp[k1,k2,k0,n1'])⟩
  .have n1':¬(st.length:Int)<1:=by omega
   obtain⟨s,y,t1,t2,t3,t4⟩:=Zke hs (by omega:1<=1) (by omega:1<=st.length);have z1:(0:Int)<=(st.length:Int)-1:=by omega
   have z5:(1:Int)<=(st.length:Int):=by omega
   have z2:((st.length:Int)-1).toNat=st.length-1:=by omega
   have q1:=Zsg q y.Mask hq h;have q2:=Zsc (varL y.Mask q.Atoms q.Ze.toNat) x.Order (by have:=Zmd y.Mask q.Atoms q.Ze.toNat;have:=Zfq h;omega);rw[Zph h]at q2;rw[t1];simp only;by_cases c1:vin q.Atoms y.Mask x.Order=true/\y.Order≠x.Order
   .rw[if_pos c1];refine Zjo _ _ _ _ _ ?_;simp[k1,k2,k0,n1',w1,z1,z2,z5,t2,t3,t4,q1,q2,c1]
   .rw[if_neg c1];refine⟨⟨0,-1,-1,-1⟩,Zjo _ _ _ _ _ ?_⟩;rcases tf (vin q.Atoms y.Mask x.Order)with e|e
    .simp[k1,k2,k0,n1',w1,z1,z2,z5,t2,t3,t4,q1,q2,e]
    .have e2:y.Order=x.Order:=Decidable.byContradiction λhc=>c1 ⟨e,hc⟩
     simp[k1,k2,k0,n1',w1,z1,z2,z5,t2,t3,t4,q1,q2,e,e2]
 rw[if_neg k2];by_cases n2:st.length<2
 .have:Zcb st info 2=none:=by unfold Zcb;rw[if_neg (by omega)]
  rw[this];have n2':(st.length:Int)<2:=by omega
  exact⟨⟨0,-1,-1,-1⟩,Zjo _ _ _ _ _ (by simp[k1,k2,k0,n2'])⟩
 have n2':¬(st.length:Int)<2:=by omega
 obtain⟨s,y,t1,t2,t3,t4⟩:=Zke hs (by omega:1<=2) (by omega:2<=st.length);obtain⟨t,z,u1,u2,u3,u4⟩:=Zke hs (by omega:1<=1) (by omega:1<=st.length);have z1:(0:Int)<=(st.length:Int)-1:=by omega
 have z2:((st.length:Int)-1).toNat=st.length-1:=by omega
 have z3:(0:Int)<=(st.length:Int)-2:=by omega
 have z4:((st.length:Int)-2).toNat=st.length-2:=by omega
 have hn:=Zfq h;have q1:=Zsg q y.Mask hq h;have q2:=Zsg q z.Mask hq h;have l1:=Zmd y.Mask q.Atoms q.Ze.toNat;have l2:=Zmd z.Mask q.Atoms q.Ze.toNat;have q3:=x_both (varL y.Mask q.Atoms q.Ze.toNat) (varL z.Mask q.Atoms q.Ze.toNat) (by omega) (by omega)
 have q4:=Zsc ((varL y.Mask q.Atoms q.Ze.toNat).filter (has (varL z.Mask q.Atoms q.Ze.toNat))) x.Order (by
  have:=Ybr (has (varL z.Mask q.Atoms q.Ze.toNat)) (varL y.Mask q.Atoms q.Ze.toNat);omega)
 rw[Zblu h]at q4;have q5:=Z7q h y.Mask z.Mask;generalize hS:(varL y.Mask q.Atoms q.Ze.toNat).filter (has (varL z.Mask q.Atoms q.Ze.toNat))=S at q3 q4 q5;rw[t1,u1];simp only
 have base:∀(r:AV×List Blk),(if andI y.Mask z.Mask=0 then
    if((S.length:Int)=0)then some (.tup [.agg [I (orI y.Mask z.Mask),I (-1),I s,I t],Bo false],[])=some r
    else if x.Kind=3 then some (.tup [.agg [I (orI y.Mask z.Mask),I (-1),I s,I t],Bo (decide (x.Order=0))],[])=some r
    else if x.Kind=5 then some (.tup [.agg [I (orI y.Mask z.Mask),I y.Order,I s,I t],Bo (decide (x.Order=0))],[])=some r
    else if x.Kind=4 then
     if(vin q.Atoms y.Mask x.Order && vin q.Atoms z.Mask x.Order)=true then
      if y.Order=x.Order then some (.tup [.agg [I (orI y.Mask z.Mask),I x.Order,I s,I t],Bo (decide (z.Order=x.Order))],[])=some r
      else some (.tup [.agg [I (orI y.Mask z.Mask),I x.Order,I s,I t],Bo false],[])=some r
     else some (.tup [.agg [I (orI y.Mask z.Mask),I x.Order,I s,I t],Bo false],[])=some r
    else some (.tup [.agg [I (orI y.Mask z.Mask),I (-1),I s,I t],Bo false],[])=some r
   else some (.tup [.agg [I (orI y.Mask z.Mask),I (-1),I s,I t],Bo false],[])=some r)->Zk6 q x info st=some r:=by
  intro r hr;refine Zjo _ _ _ _ _ ?_;simp only[k1,k0,k2,if_false,if_true,n2',w1,w2,z1,z2,z3,z4,t2,t3,t4,u2,u3,u4,q1,q2,true_and,Y4,exists_eq_left'];refine⟨_,rfl,_,rfl,S,?_,?_⟩
  .simpa using q3
  .simp only[q4,Y4,Y9,AV.t.injEq,T.bool.injEq,and_true,exists_eq_left'];simpa using hr
 by_cases c1:andI y.Mask z.Mask=0/\shr q.Atoms y.Mask z.Mask=true
 rotate_left
 .rw[if_neg c1];refine⟨⟨orI y.Mask z.Mask,-1,s,t⟩,base _ ?_⟩;by_cases c2:andI y.Mask z.Mask=0
  .have c3:S.length=0:=q5.2 (by rcases tf (shr q.Atoms y.Mask z.Mask)with e|e;exact e;exact absurd ⟨c2,e⟩ c1);have c4:(S.length:Int)=0:=by omega
   rw[if_pos c2,if_pos c4];simp
  .rw[if_neg c2];simp
 rw[if_pos c1];have c4:¬(S.length:Int)=0:=λhc=>by
  have:=q5.1 (by omega);rw[c1.2]at this;cases this
 have c5:¬S=[]:=λhc=>c4 (by simp[hc])
 unfold Zc1;by_cases j1:x.Kind=3/\x.Order=0
 .rw[if_pos j1];exact base _ (by simp[c1.1,c4,c5,j1])
 rw[if_neg j1];by_cases j2:x.Kind=5/\x.Order=0
 .rw[if_pos j2];exact base _ (by simp[c1.1,c4,c5,j2])
 rw[if_neg j2];by_cases j3:x.Kind=4/\vin q.Atoms y.Mask x.Order=true/\vin q.Atoms z.Mask x.Order=true/\y.Order=x.Order/\z.Order=x.Order
 .rw[if_pos j3];exact base _ (by simp[c1.1,c4,c5,j3])
 rw[if_neg j3];simp only[Option.map_none];by_cases k3:x.Kind=3
 .have e:¬x.Order=0:=λhc=>j1 ⟨k3,hc⟩
  exact⟨⟨orI y.Mask z.Mask,-1,s,t⟩,base _ (by simp[c1.1,c4,c5,k3,e])⟩
 by_cases k5:x.Kind=5
 .have e:¬x.Order=0:=λhc=>j2 ⟨k5,hc⟩
  exact⟨⟨orI y.Mask z.Mask,y.Order,s,t⟩,base _ (by simp[c1.1,c4,c5,k5,e])⟩
 by_cases k4:x.Kind=4
 .refine⟨⟨orI y.Mask z.Mask,x.Order,s,t⟩,base _ ?_⟩;rcases tf (vin q.Atoms y.Mask x.Order)with e1|e1<;>rcases tf (vin q.Atoms z.Mask x.Order)with e2|e2<;>by_cases e3:y.Order=x.Order<;>simp[c1.1,c4,c5,k4,e1,e2,e3];exact λe4=>j3 ⟨k4,e1,e2,e3,e4⟩
 .exact⟨⟨orI y.Mask z.Mask,-1,s,t⟩,base _ (by simp[c1.1,c4,c5,k3,k4,k5])⟩
@[simp] theorem Zv7(b v:Int):Zkq b v=some (Bo (inR v 0 3 && decide (andI (shrI b v) 1=1)),[]):=by
 refine Zbq4 _ _ _ ?_;rcases tf (inR v 0 3)with e|e
 .simp[e]
 .have e0:=e;simp[inR]at e0
  have:¬v<0:=by omega
  simp[e,this]
def Zbq(x:Zb):Option Zf->AV×List Blk
 |some y=>(.tup [.agg (y.c.map .t),I (popsI x)],[])
 |none=>(.tup [.agg [I 0,I 0,I 0,I 0],I (-1)],[])
theorem Zbum(q:Zc)(hq:LeQ q)(h:Zk q.Ze q.Atoms=true)(x:Zb)(info:List Zf)(st:List Int)(hs:StOk info st)(cc:info.length<=100)(cd:st.length<=100) :
  Zkr q x info st=some (Zbq x (Zdr q.Atoms x info st)):=by
 have hl:=Zcq h;have wl:w ((q.Atoms.length:Int)-1)=(q.Atoms.length:Int)-1:=Z4 (by omega) (by omega);unfold Zdr;by_cases k1:x.Kind=1
 .rw[if_pos k1];by_cases c1:inR x.Atom 0 (q.Atoms.length-1)=true/\x.Order=0
  .rw[if_pos c1];have c2:=c1.1;simp[inR]at c2;have hlt:x.Atom.toNat<q.Atoms.length:=by omega
   have hv:=Zkc h _ (Yh hlt);have h0:¬x.Atom<0:=by omega
   refine Zg9 _ _ _ _ _ ?_;have e:q.Atoms[x.Atom.toNat].Vars.headD 0=q.Atoms[x.Atom.toNat].Vars[0]'(by omega):=by
    rw[Yc6,hd0 (by omega)]
   rw[Yc6]at e;simp[k1,wl,c1,h0,hlt,c2,e,Zbq,popsI,show 0<q.Atoms[x.Atom.toNat].Vars.length by omega]
  .rw[if_neg c1];refine Zg9 _ _ _ _ _ ?_;rcases tf (inR x.Atom 0 (q.Atoms.length-1))with e|e
   .simp[k1,wl,e,Zbq]
   .have e2:¬x.Order=0:=λhc=>c1 ⟨e,hc⟩
    simp[k1,wl,e,e2,Zbq]
 rw[if_neg k1];have w1:w ((st.length:Int)-1)=(st.length:Int)-1:=Z4 (by omega) (by omega);have w2:w ((st.length:Int)-2)=(st.length:Int)-2:=Z4 (by omega) (by omega);by_cases k0:x.Atom=0
 rotate_left
 .rw[if_pos k0];refine Zg9 _ _ _ _ _ ?_;have j:∀b,Zks q x ⟨0,0,0,0⟩ info st st.length x.Kind b=some (Zbq x none):=by
   intro b;refine Zr9 ?_;cases b<;>simp[k0,Zbq]
  by_cases k2:x.Kind=2
  .simp[k1,k2,k0,Zbq]
  .by_cases k3:x.Kind=3<;>by_cases k4:x.Kind=4<;>simp[k1,k2,k0,k3,k4,j]<;>first|(simp only[k3]at j;simp[j,Zbq])|(simp only[k4]at j;simp[j,Zbq])|simp[Zbq]
 rw[if_neg (by simpa using k0)];by_cases k2:x.Kind=2
 .rw[if_pos k2];refine Zg9 _ _ _ _ _ ?_;by_cases n1:st.length<1
  .have:Zcb st info 1=none:=by unfold Zcb;rw[if_neg (by omega)]
   rw[this];have n1':(st.length:Int)<1:=by omega
   simp[k1,k2,k0,n1',Zbq]
  .have n1':¬(st.length:Int)<1:=by omega
   obtain⟨s,y,t1,t2,t3,t4⟩:=Zke hs (by omega:1<=1) (by omega:1<=st.length);have z1:(0:Int)<=(st.length:Int)-1:=by omega
   have z5:(1:Int)<=(st.length:Int):=by omega
   have z2:((st.length:Int)-1).toNat=st.length-1:=by omega
   have q1:=Zob q y.Mask hq (Zkd h);have q2:(inR x.Order 0 3 && decide (andI (shrI (Zbf (pV y.Mask q.Atoms)) x.Order) 1=1))=vin q.Atoms y.Mask x.Order:=by
    unfold vin;rcases tf (inR x.Order 0 3)with e|e
    .simp[e]
    .rw[e,Yz,Yz,Ybh,decide_eq_true_eq];exact at_bit _ e
   rw[t1];simp only;by_cases e2:y.Order=x.Order
   .simp[k1,k2,k0,n1',w1,z1,z2,z5,t2,t3,t4,e2,Zbq]
   .rcases tf (vin q.Atoms y.Mask x.Order)with e|e
    .simp only[k1,k2,k0,n1',w1,z1,z2,t2,t3,t4,q1,Zv7,q2,e,e2,if_false,if_true,true_and,Y4,exists_eq_left',Y9,AV.t.injEq,T.int.injEq,T.bool.injEq,and_true];simp[Zbq]
    .simp only[k1,k2,k0,n1',w1,z1,z2,t2,t3,t4,q1,Zv7,q2,e,e2,if_false,if_true,true_and,Y4,exists_eq_left',Y9,AV.t.injEq,T.int.injEq,T.bool.injEq,and_true];simp[Zbq,popsI,k1,k2,e2]
 rw[if_neg k2]
 -- a join
 have q0:∀(b:Zf) (c:Zf) (y:Zf) (f:Bool),x.Kind=4->∀m1 m2,Ziy q x ⟨0,0,0,0⟩ b c y (andI (Zbf (pV m1 q.Atoms)) (Zbf (pV m2 q.Atoms))) f =
   if vin q.Atoms m1 x.Order=true/\vin q.Atoms m2 x.Order=true/\b.Order=x.Order/\c.Order=x.Order then some (.tup [.agg [I y.Mask,I x.Order,I y.Left,I y.Right],I 2],[])else some (Zbq x none):=by
  intro b c y f k4 m1 m2;have e:(inR x.Order 0 3 && decide (andI (shrI (andI (Zbf (pV m1 q.Atoms)) (Zbf (pV m2 q.Atoms))) x.Order) 1=1))=(vin q.Atoms m1 x.Order && vin q.Atoms m2 x.Order):=by
   unfold vin;rcases tf (inR x.Order 0 3)with e|e
   .simp[e]
   .rw[e,Yz,Yz,Yz,Ybh,decide_eq_true_eq,Z7k];simpa using at_bit (λu=>pV m1 q.Atoms u && pV m2 q.Atoms u) e
  split
  .rename_i hc;refine Z20 _ _ _ _ _ _ _ _ _ ?_;simp only[Zv7,e,hc];simp[k4]
  .rename_i hc;refine Z20 _ _ _ _ _ _ _ _ _ ?_;simp only[Zv7,e];rcases tf (vin q.Atoms m1 x.Order)with e1|e1<;>rcases tf (vin q.Atoms m2 x.Order)with e2|e2<;>by_cases e3:b.Order=x.Order<;>by_cases e4:c.Order=x.Order<;>simp[k4,e1,e2,e3,e4,Zbq];exact hc ⟨e1,e2,e3,e4⟩
 have q3:∀(b:Zf) (c:Zf) (y:Zf) (v:Int) (f:Bool),x.Kind≠4->Ziy q x ⟨0,0,0,0⟩ b c y v f=some (.tup [.agg (y.c.map .t),I 2],[]):=by
  intro b c y v f k4;exact Z20 _ _ _ _ _ _ _ _ _ (by simp[k4])
 have q5:∀(b:Zf) (c:Zf) (y:Zf) (v:Int),x.Kind≠4->Zmw q x ⟨0,0,0,0⟩ b c y v=some (.tup [.agg (y.c.map .t),I 2],[]):=by
  intro b c y v k4;exact Zbq5 _ _ _ _ _ _ _ _ (by simp[k4])
 by_cases kk:x.Kind=3\/x.Kind=4\/x.Kind=5
 rotate_left
 .have k3:¬x.Kind=3:=λhc=>kk (.inl hc)
  have k4:¬x.Kind=4:=λhc=>kk (.inr (.inl hc))
  have k5:¬x.Kind=5:=λhc=>kk (.inr (.inr hc))
  have hj:∀y z,Zc1 q.Atoms x y z=none:=by intro y z;simp[Zc1,k3,k4,k5]
  refine Ya (b:=some (Zbq x none)) (Zg9 _ _ _ _ _ (by simp[k1,k2,k3,k4,k5,Zbq])) ?_;simp only[hj,Option.map_none,ite_self];split<;>rfl
 have k5':x.Kind≠3->x.Kind≠4->x.Kind=5:=λa b=>by rcases kk with h|h|h;exact absurd h a;exact absurd h b;exact h
 have red:∀r,Zks q x ⟨0,0,0,0⟩ info st st.length x.Kind true=some r->(x.Kind=5->Zkr q x info st=some r)->Zkr q x info st=some r:=by
  intro r hr h5;by_cases k5:x.Kind=5
  .exact h5 k5
  .refine Zg9 _ _ _ _ _ ?_;by_cases k3:x.Kind=3
   .rw[if_neg k1,if_neg k2,if_pos k3];exact hr
   .by_cases k4:x.Kind=4
    .rw[if_neg k1,if_neg k2,if_neg k3,if_pos k4];exact hr
    .exact absurd (k5' k3 k4) k5
 by_cases n2:st.length<2
 .have:Zcb st info 2=none:=by unfold Zcb;rw[if_neg (by omega)]
  rw[this];have n2':(st.length:Int)<2:=by omega
  refine red _ ?_ ?_
  .exact Zr9 (by simp[k0,n2',Zbq])
  .intro k5;exact Zg9 _ _ _ _ _ (by simp[k5,k0,n2',Zbq])
 have n2':¬(st.length:Int)<2:=by omega
 obtain⟨s,y,t1,t2,t3,t4⟩:=Zke hs (by omega:1<=2) (by omega:2<=st.length);obtain⟨t,z,u1,u2,u3,u4⟩:=Zke hs (by omega:1<=1) (by omega:1<=st.length);have z1:(0:Int)<=(st.length:Int)-1:=by omega
 have z2:((st.length:Int)-1).toNat=st.length-1:=by omega
 have z3:(0:Int)<=(st.length:Int)-2:=by omega
 have z4:((st.length:Int)-2).toNat=st.length-2:=by omega
 have b1:=Zob q y.Mask hq (Zkd h);have b2:=Zob q z.Mask hq (Zkd h);have b3:=Zya q.Atoms y.Mask z.Mask;rw[t1,u1];simp only;by_cases c1:andI y.Mask z.Mask=0
 rotate_left
 .rw[if_neg (λhc=>c1 hc.1)];refine red _ ?_ ?_
  .refine Zr9 ?_;simp only[k0,n2',w1,w2,z1,z2,z3,z4,t2,t3,t4,u2,u3,u4,b1,b2,c1,if_true,if_false,true_and,Y4,exists_eq_left',Y9,AV.t.injEq,T.int.injEq,and_true];simp[Zbq]
  .intro k5;refine Zg9 _ _ _ _ _ ?_;simp only[k5,k0,n2',w1,w2,z1,z2,z3,z4,t2,t3,t4,u2,u3,u4,b1,b2,c1,if_true,if_false,true_and,Y4,exists_eq_left',Y9,AV.t.injEq,T.int.injEq,and_true];simp[Zbq]
 rcases tf (shr q.Atoms y.Mask z.Mask)with c2|c2
 .rw[if_neg (λhc=>by rw[hc.2]at c2;cases c2)];have c3:=b3.2 c2;refine red _ ?_ ?_
  .refine Zr9 ?_;simp only[k0,n2',w1,w2,z1,z2,z3,z4,t2,t3,t4,u2,u3,u4,b1,b2,c1,c3,if_true,if_false,true_and,Y4,exists_eq_left',Y9,AV.t.injEq,T.int.injEq,and_true];simp[Zbq]
  .intro k5;refine Zg9 _ _ _ _ _ ?_;simp only[k5,k0,n2',w1,w2,z1,z2,z3,z4,t2,t3,t4,u2,u3,u4,b1,b2,c1,c3,if_true,if_false,true_and,Y4,exists_eq_left',Y9,AV.t.injEq,T.int.injEq,and_true];simp[Zbq]
 rw[if_pos ⟨c1,c2⟩];have c3:¬andI (Zbf (pV y.Mask q.Atoms)) (Zbf (pV z.Mask q.Atoms))=0:=λhc=>by rw[b3.1 hc]at c2;cases c2
 have p2:popsI x=2:=by unfold popsI;rw[if_neg k1,if_neg k2]
 refine red _ ?_ ?_
 .refine Zr9 ?_;simp only[k0,n2',w1,w2,z1,z2,z3,z4,t2,t3,t4,u2,u3,u4,b1,b2,c1,c3,if_true,if_false,true_and,Y4,exists_eq_left',Y9,AV.t.injEq,T.int.injEq,and_true];by_cases k4:x.Kind=4
  .have k3:¬x.Kind=3:=by omega
   have k5:¬x.Kind=5:=by omega
   rw[if_pos k4,q0 _ _ _ _ k4];simp only[Zc1,k3,k4,k5,false_and,true_and,if_false];split
   .rename_i hc;simp[Zbq,p2]
   .rfl
  .by_cases e:x.Order=0
   .by_cases k5:x.Kind=5
    .rw[if_neg k4,if_pos e,if_pos k5,q5 _ _ _ _ k4];simp[Zc1,k5,e,Zbq,p2]
    .have k3:x.Kind=3:=by omega
     rw[if_neg k4,if_pos e,if_neg k5,q3 _ _ _ _ _ k4];simp[Zc1,k3,e,Zbq,p2]
   .rw[if_neg k4,if_neg e];simp[Zc1,k4,e,Zbq]
 .intro k5;refine Zg9 _ _ _ _ _ ?_;have k4:x.Kind≠4:=by omega
  simp only[k5,k0,n2',w1,w2,z1,z2,z3,z4,t2,t3,t4,u2,u3,u4,b1,b2,c1,c3,if_true,if_false,true_and,Y4,exists_eq_left',Y9,AV.t.injEq,T.int.injEq,and_true];by_cases e:x.Order=0
  .simp[e,q5 _ _ _ _ k4,Zc1,k5,Zbq,p2]
  .simp[e,Zc1,k5,Zbq]
theorem Zbun(q:Zc)(hq:LeQ q)(h:Zk q.Ze q.Atoms=true)(p:Plan)(hl:p.Steps.length<=14):∀i,i<=p.Steps.length->∀info st,StOk info st->info.length=i->st.length<=i->
  Zqa q p info st i=some (match Zcg q.Atoms (p.Steps.drop i) i info st with
   |some (info',st')=>if st'.length=1 then(.tup [.own 0,Bo true],[.arr Zkg 4 true (info'.map Zf.c)])else(.tup [.own 0,Bo false],[.arr Zkg 4 true []])
   |none=>(.tup [.own 0,Bo false],[.arr Zkg 4 true []])):=by
 refine down _ ?_ ?_
 .intro info st _ _ _;rw[Yba,Zcg];refine Zbea _ _ _ _ _ _ ?_;by_cases c:st.length=1
  .simp[c]
  .have c':¬(st.length:Int)=1:=by omega
   simp[c,c']
 .intro i hi ih info st hs hil hst;have h5:=Zw (i:=i) (by omega);have s1:=Zbum q hq h p.Steps[i] info st hs (by omega) (by omega);rw[Z7r q.Atoms hi];refine Zbea _ _ _ _ _ _ ?_
  cases he:Zdr q.Atoms p.Steps[i] info st with
  |none =>
   rw[he,Zbq]at s1;have e0:Zkr q p.Steps[i] info st=some (.tup [.agg ((⟨0,0,0,0⟩:Zf).c.map .t),I (-1)],[]):=s1;rw[if_pos (by omega)];refine⟨by omega,_,Yb hi,_,_,e0,?_⟩
   simp
  |some y =>
   rw[he,Zbq]at s1;obtain⟨f1,f2,f3⟩:=Zyb hs he;rw[f1]at s1;have hn:=Zpi hs y (st.length-pops y);rw[hil]at hn;have ih:=ih (info++[y]) (st.take (st.length-pops y)++[(i:Int)]) hn (by simp[hil]) (st_len hst _);have w2:w ((st.length:Int)-(pops y:Int))=(st.length:Int)-(pops y:Int):=Z4 (by omega) (by omega);have z2:((st.length:Int)-(pops y:Int)).toNat=st.length-pops y:=by omega
   rw[if_pos (by omega)];refine⟨by omega,_,Yb hi,_,_,s1,?_⟩;rw[if_neg (by omega),w2,z2];refine⟨by omega,by omega,by omega,by omega,by omega,?_⟩;rw[show w ((i:Int)+1)=(i:Int)+1 from h5];simpa using ih
@[simp] theorem Z3h(q:Zc)(p:Plan)(hq:LeQ q):Ziz q p=some (match Zb4 q.Ze q.Atoms p.Steps with
  |some info=>(.tup [.own 0,Bo true],[.arr Zkg 4 true (info.map Zf.c)])
  |none=>(.tup [.own 0,Bo false],[.arr Zkg 4 true []])):=by
 refine Zbq6 _ _ _ ?_;have q1:=Zf0 q hq;unfold Zb4;rcases tf (Zk q.Ze q.Atoms)with e|e
 .simp[q1,e]
 rcases tf (inR p.Steps.length 1 14)with e2|e2
 .simp[q1,e,e2]
 .have e3:=e2;simp[inR]at e3;have b:=Zbun q hq e p (by omega) 0 (Ye _) [] [] (λs hs=>by cases hs) rfl (Yf _);simp only[Yk]at b;simp only[q1,e,e2,Zfz,Y4,Y9,AV.t.injEq,T.bool.injEq,and_true,exists_eq_left',if_true,and_self];refine Ya b ?_
  cases Zcg q.Atoms p.Steps 0 [] []with
  |none=>rfl
  |some r=>obtain⟨a,b⟩:=r;simp only;split<;>rfl
theorem Zbuo(q:Zc)(hq:LeQ q)(h:Zk q.Ze q.Atoms=true)(steps:List Zb)(hl:steps.length<=14):∀i,i<=steps.length->∀info st,StOk info st->info.length=i->st.length<=i->
  Zk7 q info st steps steps.length i=some (match Zcg q.Atoms (steps.drop i) i info st with
   |some (info',st')=>if st'.length=1 then(.tup [.own 0,Bo true],[.arr Zkg 4 true (info'.map Zf.c)])else(.tup [.t .nil,Bo false],[])
   |none=>(.tup [.t .nil,Bo false],[])):=by
 refine down _ ?_ ?_
 .intro info st _ _ _;rw[Yba,Zcg];refine Zbfc _ _ _ _ _ _ _ ?_;by_cases c:st.length=1
  .simp[c]
  .have c':¬(st.length:Int)=1:=by omega
   simp[c,c']
 .intro i hi ih info st hs hil hst;have h5:=Zw (i:=i) (by omega);have s1:=Zbul q hq h steps[i] info st hs (by omega) (by omega);rw[Z7r q.Atoms hi];refine Zbfc _ _ _ _ _ _ _ ?_
  cases he:Zdr q.Atoms steps[i] info st with
  |none =>
   rw[he]at s1;obtain⟨y,s1⟩:=s1;rw[if_pos (by omega)];refine⟨by omega,_,Yb hi,_,_,s1,?_⟩
   simp
  |some y =>
   rw[he]at s1;obtain⟨f1,f2,f3⟩:=Zyb hs he;have hn:=Zpi hs y (st.length-pops y);rw[hil]at hn;have ih:=ih (info++[y]) (st.take (st.length-pops y)++[(i:Int)]) hn (by simp[hil]) (st_len hst _);rw[if_pos (by omega)];refine⟨by omega,_,Yb hi,_,_,s1,?_⟩;rw[if_pos rfl];refine⟨by omega,?_⟩;simp only;unfold pops at ih f2|-;rw[show w ((i:Int)+1)=(i:Int)+1 from h5];by_cases r:0<=y.Right
   .simp only[if_pos r]at ih f2|-;have w2:w ((st.length:Int)-2)=(st.length:Int)-2:=Z4 (by omega) (by omega);have z2:((st.length:Int)-2).toNat=st.length-2:=by omega
    rw[w2,z2];refine⟨by omega,by omega,by omega,by simpa using ih⟩
   .simp only[if_neg r]at ih f2|-;by_cases l:0<=y.Left
    .simp only[if_pos l]at ih f2|-;have w2:w ((st.length:Int)-1)=(st.length:Int)-1:=Z4 (by omega) (by omega);have z2:((st.length:Int)-1).toNat=st.length-1:=by omega
     rw[w2,z2];refine⟨by omega,by omega,by omega,by simpa using ih⟩
    .simp only[if_neg l]at ih f2|-;exact⟨by omega,by simpa using ih⟩
@[simp] theorem Zbgv(q:Zc)(p:Plan)(hq:LeQ q):Zi9 q p=some (match Zb4 q.Ze q.Atoms p.Steps with
  |some info=>(.tup [.own 0,Bo true],[.arr Zkg 4 true (info.map Zf.c)])
  |none=>(.tup [.t .nil,Bo false],[])):=by
 refine Zbsn _ _ _ ?_;have q1:=Zsd q hq;unfold Zb4;rcases tf (Zk q.Ze q.Atoms)with e|e
 .simp[q1,e]
 rcases tf (inR p.Steps.length 1 14)with e2|e2
 .simp[q1,e,e2]
 .have e3:=e2;simp[inR]at e3;have b:=Zbuo q hq e p.Steps (by omega) 0 (Ye _) [] [] (λs hs=>by cases hs) rfl (Yf _);simp only[Yk]at b;simp only[q1,e,e2,Zfb,Y4,Y9,AV.t.injEq,T.bool.injEq,and_true,exists_eq_left',if_true,and_self];refine Ya b ?_
  cases Zcg q.Atoms p.Steps 0 [] []with
  |none=>rfl
  |some r=>obtain⟨a,b⟩:=r;simp only;split<;>rfl
@[simp] theorem Zbup(q:Zc)(p:Plan)(hq:LeQ q):Zvb q p=some (I (Ziu q.Ze q.Atoms p.Steps),[]):=by
 refine Zbso _ _ _ ?_;have q1:=Zbgv q p hq;unfold Ziu
 cases he:Zb4 q.Ze q.Atoms p.Steps with
 |none=>rw[he]at q1;exact .inl ⟨q1,rfl⟩
 |some info =>
  obtain⟨l1,l2,l3,l4⟩:=Zho he;rw[he]at q1;have hlt:info.length-1<info.length:=by omega
  have w1:w ((info.length:Int)-1)=(info.length:Int)-1:=Z4 (by omega) (by omega);have z2:((info.length:Int)-1).toNat=info.length-1:=by omega
  refine .inr ⟨info,q1,?_⟩;rw[w1,z2];refine⟨by omega,_,Yb hlt,?_⟩;simp[Yb hlt]
@[simp] theorem Zbuq(q:Zc)(p:Plan)(hq:LeQ q):Zuu q p=some (I (Ziu q.Ze q.Atoms p.Steps),[]):=by
 refine Zbrz _ _ _ ?_;have q1:=Z3h q p hq;unfold Ziu
 cases he:Zb4 q.Ze q.Atoms p.Steps with
 |none=>rw[he]at q1;exact⟨[],false,q1,by simp⟩
 |some info =>
  obtain⟨l1,l2,l3,l4⟩:=Zho he;rw[he]at q1;have hlt:info.length-1<info.length:=by omega
  have w1:w ((info.length:Int)-1)=(info.length:Int)-1:=Z4 (by omega) (by omega);have z2:((info.length:Int)-1).toNat=info.length-1:=by omega
  refine⟨info,true,q1,?_⟩;rw[if_pos rfl,w1,z2];refine⟨by omega,_,Yb hlt,?_⟩;simp[Yb hlt]
def Zf1:Int->List Zi->Bool
 |_,[]=>true
 |p,s::r=>inR s.From 1 8192 && inR s.Add (-99) 99 && decide (p<s.From) && Zf1 s.From r
def Zd3(l:List Zi):Nat->Int
 |0=>0
 |i+1=>match l[i]? with|some s=>s.From|none=>0
def Zd4(n:Int):Bool:=inR n (-99) 99
def Zbz(o:Zj):Bool:=Zd4 o.Fixed && Zd4 o.Zo && Zd4 o.Zq && Zd4 o.Zs && Zd4 o.Zr && decide (o.Steps.length<=4) && Zf1 0 o.Steps
theorem Zbgw(p:Int){l:List Zi}{i:Nat}(h:i<l.length):Zf1 p (l.drop i)=(inR l[i].From 1 8192 && inR l[i].Add (-99) 99 && decide (p<l[i].From) && Zf1 l[i].From (l.drop (i+1))):=by
 rw[Yj h,Zf1]
@[simp] theorem Zbur(n:Int):Zg4 n=some (Bo (Zd4 n),[]):=by
 refine Zbrc _ _ ?_;simp[Zd4]
theorem Zbus(o:Zj)(hl:Le o.Steps):∀i,i<=o.Steps.length->Zkv o i=some (Bo (Zf1 (Zd3 o.Steps i) (o.Steps.drop i)),[]):=by
 refine down _ ?_ ?_
 .refine Zbee _ _ _ ?_;simp[Zf1]
 .intro i hi ih;refine Zbee _ _ _ ?_;have h4:=Zw (i:=i) (by omega);rw[Zbgw _ hi];have pn:Zd3 o.Steps (i+1)=o.Steps[i].From:=by simp[Zd3,Yb hi]
  rw[pn]at ih;simp only[Yn,Yo]at ih;rw[if_pos (by omega)];refine⟨by omega,o.Steps[i],by rw[Yd];exact Yb hi,_,Zfz _ _ _,?_⟩;rcases tf (inR o.Steps[i].From 1 8192)with e1|e1
  .rw[e1];simp
  rw[e1,if_pos rfl];refine⟨_,Zbur _,?_⟩;unfold Zd4;rcases tf (inR o.Steps[i].Add (-99) 99)with e2|e2
  .rw[e2];simp
  rw[e2,if_pos rfl,show w ((i:Int)+1)=(i:Int)+1 from h4]
  cases i with
  |zero =>
   rw[if_neg (by omega),ih]
   have:Zd3 o.Steps 0<o.Steps[0].From:=by simp[inR]at e1;simp[Zd3];omega
   simp[this]
  |succ j =>
   have hj:j<o.Steps.length:=by omega
   have w2:w (((j+1:Nat):Int)-1)=j:=by rw[show((j+1:Nat):Int)-1=j by omega];exact Z4 (by omega) (by omega)
   have pj:Zd3 o.Steps (j+1)=o.Steps[j].From:=by simp[Zd3,Yb hj]
   rw[if_pos (by omega),w2,pj];refine⟨by omega,o.Steps[j],by rw[Yd];exact Yb hj,?_⟩;by_cases e3:o.Steps[j+1].From<=o.Steps[j].From
   .rw[if_pos e3,decide_eq_false (by omega)];simp
   .rw[if_neg e3,decide_eq_true (by omega),ih];simp
@[simp] theorem Zsh(o:Zj)(hl:Le o.Steps):Zku o=some (Bo (Zbz o),[]):=by
 refine Zbrd _ _ ?_;have b:=Zbus o hl 0 (Ye _);simp only[Zd3,Yk,Int.ofNat_zero]at b;have b:Zkv o 0=_:=b;unfold Zbz;rcases tf (Zd4 o.Fixed)with e1|e1
 .simp[e1]
 rcases tf (Zd4 o.Zo)with e2|e2
 .simp[e1,e2]
 rcases tf (Zd4 o.Zq)with e3|e3
 .simp[e1,e2,e3]
 rcases tf (Zd4 o.Zs)with e4|e4
 .simp[e1,e2,e3,e4]
 rcases tf (Zd4 o.Zr)with e5|e5
 .simp[e1,e2,e3,e4,e5]
 by_cases e6:o.Steps.length<=4
 .have e7:¬(4:Int)<o.Steps.length:=by omega
  simp[e1,e2,e3,e4,e5,e6,e7,b]
 .have e7:(4:Int)<o.Steps.length:=by omega
  simp[e1,e2,e3,e4,e5,e6,e7]
theorem Zbut(o:Zj)(hl:Le o.Steps):∀i,i<=o.Steps.length->Zja o o.Steps o.Steps.length i=some (Bo (Zf1 (Zd3 o.Steps i) (o.Steps.drop i) && decide (o.Steps.length<=4)),[]):=by
 refine down _ ?_ ?_
 .refine Zbfh _ _ _ _ _ ?_;rw[if_neg (by omega)];by_cases e:o.Steps.length<=4
  .simp[Zf1,e];omega
  .simp[Zf1,e];omega
 .intro i hi ih;refine Zbfh _ _ _ _ _ ?_;have h4:=Zw (i:=i) (by omega);rw[Zbgw _ hi];have pn:Zd3 o.Steps (i+1)=o.Steps[i].From:=by simp[Zd3,Yb hi]
  rw[pn]at ih;simp only[Yn,Yo]at ih;rw[if_pos (by omega)];refine⟨by omega,o.Steps[i],by rw[Yd];exact Yb hi,_,Zfb _ _ _,?_⟩;rcases tf (inR o.Steps[i].Add (-99) 99)with e2|e2
  .rw[e2];simp
  rw[e2,if_pos rfl];refine⟨_,Zfb _ _ _,?_⟩;rcases tf (inR o.Steps[i].From 1 8192)with e1|e1
  .rw[e1];simp
  rw[e1,if_pos rfl,show w ((i:Int)+1)=(i:Int)+1 from h4]
  cases i with
  |zero =>
   rw[if_neg (by omega),ih]
   have:Zd3 o.Steps 0<o.Steps[0].From:=by simp[inR]at e1;simp[Zd3];omega
   simp[this]
  |succ j =>
   have hj:j<o.Steps.length:=by omega
   have w2:w (((j+1:Nat):Int)-1)=j:=by rw[show((j+1:Nat):Int)-1=j by omega];exact Z4 (by omega) (by omega)
   have pj:Zd3 o.Steps (j+1)=o.Steps[j].From:=by simp[Zd3,Yb hj]
   rw[if_pos (by omega),w2,pj];refine⟨by omega,o.Steps[j],by rw[Yd];exact Yb hj,?_⟩;by_cases e3:o.Steps[j+1].From<=o.Steps[j].From
   .rw[if_pos e3,decide_eq_false (by omega)];simp
   .rw[if_neg e3,decide_eq_true (by omega),ih];simp
@[simp] theorem Zd5(o:Zj)(hl:Le o.Steps):Zcr o=some (Bo (Zbz o),[]):=by
 refine Zbsv _ _ ?_;have hc:Zvd o=some (.bsl 1 5,[.box (o.c.map .t),.box [.ptr 0 0,.ptr 0 1,.ptr 0 2,.ptr 0 3,.ptr 0 4]]):=Zbsu _ _ rfl;refine⟨hc,?_⟩;have b:=Zbut o hl 0 (Ye _);simp only[Zd3,Yk]at b;have b:Zja o o.Steps o.Steps.length 0=_:=b;have w1:w (0+1)=1:=by decide
 have w2:w (1+1)=2:=by decide
 have w3:w (2+1)=3:=by decide
 have w4:w (3+1)=4:=by decide
 have w5:w (4+1)=5:=by decide
 unfold Zbz Zd4;refine Zn8 ?_;rw[if_pos (by omega),if_pos rfl];refine⟨_,Zfb _ _ _,?_⟩;rcases tf (inR o.Fixed (-99) 99)with e1|e1
 .rw[e1];simp
 rw[e1,if_pos rfl,w1];refine Zn8 ?_;rw[if_pos (by omega),if_neg (by omega),if_pos rfl];refine⟨_,Zfb _ _ _,?_⟩;rcases tf (inR o.Zo (-99) 99)with e2|e2
 .rw[e2];simp
 rw[e2,if_pos rfl,w2];refine Zn8 ?_;rw[if_pos (by omega),if_neg (by omega),if_neg (by omega),if_pos rfl];refine⟨_,Zfb _ _ _,?_⟩;rcases tf (inR o.Zq (-99) 99)with e3|e3
 .rw[e3];simp
 rw[e3,if_pos rfl,w3];refine Zn8 ?_;rw[if_pos (by omega),if_neg (by omega),if_neg (by omega),if_neg (by omega),if_pos rfl];refine⟨_,Zfb _ _ _,?_⟩;rcases tf (inR o.Zs (-99) 99)with e4|e4
 .rw[e4];simp
 rw[e4,if_pos rfl,w4];refine Zn8 ?_;rw[if_pos (by omega),if_neg (by omega),if_neg (by omega),if_neg (by omega),if_neg (by omega),if_pos rfl];refine⟨_,Zfb _ _ _,?_⟩;rcases tf (inR o.Zr (-99) 99)with e5|e5
 .rw[e5];simp
 rw[e5,if_pos rfl,w5];refine Zn8 ?_;rw[if_neg (by omega),b];simp[Bool.and_comm]
def Zid(o:Zj)(l r n:Int):Int:=w (w (w (w (o.Fixed+w (o.Zo*l))+w (o.Zq*r))+w (o.Zs*n))+w (w (o.Zr*l)*r))
def Zf2(l r n:Int)(s:Zi):Int:=if s.From<=w (l+r)then w (n+s.Add)else n
def Zoc(o:Zj)(l r n:Int):Int:=o.Steps.foldl (Zf2 l r) (Zid o l r n)
def Zbb(o:Zj)(l r n:Int):Int:=if(Zbz o && inR l 0 4096 && inR r 0 4096 && inR n 0 4096)=true then Zoc o l r n else 0
theorem Zbuu(l r:Int)(st:List Zi)(hl:Le st):∀i,i<=st.length->∀n,Znn l r n st st.length i=some (I ((st.drop i).foldl (Zf2 l r) n),[]):=by
 refine down _ ?_ ?_
 .intro n;refine Zbfm _ _ _ _ _ _ _ ?_;simp
 .intro i hi ih n;refine Zbfm _ _ _ _ _ _ _ ?_;have h4:=Zw (i:=i) (by omega);rw[Yj hi,Yr];simp only[Yn,Yo]at ih;by_cases e:st[i].From<=w (l+r)
  .simp[hi,h4,e,ih,Zf2]
  .simp[hi,h4,e,ih,Zf2]
@[simp] theorem Zbxl(o:Zj)(hl:Le o.Steps)(l r n:Int):Znm o l r n=some (I (Zoc o l r n),[]):=by
 refine Zbsy _ _ _ _ _ ?_;have b:=Zbuu l r o.Steps hl 0 (Ye _) (Zid o l r n);simpa[Zoc,Zid]using b
@[simp] theorem Zhd(o:Zj)(hl:Le o.Steps)(l r n:Int):Zck o l r n=some (I (Zbb o l r n),[]):=by
 refine Zbs5 _ _ _ _ _ ?_;unfold Zbb;rcases tf (Zbz o)with e1|e1<;>rcases tf (inR l 0 4096)with e2|e2<;>rcases tf (inR r 0 4096)with e3|e3<;>rcases tf (inR n 0 4096)with e4|e4<;>simp[hl,e1,e2,e3,e4]
theorem Zbuv(o:Zj)(l r:Int)(hl:Le o.Steps):∀i,i<=o.Steps.length->∀n,Zkw o l r n i=some (I ((o.Steps.drop i).foldl (Zf2 l r) n),[]):=by
 refine down _ ?_ ?_
 .intro n;refine Zbef _ _ _ _ _ _ ?_;simp
 .intro i hi ih n;refine Zbef _ _ _ _ _ _ ?_;have h4:=Zw (i:=i) (by omega);rw[Yj hi,Yr];simp only[Yn,Yo]at ih;by_cases e:o.Steps[i].From<=w (l+r)
  .simp[hi,h4,e,ih,Zf2]
  .simp[hi,h4,e,ih,Zf2]
@[simp] theorem Zgk(o:Zj)(hl:Le o.Steps)(l r n:Int):Zdx o l r n=some (I (Zbb o l r n),[]):=by
 refine Zbre _ _ _ _ _ ?_;have b:=Zbuv o l r hl 0 (Ye _) (Zid o l r n);simp only[Yk,Zid]at b;have b:Zkw o l r _ 0=_:=b;unfold Zbb;rcases tf (Zbz o)with e1|e1<;>rcases tf (inR l 0 4096)with e2|e2<;>rcases tf (inR r 0 4096)with e3|e3<;>rcases tf (inR n 0 4096)with e4|e4<;>simp[hl,e1,e2,e3,e4,b,Zoc,Zid]
@[simp] theorem Zbuw(c:Int):Zjb c=some (I (Zbl c),[]):=by
 refine Zbsx _ _ ?_;cases h:inR c 0 7
 .simp[h,Z7h h]
 .rcases cls8 h with rfl|rfl|rfl|rfl|rfl|rfl|rfl|rfl<;>simp[inR,Zbl,Z4,shlI]
@[simp] theorem Zbux(c:Int):Zi0 c=some (I (Zbl c),[]):=by
 refine Zbra _ _ ?_;have e:∀n i r,(if i<c then Zmy c (if 1<w (n*4)then w (n*4)else 1) (w (i+1))=some r else some (I n,[])=some r)->Zmy c n i=some r:=λn i r h=>Zbq9 _ _ _ _ h
 cases h:inR c 0 7
 .simp[h,Z7h h]
 .refine⟨_,Zfz _ _ _,?_⟩;rw[h,if_pos rfl];rcases cls8 h with rfl|rfl|rfl|rfl|rfl|rfl|rfl|rfl
  all_goals repeat (refine e _ _ _ ?_;first|(rw[if_neg (by decide)];rfl)|rw[if_pos (by decide)])
def inT(t:List Int):Prop:=∃a b c:Int,t=[a,b,c]/\(0<=a/\a<=7)/\(0<=b/\b<=7)/\(0<=c/\c<=7)
def tcl(o:Zj):List Int->Int
 |[a,b,c]=>Zoc o (Zbl a) (Zbl b) (Zbl c)
 |_=>0
theorem Zod{c:Int}(h0:0<=c)(h7:c<=7):inR (Zbl c) 0 4096=true:=by
 have:c=0\/c=1\/c=2\/c=3\/c=4\/c=5\/c=6\/c=7:=by omega
 rcases this with rfl|rfl|rfl|rfl|rfl|rfl|rfl|rfl<;>decide
theorem Zlp(o:Zj)(hl:Le o.Steps){t:List Int}(h:inT t):Zfu o t=some (I (tcl o t),[]):=by
 obtain⟨a,b,c,rfl,_⟩:=h;refine Zbsz _ _ _ ?_;simp[hl,tcl]
theorem Zv8(o:Zj)(hl:Le o.Steps)(hv:Zbz o=true){t:List Int}(h:inT t):Zmz o t=some (I (tcl o t),[]):=by
 obtain⟨a,b,c,rfl,h1,h2,h3⟩:=h;refine Zbrf _ _ _ ?_;have c1:=Zod h1.1 h1.2;have c2:=Zod h2.1 h2.2;have c3:=Zod h3.1 h3.2;simp[hl,tcl,Zbb,hv,c1,c2,c3]
theorem Zbgx{t:List Int}(h:inT t){k:Nat}{e:Int}(hk:t[k]?=some e)(h7:e+1<=7):inT (t.set k (e+1)):=by
 obtain⟨a,b,c,rfl,h1,h2,h3⟩:=h
 match k,hk with
 |0,hk=>simp at hk;subst hk;exact⟨a+1,b,c,rfl,by omega,h2,h3⟩
 |1,hk=>simp at hk;subst hk;exact⟨a,b+1,c,rfl,h1,by omega,h3⟩
 |2,hk=>simp at hk;subst hk;exact⟨a,b,c+1,rfl,h1,h2,by omega⟩
 |k+3,hk=>simp at hk
theorem Zbgy{t:List Int}(h:inT t){k:Nat}(hk:k<3):∃e,t[k]?=some e/\0<=e/\e<=7:=by
 obtain⟨a,b,c,rfl,h1,h2,h3⟩:=h
 match k,hk with
 |0,_=>exact⟨a,rfl,h1⟩
 |1,_=>exact⟨b,rfl,h2⟩
 |2,_=>exact⟨c,rfl,h3⟩
theorem Z3i{t:List Int}(h:inT t):t.length=3:=by obtain⟨a,b,c,rfl,_⟩:=h;rfl
def decK(o:Zj)(t:List Int)(k:Nat):Prop:=∃e,t[k]?=some e/\e+1<=7/\tcl o (t.set k (e+1))<tcl o t
def decF(o:Zj)(t:List Int)(k:Nat):Prop:=∃j,k<=j/\j<3/\decK o t j
def decr(o:Zj):Prop:=∃t,inT t/\decF o t 0
def cheap(o:Zj):Prop:=∃t,inT t/\tcl o t<1
abbrev Zex(X:Rs)(p:Prop):Prop:=∃(xs ys:List Int) (b:Bool),X=some (.tup [.own 0,.own 1,Bo b],[.arr Z1 1 true (xs.map ic),.arr Z1 1 true (ys.map ic)])/\(b=true↔p)
theorem Zex.congr{X:Rs}{p q:Prop}(h:Zex X p)(e:p↔q):Zex X q:=by
 obtain⟨xs,ys,b,h1,h2⟩:=h;exact⟨xs,ys,b,h1,h2.trans e⟩
theorem l_fd0(o:Zj)(hl:Le o.Steps)(hv:Zbz o=true){t:List Int}(ht:inT t)(a b e:Int)(p:Prop)(hc:Zex (Zm4 o a b (w (e+1))) p):∀k:Nat,k<=3->
  Zex (Zhx o t a b e k) (decF o t k\/p):=by
 have h3:=Z3i ht;refine down _ ?_ ?_
 .obtain⟨xs,ys,f,h1,h2⟩:=hc;refine⟨xs,ys,f,Zbej _ _ _ _ _ _ _ (by rw[if_neg (by omega)];exact h1),?_⟩;rw[h2];exact⟨.inr,λh=>h.elim (λ⟨j,a,b,_⟩=>by omega) id⟩
 .intro k hk ih;have h4:=Zw (i:=k) (by omega);obtain⟨x,hx,x0,x7⟩:=Zbgy ht hk;have wx:w (x+1)=x+1:=Z4 (by omega) (by omega);simp only[Yn,Yo]at ih;have step:decF o t k↔(decK o t k\/decF o t (k+1)):=by
   constructor
   .rintro⟨j,j1,j2,j3⟩;by_cases hj:j=k
    .subst hj;exact .inl j3
    .exact .inr ⟨j,by omega,j2,j3⟩
   .rintro(h|⟨j,j1,j2,j3⟩)
    .exact⟨k,Yf _,hk,h⟩
    .exact⟨j,by omega,j2,j3⟩
  have pre:∀r,(if x+1<=7 then(if tcl o (t.set k (x+1))<tcl o t then some (.tup [.own 0,.own 1,Bo true],[.arr Z1 1 true (t.map ic),.arr Z1 1 true ((t.set k (x+1)).map ic)])=some r
    else Zhx o t a b e ((k:Int)+1)=some r)else Zhx o t a b e ((k:Int)+1)=some r)->Zhx o t a b e k=some r:=by
   intro r hr;refine Zbej _ _ _ _ _ _ _ ?_;rw[if_pos (by omega)];refine⟨by omega,by omega,x,by rw[Yd];exact hx,?_⟩;rw[wx,Yd,show w ((k:Int)+1)=(k:Int)+1 from h4];by_cases h7:x+1<=7
   .rw[if_pos h7]at hr|-;exact⟨_,Zv8 o hl hv (Zbgx ht hx h7),_,Zv8 o hl hv ht,hr⟩
   .rw[if_neg h7]at hr|-;exact hr
  have dk:decK o t k↔(x+1<=7/\tcl o (t.set k (x+1))<tcl o t):=by
   constructor
   .rintro⟨y,y1,y2,y3⟩;rw[hx]at y1;cases y1;exact⟨y2,y3⟩
   .rintro⟨y2,y3⟩;exact⟨x,hx,y2,y3⟩
  by_cases h7:x+1<=7/\tcl o (t.set k (x+1))<tcl o t
  .refine⟨_,_,true,pre _ (by rw[if_pos h7.1,if_pos h7.2]),?_⟩;rw[step,dk];exact⟨λ_=>.inl (.inl h7),λ_=>rfl⟩
  .obtain⟨xs,ys,f,i1,i2⟩:=ih;refine⟨xs,ys,f,pre _ ?_,?_⟩
   .split
    .split
     .rename_i a1 a2;exact absurd ⟨a1,a2⟩ h7
     .exact i1
    .exact i1
   .rw[i2,step,dk];constructor
    .exact λh=>h.imp .inr id
    .exact λh=>h.imp (λh=>h.resolve_left h7) id
theorem Zoe{P:Nat->Prop}{i:Nat}{p:Prop}(hi:i<8):((∃z,i<=z/\z<=7/\P z)\/p)↔(P i\/(∃z,i+1<=z/\z<=7/\P z)\/p):=by
 constructor
 .rintro(⟨z,z1,z2,z3⟩|h)
  .by_cases hz:z=i
   .subst hz;exact .inl z3
   .exact .inr (.inl ⟨z,by omega,z2,z3⟩)
  .exact .inr (.inr h)
 .rintro(h|⟨z,z1,z2,z3⟩|h)
  .exact .inl ⟨i,Yf _,by omega,h⟩
  .exact .inl ⟨z,by omega,z2,z3⟩
  .exact .inr h
theorem Zof{P:Nat->Prop}{p:Prop}:((∃z,8<=z/\z<=7/\P z)\/p)↔p:=⟨λh=>h.elim (λ⟨z,a,b,_⟩=>by omega) id,.inr⟩
theorem l_fd1(o:Zj)(hl:Le o.Steps)(hv:Zbz o=true)(a b:Nat)(ha:a<=7)(hb:b<=7)(p:Prop)(hc:Zex (Zm3 o a ((b:Int)+1)) p):∀e:Nat,e<=8->
  Zex (Zm4 o a b e) ((∃z:Nat,e<=z/\z<=7/\decF o [(a:Int),(b:Int),(z:Int)] 0)\/p):=by
 have wb:w ((b:Int)+1)=(b:Int)+1:=Z4 (by omega) (by omega);refine down _ ?_ ?_
 .refine Zex.congr ?_ Zof.symm;obtain⟨xs,ys,f,h1,h2⟩:=hc;exact⟨xs,ys,f,Zbei _ _ _ _ _ (by rw[if_neg (by omega),wb];exact h1),h2⟩
 .intro e he ih;have we:w ((e:Int)+1)=(e:Int)+1:=Z4 (by omega) (by omega);have hT:inT [(a:Int),(b:Int),(e:Int)]:=⟨a,b,e,rfl,by omega,by omega,by omega⟩;simp only[Yn,Yo]at ih;obtain⟨xs,ys,f,h1,h2⟩:=l_fd0 o hl hv hT a b e _ (by rw[we];exact ih) 0 (by omega);exact⟨xs,ys,f,Zbei _ _ _ _ _ (by rw[if_pos (by omega)];exact h1),h2.trans (Zoe (P:=λz:Nat=>decF o [(a:Int),(b:Int),(z:Int)] 0) he).symm⟩
theorem l_fd2(o:Zj)(hl:Le o.Steps)(hv:Zbz o=true)(a:Nat)(ha:a<=7)(p:Prop)(hc:Zex (Zm2 o ((a:Int)+1)) p):∀b:Nat,b<=8->
  Zex (Zm3 o a b) ((∃y:Nat,b<=y/\y<=7/\∃z:Nat,0<=z/\z<=7/\decF o [(a:Int),(y:Int),(z:Int)] 0)\/p):=by
 have wa:w ((a:Int)+1)=(a:Int)+1:=Z4 (by omega) (by omega);refine down _ ?_ ?_
 .refine Zex.congr ?_ Zof.symm;obtain⟨xs,ys,f,h1,h2⟩:=hc;exact⟨xs,ys,f,Zbeh _ _ _ _ (by rw[if_neg (by omega),wa];exact h1),h2⟩
 .intro b hb ih;simp only[Yn,Yo]at ih;obtain⟨xs,ys,f,h1,h2⟩:=l_fd1 o hl hv a b ha (by omega) _ ih 0 (by omega);exact⟨xs,ys,f,Zbeh _ _ _ _ (by rw[if_pos (by omega)];exact h1),h2.trans (Zoe (P:=λy:Nat=>∃z:Nat,0<=z/\z<=7/\decF o [(a:Int),(y:Int),(z:Int)] 0) hb).symm⟩
theorem l_fd3(o:Zj)(hl:Le o.Steps)(hv:Zbz o=true):∀a:Nat,a<=8->
  Zex (Zm2 o a) ((∃x:Nat,a<=x/\x<=7/\∃y:Nat,0<=y/\y<=7/\∃z:Nat,0<=z/\z<=7/\decF o [(x:Int),(y:Int),(z:Int)] 0)\/False):=by
 refine down _ ?_ ?_
 .refine Zex.congr ?_ Zof.symm;exact⟨[],[],false,Zbeg _ _ _ (by rw[if_neg (by omega)]),by simp⟩
 .intro a ha ih;simp only[Yn,Yo]at ih;obtain⟨xs,ys,f,h1,h2⟩:=l_fd2 o hl hv a (by omega) _ ih 0 (by omega);exact⟨xs,ys,f,Zbeg _ _ _ (by rw[if_pos (by omega)];exact h1),h2.trans (Zoe (P:=λx:Nat=>∃y:Nat,0<=y/\y<=7/\∃z:Nat,0<=z/\z<=7/\decF o [(x:Int),(y:Int),(z:Int)] 0) ha).symm⟩
theorem Zbgz(o:Zj)(P:List Int->Prop):(∃t,inT t/\P t)↔∃x:Nat,0<=x/\x<=7/\∃y:Nat,0<=y/\y<=7/\∃z:Nat,0<=z/\z<=7/\P [(x:Int),(y:Int),(z:Int)]:=by
 constructor
 .rintro⟨t,⟨a,b,c,rfl,h1,h2,h3⟩,h⟩;refine⟨a.toNat,by omega,by omega,b.toNat,by omega,by omega,c.toNat,by omega,by omega,?_⟩;rw[Ycb h1.1,Ycb h2.1,Ycb h3.1];exact h
 .rintro⟨x,_,x2,y,_,y2,z,_,z2,h⟩;exact⟨_,⟨x,y,z,rfl,by omega,by omega,by omega⟩,h⟩
theorem Zbuy(o:Zj)(hl:Le o.Steps)(hv:Zbz o=true):Zex (Zui o) (decr o):=by
 obtain⟨xs,ys,f,h1,h2⟩:=l_fd3 o hl hv 0 (by omega);refine⟨xs,ys,f,Zbrg _ _ ⟨_,Zsh o hl,?_⟩,?_⟩
 .rw[hv,if_pos rfl];exact h1
 .rw[h2,decr,Zbgz o (λt=>decF o t 0)];simp
abbrev Zfc(X:Rs)(p:Prop):Prop:=∃(xs:List Int),X=some (.own 0,[.arr Z1 1 true (xs.map ic)])/\(xs≠[]↔p)
theorem Zfc.congr{X:Rs}{p q:Prop}(h:Zfc X p)(e:p↔q):Zfc X q:=by
 obtain⟨xs,h1,h2⟩:=h;exact⟨xs,h1,h2.trans e⟩
theorem l_ch0(o:Zj)(hl:Le o.Steps)(hv:Zbz o=true)(a b:Nat)(ha:a<=7)(hb:b<=7)(p:Prop)(hc:Zfc (Zm6 o a ((b:Int)+1)) p):∀e:Nat,e<=8->
  Zfc (Zqh o a b e) ((∃z:Nat,e<=z/\z<=7/\tcl o [(a:Int),(b:Int),(z:Int)]<1)\/p):=by
 have wb:w ((b:Int)+1)=(b:Int)+1:=Z4 (by omega) (by omega);refine down _ ?_ ?_
 .refine Zfc.congr ?_ Zof.symm;obtain⟨xs,h1,h2⟩:=hc;exact⟨xs,Z22 _ _ _ _ _ (by rw[if_neg (by omega),wb];exact h1),h2⟩
 .intro e he ih;have we:w ((e:Int)+1)=(e:Int)+1:=Z4 (by omega) (by omega);have hT:inT [(a:Int),(b:Int),(e:Int)]:=⟨a,b,e,rfl,by omega,by omega,by omega⟩;simp only[Yn,Yo]at ih;refine Zfc.congr ?_ (Zoe he).symm;by_cases h:tcl o [(a:Int),(b:Int),(e:Int)]<1
  .refine⟨[a,b,e],Z22 _ _ _ _ _ ?_,by simp[h]⟩;rw[if_pos (by omega)];exact⟨_,Zv8 o hl hv hT,by rw[if_pos h]⟩
  .obtain⟨xs,h1,h2⟩:=ih;refine⟨xs,Z22 _ _ _ _ _ ?_,by rw[h2];simp[h]⟩;rw[if_pos (by omega)];exact⟨_,Zv8 o hl hv hT,by rw[if_neg h,we];exact h1⟩
theorem l_ch1(o:Zj)(hl:Le o.Steps)(hv:Zbz o=true)(a:Nat)(ha:a<=7)(p:Prop)(hc:Zfc (Zm5 o ((a:Int)+1)) p):∀b:Nat,b<=8->
  Zfc (Zm6 o a b) ((∃y:Nat,b<=y/\y<=7/\∃z:Nat,0<=z/\z<=7/\tcl o [(a:Int),(y:Int),(z:Int)]<1)\/p):=by
 have wa:w ((a:Int)+1)=(a:Int)+1:=Z4 (by omega) (by omega);refine down _ ?_ ?_
 .refine Zfc.congr ?_ Zof.symm;obtain⟨xs,h1,h2⟩:=hc;exact⟨xs,Zbel _ _ _ _ (by rw[if_neg (by omega),wa];exact h1),h2⟩
 .intro b hb ih;simp only[Yn,Yo]at ih;obtain⟨xs,h1,h2⟩:=l_ch0 o hl hv a b ha (by omega) _ ih 0 (by omega);exact⟨xs,Zbel _ _ _ _ (by rw[if_pos (by omega)];exact h1),h2.trans (Zoe (P:=λy:Nat=>∃z:Nat,0<=z/\z<=7/\tcl o [(a:Int),(y:Int),(z:Int)]<1) hb).symm⟩
theorem l_ch2(o:Zj)(hl:Le o.Steps)(hv:Zbz o=true):∀a:Nat,a<=8->
  Zfc (Zm5 o a) ((∃x:Nat,a<=x/\x<=7/\∃y:Nat,0<=y/\y<=7/\∃z:Nat,0<=z/\z<=7/\tcl o [(x:Int),(y:Int),(z:Int)]<1)\/False):=by
 refine down _ ?_ ?_
 .refine Zfc.congr ?_ Zof.symm;exact⟨[],Zbek _ _ _ (by rw[if_neg (by omega)]),by simp⟩
 .intro a ha ih;simp only[Yn,Yo]at ih;obtain⟨xs,h1,h2⟩:=l_ch1 o hl hv a (by omega) _ ih 0 (by omega);exact⟨xs,Zbek _ _ _ (by rw[if_pos (by omega)];exact h1),h2.trans (Zoe (P:=λx:Nat=>∃y:Nat,0<=y/\y<=7/\∃z:Nat,0<=z/\z<=7/\tcl o [(x:Int),(y:Int),(z:Int)]<1) ha).symm⟩
theorem Zbuz(o:Zj)(hl:Le o.Steps)(hv:Zbz o=true):Zfc (Zul o) (cheap o):=by
 obtain⟨xs,h1,h2⟩:=l_ch2 o hl hv 0 (by omega);refine⟨xs,Zbrh _ _ h1,?_⟩;rw[h2,cheap,Zbgz o (λt=>tcl o t<1)];simp
def rowC(a b:Int)(c:Nat):List (List Int):=(List.range' c (8-c)).map λz:Nat=>[a,b,(z:Int)]
def rowB(a:Int)(b:Nat):List (List Int):=(List.range' b (8-b)).flatMap λy:Nat=>rowC a y 0
def rowA(a:Nat):List (List Int):=(List.range' a (8-a)).flatMap λx:Nat=>rowB x 0
theorem Z3j{i:Nat}(h:i<8):List.range' i (8-i)=i::List.range' (i+1) (8-(i+1)):=by
 rw[show 8-i=(8-(i+1))+1 by omega,Ycx]
theorem rowC_len(a b:Int)(c:Nat):(rowC a b c).length=8-c:=by simp[rowC]
theorem rowB_len(a:Int):(rowB a 0).length=64:=rfl
theorem l_tr0(a b:Nat)(hb:b<=7)(r:AV×List Blk):∀c:Nat,c<=8->∀out:List (List Int),out.length<=1000000->Zlb (out++rowC a b c) a ((b:Int)+1)=some r->Znl out a b c=some r:=by
 have wb:w ((b:Int)+1)=(b:Int)+1:=Z4 (by omega) (by omega);have key:∀c:Nat,c<=8->∀out:List (List Int),out.length<=1000000+c->Zlb (out++rowC a b c) a ((b:Int)+1)=some r->Znl out a b c=some r:=by
  refine down _ ?_ ?_
  .intro out ho h;refine Zbfk _ _ _ _ _ ?_;rw[if_neg (by omega),wb];simpa[rowC]using h
  .intro c hc ih out ho h;have wc:w ((c:Int)+1)=(c:Int)+1:=Z4 (by omega) (by omega);refine Zbfk _ _ _ _ _ ?_;rw[if_pos (by omega),wc];refine⟨by omega,?_⟩
   have ih:=ih (out++[[(a:Int),(b:Int),(c:Int)]]) (by simp;omega) (by
    rw[rowC,Z3j hc]at h
    simpa[rowC]using h)
   simpa using ih
 exact λc hc out ho h=>key c hc out (by omega) h
theorem l_tr1(a:Nat)(ha:a<=7)(r:AV×List Blk):∀b:Nat,b<=8->∀out:List (List Int),out.length<=100000+8*b->Znk (out++rowB a b) ((a:Int)+1)=some r->Zlb out a b=some r:=by
 have wa:w ((a:Int)+1)=(a:Int)+1:=Z4 (by omega) (by omega);refine down _ ?_ ?_
 .intro out ho h;refine Zbfj _ _ _ _ ?_;rw[if_neg (by omega),wa];simpa[rowB]using h
 .intro b hb ih out ho h;refine Zbfj _ _ _ _ ?_;rw[if_pos (by omega)];refine l_tr0 a b (by omega) r 0 (by omega) out (by omega) ?_
  have ih:=ih (out++rowC a b 0) (by rw[Ym,rowC_len];omega) (by
   rw[rowB,Z3j hb]at h
   simpa[rowB]using h)
  simpa using ih
theorem l_tr2:∀a:Nat,a<=8->∀out:List (List Int),out.length<=64*a->Znk out a=some (.own 0,[.arr Z7w 1 true ((out++rowA a).map isc)]):=by
 refine down _ ?_ ?_
 .intro out ho;refine Zbfi _ _ _ ?_;rw[if_neg (by omega)];simp[rowA]
 .intro a ha ih out ho;refine Zbfi _ _ _ ?_;rw[if_pos (by omega)];refine l_tr1 a (by omega) _ 0 (by omega) out (by omega) ?_;have ih:=ih (out++rowB a 0) (by rw[Ym,rowB_len];omega);rw[rowA,Z3j ha];simpa[rowA]using ih
def allT:List (List Int):=rowA 0
theorem Zog:Zem=some (.own 0,[.arr Z7w 1 true (allT.map isc)]):=Zbsw _ (l_tr2 0 (by omega) [] (by simp))
theorem Zf3(t:List Int):t∈allT↔inT t:=by
 simp only[allT,rowA,rowB,rowC,Yc2,Yx,List.mem_range'_1,inT];constructor
 .rintro⟨x,hx,y,hy,z,hz,rfl⟩;exact⟨x,y,z,rfl,by omega,by omega,by omega⟩
 .rintro⟨a,b,c,rfl,h1,h2,h3⟩;refine⟨a.toNat,by omega,b.toNat,by omega,c.toNat,by omega,?_⟩;rw[Ycb h1.1,Ycb h2.1,Ycb h3.1]
set_option maxRecDepth 100000 in
theorem Zoh:allT.length=512:=rfl
@[simp] theorem Zbg0(xs:List Int)(h:xs.length<=68719476736):Zh6 xs=some (.own 0,[.arr Z1 1 true (xs.map ic)]):=Zbfl _ _ ⟨h,rfl⟩
abbrev GoodI(X:Rs)(p:Prop):Prop:=(p/\∃xs ys:List Int,X=some (.tup [L 1 (xs.map ic),.own 0,Bo true],[.arr Z1 1 true (ys.map ic)]))\/(¬p/\X=some (.tup [.t .nil,.t .nil,Bo false],[]))
theorem l_id0(o:Zj)(hl:Le o.Steps)(ts:List (List Int)){t:List Int}(ht:inT t)(n i:Int)(p:Prop)(hc:GoodI (Zjc o ts n (w (i+1))) p):∀k:Nat,k<=3->
  GoodI (Zfv o ts t n i 3 k) (decF o t k\/p):=by
 have h3:=Z3i ht;refine down _ ?_ ?_
 .have e:(decF o t 3\/p)↔p:=⟨λh=>h.elim (λ⟨j,a,b,_⟩=>by omega) id,.inr⟩;rcases hc with⟨h,xs,ys,h1⟩|⟨h,h1⟩
  .exact .inl ⟨e.2 h,xs,ys,Z3c _ _ _ _ _ _ _ _ (by rw[if_neg (by omega)];exact h1)⟩
  .exact .inr ⟨λhc=>h (e.1 hc),Z3c _ _ _ _ _ _ _ _ (by rw[if_neg (by omega)];exact h1)⟩
 .intro k hk ih;have h4:=Zw (i:=k) (by omega);obtain⟨x,hx,x0,x7⟩:=Zbgy ht hk;have wx:w (x+1)=x+1:=Z4 (by omega) (by omega);simp only[Yn,Yo]at ih;have step:decF o t k↔(decK o t k\/decF o t (k+1)):=by
   constructor
   .rintro⟨j,j1,j2,j3⟩;by_cases hj:j=k
    .subst hj;exact .inl j3
    .exact .inr ⟨j,by omega,j2,j3⟩
   .rintro(h|⟨j,j1,j2,j3⟩)
    .exact⟨k,Yf _,hk,h⟩
    .exact⟨j,by omega,j2,j3⟩
  have dk:decK o t k↔(x+1<=7/\tcl o (t.set k (x+1))<tcl o t):=by
   constructor
   .rintro⟨y,y1,y2,y3⟩;rw[hx]at y1;cases y1;exact⟨y2,y3⟩
   .rintro⟨y2,y3⟩;exact⟨x,hx,y2,y3⟩
  have pre:∀r,(if x+1<=7 then(if tcl o (t.set k (x+1))<tcl o t then some (.tup [L 1 (t.map ic),.own 0,Bo true],[.arr Z1 1 true ((t.set k (x+1)).map ic)])=some r
    else Zfv o ts t n i 3 ((k:Int)+1)=some r)else Zfv o ts t n i 3 ((k:Int)+1)=some r)->Zfv o ts t n i 3 k=some r:=by
   intro r hr;refine Z3c _ _ _ _ _ _ _ _ ?_;rw[if_pos (by omega)];refine⟨by omega,x,by rw[Yd];exact hx,?_⟩;rw[show w ((k:Int)+1)=(k:Int)+1 from h4];by_cases h7:x=7
   .rw[if_pos h7];rw[if_neg (by omega)]at hr;exact hr
   .rw[if_neg h7];have h8:x+1<=7:=by omega
    rw[if_pos h8]at hr;refine⟨t,Zbg0 t (by omega),x,by rw[Yd];exact hx,?_⟩;rw[wx,Yd];exact⟨_,Zlp o hl (Zbgx ht hx h8),_,Zlp o hl ht,hr⟩
  by_cases h7:x+1<=7/\tcl o (t.set k (x+1))<tcl o t
  .exact .inl ⟨.inl (step.2 (.inl (dk.2 h7))),_,_,pre _ (by rw[if_pos h7.1,if_pos h7.2])⟩
  .have go:∀r,Zfv o ts t n i 3 ((k:Int)+1)=some r->Zfv o ts t n i 3 k=some r:=by
    intro r hr;refine pre r ?_;split
    .split
     .rename_i a1 a2;exact absurd ⟨a1,a2⟩ h7
     .exact hr
    .exact hr
   have e:(decF o t k\/p)↔(decF o t (k+1)\/p):=by
    rw[step,dk];exact⟨λh=>h.imp (λh=>h.resolve_left h7) id,λh=>h.imp .inr id⟩
   rcases ih with⟨h,xs,ys,h1⟩|⟨h,h1⟩
   .exact .inl ⟨e.2 h,xs,ys,go _ h1⟩
   .exact .inr ⟨λhc=>h (e.1 hc),go _ h1⟩
theorem l_id1(o:Zj)(hl:Le o.Steps)(ts:List (List Int))(c:∀t∈ts,inT t)(hn:ts.length<=1000):∀i,i<=ts.length->GoodI (Zjc o ts ts.length i) (∃t∈ts.drop i,decF o t 0):=by
 refine down _ ?_ ?_
 .refine .inr ⟨by simp,Zbfn _ _ _ _ _ (by rw[if_neg (by omega)])⟩
 .intro i hi ih;have h4:=Zw (i:=i) (by omega);have ht:=c _ (Yh hi);simp only[Yn,Yo]at ih;have b:=l_id0 o hl ts ht ts.length i _ (by rw[show w ((i:Int)+1)=(i:Int)+1 from h4];exact ih) 0 (by omega);have go:∀r,Zfv o ts ts[i] ts.length i 3 0=some r->Zjc o ts ts.length i=some r:=by
   intro r hr;refine Zbfn _ _ _ _ _ ?_;rw[if_pos (by omega)];refine⟨by omega,ts[i],by rw[Yd];exact Yb hi,?_⟩;rw[Z3i ht];exact hr
  have e:(∃t∈ts.drop i,decF o t 0)↔(decF o ts[i] 0\/∃t∈ts.drop (i+1),decF o t 0):=by
   rw[Yj hi];simp only[Y6,exists_eq_or_imp]
  rcases b with⟨h,xs,ys,h1⟩|⟨h,h1⟩
  .exact .inl ⟨e.2 h,xs,ys,go _ h1⟩
  .exact .inr ⟨λhc=>h (e.1 hc),go _ h1⟩
theorem Zsi(o:Zj)(hl:Le o.Steps)(hv:Zbz o=true):GoodI (Zci o) (decr o):=by
 have b:=l_id1 o hl allT (λt h=>(Zf3 t).1 h) (by rw[Zoh];omega) 0 (Ye _);have go:∀r,Zjc o allT allT.length 0=some r->Zci o=some r:=by
  intro r hr;refine Zbs0 _ _ ⟨_,Zd5 o hl,?_⟩;rw[hv,if_pos rfl];exact⟨allT,Zog,hr⟩
 have e:(∃t∈allT.drop 0,decF o t 0)↔decr o:=by
  simp only[Yk,Zf3,decr]
 rcases b with⟨h,xs,ys,h1⟩|⟨h,h1⟩
 .exact .inl ⟨e.1 h,xs,ys,go _ h1⟩
 .exact .inr ⟨λhc=>h (e.2 hc),go _ h1⟩
def Zbr(o:Zj):Prop:=Zbz o=true/\¬decr o/\¬cheap o
def mOp(m:Zd)(k:Int):Zj:=if k=1 then m.Scan else if k=2 then m.Sort_ else if k=3 then m.Hash else if k=4 then m.Merge else m.Nested
abbrev LeM(m:Zd):Prop:=Le m.Scan.Steps/\Le m.Sort_.Steps/\Le m.Hash.Steps/\Le m.Merge.Steps/\Le m.Nested.Steps
theorem LeM.op{m:Zd}(h:LeM m)(k:Int):Le (mOp m k).Steps:=by
 unfold mOp;obtain⟨h1,h2,h3,h4,h5⟩:=h
 repeat' split
 all_goals assumption
@[simp] theorem Zoi(m:Zd)(k:Int):Ze8 m k=some (.agg ((mOp m k).c.map .t),[]):=by
 refine Zbrb _ _ _ ?_;unfold mOp;by_cases h1:k=1
 .simp[h1]
 by_cases h2:k=2
 .simp[h2]
 by_cases h3:k=3
 .simp[h3]
 by_cases h4:k=4
 .simp[h4]
 .simp[h1,h2,h3,h4]
def Zcl(m:Zd):Prop:=Zbr m.Scan/\Zbr m.Sort_/\Zbr m.Hash/\Zbr m.Merge/\Zbr m.Nested
theorem Zbu0(m:Zd)(hm:LeM m):∀k:Nat,k<=6->1<=k->
  ∃(xs ys:List Int) (n:Int),Zm7 m k=some (.tup [I n,.own 0,.own 1],[.arr Z1 1 true (xs.map ic),.arr Z1 1 true (ys.map ic)])/\(n=0↔∀j:Nat,k<=j->j<=5->Zbr (mOp m j)):=by
 refine down _ ?_ ?_
 .intro _;exact⟨[],[],0,Zbem _ _ _ (by rw[if_neg (by omega)]),⟨λ_ j h1 h2=>by omega,λ_=>rfl⟩⟩
 .intro k hk ih h1;have wk':w ((k:Int)+1)=(k:Int)+1:=Z4 (by omega) (by omega);have hl:=hm.op k;have step:(∀j:Nat,k<=j->j<=5->Zbr (mOp m j))↔(Zbr (mOp m k)/\∀j:Nat,k+1<=j->j<=5->Zbr (mOp m j)):=by
   constructor
   .exact λh=>⟨h k (Yf _) (by omega),λj a b=>h j (by omega) b⟩
   .rintro⟨a,b⟩ j c d;by_cases hj:j=k
    .subst hj;exact a
    .exact b j (by omega) d
  have kne:(k:Int)≠0:=by omega
  have pre:∀r,(∃v,Zku (mOp m k)=some (Bo v,[])/\_)->Zm7 m k=some r:=λr h=>Zbem _ _ _ (by rw[if_pos (by omega)];exact⟨mOp m k,Zoi m k,h⟩)
  rcases tf (Zbz (mOp m k))with hv|hv
  .refine⟨[],[],k,pre _ ⟨false,by rw[Zsh _ hl,hv],by rw[if_neg (by simp)]⟩,?_⟩;rw[step];exact⟨λh=>absurd h kne,λh=>by have:=h.1.1;rw[hv]at this;cases this⟩
  .obtain⟨xs,ys,f,d1,d2⟩:=Zbuy (mOp m k) hl hv
   cases f with
   |true =>
    refine⟨xs,ys,k,pre _ ⟨true,by rw[Zsh _ hl,hv],?_⟩,?_⟩
    .rw[if_pos rfl];exact⟨xs,ys,true,d1,by rw[if_pos rfl]⟩
    .rw[step]
     exact⟨λh=>absurd h kne,λh=>absurd (d2.1 rfl) h.1.2.1⟩
   |false =>
    obtain⟨cs,c1,c2⟩:=Zbuz (mOp m k) hl hv;by_cases hc:cs=[]
    .obtain⟨xs',ys',n,i1,i2⟩:=ih (by omega);simp only[Yn,Yo]at i1;refine⟨xs',ys',n,pre _ ⟨true,by rw[Zsh _ hl,hv],?_⟩,?_⟩
     .rw[if_pos rfl];refine⟨xs,ys,false,d1,?_⟩;rw[if_neg (by simp)];refine⟨cs,c1,?_⟩;rw[hc,if_neg (by simp),wk'];exact i1
     .rw[step,i2];refine⟨λh=>⟨⟨hv,λhd=>(by have:=d2.2 hd;cases this),λhch=>(c2.2 hch) hc⟩,h⟩,λh=>h.2⟩
    .refine⟨cs,[],k,pre _ ⟨true,by rw[Zsh _ hl,hv],?_⟩,?_⟩
     .rw[if_pos rfl];refine⟨xs,ys,false,d1,?_⟩;rw[if_neg (by simp)];refine⟨cs,c1,?_⟩
      have:0<cs.length:=Yb4.2 hc
      rw[if_pos (by omega)]
     .rw[step];exact⟨λh=>absurd h kne,λh=>absurd (c2.1 hc) h.1.2.2⟩
theorem adm_iff(m:Zd):(∀j:Nat,1<=j->j<=5->Zbr (mOp m j))↔Zcl m:=by
 constructor
 .intro h;exact⟨h 1 (by omega) (by omega),h 2 (by omega) (by omega),h 3 (by omega) (by omega),h 4 (by omega) (by omega),h 5 (by omega) (by omega)⟩
 .rintro⟨h1,h2,h3,h4,h5⟩ j a b
  have:j=1\/j=2\/j=3\/j=4\/j=5:=by omega
  rcases this with rfl|rfl|rfl|rfl|rfl
  .exact h1
  .exact h2
  .exact h3
  .exact h4
  .exact h5
open Classical in
theorem Zsj(m:Zd)(hm:LeM m):Zhy m=some (Bo (decide (Zcl m)),[]):=by
 obtain⟨xs,ys,n,h1,h2⟩:=Zbu0 m hm 1 (by omega) (by omega);refine Zbrj _ _ ⟨xs,ys,n,Zbri _ _ h1,?_⟩;rw[adm_iff]at h2;by_cases h:Zcl m
 .rw[decide_eq_true h,decide_eq_true (h2.2 h)]
 .rw[decide_eq_false h,decide_eq_false (λhc=>h (h2.1 hc))]
abbrev Zbp(X:Rs)(p:Prop):Prop:=(p/\X=some (.tup [I 0,.t .nil,.t .nil],[]))\/(¬p/\∃n:Int,n≠0/\((∃xs ys:List Int,X=some (.tup [I n,L 1 (xs.map ic),.own 0],[.arr Z1 1 true (ys.map ic)]))\/X=some (.tup [I n,.t .nil,.t .nil],[])\/∃xs:List Int,X=some (.tup [I n,L 1 (xs.map ic),.t .nil],[])))
theorem Zbp.of{X Y:Rs}{p:Prop}(h:Zbp X p)(e:∀r,X=some r->Y=some r):Zbp Y p:=by
 rcases h with⟨h,h1⟩|⟨h,n,hn,⟨xs,ys,h1⟩|h1|⟨xs,h1⟩⟩
 .exact .inl ⟨h,e _ h1⟩
 .exact .inr ⟨h,n,hn,.inl ⟨xs,ys,e _ h1⟩⟩
 .exact .inr ⟨h,n,hn,.inr (.inl (e _ h1))⟩
 .exact .inr ⟨h,n,hn,.inr (.inr ⟨xs,e _ h1⟩)⟩
theorem Zbp.congr{X:Rs}{p q:Prop}(h:Zbp X p)(e:p↔q):Zbp X q:=by
 rw[<-e];exact h
theorem Zsk{ts:List (List Int)}{j:Nat}(hj:j<ts.length){P:List Int->Prop}{p:Prop}:((∀t∈ts.drop j,P t)/\p)↔(P ts[j]/\(∀t∈ts.drop (j+1),P t)/\p):=by
 rw[Yj hj];simp only[Y6,forall_eq_or_imp,and_assoc]
theorem l_rf0(m:Zd)(hl:Le m.Scan.Steps)(ts:List (List Int))(c:∀t∈ts,inT t)(hn:ts.length<=1000)(kind:Int)(hk:kind≠0)(x1 x2:Int)(p:Prop)(hc:Zbp (Zbw m x1 (w (x2+1))) p):∀j,j<=ts.length->
  Zbp (Zjf m ts kind x1 x2 ts.length j) ((∀t∈ts.drop j,¬tcl m.Scan t<1)/\p):=by
 refine down _ ?_ ?_
 .refine(hc.of λr hr=>Zbfo _ _ _ _ _ _ _ _ (by rw[if_neg (by omega)];exact hr)).congr (by simp)
 .intro j hj ih;have h4:=Zw (i:=j) (by omega);have ht:=c _ (Yh hj);simp only[Yn,Yo]at ih;have pre:∀r,(if tcl m.Scan ts[j]<1 then some (.tup [I kind,L 1 (ts[j].map ic),.t .nil],[])=some r else Zjf m ts kind x1 x2 ts.length ((j:Int)+1)=some r)->Zjf m ts kind x1 x2 ts.length j=some r:=by
   intro r hr;refine Zbfo _ _ _ _ _ _ _ _ ?_;rw[if_pos (by omega)];refine⟨by omega,ts[j],by rw[Yd];exact Yb hj,_,Zlp _ hl ht,?_⟩;rw[show w ((j:Int)+1)=(j:Int)+1 from h4];exact hr
  refine Zbp.congr ?_ (Zsk (P:=λt=>¬tcl m.Scan t<1) hj).symm;by_cases h:tcl m.Scan ts[j]<1
  .exact .inr ⟨λhc=>hc.1 h,kind,hk,.inr (.inr ⟨_,pre _ (by rw[if_pos h])⟩)⟩
  .exact(ih.of λr hr=>pre r (by rw[if_neg h];exact hr)).congr ⟨λhh=>⟨h,hh⟩,λhh=>hh.2⟩
theorem l_rf1(m:Zd)(hm:LeM m)(p:Prop)(hc:Zbp (Zbw m 5 1) p):Zbp (Zbw m 5 0) (Zbr m.Scan/\p):=by
 have hl:Le m.Scan.Steps:=by obtain⟨h1,h2,h3,h4,h5⟩:=hm;assumption
 have w1:w (1+0)=1:=by decide
 have w2:w (0+1)=1:=by decide
 have pre:∀r,(∃v,Zcr m.Scan=some (Bo v,[])/\_)->Zbw m 5 0=some r:=λr h=>Zn9 (by rw[if_pos (by omega),if_pos rfl];exact h)
 rcases tf (Zbz m.Scan)with hv|hv
 .refine .inr ⟨λh=>(by have:=h.1.1;rw[hv]at this;cases this),1,by decide,.inr (.inl (pre _ ⟨false,by rw[Zd5 _ hl,hv],?_⟩))⟩;rw[if_neg (by simp),w1]
 rcases Zsi m.Scan hl hv with⟨hd,xs,ys,d1⟩|⟨hd,d1⟩
 .refine .inr ⟨λh=>h.1.2.1 hd,1,by decide,.inl ⟨xs,ys,pre _ ⟨true,by rw[Zd5 _ hl,hv],?_⟩⟩⟩;rw[if_pos rfl,w1];exact .inr ⟨ys,xs,d1,rfl⟩
 .have b:=l_rf0 m hl allT (λt h=>(Zf3 t).1 h) (by rw[Zoh];omega) 1 (by decide) 5 0 p (by rw[w2];exact hc) 0 (Ye _);refine(b.of λr hr=>pre r ⟨true,by rw[Zd5 _ hl,hv],?_⟩).congr ?_
  .rw[if_pos rfl,w1];exact .inl ⟨d1,allT,Zog,hr⟩
  .simp only[Yk,Zf3];constructor
   .rintro⟨h,hp⟩;exact⟨⟨hv,hd,λ⟨t,ht,hc⟩=>h t ht hc⟩,hp⟩
   .rintro⟨h,hp⟩;exact⟨λt ht hc=>h.2.2 ⟨t,ht,hc⟩,hp⟩
theorem l_rf0a(m:Zd)(hl:Le m.Sort_.Steps)(ts:List (List Int))(c:∀t∈ts,inT t)(hn:ts.length<=1000)(kind:Int)(hk:kind≠0)(x1 x2:Int)(p:Prop)(hc:Zbp (Zbw m x1 (w (x2+1))) p):∀j,j<=ts.length->
  Zbp (Zjg m ts kind x1 x2 ts.length j) ((∀t∈ts.drop j,¬tcl m.Sort_ t<1)/\p):=by
 refine down _ ?_ ?_
 .refine(hc.of λr hr=>Zbfp _ _ _ _ _ _ _ _ (by rw[if_neg (by omega)];exact hr)).congr (by simp)
 .intro j hj ih;have h4:=Zw (i:=j) (by omega);have ht:=c _ (Yh hj);simp only[Yn,Yo]at ih;have pre:∀r,(if tcl m.Sort_ ts[j]<1 then some (.tup [I kind,L 1 (ts[j].map ic),.t .nil],[])=some r else Zjg m ts kind x1 x2 ts.length ((j:Int)+1)=some r)->Zjg m ts kind x1 x2 ts.length j=some r:=by
   intro r hr;refine Zbfp _ _ _ _ _ _ _ _ ?_;rw[if_pos (by omega)];refine⟨by omega,ts[j],by rw[Yd];exact Yb hj,_,Zlp _ hl ht,?_⟩;rw[show w ((j:Int)+1)=(j:Int)+1 from h4];exact hr
  refine Zbp.congr ?_ (Zsk (P:=λt=>¬tcl m.Sort_ t<1) hj).symm;by_cases h:tcl m.Sort_ ts[j]<1
  .exact .inr ⟨λhc=>hc.1 h,kind,hk,.inr (.inr ⟨_,pre _ (by rw[if_pos h])⟩)⟩
  .exact(ih.of λr hr=>pre r (by rw[if_neg h];exact hr)).congr ⟨λhh=>⟨h,hh⟩,λhh=>hh.2⟩
theorem l_rf1a(m:Zd)(hm:LeM m)(p:Prop)(hc:Zbp (Zbw m 5 2) p):Zbp (Zbw m 5 1) (Zbr m.Sort_/\p):=by
 have hl:Le m.Sort_.Steps:=by obtain⟨h1,h2,h3,h4,h5⟩:=hm;assumption
 have w1:w (1+1)=2:=by decide
 have w2:w (1+1)=2:=by decide
 have pre:∀r,(∃v,Zcr m.Sort_=some (Bo v,[])/\_)->Zbw m 5 1=some r:=λr h=>Zn9 (by rw[if_pos (by omega),if_neg (by omega),if_pos rfl];exact h)
 rcases tf (Zbz m.Sort_)with hv|hv
 .refine .inr ⟨λh=>(by have:=h.1.1;rw[hv]at this;cases this),2,by decide,.inr (.inl (pre _ ⟨false,by rw[Zd5 _ hl,hv],?_⟩))⟩;rw[if_neg (by simp),w1]
 rcases Zsi m.Sort_ hl hv with⟨hd,xs,ys,d1⟩|⟨hd,d1⟩
 .refine .inr ⟨λh=>h.1.2.1 hd,2,by decide,.inl ⟨xs,ys,pre _ ⟨true,by rw[Zd5 _ hl,hv],?_⟩⟩⟩;rw[if_pos rfl,w1];exact .inr ⟨ys,xs,d1,rfl⟩
 .have b:=l_rf0a m hl allT (λt h=>(Zf3 t).1 h) (by rw[Zoh];omega) 2 (by decide) 5 1 p (by rw[w2];exact hc) 0 (Ye _);refine(b.of λr hr=>pre r ⟨true,by rw[Zd5 _ hl,hv],?_⟩).congr ?_
  .rw[if_pos rfl,w1];exact .inl ⟨d1,allT,Zog,hr⟩
  .simp only[Yk,Zf3];constructor
   .rintro⟨h,hp⟩;exact⟨⟨hv,hd,λ⟨t,ht,hc⟩=>h t ht hc⟩,hp⟩
   .rintro⟨h,hp⟩;exact⟨λt ht hc=>h.2.2 ⟨t,ht,hc⟩,hp⟩
theorem l_rf0b(m:Zd)(hl:Le m.Hash.Steps)(ts:List (List Int))(c:∀t∈ts,inT t)(hn:ts.length<=1000)(kind:Int)(hk:kind≠0)(x1 x2:Int)(p:Prop)(hc:Zbp (Zbw m x1 (w (x2+1))) p):∀j,j<=ts.length->
  Zbp (Zjh m ts kind x1 x2 ts.length j) ((∀t∈ts.drop j,¬tcl m.Hash t<1)/\p):=by
 refine down _ ?_ ?_
 .refine(hc.of λr hr=>Zbfq _ _ _ _ _ _ _ _ (by rw[if_neg (by omega)];exact hr)).congr (by simp)
 .intro j hj ih;have h4:=Zw (i:=j) (by omega);have ht:=c _ (Yh hj);simp only[Yn,Yo]at ih;have pre:∀r,(if tcl m.Hash ts[j]<1 then some (.tup [I kind,L 1 (ts[j].map ic),.t .nil],[])=some r else Zjh m ts kind x1 x2 ts.length ((j:Int)+1)=some r)->Zjh m ts kind x1 x2 ts.length j=some r:=by
   intro r hr;refine Zbfq _ _ _ _ _ _ _ _ ?_;rw[if_pos (by omega)];refine⟨by omega,ts[j],by rw[Yd];exact Yb hj,_,Zlp _ hl ht,?_⟩;rw[show w ((j:Int)+1)=(j:Int)+1 from h4];exact hr
  refine Zbp.congr ?_ (Zsk (P:=λt=>¬tcl m.Hash t<1) hj).symm;by_cases h:tcl m.Hash ts[j]<1
  .exact .inr ⟨λhc=>hc.1 h,kind,hk,.inr (.inr ⟨_,pre _ (by rw[if_pos h])⟩)⟩
  .exact(ih.of λr hr=>pre r (by rw[if_neg h];exact hr)).congr ⟨λhh=>⟨h,hh⟩,λhh=>hh.2⟩
theorem l_rf1b(m:Zd)(hm:LeM m)(p:Prop)(hc:Zbp (Zbw m 5 3) p):Zbp (Zbw m 5 2) (Zbr m.Hash/\p):=by
 have hl:Le m.Hash.Steps:=by obtain⟨h1,h2,h3,h4,h5⟩:=hm;assumption
 have w1:w (1+2)=3:=by decide
 have w2:w (2+1)=3:=by decide
 have pre:∀r,(∃v,Zcr m.Hash=some (Bo v,[])/\_)->Zbw m 5 2=some r:=λr h=>Zn9 (by rw[if_pos (by omega),if_neg (by omega),if_neg (by omega),if_pos rfl];exact h)
 rcases tf (Zbz m.Hash)with hv|hv
 .refine .inr ⟨λh=>(by have:=h.1.1;rw[hv]at this;cases this),3,by decide,.inr (.inl (pre _ ⟨false,by rw[Zd5 _ hl,hv],?_⟩))⟩;rw[if_neg (by simp),w1]
 rcases Zsi m.Hash hl hv with⟨hd,xs,ys,d1⟩|⟨hd,d1⟩
 .refine .inr ⟨λh=>h.1.2.1 hd,3,by decide,.inl ⟨xs,ys,pre _ ⟨true,by rw[Zd5 _ hl,hv],?_⟩⟩⟩;rw[if_pos rfl,w1];exact .inr ⟨ys,xs,d1,rfl⟩
 .have b:=l_rf0b m hl allT (λt h=>(Zf3 t).1 h) (by rw[Zoh];omega) 3 (by decide) 5 2 p (by rw[w2];exact hc) 0 (Ye _);refine(b.of λr hr=>pre r ⟨true,by rw[Zd5 _ hl,hv],?_⟩).congr ?_
  .rw[if_pos rfl,w1];exact .inl ⟨d1,allT,Zog,hr⟩
  .simp only[Yk,Zf3];constructor
   .rintro⟨h,hp⟩;exact⟨⟨hv,hd,λ⟨t,ht,hc⟩=>h t ht hc⟩,hp⟩
   .rintro⟨h,hp⟩;exact⟨λt ht hc=>h.2.2 ⟨t,ht,hc⟩,hp⟩
theorem l_rf0c(m:Zd)(hl:Le m.Merge.Steps)(ts:List (List Int))(c:∀t∈ts,inT t)(hn:ts.length<=1000)(kind:Int)(hk:kind≠0)(x1 x2:Int)(p:Prop)(hc:Zbp (Zbw m x1 (w (x2+1))) p):∀j,j<=ts.length->
  Zbp (Zji m ts kind x1 x2 ts.length j) ((∀t∈ts.drop j,¬tcl m.Merge t<1)/\p):=by
 refine down _ ?_ ?_
 .refine(hc.of λr hr=>Zbfr _ _ _ _ _ _ _ _ (by rw[if_neg (by omega)];exact hr)).congr (by simp)
 .intro j hj ih;have h4:=Zw (i:=j) (by omega);have ht:=c _ (Yh hj);simp only[Yn,Yo]at ih;have pre:∀r,(if tcl m.Merge ts[j]<1 then some (.tup [I kind,L 1 (ts[j].map ic),.t .nil],[])=some r else Zji m ts kind x1 x2 ts.length ((j:Int)+1)=some r)->Zji m ts kind x1 x2 ts.length j=some r:=by
   intro r hr;refine Zbfr _ _ _ _ _ _ _ _ ?_;rw[if_pos (by omega)];refine⟨by omega,ts[j],by rw[Yd];exact Yb hj,_,Zlp _ hl ht,?_⟩;rw[show w ((j:Int)+1)=(j:Int)+1 from h4];exact hr
  refine Zbp.congr ?_ (Zsk (P:=λt=>¬tcl m.Merge t<1) hj).symm;by_cases h:tcl m.Merge ts[j]<1
  .exact .inr ⟨λhc=>hc.1 h,kind,hk,.inr (.inr ⟨_,pre _ (by rw[if_pos h])⟩)⟩
  .exact(ih.of λr hr=>pre r (by rw[if_neg h];exact hr)).congr ⟨λhh=>⟨h,hh⟩,λhh=>hh.2⟩
theorem l_rf1c(m:Zd)(hm:LeM m)(p:Prop)(hc:Zbp (Zbw m 5 4) p):Zbp (Zbw m 5 3) (Zbr m.Merge/\p):=by
 have hl:Le m.Merge.Steps:=by obtain⟨h1,h2,h3,h4,h5⟩:=hm;assumption
 have w1:w (1+3)=4:=by decide
 have w2:w (3+1)=4:=by decide
 have pre:∀r,(∃v,Zcr m.Merge=some (Bo v,[])/\_)->Zbw m 5 3=some r:=λr h=>Zn9 (by rw[if_pos (by omega),if_neg (by omega),if_neg (by omega),if_neg (by omega),if_pos rfl];exact h)
 rcases tf (Zbz m.Merge)with hv|hv
 .refine .inr ⟨λh=>(by have:=h.1.1;rw[hv]at this;cases this),4,by decide,.inr (.inl (pre _ ⟨false,by rw[Zd5 _ hl,hv],?_⟩))⟩;rw[if_neg (by simp),w1]
 rcases Zsi m.Merge hl hv with⟨hd,xs,ys,d1⟩|⟨hd,d1⟩
 .refine .inr ⟨λh=>h.1.2.1 hd,4,by decide,.inl ⟨xs,ys,pre _ ⟨true,by rw[Zd5 _ hl,hv],?_⟩⟩⟩;rw[if_pos rfl,w1];exact .inr ⟨ys,xs,d1,rfl⟩
 .have b:=l_rf0c m hl allT (λt h=>(Zf3 t).1 h) (by rw[Zoh];omega) 4 (by decide) 5 3 p (by rw[w2];exact hc) 0 (Ye _);refine(b.of λr hr=>pre r ⟨true,by rw[Zd5 _ hl,hv],?_⟩).congr ?_
  .rw[if_pos rfl,w1];exact .inl ⟨d1,allT,Zog,hr⟩
  .simp only[Yk,Zf3];constructor
   .rintro⟨h,hp⟩;exact⟨⟨hv,hd,λ⟨t,ht,hc⟩=>h t ht hc⟩,hp⟩
   .rintro⟨h,hp⟩;exact⟨λt ht hc=>h.2.2 ⟨t,ht,hc⟩,hp⟩
theorem l_rf0d(m:Zd)(hl:Le m.Nested.Steps)(ts:List (List Int))(c:∀t∈ts,inT t)(hn:ts.length<=1000)(kind:Int)(hk:kind≠0)(x1 x2:Int)(p:Prop)(hc:Zbp (Zbw m x1 (w (x2+1))) p):∀j,j<=ts.length->
  Zbp (Zjj m ts kind x1 x2 ts.length j) ((∀t∈ts.drop j,¬tcl m.Nested t<1)/\p):=by
 refine down _ ?_ ?_
 .refine(hc.of λr hr=>Zbfs _ _ _ _ _ _ _ _ (by rw[if_neg (by omega)];exact hr)).congr (by simp)
 .intro j hj ih;have h4:=Zw (i:=j) (by omega);have ht:=c _ (Yh hj);simp only[Yn,Yo]at ih;have pre:∀r,(if tcl m.Nested ts[j]<1 then some (.tup [I kind,L 1 (ts[j].map ic),.t .nil],[])=some r else Zjj m ts kind x1 x2 ts.length ((j:Int)+1)=some r)->Zjj m ts kind x1 x2 ts.length j=some r:=by
   intro r hr;refine Zbfs _ _ _ _ _ _ _ _ ?_;rw[if_pos (by omega)];refine⟨by omega,ts[j],by rw[Yd];exact Yb hj,_,Zlp _ hl ht,?_⟩;rw[show w ((j:Int)+1)=(j:Int)+1 from h4];exact hr
  refine Zbp.congr ?_ (Zsk (P:=λt=>¬tcl m.Nested t<1) hj).symm;by_cases h:tcl m.Nested ts[j]<1
  .exact .inr ⟨λhc=>hc.1 h,kind,hk,.inr (.inr ⟨_,pre _ (by rw[if_pos h])⟩)⟩
  .exact(ih.of λr hr=>pre r (by rw[if_neg h];exact hr)).congr ⟨λhh=>⟨h,hh⟩,λhh=>hh.2⟩
theorem l_rf1d(m:Zd)(hm:LeM m)(p:Prop)(hc:Zbp (Zbw m 5 5) p):Zbp (Zbw m 5 4) (Zbr m.Nested/\p):=by
 have hl:Le m.Nested.Steps:=by obtain⟨h1,h2,h3,h4,h5⟩:=hm;assumption
 have w1:w (1+4)=5:=by decide
 have w2:w (4+1)=5:=by decide
 have pre:∀r,(∃v,Zcr m.Nested=some (Bo v,[])/\_)->Zbw m 5 4=some r:=λr h=>Zn9 (by rw[if_pos (by omega),if_neg (by omega),if_neg (by omega),if_neg (by omega),if_neg (by omega),if_pos rfl];exact h)
 rcases tf (Zbz m.Nested)with hv|hv
 .refine .inr ⟨λh=>(by have:=h.1.1;rw[hv]at this;cases this),5,by decide,.inr (.inl (pre _ ⟨false,by rw[Zd5 _ hl,hv],?_⟩))⟩;rw[if_neg (by simp),w1]
 rcases Zsi m.Nested hl hv with⟨hd,xs,ys,d1⟩|⟨hd,d1⟩
 .refine .inr ⟨λh=>h.1.2.1 hd,5,by decide,.inl ⟨xs,ys,pre _ ⟨true,by rw[Zd5 _ hl,hv],?_⟩⟩⟩;rw[if_pos rfl,w1];exact .inr ⟨ys,xs,d1,rfl⟩
 .have b:=l_rf0d m hl allT (λt h=>(Zf3 t).1 h) (by rw[Zoh];omega) 5 (by decide) 5 4 p (by rw[w2];exact hc) 0 (Ye _);refine(b.of λr hr=>pre r ⟨true,by rw[Zd5 _ hl,hv],?_⟩).congr ?_
  .rw[if_pos rfl,w1];exact .inl ⟨d1,allT,Zog,hr⟩
  .simp only[Yk,Zf3];constructor
   .rintro⟨h,hp⟩;exact⟨⟨hv,hd,λ⟨t,ht,hc⟩=>h t ht hc⟩,hp⟩
   .rintro⟨h,hp⟩;exact⟨λt ht hc=>h.2.2 ⟨t,ht,hc⟩,hp⟩
open Classical in
theorem Zbg1(m:Zd)(hm:LeM m):Znp m=some (Bo (decide (Zcl m)),[]):=by
 have h5:Zbp (Zbw m 5 5) True:=.inl ⟨trivial,Zn9 (by rw[if_neg (by omega)])⟩;have h0:=l_rf1 m hm _ (l_rf1a m hm _ (l_rf1b m hm _ (l_rf1c m hm _ (l_rf1d m hm _ h5))));have hop:Zg6 m=some (.bsl 1 5,[.box (m.c.map .t),.box [.ptr 0 0,.ptr 0 6,.ptr 0 12,.ptr 0 18,.ptr 0 24]]):=Zbfg _ _ rfl;have hR:Zbp (Zno m) (Zcl m):=(h0.of λr hr=>Zbs1 _ _ ⟨hop,hr⟩).congr (by simp[Zcl]);refine Zbs2 _ _ ?_;rcases hR with⟨h,h1⟩|⟨h,n,hn,⟨xs,ys,h1⟩|h1|⟨xs,h1⟩⟩
 .rw[decide_eq_true h];exact .inr (.inl ⟨0,h1,rfl⟩)
 .rw[decide_eq_false h];exact .inl ⟨ys,n,xs,h1,by rw[decide_eq_false hn]⟩
 .rw[decide_eq_false h];exact .inr (.inl ⟨n,h1,by rw[decide_eq_false hn]⟩)
 .rw[decide_eq_false h];exact .inr (.inr ⟨n,xs,h1,by rw[decide_eq_false hn]⟩)
def popc(x:Int):Nat:=(if andI (shrI x 0) 1=1 then 1 else 0)+(if andI (shrI x 1) 1=1 then 1 else 0)+(if andI (shrI x 2) 1=1 then 1 else 0)+(if andI (shrI x 3) 1=1 then 1 else 0)
abbrev M16(x:Int):Prop:=0<=x/\x<16
theorem m16{x:Int}(h:M16 x):∃a:Fin 16,x=(a.1:Int):=⟨⟨x.toNat,by omega⟩,by simp;omega⟩
set_option maxRecDepth 100000 in
theorem f_or:∀a b:Fin 16,M16 (orI a.1 b.1)/\andI a.1 (orI a.1 b.1)=a.1/\(orI a.1 b.1=a.1\/popc a.1+1<=popc (orI a.1 b.1)):=by decide
set_option maxRecDepth 100000 in
theorem f_and:∀a b:Fin 16,M16 (andI a.1 b.1)/\andI (andI a.1 b.1) b.1=andI a.1 b.1/\(andI (a.1:Int) b.1=a.1->popc a.1<=popc b.1/\(popc b.1<=popc a.1->a.1=b.1)):=by decide
set_option maxRecDepth 1000000 in
theorem f_sub:∀a b c:Fin 16,andI (a.1:Int) c.1=a.1->andI (b.1:Int) c.1=b.1->andI (orI a.1 b.1) c.1=orI a.1 b.1:=by decide
set_option maxRecDepth 100000 in
theorem f_bit:∀(a:Fin 16) (i:Fin 4),(andI (shrI a.1 i.1) 1=0↔¬andI (shrI a.1 i.1) 1=1):=by decide
set_option maxRecDepth 100000 in
theorem f_shl:∀(i j:Fin 4),(andI (shrI (shlI 1 i.1) j.1) 1=1↔i=j)/\M16 (shlI 1 i.1):=by decide
set_option maxRecDepth 100000 in
theorem f_low:∀a:Fin 16,M16 (andI a.1 (w (0-a.1)))/\andI (andI a.1 (w (0-a.1))) a.1=andI a.1 (w (0-(a.1:Int))):=by decide
set_option maxRecDepth 100000 in
theorem f_pop:∀(a:Fin 16),(a.1<2->popc a.1<=1)/\(a.1<4->popc a.1<=2)/\(a.1<8->popc a.1<=3)/\popc a.1<=4:=by decide
theorem f_bits:∀a b c d:Bool,M16 (bit4 a b c d):=by decide
def Zdk(qa:List Atom)(m:Int):Nat->Bool:=λi=>decide (i<qa.length) && (!Zz m i && shr qa (shlI 1 i) m)
def Zgl(qa:List Atom)(m:Int):Int:=Zbf (Zdk qa m)
theorem nearM_16(qa:List Atom)(m:Int):M16 (Zgl qa m):=f_bits _ _ _ _
theorem Zbu1{i j:Nat}(hi:i<4)(hj:j<4):Zz (shlI 1 i) j=decide (i=j):=by
 have:=(f_shl ⟨i,hi⟩ ⟨j,hj⟩).1;simp only[Zz,Fin.mk.injEq]at this|-;rw[Ybh,decide_eq_true_eq,decide_eq_true_eq];exact this
theorem Zv9{m:Int}(hm:M16 m){i:Nat}(hi:i<4):andI (shrI m i) 1=0↔Zz m i=false:=by
 obtain⟨a,rfl⟩:=m16 hm;have:=f_bit a ⟨i,hi⟩;simp only at this;rw[this,Zz,decide_eq_false_iff_not]
theorem hasV_one(qa:List Atom)(h4:qa.length<=4){i:Nat}(hi:i<qa.length)(u:Int):∀k,k<=qa.length->hasV (shlI 1 i) (qa.drop k) k u=(decide (k<=i) && has qa[i].Vars u):=by
 refine down _ ?_ ?_
 .rw[Yba,hasV,decide_eq_false (by omega)];rfl
 .intro k hk ih;rw[Zx8 _ hk,ih,Zbu1 (by omega) (by omega)];by_cases e:i=k
  .subst e;rw[decide_eq_true rfl,decide_eq_true (Yf _),decide_eq_false (by omega)];simp
  .by_cases e2:k<=i
   .rw[decide_eq_false e,decide_eq_true (by omega),decide_eq_true e2];simp
   .rw[decide_eq_false e,decide_eq_false (by omega),decide_eq_false e2];simp
theorem pV_one(qa:List Atom)(h4:qa.length<=4){i:Nat}(hi:i<qa.length)(u:Nat):pV (shlI 1 i) qa u=has qa[i].Vars u:=by
 have:=hasV_one qa h4 hi u 0 (Ye _);simpa[pV]using this
theorem shr_one{n:Int}{qa:List Atom}(h:Zk n qa=true){i:Nat}(hi:i<qa.length)(m:Int):shr qa (shlI 1 i) m=qa[i].Vars.any (λv=>has (varL m qa n.toNat) v):=by
 have h4:=(Zcq h).2;rw[Ybh,shr,List.any_eq_true,List.any_eq_true];simp only[Zph h,pV_one qa h4 hi,Yc,Ybi];constructor
 .rintro⟨u,hu,h1,h2⟩;refine⟨(u:Int),Zis.1 h1,?_⟩;simp only[vin,Yc];exact⟨by simp[inR];omega,by simpa using h2⟩
 .rintro⟨v,hv,h2⟩;have h3:=Zkd h _ (Yh hi) v hv;simp[inR]at h3;simp only[vin,Yc]at h2;refine⟨v.toNat,by omega,?_,h2.2⟩;rw[Zis,Ycb h3.1];exact hv
theorem Zbg2{qa:List Atom}{m:Int}{i:Nat}(hi:i<4)(h:Zdk qa m i=true):addV (λu=>decide (u<i) && Zdk qa m u) [(i:Int)]=λu=>decide (u<i+1) && Zdk qa m u:=by
 funext u;simp only[addV,has];by_cases e:u=i
 .subst e;rw[decide_eq_true (by omega:u<u+1),h];simp
 .by_cases e2:u<i
  .rw[decide_eq_true e2,decide_eq_true (by omega)]
   have:¬((u:Int)=(i:Int)):=by omega
   simp[this]
  .rw[decide_eq_false e2,decide_eq_false (by omega)]
   have:¬((u:Int)=(i:Int)):=by omega
   simp[this]
theorem Zwa{qa:List Atom}{m:Int}{i:Nat}(h:Zdk qa m i=false):(λu=>decide (u<i) && Zdk qa m u)=λu=>decide (u<i+1) && Zdk qa m u:=by
 funext u;by_cases e:u=i
 .subst e;rw[h];simp
 .by_cases e2:u<i
  .rw[decide_eq_true e2,decide_eq_true (by omega)]
  .rw[decide_eq_false e2,decide_eq_false (by omega)]
theorem Zbg3(qa:List Atom)(m:Int):(λu=>decide (u<qa.length) && Zdk qa m u)=Zdk qa m:=by
 funext u;unfold Zdk;by_cases e:u<qa.length
 .rw[decide_eq_true e];simp
 .rw[decide_eq_false e];simp
theorem Zbu2(q:Zc)(hq:LeQ q)(hv:Zk q.Ze q.Atoms=true)(m:Int)(hm:M16 m):∀i,i<=q.Atoms.length->
  Zk9 (varL m q.Atoms q.Ze.toNat) m (Zbf λu=>decide (u<i) && Zdk q.Atoms m u) q.Atoms q.Atoms.length i=some (I (Zgl q.Atoms m),[]):=by
 have h4:=(Zcq hv).2;refine down _ ?_ ?_
 .refine Zbfd _ _ _ _ _ _ _ ?_;rw[if_neg (by omega),Zbg3];rfl
 .intro i hi ih;have hi4:i<4:=by omega
  have hinc:=Zw (i:=i) (by omega);simp only[Yn,Yo]at ih;refine Zbfd _ _ _ _ _ _ _ ?_;rw[if_pos (by omega)];refine⟨by omega,q.Atoms[i],by rw[Yd];exact Yb hi,by omega,?_⟩;rw[show w ((i:Int)+1)=(i:Int)+1 from hinc];have hn:Zdk q.Atoms m i=(!Zz m i && q.Atoms[i].Vars.any (λv=>has (varL m q.Atoms q.Ze.toNat) v)):=by
   unfold Zdk;rw[decide_eq_true hi,shr_one hv hi];simp
  have hvars:=Zkc hv _ (Yh hi);have hvl:=Zmd m q.Atoms q.Ze.toNat;have hvn:=Zfq hv;rcases tf (Zz m i)with e1|e1
  .rw[if_pos ((Zv9 hm hi4).2 e1)];refine⟨_,x_both q.Atoms[i].Vars (varL m q.Atoms q.Ze.toNat) (by omega) (by omega),?_⟩;rcases tf (q.Atoms[i].Vars.any (λv=>has (varL m q.Atoms q.Ze.toNat) v))with e2|e2
   .have e3:q.Atoms[i].Vars.filter (has (varL m q.Atoms q.Ze.toNat))=[]:=by
     rw[Ycu];intro a ha;have:=Ycv.1 e2 a ha;simpa using this
    rw[e3,if_neg (by simp),Zwa (by rw[hn,e2];simp)];exact ih
   .have e3:0<(q.Atoms[i].Vars.filter (has (varL m q.Atoms q.Ze.toNat))).length:=by
     obtain⟨v,hv1,hv2⟩:=List.any_eq_true.1 e2;exact List.length_pos_of_mem (Y2.2 ⟨hv1,hv2⟩)
    rw[if_pos (by omega),Ztx _ (by simp[inR];omega),Zbg2 hi4 (by rw[hn,e1,e2];rfl)];exact ih
  .rw[if_neg (λhc=>by rw[(Zv9 hm hi4).1 hc]at e1;cases e1),Zwa (by rw[hn,e1];rfl)];exact ih
theorem Zbg4(q:Zc)(hq:LeQ q)(hv:Zk q.Ze q.Atoms=true)(m:Int)(hm:M16 m):Zvc q m=some (I (Zgl q.Atoms m),[]):=by
 have b:=Zbu2 q hq hv m hm 0 (Ye _);refine Zbss _ _ _ ⟨_,Zsg q m hq hv,?_⟩;simpa[Zbf,bit4]using b
theorem l_near(q:Zc)(hq:LeQ q)(hv:Zk q.Ze q.Atoms=true)(m:Int)(hm:M16 m):∀i,i<=q.Atoms.length->
  Zko q m (Zbf λu=>decide (u<i) && Zdk q.Atoms m u) (Zbf (pV m q.Atoms)) i=some (I (Zgl q.Atoms m),[]):=by
 have h4:=(Zcq hv).2;refine down _ ?_ ?_
 .refine Zbd2 _ _ _ _ _ _ ?_;rw[if_neg (by omega),Zbg3];rfl
 .intro i hi ih;have hi4:i<4:=by omega
  have hinc:=Zw (i:=i) (by omega);simp only[Yn,Yo]at ih;refine Zbd2 _ _ _ _ _ _ ?_;rw[if_pos (by omega)];refine⟨by omega,?_⟩;rw[show w ((i:Int)+1)=(i:Int)+1 from hinc];have hn:Zdk q.Atoms m i=(!Zz m i && shr q.Atoms (shlI 1 i) m):=by
   unfold Zdk;rw[decide_eq_true hi];simp
  rcases tf (Zz m i)with e1|e1
  .rw[if_pos ((Zv9 hm hi4).2 e1)];refine⟨_,Zob q (shlI 1 i) hq (Zkd hv),?_⟩;rcases tf (shr q.Atoms (shlI 1 i) m)with e2|e2
   .rw[if_pos ((Zya q.Atoms (shlI 1 i) m).2 e2),Zwa (by rw[hn,e2];simp)];exact ih
   .rw[if_neg (λhc=>by rw[(Zya q.Atoms (shlI 1 i) m).1 hc]at e2;cases e2),Ztx _ (by simp[inR];omega),Zbg2 hi4 (by rw[hn,e1,e2];rfl)];exact ih
  .rw[if_neg (λhc=>by rw[(Zv9 hm hi4).1 hc]at e1;cases e1),Zwa (by rw[hn,e1];rfl)];exact ih
theorem x_near(q:Zc)(hq:LeQ q)(hv:Zk q.Ze q.Atoms=true)(m:Int)(hm:M16 m):Zt9 q m=some (I (Zgl q.Atoms m),[]):=by
 have b:=l_near q hq hv m hm 0 (Ye _);refine Zbqs _ _ _ ⟨_,Zob q m hq (Zkd hv),?_⟩;simpa[Zbf,bit4]using b
def Zf4(qa:List Atom)(c x:Int):Int:=orI x (andI (Zgl qa x) c)
def Zie(qa:List Atom)(c:Int):Nat->Int->Int
 |0,x=>x
 |n+1,x=>Zie qa c n (Zf4 qa c x)
def conn(qa:List Atom)(c:Int):Bool:=decide (Zie qa c qa.length (andI c (w (0-c)))=c)
abbrev SubM(x mask:Int):Prop:=andI x mask=x
theorem Z3k{qa:List Atom}{mask x:Int}(hm:M16 mask)(hx:M16 x)(hs:SubM x mask):M16 (Zf4 qa mask x)/\SubM (Zf4 qa mask x) mask/\(Zf4 qa mask x=x\/popc x+1<=popc (Zf4 qa mask x)):=by
 obtain⟨a,rfl⟩:=m16 hx;obtain⟨b,rfl⟩:=m16 hm;obtain⟨c,hc⟩:=m16 (nearM_16 qa (a.1:Int));unfold Zf4;rw[hc];obtain⟨d1,d2,_⟩:=f_and c b;obtain⟨d,hd⟩:=m16 d1;rw[hd]at d2|-;obtain⟨e1,_,e3⟩:=f_or a d;exact⟨e1,f_sub a d b hs d2,e3⟩
theorem Zbg5{qa:List Atom}{mask x:Int}(h:Zf4 qa mask x=x):∀n,Zie qa mask n x=x
 |0=>rfl
 |n+1=>by rw[Zie,h];exact Zbg5 h n
theorem Zbu3(q:Zc)(hq:LeQ q)(hv:Zk q.Ze q.Atoms=true)(mask:Int)(hm:M16 mask)(hp:popc mask<=q.Atoms.length):∀(f:Nat) (x:Int),M16 x->SubM x mask->q.Atoms.length<=popc x+f->
  Zq5 q mask x=some (Bo (decide (Zie q.Atoms mask f x=mask)),[]):=by
 intro f
 induction f with
 |zero =>
  intro x hx hs hf;have hxm:x=mask:=by
   obtain⟨a,rfl⟩:=m16 hx;obtain⟨b,rfl⟩:=m16 hm;have:=((f_and a b).2.2 hs).2 (by omega);omega
  obtain⟨s1,s2,s3⟩:=Z3k (qa:=q.Atoms) hm hx hs;have hfix:Zf4 q.Atoms mask x=x:=by
   rcases s3 with h|h
   .exact h
   .obtain⟨a,ha⟩:=m16 s1;obtain⟨b,rfl⟩:=m16 hm;rw[ha]at s2 h;have:=((f_and a b).2.2 s2).1;rw[hxm]at h;omega
  refine Zbfe _ _ _ _ ⟨_,Zbg4 q hq hv x hx,?_⟩
  rw[if_pos (show orI x (andI (Zgl q.Atoms x) mask)=x from hfix)];rfl
 |succ f ih =>
  intro x hx hs hf;obtain⟨s1,s2,s3⟩:=Z3k (qa:=q.Atoms) hm hx hs;refine Zbfe _ _ _ _ ⟨_,Zbg4 q hq hv x hx,?_⟩;by_cases h:Zf4 q.Atoms mask x=x
  .rw[if_pos (show orI x (andI (Zgl q.Atoms x) mask)=x from h),Zbg5 h]
  .rw[if_neg (show ¬orI x (andI (Zgl q.Atoms x) mask)=x from h)];exact ih (Zf4 q.Atoms mask x) s1 s2 (by rcases s3 with h'|h';exact absurd h' h;omega)
theorem l_joined(q:Zc)(hq:LeQ q)(hv:Zk q.Ze q.Atoms=true)(c:Int)(hm:M16 c):∀i,i<=q.Atoms.length->∀x,M16 x->SubM x c->
  Zp3 q c x i=some (Bo (decide (Zie q.Atoms c (q.Atoms.length-i) x=c)),[]):=by
 have h4:=(Zcq hv).2;refine down _ ?_ ?_
 .intro x _ _;refine Zbd3 _ _ _ _ _ ?_;rw[if_neg (by omega),Ycd];rfl
 .intro i hi ih x hx hs;obtain⟨s1,s2,s3⟩:=Z3k (qa:=q.Atoms) hm hx hs;have hinc:=Zw (i:=i) (by omega);refine Zbd3 _ _ _ _ _ ?_;rw[if_pos (by omega)];refine⟨_,x_near q hq hv x hx,?_⟩;have ih:=ih _ s1 s2;simp only[Yn,Yo]at ih;rw[show w ((i:Int)+1)=(i:Int)+1 from hinc,show q.Atoms.length-i=(q.Atoms.length-(i+1))+1 by omega,Zie];exact ih
abbrev MQ(qa:List Atom)(m:Int):Prop:=0<=m/\m<2 ^ qa.length
theorem MQ.m16{n:Int}{qa:List Atom}{m:Int}(hv:Zk n qa=true)(h:MQ qa m):M16 m/\popc m<=qa.length:=by
 have hl:=Zcq hv;obtain⟨h1,h2⟩:=h;have e:qa.length=1\/qa.length=2\/qa.length=3\/qa.length=4:=by omega
 have k16:M16 m:=by rcases e with e|e|e|e<;>rw[e]at h2<;>exact⟨h1,by omega⟩
 refine⟨k16,?_⟩;obtain⟨a,rfl⟩:=Go.Proofs.YtcfaekfjkeobhaaGreat.m16 k16;obtain⟨p1,p2,p3,p4⟩:=f_pop a;rcases e with e|e|e|e<;>rw[e]at h2|-
 .exact p1 (by omega)
 .exact p2 (by omega)
 .exact p3 (by omega)
 .exact p4
theorem Zwb(q:Zc)(hq:LeQ q)(hv:Zk q.Ze q.Atoms=true)(m:Int)(hm:MQ q.Atoms m)(h0:m≠0):Zh5 q m=some (Bo (conn q.Atoms m),[]):=by
 obtain⟨k1,k2⟩:=hm.m16 hv;refine Zbff _ _ _ ?_;rw[if_neg h0];obtain⟨a,rfl⟩:=m16 k1;obtain⟨l1,l2⟩:=f_low a;exact Zbu3 q hq hv _ k1 k2 q.Atoms.length _ l1 l2 (by omega)
theorem Zwc(q:Zc)(hq:LeQ q)(hv:Zk q.Ze q.Atoms=true)(m:Int)(hm:MQ q.Atoms m):Zhr q m=some (Bo (conn q.Atoms m),[]):=by
 obtain⟨k1,k2⟩:=hm.m16 hv;refine Zbqt _ _ _ ?_;obtain⟨a,rfl⟩:=m16 k1;obtain⟨l1,l2⟩:=f_low a;exact l_joined q hq hv _ k1 0 (Ye _) _ l1 l2
theorem Zgm{n:Int}{qa:List Atom}(hv:Zk n qa=true):Zu n qa=2 ^ qa.length-1:=by
 unfold Zu;rw[if_pos hv,(Zit hv).2.1]
theorem Zbg6(q:Zc)(hq:LeQ q)(m:Int):Zk8 q m=some (Bo (Zk q.Ze q.Atoms && inR m 0 (Zu q.Ze q.Atoms)),[]):=by
 refine Zbsq _ _ _ ⟨_,Zsd q hq,?_⟩;rcases tf (Zk q.Ze q.Atoms)with e|e
 .rw[e];simp
 .rw[e,if_pos rfl];refine⟨by omega,_,Zfb _ _ _,?_⟩;rw[show w (shlI 1 (q.Atoms.length:Int)-1)=shlI 1 (q.Atoms.length:Int)-1 from(Zit e).2.2.1];unfold Zu;rw[if_pos e];simp
theorem Zbg7(q:Zc)(hq:LeQ q)(m:Int):Zmr q m=some (Bo (Zk q.Ze q.Atoms && inR m 0 (Zu q.Ze q.Atoms)),[]):=by
 refine Zbqq _ _ _ ⟨_,Zf0 q hq,?_⟩;rcases tf (Zk q.Ze q.Atoms)with e|e
 .rw[e];simp
 .rw[e,if_pos rfl];refine⟨by omega,_,Zfz _ _ _,?_⟩;rw[show w (shlI 1 (q.Atoms.length:Int)-1)=shlI 1 (q.Atoms.length:Int)-1 from(Zit e).2.2.1];unfold Zu;rw[if_pos e];simp
theorem Zwd{n:Int}{qa:List Atom}(hv:Zk n qa=true){m:Int}(h:inR m 0 (Zu n qa)=true):MQ qa m:=by
 rw[Zgm hv]at h;simp[inR]at h;exact⟨h.1,by omega⟩
def Zb2(n:Int)(qa:List Atom)(m:Int):Bool:=Zk n qa && inR m 0 (Zu n qa) && decide (m≠0) && conn qa m
theorem Zbg8(q:Zc)(hq:LeQ q)(m:Int):Zla q m=some (Bo (Zb2 q.Ze q.Atoms m),[]):=by
 refine Zbst _ _ _ ⟨_,Zbg6 q hq m,?_⟩;unfold Zb2;rcases tf (Zk q.Ze q.Atoms)with e|e
 .rw[e];simp
 rcases tf (inR m 0 (Zu q.Ze q.Atoms))with e1|e1
 .rw[e,e1];simp
 rw[e,e1,if_pos (by rfl)];have hm:=Zwd e e1;by_cases h0:m=0
 .refine⟨false,Zbff _ _ _ (by rw[if_pos h0]),?_⟩;simp[h0]
 .exact⟨_,Zwb q hq e m hm h0,by simp[h0]⟩
theorem Zhe(q:Zc)(hq:LeQ q)(m:Int):Zft q m=some (Bo (Zb2 q.Ze q.Atoms m),[]):=by
 refine Zbqu _ _ _ ⟨_,Zbg7 q hq m,?_⟩;unfold Zb2;rcases tf (Zk q.Ze q.Atoms)with e|e
 .rw[e];simp
 rcases tf (inR m 0 (Zu q.Ze q.Atoms))with e1|e1
 .rw[e,e1];simp
 rw[e,e1,if_pos (by rfl)];have hm:=Zwd e e1;by_cases h0:m=0
 .rw[if_neg (by omega)];simp[h0]
 .rw[if_pos (by have:=hm.1;omega)];exact⟨_,Zwc q hq e m hm,by simp[h0]⟩
def Zf5(qa:List Atom)(k n:Nat):List Int:=((List.range' k n).filter (λm:Nat=>conn qa (m:Int))).map (λm:Nat=>(m:Int))
theorem Zbg9{qa:List Atom}{k n:Nat}:Zf5 qa k (n+1)=(if conn qa (k:Int)=true then[(k:Int)]else[])++Zf5 qa (k+1) n:=by
 unfold Zf5;rw[Ycx,Yck];split<;>simp
theorem Zbu4{qa:List Atom}{k n:Nat}:(Zf5 qa k n).length<=n:=by
 unfold Zf5;rw[Ybw];exact Yu (Ybr _ _) (by simp)
theorem Zgn(k:Nat):((2 ^ k:Nat):Int)=2 ^ k:=by simp
theorem Zbu5(q:Zc)(hq:LeQ q)(hv:Zk q.Ze q.Atoms=true):∀k:Nat,k<=2 ^ q.Atoms.length->1<=k->∀out:List Int,out.length<=k->
  Znt q out k=some (.own 0,[.arr Z1 1 true ((out++Zf5 q.Atoms k (2 ^ q.Atoms.length-k)).map ic)]):=by
 have hf:=Zgm hv;have hp:=Zgn q.Atoms.length;have h16:2 ^ q.Atoms.length<=16:=Nat.pow_le_pow_right (by omega:0<2) (Zcq hv).2;refine down _ ?_ ?_
 .intro _ out _;refine Zbfx _ _ _ _ ⟨_,Zjp q hq,?_⟩;rw[if_neg (by rw[hf];omega),Ycd];simp[Zf5]
 .intro k hk ih h1 out ho;have wk':w ((k:Int)+1)=(k:Int)+1:=Z4 (by omega) (by omega);refine Zbfx _ _ _ _ ⟨_,Zjp q hq,?_⟩;rw[if_pos (by rw[hf];omega)];refine⟨_,Zwb q hq hv k ⟨by omega,by omega⟩ (by omega),?_⟩;rw[show 2 ^ q.Atoms.length-k=(2 ^ q.Atoms.length-(k+1))+1 by omega,Zbg9,wk'];rcases tf (conn q.Atoms k)with e|e
  .have ih:=ih (by omega) out (by omega);rw[e,if_neg (by simp)];simpa using ih
  .have ih:=ih (by omega) (out++[(k:Int)]) (by simp;omega);rw[e,if_pos rfl];refine⟨by omega,?_⟩;simpa using ih
def Zn(qa:List Atom):List Int:=Zf5 qa 1 (2 ^ qa.length-1)
theorem Zbu6(q:Zc)(hq:LeQ q)(hv:Zk q.Ze q.Atoms=true):Zre q=some (.own 0,[.arr Z1 1 true ((Zn q.Atoms).map ic)]):=by
 have hpos:1<=2 ^ q.Atoms.length:=Nat.one_le_two_pow;have b:=Zbu5 q hq hv 1 hpos (Yf _) [] (by simp);exact Zbs8 _ _ (by simpa[Zn]using b)
theorem Zbu7(q:Zc)(hq:LeQ q)(hv:Zk q.Ze q.Atoms=true):∀k:Nat,k<=2 ^ q.Atoms.length->1<=k->∀out:List Int,out.length<=k->
  Zm9 q out (Zu q.Ze q.Atoms) k=some (.own 0,[.arr Z1 1 true ((out++Zf5 q.Atoms k (2 ^ q.Atoms.length-k)).map ic)]):=by
 have hf:=Zgm hv;have hp:=Zgn q.Atoms.length;have h16:2 ^ q.Atoms.length<=16:=Nat.pow_le_pow_right (by omega:0<2) (Zcq hv).2;refine down _ ?_ ?_
 .intro _ out _;refine Zbeo _ _ _ _ _ ?_;rw[if_neg (by rw[hf];omega),Ycd];simp[Zf5]
 .intro k hk ih h1 out ho;have wk':w ((k:Int)+1)=(k:Int)+1:=Z4 (by omega) (by omega);refine Zbeo _ _ _ _ _ ?_;rw[if_pos (by rw[hf];omega)];refine⟨_,Zwc q hq hv k ⟨by omega,by omega⟩,?_⟩;rw[show 2 ^ q.Atoms.length-k=(2 ^ q.Atoms.length-(k+1))+1 by omega,Zbg9,wk'];rcases tf (conn q.Atoms k)with e|e
  .have ih:=ih (by omega) out (by omega);rw[e,if_neg (by simp)];simpa using ih
  .have ih:=ih (by omega) (out++[(k:Int)]) (by simp;omega);rw[e,if_pos rfl];refine⟨by omega,?_⟩;simpa using ih
theorem Zbu8(q:Zc)(hq:LeQ q)(hv:Zk q.Ze q.Atoms=true):Zum q=some (.own 0,[.arr Z1 1 true ((Zn q.Atoms).map ic)]):=by
 have hpos:1<=2 ^ q.Atoms.length:=Nat.one_le_two_pow;have b:=Zbu7 q hq hv 1 hpos (Yf _) [] (by simp);exact Zbrl _ _ ⟨_,Zcs q hq,by simpa[Zn]using b⟩
set_option maxRecDepth 100000 in
theorem f_diff:∀a m:Fin 16,andI (a.1:Int) m.1=a.1->Zgy (m.1:Int) a.1=(m.1:Int)-a.1/\(a.1:Int)<=m.1/\andI (a.1:Int) ((m.1:Int)-a.1)=0/\orI (a.1:Int) ((m.1:Int)-a.1)=m.1:=by decide
def Zc4(qa:List Atom)(c x:Int):Bool:=decide (andI x c=x) && (conn qa x && conn qa (c-x))
def Zfd(qa:List Atom)(c:Int)(k n:Nat):List Int:=((List.range' k n).filter (λm:Nat=>Zc4 qa c (m:Int))).map (λm:Nat=>(m:Int))
theorem Zbha{qa:List Atom}{mask:Int}{k n:Nat}:Zfd qa mask k (n+1)=(if Zc4 qa mask (k:Int)=true then[(k:Int)]else[])++Zfd qa mask (k+1) n:=by
 unfold Zfd;rw[Ycx,Yck];split<;>simp
def Zv(qa:List Atom)(c:Int):List Int:=Zfd qa c 1 (c.toNat-1)
theorem Zbu9(q:Zc)(hq:LeQ q)(hv:Zk q.Ze q.Atoms=true)(c:Nat)(hm:MQ q.Atoms c):∀k:Nat,k<=c->1<=k->∀out:List Int,out.length<=k->
  Zh9 q out c k=some (.own 0,[.arr Z1 1 true ((out++Zfd q.Atoms c k (c-k)).map ic)]):=by
 have m16':=(hm.m16 hv).1;refine down _ ?_ ?_
 .intro _ out _;refine Zbf0 _ _ _ _ _ ?_;rw[if_neg (by omega),Ycd];simp[Zfd]
 .intro k hk ih h1 out ho;have wk':w ((k:Int)+1)=(k:Int)+1:=Z4 (by omega) (by omega);refine Zbf0 _ _ _ _ _ ?_;rw[if_pos (by omega),show c-k=(c-(k+1))+1 by omega,Zbha,wk'];have skip:Zc4 q.Atoms c k=false->Zh9 q out c ((k:Int)+1)=some (.own 0,[.arr Z1 1 true ((out++((if Zc4 q.Atoms c (k:Int)=true then[(k:Int)]else[])++Zfd q.Atoms c (k+1) (c-(k+1)))).map ic)]):=by
   intro e;have ih:=ih (by omega) out (by omega);rw[e];simpa using ih
  by_cases e1:andI (k:Int) c=k
  .obtain⟨d1,d2,_⟩:=f_diff ⟨k,by omega⟩ ⟨c,by omega⟩ e1;simp only at d1 d2;rw[if_pos e1];refine⟨_,Zwb q hq hv k ⟨by omega,by have:=hm.2;omega⟩ (by omega),?_⟩;rcases tf (conn q.Atoms k)with e2|e2
   .rw[e2,if_neg (by simp)];exact skip (by simp[Zc4,e2])
   .rw[e2,if_pos rfl,d1];refine⟨_,Zwb q hq hv ((c:Int)-k) ⟨by omega,by have:=hm.2;omega⟩ (by omega),?_⟩;rcases tf (conn q.Atoms ((c:Int)-k))with e3|e3
    .rw[e3,if_neg (by simp)];exact skip (by simp[Zc4,e3])
    .rw[e3,if_pos rfl];have es:Zc4 q.Atoms c k=true:=by simp[Zc4,e1,e2,e3]
     rw[es,if_pos rfl];have ih:=ih (by omega) (out++[(k:Int)]) (by simp;omega);exact⟨by omega,by simpa using ih⟩
  .rw[if_neg e1];exact skip (by simp[Zc4,e1])
theorem Z3l(q:Zc)(hq:LeQ q)(m:Int)(hc:Zb2 q.Ze q.Atoms m=true):Zfw q m=some (.own 0,[.arr Z1 1 true ((Zv q.Atoms m).map ic)]):=by
 have hc':=hc;simp only[Zb2,Yc,decide_eq_true_eq]at hc';obtain⟨⟨⟨hv,hr⟩,h0⟩,_⟩:=hc';have hm:=Zwd hv hr;obtain⟨k,rfl⟩:∃k:Nat,m=k:=⟨m.toNat,by have:=hm.1;omega⟩;refine Zbte _ _ _ ⟨_,Zbg8 q hq k,?_⟩;rw[hc,if_pos rfl];have b:=Zbu9 q hq hv k hm 1 (by omega) (Yf _) [] (by simp);simpa[Zv]using b
theorem Zbva(q:Zc)(hq:LeQ q)(hv:Zk q.Ze q.Atoms=true)(c:Nat)(hm:MQ q.Atoms c):∀k:Nat,k<=c->1<=k->∀out:List Int,out.length<=k->
  Zht q out c k=some (.own 0,[.arr Z1 1 true ((out++Zfd q.Atoms c k (c-k)).map ic)]):=by
 have m16':=(hm.m16 hv).1;refine down _ ?_ ?_
 .intro _ out _;refine Zbd5 _ _ _ _ _ ?_;rw[if_neg (by omega),Ycd];simp[Zfd]
 .intro k hk ih h1 out ho;have wk':w ((k:Int)+1)=(k:Int)+1:=Z4 (by omega) (by omega);have wd:w ((c:Int)-k)=(c:Int)-k:=Z4 (by omega) (by omega);refine Zbd5 _ _ _ _ _ ?_;rw[if_pos (by omega),show c-k=(c-(k+1))+1 by omega,Zbha,wk',wd];have skip:Zc4 q.Atoms c k=false->Zht q out c ((k:Int)+1)=some (.own 0,[.arr Z1 1 true ((out++((if Zc4 q.Atoms c (k:Int)=true then[(k:Int)]else[])++Zfd q.Atoms c (k+1) (c-(k+1)))).map ic)]):=by
   intro e;have ih:=ih (by omega) out (by omega);rw[e];simpa using ih
  by_cases e1:andI (k:Int) c=k
  .rw[if_pos e1];refine⟨_,Zwc q hq hv k ⟨by omega,by have:=hm.2;omega⟩,?_⟩;rcases tf (conn q.Atoms k)with e2|e2
   .rw[e2,if_neg (by simp)];exact skip (by simp[Zc4,e2])
   .rw[e2,if_pos rfl];refine⟨_,Zwc q hq hv ((c:Int)-k) ⟨by omega,by have:=hm.2;omega⟩,?_⟩;rcases tf (conn q.Atoms ((c:Int)-k))with e3|e3
    .rw[e3,if_neg (by simp)];exact skip (by simp[Zc4,e3])
    .rw[e3,if_pos rfl];have es:Zc4 q.Atoms c k=true:=by simp[Zc4,e1,e2,e3]
     rw[es,if_pos rfl];have ih:=ih (by omega) (out++[(k:Int)]) (by simp;omega);exact⟨by omega,by simpa using ih⟩
  .rw[if_neg e1];exact skip (by simp[Zc4,e1])
theorem Z3m(q:Zc)(hq:LeQ q)(m:Int)(hc:Zb2 q.Ze q.Atoms m=true):Zhs q m=some (.own 0,[.arr Z1 1 true ((Zv q.Atoms m).map ic)]):=by
 have hc':=hc;simp only[Zb2,Yc,decide_eq_true_eq]at hc';obtain⟨⟨⟨hv,hr⟩,h0⟩,_⟩:=hc';have hm:=Zwd hv hr;obtain⟨k,rfl⟩:∃k:Nat,m=k:=⟨m.toNat,by have:=hm.1;omega⟩;refine Zbd6 _ _ _ ⟨_,Zhe q hq k,?_⟩;rw[hc,if_pos rfl];have b:=Zbva q hq hv k hm 1 (by omega) (Yf _) [] (by simp);simpa[Zv]using b
def Zjq(m:Int)(k n:Nat):List Int:=((List.range' k n).filter (λi:Nat=>Zz m i)).map (λi:Nat=>(i:Int))
theorem Zbhb{m:Int}{k n:Nat}:Zjq m k (n+1)=(if Zz m k=true then[(k:Int)]else[])++Zjq m (k+1) n:=by
 unfold Zjq;rw[Ycx,Yck];split<;>simp
def Zdt(m:Int):List Int:=Zjq m 0 4
theorem Zbvb(m:Int):∀k:Nat,k<=4->∀out:List Int,out.length<=k->Znv out m k=some (.own 0,[.arr Z1 1 true ((out++Zjq m k (4-k)).map ic)]):=by
 refine down _ ?_ ?_
 .intro out _;refine Zbfy _ _ _ _ ?_;rw[if_neg (by omega)];simp[Zjq]
 .intro k hk ih out ho;have wk':w ((k:Int)+1)=(k:Int)+1:=Z4 (by omega) (by omega);refine Zbfy _ _ _ _ ?_;rw[if_pos (by omega),show 4-k=(4-(k+1))+1 by omega,Zbhb,wk'];refine⟨by omega,?_⟩;by_cases e:andI (shrI m k) 1=1
  .have ih:=ih (out++[(k:Int)]) (by simp;omega);rw[if_pos e,if_pos (by simp[Zz,e])];exact⟨by omega,by simpa using ih⟩
  .have ih:=ih out (by omega);rw[if_neg e,if_neg (by simp[Zz,e])];simpa using ih
theorem Zbvc{m:Int}(hm:M16 m):Znu m=some (.own 0,[.arr Z1 1 true ((Zdt m).map ic)]):=by
 have b:=Zbvb m 0 (by omega) [] (by simp);refine Zbs9 _ _ ⟨_,Zfb _ _ _,?_⟩;rw[if_pos (by simp[inR];omega)];simpa[Zdt]using b
theorem Zbvd(m:Int)(hm:M16 m):∀k:Nat,k<=4->∀out:List Int,out.length<=k->Zmt out m k=some (.own 0,[.arr Z1 1 true ((out++Zjq m k (4-k)).map ic)]):=by
 refine down _ ?_ ?_
 .intro out _;refine Zbd7 _ _ _ _ ?_;rw[if_neg (by omega)];simp[Zjq]
 .intro k hk ih out ho;have wk':w ((k:Int)+1)=(k:Int)+1:=Z4 (by omega) (by omega);refine Zbd7 _ _ _ _ ?_;rw[if_pos (by omega),show 4-k=(4-(k+1))+1 by omega,Zbhb,wk'];refine⟨_,Zfz _ _ _,?_⟩;rw[if_pos (by simp[inR];omega)];refine⟨by omega,?_⟩;by_cases e:andI (shrI m k) 1=1
  .have ih:=ih (out++[(k:Int)]) (by simp;omega);rw[if_pos e,if_pos (by simp[Zz,e])];exact⟨by omega,by simpa using ih⟩
  .have ih:=ih out (by omega);rw[if_neg e,if_neg (by simp[Zz,e])];simpa using ih
theorem Z3n{m:Int}(hm:M16 m):Zkp m=some (.own 0,[.arr Z1 1 true ((Zdt m).map ic)]):=by
 have b:=Zbvd m hm 0 (by omega) [] (by simp);exact Zbqy _ _ (by simpa[Zdt]using b)
structure Zlq (n:Nat) (x:Zb) (y:Zf):Prop where
 kind:1<=x.Kind/\x.Kind<=5
 refs:(y.Left=-1/\y.Right=-1)\/((0<=y.Left/\y.Left.toNat<n)/\(y.Right=-1\/(0<=y.Right/\y.Right.toNat<n)))
theorem Zlq.mono{n k:Nat}{x:Zb}{y:Zf}(h:Zlq n x y)(hk:n<=k):Zlq k x y:=by
 refine⟨h.kind,h.refs.imp id λ⟨⟨a,b⟩,c⟩=>⟨⟨a,by omega⟩,c.imp id λ⟨d,e⟩=>⟨d,by omega⟩⟩⟩
theorem Zbhc{qa:List Atom}{x:Zb}{info:List Zf}{st:List Int}{y:Zf}(hs:StOk info st)(h:Zdr qa x info st=some y):Zlq info.length x y:=by
 unfold Zdr at h;split at h
 .rename_i k1;split at h
  .cases h;exact⟨by omega,.inl ⟨rfl,rfl⟩⟩
  .cases h
 .rename_i k1;split at h
  .cases h
  .split at h
   .rename_i k2;split at h
    .rename_i s y' ht;split at h
     .cases h;obtain⟨_,t2,t3,_⟩:=Zhn hs (Yf 1) ht;exact⟨by omega,.inr ⟨⟨t2,t3⟩,.inl rfl⟩⟩
     .cases h
    .cases h
   .rename_i k2;split at h
    .rename_i s y' t z ht hu;split at h
     .obtain⟨_,t2,t3,_⟩:=Zhn hs (by omega:1<=2) ht;obtain⟨_,u2,u3,_⟩:=Zhn hs (by omega:1<=1) hu;obtain⟨o,ho,rfl⟩:=Yi.1 h;have hk:x.Kind=3\/x.Kind=4\/x.Kind=5:=by
       unfold Zc1 at ho;split at ho
       .omega
       .split at ho
        .omega
        .split at ho
         .omega
         .cases ho
      exact⟨by omega,.inr ⟨⟨t2,t3⟩,.inr ⟨u2,u3⟩⟩⟩
     .cases h
    .cases h
theorem Zbhd{qa:List Atom}:∀{xs:List Zb} {i:Nat} {info:List Zf} {st:List Int} {c:List Zf} {cc:List Int},Zcg qa xs i info st=some (c,cc)->
  StOk info st->info.length=i->∃tail,c=info++tail/\tail.length=xs.length/\∀(j:Nat) (y:Zf) (x:Zb),tail[j]?=some y->xs[j]?=some x->Zlq (i+j) x y
 |[],i,info,st,c,cc,h,hs,hi=>by
  simp[Zcg]at h;obtain⟨rfl,rfl⟩:=h
  exact⟨[],by simp,rfl,by intro j y x hj;simp at hj⟩
 |x::xs,i,info,st,c,cc,h,hs,hi=>by
  rw[Zcg]at h;split at h
  .cases h
  .rename_i y hy;have hn:=Zpi hs y (st.length-pops y);rw[hi]at hn;obtain⟨tail,g2,g3,g4⟩:=Zbhd h hn (by simp[hi]);refine⟨y::tail,by simp[g2],by simp[g3],?_⟩;intro j y' x' hj hx
   cases j with
   |zero=>simp at hj hx;subst hj;subst hx;have:=Zbhc hs hy;rw[hi]at this;exact this
   |succ j=>exact(g4 j y' x' (by simpa using hj) (by simpa using hx)).mono (by omega)
theorem Zbhe{n:Int}{qa:List Atom}{steps:List Zb}{info:List Zf}(h:Zb4 n qa steps=some info):∀(j:Nat) (y:Zf) (x:Zb),info[j]?=some y->steps[j]?=some x->Zlq j x y:=by
 unfold Zb4 at h;split at h
 .split at h
  .rename_i info' st hg;split at h
   .cases h;obtain⟨tail,g2,g3,g4⟩:=Zbhd hg (λs hs=>by cases hs) rfl;simp at g2;subst g2;intro j y x a b;have:=g4 j y x a b;simpa using this
   .cases h
  .cases h
 .cases h
def Zjr(xs:List Int):Bool:=xs.all (λx=>inR x 0 4096)
def Zb6(n:Int)(qa:List Atom)(xs:List Int):Bool:=Zk n qa && decide ((xs.length:Int)=Zu n qa+1) && Zjr xs
theorem Zbve(q:Zc)(hq:LeQ q)(xs:List Int)(hx:Le xs):∀i,i<=xs.length->Zq8 q xs xs xs.length i=some (Bo (Zjr (xs.drop i) && (Zk q.Ze q.Atoms && decide ((xs.length:Int)=Zu q.Ze q.Atoms+1))),[]):=by
 refine down _ ?_ ?_
 .refine Zbfu _ _ _ _ _ _ ?_;rw[if_neg (by omega)];refine⟨_,Zsd q hq,?_⟩;rcases tf (Zk q.Ze q.Atoms)with e|e
  .rw[e];simp
  .rw[e,if_pos rfl];refine⟨_,Zjp q hq,?_⟩;rw[show w (Zu q.Ze q.Atoms+1)=Zu q.Ze q.Atoms+1 from Ztz _ _];simp[Zjr]
 .intro i hi ih;have h4:=Zw (i:=i) (by omega);refine Zbfu _ _ _ _ _ _ ?_;rw[if_pos (by omega)];refine⟨by omega,xs[i],by rw[Yd];exact Yb hi,_,Zfb _ _ _,?_⟩;unfold Zjr at ih|-;rw[Zpg _ hi];simp only[Yn,Yo]at ih;rcases tf (inR xs[i] 0 4096)with e|e
  .rw[e];simp
  .rw[e,if_pos rfl,show w ((i:Int)+1)=(i:Int)+1 from h4,ih];simp
theorem Zbhf(q:Zc)(hq:LeQ q)(xs:List Int)(hx:Le xs):Zlg q xs=some (Bo (Zb6 q.Ze q.Atoms xs),[]):=by
 have b:=Zbve q hq xs hx 0 (Ye _);refine Zbs4 _ _ _ (Ya b ?_);rw[Yk,Zb6,Bool.and_comm]
theorem Zbvf(xs:List Int)(hx:Le xs):∀i,i<=xs.length->Zm8 xs i=some (Bo (Zjr (xs.drop i)),[]):=by
 refine down _ ?_ ?_
 .refine Zben _ _ _ ?_;rw[if_neg (by omega)];simp[Zjr]
 .intro i hi ih;have h4:=Zw (i:=i) (by omega);refine Zben _ _ _ ?_;rw[if_pos (by omega)];refine⟨by omega,xs[i],by rw[Yd];exact Yb hi,_,Zfz _ _ _,?_⟩;unfold Zjr at ih|-;rw[Zpg _ hi];simp only[Yn,Yo]at ih;rcases tf (inR xs[i] 0 4096)with e|e
  .rw[e];simp
  .rw[e,if_pos rfl,show w ((i:Int)+1)=(i:Int)+1 from h4,ih];simp
theorem Z3o(q:Zc)(hq:LeQ q)(xs:List Int)(hx:Le xs):Zkx q xs=some (Bo (Zb6 q.Ze q.Atoms xs),[]):=by
 have b:=Zbvf xs hx 0 (Ye _);refine Zbrk _ _ _ ⟨_,Zf0 q hq,?_⟩;unfold Zb6;rcases tf (Zk q.Ze q.Atoms)with e|e
 .rw[e];simp
 rw[e,if_pos rfl];refine⟨_,Zcs q hq,?_⟩;rw[show w (Zu q.Ze q.Atoms+1)=Zu q.Ze q.Atoms+1 from Ztz _ _];by_cases e2:(xs.length:Int)=Zu q.Ze q.Atoms+1
 .rw[if_pos e2,decide_eq_true e2];refine Ya b ?_;simp
 .rw[if_neg e2,decide_eq_false e2];simp
def szAt(sizes:List Int)(m:Int):Int:=(sizes[m.toNat]?).getD 0
def Zdl(info:List Zf)(i:Int):Int:=match info[i.toNat]? with|some y=>y.Mask|none=>0
def Zcx(m:Zd)(info:List Zf)(sizes:List Int)(x:Zb)(y:Zf):Int :=
 Zbb (mOp m x.Kind) (if y.Left<0 then szAt sizes y.Mask else szAt sizes (Zdl info y.Left)) (if y.Right<0 then 0 else szAt sizes (Zdl info y.Right)) (szAt sizes y.Mask)
def Zb7(m:Zd)(info:List Zf)(sizes:List Int):List Zb->List Zf->List Int
 |x::xs,y::ys=>Zcx m info sizes x y::Zb7 m info sizes xs ys
 |_,_=>[]
theorem Zbhg(m:Zd)(info:List Zf)(sizes:List Int){xs:List Zb}{ys:List Zf}{i:Nat}(hx:i<xs.length)(hy:i<ys.length) :
  Zb7 m info sizes (xs.drop i) (ys.drop i)=Zcx m info sizes xs[i] ys[i]::Zb7 m info sizes (xs.drop (i+1)) (ys.drop (i+1)):=by
 rw[Yj hx,Yj hy,Zb7]
theorem Zoj{qa:List Atom}{n:Int}{sizes:List Int}(hs:Zb6 n qa sizes=true){y:Zf}(hm:Zkf qa.length y):sizes[y.Mask.toNat]?=some (szAt sizes y.Mask):=by
 simp only[Zb6,Yc,decide_eq_true_eq]at hs;have hf:=Zgm hs.1.1;have hlt:y.Mask.toNat<sizes.length:=by have:=hm.1;have:=hm.2;omega
 simp[szAt,Yb hlt]
theorem Zwe{info:List Zf}{i:Int}{n:Nat}(h:0<=i/\i.toNat<n)(hn:n<=info.length):∃y,info[i.toNat]?=some y/\y∈info/\Zdl info i=y.Mask:=by
 have hlt:i.toNat<info.length:=by omega
 exact⟨info[i.toNat],Yb hlt,Yh hlt,by simp[Zdl,Yb hlt]⟩
theorem Zbvg{m:Zd}(hm:LeM m){n:Int}{qa:List Atom}{steps:List Zb}{info:List Zf}{sizes:List Int}(hi:Zb4 n qa steps=some info)(hs:Zb6 n qa sizes=true){i:Nat}(h:i<info.length)(h':i<steps.length) :
  Zqs m steps[i].Kind info i sizes=some (I (Zcx m info sizes steps[i] info[i]),[]):=by
 obtain⟨p1,_⟩:=Z7u hi;have ok:=Zbhe hi i info[i] steps[i] (Yb h) (Yb h');have s0:=Zoj hs (p1 _ (Yh h));have hm0:=(p1 _ (Yh h)).1;refine Zbr1 _ _ _ _ _ _ ⟨by omega,info[i],by rw[Yd];exact Yb h,_,Zoi m _,?_⟩;have hl:=hm.op steps[i].Kind;unfold Zcx;rcases ok.refs with⟨a,b⟩|⟨a,b⟩
 .have c1:info[i].Left<0:=by omega
  have c2:info[i].Right<0:=by omega
  simp only[if_pos c1,if_pos c2];exact⟨hm0,_,s0,_,Zgk _ hl _ _ _,rfl⟩
 .obtain⟨y1,y2,y3,y4⟩:=Zwe a (by omega:i<=info.length);have s1:=Zoj hs (p1 _ y3);have hm1:=(p1 _ y3).1;have c1:¬info[i].Left<0:=by omega
  simp only[if_neg c1,y4];rcases b with b|b
  .have c2:info[i].Right<0:=by omega
   simp only[if_pos c2];exact⟨a.1,y1,y2,hm1,_,s1,hm0,_,s0,_,Zgk _ hl _ _ _,rfl⟩
  .obtain⟨z1,z2,z3,z4⟩:=Zwe b (by omega:i<=info.length);have s2:=Zoj hs (p1 _ z3);have hm2:=(p1 _ z3).1;have c2:¬info[i].Right<0:=by omega
   simp only[if_neg c2,z4];exact⟨a.1,y1,y2,hm1,_,s1,b.1,z1,z2,hm2,_,s2,hm0,_,s0,_,Zgk _ hl _ _ _,rfl⟩
theorem Zbvh{m:Zd}(hm:LeM m){n:Int}{qa:List Atom}{p:Plan}{info:List Zf}{sizes:List Int}(hi:Zb4 n qa p.Steps=some info)(hs:Zb6 n qa sizes=true):∀i,i<=info.length->∀out:List Int,out.length=i->
  Zqt m p out info sizes i=some (.own 0,[.arr Z1 1 true ((out++Zb7 m info sizes (p.Steps.drop i) (info.drop i)).map ic)]):=by
 obtain⟨l1,l2,l3,l4⟩:=Zho hi;refine down _ ?_ ?_
 .intro out _;refine Zbez _ _ _ _ _ _ _ ?_;rw[if_neg (by omega),Yba];cases p.Steps.drop info.length<;>simp[Zb7]
 .intro i h ih out ho;have h4:=Zw (i:=i) (by omega);have h':i<p.Steps.length:=by omega
  refine Zbez _ _ _ _ _ _ _ ?_;rw[if_pos (by omega)];refine⟨by omega,p.Steps[i],by rw[Yd];exact Yb h',_,Zbvg hm hi hs h h',by omega,?_⟩;have ih:=ih (out++[Zcx m info sizes p.Steps[i] info[i]]) (by simp[ho]);rw[Zbhg m info sizes h' h,show w ((i:Int)+1)=(i:Int)+1 from h4];simpa using ih
def Zfe(m:Zd)(n:Int)(qa:List Atom)(steps:List Zb)(sizes:List Int):List Int:=match Zb4 n qa steps with
 |some info=>if Zb6 n qa sizes=true then Zb7 m info sizes steps info else[]
 |none=>[]
theorem Zbvi(m:Zd)(hm:LeM m)(q:Zc)(hq:LeQ q)(p:Plan)(sizes:List Int)(hs:Le sizes):Zuv m q p sizes=some (.own 0,[.arr Z1 1 true ((Zfe m q.Ze q.Atoms p.Steps sizes).map ic)]):=by
 have q1:=Z3h q p hq;refine Zbr2 _ _ _ _ _ ?_;unfold Zfe
 cases hi:Zb4 q.Ze q.Atoms p.Steps with
 |none=>rw[hi]at q1;exact⟨[],false,q1,by rw[if_neg (by simp)]⟩
 |some info =>
  rw[hi]at q1;refine⟨info,true,q1,?_⟩;rw[if_pos rfl];refine⟨_,Z3o q hq sizes hs,?_⟩;simp only;rcases tf (Zb6 q.Ze q.Atoms sizes)with e|e
  .rw[e,if_neg (by simp),if_neg (by simp)]
  .rw[e,if_pos rfl,if_pos rfl];have b:=Zbvh hm hi e 0 (Ye _) [] rfl;simpa using b
end Go.Proofs.YtcfaekfjkeobhaaGreat
