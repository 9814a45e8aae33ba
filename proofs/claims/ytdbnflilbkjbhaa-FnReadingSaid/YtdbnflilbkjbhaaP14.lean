/-
  Parts of the proofs for this seat: V1 V2 V3 V4 V5 V6 OP.
-/
import Derived.Test.YtdbnflilbkjbhaaP7
import Derived.Test.YtdbnflilbkjbhaaP10
import Derived.Test.YtdbnflilbkjbhaaP11
import Derived.Test.YtdbnflilbkjbhaaP12
import Derived.Test.YtdbnflilbkjbhaaP13
set_option linter.unusedSectionVars false
set_option linter.unusedSimpArgs false
set_option linter.unusedVariables false
set_option maxRecDepth 100000
set_option maxHeartbeats 4000000
namespace Go.Proofs.Ytdbnflilbkjbhaa
open Go.AM
@[simp] theorem Zez(a b c:Int):Zbj a b c=some (Bo (inR a b c),[]):=by
 refine Z8t ?_;by_cases h:b<=a<;>simp[inR,h]
@[simp] theorem Zcl(a b c:Int):Zw a b c=some (Bo (inR a b c),[]):=by
 refine Z9a ?_;by_cases h:b<=a<;>simp[inR,h]
theorem l_l7Has(xs:List Int)(v:Int)(hx:Le xs):∀i,i<=xs.length->Zie xs v i=some (Bo (has (xs.drop i) v),[]):=by
 unfold has;refine down _ ?_ ?_
 .refine Z0x ?_;simp
 .intro i hi ih;refine Z0x ?_;have h4:=Zbv (i:=i) (by omega);rw[drop_any _ hi];simp at ih;by_cases e:v=xs[i]
  .simp[hi,h4,<-e]
  .have e':¬xs[i]=v:=λhc=>e hc.symm
   simp[hi,h4,e,e',ih]
@[simp] theorem Z1x(xs:List Int)(v:Int)(hx:Le xs):Zid xs v=some (Bo (has xs v),[]):=by
 refine Z91 ?_;have:=l_l7Has xs v hx 0 (Yd _);simpa using this
theorem nm_aux(s:ByteArray)(P:Prop):(if(s.size:Int)=1 then(∃(b1:UInt8),s[0]?=some b1/\(if 97<=(b1.toNat:Int)then(some (Bo (decide ((b1.toNat:Int)<=122)),[])=some (Bo (nmOk s),([]:List Blk)))else(some (Bo false,[])=some (Bo (nmOk s),([]:List Blk)))))else(some (Bo false,[])=some (Bo (nmOk s),([]:List Blk)))):=by
 by_cases h:s.size=1
 .obtain⟨b,hb⟩:=get0 h;rw[if_pos (by omega)];refine⟨b,hb,?_⟩;have e:nmOk s=(decide (97<=(b.toNat:Int)) && decide ((b.toNat:Int)<=122)):=by
   unfold nmOk;rw[hb];simp only[h,decide_true,Yx]
  by_cases h1:(97:Int)<=(b.toNat:Int)
  .rw[if_pos h1,e,decide_eq_true h1,Yx]
  .rw[if_neg h1,e,decide_eq_false h1,Bool.false_and]
 .have h':¬(s.size:Int)=1:=by omega
  have:nmOk s=false:=by unfold nmOk;split<;>simp[h]
  simp[h',this]
@[simp] theorem x_l4Name(s:ByteArray):Zic s=some (Bo (nmOk s),[]):=Z90 (nm_aux s True)
def LeQ(q:Zb):Prop:=Le q.Atoms/\∀a∈q.Atoms,Le a.Vars
theorem Zbay(q:Zb)(n:Nat)(c:1<=n)(hn:n<=4)(hq:q.Zp=n)(a:Atom)(j:Int)(hv:Le a.Vars)(r:AV×List Blk):∀k,k<=a.Vars.length->∀p,
  (if Zet n (a.Vars.take k) (a.Vars.drop k)=true then Zgq q (Z2 (addV p (a.Vars.drop k))) (w (j+1))=some r else some (Bo false,[])=some r)->
  Zif q a (Z2 p) j k=some r:=by
 refine down _ ?_ ?_
 .intro p h;refine Z0z ?_;simpa[Zet,Zwd]using h
 .intro k hk ih p h;have h4:=Zbv (i:=k) (by omega);have hw:w (q.Zp-1)=(n:Int)-1:=by rw[hq];exact Z8 (by omega) (by omega)
  have hl:=Z1x (a.Vars.take k) a.Vars[k] (by simp;omega);have e7:k<=a.Vars.length:=by omega
  refine Z0z ?_;rw[Z49 _ hk]at h;rcases tf (inR a.Vars[k] 0 ((n:Int)-1))with e1|e1
  .simp[e1]at h;simp[hk,h4,hw,e1,<-h]
  .rcases tf (has (a.Vars.take k) a.Vars[k])with e2|e2
   .rw[Zwe p hk]at h;simp only[e1,e2,Yx,Bool.not_false]at h;have ih:=ih _ h;have e0:=e1;simp[inR]at e0;have e6:=or_bit p (v:=a.Vars[k]) (by simp[inR];omega);have e8:¬a.Vars[k]<0:=by omega
    simp at ih;simp[hk,h4,hw,e1,e2,hl,e0,e6,e7,e8,ih]
   .simp[e1,e2]at h;simp[hk,h4,hw,e1,e2,hl,e7,<-h]
def Zmm(n:Int)(p:Nat->Bool):Bool:=decide (Z2 p=w (shlI 1 n-1))
theorem Zbaz(q:Zb)(n:Nat)(c:1<=n)(hn:n<=4)(hq:q.Zp=n)(hl:Le q.Atoms)(hv:∀a∈q.Atoms,Le a.Vars):∀k,k<=q.Atoms.length->∀p,
  Zgq q (Z2 p) k=some (Bo ((q.Atoms.drop k).all (Zc4 n) && Zmm n (addA p (q.Atoms.drop k))),[]):=by
 refine down _ ?_ ?_
 .intro p;refine Z0y ?_;have e:addA p []=p:=by funext u;simp[addA]
  have h0:¬(n:Int)<0:=by omega
  simp[e,hq,h0,Zmm]
 .intro k hk ih p;refine Z0y ?_;have h4:=Zbv (i:=k) (by omega);rw[drop_all _ hk];rcases tf (nmOk q.Atoms[k].Name)with e1|e1
  .simp[hk,e1,Zc4]
  rcases tf (inR q.Atoms[k].Vars.length 1 3)with e2|e2
  .simp[hk,e1,e2,Zc4]
  have b:=Zbay q n c hn hq q.Atoms[k] k (hv _ (Yk hk)) (Bo (Zc4 n q.Atoms[k] && (q.Atoms.drop (k+1)).all (Zc4 n) && Zmm n (addA p (q.Atoms.drop k))),[]) 0 (Yd _) p ?_
  .simp at b;simp[hk,e1,e2,b]
  .simp only[List.take_zero,Yn,Zc4,e1,e2,Yx];rcases tf (Zet n [] q.Atoms[k].Vars)with e3|e3
   .simp[e3]
   .have ih:=ih (addV p q.Atoms[k].Vars);simp only[e3,if_true,Yx,Z5a p hk];simp at ih;rw[show w ((k:Int)+1)=(k:Int)+1 from h4,ih]
@[simp] theorem Zju(q:Zb)(h:LeQ q):Zdh q=some (Bo (Zs q.Zp q.Atoms),[]):=by
 refine Z92 ?_;unfold Zs;rcases tf (inR q.Zp 1 4)with e1|e1
 .simp[e1]
 rcases tf (inR q.Atoms.length 1 4)with e2|e2
 .simp[e1,e2]
 have e0:=e1;simp[inR]at e0;obtain⟨k,hk⟩:∃k:Nat,q.Zp=k:=⟨q.Zp.toNat,by omega⟩;have b:=Zbaz q k (by omega) (by omega) hk h.1 h.2 0 (Yd _) (λ_=>false);have ez:Z2 (λ_=>false)=0:=rfl;rw[ez]at b;simp only[Yn,Int.ofNat_zero]at b;have e3:(q.Atoms.all (Zc4 k) && Zmm k (addA (λ_=>false) q.Atoms))=(q.Atoms.all (Zc4 k) && (List.range k).all (addA (λ_=>false) q.Atoms)):=by
  rcases tf (q.Atoms.all (Zc4 k))with e3|e3
  .simp[e3]
  .have hk':k=1\/k=2\/k=3\/k=4:=by omega
   have hz:=all_in e3;have hz':∀u:Nat,k<=u->addA (λ_=>false) q.Atoms u=false:=λu hu=>by simp only[addA,Yck];exact hz u (by omega)
   rw[e3,Yx,Yx,Ybs,Zmm,decide_eq_true_eq,Z2];rcases hk' with rfl|rfl|rfl|rfl
   .simp[shlI,Z8,Znx,hz' 1 (by omega),hz' 2 (by omega),hz' 3 (by omega),Ycw]
   .simp[shlI,Z8,Znx,hz' 2 (by omega),hz' 3 (by omega),Ycw]
   .simp[shlI,Z8,Znx,hz' 3 (by omega),Ycw,and_assoc]
   .simp[shlI,Z8,Znx,Ycw,and_assoc]
 rw[e3]at b;rw[hk]at e1;simp only[Zcl,Y9,Ybg,AV.t.injEq,T.bool.injEq,and_true,exists_eq_left',e1,e2,if_true,b,hk,Ym];simp
@[simp] theorem Zsy(q:Zb)(h:LeQ q):Zij q=some (I (Zbz q.Zp q.Atoms),[]):=by
 refine Z93 ?_;have q1:=Zju q h;unfold Zbz;rcases tf (Zs q.Zp q.Atoms)with e|e
 .simp[q1,e]
 .have:=(Zny e).2.2.1;have h0:¬((q.Atoms.length:Int)<0):=by omega
  simp[q1,e,this,h0]
theorem l_bits0(q:Zb)(m:Int)(hv:∀a∈q.Atoms,Le a.Vars)(c:Var4 q.Atoms)(i:Nat)(hi:i<q.Atoms.length)(hm:Zv m i=true)(r:AV×List Blk):∀k,k<=q.Atoms[i].Vars.length->∀p,
  Zfo q m (Z2 (addV p (q.Atoms[i].Vars.drop k))) (w ((i:Int)+1))=some r->Zgr q m (Z2 p) i k=some r:=by
 have e1:andI (shrI m i) 1=1:=by simpa[Zv]using hm
 have h0:¬(i:Int)<0:=by omega
 have ha:=Yk hi;refine down _ ?_ ?_
 .intro p h;refine Zst ?_;rw[Ybt,Zwd]at h;simp[hi,h]
 .intro k hk ih p h;refine Zst ?_;have h4:=Zbv (i:=k) (by have:=hv _ ha;omega);have e6:=or_bit p (v:=q.Atoms[i].Vars[k]) (c _ ha _ (Yk hk));have e7:=c _ ha _ (Yk hk);simp[inR]at e7;have e8:¬q.Atoms[i].Vars[k]<0:=by omega
  rw[Zwe p hk]at h;have ih:=ih _ h;simp at ih;simp[hi,hk,h0,e1,h4,e6,e7,e8,ih]
theorem l_bits1(q:Zb)(m:Int)(hl:Le q.Atoms)(hv:∀a∈q.Atoms,Le a.Vars)(c:Var4 q.Atoms):∀i,i<=q.Atoms.length->∀p,
  Zfo q m (Z2 p) i=some (I (Z2 (addM m p q.Atoms i)),[]):=by
 refine down _ ?_ ?_
 .intro p;refine Z06 ?_;have e:addM m p q.Atoms q.Atoms.length=p:=by funext u;simp[addM,hasV]
  simp[e]
 .intro i hi ih p;refine Z06 ?_;have h4:=Zbv (i:=i) (by omega);have h0:¬(i:Int)<0:=by omega
  rw[Z5c m p hi];rcases tf (Zv m i)with e|e
  .have e1:¬andI (shrI m i) 1=1:=by simpa[Zv]using e
   have ih:=ih p;simp at ih;have b:Zgr q m (Z2 p) i 0=some (I (Z2 (addM m p q.Atoms (i+1))),[]):=by
    refine Zst ?_;simp[hi,h0,e1,h4,ih]
   simp[hi,e,b]
  .have ih:=ih (addV p q.Atoms[i].Vars);have b:=l_bits0 q m hv c i hi e _ 0 (Yd _) p (by rw[Yn,show w ((i:Int)+1)=(i:Int)+1 from h4];simpa using ih);simp at b;simp[hi,e,b]
@[simp] theorem Zjv(q:Zb)(m:Int)(h:LeQ q)(c:Var4 q.Atoms):Zcf q m=some (I (Z2 (pV m q.Atoms)),[]):=by
 refine Z95 ?_;have b:=l_bits1 q m h.1 h.2 c 0 (Yd _) (λ_=>false);have ez:Z2 (λ_=>false)=0:=rfl;have e:addM m (λ_=>false) q.Atoms 0=pV m q.Atoms:=by funext u;simp[addM,pV]
 rw[ez,e]at b;simpa using b
@[simp] theorem Zos(b v:Int):Zfq b v=some (Bo (inR v 0 3 && decide (andI (shrI b v) 1=1)),[]):=by
 refine Zbaf ?_;rcases tf (inR v 0 3)with e|e
 .simp[e]
 .have e0:=e;simp[inR]at e0
  have:¬v<0:=by omega
  simp[e,this]
def Zbf(x:Zf):Option Zg->AV×List Blk
 |some y=>(.tup [.agg (y.c.map .t),I (popsI x)],[])
 |none=>(.tup [.agg [I 0,I 0,I 0,I 0],I (-1)],[])
theorem Zba0(q:Zb)(hq:LeQ q)(h:Zs q.Zp q.Atoms=true)(x:Zf)(info:List Zg)(st:List Int)(hs:StOk info st)(cc:info.length<=100)(cd:st.length<=100) :
  Zgx q x info st=some (Zbf x (stepI q.Atoms x info st)):=by
 have hl:=Zdv h;have wl:w ((q.Atoms.length:Int)-1)=(q.Atoms.length:Int)-1:=Z8 (by omega) (by omega);unfold stepI;by_cases k1:x.Kind=1
 .rw[if_pos k1];by_cases c1:inR x.Atom 0 (q.Atoms.length-1)=true/\x.Order=0
  .rw[if_pos c1];have c2:=c1.1;simp[inR]at c2;have hlt:x.Atom.toNat<q.Atoms.length:=by omega
   have hv:=Zp6 h _ (Yk hlt);have h0:¬x.Atom<0:=by omega
   refine Zey ?_;have e:q.Atoms[x.Atom.toNat].Vars.headD 0=q.Atoms[x.Atom.toNat].Vars[0]'(by omega):=by
    rw[List.headD_eq_head?_getD,hd0 (by omega)]
   rw[List.headD_eq_head?_getD]at e;simp[k1,wl,c1,h0,hlt,c2,e,Zbf,popsI,show 0<q.Atoms[x.Atom.toNat].Vars.length by omega]
  .rw[if_neg c1];refine Zey ?_;rcases tf (inR x.Atom 0 (q.Atoms.length-1))with e|e
   .simp[k1,wl,e,Zbf]
   .have e2:¬x.Order=0:=λhc=>c1 ⟨e,hc⟩
    simp[k1,wl,e,e2,Zbf]
 rw[if_neg k1];have w1:w ((st.length:Int)-1)=(st.length:Int)-1:=Z8 (by omega) (by omega);have w2:w ((st.length:Int)-2)=(st.length:Int)-2:=Z8 (by omega) (by omega);by_cases k0:x.Atom=0
 rotate_left
 .rw[if_pos k0];refine Zey ?_;have j:∀b,Zin q x ⟨0,0,0,0⟩ info st st.length x.Kind b=some (Zbf x none):=by
   intro b;refine Zmj ?_;cases b<;>simp[k0,Zbf]
  by_cases k2:x.Kind=2
  .simp[k1,k2,k0,Zbf]
  .by_cases k3:x.Kind=3<;>by_cases k4:x.Kind=4<;>simp[k1,k2,k0,k3,k4,j]<;>first|(simp only[k3]at j;simp[j,Zbf])|(simp only[k4]at j;simp[j,Zbf])|simp[Zbf]
 rw[if_neg (by simpa using k0)];by_cases k2:x.Kind=2
 .rw[if_pos k2];refine Zey ?_;by_cases n1:st.length<1
  .have:Zd6 st info 1=none:=by unfold Zd6;rw[if_neg (by omega)]
   rw[this];have n1':(st.length:Int)<1:=by omega
   simp[k1,k2,k0,n1',Zbf]
  .have n1':¬(st.length:Int)<1:=by omega
   obtain⟨s,y,t1,t2,t3,t4⟩:=Znz hs (by omega:1<=1) (by omega:1<=st.length);have z1:(0:Int)<=(st.length:Int)-1:=by omega
   have z5:(1:Int)<=(st.length:Int):=by omega
   have z2:((st.length:Int)-1).toNat=st.length-1:=by omega
   have q1:=Zjv q y.Mask hq (Zjh h);have q2:(inR x.Order 0 3 && decide (andI (shrI (Z2 (pV y.Mask q.Atoms)) x.Order) 1=1))=vin q.Atoms y.Mask x.Order:=by
    unfold vin;rcases tf (inR x.Order 0 3)with e|e
    .simp[e]
    .rw[e,Yx,Yx,Ybs,decide_eq_true_eq];exact at_bit _ e
   rw[t1];simp only;by_cases e2:y.Order=x.Order
   .simp[k1,k2,k0,n1',w1,z1,z2,z5,t2,t3,t4,e2,Zbf]
   .rcases tf (vin q.Atoms y.Mask x.Order)with e|e
    .simp only[k1,k2,k0,n1',w1,z1,z2,t2,t3,t4,q1,Zos,q2,e,e2,if_false,if_true,true_and,Y9,exists_eq_left',Ybg,AV.t.injEq,T.int.injEq,T.bool.injEq,and_true];simp[Zbf]
    .simp only[k1,k2,k0,n1',w1,z1,z2,t2,t3,t4,q1,Zos,q2,e,e2,if_false,if_true,true_and,Y9,exists_eq_left',Ybg,AV.t.injEq,T.int.injEq,T.bool.injEq,and_true];simp[Zbf,popsI,k1,k2,e2]
 rw[if_neg k2]
 -- a join
 have q0:∀(b:Zg) (c:Zg) (y:Zg) (f:Bool),x.Kind=4->∀m1 m2,Zgy q x ⟨0,0,0,0⟩ b c y (andI (Z2 (pV m1 q.Atoms)) (Z2 (pV m2 q.Atoms))) f =
   if vin q.Atoms m1 x.Order=true/\vin q.Atoms m2 x.Order=true/\b.Order=x.Order/\c.Order=x.Order then some (.tup [.agg [I y.Mask,I x.Order,I y.Left,I y.Right],I 2],[])else some (Zbf x none):=by
  intro b c y f k4 m1 m2;have e:(inR x.Order 0 3 && decide (andI (shrI (andI (Z2 (pV m1 q.Atoms)) (Z2 (pV m2 q.Atoms))) x.Order) 1=1))=(vin q.Atoms m1 x.Order && vin q.Atoms m2 x.Order):=by
   unfold vin;rcases tf (inR x.Order 0 3)with e|e
   .simp[e]
   .rw[e,Yx,Yx,Yx,Ybs,decide_eq_true_eq,Zwf];simpa using at_bit (λu=>pV m1 q.Atoms u && pV m2 q.Atoms u) e
  split
  .rename_i hc;refine Zsu ?_;simp only[Zos,e,hc];simp[k4]
  .rename_i hc;refine Zsu ?_;simp only[Zos,e];rcases tf (vin q.Atoms m1 x.Order)with e1|e1<;>rcases tf (vin q.Atoms m2 x.Order)with e2|e2<;>by_cases e3:b.Order=x.Order<;>by_cases e4:c.Order=x.Order<;>simp[k4,e1,e2,e3,e4,Zbf];exact hc ⟨e1,e2,e3,e4⟩
 have q3:∀(b:Zg) (c:Zg) (y:Zg) (v:Int) (f:Bool),x.Kind≠4->Zgy q x ⟨0,0,0,0⟩ b c y v f=some (.tup [.agg (y.c.map .t),I 2],[]):=by
  intro b c y v f k4;exact Zsu (by simp[k4])
 have q5:∀(b:Zg) (c:Zg) (y:Zg) (v:Int),x.Kind≠4->Zio q x ⟨0,0,0,0⟩ b c y v=some (.tup [.agg (y.c.map .t),I 2],[]):=by
  intro b c y v k4;exact Zbag (by simp[k4])
 by_cases kk:x.Kind=3\/x.Kind=4\/x.Kind=5
 rotate_left
 .have k3:¬x.Kind=3:=λhc=>kk (.inl hc)
  have k4:¬x.Kind=4:=λhc=>kk (.inr (.inl hc))
  have k5:¬x.Kind=5:=λhc=>kk (.inr (.inr hc))
  have hj:∀y z,Zeu q.Atoms x y z=none:=by intro y z;simp[Zeu,k3,k4,k5]
  refine Ya (b:=some (Zbf x none)) (Zey (by simp[k1,k2,k3,k4,k5,Zbf])) ?_;simp only[hj,Option.map_none,ite_self];split<;>rfl
 have k5':x.Kind≠3->x.Kind≠4->x.Kind=5:=λa b=>by rcases kk with h|h|h;exact absurd h a;exact absurd h b;exact h
 have red:∀r,Zin q x ⟨0,0,0,0⟩ info st st.length x.Kind true=some r->(x.Kind=5->Zgx q x info st=some r)->Zgx q x info st=some r:=by
  intro r hr h5;by_cases k5:x.Kind=5
  .exact h5 k5
  .refine Zey ?_;by_cases k3:x.Kind=3
   .rw[if_neg k1,if_neg k2,if_pos k3];exact hr
   .by_cases k4:x.Kind=4
    .rw[if_neg k1,if_neg k2,if_neg k3,if_pos k4];exact hr
    .exact absurd (k5' k3 k4) k5
 by_cases n2:st.length<2
 .have:Zd6 st info 2=none:=by unfold Zd6;rw[if_neg (by omega)]
  rw[this];have n2':(st.length:Int)<2:=by omega
  refine red _ ?_ ?_
  .exact Zmj (by simp[k0,n2',Zbf])
  .intro k5;exact Zey (by simp[k5,k0,n2',Zbf])
 have n2':¬(st.length:Int)<2:=by omega
 obtain⟨s,y,t1,t2,t3,t4⟩:=Znz hs (by omega:1<=2) (by omega:2<=st.length);obtain⟨t,z,u1,u2,u3,u4⟩:=Znz hs (by omega:1<=1) (by omega:1<=st.length);have z1:(0:Int)<=(st.length:Int)-1:=by omega
 have z2:((st.length:Int)-1).toNat=st.length-1:=by omega
 have z3:(0:Int)<=(st.length:Int)-2:=by omega
 have z4:((st.length:Int)-2).toNat=st.length-2:=by omega
 have b1:=Zjv q y.Mask hq (Zjh h);have b2:=Zjv q z.Mask hq (Zjh h);have b3:=Zp7 q.Atoms y.Mask z.Mask;rw[t1,u1];simp only;by_cases c1:andI y.Mask z.Mask=0
 rotate_left
 .rw[if_neg (λhc=>c1 hc.1)];refine red _ ?_ ?_
  .refine Zmj ?_;simp only[k0,n2',w1,w2,z1,z2,z3,z4,t2,t3,t4,u2,u3,u4,b1,b2,c1,if_true,if_false,true_and,Y9,exists_eq_left',Ybg,AV.t.injEq,T.int.injEq,and_true];simp[Zbf]
  .intro k5;refine Zey ?_;simp only[k5,k0,n2',w1,w2,z1,z2,z3,z4,t2,t3,t4,u2,u3,u4,b1,b2,c1,if_true,if_false,true_and,Y9,exists_eq_left',Ybg,AV.t.injEq,T.int.injEq,and_true];simp[Zbf]
 rcases tf (shr q.Atoms y.Mask z.Mask)with c2|c2
 .rw[if_neg (λhc=>by rw[hc.2]at c2;cases c2)];have c3:=b3.2 c2;refine red _ ?_ ?_
  .refine Zmj ?_;simp only[k0,n2',w1,w2,z1,z2,z3,z4,t2,t3,t4,u2,u3,u4,b1,b2,c1,c3,if_true,if_false,true_and,Y9,exists_eq_left',Ybg,AV.t.injEq,T.int.injEq,and_true];simp[Zbf]
  .intro k5;refine Zey ?_;simp only[k5,k0,n2',w1,w2,z1,z2,z3,z4,t2,t3,t4,u2,u3,u4,b1,b2,c1,c3,if_true,if_false,true_and,Y9,exists_eq_left',Ybg,AV.t.injEq,T.int.injEq,and_true];simp[Zbf]
 rw[if_pos ⟨c1,c2⟩];have c3:¬andI (Z2 (pV y.Mask q.Atoms)) (Z2 (pV z.Mask q.Atoms))=0:=λhc=>by rw[b3.1 hc]at c2;cases c2
 have p2:popsI x=2:=by unfold popsI;rw[if_neg k1,if_neg k2]
 refine red _ ?_ ?_
 .refine Zmj ?_;simp only[k0,n2',w1,w2,z1,z2,z3,z4,t2,t3,t4,u2,u3,u4,b1,b2,c1,c3,if_true,if_false,true_and,Y9,exists_eq_left',Ybg,AV.t.injEq,T.int.injEq,and_true];by_cases k4:x.Kind=4
  .have k3:¬x.Kind=3:=by omega
   have k5:¬x.Kind=5:=by omega
   rw[if_pos k4,q0 _ _ _ _ k4];simp only[Zeu,k3,k4,k5,false_and,true_and,if_false];split
   .rename_i hc;simp[Zbf,p2]
   .rfl
  .by_cases e:x.Order=0
   .by_cases k5:x.Kind=5
    .rw[if_neg k4,if_pos e,if_pos k5,q5 _ _ _ _ k4];simp[Zeu,k5,e,Zbf,p2]
    .have k3:x.Kind=3:=by omega
     rw[if_neg k4,if_pos e,if_neg k5,q3 _ _ _ _ _ k4];simp[Zeu,k3,e,Zbf,p2]
   .rw[if_neg k4,if_neg e];simp[Zeu,k4,e,Zbf]
 .intro k5;refine Zey ?_;have k4:x.Kind≠4:=by omega
  simp only[k5,k0,n2',w1,w2,z1,z2,z3,z4,t2,t3,t4,u2,u3,u4,b1,b2,c1,c3,if_true,if_false,true_and,Y9,exists_eq_left',Ybg,AV.t.injEq,T.int.injEq,and_true];by_cases e:x.Order=0
  .simp[e,q5 _ _ _ _ k4,Zeu,k5,Zbf,p2]
  .simp[e,Zeu,k5,Zbf]
theorem Zba1(q:Zb)(hq:LeQ q)(h:Zs q.Zp q.Atoms=true)(p:Plan)(hl:p.Steps.length<=14):∀i,i<=p.Steps.length->∀info st,StOk info st->info.length=i->st.length<=i->
  Zip q p info st i=some (match Zd7 q.Atoms (p.Steps.drop i) i info st with
   |some (info',st')=>if st'.length=1 then(.tup [.own 0,Bo true],[.arr Zk0 4 true (info'.map Zg.c)])else(.tup [.own 0,Bo false],[.arr Zk0 4 true []])
   |none=>(.tup [.own 0,Bo false],[.arr Zk0 4 true []])):=by
 refine down _ ?_ ?_
 .intro info st _ _ _;rw[Ybt,Zd7];refine Z1e ?_;by_cases c:st.length=1
  .simp[c]
  .have c':¬(st.length:Int)=1:=by omega
   simp[c,c']
 .intro i hi ih info st hs hil hst;have h5:=Zbv (i:=i) (by omega);have s1:=Zba0 q hq h p.Steps[i] info st hs (by omega) (by omega);rw[Z5f q.Atoms hi];refine Z1e ?_
  cases he:stepI q.Atoms p.Steps[i] info st with
  |none =>
   rw[he,Zbf]at s1;have e0:Zgx q p.Steps[i] info st=some (.tup [.agg ((⟨0,0,0,0⟩:Zg).c.map .t),I (-1)],[]):=s1;rw[if_pos (by omega)];refine⟨by omega,_,Yh hi,_,_,e0,?_⟩
   simp
  |some y =>
   rw[he,Zbf]at s1;obtain⟨f1,f2,f3⟩:=Z5g hs he;rw[f1]at s1;have hn:=st_next hs y (st.length-pops y);rw[hil]at hn;have ih:=ih (info++[y]) (st.take (st.length-pops y)++[(i:Int)]) hn (by simp[hil]) (st_len hst _);have w2:w ((st.length:Int)-(pops y:Int))=(st.length:Int)-(pops y:Int):=Z8 (by omega) (by omega);have z2:((st.length:Int)-(pops y:Int)).toNat=st.length-pops y:=by omega
   rw[if_pos (by omega)];refine⟨by omega,_,Yh hi,_,_,s1,?_⟩;rw[if_neg (by omega),w2,z2];refine⟨by omega,by omega,by omega,by omega,by omega,?_⟩;rw[show w ((i:Int)+1)=(i:Int)+1 from h5];simpa using ih
@[simp] theorem Zba2(q:Zb)(p:Plan)(hq:LeQ q):Zl3 q p=some (match Zkz q.Zp q.Atoms p.Steps with
  |some info=>(.tup [.own 0,Bo true],[.arr Zk0 4 true (info.map Zg.c)])
  |none=>(.tup [.own 0,Bo false],[.arr Zk0 4 true []])):=by
 refine Zbah ?_;have q1:=Zju q hq;unfold Zkz;rcases tf (Zs q.Zp q.Atoms)with e|e
 .simp[q1,e]
 rcases tf (inR p.Steps.length 1 14)with e2|e2
 .simp[q1,e,e2]
 .have e3:=e2;simp[inR]at e3;have b:=Zba1 q hq e p (by omega) 0 (Yd _) [] [] (λs hs=>by cases hs) rfl (Yg _);simp only[Yn]at b;simp only[q1,e,e2,Zcl,Y9,Ybg,AV.t.injEq,T.bool.injEq,and_true,exists_eq_left',if_true,and_self];refine Ya b ?_
  cases Zd7 q.Atoms p.Steps 0 [] []with
  |none=>rfl
  |some r=>obtain⟨a,b⟩:=r;simp only;split<;>rfl
def Ze0:Int->List Zd->Bool
 |_,[]=>true
 |p,s::r=>inR s.From 1 8192 && inR s.Add (-99) 99 && decide (p<s.From) && Ze0 s.From r
def Zcm(l:List Zd):Nat->Int
 |0=>0
 |i+1=>match l[i]? with|some s=>s.From|none=>0
def Zc8(n:Int):Bool:=inR n (-99) 99
def Zbn(o:Zc):Bool:=Zc8 o.Fixed && Zc8 o.Z9 && Zc8 o.Zba && Zc8 o.Zbb && Zc8 o.Zbc && decide (o.Steps.length<=4) && Ze0 0 o.Steps
theorem Z1y(p:Int){l:List Zd}{i:Nat}(h:i<l.length):Ze0 p (l.drop i)=(inR l[i].From 1 8192 && inR l[i].Add (-99) 99 && decide (p<l[i].From) && Ze0 l[i].From (l.drop (i+1))):=by
 rw[Yj h,Ze0]
@[simp] theorem Zba3(n:Int):Zec n=some (Bo (Zc8 n),[]):=by
 refine Z9b ?_;simp[Zc8]
theorem Zba4(o:Zc)(hl:Le o.Steps):∀i,i<=o.Steps.length->Zfh o i=some (Bo (Ze0 (Zcm o.Steps i) (o.Steps.drop i)),[]):=by
 refine down _ ?_ ?_
 .refine Z0h ?_;simp[Ze0]
 .intro i hi ih;refine Z0h ?_;have h4:=Zbv (i:=i) (by omega);rw[Z1y _ hi];have pn:Zcm o.Steps (i+1)=o.Steps[i].From:=by simp[Zcm,Yh hi]
  rw[pn]at ih;simp only[Ys,Yt]at ih;rw[if_pos (by omega)];refine⟨by omega,o.Steps[i],by rw[Ym];exact Yh hi,_,Zcl _ _ _,?_⟩;rcases tf (inR o.Steps[i].From 1 8192)with e1|e1
  .rw[e1];simp
  rw[e1,if_pos rfl];refine⟨_,Zba3 _,?_⟩;unfold Zc8;rcases tf (inR o.Steps[i].Add (-99) 99)with e2|e2
  .rw[e2];simp
  rw[e2,if_pos rfl,show w ((i:Int)+1)=(i:Int)+1 from h4]
  cases i with
  |zero =>
   rw[if_neg (by omega),ih]
   have:Zcm o.Steps 0<o.Steps[0].From:=by simp[inR]at e1;simp[Zcm];omega
   simp[this]
  |succ j =>
   have hj:j<o.Steps.length:=by omega
   have w2:w (((j+1:Nat):Int)-1)=j:=by rw[show((j+1:Nat):Int)-1=j by omega];exact Z8 (by omega) (by omega)
   have pj:Zcm o.Steps (j+1)=o.Steps[j].From:=by simp[Zcm,Yh hj]
   rw[if_pos (by omega),w2,pj];refine⟨by omega,o.Steps[j],by rw[Ym];exact Yh hj,?_⟩;by_cases e3:o.Steps[j+1].From<=o.Steps[j].From
   .rw[if_pos e3,decide_eq_false (by omega)];simp
   .rw[if_neg e3,decide_eq_true (by omega),ih];simp
@[simp] theorem Zmn(o:Zc)(hl:Le o.Steps):Zew o=some (Bo (Zbn o),[]):=by
 refine Z9c ?_;have b:=Zba4 o hl 0 (Yd _);simp only[Zcm,Yn,Int.ofNat_zero]at b;have b:Zfh o 0=_:=b;unfold Zbn;rcases tf (Zc8 o.Fixed)with e1|e1
 .simp[e1]
 rcases tf (Zc8 o.Z9)with e2|e2
 .simp[e1,e2]
 rcases tf (Zc8 o.Zba)with e3|e3
 .simp[e1,e2,e3]
 rcases tf (Zc8 o.Zbb)with e4|e4
 .simp[e1,e2,e3,e4]
 rcases tf (Zc8 o.Zbc)with e5|e5
 .simp[e1,e2,e3,e4,e5]
 by_cases e6:o.Steps.length<=4
 .have e7:¬(4:Int)<o.Steps.length:=by omega
  simp[e1,e2,e3,e4,e5,e6,e7,b]
 .have e7:(4:Int)<o.Steps.length:=by omega
  simp[e1,e2,e3,e4,e5,e6,e7]
theorem Zba5(o:Zc)(hl:Le o.Steps):∀i,i<=o.Steps.length->Ze8 o o.Steps o.Steps.length i=some (Bo (Ze0 (Zcm o.Steps i) (o.Steps.drop i) && decide (o.Steps.length<=4)),[]):=by
 refine down _ ?_ ?_
 .refine Zz6 ?_;rw[if_neg (by omega)];by_cases e:o.Steps.length<=4
  .simp[Ze0,e];omega
  .simp[Ze0,e];omega
 .intro i hi ih;refine Zz6 ?_;have h4:=Zbv (i:=i) (by omega);rw[Z1y _ hi];have pn:Zcm o.Steps (i+1)=o.Steps[i].From:=by simp[Zcm,Yh hi]
  rw[pn]at ih;simp only[Ys,Yt]at ih;rw[if_pos (by omega)];refine⟨by omega,o.Steps[i],by rw[Ym];exact Yh hi,_,Zez _ _ _,?_⟩;rcases tf (inR o.Steps[i].Add (-99) 99)with e2|e2
  .rw[e2];simp
  rw[e2,if_pos rfl];refine⟨_,Zez _ _ _,?_⟩;rcases tf (inR o.Steps[i].From 1 8192)with e1|e1
  .rw[e1];simp
  rw[e1,if_pos rfl,show w ((i:Int)+1)=(i:Int)+1 from h4]
  cases i with
  |zero =>
   rw[if_neg (by omega),ih]
   have:Zcm o.Steps 0<o.Steps[0].From:=by simp[inR]at e1;simp[Zcm];omega
   simp[this]
  |succ j =>
   have hj:j<o.Steps.length:=by omega
   have w2:w (((j+1:Nat):Int)-1)=j:=by rw[show((j+1:Nat):Int)-1=j by omega];exact Z8 (by omega) (by omega)
   have pj:Zcm o.Steps (j+1)=o.Steps[j].From:=by simp[Zcm,Yh hj]
   rw[if_pos (by omega),w2,pj];refine⟨by omega,o.Steps[j],by rw[Ym];exact Yh hj,?_⟩;by_cases e3:o.Steps[j+1].From<=o.Steps[j].From
   .rw[if_pos e3,decide_eq_false (by omega)];simp
   .rw[if_neg e3,decide_eq_true (by omega),ih];simp
@[simp] theorem Zcn(o:Zc)(hl:Le o.Steps):Zbu o=some (Bo (Zbn o),[]):=by
 refine Z8v ?_;have hc:Zk2 o=some (.bsl 1 5,[.box (o.c.map .t),.box [.ptr 0 0,.ptr 0 1,.ptr 0 2,.ptr 0 3,.ptr 0 4]]):=Z8u rfl;refine⟨hc,?_⟩;have b:=Zba5 o hl 0 (Yd _);simp only[Zcm,Yn]at b;have b:Ze8 o o.Steps o.Steps.length 0=_:=b;have w1:w (0+1)=1:=by decide
 have w2:w (1+1)=2:=by decide
 have w3:w (2+1)=3:=by decide
 have w4:w (3+1)=4:=by decide
 have w5:w (4+1)=5:=by decide
 unfold Zbn Zc8;refine Zjs ?_;rw[if_pos (by omega),if_pos rfl];refine⟨_,Zez _ _ _,?_⟩;rcases tf (inR o.Fixed (-99) 99)with e1|e1
 .rw[e1];simp
 rw[e1,if_pos rfl,w1];refine Zjs ?_;rw[if_pos (by omega),if_neg (by omega),if_pos rfl];refine⟨_,Zez _ _ _,?_⟩;rcases tf (inR o.Z9 (-99) 99)with e2|e2
 .rw[e2];simp
 rw[e2,if_pos rfl,w2];refine Zjs ?_;rw[if_pos (by omega),if_neg (by omega),if_neg (by omega),if_pos rfl];refine⟨_,Zez _ _ _,?_⟩;rcases tf (inR o.Zba (-99) 99)with e3|e3
 .rw[e3];simp
 rw[e3,if_pos rfl,w3];refine Zjs ?_;rw[if_pos (by omega),if_neg (by omega),if_neg (by omega),if_neg (by omega),if_pos rfl];refine⟨_,Zez _ _ _,?_⟩;rcases tf (inR o.Zbb (-99) 99)with e4|e4
 .rw[e4];simp
 rw[e4,if_pos rfl,w4];refine Zjs ?_;rw[if_pos (by omega),if_neg (by omega),if_neg (by omega),if_neg (by omega),if_neg (by omega),if_pos rfl];refine⟨_,Zez _ _ _,?_⟩;rcases tf (inR o.Zbc (-99) 99)with e5|e5
 .rw[e5];simp
 rw[e5,if_pos rfl,w5];refine Zjs ?_;rw[if_neg (by omega),b];simp[Bool.and_comm]
def Zjw(o:Zc)(l r n:Int):Int:=w (w (w (w (o.Fixed+w (o.Z9*l))+w (o.Zba*r))+w (o.Zbb*n))+w (w (o.Zbc*l)*r))
def Zix(l r n:Int)(s:Zd):Int:=if s.From<=w (l+r)then w (n+s.Add)else n
def Zmo(o:Zc)(l r n:Int):Int:=o.Steps.foldl (Zix l r) (Zjw o l r n)
def Zdi(o:Zc)(l r n:Int):Int:=if(Zbn o && inR l 0 4096 && inR r 0 4096 && inR n 0 4096)=true then Zmo o l r n else 0
theorem Zba6(l r:Int)(st:List Zd)(hl:Le st):∀i,i<=st.length->∀n,Zge l r n st st.length i=some (I ((st.drop i).foldl (Zix l r) n),[]):=by
 refine down _ ?_ ?_
 .intro n;refine Z0a ?_;simp
 .intro i hi ih n;refine Z0a ?_;have h4:=Zbv (i:=i) (by omega);rw[Yj hi,List.foldl_cons];simp only[Ys,Yt]at ih;by_cases e:st[i].From<=w (l+r)
  .simp[hi,h4,e,ih,Zix]
  .simp[hi,h4,e,ih,Zix]
@[simp] theorem Zbcn(o:Zc)(hl:Le o.Steps)(l r n:Int):Zhy o l r n=some (I (Zmo o l r n),[]):=by
 refine Z8z ?_;have b:=Zba6 l r o.Steps hl 0 (Yd _) (Zjw o l r n);simpa[Zmo,Zjw]using b
@[simp] theorem Z1z(o:Zc)(hl:Le o.Steps)(l r n:Int):Zcx o l r n=some (I (Zdi o l r n),[]):=by
 refine Z86 ?_;unfold Zdi;rcases tf (Zbn o)with e1|e1<;>rcases tf (inR l 0 4096)with e2|e2<;>rcases tf (inR r 0 4096)with e3|e3<;>rcases tf (inR n 0 4096)with e4|e4<;>simp[hl,e1,e2,e3,e4]
theorem Zba7(o:Zc)(l r:Int)(hl:Le o.Steps):∀i,i<=o.Steps.length->∀n,Zfi o l r n i=some (I ((o.Steps.drop i).foldl (Zix l r) n),[]):=by
 refine down _ ?_ ?_
 .intro n;refine Z0i ?_;simp
 .intro i hi ih n;refine Z0i ?_;have h4:=Zbv (i:=i) (by omega);rw[Yj hi,List.foldl_cons];simp only[Ys,Yt]at ih;by_cases e:o.Steps[i].From<=w (l+r)
  .simp[hi,h4,e,ih,Zix]
  .simp[hi,h4,e,ih,Zix]
@[simp] theorem Zsz(o:Zc)(hl:Le o.Steps)(l r n:Int):Zee o l r n=some (I (Zdi o l r n),[]):=by
 refine Z9f ?_;have b:=Zba7 o l r hl 0 (Yd _) (Zjw o l r n);simp only[Yn,Zjw]at b;have b:Zfi o l r _ 0=_:=b;unfold Zdi;rcases tf (Zbn o)with e1|e1<;>rcases tf (inR l 0 4096)with e2|e2<;>rcases tf (inR r 0 4096)with e3|e3<;>rcases tf (inR n 0 4096)with e4|e4<;>simp[hl,e1,e2,e3,e4,b,Zmo,Zjw]
end Go.Proofs.Ytdbnflilbkjbhaa
