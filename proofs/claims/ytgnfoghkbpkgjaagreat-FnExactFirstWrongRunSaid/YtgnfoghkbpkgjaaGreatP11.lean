/-
  Parts of the proofs for this seat: V3 V4 V5 V6 OP AD DB EV STL STM PS1.
-/
import Derived.Sort.LotA
import Derived.Test.YtgnfoghkbpkgjaaGreatP10
set_option linter.unusedSimpArgs false
set_option linter.unusedVariables false
set_option maxRecDepth 100000
set_option maxHeartbeats 4000000
namespace Go.Proofs.YtgnfoghkbpkgjaaGreat
open Go.AM
theorem l_vars0(q:Zd)(m:Int)(hl:Le q.Atoms)(hv:∀a∈q.Atoms,Le a.Vars)(v:Nat)(hv4:v<8)(out:List Int)(ho:out.length≤8)(r:AV×List Blk):∀i,i≤q.Atoms.length →
  Zgz q (out++if hasV m (q.Atoms.drop i) i v=true then[(v:Int)]else[]) m (w ((v:Int)+1))=some r →
  Zks q out m v q.Atoms q.Atoms.length i=some r:=by
 refine down _ ?_ ?_
 ·intro h;refine Z75 ?_;simpa[hasV]using h
 ·intro i hi ih h;refine Z75 ?_;have h4:=Zbp (i:=i) (by omega);have c1:=Zpj q.Atoms[i].Vars v (hv _ (Yc hi));have h0:¬(i:Int)<0:=by omega
  rw[Z3x _ hi]at h;by_cases e1:andI (shrI m i) 1=1
  ·have e2:Zb5 m i=true:=by simp[Zb5,e1]
   rcases tf (has q.Atoms[i].Vars v)with e3|e3
   ·simp[e2,e3]at h;have ih:=ih (by simpa using h);simp at ih;simp[hi,h4,h0,e1,c1,e3,ih]
   ·simp[e2,e3]at h;have e4:out.length+1≤68719476736:=by omega
    simp[hi,h4,h0,e1,c1,e3,e4,h]
  ·have e2:Zb5 m i=false:=by simp[Zb5,e1]
   simp[e2]at h;have ih:=ih (by simpa using h);simp at ih;simp[hi,h4,h0,e1,ih]
theorem l_vars1(q:Zd)(m:Int)(hl:Le q.Atoms)(hv:∀a∈q.Atoms,Le a.Vars)(n:Nat)(hq:q.Zn=n)(hn:n≤4):∀k,k≤n →
  Zgz q (varL m q.Atoms k) m k=some (.own 0,[.arr Zby 1 true ((varL m q.Atoms n).map ic)]):=by
 refine down _ ?_ ?_
 ·refine Z74 ?_;simp[hq]
 ·intro k hk ih;refine Z74 ?_;have h4:=Zbp (i:=k) (by omega)
  have b:=l_vars0 q m hl hv k (by omega) (varL m q.Atoms k) (by have:=Zko m q.Atoms k;omega) _ 0 (Ya _) (by
   rw[Yl,←Zbhb,show w ((k:Int)+1)=(k:Int)+1 from h4];simpa using ih)
  simp at b;simp[hq,hk,b]
@[simp] theorem Zz2(q:Zd)(m:Int)(h:LeQ q)(hv:Zw q.Zn q.Atoms=true):Zkr q m=some (.own 0,[.arr Zby 1 true ((varL m q.Atoms q.Zn.toNat).map ic)]):=by
 refine Zbmj ?_;have hn:=Zic hv;have b:=l_vars1 q m h.1 h.2 q.Zn.toNat (by omega) (by omega) 0 (Ya _);simpa[varL]using b
theorem l_both(b xs:List Int)(hb:Le b)(hx:xs.length≤1000000):∀i,i≤xs.length →
  Zkt ((xs.take i).filter (has b)) b xs xs.length i=some (.own 0,[.arr Zby 1 true ((xs.filter (has b)).map ic)]):=by
 refine down _ ?_ ?_
 ·refine Z76 ?_;simp
 ·intro i hi ih;refine Z76 ?_;have h4:=Zbp (i:=i) (by omega);have c1:=Zpj b xs[i] hb;have e4:((xs.take i).filter (has b)).length+1≤68719476736:=by
   have:=Yc5 (has b) (xs.take i);simp at this;omega
  rw[Zbhc _ hi]at ih;rcases tf (has b xs[i])with e|e
  ·simp[e]at ih;simp[hi,h4,c1,e,ih]
  ·simp[e]at ih;simp[hi,h4,c1,e,e4,ih]
@[simp] theorem x_both(xs b:List Int)(hb:Le b)(hx:xs.length≤1000000):Zq4 xs b=some (.own 0,[.arr Zby 1 true ((xs.filter (has b)).map ic)]):=by
 refine Zbmk ?_;have:=l_both b xs hb hx 0 (Ya _);simpa using this
theorem l_bits0(q:Zd)(m:Int)(hv:∀a∈q.Atoms,Le a.Vars)(h4v:Var4 q.Atoms)(i:Nat)(hi:i<q.Atoms.length)(hm:Zb5 m i=true)(r:AV×List Blk):∀k,k≤q.Atoms[i].Vars.length→∀p,
  Zjc q m (Zbd (addV p (q.Atoms[i].Vars.drop k))) (w ((i:Int)+1))=some r→Zlf q m (Zbd p) i k=some r:=by
 have e1:andI (shrI m i) 1=1:=by simpa[Zb5]using hm
 have h0:¬(i:Int)<0:=by omega
 have ha:=Yc hi;refine down _ ?_ ?_
 ·intro p h;refine Zzs ?_;rw[Yu,Zu9]at h;simp[hi,h]
 ·intro k hk ih p h;refine Zzs ?_;have h4:=Zbp (i:=k) (by have:=hv _ ha;omega);have e6:=or_bit p (v:=q.Atoms[i].Vars[k]) (h4v _ ha _ (Yc hk));have e7:=h4v _ ha _ (Yc hk);simp[inR]at e7;have e8:¬q.Atoms[i].Vars[k]<0:=by omega
  rw[Zva p hk]at h;have ih:=ih _ h;simp at ih;simp[hi,hk,h0,e1,h4,e6,e7,e8,ih]
theorem l_bits1(q:Zd)(m:Int)(hl:Le q.Atoms)(hv:∀a∈q.Atoms,Le a.Vars)(h4v:Var4 q.Atoms):∀i,i≤q.Atoms.length→∀p,
  Zjc q m (Zbd p) i=some (I (Zbd (addM m p q.Atoms i)),[]):=by
 refine down _ ?_ ?_
 ·intro p;refine Z9q ?_;have e:addM m p q.Atoms q.Atoms.length=p:=by funext u;simp[addM,hasV]
  simp[e]
 ·intro i hi ih p;refine Z9q ?_;have h4:=Zbp (i:=i) (by omega);have h0:¬(i:Int)<0:=by omega
  rw[Zbha m p hi];rcases tf (Zb5 m i)with e|e
  ·have e1:¬andI (shrI m i) 1=1:=by simpa[Zb5]using e
   have ih:=ih p;simp at ih;have b:Zlf q m (Zbd p) i 0=some (I (Zbd (addM m p q.Atoms (i+1))),[]):=by
    refine Zzs ?_;simp[hi,h0,e1,h4,ih]
   simp[hi,e,b]
  ·have ih:=ih (addV p q.Atoms[i].Vars);have b:=l_bits0 q m hv h4v i hi e _ 0 (Ya _) p (by rw[Yl,show w ((i:Int)+1)=(i:Int)+1 from h4];simpa using ih);simp at b;simp[hi,e,b]
@[simp] theorem Zsy(q:Zd)(m:Int)(h:LeQ q)(h4v:Var4 q.Atoms):Zd6 q m=some (I (Zbd (pV m q.Atoms)),[]):=by
 refine Zbn9 ?_;have b:=l_bits1 q m h.1 h.2 h4v 0 (Ya _) (fun _=>false);have ez:Zbd (fun _=>false)=0:=rfl;have e:addM m (fun _=>false) q.Atoms 0=pV m q.Atoms:=by funext u;simp[addM,pV]
 rw[ez,e]at b;simpa using b
theorem Zbpv(q:Zd)(hq:LeQ q)(h:Zw q.Zn q.Atoms=true)(x:Zg)(info:List Zb)(st:List Int)(hs:StOk info st)(hil:info.length≤100)(hst:st.length≤100) :
  match Zdd q.Atoms x info st with
  |some y=>Zku q x info st=some (.tup [.agg (y.c.map .t),Bo true],[])
  |none=>∃y:Zb,Zku q x info st=some (.tup [.agg (y.c.map .t),Bo false],[]):=by
 have hl:=Zfh h;have wl:w ((q.Atoms.length:Int)-1)=(q.Atoms.length:Int)-1:=Zt (by omega) (by omega);unfold Zdd;by_cases k1:x.Kind=1
 ·rw[if_pos k1];by_cases c1:inR x.Atom 0 (q.Atoms.length-1)=true∧x.Order=0
  ·rw[if_pos c1];have c2:=c1.1;simp[inR]at c2;have hlt:x.Atom.toNat<q.Atoms.length:=by omega
   have hv:=Zng h _ (Yc hlt);have h0:¬x.Atom<0:=by omega
   simp only;refine Zhu ?_;have e:q.Atoms[x.Atom.toNat].Vars.headD 0=q.Atoms[x.Atom.toNat].Vars[0]'(by omega):=by
    rw[Ydq,hd0 (by omega)]
   rw[Ydq]at e;simp[k1,wl,c1,h0,hlt,c2,e,show 0<q.Atoms[x.Atom.toNat].Vars.length by omega]
  ·rw[if_neg c1];refine⟨⟨0,-1,-1,-1⟩,Zhu ?_⟩;rcases tf (inR x.Atom 0 (q.Atoms.length-1))with e|e
   ·simp[k1,wl,e]
   ·have e2:¬x.Order=0:=fun hc=>c1 ⟨e,hc⟩
    simp[k1,wl,e,e2]
 rw[if_neg k1];by_cases k0:x.Atom=0
 rotate_left
 ·rw[if_pos k0];exact⟨⟨0,-1,-1,-1⟩,Zhu (by simp[k1,k0])⟩
 rw[if_neg (by simpa using k0)];have w1:w ((st.length:Int)-1)=(st.length:Int)-1:=Zt (by omega) (by omega);have w2:w ((st.length:Int)-2)=(st.length:Int)-2:=Zt (by omega) (by omega);by_cases k2:x.Kind=2
 ·rw[if_pos k2];by_cases n1:st.length<1
  ·have:Zc3 st info 1=none:=by unfold Zc3;rw[if_neg (by omega)]
   rw[this];have n1':(st.length:Int)<1:=by omega
   exact⟨⟨0,-1,-1,-1⟩,Zhu (by simp[k1,k2,k0,n1'])⟩
  ·have n1':¬(st.length:Int)<1:=by omega
   obtain⟨s,y,t1,t2,t3,t4⟩:=Zid hs (by omega:1≤1) (by omega:1≤st.length);have z1:(0:Int)≤(st.length:Int)-1:=by omega
   have z5:(1:Int)≤(st.length:Int):=by omega
   have z2:((st.length:Int)-1).toNat=st.length-1:=by omega
   have q1:=Zz2 q y.Mask hq h;have q2:=Zpj (varL y.Mask q.Atoms q.Zn.toNat) x.Order (by have:=Zko y.Mask q.Atoms q.Zn.toNat;have:=Zic h;omega);rw[Zkp h]at q2;rw[t1];simp only;by_cases c1:vin q.Atoms y.Mask x.Order=true∧y.Order≠x.Order
   ·rw[if_pos c1];refine Zhu ?_;simp[k1,k2,k0,n1',w1,z1,z2,z5,t2,t3,t4,q1,q2,c1]
   ·rw[if_neg c1];refine⟨⟨0,-1,-1,-1⟩,Zhu ?_⟩;rcases tf (vin q.Atoms y.Mask x.Order)with e|e
    ·simp[k1,k2,k0,n1',w1,z1,z2,z5,t2,t3,t4,q1,q2,e]
    ·have e2:y.Order=x.Order:=Decidable.byContradiction fun hc=>c1 ⟨e,hc⟩
     simp[k1,k2,k0,n1',w1,z1,z2,z5,t2,t3,t4,q1,q2,e,e2]
 rw[if_neg k2];by_cases n2:st.length<2
 ·have:Zc3 st info 2=none:=by unfold Zc3;rw[if_neg (by omega)]
  rw[this];have n2':(st.length:Int)<2:=by omega
  exact⟨⟨0,-1,-1,-1⟩,Zhu (by simp[k1,k2,k0,n2'])⟩
 have n2':¬(st.length:Int)<2:=by omega
 obtain⟨s,y,t1,t2,t3,t4⟩:=Zid hs (by omega:1≤2) (by omega:2≤st.length);obtain⟨t,z,u1,u2,u3,u4⟩:=Zid hs (by omega:1≤1) (by omega:1≤st.length);have z1:(0:Int)≤(st.length:Int)-1:=by omega
 have z2:((st.length:Int)-1).toNat=st.length-1:=by omega
 have z3:(0:Int)≤(st.length:Int)-2:=by omega
 have z4:((st.length:Int)-2).toNat=st.length-2:=by omega
 have hn:=Zic h;have q1:=Zz2 q y.Mask hq h;have q2:=Zz2 q z.Mask hq h;have l1:=Zko y.Mask q.Atoms q.Zn.toNat;have l2:=Zko z.Mask q.Atoms q.Zn.toNat;have q3:=x_both (varL y.Mask q.Atoms q.Zn.toNat) (varL z.Mask q.Atoms q.Zn.toNat) (by omega) (by omega)
 have q4:=Zpj ((varL y.Mask q.Atoms q.Zn.toNat).filter (has (varL z.Mask q.Atoms q.Zn.toNat))) x.Order (by
  have:=Yc5 (has (varL z.Mask q.Atoms q.Zn.toNat)) (varL y.Mask q.Atoms q.Zn.toNat);omega)
 rw[Zbhe h]at q4;have q5:=Zbhd h y.Mask z.Mask;generalize hS:(varL y.Mask q.Atoms q.Zn.toNat).filter (has (varL z.Mask q.Atoms q.Zn.toNat))=S at q3 q4 q5;rw[t1,u1];simp only
 have base:∀(r:AV×List Blk),(if andI y.Mask z.Mask=0 then
    if((S.length:Int)=0)then some (.tup [.agg [I (orI y.Mask z.Mask),I (-1),I s,I t],Bo false],[])=some r
    else if x.Kind=3 then some (.tup [.agg [I (orI y.Mask z.Mask),I (-1),I s,I t],Bo (decide (x.Order=0))],[])=some r
    else if x.Kind=5 then some (.tup [.agg [I (orI y.Mask z.Mask),I y.Order,I s,I t],Bo (decide (x.Order=0))],[])=some r
    else if x.Kind=4 then
     if(vin q.Atoms y.Mask x.Order && vin q.Atoms z.Mask x.Order)=true then
      if y.Order=x.Order then some (.tup [.agg [I (orI y.Mask z.Mask),I x.Order,I s,I t],Bo (decide (z.Order=x.Order))],[])=some r
      else some (.tup [.agg [I (orI y.Mask z.Mask),I x.Order,I s,I t],Bo false],[])=some r
     else some (.tup [.agg [I (orI y.Mask z.Mask),I x.Order,I s,I t],Bo false],[])=some r
    else some (.tup [.agg [I (orI y.Mask z.Mask),I (-1),I s,I t],Bo false],[])=some r
   else some (.tup [.agg [I (orI y.Mask z.Mask),I (-1),I s,I t],Bo false],[])=some r)→Zku q x info st=some r:=by
  intro r hr;refine Zhu ?_;simp only[k1,k0,k2,if_false,if_true,n2',w1,w2,z1,z2,z3,z4,t2,t3,t4,u2,u3,u4,q1,q2,true_and,Ybj,exists_eq_left'];refine⟨_,rfl,_,rfl,S,?_,?_⟩
  ·simpa using q3
  ·simp only[q4,Ybj,Ybz,AV.t.injEq,T.bool.injEq,and_true,exists_eq_left'];simpa using hr
 by_cases c1:andI y.Mask z.Mask=0∧shr q.Atoms y.Mask z.Mask=true
 rotate_left
 ·rw[if_neg c1];refine⟨⟨orI y.Mask z.Mask,-1,s,t⟩,base _ ?_⟩;by_cases c2:andI y.Mask z.Mask=0
  ·have c3:S.length=0:=q5.2 (by rcases tf (shr q.Atoms y.Mask z.Mask)with e|e;exact e;exact absurd ⟨c2,e⟩ c1);have c4:(S.length:Int)=0:=by omega
   rw[if_pos c2,if_pos c4];simp
  ·rw[if_neg c2];simp
 rw[if_pos c1];have c4:¬(S.length:Int)=0:=fun hc=>by
  have:=q5.1 (by omega);rw[c1.2]at this;cases this
 have c5:¬S=[]:=fun hc=>c4 (by simp[hc])
 unfold Zd3;by_cases j1:x.Kind=3∧x.Order=0
 ·rw[if_pos j1];exact base _ (by simp[c1.1,c4,c5,j1])
 rw[if_neg j1];by_cases j2:x.Kind=5∧x.Order=0
 ·rw[if_pos j2];exact base _ (by simp[c1.1,c4,c5,j2])
 rw[if_neg j2];by_cases j3:x.Kind=4∧vin q.Atoms y.Mask x.Order=true∧vin q.Atoms z.Mask x.Order=true∧y.Order=x.Order∧z.Order=x.Order
 ·rw[if_pos j3];exact base _ (by simp[c1.1,c4,c5,j3])
 rw[if_neg j3];simp only[Option.map_none];by_cases k3:x.Kind=3
 ·have e:¬x.Order=0:=fun hc=>j1 ⟨k3,hc⟩
  exact⟨⟨orI y.Mask z.Mask,-1,s,t⟩,base _ (by simp[c1.1,c4,c5,k3,e])⟩
 by_cases k5:x.Kind=5
 ·have e:¬x.Order=0:=fun hc=>j2 ⟨k5,hc⟩
  exact⟨⟨orI y.Mask z.Mask,y.Order,s,t⟩,base _ (by simp[c1.1,c4,c5,k5,e])⟩
 by_cases k4:x.Kind=4
 ·refine⟨⟨orI y.Mask z.Mask,x.Order,s,t⟩,base _ ?_⟩;rcases tf (vin q.Atoms y.Mask x.Order)with e1|e1<;>rcases tf (vin q.Atoms z.Mask x.Order)with e2|e2<;>by_cases e3:y.Order=x.Order<;>simp[c1.1,c4,c5,k4,e1,e2,e3];exact fun e4=>j3 ⟨k4,e1,e2,e3,e4⟩
 ·exact⟨⟨orI y.Mask z.Mask,-1,s,t⟩,base _ (by simp[c1.1,c4,c5,k3,k4,k5])⟩
@[simp] theorem Zsz(b v:Int):Zlg b v=some (Bo (inR v 0 3 && decide (andI (shrI b v) 1=1)),[]):=by
 refine Zboa ?_;rcases tf (inR v 0 3)with e|e
 ·simp[e]
 ·have e0:=e;simp[inR]at e0;have:¬v<0:=by omega
  simp[e,this]
def Zbj(x:Zg):Option Zb→AV×List Blk
 |some y=>(.tup [.agg (y.c.map .t),I (popsI x)],[])
 |none=>(.tup [.agg [I 0,I 0,I 0,I 0],I (-1)],[])
theorem Zbpw(q:Zd)(hq:LeQ q)(h:Zw q.Zn q.Atoms=true)(x:Zg)(info:List Zb)(st:List Int)(hs:StOk info st)(hil:info.length≤100)(hst:st.length≤100) :
  Zhk q x info st=some (Zbj x (Zdd q.Atoms x info st)):=by
 have hl:=Zfh h;have wl:w ((q.Atoms.length:Int)-1)=(q.Atoms.length:Int)-1:=Zt (by omega) (by omega);unfold Zdd;by_cases k1:x.Kind=1
 ·rw[if_pos k1];by_cases c1:inR x.Atom 0 (q.Atoms.length-1)=true∧x.Order=0
  ·rw[if_pos c1];have c2:=c1.1;simp[inR]at c2;have hlt:x.Atom.toNat<q.Atoms.length:=by omega
   have hv:=Zng h _ (Yc hlt);have h0:¬x.Atom<0:=by omega
   refine Zfm ?_;have e:q.Atoms[x.Atom.toNat].Vars.headD 0=q.Atoms[x.Atom.toNat].Vars[0]'(by omega):=by
    rw[Ydq,hd0 (by omega)]
   rw[Ydq]at e;simp[k1,wl,c1,h0,hlt,c2,e,Zbj,popsI,show 0<q.Atoms[x.Atom.toNat].Vars.length by omega]
  ·rw[if_neg c1];refine Zfm ?_;rcases tf (inR x.Atom 0 (q.Atoms.length-1))with e|e
   ·simp[k1,wl,e,Zbj]
   ·have e2:¬x.Order=0:=fun hc=>c1 ⟨e,hc⟩
    simp[k1,wl,e,e2,Zbj]
 rw[if_neg k1];have w1:w ((st.length:Int)-1)=(st.length:Int)-1:=Zt (by omega) (by omega);have w2:w ((st.length:Int)-2)=(st.length:Int)-2:=Zt (by omega) (by omega);by_cases k0:x.Atom=0
 rotate_left
 ·rw[if_pos k0];refine Zfm ?_;have j:∀b,Zjd q x ⟨0,0,0,0⟩ info st st.length x.Kind b=some (Zbj x none):=by
   intro b;refine Zph ?_;cases b<;>simp[k0,Zbj]
  by_cases k2:x.Kind=2
  ·simp[k1,k2,k0,Zbj]
  ·by_cases k3:x.Kind=3<;>by_cases k4:x.Kind=4<;>simp[k1,k2,k0,k3,k4,j]<;>first|(simp only[k3]at j;simp[j,Zbj])|(simp only[k4]at j;simp[j,Zbj])|simp[Zbj]
 rw[if_neg (by simpa using k0)];by_cases k2:x.Kind=2
 ·rw[if_pos k2];refine Zfm ?_;by_cases n1:st.length<1
  ·have:Zc3 st info 1=none:=by unfold Zc3;rw[if_neg (by omega)]
   rw[this];have n1':(st.length:Int)<1:=by omega
   simp[k1,k2,k0,n1',Zbj]
  ·have n1':¬(st.length:Int)<1:=by omega
   obtain⟨s,y,t1,t2,t3,t4⟩:=Zid hs (by omega:1≤1) (by omega:1≤st.length);have z1:(0:Int)≤(st.length:Int)-1:=by omega
   have z5:(1:Int)≤(st.length:Int):=by omega
   have z2:((st.length:Int)-1).toNat=st.length-1:=by omega
   have q1:=Zsy q y.Mask hq (Znh h);have q2:(inR x.Order 0 3 && decide (andI (shrI (Zbd (pV y.Mask q.Atoms)) x.Order) 1=1))=vin q.Atoms y.Mask x.Order:=by
    unfold vin;rcases tf (inR x.Order 0 3)with e|e
    ·simp[e]
    ·rw[e,Yv,Yv,Yb8,decide_eq_true_eq];exact at_bit _ e
   rw[t1];simp only;by_cases e2:y.Order=x.Order
   ·simp[k1,k2,k0,n1',w1,z1,z2,z5,t2,t3,t4,e2,Zbj]
   ·rcases tf (vin q.Atoms y.Mask x.Order)with e|e
    ·simp only[k1,k2,k0,n1',w1,z1,z2,t2,t3,t4,q1,Zsz,q2,e,e2,if_false,if_true,true_and,Ybj,exists_eq_left',Ybz,AV.t.injEq,T.int.injEq,T.bool.injEq,and_true];simp[Zbj]
    ·simp only[k1,k2,k0,n1',w1,z1,z2,t2,t3,t4,q1,Zsz,q2,e,e2,if_false,if_true,true_and,Ybj,exists_eq_left',Ybz,AV.t.injEq,T.int.injEq,T.bool.injEq,and_true];simp[Zbj,popsI,k1,k2,e2]
 rw[if_neg k2]
 -- a join
 have q0:∀(b:Zb) (c:Zb) (y:Zb) (f:Bool),x.Kind=4→∀m1 m2,Zhl q x ⟨0,0,0,0⟩ b c y (andI (Zbd (pV m1 q.Atoms)) (Zbd (pV m2 q.Atoms))) f =
   if vin q.Atoms m1 x.Order=true∧vin q.Atoms m2 x.Order=true∧b.Order=x.Order∧c.Order=x.Order then some (.tup [.agg [I y.Mask,I x.Order,I y.Left,I y.Right],I 2],[])else some (Zbj x none):=by
  intro b c y f k4 m1 m2;have e:(inR x.Order 0 3 && decide (andI (shrI (andI (Zbd (pV m1 q.Atoms)) (Zbd (pV m2 q.Atoms))) x.Order) 1=1))=(vin q.Atoms m1 x.Order && vin q.Atoms m2 x.Order):=by
   unfold vin;rcases tf (inR x.Order 0 3)with e|e
   ·simp[e]
   ·rw[e,Yv,Yv,Yv,Yb8,decide_eq_true_eq,Z3t];simpa using at_bit (fun u=>pV m1 q.Atoms u && pV m2 q.Atoms u) e
  split
  ·rename_i hc;refine Zzt ?_;simp only[Zsz,e,hc];simp[k4]
  ·rename_i hc;refine Zzt ?_;simp only[Zsz,e];rcases tf (vin q.Atoms m1 x.Order)with e1|e1<;>rcases tf (vin q.Atoms m2 x.Order)with e2|e2<;>by_cases e3:b.Order=x.Order<;>by_cases e4:c.Order=x.Order<;>simp[k4,e1,e2,e3,e4,Zbj];exact hc ⟨e1,e2,e3,e4⟩
 have q3:∀(b:Zb) (c:Zb) (y:Zb) (v:Int) (f:Bool),x.Kind≠4→Zhl q x ⟨0,0,0,0⟩ b c y v f=some (.tup [.agg (y.c.map .t),I 2],[]):=by
  intro b c y v f k4;exact Zzt (by simp[k4])
 have q5:∀(b:Zb) (c:Zb) (y:Zb) (v:Int),x.Kind≠4→Zlh q x ⟨0,0,0,0⟩ b c y v=some (.tup [.agg (y.c.map .t),I 2],[]):=by
  intro b c y v k4;exact Zbob (by simp[k4])
 by_cases kk:x.Kind=3∨x.Kind=4∨x.Kind=5
 rotate_left
 ·have k3:¬x.Kind=3:=fun hc=>kk (.inl hc)
  have k4:¬x.Kind=4:=fun hc=>kk (.inr (.inl hc))
  have k5:¬x.Kind=5:=fun hc=>kk (.inr (.inr hc))
  have hj:∀y z,Zd3 q.Atoms x y z=none:=by intro y z;simp[Zd3,k3,k4,k5]
  refine Yb (b:=some (Zbj x none)) (Zfm (by simp[k1,k2,k3,k4,k5,Zbj])) ?_;simp only[hj,Option.map_none,ite_self];split<;>rfl
 have k5':x.Kind≠3→x.Kind≠4→x.Kind=5:=fun a b=>by rcases kk with h|h|h;exact absurd h a;exact absurd h b;exact h
 have red:∀r,Zjd q x ⟨0,0,0,0⟩ info st st.length x.Kind true=some r→(x.Kind=5→Zhk q x info st=some r)→Zhk q x info st=some r:=by
  intro r hr h5;by_cases k5:x.Kind=5
  ·exact h5 k5
  ·refine Zfm ?_;by_cases k3:x.Kind=3
   ·rw[if_neg k1,if_neg k2,if_pos k3];exact hr
   ·by_cases k4:x.Kind=4
    ·rw[if_neg k1,if_neg k2,if_neg k3,if_pos k4];exact hr
    ·exact absurd (k5' k3 k4) k5
 by_cases n2:st.length<2
 ·have:Zc3 st info 2=none:=by unfold Zc3;rw[if_neg (by omega)]
  rw[this];have n2':(st.length:Int)<2:=by omega
  refine red _ ?_ ?_
  ·exact Zph (by simp[k0,n2',Zbj])
  ·intro k5;exact Zfm (by simp[k5,k0,n2',Zbj])
 have n2':¬(st.length:Int)<2:=by omega
 obtain⟨s,y,t1,t2,t3,t4⟩:=Zid hs (by omega:1≤2) (by omega:2≤st.length);obtain⟨t,z,u1,u2,u3,u4⟩:=Zid hs (by omega:1≤1) (by omega:1≤st.length);have z1:(0:Int)≤(st.length:Int)-1:=by omega
 have z2:((st.length:Int)-1).toNat=st.length-1:=by omega
 have z3:(0:Int)≤(st.length:Int)-2:=by omega
 have z4:((st.length:Int)-2).toNat=st.length-2:=by omega
 have b1:=Zsy q y.Mask hq (Znh h);have b2:=Zsy q z.Mask hq (Znh h);have b3:=shr_bits q.Atoms y.Mask z.Mask;rw[t1,u1];simp only;by_cases c1:andI y.Mask z.Mask=0
 rotate_left
 ·rw[if_neg (fun hc=>c1 hc.1)];refine red _ ?_ ?_
  ·refine Zph ?_;simp only[k0,n2',w1,w2,z1,z2,z3,z4,t2,t3,t4,u2,u3,u4,b1,b2,c1,if_true,if_false,true_and,Ybj,exists_eq_left',Ybz,AV.t.injEq,T.int.injEq,and_true];simp[Zbj]
  ·intro k5;refine Zfm ?_;simp only[k5,k0,n2',w1,w2,z1,z2,z3,z4,t2,t3,t4,u2,u3,u4,b1,b2,c1,if_true,if_false,true_and,Ybj,exists_eq_left',Ybz,AV.t.injEq,T.int.injEq,and_true];simp[Zbj]
 rcases tf (shr q.Atoms y.Mask z.Mask)with c2|c2
 ·rw[if_neg (fun hc=>by rw[hc.2]at c2;cases c2)];have c3:=b3.2 c2;refine red _ ?_ ?_
  ·refine Zph ?_;simp only[k0,n2',w1,w2,z1,z2,z3,z4,t2,t3,t4,u2,u3,u4,b1,b2,c1,c3,if_true,if_false,true_and,Ybj,exists_eq_left',Ybz,AV.t.injEq,T.int.injEq,and_true];simp[Zbj]
  ·intro k5;refine Zfm ?_;simp only[k5,k0,n2',w1,w2,z1,z2,z3,z4,t2,t3,t4,u2,u3,u4,b1,b2,c1,c3,if_true,if_false,true_and,Ybj,exists_eq_left',Ybz,AV.t.injEq,T.int.injEq,and_true];simp[Zbj]
 rw[if_pos ⟨c1,c2⟩];have c3:¬andI (Zbd (pV y.Mask q.Atoms)) (Zbd (pV z.Mask q.Atoms))=0:=fun hc=>by rw[b3.1 hc]at c2;cases c2
 have p2:popsI x=2:=by unfold popsI;rw[if_neg k1,if_neg k2]
 refine red _ ?_ ?_
 ·refine Zph ?_;simp only[k0,n2',w1,w2,z1,z2,z3,z4,t2,t3,t4,u2,u3,u4,b1,b2,c1,c3,if_true,if_false,true_and,Ybj,exists_eq_left',Ybz,AV.t.injEq,T.int.injEq,and_true];by_cases k4:x.Kind=4
  ·have k3:¬x.Kind=3:=by omega
   have k5:¬x.Kind=5:=by omega
   rw[if_pos k4,q0 _ _ _ _ k4];simp only[Zd3,k3,k4,k5,false_and,true_and,if_false];split
   ·rename_i hc;simp[Zbj,p2]
   ·rfl
  ·by_cases e:x.Order=0
   ·by_cases k5:x.Kind=5
    ·rw[if_neg k4,if_pos e,if_pos k5,q5 _ _ _ _ k4];simp[Zd3,k5,e,Zbj,p2]
    ·have k3:x.Kind=3:=by omega
     rw[if_neg k4,if_pos e,if_neg k5,q3 _ _ _ _ _ k4];simp[Zd3,k3,e,Zbj,p2]
   ·rw[if_neg k4,if_neg e];simp[Zd3,k4,e,Zbj]
 ·intro k5;refine Zfm ?_;have k4:x.Kind≠4:=by omega
  simp only[k5,k0,n2',w1,w2,z1,z2,z3,z4,t2,t3,t4,u2,u3,u4,b1,b2,c1,c3,if_true,if_false,true_and,Ybj,exists_eq_left',Ybz,AV.t.injEq,T.int.injEq,and_true];by_cases e:x.Order=0
  ·simp[e,q5 _ _ _ _ k4,Zd3,k5,Zbj,p2]
  ·simp[e,Zd3,k5,Zbj]
theorem Zbpx(q:Zd)(hq:LeQ q)(h:Zw q.Zn q.Atoms=true)(p:Plan)(hl:p.Steps.length≤14):∀i,i≤p.Steps.length→∀info st,StOk info st→info.length=i→st.length≤i →
  Zog q p info st i=some (match Zcb q.Atoms (p.Steps.drop i) i info st with
   |some (info',st')=>if st'.length=1 then(.tup [.own 0,Bo true],[.arr Zig 4 true (info'.map Zb.c)])else(.tup [.own 0,Bo false],[.arr Zig 4 true []])
   |none=>(.tup [.own 0,Bo false],[.arr Zig 4 true []])):=by
 refine down _ ?_ ?_
 ·intro info st _ _ _;rw[Yu,Zcb];refine Z9r ?_;by_cases c:st.length=1
  ·simp[c]
  ·have c':¬(st.length:Int)=1:=by omega
   simp[c,c']
 ·intro i hi ih info st hs hil hst;have h5:=Zbp (i:=i) (by omega);have s1:=Zbpw q hq h p.Steps[i] info st hs (by omega) (by omega);rw[Z3z q.Atoms hi];refine Z9r ?_
  cases he:Zdd q.Atoms p.Steps[i] info st with
  |none =>
   rw[he,Zbj]at s1;have e0:Zhk q p.Steps[i] info st=some (.tup [.agg ((⟨0,0,0,0⟩:Zb).c.map .t),I (-1)],[]):=s1;rw[if_pos (by omega)];refine⟨by omega,_,Yh hi,_,_,e0,?_⟩
   simp
  |some y =>
   rw[he,Zbj]at s1;obtain⟨f1,f2,f3⟩:=Zvd hs he;rw[f1]at s1;have hn:=Zqs hs y (st.length-pops y);rw[hil]at hn;have ih:=ih (info++[y]) (st.take (st.length-pops y)++[(i:Int)]) hn (by simp[hil]) (st_len hst _);have w2:w ((st.length:Int)-(pops y:Int))=(st.length:Int)-(pops y:Int):=Zt (by omega) (by omega);have z2:((st.length:Int)-(pops y:Int)).toNat=st.length-pops y:=by omega
   rw[if_pos (by omega)];refine⟨by omega,_,Yh hi,_,_,s1,?_⟩;rw[if_neg (by omega),w2,z2];refine⟨by omega,by omega,by omega,by omega,by omega,?_⟩;rw[show w ((i:Int)+1)=(i:Int)+1 from h5];simpa using ih
@[simp] theorem Zba6(q:Zd)(p:Plan)(hq:LeQ q):Zof q p=some (match Zcf q.Zn q.Atoms p.Steps with
  |some info=>(.tup [.own 0,Bo true],[.arr Zig 4 true (info.map Zb.c)])
  |none=>(.tup [.own 0,Bo false],[.arr Zig 4 true []])):=by
 refine Zboc ?_;have q1:=Zz1 q hq;unfold Zcf;rcases tf (Zw q.Zn q.Atoms)with e|e
 ·simp[q1,e]
 rcases tf (inR p.Steps.length 1 14)with e2|e2
 ·simp[q1,e,e2]
 ·have e3:=e2;simp[inR]at e3;have b:=Zbpx q hq e p (by omega) 0 (Ya _) [] [] (fun s hs=>by cases hs) rfl (Yd _);simp only[Yl]at b;simp only[q1,e,e2,Zdj,Ybj,Ybz,AV.t.injEq,T.bool.injEq,and_true,exists_eq_left',if_true,and_self];refine Yb b ?_
  cases Zcb q.Atoms p.Steps 0 [] []with
  |none=>rfl
  |some r=>obtain⟨a,b⟩:=r;simp only;split<;>rfl
theorem Zbpy(q:Zd)(hq:LeQ q)(h:Zw q.Zn q.Atoms=true)(steps:List Zg)(hl:steps.length≤14):∀i,i≤steps.length→∀info st,StOk info st→info.length=i→st.length≤i →
  Zij q info st steps steps.length i=some (match Zcb q.Atoms (steps.drop i) i info st with
   |some (info',st')=>if st'.length=1 then(.tup [.own 0,Bo true],[.arr Zig 4 true (info'.map Zb.c)])else(.tup [.t .nil,Bo false],[])
   |none=>(.tup [.t .nil,Bo false],[])):=by
 refine down _ ?_ ?_
 ·intro info st _ _ _;rw[Yu,Zcb];refine Z77 ?_;by_cases c:st.length=1
  ·simp[c]
  ·have c':¬(st.length:Int)=1:=by omega
   simp[c,c']
 ·intro i hi ih info st hs hil hst;have h5:=Zbp (i:=i) (by omega);have s1:=Zbpv q hq h steps[i] info st hs (by omega) (by omega);rw[Z3z q.Atoms hi];refine Z77 ?_
  cases he:Zdd q.Atoms steps[i] info st with
  |none =>
   rw[he]at s1;obtain⟨y,s1⟩:=s1;rw[if_pos (by omega)];refine⟨by omega,_,Yh hi,_,_,s1,?_⟩
   simp
  |some y =>
   rw[he]at s1;obtain⟨f1,f2,f3⟩:=Zvd hs he;have hn:=Zqs hs y (st.length-pops y);rw[hil]at hn;have ih:=ih (info++[y]) (st.take (st.length-pops y)++[(i:Int)]) hn (by simp[hil]) (st_len hst _);rw[if_pos (by omega)];refine⟨by omega,_,Yh hi,_,_,s1,?_⟩;rw[if_pos rfl];refine⟨by omega,?_⟩;simp only;unfold pops at ih f2⊢;rw[show w ((i:Int)+1)=(i:Int)+1 from h5];by_cases r:0≤y.Right
   ·simp only[if_pos r]at ih f2⊢;have w2:w ((st.length:Int)-2)=(st.length:Int)-2:=Zt (by omega) (by omega);have z2:((st.length:Int)-2).toNat=st.length-2:=by omega
    rw[w2,z2];refine⟨by omega,by omega,by omega,by simpa using ih⟩
   ·simp only[if_neg r]at ih f2⊢;by_cases l:0≤y.Left
    ·simp only[if_pos l]at ih f2⊢;have w2:w ((st.length:Int)-1)=(st.length:Int)-1:=Zt (by omega) (by omega);have z2:((st.length:Int)-1).toNat=st.length-1:=by omega
     rw[w2,z2];refine⟨by omega,by omega,by omega,by simpa using ih⟩
    ·simp only[if_neg l]at ih f2⊢;exact⟨by omega,by simpa using ih⟩
@[simp] theorem Zba7(q:Zd)(p:Plan)(hq:LeQ q):Zkv q p=some (match Zcf q.Zn q.Atoms p.Steps with
  |some info=>(.tup [.own 0,Bo true],[.arr Zig 4 true (info.map Zb.c)])
  |none=>(.tup [.t .nil,Bo false],[])):=by
 refine Zbml ?_;have q1:=Zba5 q hq;unfold Zcf;rcases tf (Zw q.Zn q.Atoms)with e|e
 ·simp[q1,e]
 rcases tf (inR p.Steps.length 1 14)with e2|e2
 ·simp[q1,e,e2]
 ·have e3:=e2;simp[inR]at e3;have b:=Zbpy q hq e p.Steps (by omega) 0 (Ya _) [] [] (fun s hs=>by cases hs) rfl (Yd _);simp only[Yl]at b;simp only[q1,e,e2,Zc6,Ybj,Ybz,AV.t.injEq,T.bool.injEq,and_true,exists_eq_left',if_true,and_self];refine Yb b ?_
  cases Zcb q.Atoms p.Steps 0 [] []with
  |none=>rfl
  |some r=>obtain⟨a,b⟩:=r;simp only;split<;>rfl
theorem Zbpz(xs:List Int)(v:Int)(hx:Le xs):∀i,i≤xs.length→Zow xs v i=some (I (Zbi (fun x=>decide (v=x)) (xs.drop i) i),[]):=by
 refine down _ ?_ ?_
 ·refine Z94 ?_;simp[Zbi]
 ·intro i hi ih;refine Z94 ?_;have h4:=Zbp (i:=i) (by omega);rw[Znf _ hi];simp at ih;by_cases e:v=xs[i]
  ·simp[hi,h4,←e]
  ·have e':¬xs[i]=v:=fun hc=>e hc.symm
   simp[hi,h4,e,e',ih]
@[simp] theorem Zbp0(xs:List Int)(v:Int)(hx:Le xs):Zdh xs v=some (I (Zbi (fun x=>decide (v=x)) xs 0),[]):=by
 refine Zbot ?_;have:=Zbpz xs v hx 0 (Ya _);simpa using this
def Zfn:Int→List Zf→Bool
 |_,[]=>true
 |p,s::r=>inR s.From 1 8192 && inR s.Add (-99) 99 && decide (p<s.From) && Zfn s.From r
def Zcu(l:List Zf):Nat→Int
 |0=>0
 |i+1=>match l[i]? with|some s=>s.From|none=>0
def Zdk(n:Int):Bool:=inR n (-99) 99
def Zbn(o:Zh):Bool:=Zdk o.Fixed && Zdk o.Z2 && Zdk o.Z3 && Zdk o.Z4 && Zdk o.Z5 && decide (o.Steps.length≤4) && Zfn 0 o.Steps
theorem Zba8(p:Int){l:List Zf}{i:Nat}(h:i<l.length):Zfn p (l.drop i)=(inR l[i].From 1 8192 && inR l[i].Add (-99) 99 && decide (p<l[i].From) && Zfn l[i].From (l.drop (i+1))):=by
 rw[Yf h,Zfn]
@[simp] theorem Zbp1(n:Int):Zfk n=some (Bo (Zdk n),[]):=by
 refine Zbo6 ?_;simp[Zdk]
theorem Zbp2(o:Zh)(hl:Le o.Steps):∀i,i≤o.Steps.length→Zjr o i=some (Bo (Zfn (Zcu o.Steps i) (o.Steps.drop i)),[]):=by
 refine down _ ?_ ?_
 ·refine Zbaq ?_;simp[Zfn]
 ·intro i hi ih;refine Zbaq ?_;have h4:=Zbp (i:=i) (by omega);rw[Zba8 _ hi];have pn:Zcu o.Steps (i+1)=o.Steps[i].From:=by simp[Zcu,Yh hi]
  rw[pn]at ih;simp only[Y7,Y8]at ih;rw[if_pos (by omega)];refine⟨by omega,o.Steps[i],by rw[Yg];exact Yh hi,_,Zdj _ _ _,?_⟩;rcases tf (inR o.Steps[i].From 1 8192)with e1|e1
  ·rw[e1];simp
  rw[e1,if_pos rfl];refine⟨_,Zbp1 _,?_⟩;unfold Zdk;rcases tf (inR o.Steps[i].Add (-99) 99)with e2|e2
  ·rw[e2];simp
  rw[e2,if_pos rfl,show w ((i:Int)+1)=(i:Int)+1 from h4]
  cases i with
  |zero =>
   rw[if_neg (by omega),ih];have:Zcu o.Steps 0<o.Steps[0].From:=by simp[inR]at e1;simp[Zcu];omega
   simp[this]
  |succ j =>
   have hj:j<o.Steps.length:=by omega
   have w2:w (((j+1:Nat):Int)-1)=j:=by rw[show((j+1:Nat):Int)-1=j by omega];exact Zt (by omega) (by omega)
   have pj:Zcu o.Steps (j+1)=o.Steps[j].From:=by simp[Zcu,Yh hj]
   rw[if_pos (by omega),w2,pj];refine⟨by omega,o.Steps[j],by rw[Yg];exact Yh hj,?_⟩;by_cases e3:o.Steps[j+1].From≤o.Steps[j].From
   ·rw[if_pos e3,decide_eq_false (by omega)];simp
   ·rw[if_neg e3,decide_eq_true (by omega),ih];simp
@[simp] theorem Zpl(o:Zh)(hl:Le o.Steps):Zhr o=some (Bo (Zbn o),[]):=by
 refine Zbo7 ?_;have b:=Zbp2 o hl 0 (Ya _);simp only[Zcu,Yl,Int.ofNat_zero]at b;have b:Zjr o 0=_:=b;unfold Zbn;rcases tf (Zdk o.Fixed)with e1|e1
 ·simp[e1]
 rcases tf (Zdk o.Z2)with e2|e2
 ·simp[e1,e2]
 rcases tf (Zdk o.Z3)with e3|e3
 ·simp[e1,e2,e3]
 rcases tf (Zdk o.Z4)with e4|e4
 ·simp[e1,e2,e3,e4]
 rcases tf (Zdk o.Z5)with e5|e5
 ·simp[e1,e2,e3,e4,e5]
 by_cases e6:o.Steps.length≤4
 ·have e7:¬(4:Int)<o.Steps.length:=by omega
  simp[e1,e2,e3,e4,e5,e6,e7,b]
 ·have e7:(4:Int)<o.Steps.length:=by omega
  simp[e1,e2,e3,e4,e5,e6,e7]
theorem Zbp3(o:Zh)(hl:Le o.Steps):∀i,i≤o.Steps.length→Zg7 o o.Steps o.Steps.length i=some (Bo (Zfn (Zcu o.Steps i) (o.Steps.drop i) && decide (o.Steps.length≤4)),[]):=by
 refine down _ ?_ ?_
 ·refine Z88 ?_;rw[if_neg (by omega)];by_cases e:o.Steps.length≤4
  ·simp[Zfn,e];omega
  ·simp[Zfn,e];omega
 ·intro i hi ih;refine Z88 ?_;have h4:=Zbp (i:=i) (by omega);rw[Zba8 _ hi];have pn:Zcu o.Steps (i+1)=o.Steps[i].From:=by simp[Zcu,Yh hi]
  rw[pn]at ih;simp only[Y7,Y8]at ih;rw[if_pos (by omega)];refine⟨by omega,o.Steps[i],by rw[Yg];exact Yh hi,_,Zc6 _ _ _,?_⟩;rcases tf (inR o.Steps[i].Add (-99) 99)with e2|e2
  ·rw[e2];simp
  rw[e2,if_pos rfl];refine⟨_,Zc6 _ _ _,?_⟩;rcases tf (inR o.Steps[i].From 1 8192)with e1|e1
  ·rw[e1];simp
  rw[e1,if_pos rfl,show w ((i:Int)+1)=(i:Int)+1 from h4]
  cases i with
  |zero =>
   rw[if_neg (by omega),ih];have:Zcu o.Steps 0<o.Steps[0].From:=by simp[inR]at e1;simp[Zcu];omega
   simp[this]
  |succ j =>
   have hj:j<o.Steps.length:=by omega
   have w2:w (((j+1:Nat):Int)-1)=j:=by rw[show((j+1:Nat):Int)-1=j by omega];exact Zt (by omega) (by omega)
   have pj:Zcu o.Steps (j+1)=o.Steps[j].From:=by simp[Zcu,Yh hj]
   rw[if_pos (by omega),w2,pj];refine⟨by omega,o.Steps[j],by rw[Yg];exact Yh hj,?_⟩;by_cases e3:o.Steps[j+1].From≤o.Steps[j].From
   ·rw[if_pos e3,decide_eq_false (by omega)];simp
   ·rw[if_neg e3,decide_eq_true (by omega),ih];simp
@[simp] theorem Zcv(o:Zh)(hl:Le o.Steps):Zb6 o=some (Bo (Zbn o),[]):=by
 refine Zbno ?_;have hc:Zrv o=some (.bsl 1 5,[.box (o.c.map .t),.box [.ptr 0 0,.ptr 0 1,.ptr 0 2,.ptr 0 3,.ptr 0 4]]):=Zbnn rfl;refine⟨hc,?_⟩;have b:=Zbp3 o hl 0 (Ya _);simp only[Zcu,Yl]at b;have b:Zg7 o o.Steps o.Steps.length 0=_:=b;have w1:w (0+1)=1:=by decide
 have w2:w (1+1)=2:=by decide
 have w3:w (2+1)=3:=by decide
 have w4:w (3+1)=4:=by decide
 have w5:w (4+1)=5:=by decide
 unfold Zbn Zdk;refine Zl9 ?_;rw[if_pos (by omega),if_pos rfl];refine⟨_,Zc6 _ _ _,?_⟩;rcases tf (inR o.Fixed (-99) 99)with e1|e1
 ·rw[e1];simp
 rw[e1,if_pos rfl,w1];refine Zl9 ?_;rw[if_pos (by omega),if_neg (by omega),if_pos rfl];refine⟨_,Zc6 _ _ _,?_⟩;rcases tf (inR o.Z2 (-99) 99)with e2|e2
 ·rw[e2];simp
 rw[e2,if_pos rfl,w2];refine Zl9 ?_;rw[if_pos (by omega),if_neg (by omega),if_neg (by omega),if_pos rfl];refine⟨_,Zc6 _ _ _,?_⟩;rcases tf (inR o.Z3 (-99) 99)with e3|e3
 ·rw[e3];simp
 rw[e3,if_pos rfl,w3];refine Zl9 ?_;rw[if_pos (by omega),if_neg (by omega),if_neg (by omega),if_neg (by omega),if_pos rfl];refine⟨_,Zc6 _ _ _,?_⟩;rcases tf (inR o.Z4 (-99) 99)with e4|e4
 ·rw[e4];simp
 rw[e4,if_pos rfl,w4];refine Zl9 ?_;rw[if_pos (by omega),if_neg (by omega),if_neg (by omega),if_neg (by omega),if_neg (by omega),if_pos rfl];refine⟨_,Zc6 _ _ _,?_⟩;rcases tf (inR o.Z5 (-99) 99)with e5|e5
 ·rw[e5];simp
 rw[e5,if_pos rfl,w5];refine Zl9 ?_;rw[if_neg (by omega),b];simp[Bool.and_comm]
def Zmd(o:Zh)(l r n:Int):Int:=w (w (w (w (o.Fixed+w (o.Z2*l))+w (o.Z3*r))+w (o.Z4*n))+w (w (o.Z5*l)*r))
def Zjy(l r n:Int)(s:Zf):Int:=if s.From≤w (l+r)then w (n+s.Add)else n
def Zme(o:Zh)(l r n:Int):Int:=o.Steps.foldl (Zjy l r) (Zmd o l r n)
def Zdu(o:Zh)(l r n:Int):Int:=if(Zbn o && inR l 0 4096 && inR r 0 4096 && inR n 0 4096)=true then Zme o l r n else 0
theorem Zbp4(l r:Int)(st:List Zf)(hl:Le st):∀i,i≤st.length→∀n,Zlb l r n st st.length i=some (I ((st.drop i).foldl (Zjy l r) n),[]):=by
 refine down _ ?_ ?_
 ·intro n;refine Z9c ?_;simp
 ·intro i hi ih n;refine Z9c ?_;have h4:=Zbp (i:=i) (by omega);rw[Yf hi,List.foldl_cons];simp only[Y7,Y8]at ih;by_cases e:st[i].From≤w (l+r)
  ·simp[hi,h4,e,ih,Zjy]
  ·simp[hi,h4,e,ih,Zjy]
@[simp] theorem Zbp5(o:Zh)(hl:Le o.Steps)(l r n:Int):Zi4 o l r n=some (I (Zme o l r n),[]):=by
 refine Zbnr ?_;have b:=Zbp4 l r o.Steps hl 0 (Ya _) (Zmd o l r n);simpa[Zme,Zmd]using b
@[simp] theorem Zpm(o:Zh)(hl:Le o.Steps)(l r n:Int):Zds o l r n=some (I (Zdu o l r n),[]):=by
 refine Zbnz ?_;unfold Zdu;rcases tf (Zbn o)with e1|e1<;>rcases tf (inR l 0 4096)with e2|e2<;>rcases tf (inR r 0 4096)with e3|e3<;>rcases tf (inR n 0 4096)with e4|e4<;>simp[hl,e1,e2,e3,e4]
theorem Zbp6(o:Zh)(l r:Int)(hl:Le o.Steps):∀i,i≤o.Steps.length→∀n,Zjs o l r n i=some (I ((o.Steps.drop i).foldl (Zjy l r) n),[]):=by
 refine down _ ?_ ?_
 ·intro n;refine Zbar ?_;simp
 ·intro i hi ih n;refine Zbar ?_;have h4:=Zbp (i:=i) (by omega);rw[Yf hi,List.foldl_cons];simp only[Y7,Y8]at ih;by_cases e:o.Steps[i].From≤w (l+r)
  ·simp[hi,h4,e,ih,Zjy]
  ·simp[hi,h4,e,ih,Zjy]
@[simp] theorem Zs0(o:Zh)(hl:Le o.Steps)(l r n:Int):Zga o l r n=some (I (Zdu o l r n),[]):=by
 refine Zbpa ?_;have b:=Zbp6 o l r hl 0 (Ya _) (Zmd o l r n);simp only[Yl,Zmd]at b;have b:Zjs o l r _ 0=_:=b;unfold Zdu;rcases tf (Zbn o)with e1|e1<;>rcases tf (inR l 0 4096)with e2|e2<;>rcases tf (inR r 0 4096)with e3|e3<;>rcases tf (inR n 0 4096)with e4|e4<;>simp[hl,e1,e2,e3,e4,b,Zme,Zmd]
@[simp] theorem Zfo(c:Int):Zfi c=some (I (Zbf c),[]):=by
 refine Zbnq ?_;cases h:inR c 0 7
 ·simp[h,Z3r h]
 ·rcases cls8 h with rfl|rfl|rfl|rfl|rfl|rfl|rfl|rfl<;>simp[inR,Zbf,Zt,shlI]
@[simp] theorem Zfp(c:Int):Zfl c=some (I (Zbf c),[]):=by
 refine Zbo9 ?_;have e:∀n i r,(if i<c then Zlz c (if 1<w (n*4)then w (n*4)else 1) (w (i+1))=some r else some (I n,[])=some r)→Zlz c n i=some r:=fun n i r h=>Zbo8 h
 cases h:inR c 0 7
 ·simp[h,Z3r h]
 ·refine⟨_,Zdj _ _ _,?_⟩;rw[h,if_pos rfl];rcases cls8 h with rfl|rfl|rfl|rfl|rfl|rfl|rfl|rfl
  all_goals repeat (refine e _ _ _ ?_;first|(rw[if_neg (by decide)];rfl)|rw[if_pos (by decide)])
def inT(t:List Int):Prop:=∃a b c:Int,t=[a,b,c]∧(0≤a∧a≤7)∧(0≤b∧b≤7)∧(0≤c∧c≤7)
def tcl(o:Zh):List Int→Int
 |[a,b,c]=>Zme o (Zbf a) (Zbf b) (Zbf c)
 |_=>0
theorem Zz3{c:Int}(h0:0≤c)(h7:c≤7):inR (Zbf c) 0 4096=true:=by
 have:c=0∨c=1∨c=2∨c=3∨c=4∨c=5∨c=6∨c=7:=by omega
 rcases this with rfl|rfl|rfl|rfl|rfl|rfl|rfl|rfl<;>decide
theorem Zjz(o:Zh)(hl:Le o.Steps){t:List Int}(h:inT t):Ze2 o t=some (I (tcl o t),[]):=by
 obtain⟨a,b,c,rfl,_⟩:=h;refine Zbns ?_;simp[hl,tcl]
theorem Zs1(o:Zh)(hl:Le o.Steps)(hv:Zbn o=true){t:List Int}(h:inT t):Zjt o t=some (I (tcl o t),[]):=by
 obtain⟨a,b,c,rfl,h1,h2,h3⟩:=h;refine Zbpb ?_;have c1:=Zz3 h1.1 h1.2;have c2:=Zz3 h2.1 h2.2;have c3:=Zz3 h3.1 h3.2;simp[hl,tcl,Zdu,hv,c1,c2,c3]
theorem Zba9{t:List Int}(h:inT t){k:Nat}{e:Int}(hk:t[k]?=some e)(h7:e+1≤7):inT (t.set k (e+1)):=by
 obtain⟨a,b,c,rfl,h1,h2,h3⟩:=h
 match k,hk with
 |0,hk=>simp at hk;subst hk;exact⟨a+1,b,c,rfl,by omega,h2,h3⟩
 |1,hk=>simp at hk;subst hk;exact⟨a,b+1,c,rfl,h1,by omega,h3⟩
 |2,hk=>simp at hk;subst hk;exact⟨a,b,c+1,rfl,h1,h2,by omega⟩
 |k+3,hk=>simp at hk
theorem Zbba{t:List Int}(h:inT t){k:Nat}(hk:k<3):∃e,t[k]?=some e∧0≤e∧e≤7:=by
 obtain⟨a,b,c,rfl,h1,h2,h3⟩:=h
 match k,hk with
 |0,_=>exact⟨a,rfl,h1⟩
 |1,_=>exact⟨b,rfl,h2⟩
 |2,_=>exact⟨c,rfl,h3⟩
theorem Zz4{t:List Int}(h:inT t):t.length=3:=by obtain⟨a,b,c,rfl,_⟩:=h;rfl
def decK(o:Zh)(t:List Int)(k:Nat):Prop:=∃e,t[k]?=some e∧e+1≤7∧tcl o (t.set k (e+1))<tcl o t
def decF(o:Zh)(t:List Int)(k:Nat):Prop:=∃j,k≤j∧j<3∧decK o t j
def decr(o:Zh):Prop:=∃t,inT t∧decF o t 0
def cheap(o:Zh):Prop:=∃t,inT t∧tcl o t<1
abbrev Zdl(X:Rs)(p:Prop):Prop:=∃(xs ys:List Int) (b:Bool),X=some (.tup [.own 0,.own 1,Bo b],[.arr Zby 1 true (xs.map ic),.arr Zby 1 true (ys.map ic)])∧(b=true↔p)
theorem Zdl.congr{X:Rs}{p q:Prop}(h:Zdl X p)(e:p↔q):Zdl X q:=by
 obtain⟨xs,ys,b,h1,h2⟩:=h;exact⟨xs,ys,b,h1,h2.trans e⟩
theorem l_fd0(o:Zh)(hl:Le o.Steps)(hv:Zbn o=true){t:List Int}(ht:inT t)(a b e:Int)(p:Prop)(hc:Zdl (Zl4 o a b (w (e+1))) p):∀k:Nat,k≤3 →
  Zdl (Zgb o t a b e k) (decF o t k∨p):=by
 have h3:=Zz4 ht;refine down _ ?_ ?_
 ·obtain⟨xs,ys,f,h1,h2⟩:=hc;refine⟨xs,ys,f,Zbav (by rw[if_neg (by omega)];exact h1),?_⟩;rw[h2];exact⟨.inr,fun h=>h.elim (fun⟨j,a,b,_⟩=>by omega) id⟩
 ·intro k hk ih;have h4:=Zbp (i:=k) (by omega);obtain⟨x,hx,x0,x7⟩:=Zbba ht hk;have wx:w (x+1)=x+1:=Zt (by omega) (by omega);simp only[Y7,Y8]at ih;have step:decF o t k↔(decK o t k∨decF o t (k+1)):=by
   constructor
   ·rintro⟨j,j1,j2,j3⟩;by_cases hj:j=k
    ·subst hj;exact .inl j3
    ·exact .inr ⟨j,by omega,j2,j3⟩
   ·rintro(h|⟨j,j1,j2,j3⟩)
    ·exact⟨k,Yd _,hk,h⟩
    ·exact⟨j,by omega,j2,j3⟩
  have pre:∀r,(if x+1≤7 then(if tcl o (t.set k (x+1))<tcl o t then some (.tup [.own 0,.own 1,Bo true],[.arr Zby 1 true (t.map ic),.arr Zby 1 true ((t.set k (x+1)).map ic)])=some r
    else Zgb o t a b e ((k:Int)+1)=some r)else Zgb o t a b e ((k:Int)+1)=some r)→Zgb o t a b e k=some r:=by
   intro r hr;refine Zbav ?_;rw[if_pos (by omega)];refine⟨by omega,by omega,x,by rw[Yg];exact hx,?_⟩;rw[wx,Yg,show w ((k:Int)+1)=(k:Int)+1 from h4];by_cases h7:x+1≤7
   ·rw[if_pos h7]at hr⊢;exact⟨_,Zs1 o hl hv (Zba9 ht hx h7),_,Zs1 o hl hv ht,hr⟩
   ·rw[if_neg h7]at hr⊢;exact hr
  have dk:decK o t k↔(x+1≤7∧tcl o (t.set k (x+1))<tcl o t):=by
   constructor
   ·rintro⟨y,y1,y2,y3⟩;rw[hx]at y1;cases y1;exact⟨y2,y3⟩
   ·rintro⟨y2,y3⟩;exact⟨x,hx,y2,y3⟩
  by_cases h7:x+1≤7∧tcl o (t.set k (x+1))<tcl o t
  ·refine⟨_,_,true,pre _ (by rw[if_pos h7.1,if_pos h7.2]),?_⟩;rw[step,dk];exact⟨fun _=>.inl (.inl h7),fun _=>rfl⟩
  ·obtain⟨xs,ys,f,i1,i2⟩:=ih;refine⟨xs,ys,f,pre _ ?_,?_⟩
   ·split
    ·split
     ·rename_i a1 a2;exact absurd ⟨a1,a2⟩ h7
     ·exact i1
    ·exact i1
   ·rw[i2,step,dk];constructor
    ·exact fun h=>h.imp .inr id
    ·exact fun h=>h.imp (fun h=>h.resolve_left h7) id
theorem Zmf{P:Nat→Prop}{i:Nat}{p:Prop}(hi:i<8):((∃z,i≤z∧z≤7∧P z)∨p)↔(P i∨(∃z,i+1≤z∧z≤7∧P z)∨p):=by
 constructor
 ·rintro(⟨z,z1,z2,z3⟩|h)
  ·by_cases hz:z=i
   ·subst hz;exact .inl z3
   ·exact .inr (.inl ⟨z,by omega,z2,z3⟩)
  ·exact .inr (.inr h)
 ·rintro(h|⟨z,z1,z2,z3⟩|h)
  ·exact .inl ⟨i,Yd _,by omega,h⟩
  ·exact .inl ⟨z,by omega,z2,z3⟩
  ·exact .inr h
theorem Zmg{P:Nat→Prop}{p:Prop}:((∃z,8≤z∧z≤7∧P z)∨p)↔p:=⟨fun h=>h.elim (fun⟨z,a,b,_⟩=>by omega) id,.inr⟩
theorem l_fd1(o:Zh)(hl:Le o.Steps)(hv:Zbn o=true)(a b:Nat)(ha:a≤7)(hb:b≤7)(p:Prop)(hc:Zdl (Zl3 o a ((b:Int)+1)) p):∀e:Nat,e≤8 →
  Zdl (Zl4 o a b e) ((∃z:Nat,e≤z∧z≤7∧decF o [(a:Int),(b:Int),(z:Int)] 0)∨p):=by
 have wb:w ((b:Int)+1)=(b:Int)+1:=Zt (by omega) (by omega);refine down _ ?_ ?_
 ·refine Zdl.congr ?_ Zmg.symm;obtain⟨xs,ys,f,h1,h2⟩:=hc;exact⟨xs,ys,f,Zbau (by rw[if_neg (by omega),wb];exact h1),h2⟩
 ·intro e he ih;have we:w ((e:Int)+1)=(e:Int)+1:=Zt (by omega) (by omega);have hT:inT [(a:Int),(b:Int),(e:Int)]:=⟨a,b,e,rfl,by omega,by omega,by omega⟩;simp only[Y7,Y8]at ih;obtain⟨xs,ys,f,h1,h2⟩:=l_fd0 o hl hv hT a b e _ (by rw[we];exact ih) 0 (by omega);exact⟨xs,ys,f,Zbau (by rw[if_pos (by omega)];exact h1),h2.trans (Zmf (P:=fun z:Nat=>decF o [(a:Int),(b:Int),(z:Int)] 0) he).symm⟩
theorem l_fd2(o:Zh)(hl:Le o.Steps)(hv:Zbn o=true)(a:Nat)(ha:a≤7)(p:Prop)(hc:Zdl (Zl2 o ((a:Int)+1)) p):∀b:Nat,b≤8 →
  Zdl (Zl3 o a b) ((∃y:Nat,b≤y∧y≤7∧∃z:Nat,0≤z∧z≤7∧decF o [(a:Int),(y:Int),(z:Int)] 0)∨p):=by
 have wa:w ((a:Int)+1)=(a:Int)+1:=Zt (by omega) (by omega);refine down _ ?_ ?_
 ·refine Zdl.congr ?_ Zmg.symm;obtain⟨xs,ys,f,h1,h2⟩:=hc;exact⟨xs,ys,f,Zbat (by rw[if_neg (by omega),wa];exact h1),h2⟩
 ·intro b hb ih;simp only[Y7,Y8]at ih;obtain⟨xs,ys,f,h1,h2⟩:=l_fd1 o hl hv a b ha (by omega) _ ih 0 (by omega);exact⟨xs,ys,f,Zbat (by rw[if_pos (by omega)];exact h1),h2.trans (Zmf (P:=fun y:Nat=>∃z:Nat,0≤z∧z≤7∧decF o [(a:Int),(y:Int),(z:Int)] 0) hb).symm⟩
theorem l_fd3(o:Zh)(hl:Le o.Steps)(hv:Zbn o=true):∀a:Nat,a≤8 →
  Zdl (Zl2 o a) ((∃x:Nat,a≤x∧x≤7∧∃y:Nat,0≤y∧y≤7∧∃z:Nat,0≤z∧z≤7∧decF o [(x:Int),(y:Int),(z:Int)] 0)∨False):=by
 refine down _ ?_ ?_
 ·refine Zdl.congr ?_ Zmg.symm;exact⟨[],[],false,Zbas (by rw[if_neg (by omega)]),by simp⟩
 ·intro a ha ih;simp only[Y7,Y8]at ih;obtain⟨xs,ys,f,h1,h2⟩:=l_fd2 o hl hv a (by omega) _ ih 0 (by omega);exact⟨xs,ys,f,Zbas (by rw[if_pos (by omega)];exact h1),h2.trans (Zmf (P:=fun x:Nat=>∃y:Nat,0≤y∧y≤7∧∃z:Nat,0≤z∧z≤7∧decF o [(x:Int),(y:Int),(z:Int)] 0) ha).symm⟩
theorem Zbbb(o:Zh)(P:List Int→Prop):(∃t,inT t∧P t)↔∃x:Nat,0≤x∧x≤7∧∃y:Nat,0≤y∧y≤7∧∃z:Nat,0≤z∧z≤7∧P [(x:Int),(y:Int),(z:Int)]:=by
 constructor
 ·rintro⟨t,⟨a,b,c,rfl,h1,h2,h3⟩,h⟩;refine⟨a.toNat,by omega,by omega,b.toNat,by omega,by omega,c.toNat,by omega,by omega,?_⟩;rw[Yc6 h1.1,Yc6 h2.1,Yc6 h3.1];exact h
 ·rintro⟨x,_,x2,y,_,y2,z,_,z2,h⟩;exact⟨_,⟨x,y,z,rfl,by omega,by omega,by omega⟩,h⟩
theorem Zbp7(o:Zh)(hl:Le o.Steps)(hv:Zbn o=true):Zdl (Zo5 o) (decr o):=by
 obtain⟨xs,ys,f,h1,h2⟩:=l_fd3 o hl hv 0 (by omega);refine⟨xs,ys,f,Zbpc ⟨_,Zpl o hl,?_⟩,?_⟩
 ·rw[hv,if_pos rfl];exact h1
 ·rw[h2,decr,Zbbb o (fun t=>decF o t 0)];simp
abbrev Zdv(X:Rs)(p:Prop):Prop:=∃(xs:List Int),X=some (.own 0,[.arr Zby 1 true (xs.map ic)])∧(xs≠[]↔p)
theorem Zdv.congr{X:Rs}{p q:Prop}(h:Zdv X p)(e:p↔q):Zdv X q:=by
 obtain⟨xs,h1,h2⟩:=h;exact⟨xs,h1,h2.trans e⟩
theorem l_ch0(o:Zh)(hl:Le o.Steps)(hv:Zbn o=true)(a b:Nat)(ha:a≤7)(hb:b≤7)(p:Prop)(hc:Zdv (Zl6 o a ((b:Int)+1)) p):∀e:Nat,e≤8 →
  Zdv (Zo8 o a b e) ((∃z:Nat,e≤z∧z≤7∧tcl o [(a:Int),(b:Int),(z:Int)]<1)∨p):=by
 have wb:w ((b:Int)+1)=(b:Int)+1:=Zt (by omega) (by omega);refine down _ ?_ ?_
 ·refine Zdv.congr ?_ Zmg.symm;obtain⟨xs,h1,h2⟩:=hc;exact⟨xs,Zzy (by rw[if_neg (by omega),wb];exact h1),h2⟩
 ·intro e he ih;have we:w ((e:Int)+1)=(e:Int)+1:=Zt (by omega) (by omega);have hT:inT [(a:Int),(b:Int),(e:Int)]:=⟨a,b,e,rfl,by omega,by omega,by omega⟩;simp only[Y7,Y8]at ih;refine Zdv.congr ?_ (Zmf he).symm;by_cases h:tcl o [(a:Int),(b:Int),(e:Int)]<1
  ·refine⟨[a,b,e],Zzy ?_,by simp[h]⟩;rw[if_pos (by omega)];exact⟨_,Zs1 o hl hv hT,by rw[if_pos h]⟩
  ·obtain⟨xs,h1,h2⟩:=ih;refine⟨xs,Zzy ?_,by rw[h2];simp[h]⟩;rw[if_pos (by omega)];exact⟨_,Zs1 o hl hv hT,by rw[if_neg h,we];exact h1⟩
theorem l_ch1(o:Zh)(hl:Le o.Steps)(hv:Zbn o=true)(a:Nat)(ha:a≤7)(p:Prop)(hc:Zdv (Zl5 o ((a:Int)+1)) p):∀b:Nat,b≤8 →
  Zdv (Zl6 o a b) ((∃y:Nat,b≤y∧y≤7∧∃z:Nat,0≤z∧z≤7∧tcl o [(a:Int),(y:Int),(z:Int)]<1)∨p):=by
 have wa:w ((a:Int)+1)=(a:Int)+1:=Zt (by omega) (by omega);refine down _ ?_ ?_
 ·refine Zdv.congr ?_ Zmg.symm;obtain⟨xs,h1,h2⟩:=hc;exact⟨xs,Zbax (by rw[if_neg (by omega),wa];exact h1),h2⟩
 ·intro b hb ih;simp only[Y7,Y8]at ih;obtain⟨xs,h1,h2⟩:=l_ch0 o hl hv a b ha (by omega) _ ih 0 (by omega);exact⟨xs,Zbax (by rw[if_pos (by omega)];exact h1),h2.trans (Zmf (P:=fun y:Nat=>∃z:Nat,0≤z∧z≤7∧tcl o [(a:Int),(y:Int),(z:Int)]<1) hb).symm⟩
theorem l_ch2(o:Zh)(hl:Le o.Steps)(hv:Zbn o=true):∀a:Nat,a≤8 →
  Zdv (Zl5 o a) ((∃x:Nat,a≤x∧x≤7∧∃y:Nat,0≤y∧y≤7∧∃z:Nat,0≤z∧z≤7∧tcl o [(x:Int),(y:Int),(z:Int)]<1)∨False):=by
 refine down _ ?_ ?_
 ·refine Zdv.congr ?_ Zmg.symm;exact⟨[],Zbaw (by rw[if_neg (by omega)]),by simp⟩
 ·intro a ha ih;simp only[Y7,Y8]at ih;obtain⟨xs,h1,h2⟩:=l_ch1 o hl hv a (by omega) _ ih 0 (by omega);exact⟨xs,Zbaw (by rw[if_pos (by omega)];exact h1),h2.trans (Zmf (P:=fun x:Nat=>∃y:Nat,0≤y∧y≤7∧∃z:Nat,0≤z∧z≤7∧tcl o [(x:Int),(y:Int),(z:Int)]<1) ha).symm⟩
theorem Zbp8(o:Zh)(hl:Le o.Steps)(hv:Zbn o=true):Zdv (Zsn o) (cheap o):=by
 obtain⟨xs,h1,h2⟩:=l_ch2 o hl hv 0 (by omega);refine⟨xs,Zbpd h1,?_⟩;rw[h2,cheap,Zbbb o (fun t=>tcl o t<1)];simp
def rowC(a b:Int)(c:Nat):List (List Int):=(List.range' c (8-c)).map fun z:Nat=>[a,b,(z:Int)]
def rowB(a:Int)(b:Nat):List (List Int):=(List.range' b (8-b)).flatMap fun y:Nat=>rowC a y 0
def rowA(a:Nat):List (List Int):=(List.range' a (8-a)).flatMap fun x:Nat=>rowB x 0
theorem Zz5{i:Nat}(h:i<8):List.range' i (8-i)=i::List.range' (i+1) (8-(i+1)):=by
 rw[show 8-i=(8-(i+1))+1 by omega,Ycy]
theorem rowC_len(a b:Int)(c:Nat):(rowC a b c).length=8-c:=by simp[rowC]
theorem rowB_len(a:Int):(rowB a 0).length=64:=rfl
theorem l_tr0(a b:Nat)(hb:b≤7)(r:AV×List Blk):∀c:Nat,c≤8→∀out:List (List Int),out.length≤1000000→Zi3 (out++rowC a b c) a ((b:Int)+1)=some r→Zla out a b c=some r:=by
 have wb:w ((b:Int)+1)=(b:Int)+1:=Zt (by omega) (by omega);have key:∀c:Nat,c≤8→∀out:List (List Int),out.length≤1000000+c→Zi3 (out++rowC a b c) a ((b:Int)+1)=some r→Zla out a b c=some r:=by
  refine down _ ?_ ?_
  ·intro out ho h;refine Z9b ?_;rw[if_neg (by omega),wb];simpa[rowC]using h
  ·intro c hc ih out ho h;have wc:w ((c:Int)+1)=(c:Int)+1:=Zt (by omega) (by omega);refine Z9b ?_;rw[if_pos (by omega),wc];refine⟨by omega,?_⟩
   have ih:=ih (out++[[(a:Int),(b:Int),(c:Int)]]) (by simp;omega) (by
    rw[rowC,Zz5 hc]at h
    simpa[rowC]using h)
   simpa using ih
 exact fun c hc out ho h=>key c hc out (by omega) h
theorem l_tr1(a:Nat)(ha:a≤7)(r:AV×List Blk):∀b:Nat,b≤8→∀out:List (List Int),out.length≤100000+8*b→Zk9 (out++rowB a b) ((a:Int)+1)=some r→Zi3 out a b=some r:=by
 have wa:w ((a:Int)+1)=(a:Int)+1:=Zt (by omega) (by omega);refine down _ ?_ ?_
 ·intro out ho h;refine Z9a ?_;rw[if_neg (by omega),wa];simpa[rowB]using h
 ·intro b hb ih out ho h;refine Z9a ?_;rw[if_pos (by omega)];refine l_tr0 a b (by omega) r 0 (by omega) out (by omega) ?_
  have ih:=ih (out++rowC a b 0) (by rw[Yp,rowC_len];omega) (by
   rw[rowB,Zz5 hb]at h
   simpa[rowB]using h)
  simpa using ih
theorem l_tr2:∀a:Nat,a≤8→∀out:List (List Int),out.length≤64*a→Zk9 out a=some (.own 0,[.arr Zif 1 true ((out++rowA a).map isc)]):=by
 refine down _ ?_ ?_
 ·intro out ho;refine Z89 ?_;rw[if_neg (by omega)];simp[rowA]
 ·intro a ha ih out ho;refine Z89 ?_;rw[if_pos (by omega)];refine l_tr1 a (by omega) _ 0 (by omega) out (by omega) ?_;have ih:=ih (out++rowB a 0) (by rw[Yp,rowB_len];omega);rw[rowA,Zz5 ha];simpa[rowA]using ih
def allT:List (List Int):=rowA 0
theorem Zmh:Zdg=some (.own 0,[.arr Zif 1 true (allT.map isc)]):=Zbnp (l_tr2 0 (by omega) [] (by simp))
theorem Zep(t:List Int):t∈allT↔inT t:=by
 simp only[allT,rowA,rowB,rowC,Ycw,Y1,List.mem_range'_1,inT];constructor
 ·rintro⟨x,hx,y,hy,z,hz,rfl⟩;exact⟨x,y,z,rfl,by omega,by omega,by omega⟩
 ·rintro⟨a,b,c,rfl,h1,h2,h3⟩;refine⟨a.toNat,by omega,b.toNat,by omega,c.toNat,by omega,?_⟩;rw[Yc6 h1.1,Yc6 h2.1,Yc6 h3.1]
set_option maxRecDepth 100000 in
theorem Zmi:allT.length=512:=rfl
@[simp] theorem Zmj(xs:List Int)(h:xs.length≤68719476736):Zc4 xs=some (.own 0,[.arr Zby 1 true (xs.map ic)]):=Zbmw ⟨h,rfl⟩
abbrev GoodI(X:Rs)(p:Prop):Prop:=(p∧∃xs ys:List Int,X=some (.tup [L 1 (xs.map ic),.own 0,Bo true],[.arr Zby 1 true (ys.map ic)]))∨(¬p∧X=some (.tup [.t .nil,.t .nil,Bo false],[]))
theorem l_id0(o:Zh)(hl:Le o.Steps)(ts:List (List Int)){t:List Int}(ht:inT t)(n i:Int)(p:Prop)(hc:GoodI (Zg8 o ts n (w (i+1))) p):∀k:Nat,k≤3 →
  GoodI (Zd5 o ts t n i 3 k) (decF o t k∨p):=by
 have h3:=Zz4 ht;refine down _ ?_ ?_
 ·have e:(decF o t 3∨p)↔p:=⟨fun h=>h.elim (fun⟨j,a,b,_⟩=>by omega) id,.inr⟩;rcases hc with⟨h,xs,ys,h1⟩|⟨h,h1⟩
  ·exact .inl ⟨e.2 h,xs,ys,Zzq (by rw[if_neg (by omega)];exact h1)⟩
  ·exact .inr ⟨fun hc=>h (e.1 hc),Zzq (by rw[if_neg (by omega)];exact h1)⟩
 ·intro k hk ih;have h4:=Zbp (i:=k) (by omega);obtain⟨x,hx,x0,x7⟩:=Zbba ht hk;have wx:w (x+1)=x+1:=Zt (by omega) (by omega);simp only[Y7,Y8]at ih;have step:decF o t k↔(decK o t k∨decF o t (k+1)):=by
   constructor
   ·rintro⟨j,j1,j2,j3⟩;by_cases hj:j=k
    ·subst hj;exact .inl j3
    ·exact .inr ⟨j,by omega,j2,j3⟩
   ·rintro(h|⟨j,j1,j2,j3⟩)
    ·exact⟨k,Yd _,hk,h⟩
    ·exact⟨j,by omega,j2,j3⟩
  have dk:decK o t k↔(x+1≤7∧tcl o (t.set k (x+1))<tcl o t):=by
   constructor
   ·rintro⟨y,y1,y2,y3⟩;rw[hx]at y1;cases y1;exact⟨y2,y3⟩
   ·rintro⟨y2,y3⟩;exact⟨x,hx,y2,y3⟩
  have pre:∀r,(if x+1≤7 then(if tcl o (t.set k (x+1))<tcl o t then some (.tup [L 1 (t.map ic),.own 0,Bo true],[.arr Zby 1 true ((t.set k (x+1)).map ic)])=some r
    else Zd5 o ts t n i 3 ((k:Int)+1)=some r)else Zd5 o ts t n i 3 ((k:Int)+1)=some r)→Zd5 o ts t n i 3 k=some r:=by
   intro r hr;refine Zzq ?_;rw[if_pos (by omega)];refine⟨by omega,x,by rw[Yg];exact hx,?_⟩;rw[show w ((k:Int)+1)=(k:Int)+1 from h4];by_cases h7:x=7
   ·rw[if_pos h7];rw[if_neg (by omega)]at hr;exact hr
   ·rw[if_neg h7];have h8:x+1≤7:=by omega
    rw[if_pos h8]at hr;refine⟨t,Zmj t (by omega),x,by rw[Yg];exact hx,?_⟩;rw[wx,Yg];exact⟨_,Zjz o hl (Zba9 ht hx h8),_,Zjz o hl ht,hr⟩
  by_cases h7:x+1≤7∧tcl o (t.set k (x+1))<tcl o t
  ·exact .inl ⟨.inl (step.2 (.inl (dk.2 h7))),_,_,pre _ (by rw[if_pos h7.1,if_pos h7.2])⟩
  ·have go:∀r,Zd5 o ts t n i 3 ((k:Int)+1)=some r→Zd5 o ts t n i 3 k=some r:=by
    intro r hr;refine pre r ?_;split
    ·split
     ·rename_i a1 a2;exact absurd ⟨a1,a2⟩ h7
     ·exact hr
    ·exact hr
   have e:(decF o t k∨p)↔(decF o t (k+1)∨p):=by
    rw[step,dk];exact⟨fun h=>h.imp (fun h=>h.resolve_left h7) id,fun h=>h.imp .inr id⟩
   rcases ih with⟨h,xs,ys,h1⟩|⟨h,h1⟩
   ·exact .inl ⟨e.2 h,xs,ys,go _ h1⟩
   ·exact .inr ⟨fun hc=>h (e.1 hc),go _ h1⟩
theorem l_id1(o:Zh)(hl:Le o.Steps)(ts:List (List Int))(hts:∀t∈ts,inT t)(hn:ts.length≤1000):∀i,i≤ts.length→GoodI (Zg8 o ts ts.length i) (∃t∈ts.drop i,decF o t 0):=by
 refine down _ ?_ ?_
 ·refine .inr ⟨by simp,Z9d (by rw[if_neg (by omega)])⟩
 ·intro i hi ih;have h4:=Zbp (i:=i) (by omega);have ht:=hts _ (Yc hi);simp only[Y7,Y8]at ih;have b:=l_id0 o hl ts ht ts.length i _ (by rw[show w ((i:Int)+1)=(i:Int)+1 from h4];exact ih) 0 (by omega);have go:∀r,Zd5 o ts ts[i] ts.length i 3 0=some r→Zg8 o ts ts.length i=some r:=by
   intro r hr;refine Z9d ?_;rw[if_pos (by omega)];refine⟨by omega,ts[i],by rw[Yg];exact Yh hi,?_⟩;rw[Zz4 ht];exact hr
  have e:(∃t∈ts.drop i,decF o t 0)↔(decF o ts[i] 0∨∃t∈ts.drop (i+1),decF o t 0):=by
   rw[Yf hi];simp only[Yq,exists_eq_or_imp]
  rcases b with⟨h,xs,ys,h1⟩|⟨h,h1⟩
  ·exact .inl ⟨e.2 h,xs,ys,go _ h1⟩
  ·exact .inr ⟨fun hc=>h (e.1 hc),go _ h1⟩
theorem Zpn(o:Zh)(hl:Le o.Steps)(hv:Zbn o=true):GoodI (Zbz o) (decr o):=by
 have b:=l_id1 o hl allT (fun t h=>(Zep t).1 h) (by rw[Zmi];omega) 0 (Ya _);have go:∀r,Zg8 o allT allT.length 0=some r→Zbz o=some r:=by
  intro r hr;refine Zbnt ⟨_,Zcv o hl,?_⟩;rw[hv,if_pos rfl];exact⟨allT,Zmh,hr⟩
 have e:(∃t∈allT.drop 0,decF o t 0)↔decr o:=by
  simp only[Yl,Zep,decr]
 rcases b with⟨h,xs,ys,h1⟩|⟨h,h1⟩
 ·exact .inl ⟨e.1 h,xs,ys,go _ h1⟩
 ·exact .inr ⟨fun hc=>h (e.2 hc),go _ h1⟩
def Zc7(o:Zh):Prop:=Zbn o=true∧¬decr o∧¬cheap o
def mOp(m:Zj)(k:Int):Zh:=if k=1 then m.Scan else if k=2 then m.Sort_ else if k=3 then m.Hash else if k=4 then m.Merge else m.Nested
abbrev LeM(m:Zj):Prop:=Le m.Scan.Steps∧Le m.Sort_.Steps∧Le m.Hash.Steps∧Le m.Merge.Steps∧Le m.Nested.Steps
theorem LeM.op{m:Zj}(h:LeM m)(k:Int):Le (mOp m k).Steps:=by
 unfold mOp;obtain⟨h1,h2,h3,h4,h5⟩:=h
 repeat' split
 all_goals assumption
@[simp] theorem Zz6(m:Zj)(k:Int):Zjq m k=some (.agg ((mOp m k).c.map .t),[]):=by
 refine Zbo5 ?_;unfold mOp;by_cases h1:k=1
 ·simp[h1]
 by_cases h2:k=2
 ·simp[h2]
 by_cases h3:k=3
 ·simp[h3]
 by_cases h4:k=4
 ·simp[h4]
 ·simp[h1,h2,h3,h4]
def Zeq(m:Zj):Prop:=Zc7 m.Scan∧Zc7 m.Sort_∧Zc7 m.Hash∧Zc7 m.Merge∧Zc7 m.Nested
theorem Zbp9(m:Zj)(hm:LeM m):∀k:Nat,k≤6→1≤k →
  ∃(xs ys:List Int) (n:Int),Zl7 m k=some (.tup [I n,.own 0,.own 1],[.arr Zby 1 true (xs.map ic),.arr Zby 1 true (ys.map ic)])∧(n=0↔∀j:Nat,k≤j→j≤5→Zc7 (mOp m j)):=by
 refine down _ ?_ ?_
 ·intro _;exact⟨[],[],0,Zbay (by rw[if_neg (by omega)]),⟨fun _ j h1 h2=>by omega,fun _=>rfl⟩⟩
 ·intro k hk ih h1;have wk':w ((k:Int)+1)=(k:Int)+1:=Zt (by omega) (by omega);have hl:=hm.op k;have step:(∀j:Nat,k≤j→j≤5→Zc7 (mOp m j))↔(Zc7 (mOp m k)∧∀j:Nat,k+1≤j→j≤5→Zc7 (mOp m j)):=by
   constructor
   ·exact fun h=>⟨h k (Yd _) (by omega),fun j a b=>h j (by omega) b⟩
   ·rintro⟨a,b⟩ j c d;by_cases hj:j=k
    ·subst hj;exact a
    ·exact b j (by omega) d
  have kne:(k:Int)≠0:=by omega
  have pre:∀r,(∃v,Zhr (mOp m k)=some (Bo v,[])∧_)→Zl7 m k=some r:=fun r h=>Zbay (by rw[if_pos (by omega)];exact⟨mOp m k,Zz6 m k,h⟩)
  rcases tf (Zbn (mOp m k))with hv|hv
  ·refine⟨[],[],k,pre _ ⟨false,by rw[Zpl _ hl,hv],by rw[if_neg (by simp)]⟩,?_⟩;rw[step];exact⟨fun h=>absurd h kne,fun h=>by have:=h.1.1;rw[hv]at this;cases this⟩
  ·obtain⟨xs,ys,f,d1,d2⟩:=Zbp7 (mOp m k) hl hv
   cases f with
   |true =>
    refine⟨xs,ys,k,pre _ ⟨true,by rw[Zpl _ hl,hv],?_⟩,?_⟩
    ·rw[if_pos rfl];exact⟨xs,ys,true,d1,by rw[if_pos rfl]⟩
    ·rw[step]
     exact⟨fun h=>absurd h kne,fun h=>absurd (d2.1 rfl) h.1.2.1⟩
   |false =>
    obtain⟨cs,c1,c2⟩:=Zbp8 (mOp m k) hl hv;by_cases hc:cs=[]
    ·obtain⟨xs',ys',n,i1,i2⟩:=ih (by omega);simp only[Y7,Y8]at i1;refine⟨xs',ys',n,pre _ ⟨true,by rw[Zpl _ hl,hv],?_⟩,?_⟩
     ·rw[if_pos rfl];refine⟨xs,ys,false,d1,?_⟩;rw[if_neg (by simp)];refine⟨cs,c1,?_⟩;rw[hc,if_neg (by simp),wk'];exact i1
     ·rw[step,i2];refine⟨fun h=>⟨⟨hv,fun hd=>(by have:=d2.2 hd;cases this),fun hch=>(c2.2 hch) hc⟩,h⟩,fun h=>h.2⟩
    ·refine⟨cs,[],k,pre _ ⟨true,by rw[Zpl _ hl,hv],?_⟩,?_⟩
     ·rw[if_pos rfl];refine⟨xs,ys,false,d1,?_⟩;rw[if_neg (by simp)];refine⟨cs,c1,?_⟩;have:0<cs.length:=Ydr.2 hc;rw[if_pos (by omega)]
     ·rw[step];exact⟨fun h=>absurd h kne,fun h=>absurd (c2.1 hc) h.1.2.2⟩
theorem adm_iff(m:Zj):(∀j:Nat,1≤j→j≤5→Zc7 (mOp m j))↔Zeq m:=by
 constructor
 ·intro h;exact⟨h 1 (by omega) (by omega),h 2 (by omega) (by omega),h 3 (by omega) (by omega),h 4 (by omega) (by omega),h 5 (by omega) (by omega)⟩
 ·rintro⟨h1,h2,h3,h4,h5⟩ j a b;have:j=1∨j=2∨j=3∨j=4∨j=5:=by omega
  rcases this with rfl|rfl|rfl|rfl|rfl
  ·exact h1
  ·exact h2
  ·exact h3
  ·exact h4
  ·exact h5
open Classical in
theorem Zbbc(m:Zj)(hm:LeM m):Zju m=some (Bo (decide (Zeq m)),[]):=by
 obtain⟨xs,ys,n,h1,h2⟩:=Zbp9 m hm 1 (by omega) (by omega);refine Zbpf ⟨xs,ys,n,Zbpe h1,?_⟩;rw[adm_iff]at h2;by_cases h:Zeq m
 ·rw[decide_eq_true h,decide_eq_true (h2.2 h)]
 ·rw[decide_eq_false h,decide_eq_false (fun hc=>h (h2.1 hc))]
abbrev Zbg(X:Rs)(p:Prop):Prop:=(p∧X=some (.tup [I 0,.t .nil,.t .nil],[]))∨(¬p∧∃n:Int,n≠0∧((∃xs ys:List Int,X=some (.tup [I n,L 1 (xs.map ic),.own 0],[.arr Zby 1 true (ys.map ic)]))∨X=some (.tup [I n,.t .nil,.t .nil],[])∨∃xs:List Int,X=some (.tup [I n,L 1 (xs.map ic),.t .nil],[])))
theorem Zbg.of{X Y:Rs}{p:Prop}(h:Zbg X p)(e:∀r,X=some r→Y=some r):Zbg Y p:=by
 rcases h with⟨h,h1⟩|⟨h,n,hn,⟨xs,ys,h1⟩|h1|⟨xs,h1⟩⟩
 ·exact .inl ⟨h,e _ h1⟩
 ·exact .inr ⟨h,n,hn,.inl ⟨xs,ys,e _ h1⟩⟩
 ·exact .inr ⟨h,n,hn,.inr (.inl (e _ h1))⟩
 ·exact .inr ⟨h,n,hn,.inr (.inr ⟨xs,e _ h1⟩)⟩
theorem Zbg.congr{X:Rs}{p q:Prop}(h:Zbg X p)(e:p↔q):Zbg X q:=by
 rw[←e];exact h
theorem Zpo{ts:List (List Int)}{j:Nat}(hj:j<ts.length){P:List Int→Prop}{p:Prop}:((∀t∈ts.drop j,P t)∧p)↔(P ts[j]∧(∀t∈ts.drop (j+1),P t)∧p):=by
 rw[Yf hj];simp only[Yq,forall_eq_or_imp,and_assoc]
theorem l_rf0(m:Zj)(hl:Le m.Scan.Steps)(ts:List (List Int))(hts:∀t∈ts,inT t)(hn:ts.length≤1000)(kind:Int)(hk:kind≠0)(x1 x2:Int)(p:Prop)(hc:Zbg (Zbl m x1 (w (x2+1))) p):∀j,j≤ts.length →
  Zbg (Zhd m ts kind x1 x2 ts.length j) ((∀t∈ts.drop j,¬tcl m.Scan t<1)∧p):=by
 refine down _ ?_ ?_
 ·refine(hc.of fun r hr=>Z9e (by rw[if_neg (by omega)];exact hr)).congr (by simp)
 ·intro j hj ih;have h4:=Zbp (i:=j) (by omega);have ht:=hts _ (Yc hj);simp only[Y7,Y8]at ih;have pre:∀r,(if tcl m.Scan ts[j]<1 then some (.tup [I kind,L 1 (ts[j].map ic),.t .nil],[])=some r else Zhd m ts kind x1 x2 ts.length ((j:Int)+1)=some r)→Zhd m ts kind x1 x2 ts.length j=some r:=by
   intro r hr;refine Z9e ?_;rw[if_pos (by omega)];refine⟨by omega,ts[j],by rw[Yg];exact Yh hj,_,Zjz _ hl ht,?_⟩;rw[show w ((j:Int)+1)=(j:Int)+1 from h4];exact hr
  refine Zbg.congr ?_ (Zpo (P:=fun t=>¬tcl m.Scan t<1) hj).symm;by_cases h:tcl m.Scan ts[j]<1
  ·exact .inr ⟨fun hc=>hc.1 h,kind,hk,.inr (.inr ⟨_,pre _ (by rw[if_pos h])⟩)⟩
  ·exact(ih.of fun r hr=>pre r (by rw[if_neg h];exact hr)).congr ⟨fun hh=>⟨h,hh⟩,fun hh=>hh.2⟩
theorem l_rf1(m:Zj)(hm:LeM m)(p:Prop)(hc:Zbg (Zbl m 5 1) p):Zbg (Zbl m 5 0) (Zc7 m.Scan∧p):=by
 have hl:Le m.Scan.Steps:=by obtain⟨h1,h2,h3,h4,h5⟩:=hm;assumption
 have w1:w (1+0)=1:=by decide
 have w2:w (0+1)=1:=by decide
 have pre:∀r,(∃v,Zb6 m.Scan=some (Bo v,[])∧_)→Zbl m 5 0=some r:=fun r h=>Zmb (by rw[if_pos (by omega),if_pos rfl];exact h)
 rcases tf (Zbn m.Scan)with hv|hv
 ·refine .inr ⟨fun h=>(by have:=h.1.1;rw[hv]at this;cases this),1,by decide,.inr (.inl (pre _ ⟨false,by rw[Zcv _ hl,hv],?_⟩))⟩;rw[if_neg (by simp),w1]
 rcases Zpn m.Scan hl hv with⟨hd,xs,ys,d1⟩|⟨hd,d1⟩
 ·refine .inr ⟨fun h=>h.1.2.1 hd,1,by decide,.inl ⟨xs,ys,pre _ ⟨true,by rw[Zcv _ hl,hv],?_⟩⟩⟩;rw[if_pos rfl,w1];exact .inr ⟨ys,xs,d1,rfl⟩
 ·have b:=l_rf0 m hl allT (fun t h=>(Zep t).1 h) (by rw[Zmi];omega) 1 (by decide) 5 0 p (by rw[w2];exact hc) 0 (Ya _);refine(b.of fun r hr=>pre r ⟨true,by rw[Zcv _ hl,hv],?_⟩).congr ?_
  ·rw[if_pos rfl,w1];exact .inl ⟨d1,allT,Zmh,hr⟩
  ·simp only[Yl,Zep];constructor
   ·rintro⟨h,hp⟩;exact⟨⟨hv,hd,fun⟨t,ht,hc⟩=>h t ht hc⟩,hp⟩
   ·rintro⟨h,hp⟩;exact⟨fun t ht hc=>h.2.2 ⟨t,ht,hc⟩,hp⟩
theorem l_rf0a(m:Zj)(hl:Le m.Sort_.Steps)(ts:List (List Int))(hts:∀t∈ts,inT t)(hn:ts.length≤1000)(kind:Int)(hk:kind≠0)(x1 x2:Int)(p:Prop)(hc:Zbg (Zbl m x1 (w (x2+1))) p):∀j,j≤ts.length →
  Zbg (Zhe m ts kind x1 x2 ts.length j) ((∀t∈ts.drop j,¬tcl m.Sort_ t<1)∧p):=by
 refine down _ ?_ ?_
 ·refine(hc.of fun r hr=>Z9f (by rw[if_neg (by omega)];exact hr)).congr (by simp)
 ·intro j hj ih;have h4:=Zbp (i:=j) (by omega);have ht:=hts _ (Yc hj);simp only[Y7,Y8]at ih;have pre:∀r,(if tcl m.Sort_ ts[j]<1 then some (.tup [I kind,L 1 (ts[j].map ic),.t .nil],[])=some r else Zhe m ts kind x1 x2 ts.length ((j:Int)+1)=some r)→Zhe m ts kind x1 x2 ts.length j=some r:=by
   intro r hr;refine Z9f ?_;rw[if_pos (by omega)];refine⟨by omega,ts[j],by rw[Yg];exact Yh hj,_,Zjz _ hl ht,?_⟩;rw[show w ((j:Int)+1)=(j:Int)+1 from h4];exact hr
  refine Zbg.congr ?_ (Zpo (P:=fun t=>¬tcl m.Sort_ t<1) hj).symm;by_cases h:tcl m.Sort_ ts[j]<1
  ·exact .inr ⟨fun hc=>hc.1 h,kind,hk,.inr (.inr ⟨_,pre _ (by rw[if_pos h])⟩)⟩
  ·exact(ih.of fun r hr=>pre r (by rw[if_neg h];exact hr)).congr ⟨fun hh=>⟨h,hh⟩,fun hh=>hh.2⟩
theorem l_rf1a(m:Zj)(hm:LeM m)(p:Prop)(hc:Zbg (Zbl m 5 2) p):Zbg (Zbl m 5 1) (Zc7 m.Sort_∧p):=by
 have hl:Le m.Sort_.Steps:=by obtain⟨h1,h2,h3,h4,h5⟩:=hm;assumption
 have w1:w (1+1)=2:=by decide
 have w2:w (1+1)=2:=by decide
 have pre:∀r,(∃v,Zb6 m.Sort_=some (Bo v,[])∧_)→Zbl m 5 1=some r:=fun r h=>Zmb (by rw[if_pos (by omega),if_neg (by omega),if_pos rfl];exact h)
 rcases tf (Zbn m.Sort_)with hv|hv
 ·refine .inr ⟨fun h=>(by have:=h.1.1;rw[hv]at this;cases this),2,by decide,.inr (.inl (pre _ ⟨false,by rw[Zcv _ hl,hv],?_⟩))⟩;rw[if_neg (by simp),w1]
 rcases Zpn m.Sort_ hl hv with⟨hd,xs,ys,d1⟩|⟨hd,d1⟩
 ·refine .inr ⟨fun h=>h.1.2.1 hd,2,by decide,.inl ⟨xs,ys,pre _ ⟨true,by rw[Zcv _ hl,hv],?_⟩⟩⟩;rw[if_pos rfl,w1];exact .inr ⟨ys,xs,d1,rfl⟩
 ·have b:=l_rf0a m hl allT (fun t h=>(Zep t).1 h) (by rw[Zmi];omega) 2 (by decide) 5 1 p (by rw[w2];exact hc) 0 (Ya _);refine(b.of fun r hr=>pre r ⟨true,by rw[Zcv _ hl,hv],?_⟩).congr ?_
  ·rw[if_pos rfl,w1];exact .inl ⟨d1,allT,Zmh,hr⟩
  ·simp only[Yl,Zep];constructor
   ·rintro⟨h,hp⟩;exact⟨⟨hv,hd,fun⟨t,ht,hc⟩=>h t ht hc⟩,hp⟩
   ·rintro⟨h,hp⟩;exact⟨fun t ht hc=>h.2.2 ⟨t,ht,hc⟩,hp⟩
theorem l_rf0b(m:Zj)(hl:Le m.Hash.Steps)(ts:List (List Int))(hts:∀t∈ts,inT t)(hn:ts.length≤1000)(kind:Int)(hk:kind≠0)(x1 x2:Int)(p:Prop)(hc:Zbg (Zbl m x1 (w (x2+1))) p):∀j,j≤ts.length →
  Zbg (Zhf m ts kind x1 x2 ts.length j) ((∀t∈ts.drop j,¬tcl m.Hash t<1)∧p):=by
 refine down _ ?_ ?_
 ·refine(hc.of fun r hr=>Z9g (by rw[if_neg (by omega)];exact hr)).congr (by simp)
 ·intro j hj ih;have h4:=Zbp (i:=j) (by omega);have ht:=hts _ (Yc hj);simp only[Y7,Y8]at ih;have pre:∀r,(if tcl m.Hash ts[j]<1 then some (.tup [I kind,L 1 (ts[j].map ic),.t .nil],[])=some r else Zhf m ts kind x1 x2 ts.length ((j:Int)+1)=some r)→Zhf m ts kind x1 x2 ts.length j=some r:=by
   intro r hr;refine Z9g ?_;rw[if_pos (by omega)];refine⟨by omega,ts[j],by rw[Yg];exact Yh hj,_,Zjz _ hl ht,?_⟩;rw[show w ((j:Int)+1)=(j:Int)+1 from h4];exact hr
  refine Zbg.congr ?_ (Zpo (P:=fun t=>¬tcl m.Hash t<1) hj).symm;by_cases h:tcl m.Hash ts[j]<1
  ·exact .inr ⟨fun hc=>hc.1 h,kind,hk,.inr (.inr ⟨_,pre _ (by rw[if_pos h])⟩)⟩
  ·exact(ih.of fun r hr=>pre r (by rw[if_neg h];exact hr)).congr ⟨fun hh=>⟨h,hh⟩,fun hh=>hh.2⟩
theorem l_rf1b(m:Zj)(hm:LeM m)(p:Prop)(hc:Zbg (Zbl m 5 3) p):Zbg (Zbl m 5 2) (Zc7 m.Hash∧p):=by
 have hl:Le m.Hash.Steps:=by obtain⟨h1,h2,h3,h4,h5⟩:=hm;assumption
 have w1:w (1+2)=3:=by decide
 have w2:w (2+1)=3:=by decide
 have pre:∀r,(∃v,Zb6 m.Hash=some (Bo v,[])∧_)→Zbl m 5 2=some r:=fun r h=>Zmb (by rw[if_pos (by omega),if_neg (by omega),if_neg (by omega),if_pos rfl];exact h)
 rcases tf (Zbn m.Hash)with hv|hv
 ·refine .inr ⟨fun h=>(by have:=h.1.1;rw[hv]at this;cases this),3,by decide,.inr (.inl (pre _ ⟨false,by rw[Zcv _ hl,hv],?_⟩))⟩;rw[if_neg (by simp),w1]
 rcases Zpn m.Hash hl hv with⟨hd,xs,ys,d1⟩|⟨hd,d1⟩
 ·refine .inr ⟨fun h=>h.1.2.1 hd,3,by decide,.inl ⟨xs,ys,pre _ ⟨true,by rw[Zcv _ hl,hv],?_⟩⟩⟩;rw[if_pos rfl,w1];exact .inr ⟨ys,xs,d1,rfl⟩
 ·have b:=l_rf0b m hl allT (fun t h=>(Zep t).1 h) (by rw[Zmi];omega) 3 (by decide) 5 2 p (by rw[w2];exact hc) 0 (Ya _);refine(b.of fun r hr=>pre r ⟨true,by rw[Zcv _ hl,hv],?_⟩).congr ?_
  ·rw[if_pos rfl,w1];exact .inl ⟨d1,allT,Zmh,hr⟩
  ·simp only[Yl,Zep];constructor
   ·rintro⟨h,hp⟩;exact⟨⟨hv,hd,fun⟨t,ht,hc⟩=>h t ht hc⟩,hp⟩
   ·rintro⟨h,hp⟩;exact⟨fun t ht hc=>h.2.2 ⟨t,ht,hc⟩,hp⟩
theorem l_rf0c(m:Zj)(hl:Le m.Merge.Steps)(ts:List (List Int))(hts:∀t∈ts,inT t)(hn:ts.length≤1000)(kind:Int)(hk:kind≠0)(x1 x2:Int)(p:Prop)(hc:Zbg (Zbl m x1 (w (x2+1))) p):∀j,j≤ts.length →
  Zbg (Zhg m ts kind x1 x2 ts.length j) ((∀t∈ts.drop j,¬tcl m.Merge t<1)∧p):=by
 refine down _ ?_ ?_
 ·refine(hc.of fun r hr=>Z9h (by rw[if_neg (by omega)];exact hr)).congr (by simp)
 ·intro j hj ih;have h4:=Zbp (i:=j) (by omega);have ht:=hts _ (Yc hj);simp only[Y7,Y8]at ih;have pre:∀r,(if tcl m.Merge ts[j]<1 then some (.tup [I kind,L 1 (ts[j].map ic),.t .nil],[])=some r else Zhg m ts kind x1 x2 ts.length ((j:Int)+1)=some r)→Zhg m ts kind x1 x2 ts.length j=some r:=by
   intro r hr;refine Z9h ?_;rw[if_pos (by omega)];refine⟨by omega,ts[j],by rw[Yg];exact Yh hj,_,Zjz _ hl ht,?_⟩;rw[show w ((j:Int)+1)=(j:Int)+1 from h4];exact hr
  refine Zbg.congr ?_ (Zpo (P:=fun t=>¬tcl m.Merge t<1) hj).symm;by_cases h:tcl m.Merge ts[j]<1
  ·exact .inr ⟨fun hc=>hc.1 h,kind,hk,.inr (.inr ⟨_,pre _ (by rw[if_pos h])⟩)⟩
  ·exact(ih.of fun r hr=>pre r (by rw[if_neg h];exact hr)).congr ⟨fun hh=>⟨h,hh⟩,fun hh=>hh.2⟩
theorem l_rf1c(m:Zj)(hm:LeM m)(p:Prop)(hc:Zbg (Zbl m 5 4) p):Zbg (Zbl m 5 3) (Zc7 m.Merge∧p):=by
 have hl:Le m.Merge.Steps:=by obtain⟨h1,h2,h3,h4,h5⟩:=hm;assumption
 have w1:w (1+3)=4:=by decide
 have w2:w (3+1)=4:=by decide
 have pre:∀r,(∃v,Zb6 m.Merge=some (Bo v,[])∧_)→Zbl m 5 3=some r:=fun r h=>Zmb (by rw[if_pos (by omega),if_neg (by omega),if_neg (by omega),if_neg (by omega),if_pos rfl];exact h)
 rcases tf (Zbn m.Merge)with hv|hv
 ·refine .inr ⟨fun h=>(by have:=h.1.1;rw[hv]at this;cases this),4,by decide,.inr (.inl (pre _ ⟨false,by rw[Zcv _ hl,hv],?_⟩))⟩;rw[if_neg (by simp),w1]
 rcases Zpn m.Merge hl hv with⟨hd,xs,ys,d1⟩|⟨hd,d1⟩
 ·refine .inr ⟨fun h=>h.1.2.1 hd,4,by decide,.inl ⟨xs,ys,pre _ ⟨true,by rw[Zcv _ hl,hv],?_⟩⟩⟩;rw[if_pos rfl,w1];exact .inr ⟨ys,xs,d1,rfl⟩
 ·have b:=l_rf0c m hl allT (fun t h=>(Zep t).1 h) (by rw[Zmi];omega) 4 (by decide) 5 3 p (by rw[w2];exact hc) 0 (Ya _);refine(b.of fun r hr=>pre r ⟨true,by rw[Zcv _ hl,hv],?_⟩).congr ?_
  ·rw[if_pos rfl,w1];exact .inl ⟨d1,allT,Zmh,hr⟩
  ·simp only[Yl,Zep];constructor
   ·rintro⟨h,hp⟩;exact⟨⟨hv,hd,fun⟨t,ht,hc⟩=>h t ht hc⟩,hp⟩
   ·rintro⟨h,hp⟩;exact⟨fun t ht hc=>h.2.2 ⟨t,ht,hc⟩,hp⟩
theorem l_rf0d(m:Zj)(hl:Le m.Nested.Steps)(ts:List (List Int))(hts:∀t∈ts,inT t)(hn:ts.length≤1000)(kind:Int)(hk:kind≠0)(x1 x2:Int)(p:Prop)(hc:Zbg (Zbl m x1 (w (x2+1))) p):∀j,j≤ts.length →
  Zbg (Zhh m ts kind x1 x2 ts.length j) ((∀t∈ts.drop j,¬tcl m.Nested t<1)∧p):=by
 refine down _ ?_ ?_
 ·refine(hc.of fun r hr=>Z9i (by rw[if_neg (by omega)];exact hr)).congr (by simp)
 ·intro j hj ih;have h4:=Zbp (i:=j) (by omega);have ht:=hts _ (Yc hj);simp only[Y7,Y8]at ih;have pre:∀r,(if tcl m.Nested ts[j]<1 then some (.tup [I kind,L 1 (ts[j].map ic),.t .nil],[])=some r else Zhh m ts kind x1 x2 ts.length ((j:Int)+1)=some r)→Zhh m ts kind x1 x2 ts.length j=some r:=by
   intro r hr;refine Z9i ?_;rw[if_pos (by omega)];refine⟨by omega,ts[j],by rw[Yg];exact Yh hj,_,Zjz _ hl ht,?_⟩;rw[show w ((j:Int)+1)=(j:Int)+1 from h4];exact hr
  refine Zbg.congr ?_ (Zpo (P:=fun t=>¬tcl m.Nested t<1) hj).symm;by_cases h:tcl m.Nested ts[j]<1
  ·exact .inr ⟨fun hc=>hc.1 h,kind,hk,.inr (.inr ⟨_,pre _ (by rw[if_pos h])⟩)⟩
  ·exact(ih.of fun r hr=>pre r (by rw[if_neg h];exact hr)).congr ⟨fun hh=>⟨h,hh⟩,fun hh=>hh.2⟩
theorem l_rf1d(m:Zj)(hm:LeM m)(p:Prop)(hc:Zbg (Zbl m 5 5) p):Zbg (Zbl m 5 4) (Zc7 m.Nested∧p):=by
 have hl:Le m.Nested.Steps:=by obtain⟨h1,h2,h3,h4,h5⟩:=hm;assumption
 have w1:w (1+4)=5:=by decide
 have w2:w (4+1)=5:=by decide
 have pre:∀r,(∃v,Zb6 m.Nested=some (Bo v,[])∧_)→Zbl m 5 4=some r:=fun r h=>Zmb (by rw[if_pos (by omega),if_neg (by omega),if_neg (by omega),if_neg (by omega),if_neg (by omega),if_pos rfl];exact h)
 rcases tf (Zbn m.Nested)with hv|hv
 ·refine .inr ⟨fun h=>(by have:=h.1.1;rw[hv]at this;cases this),5,by decide,.inr (.inl (pre _ ⟨false,by rw[Zcv _ hl,hv],?_⟩))⟩;rw[if_neg (by simp),w1]
 rcases Zpn m.Nested hl hv with⟨hd,xs,ys,d1⟩|⟨hd,d1⟩
 ·refine .inr ⟨fun h=>h.1.2.1 hd,5,by decide,.inl ⟨xs,ys,pre _ ⟨true,by rw[Zcv _ hl,hv],?_⟩⟩⟩;rw[if_pos rfl,w1];exact .inr ⟨ys,xs,d1,rfl⟩
 ·have b:=l_rf0d m hl allT (fun t h=>(Zep t).1 h) (by rw[Zmi];omega) 5 (by decide) 5 4 p (by rw[w2];exact hc) 0 (Ya _);refine(b.of fun r hr=>pre r ⟨true,by rw[Zcv _ hl,hv],?_⟩).congr ?_
  ·rw[if_pos rfl,w1];exact .inl ⟨d1,allT,Zmh,hr⟩
  ·simp only[Yl,Zep];constructor
   ·rintro⟨h,hp⟩;exact⟨⟨hv,hd,fun⟨t,ht,hc⟩=>h t ht hc⟩,hp⟩
   ·rintro⟨h,hp⟩;exact⟨fun t ht hc=>h.2.2 ⟨t,ht,hc⟩,hp⟩
open Classical in
theorem Zbqa(m:Zj)(hm:LeM m):Zn8 m=some (Bo (decide (Zeq m)),[]):=by
 have h5:Zbg (Zbl m 5 5) True:=.inl ⟨trivial,Zmb (by rw[if_neg (by omega)])⟩;have h0:=l_rf1 m hm _ (l_rf1a m hm _ (l_rf1b m hm _ (l_rf1c m hm _ (l_rf1d m hm _ h5))));have hop:Zd4 m=some (.bsl 1 5,[.box (m.c.map .t),.box [.ptr 0 0,.ptr 0 6,.ptr 0 12,.ptr 0 18,.ptr 0 24]]):=Z87 rfl;have hR:Zbg (Zlc m) (Zeq m):=(h0.of fun r hr=>Zbnu ⟨hop,hr⟩).congr (by simp[Zeq]);refine Zbnv ?_;rcases hR with⟨h,h1⟩|⟨h,n,hn,⟨xs,ys,h1⟩|h1|⟨xs,h1⟩⟩
 ·rw[decide_eq_true h];exact .inr (.inl ⟨0,h1,rfl⟩)
 ·rw[decide_eq_false h];exact .inl ⟨ys,n,xs,h1,by rw[decide_eq_false hn]⟩
 ·rw[decide_eq_false h];exact .inr (.inl ⟨n,h1,by rw[decide_eq_false hn]⟩)
 ·rw[decide_eq_false h];exact .inr (.inr ⟨n,xs,h1,by rw[decide_eq_false hn]⟩)
theorem wS{i n:Nat}(h:i<n)(hn:n≤1099511627776):w ((i:Int)+1)=((i+1:Nat):Int):=by
 rw[show w ((i:Int)+1)=(i:Int)+1 from Zt (by omega) (by omega)];simp
theorem gE{α:Type}{xs:List α}{i:Nat}(h:i<xs.length):xs[(i:Int).toNat]?=some xs[i]:=by rw[Yg];exact Yh h
abbrev dig(v:Int):Bool:=inR v 0 9
def rwB(n:Int)(r:List Int):Bool:=r.all dig && decide ((r.length:Int)=n)
theorem Zbqb(r:List Int)(n:Int)(hl:Le r):∀i,i≤r.length→Znm r n r r.length i=some (Bo ((r.drop i).all dig && decide ((r.length:Int)=n)),[]):=by
 refine down _ ?_ ?_
 ·refine Z79 ?_;rw[if_neg (by omega)];simp
 ·intro i hi ih;refine Z79 ?_;rw[if_pos (by omega),Yf hi,Y4,wS hi hl];refine⟨by omega,_,gE hi,_,Zc6 _ _ _,?_⟩;rcases tf (inR r[i] 0 9)with e|e
  ·rw[e];simp[dig,e]
  ·rw[e,if_pos rfl,ih];simp[dig,e]
@[simp] theorem Zbbd(r:List Int)(n:Int)(hl:Le r):Zik r n=some (Bo (rwB n r),[]):=Zbmo (by simpa[rwB]using Zbqb r n hl 0 (Ya _))
theorem Zbqc(r:List Int)(n:Int)(hl:Le r):∀i,i≤r.length→Zoh r n i=some (Bo ((r.drop i).all dig && decide ((r.length:Int)=n)),[]):=by
 refine down _ ?_ ?_
 ·refine Z9s ?_;rw[if_neg (by omega)];simp
 ·intro i hi ih;refine Z9s ?_;rw[if_pos (by omega),Yf hi,Y4,wS hi hl];refine⟨by omega,_,gE hi,_,Zdj _ _ _,?_⟩;rcases tf (inR r[i] 0 9)with e|e
  ·rw[e];simp[dig,e]
  ·rw[e,if_pos rfl,ih];simp[dig,e]
@[simp] theorem Zbbe(r:List Int)(n:Int)(hl:Le r):Zli r n=some (Bo (rwB n r),[]):=Zbod (by simpa[rwB]using Zbqc r n hl 0 (Ya _))
theorem x_cmp(a b:Int):Zq6 a b=some (I (if a<b then -1 else if b<a then 1 else 0),[]):=by
 refine Zbmp ⟨_,Z8a rfl,_,Z8a rfl,?_⟩;rw[if_neg (by simp),if_neg (by simp)];by_cases h1:a<b
 ·rw[if_pos h1,if_pos h1]
 ·rw[if_neg h1,if_neg h1];by_cases h2:b<a
  ·rw[if_pos h2,if_pos h2]
  ·rw[if_neg h2,if_neg h2]
theorem Zbqd(a b:List Int)(ha:Le a)(hb:Le b):∀i,i≤a.length→i≤b.length→Zno a b a a.length i=some (I (cmpR (a.drop i) (b.drop i)),[]):=by
 refine down _ ?_ ?_
 ·intro h;refine Z8b ?_;rw[if_neg (by omega),Yu];by_cases h2:(a.length:Int)<(b.length:Int)
  ·rw[if_pos h2,Yf (l:=b) (i:=a.length) (by omega)];rfl
  ·rw[if_neg h2,show a.length=b.length by omega,Yu];rfl
 ·intro i hi ih h;refine Z8b ?_;rw[if_pos (by omega),Yf hi,wS hi ha];refine⟨by omega,_,gE hi,?_⟩;by_cases h2:(b.length:Int)≤(i:Int)
  ·rw[if_pos h2,show b.drop i=[]from Ybx (by omega)];rfl
  ·have hj:i<b.length:=by omega
   rw[if_neg h2,Yf hj];refine⟨_,gE hj,_,x_cmp _ _,?_⟩;unfold cmpR;by_cases e1:a[i]<b[i]
   ·rw[if_pos e1,if_pos e1];rfl
   ·rw[if_neg e1,if_neg e1];by_cases e2:b[i]<a[i]
    ·rw[if_pos e2,if_pos e2];rfl
    ·rw[if_neg e2,if_neg e2,if_pos rfl];exact ih (by omega)
@[simp] theorem Zbqe(a b:List Int)(ha:Le a)(hb:Le b):Zq8 a b=some (I (cmpR a b),[]) :=
 Zbms ⟨_,Zbmq (by simpa using Zbqd a b ha hb 0 (Ya _) (Ya _)),rfl⟩
theorem Zbbf(a b:List Int)(i:Nat)(ha:i≤a.length)(hb:i≤b.length)(h:i=a.length∨i=b.length):Zoj a b i false=some (I (cmpR (a.drop i) (b.drop i)),[]):=by
 refine Zboe ?_;by_cases h1:(a.length:Int)<(b.length:Int)
 ·rw[if_pos h1,show a.drop i=[]from Ybx (by omega),Yf (l:=b) (i:=i) (by omega)];rfl
 ·rw[if_neg h1];by_cases h2:(b.length:Int)<(a.length:Int)
  ·rw[if_pos h2,show b.drop i=[]from Ybx (by omega),Yf (l:=a) (i:=i) (by omega)];rfl
  ·rw[if_neg h2,show a.drop i=[]from Ybx (by omega),show b.drop i=[]from Ybx (by omega)];rfl
theorem Zbqf(a b:List Int)(ha:Le a)(hb:Le b):∀i,i≤a.length→i≤b.length→Zoi a b i=some (I (cmpR (a.drop i) (b.drop i)),[]):=by
 refine down _ ?_ ?_
 ·intro h;refine Z9t ?_;rw[if_neg (by omega)];exact Zbbf a b _ (Yd _) h (.inl rfl)
 ·intro i hi ih h;refine Z9t ?_;rw[if_pos (by omega)];by_cases h2:(i:Int)<(b.length:Int)
  ·have hj:i<b.length:=by omega
   rw[if_pos h2];refine⟨by omega,_,gE hi,_,gE hj,?_⟩;rw[wS hi ha,Yf hi,Yf hj];unfold cmpR;by_cases e1:a[i]<b[i]
   ·rw[if_pos e1,if_pos e1]
   ·rw[if_neg e1,if_neg e1];by_cases e2:b[i]<a[i]
    ·rw[if_pos e2,if_pos e2]
    ·rw[if_neg e2,if_neg e2];exact ih (by omega)
  ·rw[if_neg h2];exact Zbbf a b _ (by omega) h (.inr (by omega))
@[simp] theorem Zbbg(a b:List Int)(ha:Le a)(hb:Le b):Zlj a b=some (I (cmpR a b),[]) :=
 Zbof (by simpa using Zbqf a b ha hb 0 (Ya _) (Ya _))
def pvA{α:Type}(xs:List α):Nat→Option α
 |0=>none
 |k+1=>xs[k]?
def nxt{α:Type}(lt:α→α→Bool)(p:Option α)(x:α):Bool:=match p with
 |none=>true
 |some q=>lt q x
def adjL{α:Type}(lt:α→α→Bool):Option α→List α→Bool
 |_,[]=>true
 |p,x::xs=>nxt lt p x && adjL lt (some x) xs
theorem Zs2{α:Type}(lt:α→α→Bool){xs:List α}{i:Nat}(hi:i<xs.length):adjL lt (pvA xs i) (xs.drop i)=(nxt lt (pvA xs i) xs[i] && adjL lt (pvA xs (i+1)) (xs.drop (i+1))):=by
 rw[Yf hi,adjL,show pvA xs (i+1)=some xs[i]from Yh hi]
def ltR(a b:List Int):Bool:=decide (cmpR a b<0)
abbrev LeT(t:Zi):Prop:=Le t.Rows∧∀r∈t.Rows,Le r
theorem wP{i n:Nat}(h0:0<i)(h:i<n)(hn:n≤1099511627776):w ((i:Int)-1)=((i-1:Nat):Int):=by
 rw[show w ((i:Int)-1)=(i:Int)-1 from Zt (by omega) (by omega)];omega
theorem Zmk{α:Type}{xs:List α}{i:Nat}(h0:0<i)(h:i-1<xs.length):pvA xs i=some xs[i-1]:=by
 obtain⟨k,rfl⟩:∃k,i=k+1:=⟨i-1,by omega⟩;exact Yh h
theorem Zbqg(rows:List (List Int))(hl:Le rows)(hr:∀r∈rows,Le r):∀i,i≤rows.length→0<i→Znp rows i=some (Bo (adjL ltR (pvA rows i) (rows.drop i)),[]):=by
 refine down _ ?_ ?_
 ·intro h0;refine Zzj ?_;rw[if_neg (by omega)];simp[adjL]
 ·intro i hi ih h0;have hp:i-1<rows.length:=by omega
  have ih':=ih (by omega);refine Zzj ?_;rw[if_pos (by omega),wP h0 hi hl,wS hi hl,Zs2 _ hi,Zmk h0 hp];refine⟨by omega,_,gE hp,by omega,_,gE hi,_,Zbqe _ _ (hr _ (Yc hp)) (hr _ (Yc hi)),?_⟩;unfold nxt ltR at *
  by_cases e:0≤cmpR rows[i-1] rows[i]
  ·rw[if_pos e];simp[show ¬cmpR rows[i-1] rows[i]<0 by omega]
  ·rw[if_neg e,ih'];simp[show cmpR rows[i-1] rows[i]<0 by omega]
theorem Zbqh(rows:List (List Int))(hl:Le rows)(hr:∀r∈rows,Le r):Zq9 rows=some (Bo (adjL ltR none rows),[]):=by
 refine Zbmt ?_
 cases rows with
 |nil=>refine Zzj ?_;rw[if_neg (by simp)];rfl
 |cons r rs=>exact Zbqg (r::rs) hl hr 1 (by simp) (by omega)
def Zc8(t:Zi):Bool:=nmOk t.Name && inR t.Arity 1 3 && decide ((t.Rows.length:Int)≤8) && (t.Rows.all (rwB t.Arity) && adjL ltR none t.Rows)
theorem Zbqi(t:Zi)(h:LeT t):∀i,i≤t.Rows.length→Znq t t.Rows t.Rows.length i=some (Bo ((t.Rows.drop i).all (rwB t.Arity) && (nmOk t.Name && inR t.Arity 1 3 && decide ((t.Rows.length:Int)≤8) && adjL ltR none t.Rows)),[]):=by
 refine down _ ?_ ?_
 ·refine Z8c ?_;rw[if_neg (by omega)];refine⟨_,x_nameOk _,?_⟩;rcases tf (nmOk t.Name)with e1|e1
  ·rw[e1];simp
  rw[e1,if_pos rfl];refine⟨_,Zc6 _ _ _,?_⟩;rcases tf (inR t.Arity 1 3)with e2|e2
  ·rw[e2];simp
  rw[e2,if_pos rfl];by_cases e3:(t.Rows.length:Int)≤8
  ·rw[if_pos e3];exact⟨_,Zbqh t.Rows h.1 h.2,by simp[e3]⟩
  ·rw[if_neg e3];simp[e3]
 ·intro i hi ih;refine Z8c ?_;rw[if_pos (by omega),Yf hi,Y4,wS hi h.1];refine⟨by omega,_,gE hi,_,Zbbd _ _ (h.2 _ (Yc hi)),?_⟩;rcases tf (rwB t.Arity t.Rows[i])with e|e
  ·rw[e];simp
  ·rw[e,if_pos rfl,ih];simp
@[simp] theorem Zbqj(t:Zi)(h:LeT t):Zra t=some (Bo (Zc8 t),[]):=by
 refine Zbmu ?_;rw[show(0:Int)=((0:Nat):Int)from rfl,Zbqi t h 0 (Ya _)];unfold Zc8;simp only[Yl];congr 3;rw[Yb8];simp only[Ye]
 grind
theorem Zbqk(t:Zi)(h:LeT t):∀i,i≤t.Rows.length→Zlk t i=some (Bo ((t.Rows.drop i).all (rwB t.Arity) && adjL ltR (pvA t.Rows i) (t.Rows.drop i)),[]):=by
 refine down _ ?_ ?_
 ·refine Z9u ?_;rw[if_neg (by omega)];simp[adjL]
 ·intro i hi ih;have hr:=h.2 _ (Yc hi);refine Z9u ?_;rw[Zs2 _ hi,if_pos (by omega),Yf hi,Y4,wS hi h.1];refine⟨by omega,_,gE hi,_,Zbbe _ _ hr,?_⟩;rcases tf (rwB t.Arity t.Rows[i])with e|e
  ·rw[e];simp
  rw[e,if_pos rfl];by_cases h0:0<i
  ·have hp:i-1<t.Rows.length:=by omega
   rw[if_pos (by omega),wP h0 hi h.1,Zmk h0 hp];refine⟨by omega,_,gE hp,_,Zbbg _ _ (h.2 _ (Yc hp)) hr,?_⟩;unfold nxt ltR at *
   by_cases e:0≤cmpR t.Rows[i-1] t.Rows[i]
   ·rw[if_pos e];simp[show ¬cmpR t.Rows[i-1] t.Rows[i]<0 by omega]
   ·rw[if_neg e,ih];simp[show cmpR t.Rows[i-1] t.Rows[i]<0 by omega]
  ·have:i=0:=by omega
   subst this;rw[if_neg (by omega),ih];simp[pvA,nxt]
@[simp] theorem Zbql(t:Zi)(h:LeT t):Zok t=some (Bo (Zc8 t),[]):=by
 refine Zbog ⟨_,x_l4Name _,?_⟩;unfold Zc8;rcases tf (nmOk t.Name)with e1|e1
 ·rw[e1];simp
 rw[e1,if_pos rfl];refine⟨_,Zdj _ _ _,?_⟩;rcases tf (inR t.Arity 1 3)with e2|e2
 ·rw[e2];simp
 rw[e2,if_pos rfl];by_cases e3:8<(t.Rows.length:Int)
 ·rw[if_pos e3];simp[show ¬(t.Rows.length:Int)≤8 by omega]
 ·rw[if_neg e3];have:=Zbqk t h 0 (Ya _);refine Yb this ?_;simp[show(t.Rows.length:Int)≤8 by omega,pvA]
def ltN(a b:Zi):Bool:=Op.bytesLess a.Name.toList b.Name.toList
abbrev LeD(d:Zk):Prop:=Le d.Tables∧∀t∈d.Tables,LeT t
def Zer(d:Zk):Bool:=d.Tables.all Zc8 && adjL ltN none d.Tables && decide ((d.Tables.length:Int)≤6)
theorem Zbqm(d:Zk)(h:LeD d):∀i,i≤d.Tables.length→Zkw d d.Tables d.Tables.length i=some (Bo ((d.Tables.drop i).all Zc8 && adjL ltN (pvA d.Tables i) (d.Tables.drop i) && decide ((d.Tables.length:Int)≤6)),[]):=by
 refine down _ ?_ ?_
 ·refine Z8d ?_;rw[if_neg (by omega)];simp[adjL]
 ·intro i hi ih;refine Z8d ?_;rw[Zs2 _ hi,if_pos (by omega),Yf hi,Y4,wS hi h.1];refine⟨by omega,_,gE hi,_,Zbqj _ (h.2 _ (Yc hi)),?_⟩;rcases tf (Zc8 d.Tables[i])with e|e
  ·rw[e];simp
  rw[e,if_pos rfl];by_cases h0:0<i
  ·have hp:i-1<d.Tables.length:=by omega
   rw[if_pos (by omega),wP h0 hi h.1,Zmk h0 hp];refine⟨by omega,_,gE hp,?_⟩;unfold nxt ltN at *
   rcases tf (Op.bytesLess d.Tables[i-1].Name.toList d.Tables[i].Name.toList)with e|e
   ·rw[e];simp[e]
   ·rw[e,if_pos rfl,ih];simp[e]
  ·have:i=0:=by omega
   subst this;rw[if_neg (by omega),ih];simp[pvA,nxt]
@[simp] theorem Zbqn(d:Zk)(h:LeD d):Zrb d=some (Bo (Zer d),[]):=by
 refine Zbmv ?_;have:=Zbqm d h 0 (Ya _);refine Yb this ?_;unfold Zer;simp[pvA]
theorem Zbqo(d:Zk)(h:LeD d):∀i,i≤d.Tables.length→Zll d i=some (Bo ((d.Tables.drop i).all Zc8 && adjL ltN (pvA d.Tables i) (d.Tables.drop i) && decide ((d.Tables.length:Int)≤6)),[]):=by
 refine down _ ?_ ?_
 ·refine Z9v ?_;rw[if_neg (by omega)];simp[adjL]
 ·intro i hi ih;refine Z9v ?_;rw[Zs2 _ hi,if_pos (by omega),Yf hi,Y4,wS hi h.1];refine⟨by omega,_,gE hi,_,Zbql _ (h.2 _ (Yc hi)),?_⟩;rcases tf (Zc8 d.Tables[i])with e|e
  ·rw[e];simp
  rw[e,if_pos rfl];by_cases h0:0<i
  ·have hp:i-1<d.Tables.length:=by omega
   rw[if_pos (by omega),wP h0 hi h.1,Zmk h0 hp];refine⟨by omega,_,gE hp,?_⟩;unfold nxt ltN at *
   rcases tf (Op.bytesLess d.Tables[i-1].Name.toList d.Tables[i].Name.toList)with e|e
   ·rw[e];simp[e]
   ·rw[e,if_pos rfl,ih];simp[e]
  ·have:i=0:=by omega
   subst this;rw[if_neg (by omega),ih];simp[pvA,nxt]
@[simp] theorem Zbqp(d:Zk)(h:LeD d):Zr9 d=some (Bo (Zer d),[]):=by
 refine Zboh ?_;have:=Zbqo d h 0 (Ya _);refine Yb this ?_;unfold Zer;simp[pvA]
def Ze7(d:Zk)(n:ByteArray):Option Zi:=if Zer d=true then d.Tables.find? (fun t=>decide (t.Name=n))else none
theorem Zbqq(xs:List (List Int))(hx:Le xs)(hr:∀r∈xs,r.length≤4)(hl:xs.length≤1000000):∀i,i≤xs.length→Znr (xs.take i) xs xs.length i=some (.own 0,[.arr 30 1 true (xs.map isc)]):=by
 refine down _ ?_ ?_
 ·refine Z8e ?_;rw[if_neg (by omega),Ycm]
 ·intro i hi ih;refine Z8e ?_;rw[if_pos (by omega),wS hi hx];have:=hr _ (Yc hi);refine⟨by omega,_,gE hi,_,Zmj _ (by omega),by rw[Ybw];omega,?_⟩;rw[Ybn hi]at ih;exact ih
theorem Zz7(xs:List (List Int))(hr:∀r∈xs,r.length≤4)(hl:xs.length≤1000000):Zg0 xs=some (.own 0,[.arr 30 1 true (xs.map isc)]) :=
 Zbmx (by simpa using Zbqq xs (by omega) hr hl 0 (Ya _))
theorem Zbbh{α:Type}(p:α→Bool):∀(xs:List α) (i:Nat),match xs.find? p with
  |none=>Zbi p xs i=-1
  |some x=>∃j,Zbi p xs i=((i+j:Nat):Int)∧xs[j]?=some x
 |[],i=>by simp[Zbi]
 |x::xs,i=>by
  unfold Zbi;rw[List.find?_cons];rcases tf (p x)with e|e
  ·rw[e,if_neg (by simp)];have:=Zbbh p xs (i+1);revert this;simp only
   cases xs.find? p with
   |none=>exact id
   |some y=>rintro⟨j,h1,h2⟩;exact⟨j+1,by rw[h1];congr 1;omega,by simpa using h2⟩
  ·rw[e,if_pos rfl];exact⟨0,rfl,rfl⟩
theorem l_idxT(s:List Zi)(n:ByteArray)(hs:Le s):∀i,i≤s.length→Znl s n s.length i=some (I (Zbi (fun t=>decide (t.Name=n)) (s.drop i) i),[]):=by
 refine down _ ?_ ?_
 ·refine Z78 ?_;rw[if_neg (by omega)];simp[Zbi]
 ·intro i hi ih;refine Z78 ?_;rw[if_pos (by omega),Znf _ hi,wS hi hs];refine⟨by omega,_,gE hi,_,Zbmm rfl,?_⟩;split
  ·rfl
  ·exact ih
def lookR(o:Option Zi):AV×List Blk:=match o with
 |none=>(.tup [.agg [.t (.str ⟨#[]⟩),I 0,.t .nil],Bo false],[])
 |some t=>(.tup [.agg [.t (.str t.Name),I t.Arity,.own 0],Bo true],[.arr 30 1 true (t.Rows.map isc)])
theorem Zs3{d:Zk}(hv:Zer d=true){t:Zi}(ht:t∈d.Tables):Zc8 t=true:=by
 unfold Zer at hv;simp only[Ye]at hv;exact Yn.1 hv.1.1 t ht
theorem Zbbi{t:Zi}(h:Zc8 t=true):t.Rows.length≤8:=by
 unfold Zc8 at h;simp only[Ye,decide_eq_true_eq]at h;omega
theorem Zbbj{t:Zi}(h:Zc8 t=true):∀r∈t.Rows,r.length≤3:=by
 intro r hr;unfold Zc8 at h;simp only[Ye]at h;have h1:=Yn.1 h.2.1 r hr;have h2:=h.1.1.2;unfold rwB at h1;simp only[inR,Ye,decide_eq_true_eq]at h1 h2;omega
theorem look_mem{d:Zk}{n:ByteArray}{t:Zi}(h:Ze7 d n=some t):Zer d=true∧t∈d.Tables∧t.Name=n:=by
 unfold Ze7 at h;split at h
 ·rename_i hv;exact⟨hv,List.mem_of_find?_eq_some h,by simpa using List.find?_some h⟩
 ·cases h
theorem Zbbk(d:Zk)(h:LeD d)(n:ByteArray):Zg1 d n=some (lookR (Ze7 d n)):=by
 have hi:=Zbmn (by simpa using l_idxT d.Tables n h.1 0 (Ya _));have hf:=Zbbh (fun t:Zi=>decide (t.Name=n)) d.Tables 0;refine Zbmz ⟨_,hi,?_⟩;unfold Ze7
 cases hq:d.Tables.find? (fun t=>decide (t.Name=n))with
 |none =>
  rw[hq]at hf;simp only at hf;rw[hf,if_pos (by omega)]
  split<;>rfl
 |some t =>
  rw[hq]at hf;obtain⟨j,h1,h2⟩:=hf;rw[Yo]at h1;rw[h1,if_neg (by omega)];refine⟨_,Zbqn d h,?_⟩;rcases tf (Zer d)with e|e
  ·rw[e];rfl
  ·rw[e,if_pos rfl,if_pos rfl];have hm:=Yw h2;have hT:=h.2 t hm;have h8:=Zbbi (Zs3 e hm);refine⟨by omega,t,by rw[Yg];exact h2,_,_,_,Zbmy ⟨_,Zz7 t.Rows (fun r hr=>by have:=Zbbj (Zs3 e hm) r hr;omega) (by omega),rfl⟩,rfl⟩
theorem Zbqr(t:Zi)(h:LeT t)(h8:t.Rows.length≤8)(h3:∀r∈t.Rows,r.length≤3)(a a':ByteArray)(b b':Int):∀i,i≤t.Rows.length→Zom t a b a' b' (t.Rows.take i) i=some (.agg [.t (.str a'),I b',.own 0],[.arr 30 1 true (t.Rows.map isc)]):=by
 refine down _ ?_ ?_
 ·refine Z9w ?_;rw[if_neg (by omega),Ycm]
 ·intro i hi ih;refine Z9w ?_;rw[if_pos (by omega),wS hi h.1];have:=h3 _ (Yc hi);rw[Ybn hi]at ih;exact⟨by omega,_,gE hi,by omega,by rw[Ybw];omega,ih⟩
theorem Zbqs(t:Zi)(h:LeT t)(h8:t.Rows.length≤8)(h3:∀r∈t.Rows,r.length≤3):Zol t=some (if t.Rows=[]then(.agg [.t (.str t.Name),I t.Arity,.t .nil],[])else(.agg [.t (.str t.Name),I t.Arity,.own 0],[.arr 30 1 true (t.Rows.map isc)])):=by
 refine Zboj ?_;refine Zboi ?_;by_cases e:t.Rows=[]
 ·rw[if_neg (by rw[e];simp),if_pos e]
 ·have h0:0<t.Rows.length:=Ydr.2 e;have:=h3 _ (Yc h0);rw[if_pos (by omega),if_neg e];refine⟨by omega,_,gE h0,by omega,?_⟩;have:=Zbqr t h h8 h3 ⟨#[]⟩ t.Name 0 t.Arity 1 (by omega);rw[Ybn h0]at this;rw[show w (0+1)=1 from by decide];simpa using this
def lookS(o:Option Zi):AV×List Blk:=match o with
 |none=>(.tup [.agg [.t (.str ⟨#[]⟩),I 0,.t .nil],Bo false],[])
 |some t=>if t.Rows=[]then(.tup [.agg [.t (.str t.Name),I t.Arity,.t .nil],Bo true],[])else(.tup [.agg [.t (.str t.Name),I t.Arity,.own 0],Bo true],[.arr 30 1 true (t.Rows.map isc)])
theorem Zbqt(d:Zk)(h:LeD d)(n:ByteArray):∀i,i≤d.Tables.length→Zon d ⟨#[]⟩ 0 n i=some (lookS (if Zer d=true then(d.Tables.drop i).find? (fun t=>decide (t.Name=n))else none)):=by
 refine down _ ?_ ?_
 ·refine Z9x ?_;rw[if_neg (by omega),Yu];split<;>rfl
 ·intro i hi ih;refine Z9x ?_;rw[if_pos (by omega),wS hi h.1];refine⟨_,Zbqp d h,?_⟩;rcases tf (Zer d)with e|e
  ·rw[e];rfl
  rw[e,if_pos rfl]at ih⊢;rw[if_pos rfl,Yf hi,List.find?_cons];have hm:=Yc hi;refine⟨by omega,_,gE hi,?_⟩;by_cases e2:d.Tables[i].Name=n
  ·rw[if_pos e2];have hc:=Zbqs _ (h.2 _ hm) (Zbbi (Zs3 e hm)) (Zbbj (Zs3 e hm));simp only[e2,decide_true,lookS];by_cases e3:d.Tables[i].Rows=[]
   ·rw[if_pos e3]at hc⊢;exact .inl ⟨_,_,hc,by rw[e2]⟩
   ·rw[if_neg e3]at hc⊢;exact .inr ⟨_,_,_,hc,by rw[e2]⟩
  ·rw[if_neg e2,ih];simp only[e2,decide_false]
theorem Zbbl(d:Zk)(h:LeD d)(n:ByteArray):Zhm d n=some (lookS (Ze7 d n)) :=
 Zbok (by simpa[Ze7]using Zbqt d h n 0 (Ya _))
def forOk(d:Zk)(a:Atom):Bool:=match Ze7 d a.Name with
 |none=>false
 |some t=>decide (t.Arity=(a.Vars.length:Int))
def qFor(d:Zk)(q:Zd):Bool:=Zw q.Zn q.Atoms && q.Atoms.all (forOk d)
theorem Zbqu(d:Zk)(h:LeD d)(q:Zd)(hq:LeQ q):∀i,i≤q.Atoms.length→Zns d q.Atoms q.Atoms.length i=some (Bo ((q.Atoms.drop i).all (forOk d)),[]):=by
 refine down _ ?_ ?_
 ·refine Z8f ?_;rw[if_neg (by omega)];simp
 ·intro i hi ih;refine Z8f ?_;rw[if_pos (by omega),Yf hi,Y4,wS hi hq.1];refine⟨by omega,_,gE hi,?_⟩;have hk:=Zbbk d h q.Atoms[i].Name;unfold forOk at ih⊢
  cases e:Ze7 d q.Atoms[i].Name with
  |none =>
   rw[e]at hk
   refine .inl ⟨_,_,hk,by simp⟩
  |some t =>
   rw[e]at hk;refine .inr ⟨_,_,_,hk,?_⟩;by_cases e2:t.Arity=(q.Atoms[i].Vars.length:Int)
   ·rw[if_pos e2,ih];simp[e2]
   ·rw[if_neg e2];simp[e2]
@[simp] theorem Zz8(d:Zk)(h:LeD d)(q:Zd)(hq:LeQ q):Zkx d q=some (Bo (qFor d q),[]):=by
 refine Zbm0 ⟨_,Zba5 q hq,?_⟩;unfold qFor;rcases tf (Zw q.Zn q.Atoms)with e|e
 ·rw[e];simp
 ·rw[e,if_pos rfl];have:=Zbqu d h q hq 0 (Ya _);refine Yb this ?_;simp
theorem Zbqv(d:Zk)(h:LeD d)(q:Zd)(hq:LeQ q):∀i,i≤q.Atoms.length→Zlm d q i=some (Bo ((q.Atoms.drop i).all (forOk d)),[]):=by
 refine down _ ?_ ?_
 ·refine Z9y ?_;rw[if_neg (by omega)];simp
 ·intro i hi ih;refine Z9y ?_;rw[if_pos (by omega),Yf hi,Y4,wS hi hq.1];refine⟨by omega,_,gE hi,?_⟩;have hk:=Zbbl d h q.Atoms[i].Name;unfold forOk at ih⊢
  cases e:Ze7 d q.Atoms[i].Name with
  |none =>
   rw[e]at hk
   refine .inl ⟨_,_,_,hk,by simp⟩
  |some t =>
   rw[e]at hk;simp only[lookS]at hk;by_cases e3:t.Rows=[]
   ·rw[if_pos e3]at hk;refine .inl ⟨_,_,_,hk,?_⟩;rw[if_pos rfl];by_cases e2:t.Arity=(q.Atoms[i].Vars.length:Int)
    ·rw[if_pos e2,ih];simp[e2]
    ·rw[if_neg e2];simp[e2]
   ·rw[if_neg e3]at hk;refine .inr ⟨_,_,_,hk,?_⟩;by_cases e2:t.Arity=(q.Atoms[i].Vars.length:Int)
    ·rw[if_pos e2,ih];simp[e2]
    ·rw[if_neg e2];simp[e2]
@[simp] theorem Zz9(d:Zk)(h:LeD d)(q:Zd)(hq:LeQ q):Zje d q=some (Bo (qFor d q),[]):=by
 refine Zbol ⟨_,Zz1 q hq,?_⟩;unfold qFor;rcases tf (Zw q.Zn q.Atoms)with e|e
 ·rw[e];simp
 ·rw[e,if_pos rfl];have:=Zbqv d h q hq 0 (Ya _);refine Yb this ?_;simp
def rowsA(d:Zk)(a:Atom):List (List Int):=match Ze7 d a.Name with
 |none=>[]
 |some t=>t.Rows
theorem Z0a{α β:Type}(f:α→List β)(k:Nat)(hf:∀x,(f x).length≤k):∀l:List α,(l.flatMap f).length≤k*l.length
 |[]=>by simp
 |x::l=>by rw[Ybr,Yp,Ybb,Ydd];have:=hf x;have:=Z0a f k hf l;omega
end Go.Proofs.YtgnfoghkbpkgjaaGreat
namespace Go.Stb
open Go.Sort
variable{α:Type}[Inhabited α](k:α→Int)
def ltK(x y:α):Bool:=decide (k x<k y)
def Srt(a b:Nat)(d:Array α):Prop:=∀x y,a≤x→x<y→y<b→k d[x]!≤k d[y]!
structure Stp (a b:Nat) (d e:Array α):Prop where
 size:e.size=d.size
 out:∀x,(x<a∨b≤x)→e[x]! = d[x]!
 pres:∀P:α→Prop,(∀x,a≤x→x<b→P d[x]!)→∀x,a≤x→x<b→P e[x]!
 stab:∀v:Int,e.toList.filter (fun x=>decide (k x=v))=d.toList.filter (fun x=>decide (k x=v))
variable{k}
omit [Inhabited α] in
theorem swoK:SWO (ltK k) where
 irrefl x:=by simp[ltK]
 trans x y z h1 h2:=by simp only[ltK,decide_eq_true_eq]at *;omega
 ntrans x y z h1 h2:=by simp only[ltK,decide_eq_false_iff_not]at *;omega
theorem Stp.refl(a b:Nat)(d:Array α):Stp k a b d d:=⟨rfl,fun _ _=>rfl,fun P h=>h,fun _=>rfl⟩
theorem Stp.trans{a b:Nat}{d e f:Array α}(h:Stp k a b d e)(g:Stp k a b e f):Stp k a b d f :=
 ⟨g.size.trans h.size,fun x hx=>(g.out x hx).trans (h.out x hx),fun P hp=>g.pres P (h.pres P hp),fun v=>(g.stab v).trans (h.stab v)⟩
theorem Stp.mono{a b a' b':Nat}{d e:Array α}(h:Stp k a b d e)(ha:a'≤a)(hb:b≤b'):Stp k a' b' d e where
 size:=h.size
 out x hx:=h.out x (by omega)
 pres P hp x h1 h2:=by
  by_cases hx:a≤x∧x<b
  ·exact h.pres P (fun y y1 y2=>hp y (by omega) (by omega)) x hx.1 hx.2
  ·rw[h.out x (by omega)];exact hp x h1 h2
 stab:=h.stab
theorem Srt.out{a b c d:Nat}{x y:Array α}(h:Srt k a b x)(g:Stp k c d x y)(hd:b≤c∨d≤a):Srt k a b y:=by
 intro i j h1 h2 h3;rw[g.out i (by omega),g.out j (by omega)];exact h i j h1 h2 h3
theorem Srt.sub{a b a' b':Nat}{x:Array α}(h:Srt k a b x)(ha:a≤a')(hb:b'≤b):Srt k a' b' x :=
 fun i j h1 h2 h3=>h i j (by omega) h2 (by omega)
theorem Srt.le{a b:Nat}{x:Array α}(h:Srt k a b x){i j:Nat}(h1:a≤i)(h2:i≤j)(h3:j<b):k x[i]!≤k x[j]!:=by
 by_cases e:i=j
 ·subst e;exact Int.le_refl _
 ·exact h i j h1 (by omega) h3
theorem Zes(d:Array α)(x:Nat)(h:x<d.size):d.toList[x]?=some d[x]!:=by
 rw[Array.getElem?_toList,Array.getElem?_eq_getElem h,getElem!_pos d x h]
theorem Z0b{l:List α}{e:Array α}(hl:l.length=e.size)(h:∀x,x<e.size→l[x]?=some e[x]!):e.toList=l:=by
 apply List.ext_getElem?;intro x;by_cases hx:x<e.size
 ·rw[Zes e x hx,h x hx]
 ·rw[List.getElem?_eq_none (by simpa using hx),List.getElem?_eq_none (by omega)]
omit [Inhabited α] in
theorem Zbbm(p x y s:List α)(v:Int)(h:∀a∈x,∀b∈y,k a≠k b):(p++y++x++s).filter (fun a=>decide (k a=v))=(p++x++y++s).filter (fun a=>decide (k a=v)):=by
 simp only[List.filter_append];by_cases hx:x.filter (fun a=>decide (k a=v))=[]
 ·rw[hx];simp
 ·by_cases hy:y.filter (fun a=>decide (k a=v))=[]
  ·rw[hy];simp
  ·obtain⟨a,ha⟩:=List.exists_mem_of_ne_nil _ hx;obtain⟨b,hb⟩:=List.exists_mem_of_ne_nil _ hy;simp only[List.mem_filter,decide_eq_true_eq]at ha hb;exact absurd (ha.2.trans hb.2.symm) (h a ha.1 b hb.1)
theorem swp_list(d:Array α)(i:Nat)(h:i+1<d.size):(swp d (i+1) i).toList=d.toList.take i++[d[i+1]!]++[d[i]!]++d.toList.drop (i+2):=by
 refine Z0b (by simp[swp_size];omega) fun x hx=>?_
 rw[swp_size]at hx;rw[swp_get d h (show i<d.size by omega)];by_cases h1:x<i
 ·rw[if_neg (by omega),if_neg (by omega),List.append_assoc,List.append_assoc,List.getElem?_append_left (by simp;omega),List.getElem?_take,if_pos h1,Zes d x hx]
 ·by_cases h2:x=i
  ·subst h2;rw[if_pos rfl,List.append_assoc,List.append_assoc,List.getElem?_append_right (by simp;omega)];simp[show min x d.size=x by omega]
  ·by_cases h3:x=i+1
   ·subst h3;rw[if_neg (by omega),if_pos rfl,List.append_assoc,List.append_assoc,List.getElem?_append_right (by simp;omega)];simp[show min i d.size=i by omega,show i+1-i=1 by omega]
   ·rw[if_neg h2,if_neg h3,List.getElem?_append_right (by simp;omega),List.getElem?_drop];rw[show i+2+(x-(d.toList.take i++[d[i+1]!]++[d[i]!]).length)=x by simp;omega];exact Zes d x hx
theorem Z0c(d:Array α)(i:Nat)(h:i+1<d.size):d.toList=d.toList.take i++[d[i]!]++[d[i+1]!]++d.toList.drop (i+2):=by
 refine Z0b (by simp;omega) fun x hx=>?_
 by_cases h1:x<i
 ·rw[List.append_assoc,List.append_assoc,List.getElem?_append_left (by simp;omega),List.getElem?_take,if_pos h1,Zes d x hx]
 ·by_cases h2:x=i
  ·subst h2;rw[List.append_assoc,List.append_assoc,List.getElem?_append_right (by simp;omega)];simp[show min x d.size=x by omega]
  ·by_cases h3:x=i+1
   ·subst h3;rw[List.append_assoc,List.append_assoc,List.getElem?_append_right (by simp;omega)];simp[show min i d.size=i by omega,show i+1-i=1 by omega]
   ·rw[List.getElem?_append_right (by simp;omega),List.getElem?_drop];rw[show i+2+(x-(d.toList.take i++[d[i]!]++[d[i+1]!]).length)=x by simp;omega];exact Zes d x hx
theorem Zs4(d:Array α)(i:Nat)(h:i+1<d.size)(hk:k d[i+1]!<k d[i]!):Stp k i (i+2) d (swp d (i+1) i):=by
 have g:=swp_get d h (show i<d.size by omega);refine⟨swp_size _ _ _,fun x hx=>by rw[g,if_neg (by omega),if_neg (by omega)],fun P hp x h1 h2=>?_,fun v=>?_⟩
 ·rw[g];split
  ·exact hp _ (by omega) (by omega)
  ·split
   ·exact hp _ (by omega) (by omega)
   ·exact hp _ h1 h2
 ·rw[swp_list d i h,Z0c d i h];have hl:(d.toList.take i++[d[i]!]++[d[i+1]!]++d.toList.drop (i+2)).take i=d.toList.take i:=by rw[←Z0c d i h]
  have hr:(d.toList.take i++[d[i]!]++[d[i+1]!]++d.toList.drop (i+2)).drop (i+2)=d.toList.drop (i+2):=by rw[←Z0c d i h]
  rw[hl,hr];exact Zbbm _ _ _ _ v (by simp;omega)
theorem swp_comm(d:Array α)(i j:Nat)(hi:i<d.size)(hj:j<d.size):swp d i j=swp d j i:=by
 refine Array.ext (by rw[swp_size,swp_size]) fun x h1 h2=>?_
 have g1:=swp_get d hi hj x;have g2:=swp_get d hj hi x;rw[getElem!_pos _ x h1]at g1;rw[getElem!_pos _ x h2]at g2;rw[g1,g2];by_cases e1:x=j
 ·by_cases e2:x=i
  ·subst e1;subst e2;rfl
  ·rw[if_pos e1,if_neg e2,if_pos e1]
 ·by_cases e2:x=i
  ·rw[if_neg e1,if_pos e2,if_pos e2]
  ·rw[if_neg e1,if_neg e2,if_neg e2,if_neg e1]
theorem Z0d(a:Nat):∀(j:Nat) (d:Array α) (b:Nat),a≤j→j<b→b≤d.size→Stp k a b d (insInner (ltK k) a j d)
 |0,d,b,_,_,_=>by unfold insInner;exact .refl _ _ _
 |j+1,d,b,haj,hjb,hb=>by
  unfold insInner;split
  ·rename_i hc;simp only[Bool.and_eq_true,decide_eq_true_eq,ltK]at hc;exact((Zs4 d j (by omega) hc.2).mono (by omega) (by omega)).trans (Z0d a j _ b (by omega) (by omega) (by rw[swp_size];exact hb))
  ·exact .refl _ _ _
theorem Zbbn(a b:Nat):∀(n i:Nat) (d:Array α),b-i=n→a<i→b≤d.size→Stp k a b d (insOuter (ltK k) a b i d)
 |0,i,d,hn,_,_=>by rw[insOuter,if_neg (by omega)];exact .refl _ _ _
 |n+1,i,d,hn,hai,hb=>by
  rw[insOuter,if_pos (by omega)];have h1:=Z0d (k:=k) a i d b (by omega) (by omega) hb;exact h1.trans (Zbbn a b n (i+1) _ (by omega) (by omega) (by rw[h1.size];exact hb))
theorem ins_stp(d:Array α)(a b:Nat)(hb:b≤d.size):Stp k a b d (insertionSort (ltK k) d a b):=Zbbn a b _ _ d rfl (by omega) hb
theorem ins_srt(d:Array α)(a b:Nat)(hab:a≤b)(hb:b≤d.size):Srt k a b (insertionSort (ltK k) d a b):=by
 have h:=(insertionSort_holds (lt:=ltK k) swoK d a b hab hb).2;intro x y h1 h2 h3;have:=h x y h1 h2 h3;simp only[ltK,decide_eq_false_iff_not]at this;omega
def swr(a b:Nat):Nat→Array α→Array α
 |0,d=>d
 |n+1,d=>swp (swr a b n d) (a+n) (b+n)
theorem Zfq(a b:Nat):∀(n:Nat) (d:Array α),(swr a b n d).size=d.size
 |0,d=>rfl
 |n+1,d=>by rw[swr,swp_size,Zfq]
theorem Zbbo(a b:Nat):∀(n:Nat) (d:Array α),a+n≤b→b+n≤d.size→∀x,(swr a b n d)[x]! = if a≤x∧x<a+n then d[b+(x-a)]! else if b≤x∧x<b+n then d[a+(x-b)]! else d[x]!
 |0,d,_,_,x=>by rw[if_neg (by omega),if_neg (by omega)];rfl
 |n+1,d,h1,h2,x=>by
  have ih:=Zbbo a b n d (by omega) (by omega);rw[swr,swp_get _ (by rw[Zfq];omega) (by rw[Zfq];omega),ih,ih,ih];by_cases e1:x=b+n
  ·subst e1;rw[if_pos rfl,if_neg (by omega),if_neg (by omega),if_neg (by omega),if_pos (by omega)];congr 1;omega
  ·rw[if_neg e1];by_cases e2:x=a+n
   ·subst e2;rw[if_pos rfl,if_neg (by omega),if_neg (by omega),if_pos (by omega)];congr 1;omega
   ·rw[if_neg e2];by_cases e3:a≤x∧x<a+n
    ·rw[if_pos e3,if_pos (by omega)]
    ·rw[if_neg e3,if_neg (show ¬(a≤x∧x<a+(n+1)) by omega)];by_cases e4:b≤x∧x<b+n
     ·rw[if_pos e4,if_pos (by omega)]
     ·rw[if_neg e4,if_neg (by omega)]
theorem Z0e(d:Array α)(p x m y s:List α)(h:d.toList=p++(x++(m++(y++s))))(hxy:y.length=x.length){a b n:Nat}(ha:a=p.length)(hb:b=a+x.length+m.length)(hn:n=x.length) :
  (swr a b n d).toList=p++(y++(m++(x++s))):=by
 have hs:d.size=p.length+(x.length+(m.length+(y.length+s.length))):=by
  rw[←Array.length_toList,h];simp
 have hd:∀i,i<d.size→(p++(x++(m++(y++s))))[i]?=some d[i]!:=fun i hi=>by rw[←h];exact Zes d i hi
 refine Z0b (by rw[Zfq,hs];simp;omega) fun i hi=>?_
 rw[Zfq]at hi;rw[Zbbo a b n d (by omega) (by omega)];by_cases e0:i<p.length
 ·have:=hd i hi;rw[List.getElem?_append_left e0]at this⊢;rw[if_neg (by omega),if_neg (by omega)];exact this
 ·rw[List.getElem?_append_right (by omega)];by_cases e1:i-p.length<y.length
  ·have:=hd (b+(i-a)) (by omega);rw[List.getElem?_append_right (by omega),List.getElem?_append_right (by omega),List.getElem?_append_right (by omega),List.getElem?_append_left (by omega)]at this;rw[List.getElem?_append_left e1,if_pos (by omega),←this];congr 1;omega
  ·rw[List.getElem?_append_right (by omega)];by_cases e2:i-p.length-y.length<m.length
   ·have:=hd i hi;rw[List.getElem?_append_right (by omega),List.getElem?_append_right (by omega),List.getElem?_append_left (by omega)]at this;rw[List.getElem?_append_left e2,if_neg (by omega),if_neg (by omega),←this];congr 1;omega
   ·rw[List.getElem?_append_right (by omega)];by_cases e3:i-p.length-y.length-m.length<x.length
    ·have:=hd (a+(i-b)) (by omega);rw[List.getElem?_append_right (by omega),List.getElem?_append_left (by omega)]at this;rw[List.getElem?_append_left e3,if_neg (by omega),if_pos (by omega),←this];congr 1;omega
    ·have:=hd i hi;rw[List.getElem?_append_right (by omega),List.getElem?_append_right (by omega),List.getElem?_append_right (by omega),List.getElem?_append_right (by omega)]at this;rw[List.getElem?_append_right (by omega),if_neg (by omega),if_neg (by omega),←this];congr 1;omega
structure Rot (a m b:Nat) (d:Array α) (i j:Nat) (e:Array α):Prop where
 size:e.size=d.size
 ex:∀P X Y S,d.toList=P++(X++(Y++S))→P.length=a→a+X.length=m→m+Y.length=b →
  ∃p x y s,e.toList=p++(x++(y++s))∧p.length=m-i∧x.length=i∧y.length=j∧p++(y++(x++s))=P++(Y++(X++S))
omit [Inhabited α] in
theorem Rot.start{a m b:Nat}(d:Array α)(h1:a≤m)(h2:m≤b):Rot a m b d (m-a) (b-m) d :=
 ⟨rfl,fun P X Y S h p1 p2 p3=>⟨P,X,Y,S,h,by omega,by omega,by omega,rfl⟩⟩
theorem Rot.gt{a m b i j:Nat}{d e:Array α}(R:Rot a m b d i j e)(h:j<i)(hi:i≤m):Rot a m b d (i-j) j (swr (m-i) m j e):=by
 refine⟨(Zfq _ _ _ _).trans R.size,fun P X Y S h0 p1 p2 p3=>?_⟩;obtain⟨p,x,y,s,he,q1,q2,q3,q4⟩:=R.ex P X Y S h0 p1 p2 p3;refine⟨p++y,x.drop j,x.take j,s,?_,by simp;omega,by simp;omega,by simp;omega,?_⟩
 ·rw[Z0e e p (x.take j) (x.drop j) y s (by rw[he,←List.append_assoc (x.take j),List.take_append_drop]) (by simp;omega) (by omega) (by simp;omega) (by simp;omega)];simp
 ·rw[←q4];simp only[List.append_assoc];rw[←List.append_assoc (x.take j),List.take_append_drop]
theorem Rot.lt{a m b i j:Nat}{d e:Array α}(R:Rot a m b d i j e)(h:i<j)(hi:i≤m):Rot a m b d i (j-i) (swr (m-i) (m+j-i) i e):=by
 refine⟨(Zfq _ _ _ _).trans R.size,fun P X Y S h0 p1 p2 p3=>?_⟩;obtain⟨p,x,y,s,he,q1,q2,q3,q4⟩:=R.ex P X Y S h0 p1 p2 p3;refine⟨p,y.drop (j-i),y.take (j-i),x++s,?_,by omega,by simp;omega,by simp;omega,?_⟩
 ·rw[Z0e e p x (y.take (j-i)) (y.drop (j-i)) s (by rw[he,←List.append_assoc (y.take (j-i)),List.take_append_drop]) (by simp;omega) (by omega) (by simp;omega) (by omega)]
 ·rw[←q4,←List.append_assoc (y.take (j-i)),List.take_append_drop]
theorem Rot.eq{a m b i:Nat}{d e:Array α}(R:Rot a m b d i i e)(hi:i≤m):∀P X Y S,d.toList=P++(X++(Y++S))→P.length=a→a+X.length=m→m+Y.length=b→(swr (m-i) m i e).toList=P++(Y++(X++S)):=by
 intro P X Y S h0 p1 p2 p3;obtain⟨p,x,y,s,he,q1,q2,q3,q4⟩:=R.ex P X Y S h0 p1 p2 p3;rw[Z0e e p x [] y s he (by omega) (by omega) (by simp;omega) (by omega),←q4];rfl
structure Rtd (a m b:Nat) (d e:Array α):Prop where
 size:e.size=d.size
 lo:∀x,a≤x→x<a+(b-m)→e[x]! = d[m+(x-a)]!
 hi:∀x,a+(b-m)≤x→x<b→e[x]! = d[a+(x-(a+(b-m)))]!
 out:∀x,(x<a∨b≤x)→e[x]! = d[x]!
 list:e.toList=d.toList.take a++((d.toList.drop m).take (b-m)++((d.toList.drop a).take (m-a)++d.toList.drop b))
omit [Inhabited α] in
theorem Z0f(d:Array α)(a m b:Nat)(h1:a≤m)(h2:m≤b)(h3:b≤d.size):d.toList=d.toList.take a++((d.toList.drop a).take (m-a)++((d.toList.drop m).take (b-m)++d.toList.drop b)):=by
 have e1:d.toList.drop b=(d.toList.drop m).drop (b-m):=by rw[List.drop_drop];congr 1;omega
 have e2:d.toList.drop m=(d.toList.drop a).drop (m-a):=by rw[List.drop_drop];congr 1;omega
 rw[e1,List.take_append_drop,e2,List.take_append_drop,List.take_append_drop]
theorem rtd_of{a m b:Nat}{d e:Array α}(h1:a≤m)(h2:m≤b)(h3:b≤d.size)(h:∀P X Y S,d.toList=P++(X++(Y++S))→P.length=a→a+X.length=m→m+Y.length=b→e.toList=P++(Y++(X++S))):Rtd a m b d e:=by
 have hl:=h _ _ _ _ (Z0f d a m b h1 h2 h3) (by simp;omega) (by simp;omega) (by simp;omega);have hs:e.size=d.size:=by rw[←Array.length_toList,hl];simp;omega
 have hg:∀x,x<d.size→some e[x]! = (d.toList.take a++((d.toList.drop m).take (b-m)++((d.toList.drop a).take (m-a)++d.toList.drop b)))[x]?:=fun x hx=>by rw[←hl,Zes e x (by omega)]
 refine⟨hs,fun x p q=>?_,fun x p q=>?_,fun x p=>?_,hl⟩
 ·have:=hg x (by omega);rw[List.getElem?_append_right (by simp;omega),List.getElem?_append_left (by simp;omega),List.getElem?_take,if_pos (by simp;omega),List.getElem?_drop,Zes d _ (by simp;omega)]at this;rw[Option.some.inj this];congr 1;simp;omega
 ·have:=hg x (by omega);rw[List.getElem?_append_right (by simp;omega),List.getElem?_append_right (by simp;omega),List.getElem?_append_left (by simp;omega),List.getElem?_take,if_pos (by simp;omega),List.getElem?_drop,Zes d _ (by simp;omega)]at this;rw[Option.some.inj this];congr 1;simp;omega
 ·by_cases hx:x<d.size
  ·have:=hg x hx;rcases p with p|p
   ·rw[List.getElem?_append_left (by simp;omega),List.getElem?_take,if_pos p,Zes d _ hx]at this;exact Option.some.inj this
   ·rw[List.getElem?_append_right (by simp;omega),List.getElem?_append_right (by simp;omega),List.getElem?_append_right (by simp;omega),List.getElem?_drop,Zes d _ (by simp;omega)]at this;rw[Option.some.inj this];congr 1;simp;omega
  ·rw[getElem!_neg e x (by omega),getElem!_neg d x hx]
theorem Rtd.stp{a m b:Nat}{d e:Array α}(R:Rtd a m b d e)(h1:a≤m)(h2:m≤b)(h3:b≤d.size)(hk:∀x y,a≤x→x<m→m≤y→y<b→k d[y]!<k d[x]!):Stp k a b d e:=by
 refine⟨R.size,R.out,fun P hp x p q=>?_,fun v=>?_⟩
 ·by_cases hx:x<a+(b-m)
  ·rw[R.lo x p hx];exact hp _ (by omega) (by omega)
  ·rw[R.hi x (by omega) q];exact hp _ (by omega) (by omega)
 ·have hc:=Z0f d a m b h1 h2 h3;have hl:=R.list;generalize hP:d.toList.take a=P at hc hl;generalize hX:(d.toList.drop a).take (m-a)=X at hc hl;generalize hY:(d.toList.drop m).take (b-m)=Y at hc hl;generalize d.toList.drop b=S at hc hl;rw[hl,hc]
  have:=Zbbm (k:=k) P X Y S v (fun x hx y hy=>by
   rw[←hX]at hx;rw[←hY]at hy;obtain⟨i,hi,ei⟩:=List.getElem_of_mem hx;obtain⟨j,hj,ej⟩:=List.getElem_of_mem hy;simp only[List.length_take,List.length_drop,Array.length_toList]at hi hj;rw[List.getElem_take,List.getElem_drop]at ei ej;have:=hk (a+i) (m+j) (by omega) (by omega) (by omega) (by omega);rw[getElem!_pos d _ (by omega),getElem!_pos d _ (by omega)]at this;rw[←ei,←ej,Array.getElem_toList,Array.getElem_toList]
   omega)
  simpa only[List.append_assoc]using this
end Go.Stb
namespace Go.Stb
open Go.Sort
variable{α:Type}[Inhabited α]{k:α→Int}
structure Shl (a q:Nat) (d e:Array α):Prop where
 size:e.size=d.size
 aq:a≤q
 le:∀x,a≤x→x<q→e[x]! = d[x+1]!
 at_:e[q]! = d[a]!
 out:∀x,(x<a∨q<x)→e[x]! = d[x]!
theorem Shl.start(a:Nat)(d:Array α):Shl a a d d:=⟨rfl,Nat.le_refl _,fun x h1 h2=>by omega,rfl,fun _ _=>rfl⟩
theorem Shl.next{a q:Nat}{d e:Array α}(h:Shl a q d e)(hq:q+1<d.size):Shl a (q+1) d (swp e (q+1) q):=by
 have hs:=h.size;have haq:=h.aq;have g:=swp_get e (show q+1<e.size by omega) (show q<e.size by omega);refine⟨(swp_size _ _ _).trans hs,by omega,fun x h1 h2=>?_,?_,fun x hx=>?_⟩
 ·rw[g];by_cases e1:x=q
  ·subst e1;rw[if_pos rfl,h.out _ (by omega)]
  ·rw[if_neg e1,if_neg (by omega)];exact h.le x h1 (by omega)
 ·rw[g,if_neg (by omega),if_pos rfl,h.at_]
 ·rw[g,if_neg (by omega),if_neg (by omega)];exact h.out x (by omega)
theorem Shl.stp{a q:Nat}{d e:Array α}(h:Shl a q d e)(hq:q+1<d.size)(hk:k d[q+1]!<k d[a]!):Stp k q (q+2) e (swp e (q+1) q) :=
 Zs4 e q (by rw[h.size];exact hq) (by rw[h.at_,h.out _ (by omega)];exact hk)
theorem Shl.srt{a i b:Nat}{d e:Array α}(h:Shl a i d e)(hs:Srt k (a+1) b d)(h1:i=a∨k d[i]!<k d[a]!)(h2:i+1=b∨k d[a]!≤k d[i+1]!)(hib:i<b):Srt k a b e:=by
 have hi:=h.aq;intro x y hx hxy hy;by_cases e1:y<i
 ·rw[h.le x hx (by omega),h.le y (by omega) e1];exact hs _ _ (by omega) (by omega) (by omega)
 ·by_cases e2:y=i
  ·subst e2;rw[h.le x hx hxy,h.at_];have:=hs.le (i:=x+1) (j:=y) (by omega) (by omega) (by omega);rcases h1 with h1|h1<;>omega
  ·rw[h.out y (by omega)];by_cases e3:x=i
   ·subst e3;rw[h.at_];have:=hs.le (i:=x+1) (j:=y) (by omega) (by omega) hy;rcases h2 with h2|h2<;>omega
   ·by_cases e4:x<i
    ·rw[h.le x hx e4];exact hs _ _ (by omega) (by omega) hy
    ·rw[h.out x (by omega)];exact hs _ _ (by omega) hxy hy
structure Shr (q m:Nat) (d e:Array α):Prop where
 size:e.size=d.size
 qm:q≤m
 le:∀x,q<x→x≤m→e[x]! = d[x-1]!
 at_:e[q]! = d[m]!
 out:∀x,(x<q∨m<x)→e[x]! = d[x]!
theorem Shr.start(m:Nat)(d:Array α):Shr m m d d:=⟨rfl,Nat.le_refl _,fun x h1 h2=>by omega,rfl,fun _ _=>rfl⟩
theorem Shr.next{q m:Nat}{d e:Array α}(h:Shr (q+1) m d e)(hm:m<d.size):Shr q m d (swp e (q+1) q):=by
 have hs:=h.size;have hqm:=h.qm;have g:=swp_get e (show q+1<e.size by omega) (show q<e.size by omega);refine⟨(swp_size _ _ _).trans hs,by omega,fun x h1 h2=>?_,?_,fun x hx=>?_⟩
 ·rw[g,if_neg (by omega)];by_cases e1:x=q+1
  ·subst e1;rw[if_pos rfl,h.out _ (by omega)];rfl
  ·rw[if_neg e1];exact h.le x (by omega) h2
 ·rw[g,if_pos rfl,h.at_]
 ·rw[g,if_neg (by omega),if_neg (by omega)];exact h.out x (by omega)
theorem Shr.stp{q m:Nat}{d e:Array α}(h:Shr (q+1) m d e)(hm:m<d.size)(hk:k d[m]!<k d[q]!):Stp k q (q+2) e (swp e (q+1) q):=by
 have:=h.qm;exact Zs4 e q (by rw[h.size];omega) (by rw[h.at_,h.out _ (by omega)];exact hk)
theorem Shr.srt{a i m:Nat}{d e:Array α}(h:Shr i m d e)(hs:Srt k a m d)(h1:i=a∨k d[i-1]!≤k d[m]!)(h2:i=m∨k d[m]!<k d[i]!)(hai:a≤i):Srt k a (m+1) e:=by
 have hi:=h.qm;intro x y hx hxy hy;by_cases e1:i<x
 ·rw[h.le x e1 (by omega),h.le y (by omega) (by omega)];exact hs _ _ (by omega) (by omega) (by omega)
 ·by_cases e2:x=i
  ·subst e2;rw[h.at_,h.le y hxy (by omega)];have:=hs.le (i:=x) (j:=y-1) (by omega) (by omega) (by omega);rcases h2 with h2|h2<;>omega
  ·rw[h.out x (by omega)];by_cases e3:y=i
   ·subst e3;rw[h.at_];have:=hs.le (i:=x) (j:=y-1) (by omega) (by omega) (by omega);rcases h1 with h1|h1<;>omega
   ·by_cases e4:i<y
    ·rw[h.le y e4 (by omega)];exact hs.le (by omega) (by omega) (by omega)
    ·rw[h.out y (by omega)];exact hs _ _ (by omega) hxy (by omega)
structure Cut (k:α→Int) (a m b mid s:Nat) (d:Array α):Prop where
 am:a<m
 mb:m<b
 sz:b≤d.size
 l1:a<mid
 l2:mid<b
 s1:a≤s
 s2:s≤m
 s3:s≤mid
 s4:mid+m≤s+b
 lo:Srt k a m d
 hi:Srt k m b d
 c1:(s=a∨mid+m=s+b)∨k d[s-1]!≤k d[mid+m-s]!
 c2:(s=mid∨s=m)∨k d[mid+m-s-1]!<k d[s]!
theorem rtd_triv{s m e:Nat}(d:Array α)(h1:s≤m)(h2:m≤e)(h3:e≤d.size)(h:s=m∨e=m):Rtd s m e d d:=by
 refine⟨rfl,fun x p q=>?_,fun x p q=>?_,fun _ _=>rfl,?_⟩
 ·congr 1;omega
 ·congr 1;omega
 ·have hc:=Z0f d s m e h1 h2 h3;rcases h with h|h
  ·rw[h,Nat.sub_self,List.take_zero]at hc⊢;simpa using hc
  ·rw[h,Nat.sub_self,List.take_zero]at hc⊢;simpa using hc
structure Cutd (k:α→Int) (a b mid s t:Nat) (d e:Array α):Prop where
 stp:Stp k a b d e
 q1:Srt k a s e
 q2:Srt k s mid e
 q3:Srt k mid t e
 q4:Srt k t b e
 cross:∀x y,a≤x→x<mid→mid≤y→y<b→k e[x]!≤k e[y]!
theorem Cut.turn{a m b mid s:Nat}{d e:Array α}(C:Cut k a m b mid s d)(R:Rtd s m (mid+m-s) d e):Cutd k a b mid s (mid+m-s) d e:=by
 obtain⟨am,mb,sz,l1,l2,s1,s2,s3,s4,lo,hi,c1,c2⟩:=C;have hlo:∀x,s≤x→x<mid→e[x]! = d[m+(x-s)]!:=fun x p q=>R.lo x p (by omega)
 have hhi:∀x,mid≤x→x<mid+m-s→e[x]! = d[s+(x-mid)]!:=fun x p q=>by
  rw[R.hi x (by omega) q];congr 1;omega
 refine⟨?_,?_,?_,?_,?_,?_⟩
 ·refine(R.stp s2 (by omega) (by omega) fun x y p q r t=>?_).mono s1 (by omega);have h1:=lo.le (i:=s) (j:=x) s1 p q;have h2:=hi.le (i:=y) (j:=mid+m-s-1) r (by omega) (by omega);rcases c2 with c2|c2<;>omega
 ·intro x y p q r;rw[R.out x (by omega),R.out y (by omega)];exact lo x y p q (by omega)
 ·intro x y p q r;rw[hlo x p (by omega),hlo y (by omega) r];exact hi _ _ (by omega) (by omega) (by omega)
 ·intro x y p q r;rw[hhi x p (by omega),hhi y (by omega) r];exact lo _ _ (by omega) (by omega) (by omega)
 ·intro x y p q r;rw[R.out x (by omega),R.out y (by omega)];exact hi x y (by omega) q r
 ·intro x y p q r t;by_cases hx:x<s
  ·rw[R.out x (by omega)];by_cases hy:y<mid+m-s
   ·rw[hhi y r hy];exact lo.le p (by omega) (by omega)
   ·rw[R.out y (by omega)];have h1:=lo.le (i:=x) (j:=s-1) p (by omega) (by omega);have h2:=hi.le (i:=mid+m-s) (j:=y) (by omega) (by omega) t;rcases c1 with c1|c1<;>omega
  ·rw[hlo x (by omega) q];by_cases hy:y<mid+m-s
   ·rw[hhi y r hy];have h1:=hi.le (i:=m+(x-s)) (j:=mid+m-s-1) (by omega) (by omega) (by omega);have h2:=lo.le (i:=s) (j:=s+(y-mid)) s1 (by omega) (by omega);rcases c2 with c2|c2<;>omega
   ·rw[R.out y (by omega)];exact hi.le (by omega) (by omega) t
theorem Cutd.join{a b mid s t:Nat}{d e f g:Array α}(C:Cutd k a b mid s t d e)(h1:a≤mid)(h2:mid≤b)(F:Stp k a mid e f)(F':Srt k a mid f)(G:Stp k mid b f g)(G':Srt k mid b g):Stp k a b d g∧Srt k a b g:=by
 refine⟨(C.stp.trans (F.mono (Nat.le_refl _) h2)).trans (G.mono h1 (Nat.le_refl _)),?_⟩;intro x y p q r;by_cases hy:y<mid
 ·rw[G.out x (by omega),G.out y (by omega)];exact F' x y p q hy
 ·by_cases hx:mid≤x
  ·exact G' x y hx q r
  ·have hf:∀x,a≤x→x<mid→∀z,mid≤z→z<b→k f[x]!≤k e[z]!:=by
    refine F.pres (fun v=>∀z,mid≤z→z<b→k v≤k e[z]!) fun x p q z r t=>C.cross x z p q r t
   have hg:∀y,mid≤y→y<b→k f[x]!≤k g[y]!:=by
    refine G.pres (fun v=>k f[x]!≤k v) fun y r t=>?_
    rw[F.out y (by omega)];exact hf x p (by omega) y r t
   rw[G.out x (by omega)];exact hg y (by omega) r
theorem Zbbp{a s b:Nat}{e:Array α}(h1:Srt k a s e)(h2:Srt k s b e)(h:¬(a<s∧s<b))(h3:a≤s)(h4:s≤b):Srt k a b e:=by
 by_cases h5:a=s
 ·subst h5;exact h2
 ·have:s=b:=by omega
  subst this;exact h1
def Bks(k:α→Int)(bs n:Nat)(d:Array α):Prop:=∀c,Srt k (c*bs) (min ((c+1)*bs) n) d
def Mid(k:α→Int)(bs n a:Nat)(d:Array α):Prop:=∃t,a=t*(2*bs)∧(∀c,c<t→Srt k (c*(2*bs)) ((c+1)*(2*bs)) d)∧∀c,2*t≤c→Srt k (c*bs) (min ((c+1)*bs) n) d
theorem Mid.start{bs n:Nat}{d:Array α}(h:Bks k bs n d):Mid k bs n 0 d:=⟨0,by omega,fun c hc=>by omega,fun c _=>h c⟩
theorem Mid.two{bs n a:Nat}{d:Array α}(h:Mid k bs n a d):Srt k a (min (a+bs) n) d∧Srt k (a+bs) (min (a+2*bs) n) d:=by
 obtain⟨t,rfl,h1,h2⟩:=h;have g1:=h2 (2*t) (by omega);have g2:=h2 (2*t+1) (by omega);have e1:2*t*bs=t*(2*bs):=by rw[Nat.mul_comm 2 t,Nat.mul_assoc]
 have e2:(2*t+1)*bs=t*(2*bs)+bs:=by rw[Nat.add_mul,e1];omega
 have e3:(2*t+1+1)*bs=t*(2*bs)+2*bs:=by rw[Nat.add_mul,e2];omega
 rw[e1,e2]at g1;rw[e2,e3]at g2;exact⟨g1,g2⟩
theorem Mid.next{bs n a:Nat}{d e:Array α}(h:Mid k bs n a d)(S:Stp k a (a+2*bs) d e)(S':Srt k a (a+2*bs) e):Mid k bs n (a+2*bs) e:=by
 obtain⟨t,rfl,h1,h2⟩:=h;refine⟨t+1,by rw[Nat.add_mul];omega,fun c hc=>?_,fun c hc=>?_⟩
 ·by_cases e1:c=t
  ·subst e1;rw[Nat.add_mul,Nat.one_mul];exact S'
  ·refine(h1 c (by omega)).out S (.inl ?_);exact Nat.mul_le_mul_right _ (by omega)
 ·refine(h2 c (by omega)).out S (.inr ?_);have:(2*(t+1))*bs≤c*bs:=Nat.mul_le_mul_right _ (by omega);have e1:(2*(t+1))*bs=t*(2*bs)+2*bs:=by
   rw[Nat.mul_add,Nat.add_mul,Nat.mul_comm 2 t,Nat.mul_assoc]
  omega
theorem Mid.end_{bs n a:Nat}{d e:Array α}(h:Mid k bs n a d)(hn:n<a+2*bs)(S:Stp k a n d e)(S':Srt k a n e):Bks k (2*bs) n e:=by
 obtain⟨t,rfl,h1,h2⟩:=h;intro c;by_cases e1:c<t
 ·have:(c+1)*(2*bs)≤t*(2*bs):=Nat.mul_le_mul_right _ (by omega);exact((h1 c e1).sub (Nat.le_refl _) (Nat.min_le_left _ _)).out S (.inl (by omega))
 ·by_cases e2:c=t
  ·subst e2;exact S'.sub (Nat.le_refl _) (Nat.min_le_right _ _)
  ·have:(t+1)*(2*bs)≤c*(2*bs):=Nat.mul_le_mul_right _ (by omega);rw[Nat.add_mul]at this;intro x y p q r;omega
def Ini(k:α→Int)(a:Nat)(d:Array α):Prop:=∃t,a=t*20∧∀c,c<t→Srt k (c*20) ((c+1)*20) d
theorem Ini.start(d:Array α):Ini k 0 d:=⟨0,by omega,fun c hc=>by omega⟩
theorem Ini.next{a:Nat}{d e:Array α}(h:Ini k a d)(S:Stp k a (a+20) d e)(S':Srt k a (a+20) e):Ini k (a+20) e:=by
 obtain⟨t,rfl,h1⟩:=h;refine⟨t+1,by omega,fun c hc=>?_⟩;by_cases e1:c=t
 ·subst e1;rw[Nat.add_mul];exact S'
 ·exact(h1 c (by omega)).out S (.inl (by omega))
theorem Ini.end_{a n:Nat}{d e:Array α}(h:Ini k a d)(hn:n<a+20)(S:Stp k a n d e)(S':Srt k a n e):Bks k 20 n e:=by
 obtain⟨t,rfl,h1⟩:=h;intro c;by_cases e1:c<t
 ·exact((h1 c e1).sub (Nat.le_refl _) (Nat.min_le_left _ _)).out S (.inl (by omega))
 ·by_cases e2:c=t
  ·subst e2;exact S'.sub (Nat.le_refl _) (Nat.min_le_right _ _)
  ·intro x y p q r;omega
theorem Bks.whole{bs n:Nat}{d:Array α}(h:Bks k bs n d)(hn:n≤bs):Srt k 0 n d:=by
 have:=h 0;rw[Nat.zero_mul,Nat.zero_add,Nat.one_mul,Nat.min_eq_right hn]at this;exact this
omit [Inhabited α] in
theorem Z0g:∀(n:Nat) (lo:Int) (l:List α),l.Pairwise (fun a b=>k a≤k b)→(∀x∈l,lo≤k x∧k x<lo+n)→l=(List.range n).flatMap fun i:Nat=>l.filter (fun x=>decide (k x=lo+(i:Int)))
 |0,lo,l,_,h=>by
  cases l with
  |nil=>rfl
  |cons x l=>have:=h x (by simp);omega
 |n+1,lo,l,hp,h=>by
  have ih:=Z0g n lo (l.filter (fun x=>decide (k x<lo+n))) (hp.filter _) (fun x hx=>by
   have:=List.mem_filter.1 hx
   exact⟨(h x this.1).1,by simpa using this.2⟩)
  rw[List.range_succ,List.flatMap_append];have e1:(List.range n).flatMap (fun i:Nat=>(l.filter (fun x=>decide (k x<lo+n))).filter (fun x=>decide (k x=lo+(i:Int))))=(List.range n).flatMap fun i:Nat=>l.filter (fun x=>decide (k x=lo+(i:Int))):=by
   simp only[List.flatMap_def];congr 1;refine List.map_congr_left fun i hi=>?_
   rw[List.filter_filter];refine List.filter_congr fun x hx=>?_
   have:=List.mem_range.1 hi;by_cases e:k x=lo+(i:Int)
   ·simp only[e,decide_true,Bool.true_and,decide_eq_true_eq];omega
   ·simp[e]
  rw[←e1,←ih];simp only[List.flatMap_cons,List.flatMap_nil,List.append_nil];clear ih e1
  induction l with
  |nil=>rfl
  |cons x l ih =>
   have hx:=h x (by simp);have hp2:=List.pairwise_cons.1 hp;have ih:=ih hp2.2 (fun y hy=>h y (by simp[hy]));by_cases hl:k x<lo+n
   ·rw[List.filter_cons_of_pos (by simpa using hl),List.filter_cons_of_neg (by simp;omega),List.cons_append,←ih]
   ·have e2:k x=lo+n:=by omega
    have:(x::l).filter (fun x=>decide (k x<lo+n))=[]:=by
     refine List.filter_eq_nil_iff.2 fun y hy=>?_
     rcases List.mem_cons.1 hy with rfl|hy
     ·simpa using hl
     ·have:=hp2.1 y hy;simp;omega
    rw[this,List.nil_append];refine(List.filter_eq_self.2 fun y hy=>?_).symm;rcases List.mem_cons.1 hy with rfl|hy
    ·simpa using e2
    ·have:=hp2.1 y hy;have:=h y (by simp[hy]);simp;omega
theorem Stp.classes{d e:Array α}{n:Nat}(S:Stp k 0 d.size d e)(S':Srt k 0 d.size e)(hk:∀x∈d.toList,0≤k x∧k x<n):e.toList=(List.range n).flatMap fun i:Nat=>d.toList.filter (fun x=>decide (k x=(i:Int))):=by
 have hm:∀x∈e.toList,0≤k x∧k x<n:=by
  have hp:=S.pres (fun v=>0≤k v∧k v<n) (fun x _ h2=>hk _ (by rw[getElem!_pos d x h2];simp));intro x hx;obtain⟨i,hi,rfl⟩:=List.getElem_of_mem hx;have hi':i<e.size:=by simpa using hi
  have:=hp i (Nat.zero_le _) (by rw[←S.size];exact hi');rw[getElem!_pos e i hi']at this;simpa using this
 have h1:=Z0g (k:=k) n 0 e.toList (by
  rw[List.pairwise_iff_getElem];intro i j hi hj hij;have hj':j<e.size:=by simpa using hj
  have:=S' i j (Nat.zero_le _) hij (by rw[←S.size];exact hj');rw[getElem!_pos e i (by omega),getElem!_pos e j hj']at this
  simpa using this) (fun x hx=>by have:=hm x hx;omega)
 simp only[Int.zero_add]at h1;rw[h1];congr 1;funext i;exact S.stab i
end Go.Stb
namespace Go.Proofs.YtgnfoghkbpkgjaaGreat
open Go.AM
def cix(vs:List Int)(v:Int):Int:=Zbi (fun x=>decide (v=x)) vs 0
def celI(r:List Int)(i:Int):Int:=r.getD i.toNat 0
theorem Zbbq(v:Int):∀(vs:List Int) (i:Nat),has vs v=true→(i:Int)≤Zbi (fun x=>decide (v=x)) vs i∧(Zbi (fun x=>decide (v=x)) vs i).toNat<i+vs.length∧vs[(Zbi (fun x=>decide (v=x)) vs i).toNat-i]?=some v
 |[],i,h=>by simp[has]at h
 |x::vs,i,h=>by
  unfold Zbi;by_cases e:v=x
  ·subst e;simp
  ·have h':has vs v=true:=by simpa[has,e]using h
   obtain⟨h1,h2,h3⟩:=Zbbq v vs (i+1) h';rw[if_neg (by simpa using e)];refine⟨by omega,by simp only[Ybb];omega,?_⟩;have e2:(Zbi (fun x=>decide (v=x)) vs (i+1)).toNat-i=(Zbi (fun x=>decide (v=x)) vs (i+1)).toNat-(i+1)+1:=by omega
   rw[e2,List.getElem?_cons_succ];exact h3
theorem Zbs{vs:List Int}{v:Int}(h:has vs v=true):0≤cix vs v∧(cix vs v).toNat<vs.length∧vs[(cix vs v).toNat]?=some v:=by
 have:=Zbbq v vs 0 h;unfold cix;simpa using this
theorem cix_not{vs:List Int}{v:Int}(h:has vs v=false):cix vs v=-1:=Zvb _ _ _ h
theorem Ze8{vs:List Int}{v:Int}:0≤cix vs v↔has vs v=true:=by
 constructor
 ·intro h;rcases tf (has vs v)with e|e
  ·rw[cix_not e]at h;omega
  ·exact e
 ·exact fun h=>(Zbs h).1
def valR(vs r:List Int)(v:Int):Int:=celI r (cix vs v)
theorem Zbbr{vs:List Int}{v:Int}(h:has vs v=true)(f:Int→Int):valR vs (vs.map f) v=f v:=by
 obtain⟨-,h2,h3⟩:=Zbs h;unfold valR celI;rw[Ybo,Ycf,h3];rfl
abbrev Asc(l:List Int):Prop:=l.Pairwise (·<·)
theorem Zpp:∀{a b:List Int},Asc a→Asc b→(∀x,x∈a↔x∈b)→a=b
 |[],[],_,_,_=>rfl
 |[],y::b,_,_,h=>by have:=(h y).2 (by simp);cases this
 |x::a,[],_,_,h=>by have:=(h x).1 (by simp);cases this
 |x::a,y::b,ha,hb,h=>by
  have ha':=Ybf.1 ha;have hb':=Ybf.1 hb;have e:x=y:=by
   have h1:=(h x).1 (by simp);have h2:=(h y).2 (by simp);rcases Yq.1 h1 with e|e
   ·exact e
   ·rcases Yq.1 h2 with e2|e2
    ·exact e2.symm
    ·have:=hb'.1 x e;have:=ha'.1 y e2;omega
  subst e;rw[Zpp ha'.2 hb'.2 fun z=>?_];constructor
  ·intro hz;have:=(h z).1 (by simp[hz]);rcases Yq.1 this with e|e
   ·have:=ha'.1 z hz;omega
   ·exact e
  ·intro hz;have:=(h z).2 (by simp[hz]);rcases Yq.1 this with e|e
   ·have:=hb'.1 z hz;omega
   ·exact e
theorem Zs5(l:List Int):(srtI l).Perm l:=Yd4 _ _
theorem Zbbs(l:List Int):(srtI l).Pairwise (·≤·):=by
 have:=List.pairwise_mergeSort (le:=fun x y:Int=>decide (x≤y)) (by simp;omega) (by simp;omega) l;exact this.imp (by simp)
theorem Zhy(l:List Int)(x:Int):x∈srtI l↔x∈l:=(Zs5 l).mem_iff
theorem srtI_asc{l:List Int}(h:l.Nodup):Asc (srtI l):=by
 have h1:=Zbbs l;have h2:(srtI l).Nodup:=(Zs5 l).nodup_iff.2 h;exact(h1.and h2).imp (by intro a b h;omega)
theorem Z0h:∀(l:List Int) (x:Int),x∈cptI l↔x∈l
 |[],x=>by simp[cptI]
 |[a],x=>by simp[cptI]
 |a::b::l,x=>by
  unfold cptI;have ih:=Z0h (b::l) x;split
  ·rename_i e;subst e;rw[ih];simp
  ·rw[Yq,ih];simp
theorem Zbbt:∀{l:List Int},l.Pairwise (·≤·)→Asc (cptI l)
 |[],_=>by simp[cptI]
 |[a],_=>by simp[cptI]
 |a::b::l,h=>by
  unfold cptI;have h1:=Ybf.1 h;have ih:=Zbbt h1.2;split
  ·exact ih
  ·rename_i e;refine Ybf.2 ⟨fun x hx=>?_,ih⟩;rw[Z0h]at hx;have h2:=Ybf.1 h1.2;rcases Yq.1 hx with rfl|hx
   ·have:=h1.1 x (by simp);omega
   ·have:=h1.1 b (by simp);have:=h2.1 x hx;omega
def uni(a b:List Int):List Int:=((List.range 4).map fun u:Nat=>(u:Int)).filter fun v=>has a v || has b v
theorem Zbbu(n:Nat)(p:Nat→Bool):Asc (((List.range n).filter p).map fun u:Nat=>(u:Int)):=by
 refine List.pairwise_map.2 ?_;exact(List.pairwise_lt_range.filter _).imp (by intro a b h;omega)
theorem Zbbv(a b:List Int):Asc (uni a b):=by
 have:=Zbbu 4 fun _=>true
 rw[List.filter_eq_self.2 (by simp)]at this;exact this.filter _
theorem Zs6{a b:List Int}(ha:∀x∈a,inR x 0 3=true)(hb:∀x∈b,inR x 0 3=true)(v:Int):v∈uni a b↔v∈a∨v∈b:=by
 unfold uni;rw[Ybe];simp only[Yc4,Zci,Y1,Ybi];constructor
 ·exact fun h=>h.2
 ·intro h;refine⟨?_,h⟩;have:inR v 0 3=true:=h.elim (ha v) (hb v);simp[inR]at this;exact⟨v.toNat,by omega,by omega⟩
theorem cpt_uni{a b:List Int}(ha:∀x∈a,inR x 0 3=true)(hb:∀x∈b,inR x 0 3=true):cptI (srtI (a++b))=uni a b :=
 Zpp (Zbbt (Zbbs _)) (Zbbv _ _) fun x=>by rw[Z0h,Zhy,Zs6 ha hb,Yi]
theorem Zml(m:Int)(qa:List Atom)(k:Nat):Asc (varL m qa k):=Zbbu _ _
theorem Zmm{n:Int}{qa:List Atom}(h:Zw n qa=true)(m v:Int):v∈varL m qa n.toNat↔vin qa m v=true:=by rw[←Zkp h,Zci]
theorem Zmn{n:Int}{qa:List Atom}(h:Zw n qa=true)(m:Int):∀v∈varL m qa n.toNat,inR v 0 3=true:=by
 intro v hv;have:=(Zmm h m v).1 hv;unfold vin at this;simp only[Ye]at this;exact this.1
theorem bit16:∀a b:Fin 16,∀j:Fin 4,Zb5 (orI (a.1:Int) (b.1:Int)) j.1=(Zb5 (a.1:Int) j.1 || Zb5 (b.1:Int) j.1):=by decide
theorem Zbqw{a b:Int}(ha:0≤a∧a<16)(hb:0≤b∧b<16){j:Nat}(hj:j<4):Zb5 (orI a b) j=(Zb5 a j || Zb5 b j):=by
 have:=bit16 ⟨a.toNat,by omega⟩ ⟨b.toNat,by omega⟩ ⟨j,hj⟩;simp only[]at this;rw[show((a.toNat:Nat):Int)=a by omega,show((b.toNat:Nat):Int)=b by omega]at this;exact this
theorem Zbbw{a b:Int}(ha:0≤a∧a<16)(hb:0≤b∧b<16)(u:Int):∀(l:List Atom) (i:Nat),i+l.length≤4→hasV (orI a b) l i u=(hasV a l i u || hasV b l i u)
 |[],_,_=>rfl
 |x::l,i,h=>by
  simp only[Ybb]at h;unfold hasV;rw[Zbqw ha hb (by omega),Zbbw ha hb u l (i+1) (by omega)];cases Zb5 a i<;>cases Zb5 b i<;>cases has x.Vars u<;>cases hasV a l (i+1) u<;>rfl
theorem Zbbx{n:Int}{qa:List Atom}(h:Zw n qa=true){a b:Int}(ha:0≤a∧a<16)(hb:0≤b∧b<16):uni (varL a qa n.toNat) (varL b qa n.toNat)=varL (orI a b) qa n.toNat:=by
 refine Zpp (Zbbv _ _) (Zml _ _ _) fun v=>?_
 rw[Zs6 (Zmn h a) (Zmn h b),Zmm h,Zmm h,Zmm h];unfold vin pV;rw[Zbbw ha hb _ _ 0 (by have:=Zfh h;omega)];cases inR v 0 3<;>simp
theorem bitS:∀i j:Fin 4,Zb5 (shlI 1 (i.1:Int)) j.1=decide (j=i):=by decide
theorem Zbby{i:Nat}(hi:i<4)(u:Int):∀(l:List Atom) (j:Nat),j+l.length≤4→hasV (shlI 1 (i:Int)) l j u=if j≤i then(match l[i-j]? with|some a=>has a.Vars u|none=>false)else false
 |[],j,_=>by simp[hasV]
 |x::l,j,h=>by
  simp only[Ybb]at h;unfold hasV;have hb:=bitS ⟨i,hi⟩ ⟨j,by omega⟩;simp only[Fin.mk.injEq]at hb;rw[hb,Zbby hi u l (j+1) (by omega)];by_cases e:j=i
  ·subst e;rw[if_neg (show ¬j+1≤j by omega),if_pos (Yd _),Yc2];simp
  ·by_cases e2:j≤i
   ·rw[if_pos e2,if_pos (by omega),show i-j=(i-(j+1))+1 by omega,List.getElem?_cons_succ];simp[e]
   ·rw[if_neg e2,if_neg (by omega)];simp[e]
theorem Zbbz{n:Int}:∀{vs pre:List Int},Zc2 n pre vs=true→vs.Nodup∧∀v∈vs,v ∉ pre
 |[],pre,_=>⟨Ybh,by simp⟩
 |v::vs,pre,h=>by
  unfold Zc2 at h;simp only[Ye,Bool.not_eq_true']at h;obtain⟨⟨h1,h2⟩,h3⟩:=h;obtain⟨g1,g2⟩:=Zbbz h3;have h2':v ∉ pre:=by intro hm;rw[Zci.2 hm]at h2;cases h2
  refine⟨Ycl.2 ⟨fun hm=>?_,g1⟩,fun x hx=>?_⟩
  ·exact g2 v hm (by simp)
  ·rcases Yq.1 hx with rfl|hx
   ·exact h2'
   ·intro hm;exact g2 x hx (by simp[hm])
theorem Zbqx{n:Int}{qa:List Atom}(h:Zw n qa=true){a:Atom}(ha:a∈qa):a.Vars.Nodup:=by
 simp only[Zw,Ye]at h;have:=Yn.1 h.1.2 a ha;simp only[Zb8,Ye]at this;exact(Zbbz this.2).1
theorem Zbb0{n:Int}{qa:List Atom}(h:Zw n qa=true){i:Nat}{a:Atom}(hi:qa[i]?=some a):srtI a.Vars=varL (shlI 1 (i:Int)) qa n.toNat:=by
 have hl:=Zfh h;have hi':i<qa.length:=(Yx.1 hi).1;have hm:a∈qa:=Yw hi;refine Zpp (srtI_asc (Zbqx h hm)) (Zml _ _ _) fun v=>?_
 rw[Zhy,Zmm h];unfold vin pV;rw[Zbby (by omega) _ _ 0 (by omega),if_pos (Ya _),Yct,hi];simp only[Ye,Zci];constructor
 ·intro hv;have h3:=Znh h a hm v hv;refine⟨h3,?_⟩;simp[inR]at h3;rw[show((v.toNat:Nat):Int)=v by omega];exact hv
 ·rintro⟨h3,hv⟩;simp[inR]at h3
  rwa [show((v.toNat:Nat):Int)=v by omega]at hv
def pcM(m:Int):Nat:=(List.range 4).countP fun i=>Zb5 m i
theorem pc16:∀a b:Fin 16,andI (a.1:Int) (b.1:Int)=0→pcM (orI (a.1:Int) (b.1:Int))=pcM (a.1:Int)+pcM (b.1:Int):=by decide
theorem pc_or{a b:Int}(ha:0≤a∧a<16)(hb:0≤b∧b<16)(h:andI a b=0):pcM (orI a b)=pcM a+pcM b:=by
 have:=pc16 ⟨a.toNat,by omega⟩ ⟨b.toNat,by omega⟩;simp only[]at this;rw[show((a.toNat:Nat):Int)=a by omega,show((b.toNat:Nat):Int)=b by omega]at this;exact this h
theorem pc1:∀i:Fin 4,pcM (shlI 1 (i.1:Int))=1:=by decide
theorem pc_le(m:Int):pcM m≤4:=Ym List.countP_le_length (by simp)
theorem Zs7(m:Int):8 ^ pcM m≤4096:=Ym (Nat.pow_le_pow_right (by decide) (pc_le m)) (by decide)
end Go.Proofs.YtgnfoghkbpkgjaaGreat
