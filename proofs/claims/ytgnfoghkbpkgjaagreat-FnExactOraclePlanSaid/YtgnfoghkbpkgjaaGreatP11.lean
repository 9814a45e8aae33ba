/-
  Parts of the proofs for this seat: V4 V5 V6 OP AD DB EV EW MK SP PC PC2.
-/
import Derived.Test.YtgnfoghkbpkgjaaGreatP10
set_option linter.unusedSimpArgs false
set_option linter.unusedVariables false
set_option maxRecDepth 100000
set_option maxHeartbeats 4000000
namespace Go.Proofs.YtgnfoghkbpkgjaaGreat
open Go.AM
theorem Zbjf (q:Zc) (hq:LeQ q) (h:Zq q.Ze q.Atoms=true) (x:Zb) (info:List Zk) (st:List Int) (hs:StOk info st) (hil:info.length≤100) (hst:st.length≤100) :
  match Zcm q.Atoms x info st with
  | some y=>Zis q x info st=some (.tup [.agg (y.c.map .t),Bo true],[])
  | none=>∃ y:Zk,Zis q x info st=some (.tup [.agg (y.c.map .t),Bo false],[]):=by
 have hl:=Zbe h
 have wl:w ((q.Atoms.length:Int) - 1)=(q.Atoms.length:Int) - 1:=wrap64 (by omega) (by omega)
 unfold Zcm
 by_cases k1:x.Kind=1
 ·rw [if_pos k1]
  by_cases c1:inR x.Atom 0 (q.Atoms.length - 1)=true∧x.Order=0
  ·rw [if_pos c1]
   have c2:=c1.1
   simp [inR] at c2
   have hlt:x.Atom.toNat<q.Atoms.length:=by omega
   have hv:=Zkm h _ (List.getElem_mem hlt)
   have h0:¬ x.Atom<0:=by omega
   simp only
   refine Zf6 _ _ _ _ _ ?_
   have e:q.Atoms[x.Atom.toNat].Vars.headD 0=q.Atoms[x.Atom.toNat].Vars[0]'(by omega):=by
    rw [List.headD_eq_head?_getD,hd0 (by omega)]
   rw [List.headD_eq_head?_getD] at e
   simp [k1,wl,c1,h0,hlt,c2,e,show 0<q.Atoms[x.Atom.toNat].Vars.length by omega]
  ·rw [if_neg c1]
   refine ⟨⟨0,-1,-1,-1⟩,Zf6 _ _ _ _ _ ?_⟩
   rcases tf (inR x.Atom 0 (q.Atoms.length - 1)) with e | e
   ·simp [k1,wl,e]
   ·have e2:¬ x.Order=0:=fun hc=>c1 ⟨e,hc⟩
    simp [k1,wl,e,e2]
 rw [if_neg k1]
 by_cases k0:x.Atom=0
 rotate_left
 ·rw [if_pos k0]
  exact ⟨⟨0,-1,-1,-1⟩,Zf6 _ _ _ _ _ (by simp [k1,k0])⟩
 rw [if_neg (by simpa using k0)]
 have w1:w ((st.length:Int) - 1)=(st.length:Int) - 1:=wrap64 (by omega) (by omega)
 have w2:w ((st.length:Int) - 2)=(st.length:Int) - 2:=wrap64 (by omega) (by omega)
 by_cases k2:x.Kind=2
 ·rw [if_pos k2]
  by_cases n1:st.length<1
  ·have:Zbl st info 1=none:=by unfold Zbl;rw [if_neg (by omega)]
   rw [this]
   have n1':(st.length:Int)<1:=by omega
   exact ⟨⟨0,-1,-1,-1⟩,Zf6 _ _ _ _ _ (by simp [k1,k2,k0,n1'])⟩
  ·have n1':¬ (st.length:Int)<1:=by omega
   obtain ⟨s,y,t1,t2,t3,t4⟩:=Znv hs (by omega:1≤1) (by omega:1≤st.length)
   have z1:(0:Int)≤(st.length:Int) - 1:=by omega
   have z5:(1:Int)≤(st.length:Int):=by omega
   have z2:((st.length:Int) - 1).toNat=st.length - 1:=by omega
   have q1:=Zj2 q y.Mask hq h
   have q2:=Zmt (varL y.Mask q.Atoms q.Ze.toNat) x.Order (by have:=Zh3 y.Mask q.Atoms q.Ze.toNat;have:=Zcl h;omega)
   rw [Zkn h] at q2
   rw [t1]
   simp only
   by_cases c1:vin q.Atoms y.Mask x.Order=true∧y.Order≠x.Order
   ·rw [if_pos c1]
    refine Zf6 _ _ _ _ _ ?_
    simp [k1,k2,k0,n1',w1,z1,z2,z5,t2,t3,t4,q1,q2,c1]
   ·rw [if_neg c1]
    refine ⟨⟨0,-1,-1,-1⟩,Zf6 _ _ _ _ _ ?_⟩
    rcases tf (vin q.Atoms y.Mask x.Order) with e | e
    ·simp [k1,k2,k0,n1',w1,z1,z2,z5,t2,t3,t4,q1,q2,e]
    ·have e2:y.Order=x.Order:=Decidable.byContradiction fun hc=>c1 ⟨e,hc⟩
     simp [k1,k2,k0,n1',w1,z1,z2,z5,t2,t3,t4,q1,q2,e,e2]
 rw [if_neg k2]
 by_cases n2:st.length<2
 ·have:Zbl st info 2=none:=by unfold Zbl;rw [if_neg (by omega)]
  rw [this]
  have n2':(st.length:Int)<2:=by omega
  exact ⟨⟨0,-1,-1,-1⟩,Zf6 _ _ _ _ _ (by simp [k1,k2,k0,n2'])⟩
 have n2':¬ (st.length:Int)<2:=by omega
 obtain ⟨s,y,t1,t2,t3,t4⟩:=Znv hs (by omega:1≤2) (by omega:2≤st.length)
 obtain ⟨t,z,u1,u2,u3,u4⟩:=Znv hs (by omega:1≤1) (by omega:1≤st.length)
 have z1:(0:Int)≤(st.length:Int) - 1:=by omega
 have z2:((st.length:Int) - 1).toNat=st.length - 1:=by omega
 have z3:(0:Int)≤(st.length:Int) - 2:=by omega
 have z4:((st.length:Int) - 2).toNat=st.length - 2:=by omega
 have hn:=Zcl h
 have q1:=Zj2 q y.Mask hq h
 have q2:=Zj2 q z.Mask hq h
 have l1:=Zh3 y.Mask q.Atoms q.Ze.toNat
 have l2:=Zh3 z.Mask q.Atoms q.Ze.toNat
 have q3:=x_both (varL y.Mask q.Atoms q.Ze.toNat) (varL z.Mask q.Atoms q.Ze.toNat) (by omega) (by omega)
 have q4:=Zmt ((varL y.Mask q.Atoms q.Ze.toNat).filter (has (varL z.Mask q.Atoms q.Ze.toNat))) x.Order (by
  have:=List.length_filter_le (has (varL z.Mask q.Atoms q.Ze.toNat)) (varL y.Mask q.Atoms q.Ze.toNat);omega)
 rw [Zbaq h] at q4
 have q5:=Zbap h y.Mask z.Mask
 generalize hS:(varL y.Mask q.Atoms q.Ze.toNat).filter (has (varL z.Mask q.Atoms q.Ze.toNat))=S at q3 q4 q5
 rw [t1,u1]
 simp only
 have base:∀ (r:AV×List Blk),(if andI y.Mask z.Mask=0 then
    if ((S.length:Int)=0) then some (.tup [.agg [I (orI y.Mask z.Mask),I (-1),I s,I t],Bo false],[])=some r
    else if x.Kind=3 then some (.tup [.agg [I (orI y.Mask z.Mask),I (-1),I s,I t],Bo (decide (x.Order=0))],[])=some r
    else if x.Kind=5 then some (.tup [.agg [I (orI y.Mask z.Mask),I y.Order,I s,I t],Bo (decide (x.Order=0))],[])=some r
    else if x.Kind=4 then
     if (vin q.Atoms y.Mask x.Order && vin q.Atoms z.Mask x.Order)=true then
      if y.Order=x.Order then some (.tup [.agg [I (orI y.Mask z.Mask),I x.Order,I s,I t],Bo (decide (z.Order=x.Order))],[])=some r
      else some (.tup [.agg [I (orI y.Mask z.Mask),I x.Order,I s,I t],Bo false],[])=some r
     else some (.tup [.agg [I (orI y.Mask z.Mask),I x.Order,I s,I t],Bo false],[])=some r
    else some (.tup [.agg [I (orI y.Mask z.Mask),I (-1),I s,I t],Bo false],[])=some r
   else some (.tup [.agg [I (orI y.Mask z.Mask),I (-1),I s,I t],Bo false],[])=some r)→Zis q x info st=some r:=by
  intro r hr
  refine Zf6 _ _ _ _ _ ?_
  simp only [k1,k0,k2,if_false,if_true,n2',w1,w2,z1,z2,z3,z4,t2,t3,t4,u2,u3,u4,q1,q2,true_and,Option.some.injEq,exists_eq_left']
  refine ⟨_,rfl,_,rfl,S,?_,?_⟩
  ·simpa using q3
  ·simp only [q4,Option.some.injEq,Prod.mk.injEq,AV.t.injEq,T.bool.injEq,and_true,exists_eq_left']
   simpa using hr
 by_cases c1:andI y.Mask z.Mask=0∧shr q.Atoms y.Mask z.Mask=true
 rotate_left
 ·rw [if_neg c1]
  refine ⟨⟨orI y.Mask z.Mask,-1,s,t⟩,base _ ?_⟩
  by_cases c2:andI y.Mask z.Mask=0
  ·have c3:S.length=0:=q5.2 (by rcases tf (shr q.Atoms y.Mask z.Mask) with e | e;exact e;exact absurd ⟨c2,e⟩ c1)
   have c4:(S.length:Int)=0:=by omega
   rw [if_pos c2,if_pos c4]
   simp
  ·rw [if_neg c2]
   simp
 rw [if_pos c1]
 have c4:¬ (S.length:Int)=0:=fun hc=>by
  have:=q5.1 (by omega)
  rw [c1.2] at this
  cases this
 have c5:¬ S=[]:=fun hc=>c4 (by simp [hc])
 unfold Zdx
 by_cases j1:x.Kind=3∧x.Order=0
 ·rw [if_pos j1]
  exact base _ (by simp [c1.1,c4,c5,j1])
 rw [if_neg j1]
 by_cases j2:x.Kind=5∧x.Order=0
 ·rw [if_pos j2]
  exact base _ (by simp [c1.1,c4,c5,j2])
 rw [if_neg j2]
 by_cases j3:x.Kind=4∧vin q.Atoms y.Mask x.Order=true∧vin q.Atoms z.Mask x.Order=true∧y.Order=x.Order∧z.Order=x.Order
 ·rw [if_pos j3]
  exact base _ (by simp [c1.1,c4,c5,j3])
 rw [if_neg j3]
 simp only [Option.map_none]
 by_cases k3:x.Kind=3
 ·have e:¬ x.Order=0:=fun hc=>j1 ⟨k3,hc⟩
  exact ⟨⟨orI y.Mask z.Mask,-1,s,t⟩,base _ (by simp [c1.1,c4,c5,k3,e])⟩
 by_cases k5:x.Kind=5
 ·have e:¬ x.Order=0:=fun hc=>j2 ⟨k5,hc⟩
  exact ⟨⟨orI y.Mask z.Mask,y.Order,s,t⟩,base _ (by simp [c1.1,c4,c5,k5,e])⟩
 by_cases k4:x.Kind=4
 ·refine ⟨⟨orI y.Mask z.Mask,x.Order,s,t⟩,base _ ?_⟩
  rcases tf (vin q.Atoms y.Mask x.Order) with e1 | e1 <;> rcases tf (vin q.Atoms z.Mask x.Order) with e2 | e2 <;> by_cases e3:y.Order=x.Order <;> simp [c1.1,c4,c5,k4,e1,e2,e3]
  exact fun e4=>j3 ⟨k4,e1,e2,e3,e4⟩
 ·exact ⟨⟨orI y.Mask z.Mask,-1,s,t⟩,base _ (by simp [c1.1,c4,c5,k3,k4,k5])⟩
theorem Zbjg (q:Zc) (hq:LeQ q) (h:Zq q.Ze q.Atoms=true) (steps:List Zb) (hl:steps.length≤14):∀ i,i≤steps.length→∀ info st,StOk info st→info.length=i→st.length≤i →
  Zg3 q info st steps steps.length i=some (match Zbm q.Atoms (steps.drop i) i info st with
   | some (info',st')=>if st'.length=1 then (.tup [.own 0,Bo true],[.arr Zyx 4 true (info'.map Zk.c)]) else (.tup [.t .nil,Bo false],[])
   | none=>(.tup [.t .nil,Bo false],[])):=by
 refine down _ ?_ ?_
 ·intro info st _ _ _
  rw [List.drop_length,Zbm]
  refine Z4h _ _ _ _ _ _ _ ?_
  by_cases c:st.length=1
  ·simp [c]
  ·have c':¬ (st.length:Int)=1:=by omega
   simp [c,c']
 ·intro i hi ih info st hs hil hst
  have h5:=inc64 (i:=i) (by omega)
  have s1:=Zbjf q hq h steps[i] info st hs (by omega) (by omega)
  rw [Zbar q.Atoms hi]
  refine Z4h _ _ _ _ _ _ _ ?_
  cases he:Zcm q.Atoms steps[i] info st with
  | none =>
   rw [he] at s1
   obtain ⟨y,s1⟩:=s1
   rw [if_pos (by omega)]
   refine ⟨by omega,_,List.getElem?_eq_getElem hi,_,_,s1,?_⟩
   simp
  | some y =>
   rw [he] at s1
   obtain ⟨f1,f2,f3⟩:=Zyn hs he
   have hn:=Znw hs y (st.length - pops y)
   rw [hil] at hn
   have ih:=ih (info++[y]) (st.take (st.length - pops y)++[(i:Int)]) hn (by simp [hil]) (st_len hst _)
   rw [if_pos (by omega)]
   refine ⟨by omega,_,List.getElem?_eq_getElem hi,_,_,s1,?_⟩
   rw [if_pos rfl]
   refine ⟨by omega,?_⟩
   simp only
   unfold pops at ih f2 ⊢
   rw [show w ((i:Int)+1)=(i:Int)+1 from h5]
   by_cases r:0≤y.Right
   ·simp only [if_pos r] at ih f2 ⊢
    have w2:w ((st.length:Int) - 2)=(st.length:Int) - 2:=wrap64 (by omega) (by omega)
    have z2:((st.length:Int) - 2).toNat=st.length - 2:=by omega
    rw [w2,z2]
    refine ⟨by omega,by omega,by omega,by simpa using ih⟩
   ·simp only [if_neg r] at ih f2 ⊢
    by_cases l:0≤y.Left
    ·simp only [if_pos l] at ih f2 ⊢
     have w2:w ((st.length:Int) - 1)=(st.length:Int) - 1:=wrap64 (by omega) (by omega)
     have z2:((st.length:Int) - 1).toNat=st.length - 1:=by omega
     rw [w2,z2]
     refine ⟨by omega,by omega,by omega,by simpa using ih⟩
    ·simp only [if_neg l] at ih f2 ⊢
     exact ⟨by omega,by simpa using ih⟩
@[simp] theorem Zbjh (q:Zc) (p:Plan) (hq:LeQ q):Zld q p=some (match Zb4 q.Ze q.Atoms p.Steps with
  | some info=>(.tup [.own 0,Bo true],[.arr Zyx 4 true (info.map Zk.c)])
  | none=>(.tup [.t .nil,Bo false],[])):=by
 refine Zbg4 _ _ _ ?_
 have q1:=Zmu q hq
 unfold Zb4
 rcases tf (Zq q.Ze q.Atoms) with e | e
 ·simp [q1,e]
 rcases tf (inR p.Steps.length 1 14) with e2 | e2
 ·simp [q1,e,e2]
 ·have e3:=e2
  simp [inR] at e3
  have b:=Zbjg q hq e p.Steps (by omega) 0 (Nat.zero_le _) [] [] (fun s hs=>by cases hs) rfl (Nat.le_refl _)
  simp only [List.drop_zero] at b
  simp only [q1,e,e2,Zcg,Option.some.injEq,Prod.mk.injEq,AV.t.injEq,T.bool.injEq,and_true,exists_eq_left',if_true,and_self]
  refine Eq.trans b ?_
  cases Zbm q.Atoms p.Steps 0 [] [] with
  | none=>rfl
  | some r=>obtain ⟨a,b⟩:=r;simp only;split <;> rfl
def Zdm:Int→List Zf→Bool
 | _,[]=>true
 | p,s::r=>inR s.From 1 8192 && inR s.Add (-99) 99 && decide (p<s.From) && Zdm s.From r
def Zb6 (l:List Zf):Nat→Int
 | 0=>0
 | i+1=>match l[i]? with | some s=>s.From | none=>0
def Zb7 (n:Int):Bool:=inR n (-99) 99
def Z8 (o:Zj):Bool:=Zb7 o.Fixed && Zb7 o.Zl && Zb7 o.Zm && Zb7 o.Zo && Zb7 o.Zn && decide (o.Steps.length≤4) && Zdm 0 o.Steps
theorem Z6c (p:Int) {l:List Zf} {i:Nat} (h:i<l.length):Zdm p (l.drop i)=(inR l[i].From 1 8192 && inR l[i].Add (-99) 99 && decide (p<l[i].From) && Zdm l[i].From (l.drop (i+1))):=by
 rw [List.drop_eq_getElem_cons h,Zdm]
@[simp] theorem Zbji (n:Int):Ze2 n=some (Bo (Zb7 n),[]):=by
 refine Zbif _ _ ?_
 simp [Zb7]
theorem Zbjj (o:Zj) (hl:Le o.Steps):∀ i,i≤o.Steps.length→Zhk o i=some (Bo (Zdm (Zb6 o.Steps i) (o.Steps.drop i)),[]):=by
 refine down _ ?_ ?_
 ·refine Z5i _ _ _ ?_
  simp [Zdm]
 ·intro i hi ih
  refine Z5i _ _ _ ?_
  have h4:=inc64 (i:=i) (by omega)
  rw [Z6c _ hi]
  have pn:Zb6 o.Steps (i+1)=o.Steps[i].From:=by simp [Zb6,List.getElem?_eq_getElem hi]
  rw [pn] at ih
  simp only [Int.natCast_add,Int.cast_ofNat_Int] at ih
  rw [if_pos (by omega)]
  refine ⟨by omega,o.Steps[i],by rw [Int.toNat_natCast];exact List.getElem?_eq_getElem hi,_,Ze8 _ _ _,?_⟩
  rcases tf (inR o.Steps[i].From 1 8192) with e1 | e1
  ·rw [e1];simp
  rw [e1,if_pos rfl]
  refine ⟨_,Zbji _,?_⟩
  unfold Zb7
  rcases tf (inR o.Steps[i].Add (-99) 99) with e2 | e2
  ·rw [e2];simp
  rw [e2,if_pos rfl,show w ((i:Int)+1)=(i:Int)+1 from h4]
  cases i with
  | zero =>
   rw [if_neg (by omega),ih]
   have:Zb6 o.Steps 0<o.Steps[0].From:=by simp [inR] at e1;simp [Zb6];omega
   simp [this]
  | succ j =>
   have hj:j<o.Steps.length:=by omega
   have w2:w (((j+1:Nat):Int) - 1)=j:=by rw [show ((j+1:Nat):Int) - 1=j by omega];exact wrap64 (by omega) (by omega)
   have pj:Zb6 o.Steps (j+1)=o.Steps[j].From:=by simp [Zb6,List.getElem?_eq_getElem hj]
   rw [if_pos (by omega),w2,pj]
   refine ⟨by omega,o.Steps[j],by rw [Int.toNat_natCast];exact List.getElem?_eq_getElem hj,?_⟩
   by_cases e3:o.Steps[j+1].From≤o.Steps[j].From
   ·rw [if_pos e3,decide_eq_false (by omega)];simp
   ·rw [if_neg e3,decide_eq_true (by omega),ih];simp
@[simp] theorem Zmw (o:Zj) (hl:Le o.Steps):Zfz o=some (Bo (Z8 o),[]):=by
 refine Zbig _ _ ?_
 have b:=Zbjj o hl 0 (Nat.zero_le _)
 simp only [Zb6,List.drop_zero,Int.ofNat_zero] at b
 have b:Zhk o 0=_:=b
 unfold Z8
 rcases tf (Zb7 o.Fixed) with e1 | e1
 ·simp [e1]
 rcases tf (Zb7 o.Zl) with e2 | e2
 ·simp [e1,e2]
 rcases tf (Zb7 o.Zm) with e3 | e3
 ·simp [e1,e2,e3]
 rcases tf (Zb7 o.Zo) with e4 | e4
 ·simp [e1,e2,e3,e4]
 rcases tf (Zb7 o.Zn) with e5 | e5
 ·simp [e1,e2,e3,e4,e5]
 by_cases e6:o.Steps.length≤4
 ·have e7:¬ (4:Int)<o.Steps.length:=by omega
  simp [e1,e2,e3,e4,e5,e6,e7,b]
 ·have e7:(4:Int)<o.Steps.length:=by omega
  simp [e1,e2,e3,e4,e5,e6,e7]
theorem Zbjk (o:Zj) (hl:Le o.Steps):∀ i,i≤o.Steps.length→Zfm o o.Steps o.Steps.length i=some (Bo (Zdm (Zb6 o.Steps i) (o.Steps.drop i) && decide (o.Steps.length≤4)),[]):=by
 refine down _ ?_ ?_
 ·refine Z3t _ _ _ _ _ ?_
  rw [if_neg (by omega)]
  by_cases e:o.Steps.length≤4
  ·simp [Zdm,e];omega
  ·simp [Zdm,e];omega
 ·intro i hi ih
  refine Z3t _ _ _ _ _ ?_
  have h4:=inc64 (i:=i) (by omega)
  rw [Z6c _ hi]
  have pn:Zb6 o.Steps (i+1)=o.Steps[i].From:=by simp [Zb6,List.getElem?_eq_getElem hi]
  rw [pn] at ih
  simp only [Int.natCast_add,Int.cast_ofNat_Int] at ih
  rw [if_pos (by omega)]
  refine ⟨by omega,o.Steps[i],by rw [Int.toNat_natCast];exact List.getElem?_eq_getElem hi,_,Zcg _ _ _,?_⟩
  rcases tf (inR o.Steps[i].Add (-99) 99) with e2 | e2
  ·rw [e2];simp
  rw [e2,if_pos rfl]
  refine ⟨_,Zcg _ _ _,?_⟩
  rcases tf (inR o.Steps[i].From 1 8192) with e1 | e1
  ·rw [e1];simp
  rw [e1,if_pos rfl,show w ((i:Int)+1)=(i:Int)+1 from h4]
  cases i with
  | zero =>
   rw [if_neg (by omega),ih]
   have:Zb6 o.Steps 0<o.Steps[0].From:=by simp [inR] at e1;simp [Zb6];omega
   simp [this]
  | succ j =>
   have hj:j<o.Steps.length:=by omega
   have w2:w (((j+1:Nat):Int) - 1)=j:=by rw [show ((j+1:Nat):Int) - 1=j by omega];exact wrap64 (by omega) (by omega)
   have pj:Zb6 o.Steps (j+1)=o.Steps[j].From:=by simp [Zb6,List.getElem?_eq_getElem hj]
   rw [if_pos (by omega),w2,pj]
   refine ⟨by omega,o.Steps[j],by rw [Int.toNat_natCast];exact List.getElem?_eq_getElem hj,?_⟩
   by_cases e3:o.Steps[j+1].From≤o.Steps[j].From
   ·rw [if_pos e3,decide_eq_false (by omega)];simp
   ·rw [if_neg e3,decide_eq_true (by omega),ih];simp
@[simp] theorem Zb8 (o:Zj) (hl:Le o.Steps):Zbi o=some (Bo (Z8 o),[]):=by
 refine Zbgf _ _ ?_
 have hc:Zoi o=some (.bsl 1 5,[.box (o.c.map .t),.box [.ptr 0 0,.ptr 0 1,.ptr 0 2,.ptr 0 3,.ptr 0 4]]):=Zbge _ _ rfl
 refine ⟨hc,?_⟩
 have b:=Zbjk o hl 0 (Nat.zero_le _)
 simp only [Zb6,List.drop_zero] at b
 have b:Zfm o o.Steps o.Steps.length 0=_:=b
 have w1:w (0+1)=1:=by decide
 have w2:w (1+1)=2:=by decide
 have w3:w (2+1)=3:=by decide
 have w4:w (3+1)=4:=by decide
 have w5:w (4+1)=5:=by decide
 unfold Z8 Zb7
 refine Zj0 _ _ _ _ ?_
 rw [if_pos (by omega),if_pos rfl]
 refine ⟨_,Zcg _ _ _,?_⟩
 rcases tf (inR o.Fixed (-99) 99) with e1 | e1
 ·rw [e1];simp
 rw [e1,if_pos rfl,w1]
 refine Zj0 _ _ _ _ ?_
 rw [if_pos (by omega),if_neg (by omega),if_pos rfl]
 refine ⟨_,Zcg _ _ _,?_⟩
 rcases tf (inR o.Zl (-99) 99) with e2 | e2
 ·rw [e2];simp
 rw [e2,if_pos rfl,w2]
 refine Zj0 _ _ _ _ ?_
 rw [if_pos (by omega),if_neg (by omega),if_neg (by omega),if_pos rfl]
 refine ⟨_,Zcg _ _ _,?_⟩
 rcases tf (inR o.Zm (-99) 99) with e3 | e3
 ·rw [e3];simp
 rw [e3,if_pos rfl,w3]
 refine Zj0 _ _ _ _ ?_
 rw [if_pos (by omega),if_neg (by omega),if_neg (by omega),if_neg (by omega),if_pos rfl]
 refine ⟨_,Zcg _ _ _,?_⟩
 rcases tf (inR o.Zo (-99) 99) with e4 | e4
 ·rw [e4];simp
 rw [e4,if_pos rfl,w4]
 refine Zj0 _ _ _ _ ?_
 rw [if_pos (by omega),if_neg (by omega),if_neg (by omega),if_neg (by omega),if_neg (by omega),if_pos rfl]
 refine ⟨_,Zcg _ _ _,?_⟩
 rcases tf (inR o.Zn (-99) 99) with e5 | e5
 ·rw [e5];simp
 rw [e5,if_pos rfl,w5]
 refine Zj0 _ _ _ _ ?_
 rw [if_neg (by omega),b]
 simp [Bool.and_comm]
def Zfa (o:Zj) (l r n:Int):Int:=w (w (w (w (o.Fixed+w (o.Zl*l))+w (o.Zm*r))+w (o.Zo*n))+w (w (o.Zn*l)*r))
def Zdn (l r:Int) (n:Int) (s:Zf):Int:=if s.From≤w (l+r) then w (n+s.Add) else n
def Zj3 (o:Zj) (l r n:Int):Int:=o.Steps.foldl (Zdn l r) (Zfa o l r n)
def Z5 (o:Zj) (l r n:Int):Int:=if (Z8 o && inR l 0 4096 && inR r 0 4096 && inR n 0 4096)=true then Zj3 o l r n else 0
theorem Zbjl (l r:Int) (st:List Zf) (hl:Le st):∀ i,i≤st.length→∀ n,Zif l r n st st.length i=some (I ((st.drop i).foldl (Zdn l r) n),[]):=by
 refine down _ ?_ ?_
 ·intro n
  refine Z3x _ _ _ _ _ _ _ ?_
  simp
 ·intro i hi ih n
  refine Z3x _ _ _ _ _ _ _ ?_
  have h4:=inc64 (i:=i) (by omega)
  rw [List.drop_eq_getElem_cons hi,List.foldl_cons]
  simp only [Int.natCast_add,Int.cast_ofNat_Int] at ih
  by_cases e:st[i].From≤w (l+r)
  ·simp [hi,h4,e,ih,Zdn]
  ·simp [hi,h4,e,ih,Zdn]
@[simp] theorem Zbqq (o:Zj) (hl:Le o.Steps) (l r n:Int):Zie o l r n=some (I (Zj3 o l r n),[]):=by
 refine Zbgi _ _ _ _ _ ?_
 have b:=Zbjl l r o.Steps hl 0 (Nat.zero_le _) (Zfa o l r n)
 simpa [Zj3,Zfa] using b
@[simp] theorem Zej (o:Zj) (hl:Le o.Steps) (l r n:Int):Zbg o l r n=some (I (Z5 o l r n),[]):=by
 refine Zbg5 _ _ _ _ _ ?_
 unfold Z5
 rcases tf (Z8 o) with e1 | e1 <;> rcases tf (inR l 0 4096) with e2 | e2 <;> rcases tf (inR r 0 4096) with e3 | e3 <;> rcases tf (inR n 0 4096) with e4 | e4 <;> simp [hl,e1,e2,e3,e4]
theorem Zbjm (o:Zj) (l r:Int) (hl:Le o.Steps):∀ i,i≤o.Steps.length→∀ n,Zhl o l r n i=some (I ((o.Steps.drop i).foldl (Zdn l r) n),[]):=by
 refine down _ ?_ ?_
 ·intro n
  refine Z5j _ _ _ _ _ _ ?_
  simp
 ·intro i hi ih n
  refine Z5j _ _ _ _ _ _ ?_
  have h4:=inc64 (i:=i) (by omega)
  rw [List.drop_eq_getElem_cons hi,List.foldl_cons]
  simp only [Int.natCast_add,Int.cast_ofNat_Int] at ih
  by_cases e:o.Steps[i].From≤w (l+r)
  ·simp [hi,h4,e,ih,Zdn]
  ·simp [hi,h4,e,ih,Zdn]
@[simp] theorem Zf8 (o:Zj) (hl:Le o.Steps) (l r n:Int):Zcv o l r n=some (I (Z5 o l r n),[]):=by
 refine Zbih _ _ _ _ _ ?_
 have b:=Zbjm o l r hl 0 (Nat.zero_le _) (Zfa o l r n)
 simp only [List.drop_zero,Zfa] at b
 have b:Zhl o l r _ 0=_:=b
 unfold Z5
 rcases tf (Z8 o) with e1 | e1 <;> rcases tf (inR l 0 4096) with e2 | e2 <;> rcases tf (inR r 0 4096) with e3 | e3 <;> rcases tf (inR n 0 4096) with e4 | e4 <;> simp [hl,e1,e2,e3,e4,b,Zj3,Zfa]
@[simp] theorem Zfb (c:Int):Zed c=some (I (Z1 c),[]):=by
 refine Zbgh _ _ ?_
 cases h:inR c 0 7
 ·simp [h,Zyf h]
 ·rcases cls8 h with rfl | rfl | rfl | rfl | rfl | rfl | rfl | rfl <;> simp [inR,Z1,wrap64,shlI]
@[simp] theorem Zfc (c:Int):Ze1 c=some (I (Z1 c),[]):=by
 refine Zbib _ _ ?_
 have e:∀ n i r,(if i<c then Zjh c (if 1<w (n*4) then w (n*4) else 1) (w (i+1))=some r else some (I n,[])=some r)→Zjh c n i=some r:=fun n i r h=>Zbia _ _ _ _ h
 cases h:inR c 0 7
 ·simp [h,Zyf h]
 ·refine ⟨_,Ze8 _ _ _,?_⟩
  rw [h,if_pos rfl]
  rcases cls8 h with rfl | rfl | rfl | rfl | rfl | rfl | rfl | rfl
  all_goals repeat (refine e _ _ _ ?_;first | (rw [if_neg (by decide)];rfl) | rw [if_pos (by decide)])
def inT (t:List Int):Prop:=∃ a b c:Int,t=[a,b,c]∧(0≤a∧a≤7)∧(0≤b∧b≤7)∧(0≤c∧c≤7)
def tcl (o:Zj):List Int→Int
 | [a,b,c]=>Zj3 o (Z1 a) (Z1 b) (Z1 c)
 | _=>0
theorem Zj4 {c:Int} (h0:0≤c) (h7:c≤7):inR (Z1 c) 0 4096=true:=by
 have:c=0∨c=1∨c=2∨c=3∨c=4∨c=5∨c=6∨c=7:=by omega
 rcases this with rfl | rfl | rfl | rfl | rfl | rfl | rfl | rfl <;> decide
theorem Zhs (o:Zj) (hl:Le o.Steps) {t:List Int} (h:inT t):Zc2 o t=some (I (tcl o t),[]):=by
 obtain ⟨a,b,c,rfl,_⟩:=h
 refine Zbgj _ _ _ ?_
 simp [hl,tcl]
theorem Zp5 (o:Zj) (hl:Le o.Steps) (hv:Z8 o=true) {t:List Int} (h:inT t):Zhm o t=some (I (tcl o t),[]):=by
 obtain ⟨a,b,c,rfl,h1,h2,h3⟩:=h
 refine Zbii _ _ _ ?_
 have c1:=Zj4 h1.1 h1.2
 have c2:=Zj4 h2.1 h2.2
 have c3:=Zj4 h3.1 h3.2
 simp [hl,tcl,Z5,hv,c1,c2,c3]
theorem Z6d {t:List Int} (h:inT t) {k:Nat} {e:Int} (hk:t[k]?=some e) (h7:e+1≤7):inT (t.set k (e+1)):=by
 obtain ⟨a,b,c,rfl,h1,h2,h3⟩:=h
 match k,hk with
 | 0,hk=>simp at hk;subst hk;exact ⟨a+1,b,c,rfl,by omega,h2,h3⟩
 | 1,hk=>simp at hk;subst hk;exact ⟨a,b+1,c,rfl,h1,by omega,h3⟩
 | 2,hk=>simp at hk;subst hk;exact ⟨a,b,c+1,rfl,h1,h2,by omega⟩
 | k+3,hk=>simp at hk
theorem Z6e {t:List Int} (h:inT t) {k:Nat} (hk:k<3):∃ e,t[k]?=some e∧0≤e∧e≤7:=by
 obtain ⟨a,b,c,rfl,h1,h2,h3⟩:=h
 match k,hk with
 | 0,_=>exact ⟨a,rfl,h1⟩
 | 1,_=>exact ⟨b,rfl,h2⟩
 | 2,_=>exact ⟨c,rfl,h3⟩
theorem Zwn {t:List Int} (h:inT t):t.length=3:=by obtain ⟨a,b,c,rfl,_⟩:=h;rfl
def decK (o:Zj) (t:List Int) (k:Nat):Prop:=∃ e,t[k]?=some e∧e+1≤7∧tcl o (t.set k (e+1))<tcl o t
def decF (o:Zj) (t:List Int) (k:Nat):Prop:=∃ j,k≤j∧j<3∧decK o t j
def decr (o:Zj):Prop:=∃ t,inT t∧decF o t 0
def cheap (o:Zj):Prop:=∃ t,inT t∧tcl o t<1
abbrev Zco (X:Rs) (p:Prop):Prop:=∃ (xs ys:List Int) (b:Bool),X=some (.tup [.own 0,.own 1,Bo b],[.arr Zw 1 true (xs.map ic),.arr Zw 1 true (ys.map ic)])∧(b=true↔p)
theorem Zco.congr {X:Rs} {p q:Prop} (h:Zco X p) (e:p↔q):Zco X q:=by
 obtain ⟨xs,ys,b,h1,h2⟩:=h;exact ⟨xs,ys,b,h1,h2.trans e⟩
theorem l_fd0 (o:Zj) (hl:Le o.Steps) (hv:Z8 o=true) {t:List Int} (ht:inT t) (a b e:Int) (p:Prop) (hc:Zco (Zjm o a b (w (e+1))) p):∀ k:Nat,k≤3 →
  Zco (Ze3 o t a b e k) (decF o t k∨p):=by
 have h3:=Zwn ht
 refine down _ ?_ ?_
 ·obtain ⟨xs,ys,f,h1,h2⟩:=hc
  refine ⟨xs,ys,f,Z5n _ _ _ _ _ _ _ (by rw [if_neg (by omega)];exact h1),?_⟩
  rw [h2]
  exact ⟨.inr,fun h=>h.elim (fun ⟨j,a,b,_⟩=>by omega) id⟩
 ·intro k hk ih
  have h4:=inc64 (i:=k) (by omega)
  obtain ⟨x,hx,x0,x7⟩:=Z6e ht hk
  have wx:w (x+1)=x+1:=wrap64 (by omega) (by omega)
  simp only [Int.natCast_add,Int.cast_ofNat_Int] at ih
  have step:decF o t k↔(decK o t k∨decF o t (k+1)):=by
   constructor
   ·rintro ⟨j,j1,j2,j3⟩
    by_cases hj:j=k
    ·subst hj;exact .inl j3
    ·exact .inr ⟨j,by omega,j2,j3⟩
   ·rintro (h | ⟨j,j1,j2,j3⟩)
    ·exact ⟨k,Nat.le_refl _,hk,h⟩
    ·exact ⟨j,by omega,j2,j3⟩
  have pre:∀ r,(if x+1≤7 then (if tcl o (t.set k (x+1))<tcl o t then some (.tup [.own 0,.own 1,Bo true],[.arr Zw 1 true (t.map ic),.arr Zw 1 true ((t.set k (x+1)).map ic)])=some r
    else Ze3 o t a b e ((k:Int)+1)=some r) else Ze3 o t a b e ((k:Int)+1)=some r)→Ze3 o t a b e k=some r:=by
   intro r hr
   refine Z5n _ _ _ _ _ _ _ ?_
   rw [if_pos (by omega)]
   refine ⟨by omega,by omega,x,by rw [Int.toNat_natCast];exact hx,?_⟩
   rw [wx,Int.toNat_natCast,show w ((k:Int)+1)=(k:Int)+1 from h4]
   by_cases h7:x+1≤7
   ·rw [if_pos h7] at hr ⊢
    exact ⟨_,Zp5 o hl hv (Z6d ht hx h7),_,Zp5 o hl hv ht,hr⟩
   ·rw [if_neg h7] at hr ⊢
    exact hr
  have dk:decK o t k↔(x+1≤7∧tcl o (t.set k (x+1))<tcl o t):=by
   constructor
   ·rintro ⟨y,y1,y2,y3⟩;rw [hx] at y1;cases y1;exact ⟨y2,y3⟩
   ·rintro ⟨y2,y3⟩;exact ⟨x,hx,y2,y3⟩
  by_cases h7:x+1≤7∧tcl o (t.set k (x+1))<tcl o t
  ·refine ⟨_,_,true,pre _ (by rw [if_pos h7.1,if_pos h7.2]),?_⟩
   rw [step,dk]
   exact ⟨fun _=>.inl (.inl h7),fun _=>rfl⟩
  ·obtain ⟨xs,ys,f,i1,i2⟩:=ih
   refine ⟨xs,ys,f,pre _ ?_,?_⟩
   ·split
    ·split
     ·rename_i a1 a2;exact absurd ⟨a1,a2⟩ h7
     ·exact i1
    ·exact i1
   ·rw [i2,step,dk]
    constructor
    ·exact fun h=>h.imp .inr id
    ·exact fun h=>h.imp (fun h=>h.resolve_left h7) id
theorem Zj5 {P:Nat→Prop} {i:Nat} {p:Prop} (hi:i<8):((∃ z,i≤z∧z≤7∧P z)∨p)↔(P i∨(∃ z,i+1≤z∧z≤7∧P z)∨p):=by
 constructor
 ·rintro (⟨z,z1,z2,z3⟩ | h)
  ·by_cases hz:z=i
   ·subst hz;exact .inl z3
   ·exact .inr (.inl ⟨z,by omega,z2,z3⟩)
  ·exact .inr (.inr h)
 ·rintro (h | ⟨z,z1,z2,z3⟩ | h)
  ·exact .inl ⟨i,Nat.le_refl _,by omega,h⟩
  ·exact .inl ⟨z,by omega,z2,z3⟩
  ·exact .inr h
theorem Zj6 {P:Nat→Prop} {p:Prop}:((∃ z,8≤z∧z≤7∧P z)∨p)↔p:=⟨fun h=>h.elim (fun ⟨z,a,b,_⟩=>by omega) id,.inr⟩
theorem l_fd1 (o:Zj) (hl:Le o.Steps) (hv:Z8 o=true) (a b:Nat) (ha:a≤7) (hb:b≤7) (p:Prop) (hc:Zco (Zjl o a ((b:Int)+1)) p):∀ e:Nat,e≤8 →
  Zco (Zjm o a b e) ((∃ z:Nat,e≤z∧z≤7∧decF o [(a:Int),(b:Int),(z:Int)] 0)∨p):=by
 have wb:w ((b:Int)+1)=(b:Int)+1:=wrap64 (by omega) (by omega)
 refine down _ ?_ ?_
 ·refine Zco.congr ?_ Zj6.symm
  obtain ⟨xs,ys,f,h1,h2⟩:=hc
  exact ⟨xs,ys,f,Z5m _ _ _ _ _ (by rw [if_neg (by omega),wb];exact h1),h2⟩
 ·intro e he ih
  have we:w ((e:Int)+1)=(e:Int)+1:=wrap64 (by omega) (by omega)
  have hT:inT [(a:Int),(b:Int),(e:Int)]:=⟨a,b,e,rfl,by omega,by omega,by omega⟩
  simp only [Int.natCast_add,Int.cast_ofNat_Int] at ih
  obtain ⟨xs,ys,f,h1,h2⟩:=l_fd0 o hl hv hT a b e _ (by rw [we];exact ih) 0 (by omega)
  exact ⟨xs,ys,f,Z5m _ _ _ _ _ (by rw [if_pos (by omega)];exact h1),h2.trans (Zj5 (P:=fun z:Nat=>decF o [(a:Int),(b:Int),(z:Int)] 0) he).symm⟩
theorem l_fd2 (o:Zj) (hl:Le o.Steps) (hv:Z8 o=true) (a:Nat) (ha:a≤7) (p:Prop) (hc:Zco (Zhn o ((a:Int)+1)) p):∀ b:Nat,b≤8 →
  Zco (Zjl o a b) ((∃ y:Nat,b≤y∧y≤7∧∃ z:Nat,0≤z∧z≤7∧decF o [(a:Int),(y:Int),(z:Int)] 0)∨p):=by
 have wa:w ((a:Int)+1)=(a:Int)+1:=wrap64 (by omega) (by omega)
 refine down _ ?_ ?_
 ·refine Zco.congr ?_ Zj6.symm
  obtain ⟨xs,ys,f,h1,h2⟩:=hc
  exact ⟨xs,ys,f,Z5l _ _ _ _ (by rw [if_neg (by omega),wa];exact h1),h2⟩
 ·intro b hb ih
  simp only [Int.natCast_add,Int.cast_ofNat_Int] at ih
  obtain ⟨xs,ys,f,h1,h2⟩:=l_fd1 o hl hv a b ha (by omega) _ ih 0 (by omega)
  exact ⟨xs,ys,f,Z5l _ _ _ _ (by rw [if_pos (by omega)];exact h1),h2.trans (Zj5 (P:=fun y:Nat=>∃ z:Nat,0≤z∧z≤7∧decF o [(a:Int),(y:Int),(z:Int)] 0) hb).symm⟩
theorem l_fd3 (o:Zj) (hl:Le o.Steps) (hv:Z8 o=true):∀ a:Nat,a≤8 →
  Zco (Zhn o a) ((∃ x:Nat,a≤x∧x≤7∧∃ y:Nat,0≤y∧y≤7∧∃ z:Nat,0≤z∧z≤7∧decF o [(x:Int),(y:Int),(z:Int)] 0)∨False):=by
 refine down _ ?_ ?_
 ·refine Zco.congr ?_ Zj6.symm
  exact ⟨[],[],false,Z5k _ _ _ (by rw [if_neg (by omega)]),by simp⟩
 ·intro a ha ih
  simp only [Int.natCast_add,Int.cast_ofNat_Int] at ih
  obtain ⟨xs,ys,f,h1,h2⟩:=l_fd2 o hl hv a (by omega) _ ih 0 (by omega)
  exact ⟨xs,ys,f,Z5k _ _ _ (by rw [if_pos (by omega)];exact h1),h2.trans (Zj5 (P:=fun x:Nat=>∃ y:Nat,0≤y∧y≤7∧∃ z:Nat,0≤z∧z≤7∧decF o [(x:Int),(y:Int),(z:Int)] 0) ha).symm⟩
theorem Z6f (o:Zj) (P:List Int→Prop):(∃ t,inT t∧P t)↔∃ x:Nat,0≤x∧x≤7∧∃ y:Nat,0≤y∧y≤7∧∃ z:Nat,0≤z∧z≤7∧P [(x:Int),(y:Int),(z:Int)]:=by
 constructor
 ·rintro ⟨t,⟨a,b,c,rfl,h1,h2,h3⟩,h⟩
  refine ⟨a.toNat,by omega,by omega,b.toNat,by omega,by omega,c.toNat,by omega,by omega,?_⟩
  rw [Int.toNat_of_nonneg h1.1,Int.toNat_of_nonneg h2.1,Int.toNat_of_nonneg h3.1]
  exact h
 ·rintro ⟨x,_,x2,y,_,y2,z,_,z2,h⟩
  exact ⟨_,⟨x,y,z,rfl,by omega,by omega,by omega⟩,h⟩
theorem Zbjn (o:Zj) (hl:Le o.Steps) (hv:Z8 o=true):Zco (Zpm o) (decr o):=by
 obtain ⟨xs,ys,f,h1,h2⟩:=l_fd3 o hl hv 0 (by omega)
 refine ⟨xs,ys,f,Zbij _ _ ⟨_,Zmw o hl,?_⟩,?_⟩
 ·rw [hv,if_pos rfl];exact h1
 ·rw [h2,decr,Z6f o (fun t=>decF o t 0)]
  simp
abbrev Zcw (X:Rs) (p:Prop):Prop:=∃ (xs:List Int),X=some (.own 0,[.arr Zw 1 true (xs.map ic)])∧(xs≠[]↔p)
theorem Zcw.congr {X:Rs} {p q:Prop} (h:Zcw X p) (e:p↔q):Zcw X q:=by
 obtain ⟨xs,h1,h2⟩:=h;exact ⟨xs,h1,h2.trans e⟩
theorem l_ch0 (o:Zj) (hl:Le o.Steps) (hv:Z8 o=true) (a b:Nat) (ha:a≤7) (hb:b≤7) (p:Prop) (hc:Zcw (Zjo o a ((b:Int)+1)) p):∀ e:Nat,e≤8 →
  Zcw (Zma o a b e) ((∃ z:Nat,e≤z∧z≤7∧tcl o [(a:Int),(b:Int),(z:Int)]<1)∨p):=by
 have wb:w ((b:Int)+1)=(b:Int)+1:=wrap64 (by omega) (by omega)
 refine down _ ?_ ?_
 ·refine Zcw.congr ?_ Zj6.symm
  obtain ⟨xs,h1,h2⟩:=hc
  exact ⟨xs,Zwh _ _ _ _ _ (by rw [if_neg (by omega),wb];exact h1),h2⟩
 ·intro e he ih
  have we:w ((e:Int)+1)=(e:Int)+1:=wrap64 (by omega) (by omega)
  have hT:inT [(a:Int),(b:Int),(e:Int)]:=⟨a,b,e,rfl,by omega,by omega,by omega⟩
  simp only [Int.natCast_add,Int.cast_ofNat_Int] at ih
  refine Zcw.congr ?_ (Zj5 he).symm
  by_cases h:tcl o [(a:Int),(b:Int),(e:Int)]<1
  ·refine ⟨[a,b,e],Zwh _ _ _ _ _ ?_,by simp [h]⟩
   rw [if_pos (by omega)]
   exact ⟨_,Zp5 o hl hv hT,by rw [if_pos h]⟩
  ·obtain ⟨xs,h1,h2⟩:=ih
   refine ⟨xs,Zwh _ _ _ _ _ ?_,by rw [h2];simp [h]⟩
   rw [if_pos (by omega)]
   exact ⟨_,Zp5 o hl hv hT,by rw [if_neg h,we];exact h1⟩
theorem l_ch1 (o:Zj) (hl:Le o.Steps) (hv:Z8 o=true) (a:Nat) (ha:a≤7) (p:Prop) (hc:Zcw (Zjn o ((a:Int)+1)) p):∀ b:Nat,b≤8 →
  Zcw (Zjo o a b) ((∃ y:Nat,b≤y∧y≤7∧∃ z:Nat,0≤z∧z≤7∧tcl o [(a:Int),(y:Int),(z:Int)]<1)∨p):=by
 have wa:w ((a:Int)+1)=(a:Int)+1:=wrap64 (by omega) (by omega)
 refine down _ ?_ ?_
 ·refine Zcw.congr ?_ Zj6.symm
  obtain ⟨xs,h1,h2⟩:=hc
  exact ⟨xs,Z5p _ _ _ _ (by rw [if_neg (by omega),wa];exact h1),h2⟩
 ·intro b hb ih
  simp only [Int.natCast_add,Int.cast_ofNat_Int] at ih
  obtain ⟨xs,h1,h2⟩:=l_ch0 o hl hv a b ha (by omega) _ ih 0 (by omega)
  exact ⟨xs,Z5p _ _ _ _ (by rw [if_pos (by omega)];exact h1),h2.trans (Zj5 (P:=fun y:Nat=>∃ z:Nat,0≤z∧z≤7∧tcl o [(a:Int),(y:Int),(z:Int)]<1) hb).symm⟩
theorem l_ch2 (o:Zj) (hl:Le o.Steps) (hv:Z8 o=true):∀ a:Nat,a≤8 →
  Zcw (Zjn o a) ((∃ x:Nat,a≤x∧x≤7∧∃ y:Nat,0≤y∧y≤7∧∃ z:Nat,0≤z∧z≤7∧tcl o [(x:Int),(y:Int),(z:Int)]<1)∨False):=by
 refine down _ ?_ ?_
 ·refine Zcw.congr ?_ Zj6.symm
  exact ⟨[],Z5o _ _ _ (by rw [if_neg (by omega)]),by simp⟩
 ·intro a ha ih
  simp only [Int.natCast_add,Int.cast_ofNat_Int] at ih
  obtain ⟨xs,h1,h2⟩:=l_ch1 o hl hv a (by omega) _ ih 0 (by omega)
  exact ⟨xs,Z5o _ _ _ (by rw [if_pos (by omega)];exact h1),h2.trans (Zj5 (P:=fun x:Nat=>∃ y:Nat,0≤y∧y≤7∧∃ z:Nat,0≤z∧z≤7∧tcl o [(x:Int),(y:Int),(z:Int)]<1) ha).symm⟩
theorem Zbjo (o:Zj) (hl:Le o.Steps) (hv:Z8 o=true):Zcw (Zpp o) (cheap o):=by
 obtain ⟨xs,h1,h2⟩:=l_ch2 o hl hv 0 (by omega)
 refine ⟨xs,Zbik _ _ h1,?_⟩
 rw [h2,cheap,Z6f o (fun t=>tcl o t<1)]
 simp
def rowC (a b:Int) (c:Nat):List (List Int):=(List.range' c (8 - c)).map fun z:Nat=>[a,b,(z:Int)]
def rowB (a:Int) (b:Nat):List (List Int):=(List.range' b (8 - b)).flatMap fun y:Nat=>rowC a y 0
def rowA (a:Nat):List (List Int):=(List.range' a (8 - a)).flatMap fun x:Nat=>rowB x 0
theorem Zwo {i:Nat} (h:i<8):List.range' i (8 - i)=i::List.range' (i+1) (8 - (i+1)):=by
 rw [show 8 - i=(8 - (i+1))+1 by omega,List.range'_succ]
theorem rowC_len (a b:Int) (c:Nat):(rowC a b c).length=8 - c:=by simp [rowC]
theorem rowB_len (a:Int):(rowB a 0).length=64:=rfl
theorem l_tr0 (a b:Nat) (hb:b≤7) (r:AV×List Blk):∀ c:Nat,c≤8→∀ out:List (List Int),out.length≤1000000→Zgr (out++rowC a b c) a ((b:Int)+1)=some r→Zid out a b c=some r:=by
 have wb:w ((b:Int)+1)=(b:Int)+1:=wrap64 (by omega) (by omega)
 have key:∀ c:Nat,c≤8→∀ out:List (List Int),out.length≤1000000+c→Zgr (out++rowC a b c) a ((b:Int)+1)=some r→Zid out a b c=some r:=by
  refine down _ ?_ ?_
  ·intro out ho h
   refine Z3w _ _ _ _ _ ?_
   rw [if_neg (by omega),wb]
   simpa [rowC] using h
  ·intro c hc ih out ho h
   have wc:w ((c:Int)+1)=(c:Int)+1:=wrap64 (by omega) (by omega)
   refine Z3w _ _ _ _ _ ?_
   rw [if_pos (by omega),wc]
   refine ⟨by omega,?_⟩
   have ih:=ih (out++[[(a:Int),(b:Int),(c:Int)]]) (by simp;omega) (by
    rw [rowC,Zwo hc] at h
    simpa [rowC] using h)
   simpa using ih
 exact fun c hc out ho h=>key c hc out (by omega) h
theorem l_tr1 (a:Nat) (ha:a≤7) (r:AV×List Blk):∀ b:Nat,b≤8→∀ out:List (List Int),out.length≤100000+8*b→Zic (out++rowB a b) ((a:Int)+1)=some r→Zgr out a b=some r:=by
 have wa:w ((a:Int)+1)=(a:Int)+1:=wrap64 (by omega) (by omega)
 refine down _ ?_ ?_
 ·intro out ho h
  refine Z3v _ _ _ _ ?_
  rw [if_neg (by omega),wa]
  simpa [rowB] using h
 ·intro b hb ih out ho h
  refine Z3v _ _ _ _ ?_
  rw [if_pos (by omega)]
  refine l_tr0 a b (by omega) r 0 (by omega) out (by omega) ?_
  have ih:=ih (out++rowC a b 0) (by rw [List.length_append,rowC_len];omega) (by
   rw [rowB,Zwo hb] at h
   simpa [rowB] using h)
  simpa using ih
theorem l_tr2:∀ a:Nat,a≤8→∀ out:List (List Int),out.length≤64*a→Zic out a=some (.own 0,[.arr Zh4 1 true ((out++rowA a).map isc)]):=by
 refine down _ ?_ ?_
 ·intro out ho
  refine Z3u _ _ _ ?_
  rw [if_neg (by omega)]
  simp [rowA]
 ·intro a ha ih out ho
  refine Z3u _ _ _ ?_
  rw [if_pos (by omega)]
  refine l_tr1 a (by omega) _ 0 (by omega) out (by omega) ?_
  have ih:=ih (out++rowB a 0) (by rw [List.length_append,rowB_len];omega)
  rw [rowA,Zwo ha]
  simpa [rowA] using ih
def allT:List (List Int):=rowA 0
theorem Zj7:Zcd=some (.own 0,[.arr Zh4 1 true (allT.map isc)]):=Zbgg _ (l_tr2 0 (by omega) [] (by simp))
theorem Zdo (t:List Int):t∈allT↔inT t:=by
 simp only [allT,rowA,rowB,rowC,List.mem_flatMap,List.mem_map,List.mem_range'_1,inT]
 constructor
 ·rintro ⟨x,hx,y,hy,z,hz,rfl⟩
  exact ⟨x,y,z,rfl,by omega,by omega,by omega⟩
 ·rintro ⟨a,b,c,rfl,h1,h2,h3⟩
  refine ⟨a.toNat,by omega,b.toNat,by omega,c.toNat,by omega,?_⟩
  rw [Int.toNat_of_nonneg h1.1,Int.toNat_of_nonneg h2.1,Int.toNat_of_nonneg h3.1]
set_option maxRecDepth 100000 in
theorem Zj8:allT.length=512:=rfl
@[simp] theorem Zwp (xs:List Int) (h:xs.length≤68719476736):Zfj xs=some (.own 0,[.arr Zw 1 true (xs.map ic)]):=Zbf2 _ _ ⟨h,rfl⟩
abbrev GoodI (X:Rs) (p:Prop):Prop:=(p∧∃ xs ys:List Int,X=some (.tup [L 1 (xs.map ic),.own 0,Bo true],[.arr Zw 1 true (ys.map ic)]))∨(¬ p∧X=some (.tup [.t .nil,.t .nil,Bo false],[]))
theorem l_id0 (o:Zj) (hl:Le o.Steps) (ts:List (List Int)) {t:List Int} (ht:inT t) (n i:Int) (p:Prop) (hc:GoodI (Zfn o ts n (w (i+1))) p):∀ k:Nat,k≤3 →
  GoodI (Zc3 o ts t n i 3 k) (decF o t k∨p):=by
 have h3:=Zwn ht
 refine down _ ?_ ?_
 ·have e:(decF o t 3∨p)↔p:=⟨fun h=>h.elim (fun ⟨j,a,b,_⟩=>by omega) id,.inr⟩
  rcases hc with ⟨h,xs,ys,h1⟩ | ⟨h,h1⟩
  ·exact .inl ⟨e.2 h,xs,ys,Zv9 _ _ _ _ _ _ _ _ (by rw [if_neg (by omega)];exact h1)⟩
  ·exact .inr ⟨fun hc=>h (e.1 hc),Zv9 _ _ _ _ _ _ _ _ (by rw [if_neg (by omega)];exact h1)⟩
 ·intro k hk ih
  have h4:=inc64 (i:=k) (by omega)
  obtain ⟨x,hx,x0,x7⟩:=Z6e ht hk
  have wx:w (x+1)=x+1:=wrap64 (by omega) (by omega)
  simp only [Int.natCast_add,Int.cast_ofNat_Int] at ih
  have step:decF o t k↔(decK o t k∨decF o t (k+1)):=by
   constructor
   ·rintro ⟨j,j1,j2,j3⟩
    by_cases hj:j=k
    ·subst hj;exact .inl j3
    ·exact .inr ⟨j,by omega,j2,j3⟩
   ·rintro (h | ⟨j,j1,j2,j3⟩)
    ·exact ⟨k,Nat.le_refl _,hk,h⟩
    ·exact ⟨j,by omega,j2,j3⟩
  have dk:decK o t k↔(x+1≤7∧tcl o (t.set k (x+1))<tcl o t):=by
   constructor
   ·rintro ⟨y,y1,y2,y3⟩;rw [hx] at y1;cases y1;exact ⟨y2,y3⟩
   ·rintro ⟨y2,y3⟩;exact ⟨x,hx,y2,y3⟩
  have pre:∀ r,(if x+1≤7 then (if tcl o (t.set k (x+1))<tcl o t then some (.tup [L 1 (t.map ic),.own 0,Bo true],[.arr Zw 1 true ((t.set k (x+1)).map ic)])=some r
    else Zc3 o ts t n i 3 ((k:Int)+1)=some r) else Zc3 o ts t n i 3 ((k:Int)+1)=some r)→Zc3 o ts t n i 3 k=some r:=by
   intro r hr
   refine Zv9 _ _ _ _ _ _ _ _ ?_
   rw [if_pos (by omega)]
   refine ⟨by omega,x,by rw [Int.toNat_natCast];exact hx,?_⟩
   rw [show w ((k:Int)+1)=(k:Int)+1 from h4]
   by_cases h7:x=7
   ·rw [if_pos h7]
    rw [if_neg (by omega)] at hr
    exact hr
   ·rw [if_neg h7]
    have h8:x+1≤7:=by omega
    rw [if_pos h8] at hr
    refine ⟨t,Zwp t (by omega),x,by rw [Int.toNat_natCast];exact hx,?_⟩
    rw [wx,Int.toNat_natCast]
    exact ⟨_,Zhs o hl (Z6d ht hx h8),_,Zhs o hl ht,hr⟩
  by_cases h7:x+1≤7∧tcl o (t.set k (x+1))<tcl o t
  ·exact .inl ⟨.inl (step.2 (.inl (dk.2 h7))),_,_,pre _ (by rw [if_pos h7.1,if_pos h7.2])⟩
  ·have go:∀ r,Zc3 o ts t n i 3 ((k:Int)+1)=some r→Zc3 o ts t n i 3 k=some r:=by
    intro r hr
    refine pre r ?_
    split
    ·split
     ·rename_i a1 a2;exact absurd ⟨a1,a2⟩ h7
     ·exact hr
    ·exact hr
   have e:(decF o t k∨p)↔(decF o t (k+1)∨p):=by
    rw [step,dk]
    exact ⟨fun h=>h.imp (fun h=>h.resolve_left h7) id,fun h=>h.imp .inr id⟩
   rcases ih with ⟨h,xs,ys,h1⟩ | ⟨h,h1⟩
   ·exact .inl ⟨e.2 h,xs,ys,go _ h1⟩
   ·exact .inr ⟨fun hc=>h (e.1 hc),go _ h1⟩
theorem l_id1 (o:Zj) (hl:Le o.Steps) (ts:List (List Int)) (hts:∀ t∈ts,inT t) (hn:ts.length≤1000):∀ i,i≤ts.length→GoodI (Zfn o ts ts.length i) (∃ t∈ts.drop i,decF o t 0):=by
 refine down _ ?_ ?_
 ·refine .inr ⟨by simp,Z3y _ _ _ _ _ (by rw [if_neg (by omega)])⟩
 ·intro i hi ih
  have h4:=inc64 (i:=i) (by omega)
  have ht:=hts _ (List.getElem_mem hi)
  simp only [Int.natCast_add,Int.cast_ofNat_Int] at ih
  have b:=l_id0 o hl ts ht ts.length i _ (by rw [show w ((i:Int)+1)=(i:Int)+1 from h4];exact ih) 0 (by omega)
  have go:∀ r,Zc3 o ts ts[i] ts.length i 3 0=some r→Zfn o ts ts.length i=some r:=by
   intro r hr
   refine Z3y _ _ _ _ _ ?_
   rw [if_pos (by omega)]
   refine ⟨by omega,ts[i],by rw [Int.toNat_natCast];exact List.getElem?_eq_getElem hi,?_⟩
   rw [Zwn ht]
   exact hr
  have e:(∃ t∈ts.drop i,decF o t 0)↔(decF o ts[i] 0∨∃ t∈ts.drop (i+1),decF o t 0):=by
   rw [List.drop_eq_getElem_cons hi];simp only [List.mem_cons,exists_eq_or_imp]
  rcases b with ⟨h,xs,ys,h1⟩ | ⟨h,h1⟩
  ·exact .inl ⟨e.2 h,xs,ys,go _ h1⟩
  ·exact .inr ⟨fun hc=>h (e.1 hc),go _ h1⟩
theorem Zmx (o:Zj) (hl:Le o.Steps) (hv:Z8 o=true):GoodI (Zbf o) (decr o):=by
 have b:=l_id1 o hl allT (fun t h=>(Zdo t).1 h) (by rw [Zj8];omega) 0 (Nat.zero_le _)
 have go:∀ r,Zfn o allT allT.length 0=some r→Zbf o=some r:=by
  intro r hr
  refine Zbgk _ _ ⟨_,Zb8 o hl,?_⟩
  rw [hv,if_pos rfl]
  exact ⟨allT,Zj7,hr⟩
 have e:(∃ t∈allT.drop 0,decF o t 0)↔decr o:=by
  simp only [List.drop_zero,Zdo,decr]
 rcases b with ⟨h,xs,ys,h1⟩ | ⟨h,h1⟩
 ·exact .inl ⟨e.1 h,xs,ys,go _ h1⟩
 ·exact .inr ⟨fun hc=>h (e.2 hc),go _ h1⟩
def Z9 (o:Zj):Prop:=Z8 o=true∧¬ decr o∧¬ cheap o
def mOp (m:Zd) (k:Int):Zj:=if k=1 then m.Scan else if k=2 then m.Sort_ else if k=3 then m.Hash else if k=4 then m.Merge else m.Nested
abbrev LeM (m:Zd):Prop:=Le m.Scan.Steps∧Le m.Sort_.Steps∧Le m.Hash.Steps∧Le m.Merge.Steps∧Le m.Nested.Steps
theorem LeM.op {m:Zd} (h:LeM m) (k:Int):Le (mOp m k).Steps:=by
 unfold mOp
 obtain ⟨h1,h2,h3,h4,h5⟩:=h
 repeat' split
 all_goals assumption
@[simp] theorem Zmy (m:Zd) (k:Int):Zdz m k=some (.agg ((mOp m k).c.map .t),[]):=by
 refine Zbie _ _ _ ?_
 unfold mOp
 by_cases h1:k=1
 ·simp [h1]
 by_cases h2:k=2
 ·simp [h2]
 by_cases h3:k=3
 ·simp [h3]
 by_cases h4:k=4
 ·simp [h4]
 ·simp [h1,h2,h3,h4]
def Zch (m:Zd):Prop:=Z9 m.Scan∧Z9 m.Sort_∧Z9 m.Hash∧Z9 m.Merge∧Z9 m.Nested
theorem Zbjp (m:Zd) (hm:LeM m):∀ k:Nat,k≤6→1≤k →
  ∃ (xs ys:List Int) (n:Int),Zjp m k=some (.tup [I n,.own 0,.own 1],[.arr Zw 1 true (xs.map ic),.arr Zw 1 true (ys.map ic)])∧(n=0↔∀ j:Nat,k≤j→j≤5→Z9 (mOp m j)):=by
 refine down _ ?_ ?_
 ·intro _
  exact ⟨[],[],0,Z5q _ _ _ (by rw [if_neg (by omega)]),⟨fun _ j h1 h2=>by omega,fun _=>rfl⟩⟩
 ·intro k hk ih h1
  have wk':w ((k:Int)+1)=(k:Int)+1:=wrap64 (by omega) (by omega)
  have hl:=hm.op k
  have step:(∀ j:Nat,k≤j→j≤5→Z9 (mOp m j))↔(Z9 (mOp m k)∧∀ j:Nat,k+1≤j→j≤5→Z9 (mOp m j)):=by
   constructor
   ·exact fun h=>⟨h k (Nat.le_refl _) (by omega),fun j a b=>h j (by omega) b⟩
   ·rintro ⟨a,b⟩ j c d
    by_cases hj:j=k
    ·subst hj;exact a
    ·exact b j (by omega) d
  have kne:(k:Int)≠0:=by omega
  have pre:∀ r,(∃ v2_0,Zfz (mOp m k)=some (Bo v2_0,[])∧_)→Zjp m k=some r:=fun r h=>Z5q _ _ _ (by rw [if_pos (by omega)];exact ⟨mOp m k,Zmy m k,h⟩)
  rcases tf (Z8 (mOp m k)) with hv | hv
  ·refine ⟨[],[],k,pre _ ⟨false,by rw [Zmw _ hl,hv],by rw [if_neg (by simp)]⟩,?_⟩
   rw [step]
   exact ⟨fun h=>absurd h kne,fun h=>by have:=h.1.1;rw [hv] at this;cases this⟩
  ·obtain ⟨xs,ys,f,d1,d2⟩:=Zbjn (mOp m k) hl hv
   cases f with
   | true =>
    refine ⟨xs,ys,k,pre _ ⟨true,by rw [Zmw _ hl,hv],?_⟩,?_⟩
    ·rw [if_pos rfl];exact ⟨xs,ys,true,d1,by rw [if_pos rfl]⟩
    ·rw [step]
     exact ⟨fun h=>absurd h kne,fun h=>absurd (d2.1 rfl) h.1.2.1⟩
   | false =>
    obtain ⟨cs,c1,c2⟩:=Zbjo (mOp m k) hl hv
    by_cases hc:cs=[]
    ·obtain ⟨xs',ys',n,i1,i2⟩:=ih (by omega)
     simp only [Int.natCast_add,Int.cast_ofNat_Int] at i1
     refine ⟨xs',ys',n,pre _ ⟨true,by rw [Zmw _ hl,hv],?_⟩,?_⟩
     ·rw [if_pos rfl]
      refine ⟨xs,ys,false,d1,?_⟩
      rw [if_neg (by simp)]
      refine ⟨cs,c1,?_⟩
      rw [hc,if_neg (by simp),wk']
      exact i1
     ·rw [step,i2]
      refine ⟨fun h=>⟨⟨hv,fun hd=>(by have:=d2.2 hd;cases this),fun hch=>(c2.2 hch) hc⟩,h⟩,fun h=>h.2⟩
    ·refine ⟨cs,[],k,pre _ ⟨true,by rw [Zmw _ hl,hv],?_⟩,?_⟩
     ·rw [if_pos rfl]
      refine ⟨xs,ys,false,d1,?_⟩
      rw [if_neg (by simp)]
      refine ⟨cs,c1,?_⟩
      have:0<cs.length:=List.length_pos_iff.2 hc
      rw [if_pos (by omega)]
     ·rw [step]
      exact ⟨fun h=>absurd h kne,fun h=>absurd (c2.1 hc) h.1.2.2⟩
theorem adm_iff (m:Zd):(∀ j:Nat,1≤j→j≤5→Z9 (mOp m j))↔Zch m:=by
 constructor
 ·intro h
  exact ⟨h 1 (by omega) (by omega),h 2 (by omega) (by omega),h 3 (by omega) (by omega),h 4 (by omega) (by omega),h 5 (by omega) (by omega)⟩
 ·rintro ⟨h1,h2,h3,h4,h5⟩ j a b
  have:j=1∨j=2∨j=3∨j=4∨j=5:=by omega
  rcases this with rfl | rfl | rfl | rfl | rfl
  ·exact h1
  ·exact h2
  ·exact h3
  ·exact h4
  ·exact h5
open Classical in
theorem Z6g (m:Zd) (hm:LeM m):Zmb m=some (Bo (decide (Zch m)),[]):=by
 obtain ⟨xs,ys,n,h1,h2⟩:=Zbjp m hm 1 (by omega) (by omega)
 refine Zbim _ _ ⟨xs,ys,n,Zbil _ _ h1,?_⟩
 rw [adm_iff] at h2
 by_cases h:Zch m
 ·rw [decide_eq_true h,decide_eq_true (h2.2 h)]
 ·rw [decide_eq_false h,decide_eq_false (fun hc=>h (h2.1 hc))]
abbrev Z4 (X:Rs) (p:Prop):Prop:=(p∧X=some (.tup [I 0,.t .nil,.t .nil],[]))∨(¬ p∧∃ n:Int,n≠0∧((∃ xs ys:List Int,X=some (.tup [I n,L 1 (xs.map ic),.own 0],[.arr Zw 1 true (ys.map ic)]))∨X=some (.tup [I n,.t .nil,.t .nil],[])∨∃ xs:List Int,X=some (.tup [I n,L 1 (xs.map ic),.t .nil],[])))
theorem Z4.of {X Y:Rs} {p:Prop} (h:Z4 X p) (e:∀ r,X=some r→Y=some r):Z4 Y p:=by
 rcases h with ⟨h,h1⟩ | ⟨h,n,hn,⟨xs,ys,h1⟩ | h1 | ⟨xs,h1⟩⟩
 ·exact .inl ⟨h,e _ h1⟩
 ·exact .inr ⟨h,n,hn,.inl ⟨xs,ys,e _ h1⟩⟩
 ·exact .inr ⟨h,n,hn,.inr (.inl (e _ h1))⟩
 ·exact .inr ⟨h,n,hn,.inr (.inr ⟨xs,e _ h1⟩)⟩
theorem Z4.congr {X:Rs} {p q:Prop} (h:Z4 X p) (e:p↔q):Z4 X q:=by
 rw [← e];exact h
theorem Zmz {ts:List (List Int)} {j:Nat} (hj:j<ts.length) {P:List Int→Prop} {p:Prop}:((∀ t∈ts.drop j,P t)∧p)↔(P ts[j]∧(∀ t∈ts.drop (j+1),P t)∧p):=by
 rw [List.drop_eq_getElem_cons hj]
 simp only [List.mem_cons,forall_eq_or_imp,and_assoc]
theorem l_rf0 (m:Zd) (hl:Le m.Scan.Steps) (ts:List (List Int)) (hts:∀ t∈ts,inT t) (hn:ts.length≤1000) (kind:Int) (hk:kind≠0) (x1 x2:Int) (p:Prop) (hc:Z4 (Z6 m x1 (w (x2+1))) p):∀ j,j≤ts.length →
  Z4 (Zfq m ts kind x1 x2 ts.length j) ((∀ t∈ts.drop j,¬ tcl m.Scan t<1)∧p):=by
 refine down _ ?_ ?_
 ·refine (hc.of fun r hr=>Z3z _ _ _ _ _ _ _ _ (by rw [if_neg (by omega)];exact hr)).congr (by simp)
 ·intro j hj ih
  have h4:=inc64 (i:=j) (by omega)
  have ht:=hts _ (List.getElem_mem hj)
  simp only [Int.natCast_add,Int.cast_ofNat_Int] at ih
  have pre:∀ r,(if tcl m.Scan ts[j]<1 then some (.tup [I kind,L 1 (ts[j].map ic),.t .nil],[])=some r else Zfq m ts kind x1 x2 ts.length ((j:Int)+1)=some r)→Zfq m ts kind x1 x2 ts.length j=some r:=by
   intro r hr
   refine Z3z _ _ _ _ _ _ _ _ ?_
   rw [if_pos (by omega)]
   refine ⟨by omega,ts[j],by rw [Int.toNat_natCast];exact List.getElem?_eq_getElem hj,_,Zhs _ hl ht,?_⟩
   rw [show w ((j:Int)+1)=(j:Int)+1 from h4]
   exact hr
  refine Z4.congr ?_ (Zmz (P:=fun t=>¬ tcl m.Scan t<1) hj).symm
  by_cases h:tcl m.Scan ts[j]<1
  ·exact .inr ⟨fun hc=>hc.1 h,kind,hk,.inr (.inr ⟨_,pre _ (by rw [if_pos h])⟩)⟩
  ·exact (ih.of fun r hr=>pre r (by rw [if_neg h];exact hr)).congr ⟨fun hh=>⟨h,hh⟩,fun hh=>hh.2⟩
theorem l_rf1 (m:Zd) (hm:LeM m) (p:Prop) (hc:Z4 (Z6 m 5 1) p):Z4 (Z6 m 5 0) (Z9 m.Scan∧p):=by
 have hl:Le m.Scan.Steps:=by obtain ⟨h1,h2,h3,h4,h5⟩:=hm;assumption
 have w1:w (1+0)=1:=by decide
 have w2:w (0+1)=1:=by decide
 have pre:∀ r,(∃ v1_0,Zbi m.Scan=some (Bo v1_0,[])∧_)→Z6 m 5 0=some r:=fun r h=>Zj1 _ _ _ _ (by rw [if_pos (by omega),if_pos rfl];exact h)
 rcases tf (Z8 m.Scan) with hv | hv
 ·refine .inr ⟨fun h=>(by have:=h.1.1;rw [hv] at this;cases this),1,by decide,.inr (.inl (pre _ ⟨false,by rw [Zb8 _ hl,hv],?_⟩))⟩
  rw [if_neg (by simp),w1]
 rcases Zmx m.Scan hl hv with ⟨hd,xs,ys,d1⟩ | ⟨hd,d1⟩
 ·refine .inr ⟨fun h=>h.1.2.1 hd,1,by decide,.inl ⟨xs,ys,pre _ ⟨true,by rw [Zb8 _ hl,hv],?_⟩⟩⟩
  rw [if_pos rfl,w1]
  exact .inr ⟨ys,xs,d1,rfl⟩
 ·have b:=l_rf0 m hl allT (fun t h=>(Zdo t).1 h) (by rw [Zj8];omega) 1 (by decide) 5 0 p (by rw [w2];exact hc) 0 (Nat.zero_le _)
  refine (b.of fun r hr=>pre r ⟨true,by rw [Zb8 _ hl,hv],?_⟩).congr ?_
  ·rw [if_pos rfl,w1]
   exact .inl ⟨d1,allT,Zj7,hr⟩
  ·simp only [List.drop_zero,Zdo]
   constructor
   ·rintro ⟨h,hp⟩;exact ⟨⟨hv,hd,fun ⟨t,ht,hc⟩=>h t ht hc⟩,hp⟩
   ·rintro ⟨h,hp⟩;exact ⟨fun t ht hc=>h.2.2 ⟨t,ht,hc⟩,hp⟩
theorem l_rf0a (m:Zd) (hl:Le m.Sort_.Steps) (ts:List (List Int)) (hts:∀ t∈ts,inT t) (hn:ts.length≤1000) (kind:Int) (hk:kind≠0) (x1 x2:Int) (p:Prop) (hc:Z4 (Z6 m x1 (w (x2+1))) p):∀ j,j≤ts.length →
  Z4 (Zfr m ts kind x1 x2 ts.length j) ((∀ t∈ts.drop j,¬ tcl m.Sort_ t<1)∧p):=by
 refine down _ ?_ ?_
 ·refine (hc.of fun r hr=>Z30 _ _ _ _ _ _ _ _ (by rw [if_neg (by omega)];exact hr)).congr (by simp)
 ·intro j hj ih
  have h4:=inc64 (i:=j) (by omega)
  have ht:=hts _ (List.getElem_mem hj)
  simp only [Int.natCast_add,Int.cast_ofNat_Int] at ih
  have pre:∀ r,(if tcl m.Sort_ ts[j]<1 then some (.tup [I kind,L 1 (ts[j].map ic),.t .nil],[])=some r else Zfr m ts kind x1 x2 ts.length ((j:Int)+1)=some r)→Zfr m ts kind x1 x2 ts.length j=some r:=by
   intro r hr
   refine Z30 _ _ _ _ _ _ _ _ ?_
   rw [if_pos (by omega)]
   refine ⟨by omega,ts[j],by rw [Int.toNat_natCast];exact List.getElem?_eq_getElem hj,_,Zhs _ hl ht,?_⟩
   rw [show w ((j:Int)+1)=(j:Int)+1 from h4]
   exact hr
  refine Z4.congr ?_ (Zmz (P:=fun t=>¬ tcl m.Sort_ t<1) hj).symm
  by_cases h:tcl m.Sort_ ts[j]<1
  ·exact .inr ⟨fun hc=>hc.1 h,kind,hk,.inr (.inr ⟨_,pre _ (by rw [if_pos h])⟩)⟩
  ·exact (ih.of fun r hr=>pre r (by rw [if_neg h];exact hr)).congr ⟨fun hh=>⟨h,hh⟩,fun hh=>hh.2⟩
theorem l_rf1a (m:Zd) (hm:LeM m) (p:Prop) (hc:Z4 (Z6 m 5 2) p):Z4 (Z6 m 5 1) (Z9 m.Sort_∧p):=by
 have hl:Le m.Sort_.Steps:=by obtain ⟨h1,h2,h3,h4,h5⟩:=hm;assumption
 have w1:w (1+1)=2:=by decide
 have w2:w (1+1)=2:=by decide
 have pre:∀ r,(∃ v1_0,Zbi m.Sort_=some (Bo v1_0,[])∧_)→Z6 m 5 1=some r:=fun r h=>Zj1 _ _ _ _ (by rw [if_pos (by omega),if_neg (by omega),if_pos rfl];exact h)
 rcases tf (Z8 m.Sort_) with hv | hv
 ·refine .inr ⟨fun h=>(by have:=h.1.1;rw [hv] at this;cases this),2,by decide,.inr (.inl (pre _ ⟨false,by rw [Zb8 _ hl,hv],?_⟩))⟩
  rw [if_neg (by simp),w1]
 rcases Zmx m.Sort_ hl hv with ⟨hd,xs,ys,d1⟩ | ⟨hd,d1⟩
 ·refine .inr ⟨fun h=>h.1.2.1 hd,2,by decide,.inl ⟨xs,ys,pre _ ⟨true,by rw [Zb8 _ hl,hv],?_⟩⟩⟩
  rw [if_pos rfl,w1]
  exact .inr ⟨ys,xs,d1,rfl⟩
 ·have b:=l_rf0a m hl allT (fun t h=>(Zdo t).1 h) (by rw [Zj8];omega) 2 (by decide) 5 1 p (by rw [w2];exact hc) 0 (Nat.zero_le _)
  refine (b.of fun r hr=>pre r ⟨true,by rw [Zb8 _ hl,hv],?_⟩).congr ?_
  ·rw [if_pos rfl,w1]
   exact .inl ⟨d1,allT,Zj7,hr⟩
  ·simp only [List.drop_zero,Zdo]
   constructor
   ·rintro ⟨h,hp⟩;exact ⟨⟨hv,hd,fun ⟨t,ht,hc⟩=>h t ht hc⟩,hp⟩
   ·rintro ⟨h,hp⟩;exact ⟨fun t ht hc=>h.2.2 ⟨t,ht,hc⟩,hp⟩
theorem l_rf0b (m:Zd) (hl:Le m.Hash.Steps) (ts:List (List Int)) (hts:∀ t∈ts,inT t) (hn:ts.length≤1000) (kind:Int) (hk:kind≠0) (x1 x2:Int) (p:Prop) (hc:Z4 (Z6 m x1 (w (x2+1))) p):∀ j,j≤ts.length →
  Z4 (Zfs m ts kind x1 x2 ts.length j) ((∀ t∈ts.drop j,¬ tcl m.Hash t<1)∧p):=by
 refine down _ ?_ ?_
 ·refine (hc.of fun r hr=>Z31 _ _ _ _ _ _ _ _ (by rw [if_neg (by omega)];exact hr)).congr (by simp)
 ·intro j hj ih
  have h4:=inc64 (i:=j) (by omega)
  have ht:=hts _ (List.getElem_mem hj)
  simp only [Int.natCast_add,Int.cast_ofNat_Int] at ih
  have pre:∀ r,(if tcl m.Hash ts[j]<1 then some (.tup [I kind,L 1 (ts[j].map ic),.t .nil],[])=some r else Zfs m ts kind x1 x2 ts.length ((j:Int)+1)=some r)→Zfs m ts kind x1 x2 ts.length j=some r:=by
   intro r hr
   refine Z31 _ _ _ _ _ _ _ _ ?_
   rw [if_pos (by omega)]
   refine ⟨by omega,ts[j],by rw [Int.toNat_natCast];exact List.getElem?_eq_getElem hj,_,Zhs _ hl ht,?_⟩
   rw [show w ((j:Int)+1)=(j:Int)+1 from h4]
   exact hr
  refine Z4.congr ?_ (Zmz (P:=fun t=>¬ tcl m.Hash t<1) hj).symm
  by_cases h:tcl m.Hash ts[j]<1
  ·exact .inr ⟨fun hc=>hc.1 h,kind,hk,.inr (.inr ⟨_,pre _ (by rw [if_pos h])⟩)⟩
  ·exact (ih.of fun r hr=>pre r (by rw [if_neg h];exact hr)).congr ⟨fun hh=>⟨h,hh⟩,fun hh=>hh.2⟩
theorem l_rf1b (m:Zd) (hm:LeM m) (p:Prop) (hc:Z4 (Z6 m 5 3) p):Z4 (Z6 m 5 2) (Z9 m.Hash∧p):=by
 have hl:Le m.Hash.Steps:=by obtain ⟨h1,h2,h3,h4,h5⟩:=hm;assumption
 have w1:w (1+2)=3:=by decide
 have w2:w (2+1)=3:=by decide
 have pre:∀ r,(∃ v1_0,Zbi m.Hash=some (Bo v1_0,[])∧_)→Z6 m 5 2=some r:=fun r h=>Zj1 _ _ _ _ (by rw [if_pos (by omega),if_neg (by omega),if_neg (by omega),if_pos rfl];exact h)
 rcases tf (Z8 m.Hash) with hv | hv
 ·refine .inr ⟨fun h=>(by have:=h.1.1;rw [hv] at this;cases this),3,by decide,.inr (.inl (pre _ ⟨false,by rw [Zb8 _ hl,hv],?_⟩))⟩
  rw [if_neg (by simp),w1]
 rcases Zmx m.Hash hl hv with ⟨hd,xs,ys,d1⟩ | ⟨hd,d1⟩
 ·refine .inr ⟨fun h=>h.1.2.1 hd,3,by decide,.inl ⟨xs,ys,pre _ ⟨true,by rw [Zb8 _ hl,hv],?_⟩⟩⟩
  rw [if_pos rfl,w1]
  exact .inr ⟨ys,xs,d1,rfl⟩
 ·have b:=l_rf0b m hl allT (fun t h=>(Zdo t).1 h) (by rw [Zj8];omega) 3 (by decide) 5 2 p (by rw [w2];exact hc) 0 (Nat.zero_le _)
  refine (b.of fun r hr=>pre r ⟨true,by rw [Zb8 _ hl,hv],?_⟩).congr ?_
  ·rw [if_pos rfl,w1]
   exact .inl ⟨d1,allT,Zj7,hr⟩
  ·simp only [List.drop_zero,Zdo]
   constructor
   ·rintro ⟨h,hp⟩;exact ⟨⟨hv,hd,fun ⟨t,ht,hc⟩=>h t ht hc⟩,hp⟩
   ·rintro ⟨h,hp⟩;exact ⟨fun t ht hc=>h.2.2 ⟨t,ht,hc⟩,hp⟩
theorem l_rf0c (m:Zd) (hl:Le m.Merge.Steps) (ts:List (List Int)) (hts:∀ t∈ts,inT t) (hn:ts.length≤1000) (kind:Int) (hk:kind≠0) (x1 x2:Int) (p:Prop) (hc:Z4 (Z6 m x1 (w (x2+1))) p):∀ j,j≤ts.length →
  Z4 (Zft m ts kind x1 x2 ts.length j) ((∀ t∈ts.drop j,¬ tcl m.Merge t<1)∧p):=by
 refine down _ ?_ ?_
 ·refine (hc.of fun r hr=>Z32 _ _ _ _ _ _ _ _ (by rw [if_neg (by omega)];exact hr)).congr (by simp)
 ·intro j hj ih
  have h4:=inc64 (i:=j) (by omega)
  have ht:=hts _ (List.getElem_mem hj)
  simp only [Int.natCast_add,Int.cast_ofNat_Int] at ih
  have pre:∀ r,(if tcl m.Merge ts[j]<1 then some (.tup [I kind,L 1 (ts[j].map ic),.t .nil],[])=some r else Zft m ts kind x1 x2 ts.length ((j:Int)+1)=some r)→Zft m ts kind x1 x2 ts.length j=some r:=by
   intro r hr
   refine Z32 _ _ _ _ _ _ _ _ ?_
   rw [if_pos (by omega)]
   refine ⟨by omega,ts[j],by rw [Int.toNat_natCast];exact List.getElem?_eq_getElem hj,_,Zhs _ hl ht,?_⟩
   rw [show w ((j:Int)+1)=(j:Int)+1 from h4]
   exact hr
  refine Z4.congr ?_ (Zmz (P:=fun t=>¬ tcl m.Merge t<1) hj).symm
  by_cases h:tcl m.Merge ts[j]<1
  ·exact .inr ⟨fun hc=>hc.1 h,kind,hk,.inr (.inr ⟨_,pre _ (by rw [if_pos h])⟩)⟩
  ·exact (ih.of fun r hr=>pre r (by rw [if_neg h];exact hr)).congr ⟨fun hh=>⟨h,hh⟩,fun hh=>hh.2⟩
theorem l_rf1c (m:Zd) (hm:LeM m) (p:Prop) (hc:Z4 (Z6 m 5 4) p):Z4 (Z6 m 5 3) (Z9 m.Merge∧p):=by
 have hl:Le m.Merge.Steps:=by obtain ⟨h1,h2,h3,h4,h5⟩:=hm;assumption
 have w1:w (1+3)=4:=by decide
 have w2:w (3+1)=4:=by decide
 have pre:∀ r,(∃ v1_0,Zbi m.Merge=some (Bo v1_0,[])∧_)→Z6 m 5 3=some r:=fun r h=>Zj1 _ _ _ _ (by rw [if_pos (by omega),if_neg (by omega),if_neg (by omega),if_neg (by omega),if_pos rfl];exact h)
 rcases tf (Z8 m.Merge) with hv | hv
 ·refine .inr ⟨fun h=>(by have:=h.1.1;rw [hv] at this;cases this),4,by decide,.inr (.inl (pre _ ⟨false,by rw [Zb8 _ hl,hv],?_⟩))⟩
  rw [if_neg (by simp),w1]
 rcases Zmx m.Merge hl hv with ⟨hd,xs,ys,d1⟩ | ⟨hd,d1⟩
 ·refine .inr ⟨fun h=>h.1.2.1 hd,4,by decide,.inl ⟨xs,ys,pre _ ⟨true,by rw [Zb8 _ hl,hv],?_⟩⟩⟩
  rw [if_pos rfl,w1]
  exact .inr ⟨ys,xs,d1,rfl⟩
 ·have b:=l_rf0c m hl allT (fun t h=>(Zdo t).1 h) (by rw [Zj8];omega) 4 (by decide) 5 3 p (by rw [w2];exact hc) 0 (Nat.zero_le _)
  refine (b.of fun r hr=>pre r ⟨true,by rw [Zb8 _ hl,hv],?_⟩).congr ?_
  ·rw [if_pos rfl,w1]
   exact .inl ⟨d1,allT,Zj7,hr⟩
  ·simp only [List.drop_zero,Zdo]
   constructor
   ·rintro ⟨h,hp⟩;exact ⟨⟨hv,hd,fun ⟨t,ht,hc⟩=>h t ht hc⟩,hp⟩
   ·rintro ⟨h,hp⟩;exact ⟨fun t ht hc=>h.2.2 ⟨t,ht,hc⟩,hp⟩
theorem l_rf0d (m:Zd) (hl:Le m.Nested.Steps) (ts:List (List Int)) (hts:∀ t∈ts,inT t) (hn:ts.length≤1000) (kind:Int) (hk:kind≠0) (x1 x2:Int) (p:Prop) (hc:Z4 (Z6 m x1 (w (x2+1))) p):∀ j,j≤ts.length →
  Z4 (Zfu m ts kind x1 x2 ts.length j) ((∀ t∈ts.drop j,¬ tcl m.Nested t<1)∧p):=by
 refine down _ ?_ ?_
 ·refine (hc.of fun r hr=>Z33 _ _ _ _ _ _ _ _ (by rw [if_neg (by omega)];exact hr)).congr (by simp)
 ·intro j hj ih
  have h4:=inc64 (i:=j) (by omega)
  have ht:=hts _ (List.getElem_mem hj)
  simp only [Int.natCast_add,Int.cast_ofNat_Int] at ih
  have pre:∀ r,(if tcl m.Nested ts[j]<1 then some (.tup [I kind,L 1 (ts[j].map ic),.t .nil],[])=some r else Zfu m ts kind x1 x2 ts.length ((j:Int)+1)=some r)→Zfu m ts kind x1 x2 ts.length j=some r:=by
   intro r hr
   refine Z33 _ _ _ _ _ _ _ _ ?_
   rw [if_pos (by omega)]
   refine ⟨by omega,ts[j],by rw [Int.toNat_natCast];exact List.getElem?_eq_getElem hj,_,Zhs _ hl ht,?_⟩
   rw [show w ((j:Int)+1)=(j:Int)+1 from h4]
   exact hr
  refine Z4.congr ?_ (Zmz (P:=fun t=>¬ tcl m.Nested t<1) hj).symm
  by_cases h:tcl m.Nested ts[j]<1
  ·exact .inr ⟨fun hc=>hc.1 h,kind,hk,.inr (.inr ⟨_,pre _ (by rw [if_pos h])⟩)⟩
  ·exact (ih.of fun r hr=>pre r (by rw [if_neg h];exact hr)).congr ⟨fun hh=>⟨h,hh⟩,fun hh=>hh.2⟩
theorem l_rf1d (m:Zd) (hm:LeM m) (p:Prop) (hc:Z4 (Z6 m 5 5) p):Z4 (Z6 m 5 4) (Z9 m.Nested∧p):=by
 have hl:Le m.Nested.Steps:=by obtain ⟨h1,h2,h3,h4,h5⟩:=hm;assumption
 have w1:w (1+4)=5:=by decide
 have w2:w (4+1)=5:=by decide
 have pre:∀ r,(∃ v1_0,Zbi m.Nested=some (Bo v1_0,[])∧_)→Z6 m 5 4=some r:=fun r h=>Zj1 _ _ _ _ (by rw [if_pos (by omega),if_neg (by omega),if_neg (by omega),if_neg (by omega),if_neg (by omega),if_pos rfl];exact h)
 rcases tf (Z8 m.Nested) with hv | hv
 ·refine .inr ⟨fun h=>(by have:=h.1.1;rw [hv] at this;cases this),5,by decide,.inr (.inl (pre _ ⟨false,by rw [Zb8 _ hl,hv],?_⟩))⟩
  rw [if_neg (by simp),w1]
 rcases Zmx m.Nested hl hv with ⟨hd,xs,ys,d1⟩ | ⟨hd,d1⟩
 ·refine .inr ⟨fun h=>h.1.2.1 hd,5,by decide,.inl ⟨xs,ys,pre _ ⟨true,by rw [Zb8 _ hl,hv],?_⟩⟩⟩
  rw [if_pos rfl,w1]
  exact .inr ⟨ys,xs,d1,rfl⟩
 ·have b:=l_rf0d m hl allT (fun t h=>(Zdo t).1 h) (by rw [Zj8];omega) 5 (by decide) 5 4 p (by rw [w2];exact hc) 0 (Nat.zero_le _)
  refine (b.of fun r hr=>pre r ⟨true,by rw [Zb8 _ hl,hv],?_⟩).congr ?_
  ·rw [if_pos rfl,w1]
   exact .inl ⟨d1,allT,Zj7,hr⟩
  ·simp only [List.drop_zero,Zdo]
   constructor
   ·rintro ⟨h,hp⟩;exact ⟨⟨hv,hd,fun ⟨t,ht,hc⟩=>h t ht hc⟩,hp⟩
   ·rintro ⟨h,hp⟩;exact ⟨fun t ht hc=>h.2.2 ⟨t,ht,hc⟩,hp⟩
open Classical in
theorem Z6h (m:Zd) (hm:LeM m):Zih m=some (Bo (decide (Zch m)),[]):=by
 have h5:Z4 (Z6 m 5 5) True:=.inl ⟨trivial,Zj1 _ _ _ _ (by rw [if_neg (by omega)])⟩
 have h0:=l_rf1 m hm _ (l_rf1a m hm _ (l_rf1b m hm _ (l_rf1c m hm _ (l_rf1d m hm _ h5))))
 have hop:Zec m=some (.bsl 1 5,[.box (m.c.map .t),.box [.ptr 0 0,.ptr 0 6,.ptr 0 12,.ptr 0 18,.ptr 0 24]]):=Z3s _ _ rfl
 have hR:Z4 (Zig m) (Zch m):=(h0.of fun r hr=>Zbgl _ _ ⟨hop,hr⟩).congr (by simp [Zch])
 refine Zbgm _ _ ?_
 rcases hR with ⟨h,h1⟩ | ⟨h,n,hn,⟨xs,ys,h1⟩ | h1 | ⟨xs,h1⟩⟩
 ·rw [decide_eq_true h];exact .inr (.inl ⟨0,h1,rfl⟩)
 ·rw [decide_eq_false h];exact .inl ⟨ys,n,xs,h1,by rw [decide_eq_false hn]⟩
 ·rw [decide_eq_false h];exact .inr (.inl ⟨n,h1,by rw [decide_eq_false hn]⟩)
 ·rw [decide_eq_false h];exact .inr (.inr ⟨n,xs,h1,by rw [decide_eq_false hn]⟩)
theorem wS {i n:Nat} (h:i<n) (hn:n≤1099511627776):w ((i:Int)+1)=((i+1:Nat):Int):=by
 rw [show w ((i:Int)+1)=(i:Int)+1 from wrap64 (by omega) (by omega)];simp
theorem gE {α:Type} {xs:List α} {i:Nat} (h:i<xs.length):xs[(i:Int).toNat]?=some xs[i]:=by rw [Int.toNat_natCast];exact List.getElem?_eq_getElem h
abbrev dig (v:Int):Bool:=inR v 0 9
def rwB (n:Int) (r:List Int):Bool:=r.all dig && decide ((r.length:Int)=n)
theorem Zbjq (r:List Int) (n:Int) (hl:Le r):∀ i,i≤r.length→Zkr r n r r.length i=some (Bo ((r.drop i).all dig && decide ((r.length:Int)=n)),[]):=by
 refine down _ ?_ ?_
 ·refine Z3f _ _ _ _ _ _ ?_
  rw [if_neg (by omega)];simp
 ·intro i hi ih
  refine Z3f _ _ _ _ _ _ ?_
  rw [if_pos (by omega),List.drop_eq_getElem_cons hi,List.all_cons,wS hi hl]
  refine ⟨by omega,_,gE hi,_,Zcg _ _ _,?_⟩
  rcases tf (inR r[i] 0 9) with e | e
  ·rw [e];simp [dig,e]
  ·rw [e,if_pos rfl,ih];simp [dig,e]
@[simp] theorem Zbjr (r:List Int) (n:Int) (hl:Le r):Zn9 r n=some (Bo (rwB n r),[]):=Zbfv _ _ _ (by simpa [rwB] using Zbjq r n hl 0 (Nat.zero_le _))
theorem Zbjs (r:List Int) (n:Int) (hl:Le r):∀ i,i≤r.length→Zlr r n i=some (Bo ((r.drop i).all dig && decide ((r.length:Int)=n)),[]):=by
 refine down _ ?_ ?_
 ·refine Z4x _ _ _ _ ?_
  rw [if_neg (by omega)];simp
 ·intro i hi ih
  refine Z4x _ _ _ _ ?_
  rw [if_pos (by omega),List.drop_eq_getElem_cons hi,List.all_cons,wS hi hl]
  refine ⟨by omega,_,gE hi,_,Ze8 _ _ _,?_⟩
  rcases tf (inR r[i] 0 9) with e | e
  ·rw [e];simp [dig,e]
  ·rw [e,if_pos rfl,ih];simp [dig,e]
@[simp] theorem Zbjt (r:List Int) (n:Int) (hl:Le r):Zo2 r n=some (Bo (rwB n r),[]):=Zbhr _ _ _ (by simpa [rwB] using Zbjs r n hl 0 (Nat.zero_le _))
theorem x_cmp (a b:Int):Zob a b=some (I (if a<b then -1 else if b<a then 1 else 0),[]):=by
 refine Zbfw _ _ _ ⟨_,Z3g _ _ rfl,_,Z3g _ _ rfl,?_⟩
 rw [if_neg (by simp),if_neg (by simp)]
 by_cases h1:a<b
 ·rw [if_pos h1,if_pos h1]
 ·rw [if_neg h1,if_neg h1]
  by_cases h2:b<a
  ·rw [if_pos h2,if_pos h2]
  ·rw [if_neg h2,if_neg h2]
theorem Zbju (a b:List Int) (ha:Le a) (hb:Le b):∀ i,i≤a.length→i≤b.length→Zks a b a a.length i=some (I (cmpR (a.drop i) (b.drop i)),[]):=by
 refine down _ ?_ ?_
 ·intro h
  refine Z3h _ _ _ _ _ _ ?_
  rw [if_neg (by omega),List.drop_length]
  by_cases h2:(a.length:Int)<(b.length:Int)
  ·rw [if_pos h2,List.drop_eq_getElem_cons (l:=b) (i:=a.length) (by omega)];rfl
  ·rw [if_neg h2,show a.length=b.length by omega,List.drop_length];rfl
 ·intro i hi ih h
  refine Z3h _ _ _ _ _ _ ?_
  rw [if_pos (by omega),List.drop_eq_getElem_cons hi,wS hi ha]
  refine ⟨by omega,_,gE hi,?_⟩
  by_cases h2:(b.length:Int)≤(i:Int)
  ·rw [if_pos h2,show b.drop i=[] from List.drop_of_length_le (by omega)];rfl
  ·have hj:i<b.length:=by omega
   rw [if_neg h2,List.drop_eq_getElem_cons hj]
   refine ⟨_,gE hj,_,x_cmp _ _,?_⟩
   unfold cmpR
   by_cases e1:a[i]<b[i]
   ·rw [if_pos e1,if_pos e1];rfl
   ·rw [if_neg e1,if_neg e1]
    by_cases e2:b[i]<a[i]
    ·rw [if_pos e2,if_pos e2];rfl
    ·rw [if_neg e2,if_neg e2,if_pos rfl];exact ih (by omega)
@[simp] theorem Zbjv (a b:List Int) (ha:Le a) (hb:Le b):Zoc a b=some (I (cmpR a b),[]) :=
 Zbfy _ _ _ ⟨_,Zbfx _ _ _ (by simpa using Zbju a b ha hb 0 (Nat.zero_le _) (Nat.zero_le _)),rfl⟩
theorem Z6i (a b:List Int) (i:Nat) (ha:i≤a.length) (hb:i≤b.length) (h:i=a.length∨i=b.length):Zlt a b i false=some (I (cmpR (a.drop i) (b.drop i)),[]):=by
 refine Zbhs _ _ _ _ _ ?_
 by_cases h1:(a.length:Int)<(b.length:Int)
 ·rw [if_pos h1,show a.drop i=[] from List.drop_of_length_le (by omega),List.drop_eq_getElem_cons (l:=b) (i:=i) (by omega)];rfl
 ·rw [if_neg h1]
  by_cases h2:(b.length:Int)<(a.length:Int)
  ·rw [if_pos h2,show b.drop i=[] from List.drop_of_length_le (by omega),List.drop_eq_getElem_cons (l:=a) (i:=i) (by omega)];rfl
  ·rw [if_neg h2,show a.drop i=[] from List.drop_of_length_le (by omega),show b.drop i=[] from List.drop_of_length_le (by omega)];rfl
theorem Zbjw (a b:List Int) (ha:Le a) (hb:Le b):∀ i,i≤a.length→i≤b.length→Zls a b i=some (I (cmpR (a.drop i) (b.drop i)),[]):=by
 refine down _ ?_ ?_
 ·intro h
  refine Z4y _ _ _ _ ?_
  rw [if_neg (by omega)]
  exact Z6i a b _ (Nat.le_refl _) h (.inl rfl)
 ·intro i hi ih h
  refine Z4y _ _ _ _ ?_
  rw [if_pos (by omega)]
  by_cases h2:(i:Int)<(b.length:Int)
  ·have hj:i<b.length:=by omega
   rw [if_pos h2]
   refine ⟨by omega,_,gE hi,_,gE hj,?_⟩
   rw [wS hi ha,List.drop_eq_getElem_cons hi,List.drop_eq_getElem_cons hj]
   unfold cmpR
   by_cases e1:a[i]<b[i]
   ·rw [if_pos e1,if_pos e1]
   ·rw [if_neg e1,if_neg e1]
    by_cases e2:b[i]<a[i]
    ·rw [if_pos e2,if_pos e2]
    ·rw [if_neg e2,if_neg e2];exact ih (by omega)
  ·rw [if_neg h2]
   exact Z6i a b _ (by omega) h (.inr (by omega))
@[simp] theorem Zbjx (a b:List Int) (ha:Le a) (hb:Le b):Zo4 a b=some (I (cmpR a b),[]) :=
 Zbht _ _ _ (by simpa using Zbjw a b ha hb 0 (Nat.zero_le _) (Nat.zero_le _))
def pvA {α:Type} (xs:List α):Nat→Option α
 | 0=>none
 | k+1=>xs[k]?
def nxt {α:Type} (lt:α→α→Bool) (p:Option α) (x:α):Bool:=match p with
 | none=>true
 | some q=>lt q x
def adjL {α:Type} (lt:α→α→Bool):Option α→List α→Bool
 | _,[]=>true
 | p,x::xs=>nxt lt p x && adjL lt (some x) xs
theorem Zp6 {α:Type} (lt:α→α→Bool) {xs:List α} {i:Nat} (hi:i<xs.length):adjL lt (pvA xs i) (xs.drop i)=(nxt lt (pvA xs i) xs[i] && adjL lt (pvA xs (i+1)) (xs.drop (i+1))):=by
 rw [List.drop_eq_getElem_cons hi,adjL,show pvA xs (i+1)=some xs[i] from List.getElem?_eq_getElem hi]
def ltR (a b:List Int):Bool:=decide (cmpR a b<0)
abbrev LeT (t:Zg):Prop:=Le t.Rows∧∀ r∈t.Rows,Le r
theorem wP {i n:Nat} (h0:0<i) (h:i<n) (hn:n≤1099511627776):w ((i:Int) - 1)=((i - 1:Nat):Int):=by
 rw [show w ((i:Int) - 1)=(i:Int) - 1 from wrap64 (by omega) (by omega)];omega
theorem Zp7 {α:Type} {xs:List α} {i:Nat} (h0:0<i) (h:i - 1<xs.length):pvA xs i=some xs[i - 1]:=by
 obtain ⟨k,rfl⟩:∃ k,i=k+1:=⟨i - 1,by omega⟩
 exact List.getElem?_eq_getElem h
theorem Zbjy (rows:List (List Int)) (hl:Le rows) (hr:∀ r∈rows,Le r):∀ i,i≤rows.length→0<i→Zkt rows i=some (Bo (adjL ltR (pvA rows i) (rows.drop i)),[]):=by
 refine down _ ?_ ?_
 ·intro h0
  refine Zv7 _ _ _ ?_
  rw [if_neg (by omega)];simp [adjL]
 ·intro i hi ih h0
  have hp:i - 1<rows.length:=by omega
  have ih':=ih (by omega)
  refine Zv7 _ _ _ ?_
  rw [if_pos (by omega),wP h0 hi hl,wS hi hl,Zp6 _ hi,Zp7 h0 hp]
  refine ⟨by omega,_,gE hp,by omega,_,gE hi,_,Zbjv _ _ (hr _ (List.getElem_mem hp)) (hr _ (List.getElem_mem hi)),?_⟩
  unfold nxt ltR at *
  by_cases e:0≤cmpR rows[i - 1] rows[i]
  ·rw [if_pos e];simp [show ¬ cmpR rows[i - 1] rows[i]<0 by omega]
  ·rw [if_neg e,ih'];simp [show cmpR rows[i - 1] rows[i]<0 by omega]
theorem Zbjz (rows:List (List Int)) (hl:Le rows) (hr:∀ r∈rows,Le r):Zod rows=some (Bo (adjL ltR none rows),[]):=by
 refine Zbfz _ _ ?_
 cases rows with
 | nil=>refine Zv7 _ _ _ ?_;rw [if_neg (by simp)];rfl
 | cons r rs=>exact Zbjy (r::rs) hl hr 1 (by simp) (by omega)
def Zb3 (t:Zg):Bool:=nmOk t.Name && inR t.Arity 1 3 && decide ((t.Rows.length:Int)≤8) && (t.Rows.all (rwB t.Arity) && adjL ltR none t.Rows)
theorem Zbj0 (t:Zg) (h:LeT t):∀ i,i≤t.Rows.length→Zkv t t.Rows t.Rows.length i=some (Bo ((t.Rows.drop i).all (rwB t.Arity) && (nmOk t.Name && inR t.Arity 1 3 && decide ((t.Rows.length:Int)≤8) && adjL ltR none t.Rows)),[]):=by
 refine down _ ?_ ?_
 ·refine Z3i _ _ _ _ _ ?_
  rw [if_neg (by omega)]
  refine ⟨_,x_nameOk _,?_⟩
  rcases tf (nmOk t.Name) with e1 | e1
  ·rw [e1];simp
  rw [e1,if_pos rfl]
  refine ⟨_,Zcg _ _ _,?_⟩
  rcases tf (inR t.Arity 1 3) with e2 | e2
  ·rw [e2];simp
  rw [e2,if_pos rfl]
  by_cases e3:(t.Rows.length:Int)≤8
  ·rw [if_pos e3];exact ⟨_,Zbjz t.Rows h.1 h.2,by simp [e3]⟩
  ·rw [if_neg e3];simp [e3]
 ·intro i hi ih
  refine Z3i _ _ _ _ _ ?_
  rw [if_pos (by omega),List.drop_eq_getElem_cons hi,List.all_cons,wS hi h.1]
  refine ⟨by omega,_,gE hi,_,Zbjr _ _ (h.2 _ (List.getElem_mem hi)),?_⟩
  rcases tf (rwB t.Arity t.Rows[i]) with e | e
  ·rw [e];simp
  ·rw [e,if_pos rfl,ih];simp
@[simp] theorem Zbj1 (t:Zg) (h:LeT t):Zku t=some (Bo (Zb3 t),[]):=by
 refine Zbf0 _ _ ?_
 rw [show (0:Int)=((0:Nat):Int) from rfl,Zbj0 t h 0 (Nat.zero_le _)]
 unfold Zb3
 simp only [List.drop_zero]
 congr 3
 rw [Bool.eq_iff_iff]
 simp only [Bool.and_eq_true]
 grind
theorem Zbj2 (t:Zg) (h:LeT t):∀ i,i≤t.Rows.length→Zi7 t i=some (Bo ((t.Rows.drop i).all (rwB t.Arity) && adjL ltR (pvA t.Rows i) (t.Rows.drop i)),[]):=by
 refine down _ ?_ ?_
 ·refine Z4z _ _ _ ?_
  rw [if_neg (by omega)];simp [adjL]
 ·intro i hi ih
  have hr:=h.2 _ (List.getElem_mem hi)
  refine Z4z _ _ _ ?_
  rw [Zp6 _ hi,if_pos (by omega),List.drop_eq_getElem_cons hi,List.all_cons,wS hi h.1]
  refine ⟨by omega,_,gE hi,_,Zbjt _ _ hr,?_⟩
  rcases tf (rwB t.Arity t.Rows[i]) with e | e
  ·rw [e];simp
  rw [e,if_pos rfl]
  by_cases h0:0<i
  ·have hp:i - 1<t.Rows.length:=by omega
   rw [if_pos (by omega),wP h0 hi h.1,Zp7 h0 hp]
   refine ⟨by omega,_,gE hp,_,Zbjx _ _ (h.2 _ (List.getElem_mem hp)) hr,?_⟩
   unfold nxt ltR at *
   by_cases e:0≤cmpR t.Rows[i - 1] t.Rows[i]
   ·rw [if_pos e];simp [show ¬ cmpR t.Rows[i - 1] t.Rows[i]<0 by omega]
   ·rw [if_neg e,ih];simp [show cmpR t.Rows[i - 1] t.Rows[i]<0 by omega]
  ·have:i=0:=by omega
   subst this
   rw [if_neg (by omega),ih];simp [pvA,nxt]
@[simp] theorem Zbj3 (t:Zg) (h:LeT t):Zo5 t=some (Bo (Zb3 t),[]):=by
 refine Zbhu _ _ ⟨_,x_l4Name _,?_⟩
 unfold Zb3
 rcases tf (nmOk t.Name) with e1 | e1
 ·rw [e1];simp
 rw [e1,if_pos rfl]
 refine ⟨_,Ze8 _ _ _,?_⟩
 rcases tf (inR t.Arity 1 3) with e2 | e2
 ·rw [e2];simp
 rw [e2,if_pos rfl]
 by_cases e3:8<(t.Rows.length:Int)
 ·rw [if_pos e3];simp [show ¬ (t.Rows.length:Int)≤8 by omega]
 ·rw [if_neg e3]
  have:=Zbj2 t h 0 (Nat.zero_le _)
  refine Eq.trans this ?_
  simp [show (t.Rows.length:Int)≤8 by omega,pvA]
def ltN (a b:Zg):Bool:=Op.bytesLess a.Name.toList b.Name.toList
abbrev LeD (d:Zi):Prop:=Le d.Tables∧∀ t∈d.Tables,LeT t
def Zd2 (d:Zi):Bool:=d.Tables.all Zb3 && adjL ltN none d.Tables && decide ((d.Tables.length:Int)≤6)
theorem Zbj4 (d:Zi) (h:LeD d):∀ i,i≤d.Tables.length→Zh7 d d.Tables d.Tables.length i=some (Bo ((d.Tables.drop i).all Zb3 && adjL ltN (pvA d.Tables i) (d.Tables.drop i) && decide ((d.Tables.length:Int)≤6)),[]):=by
 refine down _ ?_ ?_
 ·refine Z3j _ _ _ _ _ ?_
  rw [if_neg (by omega)];simp [adjL]
 ·intro i hi ih
  refine Z3j _ _ _ _ _ ?_
  rw [Zp6 _ hi,if_pos (by omega),List.drop_eq_getElem_cons hi,List.all_cons,wS hi h.1]
  refine ⟨by omega,_,gE hi,_,Zbj1 _ (h.2 _ (List.getElem_mem hi)),?_⟩
  rcases tf (Zb3 d.Tables[i]) with e | e
  ·rw [e];simp
  rw [e,if_pos rfl]
  by_cases h0:0<i
  ·have hp:i - 1<d.Tables.length:=by omega
   rw [if_pos (by omega),wP h0 hi h.1,Zp7 h0 hp]
   refine ⟨by omega,_,gE hp,?_⟩
   unfold nxt ltN at *
   rcases tf (Op.bytesLess d.Tables[i - 1].Name.toList d.Tables[i].Name.toList) with e | e
   ·rw [e];simp [e]
   ·rw [e,if_pos rfl,ih];simp [e]
  ·have:i=0:=by omega
   subst this
   rw [if_neg (by omega),ih];simp [pvA,nxt]
@[simp] theorem Zbj5 (d:Zi) (h:LeD d):Zoe d=some (Bo (Zd2 d),[]):=by
 refine Zbf1 _ _ ?_
 have:=Zbj4 d h 0 (Nat.zero_le _)
 refine Eq.trans this ?_
 unfold Zd2
 simp [pvA]
theorem Zbj6 (d:Zi) (h:LeD d):∀ i,i≤d.Tables.length→Zi8 d i=some (Bo ((d.Tables.drop i).all Zb3 && adjL ltN (pvA d.Tables i) (d.Tables.drop i) && decide ((d.Tables.length:Int)≤6)),[]):=by
 refine down _ ?_ ?_
 ·refine Z40 _ _ _ ?_
  rw [if_neg (by omega)];simp [adjL]
 ·intro i hi ih
  refine Z40 _ _ _ ?_
  rw [Zp6 _ hi,if_pos (by omega),List.drop_eq_getElem_cons hi,List.all_cons,wS hi h.1]
  refine ⟨by omega,_,gE hi,_,Zbj3 _ (h.2 _ (List.getElem_mem hi)),?_⟩
  rcases tf (Zb3 d.Tables[i]) with e | e
  ·rw [e];simp
  rw [e,if_pos rfl]
  by_cases h0:0<i
  ·have hp:i - 1<d.Tables.length:=by omega
   rw [if_pos (by omega),wP h0 hi h.1,Zp7 h0 hp]
   refine ⟨by omega,_,gE hp,?_⟩
   unfold nxt ltN at *
   rcases tf (Op.bytesLess d.Tables[i - 1].Name.toList d.Tables[i].Name.toList) with e | e
   ·rw [e];simp [e]
   ·rw [e,if_pos rfl,ih];simp [e]
  ·have:i=0:=by omega
   subst this
   rw [if_neg (by omega),ih];simp [pvA,nxt]
@[simp] theorem Zbj7 (d:Zi) (h:LeD d):Zlu d=some (Bo (Zd2 d),[]):=by
 refine Zbhv _ _ ?_
 have:=Zbj6 d h 0 (Nat.zero_le _)
 refine Eq.trans this ?_
 unfold Zd2
 simp [pvA]
def Zbt (d:Zi) (n:ByteArray):Option Zg:=if Zd2 d=true then d.Tables.find? (fun t=>decide (t.Name=n)) else none
theorem Zbj8 (xs:List (List Int)) (hx:Le xs) (hr:∀ r∈xs,r.length≤4) (hl:xs.length≤1000000):∀ i,i≤xs.length→Zky (xs.take i) xs xs.length i=some (.own 0,[.arr 30 1 true (xs.map isc)]):=by
 refine down _ ?_ ?_
 ·refine Z3k _ _ _ _ _ ?_
  rw [if_neg (by omega),List.take_length]
 ·intro i hi ih
  refine Z3k _ _ _ _ _ ?_
  rw [if_pos (by omega),wS hi hx]
  have:=hr _ (List.getElem_mem hi)
  refine ⟨by omega,_,gE hi,_,Zwp _ (by omega),by rw [List.length_take];omega,?_⟩
  rw [List.take_succ_eq_append_getElem hi] at ih
  exact ih
theorem Z6j (xs:List (List Int)) (hr:∀ r∈xs,r.length≤4) (hl:xs.length≤1000000):Zh8 xs=some (.own 0,[.arr 30 1 true (xs.map isc)]) :=
 Zbf3 _ _ (by simpa using Zbj8 xs (by omega) hr hl 0 (Nat.zero_le _))
theorem Z6k {α:Type} (p:α→Bool):∀ (xs:List α) (i:Nat),match xs.find? p with
  | none=>Zbo p xs i=-1
  | some x=>∃ j,Zbo p xs i=((i+j:Nat):Int)∧xs[j]?=some x
 | [],i=>by simp [Zbo]
 | x::xs,i=>by
  unfold Zbo
  rw [List.find?_cons]
  rcases tf (p x) with e | e
  ·rw [e,if_neg (by simp)]
   have:=Z6k p xs (i+1)
   revert this
   simp only
   cases xs.find? p with
   | none=>exact id
   | some y=>rintro ⟨j,h1,h2⟩;exact ⟨j+1,by rw [h1];congr 1;omega,by simpa using h2⟩
  ·rw [e,if_pos rfl];exact ⟨0,rfl,rfl⟩
theorem l_idxT (s:List Zg) (n:ByteArray) (hs:Le s):∀ i,i≤s.length→Zh6 s n s.length i=some (I (Zbo (fun t=>decide (t.Name=n)) (s.drop i) i),[]):=by
 refine down _ ?_ ?_
 ·refine Z3e _ _ _ _ _ ?_
  rw [if_neg (by omega)];simp [Zbo]
 ·intro i hi ih
  refine Z3e _ _ _ _ _ ?_
  rw [if_pos (by omega),Zrf _ hi,wS hi hs]
  refine ⟨by omega,_,gE hi,_,Zbft _ _ _ rfl,?_⟩
  split
  ·rfl
  ·exact ih
def lookR (o:Option Zg):AV×List Blk:=match o with
 | none=>(.tup [.agg [.t (.str ⟨#[]⟩),I 0,.t .nil],Bo false],[])
 | some t=>(.tup [.agg [.t (.str t.Name),I t.Arity,.own 0],Bo true],[.arr 30 1 true (t.Rows.map isc)])
theorem Zf9 {d:Zi} (hv:Zd2 d=true) {t:Zg} (ht:t∈d.Tables):Zb3 t=true:=by
 unfold Zd2 at hv
 simp only [Bool.and_eq_true] at hv
 exact List.all_eq_true.1 hv.1.1 t ht
theorem Zm0 {t:Zg} (h:Zb3 t=true):t.Rows.length≤8:=by
 unfold Zb3 at h
 simp only [Bool.and_eq_true,decide_eq_true_eq] at h
 omega
theorem Z6l {t:Zg} (h:Zb3 t=true):∀ r∈t.Rows,r.length≤3:=by
 intro r hr
 unfold Zb3 at h
 simp only [Bool.and_eq_true] at h
 have h1:=List.all_eq_true.1 h.2.1 r hr
 have h2:=h.1.1.2
 unfold rwB at h1
 simp only [inR,Bool.and_eq_true,decide_eq_true_eq] at h1 h2
 omega
theorem Zp8 {d:Zi} {n:ByteArray} {t:Zg} (h:Zbt d n=some t):Zd2 d=true∧t∈d.Tables∧t.Name=n:=by
 unfold Zbt at h
 split at h
 ·rename_i hv
  exact ⟨hv,List.mem_of_find?_eq_some h,by simpa using List.find?_some h⟩
 ·cases h
theorem Z6m (d:Zi) (h:LeD d) (n:ByteArray):Zfk d n=some (lookR (Zbt d n)):=by
 have hi:=Zbfu _ _ _ (by simpa using l_idxT d.Tables n h.1 0 (Nat.zero_le _))
 have hf:=Z6k (fun t:Zg=>decide (t.Name=n)) d.Tables 0
 refine Zbf5 _ _ _ ⟨_,hi,?_⟩
 unfold Zbt
 cases hq:d.Tables.find? (fun t=>decide (t.Name=n)) with
 | none =>
  rw [hq] at hf
  simp only at hf
  rw [hf,if_pos (by omega)]
  split <;> rfl
 | some t =>
  rw [hq] at hf
  obtain ⟨j,h1,h2⟩:=hf
  rw [Nat.zero_add] at h1
  rw [h1,if_neg (by omega)]
  refine ⟨_,Zbj5 d h,?_⟩
  rcases tf (Zd2 d) with e | e
  ·rw [e];rfl
  ·rw [e,if_pos rfl,if_pos rfl]
   have hm:=List.mem_of_getElem? h2
   have hT:=h.2 t hm
   have h8:=Zm0 (Zf9 e hm)
   refine ⟨by omega,t,by rw [Int.toNat_natCast];exact h2,_,_,_,Zbf4 _ _ ⟨_,Z6j t.Rows (fun r hr=>by have:=Z6l (Zf9 e hm) r hr;omega) (by omega),rfl⟩,rfl⟩
theorem Zbj9 (t:Zg) (h:LeT t) (h8:t.Rows.length≤8) (h3:∀ r∈t.Rows,r.length≤3) (a a':ByteArray) (b b':Int):∀ i,i≤t.Rows.length→Zlw t a b a' b' (t.Rows.take i) i=some (.agg [.t (.str a'),I b',.own 0],[.arr 30 1 true (t.Rows.map isc)]):=by
 refine down _ ?_ ?_
 ·refine Z41 _ _ _ _ _ _ _ _ ?_
  rw [if_neg (by omega),List.take_length]
 ·intro i hi ih
  refine Z41 _ _ _ _ _ _ _ _ ?_
  rw [if_pos (by omega),wS hi h.1]
  have:=h3 _ (List.getElem_mem hi)
  rw [List.take_succ_eq_append_getElem hi] at ih
  exact ⟨by omega,_,gE hi,by omega,by rw [List.length_take];omega,ih⟩
theorem Zbka (t:Zg) (h:LeT t) (h8:t.Rows.length≤8) (h3:∀ r∈t.Rows,r.length≤3):Zlv t=some (if t.Rows=[] then (.agg [.t (.str t.Name),I t.Arity,.t .nil],[]) else (.agg [.t (.str t.Name),I t.Arity,.own 0],[.arr 30 1 true (t.Rows.map isc)])):=by
 refine Zbhx _ _ ?_
 refine Zbhw _ _ _ _ _ _ _ ?_
 by_cases e:t.Rows=[]
 ·rw [if_neg (by rw [e];simp),if_pos e]
 ·have h0:0<t.Rows.length:=List.length_pos_iff.2 e
  have:=h3 _ (List.getElem_mem h0)
  rw [if_pos (by omega),if_neg e]
  refine ⟨by omega,_,gE h0,by omega,?_⟩
  have:=Zbj9 t h h8 h3 ⟨#[]⟩ t.Name 0 t.Arity 1 (by omega)
  rw [List.take_succ_eq_append_getElem h0] at this
  rw [show w (0+1)=1 from by decide]
  simpa using this
def lookS (o:Option Zg):AV×List Blk:=match o with
 | none=>(.tup [.agg [.t (.str ⟨#[]⟩),I 0,.t .nil],Bo false],[])
 | some t=>if t.Rows=[] then (.tup [.agg [.t (.str t.Name),I t.Arity,.t .nil],Bo true],[]) else (.tup [.agg [.t (.str t.Name),I t.Arity,.own 0],Bo true],[.arr 30 1 true (t.Rows.map isc)])
theorem Zbkb (d:Zi) (h:LeD d) (n:ByteArray):∀ i,i≤d.Tables.length→Zlx d ⟨#[]⟩ 0 n i=some (lookS (if Zd2 d=true then (d.Tables.drop i).find? (fun t=>decide (t.Name=n)) else none)):=by
 refine down _ ?_ ?_
 ·refine Z42 _ _ _ _ _ _ ?_
  rw [if_neg (by omega),List.drop_length]
  split <;> rfl
 ·intro i hi ih
  refine Z42 _ _ _ _ _ _ ?_
  rw [if_pos (by omega),wS hi h.1]
  refine ⟨_,Zbj7 d h,?_⟩
  rcases tf (Zd2 d) with e | e
  ·rw [e];rfl
  rw [e,if_pos rfl] at ih ⊢
  rw [if_pos rfl,List.drop_eq_getElem_cons hi,List.find?_cons]
  have hm:=List.getElem_mem hi
  refine ⟨by omega,_,gE hi,?_⟩
  by_cases e2:d.Tables[i].Name=n
  ·rw [if_pos e2]
   have hc:=Zbka _ (h.2 _ hm) (Zm0 (Zf9 e hm)) (Z6l (Zf9 e hm))
   simp only [e2,decide_true,lookS]
   by_cases e3:d.Tables[i].Rows=[]
   ·rw [if_pos e3] at hc ⊢
    exact .inl ⟨_,_,hc,by rw [e2]⟩
   ·rw [if_neg e3] at hc ⊢
    exact .inr ⟨_,_,_,hc,by rw [e2]⟩
  ·rw [if_neg e2,ih]
   simp only [e2,decide_false]
theorem Z6n (d:Zi) (h:LeD d) (n:ByteArray):Zez d n=some (lookS (Zbt d n)) :=
 Zbhy _ _ _ (by simpa [Zbt] using Zbkb d h n 0 (Nat.zero_le _))
def Zbh (d:Zi) (a:Atom):Bool:=match Zbt d a.Name with
 | none=>false
 | some t=>decide (t.Arity=(a.Vars.length:Int))
def qFor (d:Zi) (q:Zc):Bool:=Zq q.Ze q.Atoms && q.Atoms.all (Zbh d)
theorem Zbkc (d:Zi) (h:LeD d) (q:Zc) (hq:LeQ q):∀ i,i≤q.Atoms.length→Zkz d q.Atoms q.Atoms.length i=some (Bo ((q.Atoms.drop i).all (Zbh d)),[]):=by
 refine down _ ?_ ?_
 ·refine Z3l _ _ _ _ _ ?_
  rw [if_neg (by omega)];simp
 ·intro i hi ih
  refine Z3l _ _ _ _ _ ?_
  rw [if_pos (by omega),List.drop_eq_getElem_cons hi,List.all_cons,wS hi hq.1]
  refine ⟨by omega,_,gE hi,?_⟩
  have hk:=Z6m d h q.Atoms[i].Name
  unfold Zbh at ih ⊢
  cases e:Zbt d q.Atoms[i].Name with
  | none =>
   rw [e] at hk
   refine .inl ⟨_,_,hk,by simp⟩
  | some t =>
   rw [e] at hk
   refine .inr ⟨_,_,_,hk,?_⟩
   by_cases e2:t.Arity=(q.Atoms[i].Vars.length:Int)
   ·rw [if_pos e2,ih];simp [e2]
   ·rw [if_neg e2];simp [e2]
@[simp] theorem Z6o (d:Zi) (h:LeD d) (q:Zc) (hq:LeQ q):Zgn d q=some (Bo (qFor d q),[]):=by
 refine Zbf6 _ _ _ ⟨_,Zmu q hq,?_⟩
 unfold qFor
 rcases tf (Zq q.Ze q.Atoms) with e | e
 ·rw [e];simp
 ·rw [e,if_pos rfl]
  have:=Zbkc d h q hq 0 (Nat.zero_le _)
  refine Eq.trans this ?_
  simp
theorem Zbkd (d:Zi) (h:LeD d) (q:Zc) (hq:LeQ q):∀ i,i≤q.Atoms.length→Zi9 d q i=some (Bo ((q.Atoms.drop i).all (Zbh d)),[]):=by
 refine down _ ?_ ?_
 ·refine Z43 _ _ _ _ ?_
  rw [if_neg (by omega)];simp
 ·intro i hi ih
  refine Z43 _ _ _ _ ?_
  rw [if_pos (by omega),List.drop_eq_getElem_cons hi,List.all_cons,wS hi hq.1]
  refine ⟨by omega,_,gE hi,?_⟩
  have hk:=Z6n d h q.Atoms[i].Name
  unfold Zbh at ih ⊢
  cases e:Zbt d q.Atoms[i].Name with
  | none =>
   rw [e] at hk
   refine .inl ⟨_,_,_,hk,by simp⟩
  | some t =>
   rw [e] at hk
   simp only [lookS] at hk
   by_cases e3:t.Rows=[]
   ·rw [if_pos e3] at hk
    refine .inl ⟨_,_,_,hk,?_⟩
    rw [if_pos rfl]
    by_cases e2:t.Arity=(q.Atoms[i].Vars.length:Int)
    ·rw [if_pos e2,ih];simp [e2]
    ·rw [if_neg e2];simp [e2]
   ·rw [if_neg e3] at hk
    refine .inr ⟨_,_,_,hk,?_⟩
    by_cases e2:t.Arity=(q.Atoms[i].Vars.length:Int)
    ·rw [if_pos e2,ih];simp [e2]
    ·rw [if_neg e2];simp [e2]
@[simp] theorem Zwq (d:Zi) (h:LeD d) (q:Zc) (hq:LeQ q):Zha d q=some (Bo (qFor d q),[]):=by
 refine Zbhz _ _ _ ⟨_,Zp4 q hq,?_⟩
 unfold qFor
 rcases tf (Zq q.Ze q.Atoms) with e | e
 ·rw [e];simp
 ·rw [e,if_pos rfl]
  have:=Zbkd d h q hq 0 (Nat.zero_le _)
  refine Eq.trans this ?_
  simp
def fitW:List Int→List Int→Bool→List Int→Bool×List Int
 | v::vs,y::ys,ok,x=>fitW vs ys (ok && (decide (x.getD v.toNat 0=-1) || decide (x.getD v.toNat 0=y))) (x.set v.toNat y)
 | _,_,ok,x=>(ok,x)
theorem Z6p:∀ (vs ys:List Int) (ok:Bool) (x:List Int),(fitW vs ys ok x).2.length=x.length
 | [],_,_,_=>rfl
 | _::_,[],_,_=>rfl
 | v::vs,y::ys,ok,x=>by unfold fitW;rw [Z6p,List.length_set]
def addW:Bool×List Int→List (List Int)
 | (true,x)=>[x]
 | (false,_)=>[]
def fitO (vs x r:List Int):Option (List Int):=if (fitW vs r true x).1=true then some (fitW vs r true x).2 else none
def Zb9 (vs:List Int) (rows:List (List Int)) (x:List Int):List (List Int):=rows.filterMap (fitO vs x)
theorem Zwr (vs:List Int) (rows:List (List Int)) (x:List Int):(Zb9 vs rows x).length≤rows.length:=List.length_filterMap_le _ _
theorem Zp9 {vs:List Int} {rows:List (List Int)} {x y:List Int} (h:y∈Zb9 vs rows x):y.length=x.length:=by
 unfold Zb9 at h
 obtain ⟨r,_,hr⟩:=List.mem_filterMap.1 h
 unfold fitO at hr
 split at hr
 ·cases hr;exact Z6p _ _ _ _
 ·cases hr
theorem gD {xs:List Int} {i:Nat} (h:i<xs.length):xs[i]?=some (xs.getD i 0):=by
 rw [List.getD_eq_getElem?_getD,List.getElem?_eq_getElem h];rfl
theorem l_ev0 (db:Zi) (vars:List Int) (a:Atom) (Name:ByteArray) (Arity:Int) (rows next list:List (List Int)) (m:Int) (values row:List Int) (atoms:List Atom) (x3 x4 x5 x6 x7 x8:Int) (r:AV×List Blk) (n:Nat)
  (hr:row.length=a.Vars.length) (hv:∀ v∈a.Vars,0≤v∧v<n) (hl:Le a.Vars) (hn:next.length+1≤68719476736):∀ k,k≤a.Vars.length→∀ ok x,x.length=n →
  Zgy db vars a Name Arity rows (next++addW (fitW (a.Vars.drop k) (row.drop k) ok x)) list m values atoms x3 x4 x5 x6 x7 (w (x8+1))=some r →
  Zg0 db vars a Name Arity rows next x list m values row ok atoms x3 x4 x5 x6 x7 x8 a.Vars a.Vars.length k=some r:=by
 refine down _ ?_ ?_
 ·intro ok x hx h
  refine Z4a _ _ _ _ _ _ _ _ _ _ _ _ _ _ _ _ _ _ _ _ _ _ _ _ ?_
  rw [if_neg (by omega)]
  rw [List.drop_length] at h
  simp only [fitW] at h
  rcases tf ok with e | e
  ·subst e;rw [if_neg (by simp)];simpa [addW] using h
  ·subst e;rw [if_pos rfl];exact ⟨hn,by simpa [addW] using h⟩
 ·intro k hk ih ok x hx h
  have hkr:k<row.length:=by omega
  refine Z4a _ _ _ _ _ _ _ _ _ _ _ _ _ _ _ _ _ _ _ _ _ _ _ _ ?_
  rw [List.drop_eq_getElem_cons hk,List.drop_eq_getElem_cons hkr] at h
  simp only [fitW] at h
  obtain ⟨h0,h1⟩:=hv _ (List.getElem_mem hk)
  have hx1:a.Vars[k].toNat<x.length:=by omega
  rw [if_pos (by omega),wS hk hl]
  refine ⟨by omega,_,gE hk,?_⟩
  rcases tf ok with e | e
  ·subst e
   rw [if_neg (by simp)]
   refine ⟨_,gE hkr,h0,_,gD hx1,?_⟩
   exact ih _ _ (by rw [List.length_set];exact hx) (by simpa using h)
  ·subst e
   rw [if_pos rfl]
   refine ⟨h0,_,gD hx1,?_⟩
   by_cases e2:x.getD a.Vars[k].toNat 0=-1
   ·rw [if_pos e2]
    refine ⟨_,gE hkr,ih _ _ (by rw [List.length_set];exact hx) ?_⟩
    simpa only [e2,decide_true,Bool.true_or,Bool.and_true] using h
   ·rw [if_neg e2]
    refine ⟨_,gE hkr,ih _ _ (by rw [List.length_set];exact hx) ?_⟩
    simp only [e2,decide_false,Bool.false_or,Bool.true_and] at h
    exact h
theorem l_ev1 (db:Zi) (vars:List Int) (a:Atom) (Name:ByteArray) (Arity:Int) (rows list:List (List Int)) (m:Int) (values:List Int) (atoms:List Atom) (x3 x4 x5 x6:Int) (r:AV×List Blk) (n:Nat)
  (hr:∀ row∈rows,row.length=a.Vars.length) (hR:rows.length≤1000000) (hv:∀ v∈a.Vars,0≤v∧v<n) (hl:Le a.Vars) (hx:values.length=n) (hn8:n≤1000):∀ i,i≤rows.length→∀ next:List (List Int),next.length+(rows.length - i)≤1000000 →
  Zim db vars a Name Arity rows (next++Zb9 a.Vars (rows.drop i) values) list m atoms x3 x4 x5 (w (x6+1))=some r →
  Zgy db vars a Name Arity rows next list m values atoms x3 x4 x5 x6 rows.length i=some r:=by
 refine down _ ?_ ?_
 ·intro next hB h
  refine Z38 _ _ _ _ _ _ _ _ _ _ _ _ _ _ _ _ _ _ ?_
  rw [if_neg (by omega)]
  rw [List.drop_length] at h
  simpa [Zb9] using h
 ·intro i hi ih next hB h
  refine Z38 _ _ _ _ _ _ _ _ _ _ _ _ _ _ _ _ _ _ ?_
  rw [if_pos (by omega)]
  refine ⟨by omega,_,gE hi,_,Zwp _ (by omega),?_⟩
  refine l_ev0 db vars a Name Arity rows next list m values rows[i] atoms x3 x4 x5 x6 rows.length i r n (hr _ (List.getElem_mem hi)) hv hl (by omega) 0 (Nat.zero_le _) true values hx ?_
  rw [wS hi (by omega)]
  rw [List.drop_eq_getElem_cons hi] at h
  unfold Zb9 at h
  rw [List.filterMap_cons] at h
  simp only [List.drop_zero]
  rw [show fitO a.Vars values rows[i]=if (fitW a.Vars rows[i] true values).1=true then some (fitW a.Vars rows[i] true values).2 else none from rfl] at h
  revert h
  generalize fitW a.Vars rows[i] true values=p
  intro h
  obtain ⟨b,y⟩:=p
  rcases tf b with e | e
  ·subst e
   refine ih _ (by simp [addW];omega) ?_
   simpa [addW,Zb9] using h
  ·subst e
   refine ih _ (by simp [addW];omega) ?_
   simpa [addW,Zb9,List.append_assoc] using h
theorem l_ev2 (db:Zi) (vars:List Int) (a:Atom) (Name:ByteArray) (Arity:Int) (rows list:List (List Int)) (m:Int) (atoms:List Atom) (x3 x4:Int) (r:AV×List Blk) (n:Nat)
  (hr:∀ row∈rows,row.length=a.Vars.length) (hR:rows.length≤8) (hL:list.length≤4096) (hv:∀ v∈a.Vars,0≤v∧v<n) (hl:Le a.Vars) (hx:∀ x∈list,x.length=n) (hn8:n≤1000):∀ i,i≤list.length→∀ next:List (List Int),next.length+rows.length*(list.length - i)≤40000 →
  Zgx db vars (next++(list.drop i).flatMap (Zb9 a.Vars rows)) m atoms x3 (w (x4+1))=some r →
  Zim db vars a Name Arity rows next list m atoms x3 x4 list.length i=some r:=by
 refine down _ ?_ ?_
 ·intro next hB h
  refine Z37 _ _ _ _ _ _ _ _ _ _ _ _ _ _ _ ?_
  rw [if_neg (by omega)]
  rw [List.drop_length] at h
  simpa using h
 ·intro i hi ih next hB h
  refine Z37 _ _ _ _ _ _ _ _ _ _ _ _ _ _ _ ?_
  rw [if_pos (by omega)]
  refine ⟨by omega,_,gE hi,?_⟩
  have hm:rows.length*(list.length - i)=rows.length*(list.length - (i+1))+rows.length:=by
   rw [show list.length - i=(list.length - (i+1))+1 by omega,Nat.mul_succ]
  refine l_ev1 db vars a Name Arity rows list m list[i] atoms x3 x4 list.length i r n hr (by omega) hv hl (hx _ (List.getElem_mem hi)) hn8 0 (Nat.zero_le _) next (by omega) ?_
  rw [wS hi (by omega),List.drop_zero]
  have hj:=Zwr a.Vars rows list[i]
  refine ih _ (by rw [List.length_append];omega) ?_
  rw [List.drop_eq_getElem_cons hi,List.flatMap_cons,← List.append_assoc] at h
  exact h
def rowsA (d:Zi) (a:Atom):List (List Int):=match Zbt d a.Name with
 | none=>[]
 | some t=>t.Rows
def Zd3 (d:Zi) (m:Int):List Atom→Nat→List (List Int)→List (List Int)
 | [],_,l=>l
 | a::ts,i,l=>Zd3 d m ts (i+1) (if andI (shrI m i) 1=0 then l else l.flatMap (Zb9 a.Vars (rowsA d a)))
theorem Zqa {α β:Type} (f:α→List β) (k:Nat) (hf:∀ x,(f x).length≤k):∀ l:List α,(l.flatMap f).length≤k*l.length
 | []=>by simp
 | x::l=>by rw [List.flatMap_cons,List.length_append,List.length_cons,Nat.mul_succ];have:=hf x;have:=Zqa f k hf l;omega
theorem l_ev3 (d:Zi) (hd:LeD d) (vars:List Int) (m:Int) (atoms:List Atom) (r:AV×List Blk) (n:Nat) (hn8:n≤1000)
  (ha:∀ a∈atoms,Le a.Vars∧(∀ v∈a.Vars,0≤v∧v<n)∧Zbh d a=true) (h4:atoms.length≤4):∀ i,i≤atoms.length→∀ list:List (List Int),list.length≤8 ^ i→(∀ x∈list,x.length=n) →
  Zk7 vars (Zd3 d m (atoms.drop i) i list) (Zd3 d m (atoms.drop i) i list).length 0=some r →
  Zgx d vars list m atoms atoms.length i=some r:=by
 refine down _ ?_ ?_
 ·intro list hL hx h
  refine Z36 _ _ _ _ _ _ _ _ ?_
  rw [if_neg (by omega)]
  rw [List.drop_length] at h
  exact h
 ·intro i hi ih list hL hx h
  obtain ⟨h1,h2,h3⟩:=ha _ (List.getElem_mem hi)
  have hp:8 ^ i≤512:=Nat.le_trans (Nat.pow_le_pow_right (by omega) (show i≤3 by omega)) (by decide)
  refine Z36 _ _ _ _ _ _ _ _ ?_
  rw [List.drop_eq_getElem_cons hi] at h
  rw [if_pos (by omega)]
  refine ⟨by omega,_,gE hi,by omega,?_⟩
  rw [Zd3] at h
  by_cases e:andI (shrI m i) 1=0
  ·rw [if_pos e] at h ⊢
   rw [wS hi (by omega)]
   exact ih _ (Nat.le_trans hL (Nat.pow_le_pow_right (by omega) (by omega))) hx h
  ·rw [if_neg e] at h ⊢
   unfold Zbh at h3
   unfold rowsA at h
   have hk:=Z6m d hd atoms[i].Name
   cases e3:Zbt d atoms[i].Name with
   | none=>rw [e3] at h3;simp at h3
   | some t =>
    rw [e3] at h3 h hk
    simp only [decide_eq_true_eq] at h3 h
    obtain ⟨hv,ht,_⟩:=Zp8 e3
    have hT:=Zf9 hv ht
    have h8:=Zm0 hT
    have hrow:∀ row∈t.Rows,row.length=atoms[i].Vars.length:=by
     intro row hrow
     unfold Zb3 at hT
     simp only [Bool.and_eq_true] at hT
     have:=List.all_eq_true.1 hT.2.1 row hrow
     unfold rwB at this
     simp only [Bool.and_eq_true,decide_eq_true_eq] at this
     omega
    refine .inr ⟨_,_,_,hk,?_⟩
    have hfl:=Zqa (Zb9 atoms[i].Vars t.Rows) 8 (fun x=>Nat.le_trans (Zwr _ _ _) h8) list
    refine l_ev2 d vars atoms[i] t.Name t.Arity t.Rows list m atoms atoms.length i r n hrow h8 (by omega) h2 h1 hx hn8 0 (Nat.zero_le _) [] ?_ ?_
    ·have:t.Rows.length*(list.length - 0)≤8*512:=Nat.mul_le_mul h8 (by omega)
     simp at this ⊢;omega
    ·rw [wS hi (by omega),List.nil_append,List.drop_zero]
     refine ih _ ?_ ?_ h
     ·rw [Nat.pow_succ];omega
     ·intro y hy
      obtain ⟨x,hx1,hy1⟩:=List.mem_flatMap.1 hy
      rw [Zp9 hy1];exact hx x hx1
def selC (row cols:List Int):List Int:=cols.map fun c=>row.getD c.toNat 0
theorem l_Sel (row cols:List Int) (h4:cols.length≤1000) (hr:Le row) (hc:∀ c∈cols,0≤c∧c<row.length):∀ i,i≤cols.length→Zk4 (selC row (cols.take i)) row cols cols.length i=some (.tup [.own 0,Bo true],[.arr 3 1 true ((selC row cols).map ic)]):=by
 refine down _ ?_ ?_
 ·refine Z35 _ _ _ _ _ _ ?_
  rw [if_neg (by omega),List.take_length]
 ·intro i hi ih
  obtain ⟨h0,h1⟩:=hc _ (List.getElem_mem hi)
  refine Z35 _ _ _ _ _ _ ?_
  rw [if_pos (by omega),wS hi (by omega)]
  refine ⟨by omega,_,gE hi,_,Zcg _ _ _,?_⟩
  rw [show w ((row.length:Int) - 1)=(row.length:Int) - 1 from wrap64 (by omega) (by omega)]
  rw [show inR cols[i] 0 ((row.length:Int) - 1)=true by simp [inR];omega,if_pos rfl]
  refine ⟨h0,_,gD (by omega),by simp [selC];omega,?_⟩
  rw [show selC row (cols.take (i+1))=selC row (cols.take i)++[row.getD cols[i].toNat 0] by unfold selC;rw [List.take_succ_eq_append_getElem hi,List.map_append];rfl] at ih
  exact ih
theorem Z6q (row cols:List Int) (h4:cols.length≤1000) (hr:Le row) (hc:∀ c∈cols,0≤c∧c<row.length):Zfv row cols=some (.tup [.own 0,Bo true],[.arr 3 1 true ((selC row cols).map ic)]) :=
 Zbgp _ _ _ (by simpa [selC] using l_Sel row cols h4 hr hc 0 (Nat.zero_le _))
def SrtOK (xs ys:List (List Int)):Prop:=Zk6 xs=some (.own 0,[.arr 30 1 true (ys.map isc)])∧(xs=[]→Zk5=some (.own 0,[.arr 30 1 true (ys.map isc)]))
theorem l_ev4a (vars:List Int) (list ys:List (List Int)) (n:Nat) (h4:vars.length≤1000) (hn8:n≤1000) (hc:∀ c∈vars,0≤c∧c<n) (hx:∀ x∈list,x.length=n) (hL:list.length≤4096) (hs:SrtOK (list.map fun x=>selC x vars) ys):∀ i,i≤list.length →
  Zgz vars ((list.take i).map fun x=>selC x vars) list list.length i=some (.agg [.own 0,.own 1],[.arr 3 1 true (vars.map ic),.arr 30 1 true (ys.map isc)]):=by
 refine down _ ?_ ?_
 ·refine Z39 _ _ _ _ _ _ ?_
  rw [if_neg (by omega),List.take_length]
  exact ⟨_,hs.1,rfl⟩
 ·intro i hi ih
  refine Z39 _ _ _ _ _ _ ?_
  rw [if_pos (by omega),wS hi (by omega)]
  have e:=hx _ (List.getElem_mem hi)
  refine ⟨by omega,_,gE hi,.inr ⟨_,Z6q _ _ h4 (by omega) (by rw [e];exact hc),by simp;omega,?_⟩⟩
  rw [List.take_succ_eq_append_getElem hi,List.map_append] at ih
  exact ih
theorem x_ev4 (vars:List Int) (list ys:List (List Int)) (n:Nat) (h4:vars.length≤1000) (hn8:n≤1000) (hc:∀ c∈vars,0≤c∧c<n) (hx:∀ x∈list,x.length=n) (hL:list.length≤4096) (hs:SrtOK (list.map fun x=>selC x vars) ys) :
  Zk7 vars list list.length 0=some (.agg [.own 0,.own 1],[.arr 3 1 true (vars.map ic),.arr 30 1 true (ys.map isc)]):=by
 refine Zbgu _ _ _ _ _ ?_
 by_cases e0:list=[]
 ·subst e0
  rw [if_neg (by simp)]
  exact ⟨_,hs.2 rfl,rfl⟩
 ·have h0:0<list.length:=List.length_pos_iff.2 e0
  have e:=hx _ (List.getElem_mem h0)
  rw [if_pos (by omega)]
  refine ⟨by omega,_,gE (i:=0) h0,.inr ⟨_,Z6q _ _ h4 (by omega) (by rw [e];exact hc),?_⟩⟩
  have:=l_ev4a vars list ys n h4 hn8 hc hx hL hs 1 (by omega)
  rw [List.take_succ_eq_append_getElem h0] at this
  rw [show w (0+1)=1 from by decide]
  simpa using this
def evalX (d:Zi) (q:Zc) (m:Int):List (List Int):=Zd3 d m q.Atoms 0 [List.replicate q.Ze.toNat (-1)]
def evalP (d:Zi) (q:Zc) (m:Int):List (List Int):=(evalX d q m).map fun x=>selC x (varL m q.Atoms q.Ze.toNat)
theorem Zqb (d:Zi) (m:Int) (n:Nat):∀ (ts:List Atom) (i:Nat) (l:List (List Int)),(∀ a∈ts,Zbh d a=true)→(∀ x∈l,x.length=n)→(∀ x∈Zd3 d m ts i l,x.length=n)∧(Zd3 d m ts i l).length≤8 ^ ts.length*l.length
 | [],_,l,_,h=>⟨h,by simp [Zd3]⟩
 | a::ts,i,l,ha,h=>by
  rw [Zd3]
  have hp:=Nat.pow_succ 8 ts.length
  by_cases e:andI (shrI m i) 1=0
  ·rw [if_pos e]
   obtain ⟨h1,h2⟩:=Zqb d m n ts (i+1) l (fun b hb=>ha b (by simp [hb])) h
   refine ⟨h1,Nat.le_trans h2 (Nat.mul_le_mul_right _ ?_)⟩
   rw [List.length_cons];omega
  ·rw [if_neg e]
   obtain ⟨h1,h2⟩:=Zqb d m n ts (i+1) (l.flatMap (Zb9 a.Vars (rowsA d a))) (fun b hb=>ha b (by simp [hb])) (by
    intro y hy
    obtain ⟨x,hx,hy⟩:=List.mem_flatMap.1 hy
    rw [Zp9 hy];exact h x hx)
   refine ⟨h1,Nat.le_trans h2 ?_⟩
   have h8:(rowsA d a).length≤8:=by
    have:=ha a (by simp)
    unfold rowsA
    unfold Zbh at this
    cases e3:Zbt d a.Name with
    | none=>simp
    | some t =>
     obtain ⟨hv,ht,_⟩:=Zp8 e3
     exact Zm0 (Zf9 hv ht)
   have:=Zqa (Zb9 a.Vars (rowsA d a)) 8 (fun x=>Nat.le_trans (Zwr _ _ _) h8) l
   rw [List.length_cons,hp,Nat.mul_assoc]
   exact Nat.mul_le_mul_left _ this
def popc (x:Int):Nat:=(if andI (shrI x 0) 1=1 then 1 else 0)+(if andI (shrI x 1) 1=1 then 1 else 0)+(if andI (shrI x 2) 1=1 then 1 else 0)+(if andI (shrI x 3) 1=1 then 1 else 0)
abbrev M16 (x:Int):Prop:=0≤x∧x<16
theorem m16 {x:Int} (h:M16 x):∃ a:Fin 16,x=(a.1:Int):=⟨⟨x.toNat,by omega⟩,by simp;omega⟩
set_option maxRecDepth 100000 in
theorem f_or:∀ a b:Fin 16,M16 (orI a.1 b.1)∧andI a.1 (orI a.1 b.1)=a.1∧(orI a.1 b.1=a.1∨popc a.1+1≤popc (orI a.1 b.1)):=by decide
set_option maxRecDepth 100000 in
theorem f_and:∀ a b:Fin 16,M16 (andI a.1 b.1)∧andI (andI a.1 b.1) b.1=andI a.1 b.1∧(andI (a.1:Int) b.1=a.1→popc a.1≤popc b.1∧(popc b.1≤popc a.1→a.1=b.1)):=by decide
set_option maxRecDepth 1000000 in
theorem f_sub:∀ a b c:Fin 16,andI (a.1:Int) c.1=a.1→andI (b.1:Int) c.1=b.1→andI (orI a.1 b.1) c.1=orI a.1 b.1:=by decide
set_option maxRecDepth 100000 in
theorem f_bit:∀ (a:Fin 16) (i:Fin 4),(andI (shrI a.1 i.1) 1=0↔¬ andI (shrI a.1 i.1) 1=1):=by decide
set_option maxRecDepth 100000 in
theorem f_shl:∀ (i j:Fin 4),(andI (shrI (shlI 1 i.1) j.1) 1=1↔i=j)∧M16 (shlI 1 i.1):=by decide
set_option maxRecDepth 100000 in
theorem f_low:∀ a:Fin 16,M16 (andI a.1 (w (0 - a.1)))∧andI (andI a.1 (w (0 - a.1))) a.1=andI a.1 (w (0 - (a.1:Int))):=by decide
set_option maxRecDepth 100000 in
theorem f_pop:∀ (a:Fin 16),(a.1<2→popc a.1≤1)∧(a.1<4→popc a.1≤2)∧(a.1<8→popc a.1≤3)∧popc a.1≤4:=by decide
theorem f_bits:∀ a b c d:Bool,M16 (bit4 a b c d):=by decide
def Zb0 (qa:List Atom) (m:Int):Nat→Bool:=fun i=>decide (i<qa.length) && (!Zt m i && shr qa (shlI 1 i) m)
def Zd4 (qa:List Atom) (m:Int):Int:=Z2 (Zb0 qa m)
theorem nearM_16 (qa:List Atom) (m:Int):M16 (Zd4 qa m):=f_bits _ _ _ _
theorem Zbke {i j:Nat} (hi:i<4) (hj:j<4):Zt (shlI 1 i) j=decide (i=j):=by
 have:=(f_shl ⟨i,hi⟩ ⟨j,hj⟩).1
 simp only [Zt,Fin.mk.injEq] at this ⊢
 rw [Bool.eq_iff_iff,decide_eq_true_eq,decide_eq_true_eq]
 exact this
theorem Zm1 {m:Int} (hm:M16 m) {i:Nat} (hi:i<4):andI (shrI m i) 1=0↔Zt m i=false:=by
 obtain ⟨a,rfl⟩:=m16 hm
 have:=f_bit a ⟨i,hi⟩
 simp only at this
 rw [this,Zt,decide_eq_false_iff_not]
theorem hasV_one (qa:List Atom) (h4:qa.length≤4) {i:Nat} (hi:i<qa.length) (u:Int):∀ k,k≤qa.length→hasV (shlI 1 i) (qa.drop k) k u=(decide (k≤i) && has qa[i].Vars u):=by
 refine down _ ?_ ?_
 ·rw [List.drop_length,hasV,decide_eq_false (by omega)];rfl
 ·intro k hk ih
  rw [Zrh _ hk,ih,Zbke (by omega) (by omega)]
  by_cases e:i=k
  ·subst e
   rw [decide_eq_true rfl,decide_eq_true (Nat.le_refl _),decide_eq_false (by omega)];simp
  ·by_cases e2:k≤i
   ·rw [decide_eq_false e,decide_eq_true (by omega),decide_eq_true e2];simp
   ·rw [decide_eq_false e,decide_eq_false (by omega),decide_eq_false e2];simp
theorem pV_one (qa:List Atom) (h4:qa.length≤4) {i:Nat} (hi:i<qa.length) (u:Nat):pV (shlI 1 i) qa u=has qa[i].Vars u:=by
 have:=hasV_one qa h4 hi u 0 (Nat.zero_le _)
 simpa [pV] using this
theorem shr_one {n:Int} {qa:List Atom} (h:Zq n qa=true) {i:Nat} (hi:i<qa.length) (m:Int):shr qa (shlI 1 i) m=qa[i].Vars.any (fun v=>has (varL m qa n.toNat) v):=by
 have h4:=(Zbe h).2
 rw [Bool.eq_iff_iff,shr,List.any_eq_true,List.any_eq_true]
 simp only [Zkn h,pV_one qa h4 hi,Bool.and_eq_true,List.mem_range]
 constructor
 ·rintro ⟨u,hu,h1,h2⟩
  refine ⟨(u:Int),Zes.1 h1,?_⟩
  simp only [vin,Bool.and_eq_true]
  exact ⟨by simp [inR];omega,by simpa using h2⟩
 ·rintro ⟨v,hv,h2⟩
  have h3:=Znu h _ (List.getElem_mem hi) v hv
  simp [inR] at h3
  simp only [vin,Bool.and_eq_true] at h2
  refine ⟨v.toNat,by omega,?_,h2.2⟩
  rw [Zes,Int.toNat_of_nonneg h3.1]
  exact hv
theorem Z6r {qa:List Atom} {m:Int} {i:Nat} (hi:i<4) (h:Zb0 qa m i=true):addV (fun u=>decide (u<i) && Zb0 qa m u) [(i:Int)]=fun u=>decide (u<i+1) && Zb0 qa m u:=by
 funext u
 simp only [addV,has]
 by_cases e:u=i
 ·subst e
  rw [decide_eq_true (by omega:u<u+1),h]
  simp
 ·by_cases e2:u<i
  ·rw [decide_eq_true e2,decide_eq_true (by omega)]
   have:¬ ((u:Int)=(i:Int)):=by omega
   simp [this]
  ·rw [decide_eq_false e2,decide_eq_false (by omega)]
   have:¬ ((u:Int)=(i:Int)):=by omega
   simp [this]
theorem Zqc {qa:List Atom} {m:Int} {i:Nat} (h:Zb0 qa m i=false):(fun u=>decide (u<i) && Zb0 qa m u)=fun u=>decide (u<i+1) && Zb0 qa m u:=by
 funext u
 by_cases e:u=i
 ·subst e;rw [h];simp
 ·by_cases e2:u<i
  ·rw [decide_eq_true e2,decide_eq_true (by omega)]
  ·rw [decide_eq_false e2,decide_eq_false (by omega)]
theorem Z6s (qa:List Atom) (m:Int):(fun u=>decide (u<qa.length) && Zb0 qa m u)=Zb0 qa m:=by
 funext u
 unfold Zb0
 by_cases e:u<qa.length
 ·rw [decide_eq_true e];simp
 ·rw [decide_eq_false e];simp
theorem Zbkf (q:Zc) (hq:LeQ q) (hv:Zq q.Ze q.Atoms=true) (m:Int) (hm:M16 m):∀ i,i≤q.Atoms.length →
  Zgp (varL m q.Atoms q.Ze.toNat) m (Z2 fun u=>decide (u<i) && Zb0 q.Atoms m u) q.Atoms q.Atoms.length i=some (I (Zd4 q.Atoms m),[]):=by
 have h4:=(Zbe hv).2
 refine down _ ?_ ?_
 ·refine Z3p _ _ _ _ _ _ _ ?_
  rw [if_neg (by omega),Z6s];rfl
 ·intro i hi ih
  have hi4:i<4:=by omega
  have hinc:=inc64 (i:=i) (by omega)
  simp only [Int.natCast_add,Int.cast_ofNat_Int] at ih
  refine Z3p _ _ _ _ _ _ _ ?_
  rw [if_pos (by omega)]
  refine ⟨by omega,q.Atoms[i],by rw [Int.toNat_natCast];exact List.getElem?_eq_getElem hi,by omega,?_⟩
  rw [show w ((i:Int)+1)=(i:Int)+1 from hinc]
  have hn:Zb0 q.Atoms m i=(!Zt m i && q.Atoms[i].Vars.any (fun v=>has (varL m q.Atoms q.Ze.toNat) v)):=by
   unfold Zb0;rw [decide_eq_true hi,shr_one hv hi];simp
  have hvars:=Zkm hv _ (List.getElem_mem hi)
  have hvl:=Zh3 m q.Atoms q.Ze.toNat
  have hvn:=Zcl hv
  rcases tf (Zt m i) with e1 | e1
  ·rw [if_pos ((Zm1 hm hi4).2 e1)]
   refine ⟨_,x_both q.Atoms[i].Vars (varL m q.Atoms q.Ze.toNat) (by omega) (by omega),?_⟩
   rcases tf (q.Atoms[i].Vars.any (fun v=>has (varL m q.Atoms q.Ze.toNat) v)) with e2 | e2
   ·have e3:q.Atoms[i].Vars.filter (has (varL m q.Atoms q.Ze.toNat))=[]:=by
     rw [List.filter_eq_nil_iff];intro a ha;have:=List.any_eq_false.1 e2 a ha;simpa using this
    rw [e3,if_neg (by simp),Zqc (by rw [hn,e2];simp)]
    exact ih
   ·have e3:0<(q.Atoms[i].Vars.filter (has (varL m q.Atoms q.Ze.toNat))).length:=by
     obtain ⟨v,hv1,hv2⟩:=List.any_eq_true.1 e2
     exact List.length_pos_of_mem (List.mem_filter.2 ⟨hv1,hv2⟩)
    rw [if_pos (by omega),Zns _ (by simp [inR];omega),Z6r hi4 (by rw [hn,e1,e2];rfl)]
    exact ih
  ·rw [if_neg (fun hc=>by rw [(Zm1 hm hi4).1 hc] at e1;cases e1),Zqc (by rw [hn,e1];rfl)]
   exact ih
theorem Z6t (q:Zc) (hq:LeQ q) (hv:Zq q.Ze q.Atoms=true) (m:Int) (hm:M16 m):Zoh q m=some (I (Zd4 q.Atoms m),[]):=by
 have b:=Zbkf q hq hv m hm 0 (Nat.zero_le _)
 refine Zbgc _ _ _ ⟨_,Zj2 q m hq hv,?_⟩
 simpa [Z2,bit4] using b
theorem l_near (q:Zc) (hq:LeQ q) (hv:Zq q.Ze q.Atoms=true) (m:Int) (hm:M16 m):∀ i,i≤q.Atoms.length →
  Zhd q m (Z2 fun u=>decide (u<i) && Zb0 q.Atoms m u) (Z2 (pV m q.Atoms)) i=some (I (Zd4 q.Atoms m),[]):=by
 have h4:=(Zbe hv).2
 refine down _ ?_ ?_
 ·refine Z45 _ _ _ _ _ _ ?_
  rw [if_neg (by omega),Z6s];rfl
 ·intro i hi ih
  have hi4:i<4:=by omega
  have hinc:=inc64 (i:=i) (by omega)
  simp only [Int.natCast_add,Int.cast_ofNat_Int] at ih
  refine Z45 _ _ _ _ _ _ ?_
  rw [if_pos (by omega)]
  refine ⟨by omega,?_⟩
  rw [show w ((i:Int)+1)=(i:Int)+1 from hinc]
  have hn:Zb0 q.Atoms m i=(!Zt m i && shr q.Atoms (shlI 1 i) m):=by
   unfold Zb0;rw [decide_eq_true hi];simp
  rcases tf (Zt m i) with e1 | e1
  ·rw [if_pos ((Zm1 hm hi4).2 e1)]
   refine ⟨_,Zwm q (shlI 1 i) hq (Znu hv),?_⟩
   rcases tf (shr q.Atoms (shlI 1 i) m) with e2 | e2
   ·rw [if_pos ((Zym q.Atoms (shlI 1 i) m).2 e2),Zqc (by rw [hn,e2];simp)]
    exact ih
   ·rw [if_neg (fun hc=>by rw [(Zym q.Atoms (shlI 1 i) m).1 hc] at e2;cases e2),Zns _ (by simp [inR];omega),Z6r hi4 (by rw [hn,e1,e2];rfl)]
    exact ih
  ·rw [if_neg (fun hc=>by rw [(Zm1 hm hi4).1 hc] at e1;cases e1),Zqc (by rw [hn,e1];rfl)]
   exact ih
theorem x_near (q:Zc) (hq:LeQ q) (hv:Zq q.Ze q.Atoms=true) (m:Int) (hm:M16 m):Zpb q m=some (I (Zd4 q.Atoms m),[]):=by
 have b:=l_near q hq hv m hm 0 (Nat.zero_le _)
 refine Zbh2 _ _ _ ⟨_,Zwm q m hq (Znu hv),?_⟩
 simpa [Z2,bit4] using b
def Zdp (qa:List Atom) (mask x:Int):Int:=orI x (andI (Zd4 qa x) mask)
def Zfd (qa:List Atom) (mask:Int):Nat→Int→Int
 | 0,x=>x
 | n+1,x=>Zfd qa mask n (Zdp qa mask x)
def conn (qa:List Atom) (mask:Int):Bool:=decide (Zfd qa mask qa.length (andI mask (w (0 - mask)))=mask)
abbrev SubM (x mask:Int):Prop:=andI x mask=x
theorem Zws {qa:List Atom} {mask x:Int} (hm:M16 mask) (hx:M16 x) (hs:SubM x mask):M16 (Zdp qa mask x)∧SubM (Zdp qa mask x) mask∧(Zdp qa mask x=x∨popc x+1≤popc (Zdp qa mask x)):=by
 obtain ⟨a,rfl⟩:=m16 hx
 obtain ⟨b,rfl⟩:=m16 hm
 obtain ⟨c,hc⟩:=m16 (nearM_16 qa (a.1:Int))
 unfold Zdp
 rw [hc]
 obtain ⟨d1,d2,_⟩:=f_and c b
 obtain ⟨d,hd⟩:=m16 d1
 rw [hd] at d2 ⊢
 obtain ⟨e1,_,e3⟩:=f_or a d
 exact ⟨e1,f_sub a d b hs d2,e3⟩
theorem Z6u {qa:List Atom} {mask x:Int} (h:Zdp qa mask x=x):∀ n,Zfd qa mask n x=x
 | 0=>rfl
 | n+1=>by rw [Zfd,h];exact Z6u h n
theorem Zbkg (q:Zc) (hq:LeQ q) (hv:Zq q.Ze q.Atoms=true) (mask:Int) (hm:M16 mask) (hp:popc mask≤q.Atoms.length):∀ (f:Nat) (x:Int),M16 x→SubM x mask→q.Atoms.length≤popc x+f →
  Zk0 q mask x=some (Bo (decide (Zfd q.Atoms mask f x=mask)),[]):=by
 intro f
 induction f with
 | zero =>
  intro x hx hs hf
  have hxm:x=mask:=by
   obtain ⟨a,rfl⟩:=m16 hx
   obtain ⟨b,rfl⟩:=m16 hm
   have:=((f_and a b).2.2 hs).2 (by omega)
   omega
  obtain ⟨s1,s2,s3⟩:=Zws (qa:=q.Atoms) hm hx hs
  have hfix:Zdp q.Atoms mask x=x:=by
   rcases s3 with h | h
   ·exact h
   ·obtain ⟨a,ha⟩:=m16 s1
    obtain ⟨b,rfl⟩:=m16 hm
    rw [ha] at s2 h
    have:=((f_and a b).2.2 s2).1
    rw [hxm] at h
    omega
  refine Z3q _ _ _ _ ⟨_,Z6t q hq hv x hx,?_⟩
  rw [if_pos (show orI x (andI (Zd4 q.Atoms x) mask)=x from hfix)];rfl
 | succ f ih =>
  intro x hx hs hf
  obtain ⟨s1,s2,s3⟩:=Zws (qa:=q.Atoms) hm hx hs
  refine Z3q _ _ _ _ ⟨_,Z6t q hq hv x hx,?_⟩
  by_cases h:Zdp q.Atoms mask x=x
  ·rw [if_pos (show orI x (andI (Zd4 q.Atoms x) mask)=x from h),Z6u h]
  ·rw [if_neg (show ¬ orI x (andI (Zd4 q.Atoms x) mask)=x from h)]
   exact ih (Zdp q.Atoms mask x) s1 s2 (by rcases s3 with h' | h';exact absurd h' h;omega)
theorem l_joined (q:Zc) (hq:LeQ q) (hv:Zq q.Ze q.Atoms=true) (mask:Int) (hm:M16 mask):∀ i,i≤q.Atoms.length→∀ x,M16 x→SubM x mask →
  Zly q mask x i=some (Bo (decide (Zfd q.Atoms mask (q.Atoms.length - i) x=mask)),[]):=by
 have h4:=(Zbe hv).2
 refine down _ ?_ ?_
 ·intro x _ _
  refine Z46 _ _ _ _ _ ?_
  rw [if_neg (by omega),Nat.sub_self];rfl
 ·intro i hi ih x hx hs
  obtain ⟨s1,s2,s3⟩:=Zws (qa:=q.Atoms) hm hx hs
  have hinc:=inc64 (i:=i) (by omega)
  refine Z46 _ _ _ _ _ ?_
  rw [if_pos (by omega)]
  refine ⟨_,x_near q hq hv x hx,?_⟩
  have ih:=ih _ s1 s2
  simp only [Int.natCast_add,Int.cast_ofNat_Int] at ih
  rw [show w ((i:Int)+1)=(i:Int)+1 from hinc,show q.Atoms.length - i=(q.Atoms.length - (i+1))+1 by omega,Zfd]
  exact ih
abbrev MQ (qa:List Atom) (m:Int):Prop:=0≤m∧m<2 ^ qa.length
theorem MQ.m16 {n:Int} {qa:List Atom} {m:Int} (hv:Zq n qa=true) (h:MQ qa m):M16 m∧popc m≤qa.length:=by
 have hl:=Zbe hv
 obtain ⟨h1,h2⟩:=h
 have e:qa.length=1∨qa.length=2∨qa.length=3∨qa.length=4:=by omega
 have k16:M16 m:=by rcases e with e | e | e | e <;> rw [e] at h2 <;> exact ⟨h1,by omega⟩
 refine ⟨k16,?_⟩
 obtain ⟨a,rfl⟩:=Go.Proofs.YtgnfoghkbpkgjaaGreat.m16 k16
 obtain ⟨p1,p2,p3,p4⟩:=f_pop a
 rcases e with e | e | e | e <;> rw [e] at h2 ⊢
 ·exact p1 (by omega)
 ·exact p2 (by omega)
 ·exact p3 (by omega)
 ·exact p4
theorem Zqd (q:Zc) (hq:LeQ q) (hv:Zq q.Ze q.Atoms=true) (m:Int) (hm:MQ q.Atoms m) (h0:m≠0):Zev q m=some (Bo (conn q.Atoms m),[]):=by
 obtain ⟨k1,k2⟩:=hm.m16 hv
 refine Z3r _ _ _ ?_
 rw [if_neg h0]
 obtain ⟨a,rfl⟩:=m16 k1
 obtain ⟨l1,l2⟩:=f_low a
 exact Zbkg q hq hv _ k1 k2 q.Atoms.length _ l1 l2 (by omega)
theorem Zqe (q:Zc) (hq:LeQ q) (hv:Zq q.Ze q.Atoms=true) (m:Int) (hm:MQ q.Atoms m):Zfy q m=some (Bo (conn q.Atoms m),[]):=by
 obtain ⟨k1,k2⟩:=hm.m16 hv
 refine Zbh3 _ _ _ ?_
 obtain ⟨a,rfl⟩:=m16 k1
 obtain ⟨l1,l2⟩:=f_low a
 exact l_joined q hq hv _ k1 0 (Nat.zero_le _) _ l1 l2
theorem Zcx {n:Int} {qa:List Atom} (hv:Zq n qa=true):Zu n qa=2 ^ qa.length - 1:=by
 unfold Zu;rw [if_pos hv,(Zgj hv).2.1]
theorem Z6v (q:Zc) (hq:LeQ q) (m:Int):Zh9 q m=some (Bo (Zq q.Ze q.Atoms && inR m 0 (Zu q.Ze q.Atoms)),[]):=by
 refine Zbf9 _ _ _ ⟨_,Zmu q hq,?_⟩
 rcases tf (Zq q.Ze q.Atoms) with e | e
 ·rw [e];simp
 ·rw [e,if_pos rfl]
  refine ⟨by omega,_,Zcg _ _ _,?_⟩
  rw [show w (shlI 1 (q.Atoms.length:Int) - 1)=shlI 1 (q.Atoms.length:Int) - 1 from (Zgj e).2.2.1]
  unfold Zu
  rw [if_pos e];simp
theorem Z6w (q:Zc) (hq:LeQ q) (m:Int):Zja q m=some (Bo (Zq q.Ze q.Atoms && inR m 0 (Zu q.Ze q.Atoms)),[]):=by
 refine Zbh0 _ _ _ ⟨_,Zp4 q hq,?_⟩
 rcases tf (Zq q.Ze q.Atoms) with e | e
 ·rw [e];simp
 ·rw [e,if_pos rfl]
  refine ⟨by omega,_,Ze8 _ _ _,?_⟩
  rw [show w (shlI 1 (q.Atoms.length:Int) - 1)=shlI 1 (q.Atoms.length:Int) - 1 from (Zgj e).2.2.1]
  unfold Zu
  rw [if_pos e];simp
theorem Zqf {n:Int} {qa:List Atom} (hv:Zq n qa=true) {m:Int} (h:inR m 0 (Zu n qa)=true):MQ qa m:=by
 rw [Zcx hv] at h;simp [inR] at h;exact ⟨h.1,by omega⟩
def Zbb (n:Int) (qa:List Atom) (m:Int):Bool:=Zq n qa && inR m 0 (Zu n qa) && decide (m≠0) && conn qa m
theorem Z6x (q:Zc) (hq:LeQ q) (m:Int):Zgq q m=some (Bo (Zbb q.Ze q.Atoms m),[]):=by
 refine Zbgd _ _ _ ⟨_,Z6v q hq m,?_⟩
 unfold Zbb
 rcases tf (Zq q.Ze q.Atoms) with e | e
 ·rw [e];simp
 rcases tf (inR m 0 (Zu q.Ze q.Atoms)) with e1 | e1
 ·rw [e,e1];simp
 rw [e,e1,if_pos (by rfl)]
 have hm:=Zqf e e1
 by_cases h0:m=0
 ·refine ⟨false,Z3r _ _ _ (by rw [if_pos h0]),?_⟩
  simp [h0]
 ·exact ⟨_,Zqd q hq e m hm h0,by simp [h0]⟩
theorem Zwt (q:Zc) (hq:LeQ q) (m:Int):Ze0 q m=some (Bo (Zbb q.Ze q.Atoms m),[]):=by
 refine Zbh4 _ _ _ ⟨_,Z6w q hq m,?_⟩
 unfold Zbb
 rcases tf (Zq q.Ze q.Atoms) with e | e
 ·rw [e];simp
 rcases tf (inR m 0 (Zu q.Ze q.Atoms)) with e1 | e1
 ·rw [e,e1];simp
 rw [e,e1,if_pos (by rfl)]
 have hm:=Zqf e e1
 by_cases h0:m=0
 ·rw [if_neg (by omega)]
  simp [h0]
 ·rw [if_pos (by have:=hm.1;omega)]
  exact ⟨_,Zqe q hq e m hm,by simp [h0]⟩
def Zdq (qa:List Atom) (k n:Nat):List Int:=((List.range' k n).filter (fun m:Nat=>conn qa (m:Int))).map (fun m:Nat=>(m:Int))
theorem Z6y {qa:List Atom} {k n:Nat}:Zdq qa k (n+1)=(if conn qa (k:Int)=true then [(k:Int)] else [])++Zdq qa (k+1) n:=by
 unfold Zdq
 rw [List.range'_succ,List.filter_cons]
 split <;> simp
theorem Zbkh {qa:List Atom} {k n:Nat}:(Zdq qa k n).length≤n:=by
 unfold Zdq;rw [List.length_map];exact Nat.le_trans (List.length_filter_le _ _) (by simp)
theorem Zd5 (k:Nat):((2 ^ k:Nat):Int)=2 ^ k:=by simp
theorem Zbki (q:Zc) (hq:LeQ q) (hv:Zq q.Ze q.Atoms=true):∀ k:Nat,k≤2 ^ q.Atoms.length→1≤k→∀ out:List Int,out.length≤k →
  Zii q out k=some (.own 0,[.arr Zw 1 true ((out++Zdq q.Atoms k (2 ^ q.Atoms.length - k)).map ic)]):=by
 have hf:=Zcx hv
 have hp:=Zd5 q.Atoms.length
 have h16:2 ^ q.Atoms.length≤16:=Nat.pow_le_pow_right (by omega:0<2) (Zbe hv).2
 refine down _ ?_ ?_
 ·intro _ out _
  refine Z34 _ _ _ _ ⟨_,Zhr q hq,?_⟩
  rw [if_neg (by rw [hf];omega),Nat.sub_self]
  simp [Zdq]
 ·intro k hk ih h1 out ho
  have wk':w ((k:Int)+1)=(k:Int)+1:=wrap64 (by omega) (by omega)
  refine Z34 _ _ _ _ ⟨_,Zhr q hq,?_⟩
  rw [if_pos (by rw [hf];omega)]
  refine ⟨_,Zqd q hq hv k ⟨by omega,by omega⟩ (by omega),?_⟩
  rw [show 2 ^ q.Atoms.length - k=(2 ^ q.Atoms.length - (k+1))+1 by omega,Z6y,wk']
  rcases tf (conn q.Atoms k) with e | e
  ·have ih:=ih (by omega) out (by omega)
   rw [e,if_neg (by simp)]
   simpa using ih
  ·have ih:=ih (by omega) (out++[(k:Int)]) (by simp;omega)
   rw [e,if_pos rfl]
   refine ⟨by omega,?_⟩
   simpa using ih
def Zp (qa:List Atom):List Int:=Zdq qa 1 (2 ^ qa.length - 1)
theorem Z6z (q:Zc) (hq:LeQ q) (hv:Zq q.Ze q.Atoms=true):Zgu q=some (.own 0,[.arr Zw 1 true ((Zp q.Atoms).map ic)]):=by
 have hpos:1≤2 ^ q.Atoms.length:=Nat.one_le_two_pow
 have b:=Zbki q hq hv 1 hpos (Nat.le_refl _) [] (by simp)
 exact Zbgo _ _ (by simpa [Zp] using b)
theorem Zbkj (q:Zc) (hq:LeQ q) (hv:Zq q.Ze q.Atoms=true):∀ k:Nat,k≤2 ^ q.Atoms.length→1≤k→∀ out:List Int,out.length≤k →
  Zjq q out (Zu q.Ze q.Atoms) k=some (.own 0,[.arr Zw 1 true ((out++Zdq q.Atoms k (2 ^ q.Atoms.length - k)).map ic)]):=by
 have hf:=Zcx hv
 have hp:=Zd5 q.Atoms.length
 have h16:2 ^ q.Atoms.length≤16:=Nat.pow_le_pow_right (by omega:0<2) (Zbe hv).2
 refine down _ ?_ ?_
 ·intro _ out _
  refine Z5s _ _ _ _ _ ?_
  rw [if_neg (by rw [hf];omega),Nat.sub_self]
  simp [Zdq]
 ·intro k hk ih h1 out ho
  have wk':w ((k:Int)+1)=(k:Int)+1:=wrap64 (by omega) (by omega)
  refine Z5s _ _ _ _ _ ?_
  rw [if_pos (by rw [hf];omega)]
  refine ⟨_,Zqe q hq hv k ⟨by omega,by omega⟩,?_⟩
  rw [show 2 ^ q.Atoms.length - k=(2 ^ q.Atoms.length - (k+1))+1 by omega,Z6y,wk']
  rcases tf (conn q.Atoms k) with e | e
  ·have ih:=ih (by omega) out (by omega)
   rw [e,if_neg (by simp)]
   simpa using ih
  ·have ih:=ih (by omega) (out++[(k:Int)]) (by simp;omega)
   rw [e,if_pos rfl]
   refine ⟨by omega,?_⟩
   simpa using ih
theorem Zbkk (q:Zc) (hq:LeQ q) (hv:Zq q.Ze q.Atoms=true):Zpq q=some (.own 0,[.arr Zw 1 true ((Zp q.Atoms).map ic)]):=by
 have hpos:1≤2 ^ q.Atoms.length:=Nat.one_le_two_pow
 have b:=Zbkj q hq hv 1 hpos (Nat.le_refl _) [] (by simp)
 exact Zbio _ _ ⟨_,Ze9 q hq,by simpa [Zp] using b⟩
set_option maxRecDepth 100000 in
theorem f_diff:∀ a m:Fin 16,andI (a.1:Int) m.1=a.1→andNotI (m.1:Int) a.1=(m.1:Int) - a.1∧(a.1:Int)≤m.1∧andI (a.1:Int) ((m.1:Int) - a.1)=0∧orI (a.1:Int) ((m.1:Int) - a.1)=m.1:=by decide
def Zbu (qa:List Atom) (mask:Int) (x:Int):Bool:=decide (andI x mask=x) && (conn qa x && conn qa (mask - x))
def Zcy (qa:List Atom) (mask:Int) (k n:Nat):List Int:=((List.range' k n).filter (fun m:Nat=>Zbu qa mask (m:Int))).map (fun m:Nat=>(m:Int))
theorem Z60 {qa:List Atom} {mask:Int} {k n:Nat}:Zcy qa mask k (n+1)=(if Zbu qa mask (k:Int)=true then [(k:Int)] else [])++Zcy qa mask (k+1) n:=by
 unfold Zcy
 rw [List.range'_succ,List.filter_cons]
 split <;> simp
def Zs (qa:List Atom) (mask:Int):List Int:=Zcy qa mask 1 (mask.toNat - 1)
theorem Zbkl (q:Zc) (hq:LeQ q) (hv:Zq q.Ze q.Atoms=true) (mask:Nat) (hm:MQ q.Atoms mask):∀ k:Nat,k≤mask→1≤k→∀ out:List Int,out.length≤k →
  Zew q out mask k=some (.own 0,[.arr Zw 1 true ((out++Zcy q.Atoms mask k (mask - k)).map ic)]):=by
 have m16':=(hm.m16 hv).1
 refine down _ ?_ ?_
 ·intro _ out _
  refine Z4k _ _ _ _ _ ?_
  rw [if_neg (by omega),Nat.sub_self]
  simp [Zcy]
 ·intro k hk ih h1 out ho
  have wk':w ((k:Int)+1)=(k:Int)+1:=wrap64 (by omega) (by omega)
  refine Z4k _ _ _ _ _ ?_
  rw [if_pos (by omega),show mask - k=(mask - (k+1))+1 by omega,Z60,wk']
  have skip:Zbu q.Atoms mask k=false→Zew q out mask ((k:Int)+1)=some (.own 0,[.arr Zw 1 true ((out++((if Zbu q.Atoms mask (k:Int)=true then [(k:Int)] else [])++Zcy q.Atoms mask (k+1) (mask - (k+1)))).map ic)]):=by
   intro e
   have ih:=ih (by omega) out (by omega)
   rw [e]
   simpa using ih
  by_cases e1:andI (k:Int) mask=k
  ·obtain ⟨d1,d2,_⟩:=f_diff ⟨k,by omega⟩ ⟨mask,by omega⟩ e1
   simp only at d1 d2
   rw [if_pos e1]
   refine ⟨_,Zqd q hq hv k ⟨by omega,by have:=hm.2;omega⟩ (by omega),?_⟩
   rcases tf (conn q.Atoms k) with e2 | e2
   ·rw [e2,if_neg (by simp)]
    exact skip (by simp [Zbu,e2])
   ·rw [e2,if_pos rfl,d1]
    refine ⟨_,Zqd q hq hv ((mask:Int) - k) ⟨by omega,by have:=hm.2;omega⟩ (by omega),?_⟩
    rcases tf (conn q.Atoms ((mask:Int) - k)) with e3 | e3
    ·rw [e3,if_neg (by simp)]
     exact skip (by simp [Zbu,e3])
    ·rw [e3,if_pos rfl]
     have es:Zbu q.Atoms mask k=true:=by simp [Zbu,e1,e2,e3]
     rw [es,if_pos rfl]
     have ih:=ih (by omega) (out++[(k:Int)]) (by simp;omega)
     exact ⟨by omega,by simpa using ih⟩
  ·rw [if_neg e1]
   exact skip (by simp [Zbu,e1])
theorem Zwu (q:Zc) (hq:LeQ q) (m:Int) (hc:Zbb q.Ze q.Atoms m=true):Zc4 q m=some (.own 0,[.arr Zw 1 true ((Zs q.Atoms m).map ic)]):=by
 have hc':=hc
 simp only [Zbb,Bool.and_eq_true,decide_eq_true_eq] at hc'
 obtain ⟨⟨⟨hv,hr⟩,h0⟩,_⟩:=hc'
 have hm:=Zqf hv hr
 obtain ⟨k,rfl⟩:∃ k:Nat,m=k:=⟨m.toNat,by have:=hm.1;omega⟩
 refine Zbha _ _ _ ⟨_,Z6x q hq k,?_⟩
 rw [hc,if_pos rfl]
 have b:=Zbkl q hq hv k hm 1 (by omega) (Nat.le_refl _) [] (by simp)
 simpa [Zs] using b
theorem Zbkm (q:Zc) (hq:LeQ q) (hv:Zq q.Ze q.Atoms=true) (mask:Nat) (hm:MQ q.Atoms mask):∀ k:Nat,k≤mask→1≤k→∀ out:List Int,out.length≤k →
  Ze4 q out mask k=some (.own 0,[.arr Zw 1 true ((out++Zcy q.Atoms mask k (mask - k)).map ic)]):=by
 have m16':=(hm.m16 hv).1
 refine down _ ?_ ?_
 ·intro _ out _
  refine Z5t _ _ _ _ _ ?_
  rw [if_neg (by omega),Nat.sub_self]
  simp [Zcy]
 ·intro k hk ih h1 out ho
  have wk':w ((k:Int)+1)=(k:Int)+1:=wrap64 (by omega) (by omega)
  have wd:w ((mask:Int) - k)=(mask:Int) - k:=wrap64 (by omega) (by omega)
  refine Z5t _ _ _ _ _ ?_
  rw [if_pos (by omega),show mask - k=(mask - (k+1))+1 by omega,Z60,wk',wd]
  have skip:Zbu q.Atoms mask k=false→Ze4 q out mask ((k:Int)+1)=some (.own 0,[.arr Zw 1 true ((out++((if Zbu q.Atoms mask (k:Int)=true then [(k:Int)] else [])++Zcy q.Atoms mask (k+1) (mask - (k+1)))).map ic)]):=by
   intro e
   have ih:=ih (by omega) out (by omega)
   rw [e]
   simpa using ih
  by_cases e1:andI (k:Int) mask=k
  ·rw [if_pos e1]
   refine ⟨_,Zqe q hq hv k ⟨by omega,by have:=hm.2;omega⟩,?_⟩
   rcases tf (conn q.Atoms k) with e2 | e2
   ·rw [e2,if_neg (by simp)]
    exact skip (by simp [Zbu,e2])
   ·rw [e2,if_pos rfl]
    refine ⟨_,Zqe q hq hv ((mask:Int) - k) ⟨by omega,by have:=hm.2;omega⟩,?_⟩
    rcases tf (conn q.Atoms ((mask:Int) - k)) with e3 | e3
    ·rw [e3,if_neg (by simp)]
     exact skip (by simp [Zbu,e3])
    ·rw [e3,if_pos rfl]
     have es:Zbu q.Atoms mask k=true:=by simp [Zbu,e1,e2,e3]
     rw [es,if_pos rfl]
     have ih:=ih (by omega) (out++[(k:Int)]) (by simp;omega)
     exact ⟨by omega,by simpa using ih⟩
  ·rw [if_neg e1]
   exact skip (by simp [Zbu,e1])
theorem Zbkn (q:Zc) (hq:LeQ q) (m:Int) (hc:Zbb q.Ze q.Atoms m=true):Zpr q m=some (.own 0,[.arr Zw 1 true ((Zs q.Atoms m).map ic)]):=by
 have hc':=hc
 simp only [Zbb,Bool.and_eq_true,decide_eq_true_eq] at hc'
 obtain ⟨⟨⟨hv,hr⟩,h0⟩,_⟩:=hc'
 have hm:=Zqf hv hr
 obtain ⟨k,rfl⟩:∃ k:Nat,m=k:=⟨m.toNat,by have:=hm.1;omega⟩
 refine Zbip _ _ _ ⟨_,Zwt q hq k,?_⟩
 rw [hc,if_pos rfl]
 have b:=Zbkm q hq hv k hm 1 (by omega) (Nat.le_refl _) [] (by simp)
 simpa [Zs] using b
def Zga (m:Int) (k n:Nat):List Int:=((List.range' k n).filter (fun i:Nat=>Zt m i)).map (fun i:Nat=>(i:Int))
theorem Z61 {m:Int} {k n:Nat}:Zga m k (n+1)=(if Zt m k=true then [(k:Int)] else [])++Zga m (k+1) n:=by
 unfold Zga
 rw [List.range'_succ,List.filter_cons]
 split <;> simp
def Zca (m:Int):List Int:=Zga m 0 4
theorem Zbko (m:Int):∀ k:Nat,k≤4→∀ out:List Int,out.length≤k→Zir out m k=some (.own 0,[.arr Zw 1 true ((out++Zga m k (4 - k)).map ic)]):=by
 refine down _ ?_ ?_
 ·intro out _
  refine Z4g _ _ _ _ ?_
  rw [if_neg (by omega)];simp [Zga]
 ·intro k hk ih out ho
  have wk':w ((k:Int)+1)=(k:Int)+1:=wrap64 (by omega) (by omega)
  refine Z4g _ _ _ _ ?_
  rw [if_pos (by omega),show 4 - k=(4 - (k+1))+1 by omega,Z61,wk']
  refine ⟨by omega,?_⟩
  by_cases e:andI (shrI m k) 1=1
  ·have ih:=ih (out++[(k:Int)]) (by simp;omega)
   rw [if_pos e,if_pos (by simp [Zt,e])]
   exact ⟨by omega,by simpa using ih⟩
  ·have ih:=ih out (by omega)
   rw [if_neg e,if_neg (by simp [Zt,e])]
   simpa using ih
theorem Zbkp {m:Int} (hm:M16 m):Ziq m=some (.own 0,[.arr Zw 1 true ((Zca m).map ic)]):=by
 have b:=Zbko m 0 (by omega) [] (by simp)
 refine Zbg1 _ _ ⟨_,Zcg _ _ _,?_⟩
 rw [if_pos (by simp [inR];omega)]
 simpa [Zca] using b
theorem Zbkq (m:Int) (hm:M16 m):∀ k:Nat,k≤4→∀ out:List Int,out.length≤k→Zjt out m k=some (.own 0,[.arr Zw 1 true ((out++Zga m k (4 - k)).map ic)]):=by
 refine down _ ?_ ?_
 ·intro out _
  refine Z5x _ _ _ _ ?_
  rw [if_neg (by omega)];simp [Zga]
 ·intro k hk ih out ho
  have wk':w ((k:Int)+1)=(k:Int)+1:=wrap64 (by omega) (by omega)
  refine Z5x _ _ _ _ ?_
  rw [if_pos (by omega),show 4 - k=(4 - (k+1))+1 by omega,Z61,wk']
  refine ⟨_,Ze8 _ _ _,?_⟩
  rw [if_pos (by simp [inR];omega)]
  refine ⟨by omega,?_⟩
  by_cases e:andI (shrI m k) 1=1
  ·have ih:=ih (out++[(k:Int)]) (by simp;omega)
   rw [if_pos e,if_pos (by simp [Zt,e])]
   exact ⟨by omega,by simpa using ih⟩
  ·have ih:=ih out (by omega)
   rw [if_neg e,if_neg (by simp [Zt,e])]
   simpa using ih
theorem Zbkr {m:Int} (hm:M16 m):Zmi m=some (.own 0,[.arr Zw 1 true ((Zca m).map ic)]):=by
 have b:=Zbkq m hm 0 (by omega) [] (by simp)
 exact Zbit _ _ (by simpa [Zca] using b)
structure Zht (n:Nat) (x:Zb) (y:Zk):Prop where
 kind:1≤x.Kind∧x.Kind≤5
 refs:(y.Left=-1∧y.Right=-1)∨((0≤y.Left∧y.Left.toNat<n)∧(y.Right=-1∨(0≤y.Right∧y.Right.toNat<n)))
theorem Zht.mono {n k:Nat} {x:Zb} {y:Zk} (h:Zht n x y) (hk:n≤k):Zht k x y:=by
 refine ⟨h.kind,h.refs.imp id fun ⟨⟨a,b⟩,c⟩=>⟨⟨a,by omega⟩,c.imp id fun ⟨d,e⟩=>⟨d,by omega⟩⟩⟩
theorem Z62 {qa:List Atom} {x:Zb} {info:List Zk} {st:List Int} {y:Zk} (hs:StOk info st) (h:Zcm qa x info st=some y):Zht info.length x y:=by
 unfold Zcm at h
 split at h
 ·rename_i k1
  split at h
  ·cases h;exact ⟨by omega,.inl ⟨rfl,rfl⟩⟩
  ·cases h
 ·rename_i k1
  split at h
  ·cases h
  ·split at h
   ·rename_i k2
    split at h
    ·rename_i s y' ht
     split at h
     ·cases h
      obtain ⟨_,t2,t3,_⟩:=Zet hs (Nat.le_refl 1) ht
      exact ⟨by omega,.inr ⟨⟨t2,t3⟩,.inl rfl⟩⟩
     ·cases h
    ·cases h
   ·rename_i k2
    split at h
    ·rename_i s y' t z ht hu
     split at h
     ·obtain ⟨_,t2,t3,_⟩:=Zet hs (by omega:1≤2) ht
      obtain ⟨_,u2,u3,_⟩:=Zet hs (by omega:1≤1) hu
      obtain ⟨o,ho,rfl⟩:=Option.map_eq_some_iff.1 h
      have hk:x.Kind=3∨x.Kind=4∨x.Kind=5:=by
       unfold Zdx at ho
       split at ho
       ·omega
       ·split at ho
        ·omega
        ·split at ho
         ·omega
         ·cases ho
      exact ⟨by omega,.inr ⟨⟨t2,t3⟩,.inr ⟨u2,u3⟩⟩⟩
     ·cases h
    ·cases h
theorem Z63 {qa:List Atom}:∀ {xs:List Zb} {i:Nat} {info:List Zk} {st:List Int} {info':List Zk} {st':List Int},Zbm qa xs i info st=some (info',st') →
  StOk info st→info.length=i→∃ tail,info'=info++tail∧tail.length=xs.length∧∀ (j:Nat) (y:Zk) (x:Zb),tail[j]?=some y→xs[j]?=some x→Zht (i+j) x y
 | [],i,info,st,info',st',h,hs,hi=>by
  simp [Zbm] at h
  obtain ⟨rfl,rfl⟩:=h
  exact ⟨[],by simp,rfl,by intro j y x hj;simp at hj⟩
 | x::xs,i,info,st,info',st',h,hs,hi=>by
  rw [Zbm] at h
  split at h
  ·cases h
  ·rename_i y hy
   have hn:=Znw hs y (st.length - pops y)
   rw [hi] at hn
   obtain ⟨tail,g2,g3,g4⟩:=Z63 h hn (by simp [hi])
   refine ⟨y::tail,by simp [g2],by simp [g3],?_⟩
   intro j y' x' hj hx
   cases j with
   | zero=>simp at hj hx;subst hj;subst hx;have:=Z62 hs hy;rw [hi] at this;exact this
   | succ j=>exact (g4 j y' x' (by simpa using hj) (by simpa using hx)).mono (by omega)
theorem Zbks {n:Int} {qa:List Atom} {steps:List Zb} {info:List Zk} (h:Zb4 n qa steps=some info):∀ (j:Nat) (y:Zk) (x:Zb),info[j]?=some y→steps[j]?=some x→Zht j x y:=by
 unfold Zb4 at h
 split at h
 ·split at h
  ·rename_i info' st hg
   split at h
   ·cases h
    obtain ⟨tail,g2,g3,g4⟩:=Z63 hg (fun s hs=>by cases hs) rfl
    simp at g2
    subst g2
    intro j y x a b
    have:=g4 j y x a b
    simpa using this
   ·cases h
  ·cases h
 ·cases h
def Zgb (xs:List Int):Bool:=xs.all (fun x=>inR x 0 4096)
def Zbv (n:Int) (qa:List Atom) (xs:List Int):Bool:=Zq n qa && decide ((xs.length:Int)=Zu n qa+1) && Zgb xs
theorem Zbkt (q:Zc) (hq:LeQ q) (xs:List Int) (hx:Le xs):∀ i,i≤xs.length→Zlb q xs xs xs.length i=some (Bo (Zgb (xs.drop i) && (Zq q.Ze q.Atoms && decide ((xs.length:Int)=Zu q.Ze q.Atoms+1))),[]):=by
 refine down _ ?_ ?_
 ·refine Z4f _ _ _ _ _ _ ?_
  rw [if_neg (by omega)]
  refine ⟨_,Zmu q hq,?_⟩
  rcases tf (Zq q.Ze q.Atoms) with e | e
  ·rw [e];simp
  ·rw [e,if_pos rfl]
   refine ⟨_,Zhr q hq,?_⟩
   rw [show w (Zu q.Ze q.Atoms+1)=Zu q.Ze q.Atoms+1 from Zyl _ _]
   simp [Zgb]
 ·intro i hi ih
  have h4:=inc64 (i:=i) (by omega)
  refine Z4f _ _ _ _ _ _ ?_
  rw [if_pos (by omega)]
  refine ⟨by omega,xs[i],by rw [Int.toNat_natCast];exact List.getElem?_eq_getElem hi,_,Zcg _ _ _,?_⟩
  unfold Zgb at ih ⊢
  rw [Zkl _ hi]
  simp only [Int.natCast_add,Int.cast_ofNat_Int] at ih
  rcases tf (inR xs[i] 0 4096) with e | e
  ·rw [e];simp
  ·rw [e,if_pos rfl,show w ((i:Int)+1)=(i:Int)+1 from h4,ih];simp
theorem Z64 (q:Zc) (hq:LeQ q) (xs:List Int) (hx:Le xs):Zg2 q xs=some (Bo (Zbv q.Ze q.Atoms xs),[]):=by
 have b:=Zbkt q hq xs hx 0 (Nat.zero_le _)
 refine Zbg0 _ _ _ (Eq.trans b ?_)
 rw [List.drop_zero,Zbv,Bool.and_comm]
theorem Zbku (xs:List Int) (hx:Le xs):∀ i,i≤xs.length→Zmd xs i=some (Bo (Zgb (xs.drop i)),[]):=by
 refine down _ ?_ ?_
 ·refine Z5r _ _ _ ?_
  rw [if_neg (by omega)];simp [Zgb]
 ·intro i hi ih
  have h4:=inc64 (i:=i) (by omega)
  refine Z5r _ _ _ ?_
  rw [if_pos (by omega)]
  refine ⟨by omega,xs[i],by rw [Int.toNat_natCast];exact List.getElem?_eq_getElem hi,_,Ze8 _ _ _,?_⟩
  unfold Zgb at ih ⊢
  rw [Zkl _ hi]
  simp only [Int.natCast_add,Int.cast_ofNat_Int] at ih
  rcases tf (inR xs[i] 0 4096) with e | e
  ·rw [e];simp
  ·rw [e,if_pos rfl,show w ((i:Int)+1)=(i:Int)+1 from h4,ih];simp
theorem Zbkv (q:Zc) (hq:LeQ q) (xs:List Int) (hx:Le xs):Zmc q xs=some (Bo (Zbv q.Ze q.Atoms xs),[]):=by
 have b:=Zbku xs hx 0 (Nat.zero_le _)
 refine Zbin _ _ _ ⟨_,Zp4 q hq,?_⟩
 unfold Zbv
 rcases tf (Zq q.Ze q.Atoms) with e | e
 ·rw [e];simp
 rw [e,if_pos rfl]
 refine ⟨_,Ze9 q hq,?_⟩
 rw [show w (Zu q.Ze q.Atoms+1)=Zu q.Ze q.Atoms+1 from Zyl _ _]
 by_cases e2:(xs.length:Int)=Zu q.Ze q.Atoms+1
 ·rw [if_pos e2,decide_eq_true e2]
  refine Eq.trans b ?_
  simp
 ·rw [if_neg e2,decide_eq_false e2];simp
def szAt (sizes:List Int) (m:Int):Int:=(sizes[m.toNat]?).getD 0
def Zb1 (info:List Zk) (i:Int):Int:=match info[i.toNat]? with | some y=>y.Mask | none=>0
def Zcp (m:Zd) (info:List Zk) (sizes:List Int) (x:Zb) (y:Zk):Int :=
 Z5 (mOp m x.Kind) (if y.Left<0 then szAt sizes y.Mask else szAt sizes (Zb1 info y.Left)) (if y.Right<0 then 0 else szAt sizes (Zb1 info y.Right)) (szAt sizes y.Mask)
def Zdr (m:Zd) (info:List Zk) (sizes:List Int):List Zb→List Zk→List Int
 | x::xs,y::ys=>Zcp m info sizes x y::Zdr m info sizes xs ys
 | _,_=>[]
theorem Zbkw (m:Zd) (info:List Zk) (sizes:List Int) {xs:List Zb} {ys:List Zk} {i:Nat} (hx:i<xs.length) (hy:i<ys.length) :
  Zdr m info sizes (xs.drop i) (ys.drop i)=Zcp m info sizes xs[i] ys[i]::Zdr m info sizes (xs.drop (i+1)) (ys.drop (i+1)):=by
 rw [List.drop_eq_getElem_cons hx,List.drop_eq_getElem_cons hy,Zdr]
theorem sz_get {qa:List Atom} {n:Int} {sizes:List Int} (hs:Zbv n qa sizes=true) {y:Zk} (hm:Zgl qa.length y):sizes[y.Mask.toNat]?=some (szAt sizes y.Mask):=by
 simp only [Zbv,Bool.and_eq_true,decide_eq_true_eq] at hs
 have hf:=Zcx hs.1.1
 have hlt:y.Mask.toNat<sizes.length:=by have:=hm.1;have:=hm.2;omega
 simp [szAt,List.getElem?_eq_getElem hlt]
theorem Z65 {info:List Zk} {i:Int} {n:Nat} (h:0≤i∧i.toNat<n) (hn:n≤info.length):∃ y,info[i.toNat]?=some y∧y∈info∧Zb1 info i=y.Mask:=by
 have hlt:i.toNat<info.length:=by omega
 exact ⟨info[i.toNat],List.getElem?_eq_getElem hlt,List.getElem_mem hlt,by simp [Zb1,List.getElem?_eq_getElem hlt]⟩
def Zgc (m:Zd) (n:Int) (qa:List Atom) (steps:List Zb) (sizes:List Int):List Int:=match Zb4 n qa steps with
 | some info=>if Zbv n qa sizes=true then Zdr m info sizes steps info else []
 | none=>[]
theorem Z66 (m:Zd):Zec m=some (.bsl 1 5,[.box (m.c.map .t),.box [.ptr 0 0,.ptr 0 6,.ptr 0 12,.ptr 0 18,.ptr 0 24]]):=Z3s _ _ rfl
theorem kinds {k:Int} (h:1≤k∧k≤5):k=1∨k=2∨k=3∨k=4∨k=5:=by omega
theorem j_SC (m:Zd) (hm:LeM m) (info:List Zk) (out:List Int) (ho:out.length≤100) (x:Zb) (hk:1≤x.Kind∧x.Kind≤5) (sizes:List Int) (i:Nat) (y:Zk) (hy:info[i]?=some y) (hy0:0≤y.Mask) (hs:sizes[y.Mask.toNat]?=some (szAt sizes y.Mask)) (l r:Int) (x1:List Zb) (x2 x3:Int) (res:AV×List Blk)
  (h:Zbc m info (out++[Z5 (mOp m x.Kind) l r (szAt sizes y.Mask)]) sizes x1 x2 (w (x3+1))=some res):Zit m info out x sizes i l r x1 x2 x3=some res:=by
 refine Zbg7 _ _ _ _ _ _ _ _ _ _ _ _ ⟨Z66 m,?_⟩
 have ho':out.length+1≤68719476736:=by omega
 obtain ⟨m1,m2,m3,m4,m5⟩:=hm
 have hi:info[((i:Nat):Int).toNat]?=some y:=by rw [Int.toNat_natCast];exact hy
 have hi0:(0:Int)≤(i:Int):=by omega
 rcases kinds hk with e | e | e | e | e <;> rw [e] at h ⊢
 ·rw [if_pos (by decide)];exact ⟨hi0,y,hi,hy0,_,hs,_,Zej _ m1 _ _ _,ho',h⟩
 ·rw [if_neg (by decide),if_pos (by decide)];exact ⟨hi0,y,hi,hy0,_,hs,_,Zej _ m2 _ _ _,ho',h⟩
 ·rw [if_neg (by decide),if_neg (by decide),if_pos (by decide)];exact ⟨hi0,y,hi,hy0,_,hs,_,Zej _ m3 _ _ _,ho',h⟩
 ·rw [if_neg (by decide),if_neg (by decide),if_neg (by decide),if_pos (by decide)];exact ⟨hi0,y,hi,hy0,_,hs,_,Zej _ m4 _ _ _,ho',h⟩
 ·rw [if_neg (by decide),if_neg (by decide),if_neg (by decide),if_neg (by decide),if_pos (by decide)];exact ⟨hi0,y,hi,hy0,_,hs,_,Zej _ m5 _ _ _,ho',h⟩
theorem j_SCa (m:Zd) (hm:LeM m) (info:List Zk) (out:List Int) (ho:out.length≤100) (x:Zb) (hk:1≤x.Kind∧x.Kind≤5) (sizes:List Int) (i:Nat) (y:Zk) (hy:info[i]?=some y) (hy0:0≤y.Mask) (hs:sizes[y.Mask.toNat]?=some (szAt sizes y.Mask)) (l r:Int) (x1:List Zb) (x2 x3:Int) (f:Bool) (res:AV×List Blk)
  (h:Zbc m info (out++[Z5 (mOp m x.Kind) l r (szAt sizes y.Mask)]) sizes x1 x2 (w (x3+1))=some res):Ziu m info out x sizes i l r x1 x2 x3 f=some res:=by
 refine Zbg8 _ _ _ _ _ _ _ _ _ _ _ _ _ ⟨Z66 m,?_⟩
 have ho':out.length+1≤68719476736:=by omega
 obtain ⟨m1,m2,m3,m4,m5⟩:=hm
 have hi:info[((i:Nat):Int).toNat]?=some y:=by rw [Int.toNat_natCast];exact hy
 have hi0:(0:Int)≤(i:Int):=by omega
 rcases kinds hk with e | e | e | e | e <;> rw [e] at h ⊢
 ·rw [if_pos (by decide)];exact ⟨hi0,y,hi,hy0,_,hs,_,Zej _ m1 _ _ _,ho',h⟩
 ·rw [if_neg (by decide),if_pos (by decide)];exact ⟨hi0,y,hi,hy0,_,hs,_,Zej _ m2 _ _ _,ho',h⟩
 ·rw [if_neg (by decide),if_neg (by decide),if_pos (by decide)];exact ⟨hi0,y,hi,hy0,_,hs,_,Zej _ m3 _ _ _,ho',h⟩
 ·rw [if_neg (by decide),if_neg (by decide),if_neg (by decide),if_pos (by decide)];exact ⟨hi0,y,hi,hy0,_,hs,_,Zej _ m4 _ _ _,ho',h⟩
 ·rw [if_neg (by decide),if_neg (by decide),if_neg (by decide),if_neg (by decide),if_pos (by decide)];exact ⟨hi0,y,hi,hy0,_,hs,_,Zej _ m5 _ _ _,ho',h⟩
theorem Zbkx {m:Zd} (hm:LeM m) {n:Int} {qa:List Atom} {steps:List Zb} {info:List Zk} {sizes:List Int} (hi:Zb4 n qa steps=some info) (hs:Zbv n qa sizes=true):∀ i,i≤steps.length→∀ out:List Int,out.length=i →
  Zbc m info out sizes steps steps.length i=some (.own 0,[.arr Zw 1 true ((out++Zdr m info sizes (steps.drop i) (info.drop i)).map ic)]):=by
 obtain ⟨l1,l2,l3,l4⟩:=Znx hi
 obtain ⟨p1,_⟩:=Zbat hi
 refine down _ ?_ ?_
 ·intro out _
  refine Z4i _ _ _ _ _ _ _ _ ?_
  rw [if_neg (by omega),List.drop_length]
  simp [Zdr]
 ·intro i h' ih out ho
  have h4:=inc64 (i:=i) (by omega)
  have h:i<info.length:=by omega
  have ok:=Zbks hi i info[i] steps[i] (List.getElem?_eq_getElem h) (List.getElem?_eq_getElem h')
  have s0:=sz_get hs (p1 _ (List.getElem_mem h))
  have hm0:=(p1 _ (List.getElem_mem h)).1
  have ih:=ih (out++[Zcp m info sizes steps[i] info[i]]) (by simp [ho])
  simp only [Int.natCast_add,Int.cast_ofNat_Int,List.append_assoc,List.singleton_append] at ih
  rw [← Zbkw m info sizes h' h,← show w ((i:Int)+1)=(i:Int)+1 from h4] at ih
  unfold Zcp at ih
  refine Z4i _ _ _ _ _ _ _ _ ?_
  rw [if_pos (by omega)]
  refine ⟨by omega,steps[i],by rw [Int.toNat_natCast];exact List.getElem?_eq_getElem h',info[i],by rw [Int.toNat_natCast];exact List.getElem?_eq_getElem h,hm0,_,s0,?_⟩
  rcases ok.refs with ⟨a,b⟩ | ⟨a,b⟩
  ·have c1:info[i].Left<0:=by omega
   have c2:info[i].Right<0:=by omega
   have d1:¬ 0≤info[i].Left:=by omega
   have d2:¬ 0≤info[i].Right:=by omega
   simp only [if_pos c1,if_pos c2] at ih
   simp only [if_neg d1,if_neg d2]
   exact j_SCa m hm info out (by omega) _ ok.kind sizes i info[i] (List.getElem?_eq_getElem h) hm0 s0 _ _ _ _ _ _ _ ih
  ·obtain ⟨y1,y2,y3,y4⟩:=Z65 a (by omega:i≤info.length)
   have s1:=sz_get hs (p1 _ y3)
   have hm1:=(p1 _ y3).1
   have c1:¬ info[i].Left<0:=by omega
   simp only [if_neg c1,y4] at ih
   rw [if_pos a.1]
   refine ⟨y1,y2,hm1,_,s1,?_⟩
   rcases b with b | b
   ·have c2:info[i].Right<0:=by omega
    have d2:¬ 0≤info[i].Right:=by omega
    simp only [if_pos c2] at ih
    rw [if_neg d2]
    exact j_SCa m hm info out (by omega) _ ok.kind sizes i info[i] (List.getElem?_eq_getElem h) hm0 s0 _ _ _ _ _ _ _ ih
   ·obtain ⟨z1,z2,z3,z4⟩:=Z65 b (by omega:i≤info.length)
    have s2:=sz_get hs (p1 _ z3)
    have hm2:=(p1 _ z3).1
    have c2:¬ info[i].Right<0:=by omega
    simp only [if_neg c2,z4] at ih
    rw [if_pos b.1]
    refine ⟨z1,z2,hm2,_,s2,?_⟩
    exact j_SC m hm info out (by omega) _ ok.kind sizes i info[i] (List.getElem?_eq_getElem h) hm0 s0 _ _ _ _ _ _ ih
theorem Zwv {m:Zd} {info:List Zk} {sizes:List Int}:∀ {xs:List Zb} {ys:List Zk},xs.length=ys.length→(Zdr m info sizes xs ys).length=xs.length
 | [],[],_=>rfl
 | [],_::_,h=>by simp at h
 | _::_,[],h=>by simp at h
 | x::xs,y::ys,h=>by rw [Zdr,List.length_cons,Zwv (by simpa using h)];rfl
def Zhu (n:Int) (qa:List Atom) (steps:List Zb) (sizes:List Int):Bool:=(Zb4 n qa steps).isSome && Zbv n qa sizes
theorem Zbky {m:Zd} {n:Int} {qa:List Atom} {steps:List Zb} {sizes:List Int}:Zgc m n qa steps sizes≠[]↔Zhu n qa steps sizes=true:=by
 unfold Zgc Zhu
 cases hi:Zb4 n qa steps with
 | none=>simp
 | some info =>
  obtain ⟨l1,l2,l3,l4⟩:=Znx hi
  rcases tf (Zbv n qa sizes) with e | e
  ·simp [e]
  ·have:=Zwv (m:=m) (info:=info) (sizes:=sizes) (xs:=steps) (ys:=info) l2.symm
   simp only [e,if_true,Option.isSome_some,Bool.and_self,iff_true]
   intro hc
   rw [hc] at this
   simp at this
   omega
theorem Zbkz (m:Zd) (hm:LeM m) (q:Zc) (hq:LeQ q) (p:Plan) (sizes:List Int) (hs:Le sizes) :
  Zg4 m q p sizes=if Zhu q.Ze q.Atoms p.Steps sizes=true then some (.own 0,[.arr Zw 1 true ((Zgc m q.Ze q.Atoms p.Steps sizes).map ic)]) else some (.t .nil,[]):=by
 have q1:=Zbjh q p hq
 unfold Zgc Zhu
 cases hi:Zb4 q.Ze q.Atoms p.Steps with
 | none=>rw [hi] at q1;simp only [Option.isSome_none,Bool.false_and,Bool.false_eq_true,if_false];exact Zwb _ _ _ _ _ (.inl ⟨q1,rfl⟩)
 | some info =>
  rw [hi] at q1
  have hv:=Z64 q hq sizes hs
  rcases tf (Zbv q.Ze q.Atoms sizes) with e | e
  ·simp only [e,Option.isSome_some,Bool.and_false,Bool.false_eq_true,if_false]
   exact Zwb _ _ _ _ _ (.inr ⟨info,q1,false,by rw [hv,e],by rw [if_neg (by simp)]⟩)
  ·simp only [e,Option.isSome_some,Bool.and_self,if_true]
   refine Zwb _ _ _ _ _ (.inr ⟨info,q1,true,by rw [hv,e],?_⟩)
   rw [if_pos rfl]
   have b:=Zbkx hm hi e 0 (Nat.zero_le _) [] rfl
   simpa using b
def sumW (xs:List Int) (n:Int):Int:=xs.foldl (fun a b=>w (a+b)) n
theorem l_sum (xs:List Int) (hx:Le xs):∀ i,i≤xs.length→∀ n,Zli n xs xs.length i=some (I (sumW (xs.drop i) n),[]):=by
 refine down _ ?_ ?_
 ·intro n
  refine Z4j _ _ _ _ _ ?_
  simp [sumW]
 ·intro i hi ih n
  have h4:=inc64 (i:=i) (by omega)
  refine Z4j _ _ _ _ _ ?_
  simp only [Int.natCast_add,Int.cast_ofNat_Int] at ih
  rw [List.drop_eq_getElem_cons hi,sumW,List.foldl_cons]
  simp [hi,h4,ih,sumW]
theorem x_sum (xs:List Int) (hx:Le xs):Zlh xs=some (I (sumW xs 0),[]):=Zbg6 _ _ (l_sum xs hx 0 (Nat.zero_le _) 0)
def Zfe (m:Zd) (n:Int) (qa:List Atom) (steps:List Zb) (sizes:List Int):Int:=if Zhu n qa steps sizes=true then sumW (Zgc m n qa steps sizes) 0 else -1
theorem Zbk0 {m:Zd} {n:Int} {qa:List Atom} {steps:List Zb} {sizes:List Int}:(Zgc m n qa steps sizes).length≤14:=by
 unfold Zgc
 cases hi:Zb4 n qa steps with
 | none=>simp
 | some info =>
  obtain ⟨l1,l2,l3,l4⟩:=Znx hi
  simp only
  split
  ·rw [Zwv l2.symm];omega
  ·simp
theorem Z67 (m:Zd) (hm:LeM m) (q:Zc) (hq:LeQ q) (p:Plan) (sizes:List Int) (hs:Le sizes):Zg5 m q p sizes=some (I (Zfe m q.Ze q.Atoms p.Steps sizes),[]):=by
 have h1:=Zbkz m hm q hq p sizes hs
 refine Zbg9 _ _ _ _ _ ?_
 unfold Zfe
 rcases tf (Zhu q.Ze q.Atoms p.Steps sizes) with e | e
 ·rw [e,if_neg (by simp)] at h1
  rw [e]
  exact .inl ⟨h1,by simp⟩
 ·rw [e,if_pos rfl] at h1
  rw [e]
  exact .inr ⟨_,h1,Zbky.2 e,_,x_sum _ (by have:=Zbk0 (m:=m) (n:=q.Ze) (qa:=q.Atoms) (steps:=p.Steps) (sizes:=sizes);omega),by simp⟩
end Go.Proofs.YtgnfoghkbpkgjaaGreat
