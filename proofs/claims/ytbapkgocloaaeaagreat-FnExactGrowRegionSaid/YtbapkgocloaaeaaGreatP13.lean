/-
  Parts of the proofs for this seat: OP AD MK SP PC PC2 LS ID.
-/
import Derived.Test.YtbapkgocloaaeaaGreatP12
set_option linter.unusedSimpArgs false
set_option linter.unusedVariables false
set_option maxRecDepth 100000
set_option maxHeartbeats 4000000
/- part: OP -/
namespace Go.Proofs.YtbapkgocloaaeaaGreat
open Go.AM
def Zde:Int→List Zf→Bool
 | _,[]=>true
 | p,s::r=>inR s.From 1 8192 && inR s.Add (-99) 99 && decide (p<s.From) && Zde s.From r
def Zce (l:List Zf):Nat→Int
 | 0=>0
 | i+1=>match l[i]? with | some s=>s.From | none=>0
def Zcf (n:Int):Bool:=inR n (-99) 99
def Zba (o:Zh):Bool:=Zcf o.Fixed && Zcf o.Zi && Zcf o.Zj && Zcf o.Zl && Zcf o.Zk && decide (o.Steps.length≤4) && Zde 0 o.Steps
theorem Z10 (p:Int) {l:List Zf} {i:Nat} (h:i<l.length):Zde p (l.drop i)=(inR l[i].From 1 8192 && inR l[i].Add (-99) 99 && decide (p<l[i].From) && Zde l[i].From (l.drop (i+1))):=by
 rw [List.drop_eq_getElem_cons h,Zde]
@[simp] theorem Zbds (n:Int):Zds n=some (Bo (Zcf n),[]):=by
 refine Zbbp _ _ ?_
 simp [Zcf]
theorem Zbdt (o:Zh) (hl:Le o.Steps):∀ i,i≤o.Steps.length→Zfa o i=some (Bo (Zde (Zce o.Steps i) (o.Steps.drop i)),[]):=by
 refine down _ ?_ ?_
 ·refine Z0t _ _ _ ?_
  simp [Zde]
 ·intro i hi ih
  refine Z0t _ _ _ ?_
  have h4:=inc64 (i:=i) (by omega)
  rw [Z10 _ hi]
  have pn:Zce o.Steps (i+1)=o.Steps[i].From:=by simp [Zce,List.getElem?_eq_getElem hi]
  rw [pn] at ih
  simp only [Int.natCast_add,Int.cast_ofNat_Int] at ih
  rw [if_pos (by omega)]
  refine ⟨by omega,o.Steps[i],by rw [Int.toNat_natCast];exact List.getElem?_eq_getElem hi,_,Zgu _ _ _,?_⟩
  rcases tf (inR o.Steps[i].From 1 8192) with e1 | e1
  ·rw [e1];simp
  rw [e1,if_pos rfl]
  refine ⟨_,Zbds _,?_⟩
  unfold Zcf
  rcases tf (inR o.Steps[i].Add (-99) 99) with e2 | e2
  ·rw [e2];simp
  rw [e2,if_pos rfl,show w ((i:Int)+1)=(i:Int)+1 from h4]
  cases i with
  | zero =>
   rw [if_neg (by omega),ih]
   have:Zce o.Steps 0<o.Steps[0].From:=by simp [inR] at e1;simp [Zce];omega
   simp [this]
  | succ j =>
   have hj:j<o.Steps.length:=by omega
   have w2:w (((j+1:Nat):Int) - 1)=j:=by rw [show ((j+1:Nat):Int) - 1=j by omega];exact wrap64 (by omega) (by omega)
   have pj:Zce o.Steps (j+1)=o.Steps[j].From:=by simp [Zce,List.getElem?_eq_getElem hj]
   rw [if_pos (by omega),w2,pj]
   refine ⟨by omega,o.Steps[j],by rw [Int.toNat_natCast];exact List.getElem?_eq_getElem hj,?_⟩
   by_cases e3:o.Steps[j+1].From≤o.Steps[j].From
   ·rw [if_pos e3,decide_eq_false (by omega)];simp
   ·rw [if_neg e3,decide_eq_true (by omega),ih];simp
@[simp] theorem Zma (o:Zh) (hl:Le o.Steps):Zef o=some (Bo (Zba o),[]):=by
 refine Zbbq _ _ ?_
 have b:=Zbdt o hl 0 (Nat.zero_le _)
 simp only [Zce,List.drop_zero,Int.ofNat_zero] at b
 have b:Zfa o 0=_:=b
 unfold Zba
 rcases tf (Zcf o.Fixed) with e1 | e1
 ·simp [e1]
 rcases tf (Zcf o.Zi) with e2 | e2
 ·simp [e1,e2]
 rcases tf (Zcf o.Zj) with e3 | e3
 ·simp [e1,e2,e3]
 rcases tf (Zcf o.Zl) with e4 | e4
 ·simp [e1,e2,e3,e4]
 rcases tf (Zcf o.Zk) with e5 | e5
 ·simp [e1,e2,e3,e4,e5]
 by_cases e6:o.Steps.length≤4
 ·have e7:¬ (4:Int)<o.Steps.length:=by omega
  simp [e1,e2,e3,e4,e5,e6,e7,b]
 ·have e7:(4:Int)<o.Steps.length:=by omega
  simp [e1,e2,e3,e4,e5,e6,e7]
theorem Zbdu (o:Zh) (hl:Le o.Steps):∀ i,i≤o.Steps.length→Zey o o.Steps o.Steps.length i=some (Bo (Zde (Zce o.Steps i) (o.Steps.drop i) && decide (o.Steps.length≤4)),[]):=by
 refine down _ ?_ ?_
 ·refine Zz1 _ _ _ _ _ ?_
  rw [if_neg (by omega)]
  by_cases e:o.Steps.length≤4
  ·simp [Zde,e];omega
  ·simp [Zde,e];omega
 ·intro i hi ih
  refine Zz1 _ _ _ _ _ ?_
  have h4:=inc64 (i:=i) (by omega)
  rw [Z10 _ hi]
  have pn:Zce o.Steps (i+1)=o.Steps[i].From:=by simp [Zce,List.getElem?_eq_getElem hi]
  rw [pn] at ih
  simp only [Int.natCast_add,Int.cast_ofNat_Int] at ih
  rw [if_pos (by omega)]
  refine ⟨by omega,o.Steps[i],by rw [Int.toNat_natCast];exact List.getElem?_eq_getElem hi,_,Zdd _ _ _,?_⟩
  rcases tf (inR o.Steps[i].Add (-99) 99) with e2 | e2
  ·rw [e2];simp
  rw [e2,if_pos rfl]
  refine ⟨_,Zdd _ _ _,?_⟩
  rcases tf (inR o.Steps[i].From 1 8192) with e1 | e1
  ·rw [e1];simp
  rw [e1,if_pos rfl,show w ((i:Int)+1)=(i:Int)+1 from h4]
  cases i with
  | zero =>
   rw [if_neg (by omega),ih]
   have:Zce o.Steps 0<o.Steps[0].From:=by simp [inR] at e1;simp [Zce];omega
   simp [this]
  | succ j =>
   have hj:j<o.Steps.length:=by omega
   have w2:w (((j+1:Nat):Int) - 1)=j:=by rw [show ((j+1:Nat):Int) - 1=j by omega];exact wrap64 (by omega) (by omega)
   have pj:Zce o.Steps (j+1)=o.Steps[j].From:=by simp [Zce,List.getElem?_eq_getElem hj]
   rw [if_pos (by omega),w2,pj]
   refine ⟨by omega,o.Steps[j],by rw [Int.toNat_natCast];exact List.getElem?_eq_getElem hj,?_⟩
   by_cases e3:o.Steps[j+1].From≤o.Steps[j].From
   ·rw [if_pos e3,decide_eq_false (by omega)];simp
   ·rw [if_neg e3,decide_eq_true (by omega),ih];simp
@[simp] theorem Zcg (o:Zh) (hl:Le o.Steps):Zbm o=some (Bo (Zba o),[]):=by
 refine Zbao _ _ ?_
 have hc:Zka o=some (.bsl 1 5,[.box (o.c.map .t),.box [.ptr 0 0,.ptr 0 1,.ptr 0 2,.ptr 0 3,.ptr 0 4]]):=Zban _ _ rfl
 refine ⟨hc,?_⟩
 have b:=Zbdu o hl 0 (Nat.zero_le _)
 simp only [Zce,List.drop_zero] at b
 have b:Zey o o.Steps o.Steps.length 0=_:=b
 have w1:w (0+1)=1:=by decide
 have w2:w (1+1)=2:=by decide
 have w3:w (2+1)=3:=by decide
 have w4:w (3+1)=4:=by decide
 have w5:w (4+1)=5:=by decide
 unfold Zba Zcf
 refine Zi9 _ _ _ _ ?_
 rw [if_pos (by omega),if_pos rfl]
 refine ⟨_,Zdd _ _ _,?_⟩
 rcases tf (inR o.Fixed (-99) 99) with e1 | e1
 ·rw [e1];simp
 rw [e1,if_pos rfl,w1]
 refine Zi9 _ _ _ _ ?_
 rw [if_pos (by omega),if_neg (by omega),if_pos rfl]
 refine ⟨_,Zdd _ _ _,?_⟩
 rcases tf (inR o.Zi (-99) 99) with e2 | e2
 ·rw [e2];simp
 rw [e2,if_pos rfl,w2]
 refine Zi9 _ _ _ _ ?_
 rw [if_pos (by omega),if_neg (by omega),if_neg (by omega),if_pos rfl]
 refine ⟨_,Zdd _ _ _,?_⟩
 rcases tf (inR o.Zj (-99) 99) with e3 | e3
 ·rw [e3];simp
 rw [e3,if_pos rfl,w3]
 refine Zi9 _ _ _ _ ?_
 rw [if_pos (by omega),if_neg (by omega),if_neg (by omega),if_neg (by omega),if_pos rfl]
 refine ⟨_,Zdd _ _ _,?_⟩
 rcases tf (inR o.Zl (-99) 99) with e4 | e4
 ·rw [e4];simp
 rw [e4,if_pos rfl,w4]
 refine Zi9 _ _ _ _ ?_
 rw [if_pos (by omega),if_neg (by omega),if_neg (by omega),if_neg (by omega),if_neg (by omega),if_pos rfl]
 refine ⟨_,Zdd _ _ _,?_⟩
 rcases tf (inR o.Zk (-99) 99) with e5 | e5
 ·rw [e5];simp
 rw [e5,if_pos rfl,w5]
 refine Zi9 _ _ _ _ ?_
 rw [if_neg (by omega),b]
 simp [Bool.and_comm]
def Zfj (o:Zh) (l r n:Int):Int:=w (w (w (w (o.Fixed+w (o.Zi*l))+w (o.Zj*r))+w (o.Zl*n))+w (w (o.Zk*l)*r))
def Zdf (l r:Int) (n:Int) (s:Zf):Int:=if s.From≤w (l+r) then w (n+s.Add) else n
def Zjc (o:Zh) (l r n:Int):Int:=o.Steps.foldl (Zdf l r) (Zfj o l r n)
def Z7 (o:Zh) (l r n:Int):Int:=if (Zba o && inR l 0 4096 && inR r 0 4096 && inR n 0 4096)=true then Zjc o l r n else 0
theorem Zbdv (l r:Int) (st:List Zf) (hl:Le st):∀ i,i≤st.length→∀ n,Zfw l r n st st.length i=some (I ((st.drop i).foldl (Zdf l r) n),[]):=by
 refine down _ ?_ ?_
 ·intro n
  refine Zz5 _ _ _ _ _ _ _ ?_
  simp
 ·intro i hi ih n
  refine Zz5 _ _ _ _ _ _ _ ?_
  have h4:=inc64 (i:=i) (by omega)
  rw [List.drop_eq_getElem_cons hi,List.foldl_cons]
  simp only [Int.natCast_add,Int.cast_ofNat_Int] at ih
  by_cases e:st[i].From≤w (l+r)
  ·simp [hi,h4,e,ih,Zdf]
  ·simp [hi,h4,e,ih,Zdf]
@[simp] theorem Zbje (o:Zh) (hl:Le o.Steps) (l r n:Int):Zhl o l r n=some (I (Zjc o l r n),[]):=by
 refine Zbas _ _ _ _ _ ?_
 have b:=Zbdv l r o.Steps hl 0 (Nat.zero_le _) (Zfj o l r n)
 simpa [Zjc,Zfj] using b
@[simp] theorem Zem (o:Zh) (hl:Le o.Steps) (l r n:Int):Zbi o l r n=some (I (Z7 o l r n),[]):=by
 refine Zbaz _ _ _ _ _ ?_
 unfold Z7
 rcases tf (Zba o) with e1 | e1 <;> rcases tf (inR l 0 4096) with e2 | e2 <;> rcases tf (inR r 0 4096) with e3 | e3 <;> rcases tf (inR n 0 4096) with e4 | e4 <;> simp [hl,e1,e2,e3,e4]
theorem Zbdw (o:Zh) (l r:Int) (hl:Le o.Steps):∀ i,i≤o.Steps.length→∀ n,Zfc o l r n i=some (I ((o.Steps.drop i).foldl (Zdf l r) n),[]):=by
 refine down _ ?_ ?_
 ·intro n
  refine Z0u _ _ _ _ _ _ ?_
  simp
 ·intro i hi ih n
  refine Z0u _ _ _ _ _ _ ?_
  have h4:=inc64 (i:=i) (by omega)
  rw [List.drop_eq_getElem_cons hi,List.foldl_cons]
  simp only [Int.natCast_add,Int.cast_ofNat_Int] at ih
  by_cases e:o.Steps[i].From≤w (l+r)
  ·simp [hi,h4,e,ih,Zdf]
  ·simp [hi,h4,e,ih,Zdf]
@[simp] theorem Zd1 (o:Zh) (hl:Le o.Steps) (l r n:Int):Zbs o l r n=some (I (Z7 o l r n),[]):=by
 refine Zbbt _ _ _ _ _ ?_
 have b:=Zbdw o l r hl 0 (Nat.zero_le _) (Zfj o l r n)
 simp only [List.drop_zero,Zfj] at b
 have b:Zfc o l r _ 0=_:=b
 unfold Z7
 rcases tf (Zba o) with e1 | e1 <;> rcases tf (inR l 0 4096) with e2 | e2 <;> rcases tf (inR r 0 4096) with e3 | e3 <;> rcases tf (inR n 0 4096) with e4 | e4 <;> simp [hl,e1,e2,e3,e4,b,Zjc,Zfj]
end Go.Proofs.YtbapkgocloaaeaaGreat
/- part: AD -/
namespace Go.Proofs.YtbapkgocloaaeaaGreat
open Go.AM
@[simp] theorem Zbdx (c:Int):Ze0 c=some (I (Zbk c),[]):=by
 refine Zbar _ _ ?_
 cases h:inR c 0 7
 ·simp [h,Zus h]
 ·rcases cls8 h with rfl | rfl | rfl | rfl | rfl | rfl | rfl | rfl <;> simp [inR,Zbk,wrap64,shlI]
@[simp] theorem Zbdy (c:Int):Zfb c=some (I (Zbk c),[]):=by
 refine Zbbs _ _ ?_
 have e:∀ n i r,(if i<c then Zf6 c (if 1<w (n*4) then w (n*4) else 1) (w (i+1))=some r else some (I n,[])=some r)→Zf6 c n i=some r:=fun n i r h=>Zbbr _ _ _ _ h
 cases h:inR c 0 7
 ·simp [h,Zus h]
 ·refine ⟨_,Zgu _ _ _,?_⟩
  rw [h,if_pos rfl]
  rcases cls8 h with rfl | rfl | rfl | rfl | rfl | rfl | rfl | rfl
  all_goals repeat (refine e _ _ _ ?_;first | (rw [if_neg (by decide)];rfl) | rw [if_pos (by decide)])
def inT (t:List Int):Prop:=∃ a b c:Int,t=[a,b,c]∧(0≤a∧a≤7)∧(0≤b∧b≤7)∧(0≤c∧c≤7)
def tcl (o:Zh):List Int→Int
 | [a,b,c]=>Zjc o (Zbk a) (Zbk b) (Zbk c)
 | _=>0
theorem Zjd {c:Int} (h0:0≤c) (h7:c≤7):inR (Zbk c) 0 4096=true:=by
 have:c=0∨c=1∨c=2∨c=3∨c=4∨c=5∨c=6∨c=7:=by omega
 rcases this with rfl | rfl | rfl | rfl | rfl | rfl | rfl | rfl <;> decide
theorem Zii (o:Zh) (hl:Le o.Steps) {t:List Int} (h:inT t):Zcc o t=some (I (tcl o t),[]):=by
 obtain ⟨a,b,c,rfl,_⟩:=h
 refine Zbat _ _ _ ?_
 simp [hl,tcl]
theorem Zn3 (o:Zh) (hl:Le o.Steps) (hv:Zba o=true) {t:List Int} (h:inT t):Zf7 o t=some (I (tcl o t),[]):=by
 obtain ⟨a,b,c,rfl,h1,h2,h3⟩:=h
 refine Zbbu _ _ _ ?_
 have c1:=Zjd h1.1 h1.2
 have c2:=Zjd h2.1 h2.2
 have c3:=Zjd h3.1 h3.2
 simp [hl,tcl,Z7,hv,c1,c2,c3]
theorem Z11 {t:List Int} (h:inT t) {k:Nat} {e:Int} (hk:t[k]?=some e) (h7:e+1≤7):inT (t.set k (e+1)):=by
 obtain ⟨a,b,c,rfl,h1,h2,h3⟩:=h
 match k,hk with
 | 0,hk=>simp at hk;subst hk;exact ⟨a+1,b,c,rfl,by omega,h2,h3⟩
 | 1,hk=>simp at hk;subst hk;exact ⟨a,b+1,c,rfl,h1,by omega,h3⟩
 | 2,hk=>simp at hk;subst hk;exact ⟨a,b,c+1,rfl,h1,h2,by omega⟩
 | k+3,hk=>simp at hk
theorem Z12 {t:List Int} (h:inT t) {k:Nat} (hk:k<3):∃ e,t[k]?=some e∧0≤e∧e≤7:=by
 obtain ⟨a,b,c,rfl,h1,h2,h3⟩:=h
 match k,hk with
 | 0,_=>exact ⟨a,rfl,h1⟩
 | 1,_=>exact ⟨b,rfl,h2⟩
 | 2,_=>exact ⟨c,rfl,h3⟩
theorem Zs6 {t:List Int} (h:inT t):t.length=3:=by obtain ⟨a,b,c,rfl,_⟩:=h;rfl
def decK (o:Zh) (t:List Int) (k:Nat):Prop:=∃ e,t[k]?=some e∧e+1≤7∧tcl o (t.set k (e+1))<tcl o t
def decF (o:Zh) (t:List Int) (k:Nat):Prop:=∃ j,k≤j∧j<3∧decK o t j
def decr (o:Zh):Prop:=∃ t,inT t∧decF o t 0
def cheap (o:Zh):Prop:=∃ t,inT t∧tcl o t<1
abbrev Zcv (X:Rs) (p:Prop):Prop:=∃ (xs ys:List Int) (b:Bool),X=some (.tup [.own 0,.own 1,Bo b],[.arr Zt 1 true (xs.map ic),.arr Zt 1 true (ys.map ic)])∧(b=true↔p)
theorem Zcv.congr {X:Rs} {p q:Prop} (h:Zcv X p) (e:p↔q):Zcv X q:=by
 obtain ⟨xs,ys,b,h1,h2⟩:=h;exact ⟨xs,ys,b,h1,h2.trans e⟩
theorem l_fd0 (o:Zh) (hl:Le o.Steps) (hv:Zba o=true) {t:List Int} (ht:inT t) (a b e:Int) (p:Prop) (hc:Zcv (Zga o a b (w (e+1))) p):∀ k:Nat,k≤3 →
  Zcv (Zdt o t a b e k) (decF o t k∨p):=by
 have h3:=Zs6 ht
 refine down _ ?_ ?_
 ·obtain ⟨xs,ys,f,h1,h2⟩:=hc
  refine ⟨xs,ys,f,Z0y _ _ _ _ _ _ _ (by rw [if_neg (by omega)];exact h1),?_⟩
  rw [h2]
  exact ⟨.inr,fun h=>h.elim (fun ⟨j,a,b,_⟩=>by omega) id⟩
 ·intro k hk ih
  have h4:=inc64 (i:=k) (by omega)
  obtain ⟨x,hx,x0,x7⟩:=Z12 ht hk
  have wx:w (x+1)=x+1:=wrap64 (by omega) (by omega)
  simp only [Int.natCast_add,Int.cast_ofNat_Int] at ih
  have step:decF o t k↔(decK o t k∨decF o t (k+1)):=by
   constructor
   ·rintro ⟨j,j1,j2,j3⟩
    by_cases hj:j=k
    ·subst hj;exact .inl j3
    ·exact .inr ⟨j,by omega,j2,j3⟩
   ·rintro (h | ⟨j,j1,j2,j3⟩)
    ·exact ⟨k,Nat.le_refl _,hk,h⟩
    ·exact ⟨j,by omega,j2,j3⟩
  have pre:∀ r,(if x+1≤7 then (if tcl o (t.set k (x+1))<tcl o t then some (.tup [.own 0,.own 1,Bo true],[.arr Zt 1 true (t.map ic),.arr Zt 1 true ((t.set k (x+1)).map ic)])=some r
    else Zdt o t a b e ((k:Int)+1)=some r) else Zdt o t a b e ((k:Int)+1)=some r)→Zdt o t a b e k=some r:=by
   intro r hr
   refine Z0y _ _ _ _ _ _ _ ?_
   rw [if_pos (by omega)]
   refine ⟨by omega,by omega,x,by rw [Int.toNat_natCast];exact hx,?_⟩
   rw [wx,Int.toNat_natCast,show w ((k:Int)+1)=(k:Int)+1 from h4]
   by_cases h7:x+1≤7
   ·rw [if_pos h7] at hr ⊢
    exact ⟨_,Zn3 o hl hv (Z11 ht hx h7),_,Zn3 o hl hv ht,hr⟩
   ·rw [if_neg h7] at hr ⊢
    exact hr
  have dk:decK o t k↔(x+1≤7∧tcl o (t.set k (x+1))<tcl o t):=by
   constructor
   ·rintro ⟨y,y1,y2,y3⟩;rw [hx] at y1;cases y1;exact ⟨y2,y3⟩
   ·rintro ⟨y2,y3⟩;exact ⟨x,hx,y2,y3⟩
  by_cases h7:x+1≤7∧tcl o (t.set k (x+1))<tcl o t
  ·refine ⟨_,_,true,pre _ (by rw [if_pos h7.1,if_pos h7.2]),?_⟩
   rw [step,dk]
   exact ⟨fun _=>.inl (.inl h7),fun _=>rfl⟩
  ·obtain ⟨xs,ys,f,i1,i2⟩:=ih
   refine ⟨xs,ys,f,pre _ ?_,?_⟩
   ·split
    ·split
     ·rename_i a1 a2;exact absurd ⟨a1,a2⟩ h7
     ·exact i1
    ·exact i1
   ·rw [i2,step,dk]
    constructor
    ·exact fun h=>h.imp .inr id
    ·exact fun h=>h.imp (fun h=>h.resolve_left h7) id
theorem Zje {P:Nat→Prop} {i:Nat} {p:Prop} (hi:i<8):((∃ z,i≤z∧z≤7∧P z)∨p)↔(P i∨(∃ z,i+1≤z∧z≤7∧P z)∨p):=by
 constructor
 ·rintro (⟨z,z1,z2,z3⟩ | h)
  ·by_cases hz:z=i
   ·subst hz;exact .inl z3
   ·exact .inr (.inl ⟨z,by omega,z2,z3⟩)
  ·exact .inr (.inr h)
 ·rintro (h | ⟨z,z1,z2,z3⟩ | h)
  ·exact .inl ⟨i,Nat.le_refl _,by omega,h⟩
  ·exact .inl ⟨z,by omega,z2,z3⟩
  ·exact .inr h
theorem Zjf {P:Nat→Prop} {p:Prop}:((∃ z,8≤z∧z≤7∧P z)∨p)↔p:=⟨fun h=>h.elim (fun ⟨z,a,b,_⟩=>by omega) id,.inr⟩
theorem l_fd1 (o:Zh) (hl:Le o.Steps) (hv:Zba o=true) (a b:Nat) (ha:a≤7) (hb:b≤7) (p:Prop) (hc:Zcv (Zf9 o a ((b:Int)+1)) p):∀ e:Nat,e≤8 →
  Zcv (Zga o a b e) ((∃ z:Nat,e≤z∧z≤7∧decF o [(a:Int),(b:Int),(z:Int)] 0)∨p):=by
 have wb:w ((b:Int)+1)=(b:Int)+1:=wrap64 (by omega) (by omega)
 refine down _ ?_ ?_
 ·refine Zcv.congr ?_ Zjf.symm
  obtain ⟨xs,ys,f,h1,h2⟩:=hc
  exact ⟨xs,ys,f,Z0x _ _ _ _ _ (by rw [if_neg (by omega),wb];exact h1),h2⟩
 ·intro e he ih
  have we:w ((e:Int)+1)=(e:Int)+1:=wrap64 (by omega) (by omega)
  have hT:inT [(a:Int),(b:Int),(e:Int)]:=⟨a,b,e,rfl,by omega,by omega,by omega⟩
  simp only [Int.natCast_add,Int.cast_ofNat_Int] at ih
  obtain ⟨xs,ys,f,h1,h2⟩:=l_fd0 o hl hv hT a b e _ (by rw [we];exact ih) 0 (by omega)
  exact ⟨xs,ys,f,Z0x _ _ _ _ _ (by rw [if_pos (by omega)];exact h1),h2.trans (Zje (P:=fun z:Nat=>decF o [(a:Int),(b:Int),(z:Int)] 0) he).symm⟩
theorem l_fd2 (o:Zh) (hl:Le o.Steps) (hv:Zba o=true) (a:Nat) (ha:a≤7) (p:Prop) (hc:Zcv (Zf8 o ((a:Int)+1)) p):∀ b:Nat,b≤8 →
  Zcv (Zf9 o a b) ((∃ y:Nat,b≤y∧y≤7∧∃ z:Nat,0≤z∧z≤7∧decF o [(a:Int),(y:Int),(z:Int)] 0)∨p):=by
 have wa:w ((a:Int)+1)=(a:Int)+1:=wrap64 (by omega) (by omega)
 refine down _ ?_ ?_
 ·refine Zcv.congr ?_ Zjf.symm
  obtain ⟨xs,ys,f,h1,h2⟩:=hc
  exact ⟨xs,ys,f,Z0w _ _ _ _ (by rw [if_neg (by omega),wa];exact h1),h2⟩
 ·intro b hb ih
  simp only [Int.natCast_add,Int.cast_ofNat_Int] at ih
  obtain ⟨xs,ys,f,h1,h2⟩:=l_fd1 o hl hv a b ha (by omega) _ ih 0 (by omega)
  exact ⟨xs,ys,f,Z0w _ _ _ _ (by rw [if_pos (by omega)];exact h1),h2.trans (Zje (P:=fun y:Nat=>∃ z:Nat,0≤z∧z≤7∧decF o [(a:Int),(y:Int),(z:Int)] 0) hb).symm⟩
theorem l_fd3 (o:Zh) (hl:Le o.Steps) (hv:Zba o=true):∀ a:Nat,a≤8 →
  Zcv (Zf8 o a) ((∃ x:Nat,a≤x∧x≤7∧∃ y:Nat,0≤y∧y≤7∧∃ z:Nat,0≤z∧z≤7∧decF o [(x:Int),(y:Int),(z:Int)] 0)∨False):=by
 refine down _ ?_ ?_
 ·refine Zcv.congr ?_ Zjf.symm
  exact ⟨[],[],false,Z0v _ _ _ (by rw [if_neg (by omega)]),by simp⟩
 ·intro a ha ih
  simp only [Int.natCast_add,Int.cast_ofNat_Int] at ih
  obtain ⟨xs,ys,f,h1,h2⟩:=l_fd2 o hl hv a (by omega) _ ih 0 (by omega)
  exact ⟨xs,ys,f,Z0v _ _ _ (by rw [if_pos (by omega)];exact h1),h2.trans (Zje (P:=fun x:Nat=>∃ y:Nat,0≤y∧y≤7∧∃ z:Nat,0≤z∧z≤7∧decF o [(x:Int),(y:Int),(z:Int)] 0) ha).symm⟩
theorem Z13 (o:Zh) (P:List Int→Prop):(∃ t,inT t∧P t)↔∃ x:Nat,0≤x∧x≤7∧∃ y:Nat,0≤y∧y≤7∧∃ z:Nat,0≤z∧z≤7∧P [(x:Int),(y:Int),(z:Int)]:=by
 constructor
 ·rintro ⟨t,⟨a,b,c,rfl,h1,h2,h3⟩,h⟩
  refine ⟨a.toNat,by omega,by omega,b.toNat,by omega,by omega,c.toNat,by omega,by omega,?_⟩
  rw [Int.toNat_of_nonneg h1.1,Int.toNat_of_nonneg h2.1,Int.toNat_of_nonneg h3.1]
  exact h
 ·rintro ⟨x,_,x2,y,_,y2,z,_,z2,h⟩
  exact ⟨_,⟨x,y,z,rfl,by omega,by omega,by omega⟩,h⟩
theorem Zbdz (o:Zh) (hl:Le o.Steps) (hv:Zba o=true):Zcv (Zkw o) (decr o):=by
 obtain ⟨xs,ys,f,h1,h2⟩:=l_fd3 o hl hv 0 (by omega)
 refine ⟨xs,ys,f,Zbbv _ _ ⟨_,Zma o hl,?_⟩,?_⟩
 ·rw [hv,if_pos rfl];exact h1
 ·rw [h2,decr,Z13 o (fun t=>decF o t 0)]
  simp
abbrev Zc4 (X:Rs) (p:Prop):Prop:=∃ (xs:List Int),X=some (.own 0,[.arr Zt 1 true (xs.map ic)])∧(xs≠[]↔p)
theorem Zc4.congr {X:Rs} {p q:Prop} (h:Zc4 X p) (e:p↔q):Zc4 X q:=by
 obtain ⟨xs,h1,h2⟩:=h;exact ⟨xs,h1,h2.trans e⟩
theorem l_ch0 (o:Zh) (hl:Le o.Steps) (hv:Zba o=true) (a b:Nat) (ha:a≤7) (hb:b≤7) (p:Prop) (hc:Zc4 (Zgc o a ((b:Int)+1)) p):∀ e:Nat,e≤8 →
  Zc4 (Zhw o a b e) ((∃ z:Nat,e≤z∧z≤7∧tcl o [(a:Int),(b:Int),(z:Int)]<1)∨p):=by
 have wb:w ((b:Int)+1)=(b:Int)+1:=wrap64 (by omega) (by omega)
 refine down _ ?_ ?_
 ·refine Zc4.congr ?_ Zjf.symm
  obtain ⟨xs,h1,h2⟩:=hc
  exact ⟨xs,Zst _ _ _ _ _ (by rw [if_neg (by omega),wb];exact h1),h2⟩
 ·intro e he ih
  have we:w ((e:Int)+1)=(e:Int)+1:=wrap64 (by omega) (by omega)
  have hT:inT [(a:Int),(b:Int),(e:Int)]:=⟨a,b,e,rfl,by omega,by omega,by omega⟩
  simp only [Int.natCast_add,Int.cast_ofNat_Int] at ih
  refine Zc4.congr ?_ (Zje he).symm
  by_cases h:tcl o [(a:Int),(b:Int),(e:Int)]<1
  ·refine ⟨[a,b,e],Zst _ _ _ _ _ ?_,by simp [h]⟩
   rw [if_pos (by omega)]
   exact ⟨_,Zn3 o hl hv hT,by rw [if_pos h]⟩
  ·obtain ⟨xs,h1,h2⟩:=ih
   refine ⟨xs,Zst _ _ _ _ _ ?_,by rw [h2];simp [h]⟩
   rw [if_pos (by omega)]
   exact ⟨_,Zn3 o hl hv hT,by rw [if_neg h,we];exact h1⟩
theorem l_ch1 (o:Zh) (hl:Le o.Steps) (hv:Zba o=true) (a:Nat) (ha:a≤7) (p:Prop) (hc:Zc4 (Zgb o ((a:Int)+1)) p):∀ b:Nat,b≤8 →
  Zc4 (Zgc o a b) ((∃ y:Nat,b≤y∧y≤7∧∃ z:Nat,0≤z∧z≤7∧tcl o [(a:Int),(y:Int),(z:Int)]<1)∨p):=by
 have wa:w ((a:Int)+1)=(a:Int)+1:=wrap64 (by omega) (by omega)
 refine down _ ?_ ?_
 ·refine Zc4.congr ?_ Zjf.symm
  obtain ⟨xs,h1,h2⟩:=hc
  exact ⟨xs,Z00 _ _ _ _ (by rw [if_neg (by omega),wa];exact h1),h2⟩
 ·intro b hb ih
  simp only [Int.natCast_add,Int.cast_ofNat_Int] at ih
  obtain ⟨xs,h1,h2⟩:=l_ch0 o hl hv a b ha (by omega) _ ih 0 (by omega)
  exact ⟨xs,Z00 _ _ _ _ (by rw [if_pos (by omega)];exact h1),h2.trans (Zje (P:=fun y:Nat=>∃ z:Nat,0≤z∧z≤7∧tcl o [(a:Int),(y:Int),(z:Int)]<1) hb).symm⟩
theorem l_ch2 (o:Zh) (hl:Le o.Steps) (hv:Zba o=true):∀ a:Nat,a≤8 →
  Zc4 (Zgb o a) ((∃ x:Nat,a≤x∧x≤7∧∃ y:Nat,0≤y∧y≤7∧∃ z:Nat,0≤z∧z≤7∧tcl o [(x:Int),(y:Int),(z:Int)]<1)∨False):=by
 refine down _ ?_ ?_
 ·refine Zc4.congr ?_ Zjf.symm
  exact ⟨[],Z0z _ _ _ (by rw [if_neg (by omega)]),by simp⟩
 ·intro a ha ih
  simp only [Int.natCast_add,Int.cast_ofNat_Int] at ih
  obtain ⟨xs,h1,h2⟩:=l_ch1 o hl hv a (by omega) _ ih 0 (by omega)
  exact ⟨xs,Z0z _ _ _ (by rw [if_pos (by omega)];exact h1),h2.trans (Zje (P:=fun x:Nat=>∃ y:Nat,0≤y∧y≤7∧∃ z:Nat,0≤z∧z≤7∧tcl o [(x:Int),(y:Int),(z:Int)]<1) ha).symm⟩
theorem Zbd0 (o:Zh) (hl:Le o.Steps) (hv:Zba o=true):Zc4 (Zkz o) (cheap o):=by
 obtain ⟨xs,h1,h2⟩:=l_ch2 o hl hv 0 (by omega)
 refine ⟨xs,Zbbw _ _ h1,?_⟩
 rw [h2,cheap,Z13 o (fun t=>tcl o t<1)]
 simp
def rowC (a b:Int) (c:Nat):List (List Int):=(List.range' c (8 - c)).map fun z:Nat=>[a,b,(z:Int)]
def rowB (a:Int) (b:Nat):List (List Int):=(List.range' b (8 - b)).flatMap fun y:Nat=>rowC a y 0
def rowA (a:Nat):List (List Int):=(List.range' a (8 - a)).flatMap fun x:Nat=>rowB x 0
theorem Zs7 {i:Nat} (h:i<8):List.range' i (8 - i)=i::List.range' (i+1) (8 - (i+1)):=by
 rw [show 8 - i=(8 - (i+1))+1 by omega,List.range'_succ]
theorem rowC_len (a b:Int) (c:Nat):(rowC a b c).length=8 - c:=by simp [rowC]
theorem rowB_len (a:Int):(rowB a 0).length=64:=rfl
theorem l_tr0 (a b:Nat) (hb:b≤7) (r:AV×List Blk):∀ c:Nat,c≤8→∀ out:List (List Int),out.length≤1000000→Zez (out++rowC a b c) a ((b:Int)+1)=some r→Zfv out a b c=some r:=by
 have wb:w ((b:Int)+1)=(b:Int)+1:=wrap64 (by omega) (by omega)
 have key:∀ c:Nat,c≤8→∀ out:List (List Int),out.length≤1000000+c→Zez (out++rowC a b c) a ((b:Int)+1)=some r→Zfv out a b c=some r:=by
  refine down _ ?_ ?_
  ·intro out ho h
   refine Zz4 _ _ _ _ _ ?_
   rw [if_neg (by omega),wb]
   simpa [rowC] using h
  ·intro c hc ih out ho h
   have wc:w ((c:Int)+1)=(c:Int)+1:=wrap64 (by omega) (by omega)
   refine Zz4 _ _ _ _ _ ?_
   rw [if_pos (by omega),wc]
   refine ⟨by omega,?_⟩
   have ih:=ih (out++[[(a:Int),(b:Int),(c:Int)]]) (by simp;omega) (by
    rw [rowC,Zs7 hc] at h
    simpa [rowC] using h)
   simpa using ih
 exact fun c hc out ho h=>key c hc out (by omega) h
theorem l_tr1 (a:Nat) (ha:a≤7) (r:AV×List Blk):∀ b:Nat,b≤8→∀ out:List (List Int),out.length≤100000+8*b→Zfu (out++rowB a b) ((a:Int)+1)=some r→Zez out a b=some r:=by
 have wa:w ((a:Int)+1)=(a:Int)+1:=wrap64 (by omega) (by omega)
 refine down _ ?_ ?_
 ·intro out ho h
  refine Zz3 _ _ _ _ ?_
  rw [if_neg (by omega),wa]
  simpa [rowB] using h
 ·intro b hb ih out ho h
  refine Zz3 _ _ _ _ ?_
  rw [if_pos (by omega)]
  refine l_tr0 a b (by omega) r 0 (by omega) out (by omega) ?_
  have ih:=ih (out++rowC a b 0) (by rw [List.length_append,rowC_len];omega) (by
   rw [rowB,Zs7 hb] at h
   simpa [rowB] using h)
  simpa using ih
theorem l_tr2:∀ a:Nat,a≤8→∀ out:List (List Int),out.length≤64*a→Zfu out a=some (.own 0,[.arr Zvn 1 true ((out++rowA a).map isc)]):=by
 refine down _ ?_ ?_
 ·intro out ho
  refine Zz2 _ _ _ ?_
  rw [if_neg (by omega)]
  simp [rowA]
 ·intro a ha ih out ho
  refine Zz2 _ _ _ ?_
  rw [if_pos (by omega)]
  refine l_tr1 a (by omega) _ 0 (by omega) out (by omega) ?_
  have ih:=ih (out++rowB a 0) (by rw [List.length_append,rowB_len];omega)
  rw [rowA,Zs7 ha]
  simpa [rowA] using ih
def allT:List (List Int):=rowA 0
theorem Zjg:Zcj=some (.own 0,[.arr Zvn 1 true (allT.map isc)]):=Zbap _ (l_tr2 0 (by omega) [] (by simp))
theorem Zdg (t:List Int):t∈allT↔inT t:=by
 simp only [allT,rowA,rowB,rowC,List.mem_flatMap,List.mem_map,List.mem_range'_1,inT]
 constructor
 ·rintro ⟨x,hx,y,hy,z,hz,rfl⟩
  exact ⟨x,y,z,rfl,by omega,by omega,by omega⟩
 ·rintro ⟨a,b,c,rfl,h1,h2,h3⟩
  refine ⟨a.toNat,by omega,b.toNat,by omega,c.toNat,by omega,?_⟩
  rw [Int.toNat_of_nonneg h1.1,Int.toNat_of_nonneg h2.1,Int.toNat_of_nonneg h3.1]
set_option maxRecDepth 100000 in
theorem Zjh:allT.length=512:=rfl
@[simp] theorem Z14 (xs:List Int) (h:xs.length≤68719476736):Zhk xs=some (.own 0,[.arr Zt 1 true (xs.map ic)]):=Zbaq _ _ ⟨h,rfl⟩
abbrev GoodI (X:Rs) (p:Prop):Prop:=(p∧∃ xs ys:List Int,X=some (.tup [L 1 (xs.map ic),.own 0,Bo true],[.arr Zt 1 true (ys.map ic)]))∨(¬ p∧X=some (.tup [.t .nil,.t .nil,Bo false],[]))
theorem l_id0 (o:Zh) (hl:Le o.Steps) (ts:List (List Int)) {t:List Int} (ht:inT t) (n i:Int) (p:Prop) (hc:GoodI (Zec o ts n (w (i+1))) p):∀ k:Nat,k≤3 →
  GoodI (Zct o ts t n i 3 k) (decF o t k∨p):=by
 have h3:=Zs6 ht
 refine down _ ?_ ?_
 ·have e:(decF o t 3∨p)↔p:=⟨fun h=>h.elim (fun ⟨j,a,b,_⟩=>by omega) id,.inr⟩
  rcases hc with ⟨h,xs,ys,h1⟩ | ⟨h,h1⟩
  ·exact .inl ⟨e.2 h,xs,ys,Zsq _ _ _ _ _ _ _ _ (by rw [if_neg (by omega)];exact h1)⟩
  ·exact .inr ⟨fun hc=>h (e.1 hc),Zsq _ _ _ _ _ _ _ _ (by rw [if_neg (by omega)];exact h1)⟩
 ·intro k hk ih
  have h4:=inc64 (i:=k) (by omega)
  obtain ⟨x,hx,x0,x7⟩:=Z12 ht hk
  have wx:w (x+1)=x+1:=wrap64 (by omega) (by omega)
  simp only [Int.natCast_add,Int.cast_ofNat_Int] at ih
  have step:decF o t k↔(decK o t k∨decF o t (k+1)):=by
   constructor
   ·rintro ⟨j,j1,j2,j3⟩
    by_cases hj:j=k
    ·subst hj;exact .inl j3
    ·exact .inr ⟨j,by omega,j2,j3⟩
   ·rintro (h | ⟨j,j1,j2,j3⟩)
    ·exact ⟨k,Nat.le_refl _,hk,h⟩
    ·exact ⟨j,by omega,j2,j3⟩
  have dk:decK o t k↔(x+1≤7∧tcl o (t.set k (x+1))<tcl o t):=by
   constructor
   ·rintro ⟨y,y1,y2,y3⟩;rw [hx] at y1;cases y1;exact ⟨y2,y3⟩
   ·rintro ⟨y2,y3⟩;exact ⟨x,hx,y2,y3⟩
  have pre:∀ r,(if x+1≤7 then (if tcl o (t.set k (x+1))<tcl o t then some (.tup [L 1 (t.map ic),.own 0,Bo true],[.arr Zt 1 true ((t.set k (x+1)).map ic)])=some r
    else Zct o ts t n i 3 ((k:Int)+1)=some r) else Zct o ts t n i 3 ((k:Int)+1)=some r)→Zct o ts t n i 3 k=some r:=by
   intro r hr
   refine Zsq _ _ _ _ _ _ _ _ ?_
   rw [if_pos (by omega)]
   refine ⟨by omega,x,by rw [Int.toNat_natCast];exact hx,?_⟩
   rw [show w ((k:Int)+1)=(k:Int)+1 from h4]
   by_cases h7:x=7
   ·rw [if_pos h7]
    rw [if_neg (by omega)] at hr
    exact hr
   ·rw [if_neg h7]
    have h8:x+1≤7:=by omega
    rw [if_pos h8] at hr
    refine ⟨t,Z14 t (by omega),x,by rw [Int.toNat_natCast];exact hx,?_⟩
    rw [wx,Int.toNat_natCast]
    exact ⟨_,Zii o hl (Z11 ht hx h8),_,Zii o hl ht,hr⟩
  by_cases h7:x+1≤7∧tcl o (t.set k (x+1))<tcl o t
  ·exact .inl ⟨.inl (step.2 (.inl (dk.2 h7))),_,_,pre _ (by rw [if_pos h7.1,if_pos h7.2])⟩
  ·have go:∀ r,Zct o ts t n i 3 ((k:Int)+1)=some r→Zct o ts t n i 3 k=some r:=by
    intro r hr
    refine pre r ?_
    split
    ·split
     ·rename_i a1 a2;exact absurd ⟨a1,a2⟩ h7
     ·exact hr
    ·exact hr
   have e:(decF o t k∨p)↔(decF o t (k+1)∨p):=by
    rw [step,dk]
    exact ⟨fun h=>h.imp (fun h=>h.resolve_left h7) id,fun h=>h.imp .inr id⟩
   rcases ih with ⟨h,xs,ys,h1⟩ | ⟨h,h1⟩
   ·exact .inl ⟨e.2 h,xs,ys,go _ h1⟩
   ·exact .inr ⟨fun hc=>h (e.1 hc),go _ h1⟩
theorem l_id1 (o:Zh) (hl:Le o.Steps) (ts:List (List Int)) (hts:∀ t∈ts,inT t) (hn:ts.length≤1000):∀ i,i≤ts.length→GoodI (Zec o ts ts.length i) (∃ t∈ts.drop i,decF o t 0):=by
 refine down _ ?_ ?_
 ·refine .inr ⟨by simp,Zz6 _ _ _ _ _ (by rw [if_neg (by omega)])⟩
 ·intro i hi ih
  have h4:=inc64 (i:=i) (by omega)
  have ht:=hts _ (List.getElem_mem hi)
  simp only [Int.natCast_add,Int.cast_ofNat_Int] at ih
  have b:=l_id0 o hl ts ht ts.length i _ (by rw [show w ((i:Int)+1)=(i:Int)+1 from h4];exact ih) 0 (by omega)
  have go:∀ r,Zct o ts ts[i] ts.length i 3 0=some r→Zec o ts ts.length i=some r:=by
   intro r hr
   refine Zz6 _ _ _ _ _ ?_
   rw [if_pos (by omega)]
   refine ⟨by omega,ts[i],by rw [Int.toNat_natCast];exact List.getElem?_eq_getElem hi,?_⟩
   rw [Zs6 ht]
   exact hr
  have e:(∃ t∈ts.drop i,decF o t 0)↔(decF o ts[i] 0∨∃ t∈ts.drop (i+1),decF o t 0):=by
   rw [List.drop_eq_getElem_cons hi];simp only [List.mem_cons,exists_eq_or_imp]
  rcases b with ⟨h,xs,ys,h1⟩ | ⟨h,h1⟩
  ·exact .inl ⟨e.2 h,xs,ys,go _ h1⟩
  ·exact .inr ⟨fun hc=>h (e.1 hc),go _ h1⟩
theorem Zmb (o:Zh) (hl:Le o.Steps) (hv:Zba o=true):GoodI (Zbh o) (decr o):=by
 have b:=l_id1 o hl allT (fun t h=>(Zdg t).1 h) (by rw [Zjh];omega) 0 (Nat.zero_le _)
 have go:∀ r,Zec o allT allT.length 0=some r→Zbh o=some r:=by
  intro r hr
  refine Zbau _ _ ⟨_,Zcg o hl,?_⟩
  rw [hv,if_pos rfl]
  exact ⟨allT,Zjg,hr⟩
 have e:(∃ t∈allT.drop 0,decF o t 0)↔decr o:=by
  simp only [List.drop_zero,Zdg,decr]
 rcases b with ⟨h,xs,ys,h1⟩ | ⟨h,h1⟩
 ·exact .inl ⟨e.1 h,xs,ys,go _ h1⟩
 ·exact .inr ⟨fun hc=>h (e.2 hc),go _ h1⟩
def Zbb (o:Zh):Prop:=Zba o=true∧¬ decr o∧¬ cheap o
def mOp (m:Zd) (k:Int):Zh:=if k=1 then m.Scan else if k=2 then m.Sort_ else if k=3 then m.Hash else if k=4 then m.Merge else m.Nested
abbrev LeM (m:Zd):Prop:=Le m.Scan.Steps∧Le m.Sort_.Steps∧Le m.Hash.Steps∧Le m.Merge.Steps∧Le m.Nested.Steps
theorem LeM.op {m:Zd} (h:LeM m) (k:Int):Le (mOp m k).Steps:=by
 unfold mOp
 obtain ⟨h1,h2,h3,h4,h5⟩:=h
 repeat' split
 all_goals assumption
@[simp] theorem Zji (m:Zd) (k:Int):Zcl m k=some (.agg ((mOp m k).c.map .t),[]):=by
 refine Zbbn _ _ _ ?_
 unfold mOp
 by_cases h1:k=1
 ·simp [h1]
 by_cases h2:k=2
 ·simp [h2]
 by_cases h3:k=3
 ·simp [h3]
 by_cases h4:k=4
 ·simp [h4]
 ·simp [h1,h2,h3,h4]
def Zcw (m:Zd):Prop:=Zbb m.Scan∧Zbb m.Sort_∧Zbb m.Hash∧Zbb m.Merge∧Zbb m.Nested
theorem Zbd1 (m:Zd) (hm:LeM m):∀ k:Nat,k≤6→1≤k →
  ∃ (xs ys:List Int) (n:Int),Zgd m k=some (.tup [I n,.own 0,.own 1],[.arr Zt 1 true (xs.map ic),.arr Zt 1 true (ys.map ic)])∧(n=0↔∀ j:Nat,k≤j→j≤5→Zbb (mOp m j)):=by
 refine down _ ?_ ?_
 ·intro _
  exact ⟨[],[],0,Z01 _ _ _ (by rw [if_neg (by omega)]),⟨fun _ j h1 h2=>by omega,fun _=>rfl⟩⟩
 ·intro k hk ih h1
  have wk':w ((k:Int)+1)=(k:Int)+1:=wrap64 (by omega) (by omega)
  have hl:=hm.op k
  have step:(∀ j:Nat,k≤j→j≤5→Zbb (mOp m j))↔(Zbb (mOp m k)∧∀ j:Nat,k+1≤j→j≤5→Zbb (mOp m j)):=by
   constructor
   ·exact fun h=>⟨h k (Nat.le_refl _) (by omega),fun j a b=>h j (by omega) b⟩
   ·rintro ⟨a,b⟩ j c d
    by_cases hj:j=k
    ·subst hj;exact a
    ·exact b j (by omega) d
  have kne:(k:Int)≠0:=by omega
  have pre:∀ r,(∃ v2_0,Zef (mOp m k)=some (Bo v2_0,[])∧_)→Zgd m k=some r:=fun r h=>Z01 _ _ _ (by rw [if_pos (by omega)];exact ⟨mOp m k,Zji m k,h⟩)
  rcases tf (Zba (mOp m k)) with hv | hv
  ·refine ⟨[],[],k,pre _ ⟨false,by rw [Zma _ hl,hv],by rw [if_neg (by simp)]⟩,?_⟩
   rw [step]
   exact ⟨fun h=>absurd h kne,fun h=>by have:=h.1.1;rw [hv] at this;cases this⟩
  ·obtain ⟨xs,ys,f,d1,d2⟩:=Zbdz (mOp m k) hl hv
   cases f with
   | true =>
    refine ⟨xs,ys,k,pre _ ⟨true,by rw [Zma _ hl,hv],?_⟩,?_⟩
    ·rw [if_pos rfl];exact ⟨xs,ys,true,d1,by rw [if_pos rfl]⟩
    ·rw [step]
     exact ⟨fun h=>absurd h kne,fun h=>absurd (d2.1 rfl) h.1.2.1⟩
   | false =>
    obtain ⟨cs,c1,c2⟩:=Zbd0 (mOp m k) hl hv
    by_cases hc:cs=[]
    ·obtain ⟨xs',ys',n,i1,i2⟩:=ih (by omega)
     simp only [Int.natCast_add,Int.cast_ofNat_Int] at i1
     refine ⟨xs',ys',n,pre _ ⟨true,by rw [Zma _ hl,hv],?_⟩,?_⟩
     ·rw [if_pos rfl]
      refine ⟨xs,ys,false,d1,?_⟩
      rw [if_neg (by simp)]
      refine ⟨cs,c1,?_⟩
      rw [hc,if_neg (by simp),wk']
      exact i1
     ·rw [step,i2]
      refine ⟨fun h=>⟨⟨hv,fun hd=>(by have:=d2.2 hd;cases this),fun hch=>(c2.2 hch) hc⟩,h⟩,fun h=>h.2⟩
    ·refine ⟨cs,[],k,pre _ ⟨true,by rw [Zma _ hl,hv],?_⟩,?_⟩
     ·rw [if_pos rfl]
      refine ⟨xs,ys,false,d1,?_⟩
      rw [if_neg (by simp)]
      refine ⟨cs,c1,?_⟩
      have:0<cs.length:=List.length_pos_iff.2 hc
      rw [if_pos (by omega)]
     ·rw [step]
      exact ⟨fun h=>absurd h kne,fun h=>absurd (c2.1 hc) h.1.2.2⟩
theorem adm_iff (m:Zd):(∀ j:Nat,1≤j→j≤5→Zbb (mOp m j))↔Zcw m:=by
 constructor
 ·intro h
  exact ⟨h 1 (by omega) (by omega),h 2 (by omega) (by omega),h 3 (by omega) (by omega),h 4 (by omega) (by omega),h 5 (by omega) (by omega)⟩
 ·rintro ⟨h1,h2,h3,h4,h5⟩ j a b
  have:j=1∨j=2∨j=3∨j=4∨j=5:=by omega
  rcases this with rfl | rfl | rfl | rfl | rfl
  ·exact h1
  ·exact h2
  ·exact h3
  ·exact h4
  ·exact h5
open Classical in
theorem Zbd2 (m:Zd) (hm:LeM m):Zk0 m=some (Bo (decide (Zcw m)),[]):=by
 obtain ⟨xs,ys,n,h1,h2⟩:=Zbd1 m hm 1 (by omega) (by omega)
 refine Zbby _ _ ⟨xs,ys,n,Zbbx _ _ h1,?_⟩
 rw [adm_iff] at h2
 by_cases h:Zcw m
 ·rw [decide_eq_true h,decide_eq_true (h2.2 h)]
 ·rw [decide_eq_false h,decide_eq_false (fun hc=>h (h2.1 hc))]
abbrev Z4 (X:Rs) (p:Prop):Prop:=(p∧X=some (.tup [I 0,.t .nil,.t .nil],[]))∨(¬ p∧∃ n:Int,n≠0∧((∃ xs ys:List Int,X=some (.tup [I n,L 1 (xs.map ic),.own 0],[.arr Zt 1 true (ys.map ic)]))∨X=some (.tup [I n,.t .nil,.t .nil],[])∨∃ xs:List Int,X=some (.tup [I n,L 1 (xs.map ic),.t .nil],[])))
theorem Z4.of {X Y:Rs} {p:Prop} (h:Z4 X p) (e:∀ r,X=some r→Y=some r):Z4 Y p:=by
 rcases h with ⟨h,h1⟩ | ⟨h,n,hn,⟨xs,ys,h1⟩ | h1 | ⟨xs,h1⟩⟩
 ·exact .inl ⟨h,e _ h1⟩
 ·exact .inr ⟨h,n,hn,.inl ⟨xs,ys,e _ h1⟩⟩
 ·exact .inr ⟨h,n,hn,.inr (.inl (e _ h1))⟩
 ·exact .inr ⟨h,n,hn,.inr (.inr ⟨xs,e _ h1⟩)⟩
theorem Z4.congr {X:Rs} {p q:Prop} (h:Z4 X p) (e:p↔q):Z4 X q:=by
 rw [← e];exact h
theorem Zmc {ts:List (List Int)} {j:Nat} (hj:j<ts.length) {P:List Int→Prop} {p:Prop}:((∀ t∈ts.drop j,P t)∧p)↔(P ts[j]∧(∀ t∈ts.drop (j+1),P t)∧p):=by
 rw [List.drop_eq_getElem_cons hj]
 simp only [List.mem_cons,forall_eq_or_imp,and_assoc]
theorem l_rf0 (m:Zd) (hl:Le m.Scan.Steps) (ts:List (List Int)) (hts:∀ t∈ts,inT t) (hn:ts.length≤1000) (kind:Int) (hk:kind≠0) (x1 x2:Int) (p:Prop) (hc:Z4 (Z1 m x1 (w (x2+1))) p):∀ j,j≤ts.length →
  Z4 (Ze1 m ts kind x1 x2 ts.length j) ((∀ t∈ts.drop j,¬ tcl m.Scan t<1)∧p):=by
 refine down _ ?_ ?_
 ·refine (hc.of fun r hr=>Zz7 _ _ _ _ _ _ _ _ (by rw [if_neg (by omega)];exact hr)).congr (by simp)
 ·intro j hj ih
  have h4:=inc64 (i:=j) (by omega)
  have ht:=hts _ (List.getElem_mem hj)
  simp only [Int.natCast_add,Int.cast_ofNat_Int] at ih
  have pre:∀ r,(if tcl m.Scan ts[j]<1 then some (.tup [I kind,L 1 (ts[j].map ic),.t .nil],[])=some r else Ze1 m ts kind x1 x2 ts.length ((j:Int)+1)=some r)→Ze1 m ts kind x1 x2 ts.length j=some r:=by
   intro r hr
   refine Zz7 _ _ _ _ _ _ _ _ ?_
   rw [if_pos (by omega)]
   refine ⟨by omega,ts[j],by rw [Int.toNat_natCast];exact List.getElem?_eq_getElem hj,_,Zii _ hl ht,?_⟩
   rw [show w ((j:Int)+1)=(j:Int)+1 from h4]
   exact hr
  refine Z4.congr ?_ (Zmc (P:=fun t=>¬ tcl m.Scan t<1) hj).symm
  by_cases h:tcl m.Scan ts[j]<1
  ·exact .inr ⟨fun hc=>hc.1 h,kind,hk,.inr (.inr ⟨_,pre _ (by rw [if_pos h])⟩)⟩
  ·exact (ih.of fun r hr=>pre r (by rw [if_neg h];exact hr)).congr ⟨fun hh=>⟨h,hh⟩,fun hh=>hh.2⟩
theorem l_rf1 (m:Zd) (hm:LeM m) (p:Prop) (hc:Z4 (Z1 m 5 1) p):Z4 (Z1 m 5 0) (Zbb m.Scan∧p):=by
 have hl:Le m.Scan.Steps:=by obtain ⟨h1,h2,h3,h4,h5⟩:=hm;assumption
 have w1:w (1+0)=1:=by decide
 have w2:w (0+1)=1:=by decide
 have pre:∀ r,(∃ v1_0,Zbm m.Scan=some (Bo v1_0,[])∧_)→Z1 m 5 0=some r:=fun r h=>Zja _ _ _ _ (by rw [if_pos (by omega),if_pos rfl];exact h)
 rcases tf (Zba m.Scan) with hv | hv
 ·refine .inr ⟨fun h=>(by have:=h.1.1;rw [hv] at this;cases this),1,by decide,.inr (.inl (pre _ ⟨false,by rw [Zcg _ hl,hv],?_⟩))⟩
  rw [if_neg (by simp),w1]
 rcases Zmb m.Scan hl hv with ⟨hd,xs,ys,d1⟩ | ⟨hd,d1⟩
 ·refine .inr ⟨fun h=>h.1.2.1 hd,1,by decide,.inl ⟨xs,ys,pre _ ⟨true,by rw [Zcg _ hl,hv],?_⟩⟩⟩
  rw [if_pos rfl,w1]
  exact .inr ⟨ys,xs,d1,rfl⟩
 ·have b:=l_rf0 m hl allT (fun t h=>(Zdg t).1 h) (by rw [Zjh];omega) 1 (by decide) 5 0 p (by rw [w2];exact hc) 0 (Nat.zero_le _)
  refine (b.of fun r hr=>pre r ⟨true,by rw [Zcg _ hl,hv],?_⟩).congr ?_
  ·rw [if_pos rfl,w1]
   exact .inl ⟨d1,allT,Zjg,hr⟩
  ·simp only [List.drop_zero,Zdg]
   constructor
   ·rintro ⟨h,hp⟩;exact ⟨⟨hv,hd,fun ⟨t,ht,hc⟩=>h t ht hc⟩,hp⟩
   ·rintro ⟨h,hp⟩;exact ⟨fun t ht hc=>h.2.2 ⟨t,ht,hc⟩,hp⟩
theorem l_rf0a (m:Zd) (hl:Le m.Sort_.Steps) (ts:List (List Int)) (hts:∀ t∈ts,inT t) (hn:ts.length≤1000) (kind:Int) (hk:kind≠0) (x1 x2:Int) (p:Prop) (hc:Z4 (Z1 m x1 (w (x2+1))) p):∀ j,j≤ts.length →
  Z4 (Ze2 m ts kind x1 x2 ts.length j) ((∀ t∈ts.drop j,¬ tcl m.Sort_ t<1)∧p):=by
 refine down _ ?_ ?_
 ·refine (hc.of fun r hr=>Zz8 _ _ _ _ _ _ _ _ (by rw [if_neg (by omega)];exact hr)).congr (by simp)
 ·intro j hj ih
  have h4:=inc64 (i:=j) (by omega)
  have ht:=hts _ (List.getElem_mem hj)
  simp only [Int.natCast_add,Int.cast_ofNat_Int] at ih
  have pre:∀ r,(if tcl m.Sort_ ts[j]<1 then some (.tup [I kind,L 1 (ts[j].map ic),.t .nil],[])=some r else Ze2 m ts kind x1 x2 ts.length ((j:Int)+1)=some r)→Ze2 m ts kind x1 x2 ts.length j=some r:=by
   intro r hr
   refine Zz8 _ _ _ _ _ _ _ _ ?_
   rw [if_pos (by omega)]
   refine ⟨by omega,ts[j],by rw [Int.toNat_natCast];exact List.getElem?_eq_getElem hj,_,Zii _ hl ht,?_⟩
   rw [show w ((j:Int)+1)=(j:Int)+1 from h4]
   exact hr
  refine Z4.congr ?_ (Zmc (P:=fun t=>¬ tcl m.Sort_ t<1) hj).symm
  by_cases h:tcl m.Sort_ ts[j]<1
  ·exact .inr ⟨fun hc=>hc.1 h,kind,hk,.inr (.inr ⟨_,pre _ (by rw [if_pos h])⟩)⟩
  ·exact (ih.of fun r hr=>pre r (by rw [if_neg h];exact hr)).congr ⟨fun hh=>⟨h,hh⟩,fun hh=>hh.2⟩
theorem l_rf1a (m:Zd) (hm:LeM m) (p:Prop) (hc:Z4 (Z1 m 5 2) p):Z4 (Z1 m 5 1) (Zbb m.Sort_∧p):=by
 have hl:Le m.Sort_.Steps:=by obtain ⟨h1,h2,h3,h4,h5⟩:=hm;assumption
 have w1:w (1+1)=2:=by decide
 have w2:w (1+1)=2:=by decide
 have pre:∀ r,(∃ v1_0,Zbm m.Sort_=some (Bo v1_0,[])∧_)→Z1 m 5 1=some r:=fun r h=>Zja _ _ _ _ (by rw [if_pos (by omega),if_neg (by omega),if_pos rfl];exact h)
 rcases tf (Zba m.Sort_) with hv | hv
 ·refine .inr ⟨fun h=>(by have:=h.1.1;rw [hv] at this;cases this),2,by decide,.inr (.inl (pre _ ⟨false,by rw [Zcg _ hl,hv],?_⟩))⟩
  rw [if_neg (by simp),w1]
 rcases Zmb m.Sort_ hl hv with ⟨hd,xs,ys,d1⟩ | ⟨hd,d1⟩
 ·refine .inr ⟨fun h=>h.1.2.1 hd,2,by decide,.inl ⟨xs,ys,pre _ ⟨true,by rw [Zcg _ hl,hv],?_⟩⟩⟩
  rw [if_pos rfl,w1]
  exact .inr ⟨ys,xs,d1,rfl⟩
 ·have b:=l_rf0a m hl allT (fun t h=>(Zdg t).1 h) (by rw [Zjh];omega) 2 (by decide) 5 1 p (by rw [w2];exact hc) 0 (Nat.zero_le _)
  refine (b.of fun r hr=>pre r ⟨true,by rw [Zcg _ hl,hv],?_⟩).congr ?_
  ·rw [if_pos rfl,w1]
   exact .inl ⟨d1,allT,Zjg,hr⟩
  ·simp only [List.drop_zero,Zdg]
   constructor
   ·rintro ⟨h,hp⟩;exact ⟨⟨hv,hd,fun ⟨t,ht,hc⟩=>h t ht hc⟩,hp⟩
   ·rintro ⟨h,hp⟩;exact ⟨fun t ht hc=>h.2.2 ⟨t,ht,hc⟩,hp⟩
theorem l_rf0b (m:Zd) (hl:Le m.Hash.Steps) (ts:List (List Int)) (hts:∀ t∈ts,inT t) (hn:ts.length≤1000) (kind:Int) (hk:kind≠0) (x1 x2:Int) (p:Prop) (hc:Z4 (Z1 m x1 (w (x2+1))) p):∀ j,j≤ts.length →
  Z4 (Ze3 m ts kind x1 x2 ts.length j) ((∀ t∈ts.drop j,¬ tcl m.Hash t<1)∧p):=by
 refine down _ ?_ ?_
 ·refine (hc.of fun r hr=>Zz9 _ _ _ _ _ _ _ _ (by rw [if_neg (by omega)];exact hr)).congr (by simp)
 ·intro j hj ih
  have h4:=inc64 (i:=j) (by omega)
  have ht:=hts _ (List.getElem_mem hj)
  simp only [Int.natCast_add,Int.cast_ofNat_Int] at ih
  have pre:∀ r,(if tcl m.Hash ts[j]<1 then some (.tup [I kind,L 1 (ts[j].map ic),.t .nil],[])=some r else Ze3 m ts kind x1 x2 ts.length ((j:Int)+1)=some r)→Ze3 m ts kind x1 x2 ts.length j=some r:=by
   intro r hr
   refine Zz9 _ _ _ _ _ _ _ _ ?_
   rw [if_pos (by omega)]
   refine ⟨by omega,ts[j],by rw [Int.toNat_natCast];exact List.getElem?_eq_getElem hj,_,Zii _ hl ht,?_⟩
   rw [show w ((j:Int)+1)=(j:Int)+1 from h4]
   exact hr
  refine Z4.congr ?_ (Zmc (P:=fun t=>¬ tcl m.Hash t<1) hj).symm
  by_cases h:tcl m.Hash ts[j]<1
  ·exact .inr ⟨fun hc=>hc.1 h,kind,hk,.inr (.inr ⟨_,pre _ (by rw [if_pos h])⟩)⟩
  ·exact (ih.of fun r hr=>pre r (by rw [if_neg h];exact hr)).congr ⟨fun hh=>⟨h,hh⟩,fun hh=>hh.2⟩
theorem l_rf1b (m:Zd) (hm:LeM m) (p:Prop) (hc:Z4 (Z1 m 5 3) p):Z4 (Z1 m 5 2) (Zbb m.Hash∧p):=by
 have hl:Le m.Hash.Steps:=by obtain ⟨h1,h2,h3,h4,h5⟩:=hm;assumption
 have w1:w (1+2)=3:=by decide
 have w2:w (2+1)=3:=by decide
 have pre:∀ r,(∃ v1_0,Zbm m.Hash=some (Bo v1_0,[])∧_)→Z1 m 5 2=some r:=fun r h=>Zja _ _ _ _ (by rw [if_pos (by omega),if_neg (by omega),if_neg (by omega),if_pos rfl];exact h)
 rcases tf (Zba m.Hash) with hv | hv
 ·refine .inr ⟨fun h=>(by have:=h.1.1;rw [hv] at this;cases this),3,by decide,.inr (.inl (pre _ ⟨false,by rw [Zcg _ hl,hv],?_⟩))⟩
  rw [if_neg (by simp),w1]
 rcases Zmb m.Hash hl hv with ⟨hd,xs,ys,d1⟩ | ⟨hd,d1⟩
 ·refine .inr ⟨fun h=>h.1.2.1 hd,3,by decide,.inl ⟨xs,ys,pre _ ⟨true,by rw [Zcg _ hl,hv],?_⟩⟩⟩
  rw [if_pos rfl,w1]
  exact .inr ⟨ys,xs,d1,rfl⟩
 ·have b:=l_rf0b m hl allT (fun t h=>(Zdg t).1 h) (by rw [Zjh];omega) 3 (by decide) 5 2 p (by rw [w2];exact hc) 0 (Nat.zero_le _)
  refine (b.of fun r hr=>pre r ⟨true,by rw [Zcg _ hl,hv],?_⟩).congr ?_
  ·rw [if_pos rfl,w1]
   exact .inl ⟨d1,allT,Zjg,hr⟩
  ·simp only [List.drop_zero,Zdg]
   constructor
   ·rintro ⟨h,hp⟩;exact ⟨⟨hv,hd,fun ⟨t,ht,hc⟩=>h t ht hc⟩,hp⟩
   ·rintro ⟨h,hp⟩;exact ⟨fun t ht hc=>h.2.2 ⟨t,ht,hc⟩,hp⟩
theorem l_rf0c (m:Zd) (hl:Le m.Merge.Steps) (ts:List (List Int)) (hts:∀ t∈ts,inT t) (hn:ts.length≤1000) (kind:Int) (hk:kind≠0) (x1 x2:Int) (p:Prop) (hc:Z4 (Z1 m x1 (w (x2+1))) p):∀ j,j≤ts.length →
  Z4 (Ze4 m ts kind x1 x2 ts.length j) ((∀ t∈ts.drop j,¬ tcl m.Merge t<1)∧p):=by
 refine down _ ?_ ?_
 ·refine (hc.of fun r hr=>Z0a _ _ _ _ _ _ _ _ (by rw [if_neg (by omega)];exact hr)).congr (by simp)
 ·intro j hj ih
  have h4:=inc64 (i:=j) (by omega)
  have ht:=hts _ (List.getElem_mem hj)
  simp only [Int.natCast_add,Int.cast_ofNat_Int] at ih
  have pre:∀ r,(if tcl m.Merge ts[j]<1 then some (.tup [I kind,L 1 (ts[j].map ic),.t .nil],[])=some r else Ze4 m ts kind x1 x2 ts.length ((j:Int)+1)=some r)→Ze4 m ts kind x1 x2 ts.length j=some r:=by
   intro r hr
   refine Z0a _ _ _ _ _ _ _ _ ?_
   rw [if_pos (by omega)]
   refine ⟨by omega,ts[j],by rw [Int.toNat_natCast];exact List.getElem?_eq_getElem hj,_,Zii _ hl ht,?_⟩
   rw [show w ((j:Int)+1)=(j:Int)+1 from h4]
   exact hr
  refine Z4.congr ?_ (Zmc (P:=fun t=>¬ tcl m.Merge t<1) hj).symm
  by_cases h:tcl m.Merge ts[j]<1
  ·exact .inr ⟨fun hc=>hc.1 h,kind,hk,.inr (.inr ⟨_,pre _ (by rw [if_pos h])⟩)⟩
  ·exact (ih.of fun r hr=>pre r (by rw [if_neg h];exact hr)).congr ⟨fun hh=>⟨h,hh⟩,fun hh=>hh.2⟩
theorem l_rf1c (m:Zd) (hm:LeM m) (p:Prop) (hc:Z4 (Z1 m 5 4) p):Z4 (Z1 m 5 3) (Zbb m.Merge∧p):=by
 have hl:Le m.Merge.Steps:=by obtain ⟨h1,h2,h3,h4,h5⟩:=hm;assumption
 have w1:w (1+3)=4:=by decide
 have w2:w (3+1)=4:=by decide
 have pre:∀ r,(∃ v1_0,Zbm m.Merge=some (Bo v1_0,[])∧_)→Z1 m 5 3=some r:=fun r h=>Zja _ _ _ _ (by rw [if_pos (by omega),if_neg (by omega),if_neg (by omega),if_neg (by omega),if_pos rfl];exact h)
 rcases tf (Zba m.Merge) with hv | hv
 ·refine .inr ⟨fun h=>(by have:=h.1.1;rw [hv] at this;cases this),4,by decide,.inr (.inl (pre _ ⟨false,by rw [Zcg _ hl,hv],?_⟩))⟩
  rw [if_neg (by simp),w1]
 rcases Zmb m.Merge hl hv with ⟨hd,xs,ys,d1⟩ | ⟨hd,d1⟩
 ·refine .inr ⟨fun h=>h.1.2.1 hd,4,by decide,.inl ⟨xs,ys,pre _ ⟨true,by rw [Zcg _ hl,hv],?_⟩⟩⟩
  rw [if_pos rfl,w1]
  exact .inr ⟨ys,xs,d1,rfl⟩
 ·have b:=l_rf0c m hl allT (fun t h=>(Zdg t).1 h) (by rw [Zjh];omega) 4 (by decide) 5 3 p (by rw [w2];exact hc) 0 (Nat.zero_le _)
  refine (b.of fun r hr=>pre r ⟨true,by rw [Zcg _ hl,hv],?_⟩).congr ?_
  ·rw [if_pos rfl,w1]
   exact .inl ⟨d1,allT,Zjg,hr⟩
  ·simp only [List.drop_zero,Zdg]
   constructor
   ·rintro ⟨h,hp⟩;exact ⟨⟨hv,hd,fun ⟨t,ht,hc⟩=>h t ht hc⟩,hp⟩
   ·rintro ⟨h,hp⟩;exact ⟨fun t ht hc=>h.2.2 ⟨t,ht,hc⟩,hp⟩
theorem l_rf0d (m:Zd) (hl:Le m.Nested.Steps) (ts:List (List Int)) (hts:∀ t∈ts,inT t) (hn:ts.length≤1000) (kind:Int) (hk:kind≠0) (x1 x2:Int) (p:Prop) (hc:Z4 (Z1 m x1 (w (x2+1))) p):∀ j,j≤ts.length →
  Z4 (Ze5 m ts kind x1 x2 ts.length j) ((∀ t∈ts.drop j,¬ tcl m.Nested t<1)∧p):=by
 refine down _ ?_ ?_
 ·refine (hc.of fun r hr=>Z0b _ _ _ _ _ _ _ _ (by rw [if_neg (by omega)];exact hr)).congr (by simp)
 ·intro j hj ih
  have h4:=inc64 (i:=j) (by omega)
  have ht:=hts _ (List.getElem_mem hj)
  simp only [Int.natCast_add,Int.cast_ofNat_Int] at ih
  have pre:∀ r,(if tcl m.Nested ts[j]<1 then some (.tup [I kind,L 1 (ts[j].map ic),.t .nil],[])=some r else Ze5 m ts kind x1 x2 ts.length ((j:Int)+1)=some r)→Ze5 m ts kind x1 x2 ts.length j=some r:=by
   intro r hr
   refine Z0b _ _ _ _ _ _ _ _ ?_
   rw [if_pos (by omega)]
   refine ⟨by omega,ts[j],by rw [Int.toNat_natCast];exact List.getElem?_eq_getElem hj,_,Zii _ hl ht,?_⟩
   rw [show w ((j:Int)+1)=(j:Int)+1 from h4]
   exact hr
  refine Z4.congr ?_ (Zmc (P:=fun t=>¬ tcl m.Nested t<1) hj).symm
  by_cases h:tcl m.Nested ts[j]<1
  ·exact .inr ⟨fun hc=>hc.1 h,kind,hk,.inr (.inr ⟨_,pre _ (by rw [if_pos h])⟩)⟩
  ·exact (ih.of fun r hr=>pre r (by rw [if_neg h];exact hr)).congr ⟨fun hh=>⟨h,hh⟩,fun hh=>hh.2⟩
theorem l_rf1d (m:Zd) (hm:LeM m) (p:Prop) (hc:Z4 (Z1 m 5 5) p):Z4 (Z1 m 5 4) (Zbb m.Nested∧p):=by
 have hl:Le m.Nested.Steps:=by obtain ⟨h1,h2,h3,h4,h5⟩:=hm;assumption
 have w1:w (1+4)=5:=by decide
 have w2:w (4+1)=5:=by decide
 have pre:∀ r,(∃ v1_0,Zbm m.Nested=some (Bo v1_0,[])∧_)→Z1 m 5 4=some r:=fun r h=>Zja _ _ _ _ (by rw [if_pos (by omega),if_neg (by omega),if_neg (by omega),if_neg (by omega),if_neg (by omega),if_pos rfl];exact h)
 rcases tf (Zba m.Nested) with hv | hv
 ·refine .inr ⟨fun h=>(by have:=h.1.1;rw [hv] at this;cases this),5,by decide,.inr (.inl (pre _ ⟨false,by rw [Zcg _ hl,hv],?_⟩))⟩
  rw [if_neg (by simp),w1]
 rcases Zmb m.Nested hl hv with ⟨hd,xs,ys,d1⟩ | ⟨hd,d1⟩
 ·refine .inr ⟨fun h=>h.1.2.1 hd,5,by decide,.inl ⟨xs,ys,pre _ ⟨true,by rw [Zcg _ hl,hv],?_⟩⟩⟩
  rw [if_pos rfl,w1]
  exact .inr ⟨ys,xs,d1,rfl⟩
 ·have b:=l_rf0d m hl allT (fun t h=>(Zdg t).1 h) (by rw [Zjh];omega) 5 (by decide) 5 4 p (by rw [w2];exact hc) 0 (Nat.zero_le _)
  refine (b.of fun r hr=>pre r ⟨true,by rw [Zcg _ hl,hv],?_⟩).congr ?_
  ·rw [if_pos rfl,w1]
   exact .inl ⟨d1,allT,Zjg,hr⟩
  ·simp only [List.drop_zero,Zdg]
   constructor
   ·rintro ⟨h,hp⟩;exact ⟨⟨hv,hd,fun ⟨t,ht,hc⟩=>h t ht hc⟩,hp⟩
   ·rintro ⟨h,hp⟩;exact ⟨fun t ht hc=>h.2.2 ⟨t,ht,hc⟩,hp⟩
open Classical in
theorem Z15 (m:Zd) (hm:LeM m):Zhn m=some (Bo (decide (Zcw m)),[]):=by
 have h5:Z4 (Z1 m 5 5) True:=.inl ⟨trivial,Zja _ _ _ _ (by rw [if_neg (by omega)])⟩
 have h0:=l_rf1 m hm _ (l_rf1a m hm _ (l_rf1b m hm _ (l_rf1c m hm _ (l_rf1d m hm _ h5))))
 have hop:Zeb m=some (.bsl 1 5,[.box (m.c.map .t),.box [.ptr 0 0,.ptr 0 6,.ptr 0 12,.ptr 0 18,.ptr 0 24]]):=Zz0 _ _ rfl
 have hR:Z4 (Zhm m) (Zcw m):=(h0.of fun r hr=>Zbav _ _ ⟨hop,hr⟩).congr (by simp [Zcw])
 refine Zbaw _ _ ?_
 rcases hR with ⟨h,h1⟩ | ⟨h,n,hn,⟨xs,ys,h1⟩ | h1 | ⟨xs,h1⟩⟩
 ·rw [decide_eq_true h];exact .inr (.inl ⟨0,h1,rfl⟩)
 ·rw [decide_eq_false h];exact .inl ⟨ys,n,xs,h1,by rw [decide_eq_false hn]⟩
 ·rw [decide_eq_false h];exact .inr (.inl ⟨n,h1,by rw [decide_eq_false hn]⟩)
 ·rw [decide_eq_false h];exact .inr (.inr ⟨n,xs,h1,by rw [decide_eq_false hn]⟩)
end Go.Proofs.YtbapkgocloaaeaaGreat
/- part: MK -/
namespace Go.Proofs.YtbapkgocloaaeaaGreat
open Go.AM
def popc (x:Int):Nat:=(if andI (shrI x 0) 1=1 then 1 else 0)+(if andI (shrI x 1) 1=1 then 1 else 0)+(if andI (shrI x 2) 1=1 then 1 else 0)+(if andI (shrI x 3) 1=1 then 1 else 0)
abbrev M16 (x:Int):Prop:=0≤x∧x<16
theorem m16 {x:Int} (h:M16 x):∃ a:Fin 16,x=(a.1:Int):=⟨⟨x.toNat,by omega⟩,by simp;omega⟩
set_option maxRecDepth 100000 in
theorem f_or:∀ a b:Fin 16,M16 (orI a.1 b.1)∧andI a.1 (orI a.1 b.1)=a.1∧(orI a.1 b.1=a.1∨popc a.1+1≤popc (orI a.1 b.1)):=by decide
set_option maxRecDepth 100000 in
theorem f_and:∀ a b:Fin 16,M16 (andI a.1 b.1)∧andI (andI a.1 b.1) b.1=andI a.1 b.1∧(andI (a.1:Int) b.1=a.1→popc a.1≤popc b.1∧(popc b.1≤popc a.1→a.1=b.1)):=by decide
set_option maxRecDepth 1000000 in
theorem f_sub:∀ a b c:Fin 16,andI (a.1:Int) c.1=a.1→andI (b.1:Int) c.1=b.1→andI (orI a.1 b.1) c.1=orI a.1 b.1:=by decide
set_option maxRecDepth 100000 in
theorem f_bit:∀ (a:Fin 16) (i:Fin 4),(andI (shrI a.1 i.1) 1=0↔¬ andI (shrI a.1 i.1) 1=1):=by decide
set_option maxRecDepth 100000 in
theorem f_shl:∀ (i j:Fin 4),(andI (shrI (shlI 1 i.1) j.1) 1=1↔i=j)∧M16 (shlI 1 i.1):=by decide
set_option maxRecDepth 100000 in
theorem f_low:∀ a:Fin 16,M16 (andI a.1 (w (0 - a.1)))∧andI (andI a.1 (w (0 - a.1))) a.1=andI a.1 (w (0 - (a.1:Int))):=by decide
set_option maxRecDepth 100000 in
theorem f_pop:∀ (a:Fin 16),(a.1<2→popc a.1≤1)∧(a.1<4→popc a.1≤2)∧(a.1<8→popc a.1≤3)∧popc a.1≤4:=by decide
theorem f_bits:∀ a b c d:Bool,M16 (bit4 a b c d):=by decide
def Zb6 (qa:List Atom) (m:Int):Nat→Bool:=fun i=>decide (i<qa.length) && (!Zq m i && shr qa (shlI 1 i) m)
def Zd2 (qa:List Atom) (m:Int):Int:=Zx (Zb6 qa m)
theorem nearM_16 (qa:List Atom) (m:Int):M16 (Zd2 qa m):=f_bits _ _ _ _
theorem Zbd3 {i j:Nat} (hi:i<4) (hj:j<4):Zq (shlI 1 i) j=decide (i=j):=by
 have:=(f_shl ⟨i,hi⟩ ⟨j,hj⟩).1
 simp only [Zq,Fin.mk.injEq] at this ⊢
 rw [Bool.eq_iff_iff,decide_eq_true_eq,decide_eq_true_eq]
 exact this
theorem Zn4 {m:Int} (hm:M16 m) {i:Nat} (hi:i<4):andI (shrI m i) 1=0↔Zq m i=false:=by
 obtain ⟨a,rfl⟩:=m16 hm
 have:=f_bit a ⟨i,hi⟩
 simp only at this
 rw [this,Zq,decide_eq_false_iff_not]
theorem hasV_one (qa:List Atom) (h4:qa.length≤4) {i:Nat} (hi:i<qa.length) (u:Int):∀ k,k≤qa.length→hasV (shlI 1 i) (qa.drop k) k u=(decide (k≤i) && has qa[i].Vars u):=by
 refine down _ ?_ ?_
 ·rw [List.drop_length,hasV,decide_eq_false (by omega)];rfl
 ·intro k hk ih
  rw [Zo8 _ hk,ih,Zbd3 (by omega) (by omega)]
  by_cases e:i=k
  ·subst e
   rw [decide_eq_true rfl,decide_eq_true (Nat.le_refl _),decide_eq_false (by omega)];simp
  ·by_cases e2:k≤i
   ·rw [decide_eq_false e,decide_eq_true (by omega),decide_eq_true e2];simp
   ·rw [decide_eq_false e,decide_eq_false (by omega),decide_eq_false e2];simp
theorem pV_one (qa:List Atom) (h4:qa.length≤4) {i:Nat} (hi:i<qa.length) (u:Nat):pV (shlI 1 i) qa u=has qa[i].Vars u:=by
 have:=hasV_one qa h4 hi u 0 (Nat.zero_le _)
 simpa [pV] using this
theorem shr_one {n:Int} {qa:List Atom} (h:Zm n qa=true) {i:Nat} (hi:i<qa.length) (m:Int):shr qa (shlI 1 i) m=qa[i].Vars.any (fun v=>has (varL m qa n.toNat) v):=by
 have h4:=(Zbr h).2
 rw [Bool.eq_iff_iff,shr,List.any_eq_true,List.any_eq_true]
 simp only [Zjy h,pV_one qa h4 hi,Bool.and_eq_true,List.mem_range]
 constructor
 ·rintro ⟨u,hu,h1,h2⟩
  refine ⟨(u:Int),Zfn.1 h1,?_⟩
  simp only [vin,Bool.and_eq_true]
  exact ⟨by simp [inR];omega,by simpa using h2⟩
 ·rintro ⟨v,hv,h2⟩
  have h3:=Zg6 h _ (List.getElem_mem hi) v hv
  simp [inR] at h3
  simp only [vin,Bool.and_eq_true] at h2
  refine ⟨v.toNat,by omega,?_,h2.2⟩
  rw [Zfn,Int.toNat_of_nonneg h3.1]
  exact hv
theorem Z16 {qa:List Atom} {m:Int} {i:Nat} (hi:i<4) (h:Zb6 qa m i=true):addV (fun u=>decide (u<i) && Zb6 qa m u) [(i:Int)]=fun u=>decide (u<i+1) && Zb6 qa m u:=by
 funext u
 simp only [addV,has]
 by_cases e:u=i
 ·subst e
  rw [decide_eq_true (by omega:u<u+1),h]
  simp
 ·by_cases e2:u<i
  ·rw [decide_eq_true e2,decide_eq_true (by omega)]
   have:¬ ((u:Int)=(i:Int)):=by omega
   simp [this]
  ·rw [decide_eq_false e2,decide_eq_false (by omega)]
   have:¬ ((u:Int)=(i:Int)):=by omega
   simp [this]
theorem Zn5 {qa:List Atom} {m:Int} {i:Nat} (h:Zb6 qa m i=false):(fun u=>decide (u<i) && Zb6 qa m u)=fun u=>decide (u<i+1) && Zb6 qa m u:=by
 funext u
 by_cases e:u=i
 ·subst e;rw [h];simp
 ·by_cases e2:u<i
  ·rw [decide_eq_true e2,decide_eq_true (by omega)]
  ·rw [decide_eq_false e2,decide_eq_false (by omega)]
theorem Z17 (qa:List Atom) (m:Int):(fun u=>decide (u<qa.length) && Zb6 qa m u)=Zb6 qa m:=by
 funext u
 unfold Zb6
 by_cases e:u<qa.length
 ·rw [decide_eq_true e];simp
 ·rw [decide_eq_false e];simp
theorem Zbd4 (q:Zc) (hq:LeQ q) (hv:Zm q.Ze q.Atoms=true) (m:Int) (hm:M16 m):∀ i,i≤q.Atoms.length →
  Zex (varL m q.Atoms q.Ze.toNat) m (Zx fun u=>decide (u<i) && Zb6 q.Atoms m u) q.Atoms q.Atoms.length i=some (I (Zd2 q.Atoms m),[]):=by
 have h4:=(Zbr hv).2
 refine down _ ?_ ?_
 ·refine Zzx _ _ _ _ _ _ _ ?_
  rw [if_neg (by omega),Z17];rfl
 ·intro i hi ih
  have hi4:i<4:=by omega
  have hinc:=inc64 (i:=i) (by omega)
  simp only [Int.natCast_add,Int.cast_ofNat_Int] at ih
  refine Zzx _ _ _ _ _ _ _ ?_
  rw [if_pos (by omega)]
  refine ⟨by omega,q.Atoms[i],by rw [Int.toNat_natCast];exact List.getElem?_eq_getElem hi,by omega,?_⟩
  rw [show w ((i:Int)+1)=(i:Int)+1 from hinc]
  have hn:Zb6 q.Atoms m i=(!Zq m i && q.Atoms[i].Vars.any (fun v=>has (varL m q.Atoms q.Ze.toNat) v)):=by
   unfold Zb6;rw [decide_eq_true hi,shr_one hv hi];simp
  have hvars:=Ziq hv _ (List.getElem_mem hi)
  have hvl:=Zir m q.Atoms q.Ze.toNat
  have hvn:=Zc7 hv
  rcases tf (Zq m i) with e1 | e1
  ·rw [if_pos ((Zn4 hm hi4).2 e1)]
   refine ⟨_,x_both q.Atoms[i].Vars (varL m q.Atoms q.Ze.toNat) (by omega) (by omega),?_⟩
   rcases tf (q.Atoms[i].Vars.any (fun v=>has (varL m q.Atoms q.Ze.toNat) v)) with e2 | e2
   ·have e3:q.Atoms[i].Vars.filter (has (varL m q.Atoms q.Ze.toNat))=[]:=by
     rw [List.filter_eq_nil_iff];intro a ha;have:=List.any_eq_false.1 e2 a ha;simpa using this
    rw [e3,if_neg (by simp),Zn5 (by rw [hn,e2];simp)]
    exact ih
   ·have e3:0<(q.Atoms[i].Vars.filter (has (varL m q.Atoms q.Ze.toNat))).length:=by
     obtain ⟨v,hv1,hv2⟩:=List.any_eq_true.1 e2
     exact List.length_pos_of_mem (List.mem_filter.2 ⟨hv1,hv2⟩)
    rw [if_pos (by omega),Zmy _ (by simp [inR];omega),Z16 hi4 (by rw [hn,e1,e2];rfl)]
    exact ih
  ·rw [if_neg (fun hc=>by rw [(Zn4 hm hi4).1 hc] at e1;cases e1),Zn5 (by rw [hn,e1];rfl)]
   exact ih
theorem Z18 (q:Zc) (hq:LeQ q) (hv:Zm q.Ze q.Atoms=true) (m:Int) (hm:M16 m):Zj9 q m=some (I (Zd2 q.Atoms m),[]):=by
 have b:=Zbd4 q hq hv m hm 0 (Nat.zero_le _)
 refine Zbal _ _ _ ⟨_,Zl9 q m hq hv,?_⟩
 simpa [Zx,bit4] using b
theorem l_near (q:Zc) (hq:LeQ q) (hv:Zm q.Ze q.Atoms=true) (m:Int) (hm:M16 m):∀ i,i≤q.Atoms.length →
  Zfe q m (Zx fun u=>decide (u<i) && Zb6 q.Atoms m u) (Zx (pV m q.Atoms)) i=some (I (Zd2 q.Atoms m),[]):=by
 have h4:=(Zbr hv).2
 refine down _ ?_ ?_
 ·refine Z06 _ _ _ _ _ _ ?_
  rw [if_neg (by omega),Z17];rfl
 ·intro i hi ih
  have hi4:i<4:=by omega
  have hinc:=inc64 (i:=i) (by omega)
  simp only [Int.natCast_add,Int.cast_ofNat_Int] at ih
  refine Z06 _ _ _ _ _ _ ?_
  rw [if_pos (by omega)]
  refine ⟨by omega,?_⟩
  rw [show w ((i:Int)+1)=(i:Int)+1 from hinc]
  have hn:Zb6 q.Atoms m i=(!Zq m i && shr q.Atoms (shlI 1 i) m):=by
   unfold Zb6;rw [decide_eq_true hi];simp
  rcases tf (Zq m i) with e1 | e1
  ·rw [if_pos ((Zn4 hm hi4).2 e1)]
   refine ⟨_,Zjb q (shlI 1 i) hq (Zg6 hv),?_⟩
   rcases tf (shr q.Atoms (shlI 1 i) m) with e2 | e2
   ·rw [if_pos ((Zpa q.Atoms (shlI 1 i) m).2 e2),Zn5 (by rw [hn,e2];simp)]
    exact ih
   ·rw [if_neg (fun hc=>by rw [(Zpa q.Atoms (shlI 1 i) m).1 hc] at e2;cases e2),Zmy _ (by simp [inR];omega),Z16 hi4 (by rw [hn,e1,e2];rfl)]
    exact ih
  ·rw [if_neg (fun hc=>by rw [(Zn4 hm hi4).1 hc] at e1;cases e1),Zn5 (by rw [hn,e1];rfl)]
   exact ih
theorem x_near (q:Zc) (hq:LeQ q) (hv:Zm q.Ze q.Atoms=true) (m:Int) (hm:M16 m):Zk2 q m=some (I (Zd2 q.Atoms m),[]):=by
 have b:=l_near q hq hv m hm 0 (Nat.zero_le _)
 refine Zbb5 _ _ _ ⟨_,Zjb q m hq (Zg6 hv),?_⟩
 simpa [Zx,bit4] using b
def Zdh (qa:List Atom) (mask x:Int):Int:=orI x (andI (Zd2 qa x) mask)
def Zfk (qa:List Atom) (mask:Int):Nat→Int→Int
 | 0,x=>x
 | n+1,x=>Zfk qa mask n (Zdh qa mask x)
def conn (qa:List Atom) (mask:Int):Bool:=decide (Zfk qa mask qa.length (andI mask (w (0 - mask)))=mask)
abbrev SubM (x mask:Int):Prop:=andI x mask=x
theorem Zs8 {qa:List Atom} {mask x:Int} (hm:M16 mask) (hx:M16 x) (hs:SubM x mask):M16 (Zdh qa mask x)∧SubM (Zdh qa mask x) mask∧(Zdh qa mask x=x∨popc x+1≤popc (Zdh qa mask x)):=by
 obtain ⟨a,rfl⟩:=m16 hx
 obtain ⟨b,rfl⟩:=m16 hm
 obtain ⟨c,hc⟩:=m16 (nearM_16 qa (a.1:Int))
 unfold Zdh
 rw [hc]
 obtain ⟨d1,d2,_⟩:=f_and c b
 obtain ⟨d,hd⟩:=m16 d1
 rw [hd] at d2 ⊢
 obtain ⟨e1,_,e3⟩:=f_or a d
 exact ⟨e1,f_sub a d b hs d2,e3⟩
theorem Z19 {qa:List Atom} {mask x:Int} (h:Zdh qa mask x=x):∀ n,Zfk qa mask n x=x
 | 0=>rfl
 | n+1=>by rw [Zfk,h];exact Z19 h n
theorem Zbd5 (q:Zc) (hq:LeQ q) (hv:Zm q.Ze q.Atoms=true) (mask:Int) (hm:M16 mask) (hp:popc mask≤q.Atoms.length):∀ (f:Nat) (x:Int),M16 x→SubM x mask→q.Atoms.length≤popc x+f →
  Zhi q mask x=some (Bo (decide (Zfk q.Atoms mask f x=mask)),[]):=by
 intro f
 induction f with
 | zero =>
  intro x hx hs hf
  have hxm:x=mask:=by
   obtain ⟨a,rfl⟩:=m16 hx
   obtain ⟨b,rfl⟩:=m16 hm
   have:=((f_and a b).2.2 hs).2 (by omega)
   omega
  obtain ⟨s1,s2,s3⟩:=Zs8 (qa:=q.Atoms) hm hx hs
  have hfix:Zdh q.Atoms mask x=x:=by
   rcases s3 with h | h
   ·exact h
   ·obtain ⟨a,ha⟩:=m16 s1
    obtain ⟨b,rfl⟩:=m16 hm
    rw [ha] at s2 h
    have:=((f_and a b).2.2 s2).1
    rw [hxm] at h
    omega
  refine Zzy _ _ _ _ ⟨_,Z18 q hq hv x hx,?_⟩
  rw [if_pos (show orI x (andI (Zd2 q.Atoms x) mask)=x from hfix)];rfl
 | succ f ih =>
  intro x hx hs hf
  obtain ⟨s1,s2,s3⟩:=Zs8 (qa:=q.Atoms) hm hx hs
  refine Zzy _ _ _ _ ⟨_,Z18 q hq hv x hx,?_⟩
  by_cases h:Zdh q.Atoms mask x=x
  ·rw [if_pos (show orI x (andI (Zd2 q.Atoms x) mask)=x from h),Z19 h]
  ·rw [if_neg (show ¬ orI x (andI (Zd2 q.Atoms x) mask)=x from h)]
   exact ih (Zdh q.Atoms mask x) s1 s2 (by rcases s3 with h' | h';exact absurd h' h;omega)
theorem l_joined (q:Zc) (hq:LeQ q) (hv:Zm q.Ze q.Atoms=true) (mask:Int) (hm:M16 mask):∀ i,i≤q.Atoms.length→∀ x,M16 x→SubM x mask →
  Zh1 q mask x i=some (Bo (decide (Zfk q.Atoms mask (q.Atoms.length - i) x=mask)),[]):=by
 have h4:=(Zbr hv).2
 refine down _ ?_ ?_
 ·intro x _ _
  refine Z07 _ _ _ _ _ ?_
  rw [if_neg (by omega),Nat.sub_self];rfl
 ·intro i hi ih x hx hs
  obtain ⟨s1,s2,s3⟩:=Zs8 (qa:=q.Atoms) hm hx hs
  have hinc:=inc64 (i:=i) (by omega)
  refine Z07 _ _ _ _ _ ?_
  rw [if_pos (by omega)]
  refine ⟨_,x_near q hq hv x hx,?_⟩
  have ih:=ih _ s1 s2
  simp only [Int.natCast_add,Int.cast_ofNat_Int] at ih
  rw [show w ((i:Int)+1)=(i:Int)+1 from hinc,show q.Atoms.length - i=(q.Atoms.length - (i+1))+1 by omega,Zfk]
  exact ih
abbrev MQ (qa:List Atom) (m:Int):Prop:=0≤m∧m<2 ^ qa.length
theorem MQ.m16 {n:Int} {qa:List Atom} {m:Int} (hv:Zm n qa=true) (h:MQ qa m):M16 m∧popc m≤qa.length:=by
 have hl:=Zbr hv
 obtain ⟨h1,h2⟩:=h
 have e:qa.length=1∨qa.length=2∨qa.length=3∨qa.length=4:=by omega
 have k16:M16 m:=by rcases e with e | e | e | e <;> rw [e] at h2 <;> exact ⟨h1,by omega⟩
 refine ⟨k16,?_⟩
 obtain ⟨a,rfl⟩:=Go.Proofs.YtbapkgocloaaeaaGreat.m16 k16
 obtain ⟨p1,p2,p3,p4⟩:=f_pop a
 rcases e with e | e | e | e <;> rw [e] at h2 ⊢
 ·exact p1 (by omega)
 ·exact p2 (by omega)
 ·exact p3 (by omega)
 ·exact p4
theorem Zn6 (q:Zc) (hq:LeQ q) (hv:Zm q.Ze q.Atoms=true) (m:Int) (hm:MQ q.Atoms m) (h0:m≠0):Zea q m=some (Bo (conn q.Atoms m),[]):=by
 obtain ⟨k1,k2⟩:=hm.m16 hv
 refine Zzz _ _ _ ?_
 rw [if_neg h0]
 obtain ⟨a,rfl⟩:=m16 k1
 obtain ⟨l1,l2⟩:=f_low a
 exact Zbd5 q hq hv _ k1 k2 q.Atoms.length _ l1 l2 (by omega)
theorem Zn7 (q:Zc) (hq:LeQ q) (hv:Zm q.Ze q.Atoms=true) (m:Int) (hm:MQ q.Atoms m):Zeg q m=some (Bo (conn q.Atoms m),[]):=by
 obtain ⟨k1,k2⟩:=hm.m16 hv
 refine Zbb6 _ _ _ ?_
 obtain ⟨a,rfl⟩:=m16 k1
 obtain ⟨l1,l2⟩:=f_low a
 exact l_joined q hq hv _ k1 0 (Nat.zero_le _) _ l1 l2
theorem Zd3 {n:Int} {qa:List Atom} (hv:Zm n qa=true):Zs n qa=2 ^ qa.length - 1:=by
 unfold Zs;rw [if_pos hv,(Zg4 hv).2.1]
theorem Z2a (q:Zc) (hq:LeQ q) (m:Int):Zhh q m=some (Bo (Zm q.Ze q.Atoms && inR m 0 (Zs q.Ze q.Atoms)),[]):=by
 refine Zbak _ _ _ ⟨_,Zl6 q hq,?_⟩
 rcases tf (Zm q.Ze q.Atoms) with e | e
 ·rw [e];simp
 ·rw [e,if_pos rfl]
  refine ⟨by omega,_,Zdd _ _ _,?_⟩
  rw [show w (shlI 1 (q.Atoms.length:Int) - 1)=shlI 1 (q.Atoms.length:Int) - 1 from (Zg4 e).2.2.1]
  unfold Zs
  rw [if_pos e];simp
theorem Z2b (q:Zc) (hq:LeQ q) (m:Int):Zh0 q m=some (Bo (Zm q.Ze q.Atoms && inR m 0 (Zs q.Ze q.Atoms)),[]):=by
 refine Zbb3 _ _ _ ⟨_,Znz q hq,?_⟩
 rcases tf (Zm q.Ze q.Atoms) with e | e
 ·rw [e];simp
 ·rw [e,if_pos rfl]
  refine ⟨by omega,_,Zgu _ _ _,?_⟩
  rw [show w (shlI 1 (q.Atoms.length:Int) - 1)=shlI 1 (q.Atoms.length:Int) - 1 from (Zg4 e).2.2.1]
  unfold Zs
  rw [if_pos e];simp
theorem Zn8 {n:Int} {qa:List Atom} (hv:Zm n qa=true) {m:Int} (h:inR m 0 (Zs n qa)=true):MQ qa m:=by
 rw [Zd3 hv] at h;simp [inR] at h;exact ⟨h.1,by omega⟩
def Zbv (n:Int) (qa:List Atom) (m:Int):Bool:=Zm n qa && inR m 0 (Zs n qa) && decide (m≠0) && conn qa m
theorem Z2c (q:Zc) (hq:LeQ q) (m:Int):Zhj q m=some (Bo (Zbv q.Ze q.Atoms m),[]):=by
 refine Zbam _ _ _ ⟨_,Z2a q hq m,?_⟩
 unfold Zbv
 rcases tf (Zm q.Ze q.Atoms) with e | e
 ·rw [e];simp
 rcases tf (inR m 0 (Zs q.Ze q.Atoms)) with e1 | e1
 ·rw [e,e1];simp
 rw [e,e1,if_pos (by rfl)]
 have hm:=Zn8 e e1
 by_cases h0:m=0
 ·refine ⟨false,Zzz _ _ _ (by rw [if_pos h0]),?_⟩
  simp [h0]
 ·exact ⟨_,Zn6 q hq e m hm h0,by simp [h0]⟩
theorem Z2d (q:Zc) (hq:LeQ q) (m:Int):Zh2 q m=some (Bo (Zbv q.Ze q.Atoms m),[]):=by
 refine Zbb7 _ _ _ ⟨_,Z2b q hq m,?_⟩
 unfold Zbv
 rcases tf (Zm q.Ze q.Atoms) with e | e
 ·rw [e];simp
 rcases tf (inR m 0 (Zs q.Ze q.Atoms)) with e1 | e1
 ·rw [e,e1];simp
 rw [e,e1,if_pos (by rfl)]
 have hm:=Zn8 e e1
 by_cases h0:m=0
 ·rw [if_neg (by omega)]
  simp [h0]
 ·rw [if_pos (by have:=hm.1;omega)]
  exact ⟨_,Zn7 q hq e m hm,by simp [h0]⟩
def Zdi (qa:List Atom) (k n:Nat):List Int:=((List.range' k n).filter (fun m:Nat=>conn qa (m:Int))).map (fun m:Nat=>(m:Int))
theorem Z2e {qa:List Atom} {k n:Nat}:Zdi qa k (n+1)=(if conn qa (k:Int)=true then [(k:Int)] else [])++Zdi qa (k+1) n:=by
 unfold Zdi
 rw [List.range'_succ,List.filter_cons]
 split <;> simp
theorem Zbd6 {qa:List Atom} {k n:Nat}:(Zdi qa k n).length≤n:=by
 unfold Zdi;rw [List.length_map];exact Nat.le_trans (List.length_filter_le _ _) (by simp)
theorem Zd4 (k:Nat):((2 ^ k:Nat):Int)=2 ^ k:=by simp
theorem Zbd7 (q:Zc) (hq:LeQ q) (hv:Zm q.Ze q.Atoms=true):∀ k:Nat,k≤2 ^ q.Atoms.length→1≤k→∀ out:List Int,out.length≤k →
  Zfz q out k=some (.own 0,[.arr Zt 1 true ((out++Zdi q.Atoms k (2 ^ q.Atoms.length - k)).map ic)]):=by
 have hf:=Zd3 hv
 have hp:=Zd4 q.Atoms.length
 have h16:2 ^ q.Atoms.length≤16:=Nat.pow_le_pow_right (by omega:0<2) (Zbr hv).2
 refine down _ ?_ ?_
 ·intro _ out _
  refine Z0g _ _ _ _ ⟨_,Zgv q hq,?_⟩
  rw [if_neg (by rw [hf];omega),Nat.sub_self]
  simp [Zdi]
 ·intro k hk ih h1 out ho
  have wk':w ((k:Int)+1)=(k:Int)+1:=wrap64 (by omega) (by omega)
  refine Z0g _ _ _ _ ⟨_,Zgv q hq,?_⟩
  rw [if_pos (by rw [hf];omega)]
  refine ⟨_,Zn6 q hq hv k ⟨by omega,by omega⟩ (by omega),?_⟩
  rw [show 2 ^ q.Atoms.length - k=(2 ^ q.Atoms.length - (k+1))+1 by omega,Z2e,wk']
  rcases tf (conn q.Atoms k) with e | e
  ·have ih:=ih (by omega) out (by omega)
   rw [e,if_neg (by simp)]
   simpa using ih
  ·have ih:=ih (by omega) (out++[(k:Int)]) (by simp;omega)
   rw [e,if_pos rfl]
   refine ⟨by omega,?_⟩
   simpa using ih
def Zn (qa:List Atom):List Int:=Zdi qa 1 (2 ^ qa.length - 1)
theorem Zbd8 (q:Zc) (hq:LeQ q) (hv:Zm q.Ze q.Atoms=true):Zkj q=some (.own 0,[.arr Zt 1 true ((Zn q.Atoms).map ic)]):=by
 have hpos:1≤2 ^ q.Atoms.length:=Nat.one_le_two_pow
 have b:=Zbd7 q hq hv 1 hpos (Nat.le_refl _) [] (by simp)
 exact Zba5 _ _ (by simpa [Zn] using b)
end Go.Proofs.YtbapkgocloaaeaaGreat
/- part: SP -/
namespace Go.Proofs.YtbapkgocloaaeaaGreat
open Go.AM
theorem Zbd9 (q:Zc) (hq:LeQ q) (hv:Zm q.Ze q.Atoms=true):∀ k:Nat,k≤2 ^ q.Atoms.length→1≤k→∀ out:List Int,out.length≤k →
  Zgk q out (Zs q.Ze q.Atoms) k=some (.own 0,[.arr Zt 1 true ((out++Zdi q.Atoms k (2 ^ q.Atoms.length - k)).map ic)]):=by
 have hf:=Zd3 hv
 have hp:=Zd4 q.Atoms.length
 have h16:2 ^ q.Atoms.length≤16:=Nat.pow_le_pow_right (by omega:0<2) (Zbr hv).2
 refine down _ ?_ ?_
 ·intro _ out _
  refine Z1b _ _ _ _ _ ?_
  rw [if_neg (by rw [hf];omega),Nat.sub_self]
  simp [Zdi]
 ·intro k hk ih h1 out ho
  have wk':w ((k:Int)+1)=(k:Int)+1:=wrap64 (by omega) (by omega)
  refine Z1b _ _ _ _ _ ?_
  rw [if_pos (by rw [hf];omega)]
  refine ⟨_,Zn7 q hq hv k ⟨by omega,by omega⟩,?_⟩
  rw [show 2 ^ q.Atoms.length - k=(2 ^ q.Atoms.length - (k+1))+1 by omega,Z2e,wk']
  rcases tf (conn q.Atoms k) with e | e
  ·have ih:=ih (by omega) out (by omega)
   rw [e,if_neg (by simp)]
   simpa using ih
  ·have ih:=ih (by omega) (out++[(k:Int)]) (by simp;omega)
   rw [e,if_pos rfl]
   refine ⟨by omega,?_⟩
   simpa using ih
theorem Zbea (q:Zc) (hq:LeQ q) (hv:Zm q.Ze q.Atoms=true):Zk6 q=some (.own 0,[.arr Zt 1 true ((Zn q.Atoms).map ic)]):=by
 have hpos:1≤2 ^ q.Atoms.length:=Nat.one_le_two_pow
 have b:=Zbd9 q hq hv 1 hpos (Nat.le_refl _) [] (by simp)
 exact Zbcg _ _ ⟨_,Zl8 q hq,by simpa [Zn] using b⟩
set_option maxRecDepth 100000 in
theorem f_diff:∀ a m:Fin 16,andI (a.1:Int) m.1=a.1→andNotI (m.1:Int) a.1=(m.1:Int) - a.1∧(a.1:Int)≤m.1∧andI (a.1:Int) ((m.1:Int) - a.1)=0∧orI (a.1:Int) ((m.1:Int) - a.1)=m.1:=by decide
def Zb0 (qa:List Atom) (mask:Int) (x:Int):Bool:=decide (andI x mask=x) && (conn qa x && conn qa (mask - x))
def Zc5 (qa:List Atom) (mask:Int) (k n:Nat):List Int:=((List.range' k n).filter (fun m:Nat=>Zb0 qa mask (m:Int))).map (fun m:Nat=>(m:Int))
theorem Z2f {qa:List Atom} {mask:Int} {k n:Nat}:Zc5 qa mask k (n+1)=(if Zb0 qa mask (k:Int)=true then [(k:Int)] else [])++Zc5 qa mask (k+1) n:=by
 unfold Zc5
 rw [List.range'_succ,List.filter_cons]
 split <;> simp
def Zp (qa:List Atom) (mask:Int):List Int:=Zc5 qa mask 1 (mask.toNat - 1)
theorem Zbeb (q:Zc) (hq:LeQ q) (hv:Zm q.Ze q.Atoms=true) (mask:Nat) (hm:MQ q.Atoms mask):∀ k:Nat,k≤mask→1≤k→∀ out:List Int,out.length≤k →
  Zdp q out mask k=some (.own 0,[.arr Zt 1 true ((out++Zc5 q.Atoms mask k (mask - k)).map ic)]):=by
 have m16':=(hm.m16 hv).1
 refine down _ ?_ ?_
 ·intro _ out _
  refine Z0i _ _ _ _ _ ?_
  rw [if_neg (by omega),Nat.sub_self]
  simp [Zc5]
 ·intro k hk ih h1 out ho
  have wk':w ((k:Int)+1)=(k:Int)+1:=wrap64 (by omega) (by omega)
  refine Z0i _ _ _ _ _ ?_
  rw [if_pos (by omega),show mask - k=(mask - (k+1))+1 by omega,Z2f,wk']
  have skip:Zb0 q.Atoms mask k=false→Zdp q out mask ((k:Int)+1)=some (.own 0,[.arr Zt 1 true ((out++((if Zb0 q.Atoms mask (k:Int)=true then [(k:Int)] else [])++Zc5 q.Atoms mask (k+1) (mask - (k+1)))).map ic)]):=by
   intro e
   have ih:=ih (by omega) out (by omega)
   rw [e]
   simpa using ih
  by_cases e1:andI (k:Int) mask=k
  ·obtain ⟨d1,d2,_⟩:=f_diff ⟨k,by omega⟩ ⟨mask,by omega⟩ e1
   simp only at d1 d2
   rw [if_pos e1]
   refine ⟨_,Zn6 q hq hv k ⟨by omega,by have:=hm.2;omega⟩ (by omega),?_⟩
   rcases tf (conn q.Atoms k) with e2 | e2
   ·rw [e2,if_neg (by simp)]
    exact skip (by simp [Zb0,e2])
   ·rw [e2,if_pos rfl,d1]
    refine ⟨_,Zn6 q hq hv ((mask:Int) - k) ⟨by omega,by have:=hm.2;omega⟩ (by omega),?_⟩
    rcases tf (conn q.Atoms ((mask:Int) - k)) with e3 | e3
    ·rw [e3,if_neg (by simp)]
     exact skip (by simp [Zb0,e3])
    ·rw [e3,if_pos rfl]
     have es:Zb0 q.Atoms mask k=true:=by simp [Zb0,e1,e2,e3]
     rw [es,if_pos rfl]
     have ih:=ih (by omega) (out++[(k:Int)]) (by simp;omega)
     exact ⟨by omega,by simpa using ih⟩
  ·rw [if_neg e1]
   exact skip (by simp [Zb0,e1])
theorem Zs9 (q:Zc) (hq:LeQ q) (m:Int) (hc:Zbv q.Ze q.Atoms m=true):Zc9 q m=some (.own 0,[.arr Zt 1 true ((Zp q.Atoms m).map ic)]):=by
 have hc':=hc
 simp only [Zbv,Bool.and_eq_true,decide_eq_true_eq] at hc'
 obtain ⟨⟨⟨hv,hr⟩,h0⟩,_⟩:=hc'
 have hm:=Zn8 hv hr
 obtain ⟨k,rfl⟩:∃ k:Nat,m=k:=⟨m.toNat,by have:=hm.1;omega⟩
 refine Zba8 _ _ _ ⟨_,Z2c q hq k,?_⟩
 rw [hc,if_pos rfl]
 have b:=Zbeb q hq hv k hm 1 (by omega) (Nat.le_refl _) [] (by simp)
 simpa [Zp] using b
theorem Zbec (q:Zc) (hq:LeQ q) (hv:Zm q.Ze q.Atoms=true) (mask:Nat) (hm:MQ q.Atoms mask):∀ k:Nat,k≤mask→1≤k→∀ out:List Int,out.length≤k →
  Zdv q out mask k=some (.own 0,[.arr Zt 1 true ((out++Zc5 q.Atoms mask k (mask - k)).map ic)]):=by
 have m16':=(hm.m16 hv).1
 refine down _ ?_ ?_
 ·intro _ out _
  refine Z1c _ _ _ _ _ ?_
  rw [if_neg (by omega),Nat.sub_self]
  simp [Zc5]
 ·intro k hk ih h1 out ho
  have wk':w ((k:Int)+1)=(k:Int)+1:=wrap64 (by omega) (by omega)
  have wd:w ((mask:Int) - k)=(mask:Int) - k:=wrap64 (by omega) (by omega)
  refine Z1c _ _ _ _ _ ?_
  rw [if_pos (by omega),show mask - k=(mask - (k+1))+1 by omega,Z2f,wk',wd]
  have skip:Zb0 q.Atoms mask k=false→Zdv q out mask ((k:Int)+1)=some (.own 0,[.arr Zt 1 true ((out++((if Zb0 q.Atoms mask (k:Int)=true then [(k:Int)] else [])++Zc5 q.Atoms mask (k+1) (mask - (k+1)))).map ic)]):=by
   intro e
   have ih:=ih (by omega) out (by omega)
   rw [e]
   simpa using ih
  by_cases e1:andI (k:Int) mask=k
  ·rw [if_pos e1]
   refine ⟨_,Zn7 q hq hv k ⟨by omega,by have:=hm.2;omega⟩,?_⟩
   rcases tf (conn q.Atoms k) with e2 | e2
   ·rw [e2,if_neg (by simp)]
    exact skip (by simp [Zb0,e2])
   ·rw [e2,if_pos rfl]
    refine ⟨_,Zn7 q hq hv ((mask:Int) - k) ⟨by omega,by have:=hm.2;omega⟩,?_⟩
    rcases tf (conn q.Atoms ((mask:Int) - k)) with e3 | e3
    ·rw [e3,if_neg (by simp)]
     exact skip (by simp [Zb0,e3])
    ·rw [e3,if_pos rfl]
     have es:Zb0 q.Atoms mask k=true:=by simp [Zb0,e1,e2,e3]
     rw [es,if_pos rfl]
     have ih:=ih (by omega) (out++[(k:Int)]) (by simp;omega)
     exact ⟨by omega,by simpa using ih⟩
  ·rw [if_neg e1]
   exact skip (by simp [Zb0,e1])
theorem Zbed (q:Zc) (hq:LeQ q) (m:Int) (hc:Zbv q.Ze q.Atoms m=true):Zk7 q m=some (.own 0,[.arr Zt 1 true ((Zp q.Atoms m).map ic)]):=by
 have hc':=hc
 simp only [Zbv,Bool.and_eq_true,decide_eq_true_eq] at hc'
 obtain ⟨⟨⟨hv,hr⟩,h0⟩,_⟩:=hc'
 have hm:=Zn8 hv hr
 obtain ⟨k,rfl⟩:∃ k:Nat,m=k:=⟨m.toNat,by have:=hm.1;omega⟩
 refine Zbch _ _ _ ⟨_,Z2d q hq k,?_⟩
 rw [hc,if_pos rfl]
 have b:=Zbec q hq hv k hm 1 (by omega) (Nat.le_refl _) [] (by simp)
 simpa [Zp] using b
def Zgw (m:Int) (k n:Nat):List Int:=((List.range' k n).filter (fun i:Nat=>Zq m i)).map (fun i:Nat=>(i:Int))
theorem Z2g {m:Int} {k n:Nat}:Zgw m k (n+1)=(if Zq m k=true then [(k:Int)] else [])++Zgw m (k+1) n:=by
 unfold Zgw
 rw [List.range'_succ,List.filter_cons]
 split <;> simp
def Zch (m:Int):List Int:=Zgw m 0 4
theorem Zbee (m:Int):∀ k:Nat,k≤4→∀ out:List Int,out.length≤k→Zf0 out m k=some (.own 0,[.arr Zt 1 true ((out++Zgw m k (4 - k)).map ic)]):=by
 refine down _ ?_ ?_
 ·intro out _
  refine Z0h _ _ _ _ ?_
  rw [if_neg (by omega)];simp [Zgw]
 ·intro k hk ih out ho
  have wk':w ((k:Int)+1)=(k:Int)+1:=wrap64 (by omega) (by omega)
  refine Z0h _ _ _ _ ?_
  rw [if_pos (by omega),show 4 - k=(4 - (k+1))+1 by omega,Z2g,wk']
  refine ⟨by omega,?_⟩
  by_cases e:andI (shrI m k) 1=1
  ·have ih:=ih (out++[(k:Int)]) (by simp;omega)
   rw [if_pos e,if_pos (by simp [Zq,e])]
   exact ⟨by omega,by simpa using ih⟩
  ·have ih:=ih out (by omega)
   rw [if_neg e,if_neg (by simp [Zq,e])]
   simpa using ih
theorem Zbef {m:Int} (hm:M16 m):Ziv m=some (.own 0,[.arr Zt 1 true ((Zch m).map ic)]):=by
 have b:=Zbee m 0 (by omega) [] (by simp)
 refine Zba6 _ _ ⟨_,Zdd _ _ _,?_⟩
 rw [if_pos (by simp [inR];omega)]
 simpa [Zch] using b
theorem Zbeg (m:Int) (hm:M16 m):∀ k:Nat,k≤4→∀ out:List Int,out.length≤k→Zgo out m k=some (.own 0,[.arr Zt 1 true ((out++Zgw m k (4 - k)).map ic)]):=by
 refine down _ ?_ ?_
 ·intro out _
  refine Z1i _ _ _ _ ?_
  rw [if_neg (by omega)];simp [Zgw]
 ·intro k hk ih out ho
  have wk':w ((k:Int)+1)=(k:Int)+1:=wrap64 (by omega) (by omega)
  refine Z1i _ _ _ _ ?_
  rw [if_pos (by omega),show 4 - k=(4 - (k+1))+1 by omega,Z2g,wk']
  refine ⟨_,Zgu _ _ _,?_⟩
  rw [if_pos (by simp [inR];omega)]
  refine ⟨by omega,?_⟩
  by_cases e:andI (shrI m k) 1=1
  ·have ih:=ih (out++[(k:Int)]) (by simp;omega)
   rw [if_pos e,if_pos (by simp [Zq,e])]
   exact ⟨by omega,by simpa using ih⟩
  ·have ih:=ih out (by omega)
   rw [if_neg e,if_neg (by simp [Zq,e])]
   simpa using ih
theorem Zbeh {m:Int} (hm:M16 m):Zlf m=some (.own 0,[.arr Zt 1 true ((Zch m).map ic)]):=by
 have b:=Zbeg m hm 0 (by omega) [] (by simp)
 exact Zbcn _ _ (by simpa [Zch] using b)
end Go.Proofs.YtbapkgocloaaeaaGreat
/- part: PC -/
namespace Go.Proofs.YtbapkgocloaaeaaGreat
open Go.AM
structure Zij (n:Nat) (x:Zb) (y:Zg):Prop where
 kind:1≤x.Kind∧x.Kind≤5
 refs:(y.Left=-1∧y.Right=-1)∨((0≤y.Left∧y.Left.toNat<n)∧(y.Right=-1∨(0≤y.Right∧y.Right.toNat<n)))
theorem Zij.mono {n k:Nat} {x:Zb} {y:Zg} (h:Zij n x y) (hk:n≤k):Zij k x y:=by
 refine ⟨h.kind,h.refs.imp id fun ⟨⟨a,b⟩,c⟩=>⟨⟨a,by omega⟩,c.imp id fun ⟨d,e⟩=>⟨d,by omega⟩⟩⟩
theorem Z2h {qa:List Atom} {x:Zb} {info:List Zg} {st:List Int} {y:Zg} (hs:StOk info st) (h:Zb9 qa x info st=some y):Zij info.length x y:=by
 unfold Zb9 at h
 split at h
 ·rename_i k1
  split at h
  ·cases h;exact ⟨by omega,.inl ⟨rfl,rfl⟩⟩
  ·cases h
 ·rename_i k1
  split at h
  ·cases h
  ·split at h
   ·rename_i k2
    split at h
    ·rename_i s y' ht
     split at h
     ·cases h
      obtain ⟨_,t2,t3,_⟩:=Zep hs (Nat.le_refl 1) ht
      exact ⟨by omega,.inr ⟨⟨t2,t3⟩,.inl rfl⟩⟩
     ·cases h
    ·cases h
   ·rename_i k2
    split at h
    ·rename_i s y' t z ht hu
     split at h
     ·obtain ⟨_,t2,t3,_⟩:=Zep hs (by omega:1≤2) ht
      obtain ⟨_,u2,u3,_⟩:=Zep hs (by omega:1≤1) hu
      obtain ⟨o,ho,rfl⟩:=Option.map_eq_some_iff.1 h
      have hk:x.Kind=3∨x.Kind=4∨x.Kind=5:=by
       unfold Zbx at ho
       split at ho
       ·omega
       ·split at ho
        ·omega
        ·split at ho
         ·omega
         ·cases ho
      exact ⟨by omega,.inr ⟨⟨t2,t3⟩,.inr ⟨u2,u3⟩⟩⟩
     ·cases h
    ·cases h
theorem Z2i {qa:List Atom}:∀ {xs:List Zb} {i:Nat} {info:List Zg} {st:List Int} {info':List Zg} {st':List Int},Zbf qa xs i info st=some (info',st') →
  StOk info st→info.length=i→∃ tail,info'=info++tail∧tail.length=xs.length∧∀ (j:Nat) (y:Zg) (x:Zb),tail[j]?=some y→xs[j]?=some x→Zij (i+j) x y
 | [],i,info,st,info',st',h,hs,hi=>by
  simp [Zbf] at h
  obtain ⟨rfl,rfl⟩:=h
  exact ⟨[],by simp,rfl,by intro j y x hj;simp at hj⟩
 | x::xs,i,info,st,info',st',h,hs,hi=>by
  rw [Zbf] at h
  split at h
  ·cases h
  ·rename_i y hy
   have hn:=Zjz hs y (st.length - pops y)
   rw [hi] at hn
   obtain ⟨tail,g2,g3,g4⟩:=Z2i h hn (by simp [hi])
   refine ⟨y::tail,by simp [g2],by simp [g3],?_⟩
   intro j y' x' hj hx
   cases j with
   | zero=>simp at hj hx;subst hj;subst hx;have:=Z2h hs hy;rw [hi] at this;exact this
   | succ j=>exact (g4 j y' x' (by simpa using hj) (by simpa using hx)).mono (by omega)
theorem Z2j {n:Int} {qa:List Atom} {steps:List Zb} {info:List Zg} (h:Zbg n qa steps=some info):∀ (j:Nat) (y:Zg) (x:Zb),info[j]?=some y→steps[j]?=some x→Zij j x y:=by
 unfold Zbg at h
 split at h
 ·split at h
  ·rename_i info' st hg
   split at h
   ·cases h
    obtain ⟨tail,g2,g3,g4⟩:=Z2i hg (fun s hs=>by cases hs) rfl
    simp at g2
    subst g2
    intro j y x a b
    have:=g4 j y x a b
    simpa using this
   ·cases h
  ·cases h
 ·cases h
def Zgx (xs:List Int):Bool:=xs.all (fun x=>inR x 0 4096)
def Zbo (n:Int) (qa:List Atom) (xs:List Int):Bool:=Zm n qa && decide ((xs.length:Int)=Zs n qa+1) && Zgx xs
theorem Zbei (q:Zc) (hq:LeQ q) (xs:List Int) (hx:Le xs):∀ i,i≤xs.length→Zhp q xs xs xs.length i=some (Bo (Zgx (xs.drop i) && (Zm q.Ze q.Atoms && decide ((xs.length:Int)=Zs q.Ze q.Atoms+1))),[]):=by
 refine down _ ?_ ?_
 ·refine Z0d _ _ _ _ _ _ ?_
  rw [if_neg (by omega)]
  refine ⟨_,Zl6 q hq,?_⟩
  rcases tf (Zm q.Ze q.Atoms) with e | e
  ·rw [e];simp
  ·rw [e,if_pos rfl]
   refine ⟨_,Zgv q hq,?_⟩
   rw [show w (Zs q.Ze q.Atoms+1)=Zs q.Ze q.Atoms+1 from Zm0 _ _]
   simp [Zgx]
 ·intro i hi ih
  have h4:=inc64 (i:=i) (by omega)
  refine Z0d _ _ _ _ _ _ ?_
  rw [if_pos (by omega)]
  refine ⟨by omega,xs[i],by rw [Int.toNat_natCast];exact List.getElem?_eq_getElem hi,_,Zdd _ _ _,?_⟩
  unfold Zgx at ih ⊢
  rw [Zjx _ hi]
  simp only [Int.natCast_add,Int.cast_ofNat_Int] at ih
  rcases tf (inR xs[i] 0 4096) with e | e
  ·rw [e];simp
  ·rw [e,if_pos rfl,show w ((i:Int)+1)=(i:Int)+1 from h4,ih];simp
theorem Z2k (q:Zc) (hq:LeQ q) (xs:List Int) (hx:Le xs):Zho q xs=some (Bo (Zbo q.Ze q.Atoms xs),[]):=by
 have b:=Zbei q hq xs hx 0 (Nat.zero_le _)
 refine Zbay _ _ _ (Eq.trans b ?_)
 rw [List.drop_zero,Zbo,Bool.and_comm]
theorem Zbej (xs:List Int) (hx:Le xs):∀ i,i≤xs.length→Zid xs i=some (Bo (Zgx (xs.drop i)),[]):=by
 refine down _ ?_ ?_
 ·refine Z1o _ _ _ ?_
  rw [if_neg (by omega)];simp [Zgx]
 ·intro i hi ih
  have h4:=inc64 (i:=i) (by omega)
  refine Z1o _ _ _ ?_
  rw [if_pos (by omega)]
  refine ⟨by omega,xs[i],by rw [Int.toNat_natCast];exact List.getElem?_eq_getElem hi,_,Zgu _ _ _,?_⟩
  unfold Zgx at ih ⊢
  rw [Zjx _ hi]
  simp only [Int.natCast_add,Int.cast_ofNat_Int] at ih
  rcases tf (inR xs[i] 0 4096) with e | e
  ·rw [e];simp
  ·rw [e,if_pos rfl,show w ((i:Int)+1)=(i:Int)+1 from h4,ih];simp
theorem Zbek (q:Zc) (hq:LeQ q) (xs:List Int) (hx:Le xs):Zlp q xs=some (Bo (Zbo q.Ze q.Atoms xs),[]):=by
 have b:=Zbej xs hx 0 (Nat.zero_le _)
 refine Zbc0 _ _ _ ⟨_,Znz q hq,?_⟩
 unfold Zbo
 rcases tf (Zm q.Ze q.Atoms) with e | e
 ·rw [e];simp
 rw [e,if_pos rfl]
 refine ⟨_,Zl8 q hq,?_⟩
 rw [show w (Zs q.Ze q.Atoms+1)=Zs q.Ze q.Atoms+1 from Zm0 _ _]
 by_cases e2:(xs.length:Int)=Zs q.Ze q.Atoms+1
 ·rw [if_pos e2,decide_eq_true e2]
  refine Eq.trans b ?_
  simp
 ·rw [if_neg e2,decide_eq_false e2];simp
def szAt (sizes:List Int) (m:Int):Int:=(sizes[m.toNat]?).getD 0
def Zb7 (info:List Zg) (i:Int):Int:=match info[i.toNat]? with | some y=>y.Mask | none=>0
def Zcb (m:Zd) (info:List Zg) (sizes:List Int) (x:Zb) (y:Zg):Int :=
 Z7 (mOp m x.Kind) (if y.Left<0 then szAt sizes y.Mask else szAt sizes (Zb7 info y.Left)) (if y.Right<0 then 0 else szAt sizes (Zb7 info y.Right)) (szAt sizes y.Mask)
def Zcx (m:Zd) (info:List Zg) (sizes:List Int):List Zb→List Zg→List Int
 | x::xs,y::ys=>Zcb m info sizes x y::Zcx m info sizes xs ys
 | _,_=>[]
theorem Z2l (m:Zd) (info:List Zg) (sizes:List Int) {xs:List Zb} {ys:List Zg} {i:Nat} (hx:i<xs.length) (hy:i<ys.length) :
  Zcx m info sizes (xs.drop i) (ys.drop i)=Zcb m info sizes xs[i] ys[i]::Zcx m info sizes (xs.drop (i+1)) (ys.drop (i+1)):=by
 rw [List.drop_eq_getElem_cons hx,List.drop_eq_getElem_cons hy,Zcx]
theorem Zjj {qa:List Atom} {n:Int} {sizes:List Int} (hs:Zbo n qa sizes=true) {y:Zg} (hm:Zg9 qa.length y):sizes[y.Mask.toNat]?=some (szAt sizes y.Mask):=by
 simp only [Zbo,Bool.and_eq_true,decide_eq_true_eq] at hs
 have hf:=Zd3 hs.1.1
 have hlt:y.Mask.toNat<sizes.length:=by have:=hm.1;have:=hm.2;omega
 simp [szAt,List.getElem?_eq_getElem hlt]
theorem Zn9 {info:List Zg} {i:Int} {n:Nat} (h:0≤i∧i.toNat<n) (hn:n≤info.length):∃ y,info[i.toNat]?=some y∧y∈info∧Zb7 info i=y.Mask:=by
 have hlt:i.toNat<info.length:=by omega
 exact ⟨info[i.toNat],List.getElem?_eq_getElem hlt,List.getElem_mem hlt,by simp [Zb7,List.getElem?_eq_getElem hlt]⟩
theorem Zbel {m:Zd} (hm:LeM m) {n:Int} {qa:List Atom} {steps:List Zb} {info:List Zg} {sizes:List Int} (hi:Zbg n qa steps=some info) (hs:Zbo n qa sizes=true) {i:Nat} (h:i<info.length) (h':i<steps.length) :
  Zlq m steps[i].Kind info i sizes=some (I (Zcb m info sizes steps[i] info[i]),[]):=by
 obtain ⟨p1,_⟩:=Zu4 hi
 have ok:=Z2j hi i info[i] steps[i] (List.getElem?_eq_getElem h) (List.getElem?_eq_getElem h')
 have s0:=Zjj hs (p1 _ (List.getElem_mem h))
 have hm0:=(p1 _ (List.getElem_mem h)).1
 refine Zbc1 _ _ _ _ _ _ ⟨by omega,info[i],by rw [Int.toNat_natCast];exact List.getElem?_eq_getElem h,_,Zji m _,?_⟩
 have hl:=hm.op steps[i].Kind
 unfold Zcb
 rcases ok.refs with ⟨a,b⟩ | ⟨a,b⟩
 ·have c1:info[i].Left<0:=by omega
  have c2:info[i].Right<0:=by omega
  simp only [if_pos c1,if_pos c2]
  exact ⟨hm0,_,s0,_,Zd1 _ hl _ _ _,rfl⟩
 ·obtain ⟨y1,y2,y3,y4⟩:=Zn9 a (by omega:i≤info.length)
  have s1:=Zjj hs (p1 _ y3)
  have hm1:=(p1 _ y3).1
  have c1:¬ info[i].Left<0:=by omega
  simp only [if_neg c1,y4]
  rcases b with b | b
  ·have c2:info[i].Right<0:=by omega
   simp only [if_pos c2]
   exact ⟨a.1,y1,y2,hm1,_,s1,hm0,_,s0,_,Zd1 _ hl _ _ _,rfl⟩
  ·obtain ⟨z1,z2,z3,z4⟩:=Zn9 b (by omega:i≤info.length)
   have s2:=Zjj hs (p1 _ z3)
   have hm2:=(p1 _ z3).1
   have c2:¬ info[i].Right<0:=by omega
   simp only [if_neg c2,z4]
   exact ⟨a.1,y1,y2,hm1,_,s1,b.1,z1,z2,hm2,_,s2,hm0,_,s0,_,Zd1 _ hl _ _ _,rfl⟩
theorem Zbem {m:Zd} (hm:LeM m) {n:Int} {qa:List Atom} {p:Plan} {info:List Zg} {sizes:List Int} (hi:Zbg n qa p.Steps=some info) (hs:Zbo n qa sizes=true):∀ i,i≤info.length→∀ out:List Int,out.length=i →
  Zie m p out info sizes i=some (.own 0,[.arr Zt 1 true ((out++Zcx m info sizes (p.Steps.drop i) (info.drop i)).map ic)]):=by
 obtain ⟨l1,l2,l3,l4⟩:=Zg8 hi
 refine down _ ?_ ?_
 ·intro out _
  refine Z1p _ _ _ _ _ _ _ ?_
  rw [if_neg (by omega),List.drop_length]
  cases p.Steps.drop info.length <;> simp [Zcx]
 ·intro i h ih out ho
  have h4:=inc64 (i:=i) (by omega)
  have h':i<p.Steps.length:=by omega
  refine Z1p _ _ _ _ _ _ _ ?_
  rw [if_pos (by omega)]
  refine ⟨by omega,p.Steps[i],by rw [Int.toNat_natCast];exact List.getElem?_eq_getElem h',_,Zbel hm hi hs h h',by omega,?_⟩
  have ih:=ih (out++[Zcb m info sizes p.Steps[i] info[i]]) (by simp [ho])
  rw [Z2l m info sizes h' h,show w ((i:Int)+1)=(i:Int)+1 from h4]
  simpa using ih
def Zdj (m:Zd) (n:Int) (qa:List Atom) (steps:List Zb) (sizes:List Int):List Int:=match Zbg n qa steps with
 | some info=>if Zbo n qa sizes=true then Zcx m info sizes steps info else []
 | none=>[]
theorem Zben (m:Zd) (hm:LeM m) (q:Zc) (hq:LeQ q) (p:Plan) (sizes:List Int) (hs:Le sizes):Zlr m q p sizes=some (.own 0,[.arr Zt 1 true ((Zdj m q.Ze q.Atoms p.Steps sizes).map ic)]):=by
 have q1:=Z1y q p hq
 refine Zbc2 _ _ _ _ _ ?_
 unfold Zdj
 cases hi:Zbg q.Ze q.Atoms p.Steps with
 | none=>rw [hi] at q1;exact ⟨[],false,q1,by rw [if_neg (by simp)]⟩
 | some info =>
  rw [hi] at q1
  refine ⟨info,true,q1,?_⟩
  rw [if_pos rfl]
  refine ⟨_,Zbek q hq sizes hs,?_⟩
  simp only
  rcases tf (Zbo q.Ze q.Atoms sizes) with e | e
  ·rw [e,if_neg (by simp),if_neg (by simp)]
  ·rw [e,if_pos rfl,if_pos rfl]
   have b:=Zbem hm hi e 0 (Nat.zero_le _) [] rfl
   simpa using b
end Go.Proofs.YtbapkgocloaaeaaGreat
/- part: PC2 -/
namespace Go.Proofs.YtbapkgocloaaeaaGreat
open Go.AM
theorem Z2m (m:Zd):Zeb m=some (.bsl 1 5,[.box (m.c.map .t),.box [.ptr 0 0,.ptr 0 6,.ptr 0 12,.ptr 0 18,.ptr 0 24]]):=Zz0 _ _ rfl
theorem kinds {k:Int} (h:1≤k∧k≤5):k=1∨k=2∨k=3∨k=4∨k=5:=by omega
theorem j_SC (m:Zd) (hm:LeM m) (info:List Zg) (out:List Int) (ho:out.length≤100) (x:Zb) (hk:1≤x.Kind∧x.Kind≤5) (sizes:List Int) (i:Nat) (y:Zg) (hy:info[i]?=some y) (hy0:0≤y.Mask) (hs:sizes[y.Mask.toNat]?=some (szAt sizes y.Mask)) (l r:Int) (x1:List Zb) (x2 x3:Int) (res:AV×List Blk)
  (h:Zbd m info (out++[Z7 (mOp m x.Kind) l r (szAt sizes y.Mask)]) sizes x1 x2 (w (x3+1))=some res):Zit m info out x sizes i l r x1 x2 x3=some res:=by
 refine Zba0 _ _ _ _ _ _ _ _ _ _ _ _ ⟨Z2m m,?_⟩
 have ho':out.length+1≤68719476736:=by omega
 obtain ⟨m1,m2,m3,m4,m5⟩:=hm
 have hi:info[((i:Nat):Int).toNat]?=some y:=by rw [Int.toNat_natCast];exact hy
 have hi0:(0:Int)≤(i:Int):=by omega
 rcases kinds hk with e | e | e | e | e <;> rw [e] at h ⊢
 ·rw [if_pos (by decide)];exact ⟨hi0,y,hi,hy0,_,hs,_,Zem _ m1 _ _ _,ho',h⟩
 ·rw [if_neg (by decide),if_pos (by decide)];exact ⟨hi0,y,hi,hy0,_,hs,_,Zem _ m2 _ _ _,ho',h⟩
 ·rw [if_neg (by decide),if_neg (by decide),if_pos (by decide)];exact ⟨hi0,y,hi,hy0,_,hs,_,Zem _ m3 _ _ _,ho',h⟩
 ·rw [if_neg (by decide),if_neg (by decide),if_neg (by decide),if_pos (by decide)];exact ⟨hi0,y,hi,hy0,_,hs,_,Zem _ m4 _ _ _,ho',h⟩
 ·rw [if_neg (by decide),if_neg (by decide),if_neg (by decide),if_neg (by decide),if_pos (by decide)];exact ⟨hi0,y,hi,hy0,_,hs,_,Zem _ m5 _ _ _,ho',h⟩
theorem j_SCa (m:Zd) (hm:LeM m) (info:List Zg) (out:List Int) (ho:out.length≤100) (x:Zb) (hk:1≤x.Kind∧x.Kind≤5) (sizes:List Int) (i:Nat) (y:Zg) (hy:info[i]?=some y) (hy0:0≤y.Mask) (hs:sizes[y.Mask.toNat]?=some (szAt sizes y.Mask)) (l r:Int) (x1:List Zb) (x2 x3:Int) (f:Bool) (res:AV×List Blk)
  (h:Zbd m info (out++[Z7 (mOp m x.Kind) l r (szAt sizes y.Mask)]) sizes x1 x2 (w (x3+1))=some res):Ziu m info out x sizes i l r x1 x2 x3 f=some res:=by
 refine Zba1 _ _ _ _ _ _ _ _ _ _ _ _ _ ⟨Z2m m,?_⟩
 have ho':out.length+1≤68719476736:=by omega
 obtain ⟨m1,m2,m3,m4,m5⟩:=hm
 have hi:info[((i:Nat):Int).toNat]?=some y:=by rw [Int.toNat_natCast];exact hy
 have hi0:(0:Int)≤(i:Int):=by omega
 rcases kinds hk with e | e | e | e | e <;> rw [e] at h ⊢
 ·rw [if_pos (by decide)];exact ⟨hi0,y,hi,hy0,_,hs,_,Zem _ m1 _ _ _,ho',h⟩
 ·rw [if_neg (by decide),if_pos (by decide)];exact ⟨hi0,y,hi,hy0,_,hs,_,Zem _ m2 _ _ _,ho',h⟩
 ·rw [if_neg (by decide),if_neg (by decide),if_pos (by decide)];exact ⟨hi0,y,hi,hy0,_,hs,_,Zem _ m3 _ _ _,ho',h⟩
 ·rw [if_neg (by decide),if_neg (by decide),if_neg (by decide),if_pos (by decide)];exact ⟨hi0,y,hi,hy0,_,hs,_,Zem _ m4 _ _ _,ho',h⟩
 ·rw [if_neg (by decide),if_neg (by decide),if_neg (by decide),if_neg (by decide),if_pos (by decide)];exact ⟨hi0,y,hi,hy0,_,hs,_,Zem _ m5 _ _ _,ho',h⟩
theorem Zbeo {m:Zd} (hm:LeM m) {n:Int} {qa:List Atom} {steps:List Zb} {info:List Zg} {sizes:List Int} (hi:Zbg n qa steps=some info) (hs:Zbo n qa sizes=true):∀ i,i≤steps.length→∀ out:List Int,out.length=i →
  Zbd m info out sizes steps steps.length i=some (.own 0,[.arr Zt 1 true ((out++Zcx m info sizes (steps.drop i) (info.drop i)).map ic)]):=by
 obtain ⟨l1,l2,l3,l4⟩:=Zg8 hi
 obtain ⟨p1,_⟩:=Zu4 hi
 refine down _ ?_ ?_
 ·intro out _
  refine Z0e _ _ _ _ _ _ _ _ ?_
  rw [if_neg (by omega),List.drop_length]
  simp [Zcx]
 ·intro i h' ih out ho
  have h4:=inc64 (i:=i) (by omega)
  have h:i<info.length:=by omega
  have ok:=Z2j hi i info[i] steps[i] (List.getElem?_eq_getElem h) (List.getElem?_eq_getElem h')
  have s0:=Zjj hs (p1 _ (List.getElem_mem h))
  have hm0:=(p1 _ (List.getElem_mem h)).1
  have ih:=ih (out++[Zcb m info sizes steps[i] info[i]]) (by simp [ho])
  simp only [Int.natCast_add,Int.cast_ofNat_Int,List.append_assoc,List.singleton_append] at ih
  rw [← Z2l m info sizes h' h,← show w ((i:Int)+1)=(i:Int)+1 from h4] at ih
  unfold Zcb at ih
  refine Z0e _ _ _ _ _ _ _ _ ?_
  rw [if_pos (by omega)]
  refine ⟨by omega,steps[i],by rw [Int.toNat_natCast];exact List.getElem?_eq_getElem h',info[i],by rw [Int.toNat_natCast];exact List.getElem?_eq_getElem h,hm0,_,s0,?_⟩
  rcases ok.refs with ⟨a,b⟩ | ⟨a,b⟩
  ·have c1:info[i].Left<0:=by omega
   have c2:info[i].Right<0:=by omega
   have d1:¬ 0≤info[i].Left:=by omega
   have d2:¬ 0≤info[i].Right:=by omega
   simp only [if_pos c1,if_pos c2] at ih
   simp only [if_neg d1,if_neg d2]
   exact j_SCa m hm info out (by omega) _ ok.kind sizes i info[i] (List.getElem?_eq_getElem h) hm0 s0 _ _ _ _ _ _ _ ih
  ·obtain ⟨y1,y2,y3,y4⟩:=Zn9 a (by omega:i≤info.length)
   have s1:=Zjj hs (p1 _ y3)
   have hm1:=(p1 _ y3).1
   have c1:¬ info[i].Left<0:=by omega
   simp only [if_neg c1,y4] at ih
   rw [if_pos a.1]
   refine ⟨y1,y2,hm1,_,s1,?_⟩
   rcases b with b | b
   ·have c2:info[i].Right<0:=by omega
    have d2:¬ 0≤info[i].Right:=by omega
    simp only [if_pos c2] at ih
    rw [if_neg d2]
    exact j_SCa m hm info out (by omega) _ ok.kind sizes i info[i] (List.getElem?_eq_getElem h) hm0 s0 _ _ _ _ _ _ _ ih
   ·obtain ⟨z1,z2,z3,z4⟩:=Zn9 b (by omega:i≤info.length)
    have s2:=Zjj hs (p1 _ z3)
    have hm2:=(p1 _ z3).1
    have c2:¬ info[i].Right<0:=by omega
    simp only [if_neg c2,z4] at ih
    rw [if_pos b.1]
    refine ⟨z1,z2,hm2,_,s2,?_⟩
    exact j_SC m hm info out (by omega) _ ok.kind sizes i info[i] (List.getElem?_eq_getElem h) hm0 s0 _ _ _ _ _ _ ih
theorem Zta {m:Zd} {info:List Zg} {sizes:List Int}:∀ {xs:List Zb} {ys:List Zg},xs.length=ys.length→(Zcx m info sizes xs ys).length=xs.length
 | [],[],_=>rfl
 | [],_::_,h=>by simp at h
 | _::_,[],h=>by simp at h
 | x::xs,y::ys,h=>by rw [Zcx,List.length_cons,Zta (by simpa using h)];rfl
def Zfl (n:Int) (qa:List Atom) (steps:List Zb) (sizes:List Int):Bool:=(Zbg n qa steps).isSome && Zbo n qa sizes
theorem Ztb {m:Zd} {n:Int} {qa:List Atom} {steps:List Zb} {sizes:List Int}:Zdj m n qa steps sizes≠[]↔Zfl n qa steps sizes=true:=by
 unfold Zdj Zfl
 cases hi:Zbg n qa steps with
 | none=>simp
 | some info =>
  obtain ⟨l1,l2,l3,l4⟩:=Zg8 hi
  rcases tf (Zbo n qa sizes) with e | e
  ·simp [e]
  ·have:=Zta (m:=m) (info:=info) (sizes:=sizes) (xs:=steps) (ys:=info) l2.symm
   simp only [e,if_true,Option.isSome_some,Bool.and_self,iff_true]
   intro hc
   rw [hc] at this
   simp at this
   omega
theorem Zbep (m:Zd) (hm:LeM m) (q:Zc) (hq:LeQ q) (p:Plan) (sizes:List Int) (hs:Le sizes) :
  Zhq m q p sizes=if Zfl q.Ze q.Atoms p.Steps sizes=true then some (.own 0,[.arr Zt 1 true ((Zdj m q.Ze q.Atoms p.Steps sizes).map ic)]) else some (.t .nil,[]):=by
 have q1:=Z1z q p hq
 unfold Zdj Zfl
 cases hi:Zbg q.Ze q.Atoms p.Steps with
 | none=>rw [hi] at q1;simp only [Option.isSome_none,Bool.false_and,Bool.false_eq_true,if_false];exact Zss _ _ _ _ _ (.inl ⟨q1,rfl⟩)
 | some info =>
  rw [hi] at q1
  have hv:=Z2k q hq sizes hs
  rcases tf (Zbo q.Ze q.Atoms sizes) with e | e
  ·simp only [e,Option.isSome_some,Bool.and_false,Bool.false_eq_true,if_false]
   exact Zss _ _ _ _ _ (.inr ⟨info,q1,false,by rw [hv,e],by rw [if_neg (by simp)]⟩)
  ·simp only [e,Option.isSome_some,Bool.and_self,if_true]
   refine Zss _ _ _ _ _ (.inr ⟨info,q1,true,by rw [hv,e],?_⟩)
   rw [if_pos rfl]
   have b:=Zbeo hm hi e 0 (Nat.zero_le _) [] rfl
   simpa using b
def sumW (xs:List Int) (n:Int):Int:=xs.foldl (fun a b=>w (a+b)) n
theorem l_sum (xs:List Int) (hx:Le xs):∀ i,i≤xs.length→∀ n,Zhr n xs xs.length i=some (I (sumW (xs.drop i) n),[]):=by
 refine down _ ?_ ?_
 ·intro n
  refine Z0f _ _ _ _ _ ?_
  simp [sumW]
 ·intro i hi ih n
  have h4:=inc64 (i:=i) (by omega)
  refine Z0f _ _ _ _ _ ?_
  simp only [Int.natCast_add,Int.cast_ofNat_Int] at ih
  rw [List.drop_eq_getElem_cons hi,sumW,List.foldl_cons]
  simp [hi,h4,ih,sumW]
theorem x_sum (xs:List Int) (hx:Le xs):Zkh xs=some (I (sumW xs 0),[]):=Zba2 _ _ (l_sum xs hx 0 (Nat.zero_le _) 0)
theorem Zbeq (xs:List Int) (hx:Le xs):∀ i,i≤xs.length→∀ n,Zif xs n i=some (I (sumW (xs.drop i) n),[]):=by
 refine down _ ?_ ?_
 ·intro n
  refine Z1q _ _ _ _ ?_
  simp [sumW]
 ·intro i hi ih n
  have h4:=inc64 (i:=i) (by omega)
  refine Z1q _ _ _ _ ?_
  simp only [Int.natCast_add,Int.cast_ofNat_Int] at ih
  rw [List.drop_eq_getElem_cons hi,sumW,List.foldl_cons]
  simp [hi,h4,ih,sumW]
def Zco (m:Zd) (n:Int) (qa:List Atom) (steps:List Zb) (sizes:List Int):Int:=if Zfl n qa steps sizes=true then sumW (Zdj m n qa steps sizes) 0 else -1
theorem Z2n {m:Zd} {n:Int} {qa:List Atom} {steps:List Zb} {sizes:List Int}:(Zdj m n qa steps sizes).length≤14:=by
 unfold Zdj
 cases hi:Zbg n qa steps with
 | none=>simp
 | some info =>
  obtain ⟨l1,l2,l3,l4⟩:=Zg8 hi
  simp only
  split
  ·rw [Zta l2.symm];omega
  ·simp
theorem Ztc (m:Zd) (hm:LeM m) (q:Zc) (hq:LeQ q) (p:Plan) (sizes:List Int) (hs:Le sizes):Ze8 m q p sizes=some (I (Zco m q.Ze q.Atoms p.Steps sizes),[]):=by
 have h1:=Zbep m hm q hq p sizes hs
 refine Zba3 _ _ _ _ _ ?_
 unfold Zco
 rcases tf (Zfl q.Ze q.Atoms p.Steps sizes) with e | e
 ·rw [e,if_neg (by simp)] at h1
  rw [e]
  exact .inl ⟨h1,by simp⟩
 ·rw [e,if_pos rfl] at h1
  rw [e]
  exact .inr ⟨_,h1,Ztb.2 e,_,x_sum _ (by have:=Z2n (m:=m) (n:=q.Ze) (qa:=q.Atoms) (steps:=p.Steps) (sizes:=sizes);omega),by simp⟩
theorem Zber (m:Zd) (hm:LeM m) (q:Zc) (hq:LeQ q) (p:Plan) (sizes:List Int) (hs:Le sizes):Zls m q p sizes=some (I (Zco m q.Ze q.Atoms p.Steps sizes),[]):=by
 refine Zbc3 _ _ _ _ _ ⟨_,Zben m hm q hq p sizes hs,?_⟩
 unfold Zco
 by_cases e:Zdj m q.Ze q.Atoms p.Steps sizes=[]
 ·have e2:Zfl q.Ze q.Atoms p.Steps sizes=false:=by
   rcases tf (Zfl q.Ze q.Atoms p.Steps sizes) with h | h
   ·exact h
   ·exact absurd e (Ztb.2 h)
  rw [e2,e];simp
 ·have e2:=Ztb.1 e
  have e3:¬ ((Zdj m q.Ze q.Atoms p.Steps sizes).length:Int)=0:=fun hc=>e (List.length_eq_zero_iff.1 (by omega))
  rw [if_neg e3,e2,if_pos rfl]
  exact Zbeq _ (by have:=Z2n (m:=m) (n:=q.Ze) (qa:=q.Atoms) (steps:=p.Steps) (sizes:=sizes);omega) 0 (Nat.zero_le _) 0
end Go.Proofs.YtbapkgocloaaeaaGreat
/- part: LS -/
namespace Go.Proofs.YtbapkgocloaaeaaGreat
open Go.AM
theorem Zbes (l:List Int) (hl:l.length≤4294967296):∀ i,i≤l.length→∀ out:List Int,out.length≤i→Ze7 out l l l.length i=if Z5 l=true then some (.own 0,[.arr Zt 1 true ((out++(l.drop i).map Zbk).map ic)]) else some (.t .nil,[]):=by
 refine down _ ?_ ?_
 ·intro out _
  rcases tf (Z5 l) with e | e
  ·rw [e]
   refine Zsr _ _ _ _ _ _ ?_
   rw [if_neg (by omega)]
   exact ⟨_,Zn1 l (by omega),by rw [e,if_neg (by simp)]⟩
  ·rw [e,if_pos rfl]
   refine Zsr _ _ _ _ _ _ ?_
   rw [if_neg (by omega)]
   exact ⟨_,Zn1 l (by omega),by rw [e,if_pos rfl];simp⟩
 ·intro i hi ih out ho
  have h4:=inc64 (i:=i) (by omega)
  have ih:=ih (out++[Zbk l[i]]) (by simp;omega)
  simp only [Int.natCast_add,Int.cast_ofNat_Int] at ih
  have go:∀ r,Ze7 (out++[Zbk l[i]]) l l l.length ((i:Int)+1)=some r→Ze7 out l l l.length i=some r:=by
   intro r hr
   refine Zsr _ _ _ _ _ _ ?_
   rw [if_pos (by omega)]
   refine ⟨by omega,l[i],by rw [Int.toNat_natCast];exact List.getElem?_eq_getElem hi,_,Zbdx _,by omega,?_⟩
   rw [show w ((i:Int)+1)=(i:Int)+1 from h4]
   exact hr
  rw [List.drop_eq_getElem_cons hi,List.map_cons]
  rcases tf (Z5 l) with e | e
  ·rw [e] at ih ⊢
   exact go _ (by simpa using ih)
  ·rw [e,if_pos rfl] at ih ⊢
   exact go _ (by simpa using ih)
def Zbj (l:List Int):List Int:=l.map Zbk
theorem Z2o (l:List Int) (hl:l.length≤4294967296):Ze6 l=if Z5 l=true then some (.own 0,[.arr Zt 1 true ((Zbj l).map ic)]) else some (.t .nil,[]):=by
 have b:=Zbes l hl 0 (Nat.zero_le _) [] (by simp)
 rcases tf (Z5 l) with e | e
 ·rw [e] at b ⊢;exact Z0c _ _ b
 ·rw [e,if_pos rfl] at b ⊢
  exact Z0c _ _ (by simpa [Zbj] using b)
theorem Zbet (l:List Int) (hl:l.length≤4294967296) (h:Z5 l=true):∀ i,i≤l.length→∀ out:List Int,out.length≤i→Zib out l i=some (.own 0,[.arr Zt 1 true ((out++(l.drop i).map Zbk).map ic)]):=by
 refine down _ ?_ ?_
 ·intro out _
  refine Zsw _ _ _ _ ?_
  rw [if_neg (by omega)]
  simp
 ·intro i hi ih out ho
  have h4:=inc64 (i:=i) (by omega)
  have ih:=ih (out++[Zbk l[i]]) (by simp;omega)
  simp only [Int.natCast_add,Int.cast_ofNat_Int] at ih
  refine Zsw _ _ _ _ ?_
  rw [if_pos (by omega)]
  refine ⟨_,Zn0 l (by omega),?_⟩
  rw [h,if_pos rfl]
  refine ⟨by omega,l[i],by rw [Int.toNat_natCast];exact List.getElem?_eq_getElem hi,_,Zbdy _,by omega,?_⟩
  rw [show w ((i:Int)+1)=(i:Int)+1 from h4,List.drop_eq_getElem_cons hi,List.map_cons]
  simpa using ih
theorem Z2p (l:List Int) (hl:l.length≤4294967296):Zia l=some (.own 0,[.arr Zt 1 true ((if Z5 l=true then Zbj l else []).map ic)]):=by
 rcases tf (Z5 l) with e | e
 ·rw [e]
  refine Z1h _ _ (Zsw _ _ _ _ ?_)
  by_cases h:(0:Int)<l.length
  ·rw [if_pos h]
   exact ⟨_,Zn0 l (by omega),by rw [e,if_neg (by simp)];rfl⟩
  ·rw [if_neg h];rfl
 ·have b:=Zbet l hl e 0 (Nat.zero_le _) [] (by simp)
  rw [e,if_pos rfl]
  exact Z1h _ _ (by simpa [Zbj] using b)
theorem Zbeu (m:Zd) (hm:LeM m) (q:Zc) (hq:LeQ q) (p:Plan) (l:List Int) (hl:l.length≤4294967296) (h:Z5 l=true):Zki m q p l=some (I (Zco m q.Ze q.Atoms p.Steps (Zbj l)),[]):=by
 have b:=Z2o l hl
 rw [h,if_pos rfl] at b
 exact Zba4 _ _ _ _ _ (.inl ⟨_,b,_,Ztc m hm q hq p (Zbj l) (by simp [Zbj];omega),rfl⟩)
theorem Zbev (m:Zd) (hm:LeM m) (q:Zc) (hq:LeQ q) (p:Plan) (l:List Int) (hl:l.length≤4294967296) (h:Z5 l=true):Zlt m q p l=some (I (Zco m q.Ze q.Atoms p.Steps (Zbj l)),[]):=by
 have b:=Z2p l hl
 rw [h,if_pos rfl] at b
 exact Zbc4 _ _ _ _ _ ⟨_,b,_,Zber m hm q hq p (Zbj l) (by simp [Zbj];omega),rfl⟩
abbrev Zcy (q:Zc) (m:Int):List Int:=varL m q.Atoms q.Ze.toNat
theorem Z2q (q:Zc) (hq:LeQ q) (hv:Zm q.Ze q.Atoms=true) (m:Int) (hm:MQ q.Atoms m):Zed q m=some (.own 0,[.arr Zt 1 true ((Zcy q m).map ic)]):=by
 refine Zbbc _ _ _ ⟨_,Z2a q hq m,?_⟩
 have:inR m 0 (Zs q.Ze q.Atoms)=true:=by rw [Zd3 hv];simp [inR];have:=hm.1;have:=hm.2;omega
 rw [hv,this,if_pos (by rfl)]
 exact ⟨_,Zl9 q m hq hv,rfl⟩
def Zd5 (q:Zc) (a b:Int):List Int:=(Zcy q a).filter (has (Zcy q b))
theorem Zmd (q:Zc) (hv:Zm q.Ze q.Atoms=true) (m:Int):(Zcy q m).length≤4:=by
 have:=Zir m q.Atoms q.Ze.toNat
 have:=Zc7 hv
 unfold Zcy;omega
theorem Zbew (q:Zc) (hq:LeQ q) (hv:Zm q.Ze q.Atoms=true) (a b:Int) (ha:MQ q.Atoms a) (hb:MQ q.Atoms b):Zhs q a b=some (.own 0,[.arr Zt 1 true ((Zd5 q a b).map ic)]):=by
 have l1:=Zmd q hv a
 have l2:=Zmd q hv b
 exact Zbbd _ _ _ _ (.inl ⟨_,Z2q q hq hv a ha,.inl ⟨_,Z2q q hq hv b hb,_,x_both _ _ (by omega) (by omega),rfl⟩⟩)
theorem l_l7List (p:Nat→Bool):∀ k:Nat,k≤4→∀ out:List Int,out.length≤k→Zgl out (Zx p) k=some (.own 0,[.arr Zt 1 true ((out++((List.range' k (4 - k)).filter p).map (fun u:Nat=>(u:Int))).map ic)]):=by
 refine down _ ?_ ?_
 ·intro out _
  refine Z1d _ _ _ _ ?_
  rw [if_neg (by omega)];simp
 ·intro k hk ih out ho
  have wk':w ((k:Int)+1)=(k:Int)+1:=wrap64 (by omega) (by omega)
  have hb:=at_bit p (v:=(k:Int)) (by simp [inR];omega)
  rw [Int.toNat_natCast] at hb
  refine Z1d _ _ _ _ ?_
  rw [if_pos (by omega),show 4 - k=(4 - (k+1))+1 by omega,List.range'_succ,List.filter_cons,wk']
  refine ⟨by omega,?_⟩
  rcases tf (p k) with e | e
  ·have ih:=ih out (by omega)
   rw [if_neg (fun hc=>by rw [hb.1 hc] at e;cases e),e,if_neg (by simp)]
   simpa using ih
  ·have ih:=ih (out++[(k:Int)]) (by simp;omega)
   rw [if_pos (hb.2 e),e,if_pos rfl]
   exact ⟨by omega,by simpa using ih⟩
theorem vars4 (q:Zc) (hv:Zm q.Ze q.Atoms=true) (m:Int):((List.range' 0 4).filter (pV m q.Atoms)).map (fun u:Nat=>(u:Int))=Zcy q m:=by
 have hn:=Zc7 hv
 have e:List.range' 0 4=List.range q.Ze.toNat++List.range' q.Ze.toNat (4 - q.Ze.toNat):=by
  have h:=List.range'_append_1 (s:=0) (m:=q.Ze.toNat) (n:=4 - q.Ze.toNat)
  rw [Nat.zero_add] at h
  rw [List.range_eq_range',h]
  congr 1
  omega
 unfold Zcy varL
 rw [e,List.filter_append]
 have e2:(List.range' q.Ze.toNat (4 - q.Ze.toNat)).filter (pV m q.Atoms)=[]:=by
  rw [List.filter_eq_nil_iff]
  intro u hu hp
  have:=pV_lt hv hp
  rw [List.mem_range'_1] at hu
  omega
 rw [e2];simp
theorem Z2r (q:Zc) (hq:LeQ q) (hv:Zm q.Ze q.Atoms=true) (m:Int) (hm:MQ q.Atoms m):Zi4 q m=some (.own 0,[.arr Zt 1 true ((Zcy q m).map ic)]):=by
 have b:=l_l7List (pV m q.Atoms) 0 (by omega) [] (by simp)
 rw [show 4 - 0=4 from rfl,vars4 q hv m] at b
 refine Zbcj _ _ _ ⟨_,Z2b q hq m,?_⟩
 have:inR m 0 (Zs q.Ze q.Atoms)=true:=by rw [Zd3 hv];simp [inR];have:=hm.1;have:=hm.2;omega
 rw [hv,this,if_pos (by rfl)]
 exact ⟨_,Zjb q m hq (Zg6 hv),_,Zbci _ _ (by simpa using b),rfl⟩
theorem Zbex (x y:List Int) (hy:Le y) (hx:x.length≤1000):∀ i,i≤x.length→Zgn ((x.take i).filter (has y)) x y i=some (.own 0,[.arr Zt 1 true ((x.filter (has y)).map ic)]):=by
 refine down _ ?_ ?_
 ·refine Z1e _ _ _ _ _ ?_
  rw [if_neg (by omega)];simp
 ·intro i hi ih
  have h4:=inc64 (i:=i) (by omega)
  have e4:((x.take i).filter (has y)).length+1≤68719476736:=by
   have:=List.length_filter_le (has y) (x.take i)
   simp at this
   omega
  rw [Zo9 _ hi] at ih
  refine Z1e _ _ _ _ _ ?_
  rw [if_pos (by omega)]
  refine ⟨by omega,x[i],by rw [Int.toNat_natCast];exact List.getElem?_eq_getElem hi,_,Z1x y x[i] hy,?_⟩
  rw [show w ((i:Int)+1)=(i:Int)+1 from h4]
  rcases tf (has y x[i]) with e | e
  ·rw [e,if_neg (by simp)];rw [e] at ih;simpa using ih
  ·rw [e,if_pos rfl];rw [e] at ih;exact ⟨e4,by simpa using ih⟩
theorem Zbey (q:Zc) (hq:LeQ q) (hv:Zm q.Ze q.Atoms=true) (a b:Int) (ha:MQ q.Atoms a) (hb:MQ q.Atoms b):Zgm q a b=some (.own 0,[.arr Zt 1 true ((Zd5 q a b).map ic)]):=by
 have l1:=Zmd q hv a
 have l2:=Zmd q hv b
 have c:=Zbex (Zcy q a) (Zcy q b) (by omega) (by omega) 0 (Nat.zero_le _)
 exact Zbck _ _ _ _ ⟨_,Z2r q hq hv a ha,_,Z2r q hq hv b hb,by simpa [Zd5] using c⟩
end Go.Proofs.YtbapkgocloaaeaaGreat
/- part: ID -/
namespace Go.Proofs.YtbapkgocloaaeaaGreat
open Go.AM
abbrev B4:=Bool×Bool×Bool×Bool
structure Ed where
 a:Bool
 b:Bool
 c:Bool
 d:Bool
 e:Bool
 f:Bool
def nearB (g:Ed) (x:B4):B4:=match x with
 | (x0,x1,x2,x3)=>(!x0 && ((x1 && g.a) || (x2 && g.b) || (x3 && g.c)),!x1 && ((x0 && g.a) || (x2 && g.d) || (x3 && g.e)),!x2 && ((x0 && g.b) || (x1 && g.d) || (x3 && g.f)),!x3 && ((x0 && g.c) || (x1 && g.e) || (x2 && g.f)))
def orB (x y:B4):B4:=match x,y with
 | (x0,x1,x2,x3),(y0,y1,y2,y3)=>(x0 || y0,x1 || y1,x2 || y2,x3 || y3)
def andB (x y:B4):B4:=match x,y with
 | (x0,x1,x2,x3),(y0,y1,y2,y3)=>(x0 && y0,x1 && y1,x2 && y2,x3 && y3)
def subB (x y:B4):B4:=match x,y with
 | (x0,x1,x2,x3),(y0,y1,y2,y3)=>(x0 && !y0,x1 && !y1,x2 && !y2,x3 && !y3)
def stepB (g:Ed) (p x:B4):B4:=orB x (andB (nearB g x) p)
def iterB (g:Ed) (p:B4):Nat→B4→B4
 | 0,x=>x
 | n+1,x=>iterB g p n (stepB g p x)
def lowB:B4→B4
 | (p0,p1,p2,p3)=>(p0,!p0 && p1,!p0 && !p1 && p2,!p0 && !p1 && !p2 && p3)
def Zb1 (g:Ed) (n:Nat) (p:B4):Bool:=iterB g p n (lowB p) == p
def edgeB (g:Ed) (x y:B4):Bool:=match x,y with
 | (x0,x1,x2,x3),(y0,y1,y2,y3)=>(x0 && ((y1 && g.a) || (y2 && g.b) || (y3 && g.c))) || (x1 && ((y0 && g.a) || (y2 && g.d) || (y3 && g.e))) || (x2 && ((y0 && g.b) || (y1 && g.d) || (y3 && g.f))) || (x3 && ((y0 && g.c) || (y1 && g.e) || (y2 && g.f)))
def toI (x:B4):Int:=match x with | (a,b,c,d)=>bit4 a b c d
def inN (n:Nat) (p:B4):Bool:=match p with | (p0,p1,p2,p3)=>(decide (1≤n) || !p0) && (decide (2≤n) || !p1) && (decide (3≤n) || !p2) && (decide (4≤n) || !p3)
def oneB (p:B4):Bool:=p == (true,false,false,false) || p == (false,true,false,false) || p == (false,false,true,false) || p == (false,false,false,true)
def okF1 (g:Ed) (n:Nat) (p:B4):Bool:=!inN n p || !Zb1 g n p || oneB p || p == (false,false,false,false) ||
 (andB p (true,false,false,false) != (false,false,false,false) && Zb1 g n (subB p (true,false,false,false))) || (andB p (false,true,false,false) != (false,false,false,false) && Zb1 g n (subB p (false,true,false,false))) ||
 (andB p (false,false,true,false) != (false,false,false,false) && Zb1 g n (subB p (false,false,true,false))) || (andB p (false,false,false,true) != (false,false,false,false) && Zb1 g n (subB p (false,false,false,true)))
def okF2 (g:Ed) (n:Nat) (p x:B4):Bool:=andB x p != x || x == (false,false,false,false) || x == p || edgeB g x (subB p x) || !inN n p || !Zb1 g n p
set_option maxRecDepth 100000 in
theorem f1:∀ a b c d e f:Bool,∀ p0 p1 p2 p3:Bool,okF1 ⟨a,b,c,d,e,f⟩ 1 (p0,p1,p2,p3)=true∧okF1 ⟨a,b,c,d,e,f⟩ 2 (p0,p1,p2,p3)=true∧okF1 ⟨a,b,c,d,e,f⟩ 3 (p0,p1,p2,p3)=true∧okF1 ⟨a,b,c,d,e,f⟩ 4 (p0,p1,p2,p3)=true:=by decide +kernel
set_option maxRecDepth 100000 in
theorem f2:∀ a b c d e f:Bool,∀ p0 p1 p2 p3 x0 x1 x2 x3:Bool,okF2 ⟨a,b,c,d,e,f⟩ 1 (p0,p1,p2,p3) (x0,x1,x2,x3)=true∧okF2 ⟨a,b,c,d,e,f⟩ 2 (p0,p1,p2,p3) (x0,x1,x2,x3)=true∧okF2 ⟨a,b,c,d,e,f⟩ 3 (p0,p1,p2,p3) (x0,x1,x2,x3)=true∧okF2 ⟨a,b,c,d,e,f⟩ 4 (p0,p1,p2,p3) (x0,x1,x2,x3)=true:=by decide +kernel
def ofI (m:Int):B4:=(Zq m 0,Zq m 1,Zq m 2,Zq m 3)
set_option maxRecDepth 100000 in
theorem to_of:∀ a:Fin 16,toI (ofI (a.1:Int))=(a.1:Int):=by decide
theorem Ztd {m:Int} (h:M16 m):toI (ofI m)=m:=by obtain ⟨a,rfl⟩:=m16 h;exact to_of a
theorem of_to:∀ a b c d:Bool,ofI (bit4 a b c d)=(a,b,c,d)∧M16 (bit4 a b c d):=by decide
theorem Zme (x:B4):ofI (toI x)=x:=(of_to x.1 x.2.1 x.2.2.1 x.2.2.2).1
theorem toI_16 (x:B4):M16 (toI x):=(of_to x.1 x.2.1 x.2.2.1 x.2.2.2).2
theorem Zte {x y:B4} (h:toI x=toI y):x=y:=by rw [← Zme x,h,Zme]
set_option maxRecDepth 100000 in
theorem Z2s:∀ a b c d e f g h:Bool,orI (bit4 a b c d) (bit4 e f g h)=bit4 (a || e) (b || f) (c || g) (d || h)∧andI (bit4 a b c d) (bit4 e f g h)=bit4 (a && e) (b && f) (c && g) (d && h):=by decide
theorem toI_or (x y:B4):orI (toI x) (toI y)=toI (orB x y):=(Z2s x.1 x.2.1 x.2.2.1 x.2.2.2 y.1 y.2.1 y.2.2.1 y.2.2.2).1
theorem Zoa (x y:B4):andI (toI x) (toI y)=toI (andB x y):=(Z2s x.1 x.2.1 x.2.2.1 x.2.2.2 y.1 y.2.1 y.2.2.1 y.2.2.2).2
theorem bit_low:∀ a b c d:Bool,andI (bit4 a b c d) (w (0 - bit4 a b c d))=toI (lowB (a,b,c,d)):=by decide
theorem bit_sub:∀ a b c d e f g h:Bool,andB (e,f,g,h) (a,b,c,d)=(e,f,g,h)→bit4 a b c d - bit4 e f g h=toI (subB (a,b,c,d) (e,f,g,h)):=by decide
theorem Z2t {x y:B4} (h:andB y x=y):toI x - toI y=toI (subB x y):=bit_sub x.1 x.2.1 x.2.2.1 x.2.2.2 y.1 y.2.1 y.2.2.1 y.2.2.2 h
theorem shl4:∀ i j:Fin 4,Zq (shlI 1 i.1) j.1=decide (i=j):=by decide
theorem pV_any (qa:List Atom) (h4:qa.length≤4) (m:Int) (u:Nat):pV m qa u=((Zq m 0 && pV (shlI 1 (0:Nat)) qa u) || (Zq m 1 && pV (shlI 1 (1:Nat)) qa u) || (Zq m 2 && pV (shlI 1 (2:Nat)) qa u) || (Zq m 3 && pV (shlI 1 (3:Nat)) qa u)):=by
 have s:∀ i j:Nat,i<4→j<4→Zq (shlI 1 (i:Nat)) j=decide (i=j):=fun i j hi hj=>by
  have:=shl4 ⟨i,hi⟩ ⟨j,hj⟩
  simpa [Fin.ext_iff] using this
 have s00:=s 0 0 (by omega) (by omega)
 have s01:=s 0 1 (by omega) (by omega)
 have s02:=s 0 2 (by omega) (by omega)
 have s03:=s 0 3 (by omega) (by omega)
 have s10:=s 1 0 (by omega) (by omega)
 have s11:=s 1 1 (by omega) (by omega)
 have s12:=s 1 2 (by omega) (by omega)
 have s13:=s 1 3 (by omega) (by omega)
 have s20:=s 2 0 (by omega) (by omega)
 have s21:=s 2 1 (by omega) (by omega)
 have s22:=s 2 2 (by omega) (by omega)
 have s23:=s 2 3 (by omega) (by omega)
 have s30:=s 3 0 (by omega) (by omega)
 have s31:=s 3 1 (by omega) (by omega)
 have s32:=s 3 2 (by omega) (by omega)
 have s33:=s 3 3 (by omega) (by omega)
 simp only [Nat.reduceEqDiff,decide_true,decide_false] at s00 s01 s02 s03 s10 s11 s12 s13 s20 s21 s22 s23 s30 s31 s32 s33
 match qa,h4 with
 | [],_=>simp [pV,hasV]
 | [a],_=>simp only [pV,hasV,s00,s10,s20,s30];cases Zq m 0 <;> cases Zq m 1 <;> cases Zq m 2 <;> cases Zq m 3 <;> simp
 | [a,b],_=>simp only [pV,hasV,s00,s10,s20,s30,s01,s11,s21,s31,Nat.zero_add];cases Zq m 0 <;> cases Zq m 1 <;> cases Zq m 2 <;> cases Zq m 3 <;> simp
 | [a,b,c],_=>simp only [pV,hasV,s00,s10,s20,s30,s01,s11,s21,s31,s02,s12,s22,s32,Nat.zero_add,Nat.reduceAdd];cases Zq m 0 <;> cases Zq m 1 <;> cases Zq m 2 <;> cases Zq m 3 <;> simp [Bool.or_assoc]
 | [a,b,c,d],_=>simp only [pV,hasV,s00,s10,s20,s30,s01,s11,s21,s31,s02,s12,s22,s32,s03,s13,s23,s33,Nat.zero_add,Nat.reduceAdd];cases Zq m 0 <;> cases Zq m 1 <;> cases Zq m 2 <;> cases Zq m 3 <;> simp [Bool.or_assoc]
 | _::_::_::_::_::_,h=>simp at h
def adj (qa:List Atom) (i j:Nat):Bool:=shr qa (shlI 1 i) (shlI 1 j)
theorem Zdk (qa:List Atom) (i j:Nat):adj qa i j=adj qa j i:=by
 unfold adj shr
 simp only [Bool.and_comm]
def ats (m:Int) (f:Nat→Bool):Bool:=(Zq m 0 && f 0) || (Zq m 1 && f 1) || (Zq m 2 && f 2) || (Zq m 3 && f 3)
theorem Zgy {m:Int} {f:Nat→Bool}:ats m f=true↔∃ i,i<4∧Zq m i=true∧f i=true:=by
 unfold ats
 constructor
 ·intro h
  simp only [Bool.or_eq_true,Bool.and_eq_true] at h
  rcases h with ((h | h) | h) | h
  ·exact ⟨0,by omega,h⟩
  ·exact ⟨1,by omega,h⟩
  ·exact ⟨2,by omega,h⟩
  ·exact ⟨3,by omega,h⟩
 ·rintro ⟨i,hi,h1,h2⟩
  simp only [Bool.or_eq_true,Bool.and_eq_true]
  match i,hi with
  | 0,_=>exact .inl (.inl (.inl ⟨h1,h2⟩))
  | 1,_=>exact .inl (.inl (.inr ⟨h1,h2⟩))
  | 2,_=>exact .inl (.inr ⟨h1,h2⟩)
  | 3,_=>exact .inr ⟨h1,h2⟩
theorem Z2u (qa:List Atom) (h4:qa.length≤4) (x y:Int):shr qa x y=ats x fun i=>ats y fun j=>adj qa i j:=by
 have pv:∀ m u,pV m qa u=ats m fun i=>pV (shlI 1 (i:Nat)) qa u:=fun m u=>pV_any qa h4 m u
 rw [Bool.eq_iff_iff,Zgy]
 unfold shr
 rw [List.any_eq_true]
 constructor
 ·rintro ⟨u,hu,h⟩
  rw [Bool.and_eq_true,pv x u,pv y u,Zgy,Zgy] at h
  obtain ⟨⟨i,i1,i2,i3⟩,⟨j,j1,j2,j3⟩⟩:=h
  refine ⟨i,i1,i2,Zgy.2 ⟨j,j1,j2,?_⟩⟩
  unfold adj shr
  rw [List.any_eq_true]
  exact ⟨u,hu,by rw [Bool.and_eq_true];exact ⟨i3,j3⟩⟩
 ·rintro ⟨i,i1,i2,h⟩
  obtain ⟨j,j1,j2,h⟩:=Zgy.1 h
  unfold adj shr at h
  rw [List.any_eq_true] at h
  obtain ⟨u,hu,h⟩:=h
  rw [Bool.and_eq_true] at h
  refine ⟨u,hu,?_⟩
  rw [Bool.and_eq_true,pv x u,pv y u,Zgy,Zgy]
  exact ⟨⟨i,i1,i2,h.1⟩,⟨j,j1,j2,h.2⟩⟩
def edOf (qa:List Atom):Ed:=⟨adj qa 0 1,adj qa 0 2,adj qa 0 3,adj qa 1 2,adj qa 1 3,adj qa 2 3⟩
theorem Zob {qa:List Atom} (h4:qa.length≤4) {i:Nat} (hi:i<4) (hl:qa.length≤i) (j:Nat):adj qa i j=false:=by
 have:∀ u,pV (shlI 1 (i:Nat)) qa u=false:=by
  intro u
  unfold pV
  have key:∀ (as':List Atom) (k:Nat),k+as'.length≤i→hasV (shlI 1 (i:Nat)) as' k u=false:=by
   intro as'
   induction as' with
   | nil=>intro k _;rfl
   | cons a as' ih =>
    intro k hk
    simp only [List.length_cons] at hk
    have:=shl4 ⟨i,hi⟩ ⟨k,by omega⟩
    simp only [Fin.mk.injEq] at this
    rw [hasV,ih (k+1) (by omega),this,decide_eq_false (by omega)]
    rfl
  exact key qa 0 (by omega)
 unfold adj shr
 rw [List.any_eq_false]
 intro u _
 simp [this u]
theorem shl_in (i:Nat) (hi:i<4) (f:Nat→Bool):ats (shlI 1 (i:Nat)) f=f i:=by
 have s:∀ j:Nat,j<4→Zq (shlI 1 (i:Nat)) j=decide (i=j):=fun j hj=>by
  have:=shl4 ⟨i,hi⟩ ⟨j,hj⟩
  simpa [Fin.ext_iff] using this
 rw [Bool.eq_iff_iff,Zgy]
 constructor
 ·rintro ⟨j,j1,j2,j3⟩
  rw [s j j1] at j2
  have:i=j:=of_decide_eq_true j2
  rw [this];exact j3
 ·intro h
  exact ⟨i,hi,by rw [s i hi];simp,h⟩
theorem near_bit {n:Int} {qa:List Atom} (hv:Zm n qa=true) (x:B4):Zd2 qa (toI x)=toI (nearB (edOf qa) x):=by
 have h4:=(Zbr hv).2
 obtain ⟨x0,x1,x2,x3⟩:=x
 have hin:=Zme (x0,x1,x2,x3)
 simp only [ofI,Prod.mk.injEq] at hin
 obtain ⟨i0,i1,i2,i3⟩:=hin
 have key:∀ i,i<4→Zb6 qa (toI (x0,x1,x2,x3)) i=(!Zq (toI (x0,x1,x2,x3)) i && ((x0 && adj qa i 0) || (x1 && adj qa i 1) || (x2 && adj qa i 2) || (x3 && adj qa i 3))):=by
  intro i hi
  unfold Zb6
  rw [Z2u qa h4,shl_in i hi]
  unfold ats
  rw [i0,i1,i2,i3]
  by_cases hl:i<qa.length
  ·simp [hl]
  ·have a0:=Zob h4 hi (by omega) 0
   have a1:=Zob h4 hi (by omega) 1
   have a2:=Zob h4 hi (by omega) 2
   have a3:=Zob h4 hi (by omega) 3
   simp [hl,a0,a1,a2,a3]
 unfold Zd2 Zx
 rw [key 0 (by omega),key 1 (by omega),key 2 (by omega),key 3 (by omega),i0,i1,i2,i3]
 unfold nearB edOf toI
 rw [Zdk qa 1 0,Zdk qa 2 0,Zdk qa 3 0,Zdk qa 2 1,Zdk qa 3 1,Zdk qa 3 2]
 cases x0 <;> cases x1 <;> cases x2 <;> cases x3 <;> simp
theorem step_bit {n:Int} {qa:List Atom} (hv:Zm n qa=true) (p x:B4):Zdh qa (toI p) (toI x)=toI (stepB (edOf qa) p x):=by
 unfold Zdh stepB
 rw [near_bit hv,Zoa,toI_or]
theorem Z2v {n:Int} {qa:List Atom} (hv:Zm n qa=true) (p:B4):∀ (k:Nat) (x:B4),Zfk qa (toI p) k (toI x)=toI (iterB (edOf qa) p k x)
 | 0,x=>rfl
 | k+1,x=>by rw [Zfk,iterB,step_bit hv,Z2v hv p k]
theorem Zmf {n:Int} {qa:List Atom} (hv:Zm n qa=true) (p:B4):conn qa (toI p)=Zb1 (edOf qa) qa.length p:=by
 unfold conn Zb1
 rw [show andI (toI p) (w (0 - toI p))=toI (lowB p) from bit_low p.1 p.2.1 p.2.2.1 p.2.2.2,Z2v hv,Bool.eq_iff_iff,decide_eq_true_eq,beq_iff_eq]
 exact ⟨Zte,fun h=>by rw [h]⟩
theorem edge_bit {qa:List Atom} (h4:qa.length≤4) (x y:B4) (hd:andB x y=(false,false,false,false)):shr qa (toI x) (toI y)=edgeB (edOf qa) x y:=by
 obtain ⟨x0,x1,x2,x3⟩:=x
 obtain ⟨y0,y1,y2,y3⟩:=y
 have hx:=Zme (x0,x1,x2,x3)
 have hy:=Zme (y0,y1,y2,y3)
 simp only [ofI,Prod.mk.injEq] at hx hy
 obtain ⟨i0,i1,i2,i3⟩:=hx
 obtain ⟨j0,j1,j2,j3⟩:=hy
 simp only [andB,Prod.mk.injEq] at hd
 rw [Z2u qa h4]
 unfold ats
 rw [i0,i1,i2,i3,j0,j1,j2,j3]
 unfold edgeB edOf
 dsimp only
 rw [Zdk qa 1 0,Zdk qa 2 0,Zdk qa 3 0,Zdk qa 2 1,Zdk qa 3 1,Zdk qa 3 2]
 obtain ⟨h0,h1,h2,h3⟩:=hd
 cases x0 <;> cases y0 <;> simp at h0 <;> cases x1 <;> cases y1 <;> simp at h1 <;> cases x2 <;> cases y2 <;> simp at h2 <;> cases x3 <;> cases y3 <;> simp at h3 <;> simp
end Go.Proofs.YtbapkgocloaaeaaGreat
