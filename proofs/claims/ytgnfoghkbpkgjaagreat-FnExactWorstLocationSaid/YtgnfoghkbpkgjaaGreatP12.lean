/-
  Parts of the proofs for this seat: SP PC PC2 LS ID TB PA PB OF OE TC CB IN IS SJ SK SM SC SD SE SF SG SH IE IA.
-/
import Derived.Test.YtgnfoghkbpkgjaaGreatP11
set_option linter.unusedSimpArgs false
set_option linter.unusedVariables false
set_option maxRecDepth 100000
set_option maxHeartbeats 4000000
namespace Go.Proofs.YtgnfoghkbpkgjaaGreat
open Go.AM
theorem Zbkc (q:Zc) (hq:LeQ q) (hv:Zn q.Ze q.Atoms=true):∀ k:Nat,k≤2 ^ q.Atoms.length→1≤k→∀ out:List Int,out.length≤k →
  Zjp q out (Zr q.Ze q.Atoms) k=some (.own 0,[.arr Zv 1 true ((out++Zd1 q.Atoms k (2 ^ q.Atoms.length - k)).map ic)]):=by
 have hf:=Zeb hv
 have hp:=Zec q.Atoms.length
 have h16:2 ^ q.Atoms.length≤16:=Nat.pow_le_pow_right (by omega:0<2) (Zbt hv).2
 refine down _ ?_ ?_
 ·intro _ out _
  refine Z46 _ _ _ _ _ ?_
  rw [if_neg (by rw [hf];omega),Nat.sub_self]
  simp [Zd1]
 ·intro k hk ih h1 out ho
  have wk':w ((k:Int)+1)=(k:Int)+1:=wrap64 (by omega) (by omega)
  refine Z46 _ _ _ _ _ ?_
  rw [if_pos (by rw [hf];omega)]
  refine ⟨_,Zqf q hq hv k ⟨by omega,by omega⟩,?_⟩
  rw [show 2 ^ q.Atoms.length - k=(2 ^ q.Atoms.length - (k+1))+1 by omega,Z6i,wk']
  rcases tf (conn q.Atoms k) with e | e
  ·have ih:=ih (by omega) out (by omega)
   rw [e,if_neg (by simp)]
   simpa using ih
  ·have ih:=ih (by omega) (out++[(k:Int)]) (by simp;omega)
   rw [e,if_pos rfl]
   refine ⟨by omega,?_⟩
   simpa using ih
theorem Zbkd (q:Zc) (hq:LeQ q) (hv:Zn q.Ze q.Atoms=true):Zmb q=some (.own 0,[.arr Zv 1 true ((Zo q.Atoms).map ic)]):=by
 have hpos:1≤2 ^ q.Atoms.length:=Nat.one_le_two_pow
 have b:=Zbkc q hq hv 1 hpos (Nat.le_refl _) [] (by simp)
 exact Zbh5 _ _ ⟨_,Zh2 q hq,by simpa [Zo] using b⟩
set_option maxRecDepth 100000 in
theorem f_diff:∀ a m:Fin 16,andI (a.1:Int) m.1=a.1→andNotI (m.1:Int) a.1=(m.1:Int) - a.1∧(a.1:Int)≤m.1∧andI (a.1:Int) ((m.1:Int) - a.1)=0∧orI (a.1:Int) ((m.1:Int) - a.1)=m.1:=by decide
def Zb2 (qa:List Atom) (mask:Int) (x:Int):Bool:=decide (andI x mask=x) && (conn qa x && conn qa (mask - x))
def Zc6 (qa:List Atom) (mask:Int) (k n:Nat):List Int:=((List.range' k n).filter (fun m:Nat=>Zb2 qa mask (m:Int))).map (fun m:Nat=>(m:Int))
theorem Z6j {qa:List Atom} {mask:Int} {k n:Nat}:Zc6 qa mask k (n+1)=(if Zb2 qa mask (k:Int)=true then [(k:Int)] else [])++Zc6 qa mask (k+1) n:=by
 unfold Zc6
 rw [List.range'_succ,List.filter_cons]
 split <;> simp
def Zq (qa:List Atom) (mask:Int):List Int:=Zc6 qa mask 1 (mask.toNat - 1)
theorem Zbke (q:Zc) (hq:LeQ q) (hv:Zn q.Ze q.Atoms=true) (mask:Nat) (hm:MQ q.Atoms mask):∀ k:Nat,k≤mask→1≤k→∀ out:List Int,out.length≤k →
  Zfd q out mask k=some (.own 0,[.arr Zv 1 true ((out++Zc6 q.Atoms mask k (mask - k)).map ic)]):=by
 have m16':=(hm.m16 hv).1
 refine down _ ?_ ?_
 ·intro _ out _
  refine Z32 _ _ _ _ _ ?_
  rw [if_neg (by omega),Nat.sub_self]
  simp [Zc6]
 ·intro k hk ih h1 out ho
  have wk':w ((k:Int)+1)=(k:Int)+1:=wrap64 (by omega) (by omega)
  refine Z32 _ _ _ _ _ ?_
  rw [if_pos (by omega),show mask - k=(mask - (k+1))+1 by omega,Z6j,wk']
  have skip:Zb2 q.Atoms mask k=false→Zfd q out mask ((k:Int)+1)=some (.own 0,[.arr Zv 1 true ((out++((if Zb2 q.Atoms mask (k:Int)=true then [(k:Int)] else [])++Zc6 q.Atoms mask (k+1) (mask - (k+1)))).map ic)]):=by
   intro e
   have ih:=ih (by omega) out (by omega)
   rw [e]
   simpa using ih
  by_cases e1:andI (k:Int) mask=k
  ·obtain ⟨d1,d2,_⟩:=f_diff ⟨k,by omega⟩ ⟨mask,by omega⟩ e1
   simp only at d1 d2
   rw [if_pos e1]
   refine ⟨_,Zqe q hq hv k ⟨by omega,by have:=hm.2;omega⟩ (by omega),?_⟩
   rcases tf (conn q.Atoms k) with e2 | e2
   ·rw [e2,if_neg (by simp)]
    exact skip (by simp [Zb2,e2])
   ·rw [e2,if_pos rfl,d1]
    refine ⟨_,Zqe q hq hv ((mask:Int) - k) ⟨by omega,by have:=hm.2;omega⟩ (by omega),?_⟩
    rcases tf (conn q.Atoms ((mask:Int) - k)) with e3 | e3
    ·rw [e3,if_neg (by simp)]
     exact skip (by simp [Zb2,e3])
    ·rw [e3,if_pos rfl]
     have es:Zb2 q.Atoms mask k=true:=by simp [Zb2,e1,e2,e3]
     rw [es,if_pos rfl]
     have ih:=ih (by omega) (out++[(k:Int)]) (by simp;omega)
     exact ⟨by omega,by simpa using ih⟩
  ·rw [if_neg e1]
   exact skip (by simp [Zb2,e1])
theorem Zwq (q:Zc) (hq:LeQ q) (m:Int) (hc:Zbq q.Ze q.Atoms m=true):Zdf q m=some (.own 0,[.arr Zv 1 true ((Zq q.Atoms m).map ic)]):=by
 have hc':=hc
 simp only [Zbq,Bool.and_eq_true,decide_eq_true_eq] at hc'
 obtain ⟨⟨⟨hv,hr⟩,h0⟩,_⟩:=hc'
 have hm:=Zqg hv hr
 obtain ⟨k,rfl⟩:∃ k:Nat,m=k:=⟨m.toNat,by have:=hm.1;omega⟩
 refine Zbgm _ _ _ ⟨_,Z6g q hq k,?_⟩
 rw [hc,if_pos rfl]
 have b:=Zbke q hq hv k hm 1 (by omega) (Nat.le_refl _) [] (by simp)
 simpa [Zq] using b
theorem Zbkf (q:Zc) (hq:LeQ q) (hv:Zn q.Ze q.Atoms=true) (mask:Nat) (hm:MQ q.Atoms mask):∀ k:Nat,k≤mask→1≤k→∀ out:List Int,out.length≤k →
  Zer q out mask k=some (.own 0,[.arr Zv 1 true ((out++Zc6 q.Atoms mask k (mask - k)).map ic)]):=by
 have m16':=(hm.m16 hv).1
 refine down _ ?_ ?_
 ·intro _ out _
  refine Z47 _ _ _ _ _ ?_
  rw [if_neg (by omega),Nat.sub_self]
  simp [Zc6]
 ·intro k hk ih h1 out ho
  have wk':w ((k:Int)+1)=(k:Int)+1:=wrap64 (by omega) (by omega)
  have wd:w ((mask:Int) - k)=(mask:Int) - k:=wrap64 (by omega) (by omega)
  refine Z47 _ _ _ _ _ ?_
  rw [if_pos (by omega),show mask - k=(mask - (k+1))+1 by omega,Z6j,wk',wd]
  have skip:Zb2 q.Atoms mask k=false→Zer q out mask ((k:Int)+1)=some (.own 0,[.arr Zv 1 true ((out++((if Zb2 q.Atoms mask (k:Int)=true then [(k:Int)] else [])++Zc6 q.Atoms mask (k+1) (mask - (k+1)))).map ic)]):=by
   intro e
   have ih:=ih (by omega) out (by omega)
   rw [e]
   simpa using ih
  by_cases e1:andI (k:Int) mask=k
  ·rw [if_pos e1]
   refine ⟨_,Zqf q hq hv k ⟨by omega,by have:=hm.2;omega⟩,?_⟩
   rcases tf (conn q.Atoms k) with e2 | e2
   ·rw [e2,if_neg (by simp)]
    exact skip (by simp [Zb2,e2])
   ·rw [e2,if_pos rfl]
    refine ⟨_,Zqf q hq hv ((mask:Int) - k) ⟨by omega,by have:=hm.2;omega⟩,?_⟩
    rcases tf (conn q.Atoms ((mask:Int) - k)) with e3 | e3
    ·rw [e3,if_neg (by simp)]
     exact skip (by simp [Zb2,e3])
    ·rw [e3,if_pos rfl]
     have es:Zb2 q.Atoms mask k=true:=by simp [Zb2,e1,e2,e3]
     rw [es,if_pos rfl]
     have ih:=ih (by omega) (out++[(k:Int)]) (by simp;omega)
     exact ⟨by omega,by simpa using ih⟩
  ·rw [if_neg e1]
   exact skip (by simp [Zb2,e1])
theorem Zbkg (q:Zc) (hq:LeQ q) (m:Int) (hc:Zbq q.Ze q.Atoms m=true):Zpn q m=some (.own 0,[.arr Zv 1 true ((Zq q.Atoms m).map ic)]):=by
 have hc':=hc
 simp only [Zbq,Bool.and_eq_true,decide_eq_true_eq] at hc'
 obtain ⟨⟨⟨hv,hr⟩,h0⟩,_⟩:=hc'
 have hm:=Zqg hv hr
 obtain ⟨k,rfl⟩:∃ k:Nat,m=k:=⟨m.toNat,by have:=hm.1;omega⟩
 refine Zbh6 _ _ _ ⟨_,Z6h q hq k,?_⟩
 rw [hc,if_pos rfl]
 have b:=Zbkf q hq hv k hm 1 (by omega) (Nat.le_refl _) [] (by simp)
 simpa [Zq] using b
def Zgh (m:Int) (k n:Nat):List Int:=((List.range' k n).filter (fun i:Nat=>Zs m i)).map (fun i:Nat=>(i:Int))
theorem Z6k {m:Int} {k n:Nat}:Zgh m k (n+1)=(if Zs m k=true then [(k:Int)] else [])++Zgh m (k+1) n:=by
 unfold Zgh
 rw [List.range'_succ,List.filter_cons]
 split <;> simp
def Zck (m:Int):List Int:=Zgh m 0 4
theorem Zbkh (m:Int):∀ k:Nat,k≤4→∀ out:List Int,out.length≤k→Zix out m k=some (.own 0,[.arr Zv 1 true ((out++Zgh m k (4 - k)).map ic)]):=by
 refine down _ ?_ ?_
 ·intro out _
  refine Z3y _ _ _ _ ?_
  rw [if_neg (by omega)];simp [Zgh]
 ·intro k hk ih out ho
  have wk':w ((k:Int)+1)=(k:Int)+1:=wrap64 (by omega) (by omega)
  refine Z3y _ _ _ _ ?_
  rw [if_pos (by omega),show 4 - k=(4 - (k+1))+1 by omega,Z6k,wk']
  refine ⟨by omega,?_⟩
  by_cases e:andI (shrI m k) 1=1
  ·have ih:=ih (out++[(k:Int)]) (by simp;omega)
   rw [if_pos e,if_pos (by simp [Zs,e])]
   exact ⟨by omega,by simpa using ih⟩
  ·have ih:=ih out (by omega)
   rw [if_neg e,if_neg (by simp [Zs,e])]
   simpa using ih
theorem Zbki {m:Int} (hm:M16 m):Ziw m=some (.own 0,[.arr Zv 1 true ((Zck m).map ic)]):=by
 have b:=Zbkh m 0 (by omega) [] (by simp)
 refine Zbgf _ _ ⟨_,Zcw _ _ _,?_⟩
 rw [if_pos (by simp [inR];omega)]
 simpa [Zck] using b
theorem Zbkj (m:Int) (hm:M16 m):∀ k:Nat,k≤4→∀ out:List Int,out.length≤k→Zjt out m k=some (.own 0,[.arr Zv 1 true ((out++Zgh m k (4 - k)).map ic)]):=by
 refine down _ ?_ ?_
 ·intro out _
  refine Z5c _ _ _ _ ?_
  rw [if_neg (by omega)];simp [Zgh]
 ·intro k hk ih out ho
  have wk':w ((k:Int)+1)=(k:Int)+1:=wrap64 (by omega) (by omega)
  refine Z5c _ _ _ _ ?_
  rw [if_pos (by omega),show 4 - k=(4 - (k+1))+1 by omega,Z6k,wk']
  refine ⟨_,Zfl _ _ _,?_⟩
  rw [if_pos (by simp [inR];omega)]
  refine ⟨by omega,?_⟩
  by_cases e:andI (shrI m k) 1=1
  ·have ih:=ih (out++[(k:Int)]) (by simp;omega)
   rw [if_pos e,if_pos (by simp [Zs,e])]
   exact ⟨by omega,by simpa using ih⟩
  ·have ih:=ih out (by omega)
   rw [if_neg e,if_neg (by simp [Zs,e])]
   simpa using ih
theorem Zbkk {m:Int} (hm:M16 m):Zmg m=some (.own 0,[.arr Zv 1 true ((Zck m).map ic)]):=by
 have b:=Zbkj m hm 0 (by omega) [] (by simp)
 exact Zbic _ _ (by simpa [Zck] using b)
structure Zh4 (n:Nat) (x:Zb) (y:Zg):Prop where
 kind:1≤x.Kind∧x.Kind≤5
 refs:(y.Left=-1∧y.Right=-1)∨((0≤y.Left∧y.Left.toNat<n)∧(y.Right=-1∨(0≤y.Right∧y.Right.toNat<n)))
theorem Zh4.mono {n k:Nat} {x:Zb} {y:Zg} (h:Zh4 n x y) (hk:n≤k):Zh4 k x y:=by
 refine ⟨h.kind,h.refs.imp id fun ⟨⟨a,b⟩,c⟩=>⟨⟨a,by omega⟩,c.imp id fun ⟨d,e⟩=>⟨d,by omega⟩⟩⟩
theorem Z6l {qa:List Atom} {x:Zb} {info:List Zg} {st:List Int} {y:Zg} (hs:StOk info st) (h:Zcb qa x info st=some y):Zh4 info.length x y:=by
 unfold Zcb at h
 split at h
 ·rename_i k1
  split at h
  ·cases h;exact ⟨by omega,.inl ⟨rfl,rfl⟩⟩
  ·cases h
 ·rename_i k1
  split at h
  ·cases h
  ·split at h
   ·rename_i k2
    split at h
    ·rename_i s y' ht
     split at h
     ·cases h
      obtain ⟨_,t2,t3,_⟩:=Ze3 hs (Nat.le_refl 1) ht
      exact ⟨by omega,.inr ⟨⟨t2,t3⟩,.inl rfl⟩⟩
     ·cases h
    ·cases h
   ·rename_i k2
    split at h
    ·rename_i s y' t z ht hu
     split at h
     ·obtain ⟨_,t2,t3,_⟩:=Ze3 hs (by omega:1≤2) ht
      obtain ⟨_,u2,u3,_⟩:=Ze3 hs (by omega:1≤1) hu
      obtain ⟨o,ho,rfl⟩:=Option.map_eq_some_iff.1 h
      have hk:x.Kind=3∨x.Kind=4∨x.Kind=5:=by
       unfold Zb0 at ho
       split at ho
       ·omega
       ·split at ho
        ·omega
        ·split at ho
         ·omega
         ·cases ho
      exact ⟨by omega,.inr ⟨⟨t2,t3⟩,.inr ⟨u2,u3⟩⟩⟩
     ·cases h
    ·cases h
theorem Z6m {qa:List Atom}:∀ {xs:List Zb} {i:Nat} {info:List Zg} {st:List Int} {info':List Zg} {st':List Int},Zbh qa xs i info st=some (info',st') →
  StOk info st→info.length=i→∃ tail,info'=info++tail∧tail.length=xs.length∧∀ (j:Nat) (y:Zg) (x:Zb),tail[j]?=some y→xs[j]?=some x→Zh4 (i+j) x y
 | [],i,info,st,info',st',h,hs,hi=>by
  simp [Zbh] at h
  obtain ⟨rfl,rfl⟩:=h
  exact ⟨[],by simp,rfl,by intro j y x hj;simp at hj⟩
 | x::xs,i,info,st,info',st',h,hs,hi=>by
  rw [Zbh] at h
  split at h
  ·cases h
  ·rename_i y hy
   have hn:=Zkw hs y (st.length - pops y)
   rw [hi] at hn
   obtain ⟨tail,g2,g3,g4⟩:=Z6m h hn (by simp [hi])
   refine ⟨y::tail,by simp [g2],by simp [g3],?_⟩
   intro j y' x' hj hx
   cases j with
   | zero=>simp at hj hx;subst hj;subst hx;have:=Z6l hs hy;rw [hi] at this;exact this
   | succ j=>exact (g4 j y' x' (by simpa using hj) (by simpa using hx)).mono (by omega)
theorem Z6n {n:Int} {qa:List Atom} {steps:List Zb} {info:List Zg} (h:Zbb n qa steps=some info):∀ (j:Nat) (y:Zg) (x:Zb),info[j]?=some y→steps[j]?=some x→Zh4 j x y:=by
 unfold Zbb at h
 split at h
 ·split at h
  ·rename_i info' st hg
   split at h
   ·cases h
    obtain ⟨tail,g2,g3,g4⟩:=Z6m hg (fun s hs=>by cases hs) rfl
    simp at g2
    subst g2
    intro j y x a b
    have:=g4 j y x a b
    simpa using this
   ·cases h
  ·cases h
 ·cases h
def Zgi (xs:List Int):Bool:=xs.all (fun x=>inR x 0 4096)
def Zbn (n:Int) (qa:List Atom) (xs:List Int):Bool:=Zn n qa && decide ((xs.length:Int)=Zr n qa+1) && Zgi xs
theorem Zbkl (q:Zc) (hq:LeQ q) (xs:List Int) (hx:Le xs):∀ i,i≤xs.length→Zla q xs xs xs.length i=some (Bo (Zgi (xs.drop i) && (Zn q.Ze q.Atoms && decide ((xs.length:Int)=Zr q.Ze q.Atoms+1))),[]):=by
 refine down _ ?_ ?_
 ·refine Z3w _ _ _ _ _ _ ?_
  rw [if_neg (by omega)]
  refine ⟨_,Zm5 q hq,?_⟩
  rcases tf (Zn q.Ze q.Atoms) with e | e
  ·rw [e];simp
  ·rw [e,if_pos rfl]
   refine ⟨_,Zgg q hq,?_⟩
   rw [show w (Zr q.Ze q.Atoms+1)=Zr q.Ze q.Atoms+1 from Zn5 _ _]
   simp [Zgi]
 ·intro i hi ih
  have h4:=inc64 (i:=i) (by omega)
  refine Z3w _ _ _ _ _ _ ?_
  rw [if_pos (by omega)]
  refine ⟨by omega,xs[i],by rw [Int.toNat_natCast];exact List.getElem?_eq_getElem hi,_,Zcw _ _ _,?_⟩
  unfold Zgi at ih ⊢
  rw [Ze2 _ hi]
  simp only [Int.natCast_add,Int.cast_ofNat_Int] at ih
  rcases tf (inR xs[i] 0 4096) with e | e
  ·rw [e];simp
  ·rw [e,if_pos rfl,show w ((i:Int)+1)=(i:Int)+1 from h4,ih];simp
theorem Z6o (q:Zc) (hq:LeQ q) (xs:List Int) (hx:Le xs):Zg9 q xs=some (Bo (Zbn q.Ze q.Atoms xs),[]):=by
 have b:=Zbkl q hq xs hx 0 (Nat.zero_le _)
 refine Zbgd _ _ _ (Eq.trans b ?_)
 rw [List.drop_zero,Zbn,Bool.and_comm]
theorem Zbkm (xs:List Int) (hx:Le xs):∀ i,i≤xs.length→Zma xs i=some (Bo (Zgi (xs.drop i)),[]):=by
 refine down _ ?_ ?_
 ·refine Z45 _ _ _ ?_
  rw [if_neg (by omega)];simp [Zgi]
 ·intro i hi ih
  have h4:=inc64 (i:=i) (by omega)
  refine Z45 _ _ _ ?_
  rw [if_pos (by omega)]
  refine ⟨by omega,xs[i],by rw [Int.toNat_natCast];exact List.getElem?_eq_getElem hi,_,Zfl _ _ _,?_⟩
  unfold Zgi at ih ⊢
  rw [Ze2 _ hi]
  simp only [Int.natCast_add,Int.cast_ofNat_Int] at ih
  rcases tf (inR xs[i] 0 4096) with e | e
  ·rw [e];simp
  ·rw [e,if_pos rfl,show w ((i:Int)+1)=(i:Int)+1 from h4,ih];simp
theorem Z6p (q:Zc) (hq:LeQ q) (xs:List Int) (hx:Le xs):Zhw q xs=some (Bo (Zbn q.Ze q.Atoms xs),[]):=by
 have b:=Zbkm xs hx 0 (Nat.zero_le _)
 refine Zbh4 _ _ _ ⟨_,Zp7 q hq,?_⟩
 unfold Zbn
 rcases tf (Zn q.Ze q.Atoms) with e | e
 ·rw [e];simp
 rw [e,if_pos rfl]
 refine ⟨_,Zh2 q hq,?_⟩
 rw [show w (Zr q.Ze q.Atoms+1)=Zr q.Ze q.Atoms+1 from Zn5 _ _]
 by_cases e2:(xs.length:Int)=Zr q.Ze q.Atoms+1
 ·rw [if_pos e2,decide_eq_true e2]
  refine Eq.trans b ?_
  simp
 ·rw [if_neg e2,decide_eq_false e2];simp
def szAt (sizes:List Int) (m:Int):Int:=(sizes[m.toNat]?).getD 0
def Zbw (info:List Zg) (i:Int):Int:=match info[i.toNat]? with | some y=>y.Mask | none=>0
def Zbx (m:Zd) (info:List Zg) (sizes:List Int) (x:Zb) (y:Zg):Int :=
 Z6 (mOp m x.Kind) (if y.Left<0 then szAt sizes y.Mask else szAt sizes (Zbw info y.Left)) (if y.Right<0 then 0 else szAt sizes (Zbw info y.Right)) (szAt sizes y.Mask)
def Zb8 (m:Zd) (info:List Zg) (sizes:List Int):List Zb→List Zg→List Int
 | x::xs,y::ys=>Zbx m info sizes x y::Zb8 m info sizes xs ys
 | _,_=>[]
theorem Z6q (m:Zd) (info:List Zg) (sizes:List Int) {xs:List Zb} {ys:List Zg} {i:Nat} (hx:i<xs.length) (hy:i<ys.length) :
  Zb8 m info sizes (xs.drop i) (ys.drop i)=Zbx m info sizes xs[i] ys[i]::Zb8 m info sizes (xs.drop (i+1)) (ys.drop (i+1)):=by
 rw [List.drop_eq_getElem_cons hx,List.drop_eq_getElem_cons hy,Zb8]
theorem Zkg {qa:List Atom} {n:Int} {sizes:List Int} (hs:Zbn n qa sizes=true) {y:Zg} (hm:Zgt qa.length y):sizes[y.Mask.toNat]?=some (szAt sizes y.Mask):=by
 simp only [Zbn,Bool.and_eq_true,decide_eq_true_eq] at hs
 have hf:=Zeb hs.1.1
 have hlt:y.Mask.toNat<sizes.length:=by have:=hm.1;have:=hm.2;omega
 simp [szAt,List.getElem?_eq_getElem hlt]
theorem Zqh {info:List Zg} {i:Int} {n:Nat} (h:0≤i∧i.toNat<n) (hn:n≤info.length):∃ y,info[i.toNat]?=some y∧y∈info∧Zbw info i=y.Mask:=by
 have hlt:i.toNat<info.length:=by omega
 exact ⟨info[i.toNat],List.getElem?_eq_getElem hlt,List.getElem_mem hlt,by simp [Zbw,List.getElem?_eq_getElem hlt]⟩
theorem Zbkn {m:Zd} (hm:LeM m) {n:Int} {qa:List Atom} {steps:List Zb} {info:List Zg} {sizes:List Int} (hi:Zbb n qa steps=some info) (hs:Zbn n qa sizes=true) {i:Nat} (h:i<info.length) (h':i<steps.length) :
  Zpx m steps[i].Kind info i sizes=some (I (Zbx m info sizes steps[i] info[i]),[]):=by
 obtain ⟨p1,_⟩:=Zya hi
 have ok:=Z6n hi i info[i] steps[i] (List.getElem?_eq_getElem h) (List.getElem?_eq_getElem h')
 have s0:=Zkg hs (p1 _ (List.getElem_mem h))
 have hm0:=(p1 _ (List.getElem_mem h)).1
 refine Zbiv _ _ _ _ _ _ ⟨by omega,info[i],by rw [Int.toNat_natCast];exact List.getElem?_eq_getElem h,_,Zkf m _,?_⟩
 have hl:=hm.op steps[i].Kind
 unfold Zbx
 rcases ok.refs with ⟨a,b⟩ | ⟨a,b⟩
 ·have c1:info[i].Left<0:=by omega
  have c2:info[i].Right<0:=by omega
  simp only [if_pos c1,if_pos c2]
  exact ⟨hm0,_,s0,_,Zd9 _ hl _ _ _,rfl⟩
 ·obtain ⟨y1,y2,y3,y4⟩:=Zqh a (by omega:i≤info.length)
  have s1:=Zkg hs (p1 _ y3)
  have hm1:=(p1 _ y3).1
  have c1:¬ info[i].Left<0:=by omega
  simp only [if_neg c1,y4]
  rcases b with b | b
  ·have c2:info[i].Right<0:=by omega
   simp only [if_pos c2]
   exact ⟨a.1,y1,y2,hm1,_,s1,hm0,_,s0,_,Zd9 _ hl _ _ _,rfl⟩
  ·obtain ⟨z1,z2,z3,z4⟩:=Zqh b (by omega:i≤info.length)
   have s2:=Zkg hs (p1 _ z3)
   have hm2:=(p1 _ z3).1
   have c2:¬ info[i].Right<0:=by omega
   simp only [if_neg c2,z4]
   exact ⟨a.1,y1,y2,hm1,_,s1,b.1,z1,z2,hm2,_,s2,hm0,_,s0,_,Zd9 _ hl _ _ _,rfl⟩
theorem Zbko {m:Zd} (hm:LeM m) {n:Int} {qa:List Atom} {p:Plan} {info:List Zg} {sizes:List Int} (hi:Zbb n qa p.Steps=some info) (hs:Zbn n qa sizes=true):∀ i,i≤info.length→∀ out:List Int,out.length=i →
  Zmp m p out info sizes i=some (.own 0,[.arr Zv 1 true ((out++Zb8 m info sizes (p.Steps.drop i) (info.drop i)).map ic)]):=by
 obtain ⟨l1,l2,l3,l4⟩:=Zgs hi
 refine down _ ?_ ?_
 ·intro out _
  refine Z5l _ _ _ _ _ _ _ ?_
  rw [if_neg (by omega),List.drop_length]
  cases p.Steps.drop info.length <;> simp [Zb8]
 ·intro i h ih out ho
  have h4:=inc64 (i:=i) (by omega)
  have h':i<p.Steps.length:=by omega
  refine Z5l _ _ _ _ _ _ _ ?_
  rw [if_pos (by omega)]
  refine ⟨by omega,p.Steps[i],by rw [Int.toNat_natCast];exact List.getElem?_eq_getElem h',_,Zbkn hm hi hs h h',by omega,?_⟩
  have ih:=ih (out++[Zbx m info sizes p.Steps[i] info[i]]) (by simp [ho])
  rw [Z6q m info sizes h' h,show w ((i:Int)+1)=(i:Int)+1 from h4]
  simpa using ih
def Zcs (m:Zd) (n:Int) (qa:List Atom) (steps:List Zb) (sizes:List Int):List Int:=match Zbb n qa steps with
 | some info=>if Zbn n qa sizes=true then Zb8 m info sizes steps info else []
 | none=>[]
theorem Zbkp (m:Zd) (hm:LeM m) (q:Zc) (hq:LeQ q) (p:Plan) (sizes:List Int) (hs:Le sizes):Zpy m q p sizes=some (.own 0,[.arr Zv 1 true ((Zcs m q.Ze q.Atoms p.Steps sizes).map ic)]):=by
 have q1:=Z50 q p hq
 refine Zbiw _ _ _ _ _ ?_
 unfold Zcs
 cases hi:Zbb q.Ze q.Atoms p.Steps with
 | none=>rw [hi] at q1;exact ⟨[],false,q1,by rw [if_neg (by simp)]⟩
 | some info =>
  rw [hi] at q1
  refine ⟨info,true,q1,?_⟩
  rw [if_pos rfl]
  refine ⟨_,Z6p q hq sizes hs,?_⟩
  simp only
  rcases tf (Zbn q.Ze q.Atoms sizes) with e | e
  ·rw [e,if_neg (by simp),if_neg (by simp)]
  ·rw [e,if_pos rfl,if_pos rfl]
   have b:=Zbko hm hi e 0 (Nat.zero_le _) [] rfl
   simpa using b
theorem Z6r (m:Zd):Zel m=some (.bsl 1 5,[.box (m.c.map .t),.box [.ptr 0 0,.ptr 0 6,.ptr 0 12,.ptr 0 18,.ptr 0 24]]):=Z3h _ _ rfl
theorem kinds {k:Int} (h:1≤k∧k≤5):k=1∨k=2∨k=3∨k=4∨k=5:=by omega
theorem j_SC (m:Zd) (hm:LeM m) (info:List Zg) (out:List Int) (ho:out.length≤100) (x:Zb) (hk:1≤x.Kind∧x.Kind≤5) (sizes:List Int) (i:Nat) (y:Zg) (hy:info[i]?=some y) (hy0:0≤y.Mask) (hs:sizes[y.Mask.toNat]?=some (szAt sizes y.Mask)) (l r:Int) (x1:List Zb) (x2 x3:Int) (res:AV×List Blk)
  (h:Zbe m info (out++[Z6 (mOp m x.Kind) l r (szAt sizes y.Mask)]) sizes x1 x2 (w (x3+1))=some res):Ziy m info out x sizes i l r x1 x2 x3=some res:=by
 refine Zbgj _ _ _ _ _ _ _ _ _ _ _ _ ⟨Z6r m,?_⟩
 have ho':out.length+1≤68719476736:=by omega
 obtain ⟨m1,m2,m3,m4,m5⟩:=hm
 have hi:info[((i:Nat):Int).toNat]?=some y:=by rw [Int.toNat_natCast];exact hy
 have hi0:(0:Int)≤(i:Int):=by omega
 rcases kinds hk with e | e | e | e | e <;> rw [e] at h ⊢
 ·rw [if_pos (by decide)];exact ⟨hi0,y,hi,hy0,_,hs,_,Zev _ m1 _ _ _,ho',h⟩
 ·rw [if_neg (by decide),if_pos (by decide)];exact ⟨hi0,y,hi,hy0,_,hs,_,Zev _ m2 _ _ _,ho',h⟩
 ·rw [if_neg (by decide),if_neg (by decide),if_pos (by decide)];exact ⟨hi0,y,hi,hy0,_,hs,_,Zev _ m3 _ _ _,ho',h⟩
 ·rw [if_neg (by decide),if_neg (by decide),if_neg (by decide),if_pos (by decide)];exact ⟨hi0,y,hi,hy0,_,hs,_,Zev _ m4 _ _ _,ho',h⟩
 ·rw [if_neg (by decide),if_neg (by decide),if_neg (by decide),if_neg (by decide),if_pos (by decide)];exact ⟨hi0,y,hi,hy0,_,hs,_,Zev _ m5 _ _ _,ho',h⟩
theorem j_SCa (m:Zd) (hm:LeM m) (info:List Zg) (out:List Int) (ho:out.length≤100) (x:Zb) (hk:1≤x.Kind∧x.Kind≤5) (sizes:List Int) (i:Nat) (y:Zg) (hy:info[i]?=some y) (hy0:0≤y.Mask) (hs:sizes[y.Mask.toNat]?=some (szAt sizes y.Mask)) (l r:Int) (x1:List Zb) (x2 x3:Int) (f:Bool) (res:AV×List Blk)
  (h:Zbe m info (out++[Z6 (mOp m x.Kind) l r (szAt sizes y.Mask)]) sizes x1 x2 (w (x3+1))=some res):Ziz m info out x sizes i l r x1 x2 x3 f=some res:=by
 refine Zbgk _ _ _ _ _ _ _ _ _ _ _ _ _ ⟨Z6r m,?_⟩
 have ho':out.length+1≤68719476736:=by omega
 obtain ⟨m1,m2,m3,m4,m5⟩:=hm
 have hi:info[((i:Nat):Int).toNat]?=some y:=by rw [Int.toNat_natCast];exact hy
 have hi0:(0:Int)≤(i:Int):=by omega
 rcases kinds hk with e | e | e | e | e <;> rw [e] at h ⊢
 ·rw [if_pos (by decide)];exact ⟨hi0,y,hi,hy0,_,hs,_,Zev _ m1 _ _ _,ho',h⟩
 ·rw [if_neg (by decide),if_pos (by decide)];exact ⟨hi0,y,hi,hy0,_,hs,_,Zev _ m2 _ _ _,ho',h⟩
 ·rw [if_neg (by decide),if_neg (by decide),if_pos (by decide)];exact ⟨hi0,y,hi,hy0,_,hs,_,Zev _ m3 _ _ _,ho',h⟩
 ·rw [if_neg (by decide),if_neg (by decide),if_neg (by decide),if_pos (by decide)];exact ⟨hi0,y,hi,hy0,_,hs,_,Zev _ m4 _ _ _,ho',h⟩
 ·rw [if_neg (by decide),if_neg (by decide),if_neg (by decide),if_neg (by decide),if_pos (by decide)];exact ⟨hi0,y,hi,hy0,_,hs,_,Zev _ m5 _ _ _,ho',h⟩
theorem Zbkq {m:Zd} (hm:LeM m) {n:Int} {qa:List Atom} {steps:List Zb} {info:List Zg} {sizes:List Int} (hi:Zbb n qa steps=some info) (hs:Zbn n qa sizes=true):∀ i,i≤steps.length→∀ out:List Int,out.length=i →
  Zbe m info out sizes steps steps.length i=some (.own 0,[.arr Zv 1 true ((out++Zb8 m info sizes (steps.drop i) (info.drop i)).map ic)]):=by
 obtain ⟨l1,l2,l3,l4⟩:=Zgs hi
 obtain ⟨p1,_⟩:=Zya hi
 refine down _ ?_ ?_
 ·intro out _
  refine Z3z _ _ _ _ _ _ _ _ ?_
  rw [if_neg (by omega),List.drop_length]
  simp [Zb8]
 ·intro i h' ih out ho
  have h4:=inc64 (i:=i) (by omega)
  have h:i<info.length:=by omega
  have ok:=Z6n hi i info[i] steps[i] (List.getElem?_eq_getElem h) (List.getElem?_eq_getElem h')
  have s0:=Zkg hs (p1 _ (List.getElem_mem h))
  have hm0:=(p1 _ (List.getElem_mem h)).1
  have ih:=ih (out++[Zbx m info sizes steps[i] info[i]]) (by simp [ho])
  simp only [Int.natCast_add,Int.cast_ofNat_Int,List.append_assoc,List.singleton_append] at ih
  rw [← Z6q m info sizes h' h,← show w ((i:Int)+1)=(i:Int)+1 from h4] at ih
  unfold Zbx at ih
  refine Z3z _ _ _ _ _ _ _ _ ?_
  rw [if_pos (by omega)]
  refine ⟨by omega,steps[i],by rw [Int.toNat_natCast];exact List.getElem?_eq_getElem h',info[i],by rw [Int.toNat_natCast];exact List.getElem?_eq_getElem h,hm0,_,s0,?_⟩
  rcases ok.refs with ⟨a,b⟩ | ⟨a,b⟩
  ·have c1:info[i].Left<0:=by omega
   have c2:info[i].Right<0:=by omega
   have d1:¬ 0≤info[i].Left:=by omega
   have d2:¬ 0≤info[i].Right:=by omega
   simp only [if_pos c1,if_pos c2] at ih
   simp only [if_neg d1,if_neg d2]
   exact j_SCa m hm info out (by omega) _ ok.kind sizes i info[i] (List.getElem?_eq_getElem h) hm0 s0 _ _ _ _ _ _ _ ih
  ·obtain ⟨y1,y2,y3,y4⟩:=Zqh a (by omega:i≤info.length)
   have s1:=Zkg hs (p1 _ y3)
   have hm1:=(p1 _ y3).1
   have c1:¬ info[i].Left<0:=by omega
   simp only [if_neg c1,y4] at ih
   rw [if_pos a.1]
   refine ⟨y1,y2,hm1,_,s1,?_⟩
   rcases b with b | b
   ·have c2:info[i].Right<0:=by omega
    have d2:¬ 0≤info[i].Right:=by omega
    simp only [if_pos c2] at ih
    rw [if_neg d2]
    exact j_SCa m hm info out (by omega) _ ok.kind sizes i info[i] (List.getElem?_eq_getElem h) hm0 s0 _ _ _ _ _ _ _ ih
   ·obtain ⟨z1,z2,z3,z4⟩:=Zqh b (by omega:i≤info.length)
    have s2:=Zkg hs (p1 _ z3)
    have hm2:=(p1 _ z3).1
    have c2:¬ info[i].Right<0:=by omega
    simp only [if_neg c2,z4] at ih
    rw [if_pos b.1]
    refine ⟨z1,z2,hm2,_,s2,?_⟩
    exact j_SC m hm info out (by omega) _ ok.kind sizes i info[i] (List.getElem?_eq_getElem h) hm0 s0 _ _ _ _ _ _ ih
theorem Zwr {m:Zd} {info:List Zg} {sizes:List Int}:∀ {xs:List Zb} {ys:List Zg},xs.length=ys.length→(Zb8 m info sizes xs ys).length=xs.length
 | [],[],_=>rfl
 | [],_::_,h=>by simp at h
 | _::_,[],h=>by simp at h
 | x::xs,y::ys,h=>by rw [Zb8,List.length_cons,Zwr (by simpa using h)];rfl
def Zed (n:Int) (qa:List Atom) (steps:List Zb) (sizes:List Int):Bool:=(Zbb n qa steps).isSome && Zbn n qa sizes
theorem Zqi {m:Zd} {n:Int} {qa:List Atom} {steps:List Zb} {sizes:List Int}:Zcs m n qa steps sizes≠[]↔Zed n qa steps sizes=true:=by
 unfold Zcs Zed
 cases hi:Zbb n qa steps with
 | none=>simp
 | some info =>
  obtain ⟨l1,l2,l3,l4⟩:=Zgs hi
  rcases tf (Zbn n qa sizes) with e | e
  ·simp [e]
  ·have:=Zwr (m:=m) (info:=info) (sizes:=sizes) (xs:=steps) (ys:=info) l2.symm
   simp only [e,if_true,Option.isSome_some,Bool.and_self,iff_true]
   intro hc
   rw [hc] at this
   simp at this
   omega
theorem Zbkr (m:Zd) (hm:LeM m) (q:Zc) (hq:LeQ q) (p:Plan) (sizes:List Int) (hs:Le sizes) :
  Zha m q p sizes=if Zed q.Ze q.Atoms p.Steps sizes=true then some (.own 0,[.arr Zv 1 true ((Zcs m q.Ze q.Atoms p.Steps sizes).map ic)]) else some (.t .nil,[]):=by
 have q1:=Z51 q p hq
 unfold Zcs Zed
 cases hi:Zbb q.Ze q.Atoms p.Steps with
 | none=>rw [hi] at q1;simp only [Option.isSome_none,Bool.false_and,Bool.false_eq_true,if_false];exact Zwb _ _ _ _ _ (.inl ⟨q1,rfl⟩)
 | some info =>
  rw [hi] at q1
  have hv:=Z6o q hq sizes hs
  rcases tf (Zbn q.Ze q.Atoms sizes) with e | e
  ·simp only [e,Option.isSome_some,Bool.and_false,Bool.false_eq_true,if_false]
   exact Zwb _ _ _ _ _ (.inr ⟨info,q1,false,by rw [hv,e],by rw [if_neg (by simp)]⟩)
  ·simp only [e,Option.isSome_some,Bool.and_self,if_true]
   refine Zwb _ _ _ _ _ (.inr ⟨info,q1,true,by rw [hv,e],?_⟩)
   rw [if_pos rfl]
   have b:=Zbkq hm hi e 0 (Nat.zero_le _) [] rfl
   simpa using b
def sumW (xs:List Int) (n:Int):Int:=xs.foldl (fun a b=>w (a+b)) n
theorem l_sum (xs:List Int) (hx:Le xs):∀ i,i≤xs.length→∀ n,Zlh n xs xs.length i=some (I (sumW (xs.drop i) n),[]):=by
 refine down _ ?_ ?_
 ·intro n
  refine Z30 _ _ _ _ _ ?_
  simp [sumW]
 ·intro i hi ih n
  have h4:=inc64 (i:=i) (by omega)
  refine Z30 _ _ _ _ _ ?_
  simp only [Int.natCast_add,Int.cast_ofNat_Int] at ih
  rw [List.drop_eq_getElem_cons hi,sumW,List.foldl_cons]
  simp [hi,h4,ih,sumW]
theorem x_sum (xs:List Int) (hx:Le xs):Zlg xs=some (I (sumW xs 0),[]):=Zbgi _ _ (l_sum xs hx 0 (Nat.zero_le _) 0)
theorem Zbks (xs:List Int) (hx:Le xs):∀ i,i≤xs.length→∀ n,Zmq xs n i=some (I (sumW (xs.drop i) n),[]):=by
 refine down _ ?_ ?_
 ·intro n
  refine Z5m _ _ _ _ ?_
  simp [sumW]
 ·intro i hi ih n
  have h4:=inc64 (i:=i) (by omega)
  refine Z5m _ _ _ _ ?_
  simp only [Int.natCast_add,Int.cast_ofNat_Int] at ih
  rw [List.drop_eq_getElem_cons hi,sumW,List.foldl_cons]
  simp [hi,h4,ih,sumW]
def Zb9 (m:Zd) (n:Int) (qa:List Atom) (steps:List Zb) (sizes:List Int):Int:=if Zed n qa steps sizes=true then sumW (Zcs m n qa steps sizes) 0 else -1
theorem Zws {m:Zd} {n:Int} {qa:List Atom} {steps:List Zb} {sizes:List Int}:(Zcs m n qa steps sizes).length≤14:=by
 unfold Zcs
 cases hi:Zbb n qa steps with
 | none=>simp
 | some info =>
  obtain ⟨l1,l2,l3,l4⟩:=Zgs hi
  simp only
  split
  ·rw [Zwr l2.symm];omega
  ·simp
theorem Zwt (m:Zd) (hm:LeM m) (q:Zc) (hq:LeQ q) (p:Plan) (sizes:List Int) (hs:Le sizes):Zfc m q p sizes=some (I (Zb9 m q.Ze q.Atoms p.Steps sizes),[]):=by
 have h1:=Zbkr m hm q hq p sizes hs
 refine Zbgl _ _ _ _ _ ?_
 unfold Zb9
 rcases tf (Zed q.Ze q.Atoms p.Steps sizes) with e | e
 ·rw [e,if_neg (by simp)] at h1
  rw [e]
  exact .inl ⟨h1,by simp⟩
 ·rw [e,if_pos rfl] at h1
  rw [e]
  exact .inr ⟨_,h1,Zqi.2 e,_,x_sum _ (by have:=Zws (m:=m) (n:=q.Ze) (qa:=q.Atoms) (steps:=p.Steps) (sizes:=sizes);omega),by simp⟩
theorem Zbkt (m:Zd) (hm:LeM m) (q:Zc) (hq:LeQ q) (p:Plan) (sizes:List Int) (hs:Le sizes):Zpz m q p sizes=some (I (Zb9 m q.Ze q.Atoms p.Steps sizes),[]):=by
 refine Zbix _ _ _ _ _ ⟨_,Zbkp m hm q hq p sizes hs,?_⟩
 unfold Zb9
 by_cases e:Zcs m q.Ze q.Atoms p.Steps sizes=[]
 ·have e2:Zed q.Ze q.Atoms p.Steps sizes=false:=by
   rcases tf (Zed q.Ze q.Atoms p.Steps sizes) with h | h
   ·exact h
   ·exact absurd e (Zqi.2 h)
  rw [e2,e];simp
 ·have e2:=Zqi.1 e
  have e3:¬ ((Zcs m q.Ze q.Atoms p.Steps sizes).length:Int)=0:=fun hc=>e (List.length_eq_zero_iff.1 (by omega))
  rw [if_neg e3,e2,if_pos rfl]
  exact Zbks _ (by have:=Zws (m:=m) (n:=q.Ze) (qa:=q.Atoms) (steps:=p.Steps) (sizes:=sizes);omega) 0 (Nat.zero_le _) 0
theorem Zbku (l:List Int) (hl:l.length≤4294967296):∀ i,i≤l.length→∀ out:List Int,out.length≤i→Zf1 out l l l.length i=if Zy l=true then some (.own 0,[.arr Zv 1 true ((out++(l.drop i).map Zbi).map ic)]) else some (.t .nil,[]):=by
 refine down _ ?_ ?_
 ·intro out _
  rcases tf (Zy l) with e | e
  ·rw [e]
   refine Zwa _ _ _ _ _ _ ?_
   rw [if_neg (by omega)]
   exact ⟨_,Zp9 l (by omega),by rw [e,if_neg (by simp)]⟩
  ·rw [e,if_pos rfl]
   refine Zwa _ _ _ _ _ _ ?_
   rw [if_neg (by omega)]
   exact ⟨_,Zp9 l (by omega),by rw [e,if_pos rfl];simp⟩
 ·intro i hi ih out ho
  have h4:=inc64 (i:=i) (by omega)
  have ih:=ih (out++[Zbi l[i]]) (by simp;omega)
  simp only [Int.natCast_add,Int.cast_ofNat_Int] at ih
  have go:∀ r,Zf1 (out++[Zbi l[i]]) l l l.length ((i:Int)+1)=some r→Zf1 out l l l.length i=some r:=by
   intro r hr
   refine Zwa _ _ _ _ _ _ ?_
   rw [if_pos (by omega)]
   refine ⟨by omega,l[i],by rw [Int.toNat_natCast];exact List.getElem?_eq_getElem hi,_,Zbj0 _,by omega,?_⟩
   rw [show w ((i:Int)+1)=(i:Int)+1 from h4]
   exact hr
  rw [List.drop_eq_getElem_cons hi,List.map_cons]
  rcases tf (Zy l) with e | e
  ·rw [e] at ih ⊢
   exact go _ (by simpa using ih)
  ·rw [e,if_pos rfl] at ih ⊢
   exact go _ (by simpa using ih)
def Zt (l:List Int):List Int:=l.map Zbi
theorem Z6s (l:List Int) (hl:l.length≤4294967296):Zfb l=if Zy l=true then some (.own 0,[.arr Zv 1 true ((Zt l).map ic)]) else some (.t .nil,[]):=by
 have b:=Zbku l hl 0 (Nat.zero_le _) [] (by simp)
 rcases tf (Zy l) with e | e
 ·rw [e] at b ⊢;exact Z3v _ _ b
 ·rw [e,if_pos rfl] at b ⊢
  exact Z3v _ _ (by simpa [Zt] using b)
theorem Zbkv (l:List Int) (hl:l.length≤4294967296) (h:Zy l=true):∀ i,i≤l.length→∀ out:List Int,out.length≤i→Zl9 out l i=some (.own 0,[.arr Zv 1 true ((out++(l.drop i).map Zbi).map ic)]):=by
 refine down _ ?_ ?_
 ·intro out _
  refine Zwg _ _ _ _ ?_
  rw [if_neg (by omega)]
  simp
 ·intro i hi ih out ho
  have h4:=inc64 (i:=i) (by omega)
  have ih:=ih (out++[Zbi l[i]]) (by simp;omega)
  simp only [Int.natCast_add,Int.cast_ofNat_Int] at ih
  refine Zwg _ _ _ _ ?_
  rw [if_pos (by omega)]
  refine ⟨_,Zp8 l (by omega),?_⟩
  rw [h,if_pos rfl]
  refine ⟨by omega,l[i],by rw [Int.toNat_natCast];exact List.getElem?_eq_getElem hi,_,Zbj1 _,by omega,?_⟩
  rw [show w ((i:Int)+1)=(i:Int)+1 from h4,List.drop_eq_getElem_cons hi,List.map_cons]
  simpa using ih
theorem Zqj (l:List Int) (hl:l.length≤4294967296):Zeq l=some (.own 0,[.arr Zv 1 true ((if Zy l=true then Zt l else []).map ic)]):=by
 rcases tf (Zy l) with e | e
 ·rw [e]
  refine Z44 _ _ (Zwg _ _ _ _ ?_)
  by_cases h:(0:Int)<l.length
  ·rw [if_pos h]
   exact ⟨_,Zp8 l (by omega),by rw [e,if_neg (by simp)];rfl⟩
  ·rw [if_neg h];rfl
 ·have b:=Zbkv l hl e 0 (Nat.zero_le _) [] (by simp)
  rw [e,if_pos rfl]
  exact Z44 _ _ (by simpa [Zt] using b)
theorem Z6t (m:Zd) (hm:LeM m) (q:Zc) (hq:LeQ q) (p:Plan) (l:List Int) (hl:l.length≤4294967296) (h:Zy l=true):Zja m q p l=some (I (Zb9 m q.Ze q.Atoms p.Steps (Zt l)),[]):=by
 have b:=Z6s l hl
 rw [h,if_pos rfl] at b
 exact Zbg5 _ _ _ _ _ (.inl ⟨_,b,_,Zwt m hm q hq p (Zt l) (by simp [Zt];omega),rfl⟩)
theorem Z6u (m:Zd) (hm:LeM m) (q:Zc) (hq:LeQ q) (p:Plan) (l:List Int) (hl:l.length≤4294967296) (h:Zy l=true):Zj1 m q p l=some (I (Zb9 m q.Ze q.Atoms p.Steps (Zt l)),[]):=by
 have b:=Zqj l hl
 rw [h,if_pos rfl] at b
 exact Zbiy _ _ _ _ _ ⟨_,b,_,Zbkt m hm q hq p (Zt l) (by simp [Zt];omega),rfl⟩
abbrev Zcy (q:Zc) (m:Int):List Int:=varL m q.Atoms q.Ze.toNat
theorem Z6v (q:Zc) (hq:LeQ q) (hv:Zn q.Ze q.Atoms=true) (m:Int) (hm:MQ q.Atoms m):Zff q m=some (.own 0,[.arr Zv 1 true ((Zcy q m).map ic)]):=by
 refine Zbgr _ _ _ ⟨_,Z6e q hq m,?_⟩
 have:inR m 0 (Zr q.Ze q.Atoms)=true:=by rw [Zeb hv];simp [inR];have:=hm.1;have:=hm.2;omega
 rw [hv,this,if_pos (by rfl)]
 exact ⟨_,Zm8 q m hq hv,rfl⟩
def Zee (q:Zc) (a b:Int):List Int:=(Zcy q a).filter (has (Zcy q b))
theorem Znc (q:Zc) (hv:Zn q.Ze q.Atoms=true) (m:Int):(Zcy q m).length≤4:=by
 have:=Zig m q.Atoms q.Ze.toNat
 have:=Zda hv
 unfold Zcy;omega
theorem Zbkw (q:Zc) (hq:LeQ q) (hv:Zn q.Ze q.Atoms=true) (a b:Int) (ha:MQ q.Atoms a) (hb:MQ q.Atoms b):Zhc q a b=some (.own 0,[.arr Zv 1 true ((Zee q a b).map ic)]):=by
 have l1:=Znc q hv a
 have l2:=Znc q hv b
 exact Zbgs _ _ _ _ (.inl ⟨_,Z6v q hq hv a ha,.inl ⟨_,Z6v q hq hv b hb,_,x_both _ _ (by omega) (by omega),rfl⟩⟩)
theorem l_l7List (p:Nat→Bool):∀ k:Nat,k≤4→∀ out:List Int,out.length≤k→Zjq out (Zz p) k=some (.own 0,[.arr Zv 1 true ((out++((List.range' k (4 - k)).filter p).map (fun u:Nat=>(u:Int))).map ic)]):=by
 refine down _ ?_ ?_
 ·intro out _
  refine Z48 _ _ _ _ ?_
  rw [if_neg (by omega)];simp
 ·intro k hk ih out ho
  have wk':w ((k:Int)+1)=(k:Int)+1:=wrap64 (by omega) (by omega)
  have hb:=at_bit p (v:=(k:Int)) (by simp [inR];omega)
  rw [Int.toNat_natCast] at hb
  refine Z48 _ _ _ _ ?_
  rw [if_pos (by omega),show 4 - k=(4 - (k+1))+1 by omega,List.range'_succ,List.filter_cons,wk']
  refine ⟨by omega,?_⟩
  rcases tf (p k) with e | e
  ·have ih:=ih out (by omega)
   rw [if_neg (fun hc=>by rw [hb.1 hc] at e;cases e),e,if_neg (by simp)]
   simpa using ih
  ·have ih:=ih (out++[(k:Int)]) (by simp;omega)
   rw [if_pos (hb.2 e),e,if_pos rfl]
   exact ⟨by omega,by simpa using ih⟩
theorem vars4 (q:Zc) (hv:Zn q.Ze q.Atoms=true) (m:Int):((List.range' 0 4).filter (pV m q.Atoms)).map (fun u:Nat=>(u:Int))=Zcy q m:=by
 have hn:=Zda hv
 have e:List.range' 0 4=List.range q.Ze.toNat++List.range' q.Ze.toNat (4 - q.Ze.toNat):=by
  have h:=List.range'_append_1 (s:=0) (m:=q.Ze.toNat) (n:=4 - q.Ze.toNat)
  rw [Nat.zero_add] at h
  rw [List.range_eq_range',h]
  congr 1
  omega
 unfold Zcy varL
 rw [e,List.filter_append]
 have e2:(List.range' q.Ze.toNat (4 - q.Ze.toNat)).filter (pV m q.Atoms)=[]:=by
  rw [List.filter_eq_nil_iff]
  intro u hu hp
  have:=pV_lt hv hp
  rw [List.mem_range'_1] at hu
  omega
 rw [e2];simp
theorem Z6w (q:Zc) (hq:LeQ q) (hv:Zn q.Ze q.Atoms=true) (m:Int) (hm:MQ q.Atoms m):Zmc q m=some (.own 0,[.arr Zv 1 true ((Zcy q m).map ic)]):=by
 have b:=l_l7List (pV m q.Atoms) 0 (by omega) [] (by simp)
 rw [show 4 - 0=4 from rfl,vars4 q hv m] at b
 refine Zbh8 _ _ _ ⟨_,Z6f q hq m,?_⟩
 have:inR m 0 (Zr q.Ze q.Atoms)=true:=by rw [Zeb hv];simp [inR];have:=hm.1;have:=hm.2;omega
 rw [hv,this,if_pos (by rfl)]
 exact ⟨_,Zj8 q m hq (Zgq hv),_,Zbh7 _ _ (by simpa using b),rfl⟩
theorem Zbkx (x y:List Int) (hy:Le y) (hx:x.length≤1000):∀ i,i≤x.length→Zjs ((x.take i).filter (has y)) x y i=some (.own 0,[.arr Zv 1 true ((x.filter (has y)).map ic)]):=by
 refine down _ ?_ ?_
 ·refine Z49 _ _ _ _ _ ?_
  rw [if_neg (by omega)];simp
 ·intro i hi ih
  have h4:=inc64 (i:=i) (by omega)
  have e4:((x.take i).filter (has y)).length+1≤68719476736:=by
   have:=List.length_filter_le (has y) (x.take i)
   simp at this
   omega
  rw [Zrq _ hi] at ih
  refine Z49 _ _ _ _ _ ?_
  rw [if_pos (by omega)]
  refine ⟨by omega,x[i],by rw [Int.toNat_natCast];exact List.getElem?_eq_getElem hi,_,Zwl y x[i] hy,?_⟩
  rw [show w ((i:Int)+1)=(i:Int)+1 from h4]
  rcases tf (has y x[i]) with e | e
  ·rw [e,if_neg (by simp)];rw [e] at ih;simpa using ih
  ·rw [e,if_pos rfl];rw [e] at ih;exact ⟨e4,by simpa using ih⟩
theorem Zbky (q:Zc) (hq:LeQ q) (hv:Zn q.Ze q.Atoms=true) (a b:Int) (ha:MQ q.Atoms a) (hb:MQ q.Atoms b):Zjr q a b=some (.own 0,[.arr Zv 1 true ((Zee q a b).map ic)]):=by
 have l1:=Znc q hv a
 have l2:=Znc q hv b
 have c:=Zbkx (Zcy q a) (Zcy q b) (by omega) (by omega) 0 (Nat.zero_le _)
 exact Zbh9 _ _ _ _ ⟨_,Z6w q hq hv a ha,_,Z6w q hq hv b hb,by simpa [Zee] using c⟩
abbrev B4:=Bool×Bool×Bool×Bool
structure Ed where
 a:Bool
 b:Bool
 c:Bool
 d:Bool
 e:Bool
 f:Bool
def nearB (g:Ed) (x:B4):B4:=match x with
 | (x0,x1,x2,x3)=>(!x0 && ((x1 && g.a) || (x2 && g.b) || (x3 && g.c)),!x1 && ((x0 && g.a) || (x2 && g.d) || (x3 && g.e)),!x2 && ((x0 && g.b) || (x1 && g.d) || (x3 && g.f)),!x3 && ((x0 && g.c) || (x1 && g.e) || (x2 && g.f)))
def orB (x y:B4):B4:=match x,y with
 | (x0,x1,x2,x3),(y0,y1,y2,y3)=>(x0 || y0,x1 || y1,x2 || y2,x3 || y3)
def andB (x y:B4):B4:=match x,y with
 | (x0,x1,x2,x3),(y0,y1,y2,y3)=>(x0 && y0,x1 && y1,x2 && y2,x3 && y3)
def subB (x y:B4):B4:=match x,y with
 | (x0,x1,x2,x3),(y0,y1,y2,y3)=>(x0 && !y0,x1 && !y1,x2 && !y2,x3 && !y3)
def stepB (g:Ed) (p x:B4):B4:=orB x (andB (nearB g x) p)
def iterB (g:Ed) (p:B4):Nat→B4→B4
 | 0,x=>x
 | n+1,x=>iterB g p n (stepB g p x)
def lowB:B4→B4
 | (p0,p1,p2,p3)=>(p0,!p0 && p1,!p0 && !p1 && p2,!p0 && !p1 && !p2 && p3)
def Zb3 (g:Ed) (n:Nat) (p:B4):Bool:=iterB g p n (lowB p) == p
def edgeB (g:Ed) (x y:B4):Bool:=match x,y with
 | (x0,x1,x2,x3),(y0,y1,y2,y3)=>(x0 && ((y1 && g.a) || (y2 && g.b) || (y3 && g.c))) || (x1 && ((y0 && g.a) || (y2 && g.d) || (y3 && g.e))) || (x2 && ((y0 && g.b) || (y1 && g.d) || (y3 && g.f))) || (x3 && ((y0 && g.c) || (y1 && g.e) || (y2 && g.f)))
def toI (x:B4):Int:=match x with | (a,b,c,d)=>bit4 a b c d
def inN (n:Nat) (p:B4):Bool:=match p with | (p0,p1,p2,p3)=>(decide (1≤n) || !p0) && (decide (2≤n) || !p1) && (decide (3≤n) || !p2) && (decide (4≤n) || !p3)
def oneB (p:B4):Bool:=p == (true,false,false,false) || p == (false,true,false,false) || p == (false,false,true,false) || p == (false,false,false,true)
def okF1 (g:Ed) (n:Nat) (p:B4):Bool:=!inN n p || !Zb3 g n p || oneB p || p == (false,false,false,false) ||
 (andB p (true,false,false,false) != (false,false,false,false) && Zb3 g n (subB p (true,false,false,false))) || (andB p (false,true,false,false) != (false,false,false,false) && Zb3 g n (subB p (false,true,false,false))) ||
 (andB p (false,false,true,false) != (false,false,false,false) && Zb3 g n (subB p (false,false,true,false))) || (andB p (false,false,false,true) != (false,false,false,false) && Zb3 g n (subB p (false,false,false,true)))
def okF2 (g:Ed) (n:Nat) (p x:B4):Bool:=andB x p != x || x == (false,false,false,false) || x == p || edgeB g x (subB p x) || !inN n p || !Zb3 g n p
set_option maxRecDepth 100000 in
theorem f1:∀ a b c d e f:Bool,∀ p0 p1 p2 p3:Bool,okF1 ⟨a,b,c,d,e,f⟩ 1 (p0,p1,p2,p3)=true∧okF1 ⟨a,b,c,d,e,f⟩ 2 (p0,p1,p2,p3)=true∧okF1 ⟨a,b,c,d,e,f⟩ 3 (p0,p1,p2,p3)=true∧okF1 ⟨a,b,c,d,e,f⟩ 4 (p0,p1,p2,p3)=true:=by decide +kernel
set_option maxRecDepth 100000 in
theorem f2:∀ a b c d e f:Bool,∀ p0 p1 p2 p3 x0 x1 x2 x3:Bool,okF2 ⟨a,b,c,d,e,f⟩ 1 (p0,p1,p2,p3) (x0,x1,x2,x3)=true∧okF2 ⟨a,b,c,d,e,f⟩ 2 (p0,p1,p2,p3) (x0,x1,x2,x3)=true∧okF2 ⟨a,b,c,d,e,f⟩ 3 (p0,p1,p2,p3) (x0,x1,x2,x3)=true∧okF2 ⟨a,b,c,d,e,f⟩ 4 (p0,p1,p2,p3) (x0,x1,x2,x3)=true:=by decide +kernel
def ofI (m:Int):B4:=(Zs m 0,Zs m 1,Zs m 2,Zs m 3)
set_option maxRecDepth 100000 in
theorem to_of:∀ a:Fin 16,toI (ofI (a.1:Int))=(a.1:Int):=by decide
theorem Zwu {m:Int} (h:M16 m):toI (ofI m)=m:=by obtain ⟨a,rfl⟩:=m16 h;exact to_of a
theorem of_to:∀ a b c d:Bool,ofI (bit4 a b c d)=(a,b,c,d)∧M16 (bit4 a b c d):=by decide
theorem Znd (x:B4):ofI (toI x)=x:=(of_to x.1 x.2.1 x.2.2.1 x.2.2.2).1
theorem toI_16 (x:B4):M16 (toI x):=(of_to x.1 x.2.1 x.2.2.1 x.2.2.2).2
theorem Zwv {x y:B4} (h:toI x=toI y):x=y:=by rw [← Znd x,h,Znd]
set_option maxRecDepth 100000 in
theorem Z6x:∀ a b c d e f g h:Bool,orI (bit4 a b c d) (bit4 e f g h)=bit4 (a || e) (b || f) (c || g) (d || h)∧andI (bit4 a b c d) (bit4 e f g h)=bit4 (a && e) (b && f) (c && g) (d && h):=by decide
theorem toI_or (x y:B4):orI (toI x) (toI y)=toI (orB x y):=(Z6x x.1 x.2.1 x.2.2.1 x.2.2.2 y.1 y.2.1 y.2.2.1 y.2.2.2).1
theorem Zqk (x y:B4):andI (toI x) (toI y)=toI (andB x y):=(Z6x x.1 x.2.1 x.2.2.1 x.2.2.2 y.1 y.2.1 y.2.2.1 y.2.2.2).2
theorem bit_low:∀ a b c d:Bool,andI (bit4 a b c d) (w (0 - bit4 a b c d))=toI (lowB (a,b,c,d)):=by decide
theorem bit_sub:∀ a b c d e f g h:Bool,andB (e,f,g,h) (a,b,c,d)=(e,f,g,h)→bit4 a b c d - bit4 e f g h=toI (subB (a,b,c,d) (e,f,g,h)):=by decide
theorem Z6y {x y:B4} (h:andB y x=y):toI x - toI y=toI (subB x y):=bit_sub x.1 x.2.1 x.2.2.1 x.2.2.2 y.1 y.2.1 y.2.2.1 y.2.2.2 h
theorem shl4:∀ i j:Fin 4,Zs (shlI 1 i.1) j.1=decide (i=j):=by decide
theorem pV_any (qa:List Atom) (h4:qa.length≤4) (m:Int) (u:Nat):pV m qa u=((Zs m 0 && pV (shlI 1 (0:Nat)) qa u) || (Zs m 1 && pV (shlI 1 (1:Nat)) qa u) || (Zs m 2 && pV (shlI 1 (2:Nat)) qa u) || (Zs m 3 && pV (shlI 1 (3:Nat)) qa u)):=by
 have s:∀ i j:Nat,i<4→j<4→Zs (shlI 1 (i:Nat)) j=decide (i=j):=fun i j hi hj=>by
  have:=shl4 ⟨i,hi⟩ ⟨j,hj⟩
  simpa [Fin.ext_iff] using this
 have s00:=s 0 0 (by omega) (by omega)
 have s01:=s 0 1 (by omega) (by omega)
 have s02:=s 0 2 (by omega) (by omega)
 have s03:=s 0 3 (by omega) (by omega)
 have s10:=s 1 0 (by omega) (by omega)
 have s11:=s 1 1 (by omega) (by omega)
 have s12:=s 1 2 (by omega) (by omega)
 have s13:=s 1 3 (by omega) (by omega)
 have s20:=s 2 0 (by omega) (by omega)
 have s21:=s 2 1 (by omega) (by omega)
 have s22:=s 2 2 (by omega) (by omega)
 have s23:=s 2 3 (by omega) (by omega)
 have s30:=s 3 0 (by omega) (by omega)
 have s31:=s 3 1 (by omega) (by omega)
 have s32:=s 3 2 (by omega) (by omega)
 have s33:=s 3 3 (by omega) (by omega)
 simp only [Nat.reduceEqDiff,decide_true,decide_false] at s00 s01 s02 s03 s10 s11 s12 s13 s20 s21 s22 s23 s30 s31 s32 s33
 match qa,h4 with
 | [],_=>simp [pV,hasV]
 | [a],_=>simp only [pV,hasV,s00,s10,s20,s30];cases Zs m 0 <;> cases Zs m 1 <;> cases Zs m 2 <;> cases Zs m 3 <;> simp
 | [a,b],_=>simp only [pV,hasV,s00,s10,s20,s30,s01,s11,s21,s31,Nat.zero_add];cases Zs m 0 <;> cases Zs m 1 <;> cases Zs m 2 <;> cases Zs m 3 <;> simp
 | [a,b,c],_=>simp only [pV,hasV,s00,s10,s20,s30,s01,s11,s21,s31,s02,s12,s22,s32,Nat.zero_add,Nat.reduceAdd];cases Zs m 0 <;> cases Zs m 1 <;> cases Zs m 2 <;> cases Zs m 3 <;> simp [Bool.or_assoc]
 | [a,b,c,d],_=>simp only [pV,hasV,s00,s10,s20,s30,s01,s11,s21,s31,s02,s12,s22,s32,s03,s13,s23,s33,Nat.zero_add,Nat.reduceAdd];cases Zs m 0 <;> cases Zs m 1 <;> cases Zs m 2 <;> cases Zs m 3 <;> simp [Bool.or_assoc]
 | _::_::_::_::_::_,h=>simp at h
def adj (qa:List Atom) (i j:Nat):Bool:=shr qa (shlI 1 i) (shlI 1 j)
theorem Zd2 (qa:List Atom) (i j:Nat):adj qa i j=adj qa j i:=by
 unfold adj shr
 simp only [Bool.and_comm]
def ats (m:Int) (f:Nat→Bool):Bool:=(Zs m 0 && f 0) || (Zs m 1 && f 1) || (Zs m 2 && f 2) || (Zs m 3 && f 3)
theorem Zgj {m:Int} {f:Nat→Bool}:ats m f=true↔∃ i,i<4∧Zs m i=true∧f i=true:=by
 unfold ats
 constructor
 ·intro h
  simp only [Bool.or_eq_true,Bool.and_eq_true] at h
  rcases h with ((h | h) | h) | h
  ·exact ⟨0,by omega,h⟩
  ·exact ⟨1,by omega,h⟩
  ·exact ⟨2,by omega,h⟩
  ·exact ⟨3,by omega,h⟩
 ·rintro ⟨i,hi,h1,h2⟩
  simp only [Bool.or_eq_true,Bool.and_eq_true]
  match i,hi with
  | 0,_=>exact .inl (.inl (.inl ⟨h1,h2⟩))
  | 1,_=>exact .inl (.inl (.inr ⟨h1,h2⟩))
  | 2,_=>exact .inl (.inr ⟨h1,h2⟩)
  | 3,_=>exact .inr ⟨h1,h2⟩
theorem Z6z (qa:List Atom) (h4:qa.length≤4) (x y:Int):shr qa x y=ats x fun i=>ats y fun j=>adj qa i j:=by
 have pv:∀ m u,pV m qa u=ats m fun i=>pV (shlI 1 (i:Nat)) qa u:=fun m u=>pV_any qa h4 m u
 rw [Bool.eq_iff_iff,Zgj]
 unfold shr
 rw [List.any_eq_true]
 constructor
 ·rintro ⟨u,hu,h⟩
  rw [Bool.and_eq_true,pv x u,pv y u,Zgj,Zgj] at h
  obtain ⟨⟨i,i1,i2,i3⟩,⟨j,j1,j2,j3⟩⟩:=h
  refine ⟨i,i1,i2,Zgj.2 ⟨j,j1,j2,?_⟩⟩
  unfold adj shr
  rw [List.any_eq_true]
  exact ⟨u,hu,by rw [Bool.and_eq_true];exact ⟨i3,j3⟩⟩
 ·rintro ⟨i,i1,i2,h⟩
  obtain ⟨j,j1,j2,h⟩:=Zgj.1 h
  unfold adj shr at h
  rw [List.any_eq_true] at h
  obtain ⟨u,hu,h⟩:=h
  rw [Bool.and_eq_true] at h
  refine ⟨u,hu,?_⟩
  rw [Bool.and_eq_true,pv x u,pv y u,Zgj,Zgj]
  exact ⟨⟨i,i1,i2,h.1⟩,⟨j,j1,j2,h.2⟩⟩
def edOf (qa:List Atom):Ed:=⟨adj qa 0 1,adj qa 0 2,adj qa 0 3,adj qa 1 2,adj qa 1 3,adj qa 2 3⟩
theorem Zql {qa:List Atom} (h4:qa.length≤4) {i:Nat} (hi:i<4) (hl:qa.length≤i) (j:Nat):adj qa i j=false:=by
 have:∀ u,pV (shlI 1 (i:Nat)) qa u=false:=by
  intro u
  unfold pV
  have key:∀ (as':List Atom) (k:Nat),k+as'.length≤i→hasV (shlI 1 (i:Nat)) as' k u=false:=by
   intro as'
   induction as' with
   | nil=>intro k _;rfl
   | cons a as' ih =>
    intro k hk
    simp only [List.length_cons] at hk
    have:=shl4 ⟨i,hi⟩ ⟨k,by omega⟩
    simp only [Fin.mk.injEq] at this
    rw [hasV,ih (k+1) (by omega),this,decide_eq_false (by omega)]
    rfl
  exact key qa 0 (by omega)
 unfold adj shr
 rw [List.any_eq_false]
 intro u _
 simp [this u]
theorem shl_in (i:Nat) (hi:i<4) (f:Nat→Bool):ats (shlI 1 (i:Nat)) f=f i:=by
 have s:∀ j:Nat,j<4→Zs (shlI 1 (i:Nat)) j=decide (i=j):=fun j hj=>by
  have:=shl4 ⟨i,hi⟩ ⟨j,hj⟩
  simpa [Fin.ext_iff] using this
 rw [Bool.eq_iff_iff,Zgj]
 constructor
 ·rintro ⟨j,j1,j2,j3⟩
  rw [s j j1] at j2
  have:i=j:=of_decide_eq_true j2
  rw [this];exact j3
 ·intro h
  exact ⟨i,hi,by rw [s i hi];simp,h⟩
theorem near_bit {n:Int} {qa:List Atom} (hv:Zn n qa=true) (x:B4):Zea qa (toI x)=toI (nearB (edOf qa) x):=by
 have h4:=(Zbt hv).2
 obtain ⟨x0,x1,x2,x3⟩:=x
 have hin:=Znd (x0,x1,x2,x3)
 simp only [ofI,Prod.mk.injEq] at hin
 obtain ⟨i0,i1,i2,i3⟩:=hin
 have key:∀ i,i<4→Zb7 qa (toI (x0,x1,x2,x3)) i=(!Zs (toI (x0,x1,x2,x3)) i && ((x0 && adj qa i 0) || (x1 && adj qa i 1) || (x2 && adj qa i 2) || (x3 && adj qa i 3))):=by
  intro i hi
  unfold Zb7
  rw [Z6z qa h4,shl_in i hi]
  unfold ats
  rw [i0,i1,i2,i3]
  by_cases hl:i<qa.length
  ·simp [hl]
  ·have a0:=Zql h4 hi (by omega) 0
   have a1:=Zql h4 hi (by omega) 1
   have a2:=Zql h4 hi (by omega) 2
   have a3:=Zql h4 hi (by omega) 3
   simp [hl,a0,a1,a2,a3]
 unfold Zea Zz
 rw [key 0 (by omega),key 1 (by omega),key 2 (by omega),key 3 (by omega),i0,i1,i2,i3]
 unfold nearB edOf toI
 rw [Zd2 qa 1 0,Zd2 qa 2 0,Zd2 qa 3 0,Zd2 qa 2 1,Zd2 qa 3 1,Zd2 qa 3 2]
 cases x0 <;> cases x1 <;> cases x2 <;> cases x3 <;> simp
theorem step_bit {n:Int} {qa:List Atom} (hv:Zn n qa=true) (p x:B4):Zd0 qa (toI p) (toI x)=toI (stepB (edOf qa) p x):=by
 unfold Zd0 stepB
 rw [near_bit hv,Zqk,toI_or]
theorem Z60 {n:Int} {qa:List Atom} (hv:Zn n qa=true) (p:B4):∀ (k:Nat) (x:B4),Zfn qa (toI p) k (toI x)=toI (iterB (edOf qa) p k x)
 | 0,x=>rfl
 | k+1,x=>by rw [Zfn,iterB,step_bit hv,Z60 hv p k]
theorem Zne {n:Int} {qa:List Atom} (hv:Zn n qa=true) (p:B4):conn qa (toI p)=Zb3 (edOf qa) qa.length p:=by
 unfold conn Zb3
 rw [show andI (toI p) (w (0 - toI p))=toI (lowB p) from bit_low p.1 p.2.1 p.2.2.1 p.2.2.2,Z60 hv,Bool.eq_iff_iff,decide_eq_true_eq,beq_iff_eq]
 exact ⟨Zwv,fun h=>by rw [h]⟩
theorem edge_bit {qa:List Atom} (h4:qa.length≤4) (x y:B4) (hd:andB x y=(false,false,false,false)):shr qa (toI x) (toI y)=edgeB (edOf qa) x y:=by
 obtain ⟨x0,x1,x2,x3⟩:=x
 obtain ⟨y0,y1,y2,y3⟩:=y
 have hx:=Znd (x0,x1,x2,x3)
 have hy:=Znd (y0,y1,y2,y3)
 simp only [ofI,Prod.mk.injEq] at hx hy
 obtain ⟨i0,i1,i2,i3⟩:=hx
 obtain ⟨j0,j1,j2,j3⟩:=hy
 simp only [andB,Prod.mk.injEq] at hd
 rw [Z6z qa h4]
 unfold ats
 rw [i0,i1,i2,i3,j0,j1,j2,j3]
 unfold edgeB edOf
 dsimp only
 rw [Zd2 qa 1 0,Zd2 qa 2 0,Zd2 qa 3 0,Zd2 qa 2 1,Zd2 qa 3 1,Zd2 qa 3 2]
 obtain ⟨h0,h1,h2,h3⟩:=hd
 cases x0 <;> cases y0 <;> simp at h0 <;> cases x1 <;> cases y1 <;> simp at h1 <;> cases x2 <;> cases y2 <;> simp at h2 <;> cases x3 <;> cases y3 <;> simp at h3 <;> simp
theorem Zbkz (a:Int):Zlc a=some (.agg [.own 0],[.arr 194 3 true (([(⟨1,a,0⟩:Zb)]).map Zb.c)]):=Zbgg _ _ rfl
theorem Zbk0 (a:Int):Zmh a=some (.agg [.own 0],[.arr 194 3 true (([(⟨1,a,0⟩:Zb)]).map Zb.c)]):=Zbid _ _ rfl
theorem Zqm (p:Plan) (h:p.Steps.length≤1000):Zfe p=some (.agg [.own 0],[.arr 194 3 true (p.Steps.map Zb.c)]):=Zbgo _ _ ⟨by omega,rfl⟩
def Zbr (a b:List Zb) (k v:Int):List Zb:=a++b++[(⟨k,0,v⟩:Zb)]
def sortS (a:List Zb) (v:Int):List Zb:=a++[(⟨2,0,v⟩:Zb)]
theorem Zkh (a b:Plan) (k v:Int) (ha:a.Steps.length≤1000) (hb:b.Steps.length≤1000):Zem a b k v=some (.agg [.own 0],[.arr 194 3 true ((Zbr a.Steps b.Steps k v).map Zb.c)]) :=
 Zbgp _ _ _ _ _ ⟨_,Zqm a ha,by omega,by omega,rfl⟩
theorem Zgk (a b:Plan) (k v:Int) (ha:a.Steps.length≤1000) (hb:b.Steps.length≤1000):Zdh a b k v=some (.agg [.own 0],[.arr 194 3 true ((Zbr a.Steps b.Steps k v).map Zb.c)]) :=
 Zbif _ _ _ _ _ ⟨by omega,by omega,by omega,rfl⟩
theorem Zbk1 (a:Plan) (v:Int) (ha:a.Steps.length≤1000):Zot a v=some (.agg [.own 0],[.arr 194 3 true ((sortS a.Steps v).map Zb.c)]) :=
 Zbgt _ _ _ ⟨_,Zqm a ha,by omega,rfl⟩
theorem Z61 (a:Plan) (v:Int) (ha:a.Steps.length≤1000):Zjw a v=some (.agg [.own 0],[.arr 194 3 true ((sortS a.Steps v).map Zb.c)]) :=
 Zbii _ _ _ ⟨by omega,by omega,rfl⟩
def Zbs (l:List Za) (mask:Int):Nat→Int
 | 0=>-1
 | k+1=>match l[k]? with
  | none=>Zbs l mask k
  | some e=>if e.Mask=mask then (match l[(Zbs l mask k).toNat]? with
    | some b=>if Zbs l mask k<0 then (k:Int) else if e.Cost<b.Cost then (k:Int) else Zbs l mask k
    | none=>(k:Int)) else Zbs l mask k
theorem Z62 (l:List Za) (mask:Int):∀ k,-1≤Zbs l mask k∧Zbs l mask k<k
 | 0=>by simp [Zbs]
 | k+1=>by
  have ih:=Z62 l mask k
  unfold Zbs
  repeat' split
  all_goals omega
def low (l:List Za) (mask:Int):Int:=Zbs l mask l.length
theorem l_low (l:List Za) (mask:Int) (hl:l.length≤1000):∀ i,i≤l.length→Zga l mask (Zbs l mask i) i=some (I (low l mask),[]):=by
 refine down _ ?_ ?_
 ·refine Z5d _ _ _ _ _ ?_
  rw [if_neg (by omega)];rfl
 ·intro i hi ih
  have h4:=inc64 (i:=i) (by omega)
  have hb:=Z62 l mask i
  refine Z5d _ _ _ _ _ ?_
  rw [if_pos (by omega)]
  refine ⟨by omega,l[i],by rw [Int.toNat_natCast];exact List.getElem?_eq_getElem hi,?_⟩
  rw [show w ((i:Int)+1)=((i+1:Nat):Int) from by rw [show w ((i:Int)+1)=(i:Int)+1 from h4];simp]
  unfold Zbs at ih
  rw [List.getElem?_eq_getElem hi] at ih
  by_cases e:l[i].Mask=mask
  ·rw [if_pos e]
   simp only [if_pos e] at ih
   by_cases e0:Zbs l mask i<0
   ·rw [if_pos e0]
    simp only [if_pos e0] at ih
    split at ih <;> exact ih
   ·rw [if_neg e0]
    have hk:(Zbs l mask i).toNat<l.length:=by omega
    refine ⟨by omega,l[(Zbs l mask i).toNat],List.getElem?_eq_getElem hk,?_⟩
    rw [List.getElem?_eq_getElem hk] at ih
    simp only [if_neg e0] at ih
    by_cases e2:l[i].Cost<l[(Zbs l mask i).toNat].Cost
    ·rw [if_pos e2] at ih ⊢;exact ih
    ·rw [if_neg e2] at ih ⊢;exact ih
  ·rw [if_neg e]
   simp only [if_neg e] at ih
   exact ih
theorem x_low (l:List Za) (mask:Int) (hl:l.length≤1000):Zfj l mask=some (I (low l mask),[]):=Zbie _ _ _ (l_low l mask hl 0 (Nat.zero_le _))
def Zew (mask order:Int):List Za→Nat→Int
 | [],_=>-1
 | e::l,k=>if e.Mask=mask∧e.Order=order then (k:Int) else Zew mask order l (k+1)
theorem l_find (l:List Za) (mask order:Int) (hl:l.length≤1000):∀ i,i≤l.length→Zjv l mask order i=some (I (Zew mask order (l.drop i) i),[]):=by
 refine down _ ?_ ?_
 ·refine Z5e _ _ _ _ _ ?_
  rw [if_neg (by omega)];simp [Zew]
 ·intro i hi ih
  have h4:=inc64 (i:=i) (by omega)
  refine Z5e _ _ _ _ _ ?_
  rw [if_pos (by omega),List.drop_eq_getElem_cons hi]
  refine ⟨by omega,l[i],by rw [Int.toNat_natCast];exact List.getElem?_eq_getElem hi,?_⟩
  rw [show w ((i:Int)+1)=((i+1:Nat):Int) from by rw [show w ((i:Int)+1)=(i:Int)+1 from h4];simp]
  unfold Zew
  by_cases e:l[i].Mask=mask
  ·rw [if_pos e]
   by_cases e2:l[i].Order=order
   ·rw [if_pos e2,if_pos ⟨e,e2⟩]
   ·rw [if_neg e2,if_neg (fun h=>e2 h.2)];exact ih
  ·rw [if_neg e,if_neg (fun h=>e h.1)];exact ih
def find (l:List Za) (mask order:Int):Int:=Zew mask order l 0
theorem Zqn (l:List Za) (mask order:Int) (hl:l.length≤1000):Zju l mask order=some (I (find l mask order),[]):=Zbih _ _ _ _ (l_find l mask order hl 0 (Nat.zero_le _))
abbrev MO:=Int×Int
def Zc7 (qa:List Atom) (x:Zb) (y z:MO):Option Int:=Zb0 qa x ⟨y.1,y.2,0,0⟩ ⟨z.1,z.2,0,0⟩
theorem joinP_eq (qa:List Atom) (x:Zb) (y z:Zg):Zc7 qa x (y.Mask,y.Order) (z.Mask,z.Order)=Zb0 qa x y z:=by
 unfold Zc7 Zb0;rfl
def Zb4 (m:Zd) (sizes:List Int) (qa:List Atom) (x:Zb) (S:List MO):Option (List MO×Int) :=
 if x.Kind=1 then (if inR x.Atom 0 (qa.length - 1)=true∧x.Order=0 then some ((shlI 1 x.Atom,(match qa[x.Atom.toNat]? with | some a=>a.Vars.headD 0 | none=>0))::S,Z6 (mOp m 1) (szAt sizes (shlI 1 x.Atom)) 0 (szAt sizes (shlI 1 x.Atom))) else none)
 else if x.Atom≠0 then none
 else if x.Kind=2 then (match S with
  | y::S=>if vin qa y.1 x.Order=true∧y.2≠x.Order then some ((y.1,x.Order)::S,Z6 (mOp m 2) (szAt sizes y.1) 0 (szAt sizes y.1)) else none
  | []=>none)
 else match S with
  | z::y::S=>if andI y.1 z.1=0∧shr qa y.1 z.1=true then (Zc7 qa x y z).map (fun o=>((orI y.1 z.1,o)::S,Z6 (mOp m x.Kind) (szAt sizes y.1) (szAt sizes z.1) (szAt sizes (orI y.1 z.1)))) else none
  | _=>none
def runS (m:Zd) (sizes:List Int) (qa:List Atom):List Zb→List MO→Int→Option (List MO×Int)
 | [],S,c=>some (S,c)
 | x::xs,S,c=>match Zb4 m sizes qa x S with
  | none=>none
  | some (S',k)=>runS m sizes qa xs S' (w (c+k))
def ordAt (info:List Zg) (i:Int):Int:=match info[i.toNat]? with | some y=>y.Order | none=>0
def vw (info:List Zg) (rs:List Int):List MO:=rs.map fun s=>(Zbw info s,ordAt info s)
theorem top1 {info:List Zg} {s:Int} {rs:List Int}:Zbg (s::rs).reverse info 1=(info[s.toNat]?).map (s,·):=by
 simp [Zbg]
theorem top2 {info:List Zg} {t s:Int} {rs:List Int}:Zbg (t::s::rs).reverse info 2=(info[s.toNat]?).map (s,·):=by
 simp [Zbg]
theorem top0 {info:List Zg}:Zbg [] info 1=none:=by simp [Zbg]
theorem top02 {info:List Zg}:Zbg [] info 2=none:=by simp [Zbg]
theorem top12 {info:List Zg} {s:Int}:Zbg [s] info 2=none:=by simp [Zbg]
theorem Zbk2 (m:Zd) (sizes:List Int) (qa:List Atom) (x:Zb) (info:List Zg) (rs:List Int) (hs:StOk info rs.reverse):match Zcb qa x info rs.reverse with
  | none=>Zb4 m sizes qa x (vw info rs)=none
  | some y=>Zb4 m sizes qa x (vw info rs)=some ((y.Mask,y.Order)::(vw info rs).drop (pops y),Zbx m info sizes x y):=by
 unfold Zcb Zb4
 by_cases k1:x.Kind=1
 ·simp only [if_pos k1]
  by_cases c:inR x.Atom 0 (qa.length - 1)=true∧x.Order=0
  ·simp [if_pos c,pops,Zbx,k1]
   rfl
  ·simp [if_neg c]
 ·simp only [if_neg k1]
  by_cases ka:x.Atom≠0
  ·simp [if_pos ka]
  ·simp only [if_neg ka]
   by_cases k2:x.Kind=2
   ·simp only [if_pos k2]
    cases rs with
    | nil=>simp [vw,top0]
    | cons s rs =>
     obtain ⟨h0,h1⟩:=hs s (by simp)
     have e:info[s.toNat]?=some info[s.toNat]:=List.getElem?_eq_getElem h1
     rw [top1,e]
     simp only [Option.map_some,vw,List.map_cons,Zbw,ordAt,e]
     by_cases c:vin qa info[s.toNat].Mask x.Order=true∧info[s.toNat].Order≠x.Order
     ·have hn:¬ s<0:=by omega
      simp [if_pos c,pops,Zbx,k2,Zbw,e,h0,hn]
     ·simp [if_neg c]
   ·simp only [if_neg k2]
    match rs,hs with
    | [],_=>simp [vw,top02]
    | [s],_=>simp [vw,top12]
    | t::s::rs,hs =>
     obtain ⟨h0,h1⟩:=hs s (by simp)
     obtain ⟨t0,t1⟩:=hs t (by simp)
     have e:info[s.toNat]?=some info[s.toNat]:=List.getElem?_eq_getElem h1
     have et:info[t.toNat]?=some info[t.toNat]:=List.getElem?_eq_getElem t1
     rw [top1,top2,e,et]
     simp only [Option.map_some,vw,List.map_cons,Zbw,ordAt,e,et]
     by_cases c:andI info[s.toNat].Mask info[t.toNat].Mask=0∧shr qa info[s.toNat].Mask info[t.toNat].Mask=true
     ·simp only [if_pos c,joinP_eq]
      cases ho:Zb0 qa x info[s.toNat] info[t.toNat] with
      | none=>simp
      | some o =>
       have hn:¬ s<0:=by omega
       have tn:¬ t<0:=by omega
       simp [pops,Zbx,Zbw,e,et,h0,t0,hn,tn]
     ·simp [if_neg c]
theorem vw_ext {info tail:List Zg} {rs:List Int} (hs:∀ s∈rs,0≤s∧s.toNat<info.length):vw (info++tail) rs=vw info rs:=by
 unfold vw
 refine List.map_congr_left fun s h=>?_
 have:=(hs s h).2
 simp [Zbw,ordAt,List.getElem?_append_left this]
theorem Zbk3 {m:Zd} {sizes:List Int} {info tail:List Zg} {x:Zb} {y:Zg} (h:Zh4 info.length x y):Zbx m (info++tail) sizes x y=Zbx m info sizes x y:=by
 unfold Zbx
 rcases h.refs with ⟨a,b⟩ | ⟨⟨a,a'⟩,b⟩
 ·simp [a,b]
 ·have e1:Zbw (info++tail) y.Left=Zbw info y.Left:=by simp [Zbw,List.getElem?_append_left a']
  rcases b with b | ⟨b,b'⟩
  ·simp [b,e1]
  ·have e2:Zbw (info++tail) y.Right=Zbw info y.Right:=by simp [Zbw,List.getElem?_append_left b']
   simp [e1,e2]
theorem Zww (m:Zd) (sizes:List Int) (qa:List Atom):∀ (xs:List Zb) (info:List Zg) (rs:List Int) (c:Int),StOk info rs.reverse →
  match Zbh qa xs info.length info rs.reverse with
  | none=>runS m sizes qa xs (vw info rs) c=none
  | some (info',st')=>∃ tail,info'=info++tail∧tail.length=xs.length∧runS m sizes qa xs (vw info rs) c=some (vw info' st'.reverse,sumW (Zb8 m info' sizes xs tail) c)
 | [],info,rs,c,hs=>by
  simp only [Zbh,runS]
  exact ⟨[],by simp,rfl,by simp [Zb8,sumW]⟩
 | x::xs,info,rs,c,hs=>by
  have hv:=Zbk2 m sizes qa x info rs hs
  rw [Zbh,runS]
  cases hy:Zcb qa x info rs.reverse with
  | none=>rw [hy] at hv;simp only at hv;rw [hv]
  | some y =>
   rw [hy] at hv
   simp only at hv
   rw [hv]
   simp only
   have ho:=Z6l hs hy
   have hn:=Zkw hs y (rs.reverse.length - pops y)
   have er:rs.reverse.take (rs.reverse.length - pops y)++[(info.length:Int)]=((info.length:Int)::rs.drop (pops y)).reverse:=by
    rw [List.reverse_cons,List.reverse_drop,List.length_reverse]
   rw [er] at hn ⊢
   have ih:=Zww m sizes qa xs (info++[y]) ((info.length:Int)::rs.drop (pops y)) (w (c+Zbx m info sizes x y)) hn
   have ev:vw (info++[y]) ((info.length:Int)::rs.drop (pops y))=(y.Mask,y.Order)::(vw info rs).drop (pops y):=by
    have:=vw_ext (info:=info) (tail:=[y]) (rs:=rs.drop (pops y)) (fun s h=>hs s (by simp;exact List.mem_of_mem_drop h))
    rw [show vw (info++[y]) ((info.length:Int)::rs.drop (pops y))=(Zbw (info++[y]) info.length,ordAt (info++[y]) info.length)::vw (info++[y]) (rs.drop (pops y)) from rfl,this]
    simp [Zbw,ordAt,vw,List.map_drop]
   rw [ev] at ih
   rw [show (info++[y]).length=info.length+1 by simp] at ih
   split at ih
   ·exact ih
   ·rename_i info' st' hg
    obtain ⟨tail,a,b,d⟩:=ih
    refine ⟨y::tail,by simp [a],by simp [b],?_⟩
    rw [d]
    have e2:Zbx m info' sizes x y=Zbx m info sizes x y:=by rw [a,List.append_assoc];exact Zbk3 ho
    simp [Zb8,sumW,e2]
theorem run_cost {m:Zd} {n:Int} {qa:List Atom} {sizes:List Int} {steps:List Zb} {y:MO} {c:Int} (hv:Zn n qa=true) (hl:1≤steps.length∧steps.length≤14) (hs:Zbn n qa sizes=true) (h:runS m sizes qa steps [] 0=some ([y],c)):Zb9 m n qa steps sizes=c:=by
 have g:=Zww m sizes qa steps [] [] 0 (fun s h=>by simp at h)
 simp only [List.length_nil,List.reverse_nil] at g
 have hr:inR (steps.length:Int) 1 14=true:=by simp [inR];omega
 cases hg:Zbh qa steps 0 [] [] with
 | none=>rw [hg] at g;simp only [vw,List.map_nil] at g;rw [g] at h;cases h
 | some p =>
  obtain ⟨info',st'⟩:=p
  rw [hg] at g
  obtain ⟨tail,a,b,d⟩:=g
  simp only [vw,List.map_nil] at d
  rw [d] at h
  simp only [List.nil_append] at a
  subst a
  cases h':st'.reverse with
  | nil=>rw [h'] at h;simp at h
  | cons s rs =>
   rw [h'] at h
   simp only [List.map_cons,Option.some.injEq,Prod.mk.injEq,List.cons.injEq,List.map_eq_nil_iff] at h
   have hlen:st'.length=1:=by rw [← List.length_reverse,h',h.1.2];rfl
   have hi:Zbb n qa steps=some info':=by simp [Zbb,hv,hr,hg,hlen]
   simp [Zb9,Zed,Zcs,hi,hs,h.2]
theorem w_eq (x:Int):w x=(x+9223372036854775808) % 18446744073709551616 - 9223372036854775808:=by
 simp only [w,IntKind.wrap,IntKind.signed,IntKind.bits,Bool.true_and]
 split
 ·rename_i h;have h:=of_decide_eq_true h;omega
 ·rename_i h;simp at h;omega
theorem w_w (x:Int):w (w x)=w x:=by rw [w_eq,w_eq];omega
theorem Zqo (m:Zd) (sizes:List Int) (qa:List Atom):∀ (xs ys:List Zb) (S:List MO) (c:Int),runS m sizes qa (xs++ys) S c=match runS m sizes qa xs S c with
  | none=>none
  | some (S',c')=>runS m sizes qa ys S' c'
 | [],ys,S,c=>by simp [runS]
 | x::xs,ys,S,c=>by
  rw [List.cons_append,runS,runS]
  cases Zb4 m sizes qa x S with
  | none=>rfl
  | some p=>simp only;exact Zqo m sizes qa xs ys p.1 _
theorem Zbk4 {m:Zd} {sizes:List Int} {qa:List Atom} {x:Zb} {S S' B:List MO} {c:Int} (h:Zb4 m sizes qa x S=some (S',c)):Zb4 m sizes qa x (S++B)=some (S'++B,c):=by
 unfold Zb4 at h ⊢
 by_cases k1:x.Kind=1
 ·simp only [if_pos k1] at h ⊢
  split at h
  ·rename_i hc;rw [if_pos hc];cases h;rfl
  ·cases h
 ·simp only [if_neg k1] at h ⊢
  by_cases ka:x.Atom≠0
  ·simp [if_pos ka] at h
  ·simp only [if_neg ka] at h ⊢
   by_cases k2:x.Kind=2
   ·simp only [if_pos k2] at h ⊢
    match S,h with
    | [],h=>cases h
    | y::S,h =>
     simp only [List.cons_append] at h ⊢
     split at h
     ·rename_i hc;rw [if_pos hc];cases h;rfl
     ·cases h
   ·simp only [if_neg k2] at h ⊢
    match S,h with
    | [],h=>cases h
    | [y],h=>cases h
    | z::y::S,h =>
     simp only [List.cons_append] at h ⊢
     split at h
     ·rename_i hc
      rw [if_pos hc]
      cases ho:Zc7 qa x y z with
      | none=>rw [ho] at h;cases h
      | some o=>rw [ho] at h;cases h;rfl
     ·cases h
theorem Z63 {m:Zd} {sizes:List Int} {qa:List Atom} {B:List MO}:∀ {xs:List Zb} {S S':List MO} {c c':Int},runS m sizes qa xs S c=some (S',c')→runS m sizes qa xs (S++B) c=some (S'++B,c')
 | [],S,S',c,c',h=>by simp [runS] at h ⊢;simp [h]
 | x::xs,S,S',c,c',h=>by
  rw [runS] at h ⊢
  cases hs:Zb4 m sizes qa x S with
  | none=>rw [hs] at h;cases h
  | some p=>rw [hs] at h;rw [Zbk4 hs];exact Z63 h
theorem Z64 {m:Zd} {sizes:List Int} {qa:List Atom}:∀ {xs:List Zb} {S S':List MO} {a k:Int},runS m sizes qa xs S a=some (S',k)→∀ c,w c=c→runS m sizes qa xs S c=some (S',w (c+(k - a)))
 | [],S,S',a,k,h,c,hc=>by
  simp [runS] at h ⊢
  obtain ⟨rfl,rfl⟩:=h
  rw [show c+(a - a)=c by omega]
  exact ⟨rfl,hc.symm⟩
 | x::xs,S,S',a,k,h,c,hc=>by
  rw [runS] at h ⊢
  cases hs:Zb4 m sizes qa x S with
  | none=>rw [hs] at h;cases h
  | some p =>
   obtain ⟨S1,e⟩:=p
   rw [hs] at h
   simp only at h ⊢
   rw [Z64 h (w (c+e)) (w_w _)]
   have:w (w (c+e)+(k - w (a+e)))=w (c+(k - a)):=by simp only [w_eq];omega
   rw [this]
theorem Z65 {m:Zd} {sizes:List Int} {qa:List Atom}:∀ {xs:List Zb} {S S':List MO} {a k:Int},runS m sizes qa xs S a=some (S',k)→w a=a→w k=k
 | [],S,S',a,k,h,ha=>by simp [runS] at h;rw [← h.2];exact ha
 | x::xs,S,S',a,k,h,ha=>by
  rw [runS] at h
  cases hs:Zb4 m sizes qa x S with
  | none=>rw [hs] at h;cases h
  | some p=>rw [hs] at h;exact Z65 h (w_w _)
def Z3 (m:Zd) (sizes:List Int) (qa:List Atom) (xs:List Zb) (mask order c:Int):Prop:=runS m sizes qa xs [] 0=some ([(mask,order)],c)
theorem Z3.can {m:Zd} {sizes:List Int} {qa:List Atom} {xs:List Zb} {a o c:Int} (h:Z3 m sizes qa xs a o c):w c=c:=Z65 h rfl
theorem Z3.on {m:Zd} {sizes:List Int} {qa:List Atom} {xs:List Zb} {a o c:Int} (h:Z3 m sizes qa xs a o c) (B:List MO) (d:Int) (hd:w d=d):runS m sizes qa xs B d=some ((a,o)::B,w (d+c)):=by
 have:=Z63 (B:=B) (Z64 h d hd)
 rw [show c - 0=c by omega] at this
 simpa using this
theorem Z66 {m:Zd} {sizes:List Int} {qa:List Atom} {xs ys:List Zb} {a o c b p d:Int} {x:Zb} {r:Int} (hx:Z3 m sizes qa xs a o c) (hy:Z3 m sizes qa ys b p d) (hk:3≤x.Kind) (hat:x.Atom=0) (hd:andI a b=0) (hsh:shr qa a b=true) (ho:Zc7 qa x (a,o) (b,p)=some r) :
  Z3 m sizes qa (xs++ys++[x]) (orI a b) r (w (w (c+d)+Z6 (mOp m x.Kind) (szAt sizes a) (szAt sizes b) (szAt sizes (orI a b)))):=by
 unfold Z3 at *
 rw [Zqo,Zqo,hx]
 simp only
 rw [Z3.on hy _ _ (Z3.can hx)]
 simp only
 rw [runS]
 have hs:Zb4 m sizes qa x [(b,p),(a,o)]=some ([(orI a b,r)],Z6 (mOp m x.Kind) (szAt sizes a) (szAt sizes b) (szAt sizes (orI a b))):=by
  unfold Zb4
  rw [if_neg (by omega),if_neg (by simp [hat]),if_neg (by omega)]
  simp [hd,hsh,ho]
 rw [hs]
 rfl
theorem Zbk5 {m:Zd} {sizes:List Int} {qa:List Atom} {xs:List Zb} {a o c v:Int} (hx:Z3 m sizes qa xs a o c) (hv:vin qa a v=true) (ho:o≠v) :
  Z3 m sizes qa (sortS xs v) a v (w (c+Z6 m.Sort_ (szAt sizes a) 0 (szAt sizes a))):=by
 unfold Z3 at *
 rw [sortS,Zqo,hx]
 simp only
 rw [runS]
 have hs:Zb4 m sizes qa ⟨2,0,v⟩ [(a,o)]=some ([(a,v)],Z6 m.Sort_ (szAt sizes a) 0 (szAt sizes a)):=by
  unfold Zb4
  simp [hv,ho,mOp]
 rw [hs]
 rfl
theorem Zbk6 {m:Zd} {sizes:List Int} {qa:List Atom} {i:Nat} (h:i<qa.length) :
  Z3 m sizes qa [⟨1,i,0⟩] (shlI 1 i) (qa[i].Vars.headD 0) (w (Z6 m.Scan (szAt sizes (shlI 1 i)) 0 (szAt sizes (shlI 1 i)))):=by
 unfold Z3
 rw [runS]
 have hi:inR (i:Int) 0 (qa.length - 1)=true:=by simp [inR];omega
 have hs:Zb4 m sizes qa ⟨1,i,0⟩ []=some ([(shlI 1 i,qa[i].Vars.headD 0)],Z6 m.Scan (szAt sizes (shlI 1 i)) 0 (szAt sizes (shlI 1 i))):=by
  unfold Zb4
  simp [hi,mOp,List.getElem?_eq_getElem h]
 rw [hs]
 simp [runS]
theorem Z3.cost {m:Zd} {sizes:List Int} {n:Int} {qa:List Atom} {xs:List Zb} {a o c:Int} (h:Z3 m sizes qa xs a o c) (hv:Zn n qa=true) (hl:1≤xs.length∧xs.length≤14) (hs:Zbn n qa sizes=true):Zb9 m n qa xs sizes=c:=run_cost hv hl hs h
theorem hash_p {qa:List Atom} {y z:MO}:Zc7 qa ⟨3,0,0⟩ y z=some (-1):=by simp [Zc7,Zb0]
theorem nest_p {qa:List Atom} {y z:MO}:Zc7 qa ⟨5,0,0⟩ y z=some y.2:=by simp [Zc7,Zb0]
theorem Z67 {qa:List Atom} {y z:MO} {v:Int} (h1:vin qa y.1 v=true) (h2:vin qa z.1 v=true) (h3:y.2=v) (h4:z.2=v):Zc7 qa ⟨4,0,v⟩ y z=some v:=by simp [Zc7,Zb0,h1,h2,h3,h4]
def Zca (b e:Za):Za:=if e.Cost<b.Cost then e else b
theorem l_bestOf (a b c:Int) (l:List Za) (hl:l.length≤1000):∀ i,i≤l.length→∀ best,Zi0 a b c best l l.length i=some (.agg (((l.drop i).foldl Zca best).c.map .t),[]):=by
 refine down _ ?_ ?_
 ·intro best
  refine Z33 _ _ _ _ _ _ _ _ ?_
  rw [if_neg (by omega)];simp
 ·intro i hi ih best
  have h4:=inc64 (i:=i) (by omega)
  refine Z33 _ _ _ _ _ _ _ _ ?_
  rw [if_pos (by omega),List.drop_eq_getElem_cons hi,List.foldl_cons]
  refine ⟨by omega,l[i],by rw [Int.toNat_natCast];exact List.getElem?_eq_getElem hi,?_⟩
  rw [show w ((i:Int)+1)=((i+1:Nat):Int) from by rw [show w ((i:Int)+1)=(i:Int)+1 from h4];simp]
  by_cases e:l[i].Cost<best.Cost
  ·rw [if_pos e,show Zca best l[i]=l[i] by simp [Zca,e]];exact ih _
  ·rw [if_neg e,show Zca best l[i]=best by simp [Zca,e]];exact ih _
def Zx (l:List Za):Za:=match l with | []=>⟨0,0,0,⟨[]⟩⟩ | e::l=>(e::l).foldl Zca e
theorem Zqp (l:List Za) (h0:l≠[]) (hl:l.length≤1000):Zhb l=some (.agg ((Zx l).c.map .t),[]):=by
 cases l with
 | nil=>exact absurd rfl h0
 | cons e l =>
  refine Zbgn _ _ ⟨e,rfl,?_⟩
  have:=l_bestOf 0 0 0 (e::l) hl 0 (Nat.zero_le _) e
  simpa [Zx] using this
def offE (e:Za) (mask a cost:Int) (x:List Zb):Za:=if e.Mask=0 then ⟨mask,a,cost,⟨x⟩⟩ else if cost<e.Cost then ⟨mask,a,cost,⟨x⟩⟩ else e
def sm (e:Za):Bool:=decide (e.Mask≠0)
theorem sm_off {e:Za} {mask a cost:Int} {x:List Zb} (h:mask≠0):sm (offE e mask a cost x)=true:=by
 unfold offE sm
 split
 ·simp [h]
 ·split
  ·simp [h]
  ·simp [*]
def offK (k:Int) (e:Za) (mask a cost:Int) (x:List Zb):Za:=if a+1=k then offE e mask a cost x else e
theorem Z68 (m:Zd) (hm:LeM m) (q:Zc) (hq:LeQ q) (sizes:List Int) (hs:Le sizes) (mask:Int) (h0:mask≠0) (a0 a1 a2 a3 a4:Za) (x:List Zb) (a:Int) (ha:-1≤a∧a≤3) (c:Int) (hc:Zb9 m q.Ze q.Atoms x sizes=c):∃ t,(t=.dead∨t=.arr 194 3 true (x.map Zb.c)) ∧
  Zb1 m q sizes mask a0 a1 a2 a3 a4 (sm a0) (sm a1) (sm a2) (sm a3) (sm a4) x a=some (.tup [],[boxO m q sizes mask (offK 0 a0 mask a c x) (offK 1 a1 mask a c x) (offK 2 a2 mask a c x) (offK 3 a3 mask a c x) (offK 4 a4 mask a c x) (sm (offK 0 a0 mask a c x)) (sm (offK 1 a1 mask a c x)) (sm (offK 2 a2 mask a c x)) (sm (offK 3 a3 mask a c x)) (sm (offK 4 a4 mask a c x)),t]):=by
 have hcost:=Zwt m hm q hq ⟨x⟩ sizes hs
 rw [show Zb9 m q.Ze q.Atoms (Plan.mk x).Steps sizes=c from hc] at hcost
 have h5:a=-1∨a=0∨a=1∨a=2∨a=3:=by omega
 have key:∀ e:Za,(sm e=true∧c<e.Cost∧offE e mask a c x=⟨mask,a,c,⟨x⟩⟩)∨(sm e=true∧¬ c<e.Cost∧offE e mask a c x=e)∨(sm e=false∧offE e mask a c x=⟨mask,a,c,⟨x⟩⟩):=by
  intro e
  by_cases e0:e.Mask=0
  ·exact .inr (.inr ⟨by simp [sm,e0],by simp [offE,e0]⟩)
  ·by_cases e1:c<e.Cost
   ·exact .inl ⟨by simp [sm,e0],e1,by simp [offE,e0,e1]⟩
   ·exact .inr (.inl ⟨by simp [sm,e0],e1,by simp [offE,e0,e1]⟩)
 have hsm:sm ⟨mask,a,c,⟨x⟩⟩=true:=by simp [sm,h0]
 have w0:w 0=0:=by decide
 have w1:w 1=1:=by decide
 have w2:w 2=2:=by decide
 have w3:w 3=3:=by decide
 have w4:w 4=4:=by decide
 rcases h5 with rfl | rfl | rfl | rfl | rfl
 ·rcases key a0 with ⟨k1,k2,k3⟩ | ⟨k1,k2,k3⟩ | ⟨k1,k3⟩
  ·exact ⟨_,.inl rfl,Zcr _ _ _ _ _ _ _ _ _ _ _ _ _ _ _ _ _ ⟨c,hcost,by simp [offK,k1,k2,k3,hsm,w0,w1,w2,w3,w4]⟩⟩
  ·exact ⟨_,.inr rfl,Zcr _ _ _ _ _ _ _ _ _ _ _ _ _ _ _ _ _ ⟨c,hcost,by simp [offK,k1,k2,k3,hsm,w0,w1,w2,w3,w4]⟩⟩
  ·exact ⟨_,.inl rfl,Zcr _ _ _ _ _ _ _ _ _ _ _ _ _ _ _ _ _ ⟨c,hcost,by simp [offK,k1,k3,hsm,w0,w1,w2,w3,w4]⟩⟩
 ·rcases key a1 with ⟨k1,k2,k3⟩ | ⟨k1,k2,k3⟩ | ⟨k1,k3⟩
  ·exact ⟨_,.inl rfl,Zcr _ _ _ _ _ _ _ _ _ _ _ _ _ _ _ _ _ ⟨c,hcost,by simp [offK,k1,k2,k3,hsm,w0,w1,w2,w3,w4]⟩⟩
  ·exact ⟨_,.inr rfl,Zcr _ _ _ _ _ _ _ _ _ _ _ _ _ _ _ _ _ ⟨c,hcost,by simp [offK,k1,k2,k3,hsm,w0,w1,w2,w3,w4]⟩⟩
  ·exact ⟨_,.inl rfl,Zcr _ _ _ _ _ _ _ _ _ _ _ _ _ _ _ _ _ ⟨c,hcost,by simp [offK,k1,k3,hsm,w0,w1,w2,w3,w4]⟩⟩
 ·rcases key a2 with ⟨k1,k2,k3⟩ | ⟨k1,k2,k3⟩ | ⟨k1,k3⟩
  ·exact ⟨_,.inl rfl,Zcr _ _ _ _ _ _ _ _ _ _ _ _ _ _ _ _ _ ⟨c,hcost,by simp [offK,k1,k2,k3,hsm,w0,w1,w2,w3,w4]⟩⟩
  ·exact ⟨_,.inr rfl,Zcr _ _ _ _ _ _ _ _ _ _ _ _ _ _ _ _ _ ⟨c,hcost,by simp [offK,k1,k2,k3,hsm,w0,w1,w2,w3,w4]⟩⟩
  ·exact ⟨_,.inl rfl,Zcr _ _ _ _ _ _ _ _ _ _ _ _ _ _ _ _ _ ⟨c,hcost,by simp [offK,k1,k3,hsm,w0,w1,w2,w3,w4]⟩⟩
 ·rcases key a3 with ⟨k1,k2,k3⟩ | ⟨k1,k2,k3⟩ | ⟨k1,k3⟩
  ·exact ⟨_,.inl rfl,Zcr _ _ _ _ _ _ _ _ _ _ _ _ _ _ _ _ _ ⟨c,hcost,by simp [offK,k1,k2,k3,hsm,w0,w1,w2,w3,w4]⟩⟩
  ·exact ⟨_,.inr rfl,Zcr _ _ _ _ _ _ _ _ _ _ _ _ _ _ _ _ _ ⟨c,hcost,by simp [offK,k1,k2,k3,hsm,w0,w1,w2,w3,w4]⟩⟩
  ·exact ⟨_,.inl rfl,Zcr _ _ _ _ _ _ _ _ _ _ _ _ _ _ _ _ _ ⟨c,hcost,by simp [offK,k1,k3,hsm,w0,w1,w2,w3,w4]⟩⟩
 ·rcases key a4 with ⟨k1,k2,k3⟩ | ⟨k1,k2,k3⟩ | ⟨k1,k3⟩
  ·exact ⟨_,.inl rfl,Zcr _ _ _ _ _ _ _ _ _ _ _ _ _ _ _ _ _ ⟨c,hcost,by simp [offK,k1,k2,k3,hsm,w0,w1,w2,w3,w4]⟩⟩
  ·exact ⟨_,.inr rfl,Zcr _ _ _ _ _ _ _ _ _ _ _ _ _ _ _ _ _ ⟨c,hcost,by simp [offK,k1,k2,k3,hsm,w0,w1,w2,w3,w4]⟩⟩
  ·exact ⟨_,.inl rfl,Zcr _ _ _ _ _ _ _ _ _ _ _ _ _ _ _ _ _ ⟨c,hcost,by simp [offK,k1,k3,hsm,w0,w1,w2,w3,w4]⟩⟩
def sel (y:Bool) (e:Za):List Za:=if y=true then [e] else []
section
variable (m:Zd) (q:Zc) (sizes:List Int) (mask:Int) (a0 a1 a2 a3 a4:Za) (s0 s1 s2 s3 s4:Bool)
theorem en5 (fr:Bool) (out:List Za) (y0 y1 y2 y3 y4:Bool):∃ fr',Zba m q sizes mask a0 a1 a2 a3 a4 s0 s1 s2 s3 s4 fr out y0 y1 y2 y3 y4 5=some (.own 1,[boxO m q sizes mask a0 a1 a2 a3 a4 s0 s1 s2 s3 s4,.arr 145 4 fr' (out.map Za.c)]) :=
 ⟨fr,Zd8 _ _ _ _ _ _ _ _ _ _ _ _ _ _ _ _ _ _ _ _ _ _ _ (by rw [if_neg (by omega)])⟩
theorem en4 (fr:Bool) (out:List Za) (hl:out.length≤4) (y0 y1 y2 y3 y4:Bool):∃ fr',Zba m q sizes mask a0 a1 a2 a3 a4 s0 s1 s2 s3 s4 fr out y0 y1 y2 y3 y4 4=some (.own 1,[boxO m q sizes mask a0 a1 a2 a3 a4 s0 s1 s2 s3 s4,.arr 145 4 fr' ((out++sel y4 a4).map Za.c)]):=by
 have hw:w (4+1)=5:=by decide
 cases hy:y4 with
 | true =>
  obtain ⟨fr',h⟩:=en5 m q sizes mask a0 a1 a2 a3 a4 s0 s1 s2 s3 s4 false (out++[a4]) y0 y1 y2 y3 true
  refine ⟨fr',Zd8 _ _ _ _ _ _ _ _ _ _ _ _ _ _ _ _ _ _ _ _ _ _ _ ?_⟩
  rw [if_pos (by omega),if_neg (by omega),if_neg (by omega),if_neg (by omega),if_neg (by omega),if_pos rfl,if_pos rfl,hw]
  exact ⟨by omega,by simpa [sel] using h⟩
 | false =>
  obtain ⟨fr',h⟩:=en5 m q sizes mask a0 a1 a2 a3 a4 s0 s1 s2 s3 s4 fr out y0 y1 y2 y3 false
  refine ⟨fr',Zd8 _ _ _ _ _ _ _ _ _ _ _ _ _ _ _ _ _ _ _ _ _ _ _ ?_⟩
  rw [if_pos (by omega),if_neg (by omega),if_neg (by omega),if_neg (by omega),if_neg (by omega),if_pos rfl,if_neg (by simp),hw]
  simpa [sel] using h
theorem en3 (fr:Bool) (out:List Za) (hl:out.length≤3) (y0 y1 y2 y3 y4:Bool):∃ fr',Zba m q sizes mask a0 a1 a2 a3 a4 s0 s1 s2 s3 s4 fr out y0 y1 y2 y3 y4 3=some (.own 1,[boxO m q sizes mask a0 a1 a2 a3 a4 s0 s1 s2 s3 s4,.arr 145 4 fr' ((out++sel y3 a3++sel y4 a4).map Za.c)]):=by
 have hw:w (3+1)=4:=by decide
 cases hy:y3 with
 | true =>
  obtain ⟨fr',h⟩:=en4 m q sizes mask a0 a1 a2 a3 a4 s0 s1 s2 s3 s4 false (out++[a3]) (by simp only [List.length_append,List.length_cons,List.length_nil];omega) y0 y1 y2 true y4
  refine ⟨fr',Zd8 _ _ _ _ _ _ _ _ _ _ _ _ _ _ _ _ _ _ _ _ _ _ _ ?_⟩
  rw [if_pos (by omega),if_neg (by omega),if_neg (by omega),if_neg (by omega),if_pos rfl,if_pos rfl,hw]
  exact ⟨by omega,by simpa [sel] using h⟩
 | false =>
  obtain ⟨fr',h⟩:=en4 m q sizes mask a0 a1 a2 a3 a4 s0 s1 s2 s3 s4 fr out (by omega) y0 y1 y2 false y4
  refine ⟨fr',Zd8 _ _ _ _ _ _ _ _ _ _ _ _ _ _ _ _ _ _ _ _ _ _ _ ?_⟩
  rw [if_pos (by omega),if_neg (by omega),if_neg (by omega),if_neg (by omega),if_pos rfl,if_neg (by simp),hw]
  simpa [sel] using h
theorem en2 (fr:Bool) (out:List Za) (hl:out.length≤2) (y0 y1 y2 y3 y4:Bool):∃ fr',Zba m q sizes mask a0 a1 a2 a3 a4 s0 s1 s2 s3 s4 fr out y0 y1 y2 y3 y4 2=some (.own 1,[boxO m q sizes mask a0 a1 a2 a3 a4 s0 s1 s2 s3 s4,.arr 145 4 fr' ((out++sel y2 a2++sel y3 a3++sel y4 a4).map Za.c)]):=by
 have hw:w (2+1)=3:=by decide
 cases hy:y2 with
 | true =>
  obtain ⟨fr',h⟩:=en3 m q sizes mask a0 a1 a2 a3 a4 s0 s1 s2 s3 s4 false (out++[a2]) (by simp only [List.length_append,List.length_cons,List.length_nil];omega) y0 y1 true y3 y4
  refine ⟨fr',Zd8 _ _ _ _ _ _ _ _ _ _ _ _ _ _ _ _ _ _ _ _ _ _ _ ?_⟩
  rw [if_pos (by omega),if_neg (by omega),if_neg (by omega),if_pos rfl,if_pos rfl,hw]
  exact ⟨by omega,by simpa [sel] using h⟩
 | false =>
  obtain ⟨fr',h⟩:=en3 m q sizes mask a0 a1 a2 a3 a4 s0 s1 s2 s3 s4 fr out (by omega) y0 y1 false y3 y4
  refine ⟨fr',Zd8 _ _ _ _ _ _ _ _ _ _ _ _ _ _ _ _ _ _ _ _ _ _ _ ?_⟩
  rw [if_pos (by omega),if_neg (by omega),if_neg (by omega),if_pos rfl,if_neg (by simp),hw]
  simpa [sel] using h
theorem en1 (fr:Bool) (out:List Za) (hl:out.length≤1) (y0 y1 y2 y3 y4:Bool):∃ fr',Zba m q sizes mask a0 a1 a2 a3 a4 s0 s1 s2 s3 s4 fr out y0 y1 y2 y3 y4 1=some (.own 1,[boxO m q sizes mask a0 a1 a2 a3 a4 s0 s1 s2 s3 s4,.arr 145 4 fr' ((out++sel y1 a1++sel y2 a2++sel y3 a3++sel y4 a4).map Za.c)]):=by
 have hw:w (1+1)=2:=by decide
 cases hy:y1 with
 | true =>
  obtain ⟨fr',h⟩:=en2 m q sizes mask a0 a1 a2 a3 a4 s0 s1 s2 s3 s4 false (out++[a1]) (by simp only [List.length_append,List.length_cons,List.length_nil];omega) y0 true y2 y3 y4
  refine ⟨fr',Zd8 _ _ _ _ _ _ _ _ _ _ _ _ _ _ _ _ _ _ _ _ _ _ _ ?_⟩
  rw [if_pos (by omega),if_neg (by omega),if_pos rfl,if_pos rfl,hw]
  exact ⟨by omega,by simpa [sel] using h⟩
 | false =>
  obtain ⟨fr',h⟩:=en2 m q sizes mask a0 a1 a2 a3 a4 s0 s1 s2 s3 s4 fr out (by omega) y0 false y2 y3 y4
  refine ⟨fr',Zd8 _ _ _ _ _ _ _ _ _ _ _ _ _ _ _ _ _ _ _ _ _ _ _ ?_⟩
  rw [if_pos (by omega),if_neg (by omega),if_pos rfl,if_neg (by simp),hw]
  simpa [sel] using h
theorem en0 (fr:Bool) (out:List Za) (hl:out.length≤0) (y0 y1 y2 y3 y4:Bool):∃ fr',Zba m q sizes mask a0 a1 a2 a3 a4 s0 s1 s2 s3 s4 fr out y0 y1 y2 y3 y4 0=some (.own 1,[boxO m q sizes mask a0 a1 a2 a3 a4 s0 s1 s2 s3 s4,.arr 145 4 fr' ((out++sel y0 a0++sel y1 a1++sel y2 a2++sel y3 a3++sel y4 a4).map Za.c)]):=by
 have hw:w (0+1)=1:=by decide
 cases hy:y0 with
 | true =>
  obtain ⟨fr',h⟩:=en1 m q sizes mask a0 a1 a2 a3 a4 s0 s1 s2 s3 s4 false (out++[a0]) (by simp only [List.length_append,List.length_cons,List.length_nil];omega) true y1 y2 y3 y4
  refine ⟨fr',Zd8 _ _ _ _ _ _ _ _ _ _ _ _ _ _ _ _ _ _ _ _ _ _ _ ?_⟩
  rw [if_pos (by omega),if_pos rfl,if_pos rfl,hw]
  exact ⟨by omega,by simpa [sel] using h⟩
 | false =>
  obtain ⟨fr',h⟩:=en1 m q sizes mask a0 a1 a2 a3 a4 s0 s1 s2 s3 s4 fr out (by omega) false y1 y2 y3 y4
  refine ⟨fr',Zd8 _ _ _ _ _ _ _ _ _ _ _ _ _ _ _ _ _ _ _ _ _ _ _ ?_⟩
  rw [if_pos (by omega),if_pos rfl,if_neg (by simp),hw]
  simpa [sel] using h
end
def there (a0 a1 a2 a3 a4:Za):List Za:=[a0,a1,a2,a3,a4].filter sm
theorem Zbk7 (m:Zd) (q:Zc) (sizes:List Int) (mask:Int) (a0 a1 a2 a3 a4:Za):∃ fr,Zlk m q sizes mask a0 a1 a2 a3 a4 (sm a0) (sm a1) (sm a2) (sm a3) (sm a4)=some (.own 1,[boxO m q sizes mask a0 a1 a2 a3 a4 (sm a0) (sm a1) (sm a2) (sm a3) (sm a4),.arr 145 4 fr ((there a0 a1 a2 a3 a4).map Za.c)]):=by
 obtain ⟨fr,h⟩:=en0 m q sizes mask a0 a1 a2 a3 a4 (sm a0) (sm a1) (sm a2) (sm a3) (sm a4) true [] (Nat.le_refl _) (sm a0) (sm a1) (sm a2) (sm a3) (sm a4)
 refine ⟨fr,Zbgq _ _ _ _ _ _ _ _ _ _ _ _ _ _ _ ?_⟩
 have e:[]++sel (sm a0) a0++sel (sm a1) a1++sel (sm a2) a2++sel (sm a3) a3++sel (sm a4) a4=there a0 a1 a2 a3 a4:=by
  unfold there sel
  simp only [List.filter_cons,List.filter_nil]
  cases sm a0 <;> cases sm a1 <;> cases sm a2 <;> cases sm a3 <;> cases sm a4 <;> rfl
 rw [e] at h
 exact h
def ofM (l:List Za) (mask:Int):List Za:=l.filter fun e=>decide (e.Mask=mask)
theorem Zbk8 (e:Za):Zx [e]=e:=by simp [Zx,Zca]
theorem Zbk9 {l:List Za} (h:l≠[]) (e:Za):Zx (l++[e])=Zca (Zx l) e:=by
 cases l with
 | nil=>exact absurd rfl h
 | cons a l=>simp [Zx,List.foldl_append]
theorem Zwx {l:List Za} (h:l≠[]):Zx l∈l:=by
 have:∀ (l:List Za) (b:Za),l.foldl Zca b=b∨l.foldl Zca b∈l:=by
  intro l
  induction l with
  | nil=>intro b;exact .inl rfl
  | cons a l ih =>
   intro b
   rw [List.foldl_cons]
   rcases ih (Zca b a) with h | h
   ·rw [h]
    unfold Zca
    split
    ·exact .inr (by simp)
    ·exact .inl rfl
   ·exact .inr (List.mem_cons_of_mem _ h)
 cases l with
 | nil=>exact absurd rfl h
 | cons a l =>
  rcases this (a::l) a with e | e
  ·rw [show Zx (a::l)=a from e];simp
  ·exact e
theorem Z69 (l:List Za) (mask:Int) {k:Nat} (h:k<l.length):ofM (l.take (k+1)) mask=ofM (l.take k) mask++(if l[k].Mask=mask then [l[k]] else []):=by
 unfold ofM
 rw [Zrq _ h]
 by_cases e:l[k].Mask=mask <;> simp [e]
theorem low_at (l:List Za) (mask:Int):∀ k,k≤l.length→(ofM (l.take k) mask=[]→Zbs l mask k=-1)∧(ofM (l.take k) mask≠[]→0≤Zbs l mask k∧l[(Zbs l mask k).toNat]?=some (Zx (ofM (l.take k) mask)))
 | 0,_=>by simp [Zbs,ofM]
 | k+1,h=>by
  obtain ⟨i1,i2⟩:=low_at l mask k (by omega)
  have hk:k<l.length:=by omega
  rw [Z69 l mask hk]
  unfold Zbs
  rw [List.getElem?_eq_getElem hk]
  by_cases e:l[k].Mask=mask
  ·simp only [if_pos e]
   refine ⟨fun h=>by simp at h,fun _=>?_⟩
   by_cases e0:ofM (l.take k) mask=[]
   ·have i:=i1 e0
    rw [e0,List.nil_append,Zbk8]
    cases hc:l[(Zbs l mask k).toNat]? with
    | none=>exact ⟨by simp,by simp [List.getElem?_eq_getElem hk]⟩
    | some b =>
     simp only
     rw [if_pos (by omega)]
     exact ⟨by omega,by simp [List.getElem?_eq_getElem hk]⟩
   ·obtain ⟨j1,j2⟩:=i2 e0
    rw [j2,Zbk9 e0]
    simp only
    rw [if_neg (by omega)]
    unfold Zca
    split
    ·exact ⟨by omega,by simp [List.getElem?_eq_getElem hk]⟩
    ·exact ⟨j1,j2⟩
  ·simp only [if_neg e,List.append_nil]
   exact ⟨i1,i2⟩
theorem Zqq {l:List Za} {mask:Int} (h:ofM l mask≠[]):0≤low l mask∧l[(low l mask).toNat]?=some (Zx (ofM l mask)):=by
 have:=(low_at l mask l.length (Nat.le_refl _)).2
 rw [List.take_length] at this
 exact this h
def ofO (l:List Za) (o:Int):Option Za:=l.find? fun e=>decide (e.Order=o)
theorem Z7a (l:List Za) (mask o:Int):∀ (xs:List Za) (k:Nat),l.drop k=xs→match ofO (ofM xs mask) o with
  | none=>Zew mask o xs k=-1
  | some e=>0≤Zew mask o xs k∧l[(Zew mask o xs k).toNat]?=some e
 | [],k,h=>by simp [ofM,ofO,Zew]
 | x::xs,k,h=>by
  have hk:l[k]?=some x:=by
   have:=congrArg (·[0]?) h
   simpa using this
  have hd:l.drop (k+1)=xs:=by
   have:=congrArg (List.drop 1) h
   simpa [Nat.add_comm] using this
  have ih:=Z7a l mask o xs (k+1) hd
  unfold Zew
  by_cases e:x.Mask=mask
  ·have e1:ofM (x::xs) mask=x::ofM xs mask:=by simp [ofM,e]
   rw [e1]
   by_cases e2:x.Order=o
   ·have:ofO (x::ofM xs mask) o=some x:=by simp [ofO,e2]
    rw [this,if_pos ⟨e,e2⟩]
    exact ⟨by omega,by simpa using hk⟩
   ·have:ofO (x::ofM xs mask) o=ofO (ofM xs mask) o:=by simp [ofO,e2]
    rw [this,if_neg (fun h=>e2 h.2)]
    exact ih
  ·have e1:ofM (x::xs) mask=ofM xs mask:=by simp [ofM,e]
   rw [e1,if_neg (fun h=>e h.1)]
   exact ih
theorem Z7b (l:List Za) (mask o:Int):match ofO (ofM l mask) o with
  | none=>find l mask o=-1
  | some e=>0≤find l mask o∧l[(find l mask o).toNat]?=some e:=Z7a l mask o l 0 rfl
theorem mul_b {a l:Int} {A L:Nat} (h1:-(A:Int)≤a) (h2:a≤A) (h3:0≤l) (h4:l≤L):-((A:Int)*L)≤a*l∧a*l≤(A:Int)*L:=by
 have e1:a*l≤(A:Int)*l:=Int.mul_le_mul_of_nonneg_right h2 h3
 have e2:-(A:Int)*l≤a*l:=Int.mul_le_mul_of_nonneg_right h1 h3
 have e3:(A:Int)*l≤(A:Int)*L:=Int.mul_le_mul_of_nonneg_left h4 (by omega)
 rw [Int.neg_mul] at e2
 omega
theorem Znf {a:Int} (h:Zci a=true):-99≤a∧a≤99:=by simp [Zci,inR] at h;omega
theorem w_id {x:Int} (h1:-9223372036854775808≤x) (h2:x≤9223372036854775807):w x=x:=wrap64 h1 h2
theorem base_b {o:Zi} {l r n:Int} (hv:Zbd o=true) (hl:0≤l∧l≤4096) (hr:0≤r∧r≤4096) (hn:0≤n∧n≤4096):-1700000000≤Zfm o l r n∧Zfm o l r n≤1700000000:=by
 simp only [Zbd,Bool.and_eq_true] at hv
 obtain ⟨⟨⟨⟨⟨⟨v1,v2⟩,v3⟩,v4⟩,v5⟩,v6⟩,v7⟩:=hv
 have b1:=Znf v1
 have b2:=Znf v2
 have b3:=Znf v3
 have b4:=Znf v4
 have b5:=Znf v5
 have m2:=mul_b (A:=99) (L:=4096) b2.1 b2.2 hl.1 hl.2
 have m3:=mul_b (A:=99) (L:=4096) b3.1 b3.2 hr.1 hr.2
 have m4:=mul_b (A:=99) (L:=4096) b4.1 b4.2 hn.1 hn.2
 have m5:=mul_b (A:=99) (L:=4096) b5.1 b5.2 hl.1 hl.2
 have m6:=mul_b (A:=405504) (L:=4096) (a:=o.Zl*l) (l:=r) (by simpa using m5.1) (by simpa using m5.2) hr.1 hr.2
 simp at m2 m3 m4 m5 m6
 unfold Zfm
 rw [w_id (x:=o.Zj*l) (by omega) (by omega),w_id (x:=o.Zk*r) (by omega) (by omega),w_id (x:=o.Zm*n) (by omega) (by omega),w_id (x:=o.Zl*l) (by omega) (by omega),w_id (x:=o.Zl*l*r) (by omega) (by omega)]
 rw [w_id (x:=o.Fixed+o.Zj*l) (by omega) (by omega),w_id (x:=o.Fixed+o.Zj*l+o.Zk*r) (by omega) (by omega),w_id (x:=o.Fixed+o.Zj*l+o.Zk*r+o.Zm*n) (by omega) (by omega),w_id (by omega) (by omega)]
 omega
theorem Z7c {l r:Int}:∀ {st:List Zf} {p n B:Int},Zdx p st=true→B+99*st.length≤1000000000000→-B≤n∧n≤B→-(B+99*st.length)≤st.foldl (Zdy l r) n∧st.foldl (Zdy l r) n≤B+99*st.length
 | [],p,n,B,_,_,h=>by simp;omega
 | s::st,p,n,B,hs,hB,h=>by
  simp only [Zdx,Bool.and_eq_true] at hs
  have ha:=hs.1.1.2
  simp [inR] at ha
  simp only [List.length_cons] at hB ⊢
  have e:-(B+99)≤Zdy l r n s∧Zdy l r n s≤B+99:=by
   unfold Zdy
   split
   ·rw [w_id (by omega) (by omega)];omega
   ·omega
  have g:=Z7c (l:=l) (r:=r) hs.2 (by omega) e
  rw [List.foldl_cons]
  omega
theorem Zh5 (o:Zi) (l r n:Int):-2000000000≤Z6 o l r n∧Z6 o l r n≤2000000000:=by
 unfold Z6
 split
 ·rename_i h
  simp only [Bool.and_eq_true] at h
  obtain ⟨⟨⟨hv,hl⟩,hr⟩,hn⟩:=h
  simp [inR] at hl hr hn
  have b:=base_b hv hl hr hn
  simp only [Zbd,Bool.and_eq_true,decide_eq_true_eq] at hv
  have:=Z7c (l:=l) (r:=r) (B:=1700000000) hv.2 (by have:=hv.1.2;omega) b
  have:=hv.1.2
  unfold Zj9
  omega
 ·omega
theorem Z7d {o:Zi} (h:Zbc o) {a b c:Int} (ha:0≤a∧a≤7) (hb:0≤b∧b≤7) (hc:0≤c∧c≤7):1≤Z6 o (Zbi a) (Zbi b) (Zbi c):=by
 have h3:¬ tcl o [a,b,c]<1:=fun hh=>h.2.2 ⟨[a,b,c],⟨a,b,c,rfl,ha,hb,hc⟩,hh⟩
 simp [Z6,h.1,Zka ha.1 ha.2,Zka hb.1 hb.2,Zka hc.1 hc.2]
 simp [tcl] at h3
 omega
def Zcc (sizes:List Int):Prop:=∀ s∈sizes,∃ a,(0≤a∧a≤7)∧s=Zbi a
theorem Zng {sizes:List Int} (h:Zcc sizes) (k:Int):∃ a,(0≤a∧a≤7)∧szAt sizes k=Zbi a:=by
 unfold szAt
 cases e:sizes[k.toNat]? with
 | none=>exact ⟨0,by omega,by decide⟩
 | some s=>exact h s (List.mem_of_getElem? e)
theorem Z7e {o:Zi} (h:Zbc o) {sizes:List Int} (hs:Zcc sizes) (a b:Int):1≤Z6 o (szAt sizes a) 0 (szAt sizes b):=by
 obtain ⟨x,hx,ex⟩:=Zng hs a
 obtain ⟨y,hy,ey⟩:=Zng hs b
 rw [ex,ey,show (0:Int)=Zbi 0 by decide]
 exact Z7d h hx (by omega) hy
theorem Zbla {l:List Int} (h:Zy l=true):Zcc (Zt l):=by
 intro s hs
 simp only [Zt,List.mem_map] at hs
 obtain ⟨a,ha,rfl⟩:=hs
 refine ⟨a,?_,rfl⟩
 simp only [Zy,Bool.and_eq_true,Zej,List.all_eq_true] at h
 have:=h.1 a ha
 simp [inR] at this
 omega
theorem runS_b {m:Zd} {sizes:List Int} {qa:List Atom}:∀ {xs:List Zb} {S S':List MO} {c k B:Int},runS m sizes qa xs S c=some (S',k)→-B≤c∧c≤B→B+2000000000*xs.length≤1000000000000→-(B+2000000000*xs.length)≤k∧k≤B+2000000000*xs.length
 | [],S,S',c,k,B,h,hc,hB=>by simp [runS] at h;simp;omega
 | x::xs,S,S',c,k,B,h,hc,hB=>by
  rw [runS] at h
  simp only [List.length_cons] at hB ⊢
  cases hs:Zb4 m sizes qa x S with
  | none=>rw [hs] at h;cases h
  | some p =>
   obtain ⟨S1,e⟩:=p
   rw [hs] at h
   have he:-2000000000≤e∧e≤2000000000:=by
    unfold Zb4 at hs
    split at hs
    ·split at hs
     ·cases hs;exact Zh5 _ _ _ _
     ·cases hs
    ·split at hs
     ·cases hs
     ·split at hs
      ·split at hs
       ·split at hs
        ·cases hs;exact Zh5 _ _ _ _
        ·cases hs
       ·cases hs
      ·split at hs
       ·split at hs
        ·rw [Option.map_eq_some_iff] at hs
         obtain ⟨o,_,ho⟩:=hs
         cases ho
         exact Zh5 _ _ _ _
        ·cases hs
       ·cases hs
   have:=runS_b (B:=B+2000000000) h (by rw [w_id (by omega) (by omega)];omega) (by omega)
   omega
theorem Z3.bound {m:Zd} {sizes:List Int} {qa:List Atom} {xs:List Zb} {a o c:Int} (h:Z3 m sizes qa xs a o c) (hl:xs.length≤100):-200000000000≤c∧c≤200000000000:=by
 have:=runS_b (B:=0) h (by omega) (by omega)
 omega
structure Held (m:Zd) (sizes:List Int) (qa:List Atom) (M:Int) (E:List Za):Prop where
 ne:E≠[]
 up:E.Pairwise fun a b=>a.Order<b.Order
 mask:∀ e∈E,e.Mask=M
 ord:∀ e∈E,-1≤e.Order∧e.Order≤3
 makes:∀ e∈E,Z3 m sizes qa e.Plan.Steps M e.Order e.Cost
 len:∀ e∈E,1≤e.Plan.Steps.length∧e.Plan.Steps.length+3≤4*popc M
theorem up_len:∀ {E:List Za} {lo:Int},E.Pairwise (fun a b=>a.Order<b.Order)→(∀ e∈E,lo≤e.Order∧e.Order≤3)→lo≤4→(E.length:Int)≤4 - lo
 | [],lo,_,_,h=>by simp;omega
 | e::E,lo,hp,ho,h=>by
  rw [List.pairwise_cons] at hp
  have he:=ho e (by simp)
  have:=up_len (lo:=e.Order+1) hp.2 (fun x hx=>⟨by have:=hp.1 x hx;omega,(ho x (by simp [hx])).2⟩) (by omega)
  simp only [List.length_cons]
  omega
theorem Held.le {m:Zd} {sizes:List Int} {qa:List Atom} {M:Int} {E:List Za} (h:Held m sizes qa M E):E.length≤5:=by
 have:=up_len (lo:=-1) h.up h.ord (by omega)
 omega
theorem Zqr:∀ {E:List Za} {e:Za},E.Pairwise (fun a b=>a.Order<b.Order)→e∈E→ofO E e.Order=some e
 | a::E,e,hp,he=>by
  rw [List.pairwise_cons] at hp
  rcases List.mem_cons.1 he with rfl | he
  ·simp [ofO]
  ·have:¬ a.Order=e.Order:=by have:=hp.1 e he;omega
   have ih:=Zqr hp.2 he
   unfold ofO at ih ⊢
   rw [List.find?_cons]
   simp [this,ih]
theorem Z7f {c v:Int}:∀ {E:List Za},E.Pairwise (fun a b=>a.Order<b.Order)→E.find? (fun e=>decide (e.Order=v) && decide (e.Cost≤c))=match ofO E v with
  | some e=>if e.Cost≤c then some e else none
  | none=>none
 | [],_=>by simp [ofO]
 | a::E,hp=>by
  rw [List.pairwise_cons] at hp
  have ih:=Z7f (c:=c) (v:=v) hp.2
  unfold ofO at ih ⊢
  rw [List.find?_cons,List.find?_cons]
  by_cases e:a.Order=v
  ·by_cases e2:a.Cost≤c
   ·simp [e,e2]
   ·have hn:E.find? (fun e=>decide (e.Order=v) && decide (e.Cost≤c))=none:=by
     rw [List.find?_eq_none]
     intro x hx
     have:=hp.1 x hx
     simp
     omega
    simp [e,e2]
    intro x hx hxv
    have:=hp.1 x hx
    omega
  ·simp only [e,decide_false,Bool.false_and]
   exact ih
def srt (m:Zd) (sizes:List Int) (M:Int) (E:List Za) (v:Int):Za:=⟨M,v,w ((Zx E).Cost+Z6 m.Sort_ (szAt sizes M) 0 (szAt sizes M)),⟨sortS (Zx E).Plan.Steps v⟩⟩
def inp (m:Zd) (sizes:List Int) (M:Int) (E:List Za) (v:Int):Za:=match ofO E v with
 | some e=>if e.Cost≤(srt m sizes M E v).Cost then e else srt m sizes M E v
 | none=>srt m sizes M E v
def resI (x:List Zb):Option Za→AV×List Blk
 | some e=>(.agg (e.Plan.c.map .t),[])
 | none=>(.agg [.own 0],[.arr 194 3 true (x.map Zb.c)])
theorem Zblb (m:Zd) (hm:LeM m) (q:Zc) (hq:LeQ q) (sizes:List Int) (hs:Le sizes) (x:List Zb) (c:Int) (hc:Zb9 m q.Ze q.Atoms x sizes=c) (v:Int) (E:List Za) (hl:E.length≤5):∀ i,i≤E.length→Zi1 m q x sizes v E E.length i=some (resI x ((E.drop i).find? (fun e=>decide (e.Order=v) && decide (e.Cost≤c)))):=by
 have hcost:=Zwt m hm q hq ⟨x⟩ sizes hs
 rw [show Zb9 m q.Ze q.Atoms (Plan.mk x).Steps sizes=c from hc] at hcost
 refine down _ ?_ ?_
 ·simp only [List.drop_length,List.find?_nil]
  refine Zp6 _ _ _ _ _ _ _ _ _ ?_
  rw [if_neg (by omega)];rfl
 ·intro i hi ih
  have h4:=inc64 (i:=i) (by omega)
  rw [List.drop_eq_getElem_cons hi,List.find?_cons]
  have hw:w ((i:Int)+1)=((i+1:Nat):Int):=by rw [show w ((i:Int)+1)=(i:Int)+1 from h4];simp
  by_cases e:E[i].Order=v
  ·by_cases e2:E[i].Cost≤c
   ·simp only [e,e2,decide_true,Bool.and_self]
    refine Zp6 _ _ _ _ _ _ _ _ _ ?_
    rw [if_pos (by omega)]
    refine ⟨by omega,E[i],by rw [Int.toNat_natCast];exact List.getElem?_eq_getElem hi,?_⟩
    rw [if_pos e]
    exact ⟨c,hcost,by rw [if_pos e2];rfl⟩
   ·simp only [e,e2,decide_true,decide_false,Bool.and_false]
    refine Zp6 _ _ _ _ _ _ _ _ _ ?_
    rw [if_pos (by omega)]
    refine ⟨by omega,E[i],by rw [Int.toNat_natCast];exact List.getElem?_eq_getElem hi,?_⟩
    rw [if_pos e]
    exact ⟨c,hcost,by rw [if_neg e2,hw];exact ih⟩
  ·simp only [e,decide_false,Bool.false_and]
   refine Zp6 _ _ _ _ _ _ _ _ _ ?_
   rw [if_pos (by omega)]
   refine ⟨by omega,E[i],by rw [Int.toNat_natCast];exact List.getElem?_eq_getElem hi,?_⟩
   rw [if_neg e,hw]
   exact ih
theorem Held.best {m:Zd} {sizes:List Int} {qa:List Atom} {M:Int} {E:List Za} (h:Held m sizes qa M E):Zx E∈E:=Zwx h.ne
theorem Zcl {M:Int} (h:M16 M):popc M≤4:=by
 obtain ⟨a,rfl⟩:=m16 h
 exact (f_pop a).2.2.2
theorem Held.srt_makes {m:Zd} {sizes:List Int} {qa:List Atom} {M:Int} {E:List Za} (h:Held m sizes qa M E) {v:Int} (hv:vin qa M v=true) (hb:(Zx E).Order≠v):Z3 m sizes qa (srt m sizes M E v).Plan.Steps M v (srt m sizes M E v).Cost:=Zbk5 (h.makes _ h.best) hv hb
theorem Zwy (m:Zd) (hm:LeM m) (hg:Zbc m.Sort_) (q:Zc) (hq:LeQ q) (hv:Zn q.Ze q.Atoms=true) (sizes:List Int) (hs:Le sizes) (hcl:Zcc sizes) (hsv:Zbn q.Ze q.Atoms sizes=true) {M:Int} (hM:M16 M) {E:List Za} (h:Held m sizes q.Atoms M E) {v:Int} (hvn:vin q.Atoms M v=true) :
  Zdg m q sizes E v=some (.agg ((inp m sizes M E v).Plan.c.map .t),[])∨Zdg m q sizes E v=some (.agg [.own 0],[.arr 194 3 true ((inp m sizes M E v).Plan.Steps.map Zb.c)]):=by
 have h4:=Zcl hM
 have hlen:=h.len _ h.best
 by_cases e:(Zx E).Order=v
 ·left
  have ho:=Zqr h.up h.best
  rw [e] at ho
  have hb:=(h.makes _ h.best).bound (by omega)
  have hp:=Z7e hg hcl M M
  have hu:=Zh5 m.Sort_ (szAt sizes M) 0 (szAt sizes M)
  have:inp m sizes M E v=Zx E:=by
   unfold inp
   rw [ho]
   simp only
   rw [if_pos]
   unfold srt
   simp only
   rw [w_id (by omega) (by omega)]
   omega
  rw [this]
  exact Z34 _ _ _ _ _ _ ⟨_,Zqp E h.ne (by have:=h.le;omega),by rw [if_pos e]⟩
 ·have hc:=Z3.cost (h.srt_makes hvn e) hv (by simp only [srt,sortS,List.length_append,List.length_cons,List.length_nil];omega) hsv
  have hloop:=Zblb m hm q hq sizes hs _ _ hc v E h.le 0 (Nat.zero_le _)
  rw [List.drop_zero,Z7f h.up] at hloop
  have hx:Zdg m q sizes E v=some (resI (srt m sizes M E v).Plan.Steps (match ofO E v with
   | some e=>if e.Cost≤(srt m sizes M E v).Cost then some e else none
   | none=>none)):=Z34 _ _ _ _ _ _ ⟨_,Zqp E h.ne (by have:=h.le;omega),by
    rw [if_neg e]
    exact ⟨_,Zbk1 _ _ (by omega),hloop⟩⟩
  rw [hx]
  unfold inp
  cases ofO E v with
  | none=>exact .inr rfl
  | some y =>
   simp only
   split
   ·exact .inl rfl
   ·exact .inr rfl
theorem Zwz (m:Zd) (hm:LeM m) (sizes:List Int) (fr:Bool) (l:List Za) (hl:l.length≤1000) {M:Int} (h0:0≤M) (hM:sizes[M.toNat]?=some (szAt sizes M)) (hne:ofM l M≠[]) (hlen:(Zx (ofM l M)).Plan.Steps.length≤1000) (v:Int) :
  Zes sizes fr l m M v=some (.agg ((inp m sizes M (ofM l M) v).c.map .t),[.arr 3 1 true (sizes.map ic),.arr 145 4 fr (l.map Za.c)]) ∨
  Zes sizes fr l m M v=some (.agg [I (inp m sizes M (ofM l M) v).Mask,I (inp m sizes M (ofM l M) v).Order,I (inp m sizes M (ofM l M) v).Cost,.own 2],[.arr 3 1 true (sizes.map ic),.arr 145 4 fr (l.map Za.c),.arr 194 3 true ((inp m sizes M (ofM l M) v).Plan.Steps.map Zb.c)]):=by
 obtain ⟨k1,k2⟩:=Zqq hne
 have hf:=Z7b l M v
 unfold inp
 cases ho:ofO (ofM l M) v with
 | none =>
  rw [ho] at hf
  simp only at hf
  refine .inr (Zwh _ _ _ _ _ _ _ ⟨_,x_low l M hl,k1,_,k2,h0,_,hM,_,Zd9 _ hm.2.1 _ _ _,_,Zqn l M v hl,?_⟩)
  rw [hf,if_neg (by omega)]
  exact ⟨_,Z61 _ _ hlen,rfl⟩
 | some e =>
  rw [ho] at hf
  simp only at hf
  simp only
  by_cases hc:e.Cost≤(srt m sizes M (ofM l M) v).Cost
  ·rw [if_pos hc]
   refine .inl (Zwh _ _ _ _ _ _ _ ⟨_,x_low l M hl,k1,_,k2,h0,_,hM,_,Zd9 _ hm.2.1 _ _ _,_,Zqn l M v hl,?_⟩)
   rw [if_pos hf.1]
   exact ⟨_,hf.2,by rw [if_pos (show e.Cost≤w ((Zx (ofM l M)).Cost+Z6 m.Sort_ (szAt sizes M) 0 (szAt sizes M)) from hc)]⟩
  ·rw [if_neg hc]
   refine .inr (Zwh _ _ _ _ _ _ _ ⟨_,x_low l M hl,k1,_,k2,h0,_,hM,_,Zd9 _ hm.2.1 _ _ _,_,Zqn l M v hl,?_⟩)
   rw [if_pos hf.1]
   exact ⟨_,hf.2,by rw [if_neg (show ¬ e.Cost≤w ((Zx (ofM l M)).Cost+Z6 m.Sort_ (szAt sizes M) 0 (szAt sizes M)) from hc)];exact ⟨_,Z61 _ _ hlen,rfl⟩⟩
def jc (m:Zd) (sizes:List Int) (a b:Za) (k:Int):Int:=w (w (a.Cost+b.Cost)+Z6 (mOp m k) (szAt sizes a.Mask) (szAt sizes b.Mask) (szAt sizes (orI a.Mask b.Mask)))
theorem Znh {l:List Za} {i:Nat} {e:Za} (h:l[i]?=some e):l.set i e=l:=by
 obtain ⟨h1,rfl⟩:=List.getElem?_eq_some_iff.1 h
 exact List.set_getElem_self h1
theorem Zw0 (m:Zd) (hm:LeM m) (sizes:List Int) (mine:List Za) (a b:Za) (k v o:Int) (ho:-1≤o∧o≤3) {e:Za} (he:mine[(o+1).toNat]?=some e) (ha:0≤a.Mask∧sizes[a.Mask.toNat]?=some (szAt sizes a.Mask)) (hb:0≤b.Mask∧sizes[b.Mask.toNat]?=some (szAt sizes b.Mask)) (hab:0≤orI a.Mask b.Mask∧sizes[(orI a.Mask b.Mask).toNat]?=some (szAt sizes (orI a.Mask b.Mask))) (la:a.Plan.Steps.length≤1000) (lb:b.Plan.Steps.length≤1000) :
  Zhx sizes mine m a b k v o=some (.tup [],[.arr 3 1 true (sizes.map ic),.arr 145 4 true ((mine.set (o+1).toNat (offE e (orI a.Mask b.Mask) o (jc m sizes a b k) (Zbr a.Plan.Steps b.Plan.Steps k v))).map Za.c)]):=by
 have hw:w (o+1)=o+1:=w_id (by omega) (by omega)
 refine Zbig _ _ _ _ _ _ _ _ _ ⟨mOp m k,Zkf m k,ha.1,_,ha.2,hb.1,_,hb.2,hab.1,_,hab.2,_,Zd9 _ (hm.op k) _ _ _,by omega,e,by rw [hw];exact he,?_⟩
 rw [hw]
 by_cases e0:e.Mask=0
 ·rw [if_pos e0]
  refine ⟨_,Zgk a.Plan b.Plan _ _ la lb,?_⟩
  simp [offE,e0,jc]
 ·rw [if_neg e0]
  by_cases e1:jc m sizes a b k<e.Cost
  ·have e2:=e1
   unfold jc at e2
   rw [if_pos e2]
   refine ⟨_,Zgk a.Plan b.Plan _ _ la lb,?_⟩
   unfold offE
   rw [if_neg e0,if_pos e1]
   rfl
  ·have e2:=e1
   unfold jc at e2
   rw [if_neg e2]
   unfold offE
   rw [if_neg e0,if_neg e1,Znh he]
theorem Zblc (m:Zd) (hm:LeM m) (sizes:List Int) (mine:List Za) (a b:Za) (k v o:Int) (ho:-1≤o∧o≤3) {e:Za} (he:mine[(o+1).toNat]?=some e) (ha:0≤a.Mask∧sizes[a.Mask.toNat]?=some (szAt sizes a.Mask)) (hb:0≤b.Mask∧sizes[b.Mask.toNat]?=some (szAt sizes b.Mask)) (hab:0≤orI a.Mask b.Mask∧sizes[(orI a.Mask b.Mask).toNat]?=some (szAt sizes (orI a.Mask b.Mask))) (la:a.Plan.Steps.length≤1000) (lb:b.Plan.Steps.length≤1000) :
  Zps sizes mine b.Plan.Steps m a b.Mask b.Order b.Cost k v o=some (.tup [],[.arr 3 1 true (sizes.map ic),.arr 145 4 true ((mine.set (o+1).toNat (offE e (orI a.Mask b.Mask) o (jc m sizes a b k) (Zbr a.Plan.Steps b.Plan.Steps k v))).map Za.c),.arr 194 3 true (b.Plan.Steps.map Zb.c)]):=by
 have hw:w (o+1)=o+1:=w_id (by omega) (by omega)
 refine Zbij _ _ _ _ _ _ _ _ _ _ _ _ ⟨mOp m k,Zkf m k,ha.1,_,ha.2,hb.1,_,hb.2,hab.1,_,hab.2,_,Zd9 _ (hm.op k) _ _ _,by omega,e,by rw [hw];exact he,?_⟩
 rw [hw]
 by_cases e0:e.Mask=0
 ·rw [if_pos e0]
  refine ⟨_,Zgk a.Plan ⟨b.Plan.Steps⟩ _ _ la lb,?_⟩
  simp [offE,e0,jc]
 ·rw [if_neg e0]
  by_cases e1:jc m sizes a b k<e.Cost
  ·have e2:=e1
   unfold jc at e2
   rw [if_pos e2]
   refine ⟨_,Zgk a.Plan ⟨b.Plan.Steps⟩ _ _ la lb,?_⟩
   unfold offE
   rw [if_neg e0,if_pos e1]
   rfl
  ·have e2:=e1
   unfold jc at e2
   rw [if_neg e2]
   unfold offE
   rw [if_neg e0,if_neg e1,Znh he]
theorem Zbld (m:Zd) (hm:LeM m) (sizes:List Int) (mine:List Za) (a b:Za) (k v o:Int) (ho:-1≤o∧o≤3) {e:Za} (he:mine[(o+1).toNat]?=some e) (ha:0≤a.Mask∧sizes[a.Mask.toNat]?=some (szAt sizes a.Mask)) (hb:0≤b.Mask∧sizes[b.Mask.toNat]?=some (szAt sizes b.Mask)) (hab:0≤orI a.Mask b.Mask∧sizes[(orI a.Mask b.Mask).toNat]?=some (szAt sizes (orI a.Mask b.Mask))) (la:a.Plan.Steps.length≤1000) (lb:b.Plan.Steps.length≤1000) :
  Zpt sizes mine a.Plan.Steps m a.Mask a.Order a.Cost b k v o=some (.tup [],[.arr 3 1 true (sizes.map ic),.arr 145 4 true ((mine.set (o+1).toNat (offE e (orI a.Mask b.Mask) o (jc m sizes a b k) (Zbr a.Plan.Steps b.Plan.Steps k v))).map Za.c),.arr 194 3 true (a.Plan.Steps.map Zb.c)]):=by
 have hw:w (o+1)=o+1:=w_id (by omega) (by omega)
 refine Zbik _ _ _ _ _ _ _ _ _ _ _ _ ⟨mOp m k,Zkf m k,ha.1,_,ha.2,hb.1,_,hb.2,hab.1,_,hab.2,_,Zd9 _ (hm.op k) _ _ _,by omega,e,by rw [hw];exact he,?_⟩
 rw [hw]
 by_cases e0:e.Mask=0
 ·rw [if_pos e0]
  refine ⟨_,Zgk ⟨a.Plan.Steps⟩ b.Plan _ _ la lb,?_⟩
  simp [offE,e0,jc]
 ·rw [if_neg e0]
  by_cases e1:jc m sizes a b k<e.Cost
  ·have e2:=e1
   unfold jc at e2
   rw [if_pos e2]
   refine ⟨_,Zgk ⟨a.Plan.Steps⟩ b.Plan _ _ la lb,?_⟩
   unfold offE
   rw [if_neg e0,if_pos e1]
   rfl
  ·have e2:=e1
   unfold jc at e2
   rw [if_neg e2]
   unfold offE
   rw [if_neg e0,if_neg e1,Znh he]
theorem Zble (m:Zd) (hm:LeM m) (sizes:List Int) (mine:List Za) (a b:Za) (k v o:Int) (ho:-1≤o∧o≤3) {e:Za} (he:mine[(o+1).toNat]?=some e) (ha:0≤a.Mask∧sizes[a.Mask.toNat]?=some (szAt sizes a.Mask)) (hb:0≤b.Mask∧sizes[b.Mask.toNat]?=some (szAt sizes b.Mask)) (hab:0≤orI a.Mask b.Mask∧sizes[(orI a.Mask b.Mask).toNat]?=some (szAt sizes (orI a.Mask b.Mask))) (la:a.Plan.Steps.length≤1000) (lb:b.Plan.Steps.length≤1000) :
  Zpu sizes mine a.Plan.Steps b.Plan.Steps m a.Mask a.Order a.Cost b.Mask b.Order b.Cost k v o=some (.tup [],[.arr 3 1 true (sizes.map ic),.arr 145 4 true ((mine.set (o+1).toNat (offE e (orI a.Mask b.Mask) o (jc m sizes a b k) (Zbr a.Plan.Steps b.Plan.Steps k v))).map Za.c),.arr 194 3 true (a.Plan.Steps.map Zb.c),.arr 194 3 true (b.Plan.Steps.map Zb.c)]):=by
 have hw:w (o+1)=o+1:=w_id (by omega) (by omega)
 refine Zbil _ _ _ _ _ _ _ _ _ _ _ _ _ _ _ ⟨mOp m k,Zkf m k,ha.1,_,ha.2,hb.1,_,hb.2,hab.1,_,hab.2,_,Zd9 _ (hm.op k) _ _ _,by omega,e,by rw [hw];exact he,?_⟩
 rw [hw]
 by_cases e0:e.Mask=0
 ·rw [if_pos e0]
  refine ⟨_,Zgk ⟨a.Plan.Steps⟩ ⟨b.Plan.Steps⟩ _ _ la lb,?_⟩
  simp [offE,e0,jc]
 ·rw [if_neg e0]
  by_cases e1:jc m sizes a b k<e.Cost
  ·have e2:=e1
   unfold jc at e2
   rw [if_pos e2]
   refine ⟨_,Zgk ⟨a.Plan.Steps⟩ ⟨b.Plan.Steps⟩ _ _ la lb,?_⟩
   unfold offE
   rw [if_neg e0,if_pos e1]
   rfl
  ·have e2:=e1
   unfold jc at e2
   rw [if_neg e2]
   unfold offE
   rw [if_neg e0,if_neg e1,Znh he]
def Zef {α:Type} (f:α→Za→α) (E:List Za):Nat→Int→α→α
 | 0,_,x=>x
 | n+1,o,x=>Zef f E n (o+1) (match ofO E o with | some e=>f x e | none=>x)
theorem Z7g {α:Type} (f:α→Za→α) {E F:List Za}:∀ (n:Nat) (o:Int) (x:α),(∀ p,o≤p→ofO E p=ofO F p)→Zef f E n o x=Zef f F n o x
 | 0,_,_,_=>rfl
 | n+1,o,x,h=>by
  rw [Zef,Zef,h o (Int.le_refl o)]
  exact Z7g f n (o+1) _ (fun p hp=>h p (by omega))
theorem Z7h {α:Type} (f:α→Za→α):∀ (n:Nat) (o:Int) (x:α),Zef f [] n o x=x
 | 0,_,_=>rfl
 | n+1,o,x=>by rw [Zef];exact Z7h f n (o+1) x
theorem Zw1 {α:Type} (f:α→Za→α):∀ (n:Nat) (E:List Za) (o:Int) (x:α),E.Pairwise (fun a b=>a.Order<b.Order)→(∀ e∈E,o≤e.Order∧e.Order<o+n)→Zef f E n o x=E.foldl f x
 | 0,[],_,_,_,_=>rfl
 | 0,e::E,o,x,_,h=>by have:=h e (by simp);omega
 | n+1,[],o,x,_,_=>Z7h f (n+1) o x
 | n+1,e::E,o,x,hp,h=>by
  have hc:=List.pairwise_cons.1 hp
  have he:=h e (by simp)
  rw [Zef]
  by_cases eo:e.Order=o
  ·have h1:ofO (e::E) o=some e:=by simp [ofO,eo]
   rw [h1,List.foldl_cons]
   simp only
   rw [Z7g f (F:=E) n (o+1) (f x e) (fun p hpo=>by unfold ofO;rw [List.find?_cons];simp [show ¬ e.Order=p by omega])]
   exact Zw1 f n E (o+1) (f x e) hc.2 (fun y hy=>by have:=hc.1 y hy;have:=h y (by simp [hy]);omega)
  ·have h1:ofO (e::E) o=none:=by
    unfold ofO
    rw [List.find?_eq_none]
    intro y hy
    have:e.Order≤y.Order:=by
     rcases List.mem_cons.1 hy with rfl | hy
     ·exact Int.le_refl _
     ·have:=hc.1 y hy;omega
    simp
    omega
   rw [h1]
   simp only
   exact Zw1 f n (e::E) (o+1) x hp (fun y hy=>by
    have:=h y hy
    have:e.Order≤y.Order:=by
     rcases List.mem_cons.1 hy with rfl | hy
     ·exact Int.le_refl _
     ·have:=hc.1 y hy;omega
    omega)
def zE:Za:=⟨0,0,0,⟨[]⟩⟩
def offJ (m:Zd) (sizes:List Int) (a b:Za) (k v o:Int) (mine:List Za):List Za :=
 mine.set (o+1).toNat (offE ((mine[(o+1).toNat]?).getD zE) (orI a.Mask b.Mask) o (jc m sizes a b k) (Zbr a.Plan.Steps b.Plan.Steps k v))
def Zeg (m:Zd) (sizes:List Int) (b:Za) (mine:List Za) (e:Za):List Za:=offJ m sizes e b 5 0 e.Order mine
def Zex (m:Zd) (sizes:List Int) (A B:Int) (E F:List Za) (mine:List Za) (v:Int):List Za:=offJ m sizes (inp m sizes A E v) (inp m sizes B F v) 4 v v mine
def Zh6 (m:Zd) (sizes:List Int) (A B:Int) (sh:List Int) (E F:List Za) (mine:List Za):List Za :=
 sh.foldl (Zex m sizes A B E F) (E.foldl (Zeg m sizes (Zx F)) (offJ m sizes (Zx E) (Zx F) 3 0 (-1) mine))
theorem Zd3 {m:Zd} {sizes:List Int} {a b:Za} {k v o:Int} {mine:List Za}:(offJ m sizes a b k v o mine).length=mine.length:=by simp [offJ]
theorem Zqs {m:Zd} {sizes:List Int} {b:Za}:∀ {E mine:List Za},(E.foldl (Zeg m sizes b) mine).length=mine.length
 | [],_=>rfl
 | e::E,mine=>by rw [List.foldl_cons,Zqs];exact Zd3
theorem Z7i {m:Zd} {sizes:List Int} {A B:Int} {E F:List Za}:∀ {sh:List Int} {mine:List Za},(sh.foldl (Zex m sizes A B E F) mine).length=mine.length
 | [],_=>rfl
 | e::sh,mine=>by rw [List.foldl_cons,Z7i];exact Zd3
theorem Z7j {m:Zd} {sizes:List Int} {A B:Int} {sh:List Int} {E F mine:List Za}:(Zh6 m sizes A B sh E F mine).length=mine.length:=by
 unfold Zh6;rw [Z7i,Zqs,Zd3]
structure GoodE (m:Zd) (sizes:List Int) (qa:List Atom) (M:Int) (o:Int) (e:Za):Prop where
 mask:e.Mask=M
 ord:e.Order=o
 makes:Z3 m sizes qa e.Plan.Steps M o e.Cost
 len:1≤e.Plan.Steps.length∧e.Plan.Steps.length+3≤4*popc M
def Zcm (m:Zd) (sizes:List Int) (qa:List Atom) (M:Int) (mine:List Za):Prop :=
 mine.length=5∧∀ (k:Nat) (e:Za),mine[k]?=some e→e.Mask≠0→GoodE m sizes qa M ((k:Int) - 1) e
theorem Z7k (m:Zd) (sizes:List Int) (qa:List Atom) (M:Int):Zcm m sizes qa M (List.replicate 5 zE):=by
 refine ⟨by simp,fun k e h h0=>?_⟩
 rw [List.getElem?_replicate] at h
 split at h
 ·cases h;exact absurd rfl h0
 ·cases h
theorem Zblf {m:Zd} {sizes:List Int} {qa:List Atom} {M:Int} {mine:List Za} (h:Zcm m sizes qa M mine) {a b:Za} {k v o:Int} (ho:-1≤o∧o≤3) (hM:orI a.Mask b.Mask=M)
  (hmk:Z3 m sizes qa (Zbr a.Plan.Steps b.Plan.Steps k v) M o (jc m sizes a b k)) (hl:(Zbr a.Plan.Steps b.Plan.Steps k v).length+3≤4*popc M):Zcm m sizes qa M (offJ m sizes a b k v o mine):=by
 refine ⟨by rw [Zd3];exact h.1,fun j e hj h0=>?_⟩
 have h5:=h.1
 unfold offJ at hj
 have hlt:(o+1).toNat<mine.length:=by omega
 rw [List.getElem?_set] at hj
 by_cases ej:(o+1).toNat=j
 ·rw [if_pos ej,if_pos hlt] at hj
  cases hj
  have eo:(j:Int) - 1=o:=by omega
  rw [eo]
  rw [List.getElem?_eq_getElem hlt] at h0 ⊢
  simp only [Option.getD_some] at h0 ⊢
  have hold:=h.2 (o+1).toNat mine[(o+1).toNat] (List.getElem?_eq_getElem hlt)
  have eo2:(((o+1).toNat:Nat):Int) - 1=o:=by omega
  rw [eo2] at hold
  have hnew:GoodE m sizes qa M o ⟨orI a.Mask b.Mask,o,jc m sizes a b k,⟨Zbr a.Plan.Steps b.Plan.Steps k v⟩⟩:=⟨hM,rfl,hmk,by simp [Zbr];omega,hl⟩
  unfold offE
  split
  ·exact hnew
  ·rename_i hm0
   split
   ·exact hnew
   ·exact hold hm0
 ·rw [if_neg ej] at hj
  exact h.2 j e hj h0
theorem Zblg {m:Zd} {sizes:List Int} {qa:List Atom} {M:Int} {mine:List Za} (h:Zcm m sizes qa M mine) (hne:mine.filter sm≠[]):Held m sizes qa M (mine.filter sm):=by
 have hg:∀ e∈mine.filter sm,∃ o,(-1≤o∧o≤3)∧GoodE m sizes qa M o e:=by
  intro e he
  rw [List.mem_filter] at he
  obtain ⟨k,hk⟩:=List.mem_iff_getElem?.1 he.1
  have hlt:=(List.getElem?_eq_some_iff.1 hk).1
  have h5:=h.1
  have:e.Mask≠0:=by simpa [sm] using he.2
  exact ⟨(k:Int) - 1,by omega,h.2 k e hk this⟩
 refine ⟨hne,?_,?_,?_,?_,?_⟩
 ·rw [List.pairwise_filter,List.pairwise_iff_getElem]
  intro i j hi hj hij s1 s2
  have g1:=h.2 i _ (List.getElem?_eq_getElem hi) (by simpa [sm] using s1)
  have g2:=h.2 j _ (List.getElem?_eq_getElem hj) (by simpa [sm] using s2)
  rw [g1.ord,g2.ord]
  omega
 ·intro e he;obtain ⟨o,_,g⟩:=hg e he;exact g.mask
 ·intro e he;obtain ⟨o,ho,g⟩:=hg e he;rw [g.ord];exact ho
 ·intro e he;obtain ⟨o,_,g⟩:=hg e he;rw [g.ord];exact g.makes
 ·intro e he;obtain ⟨o,_,g⟩:=hg e he;exact g.len
theorem Zgl {m:Zd} {sizes:List Int} {qa:List Atom} {M:Int} {E:List Za} (h:Held m sizes qa M E) (hg:Zbc m.Sort_) (hcl:Zcc sizes) (hM:M16 M) {v:Int} (hv:vin qa M v=true) :
  (inp m sizes M E v).Mask=M∧(inp m sizes M E v).Order=v∧Z3 m sizes qa (inp m sizes M E v).Plan.Steps M v (inp m sizes M E v).Cost∧1≤(inp m sizes M E v).Plan.Steps.length∧(inp m sizes M E v).Plan.Steps.length+2≤4*popc M:=by
 have h4:=Zcl hM
 have hlen:=h.len _ h.best
 have hb:=(h.makes _ h.best).bound (by omega)
 have hp:=Z7e hg hcl M M
 have hu:=Zh5 m.Sort_ (szAt sizes M) 0 (szAt sizes M)
 have hsrt:(Zx E).Order≠v→(srt m sizes M E v).Mask=M∧(srt m sizes M E v).Order=v∧Z3 m sizes qa (srt m sizes M E v).Plan.Steps M v (srt m sizes M E v).Cost∧1≤(srt m sizes M E v).Plan.Steps.length∧(srt m sizes M E v).Plan.Steps.length+2≤4*popc M:=by
  intro hne
  refine ⟨rfl,rfl,h.srt_makes hv hne,?_,?_⟩ <;> simp only [srt,sortS,List.length_append,List.length_cons,List.length_nil] <;> omega
 unfold inp
 cases ho:ofO E v with
 | none =>
  refine hsrt (fun he=>?_)
  have:=Zqr h.up h.best
  rw [he,ho] at this
  cases this
 | some e =>
  have hmem:e∈E:=List.mem_of_find?_eq_some ho
  have hov:e.Order=v:=by have:=List.find?_some ho;simpa using this
  simp only
  by_cases hc:e.Cost≤(srt m sizes M E v).Cost
  ·rw [if_pos hc]
   have hm:=h.makes e hmem
   rw [hov] at hm
   have:=h.len e hmem
   exact ⟨h.mask e hmem,hov,hm,by omega,by omega⟩
  ·rw [if_neg hc]
   refine hsrt (fun he=>hc ?_)
   have hx:=Zqr h.up h.best
   rw [he,ho] at hx
   cases hx
   unfold srt
   simp only
   rw [w_id (by omega) (by omega)]
   omega
structure Pair (qa:List Atom) (A B M:Int):Prop where
 a16:M16 A
 b16:M16 B
 or:orI A B=M
 dis:andI A B=0
 shr:shr qa A B=true
 pop:popc A+popc B=popc M
theorem Zw2 {m:Zd} {sizes:List Int} {qa:List Atom} {A B M:Int} (hp:Pair qa A B M) {mine:List Za} (h:Zcm m sizes qa M mine) {a b:Za} {k v o oa ob:Int} (ho:-1≤o∧o≤3) (hk:3≤k) (ha:a.Mask=A) (hb:b.Mask=B) (ma:Z3 m sizes qa a.Plan.Steps A oa a.Cost) (mb:Z3 m sizes qa b.Plan.Steps B ob b.Cost) (hj:Zc7 qa ⟨k,0,v⟩ (A,oa) (B,ob)=some o) (hl:a.Plan.Steps.length+2≤4*popc A∧b.Plan.Steps.length+2≤4*popc B):Zcm m sizes qa M (offJ m sizes a b k v o mine):=by
 have hpop:=hp.pop
 refine Zblf h ho (by rw [ha,hb];exact hp.or) ?_ (by simp only [Zbr,List.length_append,List.length_cons,List.length_nil];omega)
 have:=Z66 (x:=⟨k,0,v⟩) ma mb hk rfl hp.dis hp.shr hj
 rw [hp.or] at this
 unfold jc
 rw [ha,hb,hp.or]
 exact this
theorem Z7l {m:Zd} {sizes:List Int} {qa:List Atom} {A B M:Int} (hp:Pair qa A B M) {b:Za} {ob:Int} (hb:b.Mask=B) (mb:Z3 m sizes qa b.Plan.Steps B ob b.Cost) (lb:b.Plan.Steps.length+2≤4*popc B):∀ {E mine:List Za},(∀ e∈E,e.Mask=A∧(-1≤e.Order∧e.Order≤3)∧Z3 m sizes qa e.Plan.Steps A e.Order e.Cost∧e.Plan.Steps.length+2≤4*popc A)→Zcm m sizes qa M mine→Zcm m sizes qa M (E.foldl (Zeg m sizes b) mine)
 | [],_,_,h=>h
 | e::E,mine,he,h=>by
  obtain ⟨e1,e2,e3,e4⟩:=he e (by simp)
  rw [List.foldl_cons]
  exact Z7l hp hb mb lb (fun x hx=>he x (by simp [hx])) (Zw2 hp h e2 (by omega) e1 hb e3 mb nest_p ⟨e4,lb⟩)
theorem Z7m {m:Zd} {sizes:List Int} {qa:List Atom} {A B M:Int} (hp:Pair qa A B M) (hg:Zbc m.Sort_) (hcl:Zcc sizes) {E F:List Za} (hE:Held m sizes qa A E) (hF:Held m sizes qa B F):∀ {sh:List Int} {mine:List Za},(∀ v∈sh,(-1≤v∧v≤3)∧vin qa A v=true∧vin qa B v=true)→Zcm m sizes qa M mine→Zcm m sizes qa M (sh.foldl (Zex m sizes A B E F) mine)
 | [],_,_,h=>h
 | v::sh,mine,hv,h=>by
  obtain ⟨v1,v2,v3⟩:=hv v (by simp)
  obtain ⟨a1,a2,a3,a4,a5⟩:=Zgl hE hg hcl hp.a16 v2
  obtain ⟨b1,b2,b3,b4,b5⟩:=Zgl hF hg hcl hp.b16 v3
  rw [List.foldl_cons]
  exact Z7m hp hg hcl hE hF (fun x hx=>hv x (by simp [hx])) (Zw2 hp h v1 (by omega) a1 b1 a3 b3 (Z67 v2 v3 rfl rfl) ⟨a5,b5⟩)
theorem Zblh {m:Zd} {sizes:List Int} {qa:List Atom} {A B M:Int} (hp:Pair qa A B M) (hg:Zbc m.Sort_) (hcl:Zcc sizes) {E F:List Za} (hE:Held m sizes qa A E) (hF:Held m sizes qa B F) {sh:List Int} {mine:List Za} (hv:∀ v∈sh,(-1≤v∧v≤3)∧vin qa A v=true∧vin qa B v=true) (h:Zcm m sizes qa M mine):Zcm m sizes qa M (Zh6 m sizes A B sh E F mine):=by
 have lE:=hE.len _ hE.best
 have lF:=hF.len _ hF.best
 have mE:=hE.makes _ hE.best
 have mF:=hF.makes _ hF.best
 unfold Zh6
 refine Z7m hp hg hcl hE hF hv (Z7l hp (hF.mask _ hF.best) mF (by omega) (fun e he=>⟨hE.mask e he,hE.ord e he,hE.makes e he,by have:=hE.len e he;omega⟩) ?_)
 exact Zw2 hp h (by omega) (by omega) (hE.mask _ hE.best) (hF.mask _ hF.best) mE mF hash_p ⟨by omega,by omega⟩
def pos (e:Za):Bool:=decide (0<e.Mask)
theorem Zbli (mine:List Za) (h5:mine.length=5) (sizes:List Int) (fr1:Bool) (l:List Za):∀ i:Nat,i≤5→∀ (fr:Bool) (out:List Za),out.length≤i→∃ fr',Zhy mine fr out sizes fr1 l i=some (.own 2,[.arr 3 1 true (sizes.map ic),.arr 145 4 fr1 (l.map Za.c),.arr 145 4 fr' ((out++(mine.drop i).filter pos).map Za.c)]):=by
 refine down _ ?_ ?_
 ·intro fr out ho
  refine ⟨fr,Zwi _ _ _ _ _ _ _ _ ?_⟩
  rw [if_neg (by omega),List.drop_of_length_le (by omega)]
  simp
 ·intro i hi ih fr out ho
  have h4:=inc64 (i:=i) (by omega)
  have hlt:i<mine.length:=by omega
  have hw:w ((i:Int)+1)=((i+1:Nat):Int):=by rw [show w ((i:Int)+1)=(i:Int)+1 from h4];simp
  rw [List.drop_eq_getElem_cons hlt,List.filter_cons]
  by_cases e:0<mine[i].Mask
  ·obtain ⟨fr',h⟩:=ih false (out++[mine[i]]) (by simp;omega)
   refine ⟨fr',Zwi _ _ _ _ _ _ _ _ ?_⟩
   rw [if_pos (by omega)]
   refine ⟨by omega,mine[i],by rw [Int.toNat_natCast];exact List.getElem?_eq_getElem hlt,?_⟩
   rw [if_pos e,hw]
   refine ⟨by omega,?_⟩
   simpa [pos,e] using h
  ·obtain ⟨fr',h⟩:=ih fr out (by omega)
   refine ⟨fr',Zwi _ _ _ _ _ _ _ _ ?_⟩
   rw [if_pos (by omega)]
   refine ⟨by omega,mine[i],by rw [Int.toNat_natCast];exact List.getElem?_eq_getElem hlt,?_⟩
   rw [if_neg e,hw]
   simpa [pos,e] using h
theorem Zblj {m:Zd} {sizes:List Int} {qa:List Atom} {M:Int} {mine:List Za} (h:Zcm m sizes qa M mine) (hM:0<M):mine.filter pos=mine.filter sm:=by
 refine List.filter_congr fun e he=>?_
 obtain ⟨k,hk⟩:=List.mem_iff_getElem?.1 he
 by_cases h0:e.Mask=0
 ·simp [pos,sm,h0]
 ·have:=(h.2 k e hk h0).mask
  simp [pos,sm,h0];omega
def SzOk (sizes:List Int) (M:Int):Prop:=0≤M∧sizes[M.toNat]?=some (szAt sizes M)
theorem Zw3 {m:Zd} {sizes:List Int} {a b:Za} {k v o:Int} {mine:List Za} {e:Za} (he:mine[(o+1).toNat]?=some e):mine.set (o+1).toNat (offE e (orI a.Mask b.Mask) o (jc m sizes a b k) (Zbr a.Plan.Steps b.Plan.Steps k v))=offJ m sizes a b k v o mine:=by
 simp [offJ,he]
theorem l_merges (m:Zd) (hm:LeM m) (hg:Zbc m.Sort_) (sizes:List Int) (hcl:Zcc sizes) (qa:List Atom) (fr:Bool) (l:List Za) (hl:l.length≤1000) {A B M:Int} (hp:Pair qa A B M) (hE:Held m sizes qa A (ofM l A)) (hF:Held m sizes qa B (ofM l B)) (zA:SzOk sizes A) (zB:SzOk sizes B) (zM:SzOk sizes M) (x:Zu) (k:Nat) (sh:List Int) (hsh:x.shared[k]?=some sh) (hl4:sh.length≤1000) (hv:∀ v∈sh,(-1≤v∧v≤3)∧vin qa A v=true∧vin qa B v=true) (r:AV×List Blk):∀ i,i≤sh.length→∀ mine:List Za,mine.length=5→Zjx sizes fr l m x ((sh.drop i).foldl (Zex m sizes A B (ofM l A) (ofM l B)) mine) (w ((k:Int)+1))=some r→Zfk sizes fr l m x mine k A B i=some r:=by
 have pA:=Zcl hp.a16
 have pB:=Zcl hp.b16
 refine down _ ?_ ?_
 ·intro mine h5 h
  refine Z5h _ _ _ _ _ _ _ _ _ _ _ ⟨by omega,sh,by rw [Int.toNat_natCast];exact hsh,?_⟩
  rw [if_neg (by omega)]
  simpa using h
 ·intro i hi ih mine h5 h
  have h4:=inc64 (i:=i) (by omega)
  have hw:w ((i:Int)+1)=((i+1:Nat):Int):=by rw [show w ((i:Int)+1)=(i:Int)+1 from h4];simp
  rw [List.drop_eq_getElem_cons hi,List.foldl_cons] at h
  have ih:=ih _ (by rw [show (Zex m sizes A B (ofM l A) (ofM l B) mine sh[i]).length=mine.length from Zd3];exact h5) h
  obtain ⟨v1,v2,v3⟩:=hv sh[i] (List.getElem_mem hi)
  obtain ⟨a1,a2,a3,a4,a5⟩:=Zgl hE hg hcl hp.a16 v2
  obtain ⟨b1,b2,b3,b4,b5⟩:=Zgl hF hg hcl hp.b16 v3
  have hlt:(sh[i]+1).toNat<mine.length:=by omega
  have he:mine[(sh[i]+1).toNat]?=some mine[(sh[i]+1).toNat]:=List.getElem?_eq_getElem hlt
  have ea:0≤(inp m sizes A (ofM l A) sh[i]).Mask∧sizes[(inp m sizes A (ofM l A) sh[i]).Mask.toNat]?=some (szAt sizes (inp m sizes A (ofM l A) sh[i]).Mask):=by rw [a1];exact zA
  have eb:0≤(inp m sizes B (ofM l B) sh[i]).Mask∧sizes[(inp m sizes B (ofM l B) sh[i]).Mask.toNat]?=some (szAt sizes (inp m sizes B (ofM l B) sh[i]).Mask):=by rw [b1];exact zB
  have eab:0≤orI (inp m sizes A (ofM l A) sh[i]).Mask (inp m sizes B (ofM l B) sh[i]).Mask∧sizes[(orI (inp m sizes A (ofM l A) sh[i]).Mask (inp m sizes B (ofM l B) sh[i]).Mask).toNat]?=some (szAt sizes (orI (inp m sizes A (ofM l A) sh[i]).Mask (inp m sizes B (ofM l B) sh[i]).Mask)):=by rw [a1,b1,hp.or];exact zM
  have la:(inp m sizes A (ofM l A) sh[i]).Plan.Steps.length≤1000:=by omega
  have lb:(inp m sizes B (ofM l B) sh[i]).Plan.Steps.length≤1000:=by omega
  have o0:=Zw0 m hm sizes mine _ _ 4 sh[i] sh[i] v1 he ea eb eab la lb
  have o1:=Zblc m hm sizes mine _ _ 4 sh[i] sh[i] v1 he ea eb eab la lb
  have o2:=Zbld m hm sizes mine _ _ 4 sh[i] sh[i] v1 he ea eb eab la lb
  have o3:=Zble m hm sizes mine _ _ 4 sh[i] sh[i] v1 he ea eb eab la lb
  rw [Zw3 he] at o0 o1 o2 o3
  refine Z5h _ _ _ _ _ _ _ _ _ _ _ ⟨by omega,sh,by rw [Int.toNat_natCast];exact hsh,?_⟩
  rw [if_pos (by omega)]
  refine ⟨by omega,sh[i],by rw [Int.toNat_natCast];exact List.getElem?_eq_getElem hi,?_⟩
  rw [hw]
  have bA:=hE.len _ hE.best
  have bB:=hF.len _ hF.best
  rcases Zwz m hm sizes fr l hl zA.1 zA.2 hE.ne (by omega) sh[i] with ha | ha
  ·refine .inl ⟨_,ha,?_⟩
   rcases Zwz m hm sizes fr l hl zB.1 zB.2 hF.ne (by omega) sh[i] with hb | hb
   ·exact .inl ⟨_,hb,_,_,o0,ih⟩
   ·exact .inr ⟨_,_,_,_,hb,_,_,_,o1,ih⟩
  ·refine .inr ⟨_,_,_,_,ha,?_⟩
   rcases Zwz m hm sizes fr l hl zB.1 zB.2 hF.ne (by omega) sh[i] with hb | hb
   ·exact .inl ⟨_,hb,_,_,_,o2,ih⟩
   ·exact .inr ⟨_,_,_,_,hb,_,_,_,_,o3,ih⟩
theorem Zw4 (m:Zd) (hm:LeM m) (sizes:List Int) (qa:List Atom) (fr:Bool) (l:List Za) (hl:l.length≤1000) {A B M:Int} (hp:Pair qa A B M) (hE:Held m sizes qa A (ofM l A)) (b:Za) (hb:b.Mask=B) (lb:b.Plan.Steps.length≤1000) (zA:SzOk sizes A) (zB:SzOk sizes B) (zM:SzOk sizes M) (x:Zu) (k:Int) (r:AV×List Blk):∀ n:Nat,n≤5→∀ mine:List Za,mine.length=5→Zfk sizes fr l m x (Zef (Zeg m sizes b) (ofM l A) n (4 - n) mine) k A B 0=some r→Zjy sizes fr l m x mine b k A B (4 - n)=some r
 | 0,_,mine,h5,h=>by
  refine Z5g _ _ _ _ _ _ _ _ _ _ _ _ ?_
  rw [if_neg (by omega)]
  exact h
 | n+1,hn,mine,h5,h=>by
  have pA:=Zcl hp.a16
  have hw:w ((4:Int) - ((n+1:Nat):Int)+1)=4 - (n:Int):=by rw [w_id (by omega) (by omega)];omega
  rw [Zef,show (4:Int) - ((n+1:Nat):Int)+1=4 - (n:Int) by omega] at h
  have hf:=Z7b l A (4 - ((n+1:Nat):Int))
  refine Z5g _ _ _ _ _ _ _ _ _ _ _ _ ?_
  rw [if_pos (by omega),hw]
  refine ⟨_,Zqn l A _ hl,?_⟩
  cases ho:ofO (ofM l A) (4 - ((n+1:Nat):Int)) with
  | none =>
   rw [ho] at hf h
   simp only at hf h
   rw [hf,if_neg (by omega)]
   exact Zw4 m hm sizes qa fr l hl hp hE b hb lb zA zB zM x k r n (by omega) mine h5 h
  | some e =>
   rw [ho] at hf h
   simp only at hf h
   have hmem:e∈ofM l A:=List.mem_of_find?_eq_some ho
   have hov:e.Order=4 - ((n+1:Nat):Int):=by have:=List.find?_some ho;simpa using this
   have le:=hE.len e hmem
   have me:=hE.mask e hmem
   have hlt:((4 - ((n+1:Nat):Int))+1).toNat<mine.length:=by omega
   have he:=List.getElem?_eq_getElem hlt
   have o0:=Zw0 m hm sizes mine e b 5 0 (4 - ((n+1:Nat):Int)) (by omega) he (by rw [me];exact zA) (by rw [hb];exact zB) (by rw [me,hb,hp.or];exact zM) (by omega) lb
   rw [Zw3 he] at o0
   rw [if_pos hf.1]
   refine ⟨e,hf.2,_,_,o0,?_⟩
   rw [show Zeg m sizes b mine e=offJ m sizes e b 5 0 (4 - ((n+1:Nat):Int)) mine by rw [Zeg,hov]] at h
   exact Zw4 m hm sizes qa fr l hl hp hE b hb lb zA zB zM x k r n (by omega) _ (by rw [Zd3];exact h5) h
def oneJ (m:Zd) (sizes:List Int) (M:Int) (l:List Za) (mine:List Za) (p:Int×List Int):List Za:=Zh6 m sizes p.1 (M - p.1) p.2 (ofM l p.1) (ofM l (M - p.1)) mine
structure Zh7 (m:Zd) (sizes:List Int) (qa:List Atom) (l:List Za) (M A:Int) (sh:List Int):Prop where
 pair:Pair qa A (M - A) M
 left:Held m sizes qa A (ofM l A)
 right:Held m sizes qa (M - A) (ofM l (M - A))
 zA:SzOk sizes A
 zB:SzOk sizes (M - A)
 len:sh.length≤1000
 vars:∀ v∈sh,(-1≤v∧v≤3)∧vin qa A v=true∧vin qa (M - A) v=true
theorem l_splits (m:Zd) (hm:LeM m) (hg:Zbc m.Sort_) (sizes:List Int) (hcl:Zcc sizes) (qa:List Atom) (fr:Bool) (l:List Za) (hl:l.length≤1000) (x:Zu) (zM:SzOk sizes x.mask) (h16:M16 x.mask) (hlen:x.Zq.length=x.shared.length) (hx:x.Zq.length≤100) (ok:∀ p∈x.Zq.zip x.shared,Zh7 m sizes qa l x.mask p.1 p.2) (r:AV×List Blk):∀ i,i≤x.Zq.length→∀ mine:List Za,mine.length=5→Zhy (((x.Zq.zip x.shared).drop i).foldl (oneJ m sizes x.mask l) mine) true [] sizes fr l 0=some r→Zjx sizes fr l m x mine i=some r:=by
 have hz:(x.Zq.zip x.shared).length=x.Zq.length:=by simp [hlen]
 refine down _ ?_ ?_
 ·intro mine h5 h
  refine Z5f _ _ _ _ _ _ _ _ ?_
  rw [if_neg (by omega)]
  rw [List.drop_of_length_le (by omega)] at h
  exact h
 ·intro i hi ih mine h5 h
  have h4:=inc64 (i:=i) (by omega)
  have hw:w ((i:Int)+1)=((i+1:Nat):Int):=by rw [show w ((i:Int)+1)=(i:Int)+1 from h4];simp
  have hiz:i<(x.Zq.zip x.shared).length:=by omega
  have his:i<x.shared.length:=by omega
  rw [List.drop_eq_getElem_cons hiz,List.foldl_cons,List.getElem_zip] at h
  have o:=ok _ (List.getElem_mem hiz)
  rw [List.getElem_zip] at o
  have ih:=ih _ (by rw [show (oneJ m sizes x.mask l mine (x.Zq[i],x.shared[i])).length=mine.length from Z7j];exact h5) h
  have hB:w (x.mask - x.Zq[i])=x.mask - x.Zq[i]:=by
   have:=o.pair.b16
   have:=o.pair.a16
   exact w_id (by omega) (by omega)
  obtain ⟨k1,k2⟩:=Zqq o.left.ne
  obtain ⟨j1,j2⟩:=Zqq o.right.ne
  have eM:=o.left.mask _ o.left.best
  have fM:=o.right.mask _ o.right.best
  have pA:=Zcl o.pair.a16
  have pB:=Zcl o.pair.b16
  have la:=o.left.len _ o.left.best
  have lb:=o.right.len _ o.right.best
  have hlt:((-1:Int)+1).toNat<mine.length:=by simp;omega
  have he:=List.getElem?_eq_getElem hlt
  have o0:=Zw0 m hm sizes mine _ _ 3 0 (-1) (by omega) he (by rw [eM];exact o.zA) (by rw [fM];exact o.zB) (by rw [eM,fM,o.pair.or];exact zM) (by omega) (by omega)
  rw [Zw3 he] at o0
  refine Z5f _ _ _ _ _ _ _ _ ?_
  rw [if_pos (by omega)]
  refine ⟨by omega,x.Zq[i],by rw [Int.toNat_natCast];exact List.getElem?_eq_getElem hi,?_⟩
  rw [hB]
  refine ⟨_,x_low l _ hl,k1,_,k2,_,x_low l _ hl,j1,_,j2,_,_,o0,?_⟩
  refine Zw4 m hm sizes qa fr l hl o.pair o.left _ fM (by omega) o.zA o.zB zM x i r 5 (Nat.le_refl _) _ (by rw [Zd3];exact h5) ?_
  rw [Zw1 _ 5 _ _ _ o.left.up (fun e he=>by have:=o.left.ord e he;omega)]
  refine l_merges m hm hg sizes hcl qa fr l hl o.pair o.left o.right o.zA o.zB zM x i _ (List.getElem?_eq_getElem his) o.len o.vars r 0 (Nat.zero_le _) _ (by rw [Zqs,Zd3];exact h5) ?_
  rw [hw,List.drop_zero]
  exact ih
theorem Zw5 {m:Zd} {sizes:List Int} {qa:List Atom} {l:List Za} {M:Int} (hg:Zbc m.Sort_) (hcl:Zcc sizes):∀ {ps:List (Int×List Int)} {mine:List Za},(∀ p∈ps,Zh7 m sizes qa l M p.1 p.2)→Zcm m sizes qa M mine→Zcm m sizes qa M (ps.foldl (oneJ m sizes M l) mine)
 | [],_,_,h=>h
 | p::ps,mine,hp,h=>by
  have o:=hp p (by simp)
  rw [List.foldl_cons]
  exact Zw5 hg hcl (fun y hy=>hp y (by simp [hy])) (Zblh o.pair hg hcl o.left o.right o.vars h)
def Zki (m:Zd) (sizes:List Int) (M:Int) (l:List Za) (ps:List (Int×List Int)):List Za:=ps.foldl (oneJ m sizes M l) (List.replicate 5 zE)
theorem Zblk (m:Zd) (hm:LeM m) (hg:Zbc m.Sort_) (sizes:List Int) (hcl:Zcc sizes) (qa:List Atom) (fr:Bool) (l:List Za) (hl:l.length≤1000) (x:Zu) (zM:SzOk sizes x.mask) (h16:M16 x.mask) (h0:0<x.mask) (hlen:x.Zq.length=x.shared.length) (hx:x.Zq.length≤100) (ok:∀ p∈x.Zq.zip x.shared,Zh7 m sizes qa l x.mask p.1 p.2) :
  ∃ fr',Zpw sizes fr l m x=some (.own 2,[.arr 3 1 true (sizes.map ic),.arr 145 4 fr (l.map Za.c),.arr 145 4 fr' (((Zki m sizes x.mask l (x.Zq.zip x.shared)).filter sm).map Za.c)]):=by
 have hs:Zcm m sizes qa x.mask (Zki m sizes x.mask l (x.Zq.zip x.shared)):=Zw5 hg hcl ok (Z7k m sizes qa x.mask)
 obtain ⟨fr',h⟩:=Zbli _ hs.1 sizes fr l 0 (by omega) true [] (Nat.le_refl _)
 rw [List.drop_zero,List.nil_append,Zblj hs h0] at h
 exact ⟨fr',Zbim _ _ _ _ _ _ (l_splits m hm hg sizes hcl qa fr l hl x zM h16 hlen hx ok _ 0 (Nat.zero_le _) _ (by simp) (by rw [List.drop_zero];exact h))⟩
theorem Zbll {m:Zd} {sizes:List Int} {a b:Za} {k v o:Int} (ho:-1≤o∧o≤3) (a0 a1 a2 a3 a4:Za):offJ m sizes a b k v o [a0,a1,a2,a3,a4] =
  [offK 0 a0 (orI a.Mask b.Mask) o (jc m sizes a b k) (Zbr a.Plan.Steps b.Plan.Steps k v),offK 1 a1 (orI a.Mask b.Mask) o (jc m sizes a b k) (Zbr a.Plan.Steps b.Plan.Steps k v),offK 2 a2 (orI a.Mask b.Mask) o (jc m sizes a b k) (Zbr a.Plan.Steps b.Plan.Steps k v),offK 3 a3 (orI a.Mask b.Mask) o (jc m sizes a b k) (Zbr a.Plan.Steps b.Plan.Steps k v),offK 4 a4 (orI a.Mask b.Mask) o (jc m sizes a b k) (Zbr a.Plan.Steps b.Plan.Steps k v)]:=by
 have h5:o=-1∨o=0∨o=1∨o=2∨o=3:=by omega
 rcases h5 with rfl | rfl | rfl | rfl | rfl <;> simp [offJ,offK]
theorem five {mine:List Za} (h:mine.length=5):∃ a0 a1 a2 a3 a4,mine=[a0,a1,a2,a3,a4]:=by
 match mine,h with
 | [a0,a1,a2,a3,a4],_=>exact ⟨a0,a1,a2,a3,a4,rfl⟩
theorem x_offJ (m:Zd) (hm:LeM m) (q:Zc) (hq:LeQ q) (hvq:Zn q.Ze q.Atoms=true) (sizes:List Int) (hs:Le sizes) (hsv:Zbn q.Ze q.Atoms sizes=true) {A B M:Int} (hM16:M16 M) (hM:M≠0) (hp:Pair q.Atoms A B M) {a b:Za} {k v o oa ob:Int} (ho:-1≤o∧o≤3) (hk:3≤k) (ha:a.Mask=A) (hb:b.Mask=B) (ma:Z3 m sizes q.Atoms a.Plan.Steps A oa a.Cost) (mb:Z3 m sizes q.Atoms b.Plan.Steps B ob b.Cost) (hj:Zc7 q.Atoms ⟨k,0,v⟩ (A,oa) (B,ob)=some o) (hl:a.Plan.Steps.length+2≤4*popc A∧b.Plan.Steps.length+2≤4*popc B) (a0 a1 a2 a3 a4:Za) :
  ∃ b0 b1 b2 b3 b4 t,offJ m sizes a b k v o [a0,a1,a2,a3,a4]=[b0,b1,b2,b3,b4]∧(t=.dead∨t=.arr 194 3 true ((Zbr a.Plan.Steps b.Plan.Steps k v).map Zb.c))∧Zb1 m q sizes M a0 a1 a2 a3 a4 (sm a0) (sm a1) (sm a2) (sm a3) (sm a4) (Zbr a.Plan.Steps b.Plan.Steps k v) o=some (.tup [],[boxO m q sizes M b0 b1 b2 b3 b4 (sm b0) (sm b1) (sm b2) (sm b3) (sm b4),t]):=by
 have hpop:=hp.pop
 have p4:=Zcl hM16
 have mk:=Z66 (x:=⟨k,0,v⟩) ma mb hk rfl hp.dis hp.shr hj
 rw [hp.or] at mk
 have hc:=Z3.cost mk hvq (by simp only [List.length_append,List.length_cons,List.length_nil];omega) hsv
 obtain ⟨t,ht,hx⟩:=Z68 m hm q hq sizes hs M hM a0 a1 a2 a3 a4 (Zbr a.Plan.Steps b.Plan.Steps k v) o ho _ hc
 refine ⟨_,_,_,_,_,t,Zbll ho a0 a1 a2 a3 a4,ht,?_⟩
 rw [hx]
 simp only [jc,ha,hb,hp.or]
theorem Zni {qa:List Atom} {M A:Int} (h:A∈Zq qa M):1≤A∧A<M∧andI A M=A∧conn qa A=true∧conn qa (M - A)=true:=by
 unfold Zq Zc6 at h
 rw [List.mem_map] at h
 obtain ⟨k,hk,rfl⟩:=h
 rw [List.mem_filter,List.mem_range'_1] at hk
 obtain ⟨⟨h1,h2⟩,h3⟩:=hk
 simp only [Zb2,Bool.and_eq_true,decide_eq_true_eq] at h3
 exact ⟨by omega,by omega,h3⟩
theorem Zblm {qa:List Atom} {M:Int} {k:Nat} (h1:1≤k) (h2:(k:Int)<M) (h3:Zb2 qa M k=true):(k:Int)∈Zq qa M:=by
 unfold Zq Zc6
 rw [List.mem_map]
 exact ⟨k,by rw [List.mem_filter,List.mem_range'_1];exact ⟨⟨h1,by omega⟩,h3⟩,rfl⟩
theorem Zw6 {qa:List Atom} {M:Int} (h:M16 M):(Zq qa M).length≤16:=by
 unfold Zq Zc6
 rw [List.length_map]
 refine Nat.le_trans (List.length_filter_le _ _) ?_
 rw [List.length_range']
 omega
set_option maxRecDepth 100000 in
theorem Zbln:∀ a b c d e f g h:Bool,andB (e,f,g,h) (a,b,c,d)=(e,f,g,h)→popc (toI (e,f,g,h))+popc (toI (subB (a,b,c,d) (e,f,g,h)))=popc (toI (a,b,c,d))∧orB (e,f,g,h) (subB (a,b,c,d) (e,f,g,h))=(a,b,c,d)∧andB (e,f,g,h) (subB (a,b,c,d) (e,f,g,h))=(false,false,false,false):=by decide
theorem inN_of {n:Int} {qa:List Atom} (hv:Zn n qa=true) {M:Int} (h:MQ qa M):inN qa.length (ofI M)=true:=by
 have h4:=Zbt hv
 have h16:=(h.m16 hv).1
 obtain ⟨a,rfl⟩:=m16 h16
 have key:∀ a:Fin 16,(a.1<2→inN 1 (ofI (a.1:Int))=true)∧(a.1<4→inN 2 (ofI (a.1:Int))=true)∧(a.1<8→inN 3 (ofI (a.1:Int))=true)∧inN 4 (ofI (a.1:Int))=true:=by decide
 have hk:=key a
 have hl:qa.length=1∨qa.length=2∨qa.length=3∨qa.length=4:=by omega
 have h2:=h.2
 rcases hl with e | e | e | e
 ·rw [e] at h2 ⊢;exact hk.1 (by omega)
 ·rw [e] at h2 ⊢;exact hk.2.1 (by omega)
 ·rw [e] at h2 ⊢;exact hk.2.2.1 (by omega)
 ·rw [e] at h2 ⊢;exact hk.2.2.2
theorem okf1 (g:Ed) {n:Nat} (hn:1≤n∧n≤4) (p:B4):okF1 g n p=true:=by
 have:=f1 g.a g.b g.c g.d g.e g.f p.1 p.2.1 p.2.2.1 p.2.2.2
 have hl:n=1∨n=2∨n=3∨n=4:=by omega
 rcases hl with rfl | rfl | rfl | rfl
 ·exact this.1
 ·exact this.2.1
 ·exact this.2.2.1
 ·exact this.2.2.2
theorem okf2 (g:Ed) {n:Nat} (hn:1≤n∧n≤4) (p x:B4):okF2 g n p x=true:=by
 have:=f2 g.a g.b g.c g.d g.e g.f p.1 p.2.1 p.2.2.1 p.2.2.2 x.1 x.2.1 x.2.2.1 x.2.2.2
 have hl:n=1∨n=2∨n=3∨n=4:=by omega
 rcases hl with rfl | rfl | rfl | rfl
 ·exact this.1
 ·exact this.2.1
 ·exact this.2.2.1
 ·exact this.2.2.2
theorem Zblo {n:Int} {qa:List Atom} (hv:Zn n qa=true) {M A:Int} (hM:MQ qa M) (hc:conn qa M=true) (h:A∈Zq qa M):Pair qa A (M - A) M:=by
 obtain ⟨h1,h2,h3,_,_⟩:=Zni h
 have h16:=(hM.m16 hv).1
 have a16:M16 A:=by omega
 have b16:M16 (M - A):=by omega
 have eM:=Zwu h16
 have eA:=Zwu a16
 have hsub:andB (ofI A) (ofI M)=ofI A:=by
  apply Zwv
  rw [← Zqk,eM,eA];exact h3
 have eB:=Z6y hsub
 rw [eM,eA] at eB
 have hp:=Zbln (ofI M).1 (ofI M).2.1 (ofI M).2.2.1 (ofI M).2.2.2 (ofI A).1 (ofI A).2.1 (ofI A).2.2.1 (ofI A).2.2.2 hsub
 have hp1:popc (toI (ofI A))+popc (toI (subB (ofI M) (ofI A)))=popc (toI (ofI M)):=hp.1
 have hp2:orB (ofI A) (subB (ofI M) (ofI A))=ofI M:=hp.2.1
 have hp3:andB (ofI A) (subB (ofI M) (ofI A))=(false,false,false,false):=hp.2.2
 refine ⟨a16,b16,?_,?_,?_,?_⟩
 ·rw [eB]
  have:=toI_or (ofI A) (subB (ofI M) (ofI A))
  rw [hp2,eM,eA] at this
  exact this
 ·rw [eB]
  have:=Zqk (ofI A) (subB (ofI M) (ofI A))
  rw [hp3,eA] at this
  exact this
 ·rw [eB]
  have:=edge_bit (Zbt hv).2 (ofI A) (subB (ofI M) (ofI A)) hp3
  rw [eA] at this
  rw [this]
  have h5:=okf2 (edOf qa) (Zbt hv) (ofI M) (ofI A)
  have hcb:=Zne hv (ofI M)
  rw [eM,hc] at hcb
  have hin:=inN_of hv hM
  have n0:ofI A≠(false,false,false,false):=fun he=>by
   rw [he] at eA
   have:toI (false,false,false,false)=0:=rfl
   omega
  have nM:ofI A≠ofI M:=fun he=>by rw [he,eM] at eA;omega
  unfold okF2 at h5
  rw [hsub,← hcb,hin] at h5
  simpa [n0,nM] using h5
 ·rw [eB]
  rw [eM,eA] at hp1
  exact hp1
theorem split_ne {n:Int} {qa:List Atom} (hv:Zn n qa=true) {M:Int} (hM:MQ qa M) (h0:M≠0) (hc:conn qa M=true) (h1:oneB (ofI M)=false):Zq qa M≠[]:=by
 have h16:=(hM.m16 hv).1
 have eM:=Zwu h16
 have h5:=okf1 (edOf qa) (Zbt hv) (ofI M)
 have hcb:=Zne hv (ofI M)
 rw [eM,hc] at hcb
 have hin:=inN_of hv hM
 have nz:ofI M≠(false,false,false,false):=fun he=>by
  rw [he] at eM
  have:toI (false,false,false,false)=0:=rfl
  omega
 have one:∀ (x:B4) (k:Nat),toI x=(k:Int)→1≤k→oneB x=true→andB x x=x→Zb3 (edOf qa) qa.length x=true→andB (ofI M) x≠(false,false,false,false)→(andB (ofI M) x=x)→Zb3 (edOf qa) qa.length (subB (ofI M) x)=true→Zq qa M≠[]:=by
  intro x k hk hk1 hx hxx hcx hne hsub hcs
  have hsub':andB x (ofI M)=x:=by
   have:andB x (ofI M)=andB (ofI M) x:=by
    obtain ⟨a,b,c,d⟩:=x
    show (a && (ofI M).1,b && (ofI M).2.1,c && (ofI M).2.2.1,d && (ofI M).2.2.2)=((ofI M).1 && a,(ofI M).2.1 && b,(ofI M).2.2.1 && c,(ofI M).2.2.2 && d)
    simp only [Bool.and_comm]
   rw [this,hsub]
  have e1:=Z6y hsub'
  rw [eM,hk] at e1
  have hxm:x≠ofI M:=fun he=>by rw [← he,hx] at h1;cases h1
  have hle:(k:Int)<M:=by
   have q1:=toI_16 (subB (ofI M) x)
   have q2:toI (subB (ofI M) x)≠0:=by
    intro hz
    apply hxm
    apply Zwv
    rw [eM,hk];omega
   omega
  have:(k:Int)∈Zq qa M:=by
   refine Zblm hk1 hle ?_
   unfold Zb2
   rw [e1,Zne hv,hcs,← hk,Zne hv,hcx]
   have:andI (toI x) M=toI x:=by
    have:=Zqk x (ofI M)
    rw [eM,hsub'] at this
    exact this
   rw [this];simp
  exact List.ne_nil_of_mem this
 have c1:∀ (g:Ed) (n:Nat),1≤n∧n≤4→Zb3 g n (true,false,false,false)=true∧Zb3 g n (false,true,false,false)=true∧Zb3 g n (false,false,true,false)=true∧Zb3 g n (false,false,false,true)=true:=by
  have key:∀ a b c d e f:Bool,∀ n:Fin 5,1≤n.1→Zb3 ⟨a,b,c,d,e,f⟩ n.1 (true,false,false,false)=true∧Zb3 ⟨a,b,c,d,e,f⟩ n.1 (false,true,false,false)=true∧Zb3 ⟨a,b,c,d,e,f⟩ n.1 (false,false,true,false)=true∧Zb3 ⟨a,b,c,d,e,f⟩ n.1 (false,false,false,true)=true:=by decide
  intro g n hn
  exact key g.a g.b g.c g.d g.e g.f ⟨n,by omega⟩ hn.1
 obtain ⟨k0,k1,k2,k3⟩:=c1 (edOf qa) qa.length (Zbt hv)
 have sel:∀ a b c d:Bool,(¬ andB (a,b,c,d) (true,false,false,false)=(false,false,false,false)→andB (a,b,c,d) (true,false,false,false)=(true,false,false,false))∧(¬ andB (a,b,c,d) (false,true,false,false)=(false,false,false,false)→andB (a,b,c,d) (false,true,false,false)=(false,true,false,false))∧(¬ andB (a,b,c,d) (false,false,true,false)=(false,false,false,false)→andB (a,b,c,d) (false,false,true,false)=(false,false,true,false))∧(¬ andB (a,b,c,d) (false,false,false,true)=(false,false,false,false)→andB (a,b,c,d) (false,false,false,true)=(false,false,false,true)):=by
  intro a b c d
  cases a <;> cases b <;> cases c <;> cases d <;> simp [andB]
 have hs:=sel (ofI M).1 (ofI M).2.1 (ofI M).2.2.1 (ofI M).2.2.2
 unfold okF1 at h5
 rw [hin,← hcb,h1] at h5
 have nz':(ofI M == (false,false,false,false))=false:=by simpa using nz
 rw [nz'] at h5
 simp only [Bool.not_true,Bool.false_or,Bool.or_eq_true,Bool.and_eq_true,bne_iff_ne,ne_eq] at h5
 rcases h5 with ((h5 | h5) | h5) | h5
 ·exact one _ 1 rfl (by omega) rfl rfl k0 h5.1 (hs.1 h5.1) h5.2
 ·exact one _ 2 rfl (by omega) rfl rfl k1 h5.1 (hs.2.1 h5.1) h5.2
 ·exact one _ 4 rfl (by omega) rfl rfl k2 h5.1 (hs.2.2.1 h5.1) h5.2
 ·exact one _ 8 rfl (by omega) rfl rfl k3 h5.1 (hs.2.2.2 h5.1) h5.2
structure Base (m:Zd) (q:Zc) (sizes:List Int):Prop where
 hm:LeM m
 hg:Zbc m.Sort_
 hq:LeQ q
 hv:Zn q.Ze q.Atoms=true
 hs:Le sizes
 hcl:Zcc sizes
 hsv:Zbn q.Ze q.Atoms sizes=true
theorem i_merges {m:Zd} {q:Zc} {sizes:List Int} (b:Base m q sizes) {A B M:Int} (hM16:M16 M) (hM:M≠0) (hp:Pair q.Atoms A B M) {E F:List Za} (hE:Held m sizes q.Atoms A E) (hF:Held m sizes q.Atoms B F)
  (sh:List Int) (hl4:sh.length≤1000) (hv:∀ v∈sh,(-1≤v∧v≤3)∧vin q.Atoms A v=true∧vin q.Atoms B v=true)
  (fr:Bool) (table:List (List Za)) (fr1:Bool) (out:List Za) (x x1:List Int) (x3 x4 x5 x6:Int) (r:AV×List Blk) :
  ∀ i,i≤sh.length→∀ a0 a1 a2 a3 a4:Za,(∀ b0 b1 b2 b3 b4,(sh.drop i).foldl (Zex m sizes A B E F) [a0,a1,a2,a3,a4]=[b0,b1,b2,b3,b4] →
   Zen m q fr table fr1 out m q sizes M b0 b1 b2 b3 b4 (sm b0) (sm b1) (sm b2) (sm b3) (sm b4) x x1 sizes M x3 x4 x5 (w (x6+1))=some r) →
  Zc2 m q fr table fr1 out m q sizes M a0 a1 a2 a3 a4 (sm a0) (sm a1) (sm a2) (sm a3) (sm a4) x x1 sh sizes M E F x3 x4 x5 x6 sh.length i=some r:=by
 have pA:=Zcl hp.a16
 have pB:=Zcl hp.b16
 refine down _ ?_ ?_
 ·intro a0 a1 a2 a3 a4 h
  refine Z39 _ _ _ _ _ _ _ _ _ _ _ _ _ _ _ _ _ _ _ _ _ _ _ _ _ _ _ _ _ _ _ _ _ _ ?_
  rw [if_neg (by omega)]
  exact h _ _ _ _ _ (by simp)
 ·intro i hi ih a0 a1 a2 a3 a4 h
  have h4:=inc64 (i:=i) (by omega)
  have hw:w ((i:Int)+1)=((i+1:Nat):Int):=by rw [show w ((i:Int)+1)=(i:Int)+1 from h4];simp
  rw [List.drop_eq_getElem_cons hi,List.foldl_cons] at h
  obtain ⟨v1,v2,v3⟩:=hv sh[i] (List.getElem_mem hi)
  obtain ⟨k1,k2,k3,k4,k5⟩:=Zgl hE b.hg b.hcl hp.a16 v2
  obtain ⟨j1,j2,j3,j4,j5⟩:=Zgl hF b.hg b.hcl hp.b16 v3
  obtain ⟨b0,b1,b2,b3,b4,t,hJ,ht,hx⟩:=x_offJ m b.hm q b.hq b.hv sizes b.hs b.hsv hM16 hM hp (a:=inp m sizes A E sh[i]) (b:=inp m sizes B F sh[i]) (k:=4) (v:=sh[i]) v1 (by omega) k1 j1 k3 j3 (Z67 v2 v3 rfl rfl) ⟨k5,j5⟩ a0 a1 a2 a3 a4
  rw [show Zex m sizes A B E F [a0,a1,a2,a3,a4] sh[i]=[b0,b1,b2,b3,b4] from hJ] at h
  have ih:=ih b0 b1 b2 b3 b4 h
  refine Z39 _ _ _ _ _ _ _ _ _ _ _ _ _ _ _ _ _ _ _ _ _ _ _ _ _ _ _ _ _ _ _ _ _ _ ?_
  rw [if_pos (by omega)]
  refine ⟨by omega,sh[i],by rw [Int.toNat_natCast];exact List.getElem?_eq_getElem hi,?_⟩
  rw [hw]
  rcases Zwy m b.hm b.hg q b.hq b.hv sizes b.hs b.hcl b.hsv hp.a16 hE v2 with ha | ha
  ·refine .inl ⟨_,ha,?_⟩
   rcases Zwy m b.hm b.hg q b.hq b.hv sizes b.hs b.hcl b.hsv hp.b16 hF v3 with hb | hb
   ·refine .inl ⟨_,hb,_,Zkh _ _ _ _ (by omega) (by omega),?_⟩
    rcases ht with rfl | rfl
    ·exact .inl ⟨m,q,sizes,M,b0,b1,b2,b3,b4,_,_,_,_,_,hx,ih⟩
    ·exact .inr ⟨m,q,sizes,M,b0,b1,b2,b3,b4,_,_,_,_,_,_,hx,ih⟩
   ·refine .inr ⟨_,hb,_,Zkh _ ⟨(inp m sizes B F sh[i]).Plan.Steps⟩ _ _ (by omega) (by show (inp m sizes B F sh[i]).Plan.Steps.length≤1000;omega),?_⟩
    rcases ht with rfl | rfl
    ·exact .inl ⟨m,q,sizes,M,b0,b1,b2,b3,b4,_,_,_,_,_,hx,ih⟩
    ·exact .inr ⟨m,q,sizes,M,b0,b1,b2,b3,b4,_,_,_,_,_,_,hx,ih⟩
  ·refine .inr ⟨_,ha,?_⟩
   rcases Zwy m b.hm b.hg q b.hq b.hv sizes b.hs b.hcl b.hsv hp.b16 hF v3 with hb | hb
   ·refine .inl ⟨_,hb,_,Zkh ⟨(inp m sizes A E sh[i]).Plan.Steps⟩ _ _ _ (by show (inp m sizes A E sh[i]).Plan.Steps.length≤1000;omega) (by omega),?_⟩
    rcases ht with rfl | rfl
    ·exact .inl ⟨m,q,sizes,M,b0,b1,b2,b3,b4,_,_,_,_,_,hx,ih⟩
    ·exact .inr ⟨m,q,sizes,M,b0,b1,b2,b3,b4,_,_,_,_,_,_,hx,ih⟩
   ·refine .inr ⟨_,hb,_,Zkh ⟨(inp m sizes A E sh[i]).Plan.Steps⟩ ⟨(inp m sizes B F sh[i]).Plan.Steps⟩ _ _ (by show (inp m sizes A E sh[i]).Plan.Steps.length≤1000;omega) (by show (inp m sizes B F sh[i]).Plan.Steps.length≤1000;omega),?_⟩
    rcases ht with rfl | rfl
    ·exact .inl ⟨m,q,sizes,M,b0,b1,b2,b3,b4,_,_,_,_,_,hx,ih⟩
    ·exact .inr ⟨m,q,sizes,M,b0,b1,b2,b3,b4,_,_,_,_,_,_,hx,ih⟩
theorem i_nested {m:Zd} {q:Zc} {sizes:List Int} (b:Base m q sizes) {A B M:Int} (hM16:M16 M) (hM:M≠0) (hp:Pair q.Atoms A B M) {E F:List Za} (hE:Held m sizes q.Atoms A E) (hF:Held m sizes q.Atoms B F)
  (sh:List Int) (hsh:Zhc q A (andNotI M A)=some (.own 0,[.arr 3 1 true (sh.map ic)]))
  (fr:Bool) (table:List (List Za)) (fr1:Bool) (out:List Za) (x x1:List Int) (x3 x4 x5 x6:Int) (r:AV×List Blk) :
  ∀ i,i≤E.length→∀ a0 a1 a2 a3 a4:Za,(∀ b0 b1 b2 b3 b4,(E.drop i).foldl (Zeg m sizes (Zx F)) [a0,a1,a2,a3,a4]=[b0,b1,b2,b3,b4] →
   Zc2 m q fr table fr1 out m q sizes M b0 b1 b2 b3 b4 (sm b0) (sm b1) (sm b2) (sm b3) (sm b4) x x1 sh sizes M E F x3 x4 x5 x6 sh.length 0=some r) →
  Zf3 m q fr table fr1 out m q sizes M a0 a1 a2 a3 a4 (sm a0) (sm a1) (sm a2) (sm a3) (sm a4) (Zx F).Plan x x1 sizes M A E F x3 x4 x5 x6 E E.length i=some r:=by
 have pA:=Zcl hp.a16
 have pB:=Zcl hp.b16
 have lF:=hF.len _ hF.best
 have hle:=hE.le
 refine down _ ?_ ?_
 ·intro a0 a1 a2 a3 a4 h
  refine Z38 _ _ _ _ _ _ _ _ _ _ _ _ _ _ _ _ _ _ _ _ _ _ _ _ _ _ _ _ _ _ _ _ _ _ _ _ ?_
  rw [if_neg (by omega)]
  exact ⟨sh,hsh,h _ _ _ _ _ (by simp)⟩
 ·intro i hi ih a0 a1 a2 a3 a4 h
  have h4:=inc64 (i:=i) (by omega)
  have hw:w ((i:Int)+1)=((i+1:Nat):Int):=by rw [show w ((i:Int)+1)=(i:Int)+1 from h4];simp
  rw [List.drop_eq_getElem_cons hi,List.foldl_cons] at h
  have hmem:=List.getElem_mem hi
  have lE:=hE.len _ hmem
  obtain ⟨b0,b1,b2,b3,b4,t,hJ,ht,hx⟩:=x_offJ m b.hm q b.hq b.hv sizes b.hs b.hsv hM16 hM hp (a:=E[i]) (b:=Zx F) (k:=5) (v:=0) (hE.ord _ hmem) (by omega) (hE.mask _ hmem) (hF.mask _ hF.best) (hE.makes _ hmem) (hF.makes _ hF.best) nest_p ⟨by omega,by omega⟩ a0 a1 a2 a3 a4
  rw [show Zeg m sizes (Zx F) [a0,a1,a2,a3,a4] E[i]=[b0,b1,b2,b3,b4] from hJ] at h
  have ih:=ih b0 b1 b2 b3 b4 h
  refine Z38 _ _ _ _ _ _ _ _ _ _ _ _ _ _ _ _ _ _ _ _ _ _ _ _ _ _ _ _ _ _ _ _ _ _ _ _ ?_
  rw [if_pos (by omega)]
  refine ⟨by omega,E[i],by rw [Int.toNat_natCast];exact List.getElem?_eq_getElem hi,?_⟩
  rw [hw]
  refine ⟨_,Zkh _ _ _ _ (by omega) (by omega),?_⟩
  rcases ht with rfl | rfl
  ·exact .inl ⟨m,q,sizes,M,b0,b1,b2,b3,b4,_,_,_,_,_,hx,ih⟩
  ·exact .inr ⟨m,q,sizes,M,b0,b1,b2,b3,b4,_,_,_,_,_,_,hx,ih⟩
end Go.Proofs.YtgnfoghkbpkgjaaGreat
