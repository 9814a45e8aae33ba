/-
  Parts of the proofs for this seat: V2 V3 V4 V5 V6 OP AD RS.
-/
import Derived.Test.YtbapkgocloaaeaaGreatP10
set_option linter.unusedSimpArgs false
set_option linter.unusedVariables false
set_option maxRecDepth 100000
set_option maxHeartbeats 4000000
/- part: V2 -/
namespace Go.Proofs.YtbapkgocloaaeaaGreat
open Go.AM
def Zgs (n:Int) (p:Nat→Bool):Bool:=decide (Zp p=w (shlI 1 n - 1))
theorem Zxp (q:Zd) (n:Nat) (hn1:1≤n) (hn:n≤4) (hq:q.Zg=n) (hl:Le q.Atoms) (hv:∀ a∈q.Atoms,Le a.Vars):∀ k,k≤q.Atoms.length→∀ p,
  Zdj q (Zp p) k=some (Bo ((q.Atoms.drop k).all (Z1 n) && Zgs n (addA p (q.Atoms.drop k))),[]):=by
 refine down _ ?_ ?_
 ·intro p
  refine Zpq _ _ _ _ ?_
  have e:addA p []=p:=by funext u;simp [addA]
  have h0:¬ (n:Int)<0:=by omega
  simp [e,hq,h0,Zgs]
 ·intro k hk ih p
  refine Zpq _ _ _ _ ?_
  have h4:=inc64 (i:=k) (by omega)
  rw [Zit _ hk]
  rcases tf (nmOk q.Atoms[k].Name) with e1 | e1
  ·simp [hk,e1,Z1]
  rcases tf (inR q.Atoms[k].Vars.length 1 3) with e2 | e2
  ·simp [hk,e1,e2,Z1]
  have b:=Zxo q n hn1 hn hq q.Atoms[k] k (hv _ (List.getElem_mem hk)) (Bo (Z1 n q.Atoms[k] && (q.Atoms.drop (k+1)).all (Z1 n) && Zgs n (addA p (q.Atoms.drop k))),[]) 0 (Nat.zero_le _) p ?_
  ·simp at b
   simp [hk,e1,e2,b]
  ·simp only [List.take_zero,List.drop_zero,Z1,e1,e2,Bool.true_and]
   rcases tf (Zbk n [] q.Atoms[k].Vars) with e3 | e3
   ·simp [e3]
   ·have ih:=ih (addV p q.Atoms[k].Vars)
    simp only [e3,if_true,Bool.true_and,Zl5 p hk]
    simp at ih
    rw [show w ((k:Int)+1)=(k:Int)+1 from h4,ih]
@[simp] theorem Zp7 (q:Zd) (h:LeQ q):Zed q=some (Bo (Zt q.Zg q.Atoms),[]):=by
 refine Zwn _ _ ?_
 unfold Zt
 rcases tf (inR q.Zg 1 4) with e1 | e1
 ·simp [e1]
 rcases tf (inR q.Atoms.length 1 4) with e2 | e2
 ·simp [e1,e2]
 have e0:=e1
 simp [inR] at e0
 obtain ⟨k,hk⟩:∃ k:Nat,q.Zg=k:=⟨q.Zg.toNat,by omega⟩
 have b:=Zxp q k (by omega) (by omega) hk h.1 h.2 0 (Nat.zero_le _) (fun _=>false)
 have ez:Zp (fun _=>false)=0:=rfl
 rw [ez] at b
 simp only [List.drop_zero,Int.ofNat_zero] at b
 have e3:(q.Atoms.all (Z1 k) && Zgs k (addA (fun _=>false) q.Atoms))=(q.Atoms.all (Z1 k) && (List.range k).all (addA (fun _=>false) q.Atoms)):=by
  rcases tf (q.Atoms.all (Z1 k)) with e3 | e3
  ·simp [e3]
  ·have hk':k=1∨k=2∨k=3∨k=4:=by omega
   have hz:=all_in e3
   have hz':∀ u:Nat,k≤u→addA (fun _=>false) q.Atoms u=false:=fun u hu=>by simp only [addA,Bool.false_or];exact hz u (by omega)
   rw [e3,Bool.true_and,Bool.true_and,Bool.eq_iff_iff,Zgs,decide_eq_true_eq,Zp]
   rcases hk' with rfl | rfl | rfl | rfl
   ·simp [shlI,wrap64,Zg9,hz' 1 (by omega),hz' 2 (by omega),hz' 3 (by omega),List.range_succ]
   ·simp [shlI,wrap64,Zg9,hz' 2 (by omega),hz' 3 (by omega),List.range_succ]
   ·simp [shlI,wrap64,Zg9,hz' 3 (by omega),List.range_succ,and_assoc]
   ·simp [shlI,wrap64,Zg9,List.range_succ,and_assoc]
 rw [e3] at b
 rw [hk] at e1
 simp only [Zfa,Option.some.injEq,Prod.mk.injEq,AV.t.injEq,T.bool.injEq,and_true,exists_eq_left',e1,e2,if_true,b,hk,Int.toNat_natCast]
 simp
@[simp] theorem Z1w (q:Zd) (h:LeQ q):Zjd q=some (I (fullM q.Zg q.Atoms),[]):=by
 refine Zvt _ _ ?_
 have q1:=Zp6 q h
 unfold fullM
 rcases tf (Zt q.Zg q.Atoms) with e | e
 ·simp [q1,e]
 ·have:=(Zl6 e).2.2.1
  have h0:¬ ((q.Atoms.length:Int)<0):=by omega
  simp [q1,e,this,h0]
@[simp] theorem Z1x (q:Zd) (h:LeQ q):Zkb q=some (I (fullM q.Zg q.Atoms),[]):=by
 refine Zwo _ _ ?_
 have q1:=Zp7 q h
 unfold fullM
 rcases tf (Zt q.Zg q.Atoms) with e | e
 ·simp [q1,e]
 ·have:=(Zl6 e).2.2.1
  have h0:¬ ((q.Atoms.length:Int)<0):=by omega
  simp [q1,e,this,h0]
theorem Zxq (xs:List Int) (hx:Le xs):∀ i,i≤xs.length→Zef xs i=some (Bo (Zc0 (xs.drop i) && decide ((xs.length:Int)≤16)),[]):=by
 refine down _ ?_ ?_
 ·refine Zpt _ _ _ ?_
  simp [Zc0]
 ·intro i hi ih
  refine Zpt _ _ _ ?_
  have h4:=inc64 (i:=i) (by omega)
  rw [Zl1 hi]
  simp at ih
  rcases tf (inR xs[i] 0 7) with h | h <;> simp [hi,h4,h,ih]
@[simp] theorem Zp8 (xs:List Int) (hx:Le xs):Ze7 xs=some (Bo (Zbx xs),[]):=by
 refine Zwq _ _ ?_
 have:=Zxq xs hx 0 (Nat.zero_le _)
 simpa [Zbx] using this
theorem Zxr (xs:List Int) (hx:Le xs):∀ i,i≤xs.length→Zd3 xs xs xs.length i=some (Bo (Zc0 (xs.drop i) && decide ((xs.length:Int)≤16)),[]):=by
 refine down _ ?_ ?_
 ·refine Zoy _ _ _ _ _ ?_
  simp [Zc0]
 ·intro i hi ih
  refine Zoy _ _ _ _ _ ?_
  have h4:=inc64 (i:=i) (by omega)
  rw [Zl1 hi]
  simp at ih
  rcases tf (inR xs[i] 0 7) with h | h <;> simp [hi,h4,h,ih]
@[simp] theorem Zp9 (xs:List Int) (hx:Le xs):Ze4 xs=some (Bo (Zbx xs),[]):=by
 refine Zvq _ _ ?_
 have:=Zxr xs hx 0 (Nat.zero_le _)
 simpa [Zbx] using this
theorem Zxs (xs ys:List Int) (hx:Le xs) (hl:ys.length=xs.length):∀ i,i≤xs.length→Zeg xs ys i=some (Bo (Zbm (xs.drop i) (ys.drop i)),[]):=by
 refine down _ ?_ ?_
 ·refine Zpu _ _ _ _ ?_
  simp [Zbm]
 ·intro i hi ih
  refine Zpu _ _ _ _ ?_
  have hi2:i<ys.length:=by omega
  have h4:=inc64 (i:=i) (by omega)
  rw [Zl2 hi hi2]
  simp at ih
  by_cases h:xs[i]<ys[i]
  ·simp [hi,hi2,h4,h,show ¬ ys[i]≤xs[i] by omega]
  ·simp [hi,hi2,h4,h,show ys[i]≤xs[i] by omega,ih]
@[simp] theorem Zxt (xs ys:List Int) (hx:Le xs):Zf9 xs ys=some (Bo (dom xs ys),[]):=by
 refine Zwr _ _ _ ?_
 by_cases hl:ys.length=xs.length
 ·have:=Zxs xs ys hx hl 0 (Nat.zero_le _)
  simp at this
  simp [hl,this,dom]
 ·have h2:¬ ((xs.length:Int)=ys.length):=by omega
  have h1:¬ (xs.length=ys.length):=by omega
  simp [h1,h2,dom]
theorem Zxu (xs ys:List Int) (hx:Le xs) (hl:ys.length=xs.length):∀ i,i≤xs.length→Zd4 xs ys xs.length i=some (Bo (Zbm (xs.drop i) (ys.drop i)),[]):=by
 refine down _ ?_ ?_
 ·refine Zoz _ _ _ _ _ ?_
  simp [Zbm]
 ·intro i hi ih
  refine Zoz _ _ _ _ _ ?_
  have hi2:i<ys.length:=by omega
  have h4:=inc64 (i:=i) (by omega)
  rw [Zl2 hi hi2]
  simp at ih
  by_cases h:xs[i]<ys[i]
  ·simp [hi,hi2,h4,h,show ¬ ys[i]≤xs[i] by omega]
  ·simp [hi,hi2,h4,h,show ys[i]≤xs[i] by omega,ih]
@[simp] theorem Zxv (xs ys:List Int) (hx:Le xs):Zft xs ys=some (Bo (dom xs ys),[]):=by
 refine Zvr _ _ _ ?_
 by_cases hl:ys.length=xs.length
 ·have:=Zxu xs ys hx hl 0 (Nat.zero_le _)
  simp at this
  simp [hl,this,dom]
 ·have h2:¬ ((xs.length:Int)=ys.length):=by omega
  have h1:¬ (xs.length=ys.length):=by omega
  simp [h1,h2,dom]
def LeX (b:Box):Prop:=Le b.Low∧Le b.High
@[simp] theorem Zxw (b:Box) (h:LeX b):Zfu b=some (Bo (Zby b.Low b.High),[]):=by
 refine Zvs _ _ ?_
 have q1:=Zp9 b.Low h.1
 have q2:=Zp9 b.High h.2
 have q3:=Zxv b.High b.Low h.2
 unfold Zby
 rcases tf (Zbx b.Low) with e1 | e1 <;> rcases tf (Zbx b.High) with e2 | e2 <;> by_cases e3:0<b.Low.length <;> simp [q1,q2,q3,e1,e2,e3]
@[simp] theorem Zxx (b:Box) (h:LeX b):Zga b=some (Bo (Zby b.Low b.High),[]):=by
 refine Zws _ _ ?_
 have q1:=Zp8 b.Low h.1
 have q2:=Zp8 b.High h.2
 have q3:=Zxt b.High b.Low h.2
 unfold Zby
 rcases tf (Zbx b.Low) with e1 | e1 <;> rcases tf (Zbx b.High) with e2 | e2 <;> by_cases e3:0<b.Low.length <;> simp [q1,q2,q3,e1,e2,e3]
theorem l_volume (b:Box) (hv:Zby b.Low b.High=true):∀ i,i≤b.Low.length→∀ n:Int,1≤n→n≤8 ^ i →
  Zel b n b.Low.length i=some (I (n*vol (b.Low.drop i) (b.High.drop i)),[]):=by
 obtain ⟨b1,b2,b3,b4⟩:=Zmi hv
 refine down _ ?_ ?_
 ·intro n _ _
  refine Zpw _ _ _ _ _ ?_
  rw [List.drop_length,← b1,List.drop_length,Zmf]
  simp
 ·intro i hi0 ih n hn1 hn2
  refine Zpw _ _ _ _ _ ?_
  have h5:=inc64 (i:=i) (by omega)
  have hi2:i<b.High.length:=by omega
  obtain ⟨g1,g2,g3⟩:=b4 i hi0 hi2
  have p1:=pow8 (i:=i+1) (by omega)
  have p2:(8:Int) ^ (i+1)=8 ^ i*8:=Int.pow_succ 8 i
  have hd:(b.High[i] - b.Low[i]+1)≤8:=by omega
  have hd1:1≤(b.High[i] - b.Low[i]+1):=by omega
  have m1:n*(b.High[i] - b.Low[i]+1)≤8 ^ i*8:=Int.mul_le_mul hn2 hd (by omega) (by omega)
  have m2:1≤n*(b.High[i] - b.Low[i]+1):=by
   have:=Int.mul_le_mul hn1 hd1 (by omega) (by omega)
   omega
  have w1:IntKind.wrap .i64 (b.High[i] - b.Low[i])=b.High[i] - b.Low[i]:=wrap64 (by omega) (by omega)
  have w2:IntKind.wrap .i64 (b.High[i] - b.Low[i]+1)=b.High[i] - b.Low[i]+1:=wrap64 (by omega) (by omega)
  have w3:IntKind.wrap .i64 (n*(b.High[i] - b.Low[i]+1))=n*(b.High[i] - b.Low[i]+1):=wrap64 (by omega) (by omega)
  have ih:=ih (n*(b.High[i] - b.Low[i]+1)) m2 (by omega)
  rw [Zmg hi0 hi2,← Int.mul_assoc]
  simp at ih
  simp [hi0,hi2,h5,w1,w2,w3,ih]
@[simp] theorem Z1y (b:Box) (h:LeX b):Zko b=some (I (Zhf b.Low b.High),[]):=by
 refine Zwy _ _ ?_
 have q1:=Zxw b h
 unfold Zhf
 rcases tf (Zby b.Low b.High) with e | e
 ·simp [q1,e]
 ·have q2:=l_volume b e 0 (Nat.zero_le _) 1 (by omega) (by decide)
  have q3:Zgc b=some (I (vol b.Low b.High),[]):=Zwx _ _ (by simpa using q2)
  simp [q1,q3,e,capV]
theorem Zxy (b:Box) (hv:Zby b.Low b.High=true):∀ i,i≤b.Low.length→∀ n:Int,1≤n →
  Zem b (capV n) i=some (I (capV (n*vol (b.Low.drop i) (b.High.drop i))),[]):=by
 obtain ⟨b1,b2,b3,b4⟩:=Zmi hv
 refine down _ ?_ ?_
 ·intro n _
  refine Zpx _ _ _ _ ?_
  rw [List.drop_length,← b1,List.drop_length,Zmf]
  simp [b1]
 ·intro i hi0 ih n hn1
  refine Zpx _ _ _ _ ?_
  have h5:=inc64 (i:=i) (by omega)
  have hi2:i<b.High.length:=by omega
  obtain ⟨g1,g2,g3⟩:=b4 i hi0 hi2
  have hd:(b.High[i] - b.Low[i]+1)≤8:=by omega
  have hd1:1≤(b.High[i] - b.Low[i]+1):=by omega
  obtain ⟨c1,c2⟩:=cap_le hn1
  have m1:capV n*(b.High[i] - b.Low[i]+1)≤401*8:=Int.mul_le_mul c2 hd (by omega) (by omega)
  have m2:1*1≤capV n*(b.High[i] - b.Low[i]+1):=Int.mul_le_mul c1 hd1 (by omega) (by omega)
  have m3:1*1≤n*(b.High[i] - b.Low[i]+1):=Int.mul_le_mul hn1 hd1 (by omega) (by omega)
  have w1:IntKind.wrap .i64 (b.High[i] - b.Low[i])=b.High[i] - b.Low[i]:=wrap64 (by omega) (by omega)
  have w2:IntKind.wrap .i64 (b.High[i] - b.Low[i]+1)=b.High[i] - b.Low[i]+1:=wrap64 (by omega) (by omega)
  have w3:IntKind.wrap .i64 (capV n*(b.High[i] - b.Low[i]+1))=capV n*(b.High[i] - b.Low[i]+1):=wrap64 (by omega) (by omega)
  have ih:=ih (n*(b.High[i] - b.Low[i]+1)) (by omega)
  rw [← cap_mul hn1 hd1] at ih
  rw [Zmg hi0 hi2,← Int.mul_assoc]
  simp at ih
  simp [hi0,hi2,h5,w1,w2,w3,cap_flip,ih]
@[simp] theorem Z1z (b:Box) (h:LeX b):Zkr b=some (I (Zhf b.Low b.High),[]):=by
 refine Zwz _ _ ?_
 have q1:=Zxx b h
 unfold Zhf
 rcases tf (Zby b.Low b.High) with e | e
 ·simp [q1,e]
 ·have q2:=Zxy b e 0 (Nat.zero_le _) 1 (by omega)
  have e1:capV 1=1:=by decide
  rw [e1] at q2
  simp at q2
  simp [q1,e,q2]
end Go.Proofs.YtbapkgocloaaeaaGreat
/- part: V3 -/
namespace Go.Proofs.YtbapkgocloaaeaaGreat
open Go.AM
theorem l_vars0 (q:Zd) (m:Int) (hl:Le q.Atoms) (hv:∀ a∈q.Atoms,Le a.Vars) (v:Nat) (hv4:v<8) (out:List Int) (ho:out.length≤8) (r:AV×List Blk):∀ i,i≤q.Atoms.length →
  Zcg q (out++if hasV m (q.Atoms.drop i) i v=true then [(v:Int)] else []) m (w ((v:Int)+1))=some r →
  Zc3 q out m v q.Atoms q.Atoms.length i=some r:=by
 refine down _ ?_ ?_
 ·intro h
  refine Zo1 _ _ _ _ _ _ _ _ ?_
  simpa [hasV] using h
 ·intro i hi ih h
  refine Zo1 _ _ _ _ _ _ _ _ ?_
  have h4:=inc64 (i:=i) (by omega)
  have c1:=Zgr q.Atoms[i].Vars v (hv _ (List.getElem_mem hi))
  have h0:¬ (i:Int)<0:=by omega
  rw [Zl7 _ hi] at h
  by_cases e1:andI (shrI m i) 1=1
  ·have e2:Zbn m i=true:=by simp [Zbn,e1]
   rcases tf (has q.Atoms[i].Vars v) with e3 | e3
   ·simp [e2,e3] at h
    have ih:=ih (by simpa using h)
    simp at ih
    simp [hi,h4,h0,e1,c1,e3,ih]
   ·simp [e2,e3] at h
    have e4:out.length+1≤68719476736:=by omega
    simp [hi,h4,h0,e1,c1,e3,e4,h]
  ·have e2:Zbn m i=false:=by simp [Zbn,e1]
   simp [e2] at h
   have ih:=ih (by simpa using h)
   simp at ih
   simp [hi,h4,h0,e1,ih]
theorem l_vars1 (q:Zd) (m:Int) (hl:Le q.Atoms) (hv:∀ a∈q.Atoms,Le a.Vars) (n:Nat) (hq:q.Zg=n) (hn:n≤4):∀ k,k≤n →
  Zcg q (varL m q.Atoms k) m k=some (.own 0,[.arr Zv 1 true ((varL m q.Atoms n).map ic)]):=by
 refine down _ ?_ ?_
 ·refine Zo0 _ _ _ _ _ ?_
  simp [hq]
 ·intro k hk ih
  refine Zo0 _ _ _ _ _ ?_
  have h4:=inc64 (i:=k) (by omega)
  have b:=l_vars0 q m hl hv k (by omega) (varL m q.Atoms k) (by have:=Zha m q.Atoms k;omega) _ 0 (Nat.zero_le _) (by
   rw [List.drop_zero,← Zr5,show w ((k:Int)+1)=(k:Int)+1 from h4];simpa using ih)
  simp at b
  simp [hq,hk,b]
@[simp] theorem Zlh (q:Zd) (m:Int) (h:LeQ q) (hv:Zt q.Zg q.Atoms=true):Zd5 q m=some (.own 0,[.arr Zv 1 true ((varL m q.Atoms q.Zg.toNat).map ic)]):=by
 refine Zvu _ _ _ ?_
 have hn:=Ze1 hv
 have b:=l_vars1 q m h.1 h.2 q.Zg.toNat (by omega) (by omega) 0 (Nat.zero_le _)
 simpa [varL] using b
theorem l_both (b xs:List Int) (hb:Le b) (hx:xs.length≤1000000):∀ i,i≤xs.length →
  Zc4 ((xs.take i).filter (has b)) b xs xs.length i=some (.own 0,[.arr Zv 1 true ((xs.filter (has b)).map ic)]):=by
 refine down _ ?_ ?_
 ·refine Zo2 _ _ _ _ _ _ ?_
  simp
 ·intro i hi ih
  refine Zo2 _ _ _ _ _ _ ?_
  have h4:=inc64 (i:=i) (by omega)
  have c1:=Zgr b xs[i] hb
  have e4:((xs.take i).filter (has b)).length+1≤68719476736:=by
   have:=List.length_filter_le (has b) (xs.take i)
   simp at this
   omega
  rw [Zr6 _ hi] at ih
  rcases tf (has b xs[i]) with e | e
  ·simp [e] at ih
   simp [hi,h4,c1,e,ih]
  ·simp [e] at ih
   simp [hi,h4,c1,e,e4,ih]
@[simp] theorem x_both (xs b:List Int) (hb:Le b) (hx:xs.length≤1000000):Zfv xs b=some (.own 0,[.arr Zv 1 true ((xs.filter (has b)).map ic)]):=by
 refine Zvv _ _ _ ?_
 have:=l_both b xs hb hx 0 (Nat.zero_le _)
 simpa using this
theorem l_bits0 (q:Zd) (m:Int) (hv:∀ a∈q.Atoms,Le a.Vars) (h4v:Var4 q.Atoms) (i:Nat) (hi:i<q.Atoms.length) (hm:Zbn m i=true) (r:AV×List Blk):∀ k,k≤q.Atoms[i].Vars.length→∀ p,
  Zct q m (Zp (addV p (q.Atoms[i].Vars.drop k))) (w ((i:Int)+1))=some r→Zdk q m (Zp p) i k=some r:=by
 have e1:andI (shrI m i) 1=1:=by simpa [Zbn] using hm
 have h0:¬ (i:Int)<0:=by omega
 have ha:=List.getElem_mem hi
 refine down _ ?_ ?_
 ·intro p h
  refine Zlf _ _ _ _ _ _ ?_
  rw [List.drop_length,Ziu] at h
  simp [hi,h]
 ·intro k hk ih p h
  refine Zlf _ _ _ _ _ _ ?_
  have h4:=inc64 (i:=k) (by have:=hv _ ha;omega)
  have e6:=or_bit p (v:=q.Atoms[i].Vars[k]) (h4v _ ha _ (List.getElem_mem hk))
  have e7:=h4v _ ha _ (List.getElem_mem hk)
  simp [inR] at e7
  have e8:¬ q.Atoms[i].Vars[k]<0:=by omega
  rw [Ziv p hk] at h
  have ih:=ih _ h
  simp at ih
  simp [hi,hk,h0,e1,h4,e6,e7,e8,ih]
theorem l_bits1 (q:Zd) (m:Int) (hl:Le q.Atoms) (hv:∀ a∈q.Atoms,Le a.Vars) (h4v:Var4 q.Atoms):∀ i,i≤q.Atoms.length→∀ p,
  Zct q m (Zp p) i=some (I (Zp (addM m p q.Atoms i)),[]):=by
 refine down _ ?_ ?_
 ·intro p
  refine Zps _ _ _ _ _ ?_
  have e:addM m p q.Atoms q.Atoms.length=p:=by funext u;simp [addM,hasV]
  simp [e]
 ·intro i hi ih p
  refine Zps _ _ _ _ _ ?_
  have h4:=inc64 (i:=i) (by omega)
  have h0:¬ (i:Int)<0:=by omega
  rw [Zr4 m p hi]
  rcases tf (Zbn m i) with e | e
  ·have e1:¬ andI (shrI m i) 1=1:=by simpa [Zbn] using e
   have ih:=ih p
   simp at ih
   have b:Zdk q m (Zp p) i 0=some (I (Zp (addM m p q.Atoms (i+1))),[]):=by
    refine Zlf _ _ _ _ _ _ ?_
    simp [hi,h0,e1,h4,ih]
   simp [hi,e,b]
  ·have ih:=ih (addV p q.Atoms[i].Vars)
   have b:=l_bits0 q m hv h4v i hi e _ 0 (Nat.zero_le _) p (by rw [List.drop_zero,show w ((i:Int)+1)=(i:Int)+1 from h4];simpa using ih)
   simp at b
   simp [hi,e,b]
@[simp] theorem Zli (q:Zd) (m:Int) (h:LeQ q) (h4v:Var4 q.Atoms):Zb5 q m=some (I (Zp (pV m q.Atoms)),[]):=by
 refine Zwp _ _ _ ?_
 have b:=l_bits1 q m h.1 h.2 h4v 0 (Nat.zero_le _) (fun _=>false)
 have ez:Zp (fun _=>false)=0:=rfl
 have e:addM m (fun _=>false) q.Atoms 0=pV m q.Atoms:=by funext u;simp [addM,pV]
 rw [ez,e] at b
 simpa using b
end Go.Proofs.YtbapkgocloaaeaaGreat
/- part: V4 -/
namespace Go.Proofs.YtbapkgocloaaeaaGreat
open Go.AM
theorem Zxz (q:Zd) (hq:LeQ q) (h:Zt q.Zg q.Atoms=true) (x:Ze) (info:List Za) (st:List Int) (hs:StOk info st) (hil:info.length≤100) (hst:st.length≤100) :
  match Zbf q.Atoms x info st with
  | some y=>Zd6 q x info st=some (.tup [.agg (y.c.map .t),Bo true],[])
  | none=>∃ y:Za,Zd6 q x info st=some (.tup [.agg (y.c.map .t),Bo false],[]):=by
 have hl:=Ziz h
 have wl:w ((q.Atoms.length:Int) - 1)=(q.Atoms.length:Int) - 1:=wrap64 (by omega) (by omega)
 unfold Zbf
 by_cases k1:x.Kind=1
 ·rw [if_pos k1]
  by_cases c1:inR x.Atom 0 (q.Atoms.length - 1)=true∧x.Order=0
  ·rw [if_pos c1]
   have c2:=c1.1
   simp [inR] at c2
   have hlt:x.Atom.toNat<q.Atoms.length:=by omega
   have hv:=Zl9 h _ (List.getElem_mem hlt)
   have h0:¬ x.Atom<0:=by omega
   simp only
   refine Zdq _ _ _ _ _ ?_
   have e:q.Atoms[x.Atom.toNat].Vars.headD 0=q.Atoms[x.Atom.toNat].Vars[0]'(by omega):=by
    rw [List.headD_eq_head?_getD,hd0 (by omega)]
   rw [List.headD_eq_head?_getD] at e
   simp [k1,wl,c1,h0,hlt,c2,e,show 0<q.Atoms[x.Atom.toNat].Vars.length by omega]
  ·rw [if_neg c1]
   refine ⟨⟨0,-1,-1,-1⟩,Zdq _ _ _ _ _ ?_⟩
   rcases tf (inR x.Atom 0 (q.Atoms.length - 1)) with e | e
   ·simp [k1,wl,e]
   ·have e2:¬ x.Order=0:=fun hc=>c1 ⟨e,hc⟩
    simp [k1,wl,e,e2]
 rw [if_neg k1]
 by_cases k0:x.Atom=0
 rotate_left
 ·rw [if_pos k0]
  exact ⟨⟨0,-1,-1,-1⟩,Zdq _ _ _ _ _ (by simp [k1,k0])⟩
 rw [if_neg (by simpa using k0)]
 have w1:w ((st.length:Int) - 1)=(st.length:Int) - 1:=wrap64 (by omega) (by omega)
 have w2:w ((st.length:Int) - 2)=(st.length:Int) - 2:=wrap64 (by omega) (by omega)
 by_cases k2:x.Kind=2
 ·rw [if_pos k2]
  by_cases n1:st.length<1
  ·have:Zba st info 1=none:=by unfold Zba;rw [if_neg (by omega)]
   rw [this]
   have n1':(st.length:Int)<1:=by omega
   exact ⟨⟨0,-1,-1,-1⟩,Zdq _ _ _ _ _ (by simp [k1,k2,k0,n1'])⟩
  ·have n1':¬ (st.length:Int)<1:=by omega
   obtain ⟨s,y,t1,t2,t3,t4⟩:=Zdw hs (by omega:1≤1) (by omega:1≤st.length)
   have z1:(0:Int)≤(st.length:Int) - 1:=by omega
   have z5:(1:Int)≤(st.length:Int):=by omega
   have z2:((st.length:Int) - 1).toNat=st.length - 1:=by omega
   have q1:=Zlh q y.Mask hq h
   have q2:=Zgr (varL y.Mask q.Atoms q.Zg.toNat) x.Order (by have:=Zha y.Mask q.Atoms q.Zg.toNat;have:=Ze1 h;omega)
   rw [Zhb h] at q2
   rw [t1]
   simp only
   by_cases c1:vin q.Atoms y.Mask x.Order=true∧y.Order≠x.Order
   ·rw [if_pos c1]
    refine Zdq _ _ _ _ _ ?_
    simp [k1,k2,k0,n1',w1,z1,z2,z5,t2,t3,t4,q1,q2,c1]
   ·rw [if_neg c1]
    refine ⟨⟨0,-1,-1,-1⟩,Zdq _ _ _ _ _ ?_⟩
    rcases tf (vin q.Atoms y.Mask x.Order) with e | e
    ·simp [k1,k2,k0,n1',w1,z1,z2,z5,t2,t3,t4,q1,q2,e]
    ·have e2:y.Order=x.Order:=Decidable.byContradiction fun hc=>c1 ⟨e,hc⟩
     simp [k1,k2,k0,n1',w1,z1,z2,z5,t2,t3,t4,q1,q2,e,e2]
 rw [if_neg k2]
 by_cases n2:st.length<2
 ·have:Zba st info 2=none:=by unfold Zba;rw [if_neg (by omega)]
  rw [this]
  have n2':(st.length:Int)<2:=by omega
  exact ⟨⟨0,-1,-1,-1⟩,Zdq _ _ _ _ _ (by simp [k1,k2,k0,n2'])⟩
 have n2':¬ (st.length:Int)<2:=by omega
 obtain ⟨s,y,t1,t2,t3,t4⟩:=Zdw hs (by omega:1≤2) (by omega:2≤st.length)
 obtain ⟨t,z,u1,u2,u3,u4⟩:=Zdw hs (by omega:1≤1) (by omega:1≤st.length)
 have z1:(0:Int)≤(st.length:Int) - 1:=by omega
 have z2:((st.length:Int) - 1).toNat=st.length - 1:=by omega
 have z3:(0:Int)≤(st.length:Int) - 2:=by omega
 have z4:((st.length:Int) - 2).toNat=st.length - 2:=by omega
 have hn:=Ze1 h
 have q1:=Zlh q y.Mask hq h
 have q2:=Zlh q z.Mask hq h
 have l1:=Zha y.Mask q.Atoms q.Zg.toNat
 have l2:=Zha z.Mask q.Atoms q.Zg.toNat
 have q3:=x_both (varL y.Mask q.Atoms q.Zg.toNat) (varL z.Mask q.Atoms q.Zg.toNat) (by omega) (by omega)
 have q4:=Zgr ((varL y.Mask q.Atoms q.Zg.toNat).filter (has (varL z.Mask q.Atoms q.Zg.toNat))) x.Order (by
  have:=List.length_filter_le (has (varL z.Mask q.Atoms q.Zg.toNat)) (varL y.Mask q.Atoms q.Zg.toNat);omega)
 rw [Zr8 h] at q4
 have q5:=Zr7 h y.Mask z.Mask
 generalize hS:(varL y.Mask q.Atoms q.Zg.toNat).filter (has (varL z.Mask q.Atoms q.Zg.toNat))=S at q3 q4 q5
 rw [t1,u1]
 simp only
 have base:∀ (r:AV×List Blk),(if andI y.Mask z.Mask=0 then
    if ((S.length:Int)=0) then some (.tup [.agg [I (orI y.Mask z.Mask),I (-1),I s,I t],Bo false],[])=some r
    else if x.Kind=3 then some (.tup [.agg [I (orI y.Mask z.Mask),I (-1),I s,I t],Bo (decide (x.Order=0))],[])=some r
    else if x.Kind=5 then some (.tup [.agg [I (orI y.Mask z.Mask),I y.Order,I s,I t],Bo (decide (x.Order=0))],[])=some r
    else if x.Kind=4 then
     if (vin q.Atoms y.Mask x.Order && vin q.Atoms z.Mask x.Order)=true then
      if y.Order=x.Order then some (.tup [.agg [I (orI y.Mask z.Mask),I x.Order,I s,I t],Bo (decide (z.Order=x.Order))],[])=some r
      else some (.tup [.agg [I (orI y.Mask z.Mask),I x.Order,I s,I t],Bo false],[])=some r
     else some (.tup [.agg [I (orI y.Mask z.Mask),I x.Order,I s,I t],Bo false],[])=some r
    else some (.tup [.agg [I (orI y.Mask z.Mask),I (-1),I s,I t],Bo false],[])=some r
   else some (.tup [.agg [I (orI y.Mask z.Mask),I (-1),I s,I t],Bo false],[])=some r)→Zd6 q x info st=some r:=by
  intro r hr
  refine Zdq _ _ _ _ _ ?_
  simp only [k1,k0,k2,if_false,if_true,n2',w1,w2,z1,z2,z3,z4,t2,t3,t4,u2,u3,u4,q1,q2,true_and,Option.some.injEq,exists_eq_left']
  refine ⟨_,rfl,_,rfl,S,?_,?_⟩
  ·simpa using q3
  ·simp only [q4,Option.some.injEq,Prod.mk.injEq,AV.t.injEq,T.bool.injEq,and_true,exists_eq_left']
   simpa using hr
 by_cases c1:andI y.Mask z.Mask=0∧shr q.Atoms y.Mask z.Mask=true
 rotate_left
 ·rw [if_neg c1]
  refine ⟨⟨orI y.Mask z.Mask,-1,s,t⟩,base _ ?_⟩
  by_cases c2:andI y.Mask z.Mask=0
  ·have c3:S.length=0:=q5.2 (by rcases tf (shr q.Atoms y.Mask z.Mask) with e | e;exact e;exact absurd ⟨c2,e⟩ c1)
   have c4:(S.length:Int)=0:=by omega
   rw [if_pos c2,if_pos c4]
   simp
  ·rw [if_neg c2]
   simp
 rw [if_pos c1]
 have c4:¬ (S.length:Int)=0:=fun hc=>by
  have:=q5.1 (by omega)
  rw [c1.2] at this
  cases this
 have c5:¬ S=[]:=fun hc=>c4 (by simp [hc])
 unfold Zbo
 by_cases j1:x.Kind=3∧x.Order=0
 ·rw [if_pos j1]
  exact base _ (by simp [c1.1,c4,c5,j1])
 rw [if_neg j1]
 by_cases j2:x.Kind=5∧x.Order=0
 ·rw [if_pos j2]
  exact base _ (by simp [c1.1,c4,c5,j2])
 rw [if_neg j2]
 by_cases j3:x.Kind=4∧vin q.Atoms y.Mask x.Order=true∧vin q.Atoms z.Mask x.Order=true∧y.Order=x.Order∧z.Order=x.Order
 ·rw [if_pos j3]
  exact base _ (by simp [c1.1,c4,c5,j3])
 rw [if_neg j3]
 simp only [Option.map_none]
 by_cases k3:x.Kind=3
 ·have e:¬ x.Order=0:=fun hc=>j1 ⟨k3,hc⟩
  exact ⟨⟨orI y.Mask z.Mask,-1,s,t⟩,base _ (by simp [c1.1,c4,c5,k3,e])⟩
 by_cases k5:x.Kind=5
 ·have e:¬ x.Order=0:=fun hc=>j2 ⟨k5,hc⟩
  exact ⟨⟨orI y.Mask z.Mask,y.Order,s,t⟩,base _ (by simp [c1.1,c4,c5,k5,e])⟩
 by_cases k4:x.Kind=4
 ·refine ⟨⟨orI y.Mask z.Mask,x.Order,s,t⟩,base _ ?_⟩
  rcases tf (vin q.Atoms y.Mask x.Order) with e1 | e1 <;> rcases tf (vin q.Atoms z.Mask x.Order) with e2 | e2 <;> by_cases e3:y.Order=x.Order <;> simp [c1.1,c4,c5,k4,e1,e2,e3]
  exact fun e4=>j3 ⟨k4,e1,e2,e3,e4⟩
 ·exact ⟨⟨orI y.Mask z.Mask,-1,s,t⟩,base _ (by simp [c1.1,c4,c5,k3,k4,k5])⟩
end Go.Proofs.YtbapkgocloaaeaaGreat
/- part: V5 -/
namespace Go.Proofs.YtbapkgocloaaeaaGreat
open Go.AM
@[simp] theorem Zh8 (b v:Int):Zcu b v=some (Bo (inR v 0 3 && decide (andI (shrI b v) 1=1)),[]):=by
 refine Zwt _ _ _ ?_
 rcases tf (inR v 0 3) with e | e
 ·simp [e]
 ·have e0:=e
  simp [inR] at e0
  have:¬ v<0:=by omega
  simp [e,this]
def Zs (x:Ze):Option Za→AV×List Blk
 | some y=>(.tup [.agg (y.c.map .t),I (popsI x)],[])
 | none=>(.tup [.agg [I 0,I 0,I 0,I 0],I (-1)],[])
theorem Zx0 (q:Zd) (hq:LeQ q) (h:Zt q.Zg q.Atoms=true) (x:Ze) (info:List Za) (st:List Int) (hs:StOk info st) (hil:info.length≤100) (hst:st.length≤100) :
  Zdl q x info st=some (Zs x (Zbf q.Atoms x info st)):=by
 have hl:=Ziz h
 have wl:w ((q.Atoms.length:Int) - 1)=(q.Atoms.length:Int) - 1:=wrap64 (by omega) (by omega)
 unfold Zbf
 by_cases k1:x.Kind=1
 ·rw [if_pos k1]
  by_cases c1:inR x.Atom 0 (q.Atoms.length - 1)=true∧x.Order=0
  ·rw [if_pos c1]
   have c2:=c1.1
   simp [inR] at c2
   have hlt:x.Atom.toNat<q.Atoms.length:=by omega
   have hv:=Zl9 h _ (List.getElem_mem hlt)
   have h0:¬ x.Atom<0:=by omega
   refine Zcc _ _ _ _ _ ?_
   have e:q.Atoms[x.Atom.toNat].Vars.headD 0=q.Atoms[x.Atom.toNat].Vars[0]'(by omega):=by
    rw [List.headD_eq_head?_getD,hd0 (by omega)]
   rw [List.headD_eq_head?_getD] at e
   simp [k1,wl,c1,h0,hlt,c2,e,Zs,popsI,show 0<q.Atoms[x.Atom.toNat].Vars.length by omega]
  ·rw [if_neg c1]
   refine Zcc _ _ _ _ _ ?_
   rcases tf (inR x.Atom 0 (q.Atoms.length - 1)) with e | e
   ·simp [k1,wl,e,Zs]
   ·have e2:¬ x.Order=0:=fun hc=>c1 ⟨e,hc⟩
    simp [k1,wl,e,e2,Zs]
 rw [if_neg k1]
 have w1:w ((st.length:Int) - 1)=(st.length:Int) - 1:=wrap64 (by omega) (by omega)
 have w2:w ((st.length:Int) - 2)=(st.length:Int) - 2:=wrap64 (by omega) (by omega)
 by_cases k0:x.Atom=0
 rotate_left
 ·rw [if_pos k0]
  refine Zcc _ _ _ _ _ ?_
  have j:∀ b,Zeh q x ⟨0,0,0,0⟩ info st st.length x.Kind b=some (Zs x none):=by
   intro b
   refine Zgq _ _ _ _ _ _ _ _ _ ?_
   cases b <;> simp [k0,Zs]
  by_cases k2:x.Kind=2
  ·simp [k1,k2,k0,Zs]
  ·by_cases k3:x.Kind=3 <;> by_cases k4:x.Kind=4 <;> simp [k1,k2,k0,k3,k4,j] <;> first | (simp only [k3] at j;simp [j,Zs]) | (simp only [k4] at j;simp [j,Zs]) | simp [Zs]
 rw [if_neg (by simpa using k0)]
 by_cases k2:x.Kind=2
 ·rw [if_pos k2]
  refine Zcc _ _ _ _ _ ?_
  by_cases n1:st.length<1
  ·have:Zba st info 1=none:=by unfold Zba;rw [if_neg (by omega)]
   rw [this]
   have n1':(st.length:Int)<1:=by omega
   simp [k1,k2,k0,n1',Zs]
  ·have n1':¬ (st.length:Int)<1:=by omega
   obtain ⟨s,y,t1,t2,t3,t4⟩:=Zdw hs (by omega:1≤1) (by omega:1≤st.length)
   have z1:(0:Int)≤(st.length:Int) - 1:=by omega
   have z5:(1:Int)≤(st.length:Int):=by omega
   have z2:((st.length:Int) - 1).toNat=st.length - 1:=by omega
   have q1:=Zli q y.Mask hq (valid4 h)
   have q2:(inR x.Order 0 3 && decide (andI (shrI (Zp (pV y.Mask q.Atoms)) x.Order) 1=1))=vin q.Atoms y.Mask x.Order:=by
    unfold vin
    rcases tf (inR x.Order 0 3) with e | e
    ·simp [e]
    ·rw [e,Bool.true_and,Bool.true_and,Bool.eq_iff_iff,decide_eq_true_eq]
     exact at_bit _ e
   rw [t1]
   simp only
   by_cases e2:y.Order=x.Order
   ·simp [k1,k2,k0,n1',w1,z1,z2,z5,t2,t3,t4,e2,Zs]
   ·rcases tf (vin q.Atoms y.Mask x.Order) with e | e
    ·simp only [k1,k2,k0,n1',w1,z1,z2,t2,t3,t4,q1,Zh8,q2,e,e2,if_false,if_true,true_and,Option.some.injEq,exists_eq_left',Prod.mk.injEq,AV.t.injEq,T.int.injEq,T.bool.injEq,and_true]
     simp [Zs]
    ·simp only [k1,k2,k0,n1',w1,z1,z2,t2,t3,t4,q1,Zh8,q2,e,e2,if_false,if_true,true_and,Option.some.injEq,exists_eq_left',Prod.mk.injEq,AV.t.injEq,T.int.injEq,T.bool.injEq,and_true]
     simp [Zs,popsI,k1,k2,e2]
 rw [if_neg k2]
 -- a join
 have q0:∀ (b:Za) (c:Za) (y:Za) (f:Bool),x.Kind=4→∀ m1 m2,Zdm q x ⟨0,0,0,0⟩ b c y (andI (Zp (pV m1 q.Atoms)) (Zp (pV m2 q.Atoms))) f =
   if vin q.Atoms m1 x.Order=true∧vin q.Atoms m2 x.Order=true∧b.Order=x.Order∧c.Order=x.Order then some (.tup [.agg [I y.Mask,I x.Order,I y.Left,I y.Right],I 2],[]) else some (Zs x none):=by
  intro b c y f k4 m1 m2
  have e:(inR x.Order 0 3 && decide (andI (shrI (andI (Zp (pV m1 q.Atoms)) (Zp (pV m2 q.Atoms))) x.Order) 1=1))=(vin q.Atoms m1 x.Order && vin q.Atoms m2 x.Order):=by
   unfold vin
   rcases tf (inR x.Order 0 3) with e | e
   ·simp [e]
   ·rw [e,Bool.true_and,Bool.true_and,Bool.true_and,Bool.eq_iff_iff,decide_eq_true_eq,Zl3]
    simpa using at_bit (fun u=>pV m1 q.Atoms u && pV m2 q.Atoms u) e
  split
  ·rename_i hc
   refine Zlg _ _ _ _ _ _ _ _ _ ?_
   simp only [Zh8,e,hc]
   simp [k4]
  ·rename_i hc
   refine Zlg _ _ _ _ _ _ _ _ _ ?_
   simp only [Zh8,e]
   rcases tf (vin q.Atoms m1 x.Order) with e1 | e1 <;> rcases tf (vin q.Atoms m2 x.Order) with e2 | e2 <;> by_cases e3:b.Order=x.Order <;> by_cases e4:c.Order=x.Order <;> simp [k4,e1,e2,e3,e4,Zs]
   exact hc ⟨e1,e2,e3,e4⟩
 have q3:∀ (b:Za) (c:Za) (y:Za) (v:Int) (f:Bool),x.Kind≠4→Zdm q x ⟨0,0,0,0⟩ b c y v f=some (.tup [.agg (y.c.map .t),I 2],[]):=by
  intro b c y v f k4
  exact Zlg _ _ _ _ _ _ _ _ _ (by simp [k4])
 have q5:∀ (b:Za) (c:Za) (y:Za) (v:Int),x.Kind≠4→Zei q x ⟨0,0,0,0⟩ b c y v=some (.tup [.agg (y.c.map .t),I 2],[]):=by
  intro b c y v k4
  exact Zwu _ _ _ _ _ _ _ _ (by simp [k4])
 by_cases kk:x.Kind=3∨x.Kind=4∨x.Kind=5
 rotate_left
 ·have k3:¬ x.Kind=3:=fun hc=>kk (.inl hc)
  have k4:¬ x.Kind=4:=fun hc=>kk (.inr (.inl hc))
  have k5:¬ x.Kind=5:=fun hc=>kk (.inr (.inr hc))
  have hj:∀ y z,Zbo q.Atoms x y z=none:=by intro y z;simp [Zbo,k3,k4,k5]
  refine Eq.trans (b:=some (Zs x none)) (Zcc _ _ _ _ _ (by simp [k1,k2,k3,k4,k5,Zs])) ?_
  simp only [hj,Option.map_none,ite_self]
  split <;> rfl
 have k5':x.Kind≠3→x.Kind≠4→x.Kind=5:=fun a b=>by rcases kk with h | h | h;exact absurd h a;exact absurd h b;exact h
 have red:∀ r,Zeh q x ⟨0,0,0,0⟩ info st st.length x.Kind true=some r→(x.Kind=5→Zdl q x info st=some r)→Zdl q x info st=some r:=by
  intro r hr h5
  by_cases k5:x.Kind=5
  ·exact h5 k5
  ·refine Zcc _ _ _ _ _ ?_
   by_cases k3:x.Kind=3
   ·rw [if_neg k1,if_neg k2,if_pos k3];exact hr
   ·by_cases k4:x.Kind=4
    ·rw [if_neg k1,if_neg k2,if_neg k3,if_pos k4];exact hr
    ·exact absurd (k5' k3 k4) k5
 by_cases n2:st.length<2
 ·have:Zba st info 2=none:=by unfold Zba;rw [if_neg (by omega)]
  rw [this]
  have n2':(st.length:Int)<2:=by omega
  refine red _ ?_ ?_
  ·exact Zgq _ _ _ _ _ _ _ _ _ (by simp [k0,n2',Zs])
  ·intro k5
   exact Zcc _ _ _ _ _ (by simp [k5,k0,n2',Zs])
 have n2':¬ (st.length:Int)<2:=by omega
 obtain ⟨s,y,t1,t2,t3,t4⟩:=Zdw hs (by omega:1≤2) (by omega:2≤st.length)
 obtain ⟨t,z,u1,u2,u3,u4⟩:=Zdw hs (by omega:1≤1) (by omega:1≤st.length)
 have z1:(0:Int)≤(st.length:Int) - 1:=by omega
 have z2:((st.length:Int) - 1).toNat=st.length - 1:=by omega
 have z3:(0:Int)≤(st.length:Int) - 2:=by omega
 have z4:((st.length:Int) - 2).toNat=st.length - 2:=by omega
 have b1:=Zli q y.Mask hq (valid4 h)
 have b2:=Zli q z.Mask hq (valid4 h)
 have b3:=shr_bits q.Atoms y.Mask z.Mask
 rw [t1,u1]
 simp only
 by_cases c1:andI y.Mask z.Mask=0
 rotate_left
 ·rw [if_neg (fun hc=>c1 hc.1)]
  refine red _ ?_ ?_
  ·refine Zgq _ _ _ _ _ _ _ _ _ ?_
   simp only [k0,n2',w1,w2,z1,z2,z3,z4,t2,t3,t4,u2,u3,u4,b1,b2,c1,if_true,if_false,true_and,Option.some.injEq,exists_eq_left',Prod.mk.injEq,AV.t.injEq,T.int.injEq,and_true]
   simp [Zs]
  ·intro k5
   refine Zcc _ _ _ _ _ ?_
   simp only [k5,k0,n2',w1,w2,z1,z2,z3,z4,t2,t3,t4,u2,u3,u4,b1,b2,c1,if_true,if_false,true_and,Option.some.injEq,exists_eq_left',Prod.mk.injEq,AV.t.injEq,T.int.injEq,and_true]
   simp [Zs]
 rcases tf (shr q.Atoms y.Mask z.Mask) with c2 | c2
 ·rw [if_neg (fun hc=>by rw [hc.2] at c2;cases c2)]
  have c3:=b3.2 c2
  refine red _ ?_ ?_
  ·refine Zgq _ _ _ _ _ _ _ _ _ ?_
   simp only [k0,n2',w1,w2,z1,z2,z3,z4,t2,t3,t4,u2,u3,u4,b1,b2,c1,c3,if_true,if_false,true_and,Option.some.injEq,exists_eq_left',Prod.mk.injEq,AV.t.injEq,T.int.injEq,and_true]
   simp [Zs]
  ·intro k5
   refine Zcc _ _ _ _ _ ?_
   simp only [k5,k0,n2',w1,w2,z1,z2,z3,z4,t2,t3,t4,u2,u3,u4,b1,b2,c1,c3,if_true,if_false,true_and,Option.some.injEq,exists_eq_left',Prod.mk.injEq,AV.t.injEq,T.int.injEq,and_true]
   simp [Zs]
 rw [if_pos ⟨c1,c2⟩]
 have c3:¬ andI (Zp (pV y.Mask q.Atoms)) (Zp (pV z.Mask q.Atoms))=0:=fun hc=>by rw [b3.1 hc] at c2;cases c2
 have p2:popsI x=2:=by unfold popsI;rw [if_neg k1,if_neg k2]
 refine red _ ?_ ?_
 ·refine Zgq _ _ _ _ _ _ _ _ _ ?_
  simp only [k0,n2',w1,w2,z1,z2,z3,z4,t2,t3,t4,u2,u3,u4,b1,b2,c1,c3,if_true,if_false,true_and,Option.some.injEq,exists_eq_left',Prod.mk.injEq,AV.t.injEq,T.int.injEq,and_true]
  by_cases k4:x.Kind=4
  ·have k3:¬ x.Kind=3:=by omega
   have k5:¬ x.Kind=5:=by omega
   rw [if_pos k4,q0 _ _ _ _ k4]
   simp only [Zbo,k3,k4,k5,false_and,true_and,if_false]
   split
   ·rename_i hc;simp [Zs,p2]
   ·rfl
  ·by_cases e:x.Order=0
   ·by_cases k5:x.Kind=5
    ·rw [if_neg k4,if_pos e,if_pos k5,q5 _ _ _ _ k4]
     simp [Zbo,k5,e,Zs,p2]
    ·have k3:x.Kind=3:=by omega
     rw [if_neg k4,if_pos e,if_neg k5,q3 _ _ _ _ _ k4]
     simp [Zbo,k3,e,Zs,p2]
   ·rw [if_neg k4,if_neg e]
    simp [Zbo,k4,e,Zs]
 ·intro k5
  refine Zcc _ _ _ _ _ ?_
  have k4:x.Kind≠4:=by omega
  simp only [k5,k0,n2',w1,w2,z1,z2,z3,z4,t2,t3,t4,u2,u3,u4,b1,b2,c1,c3,if_true,if_false,true_and,Option.some.injEq,exists_eq_left',Prod.mk.injEq,AV.t.injEq,T.int.injEq,and_true]
  by_cases e:x.Order=0
  ·simp [e,q5 _ _ _ _ k4,Zbo,k5,Zs,p2]
  ·simp [e,Zbo,k5,Zs]
theorem Zx1 (q:Zd) (hq:LeQ q) (h:Zt q.Zg q.Atoms=true) (p:Plan) (hl:p.Steps.length≤14):∀ i,i≤p.Steps.length→∀ info st,StOk info st→info.length=i→st.length≤i →
  Zek q p info st i=some (match Z2 q.Atoms (p.Steps.drop i) i info st with
   | some (info',st')=>if st'.length=1 then (.tup [.own 0,Bo true],[.arr Zdy 4 true (info'.map Za.c)]) else (.tup [.own 0,Bo false],[.arr Zdy 4 true []])
   | none=>(.tup [.own 0,Bo false],[.arr Zdy 4 true []])):=by
 refine down _ ?_ ?_
 ·intro info st _ _ _
  rw [List.drop_length,Z2]
  refine Zpv _ _ _ _ _ _ ?_
  by_cases c:st.length=1
  ·simp [c]
  ·have c':¬ (st.length:Int)=1:=by omega
   simp [c,c']
 ·intro i hi ih info st hs hil hst
  have h5:=inc64 (i:=i) (by omega)
  have s1:=Zx0 q hq h p.Steps[i] info st hs (by omega) (by omega)
  rw [Zma q.Atoms hi]
  refine Zpv _ _ _ _ _ _ ?_
  cases he:Zbf q.Atoms p.Steps[i] info st with
  | none =>
   rw [he,Zs] at s1
   have e0:Zdl q p.Steps[i] info st=some (.tup [.agg ((⟨0,0,0,0⟩:Za).c.map .t),I (-1)],[]):=s1
   rw [if_pos (by omega)]
   refine ⟨by omega,_,List.getElem?_eq_getElem hi,_,_,e0,?_⟩
   simp
  | some y =>
   rw [he,Zs] at s1
   obtain ⟨f1,f2,f3⟩:=Zi0 hs he
   rw [f1] at s1
   have hn:=Zhc hs y (st.length - pops y)
   rw [hil] at hn
   have ih:=ih (info++[y]) (st.take (st.length - pops y)++[(i:Int)]) hn (by simp [hil]) (st_len hst _)
   have w2:w ((st.length:Int) - (pops y:Int))=(st.length:Int) - (pops y:Int):=wrap64 (by omega) (by omega)
   have z2:((st.length:Int) - (pops y:Int)).toNat=st.length - pops y:=by omega
   rw [if_pos (by omega)]
   refine ⟨by omega,_,List.getElem?_eq_getElem hi,_,_,s1,?_⟩
   rw [if_neg (by omega),w2,z2]
   refine ⟨by omega,by omega,by omega,by omega,by omega,?_⟩
   rw [show w ((i:Int)+1)=(i:Int)+1 from h5]
   simpa using ih
@[simp] theorem Zqa (q:Zd) (p:Plan) (hq:LeQ q):Zej q p=some (match Z6 q.Zg q.Atoms p.Steps with
  | some info=>(.tup [.own 0,Bo true],[.arr Zdy 4 true (info.map Za.c)])
  | none=>(.tup [.own 0,Bo false],[.arr Zdy 4 true []])):=by
 refine Zwv _ _ _ ?_
 have q1:=Zp7 q hq
 unfold Z6
 rcases tf (Zt q.Zg q.Atoms) with e | e
 ·simp [q1,e]
 rcases tf (inR p.Steps.length 1 14) with e2 | e2
 ·simp [q1,e,e2]
 ·have e3:=e2
  simp [inR] at e3
  have b:=Zx1 q hq e p (by omega) 0 (Nat.zero_le _) [] [] (fun s hs=>by cases hs) rfl (Nat.le_refl _)
  simp only [List.drop_zero] at b
  simp only [q1,e,e2,Zfa,Option.some.injEq,Prod.mk.injEq,AV.t.injEq,T.bool.injEq,and_true,exists_eq_left',if_true,and_self]
  refine Eq.trans b ?_
  cases Z2 q.Atoms p.Steps 0 [] [] with
  | none=>rfl
  | some r=>obtain ⟨a,b⟩:=r;simp only;split <;> rfl
end Go.Proofs.YtbapkgocloaaeaaGreat
/- part: V6 -/
namespace Go.Proofs.YtbapkgocloaaeaaGreat
open Go.AM
theorem Zx2 (q:Zd) (hq:LeQ q) (h:Zt q.Zg q.Atoms=true) (steps:List Ze) (hl:steps.length≤14):∀ i,i≤steps.length→∀ info st,StOk info st→info.length=i→st.length≤i →
  Zci q info st steps steps.length i=some (match Z2 q.Atoms (steps.drop i) i info st with
   | some (info',st')=>if st'.length=1 then (.tup [.own 0,Bo true],[.arr Zdy 4 true (info'.map Za.c)]) else (.tup [.t .nil,Bo false],[])
   | none=>(.tup [.t .nil,Bo false],[])):=by
 refine down _ ?_ ?_
 ·intro info st _ _ _
  rw [List.drop_length,Z2]
  refine Zo3 _ _ _ _ _ _ _ ?_
  by_cases c:st.length=1
  ·simp [c]
  ·have c':¬ (st.length:Int)=1:=by omega
   simp [c,c']
 ·intro i hi ih info st hs hil hst
  have h5:=inc64 (i:=i) (by omega)
  have s1:=Zxz q hq h steps[i] info st hs (by omega) (by omega)
  rw [Zma q.Atoms hi]
  refine Zo3 _ _ _ _ _ _ _ ?_
  cases he:Zbf q.Atoms steps[i] info st with
  | none =>
   rw [he] at s1
   obtain ⟨y,s1⟩:=s1
   rw [if_pos (by omega)]
   refine ⟨by omega,_,List.getElem?_eq_getElem hi,_,_,s1,?_⟩
   simp
  | some y =>
   rw [he] at s1
   obtain ⟨f1,f2,f3⟩:=Zi0 hs he
   have hn:=Zhc hs y (st.length - pops y)
   rw [hil] at hn
   have ih:=ih (info++[y]) (st.take (st.length - pops y)++[(i:Int)]) hn (by simp [hil]) (st_len hst _)
   rw [if_pos (by omega)]
   refine ⟨by omega,_,List.getElem?_eq_getElem hi,_,_,s1,?_⟩
   rw [if_pos rfl]
   refine ⟨by omega,?_⟩
   simp only
   unfold pops at ih f2 ⊢
   rw [show w ((i:Int)+1)=(i:Int)+1 from h5]
   by_cases r:0≤y.Right
   ·simp only [if_pos r] at ih f2 ⊢
    have w2:w ((st.length:Int) - 2)=(st.length:Int) - 2:=wrap64 (by omega) (by omega)
    have z2:((st.length:Int) - 2).toNat=st.length - 2:=by omega
    rw [w2,z2]
    refine ⟨by omega,by omega,by omega,by simpa using ih⟩
   ·simp only [if_neg r] at ih f2 ⊢
    by_cases l:0≤y.Left
    ·simp only [if_pos l] at ih f2 ⊢
     have w2:w ((st.length:Int) - 1)=(st.length:Int) - 1:=wrap64 (by omega) (by omega)
     have z2:((st.length:Int) - 1).toNat=st.length - 1:=by omega
     rw [w2,z2]
     refine ⟨by omega,by omega,by omega,by simpa using ih⟩
    ·simp only [if_neg l] at ih f2 ⊢
     exact ⟨by omega,by simpa using ih⟩
@[simp] theorem Zqb (q:Zd) (p:Plan) (hq:LeQ q):Zch q p=some (match Z6 q.Zg q.Atoms p.Steps with
  | some info=>(.tup [.own 0,Bo true],[.arr Zdy 4 true (info.map Za.c)])
  | none=>(.tup [.t .nil,Bo false],[])):=by
 refine Zvw _ _ _ ?_
 have q1:=Zp6 q hq
 unfold Z6
 rcases tf (Zt q.Zg q.Atoms) with e | e
 ·simp [q1,e]
 rcases tf (inR p.Steps.length 1 14) with e2 | e2
 ·simp [q1,e,e2]
 ·have e3:=e2
  simp [inR] at e3
  have b:=Zx2 q hq e p.Steps (by omega) 0 (Nat.zero_le _) [] [] (fun s hs=>by cases hs) rfl (Nat.le_refl _)
  simp only [List.drop_zero] at b
  simp only [q1,e,e2,Zbr,Option.some.injEq,Prod.mk.injEq,AV.t.injEq,T.bool.injEq,and_true,exists_eq_left',if_true,and_self]
  refine Eq.trans b ?_
  cases Z2 q.Atoms p.Steps 0 [] [] with
  | none=>rfl
  | some r=>obtain ⟨a,b⟩:=r;simp only;split <;> rfl
@[simp] theorem Z10 (q:Zd) (p:Plan) (hq:LeQ q):Zjk q p=some (I (Zhd q.Zg q.Atoms p.Steps),[]):=by
 refine Zvx _ _ _ ?_
 have q1:=Zqb q p hq
 unfold Zhd
 cases he:Z6 q.Zg q.Atoms p.Steps with
 | none=>rw [he] at q1;exact .inl ⟨q1,rfl⟩
 | some info =>
  obtain ⟨l1,l2,l3,l4⟩:=Zdx he
  rw [he] at q1
  have hlt:info.length - 1<info.length:=by omega
  have w1:w ((info.length:Int) - 1)=(info.length:Int) - 1:=wrap64 (by omega) (by omega)
  have z2:((info.length:Int) - 1).toNat=info.length - 1:=by omega
  refine .inr ⟨info,q1,?_⟩
  rw [w1,z2]
  refine ⟨by omega,_,List.getElem?_eq_getElem hlt,?_⟩
  simp [List.getElem?_eq_getElem hlt]
@[simp] theorem Z11 (q:Zd) (p:Plan) (hq:LeQ q):Zkl q p=some (I (Zhd q.Zg q.Atoms p.Steps),[]):=by
 refine Zww _ _ _ ?_
 have q1:=Zqa q p hq
 unfold Zhd
 cases he:Z6 q.Zg q.Atoms p.Steps with
 | none=>rw [he] at q1;exact ⟨[],false,q1,by simp⟩
 | some info =>
  obtain ⟨l1,l2,l3,l4⟩:=Zdx he
  rw [he] at q1
  have hlt:info.length - 1<info.length:=by omega
  have w1:w ((info.length:Int) - 1)=(info.length:Int) - 1:=wrap64 (by omega) (by omega)
  have z2:((info.length:Int) - 1).toNat=info.length - 1:=by omega
  refine ⟨info,true,q1,?_⟩
  rw [if_pos rfl,w1,z2]
  refine ⟨by omega,_,List.getElem?_eq_getElem hlt,?_⟩
  simp [List.getElem?_eq_getElem hlt]
end Go.Proofs.YtbapkgocloaaeaaGreat
/- part: OP -/
namespace Go.Proofs.YtbapkgocloaaeaaGreat
open Go.AM
def Zcd:Int→List Zb→Bool
 | _,[]=>true
 | p,s::r=>inR s.From 1 8192 && inR s.Add (-99) 99 && decide (p<s.From) && Zcd s.From r
def Z8 (l:List Zb):Nat→Int
 | 0=>0
 | i+1=>match l[i]? with | some s=>s.From | none=>0
def Zbi (n:Int):Bool:=inR n (-99) 99
def Zw (o:Zc):Bool:=Zbi o.Fixed && Zbi o.Zi && Zbi o.Zj && Zbi o.Zk && Zbi o.Zl && decide (o.Steps.length≤4) && Zcd 0 o.Steps
theorem Zqc (p:Int) {l:List Zb} {i:Nat} (h:i<l.length):Zcd p (l.drop i)=(inR l[i].From 1 8192 && inR l[i].Add (-99) 99 && decide (p<l[i].From) && Zcd l[i].From (l.drop (i+1))):=by
 rw [List.drop_eq_getElem_cons h,Zcd]
@[simp] theorem Zx3 (n:Int):Zb2 n=some (Bo (Zbi n),[]):=by
 refine Zwb _ _ ?_
 simp [Zbi]
theorem Zx4 (o:Zc) (hl:Le o.Steps):∀ i,i≤o.Steps.length→Zcq o i=some (Bo (Zcd (Z8 o.Steps i) (o.Steps.drop i)),[]):=by
 refine down _ ?_ ?_
 ·refine Zpg _ _ _ ?_
  simp [Zcd]
 ·intro i hi ih
  refine Zpg _ _ _ ?_
  have h4:=inc64 (i:=i) (by omega)
  rw [Zqc _ hi]
  have pn:Z8 o.Steps (i+1)=o.Steps[i].From:=by simp [Z8,List.getElem?_eq_getElem hi]
  rw [pn] at ih
  simp only [Int.natCast_add,Int.cast_ofNat_Int] at ih
  rw [if_pos (by omega)]
  refine ⟨by omega,o.Steps[i],by rw [Int.toNat_natCast];exact List.getElem?_eq_getElem hi,_,Zfa _ _ _,?_⟩
  rcases tf (inR o.Steps[i].From 1 8192) with e1 | e1
  ·rw [e1];simp
  rw [e1,if_pos rfl]
  refine ⟨_,Zx3 _,?_⟩
  unfold Zbi
  rcases tf (inR o.Steps[i].Add (-99) 99) with e2 | e2
  ·rw [e2];simp
  rw [e2,if_pos rfl,show w ((i:Int)+1)=(i:Int)+1 from h4]
  cases i with
  | zero =>
   rw [if_neg (by omega),ih]
   have:Z8 o.Steps 0<o.Steps[0].From:=by simp [inR] at e1;simp [Z8];omega
   simp [this]
  | succ j =>
   have hj:j<o.Steps.length:=by omega
   have w2:w (((j+1:Nat):Int) - 1)=j:=by rw [show ((j+1:Nat):Int) - 1=j by omega];exact wrap64 (by omega) (by omega)
   have pj:Z8 o.Steps (j+1)=o.Steps[j].From:=by simp [Z8,List.getElem?_eq_getElem hj]
   rw [if_pos (by omega),w2,pj]
   refine ⟨by omega,o.Steps[j],by rw [Int.toNat_natCast];exact List.getElem?_eq_getElem hj,?_⟩
   by_cases e3:o.Steps[j+1].From≤o.Steps[j].From
   ·rw [if_pos e3,decide_eq_false (by omega)];simp
   ·rw [if_neg e3,decide_eq_true (by omega),ih];simp
@[simp] theorem Zgt (o:Zc) (hl:Le o.Steps):Zcb o=some (Bo (Zw o),[]):=by
 refine Zwc _ _ ?_
 have b:=Zx4 o hl 0 (Nat.zero_le _)
 simp only [Z8,List.drop_zero,Int.ofNat_zero] at b
 have b:Zcq o 0=_:=b
 unfold Zw
 rcases tf (Zbi o.Fixed) with e1 | e1
 ·simp [e1]
 rcases tf (Zbi o.Zi) with e2 | e2
 ·simp [e1,e2]
 rcases tf (Zbi o.Zj) with e3 | e3
 ·simp [e1,e2,e3]
 rcases tf (Zbi o.Zk) with e4 | e4
 ·simp [e1,e2,e3,e4]
 rcases tf (Zbi o.Zl) with e5 | e5
 ·simp [e1,e2,e3,e4,e5]
 by_cases e6:o.Steps.length≤4
 ·have e7:¬ (4:Int)<o.Steps.length:=by omega
  simp [e1,e2,e3,e4,e5,e6,e7,b]
 ·have e7:(4:Int)<o.Steps.length:=by omega
  simp [e1,e2,e3,e4,e5,e6,e7]
theorem Zx5 (o:Zc) (hl:Le o.Steps):∀ i,i≤o.Steps.length→Zcj o o.Steps o.Steps.length i=some (Bo (Zcd (Z8 o.Steps i) (o.Steps.drop i) && decide (o.Steps.length≤4)),[]):=by
 refine down _ ?_ ?_
 ·refine Zo5 _ _ _ _ _ ?_
  rw [if_neg (by omega)]
  by_cases e:o.Steps.length≤4
  ·simp [Zcd,e];omega
  ·simp [Zcd,e];omega
 ·intro i hi ih
  refine Zo5 _ _ _ _ _ ?_
  have h4:=inc64 (i:=i) (by omega)
  rw [Zqc _ hi]
  have pn:Z8 o.Steps (i+1)=o.Steps[i].From:=by simp [Z8,List.getElem?_eq_getElem hi]
  rw [pn] at ih
  simp only [Int.natCast_add,Int.cast_ofNat_Int] at ih
  rw [if_pos (by omega)]
  refine ⟨by omega,o.Steps[i],by rw [Int.toNat_natCast];exact List.getElem?_eq_getElem hi,_,Zbr _ _ _,?_⟩
  rcases tf (inR o.Steps[i].Add (-99) 99) with e2 | e2
  ·rw [e2];simp
  rw [e2,if_pos rfl]
  refine ⟨_,Zbr _ _ _,?_⟩
  rcases tf (inR o.Steps[i].From 1 8192) with e1 | e1
  ·rw [e1];simp
  rw [e1,if_pos rfl,show w ((i:Int)+1)=(i:Int)+1 from h4]
  cases i with
  | zero =>
   rw [if_neg (by omega),ih]
   have:Z8 o.Steps 0<o.Steps[0].From:=by simp [inR] at e1;simp [Z8];omega
   simp [this]
  | succ j =>
   have hj:j<o.Steps.length:=by omega
   have w2:w (((j+1:Nat):Int) - 1)=j:=by rw [show ((j+1:Nat):Int) - 1=j by omega];exact wrap64 (by omega) (by omega)
   have pj:Z8 o.Steps (j+1)=o.Steps[j].From:=by simp [Z8,List.getElem?_eq_getElem hj]
   rw [if_pos (by omega),w2,pj]
   refine ⟨by omega,o.Steps[j],by rw [Int.toNat_natCast];exact List.getElem?_eq_getElem hj,?_⟩
   by_cases e3:o.Steps[j+1].From≤o.Steps[j].From
   ·rw [if_pos e3,decide_eq_false (by omega)];simp
   ·rw [if_neg e3,decide_eq_true (by omega),ih];simp
@[simp] theorem Z9 (o:Zc) (hl:Le o.Steps):Zy o=some (Bo (Zw o),[]):=by
 refine Zvz _ _ ?_
 have hc:Zfw o=some (.bsl 1 5,[.box (o.c.map .t),.box [.ptr 0 0,.ptr 0 1,.ptr 0 2,.ptr 0 3,.ptr 0 4]]):=Zvy _ _ rfl
 refine ⟨hc,?_⟩
 have b:=Zx5 o hl 0 (Nat.zero_le _)
 simp only [Z8,List.drop_zero] at b
 have b:Zcj o o.Steps o.Steps.length 0=_:=b
 have w1:w (0+1)=1:=by decide
 have w2:w (1+1)=2:=by decide
 have w3:w (2+1)=3:=by decide
 have w4:w (3+1)=4:=by decide
 have w5:w (4+1)=5:=by decide
 unfold Zw Zbi
 refine Ze8 _ _ _ _ ?_
 rw [if_pos (by omega),if_pos rfl]
 refine ⟨_,Zbr _ _ _,?_⟩
 rcases tf (inR o.Fixed (-99) 99) with e1 | e1
 ·rw [e1];simp
 rw [e1,if_pos rfl,w1]
 refine Ze8 _ _ _ _ ?_
 rw [if_pos (by omega),if_neg (by omega),if_pos rfl]
 refine ⟨_,Zbr _ _ _,?_⟩
 rcases tf (inR o.Zi (-99) 99) with e2 | e2
 ·rw [e2];simp
 rw [e2,if_pos rfl,w2]
 refine Ze8 _ _ _ _ ?_
 rw [if_pos (by omega),if_neg (by omega),if_neg (by omega),if_pos rfl]
 refine ⟨_,Zbr _ _ _,?_⟩
 rcases tf (inR o.Zj (-99) 99) with e3 | e3
 ·rw [e3];simp
 rw [e3,if_pos rfl,w3]
 refine Ze8 _ _ _ _ ?_
 rw [if_pos (by omega),if_neg (by omega),if_neg (by omega),if_neg (by omega),if_pos rfl]
 refine ⟨_,Zbr _ _ _,?_⟩
 rcases tf (inR o.Zk (-99) 99) with e4 | e4
 ·rw [e4];simp
 rw [e4,if_pos rfl,w4]
 refine Ze8 _ _ _ _ ?_
 rw [if_pos (by omega),if_neg (by omega),if_neg (by omega),if_neg (by omega),if_neg (by omega),if_pos rfl]
 refine ⟨_,Zbr _ _ _,?_⟩
 rcases tf (inR o.Zl (-99) 99) with e5 | e5
 ·rw [e5];simp
 rw [e5,if_pos rfl,w5]
 refine Ze8 _ _ _ _ ?_
 rw [if_neg (by omega),b]
 simp [Bool.and_comm]
def Zfb (o:Zc) (l r n:Int):Int:=w (w (w (w (o.Fixed+w (o.Zi*l))+w (o.Zj*r))+w (o.Zk*n))+w (w (o.Zl*l)*r))
def Zeu (l r:Int) (n:Int) (s:Zb):Int:=if s.From≤w (l+r) then w (n+s.Add) else n
def Zgu (o:Zc) (l r n:Int):Int:=o.Steps.foldl (Zeu l r) (Zfb o l r n)
def Zdt (o:Zc) (l r n:Int):Int:=if (Zw o && inR l 0 4096 && inR r 0 4096 && inR n 0 4096)=true then Zgu o l r n else 0
theorem Zx6 (l r:Int) (st:List Zb) (hl:Le st):∀ i,i≤st.length→∀ n,Zc8 l r n st st.length i=some (I ((st.drop i).foldl (Zeu l r) n),[]):=by
 refine down _ ?_ ?_
 ·intro n
  refine Zo9 _ _ _ _ _ _ _ ?_
  simp
 ·intro i hi ih n
  refine Zo9 _ _ _ _ _ _ _ ?_
  have h4:=inc64 (i:=i) (by omega)
  rw [List.drop_eq_getElem_cons hi,List.foldl_cons]
  simp only [Int.natCast_add,Int.cast_ofNat_Int] at ih
  by_cases e:st[i].From≤w (l+r)
  ·simp [hi,h4,e,ih,Zeu]
  ·simp [hi,h4,e,ih,Zeu]
@[simp] theorem Z12 (o:Zc) (hl:Le o.Steps) (l r n:Int):Zd7 o l r n=some (I (Zgu o l r n),[]):=by
 refine Zv3 _ _ _ _ _ ?_
 have b:=Zx6 l r o.Steps hl 0 (Nat.zero_le _) (Zfb o l r n)
 simpa [Zgu,Zfb] using b
@[simp] theorem Zqd (o:Zc) (hl:Le o.Steps) (l r n:Int):Zbc o l r n=some (I (Zdt o l r n),[]):=by
 refine Zv8 _ _ _ _ _ ?_
 unfold Zdt
 rcases tf (Zw o) with e1 | e1 <;> rcases tf (inR l 0 4096) with e2 | e2 <;> rcases tf (inR r 0 4096) with e3 | e3 <;> rcases tf (inR n 0 4096) with e4 | e4 <;> simp [hl,e1,e2,e3,e4]
theorem Zx7 (o:Zc) (l r:Int) (hl:Le o.Steps):∀ i,i≤o.Steps.length→∀ n,Zcs o l r n i=some (I ((o.Steps.drop i).foldl (Zeu l r) n),[]):=by
 refine down _ ?_ ?_
 ·intro n
  refine Zph _ _ _ _ _ _ ?_
  simp
 ·intro i hi ih n
  refine Zph _ _ _ _ _ _ ?_
  have h4:=inc64 (i:=i) (by omega)
  rw [List.drop_eq_getElem_cons hi,List.foldl_cons]
  simp only [Int.natCast_add,Int.cast_ofNat_Int] at ih
  by_cases e:o.Steps[i].From≤w (l+r)
  ·simp [hi,h4,e,ih,Zeu]
  ·simp [hi,h4,e,ih,Zeu]
@[simp] theorem Zqe (o:Zc) (hl:Le o.Steps) (l r n:Int):Zcr o l r n=some (I (Zdt o l r n),[]):=by
 refine Zwf _ _ _ _ _ ?_
 have b:=Zx7 o l r hl 0 (Nat.zero_le _) (Zfb o l r n)
 simp only [List.drop_zero,Zfb] at b
 have b:Zcs o l r _ 0=_:=b
 unfold Zdt
 rcases tf (Zw o) with e1 | e1 <;> rcases tf (inR l 0 4096) with e2 | e2 <;> rcases tf (inR r 0 4096) with e3 | e3 <;> rcases tf (inR n 0 4096) with e4 | e4 <;> simp [hl,e1,e2,e3,e4,b,Zgu,Zfb]
end Go.Proofs.YtbapkgocloaaeaaGreat
/- part: AD -/
namespace Go.Proofs.YtbapkgocloaaeaaGreat
open Go.AM
@[simp] theorem Zcy (c:Int):Zbz c=some (I (Zu c),[]):=by
 refine Zv2 _ _ ?_
 cases h:inR c 0 7
 ·simp [h,Zlz h]
 ·rcases cls8 h with rfl | rfl | rfl | rfl | rfl | rfl | rfl | rfl <;> simp [inR,Zu,wrap64,shlI]
@[simp] theorem Zcz (c:Int):Zb3 c=some (I (Zu c),[]):=by
 refine Zwe _ _ ?_
 have e:∀ n i r,(if i<c then Zdb c (if 1<w (n*4) then w (n*4) else 1) (w (i+1))=some r else some (I n,[])=some r)→Zdb c n i=some r:=fun n i r h=>Zwd _ _ _ _ h
 cases h:inR c 0 7
 ·simp [h,Zlz h]
 ·refine ⟨_,Zfa _ _ _,?_⟩
  rw [h,if_pos rfl]
  rcases cls8 h with rfl | rfl | rfl | rfl | rfl | rfl | rfl | rfl
  all_goals repeat (refine e _ _ _ ?_;first | (rw [if_neg (by decide)];rfl) | rw [if_pos (by decide)])
def inT (t:List Int):Prop:=∃ a b c:Int,t=[a,b,c]∧(0≤a∧a≤7)∧(0≤b∧b≤7)∧(0≤c∧c≤7)
def tcl (o:Zc):List Int→Int
 | [a,b,c]=>Zgu o (Zu a) (Zu b) (Zu c)
 | _=>0
theorem Zlj {c:Int} (h0:0≤c) (h7:c≤7):inR (Zu c) 0 4096=true:=by
 have:c=0∨c=1∨c=2∨c=3∨c=4∨c=5∨c=6∨c=7:=by omega
 rcases this with rfl | rfl | rfl | rfl | rfl | rfl | rfl | rfl <;> decide
theorem Zev (o:Zc) (hl:Le o.Steps) {t:List Int} (h:inT t):Z7 o t=some (I (tcl o t),[]):=by
 obtain ⟨a,b,c,rfl,_⟩:=h
 refine Zv4 _ _ _ ?_
 simp [hl,tcl]
theorem Zh9 (o:Zc) (hl:Le o.Steps) (hv:Zw o=true) {t:List Int} (h:inT t):Zdc o t=some (I (tcl o t),[]):=by
 obtain ⟨a,b,c,rfl,h1,h2,h3⟩:=h
 refine Zwg _ _ _ ?_
 have c1:=Zlj h1.1 h1.2
 have c2:=Zlj h2.1 h2.2
 have c3:=Zlj h3.1 h3.2
 simp [hl,tcl,Zdt,hv,c1,c2,c3]
theorem Zqf {t:List Int} (h:inT t) {k:Nat} {e:Int} (hk:t[k]?=some e) (h7:e+1≤7):inT (t.set k (e+1)):=by
 obtain ⟨a,b,c,rfl,h1,h2,h3⟩:=h
 match k,hk with
 | 0,hk=>simp at hk;subst hk;exact ⟨a+1,b,c,rfl,by omega,h2,h3⟩
 | 1,hk=>simp at hk;subst hk;exact ⟨a,b+1,c,rfl,h1,by omega,h3⟩
 | 2,hk=>simp at hk;subst hk;exact ⟨a,b,c+1,rfl,h1,h2,by omega⟩
 | k+3,hk=>simp at hk
theorem Zqg {t:List Int} (h:inT t) {k:Nat} (hk:k<3):∃ e,t[k]?=some e∧0≤e∧e≤7:=by
 obtain ⟨a,b,c,rfl,h1,h2,h3⟩:=h
 match k,hk with
 | 0,_=>exact ⟨a,rfl,h1⟩
 | 1,_=>exact ⟨b,rfl,h2⟩
 | 2,_=>exact ⟨c,rfl,h3⟩
theorem Zlk {t:List Int} (h:inT t):t.length=3:=by obtain ⟨a,b,c,rfl,_⟩:=h;rfl
def decK (o:Zc) (t:List Int) (k:Nat):Prop:=∃ e,t[k]?=some e∧e+1≤7∧tcl o (t.set k (e+1))<tcl o t
def decF (o:Zc) (t:List Int) (k:Nat):Prop:=∃ j,k≤j∧j<3∧decK o t j
def decr (o:Zc):Prop:=∃ t,inT t∧decF o t 0
def cheap (o:Zc):Prop:=∃ t,inT t∧tcl o t<1
abbrev Zbj (X:Rs) (p:Prop):Prop:=∃ (xs ys:List Int) (b:Bool),X=some (.tup [.own 0,.own 1,Bo b],[.arr Zv 1 true (xs.map ic),.arr Zv 1 true (ys.map ic)])∧(b=true↔p)
theorem Zbj.congr {X:Rs} {p q:Prop} (h:Zbj X p) (e:p↔q):Zbj X q:=by
 obtain ⟨xs,ys,b,h1,h2⟩:=h;exact ⟨xs,ys,b,h1,h2.trans e⟩
theorem l_fd0 (o:Zc) (hl:Le o.Steps) (hv:Zw o=true) {t:List Int} (ht:inT t) (a b e:Int) (p:Prop) (hc:Zbj (Zdf o a b (w (e+1))) p):∀ k:Nat,k≤3 →
  Zbj (Zb4 o t a b e k) (decF o t k∨p):=by
 have h3:=Zlk ht
 refine down _ ?_ ?_
 ·obtain ⟨xs,ys,f,h1,h2⟩:=hc
  refine ⟨xs,ys,f,Zpl _ _ _ _ _ _ _ (by rw [if_neg (by omega)];exact h1),?_⟩
  rw [h2]
  exact ⟨.inr,fun h=>h.elim (fun ⟨j,a,b,_⟩=>by omega) id⟩
 ·intro k hk ih
  have h4:=inc64 (i:=k) (by omega)
  obtain ⟨x,hx,x0,x7⟩:=Zqg ht hk
  have wx:w (x+1)=x+1:=wrap64 (by omega) (by omega)
  simp only [Int.natCast_add,Int.cast_ofNat_Int] at ih
  have step:decF o t k↔(decK o t k∨decF o t (k+1)):=by
   constructor
   ·rintro ⟨j,j1,j2,j3⟩
    by_cases hj:j=k
    ·subst hj;exact .inl j3
    ·exact .inr ⟨j,by omega,j2,j3⟩
   ·rintro (h | ⟨j,j1,j2,j3⟩)
    ·exact ⟨k,Nat.le_refl _,hk,h⟩
    ·exact ⟨j,by omega,j2,j3⟩
  have pre:∀ r,(if x+1≤7 then (if tcl o (t.set k (x+1))<tcl o t then some (.tup [.own 0,.own 1,Bo true],[.arr Zv 1 true (t.map ic),.arr Zv 1 true ((t.set k (x+1)).map ic)])=some r
    else Zb4 o t a b e ((k:Int)+1)=some r) else Zb4 o t a b e ((k:Int)+1)=some r)→Zb4 o t a b e k=some r:=by
   intro r hr
   refine Zpl _ _ _ _ _ _ _ ?_
   rw [if_pos (by omega)]
   refine ⟨by omega,by omega,x,by rw [Int.toNat_natCast];exact hx,?_⟩
   rw [wx,Int.toNat_natCast,show w ((k:Int)+1)=(k:Int)+1 from h4]
   by_cases h7:x+1≤7
   ·rw [if_pos h7] at hr ⊢
    exact ⟨_,Zh9 o hl hv (Zqf ht hx h7),_,Zh9 o hl hv ht,hr⟩
   ·rw [if_neg h7] at hr ⊢
    exact hr
  have dk:decK o t k↔(x+1≤7∧tcl o (t.set k (x+1))<tcl o t):=by
   constructor
   ·rintro ⟨y,y1,y2,y3⟩;rw [hx] at y1;cases y1;exact ⟨y2,y3⟩
   ·rintro ⟨y2,y3⟩;exact ⟨x,hx,y2,y3⟩
  by_cases h7:x+1≤7∧tcl o (t.set k (x+1))<tcl o t
  ·refine ⟨_,_,true,pre _ (by rw [if_pos h7.1,if_pos h7.2]),?_⟩
   rw [step,dk]
   exact ⟨fun _=>.inl (.inl h7),fun _=>rfl⟩
  ·obtain ⟨xs,ys,f,i1,i2⟩:=ih
   refine ⟨xs,ys,f,pre _ ?_,?_⟩
   ·split
    ·split
     ·rename_i a1 a2;exact absurd ⟨a1,a2⟩ h7
     ·exact i1
    ·exact i1
   ·rw [i2,step,dk]
    constructor
    ·exact fun h=>h.imp .inr id
    ·exact fun h=>h.imp (fun h=>h.resolve_left h7) id
theorem Zfc {P:Nat→Prop} {i:Nat} {p:Prop} (hi:i<8):((∃ z,i≤z∧z≤7∧P z)∨p)↔(P i∨(∃ z,i+1≤z∧z≤7∧P z)∨p):=by
 constructor
 ·rintro (⟨z,z1,z2,z3⟩ | h)
  ·by_cases hz:z=i
   ·subst hz;exact .inl z3
   ·exact .inr (.inl ⟨z,by omega,z2,z3⟩)
  ·exact .inr (.inr h)
 ·rintro (h | ⟨z,z1,z2,z3⟩ | h)
  ·exact .inl ⟨i,Nat.le_refl _,by omega,h⟩
  ·exact .inl ⟨z,by omega,z2,z3⟩
  ·exact .inr h
theorem Zfd {P:Nat→Prop} {p:Prop}:((∃ z,8≤z∧z≤7∧P z)∨p)↔p:=⟨fun h=>h.elim (fun ⟨z,a,b,_⟩=>by omega) id,.inr⟩
theorem l_fd1 (o:Zc) (hl:Le o.Steps) (hv:Zw o=true) (a b:Nat) (ha:a≤7) (hb:b≤7) (p:Prop) (hc:Zbj (Zde o a ((b:Int)+1)) p):∀ e:Nat,e≤8 →
  Zbj (Zdf o a b e) ((∃ z:Nat,e≤z∧z≤7∧decF o [(a:Int),(b:Int),(z:Int)] 0)∨p):=by
 have wb:w ((b:Int)+1)=(b:Int)+1:=wrap64 (by omega) (by omega)
 refine down _ ?_ ?_
 ·refine Zbj.congr ?_ Zfd.symm
  obtain ⟨xs,ys,f,h1,h2⟩:=hc
  exact ⟨xs,ys,f,Zpk _ _ _ _ _ (by rw [if_neg (by omega),wb];exact h1),h2⟩
 ·intro e he ih
  have we:w ((e:Int)+1)=(e:Int)+1:=wrap64 (by omega) (by omega)
  have hT:inT [(a:Int),(b:Int),(e:Int)]:=⟨a,b,e,rfl,by omega,by omega,by omega⟩
  simp only [Int.natCast_add,Int.cast_ofNat_Int] at ih
  obtain ⟨xs,ys,f,h1,h2⟩:=l_fd0 o hl hv hT a b e _ (by rw [we];exact ih) 0 (by omega)
  exact ⟨xs,ys,f,Zpk _ _ _ _ _ (by rw [if_pos (by omega)];exact h1),h2.trans (Zfc (P:=fun z:Nat=>decF o [(a:Int),(b:Int),(z:Int)] 0) he).symm⟩
theorem l_fd2 (o:Zc) (hl:Le o.Steps) (hv:Zw o=true) (a:Nat) (ha:a≤7) (p:Prop) (hc:Zbj (Zdd o ((a:Int)+1)) p):∀ b:Nat,b≤8 →
  Zbj (Zde o a b) ((∃ y:Nat,b≤y∧y≤7∧∃ z:Nat,0≤z∧z≤7∧decF o [(a:Int),(y:Int),(z:Int)] 0)∨p):=by
 have wa:w ((a:Int)+1)=(a:Int)+1:=wrap64 (by omega) (by omega)
 refine down _ ?_ ?_
 ·refine Zbj.congr ?_ Zfd.symm
  obtain ⟨xs,ys,f,h1,h2⟩:=hc
  exact ⟨xs,ys,f,Zpj _ _ _ _ (by rw [if_neg (by omega),wa];exact h1),h2⟩
 ·intro b hb ih
  simp only [Int.natCast_add,Int.cast_ofNat_Int] at ih
  obtain ⟨xs,ys,f,h1,h2⟩:=l_fd1 o hl hv a b ha (by omega) _ ih 0 (by omega)
  exact ⟨xs,ys,f,Zpj _ _ _ _ (by rw [if_pos (by omega)];exact h1),h2.trans (Zfc (P:=fun y:Nat=>∃ z:Nat,0≤z∧z≤7∧decF o [(a:Int),(y:Int),(z:Int)] 0) hb).symm⟩
theorem l_fd3 (o:Zc) (hl:Le o.Steps) (hv:Zw o=true):∀ a:Nat,a≤8 →
  Zbj (Zdd o a) ((∃ x:Nat,a≤x∧x≤7∧∃ y:Nat,0≤y∧y≤7∧∃ z:Nat,0≤z∧z≤7∧decF o [(x:Int),(y:Int),(z:Int)] 0)∨False):=by
 refine down _ ?_ ?_
 ·refine Zbj.congr ?_ Zfd.symm
  exact ⟨[],[],false,Zpi _ _ _ (by rw [if_neg (by omega)]),by simp⟩
 ·intro a ha ih
  simp only [Int.natCast_add,Int.cast_ofNat_Int] at ih
  obtain ⟨xs,ys,f,h1,h2⟩:=l_fd2 o hl hv a (by omega) _ ih 0 (by omega)
  exact ⟨xs,ys,f,Zpi _ _ _ (by rw [if_pos (by omega)];exact h1),h2.trans (Zfc (P:=fun x:Nat=>∃ y:Nat,0≤y∧y≤7∧∃ z:Nat,0≤z∧z≤7∧decF o [(x:Int),(y:Int),(z:Int)] 0) ha).symm⟩
theorem Zqh (o:Zc) (P:List Int→Prop):(∃ t,inT t∧P t)↔∃ x:Nat,0≤x∧x≤7∧∃ y:Nat,0≤y∧y≤7∧∃ z:Nat,0≤z∧z≤7∧P [(x:Int),(y:Int),(z:Int)]:=by
 constructor
 ·rintro ⟨t,⟨a,b,c,rfl,h1,h2,h3⟩,h⟩
  refine ⟨a.toNat,by omega,by omega,b.toNat,by omega,by omega,c.toNat,by omega,by omega,?_⟩
  rw [Int.toNat_of_nonneg h1.1,Int.toNat_of_nonneg h2.1,Int.toNat_of_nonneg h3.1]
  exact h
 ·rintro ⟨x,_,x2,y,_,y2,z,_,z2,h⟩
  exact ⟨_,⟨x,y,z,rfl,by omega,by omega,by omega⟩,h⟩
theorem Zx8 (o:Zc) (hl:Le o.Steps) (hv:Zw o=true):Zbj (Zf2 o) (decr o):=by
 obtain ⟨xs,ys,f,h1,h2⟩:=l_fd3 o hl hv 0 (by omega)
 refine ⟨xs,ys,f,Zwh _ _ ⟨_,Zgt o hl,?_⟩,?_⟩
 ·rw [hv,if_pos rfl];exact h1
 ·rw [h2,decr,Zqh o (fun t=>decF o t 0)]
  simp
abbrev Zbl (X:Rs) (p:Prop):Prop:=∃ (xs:List Int),X=some (.own 0,[.arr Zv 1 true (xs.map ic)])∧(xs≠[]↔p)
theorem Zbl.congr {X:Rs} {p q:Prop} (h:Zbl X p) (e:p↔q):Zbl X q:=by
 obtain ⟨xs,h1,h2⟩:=h;exact ⟨xs,h1,h2.trans e⟩
theorem l_ch0 (o:Zc) (hl:Le o.Steps) (hv:Zw o=true) (a b:Nat) (ha:a≤7) (hb:b≤7) (p:Prop) (hc:Zbl (Zdh o a ((b:Int)+1)) p):∀ e:Nat,e≤8 →
  Zbl (Zeb o a b e) ((∃ z:Nat,e≤z∧z≤7∧tcl o [(a:Int),(b:Int),(z:Int)]<1)∨p):=by
 have wb:w ((b:Int)+1)=(b:Int)+1:=wrap64 (by omega) (by omega)
 refine down _ ?_ ?_
 ·refine Zbl.congr ?_ Zfd.symm
  obtain ⟨xs,h1,h2⟩:=hc
  exact ⟨xs,Zle _ _ _ _ _ (by rw [if_neg (by omega),wb];exact h1),h2⟩
 ·intro e he ih
  have we:w ((e:Int)+1)=(e:Int)+1:=wrap64 (by omega) (by omega)
  have hT:inT [(a:Int),(b:Int),(e:Int)]:=⟨a,b,e,rfl,by omega,by omega,by omega⟩
  simp only [Int.natCast_add,Int.cast_ofNat_Int] at ih
  refine Zbl.congr ?_ (Zfc he).symm
  by_cases h:tcl o [(a:Int),(b:Int),(e:Int)]<1
  ·refine ⟨[a,b,e],Zle _ _ _ _ _ ?_,by simp [h]⟩
   rw [if_pos (by omega)]
   exact ⟨_,Zh9 o hl hv hT,by rw [if_pos h]⟩
  ·obtain ⟨xs,h1,h2⟩:=ih
   refine ⟨xs,Zle _ _ _ _ _ ?_,by rw [h2];simp [h]⟩
   rw [if_pos (by omega)]
   exact ⟨_,Zh9 o hl hv hT,by rw [if_neg h,we];exact h1⟩
theorem l_ch1 (o:Zc) (hl:Le o.Steps) (hv:Zw o=true) (a:Nat) (ha:a≤7) (p:Prop) (hc:Zbl (Zdg o ((a:Int)+1)) p):∀ b:Nat,b≤8 →
  Zbl (Zdh o a b) ((∃ y:Nat,b≤y∧y≤7∧∃ z:Nat,0≤z∧z≤7∧tcl o [(a:Int),(y:Int),(z:Int)]<1)∨p):=by
 have wa:w ((a:Int)+1)=(a:Int)+1:=wrap64 (by omega) (by omega)
 refine down _ ?_ ?_
 ·refine Zbl.congr ?_ Zfd.symm
  obtain ⟨xs,h1,h2⟩:=hc
  exact ⟨xs,Zpn _ _ _ _ (by rw [if_neg (by omega),wa];exact h1),h2⟩
 ·intro b hb ih
  simp only [Int.natCast_add,Int.cast_ofNat_Int] at ih
  obtain ⟨xs,h1,h2⟩:=l_ch0 o hl hv a b ha (by omega) _ ih 0 (by omega)
  exact ⟨xs,Zpn _ _ _ _ (by rw [if_pos (by omega)];exact h1),h2.trans (Zfc (P:=fun y:Nat=>∃ z:Nat,0≤z∧z≤7∧tcl o [(a:Int),(y:Int),(z:Int)]<1) hb).symm⟩
theorem l_ch2 (o:Zc) (hl:Le o.Steps) (hv:Zw o=true):∀ a:Nat,a≤8 →
  Zbl (Zdg o a) ((∃ x:Nat,a≤x∧x≤7∧∃ y:Nat,0≤y∧y≤7∧∃ z:Nat,0≤z∧z≤7∧tcl o [(x:Int),(y:Int),(z:Int)]<1)∨False):=by
 refine down _ ?_ ?_
 ·refine Zbl.congr ?_ Zfd.symm
  exact ⟨[],Zpm _ _ _ (by rw [if_neg (by omega)]),by simp⟩
 ·intro a ha ih
  simp only [Int.natCast_add,Int.cast_ofNat_Int] at ih
  obtain ⟨xs,h1,h2⟩:=l_ch1 o hl hv a (by omega) _ ih 0 (by omega)
  exact ⟨xs,Zpm _ _ _ (by rw [if_pos (by omega)];exact h1),h2.trans (Zfc (P:=fun x:Nat=>∃ y:Nat,0≤y∧y≤7∧∃ z:Nat,0≤z∧z≤7∧tcl o [(x:Int),(y:Int),(z:Int)]<1) ha).symm⟩
theorem Zx9 (o:Zc) (hl:Le o.Steps) (hv:Zw o=true):Zbl (Zf5 o) (cheap o):=by
 obtain ⟨xs,h1,h2⟩:=l_ch2 o hl hv 0 (by omega)
 refine ⟨xs,Zwi _ _ h1,?_⟩
 rw [h2,cheap,Zqh o (fun t=>tcl o t<1)]
 simp
def rowC (a b:Int) (c:Nat):List (List Int):=(List.range' c (8 - c)).map fun z:Nat=>[a,b,(z:Int)]
def rowB (a:Int) (b:Nat):List (List Int):=(List.range' b (8 - b)).flatMap fun y:Nat=>rowC a y 0
def rowA (a:Nat):List (List Int):=(List.range' a (8 - a)).flatMap fun x:Nat=>rowB x 0
theorem Zll {i:Nat} (h:i<8):List.range' i (8 - i)=i::List.range' (i+1) (8 - (i+1)):=by
 rw [show 8 - i=(8 - (i+1))+1 by omega,List.range'_succ]
theorem rowC_len (a b:Int) (c:Nat):(rowC a b c).length=8 - c:=by simp [rowC]
theorem rowB_len (a:Int):(rowB a 0).length=64:=rfl
theorem l_tr0 (a b:Nat) (hb:b≤7) (r:AV×List Blk):∀ c:Nat,c≤8→∀ out:List (List Int),out.length≤1000000→Zck (out++rowC a b c) a ((b:Int)+1)=some r→Zc7 out a b c=some r:=by
 have wb:w ((b:Int)+1)=(b:Int)+1:=wrap64 (by omega) (by omega)
 have key:∀ c:Nat,c≤8→∀ out:List (List Int),out.length≤1000000+c→Zck (out++rowC a b c) a ((b:Int)+1)=some r→Zc7 out a b c=some r:=by
  refine down _ ?_ ?_
  ·intro out ho h
   refine Zo8 _ _ _ _ _ ?_
   rw [if_neg (by omega),wb]
   simpa [rowC] using h
  ·intro c hc ih out ho h
   have wc:w ((c:Int)+1)=(c:Int)+1:=wrap64 (by omega) (by omega)
   refine Zo8 _ _ _ _ _ ?_
   rw [if_pos (by omega),wc]
   refine ⟨by omega,?_⟩
   have ih:=ih (out++[[(a:Int),(b:Int),(c:Int)]]) (by simp;omega) (by
    rw [rowC,Zll hc] at h
    simpa [rowC] using h)
   simpa using ih
 exact fun c hc out ho h=>key c hc out (by omega) h
theorem l_tr1 (a:Nat) (ha:a≤7) (r:AV×List Blk):∀ b:Nat,b≤8→∀ out:List (List Int),out.length≤100000+8*b→Zc6 (out++rowB a b) ((a:Int)+1)=some r→Zck out a b=some r:=by
 have wa:w ((a:Int)+1)=(a:Int)+1:=wrap64 (by omega) (by omega)
 refine down _ ?_ ?_
 ·intro out ho h
  refine Zo7 _ _ _ _ ?_
  rw [if_neg (by omega),wa]
  simpa [rowB] using h
 ·intro b hb ih out ho h
  refine Zo7 _ _ _ _ ?_
  rw [if_pos (by omega)]
  refine l_tr0 a b (by omega) r 0 (by omega) out (by omega) ?_
  have ih:=ih (out++rowC a b 0) (by rw [List.length_append,rowC_len];omega) (by
   rw [rowB,Zll hb] at h
   simpa [rowB] using h)
  simpa using ih
theorem l_tr2:∀ a:Nat,a≤8→∀ out:List (List Int),out.length≤64*a→Zc6 out a=some (.own 0,[.arr Zml 1 true ((out++rowA a).map isc)]):=by
 refine down _ ?_ ?_
 ·intro out ho
  refine Zo6 _ _ _ ?_
  rw [if_neg (by omega)]
  simp [rowA]
 ·intro a ha ih out ho
  refine Zo6 _ _ _ ?_
  rw [if_pos (by omega)]
  refine l_tr1 a (by omega) _ 0 (by omega) out (by omega) ?_
  have ih:=ih (out++rowB a 0) (by rw [List.length_append,rowB_len];omega)
  rw [rowA,Zll ha]
  simpa [rowA] using ih
def allT:List (List Int):=rowA 0
theorem Zfe:Zbb=some (.own 0,[.arr Zml 1 true (allT.map isc)]):=Zv0 _ (l_tr2 0 (by omega) [] (by simp))
theorem Zbs (t:List Int):t∈allT↔inT t:=by
 simp only [allT,rowA,rowB,rowC,List.mem_flatMap,List.mem_map,List.mem_range'_1,inT]
 constructor
 ·rintro ⟨x,hx,y,hy,z,hz,rfl⟩
  exact ⟨x,y,z,rfl,by omega,by omega,by omega⟩
 ·rintro ⟨a,b,c,rfl,h1,h2,h3⟩
  refine ⟨a.toNat,by omega,b.toNat,by omega,c.toNat,by omega,?_⟩
  rw [Int.toNat_of_nonneg h1.1,Int.toNat_of_nonneg h2.1,Int.toNat_of_nonneg h3.1]
set_option maxRecDepth 100000 in
theorem Zff:allT.length=512:=rfl
@[simp] theorem Zya (xs:List Int) (h:xs.length≤68719476736):Zfz xs=some (.own 0,[.arr Zv 1 true (xs.map ic)]):=Zv1 _ _ ⟨h,rfl⟩
abbrev GoodI (X:Rs) (p:Prop):Prop:=(p∧∃ xs ys:List Int,X=some (.tup [L 1 (xs.map ic),.own 0,Bo true],[.arr Zv 1 true (ys.map ic)]))∨(¬ p∧X=some (.tup [.t .nil,.t .nil,Bo false],[]))
theorem l_id0 (o:Zc) (hl:Le o.Steps) (ts:List (List Int)) {t:List Int} (ht:inT t) (n i:Int) (p:Prop) (hc:GoodI (Zca o ts n (w (i+1))) p):∀ k:Nat,k≤3 →
  GoodI (Zbh o ts t n i 3 k) (decF o t k∨p):=by
 have h3:=Zlk ht
 refine down _ ?_ ?_
 ·have e:(decF o t 3∨p)↔p:=⟨fun h=>h.elim (fun ⟨j,a,b,_⟩=>by omega) id,.inr⟩
  rcases hc with ⟨h,xs,ys,h1⟩ | ⟨h,h1⟩
  ·exact .inl ⟨e.2 h,xs,ys,Zld _ _ _ _ _ _ _ _ (by rw [if_neg (by omega)];exact h1)⟩
  ·exact .inr ⟨fun hc=>h (e.1 hc),Zld _ _ _ _ _ _ _ _ (by rw [if_neg (by omega)];exact h1)⟩
 ·intro k hk ih
  have h4:=inc64 (i:=k) (by omega)
  obtain ⟨x,hx,x0,x7⟩:=Zqg ht hk
  have wx:w (x+1)=x+1:=wrap64 (by omega) (by omega)
  simp only [Int.natCast_add,Int.cast_ofNat_Int] at ih
  have step:decF o t k↔(decK o t k∨decF o t (k+1)):=by
   constructor
   ·rintro ⟨j,j1,j2,j3⟩
    by_cases hj:j=k
    ·subst hj;exact .inl j3
    ·exact .inr ⟨j,by omega,j2,j3⟩
   ·rintro (h | ⟨j,j1,j2,j3⟩)
    ·exact ⟨k,Nat.le_refl _,hk,h⟩
    ·exact ⟨j,by omega,j2,j3⟩
  have dk:decK o t k↔(x+1≤7∧tcl o (t.set k (x+1))<tcl o t):=by
   constructor
   ·rintro ⟨y,y1,y2,y3⟩;rw [hx] at y1;cases y1;exact ⟨y2,y3⟩
   ·rintro ⟨y2,y3⟩;exact ⟨x,hx,y2,y3⟩
  have pre:∀ r,(if x+1≤7 then (if tcl o (t.set k (x+1))<tcl o t then some (.tup [L 1 (t.map ic),.own 0,Bo true],[.arr Zv 1 true ((t.set k (x+1)).map ic)])=some r
    else Zbh o ts t n i 3 ((k:Int)+1)=some r) else Zbh o ts t n i 3 ((k:Int)+1)=some r)→Zbh o ts t n i 3 k=some r:=by
   intro r hr
   refine Zld _ _ _ _ _ _ _ _ ?_
   rw [if_pos (by omega)]
   refine ⟨by omega,x,by rw [Int.toNat_natCast];exact hx,?_⟩
   rw [show w ((k:Int)+1)=(k:Int)+1 from h4]
   by_cases h7:x=7
   ·rw [if_pos h7]
    rw [if_neg (by omega)] at hr
    exact hr
   ·rw [if_neg h7]
    have h8:x+1≤7:=by omega
    rw [if_pos h8] at hr
    refine ⟨t,Zya t (by omega),x,by rw [Int.toNat_natCast];exact hx,?_⟩
    rw [wx,Int.toNat_natCast]
    exact ⟨_,Zev o hl (Zqf ht hx h8),_,Zev o hl ht,hr⟩
  by_cases h7:x+1≤7∧tcl o (t.set k (x+1))<tcl o t
  ·exact .inl ⟨.inl (step.2 (.inl (dk.2 h7))),_,_,pre _ (by rw [if_pos h7.1,if_pos h7.2])⟩
  ·have go:∀ r,Zbh o ts t n i 3 ((k:Int)+1)=some r→Zbh o ts t n i 3 k=some r:=by
    intro r hr
    refine pre r ?_
    split
    ·split
     ·rename_i a1 a2;exact absurd ⟨a1,a2⟩ h7
     ·exact hr
    ·exact hr
   have e:(decF o t k∨p)↔(decF o t (k+1)∨p):=by
    rw [step,dk]
    exact ⟨fun h=>h.imp (fun h=>h.resolve_left h7) id,fun h=>h.imp .inr id⟩
   rcases ih with ⟨h,xs,ys,h1⟩ | ⟨h,h1⟩
   ·exact .inl ⟨e.2 h,xs,ys,go _ h1⟩
   ·exact .inr ⟨fun hc=>h (e.1 hc),go _ h1⟩
theorem l_id1 (o:Zc) (hl:Le o.Steps) (ts:List (List Int)) (hts:∀ t∈ts,inT t) (hn:ts.length≤1000):∀ i,i≤ts.length→GoodI (Zca o ts ts.length i) (∃ t∈ts.drop i,decF o t 0):=by
 refine down _ ?_ ?_
 ·refine .inr ⟨by simp,Zpa _ _ _ _ _ (by rw [if_neg (by omega)])⟩
 ·intro i hi ih
  have h4:=inc64 (i:=i) (by omega)
  have ht:=hts _ (List.getElem_mem hi)
  simp only [Int.natCast_add,Int.cast_ofNat_Int] at ih
  have b:=l_id0 o hl ts ht ts.length i _ (by rw [show w ((i:Int)+1)=(i:Int)+1 from h4];exact ih) 0 (by omega)
  have go:∀ r,Zbh o ts ts[i] ts.length i 3 0=some r→Zca o ts ts.length i=some r:=by
   intro r hr
   refine Zpa _ _ _ _ _ ?_
   rw [if_pos (by omega)]
   refine ⟨by omega,ts[i],by rw [Int.toNat_natCast];exact List.getElem?_eq_getElem hi,?_⟩
   rw [Zlk ht]
   exact hr
  have e:(∃ t∈ts.drop i,decF o t 0)↔(decF o ts[i] 0∨∃ t∈ts.drop (i+1),decF o t 0):=by
   rw [List.drop_eq_getElem_cons hi];simp only [List.mem_cons,exists_eq_or_imp]
  rcases b with ⟨h,xs,ys,h1⟩ | ⟨h,h1⟩
  ·exact .inl ⟨e.2 h,xs,ys,go _ h1⟩
  ·exact .inr ⟨fun hc=>h (e.1 hc),go _ h1⟩
theorem Zgv (o:Zc) (hl:Le o.Steps) (hv:Zw o=true):GoodI (Zx o) (decr o):=by
 have b:=l_id1 o hl allT (fun t h=>(Zbs t).1 h) (by rw [Zff];omega) 0 (Nat.zero_le _)
 have go:∀ r,Zca o allT allT.length 0=some r→Zx o=some r:=by
  intro r hr
  refine Zv5 _ _ ⟨_,Z9 o hl,?_⟩
  rw [hv,if_pos rfl]
  exact ⟨allT,Zfe,hr⟩
 have e:(∃ t∈allT.drop 0,decF o t 0)↔decr o:=by
  simp only [List.drop_zero,Zbs,decr]
 rcases b with ⟨h,xs,ys,h1⟩ | ⟨h,h1⟩
 ·exact .inl ⟨e.1 h,xs,ys,go _ h1⟩
 ·exact .inr ⟨fun hc=>h (e.2 hc),go _ h1⟩
def Zbe (o:Zc):Prop:=Zw o=true∧¬ decr o∧¬ cheap o
def mOp (m:Zf) (k:Int):Zc:=if k=1 then m.Scan else if k=2 then m.Sort_ else if k=3 then m.Hash else if k=4 then m.Merge else m.Nested
abbrev LeM (m:Zf):Prop:=Le m.Scan.Steps∧Le m.Sort_.Steps∧Le m.Hash.Steps∧Le m.Merge.Steps∧Le m.Nested.Steps
theorem LeM.op {m:Zf} (h:LeM m) (k:Int):Le (mOp m k).Steps:=by
 unfold mOp
 obtain ⟨h1,h2,h3,h4,h5⟩:=h
 repeat' split
 all_goals assumption
@[simp] theorem Zqi (m:Zf) (k:Int):Zea m k=some (.agg ((mOp m k).c.map .t),[]):=by
 refine Zv9 _ _ _ ?_
 unfold mOp
 by_cases h1:k=1
 ·simp [h1]
 by_cases h2:k=2
 ·simp [h2]
 by_cases h3:k=3
 ·simp [h3]
 by_cases h4:k=4
 ·simp [h4]
 ·simp [h1,h2,h3,h4]
def Zbt (m:Zf):Prop:=Zbe m.Scan∧Zbe m.Sort_∧Zbe m.Hash∧Zbe m.Merge∧Zbe m.Nested
theorem Zyb (m:Zf) (hm:LeM m):∀ k:Nat,k≤6→1≤k →
  ∃ (xs ys:List Int) (n:Int),Zdi m k=some (.tup [I n,.own 0,.own 1],[.arr Zv 1 true (xs.map ic),.arr Zv 1 true (ys.map ic)])∧(n=0↔∀ j:Nat,k≤j→j≤5→Zbe (mOp m j)):=by
 refine down _ ?_ ?_
 ·intro _
  exact ⟨[],[],0,Zpo _ _ _ (by rw [if_neg (by omega)]),⟨fun _ j h1 h2=>by omega,fun _=>rfl⟩⟩
 ·intro k hk ih h1
  have wk':w ((k:Int)+1)=(k:Int)+1:=wrap64 (by omega) (by omega)
  have hl:=hm.op k
  have step:(∀ j:Nat,k≤j→j≤5→Zbe (mOp m j))↔(Zbe (mOp m k)∧∀ j:Nat,k+1≤j→j≤5→Zbe (mOp m j)):=by
   constructor
   ·exact fun h=>⟨h k (Nat.le_refl _) (by omega),fun j a b=>h j (by omega) b⟩
   ·rintro ⟨a,b⟩ j c d
    by_cases hj:j=k
    ·subst hj;exact a
    ·exact b j (by omega) d
  have kne:(k:Int)≠0:=by omega
  have pre:∀ r,(∃ v2_0,Zcb (mOp m k)=some (Bo v2_0,[])∧_)→Zdi m k=some r:=fun r h=>Zpo _ _ _ (by rw [if_pos (by omega)];exact ⟨mOp m k,Zqi m k,h⟩)
  rcases tf (Zw (mOp m k)) with hv | hv
  ·refine ⟨[],[],k,pre _ ⟨false,by rw [Zgt _ hl,hv],by rw [if_neg (by simp)]⟩,?_⟩
   rw [step]
   exact ⟨fun h=>absurd h kne,fun h=>by have:=h.1.1;rw [hv] at this;cases this⟩
  ·obtain ⟨xs,ys,f,d1,d2⟩:=Zx8 (mOp m k) hl hv
   cases f with
   | true =>
    refine ⟨xs,ys,k,pre _ ⟨true,by rw [Zgt _ hl,hv],?_⟩,?_⟩
    ·rw [if_pos rfl];exact ⟨xs,ys,true,d1,by rw [if_pos rfl]⟩
    ·rw [step]
     exact ⟨fun h=>absurd h kne,fun h=>absurd (d2.1 rfl) h.1.2.1⟩
   | false =>
    obtain ⟨cs,c1,c2⟩:=Zx9 (mOp m k) hl hv
    by_cases hc:cs=[]
    ·obtain ⟨xs',ys',n,i1,i2⟩:=ih (by omega)
     simp only [Int.natCast_add,Int.cast_ofNat_Int] at i1
     refine ⟨xs',ys',n,pre _ ⟨true,by rw [Zgt _ hl,hv],?_⟩,?_⟩
     ·rw [if_pos rfl]
      refine ⟨xs,ys,false,d1,?_⟩
      rw [if_neg (by simp)]
      refine ⟨cs,c1,?_⟩
      rw [hc,if_neg (by simp),wk']
      exact i1
     ·rw [step,i2]
      refine ⟨fun h=>⟨⟨hv,fun hd=>(by have:=d2.2 hd;cases this),fun hch=>(c2.2 hch) hc⟩,h⟩,fun h=>h.2⟩
    ·refine ⟨cs,[],k,pre _ ⟨true,by rw [Zgt _ hl,hv],?_⟩,?_⟩
     ·rw [if_pos rfl]
      refine ⟨xs,ys,false,d1,?_⟩
      rw [if_neg (by simp)]
      refine ⟨cs,c1,?_⟩
      have:0<cs.length:=List.length_pos_iff.2 hc
      rw [if_pos (by omega)]
     ·rw [step]
      exact ⟨fun h=>absurd h kne,fun h=>absurd (c2.1 hc) h.1.2.2⟩
theorem adm_iff (m:Zf):(∀ j:Nat,1≤j→j≤5→Zbe (mOp m j))↔Zbt m:=by
 constructor
 ·intro h
  exact ⟨h 1 (by omega) (by omega),h 2 (by omega) (by omega),h 3 (by omega) (by omega),h 4 (by omega) (by omega),h 5 (by omega) (by omega)⟩
 ·rintro ⟨h1,h2,h3,h4,h5⟩ j a b
  have:j=1∨j=2∨j=3∨j=4∨j=5:=by omega
  rcases this with rfl | rfl | rfl | rfl | rfl
  ·exact h1
  ·exact h2
  ·exact h3
  ·exact h4
  ·exact h5
open Classical in
theorem Zyc (m:Zf) (hm:LeM m):Zf6 m=some (Bo (decide (Zbt m)),[]):=by
 obtain ⟨xs,ys,n,h1,h2⟩:=Zyb m hm 1 (by omega) (by omega)
 refine Zwk _ _ ⟨xs,ys,n,Zwj _ _ h1,?_⟩
 rw [adm_iff] at h2
 by_cases h:Zbt m
 ·rw [decide_eq_true h,decide_eq_true (h2.2 h)]
 ·rw [decide_eq_false h,decide_eq_false (fun hc=>h (h2.1 hc))]
abbrev Zq (X:Rs) (p:Prop):Prop:=(p∧X=some (.tup [I 0,.t .nil,.t .nil],[]))∨(¬ p∧∃ n:Int,n≠0∧((∃ xs ys:List Int,X=some (.tup [I n,L 1 (xs.map ic),.own 0],[.arr Zv 1 true (ys.map ic)]))∨X=some (.tup [I n,.t .nil,.t .nil],[])∨∃ xs:List Int,X=some (.tup [I n,L 1 (xs.map ic),.t .nil],[])))
theorem Zq.of {X Y:Rs} {p:Prop} (h:Zq X p) (e:∀ r,X=some r→Y=some r):Zq Y p:=by
 rcases h with ⟨h,h1⟩ | ⟨h,n,hn,⟨xs,ys,h1⟩ | h1 | ⟨xs,h1⟩⟩
 ·exact .inl ⟨h,e _ h1⟩
 ·exact .inr ⟨h,n,hn,.inl ⟨xs,ys,e _ h1⟩⟩
 ·exact .inr ⟨h,n,hn,.inr (.inl (e _ h1))⟩
 ·exact .inr ⟨h,n,hn,.inr (.inr ⟨xs,e _ h1⟩)⟩
theorem Zq.congr {X:Rs} {p q:Prop} (h:Zq X p) (e:p↔q):Zq X q:=by
 rw [← e];exact h
theorem Zgw {ts:List (List Int)} {j:Nat} (hj:j<ts.length) {P:List Int→Prop} {p:Prop}:((∀ t∈ts.drop j,P t)∧p)↔(P ts[j]∧(∀ t∈ts.drop (j+1),P t)∧p):=by
 rw [List.drop_eq_getElem_cons hj]
 simp only [List.mem_cons,forall_eq_or_imp,and_assoc]
theorem l_rf0 (m:Zf) (hl:Le m.Scan.Steps) (ts:List (List Int)) (hts:∀ t∈ts,inT t) (hn:ts.length≤1000) (kind:Int) (hk:kind≠0) (x1 x2:Int) (p:Prop) (hc:Zq (Zn m x1 (w (x2+1))) p):∀ j,j≤ts.length →
  Zq (Zcl m ts kind x1 x2 ts.length j) ((∀ t∈ts.drop j,¬ tcl m.Scan t<1)∧p):=by
 refine down _ ?_ ?_
 ·refine (hc.of fun r hr=>Zpb _ _ _ _ _ _ _ _ (by rw [if_neg (by omega)];exact hr)).congr (by simp)
 ·intro j hj ih
  have h4:=inc64 (i:=j) (by omega)
  have ht:=hts _ (List.getElem_mem hj)
  simp only [Int.natCast_add,Int.cast_ofNat_Int] at ih
  have pre:∀ r,(if tcl m.Scan ts[j]<1 then some (.tup [I kind,L 1 (ts[j].map ic),.t .nil],[])=some r else Zcl m ts kind x1 x2 ts.length ((j:Int)+1)=some r)→Zcl m ts kind x1 x2 ts.length j=some r:=by
   intro r hr
   refine Zpb _ _ _ _ _ _ _ _ ?_
   rw [if_pos (by omega)]
   refine ⟨by omega,ts[j],by rw [Int.toNat_natCast];exact List.getElem?_eq_getElem hj,_,Zev _ hl ht,?_⟩
   rw [show w ((j:Int)+1)=(j:Int)+1 from h4]
   exact hr
  refine Zq.congr ?_ (Zgw (P:=fun t=>¬ tcl m.Scan t<1) hj).symm
  by_cases h:tcl m.Scan ts[j]<1
  ·exact .inr ⟨fun hc=>hc.1 h,kind,hk,.inr (.inr ⟨_,pre _ (by rw [if_pos h])⟩)⟩
  ·exact (ih.of fun r hr=>pre r (by rw [if_neg h];exact hr)).congr ⟨fun hh=>⟨h,hh⟩,fun hh=>hh.2⟩
theorem l_rf1 (m:Zf) (hm:LeM m) (p:Prop) (hc:Zq (Zn m 5 1) p):Zq (Zn m 5 0) (Zbe m.Scan∧p):=by
 have hl:Le m.Scan.Steps:=by obtain ⟨h1,h2,h3,h4,h5⟩:=hm;assumption
 have w1:w (1+0)=1:=by decide
 have w2:w (0+1)=1:=by decide
 have pre:∀ r,(∃ v1_0,Zy m.Scan=some (Bo v1_0,[])∧_)→Zn m 5 0=some r:=fun r h=>Ze9 _ _ _ _ (by rw [if_pos (by omega),if_pos rfl];exact h)
 rcases tf (Zw m.Scan) with hv | hv
 ·refine .inr ⟨fun h=>(by have:=h.1.1;rw [hv] at this;cases this),1,by decide,.inr (.inl (pre _ ⟨false,by rw [Z9 _ hl,hv],?_⟩))⟩
  rw [if_neg (by simp),w1]
 rcases Zgv m.Scan hl hv with ⟨hd,xs,ys,d1⟩ | ⟨hd,d1⟩
 ·refine .inr ⟨fun h=>h.1.2.1 hd,1,by decide,.inl ⟨xs,ys,pre _ ⟨true,by rw [Z9 _ hl,hv],?_⟩⟩⟩
  rw [if_pos rfl,w1]
  exact .inr ⟨ys,xs,d1,rfl⟩
 ·have b:=l_rf0 m hl allT (fun t h=>(Zbs t).1 h) (by rw [Zff];omega) 1 (by decide) 5 0 p (by rw [w2];exact hc) 0 (Nat.zero_le _)
  refine (b.of fun r hr=>pre r ⟨true,by rw [Z9 _ hl,hv],?_⟩).congr ?_
  ·rw [if_pos rfl,w1]
   exact .inl ⟨d1,allT,Zfe,hr⟩
  ·simp only [List.drop_zero,Zbs]
   constructor
   ·rintro ⟨h,hp⟩;exact ⟨⟨hv,hd,fun ⟨t,ht,hc⟩=>h t ht hc⟩,hp⟩
   ·rintro ⟨h,hp⟩;exact ⟨fun t ht hc=>h.2.2 ⟨t,ht,hc⟩,hp⟩
theorem l_rf0a (m:Zf) (hl:Le m.Sort_.Steps) (ts:List (List Int)) (hts:∀ t∈ts,inT t) (hn:ts.length≤1000) (kind:Int) (hk:kind≠0) (x1 x2:Int) (p:Prop) (hc:Zq (Zn m x1 (w (x2+1))) p):∀ j,j≤ts.length →
  Zq (Zcm m ts kind x1 x2 ts.length j) ((∀ t∈ts.drop j,¬ tcl m.Sort_ t<1)∧p):=by
 refine down _ ?_ ?_
 ·refine (hc.of fun r hr=>Zpc _ _ _ _ _ _ _ _ (by rw [if_neg (by omega)];exact hr)).congr (by simp)
 ·intro j hj ih
  have h4:=inc64 (i:=j) (by omega)
  have ht:=hts _ (List.getElem_mem hj)
  simp only [Int.natCast_add,Int.cast_ofNat_Int] at ih
  have pre:∀ r,(if tcl m.Sort_ ts[j]<1 then some (.tup [I kind,L 1 (ts[j].map ic),.t .nil],[])=some r else Zcm m ts kind x1 x2 ts.length ((j:Int)+1)=some r)→Zcm m ts kind x1 x2 ts.length j=some r:=by
   intro r hr
   refine Zpc _ _ _ _ _ _ _ _ ?_
   rw [if_pos (by omega)]
   refine ⟨by omega,ts[j],by rw [Int.toNat_natCast];exact List.getElem?_eq_getElem hj,_,Zev _ hl ht,?_⟩
   rw [show w ((j:Int)+1)=(j:Int)+1 from h4]
   exact hr
  refine Zq.congr ?_ (Zgw (P:=fun t=>¬ tcl m.Sort_ t<1) hj).symm
  by_cases h:tcl m.Sort_ ts[j]<1
  ·exact .inr ⟨fun hc=>hc.1 h,kind,hk,.inr (.inr ⟨_,pre _ (by rw [if_pos h])⟩)⟩
  ·exact (ih.of fun r hr=>pre r (by rw [if_neg h];exact hr)).congr ⟨fun hh=>⟨h,hh⟩,fun hh=>hh.2⟩
theorem l_rf1a (m:Zf) (hm:LeM m) (p:Prop) (hc:Zq (Zn m 5 2) p):Zq (Zn m 5 1) (Zbe m.Sort_∧p):=by
 have hl:Le m.Sort_.Steps:=by obtain ⟨h1,h2,h3,h4,h5⟩:=hm;assumption
 have w1:w (1+1)=2:=by decide
 have w2:w (1+1)=2:=by decide
 have pre:∀ r,(∃ v1_0,Zy m.Sort_=some (Bo v1_0,[])∧_)→Zn m 5 1=some r:=fun r h=>Ze9 _ _ _ _ (by rw [if_pos (by omega),if_neg (by omega),if_pos rfl];exact h)
 rcases tf (Zw m.Sort_) with hv | hv
 ·refine .inr ⟨fun h=>(by have:=h.1.1;rw [hv] at this;cases this),2,by decide,.inr (.inl (pre _ ⟨false,by rw [Z9 _ hl,hv],?_⟩))⟩
  rw [if_neg (by simp),w1]
 rcases Zgv m.Sort_ hl hv with ⟨hd,xs,ys,d1⟩ | ⟨hd,d1⟩
 ·refine .inr ⟨fun h=>h.1.2.1 hd,2,by decide,.inl ⟨xs,ys,pre _ ⟨true,by rw [Z9 _ hl,hv],?_⟩⟩⟩
  rw [if_pos rfl,w1]
  exact .inr ⟨ys,xs,d1,rfl⟩
 ·have b:=l_rf0a m hl allT (fun t h=>(Zbs t).1 h) (by rw [Zff];omega) 2 (by decide) 5 1 p (by rw [w2];exact hc) 0 (Nat.zero_le _)
  refine (b.of fun r hr=>pre r ⟨true,by rw [Z9 _ hl,hv],?_⟩).congr ?_
  ·rw [if_pos rfl,w1]
   exact .inl ⟨d1,allT,Zfe,hr⟩
  ·simp only [List.drop_zero,Zbs]
   constructor
   ·rintro ⟨h,hp⟩;exact ⟨⟨hv,hd,fun ⟨t,ht,hc⟩=>h t ht hc⟩,hp⟩
   ·rintro ⟨h,hp⟩;exact ⟨fun t ht hc=>h.2.2 ⟨t,ht,hc⟩,hp⟩
theorem l_rf0b (m:Zf) (hl:Le m.Hash.Steps) (ts:List (List Int)) (hts:∀ t∈ts,inT t) (hn:ts.length≤1000) (kind:Int) (hk:kind≠0) (x1 x2:Int) (p:Prop) (hc:Zq (Zn m x1 (w (x2+1))) p):∀ j,j≤ts.length →
  Zq (Zcn m ts kind x1 x2 ts.length j) ((∀ t∈ts.drop j,¬ tcl m.Hash t<1)∧p):=by
 refine down _ ?_ ?_
 ·refine (hc.of fun r hr=>Zpd _ _ _ _ _ _ _ _ (by rw [if_neg (by omega)];exact hr)).congr (by simp)
 ·intro j hj ih
  have h4:=inc64 (i:=j) (by omega)
  have ht:=hts _ (List.getElem_mem hj)
  simp only [Int.natCast_add,Int.cast_ofNat_Int] at ih
  have pre:∀ r,(if tcl m.Hash ts[j]<1 then some (.tup [I kind,L 1 (ts[j].map ic),.t .nil],[])=some r else Zcn m ts kind x1 x2 ts.length ((j:Int)+1)=some r)→Zcn m ts kind x1 x2 ts.length j=some r:=by
   intro r hr
   refine Zpd _ _ _ _ _ _ _ _ ?_
   rw [if_pos (by omega)]
   refine ⟨by omega,ts[j],by rw [Int.toNat_natCast];exact List.getElem?_eq_getElem hj,_,Zev _ hl ht,?_⟩
   rw [show w ((j:Int)+1)=(j:Int)+1 from h4]
   exact hr
  refine Zq.congr ?_ (Zgw (P:=fun t=>¬ tcl m.Hash t<1) hj).symm
  by_cases h:tcl m.Hash ts[j]<1
  ·exact .inr ⟨fun hc=>hc.1 h,kind,hk,.inr (.inr ⟨_,pre _ (by rw [if_pos h])⟩)⟩
  ·exact (ih.of fun r hr=>pre r (by rw [if_neg h];exact hr)).congr ⟨fun hh=>⟨h,hh⟩,fun hh=>hh.2⟩
theorem l_rf1b (m:Zf) (hm:LeM m) (p:Prop) (hc:Zq (Zn m 5 3) p):Zq (Zn m 5 2) (Zbe m.Hash∧p):=by
 have hl:Le m.Hash.Steps:=by obtain ⟨h1,h2,h3,h4,h5⟩:=hm;assumption
 have w1:w (1+2)=3:=by decide
 have w2:w (2+1)=3:=by decide
 have pre:∀ r,(∃ v1_0,Zy m.Hash=some (Bo v1_0,[])∧_)→Zn m 5 2=some r:=fun r h=>Ze9 _ _ _ _ (by rw [if_pos (by omega),if_neg (by omega),if_neg (by omega),if_pos rfl];exact h)
 rcases tf (Zw m.Hash) with hv | hv
 ·refine .inr ⟨fun h=>(by have:=h.1.1;rw [hv] at this;cases this),3,by decide,.inr (.inl (pre _ ⟨false,by rw [Z9 _ hl,hv],?_⟩))⟩
  rw [if_neg (by simp),w1]
 rcases Zgv m.Hash hl hv with ⟨hd,xs,ys,d1⟩ | ⟨hd,d1⟩
 ·refine .inr ⟨fun h=>h.1.2.1 hd,3,by decide,.inl ⟨xs,ys,pre _ ⟨true,by rw [Z9 _ hl,hv],?_⟩⟩⟩
  rw [if_pos rfl,w1]
  exact .inr ⟨ys,xs,d1,rfl⟩
 ·have b:=l_rf0b m hl allT (fun t h=>(Zbs t).1 h) (by rw [Zff];omega) 3 (by decide) 5 2 p (by rw [w2];exact hc) 0 (Nat.zero_le _)
  refine (b.of fun r hr=>pre r ⟨true,by rw [Z9 _ hl,hv],?_⟩).congr ?_
  ·rw [if_pos rfl,w1]
   exact .inl ⟨d1,allT,Zfe,hr⟩
  ·simp only [List.drop_zero,Zbs]
   constructor
   ·rintro ⟨h,hp⟩;exact ⟨⟨hv,hd,fun ⟨t,ht,hc⟩=>h t ht hc⟩,hp⟩
   ·rintro ⟨h,hp⟩;exact ⟨fun t ht hc=>h.2.2 ⟨t,ht,hc⟩,hp⟩
theorem l_rf0c (m:Zf) (hl:Le m.Merge.Steps) (ts:List (List Int)) (hts:∀ t∈ts,inT t) (hn:ts.length≤1000) (kind:Int) (hk:kind≠0) (x1 x2:Int) (p:Prop) (hc:Zq (Zn m x1 (w (x2+1))) p):∀ j,j≤ts.length →
  Zq (Zco m ts kind x1 x2 ts.length j) ((∀ t∈ts.drop j,¬ tcl m.Merge t<1)∧p):=by
 refine down _ ?_ ?_
 ·refine (hc.of fun r hr=>Zpe _ _ _ _ _ _ _ _ (by rw [if_neg (by omega)];exact hr)).congr (by simp)
 ·intro j hj ih
  have h4:=inc64 (i:=j) (by omega)
  have ht:=hts _ (List.getElem_mem hj)
  simp only [Int.natCast_add,Int.cast_ofNat_Int] at ih
  have pre:∀ r,(if tcl m.Merge ts[j]<1 then some (.tup [I kind,L 1 (ts[j].map ic),.t .nil],[])=some r else Zco m ts kind x1 x2 ts.length ((j:Int)+1)=some r)→Zco m ts kind x1 x2 ts.length j=some r:=by
   intro r hr
   refine Zpe _ _ _ _ _ _ _ _ ?_
   rw [if_pos (by omega)]
   refine ⟨by omega,ts[j],by rw [Int.toNat_natCast];exact List.getElem?_eq_getElem hj,_,Zev _ hl ht,?_⟩
   rw [show w ((j:Int)+1)=(j:Int)+1 from h4]
   exact hr
  refine Zq.congr ?_ (Zgw (P:=fun t=>¬ tcl m.Merge t<1) hj).symm
  by_cases h:tcl m.Merge ts[j]<1
  ·exact .inr ⟨fun hc=>hc.1 h,kind,hk,.inr (.inr ⟨_,pre _ (by rw [if_pos h])⟩)⟩
  ·exact (ih.of fun r hr=>pre r (by rw [if_neg h];exact hr)).congr ⟨fun hh=>⟨h,hh⟩,fun hh=>hh.2⟩
theorem l_rf1c (m:Zf) (hm:LeM m) (p:Prop) (hc:Zq (Zn m 5 4) p):Zq (Zn m 5 3) (Zbe m.Merge∧p):=by
 have hl:Le m.Merge.Steps:=by obtain ⟨h1,h2,h3,h4,h5⟩:=hm;assumption
 have w1:w (1+3)=4:=by decide
 have w2:w (3+1)=4:=by decide
 have pre:∀ r,(∃ v1_0,Zy m.Merge=some (Bo v1_0,[])∧_)→Zn m 5 3=some r:=fun r h=>Ze9 _ _ _ _ (by rw [if_pos (by omega),if_neg (by omega),if_neg (by omega),if_neg (by omega),if_pos rfl];exact h)
 rcases tf (Zw m.Merge) with hv | hv
 ·refine .inr ⟨fun h=>(by have:=h.1.1;rw [hv] at this;cases this),4,by decide,.inr (.inl (pre _ ⟨false,by rw [Z9 _ hl,hv],?_⟩))⟩
  rw [if_neg (by simp),w1]
 rcases Zgv m.Merge hl hv with ⟨hd,xs,ys,d1⟩ | ⟨hd,d1⟩
 ·refine .inr ⟨fun h=>h.1.2.1 hd,4,by decide,.inl ⟨xs,ys,pre _ ⟨true,by rw [Z9 _ hl,hv],?_⟩⟩⟩
  rw [if_pos rfl,w1]
  exact .inr ⟨ys,xs,d1,rfl⟩
 ·have b:=l_rf0c m hl allT (fun t h=>(Zbs t).1 h) (by rw [Zff];omega) 4 (by decide) 5 3 p (by rw [w2];exact hc) 0 (Nat.zero_le _)
  refine (b.of fun r hr=>pre r ⟨true,by rw [Z9 _ hl,hv],?_⟩).congr ?_
  ·rw [if_pos rfl,w1]
   exact .inl ⟨d1,allT,Zfe,hr⟩
  ·simp only [List.drop_zero,Zbs]
   constructor
   ·rintro ⟨h,hp⟩;exact ⟨⟨hv,hd,fun ⟨t,ht,hc⟩=>h t ht hc⟩,hp⟩
   ·rintro ⟨h,hp⟩;exact ⟨fun t ht hc=>h.2.2 ⟨t,ht,hc⟩,hp⟩
theorem l_rf0d (m:Zf) (hl:Le m.Nested.Steps) (ts:List (List Int)) (hts:∀ t∈ts,inT t) (hn:ts.length≤1000) (kind:Int) (hk:kind≠0) (x1 x2:Int) (p:Prop) (hc:Zq (Zn m x1 (w (x2+1))) p):∀ j,j≤ts.length →
  Zq (Zcp m ts kind x1 x2 ts.length j) ((∀ t∈ts.drop j,¬ tcl m.Nested t<1)∧p):=by
 refine down _ ?_ ?_
 ·refine (hc.of fun r hr=>Zpf _ _ _ _ _ _ _ _ (by rw [if_neg (by omega)];exact hr)).congr (by simp)
 ·intro j hj ih
  have h4:=inc64 (i:=j) (by omega)
  have ht:=hts _ (List.getElem_mem hj)
  simp only [Int.natCast_add,Int.cast_ofNat_Int] at ih
  have pre:∀ r,(if tcl m.Nested ts[j]<1 then some (.tup [I kind,L 1 (ts[j].map ic),.t .nil],[])=some r else Zcp m ts kind x1 x2 ts.length ((j:Int)+1)=some r)→Zcp m ts kind x1 x2 ts.length j=some r:=by
   intro r hr
   refine Zpf _ _ _ _ _ _ _ _ ?_
   rw [if_pos (by omega)]
   refine ⟨by omega,ts[j],by rw [Int.toNat_natCast];exact List.getElem?_eq_getElem hj,_,Zev _ hl ht,?_⟩
   rw [show w ((j:Int)+1)=(j:Int)+1 from h4]
   exact hr
  refine Zq.congr ?_ (Zgw (P:=fun t=>¬ tcl m.Nested t<1) hj).symm
  by_cases h:tcl m.Nested ts[j]<1
  ·exact .inr ⟨fun hc=>hc.1 h,kind,hk,.inr (.inr ⟨_,pre _ (by rw [if_pos h])⟩)⟩
  ·exact (ih.of fun r hr=>pre r (by rw [if_neg h];exact hr)).congr ⟨fun hh=>⟨h,hh⟩,fun hh=>hh.2⟩
theorem l_rf1d (m:Zf) (hm:LeM m) (p:Prop) (hc:Zq (Zn m 5 5) p):Zq (Zn m 5 4) (Zbe m.Nested∧p):=by
 have hl:Le m.Nested.Steps:=by obtain ⟨h1,h2,h3,h4,h5⟩:=hm;assumption
 have w1:w (1+4)=5:=by decide
 have w2:w (4+1)=5:=by decide
 have pre:∀ r,(∃ v1_0,Zy m.Nested=some (Bo v1_0,[])∧_)→Zn m 5 4=some r:=fun r h=>Ze9 _ _ _ _ (by rw [if_pos (by omega),if_neg (by omega),if_neg (by omega),if_neg (by omega),if_neg (by omega),if_pos rfl];exact h)
 rcases tf (Zw m.Nested) with hv | hv
 ·refine .inr ⟨fun h=>(by have:=h.1.1;rw [hv] at this;cases this),5,by decide,.inr (.inl (pre _ ⟨false,by rw [Z9 _ hl,hv],?_⟩))⟩
  rw [if_neg (by simp),w1]
 rcases Zgv m.Nested hl hv with ⟨hd,xs,ys,d1⟩ | ⟨hd,d1⟩
 ·refine .inr ⟨fun h=>h.1.2.1 hd,5,by decide,.inl ⟨xs,ys,pre _ ⟨true,by rw [Z9 _ hl,hv],?_⟩⟩⟩
  rw [if_pos rfl,w1]
  exact .inr ⟨ys,xs,d1,rfl⟩
 ·have b:=l_rf0d m hl allT (fun t h=>(Zbs t).1 h) (by rw [Zff];omega) 5 (by decide) 5 4 p (by rw [w2];exact hc) 0 (Nat.zero_le _)
  refine (b.of fun r hr=>pre r ⟨true,by rw [Z9 _ hl,hv],?_⟩).congr ?_
  ·rw [if_pos rfl,w1]
   exact .inl ⟨d1,allT,Zfe,hr⟩
  ·simp only [List.drop_zero,Zbs]
   constructor
   ·rintro ⟨h,hp⟩;exact ⟨⟨hv,hd,fun ⟨t,ht,hc⟩=>h t ht hc⟩,hp⟩
   ·rintro ⟨h,hp⟩;exact ⟨fun t ht hc=>h.2.2 ⟨t,ht,hc⟩,hp⟩
open Classical in
theorem Zqj (m:Zf) (hm:LeM m):Zd9 m=some (Bo (decide (Zbt m)),[]):=by
 have h5:Zq (Zn m 5 5) True:=.inl ⟨trivial,Ze9 _ _ _ _ (by rw [if_neg (by omega)])⟩
 have h0:=l_rf1 m hm _ (l_rf1a m hm _ (l_rf1b m hm _ (l_rf1c m hm _ (l_rf1d m hm _ h5))))
 have hop:Zc5 m=some (.bsl 1 5,[.box (m.c.map .t),.box [.ptr 0 0,.ptr 0 6,.ptr 0 12,.ptr 0 18,.ptr 0 24]]):=Zo4 _ _ rfl
 have hR:Zq (Zd8 m) (Zbt m):=(h0.of fun r hr=>Zv6 _ _ ⟨hop,hr⟩).congr (by simp [Zbt])
 refine Zv7 _ _ ?_
 rcases hR with ⟨h,h1⟩ | ⟨h,n,hn,⟨xs,ys,h1⟩ | h1 | ⟨xs,h1⟩⟩
 ·rw [decide_eq_true h];exact .inr (.inl ⟨0,h1,rfl⟩)
 ·rw [decide_eq_false h];exact .inl ⟨ys,n,xs,h1,by rw [decide_eq_false hn]⟩
 ·rw [decide_eq_false h];exact .inr (.inl ⟨n,h1,by rw [decide_eq_false hn]⟩)
 ·rw [decide_eq_false h];exact .inr (.inr ⟨n,xs,h1,by rw [decide_eq_false hn]⟩)
end Go.Proofs.YtbapkgocloaaeaaGreat
/- part: RS -/
namespace Go.Proofs.YtbapkgocloaaeaaGreat
open Go.AM
def Zdu (f:Int→Int) (rd:List Int):List Int:=rd.filter fun i=>!(rd.any fun k=>decide (i<k) && decide (f k≤i))
def keepS (f:Int→Int) (rd:List Int):List Int:=rd.foldl (fun out i=>(out.filter fun k=>decide (k<f i))++[i]) []
theorem Zyd (f:Int→Int) (l:List Int) (i:Int) (h:∀ x∈l,x<i):Zdu f (l++[i])=((Zdu f l).filter fun k=>decide (k<f i))++[i]:=by
 unfold Zdu
 rw [List.filter_append]
 congr 1
 ·rw [List.filter_filter]
  refine List.filter_congr fun x hx=>?_
  have hlt:=h x hx
  rw [List.any_append]
  simp only [List.any_cons,List.any_nil,Bool.or_false,hlt,decide_true,Bool.true_and]
  by_cases hf:f i≤x
  ·have:¬ x<f i:=by omega
   simp [hf,this]
  ·have:x<f i:=by omega
   simp [hf,this]
 ·have:((l++[i]).any fun k=>decide (i<k) && decide (f k≤i))=false:=by
   rw [List.any_eq_false]
   intro x hx
   rcases List.mem_append.mp hx with hx | hx
   ·have:=h x hx
    have:¬ i<x:=by omega
    simp [this]
   ·simp at hx
    subst hx
    simp
  simp only [List.filter_cons,this]
  simp
theorem Zqk (f:Int→Int):∀ l2 l1:List Int,List.Pairwise (·<·) (l1++l2)→l2.foldl (fun out i=>(out.filter fun k=>decide (k<f i))++[i]) (Zdu f l1)=Zdu f (l1++l2)
 | [],l1,_=>by simp
 | i::l2,l1,h=>by
  have e:l1++i::l2=(l1++[i])++l2:=by simp
  rw [e] at h ⊢
  rw [List.foldl_cons,← Zyd f l1 i (fun x hx=>(List.pairwise_append.mp (List.pairwise_append.mp h).1).2.2 x hx i (by simp))]
  exact Zqk f l2 (l1++[i]) h
theorem keep_eq (f:Int→Int) (l:List Int) (h:List.Pairwise (·<·) l):keepS f l=Zdu f l:=Zqk f l [] h
theorem Zye (n:Int) (h0:0≤n) (h1:n≤4096):Zeo n 0=some (I (Zbw n),[]):=by
 unfold Zbw
 rw [if_neg (by omega:¬ n<0)]
 refine Zdr _ _ _ ⟨_,Zcy 0,?_⟩
 rw [show Zu 0=0 from by decide]
 by_cases c0:n≤0
 ·rw [if_pos c0,if_pos c0]
 rw [if_neg c0,if_neg c0,show w (0+1)=1 from by decide]
 refine Zdr _ _ _ ⟨_,Zcy 1,?_⟩
 rw [show Zu 1=1 from by decide]
 by_cases c1:n≤1
 ·rw [if_pos c1,if_pos c1]
 rw [if_neg c1,if_neg c1,show w (1+1)=2 from by decide]
 refine Zdr _ _ _ ⟨_,Zcy 2,?_⟩
 rw [show Zu 2=4 from by decide]
 by_cases c2:n≤4
 ·rw [if_pos c2,if_pos c2]
 rw [if_neg c2,if_neg c2,show w (2+1)=3 from by decide]
 refine Zdr _ _ _ ⟨_,Zcy 3,?_⟩
 rw [show Zu 3=16 from by decide]
 by_cases c3:n≤16
 ·rw [if_pos c3,if_pos c3]
 rw [if_neg c3,if_neg c3,show w (3+1)=4 from by decide]
 refine Zdr _ _ _ ⟨_,Zcy 4,?_⟩
 rw [show Zu 4=64 from by decide]
 by_cases c4:n≤64
 ·rw [if_pos c4,if_pos c4]
 rw [if_neg c4,if_neg c4,show w (4+1)=5 from by decide]
 refine Zdr _ _ _ ⟨_,Zcy 5,?_⟩
 rw [show Zu 5=256 from by decide]
 by_cases c5:n≤256
 ·rw [if_pos c5,if_pos c5]
 rw [if_neg c5,if_neg c5,show w (5+1)=6 from by decide]
 refine Zdr _ _ _ ⟨_,Zcy 6,?_⟩
 rw [show Zu 6=1024 from by decide]
 by_cases c6:n≤1024
 ·rw [if_pos c6,if_pos c6]
 rw [if_neg c6,if_neg c6,show w (6+1)=7 from by decide]
 refine Zdr _ _ _ ⟨_,Zcy 7,?_⟩
 rw [show Zu 7=4096 from by decide]
 rw [if_pos h1,if_pos h1]
theorem Zdv {c a b:Prop} [Decidable c] (h:c) (ha:a):if c then a else b:=by rw [if_pos h];exact ha
theorem Zyf (n:Int) (h0:0≤n) (h1:n≤4096):Zer n 0=some (I (Zbw n),[]):=by
 unfold Zbw
 rw [if_neg (by omega:¬ n<0)]
 refine Zds _ _ _ (Zdv (by decide) ⟨_,Zcz 0,?_⟩)
 rw [show Zu 0=0 from by decide]
 by_cases c0:n≤0
 ·rw [if_pos c0,if_pos c0]
 rw [if_neg c0,if_neg c0,show w (0+1)=1 from by decide]
 refine Zds _ _ _ (Zdv (by decide) ⟨_,Zcz 1,?_⟩)
 rw [show Zu 1=1 from by decide]
 by_cases c1:n≤1
 ·rw [if_pos c1,if_pos c1]
 rw [if_neg c1,if_neg c1,show w (1+1)=2 from by decide]
 refine Zds _ _ _ (Zdv (by decide) ⟨_,Zcz 2,?_⟩)
 rw [show Zu 2=4 from by decide]
 by_cases c2:n≤4
 ·rw [if_pos c2,if_pos c2]
 rw [if_neg c2,if_neg c2,show w (2+1)=3 from by decide]
 refine Zds _ _ _ (Zdv (by decide) ⟨_,Zcz 3,?_⟩)
 rw [show Zu 3=16 from by decide]
 by_cases c3:n≤16
 ·rw [if_pos c3,if_pos c3]
 rw [if_neg c3,if_neg c3,show w (3+1)=4 from by decide]
 refine Zds _ _ _ (Zdv (by decide) ⟨_,Zcz 4,?_⟩)
 rw [show Zu 4=64 from by decide]
 by_cases c4:n≤64
 ·rw [if_pos c4,if_pos c4]
 rw [if_neg c4,if_neg c4,show w (4+1)=5 from by decide]
 refine Zds _ _ _ (Zdv (by decide) ⟨_,Zcz 5,?_⟩)
 rw [show Zu 5=256 from by decide]
 by_cases c5:n≤256
 ·rw [if_pos c5,if_pos c5]
 rw [if_neg c5,if_neg c5,show w (5+1)=6 from by decide]
 refine Zds _ _ _ (Zdv (by decide) ⟨_,Zcz 6,?_⟩)
 rw [show Zu 6=1024 from by decide]
 by_cases c6:n≤1024
 ·rw [if_pos c6,if_pos c6]
 rw [if_neg c6,if_neg c6,show w (6+1)=7 from by decide]
 refine Zds _ _ _ (Zdv (by decide) ⟨_,Zcz 7,?_⟩)
 rw [show Zu 7=4096 from by decide]
 rw [if_pos h1,if_pos h1]
theorem Zyg {n:Int} (h:inR n 0 4096=false):Zbw n=-1:=by
 simp [inR] at h
 unfold Zbw
 repeat' split
 all_goals omega
theorem Zyh (n:Int):Zgg n=some (I (Zbw n),[]):=by
 refine Zw3 _ _ ⟨_,Zbr _ _ _,?_⟩
 rcases tf (inR n 0 4096) with e | e
 ·rw [e,Zyg e];simp
 ·rw [if_pos e]
  simp [inR] at e
  exact Zye n e.1 e.2
theorem Zia (n:Int):Zbd n=some (I (Zb9 n),[]):=Zw4 _ _ ⟨_,Zyh n,_,Zcy _,rfl⟩
theorem Zyi (n:Int) (h1:n≤4096):Zgn n=some (I (Zbw n),[]):=by
 refine Zxf _ _ ?_
 by_cases c:n<0
 ·rw [if_pos c];unfold Zbw;rw [if_pos c]
 ·rw [if_neg c];exact Zyf n (by omega) h1
theorem Zql (n:Int) (h1:n≤4096):Zes n=some (I (Zb9 n),[]):=Zxg _ _ ⟨_,Zyi n h1,_,Zcz _,rfl⟩
def readC (m:Zf) (n:Int):Int:=if inR n 0 4096=true then Zdt m.Scan (Zb9 n) 0 (Zb9 n) else -1
theorem Zyj (m:Zf) (hm:LeM m) (n:Int):Zgh m n=some (I (readC m n),[]):=by
 refine Zw5 _ _ _ ⟨_,Zia n,?_⟩
 unfold readC
 rcases tf (inR n 0 4096) with e | e
 ·rw [if_pos ((Zl0 n).2 e),e];simp
 ·have:¬ Zb9 n<0:=fun hc=>by rw [(Zl0 n).1 hc] at e;cases e
  rw [if_neg this,if_pos e]
  exact ⟨_,Zqd _ hm.1 _ _ _,rfl⟩
theorem Zyk (m:Zf) (hm:LeM m) (n:Int):Zgo m n=some (I (readC m n),[]):=by
 refine Zxh _ _ _ ⟨_,Zfa _ _ _,?_⟩
 unfold readC
 rcases tf (inR n 0 4096) with e | e
 ·rw [e];simp
 ·rw [if_pos e,if_pos e]
  simp [inR] at e
  exact ⟨_,Zql n e.2,_,Zqe _ hm.1 _ _ _,rfl⟩
def Zbu (m:Zf) (k n:Int):Bool:=decide (readC m n≤Zdt (mOp m k) 0 0 (Zb9 n))
theorem x_ops18 (m:Zf):Zc5 m=some (.bsl 1 5,[.box (m.c.map .t),.box [.ptr 0 0,.ptr 0 6,.ptr 0 12,.ptr 0 18,.ptr 0 24]]):=Zo4 _ _ rfl
open Classical in
theorem Zyl (m:Zf) (hm:LeM m) (k n:Int):Zgi m k n=some (Bo (inR k 3 5 && inR n 0 4096 && decide (Zbt m) && Zbu m k n),[]):=by
 refine Zw6 _ _ _ _ ⟨_,Zbr _ _ _,?_⟩
 rcases tf (inR k 3 5) with e | e
 ·rw [e];simp
 rw [if_pos e]
 refine ⟨_,Zbr _ _ _,?_⟩
 rcases tf (inR n 0 4096) with e2 | e2
 ·rw [e,e2];simp
 rw [if_pos e2]
 refine ⟨_,Zqj m hm,?_⟩
 by_cases e3:Zbt m
 rotate_left
 ·simp [e,e2,e3]
 rw [if_pos (by simp [e3])]
 refine ⟨_,Zyj m hm n,x_ops18 m,?_⟩
 have q:=fun j=>Zqd _ (hm.op j) 0 0 (Zb9 n)
 have h3:k=3∨k=4∨k=5:=by simp [inR] at e;omega
 have q3:=q 3
 have q4:=q 4
 have q5:=q 5
 simp only [mOp,Int.reduceEq,if_false,if_true] at q3 q4 q5
 rcases h3 with rfl | rfl | rfl
 ·rw [if_neg (by decide),if_neg (by decide),if_pos (by decide)]
  exact ⟨_,Zia n,_,q3,by simp [e,e2,e3,Zbu,mOp]⟩
 ·rw [if_neg (by decide),if_neg (by decide),if_neg (by decide),if_pos (by decide)]
  exact ⟨_,Zia n,_,q4,by simp [e,e2,e3,Zbu,mOp]⟩
 ·rw [if_neg (by decide),if_neg (by decide),if_neg (by decide),if_neg (by decide),if_pos (by decide)]
  exact ⟨_,Zia n,_,q5,by simp [e,e2,e3,Zbu,mOp]⟩
theorem Zym {qa:List Atom} {x:Ze} {info:List Za} {st:List Int} {y:Za} (hs:StOk info st) (h:Zbf qa x info st=some y):y.Left<info.length∧(0≤y.Right→x.Kind≤5):=by
 unfold Zbf at h
 split at h
 ·split at h
  ·cases h
   exact ⟨by simp;omega,fun hc=>absurd (show (0:Int)≤-1 from hc) (by decide)⟩
  ·cases h
 ·split at h
  ·cases h
  ·split at h
   ·split at h
    ·rename_i s y' ht
     split at h
     ·cases h
      obtain ⟨_,t2,t3,_⟩:=Zc1 hs (Nat.le_refl 1) ht
      exact ⟨by simp;omega,fun hc=>absurd (show (0:Int)≤-1 from hc) (by decide)⟩
     ·cases h
    ·cases h
   ·split at h
    ·rename_i s y' t z ht hu
     split at h
     ·obtain ⟨_,t2,t3,_⟩:=Zc1 hs (by omega:1≤2) ht
      obtain ⟨o,ho,rfl⟩:=Option.map_eq_some_iff.1 h
      refine ⟨by simp;omega,fun _=>?_⟩
      unfold Zbo at ho
      split at ho
      ·omega
      ·split at ho
       ·omega
       ·split at ho
        ·omega
        ·cases ho
     ·cases h
    ·cases h
theorem Zqm {qa:List Atom}:∀ {xs:List Ze} {i:Nat} {info:List Za} {st:List Int} {info':List Za} {st':List Int},Z2 qa xs i info st=some (info',st') →
  StOk info st→info.length=i→∃ tail,info'=info++tail∧tail.length=xs.length∧∀ (j:Nat) (y:Za) (x:Ze),tail[j]?=some y→xs[j]?=some x→y.Left<(i:Int)+j∧(0≤y.Right→x.Kind≤5)
 | [],i,info,st,info',st',h,hs,hi=>by
  simp [Z2] at h
  obtain ⟨rfl,rfl⟩:=h
  exact ⟨[],by simp,rfl,by intro j y x hj;simp at hj⟩
 | x::xs,i,info,st,info',st',h,hs,hi=>by
  rw [Z2] at h
  split at h
  ·cases h
  ·rename_i y hy
   have hn:=Zhc hs y (st.length - pops y)
   rw [hi] at hn
   obtain ⟨tail,g2,g3,g4⟩:=Zqm h hn (by simp [hi])
   refine ⟨y::tail,by simp [g2],by simp [g3],?_⟩
   intro j y' x' hj hx
   cases j with
   | zero =>
    simp at hj hx;subst hj;subst hx
    have:=Zym hs hy
    exact ⟨by omega,this.2⟩
   | succ j =>
    have:=g4 j y' x' (by simpa using hj) (by simpa using hx)
    exact ⟨by omega,this.2⟩
def lw (info:List Za):Prop:=∀ (i:Nat) (y:Za),info[i]?=some y→y.Left<(i:Int)
theorem Zqn {n:Int} {qa:List Atom} {steps:List Ze} {info:List Za} (h:Z6 n qa steps=some info) :
  lw info∧∀ (j:Nat) (y:Za) (x:Ze),info[j]?=some y→steps[j]?=some x→0≤y.Right→x.Kind≤5:=by
 have hl:=(Zdx h).2.1
 unfold Z6 at h
 split at h
 ·split at h
  ·rename_i info' st hg
   split at h
   ·cases h
    obtain ⟨tail,g2,g3,g4⟩:=Zqm hg (fun s hs=>by cases hs) rfl
    simp at g2
    subst g2
    refine ⟨fun i y hi=>?_,fun j y x hj hx=>(g4 j y x hj hx).2⟩
    have hi2:i<steps.length:=by
     have:=(List.getElem?_eq_some_iff.1 hi).1
     omega
    have:=(g4 i y _ hi (List.getElem?_eq_getElem hi2)).1
    omega
   ·cases h
  ·cases h
 ·cases h
def fst (info:List Za):Nat→Int→Int
 | 0,i=>i
 | f+1,i=>match info[i.toNat]? with
  | some y=>if 0≤y.Left then fst info f y.Left else i
  | none=>i
def first (info:List Za) (i:Int):Int:=fst info (i.toNat+1) i
theorem Zqo {info:List Za} (h:lw info):∀ (f:Nat) (i:Int),0≤i→i.toNat<f→i.toNat<info.length→Zep info i=some (I (fst info f i),[])
 | 0,_,_,h1,_=>absurd h1 (Nat.not_lt_zero _)
 | f+1,i,h0,h1,h2=>by
  have e:=List.getElem?_eq_getElem h2
  have hl:=h _ _ e
  refine Zw7 _ _ _ ⟨h0,_,e,?_⟩
  unfold fst
  rw [e]
  by_cases c:0≤info[i.toNat].Left
  ·simp only [if_pos c]
   exact Zqo h f _ c (by omega) (by omega)
  ·simp only [if_neg c]
theorem Zqp {info:List Za} (h:lw info):∀ (f:Nat) (i:Int),0≤i→i.toNat<f→i.toNat<info.length→Zet info i=some (I (fst info f i),[])
 | 0,_,_,h1,_=>absurd h1 (Nat.not_lt_zero _)
 | f+1,i,h0,h1,h2=>by
  have e:=List.getElem?_eq_getElem h2
  have hl:=h _ _ e
  refine Zxi _ _ _ ⟨h0,_,e,?_⟩
  unfold fst
  rw [e]
  by_cases c:0≤info[i.toNat].Left
  ·simp only [if_pos c]
   exact Zqp h f _ c (by omega) (by omega)
  ·simp only [if_neg c]
theorem x_begins {info:List Za} (h:lw info) {i:Int} (h0:0≤i) (h2:i.toNat<info.length):Zgj info i=some (I (first info i),[]):=Zw8 _ _ _ (Zqo h _ i h0 (by omega) h2)
theorem Zyn {info:List Za} (h:lw info) {i:Int} (h0:0≤i) (h2:i.toNat<info.length):Zgp info i=some (I (first info i),[]):=Zxj _ _ _ (Zqp h _ i h0 (by omega) h2)
def contr (info:List Za) (i k:Int):Bool:=decide (i<k) && decide (first info k≤i)
theorem Zyo {info:List Za} (h:lw info) (i:Int) {k:Int} (h0:0≤k) (h2:k.toNat<info.length):Zgk info i k=some (Bo (contr info i k),[]):=by
 refine Zw9 _ _ _ _ ?_
 unfold contr
 by_cases c:i<k
 ·rw [if_pos c]
  exact ⟨_,x_begins h h0 h2,by simp [c]⟩
 ·rw [if_neg c];simp [c]
def inI (info:List Za) (js:List Int):Prop:=∀ j∈js,0≤j∧j.toNat<info.length
theorem Zyp {info:List Za} (h:lw info) (js:List Int) (hj:inI info js) (hl:js.length≤1000) (i:Int):∀ n,n≤js.length→Zeq js info i js.length n=some (I (Z0 (contr info i) (js.drop n) n),[]):=by
 refine down _ ?_ ?_
 ·refine Zp0 _ _ _ _ _ _ ?_
  rw [if_neg (by omega),List.drop_length];rfl
 ·intro n hn ih
  have h5:=inc64 (i:=n) (by omega)
  obtain ⟨g1,g2⟩:=hj _ (List.getElem_mem hn)
  refine Zp0 _ _ _ _ _ _ ?_
  rw [if_pos (by omega)]
  refine ⟨by omega,_,List.getElem?_eq_getElem hn,_,Zxa _ _ _ _ ⟨_,Zyo h i g1 g2,rfl⟩,?_⟩
  rw [Zg8 _ hn]
  split
  ·rfl
  ·rw [show w ((n:Int)+1)=((n+1:Nat):Int) from h5]
   exact ih
theorem Zyq {info:List Za} (h:lw info) (js:List Int) (hj:inI info js) (hl:js.length≤1000) (i:Int):Zgl js info i=some (Bo (js.any (contr info i)),[]):=by
 have q:=Zyp h js hj hl i 0 (Nat.zero_le _)
 refine Zxc _ _ _ _ ⟨_,Zxb _ _ _ _ q,?_⟩
 rw [List.drop_zero]
 rcases tf (js.any (contr info i)) with e | e
 ·rw [Ziw _ _ _ e,e];rfl
 ·have:=Zix _ _ 0 e
  rw [e];simp [this]
def okK (mask:Int) (x:Kept):Bool:=decide (x.Mask=mask) && inR x.Size 0 4096
def Z3:List Kept→Int→Int
 | [],_=>-1
 | k::ks,mask=>if okK mask k=true then k.Size else Z3 ks mask
theorem Zlm (mask:Int):∀ (ks:List Kept) (i:Nat),(Z0 (okK mask) ks i=-1∧Z3 ks mask=-1)∨∃ (j:Nat) (k:Kept),Z0 (okK mask) ks i=((i+j:Nat):Int)∧ks[j]?=some k∧okK mask k=true∧Z3 ks mask=k.Size
 | [],_=>.inl ⟨rfl,rfl⟩
 | k::ks,i=>by
  unfold Z0 Z3
  rcases tf (okK mask k) with e | e
  ·rw [e]
   simp only [Bool.false_eq_true,if_false]
   rcases Zlm mask ks (i+1) with ⟨h1,h2⟩ | ⟨j,k',h1,h2,h3,h4⟩
   ·exact .inl ⟨h1,h2⟩
   ·refine .inr ⟨j+1,k',?_,by simpa using h2,h3,h4⟩
    rw [h1];omega
  ·rw [e]
   exact .inr ⟨0,k,rfl,rfl,e,rfl⟩
theorem Zyr (ks:List Kept) (hl:Le ks) (info:List Za) (i:Int) (y:Za) (h0:0≤i) (hy:info[i.toNat]?=some y):∀ n,n≤ks.length→Zen ks info i ks.length n=some (I (Z0 (okK y.Mask) (ks.drop n) n),[]):=by
 refine down _ ?_ ?_
 ·refine Zpz _ _ _ _ _ _ ?_
  rw [if_neg (by omega),List.drop_length];rfl
 ·intro n hn ih
  have h5:=inc64 (i:=n) (by omega)
  have q:Zge ks[n] info i=some (Bo (okK y.Mask ks[n]),[]):=by
   refine Zw1 _ _ _ _ ⟨h0,_,hy,?_⟩
   unfold okK
   by_cases c:ks[n].Mask=y.Mask
   ·rw [if_pos c];exact ⟨_,Zbr _ _ _,by simp [c]⟩
   ·rw [if_neg c];simp [c]
  refine Zpz _ _ _ _ _ _ ?_
  rw [if_pos (by omega)]
  refine ⟨by omega,_,List.getElem?_eq_getElem hn,_,q,?_⟩
  rw [Zg8 _ hn]
  split
  ·rfl
  ·rw [show w ((n:Int)+1)=((n+1:Nat):Int) from h5]
   exact ih
theorem Zys (ks:List Kept) (hl:Le ks) (info:List Za) (i:Int) (y:Za) (h0:0≤i) (hy:info[i.toNat]?=some y):Zgf ks info i=some (I (Z0 (okK y.Mask) ks 0),[]):=Zw2 _ _ _ _ (Zyr ks hl info i y h0 hy 0 (Nat.zero_le _))
theorem Zyt (ks:List Kept) (hl:Le ks) (mask:Int):∀ n,n≤ks.length→Zdo ks mask n=some (I (Z3 (ks.drop n) mask),[]):=by
 refine down _ ?_ ?_
 ·refine Zp3 _ _ _ _ ?_
  rw [if_neg (by omega),List.drop_length];rfl
 ·intro n hn ih
  have h5:=inc64 (i:=n) (by omega)
  refine Zp3 _ _ _ _ ?_
  rw [if_pos (by omega)]
  refine ⟨by omega,_,List.getElem?_eq_getElem hn,?_⟩
  rw [List.drop_eq_getElem_cons hn,Z3,show w ((n:Int)+1)=((n+1:Nat):Int) from h5]
  unfold okK
  by_cases c:ks[n].Mask=mask
  ·rw [if_pos c]
   refine ⟨_,Zfa _ _ _,?_⟩
   rcases tf (inR ks[n].Size 0 4096) with e | e
   ·rw [e];simp only [Bool.false_eq_true,if_false,Bool.and_false];exact ih
   ·rw [e];simp [c]
  ·rw [if_neg c];simp only [c,decide_false,Bool.false_and,Bool.false_eq_true,if_false];exact ih
theorem Zyu (ks:List Kept) (hl:Le ks) (mask:Int):Zgm ks mask=some (I (Z3 ks mask),[]):=Zxe _ _ _ (Zyt ks hl mask 0 (Nat.zero_le _))
end Go.Proofs.YtbapkgocloaaeaaGreat
