/-
  Parts of the proofs for this seat: TX PW H D1 T1 G1.
-/
import Derived.Test.YtdfoicjjheifeaaRows
import Derived.Test.YtdfoicjjheifeaaP6
import Derived.Test.YtdfoicjjheifeaaP7
set_option linter.unusedSimpArgs false
set_option linter.unusedVariables false
set_option maxRecDepth 100000
set_option maxHeartbeats 4000000
/- part: TX -/
namespace Go.Proofs.Ytdfoicjjheifeaa
open Go.AM
@[simp] theorem Zb.map_inj (xs ys:List Zb):xs.map Zb.c=ys.map Zb.c↔xs=ys:=map_inj_of (by
 intro a b h
 simp at h
 simp [Zb.ext_iff,h])
@[simp] theorem Zb.flat (xs:List Zb):(xs.map Zb.c).all (fun x=>x.all scalar)=true:=flat_of (fun _=>rfl) xs
@[simp] theorem Zb.flat2 (xs:List Zb):xs.all ((fun x=>x.all scalar) ∘ Zb.c)=true:=flat_of' (fun _=>rfl) xs
@[simp] theorem Plan.map_inj (xs ys:List Plan):xs.map Plan.c=ys.map Plan.c↔xs=ys:=map_inj_of (by
 intro a b h
 simp at h
 simp [Plan.ext_iff,h])
@[simp] theorem Atom.map_inj (xs ys:List Atom):xs.map Atom.c=ys.map Atom.c↔xs=ys:=map_inj_of (by
 intro a b h
 simp at h
 simp [Atom.ext_iff,h])
@[simp] theorem Zc.map_inj (xs ys:List Zc):xs.map Zc.c=ys.map Zc.c↔xs=ys:=map_inj_of (by
 intro a b h
 simp at h
 simp [Zc.ext_iff,h])
@[ext] structure Za where
 Mask:Int
 Order:Int
 Left:Int
 Right:Int
 deriving DecidableEq
def Za.c (x:Za):List T:=[.int .i64 x.Mask,.int .i64 x.Order,.int .i64 x.Left,.int .i64 x.Right]
@[simp] theorem Za.c_def (x:Za):x.c=[.int .i64 x.Mask,.int .i64 x.Order,.int .i64 x.Left,.int .i64 x.Right]:=rfl
@[simp] theorem Za.map_inj (xs ys:List Za):xs.map Za.c=ys.map Za.c↔xs=ys:=map_inj_of (by
 intro a b h
 simp at h
 simp [Za.ext_iff,h])
@[simp] theorem Za.flat (xs:List Za):(xs.map Za.c).all (fun x=>x.all scalar)=true:=flat_of (fun _=>rfl) xs
@[simp] theorem Za.flat2 (xs:List Za):xs.all ((fun x=>x.all scalar) ∘ Za.c)=true:=flat_of' (fun _=>rfl) xs
end Go.Proofs.Ytdfoicjjheifeaa
/- part: PW -/
namespace Go.Proofs.Ytdfoicjjheifeaa
open Go.AM
def inR (a b c:Int):Bool:=decide (b≤a∧a≤c)
theorem Ze7 {α:Type} (p:α→Bool) {xs:List α} {i:Nat} (h:i<xs.length):(xs.drop i).all p=(p xs[i] && (xs.drop (i+1)).all p):=by
 rw [List.drop_eq_getElem_cons h,List.all_cons]
theorem drop_any {α:Type} (p:α→Bool) {xs:List α} {i:Nat} (h:i<xs.length):(xs.drop i).any p=(p xs[i] || (xs.drop (i+1)).any p):=by
 rw [List.drop_eq_getElem_cons h,List.any_cons]
def domAll:List Int→List Int→Bool
 | x::xs,y::ys=>decide (y≤x) && domAll xs ys
 | _,_=>true
def dom (xs ys:List Int):Bool:=decide (xs.length=ys.length) && domAll xs ys
def bit4 (a b c d:Bool):Int:=(if a then 1 else 0)+(if b then 2 else 0)+(if c then 4 else 0)+(if d then 8 else 0)
def Ze (p:Nat→Bool):Int:=bit4 (p 0) (p 1) (p 2) (p 3)
theorem in4 {v:Int} (h:inR v 0 3=true):v=0∨v=1∨v=2∨v=3:=by simp [inR] at h;omega
def has (xs:List Int) (v:Int):Bool:=xs.any (fun x=>decide (v=x))
theorem Zb6 {xs:List Int} {v:Int}:has xs v=true↔v∈xs:=by
 simp only [has,List.any_eq_true,decide_eq_true_eq]
 exact ⟨fun ⟨x,h,e⟩=>e ▸ h,fun h=>⟨v,h,rfl⟩⟩
def addV (p:Nat→Bool) (vs:List Int):Nat→Bool:=fun u=>p u || has vs u
theorem Zdo (p:Nat→Bool):addV p []=p:=by funext u;simp [addV,has]
theorem Zh4 (p:Nat→Bool) (v:Int) (vs:List Int):addV (addV p [v]) vs=addV p (v::vs):=by funext u;simp [addV,has,Bool.or_assoc]
theorem Zdp (p:Nat→Bool) {vs:List Int} {i:Nat} (h:i<vs.length):addV p (vs.drop i)=addV (addV p [vs[i]]) (vs.drop (i+1)):=by
 rw [List.drop_eq_getElem_cons h,Zh4]
theorem or_d:∀ a b c d:Bool,orI (bit4 a b c d) 1=bit4 true b c d∧orI (bit4 a b c d) 2=bit4 a true c d∧orI (bit4 a b c d) 4=bit4 a b true d∧orI (bit4 a b c d) 8=bit4 a b c true:=by decide
theorem or_bit (p:Nat→Bool) {v:Int} (h:inR v 0 3=true):orI (Ze p) (shlI 1 v)=Ze (addV p [v]):=by
 have q:=or_d (p 0) (p 1) (p 2) (p 3)
 rcases in4 h with rfl | rfl | rfl | rfl <;> simp [addV,has,Ze,shlI,wrap64,q]
theorem and_d:∀ a b c d:Bool,(andI (shrI (bit4 a b c d) 0) 1=1↔a=true)∧(andI (shrI (bit4 a b c d) 1) 1=1↔b=true)∧(andI (shrI (bit4 a b c d) 2) 1=1↔c=true)∧(andI (shrI (bit4 a b c d) 3) 1=1↔d=true):=by decide
theorem at_bit (p:Nat→Bool) {v:Int} (h:inR v 0 3=true):andI (shrI (Ze p) v) 1=1↔p v.toNat=true:=by
 have q:=and_d (p 0) (p 1) (p 2) (p 3)
 rcases in4 h with rfl | rfl | rfl | rfl <;> simp [Ze,q]
theorem and4:∀ a b c d a' b' c' d':Bool,andI (bit4 a b c d) (bit4 a' b' c' d')=bit4 (a && a') (b && b') (c && c') (d && d'):=by decide
theorem Ze8 (p q:Nat→Bool):andI (Ze p) (Ze q)=Ze (fun u=>p u && q u):=and4 _ _ _ _ _ _ _ _
theorem zero4:∀ a b c d:Bool,bit4 a b c d=0↔(a=false∧b=false∧c=false∧d=false):=by decide
theorem Zh5 (p:Nat→Bool):Ze p=0↔∀ u,u<4→p u=false:=by
 rw [Ze,zero4]
 constructor
 ·rintro ⟨h0,h1,h2,h3⟩ u hu
  match u,hu with
  | 0,_=>exact h0
  | 1,_=>exact h1
  | 2,_=>exact h2
  | 3,_=>exact h3
 ·intro h;exact ⟨h 0 (by omega),h 1 (by omega),h 2 (by omega),h 3 (by omega)⟩
def Zp {α:Type} (p:α→Bool):List α→Nat→Int
 | [],_=>-1
 | x::xs,i=>if p x=true then i else Zp p xs (i+1)
theorem Ze9 {α:Type} (p:α→Bool) {xs:List α} {i:Nat} (h:i<xs.length):Zp p (xs.drop i) i=if p xs[i]=true then (i:Int) else Zp p (xs.drop (i+1)) (i+1):=by
 rw [List.drop_eq_getElem_cons h,Zp]
theorem Zfa {α:Type} (p:α→Bool) (xs:List α):∀ i,xs.any p=false→Zp p xs i=-1:=by
 induction xs with
 | nil=>intro i _;rfl
 | cons x xs ih=>intro i h;simp at h;simp [Zp,h];apply ih;simp;exact h.2
theorem Zfb {α:Type} (p:α→Bool) (xs:List α):∀ i,xs.any p=true→0≤Zp p xs i:=by
 induction xs with
 | nil=>intro i h;simp at h
 | cons x xs ih =>
  intro i h
  unfold Zp
  split
  ·omega
  ·rename_i hx;simp only [List.any_cons,hx,Bool.false_or] at h;exact ih _ h
def nmOk (s:ByteArray):Bool:=match s[0]? with
 | some b=>decide (s.size=1) && decide (97≤(b.toNat:Int)) && decide ((b.toNat:Int)≤122)
 | none=>false
theorem get0 {s:ByteArray} (h:s.size=1):∃ b,s[0]?=some b:=⟨s[0],getElem?_pos s 0 (by omega)⟩
def Zr (n:Int) (pre:List Int):List Int→Bool
 | []=>true
 | v::rest=>inR v 0 (n - 1) && !has pre v && Zr n (pre++[v]) rest
theorem Zfc (n:Int) {vs:List Int} {k:Nat} (h:k<vs.length):Zr n (vs.take k) (vs.drop k)=(inR vs[k] 0 (n - 1) && !has (vs.take k) vs[k] && Zr n (vs.take (k+1)) (vs.drop (k+1))):=by
 conv=>lhs;rw [List.drop_eq_getElem_cons h,Zr]
 rw [List.take_add_one,List.getElem?_eq_getElem h]
 rfl
theorem Zdq {n:Int}:∀ {vs pre:List Int},Zr n pre vs=true→∀ v∈vs,inR v 0 (n - 1)=true
 | [],_,_,v,hv=>by cases hv
 | x::xs,pre,h,v,hv=>by
  simp only [Zr,Bool.and_eq_true] at h
  cases hv with
  | head=>exact h.1.1
  | tail _ hv=>exact Zdq h.2 v hv
def Zi (n:Int) (a:Atom):Bool:=nmOk a.Name && inR a.Vars.length 1 3 && Zr n [] a.Vars
def addA (p:Nat→Bool) (qa:List Atom):Nat→Bool:=fun u=>p u || qa.any fun a=>has a.Vars u
theorem Zfd (p:Nat→Bool) {qa:List Atom} {i:Nat} (h:i<qa.length):addA p (qa.drop i)=addA (addV p qa[i].Vars) (qa.drop (i+1)):=by
 rw [List.drop_eq_getElem_cons h];funext u;simp only [addA,List.any_cons,addV,Bool.or_assoc]
def Zh (n:Int) (qa:List Atom):Bool :=
 inR n 1 4 && inR qa.length 1 4 && qa.all (Zi n) && (List.range n.toNat).all (addA (fun _=>false) qa)
def bl (p:Nat→Bool) (n:Nat):List (List T):=(List.range n).map fun u=>[T.bool (p u)]
@[simp] theorem bl_get (p:Nat→Bool) (n i:Nat) (h:i<(bl p n).length):(bl p n)[i]=[T.bool (p i)]:=by simp [bl]
theorem bl_any (p:Nat→Bool) (n:Nat):((List.range n).map p).any (fun x=>false == x)=!(List.range n).all p:=by
 rw [List.any_map,Bool.eq_iff_iff]
 simp
theorem Zcu:∀ a b c d:Bool,(bit4 a b c d=1↔(a=true∧b=false∧c=false∧d=false))∧(bit4 a b c d=3↔(a=true∧b=true∧c=false∧d=false))∧(bit4 a b c d=7↔(a=true∧b=true∧c=true∧d=false))∧(bit4 a b c d=15↔(a=true∧b=true∧c=true∧d=true)):=by decide
theorem all_in {n:Int} {qa:List Atom} (h:qa.all (Zi n)=true):∀ u:Int,n≤u→qa.any (fun a=>has a.Vars u)=false:=by
 intro u hu
 rw [List.any_eq_false]
 intro a ha hc
 rw [Zb6] at hc
 have:=List.all_eq_true.1 h a ha
 simp only [Zi,Bool.and_eq_true] at this
 have:=Zdq this.2 _ hc
 simp [inR] at this
 omega
def Zs (m:Int) (i:Nat):Bool:=decide (andI (shrI m i) 1=1)
def hasV (m:Int):List Atom→Nat→Int→Bool
 | [],_,_=>false
 | a::as',i,u=>(Zs m i && has a.Vars u) || hasV m as' (i+1) u
theorem Zfe (m:Int) {qa:List Atom} {i:Nat} (h:i<qa.length) (u:Int):hasV m (qa.drop i) i u=((Zs m i && has qa[i].Vars u) || hasV m (qa.drop (i+1)) (i+1) u):=by
 rw [List.drop_eq_getElem_cons h,hasV]
def pV (m:Int) (qa:List Atom):Nat→Bool:=fun u=>hasV m qa 0 u
def Var4 (qa:List Atom):Prop:=∀ a∈qa,∀ v∈a.Vars,inR v 0 3=true
theorem Zff {n:Int} {qa:List Atom} (h:Zh n qa=true):∀ a∈qa,∀ v∈a.Vars,inR v 0 (n - 1)=true:=by
 intro a ha v hv
 simp only [Zh,Bool.and_eq_true] at h
 have:=List.all_eq_true.1 h.1.2 a ha
 simp only [Zi,Bool.and_eq_true] at this
 exact Zdq this.2 v hv
theorem Zb1 {n:Int} {qa:List Atom} (h:Zh n qa=true):1≤n∧n≤4:=by
 simp only [Zh,Bool.and_eq_true] at h
 have:=h.1.1.1
 simpa [inR] using this
theorem Zdr {n:Int} {qa:List Atom} (h:Zh n qa=true):1≤qa.length∧qa.length≤4:=by
 simp only [Zh,Bool.and_eq_true] at h
 have:=h.1.1.2
 simp [inR] at this
 omega
theorem Zfg {n:Int} {qa:List Atom} (h:Zh n qa=true):∀ a∈qa,1≤a.Vars.length∧a.Vars.length≤3:=by
 intro a ha
 simp only [Zh,Bool.and_eq_true] at h
 have:=List.all_eq_true.1 h.1.2 a ha
 simp only [Zi,Bool.and_eq_true] at this
 have:=this.1.2
 simp [inR] at this
 omega
theorem valid4 {n:Int} {qa:List Atom} (h:Zh n qa=true):Var4 qa:=by
 intro a ha v hv
 have:=Zff h a ha v hv
 have h2:=Zb1 h
 simp [inR] at this ⊢
 omega
def addM (m:Int) (p:Nat→Bool) (qa:List Atom) (i:Nat):Nat→Bool:=fun u=>p u || hasV m (qa.drop i) i u
theorem Zh6 (m:Int) (p:Nat→Bool) {qa:List Atom} {i:Nat} (h:i<qa.length):addM m p qa i=addM m (if Zs m i=true then addV p qa[i].Vars else p) qa (i+1):=by
 funext u
 rw [addM,Zfe _ h]
 rcases tf (Zs m i) with e | e <;> simp [addM,addV,e,Bool.or_assoc]
def varL (m:Int) (qa:List Atom) (k:Nat):List Int:=((List.range k).filter (pV m qa)).map fun u:Nat=>(u:Int)
theorem Zh7 (m:Int) (qa:List Atom) (k:Nat):varL m qa (k+1)=varL m qa k++if hasV m qa 0 k=true then [(k:Int)] else []:=by
 unfold varL
 rw [List.range_succ,List.filter_append,List.map_append]
 rcases tf (hasV m qa 0 k) with e | e <;> simp [pV,e]
theorem Zcv (m:Int) (qa:List Atom) (k:Nat):(varL m qa k).length≤k:=by
 unfold varL
 simp
 exact Nat.le_trans (List.length_filter_le _ _) (by simp)
theorem Zh8 {α:Type} (p:α→Bool) {xs:List α} {i:Nat} (h:i<xs.length):(xs.take (i+1)).filter p=(xs.take i).filter p++if p xs[i]=true then [xs[i]] else []:=by
 rw [List.take_add_one,List.getElem?_eq_getElem h,List.filter_append]
 rcases tf (p xs[i]) with e | e <;> simp [e]
def vin (qa:List Atom) (m v:Int):Bool:=inR v 0 3 && pV m qa v.toNat
def shr (qa:List Atom) (a b:Int):Bool:=(List.range 4).any fun u=>pV a qa u && pV b qa u
def Zn (st:List Int) (info:List Za) (k:Nat):Option (Int×Za):=if k≤st.length then (match st[st.length - k]? with
 | some s=>(info[s.toNat]?).map (s,·)
 | none=>none) else none
def Zt (qa:List Atom) (x:Zb) (y z:Za):Option Int :=
 if x.Kind=3∧x.Order=0 then some (-1)
 else if x.Kind=5∧x.Order=0 then some y.Order
 else if x.Kind=4∧vin qa y.Mask x.Order=true∧vin qa z.Mask x.Order=true∧y.Order=x.Order∧z.Order=x.Order then some x.Order
 else none
def Zq (qa:List Atom) (x:Zb) (info:List Za) (st:List Int):Option Za :=
 if x.Kind=1 then (if inR x.Atom 0 (qa.length - 1)=true∧x.Order=0 then some ⟨shlI 1 x.Atom,(match qa[x.Atom.toNat]? with | some a=>a.Vars.headD 0 | none=>0),-1,-1⟩ else none)
 else if x.Atom≠0 then none
 else if x.Kind=2 then (match Zn st info 1 with
  | some (s,y)=>if vin qa y.Mask x.Order=true∧y.Order≠x.Order then some ⟨y.Mask,x.Order,s,-1⟩ else none
  | none=>none)
 else match Zn st info 2,Zn st info 1 with
  | some (s,y),some (t,z)=>if andI y.Mask z.Mask=0∧shr qa y.Mask z.Mask=true then (Zt qa x y z).map (⟨orI y.Mask z.Mask,·,s,t⟩) else none
  | _,_=>none
def StOk (info:List Za) (st:List Int):Prop:=∀ s∈st,0≤s∧s.toNat<info.length
theorem Zbi {info:List Za} {st:List Int} (h:StOk info st) {k:Nat} (h1:1≤k) (h2:k≤st.length) :
  ∃ s y,Zn st info k=some (s,y)∧st[st.length - k]?=some s∧0≤s∧info[s.toNat]?=some y:=by
 have hlt:st.length - k<st.length:=by omega
 obtain ⟨h3,h4⟩:=h _ (List.getElem_mem hlt)
 refine ⟨st[st.length - k],info[(st[st.length - k]).toNat],?_,List.getElem?_eq_getElem hlt,h3,List.getElem?_eq_getElem h4⟩
 simp [Zn,h2,List.getElem?_eq_getElem hlt,List.getElem?_eq_getElem h4]
theorem pV_lt {n:Int} {qa:List Atom} (h:Zh n qa=true) {m:Int} {u:Nat} (hp:pV m qa u=true):(u:Int)<n:=by
 have:∀ (l:List Atom) (i:Nat),(∀ a∈l,a∈qa)→hasV m l i u=true→(u:Int)<n:=by
  intro l
  induction l with
  | nil=>intro i _ hh;simp [hasV] at hh
  | cons a l ih =>
   intro i hs hh
   simp only [hasV,Bool.or_eq_true,Bool.and_eq_true] at hh
   rcases hh with hh | hh
   ·have:=Zff h a (hs a (by simp)) u (Zb6.1 hh.2)
    simp [inR] at this
    omega
   ·exact ih (i+1) (fun b hb=>hs b (by simp [hb])) hh
 exact this qa 0 (fun a ha=>ha) hp
theorem Zcw {n:Int} {qa:List Atom} (h:Zh n qa=true) (m v:Int):has (varL m qa n.toNat) v=vin qa m v:=by
 have hn:=Zb1 h
 rw [Bool.eq_iff_iff,Zb6]
 simp only [varL,List.mem_map,List.mem_filter,List.mem_range,vin,Bool.and_eq_true]
 constructor
 ·rintro ⟨u,⟨h1,h2⟩,rfl⟩
  refine ⟨by simp [inR];omega,by simpa using h2⟩
 ·rintro ⟨h1,h2⟩
  have h3:=pV_lt h h2
  simp [inR] at h1
  exact ⟨v.toNat,⟨by omega,h2⟩,by omega⟩
theorem Zh9 {n:Int} {qa:List Atom} (h:Zh n qa=true) (a b:Int):((varL a qa n.toNat).filter (has (varL b qa n.toNat))).length=0↔shr qa a b=false:=by
 have hn:=Zb1 h
 rw [List.length_eq_zero_iff,List.filter_eq_nil_iff,shr,List.any_eq_false]
 simp only [Zcw h]
 constructor
 ·intro hh u hu
  simp only [List.mem_range] at hu
  simp only [Bool.and_eq_true,not_and]
  intro h1 h2
  have h3:=pV_lt h h1
  refine hh (u:Int) ?_ ?_
  ·simp only [varL,List.mem_map,List.mem_filter,List.mem_range]
   exact ⟨u,⟨by omega,h1⟩,rfl⟩
  ·simp only [vin,Bool.and_eq_true]
   exact ⟨by simp [inR];omega,by simpa using h2⟩
 ·intro hh v hv
  simp only [varL,List.mem_map,List.mem_filter,List.mem_range] at hv
  obtain ⟨u,⟨h1,h2⟩,rfl⟩:=hv
  have:=hh u (by simp only [List.mem_range];omega)
  simp only [Bool.and_eq_true,not_and] at this
  simp only [vin,Bool.and_eq_true,not_and]
  intro _
  simpa using this h2
theorem Zia {n:Int} {qa:List Atom} (h:Zh n qa=true) (a b v:Int):has ((varL a qa n.toNat).filter (has (varL b qa n.toNat))) v=(vin qa a v && vin qa b v):=by
 rw [Bool.eq_iff_iff,Zb6,List.mem_filter,← Zb6,Zcw h,Zcw h,Bool.and_eq_true]
theorem shr_bits (qa:List Atom) (a b:Int):andI (Ze (pV a qa)) (Ze (pV b qa))=0↔shr qa a b=false:=by
 rw [Ze8,Zh5,shr,List.any_eq_false]
 simp
def popsI (x:Zb):Int:=if x.Kind=1 then 0 else if x.Kind=2 then 1 else 2
theorem hd0 {xs:List Int} (h:0<xs.length):xs.head?.getD 0=xs[0]:=by cases xs with | nil=>simp at h | cons x xs=>rfl
def pops (y:Za):Nat:=if 0≤y.Right then 2 else if 0≤y.Left then 1 else 0
def Zj (qa:List Atom):List Zb→Nat→List Za→List Int→Option (List Za×List Int)
 | [],_,info,st=>some (info,st)
 | x::xs,i,info,st=>match Zq qa x info st with
  | none=>none
  | some y=>Zj qa xs (i+1) (info++[y]) (st.take (st.length - pops y)++[(i:Int)])
theorem Zfh (qa:List Atom) {xs:List Zb} {i:Nat} (h:i<xs.length) (info:List Za) (st:List Int):Zj qa (xs.drop i) i info st=match Zq qa xs[i] info st with
  | none=>none
  | some y=>Zj qa (xs.drop (i+1)) (i+1) (info++[y]) (st.take (st.length - pops y)++[(i:Int)]):=by
 rw [List.drop_eq_getElem_cons h,Zj]
def Zk (n:Int) (qa:List Atom) (steps:List Zb):Option (List Za) :=
 if Zh n qa=true∧inR steps.length 1 14=true then (match Zj qa steps 0 [] [] with
  | some (info,st)=>if st.length=1 then some info else none
  | none=>none) else none
theorem Z6 {st:List Int} {info:List Za} {k:Nat} {s:Int} {y:Za} (hs:StOk info st) (h1:1≤k) (h:Zn st info k=some (s,y)):k≤st.length∧0≤s∧s.toNat<info.length∧info[s.toNat]?=some y:=by
 have hk:k≤st.length:=by
  unfold Zn at h
  split at h
  ·assumption
  ·cases h
 obtain ⟨s',y',q1,q2,q3,q4⟩:=Zbi hs h1 hk
 rw [q1] at h
 cases h
 exact ⟨hk,q3,(List.getElem?_eq_some_iff.1 q4).1,q4⟩
theorem Zds {qa:List Atom} {x:Zb} {info:List Za} {st:List Int} {y:Za} (hs:StOk info st) (h:Zq qa x info st=some y) :
  popsI x=pops y∧pops y≤st.length∧(0≤y.Right↔3≤x.Kind):=by
 unfold Zq at h
 unfold popsI pops
 split at h
 ·rename_i k1
  split at h
  ·cases h;simp [k1]
  ·cases h
 ·rename_i k1
  split at h
  ·cases h
  ·split at h
   ·rename_i k2
    split at h
    ·rename_i s y' ht
     split at h
     ·cases h
      obtain ⟨t1,t2,_⟩:=Z6 hs (Nat.le_refl 1) ht
      simp [k2,t2,t1]
     ·cases h
    ·cases h
   ·rename_i k2
    split at h
    ·rename_i s y' t z ht hu
     split at h
     ·obtain ⟨t1,t2,_⟩:=Z6 hs (by omega:1≤2) ht
      obtain ⟨u1,u2,_⟩:=Z6 hs (by omega:1≤1) hu
      obtain ⟨o,ho,rfl⟩:=Option.map_eq_some_iff.1 h
      have hk:x.Kind=3∨x.Kind=4∨x.Kind=5:=by
       unfold Zt at ho
       split at ho
       ·omega
       ·split at ho
        ·omega
        ·split at ho
         ·omega
         ·cases ho
      simp only [u2,if_true,k1,k2,if_false]
      refine ⟨rfl,t1,?_⟩
      simp;omega
     ·cases h
    ·cases h
theorem Zcx {info:List Za} {st:List Int} (hs:StOk info st) (y:Za) (k:Nat):StOk (info++[y]) (st.take k++[(info.length:Int)]):=by
 intro s h
 rcases List.mem_append.1 h with h | h
 ·obtain ⟨h1,h2⟩:=hs s (List.mem_of_mem_take h)
  exact ⟨h1,by simp;omega⟩
 ·simp at h
  subst h
  simp
theorem st_len {st:List Int} {i k:Nat} (h:st.length≤i) (x:Int):(st.take k++[x]).length≤i+1:=by simp;omega
theorem Zfi {qa:List Atom}:∀ {xs:List Zb} {i:Nat} {info:List Za} {st:List Int} {info':List Za} {st':List Int},Zj qa xs i info st=some (info',st')→info'.length=info.length+xs.length
 | [],_,_,_,_,_,h=>by simp [Zj] at h;simp [h.1]
 | x::xs,i,info,st,info',st',h=>by
  rw [Zj] at h
  split at h
  ·cases h
  ·have:=Zfi h
   simp at this ⊢
   omega
theorem Zbj {n:Int} {qa:List Atom} {steps:List Zb} {info:List Za} (h:Zk n qa steps=some info):Zh n qa=true∧info.length=steps.length∧1≤steps.length∧steps.length≤14:=by
 unfold Zk at h
 split at h
 ·rename_i hc
  have h2:=hc.2
  simp [inR] at h2
  split at h
  ·rename_i info' st hg
   split at h
   ·cases h
    have:=Zfi hg
    simp at this
    exact ⟨hc.1,this,by omega,by omega⟩
   ·cases h
  ·cases h
 ·cases h
theorem or16:∀ a b:Fin 16,orI (a.1:Int) (b.1:Int)=((a.1 ||| b.1:Nat):Int):=by decide
theorem or_lt {k:Nat} (hk:k≤4) {a b:Int} (ha:0≤a∧a<2 ^ k) (hb:0≤b∧b<2 ^ k):0≤orI a b∧orI a b<2 ^ k:=by
 have h16:(2:Int) ^ k≤16:=by
  have:k=0∨k=1∨k=2∨k=3∨k=4:=by omega
  rcases this with rfl | rfl | rfl | rfl | rfl <;> decide
 have e1:a=(a.toNat:Int):=by omega
 have e2:b=(b.toNat:Int):=by omega
 have l1:a.toNat<16:=by omega
 have l2:b.toNat<16:=by omega
 have e:=or16 ⟨a.toNat,l1⟩ ⟨b.toNat,l2⟩
 simp only at e
 rw [e1,e2,e]
 have c:((2 ^ k:Nat):Int)=2 ^ k:=by simp
 have m1:a.toNat<2 ^ k:=by omega
 have m2:b.toNat<2 ^ k:=by omega
 have:=Nat.or_lt_two_pow m1 m2
 omega
theorem shl_lt {k:Nat} (hk:k≤4) {v:Int} (h0:0≤v) (h1:v<k):0≤shlI 1 v∧shlI 1 v<2 ^ k:=by
 have h2:v=0∨v=1∨v=2∨v=3:=by omega
 have h3:k=0∨k=1∨k=2∨k=3∨k=4:=by omega
 rcases h2 with rfl | rfl | rfl | rfl <;> rcases h3 with rfl | rfl | rfl | rfl | rfl <;> first | omega | decide
def Zb2 (k:Nat) (y:Za):Prop:=0≤y.Mask∧y.Mask<2 ^ k
theorem Zib {qa:List Atom} (hk:qa.length≤4) {x:Zb} {info:List Za} {st:List Int} {y:Za} (hs:StOk info st) (hm:∀ y∈info,Zb2 qa.length y) (h:Zq qa x info st=some y):Zb2 qa.length y:=by
 unfold Zq at h
 split at h
 ·split at h
  ·rename_i hc
   cases h
   have:=hc.1
   simp [inR] at this
   exact shl_lt hk this.1 (by omega)
  ·cases h
 ·split at h
  ·cases h
  ·split at h
   ·split at h
    ·rename_i s y' ht
     split at h
     ·cases h
      obtain ⟨_,_,t3,t4⟩:=Z6 hs (Nat.le_refl 1) ht
      exact hm y' (List.mem_of_getElem? t4)
     ·cases h
    ·cases h
   ·split at h
    ·rename_i s y' t z ht hu
     split at h
     ·obtain ⟨_,_,_,t4⟩:=Z6 hs (by omega:1≤2) ht
      obtain ⟨_,_,_,u4⟩:=Z6 hs (by omega:1≤1) hu
      obtain ⟨o,ho,rfl⟩:=Option.map_eq_some_iff.1 h
      exact or_lt hk (hm y' (List.mem_of_getElem? t4)) (hm z (List.mem_of_getElem? u4))
     ·cases h
    ·cases h
theorem Zfj {qa:List Atom} (hk:qa.length≤4):∀ {xs:List Zb} {i:Nat} {info:List Za} {st:List Int} {info':List Za} {st':List Int},Zj qa xs i info st=some (info',st') →
  StOk info st→info.length=i→(∀ y∈info,Zb2 qa.length y)→(∀ y∈info',Zb2 qa.length y)∧∃ tail,info'=info++tail∧tail.length=xs.length∧∀ (j:Nat) (y:Za) (x:Zb),tail[j]?=some y→xs[j]?=some x→(0≤y.Right↔3≤x.Kind)
 | [],i,info,st,info',st',h,hs,hi,hm=>by
  simp [Zj] at h
  obtain ⟨rfl,rfl⟩:=h
  exact ⟨hm,[],by simp,rfl,by intro j y x hj;simp at hj⟩
 | x::xs,i,info,st,info',st',h,hs,hi,hm=>by
  rw [Zj] at h
  split at h
  ·cases h
  ·rename_i y hy
   have hn:=Zcx hs y (st.length - pops y)
   rw [hi] at hn
   have hm2:∀ z∈info++[y],Zb2 qa.length z:=by
    intro z hz
    rcases List.mem_append.1 hz with hz | hz
    ·exact hm z hz
    ·simp at hz;subst hz;exact Zib hk hs hm hy
   obtain ⟨g1,tail,g2,g3,g4⟩:=Zfj hk h hn (by simp [hi]) hm2
   refine ⟨g1,y::tail,by simp [g2],by simp [g3],?_⟩
   intro j y' x' hj hx
   cases j with
   | zero=>simp at hj hx;subst hj;subst hx;exact (Zds hs hy).2.2
   | succ j=>exact g4 j y' x' (by simpa using hj) (by simpa using hx)
theorem Zic {n:Int} {qa:List Atom} {steps:List Zb} {info:List Za} (h:Zk n qa steps=some info) :
  (∀ y∈info,Zb2 qa.length y)∧∀ (j:Nat) (y:Za) (x:Zb),info[j]?=some y→steps[j]?=some x→(0≤y.Right↔3≤x.Kind):=by
 have hq:=(Zbj h).1
 unfold Zk at h
 split at h
 ·split at h
  ·rename_i info' st hg
   split at h
   ·cases h
    obtain ⟨g1,tail,g2,g3,g4⟩:=Zfj (Zdr hq).2 hg (fun s hs=>by cases hs) rfl (fun y hy=>by cases hy)
    simp at g2
    subst g2
    exact ⟨g1,g4⟩
   ·cases h
  ·cases h
 ·cases h
def jst:List Zb→Nat→List Int
 | [],_=>[]
 | x::xs,i=>if 3≤x.Kind then (i:Int)::jst xs (i+1) else jst xs (i+1)
theorem Zfk {xs:List Zb} {i:Nat} (h:i<xs.length):jst (xs.drop i) i=if 3≤xs[i].Kind then (i:Int)::jst (xs.drop (i+1)) (i+1) else jst (xs.drop (i+1)) (i+1):=by
 rw [List.drop_eq_getElem_cons h,jst]
theorem Zfl:∀ (xs:List Zb) (i:Nat),(jst xs i).length≤xs.length
 | [],_=>Nat.le_refl _
 | x::xs,i=>by
  have:=Zfl xs (i+1)
  unfold jst
  split <;> simp <;> omega
theorem Zdt:∀ {xs:List Zb} {i:Nat} {j:Int},j∈jst xs i→(i:Int)≤j∧j<i+xs.length
 | [],_,_,h=>by cases h
 | x::xs,i,j,h=>by
  unfold jst at h
  split at h
  ·cases h with
   | head=>simp;omega
   | tail _ h=>have:=Zdt h;simp;omega
  ·have:=Zdt h;simp;omega
end Go.Proofs.Ytdfoicjjheifeaa
/- part: H -/
namespace Go.Proofs.Ytdfoicjjheifeaa
open Go.AM
open Go.ChangeShapes Go.WideShapes Go.ChangeAt Go.RowKit
theorem own:ownKnob Try.prog.godebug=none:=by kernel_rfl
theorem laidOut:laidOutB Try.prog=true:=by kernel_rfl
noncomputable def tbl:Nat→Option MFun:=tblOf Try.prog [4000003,2000008,2000009,2000010,3000013,3000014,2000032,2000033,3000039,3000040,43,44,45,1000049,59,2000064,2000065,3000073,74,75,76,77,85,86,87,2000095,103,1000107,110,111,112,114,122]
noncomputable def C:CallE:=callC tbl
theorem run {f:Nat} {xs:List AV} {m:MFun} (ht:tbl f=some m) (hl:xs.length=m.np) {r:AV×List Blk} (h:Ev C [.fin 0 m.res] m.body ⟨initE xs 0,[[]],[]⟩=some r):C f xs []=some r:=callC_of (h0:=[]) ht hl h
theorem runM {f:Nat} {xs:List AV} {h0:List Blk} {m:MFun} (ht:tbl f=some m) (hl:xs.length=m.np) {r:AV×List Blk} (h:Ev C [.fin h0.length m.res] m.body ⟨initE xs 0,[rootsE h0 0],h0⟩=some r):C f xs h0=some r:=callC_of ht hl h
theorem sound {f:Nat} {xs:List AV} {r:AV} {hr:List Blk} (h:C f xs []=some (r,hr)):Sound Try.prog f xs [] r hr:=callC_sound (tblOK _ _) h
abbrev Zid:Nat:=3
abbrev Zie:Nat:=5
abbrev Zif:Nat:=6
abbrev Zig:Nat:=8
abbrev Zih:Nat:=9
abbrev Zfm:Nat:=11
abbrev Zii:Nat:=12
abbrev Zij:Nat:=13
abbrev Zfn:Nat:=14
abbrev Zfo:Nat:=15
abbrev Zik:Nat:=28
abbrev Zil:Nat:=29
abbrev Zim:Nat:=32
abbrev Zin:Nat:=33
abbrev Zfp:Nat:=37
abbrev Zio:Nat:=38
abbrev Zip:Nat:=39
abbrev Zfq:Nat:=40
abbrev Zfr:Nat:=41
abbrev Ziq:Nat:=60
abbrev Zir:Nat:=64
abbrev Zis:Nat:=65
abbrev Zit:Nat:=70
abbrev Ziu:Nat:=71
abbrev Zdu:Nat:=72
abbrev Zcy:Nat:=73
abbrev Ziv:Nat:=90
abbrev Ziw:Nat:=95
abbrev Zix:Nat:=101
abbrev Zx:Nat:=3
abbrev t_bool:Nat:=4
abbrev Zbk:Nat:=73
abbrev Zcz:Nat:=111
abbrev Zc0:Nat:=113
end Go.Proofs.Ytdfoicjjheifeaa
/- part: D1 -/
namespace Go.Proofs.Ytdfoicjjheifeaa
open Go.AM
def Zfs:MFun:=⟨3,15,[.tmp 6],.r [.o 6 (.mov (.q false))] [0,1,2] (.r [.m 7 0,.m 8 1,.b 9 .geq 7 8,.m 10 9,.g 11 10 (.mov (.s 0)),.g 12 10 (.mov (.s 2)),.g 13 10 (.b .leq 11 12),.o 14 (.pick (.s 10) (.s 13) (.q false)),.m 6 14] [6] .ret)⟩
noncomputable def Zm (a:Int) (a1:Int) (a2:Int):Rs:=C 46 [I a,I a1,I a2] []
def Zft:MFun:=⟨1,16,[.tmp 2],.r [.o 2 (.mov (.q false))] [0] (.r [.m 3 0,.o 4 (.len true (.s 3)),.bk 5 .eql 4 1,.m 6 5,.g 7 6 (.mov (.s 0)),.g 8 6 (.index (.s 7) (.k 0)),.g 9 6 (.bin .geq (.s 8) (.c (.t (.int .u8 97)))),.o 10 (.pick (.s 6) (.s 9) (.q false)),.m 11 10,.g 12 11 (.mov (.s 0)),.g 13 11 (.index (.s 12) (.k 0)),.g 14 11 (.bin .leq (.s 13) (.c (.t (.int .u8 122)))),.o 15 (.pick (.s 11) (.s 14) (.q false)),.m 2 15] [2] .ret)⟩
noncomputable def Zb7 (a:ByteArray):Rs:=C 96 [.t (.str a)] []
def Zdv:MCode:=.r [.b 9 .lss 8 7] [0,1,7,8,9] (.seq (.cond (.s 9) .skip (.exit 0)) (.seq (.block 1 (.r [.m 10 8,.m 5 10] [0,1,5,7,8] (.r [.m 11 1,.m 12 0,.m 13 5,.ia 14 1 12 13,.l 15 14,.b 16 .eql 11 15] [0,1,5,7,8,16] (.cond (.s 16) (.r [.m 17 5,.m 4 17] [4] .ret) .skip)))) (.reg [.bk 18 .add 8 1,.m 8 18] [0,1,7,8])))
def Zdw:MCode:=.r [.mk' 4 (-1)] [4] .ret
def Zfu:MFun:=⟨2,19,[.tmp 4],.r [.mk' 4 0] [0,1] (.seq (.r [.m 6 0,.ll 7 6,.mk' 8 0] [0,1,7,8] (.block 0 (.loop [0,1,7,8] Zdv))) Zdw)⟩
noncomputable def Zb8 (a:List Int) (a1:Int):Rs:=C 116 [L 1 (a.map ic),I a1] []
noncomputable def Zbl (s:List Int) (v:Int) (x:Int) (x1:Int):Rs:=EvL C [.blk 0,.seq Zdw,.fin 0 [.tmp 4]] [0,1,7,8] Zdv ⟨[(0,L 1 (s.map ic)),(1,I v),(7,I x),(8,I x1)],[[]],[]⟩
def Zfv:MFun:=⟨2,9,[.tmp 4],.r [.o 4 (.mov (.q false))] [0,1] (.r [.m 5 0,.m 6 1,.cl 7 116 [5,6],.bk 8 .geq 7 0,.m 4 8] [4] .ret)⟩
noncomputable def Zu (a:List Int) (a1:Int):Rs:=C 97 [L 1 (a.map ic),I a1] []
def Zdx:MCode:=.r [.b 9 .lss 8 7] [0,1,7,8,9] (.seq (.cond (.s 9) .skip (.exit 0)) (.seq (.block 1 (.r [.m 10 8,.m 5 10] [0,1,5,7,8] (.r [.m 11 1,.m 12 0,.m 13 5,.ia 14 1 12 13,.l 15 14,.o 16 (.beq false (.s 11) (.s 15))] [0,1,5,7,8,16] (.cond (.s 16) (.r [.m 17 5,.m 4 17] [4] .ret) .skip)))) (.reg [.bk 18 .add 8 1,.m 8 18] [0,1,7,8])))
def Zdy:MCode:=.r [.mk' 4 (-1)] [4] .ret
def Zfw:MFun:=⟨2,19,[.tmp 4],.r [.mk' 4 0] [0,1] (.seq (.r [.m 6 0,.ll 7 6,.mk' 8 0] [0,1,7,8] (.block 0 (.loop [0,1,7,8] Zdx))) Zdy)⟩
noncomputable def Zb9 (a:List Bool) (a1:Bool):Rs:=C 117 [L 1 (a.map bc),Bo a1] []
noncomputable def Zbm (s:List Bool) (v:Bool) (x:Int) (x1:Int):Rs:=EvL C [.blk 0,.seq Zdy,.fin 0 [.tmp 4]] [0,1,7,8] Zdx ⟨[(0,L 1 (s.map bc)),(1,Bo v),(7,I x),(8,I x1)],[[]],[]⟩
def Zfx:MFun:=⟨2,9,[.tmp 4],.r [.o 4 (.mov (.q false))] [0,1] (.r [.m 5 0,.m 6 1,.cl 7 117 [5,6],.bk 8 .geq 7 0,.m 4 8] [4] .ret)⟩
noncomputable def Zca (a:List Bool) (a1:Bool):Rs:=C 98 [L 1 (a.map bc),Bo a1] []
def Zdz:MCode:=.r [.b 44 .lss 43 42] [1,3,5,23,24,25,41,42,43,44] (.seq (.cond (.s 44) .skip (.exit 2)) (.seq (.block 3 (.r [.m 45 43,.ia 46 1 41 43,.l 47 46,.m 6 45,.m 7 47] [1,3,5,6,7,23,24,25,41,42,43] (.wc [.m 48 7,.fa 49 0 1,.l 50 49,.bk 51 .sub 50 1,.o 52 (.call 46 [.s 48,.c (.t .z),.s 51]),.o 53 (.un .not (.s 52)),.m 54 53,.h 55 54 (.fa 1 5),.h 56 54 (.l 55),.h 57 54 (.mov (.s 6)),.h 58 54 (.slice (some 1) (.s 56) none (some (.s 57))),.h 59 54 (.mov (.s 7)),.h 60 54 (.cl 97 [58,59]),.o 61 (.pick (.s 54) (.q true) (.s 60))] [1,3,5,7,23,24,25,41,42,43,61] 61 (.r [.o 2 (.mov (.q false))] [2] .ret) (.reg [.m 62 3,.m 63 7,.ia 64 1 62 63,.n (.store 1 (.s 64) (.q true))] [1,3,5,23,24,25,41,42,43])))) (.reg [.bk 65 .add 43 1,.m 43 65] [1,3,5,23,24,25,41,42,43])))
def Zd0:MCode:=.reg [.bk 66 .add 25 1,.m 25 66] [1,3,23,24,25]
def Zc1:MCode:=.r [.b 26 .lss 25 24] [1,3,23,24,25,26] (.seq (.cond (.s 26) .skip (.exit 0)) (.seq (.block 1 (.r [.ia 27 2 23 25,.ln 28 2 27,.o 5 (.alloc [.t (.str ⟨#[]⟩),.t .nil]),.st 2 5 28] [1,3,5,23,24,25] (.wc [.fa 29 0 5,.l 30 29,.cl 31 96 [30],.o 32 (.un .not (.s 31)),.m 33 32,.h 34 33 (.fa 1 5),.h 35 33 (.l 34),.h 36 33 (.ll 35),.h 37 33 (.call 46 [.s 36,.c (.t (.int .i64 1)),.c (.t (.int .i64 3))]),.h 38 33 (.un .not (.s 37)),.o 39 (.pick (.s 33) (.q true) (.s 38))] [1,3,5,23,24,25,39] 39 (.r [.o 2 (.mov (.q false))] [2] .ret) (.r [.fa 40 1 5,.l 41 40,.ll 42 41,.mk' 43 0] [1,3,5,23,24,25,41,42,43] (.block 2 (.loop [1,3,5,23,24,25,41,42,43] Zdz)))))) Zd0))
def Zc2:MCode:=.r [.m 67 3,.o 68 (.call 98 [.s 67,.q false]),.o 69 (.un .not (.s 68)),.m 2 69] [2] .ret
def Zc3:MFun:=⟨1,70,[.tmp 2],.r [.bx 1 0,.o 2 (.mov (.q false))] [1] (.wc [.fa 8 0 1,.l 9 8,.o 10 (.call 46 [.s 9,.c (.t (.int .i64 1)),.c (.t (.int .i64 4))]),.o 11 (.un .not (.s 10)),.m 12 11,.h 13 12 (.fa 1 1),.h 14 12 (.l 13),.h 15 12 (.ll 14),.h 16 12 (.call 46 [.s 15,.c (.t (.int .i64 1)),.c (.t (.int .i64 4))]),.h 17 12 (.un .not (.s 16)),.o 18 (.pick (.s 12) (.q true) (.s 17))] [1,18] 18 (.r [.o 2 (.mov (.q false))] [2] .ret) (.r [.fa 19 0 1,.l 20 19,.o 21 (.mkslice 4 1 1 [.bool false] (.s 20) (.s 20)),.m 3 21] [1,3] (.seq (.r [.fa 22 1 1,.l 23 22,.ll 24 23,.mk' 25 0] [1,3,23,24,25] (.block 0 (.loop [1,3,23,24,25] Zc1))) Zc2)))⟩
noncomputable def Zcb (a:Zc):Rs:=C 66 [.agg (a.c.map .t)] []
noncomputable def Z7 (q:Zc) (seen:List Bool) (x:List Atom) (x1:Int) (x2:Int):Rs:=EvL C [.blk 0,.seq Zc2,.fin 0 [.tmp 2]] [1,3,23,24,25] Zc1 ⟨[(1,.ptr 0 0),(3,.own 1),(23,L 2 (x.map Atom.c)),(24,I x1),(25,I x2)],[[]],[.box (q.c.map .t),.arr 4 1 true (seen.map bc)]⟩
noncomputable def Zbn (q:Zc) (seen:List Bool) (a:Atom) (x:List Atom) (x1:Int) (x2:Int) (x3:List Int) (x4:Int) (x5:Int):Rs:=EvL C [.blk 2,.blk 1,.seq Zd0,.loop [1,3,23,24,25] Zc1,.blk 0,.seq Zc2,.fin 0 [.tmp 2]] [1,3,5,23,24,25,41,42,43] Zdz ⟨[(1,.ptr 0 0),(3,.own 1),(5,.ptr 2 0),(23,L 2 (x.map Atom.c)),(24,I x1),(25,I x2),(41,L 1 (x3.map ic)),(42,I x4),(43,I x5)],[[]],[.box (q.c.map .t),.arr 4 1 true (seen.map bc),.box (a.c.map .t)]⟩
def Zd1:MCode:=.r [.b 20 .lss 19 18] [1,2,5,6,17,18,19,20] (.seq (.cond (.s 20) .skip (.exit 2)) (.seq (.block 3 (.r [.m 21 19,.ia 22 2 17 19,.ln 23 2 22,.o 8 (.alloc [.t (.str ⟨#[]⟩),.t .nil]),.m 7 21,.st 2 8 23] [1,2,5,6,7,8,17,18,19] (.r [.m 24 1,.m 25 7,.b 26 .shr 24 25,.bk 27 .and 26 1,.bk 28 .eql 27 1,.m 29 28,.g 30 29 (.fa 1 8),.g 31 29 (.l 30),.g 32 29 (.mov (.s 6)),.g 33 29 (.cl 97 [31,32]),.o 34 (.pick (.s 29) (.s 33) (.q false))] [1,2,5,6,17,18,19,34] (.cond (.s 34) (.r [.m 35 5,.m 36 6,.o 37 (.bslice 3 1 1 [.z] [(0,.s 36)]),.o 38 (.append 3 1 8 true (.s 35) (.s 37)),.m 5 38] [1,2,5,6] (.exit 2)) .skip)))) (.reg [.bk 39 .add 19 1,.m 19 39] [1,2,5,6,17,18,19])))
def Zd2:MCode:=.reg [.m 14 6,.bk 15 .add 14 1,.m 6 15] [1,2,5,6]
def Zc4:MCode:=.we [.m 10 6,.fa 11 0 2,.l 12 11,.b 13 .lss 10 12] [1,2,5,6,13] 13 0 (.seq (.block 1 (.r [.fa 16 1 2,.l 17 16,.ll 18 17,.mk' 19 0] [1,2,5,6,17,18,19] (.block 2 (.loop [1,2,5,6,17,18,19] Zd1)))) Zd2)
def Zc5:MCode:=.r [.m 40 5,.m 4 40] [4] .ret
def Zfy:MFun:=⟨2,41,[.tmp 4],.r [.bx 2 0,.o 4 (.mov (.c (.t .nil)))] [1,2] (.r [.o 9 (.bslice 3 1 0 [.z] []),.m 5 9] [1,2,5] (.seq (.r [.mk' 6 0] [1,2,5,6] (.block 0 (.loop [1,2,5,6] Zc4))) Zc5))⟩
noncomputable def Zbo (a:Zc) (a1:Int):Rs:=C 99 [.agg (a.c.map .t),I a1] []
noncomputable def Z0 (q:Zc) (out:List Int) (mask:Int) (v:Int):Rs:=EvL C [.blk 0,.seq Zc5,.fin 0 [.tmp 4]] [1,2,5,6] Zc4 ⟨[(1,I mask),(2,.ptr 0 0),(5,.own 1),(6,I v)],[[]],[.box (q.c.map .t),.arr 3 1 true (out.map ic)]⟩
noncomputable def Z8 (q:Zc) (out:List Int) (mask:Int) (v:Int) (x:List Atom) (x1:Int) (x2:Int):Rs:=EvL C [.blk 2,.blk 1,.seq Zd2,.loop [1,2,5,6] Zc4,.blk 0,.seq Zc5,.fin 0 [.tmp 4]] [1,2,5,6,17,18,19] Zd1 ⟨[(1,I mask),(2,.ptr 0 0),(5,.own 1),(6,I v),(17,L 2 (x.map Atom.c)),(18,I x1),(19,I x2)],[[]],[.box (q.c.map .t),.arr 3 1 true (out.map ic)]⟩
def Zfz:MCode:=.reg [.bk 22 .add 11 1,.m 11 22] [1,5,9,10,11]
def Zd3:MCode:=.r [.b 12 .lss 11 10] [1,5,9,10,11,12] (.seq (.cond (.s 12) .skip (.exit 0)) (.seq (.block 1 (.r [.ia 13 1 9 11,.l 14 13,.m 7 14] [1,5,7,9,10,11] (.r [.m 15 1,.m 16 7,.cl 17 97 [15,16]] [1,5,7,9,10,11,17] (.cond (.s 17) (.reg [.m 18 5,.m 19 7,.o 20 (.bslice 3 1 1 [.z] [(0,.s 19)]),.o 21 (.append 3 1 8 true (.s 18) (.s 20)),.m 5 21] [1,5,9,10,11]) .skip)))) Zfz))
def Zd4:MCode:=.r [.m 23 5,.m 4 23] [4] .ret
def Zf0:MFun:=⟨2,24,[.tmp 4],.r [.o 4 (.mov (.c (.t .nil)))] [0,1] (.r [.o 8 (.bslice 3 1 0 [.z] []),.m 5 8] [0,1,5] (.seq (.r [.m 9 0,.ll 10 9,.mk' 11 0] [1,5,9,10,11] (.block 0 (.loop [1,5,9,10,11] Zd3))) Zd4))⟩
noncomputable def Zcc (a:List Int) (a1:List Int):Rs:=C 100 [L 1 (a.map ic),L 1 (a1.map ic)] []
noncomputable def Z9 (out:List Int) (b:List Int) (x:List Int) (x1:Int) (x2:Int):Rs:=EvL C [.blk 0,.seq Zd4,.fin 0 [.tmp 4]] [1,5,9,10,11] Zd3 ⟨[(1,L 1 (b.map ic)),(5,.own 0),(9,L 1 (x.map ic)),(10,I x1),(11,I x2)],[[]],[.arr 3 1 true (out.map ic)]⟩
def Zf1:MFun:=⟨4,202,[.cell 8 (some 4),.tmp 9],.r [.bx 4 0,.bx 5 1,.o 8 (.alloc [.t .z,.t .z,.t .z,.t .z]),.o 9 (.mov (.q false))] [2,3,4,5,8] (.r [.o 15 (.build [.t .z,.t .z,.t .z,.t .z] [(1,1,.c (.t (.int .i64 (-1)))),(2,1,.c (.t (.int .i64 (-1)))),(3,1,.c (.t (.int .i64 (-1))))]),.o 10 (.alloc [.t .z,.t .z,.t .z,.t .z]),.st 4 10 15] [2,3,4,5,8,10] (.wc [.fa 16 0 5,.l 17 16,.bk 18 .eql 17 1] [2,3,4,5,8,10,18] 18 (.wc [.fa 19 1 5,.l 20 19,.fa 21 1 4,.l 22 21,.ll 23 22,.bk 24 .sub 23 1,.o 25 (.call 46 [.s 20,.c (.t .z),.s 24]),.o 26 (.un .not (.s 25)),.m 27 26,.h 28 27 (.fa 2 5),.h 29 27 (.l 28),.h 30 27 (.bk .neq 29 0),.o 31 (.pick (.s 27) (.q true) (.s 30))] [4,5,8,10,31] 31 (.r [.ln 32 4 10,.st 4 8 32,.o 9 (.mov (.q false))] [8,9] .ret) (.r [.fa 33 1 5,.l 34 33,.o 35 (.bin .shl (.k 1) (.s 34)),.fa 36 0 10,.st 1 36 35] [4,5,8,10] (.r [.fa 37 1 4,.l 38 37,.fa 39 1 5,.l 40 39,.ia 41 2 38 40,.fa 42 1 41,.l 43 42,.o 44 (.iaddr 1 (.s 43) (.k 0)),.l 45 44,.fa 46 1 10,.st 1 46 45] [8,10] (.r [.ln 47 4 10,.st 4 8 47,.o 9 (.mov (.q true))] [8,9] .ret)))) (.r [.m 48 3,.ll 49 48,.m 11 49] [2,3,4,5,8,10,11] (.wc [.fa 50 1 5,.l 51 50,.bk 52 .neq 51 0] [2,3,4,5,8,10,11,52] 52 (.r [.ln 53 4 10,.st 4 8 53,.o 9 (.mov (.q false))] [8,9] .ret) (.wc [.fa 54 0 5,.l 55 54,.bk 56 .eql 55 2] [2,3,4,5,8,10,11,56] 56 (.seq (.seq (.drw [.m 57 11,.bk 58 .lss 57 1,.m 59 58,.h 60 59 (.ln 2 4),.h 61 59 (.mov (.s 2)),.h 62 59 (.mov (.s 3)),.h 63 59 (.mov (.s 11)),.h 64 59 (.bk .sub 63 1),.h 65 59 (.ia 1 62 64),.h 66 59 (.l 65),.h 67 59 (.ia 4 61 66),.h 68 59 (.fa 0 67),.h 69 59 (.l 68),.h 70 59 (.cl 99 [60,69]),.h 71 59 (.fa 2 5),.h 72 59 (.l 71),.h 73 59 (.cl 97 [70,72]),.h 74 59 (.un .not (.s 73)),.o 75 (.pick (.s 59) (.q true) (.s 74)),.m 76 75,.h 77 76 (.mov (.s 2)),.h 78 76 (.mov (.s 3)),.h 79 76 (.mov (.s 11)),.h 80 76 (.bk .sub 79 1),.h 81 76 (.ia 1 78 80),.h 82 76 (.l 81),.h 83 76 (.ia 4 77 82),.h 84 76 (.fa 1 83),.h 85 76 (.l 84),.h 86 76 (.fa 2 5),.h 87 76 (.l 86),.h 88 76 (.b .eql 85 87),.o 89 (.pick (.s 76) (.q true) (.s 88))] [[],[0],[1],[2],[2],[2],[2],[6,2],[5,7,2],[8,2],[4,9,2],[10,2],[11,2],[3,12,2,2],[2],[14,2],[13,15,13,2],[16,2],[2,17],[18,16],[19],[19],[19],[22,19],[21,23,19],[24,19],[20,25,19],[26,19],[27,19],[19],[29,19],[28,30,19],[19,31]] [2,3,5,8,10,11,89]) (.cond (.s 89) (.r [.ln 90 4 10,.st 4 8 90,.o 9 (.mov (.q false))] [8,9] .ret) .skip)) (.r [.m 91 3,.m 92 11,.bk 93 .sub 92 1,.ia 94 1 91 93,.l 95 94,.fa 96 2 10,.st 1 96 95] [2,5,8,10] (.r [.m 97 2,.fa 98 2 10,.l 99 98,.ia 100 4 97 99,.fa 101 0 100,.l 102 101,.fa 103 0 10,.st 1 103 102] [5,8,10] (.r [.fa 104 2 5,.l 105 104,.fa 106 1 10,.st 1 106 105] [8,10] (.r [.ln 107 4 10,.st 4 8 107,.o 9 (.mov (.q true))] [8,9] .ret))))) (.wc [.m 108 11,.bk 109 .lss 108 2] [2,3,4,5,8,10,11,109] 109 (.r [.ln 110 4 10,.st 4 8 110,.o 9 (.mov (.q false))] [8,9] .ret) (.seq (.drw [.m 111 3,.m 112 11,.bk 113 .sub 112 2,.ia 114 1 111 113,.l 115 114,.m 116 3,.m 117 11,.bk 118 .sub 117 1,.ia 119 1 116 118,.l 120 119,.fa 121 2 10,.st 1 121 115,.fa 122 3 10,.st 1 122 120] [[],[],[1],[0,2],[3],[],[],[6],[5,7],[8],[0,1,2,3,4],[10,4,0,1,2,3,4],[0,1,2,3,4,5,6,7,8,9,10,11],[12,9,11,0,1,2,3,4,5,6,7,8,9,10,11]] [2,4,5,8,10]) (.seq (.drw [.m 123 2,.fa 124 2 10,.l 125 124,.ia 126 4 123 125,.ln 127 4 126,.m 128 2,.fa 129 3 10,.l 130 129,.ia 131 4 128 130,.ln 132 4 131,.o 12 (.alloc [.t .z,.t .z,.t .z,.t .z]),.o 13 (.alloc [.t .z,.t .z,.t .z,.t .z]),.st 4 12 127,.st 4 13 132] [[],[],[1],[0,2],[3],[],[],[6],[5,7],[8],[],[],[10,4,0,1,2,3,4,10,11],[11,9,12,0,1,2,3,4,5,6,7,8,9,10,11,12]] [4,5,8,10,12,13]) (.seq (.drw [.ln 133 2 4,.fa 134 0 12,.l 135 134,.cl 136 99 [133,135],.ln 137 2 4,.fa 138 0 13,.l 139 138,.cl 140 99 [137,139],.cl 141 100 [136,140],.m 14 141] [[],[],[1],[0,2],[],[],[5],[4,6,3],[3,7,7],[8,8,0,1,2,3,4,5,6,7,8]] [5,8,10,12,13,14]) (.r [.fa 142 0 12,.l 143 142,.fa 144 0 13,.l 145 144,.b 146 .or 143 145,.fa 147 0 10,.st 1 147 146] [5,8,10,12,13,14] (.wc [.fa 148 0 12,.l 149 148,.fa 150 0 13,.l 151 150,.b 152 .and 149 151,.bk 153 .neq 152 0,.m 154 153,.h 155 154 (.mov (.s 14)),.h 156 154 (.ll 155),.h 157 154 (.bk .eql 156 0),.o 158 (.pick (.s 154) (.q true) (.s 157))] [5,8,10,12,13,14,158] 158 (.r [.ln 159 4 10,.st 4 8 159,.o 9 (.mov (.q false))] [8,9] .ret) (.seq (.r [.fa 160 0 5,.l 161 160] [5,8,10,12,13,14,161] (.block 0 (.r [.bk 163 .eql 161 3,.m 162 163] [5,8,10,12,13,14,161,162] (.cond (.s 162) (.seq (.drw [.ln 164 4 10,.fa 165 2 5,.l 166 165,.bk 167 .eql 166 0,.st 4 8 164,.m 9 167] [[],[],[1],[2],[0,0],[3,4,0,1,2,3,4]] [8,9]) .ret) (.r [.bk 169 .eql 161 5,.m 168 169] [5,8,10,12,13,14,161,168] (.cond (.s 168) (.r [.fa 170 1 12,.l 171 170,.fa 172 1 10,.st 1 172 171] [5,8,10] (.seq (.drw [.ln 173 4 10,.fa 174 2 5,.l 175 174,.bk 176 .eql 175 0,.st 4 8 173,.m 9 176] [[],[],[1],[2],[0,0],[3,4,0,1,2,3,4]] [8,9]) .ret)) (.r [.bk 178 .eql 161 4,.m 177 178] [5,8,10,12,13,14,177] (.cond (.s 177) (.r [.fa 179 2 5,.l 180 179,.fa 181 1 10,.st 1 181 180] [5,8,10,12,13,14] (.seq (.drw [.ln 182 4 10,.m 183 14,.fa 184 2 5,.l 185 184,.cl 186 97 [183,185],.m 187 186,.g 188 187 (.fa 1 12),.g 189 187 (.l 188),.g 190 187 (.fa 2 5),.g 191 187 (.l 190),.g 192 187 (.b .eql 189 191),.o 193 (.pick (.s 187) (.s 192) (.q false)),.m 194 193,.g 195 194 (.fa 1 13),.g 196 194 (.l 195),.g 197 194 (.fa 2 5),.g 198 194 (.l 197),.g 199 194 (.b .eql 196 198),.o 200 (.pick (.s 194) (.s 199) (.q false)),.st 4 8 182,.m 9 200] [[],[],[],[2],[1,3],[4,4],[5],[6,5],[5],[8,5],[7,9,5],[5,10],[11,5],[12],[13,12],[12],[15,12],[14,16,12],[12,17],[0,12,0],[18,19,0,1,2,3,4,5,6,7,8,9,10,11,12,13,14,15,16,17,18,19]] [8,9]) .ret)) .skip)))))))) (.r [.ln 201 4 10,.st 4 8 201,.o 9 (.mov (.q false))] [8,9] .ret)))))))))))))⟩
noncomputable def Zbp (a:Zc) (a1:Zb) (a2:List Za) (a3:List Int):Rs:=C 67 [.agg (a.c.map .t),.agg (a1.c.map .t),L 4 (a2.map Za.c),L 1 (a3.map ic)] []
def Zf2:MCode:=.reg [.m 64 7,.m 65 8,.o 66 (.bslice 3 1 1 [.z] [(0,.s 65)]),.o 67 (.append 3 1 8 true (.s 64) (.s 66)),.m 7 67] [2,6,7,25,26,27]
def Zd5:MCode:=.r [.b 28 .lss 27 26] [2,6,7,25,26,27,28] (.seq (.cond (.s 28) .skip (.exit 0)) (.seq (.block 1 (.r [.m 29 27,.ia 30 3 25 27,.ln 31 3 30,.o 9 (.alloc [.t .z,.t .z,.t .z]),.m 8 29,.st 3 9 31] [2,6,7,8,9,25,26,27] (.r [.ln 33 2 2,.ln 34 3 9,.m 35 6,.m 36 7,.cl 37 67 [33,34,35,36],.m 32 37,.o 38 (.ext (.s 32) 0),.o 39 (.ext (.s 32) 1),.o 10 (.alloc [.t .z,.t .z,.t .z,.t .z]),.st 4 10 38,.m 11 39] [2,6,7,8,10,11,25,26,27] (.wc [.m 40 11,.o 41 (.un .not (.s 40))] [2,6,7,8,10,25,26,27,41] 41 (.r [.o 4 (.mov (.c (.t .nil))),.o 5 (.mov (.q false))] [4,5] .ret) (.r [.m 42 6,.ln 43 4 10,.o 44 (.bslice 73 4 1 [.z,.z,.z,.z] [(0,.s 43)]),.o 45 (.append 73 4 32 true (.s 42) (.s 44)),.m 6 45] [2,6,7,8,10,25,26,27] (.seq (.block 2 (.r [.fa 47 3 10,.l 48 47,.bk 49 .geq 48 0,.m 46 49] [2,6,7,8,10,25,26,27,46] (.cond (.s 46) (.reg [.m 50 7,.m 51 7,.ll 52 51,.bk 53 .sub 52 2,.o 54 (.slice (some 1) (.s 50) none (some (.s 53))),.m 7 54] [2,6,7,8,25,26,27]) (.r [.fa 56 2 10,.l 57 56,.bk 58 .geq 57 0,.m 55 58] [2,6,7,8,25,26,27,55] (.cond (.s 55) (.reg [.m 59 7,.m 60 7,.ll 61 60,.bk 62 .sub 61 1,.o 63 (.slice (some 1) (.s 59) none (some (.s 62))),.m 7 63] [2,6,7,8,25,26,27]) .skip))))) Zf2)))))) (.reg [.bk 68 .add 27 1,.m 27 68] [2,6,7,25,26,27])))
def Zd6:MCode:=.wc [.m 69 7,.ll 70 69,.bk 71 .neq 70 1] [6,71] 71 (.r [.o 4 (.mov (.c (.t .nil))),.o 5 (.mov (.q false))] [4,5] .ret) (.r [.m 72 6,.m 4 72,.o 5 (.mov (.q true))] [4,5] .ret)
def Zf3:MFun:=⟨2,73,[.tmp 4,.tmp 5],.r [.bx 2 0,.bx 3 1,.o 4 (.mov (.c (.t .nil))),.o 5 (.mov (.q false))] [2,3] (.wc [.ln 12 2 2,.cl 13 66 [12],.o 14 (.un .not (.s 13)),.m 15 14,.h 16 15 (.fa 0 3),.h 17 15 (.l 16),.h 18 15 (.ll 17),.h 19 15 (.call 46 [.s 18,.c (.t (.int .i64 1)),.c (.t (.int .i64 14))]),.h 20 15 (.un .not (.s 19)),.o 21 (.pick (.s 15) (.q true) (.s 20))] [2,3,21] 21 (.r [.o 4 (.mov (.c (.t .nil))),.o 5 (.mov (.q false))] [4,5] .ret) (.r [.o 22 (.bslice 73 4 0 [.z,.z,.z,.z] []),.m 6 22] [2,3,6] (.r [.o 23 (.bslice 3 1 0 [.z] []),.m 7 23] [2,3,6,7] (.seq (.r [.fa 24 0 3,.l 25 24,.ll 26 25,.mk' 27 0] [2,6,7,25,26,27] (.block 0 (.loop [2,6,7,25,26,27] Zd5))) Zd6))))⟩
noncomputable def Z1 (a:Zc) (a1:Plan):Rs:=C 34 [.agg (a.c.map .t),.agg (a1.c.map .t)] []
noncomputable def Z2 (q:Zc) (info:List Za) (stack:List Int) (x:List Zb) (x1:Int) (x2:Int):Rs:=EvL C [.blk 0,.seq Zd6,.fin 0 [.tmp 4,.tmp 5]] [2,6,7,25,26,27] Zd5 ⟨[(2,.ptr 0 0),(6,.own 1),(7,.own 2),(25,L 3 (x.map Zb.c)),(26,I x1),(27,I x2)],[[]],[.box (q.c.map .t),.arr 73 4 true (info.map Za.c),.arr 3 1 true (stack.map ic)]⟩
def Zf4:MCode:=.reg [.bk 22 .add 10 1,.m 10 22] [3,8,9,10]
def Zd7:MCode:=.r [.b 11 .lss 10 9] [3,8,9,10,11] (.seq (.cond (.s 11) .skip (.exit 0)) (.seq (.block 1 (.r [.m 12 10,.ia 13 3 8 10,.ln 14 3 13,.o 5 (.alloc [.t .z,.t .z,.t .z]),.m 4 12,.st 3 5 14] [3,4,5,8,9,10] (.r [.fa 15 0 5,.l 16 15,.bk 17 .geq 16 3] [3,4,8,9,10,17] (.cond (.s 17) (.reg [.m 18 3,.m 19 4,.o 20 (.bslice 3 1 1 [.z] [(0,.s 19)]),.o 21 (.append 3 1 8 true (.s 18) (.s 20)),.m 3 21] [3,8,9,10]) .skip)))) Zf4))
def Zd8:MCode:=.r [.m 23 3,.m 2 23] [2] .ret
def Zf5:MFun:=⟨1,24,[.tmp 2],.r [.bx 1 0,.o 2 (.mov (.c (.t .nil)))] [1] (.r [.o 6 (.bslice 3 1 0 [.z] []),.m 3 6] [1,3] (.seq (.r [.fa 7 0 1,.l 8 7,.ll 9 8,.mk' 10 0] [3,8,9,10] (.block 0 (.loop [3,8,9,10] Zd7))) Zd8))⟩
noncomputable def Zcd (a:Plan):Rs:=C 35 [.agg (a.c.map .t)] []
noncomputable def Zba (out:List Int) (x:List Zb) (x1:Int) (x2:Int):Rs:=EvL C [.blk 0,.seq Zd8,.fin 0 [.tmp 2]] [3,8,9,10] Zd7 ⟨[(3,.own 0),(8,L 3 (x.map Zb.c)),(9,I x1),(10,I x2)],[[]],[.arr 3 1 true (out.map ic)]⟩
def Zd9:MCode:=.we [.m 5 0,.m 6 1,.ia 7 4 5 6,.fa 8 2 7,.l 9 8,.bk 10 .geq 9 0] [0,1,10] 10 0 (.block 1 (.reg [.m 11 0,.m 12 1,.ia 13 4 11 12,.fa 14 2 13,.l 15 14,.m 1 15] [0,1]))
def Zea:MCode:=.r [.m 16 1,.m 4 16] [4] .ret
def Zf6:MFun:=⟨2,17,[.tmp 4],.r [.mk' 4 0] [0,1] (.seq (.block 0 (.loop [0,1] Zd9)) Zea)⟩
noncomputable def Zce (a:List Za) (a1:Int):Rs:=C 69 [L 4 (a.map Za.c),I a1] []
noncomputable def Zbq (info:List Za) (step:Int):Rs:=EvL C [.blk 0,.seq Zea,.fin 0 [.tmp 4]] [0,1] Zd9 ⟨[(0,L 4 (info.map Za.c)),(1,I step)],[[]],[]⟩
def Zf7:MFun:=⟨1,8,[.cell 2 (some 1)],.r [.bx 1 0,.o 2 (.alloc [.t .nil])] [1,2] (.r [.o 3 (.bslice 111 3 0 [.z,.z,.z] []),.fa 4 0 1,.l 5 4,.o 6 (.append 111 3 24 false (.s 3) (.s 5)),.o 7 (.build [.t .nil] [(0,1,.s 6)]),.st 1 2 7] [2] .ret)⟩
noncomputable def Zc6 (a:Plan):Rs:=C 68 [.agg (a.c.map .t)] []
def Zf8:MFun:=⟨3,37,[.cell 6 (some 1),.tmp 7],.r [.bx 3 0,.bx 4 1,.o 6 (.alloc [.t .nil]),.o 7 (.mov (.q false))] [2,3,4,6] (.r [.ln 11 2 3,.ln 12 1 4,.cl 13 34 [11,12],.m 10 13,.o 14 (.ext (.s 10) 0),.o 15 (.ext (.s 10) 1),.m 8 14,.m 9 15] [2,4,6,8,9] (.wc [.m 16 9,.o 17 (.un .not (.s 16)),.m 18 17,.h 19 18 (.mov (.s 2)),.h 20 18 (.mov (.s 8)),.h 21 18 (.ll 20),.h 22 18 (.bk .sub 21 1),.h 23 18 (.call 46 [.s 19,.c (.t .z),.s 22]),.h 24 18 (.un .not (.s 23)),.o 25 (.pick (.s 18) (.q true) (.s 24))] [2,4,6,8,25] 25 (.r [.o 26 (.build [.t .nil] []),.st 1 6 26,.o 7 (.mov (.q false))] [6,7] .ret) (.seq (.drw [.fa 27 0 4,.l 28 27,.m 29 8,.m 30 2,.cl 31 69 [29,30],.m 32 2,.bk 33 .add 32 1,.o 34 (.slice (some 3) (.s 28) (some (.s 31)) (some (.s 33))),.o 35 (.build [.t .nil] [(0,1,.s 34)]),.cl 36 68 [35],.st 1 6 36,.o 7 (.mov (.q true))] [[],[0],[],[],[2,3],[],[5],[1,4,6],[7],[8,4],[9,9,0,1,2,3,4,5,6,7,8,9],[10,0,1,2,3,4,5,6,7,8,9,10]] [6,7]) .ret)))⟩
noncomputable def Zb3 (a:Zc) (a1:Plan) (a2:Int):Rs:=C 36 [.agg (a.c.map .t),.agg (a1.c.map .t),I a2] []
def Zeb:MCode:=.r [.b 25 .lss 24 23] [2,3,4,6,8,22,23,24,25] (.seq (.cond (.s 25) .skip (.exit 0)) (.seq (.block 1 (.r [.ia 26 1 22 24,.l 27 26,.m 11 27] [2,3,4,6,8,11,22,23,24] (.r [.m 28 8,.m 29 11,.ia 30 4 28 29,.fa 31 0 30,.l 32 31,.m 33 2,.b 34 .eql 32 33] [2,3,4,6,8,11,22,23,24,34] (.cond (.s 34) (.r [.ln 35 2 3,.ln 36 1 4,.m 37 11,.cl 38 36 [35,36,37],.o 39 (.ext (.s 38) 0),.o 40 (.ext (.s 38) 1),.st 1 6 39,.m 7 40] [6,7] .ret) .skip)))) (.reg [.bk 41 .add 24 1,.m 24 41] [2,3,4,6,8,22,23,24])))
def Zec:MCode:=.r [.o 42 (.build [.t .nil] []),.st 1 6 42,.o 7 (.mov (.q false))] [6,7] .ret
def Zf9:MFun:=⟨3,43,[.cell 6 (some 1),.tmp 7],.r [.bx 3 0,.bx 4 1,.o 6 (.alloc [.t .nil]),.o 7 (.mov (.q false))] [2,3,4,6] (.r [.ln 13 2 3,.ln 14 1 4,.cl 15 34 [13,14],.m 12 15,.o 16 (.ext (.s 12) 0),.o 17 (.ext (.s 12) 1),.m 8 16,.m 9 17] [2,3,4,6,8,9] (.wc [.m 18 9,.o 19 (.un .not (.s 18))] [2,3,4,6,8,19] 19 (.r [.o 20 (.build [.t .nil] []),.st 1 6 20,.o 7 (.mov (.q false))] [6,7] .ret) (.seq (.r [.ln 21 1 4,.cl 22 35 [21],.ll 23 22,.mk' 24 0] [2,3,4,6,8,22,23,24] (.block 0 (.loop [2,3,4,6,8,22,23,24] Zeb))) Zec)))⟩
noncomputable def Zc7 (a:Zc) (a1:Plan) (a2:Int):Rs:=C 10 [.agg (a.c.map .t),.agg (a1.c.map .t),I a2] []
noncomputable def Zbr (q:Zc) (p:Plan) (info:List Za) (x:List Int) (mask:Int) (x1:Int) (x2:Int):Rs:=EvL C [.blk 0,.seq Zec,.fin 0 [.cell 6 (some 1),.tmp 7]] [2,3,4,6,8,22,23,24] Zeb ⟨[(2,I mask),(3,.ptr 0 0),(4,.ptr 1 0),(6,.ptr 2 0),(8,.own 3),(22,.own 4),(23,I x1),(24,I x2)],[[]],[.box (q.c.map .t),.box (p.c.map .t),.box [.t .nil],.arr 73 4 true (info.map Za.c),.arr 3 1 true (x.map ic)]⟩
def Zga:MFun:=⟨3,15,[.tmp 6],.r [.o 6 (.mov (.q false))] [0,1,2] (.r [.m 7 0,.m 8 1,.b 9 .geq 7 8,.m 10 9,.g 11 10 (.mov (.s 0)),.g 12 10 (.mov (.s 2)),.g 13 10 (.b .leq 11 12),.o 14 (.pick (.s 10) (.s 13) (.q false)),.m 6 14] [6] .ret)⟩
noncomputable def Zl (a:Int) (a1:Int) (a2:Int):Rs:=C 52 [I a,I a1,I a2] []
def Zgb:MFun:=⟨1,16,[.tmp 2],.r [.o 2 (.mov (.q false))] [0] (.r [.m 3 0,.o 4 (.len true (.s 3)),.bk 5 .eql 4 1,.m 6 5,.g 7 6 (.mov (.s 0)),.g 8 6 (.index (.s 7) (.k 0)),.g 9 6 (.bin .geq (.s 8) (.c (.t (.int .u8 97)))),.o 10 (.pick (.s 6) (.s 9) (.q false)),.m 11 10,.g 12 11 (.mov (.s 0)),.g 13 11 (.index (.s 12) (.k 0)),.g 14 11 (.bin .leq (.s 13) (.c (.t (.int .u8 122)))),.o 15 (.pick (.s 11) (.s 14) (.q false)),.m 2 15] [2] .ret)⟩
noncomputable def Zcf (a:ByteArray):Rs:=C 91 [.t (.str a)] []
def Zed:MCode:=.we [.m 6 5,.m 7 0,.ll 8 7,.b 9 .lss 6 8] [0,1,5,9] 9 0 (.seq (.block 1 (.r [.m 12 0,.m 13 5,.ia 14 1 12 13,.l 15 14,.m 16 1,.b 17 .eql 15 16] [0,1,5,17] (.cond (.s 17) (.r [.o 4 (.mov (.q true))] [4] .ret) .skip))) (.reg [.m 10 5,.bk 11 .add 10 1,.m 5 11] [0,1,5]))
def Zee:MCode:=.r [.o 4 (.mov (.q false))] [4] .ret
def Zgc:MFun:=⟨2,18,[.tmp 4],.r [.o 4 (.mov (.q false))] [0,1] (.seq (.r [.mk' 5 0] [0,1,5] (.block 0 (.loop [0,1,5] Zed))) Zee)⟩
noncomputable def Zcg (a:List Int) (a1:Int):Rs:=C 92 [L 1 (a.map ic),I a1] []
noncomputable def Zbs (l:List Int) (x:Int) (i:Int):Rs:=EvL C [.blk 0,.seq Zee,.fin 0 [.tmp 4]] [0,1,5] Zed ⟨[(0,L 1 (l.map ic)),(1,I x),(5,I i)],[[]],[]⟩
def Zef:MCode:=.we [.m 41 6,.fa 42 1 5,.l 43 42,.ll 44 43,.b 45 .lss 41 44] [1,3,4,5,6,45] 45 2 (.seq (.block 3 (.seq (.seq (.drw [.fa 48 1 5,.l 49 48,.m 50 6,.ia 51 1 49 50,.l 52 51,.fa 53 0 1,.l 54 53,.bk 55 .sub 54 1,.o 56 (.call 52 [.s 52,.c (.t .z),.s 55]),.o 57 (.un .not (.s 56)),.m 58 57,.h 59 58 (.fa 1 5),.h 60 58 (.l 59),.h 61 58 (.mov (.s 6)),.h 62 58 (.slice (some 1) (.s 60) none (some (.s 61))),.h 63 58 (.fa 1 5),.h 64 58 (.l 63),.h 65 58 (.mov (.s 6)),.h 66 58 (.ia 1 64 65),.h 67 58 (.l 66),.h 68 58 (.cl 92 [62,67]),.o 69 (.pick (.s 58) (.q true) (.s 68))] [[],[0],[],[1,2],[3],[],[5],[6],[4,7],[8],[9,8],[10],[11,10],[10],[12,13,10],[10],[15,10],[10],[16,17,10],[18,10],[14,19,10,10],[10,20]] [1,3,4,5,6,69]) (.cond (.s 69) (.r [.o 2 (.mov (.q false))] [2] .ret) .skip)) (.reg [.m 70 3,.fa 71 1 5,.l 72 71,.m 73 6,.ia 74 1 72 73,.l 75 74,.o 76 (.bin .shl (.k 1) (.s 75)),.b 77 .or 70 76,.m 3 77] [1,3,4,5,6]))) (.reg [.m 46 6,.bk 47 .add 46 1,.m 6 47] [1,3,4,5,6]))
def Zeg:MCode:=.reg [.m 23 4,.bk 24 .add 23 1,.m 4 24] [1,3,4]
def Zc8:MCode:=.we [.m 18 4,.fa 19 1 1,.l 20 19,.ll 21 20,.b 22 .lss 18 21] [1,3,4,22] 22 0 (.seq (.block 1 (.r [.fa 25 1 1,.l 26 25,.m 27 4,.ia 28 2 26 27,.ln 29 2 28,.o 5 (.alloc [.t (.str ⟨#[]⟩),.t .nil]),.st 2 5 29] [1,3,4,5] (.wc [.fa 30 0 5,.l 31 30,.cl 32 91 [31],.o 33 (.un .not (.s 32)),.m 34 33,.h 35 34 (.fa 1 5),.h 36 34 (.l 35),.h 37 34 (.ll 36),.h 38 34 (.call 52 [.s 37,.c (.t (.int .i64 1)),.c (.t (.int .i64 3))]),.h 39 34 (.un .not (.s 38)),.o 40 (.pick (.s 34) (.q true) (.s 39))] [1,3,4,5,40] 40 (.r [.o 2 (.mov (.q false))] [2] .ret) (.r [.mk' 6 0] [1,3,4,5,6] (.block 2 (.loop [1,3,4,5,6] Zef)))))) Zeg)
def Zc9:MCode:=.r [.m 78 3,.fa 79 0 1,.l 80 79,.o 81 (.bin .shl (.k 1) (.s 80)),.bk 82 .sub 81 1,.b 83 .eql 78 82,.m 2 83] [2] .ret
def Zgd:MFun:=⟨1,84,[.tmp 2],.r [.bx 1 0,.o 2 (.mov (.q false))] [1] (.wc [.fa 7 0 1,.l 8 7,.o 9 (.call 52 [.s 8,.c (.t (.int .i64 1)),.c (.t (.int .i64 4))]),.o 10 (.un .not (.s 9)),.m 11 10,.h 12 11 (.fa 1 1),.h 13 11 (.l 12),.h 14 11 (.ll 13),.h 15 11 (.call 52 [.s 14,.c (.t (.int .i64 1)),.c (.t (.int .i64 4))]),.h 16 11 (.un .not (.s 15)),.o 17 (.pick (.s 11) (.q true) (.s 16))] [1,17] 17 (.r [.o 2 (.mov (.q false))] [2] .ret) (.r [.mk' 3 0] [1,3] (.seq (.r [.mk' 4 0] [1,3,4] (.block 0 (.loop [1,3,4] Zc8))) Zc9)))⟩
noncomputable def Zch (a:Zc):Rs:=C 61 [.agg (a.c.map .t)] []
noncomputable def Zbb (q:Zc) (seen:Int) (i:Int):Rs:=EvL C [.blk 0,.seq Zc9,.fin 0 [.tmp 2]] [1,3,4] Zc8 ⟨[(1,.ptr 0 0),(3,I seen),(4,I i)],[[]],[.box (q.c.map .t)]⟩
noncomputable def Zbt (q:Zc) (a:Atom) (seen:Int) (i:Int) (k:Int):Rs:=EvL C [.blk 2,.blk 1,.seq Zeg,.loop [1,3,4] Zc8,.blk 0,.seq Zc9,.fin 0 [.tmp 2]] [1,3,4,5,6] Zef ⟨[(1,.ptr 0 0),(3,I seen),(4,I i),(5,.ptr 1 0),(6,I k)],[[]],[.box (q.c.map .t),.box (a.c.map .t)]⟩
def Zeh:MCode:=.we [.m 15 7,.fa 16 1 2,.l 17 16,.m 18 6,.ia 19 2 17 18,.fa 20 1 19,.l 21 20,.ll 22 21,.b 23 .lss 15 22,.m 24 23,.g 25 24 (.mov (.s 1)),.g 26 24 (.mov (.s 6)),.g 27 24 (.b .shr 25 26),.g 28 24 (.bk .and 27 1),.g 29 24 (.bk .eql 28 1),.o 30 (.pick (.s 24) (.s 29) (.q false))] [1,2,5,6,7,30] 30 2 (.seq (.block 3 (.reg [.m 33 5,.fa 34 1 2,.l 35 34,.m 36 6,.ia 37 2 35 36,.fa 38 1 37,.l 39 38,.m 40 7,.ia 41 1 39 40,.l 42 41,.o 43 (.bin .shl (.k 1) (.s 42)),.b 44 .or 33 43,.m 5 44] [1,2,5,6,7])) (.reg [.m 31 7,.bk 32 .add 31 1,.m 7 32] [1,2,5,6,7]))
def Zei:MCode:=.reg [.m 13 6,.bk 14 .add 13 1,.m 6 14] [1,2,5,6]
def Zda:MCode:=.we [.m 8 6,.fa 9 1 2,.l 10 9,.ll 11 10,.b 12 .lss 8 11] [1,2,5,6,12] 12 0 (.seq (.block 1 (.r [.mk' 7 0] [1,2,5,6,7] (.block 2 (.loop [1,2,5,6,7] Zeh)))) Zei)
def Zdb:MCode:=.r [.m 45 5,.m 4 45] [4] .ret
def Zge:MFun:=⟨2,46,[.tmp 4],.r [.bx 2 0,.mk' 4 0] [1,2] (.r [.mk' 5 0] [1,2,5] (.seq (.r [.mk' 6 0] [1,2,5,6] (.block 0 (.loop [1,2,5,6] Zda))) Zdb))⟩
noncomputable def Zw (a:Zc) (a1:Int):Rs:=C 94 [.agg (a.c.map .t),I a1] []
noncomputable def Z3 (q:Zc) (mask:Int) (x:Int) (i:Int):Rs:=EvL C [.blk 0,.seq Zdb,.fin 0 [.tmp 4]] [1,2,5,6] Zda ⟨[(1,I mask),(2,.ptr 0 0),(5,I x),(6,I i)],[[]],[.box (q.c.map .t)]⟩
noncomputable def Zbc (q:Zc) (mask:Int) (x:Int) (i:Int) (k:Int):Rs:=EvL C [.blk 2,.blk 1,.seq Zei,.loop [1,2,5,6] Zda,.blk 0,.seq Zdb,.fin 0 [.tmp 4]] [1,2,5,6,7] Zeh ⟨[(1,I mask),(2,.ptr 0 0),(5,I x),(6,I i),(7,I k)],[[]],[.box (q.c.map .t)]⟩
def Zgf:MFun:=⟨2,14,[.tmp 4],.r [.o 4 (.mov (.q false))] [0,1] (.r [.m 5 1,.o 6 (.call 52 [.s 5,.c (.t .z),.c (.t (.int .i64 3))]),.m 7 6,.g 8 7 (.mov (.s 0)),.g 9 7 (.mov (.s 1)),.g 10 7 (.b .shr 8 9),.g 11 7 (.bk .and 10 1),.g 12 7 (.bk .eql 11 1),.o 13 (.pick (.s 7) (.s 12) (.q false)),.m 4 13] [4] .ret)⟩
noncomputable def Z4 (a:Int) (a1:Int):Rs:=C 93 [I a,I a1] []
def Zej:MCode:=.r [.ln 212 4 14,.st 4 8 212,.mk' 9 2] [8,9] .ret
def Zci:MCode:=.wc [.fa 186 0 5,.l 187 186,.bk 188 .eql 187 4] [5,8,11,12,13,14,188] 188 (.wc [.m 189 13,.fa 190 2 5,.l 191 190,.cl 192 93 [189,191],.o 193 (.un .not (.s 192)),.m 194 193,.h 195 194 (.fa 1 11),.h 196 194 (.l 195),.h 197 194 (.fa 2 5),.h 198 194 (.l 197),.h 199 194 (.b .neq 196 198),.o 200 (.pick (.s 194) (.q true) (.s 199)),.m 201 200,.h 202 201 (.fa 1 12),.h 203 201 (.l 202),.h 204 201 (.fa 2 5),.h 205 201 (.l 204),.h 206 201 (.b .neq 203 205),.o 207 (.pick (.s 201) (.q true) (.s 206))] [5,8,14,207] 207 (.r [.o 208 (.build [.t .z,.t .z,.t .z,.t .z] []),.st 4 8 208,.mk' 9 (-1)] [8,9] .ret) (.reg [.fa 209 2 5,.l 210 209,.fa 211 1 14,.st 1 211 210] [8,14])) Zej
def Zdc:MCode:=.cond (.s 106) (.wc [.fa 110 1 5,.l 111 110,.bk 112 .neq 111 0,.m 113 112,.h 114 113 (.mov (.s 10)),.h 115 113 (.bk .lss 114 2),.o 116 (.pick (.s 113) (.q true) (.s 115))] [2,3,4,5,8,10,116] 116 (.r [.o 117 (.build [.t .z,.t .z,.t .z,.t .z] []),.st 4 8 117,.mk' 9 (-1)] [8,9] .ret) (.r [.m 118 2,.m 119 3,.m 120 10,.bk 121 .sub 120 2,.ia 122 1 119 121,.l 123 122,.ia 124 4 118 123,.ln 125 4 124,.o 11 (.alloc [.t .z,.t .z,.t .z,.t .z]),.st 4 11 125] [2,3,4,5,8,10,11] (.r [.m 126 2,.m 127 3,.m 128 10,.bk 129 .sub 128 1,.ia 130 1 127 129,.l 131 130,.ia 132 4 126 131,.ln 133 4 132,.o 12 (.alloc [.t .z,.t .z,.t .z,.t .z]),.st 4 12 133] [3,4,5,8,10,11,12] (.seq (.drw [.ln 134 2 4,.fa 135 0 11,.l 136 135,.cl 137 94 [134,136],.ln 138 2 4,.fa 139 0 12,.l 140 139,.cl 141 94 [138,140],.b 142 .and 137 141,.m 13 142] [[],[],[1],[0,2],[],[],[5],[4,6,3],[3,7],[8,7,0,1,2,3,4,5,6,7,8]] [3,5,8,10,11,12,13]) (.wc [.fa 143 0 11,.l 144 143,.fa 145 0 12,.l 146 145,.b 147 .and 144 146,.bk 148 .neq 147 0,.m 149 148,.h 150 149 (.mov (.s 13)),.h 151 149 (.bk .eql 150 0),.o 152 (.pick (.s 149) (.q true) (.s 151)),.m 153 152,.h 154 153 (.fa 0 5),.h 155 153 (.l 154),.h 156 153 (.bk .neq 155 4),.h 157 153 (.mov (.s 156)),.g 158 157 (.fa 2 5),.g 159 157 (.l 158),.g 160 157 (.bk .neq 159 0),.h 161 153 (.pick (.s 157) (.s 160) (.q false)),.o 162 (.pick (.s 153) (.q true) (.s 161))] [3,5,8,10,11,12,13,162] 162 (.r [.o 163 (.build [.t .z,.t .z,.t .z,.t .z] []),.st 4 8 163,.mk' 9 (-1)] [8,9] .ret) (.seq (.drw [.fa 164 0 11,.l 165 164,.fa 166 0 12,.l 167 166,.b 168 .or 165 167,.m 169 3,.m 170 10,.bk 171 .sub 170 2,.ia 172 1 169 171,.l 173 172,.m 174 3,.m 175 10,.bk 176 .sub 175 1,.ia 177 1 174 176,.l 178 177,.o 179 (.build [.t .z,.t .z,.t .z,.t .z] [(0,1,.s 168),(1,1,.c (.t (.int .i64 (-1)))),(2,1,.s 173),(3,1,.s 178)]),.o 14 (.alloc [.t .z,.t .z,.t .z,.t .z]),.st 4 14 179] [[],[0],[],[2],[1,3],[],[],[6],[5,7],[8],[],[],[11],[10,12],[13],[4,9,14],[],[16,15,0,1,2,3,4,5,6,7,8,9,10,11,12,13,14,15,16]] [5,8,11,12,13,14]) (.wc [.fa 180 0 5,.l 181 180,.bk 182 .eql 181 5] [5,8,11,12,13,14,182] 182 (.reg [.fa 183 1 11,.l 184 183,.fa 185 1 14,.st 1 185 184] [5,8,11,12,13,14]) Zci))))))) .skip
def Zgg:MFun:=⟨4,214,[.cell 8 (some 4),.tmp 9],.r [.bx 4 0,.bx 5 1,.o 8 (.alloc [.t .z,.t .z,.t .z,.t .z]),.mk' 9 0] [2,3,4,5,8] (.r [.m 15 3,.ll 16 15,.m 10 16] [2,3,4,5,8,10] (.seq (.r [.fa 17 0 5,.l 18 17] [2,3,4,5,8,10,18] (.block 0 (.r [.bk 20 .eql 18 1,.m 19 20] [2,3,4,5,8,10,18,19] (.cond (.s 19) (.wc [.fa 21 1 5,.l 22 21,.fa 23 1 4,.l 24 23,.ll 25 24,.bk 26 .sub 25 1,.o 27 (.call 52 [.s 22,.c (.t .z),.s 26]),.o 28 (.un .not (.s 27)),.m 29 28,.h 30 29 (.fa 2 5),.h 31 29 (.l 30),.h 32 29 (.bk .neq 31 0),.o 33 (.pick (.s 29) (.q true) (.s 32))] [4,5,8,33] 33 (.r [.o 34 (.build [.t .z,.t .z,.t .z,.t .z] []),.st 4 8 34,.mk' 9 (-1)] [8,9] .ret) (.seq (.drw [.fa 35 1 5,.l 36 35,.o 37 (.bin .shl (.k 1) (.s 36)),.fa 38 1 4,.l 39 38,.fa 40 1 5,.l 41 40,.ia 42 2 39 41,.fa 43 1 42,.l 44 43,.o 45 (.iaddr 1 (.s 44) (.k 0)),.l 46 45,.o 47 (.build [.t .z,.t .z,.t .z,.t .z] [(0,1,.s 37),(1,1,.s 46),(2,1,.c (.t (.int .i64 (-1)))),(3,1,.c (.t (.int .i64 (-1))))]),.st 4 8 47,.mk' 9 0] [[],[0],[1],[],[3],[],[5],[4,6],[7],[8],[9],[10],[2,11],[12,0,1,2,3,4,5,6,7,8,9,10,11,12],[13,0,1,2,3,4,5,6,7,8,9,10,11,12,13]] [8,9]) .ret)) (.r [.bk 49 .eql 18 2,.m 48 49] [2,3,4,5,8,10,18,48] (.cond (.s 48) (.seq (.seq (.drw [.fa 50 1 5,.l 51 50,.bk 52 .neq 51 0,.m 53 52,.h 54 53 (.mov (.s 10)),.h 55 53 (.bk .lss 54 1),.o 56 (.pick (.s 53) (.q true) (.s 55)),.m 57 56,.h 58 57 (.mov (.s 2)),.h 59 57 (.mov (.s 3)),.h 60 57 (.mov (.s 10)),.h 61 57 (.bk .sub 60 1),.h 62 57 (.ia 1 59 61),.h 63 57 (.l 62),.h 64 57 (.ia 4 58 63),.h 65 57 (.fa 1 64),.h 66 57 (.l 65),.h 67 57 (.fa 2 5),.h 68 57 (.l 67),.h 69 57 (.b .eql 66 68),.o 70 (.pick (.s 57) (.q true) (.s 69)),.m 71 70,.h 72 71 (.ln 2 4),.h 73 71 (.mov (.s 2)),.h 74 71 (.mov (.s 3)),.h 75 71 (.mov (.s 10)),.h 76 71 (.bk .sub 75 1),.h 77 71 (.ia 1 74 76),.h 78 71 (.l 77),.h 79 71 (.ia 4 73 78),.h 80 71 (.fa 0 79),.h 81 71 (.l 80),.h 82 71 (.cl 94 [72,81]),.h 83 71 (.fa 2 5),.h 84 71 (.l 83),.h 85 71 (.cl 93 [82,84]),.h 86 71 (.un .not (.s 85)),.o 87 (.pick (.s 71) (.q true) (.s 86))] [[],[0],[1],[2],[3],[4,3],[3,5],[6,3],[7],[7],[7],[10,7],[9,11,7],[12,7],[8,13,7],[14,7],[15,7],[7],[17,7],[16,18,7],[7,19],[20,7],[21],[21],[21],[21],[25,21],[24,26,21],[27,21],[23,28,21],[29,21],[30,21],[22,31,21,21],[21],[33,21],[32,34,32,21],[35,21],[21,36]] [2,3,5,8,10,87]) (.cond (.s 87) (.r [.o 88 (.build [.t .z,.t .z,.t .z,.t .z] []),.st 4 8 88,.mk' 9 (-1)] [8,9] .ret) .skip)) (.seq (.drw [.m 89 2,.m 90 3,.m 91 10,.bk 92 .sub 91 1,.ia 93 1 90 92,.l 94 93,.ia 95 4 89 94,.fa 96 0 95,.l 97 96,.fa 98 2 5,.l 99 98,.m 100 3,.m 101 10,.bk 102 .sub 101 1,.ia 103 1 100 102,.l 104 103,.o 105 (.build [.t .z,.t .z,.t .z,.t .z] [(0,1,.s 97),(1,1,.s 99),(2,1,.s 104),(3,1,.c (.t (.int .i64 (-1))))]),.st 4 8 105,.mk' 9 1] [[],[],[],[2],[1,3],[4],[0,5],[6],[7],[],[9],[],[],[12],[11,13],[14],[8,10,15],[16,0,1,2,3,4,5,6,7,8,9,10,11,12,13,14,15,16],[17,0,1,2,3,4,5,6,7,8,9,10,11,12,13,14,15,16,17]] [8,9]) .ret)) (.seq (.r [.bk 107 .eql 18 3,.m 106 107] [2,3,4,5,8,10,18,106] (.cond (.s 106) .skip (.r [.bk 108 .eql 18 4,.m 106 108] [2,3,4,5,8,10,18,106] (.cond (.s 106) .skip (.reg [.bk 109 .eql 18 5,.m 106 109] [2,3,4,5,8,10,106]))))) Zdc))))))) (.r [.o 213 (.build [.t .z,.t .z,.t .z,.t .z] []),.st 4 8 213,.mk' 9 (-1)] [8,9] .ret)))⟩
noncomputable def Zbd (a:Zc) (a1:Zb) (a2:List Za) (a3:List Int):Rs:=C 62 [.agg (a.c.map .t),.agg (a1.c.map .t),L 4 (a2.map Za.c),L 1 (a3.map ic)] []
noncomputable def Zbu (q:Zc) (x:Zb) (x1:Za) (info:List Za) (stack:List Int) (n:Int) (x2:Int) (x3:Bool):Rs:=Ev C [.blk 0,.seq (.seq (.reg [.o 213 (.build [.t (.int .i64 0),.t (.int .i64 0),.t (.int .i64 0),.t (.int .i64 0)] []),.n (.store 4 (.s 8) (.s 213)),.o 9 (.mov (.k (-1)))] [8,9]) (.ret)),.fin 0 [.cell 8 (some 4),.tmp 9]] Zdc ⟨[(2,L 4 (info.map Za.c)),(3,L 1 (stack.map ic)),(4,.ptr 0 0),(5,.ptr 1 0),(8,.ptr 2 0),(10,I n),(18,I x2),(106,Bo x3)],[[]],[.box (q.c.map .t),.box (x.c.map .t),.box (x1.c.map .t)]⟩
noncomputable def Zbv (x:Zc) (x1:Zb) (x2:Za) (a:Za) (b:Za) (y:Za) (v:Int):Rs:=Ev C [.blk 0,.seq (.seq (.reg [.o 213 (.build [.t (.int .i64 0),.t (.int .i64 0),.t (.int .i64 0),.t (.int .i64 0)] []),.n (.store 4 (.s 8) (.s 213)),.o 9 (.mov (.k (-1)))] [8,9]) (.ret)),.fin 0 [.cell 8 (some 4),.tmp 9]] Zci ⟨[(5,.ptr 1 0),(8,.ptr 2 0),(11,.ptr 3 0),(12,.ptr 4 0),(13,I v),(14,.ptr 5 0)],[[]],[.box (x.c.map .t),.box (x1.c.map .t),.box (x2.c.map .t),.box (a.c.map .t),.box (b.c.map .t),.box (y.c.map .t)]⟩
noncomputable def Zbe (x:Zc) (x1:Zb) (x2:Za) (a:Za) (b:Za) (y:Za) (v:Int) (x3:Bool):Rs:=Ev C [.blk 0,.seq (.seq (.reg [.o 213 (.build [.t (.int .i64 0),.t (.int .i64 0),.t (.int .i64 0),.t (.int .i64 0)] []),.n (.store 4 (.s 8) (.s 213)),.o 9 (.mov (.k (-1)))] [8,9]) (.ret)),.fin 0 [.cell 8 (some 4),.tmp 9]] Zci ⟨[(5,.ptr 1 0),(8,.ptr 2 0),(11,.ptr 3 0),(12,.ptr 4 0),(13,I v),(14,.ptr 5 0),(182,Bo x3)],[[]],[.box (x.c.map .t),.box (x1.c.map .t),.box (x2.c.map .t),.box (a.c.map .t),.box (b.c.map .t),.box (y.c.map .t)]⟩
def Zek:MCode:=.we [.m 24 8,.fa 25 0 3,.l 26 25,.ll 27 26,.b 28 .lss 24 27] [2,3,6,7,8,28] 28 0 (.seq (.block 1 (.seq (.drw [.ln 32 2 2,.fa 33 0 3,.l 34 33,.m 35 8,.ia 36 3 34 35,.ln 37 3 36,.m 38 6,.m 39 7,.cl 40 62 [32,37,38,39],.m 31 40,.o 41 (.ext (.s 31) 0),.o 42 (.ext (.s 31) 1),.o 9 (.alloc [.t .z,.t .z,.t .z,.t .z]),.st 4 9 41,.m 10 42] [[],[],[1],[],[2,3],[4],[],[],[0,5,6,7],[8],[9],[9],[],[12,10,8,0,1,2,3,4,5,6,7,8,9,10,12],[11,13,0,1,2,3,4,5,6,7,8,9,10,11,12,13]] [2,3,6,7,8,9,10]) (.wc [.m 43 10,.bk 44 .lss 43 0] [2,3,6,7,8,9,10,44] 44 (.r [.o 45 (.bslice 73 4 0 [.z,.z,.z,.z] []),.m 4 45,.o 5 (.mov (.q false))] [4,5] .ret) (.r [.m 46 6,.ln 47 4 9,.o 48 (.bslice 73 4 1 [.z,.z,.z,.z] [(0,.s 47)]),.o 49 (.append 73 4 32 true (.s 46) (.s 48)),.m 6 49] [2,3,6,7,8,10] (.reg [.o 50 (.bslice 3 1 0 [.z] []),.m 51 7,.m 52 7,.ll 53 52,.m 54 10,.b 55 .sub 53 54,.o 56 (.slice (some 1) (.s 51) none (some (.s 55))),.o 57 (.append 3 1 8 false (.s 50) (.s 56)),.m 58 8,.o 59 (.bslice 3 1 1 [.z] [(0,.s 58)]),.o 60 (.append 3 1 8 true (.s 57) (.s 59)),.m 7 60] [2,3,6,7,8]))))) (.reg [.m 29 8,.bk 30 .add 29 1,.m 8 30] [2,3,6,7,8]))
def Zel:MCode:=.wc [.m 61 7,.ll 62 61,.bk 63 .neq 62 1] [6,63] 63 (.r [.o 64 (.bslice 73 4 0 [.z,.z,.z,.z] []),.m 4 64,.o 5 (.mov (.q false))] [4,5] .ret) (.r [.m 65 6,.m 4 65,.o 5 (.mov (.q true))] [4,5] .ret)
def Zgh:MFun:=⟨2,66,[.tmp 4,.tmp 5],.r [.bx 2 0,.bx 3 1,.o 4 (.mov (.c (.t .nil))),.o 5 (.mov (.q false))] [2,3] (.r [.o 11 (.bslice 73 4 0 [.z,.z,.z,.z] []),.m 6 11] [2,3,6] (.r [.o 12 (.bslice 3 1 0 [.z] []),.m 7 12] [2,3,6,7] (.wc [.ln 13 2 2,.cl 14 61 [13],.o 15 (.un .not (.s 14)),.m 16 15,.h 17 16 (.fa 0 3),.h 18 16 (.l 17),.h 19 16 (.ll 18),.h 20 16 (.call 52 [.s 19,.c (.t (.int .i64 1)),.c (.t (.int .i64 14))]),.h 21 16 (.un .not (.s 20)),.o 22 (.pick (.s 16) (.q true) (.s 21))] [2,3,6,7,22] 22 (.r [.m 23 6,.m 4 23,.o 5 (.mov (.q false))] [4,5] .ret) (.seq (.r [.mk' 8 0] [2,3,6,7,8] (.block 0 (.loop [2,3,6,7,8] Zek))) Zel))))⟩
noncomputable def Zbw (a:Zc) (a1:Plan):Rs:=C 30 [.agg (a.c.map .t),.agg (a1.c.map .t)] []
noncomputable def Zbx (q:Zc) (p:Plan) (info:List Za) (stack:List Int) (i:Int):Rs:=EvL C [.blk 0,.seq Zel,.fin 0 [.tmp 4,.tmp 5]] [2,3,6,7,8] Zek ⟨[(2,.ptr 0 0),(3,.ptr 1 0),(6,.own 2),(7,.own 3),(8,I i)],[[]],[.box (q.c.map .t),.box (p.c.map .t),.arr 73 4 true (info.map Za.c),.arr 3 1 true (stack.map ic)]⟩
def Zem:MCode:=.we [.m 5 0,.m 6 1,.ia 7 4 5 6,.fa 8 2 7,.l 9 8,.bk 10 .geq 9 0] [0,1,10] 10 0 (.block 1 (.reg [.m 11 0,.m 12 1,.ia 13 4 11 12,.fa 14 2 13,.l 15 14,.m 1 15] [0,1]))
def Zen:MCode:=.r [.m 16 1,.m 4 16] [4] .ret
def Zgi:MFun:=⟨2,17,[.tmp 4],.r [.mk' 4 0] [0,1] (.seq (.block 0 (.loop [0,1] Zem)) Zen)⟩
noncomputable def Zcj (a:List Za) (a1:Int):Rs:=C 63 [L 4 (a.map Za.c),I a1] []
noncomputable def Zby (info:List Za) (i:Int):Rs:=EvL C [.blk 0,.seq Zen,.fin 0 [.tmp 4]] [0,1] Zem ⟨[(0,L 4 (info.map Za.c)),(1,I i)],[[]],[]⟩
def Zdd:MFun:=⟨3,38,[.cell 6 (some 1),.tmp 7],.r [.bx 3 0,.bx 4 1,.o 6 (.alloc [.t .nil]),.o 7 (.mov (.q false))] [2,3,4,6] (.r [.ln 11 2 3,.ln 12 1 4,.cl 13 30 [11,12],.m 10 13,.o 14 (.ext (.s 10) 0),.o 15 (.ext (.s 10) 1),.m 8 14,.m 9 15] [2,4,6,8,9] (.wc [.m 16 9,.o 17 (.un .not (.s 16)),.m 18 17,.h 19 18 (.mov (.s 2)),.h 20 18 (.mov (.s 8)),.h 21 18 (.ll 20),.h 22 18 (.bk .sub 21 1),.h 23 18 (.call 52 [.s 19,.c (.t .z),.s 22]),.h 24 18 (.un .not (.s 23)),.o 25 (.pick (.s 18) (.q true) (.s 24))] [2,4,6,8,25] 25 (.r [.o 26 (.build [.t .nil] []),.st 1 6 26,.o 7 (.mov (.q false))] [6,7] .ret) (.seq (.drw [.o 27 (.bslice 111 3 0 [.z,.z,.z] []),.fa 28 0 4,.l 29 28,.m 30 8,.m 31 2,.cl 32 63 [30,31],.m 33 2,.bk 34 .add 33 1,.o 35 (.slice (some 3) (.s 29) (some (.s 32)) (some (.s 34))),.o 36 (.append 111 3 24 false (.s 27) (.s 35)),.o 37 (.build [.t .nil] [(0,1,.s 36)]),.st 1 6 37,.o 7 (.mov (.q true))] [[],[],[1],[],[],[3,4],[],[6],[2,5,7],[0,8,5],[9],[10,9,0,1,2,3,4,5,6,7,8,9,10],[11,0,1,2,3,4,5,6,7,8,9,10,11]] [6,7]) .ret)))⟩
noncomputable def Zb4 (a:Zc) (a1:Plan) (a2:Int):Rs:=C 31 [.agg (a.c.map .t),.agg (a1.c.map .t),I a2] []
def Zeo:MCode:=.we [.m 19 10,.m 20 8,.ll 21 20,.b 22 .lss 19 21,.m 23 22,.g 24 23 (.mov (.s 9)),.o 25 (.pick (.s 23) (.s 24) (.q false))] [2,3,4,6,8,9,10,25] 25 0 (.seq (.block 1 (.r [.m 28 8,.m 29 10,.ia 30 4 28 29,.fa 31 3 30,.l 32 31,.bk 33 .geq 32 0,.m 34 33,.g 35 34 (.mov (.s 8)),.g 36 34 (.mov (.s 10)),.g 37 34 (.ia 4 35 36),.g 38 34 (.fa 0 37),.g 39 34 (.l 38),.g 40 34 (.mov (.s 2)),.g 41 34 (.b .eql 39 40),.o 42 (.pick (.s 34) (.s 41) (.q false))] [2,3,4,6,8,9,10,42] (.cond (.s 42) (.r [.ln 44 2 3,.ln 45 1 4,.m 46 10,.cl 47 31 [44,45,46],.m 43 47,.o 48 (.ext (.s 43) 0),.o 49 (.ext (.s 43) 1),.o 11 (.alloc [.t .nil]),.st 1 11 48,.m 12 49] [6,11,12] (.r [.ln 50 1 11,.m 51 12,.st 1 6 50,.m 7 51] [6,7] .ret)) .skip))) (.reg [.m 26 10,.bk 27 .add 26 1,.m 10 27] [2,3,4,6,8,9,10]))
def Zep:MCode:=.r [.o 52 (.build [.t .nil] []),.st 1 6 52,.o 7 (.mov (.q false))] [6,7] .ret
def Zgj:MFun:=⟨3,53,[.cell 6 (some 1),.tmp 7],.r [.bx 3 0,.bx 4 1,.o 6 (.alloc [.t .nil]),.o 7 (.mov (.q false))] [2,3,4,6] (.r [.ln 14 2 3,.ln 15 1 4,.cl 16 30 [14,15],.m 13 16,.o 17 (.ext (.s 13) 0),.o 18 (.ext (.s 13) 1),.m 8 17,.m 9 18] [2,3,4,6,8,9] (.seq (.r [.mk' 10 0] [2,3,4,6,8,9,10] (.block 0 (.loop [2,3,4,6,8,9,10] Zeo))) Zep))⟩
noncomputable def Zde (a:Zc) (a1:Plan) (a2:Int):Rs:=C 7 [.agg (a.c.map .t),.agg (a1.c.map .t),I a2] []
noncomputable def Zbf (q:Zc) (p:Plan) (info:List Za) (mask:Int) (is:Bool) (i:Int):Rs:=EvL C [.blk 0,.seq Zep,.fin 0 [.cell 6 (some 1),.tmp 7]] [2,3,4,6,8,9,10] Zeo ⟨[(2,I mask),(3,.ptr 0 0),(4,.ptr 1 0),(6,.ptr 2 0),(8,.own 3),(9,Bo is),(10,I i)],[[]],[.box (q.c.map .t),.box (p.c.map .t),.box [.t .nil],.arr 73 4 true (info.map Za.c)]⟩
end Go.Proofs.Ytdfoicjjheifeaa
/- part: T1 -/
namespace Go.Proofs.Ytdfoicjjheifeaa
open Go.AM
theorem Ziy:tbl 46=some Zfs:=tblOf_eq Try.func46 (by kernel_rfl) (by kernel_rfl)
theorem Ziz:tbl 96=some Zft:=tblOf_eq Try.func96 (by kernel_rfl) (by kernel_rfl)
theorem Zi0:tbl 116=some Zfu:=tblOf_eq Try.func116 (by kernel_rfl) (by kernel_rfl)
theorem Zi1:tbl 97=some Zfv:=tblOf_eq Try.func97 (by kernel_rfl) (by kernel_rfl)
theorem Zi2:tbl 117=some Zfw:=tblOf_eq Try.func117 (by kernel_rfl) (by kernel_rfl)
theorem Zi3:tbl 98=some Zfx:=tblOf_eq Try.func98 (by kernel_rfl) (by kernel_rfl)
theorem Zi4:tbl 66=some Zc3:=tblOf_eq Try.func66 (by kernel_rfl) (by kernel_rfl)
theorem Zi5:tbl 99=some Zfy:=tblOf_eq Try.func99 (by kernel_rfl) (by kernel_rfl)
theorem Zi6:tbl 100=some Zf0:=tblOf_eq Try.func100 (by kernel_rfl) (by kernel_rfl)
theorem Zi7:tbl 67=some Zf1:=tblOf_eq Try.func67 (by kernel_rfl) (by kernel_rfl)
theorem Zi8:tbl 34=some Zf3:=tblOf_eq Try.func34 (by kernel_rfl) (by kernel_rfl)
theorem Zi9:tbl 35=some Zf5:=tblOf_eq Try.func35 (by kernel_rfl) (by kernel_rfl)
theorem Zja:tbl 69=some Zf6:=tblOf_eq Try.func69 (by kernel_rfl) (by kernel_rfl)
theorem Zjb:tbl 68=some Zf7:=tblOf_eq Try.func68 (by kernel_rfl) (by kernel_rfl)
theorem Zjc:tbl 36=some Zf8:=tblOf_eq Try.func36 (by kernel_rfl) (by kernel_rfl)
theorem Zjd:tbl 10=some Zf9:=tblOf_eq Try.func10 (by kernel_rfl) (by kernel_rfl)
theorem Zje:tbl 52=some Zga:=tblOf_eq Try.func52 (by kernel_rfl) (by kernel_rfl)
theorem Zjf:tbl 91=some Zgb:=tblOf_eq Try.func91 (by kernel_rfl) (by kernel_rfl)
theorem Zjg:tbl 92=some Zgc:=tblOf_eq Try.func92 (by kernel_rfl) (by kernel_rfl)
theorem Zjh:tbl 61=some Zgd:=tblOf_eq Try.func61 (by kernel_rfl) (by kernel_rfl)
theorem Zji:tbl 94=some Zge:=tblOf_eq Try.func94 (by kernel_rfl) (by kernel_rfl)
theorem Zjj:tbl 93=some Zgf:=tblOf_eq Try.func93 (by kernel_rfl) (by kernel_rfl)
theorem Zjk:tbl 62=some Zgg:=tblOf_eq Try.func62 (by kernel_rfl) (by kernel_rfl)
theorem Zjl:tbl 30=some Zgh:=tblOf_eq Try.func30 (by kernel_rfl) (by kernel_rfl)
theorem Zjm:tbl 63=some Zgi:=tblOf_eq Try.func63 (by kernel_rfl) (by kernel_rfl)
theorem Zjn:tbl 31=some Zdd:=tblOf_eq Try.func31 (by kernel_rfl) (by kernel_rfl)
theorem Zjo:tbl 7=some Zgj:=tblOf_eq Try.func7 (by kernel_rfl) (by kernel_rfl)
end Go.Proofs.Ytdfoicjjheifeaa
/- part: G1 -/
namespace Go.Proofs.Ytdfoicjjheifeaa
open Go.AM
theorem Zjp (a:Int) (a1:Int) (a2:Int) (r:AV×List Blk) (h:(if a1≤a then (some (Bo (decide (a≤a2)),[])=some r) else (some (Bo false,[])=some r))):Zm a a1 a2=some r:=by
 unfold Zm
 refine run Ziy rfl ?_
 try simp only [itb] at h
 try simp only [itf,List.getElem?_eq_some_iff,kk] at h
 rcases h with ⟨q1,h⟩ | ⟨q1,h⟩
 all_goals (refine Eq.trans ?_ h;clear h;simp +decide [*,kk,Zfs])
theorem Zjq (a:ByteArray) (r:AV×List Blk) (h:(if (a.size:Int)=1 then (∃ (b1:UInt8),a[0]?=some b1∧(if 97≤(b1.toNat:Int) then (some (Bo (decide ((b1.toNat:Int)≤122)),[])=some r) else (some (Bo false,[])=some r))) else (some (Bo false,[])=some r))):Zb7 a=some r:=by
 unfold Zb7
 refine run Ziz rfl ?_
 try simp only [itb] at h
 try simp only [itf,List.getElem?_eq_some_iff,kk] at h
 rcases h with ⟨q1,b1,q2,(⟨q3,h⟩ | ⟨q3,h⟩)⟩ | ⟨q1,h⟩
 all_goals (refine Eq.trans ?_ h;clear h;simp +decide [*,kk,Zft])
theorem Zgk (s:List Int) (v:Int) (x:Int) (x1:Int) (r:AV×List Blk) (h:(if x1<x then (0≤x1∧(∃ (e1:Int),s[x1.toNat]?=some e1∧(if v=e1 then (some (I x1,[])=some r) else (Zbl s v x (w (x1+1))=some r)))) else (some (I (-1),[])=some r))):Zbl s v x x1=some r:=by
 unfold Zbl
 rw [EvL_eq Zdv.eq_1]
 try simp only [itb] at h
 try simp only [itf,List.getElem?_eq_some_iff,kk] at h
 rcases h with ⟨q1,q2,e1,⟨g3,q3⟩,(⟨q4,h⟩ | ⟨q4,h⟩)⟩ | ⟨q1,h⟩
 all_goals (refine Eq.trans ?_ h;clear h;simp +decide [*,kk,Zbl,Zdw])
theorem Zjr (a:List Int) (a1:Int) (r:AV×List Blk) (h:(Zbl a a1 (a.length:Int) 0=some r)):Zb8 a a1=some r:=by
 unfold Zb8
 refine run Zi0 rfl ?_
 refine Eq.trans ?_ h;clear h;simp +decide [*,kk,Zfu,Zbl]
theorem Zjs (a:List Int) (a1:Int) (r:AV×List Blk) (h:(∃ (v1_0:Int),Zb8 a a1=some (I v1_0,[])∧(some (Bo (decide (0≤v1_0)),[])=some r))):Zu a a1=some r:=by
 unfold Zu
 refine run Zi1 rfl ?_
 simp only [Zb8,mpl,dfs] at h
 rcases h with ⟨v1_0,q1,h⟩
 all_goals (refine Eq.trans ?_ h;clear h;simp +decide [*,kk,Zfv])
theorem Zgl (s:List Bool) (v:Bool) (x:Int) (x1:Int) (r:AV×List Blk) (h:(if x1<x then (0≤x1∧(∃ (e1:Bool),s[x1.toNat]?=some e1∧(if v=e1 then (some (I x1,[])=some r) else (Zbm s v x (w (x1+1))=some r)))) else (some (I (-1),[])=some r))):Zbm s v x x1=some r:=by
 unfold Zbm
 rw [EvL_eq Zdx.eq_1]
 try simp only [itb] at h
 try simp only [itf,List.getElem?_eq_some_iff,kk] at h
 rcases h with ⟨q1,q2,e1,⟨g3,q3⟩,(⟨q4,h⟩ | ⟨q4,h⟩)⟩ | ⟨q1,h⟩
 all_goals (refine Eq.trans ?_ h;clear h;simp +decide [*,kk,Zbm,Zdy])
theorem Zjt (a:List Bool) (a1:Bool) (r:AV×List Blk) (h:(Zbm a a1 (a.length:Int) 0=some r)):Zb9 a a1=some r:=by
 unfold Zb9
 refine run Zi2 rfl ?_
 refine Eq.trans ?_ h;clear h;simp +decide [*,kk,Zfw,Zbm]
theorem Zju (a:List Bool) (a1:Bool) (r:AV×List Blk) (h:(∃ (v1_0:Int),Zb9 a a1=some (I v1_0,[])∧(some (Bo (decide (0≤v1_0)),[])=some r))):Zca a a1=some r:=by
 unfold Zca
 refine run Zi3 rfl ?_
 simp only [Zb9,mpl,dfs] at h
 rcases h with ⟨v1_0,q1,h⟩
 all_goals (refine Eq.trans ?_ h;clear h;simp +decide [*,kk,Zfx])
theorem Zgm (q:Zc) (seen:List Bool) (x:List Atom) (x1:Int) (x2:Int) (r:AV×List Blk) (h:(if x2<x1 then (0≤x2∧(∃ (e1:Atom),x[x2.toNat]?=some e1∧(∃ (v2_0:Bool),Zb7 e1.Name=some (Bo v2_0,[])∧(if v2_0=true then (∃ (v3_0:Bool),Zm (e1.Vars.length:Int) 1 3=some (Bo v3_0,[])∧(if v3_0=true then (Zbn q seen e1 x x1 x2 e1.Vars (e1.Vars.length:Int) 0=some r) else (some (Bo false,[])=some r))) else (some (Bo false,[])=some r))))) else (∃ (v4_0:Bool),Zca seen false=some (Bo v4_0,[])∧(some (Bo (!v4_0),[])=some r)))):Z7 q seen x x1 x2=some r:=by
 unfold Z7
 rw [EvL_eq Zc1.eq_1]
 simp only [Zb7,Zm,Zca,mpl,dfs] at h
 try simp only [itb] at h
 try simp only [itf,List.getElem?_eq_some_iff,kk] at h
 rcases h with ⟨q1,q2,e1,⟨g3,q3⟩,v2_0,q4,(⟨q5,v3_0,q6,(⟨q7,h⟩ | ⟨q7,h⟩)⟩ | ⟨q5,h⟩)⟩ | ⟨q1,v4_0,q8,h⟩
 all_goals (refine Eq.trans ?_ h;clear h;simp +decide [*,kk,Zbn,Zc2])
theorem Zgn (q:Zc) (seen:List Bool) (a:Atom) (x:List Atom) (x1:Int) (x2:Int) (x3:List Int) (x4:Int) (x5:Int) (r:AV×List Blk) (h:(if x5<x4 then (0≤x5∧(∃ (e1:Int),x3[x5.toNat]?=some e1∧(∃ (v2_0:Bool),Zm e1 0 (w (q.Zd - 1))=some (Bo v2_0,[])∧(if v2_0=true then (x5.toNat≤a.Vars.length∧(∃ (v3_0:Bool),Zu (a.Vars.take x5.toNat) e1=some (Bo v3_0,[])∧(if v3_0=true then (some (Bo false,[])=some r) else (0≤e1∧(∃ (e4:Bool),seen[e1.toNat]?=some e4∧(Zbn q (seen.set e1.toNat true) a x x1 x2 x3 x4 (w (x5+1))=some r)))))) else (some (Bo false,[])=some r))))) else (Z7 q seen x x1 (w (x2+1))=some r))):Zbn q seen a x x1 x2 x3 x4 x5=some r:=by
 unfold Zbn
 rw [EvL_eq Zdz.eq_1]
 simp only [Zm,Zu,mpl,dfs] at h
 try simp only [itb] at h
 try simp only [itf,List.getElem?_eq_some_iff,kk] at h
 rcases h with ⟨q1,q2,e1,⟨g3,q3⟩,v2_0,q4,(⟨q5,q6,v3_0,q7,(⟨q8,h⟩ | ⟨q8,q9,e4,⟨g10,q10⟩,h⟩)⟩ | ⟨q5,h⟩)⟩ | ⟨q1,h⟩
 all_goals (refine Eq.trans ?_ h;clear h;simp +decide [*,kk,Zbn,Z7,Zd0])
theorem Zjv (a:Zc) (r:AV×List Blk) (h:(∃ (v1_0:Bool),Zm a.Zd 1 4=some (Bo v1_0,[])∧(if v1_0=true then (∃ (v2_0:Bool),Zm (a.Atoms.length:Int) 1 4=some (Bo v2_0,[])∧(if v2_0=true then (0≤a.Zd∧(a.Zd.toNat*1≤room∧(a.Zd≤140737488355328∧(Z7 a (List.replicate (a.Zd).toNat false) a.Atoms (a.Atoms.length:Int) 0=some r)))) else (some (Bo false,[])=some r))) else (some (Bo false,[])=some r)))):Zcb a=some r:=by
 unfold Zcb
 refine run Zi4 rfl ?_
 obtain ⟨v1_0,q1,h⟩:=h
 unfold Zm at q1
 try simp at q1
 by_cases q2:v1_0=true
 ·rw [if_pos q2] at h
  obtain ⟨v2_0,q3,h⟩:=h
  unfold Zm at q3
  try simp at q3
  by_cases q4:v2_0=true
  ·rw [if_pos q4] at h
   obtain ⟨q5,h⟩:=h
   obtain ⟨q6,h⟩:=h
   have zq6:=q6;try simp at zq6
   obtain ⟨q7,h⟩:=h
   refine Eq.trans ?_ h
   clear h
   simp +decide [*,Zc3,Z7]
  ·rw [if_neg q4] at h
   refine Eq.trans ?_ h
   clear h
   simp +decide [*,Zc3]
 ·rw [if_neg q2] at h
  refine Eq.trans ?_ h
  clear h
  simp +decide [*,Zc3]
theorem Zgo (q:Zc) (out:List Int) (mask:Int) (v:Int) (r:AV×List Blk) (h:(if v<q.Zd then (Z8 q out mask v q.Atoms (q.Atoms.length:Int) 0=some r) else (some (.own 0,[.arr 3 1 true (out.map ic)])=some r))):Z0 q out mask v=some r:=by
 unfold Z0
 rw [EvL_eq Zc4.eq_1]
 try simp only [itb] at h
 try simp only [itf,List.getElem?_eq_some_iff,kk] at h
 rcases h with ⟨q1,h⟩ | ⟨q1,h⟩
 all_goals (refine Eq.trans ?_ h;clear h;simp +decide [*,kk,Z8,Zc5])
theorem Zgp (q:Zc) (out:List Int) (mask:Int) (v:Int) (x:List Atom) (x1:Int) (x2:Int) (r:AV×List Blk) (h:(if x2<x1 then (0≤x2∧(∃ (e1:Atom),x[x2.toNat]?=some e1∧(¬ x2<0∧(if (andI (shrI mask x2) 1)=1 then (∃ (v2_0:Bool),Zu e1.Vars v=some (Bo v2_0,[])∧(if v2_0=true then (out.length+1≤68719476736∧(Z0 q (out++[v]) mask (w (v+1))=some r)) else (Z8 q out mask v x x1 (w (x2+1))=some r))) else (Z8 q out mask v x x1 (w (x2+1))=some r))))) else (Z0 q out mask (w (v+1))=some r))):Z8 q out mask v x x1 x2=some r:=by
 unfold Z8
 rw [EvL_eq Zd1.eq_1]
 simp only [Zu,mpl,dfs] at h
 try simp only [itb] at h
 try simp only [itf,List.getElem?_eq_some_iff,kk] at h
 rcases h with ⟨q1,q2,e1,⟨g3,q3⟩,q4,(⟨q5,v2_0,q6,(⟨q7,q8,h⟩ | ⟨q7,h⟩)⟩ | ⟨q5,h⟩)⟩ | ⟨q1,h⟩
 all_goals (refine Eq.trans ?_ h;clear h;simp +decide [*,kk,Z0,Zd2,Z8])
theorem Zjw (a:Zc) (a1:Int) (r:AV×List Blk) (h:(Z0 a ([]:List Int) a1 0=some r)):Zbo a a1=some r:=by
 unfold Zbo
 refine run Zi5 rfl ?_
 refine Eq.trans ?_ h;clear h;simp +decide [*,kk,Zfy,Z0]
theorem Zgq (out:List Int) (b:List Int) (x:List Int) (x1:Int) (x2:Int) (r:AV×List Blk) (h:(if x2<x1 then (0≤x2∧(∃ (e1:Int),x[x2.toNat]?=some e1∧(∃ (v2_0:Bool),Zu b e1=some (Bo v2_0,[])∧(if v2_0=true then (out.length+1≤68719476736∧(Z9 (out++[e1]) b x x1 (w (x2+1))=some r)) else (Z9 out b x x1 (w (x2+1))=some r))))) else (some (.own 0,[.arr 3 1 true (out.map ic)])=some r))):Z9 out b x x1 x2=some r:=by
 unfold Z9
 rw [EvL_eq Zd3.eq_1]
 simp only [Zu,mpl,dfs] at h
 try simp only [itb] at h
 try simp only [itf,List.getElem?_eq_some_iff,kk] at h
 rcases h with ⟨q1,q2,e1,⟨g3,q3⟩,v2_0,q4,(⟨q5,q6,h⟩ | ⟨q5,h⟩)⟩ | ⟨q1,h⟩
 all_goals (refine Eq.trans ?_ h;clear h;simp +decide [*,kk,Z9,Zfz,Zd4])
theorem Zjx (a:List Int) (a1:List Int) (r:AV×List Blk) (h:(Z9 ([]:List Int) a1 a (a.length:Int) 0=some r)):Zcc a a1=some r:=by
 unfold Zcc
 refine run Zi6 rfl ?_
 refine Eq.trans ?_ h;clear h;simp +decide [*,kk,Zf0,Z9]
theorem Zbg (a:Zc) (a1:Zb) (a2:List Za) (a3:List Int) (r:AV×List Blk) (h:(if a1.Kind=1 then (∃ (v1_0:Bool),Zm a1.Atom 0 (w ((a.Atoms.length:Int) - 1))=some (Bo v1_0,[])∧(if v1_0=true then (if a1.Order=0 then (¬ a1.Atom<0∧(0≤a1.Atom∧(∃ (e2:Atom),a.Atoms[a1.Atom.toNat]?=some e2∧(∃ (e3:Int),e2.Vars[0]?=some e3∧(some (.tup [.agg [I (shlI 1 a1.Atom),I e3,I (-1),I (-1)],Bo true],[])=some r))))) else (some (.tup [.agg [I 0,I (-1),I (-1),I (-1)],Bo false],[])=some r)) else (some (.tup [.agg [I 0,I (-1),I (-1),I (-1)],Bo false],[])=some r))) else (if a1.Atom=0 then (if a1.Kind=2 then (if (a3.length:Int)<1 then (some (.tup [.agg [I 0,I (-1),I (-1),I (-1)],Bo false],[])=some r) else (0≤(w ((a3.length:Int) - 1))∧(∃ (e4:Int),a3[(w ((a3.length:Int) - 1)).toNat]?=some e4∧(0≤e4∧(∃ (e5:Za),a2[e4.toNat]?=some e5∧(∃ (v6_0:List Int),Zbo a e5.Mask=some (.own 0,[.arr 3 1 true (v6_0.map ic)])∧(∃ (v7_0:Bool),Zu v6_0 a1.Order=some (Bo v7_0,[])∧(if v7_0=true then (if e5.Order=a1.Order then (some (.tup [.agg [I 0,I (-1),I (-1),I (-1)],Bo false],[])=some r) else (some (.tup [.agg [I e5.Mask,I a1.Order,I e4,I (-1)],Bo true],[])=some r)) else (some (.tup [.agg [I 0,I (-1),I (-1),I (-1)],Bo false],[])=some r))))))))) else (if (a3.length:Int)<2 then (some (.tup [.agg [I 0,I (-1),I (-1),I (-1)],Bo false],[])=some r) else (0≤(w ((a3.length:Int) - 2))∧(∃ (e8:Int),a3[(w ((a3.length:Int) - 2)).toNat]?=some e8∧(0≤(w ((a3.length:Int) - 1))∧(∃ (e9:Int),a3[(w ((a3.length:Int) - 1)).toNat]?=some e9∧(0≤e8∧(∃ (e10:Za),a2[e8.toNat]?=some e10∧(0≤e9∧(∃ (e11:Za),a2[e9.toNat]?=some e11∧(∃ (v12_0:List Int),Zbo a e10.Mask=some (.own 0,[.arr 3 1 true (v12_0.map ic)])∧(∃ (v13_0:List Int),Zbo a e11.Mask=some (.own 0,[.arr 3 1 true (v13_0.map ic)])∧(∃ (v14_0:List Int),Zcc v12_0 v13_0=some (.own 0,[.arr 3 1 true (v14_0.map ic)])∧(if (andI e10.Mask e11.Mask)=0 then (if (v14_0.length:Int)=0 then (some (.tup [.agg [I (orI e10.Mask e11.Mask),I (-1),I e8,I e9],Bo false],[])=some r) else (if a1.Kind=3 then (some (.tup [.agg [I (orI e10.Mask e11.Mask),I (-1),I e8,I e9],Bo (decide (a1.Order=0))],[])=some r) else (if a1.Kind=5 then (some (.tup [.agg [I (orI e10.Mask e11.Mask),I e10.Order,I e8,I e9],Bo (decide (a1.Order=0))],[])=some r) else (if a1.Kind=4 then (∃ (v15_0:Bool),Zu v14_0 a1.Order=some (Bo v15_0,[])∧(if v15_0=true then (if e10.Order=a1.Order then (some (.tup [.agg [I (orI e10.Mask e11.Mask),I a1.Order,I e8,I e9],Bo (decide (e11.Order=a1.Order))],[])=some r) else (some (.tup [.agg [I (orI e10.Mask e11.Mask),I a1.Order,I e8,I e9],Bo false],[])=some r)) else (some (.tup [.agg [I (orI e10.Mask e11.Mask),I a1.Order,I e8,I e9],Bo false],[])=some r))) else (some (.tup [.agg [I (orI e10.Mask e11.Mask),I (-1),I e8,I e9],Bo false],[])=some r))))) else (some (.tup [.agg [I (orI e10.Mask e11.Mask),I (-1),I e8,I e9],Bo false],[])=some r))))))))))))))) else (some (.tup [.agg [I 0,I (-1),I (-1),I (-1)],Bo false],[])=some r)))):Zbp a a1 a2 a3=some r:=by
 unfold Zbp
 refine run Zi7 rfl ?_
 simp only [Zm,Zbo,Zu,Zcc,Zc.c_def,mpl,dfs] at h
 try simp only [itb] at h
 try simp only [itf,List.getElem?_eq_some_iff,kk] at h
 rcases h with ⟨q1,v1_0,q2,(⟨q3,(⟨q4,q5,q6,e2,⟨g7,q7⟩,e3,⟨g8,q8⟩,h⟩ | ⟨q4,h⟩)⟩ | ⟨q3,h⟩)⟩ | ⟨q1,(⟨q9,(⟨q10,(⟨q11,h⟩ | ⟨q11,q12,e4,⟨g13,q13⟩,q14,e5,⟨g15,q15⟩,v6_0,q16,v7_0,q17,(⟨q18,(⟨q19,h⟩ | ⟨q19,h⟩)⟩ | ⟨q18,h⟩)⟩)⟩ | ⟨q10,(⟨q20,h⟩ | ⟨q20,q21,e8,⟨g22,q22⟩,q23,e9,⟨g24,q24⟩,q25,e10,⟨g26,q26⟩,q27,e11,⟨g28,q28⟩,v12_0,q29,v13_0,q30,v14_0,q31,(⟨q32,(⟨q33,h⟩ | ⟨q33,(⟨q34,h⟩ | ⟨q34,(⟨q35,h⟩ | ⟨q35,(⟨q36,v15_0,q37,(⟨q38,(⟨q39,h⟩ | ⟨q39,h⟩)⟩ | ⟨q38,h⟩)⟩ | ⟨q36,h⟩)⟩)⟩)⟩)⟩ | ⟨q32,h⟩)⟩)⟩)⟩ | ⟨q9,h⟩)⟩
 all_goals (refine Eq.trans ?_ h;clear h;simp +decide [*,kk,Zf1])
theorem Zgr (q:Zc) (info:List Za) (stack:List Int) (x:List Zb) (x1:Int) (x2:Int) (r:AV×List Blk) (h:(if x2<x1 then (0≤x2∧(∃ (e1:Zb),x[x2.toNat]?=some e1∧(∃ (v2_0:Za) (v2_1:Bool),Zbp q e1 info stack=some (.tup [.agg (v2_0.c.map .t),Bo v2_1],[])∧(if v2_1=true then (info.length+1≤68719476736∧(if 0≤v2_0.Right then (0≤(w ((stack.length:Int) - 2))∧((w ((stack.length:Int) - 2)).toNat≤stack.length∧((w ((stack.length:Int) - 2)).toNat+1≤68719476736∧(Z2 q (info++[v2_0]) ((stack.take ((w ((stack.length:Int) - 2)).toNat))++[x2]) x x1 (w (x2+1))=some r)))) else (if 0≤v2_0.Left then (0≤(w ((stack.length:Int) - 1))∧((w ((stack.length:Int) - 1)).toNat≤stack.length∧((w ((stack.length:Int) - 1)).toNat+1≤68719476736∧(Z2 q (info++[v2_0]) ((stack.take ((w ((stack.length:Int) - 1)).toNat))++[x2]) x x1 (w (x2+1))=some r)))) else (stack.length+1≤68719476736∧(Z2 q (info++[v2_0]) (stack++[x2]) x x1 (w (x2+1))=some r))))) else (some (.tup [.t .nil,Bo false],[])=some r))))) else (if (stack.length:Int)=1 then (some (.tup [.own 0,Bo true],[.arr 73 4 true (info.map Za.c)])=some r) else (some (.tup [.t .nil,Bo false],[])=some r)))):Z2 q info stack x x1 x2=some r:=by
 unfold Z2
 rw [EvL_eq Zd5.eq_1]
 simp only [Zbp,Zb.c_def,Zc.c_def,Za.c_def,mpl,dfs] at h
 try simp only [itb] at h
 try simp only [itf,List.getElem?_eq_some_iff,kk] at h
 rcases h with ⟨q1,q2,e1,⟨g3,q3⟩,v2_0,v2_1,q4,(⟨q5,q6,(⟨q7,q8,q9,q10,h⟩ | ⟨q7,(⟨q11,q12,q13,q14,h⟩ | ⟨q11,q15,h⟩)⟩)⟩ | ⟨q5,h⟩)⟩ | ⟨q1,(⟨q16,h⟩ | ⟨q16,h⟩)⟩
 all_goals (refine Eq.trans ?_ h;clear h;simp +decide [*,kk,Z2,Zf2,Zd6])
theorem Zjy (a:Zc) (a1:Plan) (r:AV×List Blk) (h:(∃ (v1_0:Bool),Zcb a=some (Bo v1_0,[])∧(if v1_0=true then (∃ (v2_0:Bool),Zm (a1.Steps.length:Int) 1 14=some (Bo v2_0,[])∧(if v2_0=true then (Z2 a ([]:List Za) ([]:List Int) a1.Steps (a1.Steps.length:Int) 0=some r) else (some (.tup [.t .nil,Bo false],[])=some r))) else (some (.tup [.t .nil,Bo false],[])=some r)))):Z1 a a1=some r:=by
 unfold Z1
 refine run Zi8 rfl ?_
 simp only [Zcb,Zm,Zc.c_def,mpl,dfs] at h
 try simp only [itb] at h
 try simp only [itf,List.getElem?_eq_some_iff,kk] at h
 rcases h with ⟨v1_0,q1,(⟨q2,v2_0,q3,(⟨q4,h⟩ | ⟨q4,h⟩)⟩ | ⟨q2,h⟩)⟩
 all_goals (refine Eq.trans ?_ h;clear h;simp +decide [*,kk,Zf3,Z2])
theorem Zgs (out:List Int) (x:List Zb) (x1:Int) (x2:Int) (r:AV×List Blk) (h:(if x2<x1 then (0≤x2∧(∃ (e1:Zb),x[x2.toNat]?=some e1∧(if 3≤e1.Kind then (out.length+1≤68719476736∧(Zba (out++[x2]) x x1 (w (x2+1))=some r)) else (Zba out x x1 (w (x2+1))=some r)))) else (some (.own 0,[.arr 3 1 true (out.map ic)])=some r))):Zba out x x1 x2=some r:=by
 unfold Zba
 rw [EvL_eq Zd7.eq_1]
 try simp only [itb] at h
 try simp only [itf,List.getElem?_eq_some_iff,kk] at h
 rcases h with ⟨q1,q2,e1,⟨g3,q3⟩,(⟨q4,q5,h⟩ | ⟨q4,h⟩)⟩ | ⟨q1,h⟩
 all_goals (refine Eq.trans ?_ h;clear h;simp +decide [*,kk,Zba,Zf4,Zd8])
theorem Zjz (a:Plan) (r:AV×List Blk) (h:(Zba ([]:List Int) a.Steps (a.Steps.length:Int) 0=some r)):Zcd a=some r:=by
 unfold Zcd
 refine run Zi9 rfl ?_
 refine Eq.trans ?_ h;clear h;simp +decide [*,kk,Zf5,Zba]
theorem Zj0 (info:List Za) (step:Int) (r:AV×List Blk) (h:(0≤step∧(∃ (e1:Za),info[step.toNat]?=some e1∧(if 0≤e1.Left then (Zbq info e1.Left=some r) else (some (I step,[])=some r))))):Zbq info step=some r:=by
 unfold Zbq
 rw [EvL_eq Zd9.eq_1]
 try simp only [itb] at h
 try simp only [itf,List.getElem?_eq_some_iff,kk] at h
 rcases h with ⟨q1,e1,⟨g2,q2⟩,(⟨q3,h⟩ | ⟨q3,h⟩)⟩
 all_goals (refine Eq.trans ?_ h;clear h;simp +decide [*,kk,Zbq,Zea])
theorem Zj1 (a:List Za) (a1:Int) (r:AV×List Blk) (h:(Zbq a a1=some r)):Zce a a1=some r:=by
 unfold Zce
 refine run Zja rfl ?_
 refine Eq.trans ?_ h;clear h;simp +decide [*,kk,Zf6,Zbq]
theorem Zj2 (a:Plan) (r:AV×List Blk) (h:(a.Steps.length≤68719476736∧(some (.agg [.own 0],[.arr 111 3 true (a.Steps.map Zb.c)])=some r))):Zc6 a=some r:=by
 unfold Zc6
 refine run Zjb rfl ?_
 rcases h with ⟨q1,h⟩
 all_goals (refine Eq.trans ?_ h;clear h;simp +decide [*,kk,Zf7])
theorem Zj3 (a:Zc) (a1:Plan) (a2:Int) (r:AV×List Blk) (h:((Z1 a a1=some (.tup [.t .nil,Bo false],[])∧(some (.tup [.agg [.t .nil],Bo false],[])=some r))∨(∃ (v2_0:List Za),Z1 a a1=some (.tup [.own 0,Bo true],[.arr 73 4 true (v2_0.map Za.c)])∧(∃ (v3_0:Bool),Zm a2 0 (w ((v2_0.length:Int) - 1))=some (Bo v3_0,[])∧(if v3_0=true then (∃ (v4_0:Int),Zce v2_0 a2=some (I v4_0,[])∧(0≤v4_0∧(0≤(w (a2+1))∧(v4_0.toNat≤(w (a2+1)).toNat∧((w (a2+1)).toNat≤a1.Steps.length∧(∃ (v5_0:List Zb),Zc6 (⟨((a1.Steps.take ((w (a2+1)).toNat)).drop v4_0.toNat)⟩:Plan)=some (.agg [.own 0],[.arr 111 3 true (v5_0.map Zb.c)])∧(some (.tup [.agg [.own 0],Bo true],[.arr 111 3 true (v5_0.map Zb.c)])=some r))))))) else (some (.tup [.agg [.t .nil],Bo false],[])=some r)))))):Zb3 a a1 a2=some r:=by
 unfold Zb3
 refine run Zjc rfl ?_
 simp only [Z1,Zm,Zce,Zc6,Plan.c_def,Zc.c_def,Za.c_def,mpl,dfs] at h
 try simp only [itb] at h
 try simp only [itf,List.getElem?_eq_some_iff,kk] at h
 rcases h with ⟨q2,h⟩ | ⟨v2_0,q3,v3_0,q4,(⟨q5,v4_0,q6,q7,q8,q9,q10,v5_0,q11,h⟩ | ⟨q5,h⟩)⟩
 all_goals (refine Eq.trans ?_ h;clear h;simp +decide [*,kk,Zf8])
theorem Zgt (q:Zc) (p:Plan) (info:List Za) (x:List Int) (mask:Int) (x1:Int) (x2:Int) (r:AV×List Blk) (h:(if x2<x1 then (0≤x2∧(∃ (e1:Int),x[x2.toNat]?=some e1∧(0≤e1∧(∃ (e2:Za),info[e1.toNat]?=some e2∧(if e2.Mask=mask then ((Zb3 q p e1=some (.tup [.agg [.t .nil],Bo false],[])∧(some (.tup [.agg [.t .nil],Bo false],[])=some r))∨(∃ (v4_0:List Zb),Zb3 q p e1=some (.tup [.agg [.own 0],Bo true],[.arr 111 3 true (v4_0.map Zb.c)])∧(some (.tup [.agg [.own 0],Bo true],[.arr 111 3 true (v4_0.map Zb.c)])=some r))) else (Zbr q p info x mask x1 (w (x2+1))=some r)))))) else (some (.tup [.agg [.t .nil],Bo false],[])=some r))):Zbr q p info x mask x1 x2=some r:=by
 unfold Zbr
 rw [EvL_eq Zeb.eq_1]
 simp only [Zb3,Plan.c_def,Zc.c_def,mpl,dfs] at h
 try simp only [itb] at h
 try simp only [itf,List.getElem?_eq_some_iff,kk] at h
 rcases h with ⟨q1,q2,e1,⟨g3,q3⟩,q4,e2,⟨g5,q5⟩,(⟨q6,(⟨q8,h⟩ | ⟨v4_0,q9,h⟩)⟩ | ⟨q6,h⟩)⟩ | ⟨q1,h⟩
 all_goals (refine Eq.trans ?_ h;clear h;simp +decide [*,kk,Zbr,Zec])
theorem Zj4 (a:Zc) (a1:Plan) (a2:Int) (r:AV×List Blk) (h:((Z1 a a1=some (.tup [.t .nil,Bo false],[])∧(some (.tup [.agg [.t .nil],Bo false],[])=some r))∨(∃ (v2_0:List Za),Z1 a a1=some (.tup [.own 0,Bo true],[.arr 73 4 true (v2_0.map Za.c)])∧(∃ (v3_0:List Int),Zcd a1=some (.own 0,[.arr 3 1 true (v3_0.map ic)])∧(Zbr a a1 v2_0 v3_0 a2 (v3_0.length:Int) 0=some r))))):Zc7 a a1 a2=some r:=by
 unfold Zc7
 refine run Zjd rfl ?_
 simp only [Z1,Zcd,Plan.c_def,Zc.c_def,mpl,dfs] at h
 rcases h with ⟨q2,h⟩ | ⟨v2_0,q3,v3_0,q4,h⟩
 all_goals (refine Eq.trans ?_ h;clear h;simp +decide [*,kk,Zf9,Zbr])
end Go.Proofs.Ytdfoicjjheifeaa
