/-
  Parts of the proofs for this seat: TX PW EX H.
-/
import Derived.Test.YtgnfoghkbpkgjaaGreatRows
import Derived.Test.YtgnfoghkbpkgjaaGreatP4
import Derived.Test.YtgnfoghkbpkgjaaGreatP5
import Derived.Test.YtgnfoghkbpkgjaaGreatP6
set_option linter.unusedSimpArgs false
set_option linter.unusedVariables false
set_option maxRecDepth 100000
set_option maxHeartbeats 4000000
namespace Go.Proofs.YtgnfoghkbpkgjaaGreat
open Go.AM
@[simp] theorem Zf.map_inj (xs ys:List Zf):xs.map Zf.c=ys.map Zf.c↔xs=ys:=map_inj_of (by
 intro a b h
 simp at h
 simp [Zf.ext_iff,h])
@[simp] theorem Zf.flat (xs:List Zf):(xs.map Zf.c).all (fun x=>x.all scalar)=true:=flat_of (fun _=>rfl) xs
@[simp] theorem Zf.flat2 (xs:List Zf):xs.all ((fun x=>x.all scalar) ∘ Zf.c)=true:=flat_of' (fun _=>rfl) xs
@[simp] theorem Zj.map_inj (xs ys:List Zj):xs.map Zj.c=ys.map Zj.c↔xs=ys:=map_inj_of (by
 intro a b h
 simp at h
 simp [Zj.ext_iff,h])
@[simp] theorem Zd.map_inj (xs ys:List Zd):xs.map Zd.c=ys.map Zd.c↔xs=ys:=map_inj_of (by
 intro a b h
 simp at h
 simp [Zd.ext_iff,Zj.ext_iff,h])
@[simp] theorem Atom.map_inj (xs ys:List Atom):xs.map Atom.c=ys.map Atom.c↔xs=ys:=map_inj_of (by
 intro a b h
 simp at h
 simp [Atom.ext_iff,h])
@[simp] theorem Zc.map_inj (xs ys:List Zc):xs.map Zc.c=ys.map Zc.c↔xs=ys:=map_inj_of (by
 intro a b h
 simp at h
 simp [Zc.ext_iff,h])
@[simp] theorem Zg.map_inj (xs ys:List Zg):xs.map Zg.c=ys.map Zg.c↔xs=ys:=map_inj_of (by
 intro a b h
 simp at h
 simp [Zg.ext_iff,h])
@[simp] theorem Zi.map_inj (xs ys:List Zi):xs.map Zi.c=ys.map Zi.c↔xs=ys:=map_inj_of (by
 intro a b h
 simp at h
 simp [Zi.ext_iff,h])
@[simp] theorem Zb.map_inj (xs ys:List Zb):xs.map Zb.c=ys.map Zb.c↔xs=ys:=map_inj_of (by
 intro a b h
 simp at h
 simp [Zb.ext_iff,h])
@[simp] theorem Zb.flat (xs:List Zb):(xs.map Zb.c).all (fun x=>x.all scalar)=true:=flat_of (fun _=>rfl) xs
@[simp] theorem Zb.flat2 (xs:List Zb):xs.all ((fun x=>x.all scalar) ∘ Zb.c)=true:=flat_of' (fun _=>rfl) xs
@[simp] theorem Plan.map_inj (xs ys:List Plan):xs.map Plan.c=ys.map Plan.c↔xs=ys:=map_inj_of (by
 intro a b h
 simp at h
 simp [Plan.ext_iff,h])
@[ext] structure Za where
 Mask:Int
 Order:Int
 Cost:Int
 Plan:Plan
 deriving DecidableEq
def Za.c (x:Za):List T:=[.int .i64 x.Mask,.int .i64 x.Order,.int .i64 x.Cost,.lst 3 (x.Plan.Steps.map Zb.c)]
@[simp] theorem Za.c_def (x:Za):x.c=[.int .i64 x.Mask,.int .i64 x.Order,.int .i64 x.Cost,.lst 3 (x.Plan.Steps.map Zb.c)]:=rfl
@[simp] theorem Za.map_inj (xs ys:List Za):xs.map Za.c=ys.map Za.c↔xs=ys:=map_inj_of (by
 intro a b h
 simp at h
 simp [Za.ext_iff,Plan.ext_iff,h])
@[ext] structure Zk where
 Mask:Int
 Order:Int
 Left:Int
 Right:Int
 deriving DecidableEq
def Zk.c (x:Zk):List T:=[.int .i64 x.Mask,.int .i64 x.Order,.int .i64 x.Left,.int .i64 x.Right]
@[simp] theorem Zk.c_def (x:Zk):x.c=[.int .i64 x.Mask,.int .i64 x.Order,.int .i64 x.Left,.int .i64 x.Right]:=rfl
@[simp] theorem Zk.map_inj (xs ys:List Zk):xs.map Zk.c=ys.map Zk.c↔xs=ys:=map_inj_of (by
 intro a b h
 simp at h
 simp [Zk.ext_iff,h])
@[simp] theorem Zk.flat (xs:List Zk):(xs.map Zk.c).all (fun x=>x.all scalar)=true:=flat_of (fun _=>rfl) xs
@[simp] theorem Zk.flat2 (xs:List Zk):xs.all ((fun x=>x.all scalar) ∘ Zk.c)=true:=flat_of' (fun _=>rfl) xs
@[ext] structure Zx where
 mask:Int
 Zs:List Int
 shared:List (List Int)
 deriving DecidableEq
def Zx.c (x:Zx):List T:=[.int .i64 x.mask,.lst 1 (x.Zs.map ic),.lst 1 (x.shared.map isc)]
@[simp] theorem Zx.c_def (x:Zx):x.c=[.int .i64 x.mask,.lst 1 (x.Zs.map ic),.lst 1 (x.shared.map isc)]:=rfl
@[simp] theorem Zx.map_inj (xs ys:List Zx):xs.map Zx.c=ys.map Zx.c↔xs=ys:=map_inj_of (by
 intro a b h
 simp at h
 simp [Zx.ext_iff,h])
def inR (a b c:Int):Bool:=decide (b≤a∧a≤c)
def Z1 (c:Int):Int:=if c<0 then -1 else if c=0 then 0 else if c=1 then 1 else if c=2 then 4 else if c=3 then 16 else if c=4 then 64 else if c=5 then 256 else if c=6 then 1024 else if c=7 then 4096 else -1
theorem cls8 {c:Int} (h:inR c 0 7=true):c=0∨c=1∨c=2∨c=3∨c=4∨c=5∨c=6∨c=7:=by
 simp [inR] at h;omega
theorem Zyf {c:Int} (h:inR c 0 7=false):Z1 c=-1:=by
 simp [inR] at h
 unfold Z1
 split
 ·rfl
 ·repeat' split
  all_goals omega
def Zdw (n:Int):Int:=if n<0 then -1 else if n≤0 then 0 else if n≤1 then 1 else if n≤4 then 2 else if n≤16 then 3 else if n≤64 then 4 else if n≤256 then 5 else if n≤1024 then 6 else if n≤4096 then 7 else -1
theorem Zkl {α:Type} (p:α→Bool) {xs:List α} {i:Nat} (h:i<xs.length):(xs.drop i).all p=(p xs[i] && (xs.drop (i+1)).all p):=by
 rw [List.drop_eq_getElem_cons h,List.all_cons]
theorem drop_any {α:Type} (p:α→Bool) {xs:List α} {i:Nat} (h:i<xs.length):(xs.drop i).any p=(p xs[i] || (xs.drop (i+1)).any p):=by
 rw [List.drop_eq_getElem_cons h,List.any_cons]
def Zer (xs:List Int):Bool:=xs.all (fun x=>inR x 0 7)
def Zbz (xs:List Int):Bool:=Zer xs && decide ((xs.length:Int)≤16)
theorem Zyg {xs:List Int} {i:Nat} (h:i<xs.length):Zer (xs.drop i)=(inR xs[i] 0 7 && Zer (xs.drop (i+1))):=Zkl _ h
def domAll:List Int→List Int→Bool
 | x::xs,y::ys=>decide (y≤x) && domAll xs ys
 | _,_=>true
def dom (xs ys:List Int):Bool:=decide (xs.length=ys.length) && domAll xs ys
def bit4 (a b c d:Bool):Int:=(if a then 1 else 0)+(if b then 2 else 0)+(if c then 4 else 0)+(if d then 8 else 0)
def Z2 (p:Nat→Bool):Int:=bit4 (p 0) (p 1) (p 2) (p 3)
theorem in4 {v:Int} (h:inR v 0 3=true):v=0∨v=1∨v=2∨v=3:=by simp [inR] at h;omega
def has (xs:List Int) (v:Int):Bool:=xs.any (fun x=>decide (v=x))
theorem Zes {xs:List Int} {v:Int}:has xs v=true↔v∈xs:=by
 simp only [has,List.any_eq_true,decide_eq_true_eq]
 exact ⟨fun ⟨x,h,e⟩=>e ▸ h,fun h=>⟨v,h,rfl⟩⟩
def addV (p:Nat→Bool) (vs:List Int):Nat→Bool:=fun u=>p u || has vs u
theorem Zrd (p:Nat→Bool):addV p []=p:=by funext u;simp [addV,has]
theorem Zbal (p:Nat→Bool) (v:Int) (vs:List Int):addV (addV p [v]) vs=addV p (v::vs):=by funext u;simp [addV,has,Bool.or_assoc]
theorem Zre (p:Nat→Bool) {vs:List Int} {i:Nat} (h:i<vs.length):addV p (vs.drop i)=addV (addV p [vs[i]]) (vs.drop (i+1)):=by
 rw [List.drop_eq_getElem_cons h,Zbal]
theorem or_d:∀ a b c d:Bool,orI (bit4 a b c d) 1=bit4 true b c d∧orI (bit4 a b c d) 2=bit4 a true c d∧orI (bit4 a b c d) 4=bit4 a b true d∧orI (bit4 a b c d) 8=bit4 a b c true:=by decide
theorem Zns (p:Nat→Bool) {v:Int} (h:inR v 0 3=true):orI (Z2 p) (shlI 1 v)=Z2 (addV p [v]):=by
 have q:=or_d (p 0) (p 1) (p 2) (p 3)
 rcases in4 h with rfl | rfl | rfl | rfl <;> simp [addV,has,Z2,shlI,wrap64,q]
theorem and_d:∀ a b c d:Bool,(andI (shrI (bit4 a b c d) 0) 1=1↔a=true)∧(andI (shrI (bit4 a b c d) 1) 1=1↔b=true)∧(andI (shrI (bit4 a b c d) 2) 1=1↔c=true)∧(andI (shrI (bit4 a b c d) 3) 1=1↔d=true):=by decide
theorem at_bit (p:Nat→Bool) {v:Int} (h:inR v 0 3=true):andI (shrI (Z2 p) v) 1=1↔p v.toNat=true:=by
 have q:=and_d (p 0) (p 1) (p 2) (p 3)
 rcases in4 h with rfl | rfl | rfl | rfl <;> simp [Z2,q]
theorem and4:∀ a b c d a' b' c' d':Bool,andI (bit4 a b c d) (bit4 a' b' c' d')=bit4 (a && a') (b && b') (c && c') (d && d'):=by decide
theorem and_bits (p q:Nat→Bool):andI (Z2 p) (Z2 q)=Z2 (fun u=>p u && q u):=and4 _ _ _ _ _ _ _ _
theorem zero4:∀ a b c d:Bool,bit4 a b c d=0↔(a=false∧b=false∧c=false∧d=false):=by decide
theorem Zbam (p:Nat→Bool):Z2 p=0↔∀ u,u<4→p u=false:=by
 rw [Z2,zero4]
 constructor
 ·rintro ⟨h0,h1,h2,h3⟩ u hu
  match u,hu with
  | 0,_=>exact h0
  | 1,_=>exact h1
  | 2,_=>exact h2
  | 3,_=>exact h3
 ·intro h;exact ⟨h 0 (by omega),h 1 (by omega),h 2 (by omega),h 3 (by omega)⟩
def Zbo {α:Type} (p:α→Bool):List α→Nat→Int
 | [],_=>-1
 | x::xs,i=>if p x=true then i else Zbo p xs (i+1)
theorem Zrf {α:Type} (p:α→Bool) {xs:List α} {i:Nat} (h:i<xs.length):Zbo p (xs.drop i) i=if p xs[i]=true then (i:Int) else Zbo p (xs.drop (i+1)) (i+1):=by
 rw [List.drop_eq_getElem_cons h,Zbo]
theorem Zyh {α:Type} (p:α→Bool) (xs:List α):∀ i,xs.any p=false→Zbo p xs i=-1:=by
 induction xs with
 | nil=>intro i _;rfl
 | cons x xs ih=>intro i h;simp at h;simp [Zbo,h];apply ih;simp;exact h.2
theorem Zyi {α:Type} (p:α→Bool) (xs:List α):∀ i,xs.any p=true→0≤Zbo p xs i:=by
 induction xs with
 | nil=>intro i h;simp at h
 | cons x xs ih =>
  intro i h
  unfold Zbo
  split
  ·omega
  ·rename_i hx;simp only [List.any_cons,hx,Bool.false_or] at h;exact ih _ h
abbrev tB (xs:List Bool):T:=.lst 1 (xs.map fun b=>[T.bool b])
def nmOk (s:ByteArray):Bool:=match s[0]? with
 | some b=>decide (s.size=1) && decide (97≤(b.toNat:Int)) && decide ((b.toNat:Int)≤122)
 | none=>false
theorem get0 {s:ByteArray} (h:s.size=1):∃ b,s[0]?=some b:=⟨s[0],getElem?_pos s 0 (by omega)⟩
def Zct (n:Int) (pre:List Int):List Int→Bool
 | []=>true
 | v::rest=>inR v 0 (n - 1) && !has pre v && Zct n (pre++[v]) rest
theorem Zyj (n:Int) {vs:List Int} {k:Nat} (h:k<vs.length):Zct n (vs.take k) (vs.drop k)=(inR vs[k] 0 (n - 1) && !has (vs.take k) vs[k] && Zct n (vs.take (k+1)) (vs.drop (k+1))):=by
 conv=>lhs;rw [List.drop_eq_getElem_cons h,Zct]
 rw [List.take_add_one,List.getElem?_eq_getElem h]
 rfl
theorem Zrg {n:Int}:∀ {vs pre:List Int},Zct n pre vs=true→∀ v∈vs,inR v 0 (n - 1)=true
 | [],_,_,v,hv=>by cases hv
 | x::xs,pre,h,v,hv=>by
  simp only [Zct,Bool.and_eq_true] at h
  cases hv with
  | head=>exact h.1.1
  | tail _ hv=>exact Zrg h.2 v hv
def Zbp (n:Int) (a:Atom):Bool:=nmOk a.Name && inR a.Vars.length 1 3 && Zct n [] a.Vars
def addA (p:Nat→Bool) (qa:List Atom):Nat→Bool:=fun u=>p u || qa.any fun a=>has a.Vars u
theorem Zyk (p:Nat→Bool) {qa:List Atom} {i:Nat} (h:i<qa.length):addA p (qa.drop i)=addA (addV p qa[i].Vars) (qa.drop (i+1)):=by
 rw [List.drop_eq_getElem_cons h];funext u;simp only [addA,List.any_cons,addV,Bool.or_assoc]
def Zq (n:Int) (qa:List Atom):Bool :=
 inR n 1 4 && inR qa.length 1 4 && qa.all (Zbp n) && (List.range n.toNat).all (addA (fun _=>false) qa)
def bl (p:Nat→Bool) (n:Nat):List (List T):=(List.range n).map fun u=>[T.bool (p u)]
@[simp] theorem bl_get (p:Nat→Bool) (n i:Nat) (h:i<(bl p n).length):(bl p n)[i]=[T.bool (p i)]:=by simp [bl]
theorem bl_any (p:Nat→Bool) (n:Nat):((List.range n).map p).any (fun x=>false == x)=!(List.range n).all p:=by
 rw [List.any_map,Bool.eq_iff_iff]
 simp
theorem Znt:∀ a b c d:Bool,(bit4 a b c d=1↔(a=true∧b=false∧c=false∧d=false))∧(bit4 a b c d=3↔(a=true∧b=true∧c=false∧d=false))∧(bit4 a b c d=7↔(a=true∧b=true∧c=true∧d=false))∧(bit4 a b c d=15↔(a=true∧b=true∧c=true∧d=true)):=by decide
theorem all_in {n:Int} {qa:List Atom} (h:qa.all (Zbp n)=true):∀ u:Int,n≤u→qa.any (fun a=>has a.Vars u)=false:=by
 intro u hu
 rw [List.any_eq_false]
 intro a ha hc
 rw [Zes] at hc
 have:=List.all_eq_true.1 h a ha
 simp only [Zbp,Bool.and_eq_true] at this
 have:=Zrg this.2 _ hc
 simp [inR] at this
 omega
def Zu (n:Int) (qa:List Atom):Int:=if Zq n qa=true then shlI 1 qa.length - 1 else 0
theorem Zgj {n:Int} {qa:List Atom} (h:Zq n qa=true):(qa.length=1∨qa.length=2∨qa.length=3∨qa.length=4)∧shlI 1 qa.length=2 ^ qa.length∧IntKind.wrap .i64 (shlI 1 qa.length - 1)=shlI 1 qa.length - 1∧IntKind.wrap .i64 (shlI 1 qa.length - 1+1)=shlI 1 qa.length - 1+1:=by
 simp only [Zq,Bool.and_eq_true] at h
 have h2:=h.1.1.2
 simp [inR] at h2
 have h3:qa.length=1∨qa.length=2∨qa.length=3∨qa.length=4:=by omega
 refine ⟨h3,?_⟩
 rcases h3 with h3 | h3 | h3 | h3 <;> rw [h3] <;> decide
theorem Zyl (n:Int) (qa:List Atom):IntKind.wrap .i64 (Zu n qa+1)=Zu n qa+1:=by
 unfold Zu
 split
 ·rename_i h;exact (Zgj h).2.2.2
 ·decide
def Zt (m:Int) (i:Nat):Bool:=decide (andI (shrI m i) 1=1)
def hasV (m:Int):List Atom→Nat→Int→Bool
 | [],_,_=>false
 | a::as',i,u=>(Zt m i && has a.Vars u) || hasV m as' (i+1) u
theorem Zrh (m:Int) {qa:List Atom} {i:Nat} (h:i<qa.length) (u:Int):hasV m (qa.drop i) i u=((Zt m i && has qa[i].Vars u) || hasV m (qa.drop (i+1)) (i+1) u):=by
 rw [List.drop_eq_getElem_cons h,hasV]
def pV (m:Int) (qa:List Atom):Nat→Bool:=fun u=>hasV m qa 0 u
def Var4 (qa:List Atom):Prop:=∀ a∈qa,∀ v∈a.Vars,inR v 0 3=true
theorem Zgk {n:Int} {qa:List Atom} (h:Zq n qa=true):∀ a∈qa,∀ v∈a.Vars,inR v 0 (n - 1)=true:=by
 intro a ha v hv
 simp only [Zq,Bool.and_eq_true] at h
 have:=List.all_eq_true.1 h.1.2 a ha
 simp only [Zbp,Bool.and_eq_true] at this
 exact Zrg this.2 v hv
theorem Zcl {n:Int} {qa:List Atom} (h:Zq n qa=true):1≤n∧n≤4:=by
 simp only [Zq,Bool.and_eq_true] at h
 have:=h.1.1.1
 simpa [inR] using this
theorem Zbe {n:Int} {qa:List Atom} (h:Zq n qa=true):1≤qa.length∧qa.length≤4:=by
 simp only [Zq,Bool.and_eq_true] at h
 have:=h.1.1.2
 simp [inR] at this
 omega
theorem Zkm {n:Int} {qa:List Atom} (h:Zq n qa=true):∀ a∈qa,1≤a.Vars.length∧a.Vars.length≤3:=by
 intro a ha
 simp only [Zq,Bool.and_eq_true] at h
 have:=List.all_eq_true.1 h.1.2 a ha
 simp only [Zbp,Bool.and_eq_true] at this
 have:=this.1.2
 simp [inR] at this
 omega
theorem Znu {n:Int} {qa:List Atom} (h:Zq n qa=true):Var4 qa:=by
 intro a ha v hv
 have:=Zgk h a ha v hv
 have h2:=Zcl h
 simp [inR] at this ⊢
 omega
def addM (m:Int) (p:Nat→Bool) (qa:List Atom) (i:Nat):Nat→Bool:=fun u=>p u || hasV m (qa.drop i) i u
theorem Zban (m:Int) (p:Nat→Bool) {qa:List Atom} {i:Nat} (h:i<qa.length):addM m p qa i=addM m (if Zt m i=true then addV p qa[i].Vars else p) qa (i+1):=by
 funext u
 rw [addM,Zrh _ h]
 rcases tf (Zt m i) with e | e <;> simp [addM,addV,e,Bool.or_assoc]
def varL (m:Int) (qa:List Atom) (k:Nat):List Int:=((List.range k).filter (pV m qa)).map fun u:Nat=>(u:Int)
theorem Zbao (m:Int) (qa:List Atom) (k:Nat):varL m qa (k+1)=varL m qa k++if hasV m qa 0 k=true then [(k:Int)] else []:=by
 unfold varL
 rw [List.range_succ,List.filter_append,List.map_append]
 rcases tf (hasV m qa 0 k) with e | e <;> simp [pV,e]
theorem Zh3 (m:Int) (qa:List Atom) (k:Nat):(varL m qa k).length≤k:=by
 unfold varL
 simp
 exact Nat.le_trans (List.length_filter_le _ _) (by simp)
theorem Zri {α:Type} (p:α→Bool) {xs:List α} {i:Nat} (h:i<xs.length):(xs.take (i+1)).filter p=(xs.take i).filter p++if p xs[i]=true then [xs[i]] else []:=by
 rw [List.take_add_one,List.getElem?_eq_getElem h,List.filter_append]
 rcases tf (p xs[i]) with e | e <;> simp [e]
def vin (qa:List Atom) (m v:Int):Bool:=inR v 0 3 && pV m qa v.toNat
def shr (qa:List Atom) (a b:Int):Bool:=(List.range 4).any fun u=>pV a qa u && pV b qa u
def Zbl (st:List Int) (info:List Zk) (k:Nat):Option (Int×Zk):=if k≤st.length then (match st[st.length - k]? with
 | some s=>(info[s.toNat]?).map (s,·)
 | none=>none) else none
def Zdx (qa:List Atom) (x:Zb) (y z:Zk):Option Int :=
 if x.Kind=3∧x.Order=0 then some (-1)
 else if x.Kind=5∧x.Order=0 then some y.Order
 else if x.Kind=4∧vin qa y.Mask x.Order=true∧vin qa z.Mask x.Order=true∧y.Order=x.Order∧z.Order=x.Order then some x.Order
 else none
def Zcm (qa:List Atom) (x:Zb) (info:List Zk) (st:List Int):Option Zk :=
 if x.Kind=1 then (if inR x.Atom 0 (qa.length - 1)=true∧x.Order=0 then some ⟨shlI 1 x.Atom,(match qa[x.Atom.toNat]? with | some a=>a.Vars.headD 0 | none=>0),-1,-1⟩ else none)
 else if x.Atom≠0 then none
 else if x.Kind=2 then (match Zbl st info 1 with
  | some (s,y)=>if vin qa y.Mask x.Order=true∧y.Order≠x.Order then some ⟨y.Mask,x.Order,s,-1⟩ else none
  | none=>none)
 else match Zbl st info 2,Zbl st info 1 with
  | some (s,y),some (t,z)=>if andI y.Mask z.Mask=0∧shr qa y.Mask z.Mask=true then (Zdx qa x y z).map (⟨orI y.Mask z.Mask,·,s,t⟩) else none
  | _,_=>none
def StOk (info:List Zk) (st:List Int):Prop:=∀ s∈st,0≤s∧s.toNat<info.length
theorem Znv {info:List Zk} {st:List Int} (h:StOk info st) {k:Nat} (h1:1≤k) (h2:k≤st.length) :
  ∃ s y,Zbl st info k=some (s,y)∧st[st.length - k]?=some s∧0≤s∧info[s.toNat]?=some y:=by
 have hlt:st.length - k<st.length:=by omega
 obtain ⟨h3,h4⟩:=h _ (List.getElem_mem hlt)
 refine ⟨st[st.length - k],info[(st[st.length - k]).toNat],?_,List.getElem?_eq_getElem hlt,h3,List.getElem?_eq_getElem h4⟩
 simp [Zbl,h2,List.getElem?_eq_getElem hlt,List.getElem?_eq_getElem h4]
theorem pV_lt {n:Int} {qa:List Atom} (h:Zq n qa=true) {m:Int} {u:Nat} (hp:pV m qa u=true):(u:Int)<n:=by
 have:∀ (l:List Atom) (i:Nat),(∀ a∈l,a∈qa)→hasV m l i u=true→(u:Int)<n:=by
  intro l
  induction l with
  | nil=>intro i _ hh;simp [hasV] at hh
  | cons a l ih =>
   intro i hs hh
   simp only [hasV,Bool.or_eq_true,Bool.and_eq_true] at hh
   rcases hh with hh | hh
   ·have:=Zgk h a (hs a (by simp)) u (Zes.1 hh.2)
    simp [inR] at this
    omega
   ·exact ih (i+1) (fun b hb=>hs b (by simp [hb])) hh
 exact this qa 0 (fun a ha=>ha) hp
theorem Zkn {n:Int} {qa:List Atom} (h:Zq n qa=true) (m v:Int):has (varL m qa n.toNat) v=vin qa m v:=by
 have hn:=Zcl h
 rw [Bool.eq_iff_iff,Zes]
 simp only [varL,List.mem_map,List.mem_filter,List.mem_range,vin,Bool.and_eq_true]
 constructor
 ·rintro ⟨u,⟨h1,h2⟩,rfl⟩
  refine ⟨by simp [inR];omega,by simpa using h2⟩
 ·rintro ⟨h1,h2⟩
  have h3:=pV_lt h h2
  simp [inR] at h1
  exact ⟨v.toNat,⟨by omega,h2⟩,by omega⟩
theorem Zbap {n:Int} {qa:List Atom} (h:Zq n qa=true) (a b:Int):((varL a qa n.toNat).filter (has (varL b qa n.toNat))).length=0↔shr qa a b=false:=by
 have hn:=Zcl h
 rw [List.length_eq_zero_iff,List.filter_eq_nil_iff,shr,List.any_eq_false]
 simp only [Zkn h]
 constructor
 ·intro hh u hu
  simp only [List.mem_range] at hu
  simp only [Bool.and_eq_true,not_and]
  intro h1 h2
  have h3:=pV_lt h h1
  refine hh (u:Int) ?_ ?_
  ·simp only [varL,List.mem_map,List.mem_filter,List.mem_range]
   exact ⟨u,⟨by omega,h1⟩,rfl⟩
  ·simp only [vin,Bool.and_eq_true]
   exact ⟨by simp [inR];omega,by simpa using h2⟩
 ·intro hh v hv
  simp only [varL,List.mem_map,List.mem_filter,List.mem_range] at hv
  obtain ⟨u,⟨h1,h2⟩,rfl⟩:=hv
  have:=hh u (by simp only [List.mem_range];omega)
  simp only [Bool.and_eq_true,not_and] at this
  simp only [vin,Bool.and_eq_true,not_and]
  intro _
  simpa using this h2
theorem Zbaq {n:Int} {qa:List Atom} (h:Zq n qa=true) (a b v:Int):has ((varL a qa n.toNat).filter (has (varL b qa n.toNat))) v=(vin qa a v && vin qa b v):=by
 rw [Bool.eq_iff_iff,Zes,List.mem_filter,← Zes,Zkn h,Zkn h,Bool.and_eq_true]
theorem Zym (qa:List Atom) (a b:Int):andI (Z2 (pV a qa)) (Z2 (pV b qa))=0↔shr qa a b=false:=by
 rw [and_bits,Zbam,shr,List.any_eq_false]
 simp
def popsI (x:Zb):Int:=if x.Kind=1 then 0 else if x.Kind=2 then 1 else 2
theorem hd0 {xs:List Int} (h:0<xs.length):xs.head?.getD 0=xs[0]:=by cases xs with | nil=>simp at h | cons x xs=>rfl
def pops (y:Zk):Nat:=if 0≤y.Right then 2 else if 0≤y.Left then 1 else 0
def Zbm (qa:List Atom):List Zb→Nat→List Zk→List Int→Option (List Zk×List Int)
 | [],_,info,st=>some (info,st)
 | x::xs,i,info,st=>match Zcm qa x info st with
  | none=>none
  | some y=>Zbm qa xs (i+1) (info++[y]) (st.take (st.length - pops y)++[(i:Int)])
theorem Zbar (qa:List Atom) {xs:List Zb} {i:Nat} (h:i<xs.length) (info:List Zk) (st:List Int):Zbm qa (xs.drop i) i info st=match Zcm qa xs[i] info st with
  | none=>none
  | some y=>Zbm qa (xs.drop (i+1)) (i+1) (info++[y]) (st.take (st.length - pops y)++[(i:Int)]):=by
 rw [List.drop_eq_getElem_cons h,Zbm]
def Zb4 (n:Int) (qa:List Atom) (steps:List Zb):Option (List Zk) :=
 if Zq n qa=true∧inR steps.length 1 14=true then (match Zbm qa steps 0 [] [] with
  | some (info,st)=>if st.length=1 then some info else none
  | none=>none) else none
theorem Zet {st:List Int} {info:List Zk} {k:Nat} {s:Int} {y:Zk} (hs:StOk info st) (h1:1≤k) (h:Zbl st info k=some (s,y)):k≤st.length∧0≤s∧s.toNat<info.length∧info[s.toNat]?=some y:=by
 have hk:k≤st.length:=by
  unfold Zbl at h
  split at h
  ·assumption
  ·cases h
 obtain ⟨s',y',q1,q2,q3,q4⟩:=Znv hs h1 hk
 rw [q1] at h
 cases h
 exact ⟨hk,q3,(List.getElem?_eq_some_iff.1 q4).1,q4⟩
theorem Zyn {qa:List Atom} {x:Zb} {info:List Zk} {st:List Int} {y:Zk} (hs:StOk info st) (h:Zcm qa x info st=some y) :
  popsI x=pops y∧pops y≤st.length∧(0≤y.Right↔3≤x.Kind):=by
 unfold Zcm at h
 unfold popsI pops
 split at h
 ·rename_i k1
  split at h
  ·cases h;simp [k1]
  ·cases h
 ·rename_i k1
  split at h
  ·cases h
  ·split at h
   ·rename_i k2
    split at h
    ·rename_i s y' ht
     split at h
     ·cases h
      obtain ⟨t1,t2,_⟩:=Zet hs (Nat.le_refl 1) ht
      simp [k2,t2,t1]
     ·cases h
    ·cases h
   ·rename_i k2
    split at h
    ·rename_i s y' t z ht hu
     split at h
     ·obtain ⟨t1,t2,_⟩:=Zet hs (by omega:1≤2) ht
      obtain ⟨u1,u2,_⟩:=Zet hs (by omega:1≤1) hu
      obtain ⟨o,ho,rfl⟩:=Option.map_eq_some_iff.1 h
      have hk:x.Kind=3∨x.Kind=4∨x.Kind=5:=by
       unfold Zdx at ho
       split at ho
       ·omega
       ·split at ho
        ·omega
        ·split at ho
         ·omega
         ·cases ho
      simp only [u2,if_true,k1,k2,if_false]
      refine ⟨rfl,t1,?_⟩
      simp;omega
     ·cases h
    ·cases h
theorem Znw {info:List Zk} {st:List Int} (hs:StOk info st) (y:Zk) (k:Nat):StOk (info++[y]) (st.take k++[(info.length:Int)]):=by
 intro s h
 rcases List.mem_append.1 h with h | h
 ·obtain ⟨h1,h2⟩:=hs s (List.mem_of_mem_take h)
  exact ⟨h1,by simp;omega⟩
 ·simp at h
  subst h
  simp
theorem st_len {st:List Int} {i k:Nat} (h:st.length≤i) (x:Int):(st.take k++[x]).length≤i+1:=by simp;omega
theorem Zyo {qa:List Atom}:∀ {xs:List Zb} {i:Nat} {info:List Zk} {st:List Int} {info':List Zk} {st':List Int},Zbm qa xs i info st=some (info',st')→info'.length=info.length+xs.length
 | [],_,_,_,_,_,h=>by simp [Zbm] at h;simp [h.1]
 | x::xs,i,info,st,info',st',h=>by
  rw [Zbm] at h
  split at h
  ·cases h
  ·have:=Zyo h
   simp at this ⊢
   omega
theorem Znx {n:Int} {qa:List Atom} {steps:List Zb} {info:List Zk} (h:Zb4 n qa steps=some info):Zq n qa=true∧info.length=steps.length∧1≤steps.length∧steps.length≤14:=by
 unfold Zb4 at h
 split at h
 ·rename_i hc
  have h2:=hc.2
  simp [inR] at h2
  split at h
  ·rename_i info' st hg
   split at h
   ·cases h
    have:=Zyo hg
    simp at this
    exact ⟨hc.1,this,by omega,by omega⟩
   ·cases h
  ·cases h
 ·cases h
theorem Zrj {n:Int} {qa:List Atom} (h:Zq n qa=true):0<Zu n qa:=by
 obtain ⟨h1,h2,_⟩:=Zgj h
 unfold Zu
 rw [if_pos h,h2]
 rcases h1 with h1 | h1 | h1 | h1 <;> rw [h1] <;> decide
theorem or16:∀ a b:Fin 16,orI (a.1:Int) (b.1:Int)=((a.1 ||| b.1:Nat):Int):=by decide
theorem or_lt {k:Nat} (hk:k≤4) {a b:Int} (ha:0≤a∧a<2 ^ k) (hb:0≤b∧b<2 ^ k):0≤orI a b∧orI a b<2 ^ k:=by
 have h16:(2:Int) ^ k≤16:=by
  have:k=0∨k=1∨k=2∨k=3∨k=4:=by omega
  rcases this with rfl | rfl | rfl | rfl | rfl <;> decide
 have e1:a=(a.toNat:Int):=by omega
 have e2:b=(b.toNat:Int):=by omega
 have l1:a.toNat<16:=by omega
 have l2:b.toNat<16:=by omega
 have e:=or16 ⟨a.toNat,l1⟩ ⟨b.toNat,l2⟩
 simp only at e
 rw [e1,e2,e]
 have c:((2 ^ k:Nat):Int)=2 ^ k:=by simp
 have m1:a.toNat<2 ^ k:=by omega
 have m2:b.toNat<2 ^ k:=by omega
 have:=Nat.or_lt_two_pow m1 m2
 omega
theorem shl_lt {k:Nat} (hk:k≤4) {v:Int} (h0:0≤v) (h1:v<k):0≤shlI 1 v∧shlI 1 v<2 ^ k:=by
 have h2:v=0∨v=1∨v=2∨v=3:=by omega
 have h3:k=0∨k=1∨k=2∨k=3∨k=4:=by omega
 rcases h2 with rfl | rfl | rfl | rfl <;> rcases h3 with rfl | rfl | rfl | rfl | rfl <;> first | omega | decide
def Zgl (k:Nat) (y:Zk):Prop:=0≤y.Mask∧y.Mask<2 ^ k
theorem Zbas {qa:List Atom} (hk:qa.length≤4) {x:Zb} {info:List Zk} {st:List Int} {y:Zk} (hs:StOk info st) (hm:∀ y∈info,Zgl qa.length y) (h:Zcm qa x info st=some y):Zgl qa.length y:=by
 unfold Zcm at h
 split at h
 ·split at h
  ·rename_i hc
   cases h
   have:=hc.1
   simp [inR] at this
   exact shl_lt hk this.1 (by omega)
  ·cases h
 ·split at h
  ·cases h
  ·split at h
   ·split at h
    ·rename_i s y' ht
     split at h
     ·cases h
      obtain ⟨_,_,t3,t4⟩:=Zet hs (Nat.le_refl 1) ht
      exact hm y' (List.mem_of_getElem? t4)
     ·cases h
    ·cases h
   ·split at h
    ·rename_i s y' t z ht hu
     split at h
     ·obtain ⟨_,_,_,t4⟩:=Zet hs (by omega:1≤2) ht
      obtain ⟨_,_,_,u4⟩:=Zet hs (by omega:1≤1) hu
      obtain ⟨o,ho,rfl⟩:=Option.map_eq_some_iff.1 h
      exact or_lt hk (hm y' (List.mem_of_getElem? t4)) (hm z (List.mem_of_getElem? u4))
     ·cases h
    ·cases h
theorem Zyp {qa:List Atom} (hk:qa.length≤4):∀ {xs:List Zb} {i:Nat} {info:List Zk} {st:List Int} {info':List Zk} {st':List Int},Zbm qa xs i info st=some (info',st') →
  StOk info st→info.length=i→(∀ y∈info,Zgl qa.length y)→(∀ y∈info',Zgl qa.length y)∧∃ tail,info'=info++tail∧tail.length=xs.length∧∀ (j:Nat) (y:Zk) (x:Zb),tail[j]?=some y→xs[j]?=some x→(0≤y.Right↔3≤x.Kind)
 | [],i,info,st,info',st',h,hs,hi,hm=>by
  simp [Zbm] at h
  obtain ⟨rfl,rfl⟩:=h
  exact ⟨hm,[],by simp,rfl,by intro j y x hj;simp at hj⟩
 | x::xs,i,info,st,info',st',h,hs,hi,hm=>by
  rw [Zbm] at h
  split at h
  ·cases h
  ·rename_i y hy
   have hn:=Znw hs y (st.length - pops y)
   rw [hi] at hn
   have hm2:∀ z∈info++[y],Zgl qa.length z:=by
    intro z hz
    rcases List.mem_append.1 hz with hz | hz
    ·exact hm z hz
    ·simp at hz;subst hz;exact Zbas hk hs hm hy
   obtain ⟨g1,tail,g2,g3,g4⟩:=Zyp hk h hn (by simp [hi]) hm2
   refine ⟨g1,y::tail,by simp [g2],by simp [g3],?_⟩
   intro j y' x' hj hx
   cases j with
   | zero=>simp at hj hx;subst hj;subst hx;exact (Zyn hs hy).2.2
   | succ j=>exact g4 j y' x' (by simpa using hj) (by simpa using hx)
theorem Zbat {n:Int} {qa:List Atom} {steps:List Zb} {info:List Zk} (h:Zb4 n qa steps=some info) :
  (∀ y∈info,Zgl qa.length y)∧∀ (j:Nat) (y:Zk) (x:Zb),info[j]?=some y→steps[j]?=some x→(0≤y.Right↔3≤x.Kind):=by
 have hq:=(Znx h).1
 unfold Zb4 at h
 split at h
 ·split at h
  ·rename_i info' st hg
   split at h
   ·cases h
    obtain ⟨g1,tail,g2,g3,g4⟩:=Zyp (Zbe hq).2 hg (fun s hs=>by cases hs) rfl (fun y hy=>by cases hy)
    simp at g2
    subst g2
    exact ⟨g1,g4⟩
   ·cases h
  ·cases h
 ·cases h
def cmpR:List Int→List Int→Int
 | [],[]=>0
 | [],_::_=>-1
 | _::_,[]=>1
 | a::x,b::y=>if a<b then -1 else if b<a then 1 else cmpR x y
def leR (a b:List Int):Bool:=decide (cmpR a b≤0)
def srtR (rows:List (List Int)):List (List Int):=rows.mergeSort leR
def cptR:List (List Int)→List (List Int)
 | []=>[]
 | [a]=>[a]
 | a::b::l=>if a=b then cptR (b::l) else a::cptR (b::l)
def Zyq (es:List (List T)) (rows:List (List Int)):Prop:=es=rows.map isc∧rows.length≤4096∧∀ r∈rows,r.length≤4
open Classical in
noncomputable def extS (es:List (List T)) (k:List (List Int)→AV×List Blk):Option (AV×List Blk):=if h:∃ rows,Zyq es rows then some (k h.choose) else none
noncomputable def ext:CallE:=fun f xs h0=>match xs,h0 with
 | [.own 0,.fn 331 []],[.arr 30 1 fr es]=>if f=330 then extS es fun rows=>(.tup [],[.arr 30 1 fr ((srtR rows).map isc)]) else none
 | [.own 0,.fn 333 []],[.arr 30 1 fr es]=>if f=332 then extS es fun rows=>(.own 1,[.dead,.arr 30 1 fr ((cptR rows).map isc)]) else none
 | [.t (.lst 1 [[.int .i64 (-1)]]),.t (.int .i64 n)],[]=>if f=369∧1≤n∧n≤4 then some (.own 0,[.arr 3 1 true ((List.replicate n.toNat (-1:Int)).map ic)]) else none
 | _,_=>none
open Go.ChangeShapes Go.WideShapes Go.ChangeAt Go.RowKit
theorem own:ownKnob Tryz.prog.godebug=none:=by kernel_rfl
theorem laidOut:laidOutB Tryz.prog=true:=by kernel_rfl
noncomputable def tbl:Nat→Option MFun:=fun f=>if f=330 then none else tblOf Tryz.prog [4000003,4000004,4000005,4000006,4000008,4000009,4000010,2000015,2000016,2000017,2000018,4000018,5000018,3000023,3000024,3000025,3000026,2000030,2000034,3000036,3000037,2000041,2000046,2000050,2000057,2000058,3000060,2000064,2000065,3000067,2000070,3000072,1000086,2000089,2000090,2000091,2000092,2000093,2000095,3000103,3000104,3000105,3000106,2000111,115,3000119,3000120,2000123,128,129,1000140,2000170,2000171,3000174,3000175,2000190,1000206,2000209,2000210,3000221,227,2000228,234,240,241,242,243,244,245,246,247,277,2000279,291,1000293,2000294,305,309,310,311,312,313,314,315,330,332,1000372,375,1000381,383,1000391] f
theorem tbl_ok:TblOK Tryz.prog tbl:=by
 intro f m h
 unfold tbl at h
 split at h
 ·cases h
 ·exact tblOK _ _ f m h
theorem Zh {f:Nat} {fn:Func} {m:MFun} (hf:Tryz.prog.funcs[f]?=some fn) (hc:callable Tryz.prog f=true) (h:compF Tryz.prog (inlOf [4000003,4000004,4000005,4000006,4000008,4000009,4000010,2000015,2000016,2000017,2000018,4000018,5000018,3000023,3000024,3000025,3000026,2000030,2000034,3000036,3000037,2000041,2000046,2000050,2000057,2000058,3000060,2000064,2000065,3000067,2000070,3000072,1000086,2000089,2000090,2000091,2000092,2000093,2000095,3000103,3000104,3000105,3000106,2000111,115,3000119,3000120,2000123,128,129,1000140,2000170,2000171,3000174,3000175,2000190,1000206,2000209,2000210,3000221,227,2000228,234,240,241,242,243,244,245,246,247,277,2000279,291,1000293,2000294,305,309,310,311,312,313,314,315,330,332,1000372,375,1000381,383,1000391] f) (keepsOf fn) fn=some m) (hne:f≠330:=by decide):tbl f=some m:=by
 unfold tbl
 rw [if_neg hne]
 exact tblOf_eq hf hc h
noncomputable def C:CallE:=callC ext tbl
theorem run {f:Nat} {xs:List AV} {m:MFun} (ht:tbl f=some m) (hl:xs.length=m.np) {r:AV×List Blk} (h:Ev C [.fin 0 m.res] m.body ⟨initE xs 0,[[]],[]⟩=some r):C f xs []=some r:=callC_of (h0:=[]) ht hl h
theorem runM {f:Nat} {xs:List AV} {h0:List Blk} {m:MFun} (ht:tbl f=some m) (hl:xs.length=m.np) {r:AV×List Blk} (h:Ev C [.fin h0.length m.res] m.body ⟨initE xs 0,[rootsE h0 0],h0⟩=some r):C f xs h0=some r:=callC_of ht hl h
abbrev Zbau:Nat:=5
abbrev Zbav:Nat:=11
abbrev Zbaw:Nat:=12
abbrev Zbax:Nat:=15
abbrev Zbay:Nat:=16
abbrev Zbaz:Nat:=19
abbrev Zba0:Nat:=20
abbrev Zba1:Nat:=21
abbrev Zba2:Nat:=23
abbrev Zba3:Nat:=24
abbrev Zny:Nat:=26
abbrev Zba4:Nat:=28
abbrev Zba5:Nat:=30
abbrev Zba6:Nat:=32
abbrev Zyr:Nat:=35
abbrev Zba7:Nat:=36
abbrev Zys:Nat:=37
abbrev Zyt:Nat:=38
abbrev Zba8:Nat:=74
abbrev Zba9:Nat:=75
abbrev Zbba:Nat:=76
abbrev Zbbb:Nat:=78
abbrev Zbbc:Nat:=89
abbrev Zbbd:Nat:=90
abbrev Zbbe:Nat:=91
abbrev Zbbf:Nat:=93
abbrev Zbbg:Nat:=99
abbrev Zbbh:Nat:=100
abbrev Zbbi:Nat:=102
abbrev Zbbj:Nat:=103
abbrev Zbbk:Nat:=104
abbrev Znz:Nat:=106
abbrev Zbbl:Nat:=107
abbrev Zbbm:Nat:=111
abbrev Zbbn:Nat:=114
abbrev Zyu:Nat:=118
abbrev Zbbo:Nat:=119
abbrev Zyv:Nat:=120
abbrev Zyw:Nat:=121
abbrev Zbbp:Nat:=192
abbrev Zbbq:Nat:=193
abbrev Zbbr:Nat:=209
abbrev Zbbs:Nat:=210
abbrev Zbbt:Nat:=219
abbrev Zbbu:Nat:=220
abbrev Zbbv:Nat:=221
abbrev Zrk:Nat:=222
abbrev Zbbw:Nat:=223
abbrev Zbbx:Nat:=228
abbrev Zbby:Nat:=233
abbrev Zbbz:Nat:=238
abbrev Zbb0:Nat:=294
abbrev Zbb1:Nat:=299
abbrev Zw:Nat:=3
abbrev t_bool:Nat:=4
abbrev Zh4:Nat:=30
abbrev Zyx:Nat:=209
abbrev Zn0:Nat:=264
abbrev Zn1:Nat:=277
abbrev Zeu:Nat:=307
end Go.Proofs.YtgnfoghkbpkgjaaGreat
