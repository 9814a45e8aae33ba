/-
  Parts of the proofs for this seat: TX PW EX H.
-/
import Derived.Test.YtbapkgocloaaeaaGreatRows
import Derived.Test.YtbapkgocloaaeaaGreatP4
import Derived.Test.YtbapkgocloaaeaaGreatP5
import Derived.Test.YtbapkgocloaaeaaGreatP6
set_option linter.unusedSimpArgs false
set_option linter.unusedVariables false
set_option maxRecDepth 100000
set_option maxHeartbeats 4000000
namespace Go.Proofs.YtbapkgocloaaeaaGreat
open Go.AM
@[simp] theorem Zg.map_inj (xs ys:List Zg):xs.map Zg.c=ys.map Zg.c↔xs=ys:=map_inj_of (by
 intro a b h
 simp at h
 simp [Zg.ext_iff,h])
@[simp] theorem Zg.flat (xs:List Zg):(xs.map Zg.c).all (fun x=>x.all scalar)=true:=flat_of (fun _=>rfl) xs
@[simp] theorem Zg.flat2 (xs:List Zg):xs.all ((fun x=>x.all scalar) ∘ Zg.c)=true:=flat_of' (fun _=>rfl) xs
@[simp] theorem Zi.map_inj (xs ys:List Zi):xs.map Zi.c=ys.map Zi.c↔xs=ys:=map_inj_of (by
 intro a b h
 simp at h
 simp [Zi.ext_iff,h])
@[simp] theorem Zd.map_inj (xs ys:List Zd):xs.map Zd.c=ys.map Zd.c↔xs=ys:=map_inj_of (by
 intro a b h
 simp at h
 simp [Zd.ext_iff,Zi.ext_iff,h])
@[simp] theorem Atom.map_inj (xs ys:List Atom):xs.map Atom.c=ys.map Atom.c↔xs=ys:=map_inj_of (by
 intro a b h
 simp at h
 simp [Atom.ext_iff,h])
@[simp] theorem Zc.map_inj (xs ys:List Zc):xs.map Zc.c=ys.map Zc.c↔xs=ys:=map_inj_of (by
 intro a b h
 simp at h
 simp [Zc.ext_iff,h])
@[simp] theorem Zb.map_inj (xs ys:List Zb):xs.map Zb.c=ys.map Zb.c↔xs=ys:=map_inj_of (by
 intro a b h
 simp at h
 simp [Zb.ext_iff,h])
@[simp] theorem Zb.flat (xs:List Zb):(xs.map Zb.c).all (fun x=>x.all scalar)=true:=flat_of (fun _=>rfl) xs
@[simp] theorem Zb.flat2 (xs:List Zb):xs.all ((fun x=>x.all scalar) ∘ Zb.c)=true:=flat_of' (fun _=>rfl) xs
@[simp] theorem Plan.map_inj (xs ys:List Plan):xs.map Plan.c=ys.map Plan.c↔xs=ys:=map_inj_of (by
 intro a b h
 simp at h
 simp [Plan.ext_iff,h])
@[simp] theorem Box.map_inj (xs ys:List Box):xs.map Box.c=ys.map Box.c↔xs=ys:=map_inj_of (by
 intro a b h
 simp at h
 simp [Box.ext_iff,h])
@[simp] theorem Region.map_inj (xs ys:List Region):xs.map Region.c=ys.map Region.c↔xs=ys:=map_inj_of (by
 intro a b h
 simp at h
 simp [Region.ext_iff,Plan.ext_iff,Box.ext_iff,h])
@[simp] theorem Zf.map_inj (xs ys:List Zf):xs.map Zf.c=ys.map Zf.c↔xs=ys:=map_inj_of (by
 intro a b h
 simp at h
 simp [Zf.ext_iff,Zc.ext_iff,Region.ext_iff,Plan.ext_iff,Box.ext_iff,h])
@[simp] theorem Zp.map_inj (xs ys:List Zp):xs.map Zp.c=ys.map Zp.c↔xs=ys:=map_inj_of (by
 intro a b h
 simp at h
 simp [Zp.ext_iff,h])
@[ext] structure Zh where
 Mask:Int
 Order:Int
 Left:Int
 Right:Int
 deriving DecidableEq
def Zh.c (x:Zh):List T:=[.int .i64 x.Mask,.int .i64 x.Order,.int .i64 x.Left,.int .i64 x.Right]
@[simp] theorem Zh.c_def (x:Zh):x.c=[.int .i64 x.Mask,.int .i64 x.Order,.int .i64 x.Left,.int .i64 x.Right]:=rfl
@[simp] theorem Zh.map_inj (xs ys:List Zh):xs.map Zh.c=ys.map Zh.c↔xs=ys:=map_inj_of (by
 intro a b h
 simp at h
 simp [Zh.ext_iff,h])
@[simp] theorem Zh.flat (xs:List Zh):(xs.map Zh.c).all (fun x=>x.all scalar)=true:=flat_of (fun _=>rfl) xs
@[simp] theorem Zh.flat2 (xs:List Zh):xs.all ((fun x=>x.all scalar) ∘ Zh.c)=true:=flat_of' (fun _=>rfl) xs
@[ext] structure Za where
 Mask:Int
 Order:Int
 Cost:Int
 Plan:Plan
 deriving DecidableEq
def Za.c (x:Za):List T:=[.int .i64 x.Mask,.int .i64 x.Order,.int .i64 x.Cost,.lst 3 (x.Plan.Steps.map Zb.c)]
@[simp] theorem Za.c_def (x:Za):x.c=[.int .i64 x.Mask,.int .i64 x.Order,.int .i64 x.Cost,.lst 3 (x.Plan.Steps.map Zb.c)]:=rfl
@[simp] theorem Za.map_inj (xs ys:List Za):xs.map Za.c=ys.map Za.c↔xs=ys:=map_inj_of (by
 intro a b h
 simp at h
 simp [Za.ext_iff,Plan.ext_iff,h])
@[ext] structure Zv where
 mask:Int
 Zr:List Int
 shared:List (List Int)
 deriving DecidableEq
def Zv.c (x:Zv):List T:=[.int .i64 x.mask,.lst 1 (x.Zr.map ic),.lst 1 (x.shared.map isc)]
@[simp] theorem Zv.c_def (x:Zv):x.c=[.int .i64 x.mask,.lst 1 (x.Zr.map ic),.lst 1 (x.shared.map isc)]:=rfl
@[simp] theorem Zv.map_inj (xs ys:List Zv):xs.map Zv.c=ys.map Zv.c↔xs=ys:=map_inj_of (by
 intro a b h
 simp at h
 simp [Zv.ext_iff,h])
def inR (a b c:Int):Bool:=decide (b≤a∧a≤c)
def Zbn (c:Int):Int:=if c<0 then -1 else if c=0 then 0 else if c=1 then 1 else if c=2 then 4 else if c=3 then 16 else if c=4 then 64 else if c=5 then 256 else if c=6 then 1024 else if c=7 then 4096 else -1
theorem cls8 {c:Int} (h:inR c 0 7=true):c=0∨c=1∨c=2∨c=3∨c=4∨c=5∨c=6∨c=7:=by
 simp [inR] at h;omega
theorem Zws {c:Int} (h:inR c 0 7=false):Zbn c=-1:=by
 simp [inR] at h
 unfold Zbn
 split
 ·rfl
 ·repeat' split
  all_goals omega
theorem Zkn {α:Type} (p:α→Bool) {xs:List α} {i:Nat} (h:i<xs.length):(xs.drop i).all p=(p xs[i] && (xs.drop (i+1)).all p):=by
 rw [List.drop_eq_getElem_cons h,List.all_cons]
theorem drop_any {α:Type} (p:α→Bool) {xs:List α} {i:Nat} (h:i<xs.length):(xs.drop i).any p=(p xs[i] || (xs.drop (i+1)).any p):=by
 rw [List.drop_eq_getElem_cons h,List.any_cons]
def Zbo (xs:List Int):Bool:=xs.all (fun x=>inR x 0 7)
def Z9 (xs:List Int):Bool:=Zbo xs && decide ((xs.length:Int)≤16)
theorem Zwt {xs:List Int} {i:Nat} (h:i<xs.length):Zbo (xs.drop i)=(inR xs[i] 0 7 && Zbo (xs.drop (i+1))):=Zkn _ h
def Z3:List Int→List Int→Bool
 | x::xs,y::ys=>decide (y≤x) && Z3 xs ys
 | _,_=>true
def dom (xs ys:List Int):Bool:=decide (xs.length=ys.length) && Z3 xs ys
theorem Zwu {xs ys:List Int} {i:Nat} (h:i<xs.length) (h':i<ys.length):Z3 (xs.drop i) (ys.drop i)=(decide (ys[i]≤xs[i]) && Z3 (xs.drop (i+1)) (ys.drop (i+1))):=by
 rw [List.drop_eq_getElem_cons h,List.drop_eq_getElem_cons h',Z3]
def Zbf (lo hi:List Int):Bool:=decide (0<lo.length) && Z9 lo && Z9 hi && dom hi lo
def inBox (lo hi l:List Int):Bool:=Zbf lo hi && dom l lo && dom hi l
def bit4 (a b c d:Bool):Int:=(if a then 1 else 0)+(if b then 2 else 0)+(if c then 4 else 0)+(if d then 8 else 0)
def Z0 (p:Nat→Bool):Int:=bit4 (p 0) (p 1) (p 2) (p 3)
theorem in4 {v:Int} (h:inR v 0 3=true):v=0∨v=1∨v=2∨v=3:=by simp [inR] at h;omega
def has (xs:List Int) (v:Int):Bool:=xs.any (fun x=>decide (v=x))
theorem Zfz {xs:List Int} {v:Int}:has xs v=true↔v∈xs:=by
 simp only [has,List.any_eq_true,decide_eq_true_eq]
 exact ⟨fun ⟨x,h,e⟩=>e ▸ h,fun h=>⟨v,h,rfl⟩⟩
def addV (p:Nat→Bool) (vs:List Int):Nat→Bool:=fun u=>p u || has vs u
theorem Zql (p:Nat→Bool):addV p []=p:=by funext u;simp [addV,has]
theorem Z8d (p:Nat→Bool) (v:Int) (vs:List Int):addV (addV p [v]) vs=addV p (v::vs):=by funext u;simp [addV,has,Bool.or_assoc]
theorem Zqm (p:Nat→Bool) {vs:List Int} {i:Nat} (h:i<vs.length):addV p (vs.drop i)=addV (addV p [vs[i]]) (vs.drop (i+1)):=by
 rw [List.drop_eq_getElem_cons h,Z8d]
theorem or_d:∀ a b c d:Bool,orI (bit4 a b c d) 1=bit4 true b c d∧orI (bit4 a b c d) 2=bit4 a true c d∧orI (bit4 a b c d) 4=bit4 a b true d∧orI (bit4 a b c d) 8=bit4 a b c true:=by decide
theorem Zny (p:Nat→Bool) {v:Int} (h:inR v 0 3=true):orI (Z0 p) (shlI 1 v)=Z0 (addV p [v]):=by
 have q:=or_d (p 0) (p 1) (p 2) (p 3)
 rcases in4 h with rfl | rfl | rfl | rfl <;> simp [addV,has,Z0,shlI,wrap64,q]
theorem and_d:∀ a b c d:Bool,(andI (shrI (bit4 a b c d) 0) 1=1↔a=true)∧(andI (shrI (bit4 a b c d) 1) 1=1↔b=true)∧(andI (shrI (bit4 a b c d) 2) 1=1↔c=true)∧(andI (shrI (bit4 a b c d) 3) 1=1↔d=true):=by decide
theorem at_bit (p:Nat→Bool) {v:Int} (h:inR v 0 3=true):andI (shrI (Z0 p) v) 1=1↔p v.toNat=true:=by
 have q:=and_d (p 0) (p 1) (p 2) (p 3)
 rcases in4 h with rfl | rfl | rfl | rfl <;> simp [Z0,q]
theorem and4:∀ a b c d a' b' c' d':Bool,andI (bit4 a b c d) (bit4 a' b' c' d')=bit4 (a && a') (b && b') (c && c') (d && d'):=by decide
theorem Zwv (p q:Nat→Bool):andI (Z0 p) (Z0 q)=Z0 (fun u=>p u && q u):=and4 _ _ _ _ _ _ _ _
theorem zero4:∀ a b c d:Bool,bit4 a b c d=0↔(a=false∧b=false∧c=false∧d=false):=by decide
theorem Z8e (p:Nat→Bool):Z0 p=0↔∀ u,u<4→p u=false:=by
 rw [Z0,zero4]
 constructor
 ·rintro ⟨h0,h1,h2,h3⟩ u hu
  match u,hu with
  | 0,_=>exact h0
  | 1,_=>exact h1
  | 2,_=>exact h2
  | 3,_=>exact h3
 ·intro h;exact ⟨h 0 (by omega),h 1 (by omega),h 2 (by omega),h 3 (by omega)⟩
def Zcv {α:Type} (p:α→Bool):List α→Nat→Int
 | [],_=>-1
 | x::xs,i=>if p x=true then i else Zcv p xs (i+1)
theorem Zww {α:Type} (p:α→Bool) {xs:List α} {i:Nat} (h:i<xs.length):Zcv p (xs.drop i) i=if p xs[i]=true then (i:Int) else Zcv p (xs.drop (i+1)) (i+1):=by
 rw [List.drop_eq_getElem_cons h,Zcv]
theorem Zwx {α:Type} (p:α→Bool) (xs:List α):∀ i,xs.any p=false→Zcv p xs i=-1:=by
 induction xs with
 | nil=>intro i _;rfl
 | cons x xs ih=>intro i h;simp at h;simp [Zcv,h];apply ih;simp;exact h.2
theorem Zwy {α:Type} (p:α→Bool) (xs:List α):∀ i,xs.any p=true→0≤Zcv p xs i:=by
 induction xs with
 | nil=>intro i h;simp at h
 | cons x xs ih =>
  intro i h
  unfold Zcv
  split
  ·omega
  ·rename_i hx;simp only [List.any_cons,hx,Bool.false_or] at h;exact ih _ h
abbrev tB (xs:List Bool):T:=.lst 1 (xs.map fun b=>[T.bool b])
def nmOk (s:ByteArray):Bool:=match s[0]? with
 | some b=>decide (s.size=1) && decide (97≤(b.toNat:Int)) && decide ((b.toNat:Int)≤122)
 | none=>false
theorem get0 {s:ByteArray} (h:s.size=1):∃ b,s[0]?=some b:=⟨s[0],getElem?_pos s 0 (by omega)⟩
def Zc7 (n:Int) (pre:List Int):List Int→Bool
 | []=>true
 | v::rest=>inR v 0 (n - 1) && !has pre v && Zc7 n (pre++[v]) rest
theorem Zwz (n:Int) {vs:List Int} {k:Nat} (h:k<vs.length):Zc7 n (vs.take k) (vs.drop k)=(inR vs[k] 0 (n - 1) && !has (vs.take k) vs[k] && Zc7 n (vs.take (k+1)) (vs.drop (k+1))):=by
 conv=>lhs;rw [List.drop_eq_getElem_cons h,Zc7]
 rw [List.take_add_one,List.getElem?_eq_getElem h]
 rfl
theorem Zqn {n:Int}:∀ {vs pre:List Int},Zc7 n pre vs=true→∀ v∈vs,inR v 0 (n - 1)=true
 | [],_,_,v,hv=>by cases hv
 | x::xs,pre,h,v,hv=>by
  simp only [Zc7,Bool.and_eq_true] at h
  cases hv with
  | head=>exact h.1.1
  | tail _ hv=>exact Zqn h.2 v hv
def Zbw (n:Int) (a:Atom):Bool:=nmOk a.Name && inR a.Vars.length 1 3 && Zc7 n [] a.Vars
def addA (p:Nat→Bool) (qa:List Atom):Nat→Bool:=fun u=>p u || qa.any fun a=>has a.Vars u
theorem Zw0 (p:Nat→Bool) {qa:List Atom} {i:Nat} (h:i<qa.length):addA p (qa.drop i)=addA (addV p qa[i].Vars) (qa.drop (i+1)):=by
 rw [List.drop_eq_getElem_cons h];funext u;simp only [addA,List.any_cons,addV,Bool.or_assoc]
def Zn (n:Int) (qa:List Atom):Bool :=
 inR n 1 4 && inR qa.length 1 4 && qa.all (Zbw n) && (List.range n.toNat).all (addA (fun _=>false) qa)
def bl (p:Nat→Bool) (n:Nat):List (List T):=(List.range n).map fun u=>[T.bool (p u)]
@[simp] theorem bl_get (p:Nat→Bool) (n i:Nat) (h:i<(bl p n).length):(bl p n)[i]=[T.bool (p i)]:=by simp [bl]
theorem bl_any (p:Nat→Bool) (n:Nat):((List.range n).map p).any (fun x=>false == x)=!(List.range n).all p:=by
 rw [List.any_map,Bool.eq_iff_iff]
 simp
theorem Znz:∀ a b c d:Bool,(bit4 a b c d=1↔(a=true∧b=false∧c=false∧d=false))∧(bit4 a b c d=3↔(a=true∧b=true∧c=false∧d=false))∧(bit4 a b c d=7↔(a=true∧b=true∧c=true∧d=false))∧(bit4 a b c d=15↔(a=true∧b=true∧c=true∧d=true)):=by decide
theorem all_in {n:Int} {qa:List Atom} (h:qa.all (Zbw n)=true):∀ u:Int,n≤u→qa.any (fun a=>has a.Vars u)=false:=by
 intro u hu
 rw [List.any_eq_false]
 intro a ha hc
 rw [Zfz] at hc
 have:=List.all_eq_true.1 h a ha
 simp only [Zbw,Bool.and_eq_true] at this
 have:=Zqn this.2 _ hc
 simp [inR] at this
 omega
def Zw (n:Int) (qa:List Atom):Int:=if Zn n qa=true then shlI 1 qa.length - 1 else 0
theorem Zhj {n:Int} {qa:List Atom} (h:Zn n qa=true):(qa.length=1∨qa.length=2∨qa.length=3∨qa.length=4)∧shlI 1 qa.length=2 ^ qa.length∧IntKind.wrap .i64 (shlI 1 qa.length - 1)=shlI 1 qa.length - 1∧IntKind.wrap .i64 (shlI 1 qa.length - 1+1)=shlI 1 qa.length - 1+1:=by
 simp only [Zn,Bool.and_eq_true] at h
 have h2:=h.1.1.2
 simp [inR] at h2
 have h3:qa.length=1∨qa.length=2∨qa.length=3∨qa.length=4:=by omega
 refine ⟨h3,?_⟩
 rcases h3 with h3 | h3 | h3 | h3 <;> rw [h3] <;> decide
theorem Zn0 (n:Int) (qa:List Atom):IntKind.wrap .i64 (Zw n qa+1)=Zw n qa+1:=by
 unfold Zw
 split
 ·rename_i h;exact (Zhj h).2.2.2
 ·decide
def Zje (n:Int) (qa:List Atom) (lo hi:List Int):Bool:=Zbf lo hi && decide ((lo.length:Int)=Zw n qa+1)
def Zu (m:Int) (i:Nat):Bool:=decide (andI (shrI m i) 1=1)
def hasV (m:Int):List Atom→Nat→Int→Bool
 | [],_,_=>false
 | a::as',i,u=>(Zu m i && has a.Vars u) || hasV m as' (i+1) u
theorem Zqo (m:Int) {qa:List Atom} {i:Nat} (h:i<qa.length) (u:Int):hasV m (qa.drop i) i u=((Zu m i && has qa[i].Vars u) || hasV m (qa.drop (i+1)) (i+1) u):=by
 rw [List.drop_eq_getElem_cons h,hasV]
def pV (m:Int) (qa:List Atom):Nat→Bool:=fun u=>hasV m qa 0 u
def Var4 (qa:List Atom):Prop:=∀ a∈qa,∀ v∈a.Vars,inR v 0 3=true
theorem Zn1 {n:Int} {qa:List Atom} (h:Zn n qa=true):∀ a∈qa,∀ v∈a.Vars,inR v 0 (n - 1)=true:=by
 intro a ha v hv
 simp only [Zn,Bool.and_eq_true] at h
 have:=List.all_eq_true.1 h.1.2 a ha
 simp only [Zbw,Bool.and_eq_true] at this
 exact Zqn this.2 v hv
theorem Zde {n:Int} {qa:List Atom} (h:Zn n qa=true):1≤n∧n≤4:=by
 simp only [Zn,Bool.and_eq_true] at h
 have:=h.1.1.1
 simpa [inR] using this
theorem Zbu {n:Int} {qa:List Atom} (h:Zn n qa=true):1≤qa.length∧qa.length≤4:=by
 simp only [Zn,Bool.and_eq_true] at h
 have:=h.1.1.2
 simp [inR] at this
 omega
theorem Zjf {n:Int} {qa:List Atom} (h:Zn n qa=true):∀ a∈qa,1≤a.Vars.length∧a.Vars.length≤3:=by
 intro a ha
 simp only [Zn,Bool.and_eq_true] at h
 have:=List.all_eq_true.1 h.1.2 a ha
 simp only [Zbw,Bool.and_eq_true] at this
 have:=this.1.2
 simp [inR] at this
 omega
theorem Zhk {n:Int} {qa:List Atom} (h:Zn n qa=true):Var4 qa:=by
 intro a ha v hv
 have:=Zn1 h a ha v hv
 have h2:=Zde h
 simp [inR] at this ⊢
 omega
def addM (m:Int) (p:Nat→Bool) (qa:List Atom) (i:Nat):Nat→Bool:=fun u=>p u || hasV m (qa.drop i) i u
theorem Z8f (m:Int) (p:Nat→Bool) {qa:List Atom} {i:Nat} (h:i<qa.length):addM m p qa i=addM m (if Zu m i=true then addV p qa[i].Vars else p) qa (i+1):=by
 funext u
 rw [addM,Zqo _ h]
 rcases tf (Zu m i) with e | e <;> simp [addM,addV,e,Bool.or_assoc]
def varL (m:Int) (qa:List Atom) (k:Nat):List Int:=((List.range k).filter (pV m qa)).map fun u:Nat=>(u:Int)
theorem Z8g (m:Int) (qa:List Atom) (k:Nat):varL m qa (k+1)=varL m qa k++if hasV m qa 0 k=true then [(k:Int)] else []:=by
 unfold varL
 rw [List.range_succ,List.filter_append,List.map_append]
 rcases tf (hasV m qa 0 k) with e | e <;> simp [pV,e]
theorem Zjg (m:Int) (qa:List Atom) (k:Nat):(varL m qa k).length≤k:=by
 unfold varL
 simp
 exact Nat.le_trans (List.length_filter_le _ _) (by simp)
theorem Zqp {α:Type} (p:α→Bool) {xs:List α} {i:Nat} (h:i<xs.length):(xs.take (i+1)).filter p=(xs.take i).filter p++if p xs[i]=true then [xs[i]] else []:=by
 rw [List.take_add_one,List.getElem?_eq_getElem h,List.filter_append]
 rcases tf (p xs[i]) with e | e <;> simp [e]
def vin (qa:List Atom) (m v:Int):Bool:=inR v 0 3 && pV m qa v.toNat
def shr (qa:List Atom) (a b:Int):Bool:=(List.range 4).any fun u=>pV a qa u && pV b qa u
def Zbh (st:List Int) (info:List Zh) (k:Nat):Option (Int×Zh):=if k≤st.length then (match st[st.length - k]? with
 | some s=>(info[s.toNat]?).map (s,·)
 | none=>none) else none
def Zby (qa:List Atom) (x:Zb) (y z:Zh):Option Int :=
 if x.Kind=3∧x.Order=0 then some (-1)
 else if x.Kind=5∧x.Order=0 then some y.Order
 else if x.Kind=4∧vin qa y.Mask x.Order=true∧vin qa z.Mask x.Order=true∧y.Order=x.Order∧z.Order=x.Order then some x.Order
 else none
def Zb9 (qa:List Atom) (x:Zb) (info:List Zh) (st:List Int):Option Zh :=
 if x.Kind=1 then (if inR x.Atom 0 (qa.length - 1)=true∧x.Order=0 then some ⟨shlI 1 x.Atom,(match qa[x.Atom.toNat]? with | some a=>a.Vars.headD 0 | none=>0),-1,-1⟩ else none)
 else if x.Atom≠0 then none
 else if x.Kind=2 then (match Zbh st info 1 with
  | some (s,y)=>if vin qa y.Mask x.Order=true∧y.Order≠x.Order then some ⟨y.Mask,x.Order,s,-1⟩ else none
  | none=>none)
 else match Zbh st info 2,Zbh st info 1 with
  | some (s,y),some (t,z)=>if andI y.Mask z.Mask=0∧shr qa y.Mask z.Mask=true then (Zby qa x y z).map (⟨orI y.Mask z.Mask,·,s,t⟩) else none
  | _,_=>none
def StOk (info:List Zh) (st:List Int):Prop:=∀ s∈st,0≤s∧s.toNat<info.length
theorem Zhl {info:List Zh} {st:List Int} (h:StOk info st) {k:Nat} (h1:1≤k) (h2:k≤st.length) :
  ∃ s y,Zbh st info k=some (s,y)∧st[st.length - k]?=some s∧0≤s∧info[s.toNat]?=some y:=by
 have hlt:st.length - k<st.length:=by omega
 obtain ⟨h3,h4⟩:=h _ (List.getElem_mem hlt)
 refine ⟨st[st.length - k],info[(st[st.length - k]).toNat],?_,List.getElem?_eq_getElem hlt,h3,List.getElem?_eq_getElem h4⟩
 simp [Zbh,h2,List.getElem?_eq_getElem hlt,List.getElem?_eq_getElem h4]
theorem pV_lt {n:Int} {qa:List Atom} (h:Zn n qa=true) {m:Int} {u:Nat} (hp:pV m qa u=true):(u:Int)<n:=by
 have:∀ (l:List Atom) (i:Nat),(∀ a∈l,a∈qa)→hasV m l i u=true→(u:Int)<n:=by
  intro l
  induction l with
  | nil=>intro i _ hh;simp [hasV] at hh
  | cons a l ih =>
   intro i hs hh
   simp only [hasV,Bool.or_eq_true,Bool.and_eq_true] at hh
   rcases hh with hh | hh
   ·have:=Zn1 h a (hs a (by simp)) u (Zfz.1 hh.2)
    simp [inR] at this
    omega
   ·exact ih (i+1) (fun b hb=>hs b (by simp [hb])) hh
 exact this qa 0 (fun a ha=>ha) hp
theorem Zko {n:Int} {qa:List Atom} (h:Zn n qa=true) (m v:Int):has (varL m qa n.toNat) v=vin qa m v:=by
 have hn:=Zde h
 rw [Bool.eq_iff_iff,Zfz]
 simp only [varL,List.mem_map,List.mem_filter,List.mem_range,vin,Bool.and_eq_true]
 constructor
 ·rintro ⟨u,⟨h1,h2⟩,rfl⟩
  refine ⟨by simp [inR];omega,by simpa using h2⟩
 ·rintro ⟨h1,h2⟩
  have h3:=pV_lt h h2
  simp [inR] at h1
  exact ⟨v.toNat,⟨by omega,h2⟩,by omega⟩
theorem Z8h {n:Int} {qa:List Atom} (h:Zn n qa=true) (a b:Int):((varL a qa n.toNat).filter (has (varL b qa n.toNat))).length=0↔shr qa a b=false:=by
 have hn:=Zde h
 rw [List.length_eq_zero_iff,List.filter_eq_nil_iff,shr,List.any_eq_false]
 simp only [Zko h]
 constructor
 ·intro hh u hu
  simp only [List.mem_range] at hu
  simp only [Bool.and_eq_true,not_and]
  intro h1 h2
  have h3:=pV_lt h h1
  refine hh (u:Int) ?_ ?_
  ·simp only [varL,List.mem_map,List.mem_filter,List.mem_range]
   exact ⟨u,⟨by omega,h1⟩,rfl⟩
  ·simp only [vin,Bool.and_eq_true]
   exact ⟨by simp [inR];omega,by simpa using h2⟩
 ·intro hh v hv
  simp only [varL,List.mem_map,List.mem_filter,List.mem_range] at hv
  obtain ⟨u,⟨h1,h2⟩,rfl⟩:=hv
  have:=hh u (by simp only [List.mem_range];omega)
  simp only [Bool.and_eq_true,not_and] at this
  simp only [vin,Bool.and_eq_true,not_and]
  intro _
  simpa using this h2
theorem Z8i {n:Int} {qa:List Atom} (h:Zn n qa=true) (a b v:Int):has ((varL a qa n.toNat).filter (has (varL b qa n.toNat))) v=(vin qa a v && vin qa b v):=by
 rw [Bool.eq_iff_iff,Zfz,List.mem_filter,← Zfz,Zko h,Zko h,Bool.and_eq_true]
theorem Zqq (qa:List Atom) (a b:Int):andI (Z0 (pV a qa)) (Z0 (pV b qa))=0↔shr qa a b=false:=by
 rw [Zwv,Z8e,shr,List.any_eq_false]
 simp
def popsI (x:Zb):Int:=if x.Kind=1 then 0 else if x.Kind=2 then 1 else 2
theorem hd0 {xs:List Int} (h:0<xs.length):xs.head?.getD 0=xs[0]:=by cases xs with | nil=>simp at h | cons x xs=>rfl
def pops (y:Zh):Nat:=if 0≤y.Right then 2 else if 0≤y.Left then 1 else 0
def Zbi (qa:List Atom):List Zb→Nat→List Zh→List Int→Option (List Zh×List Int)
 | [],_,info,st=>some (info,st)
 | x::xs,i,info,st=>match Zb9 qa x info st with
  | none=>none
  | some y=>Zbi qa xs (i+1) (info++[y]) (st.take (st.length - pops y)++[(i:Int)])
theorem Zw1 (qa:List Atom) {xs:List Zb} {i:Nat} (h:i<xs.length) (info:List Zh) (st:List Int):Zbi qa (xs.drop i) i info st=match Zb9 qa xs[i] info st with
  | none=>none
  | some y=>Zbi qa (xs.drop (i+1)) (i+1) (info++[y]) (st.take (st.length - pops y)++[(i:Int)]):=by
 rw [List.drop_eq_getElem_cons h,Zbi]
def Zbj (n:Int) (qa:List Atom) (steps:List Zb):Option (List Zh) :=
 if Zn n qa=true∧inR steps.length 1 14=true then (match Zbi qa steps 0 [] [] with
  | some (info,st)=>if st.length=1 then some info else none
  | none=>none) else none
theorem Zey {st:List Int} {info:List Zh} {k:Nat} {s:Int} {y:Zh} (hs:StOk info st) (h1:1≤k) (h:Zbh st info k=some (s,y)):k≤st.length∧0≤s∧s.toNat<info.length∧info[s.toNat]?=some y:=by
 have hk:k≤st.length:=by
  unfold Zbh at h
  split at h
  ·assumption
  ·cases h
 obtain ⟨s',y',q1,q2,q3,q4⟩:=Zhl hs h1 hk
 rw [q1] at h
 cases h
 exact ⟨hk,q3,(List.getElem?_eq_some_iff.1 q4).1,q4⟩
theorem Zqr {qa:List Atom} {x:Zb} {info:List Zh} {st:List Int} {y:Zh} (hs:StOk info st) (h:Zb9 qa x info st=some y) :
  popsI x=pops y∧pops y≤st.length∧(0≤y.Right↔3≤x.Kind):=by
 unfold Zb9 at h
 unfold popsI pops
 split at h
 ·rename_i k1
  split at h
  ·cases h;simp [k1]
  ·cases h
 ·rename_i k1
  split at h
  ·cases h
  ·split at h
   ·rename_i k2
    split at h
    ·rename_i s y' ht
     split at h
     ·cases h
      obtain ⟨t1,t2,_⟩:=Zey hs (Nat.le_refl 1) ht
      simp [k2,t2,t1]
     ·cases h
    ·cases h
   ·rename_i k2
    split at h
    ·rename_i s y' t z ht hu
     split at h
     ·obtain ⟨t1,t2,_⟩:=Zey hs (by omega:1≤2) ht
      obtain ⟨u1,u2,_⟩:=Zey hs (by omega:1≤1) hu
      obtain ⟨o,ho,rfl⟩:=Option.map_eq_some_iff.1 h
      have hk:x.Kind=3∨x.Kind=4∨x.Kind=5:=by
       unfold Zby at ho
       split at ho
       ·omega
       ·split at ho
        ·omega
        ·split at ho
         ·omega
         ·cases ho
      simp only [u2,if_true,k1,k2,if_false]
      refine ⟨rfl,t1,?_⟩
      simp;omega
     ·cases h
    ·cases h
theorem Zkp {info:List Zh} {st:List Int} (hs:StOk info st) (y:Zh) (k:Nat):StOk (info++[y]) (st.take k++[(info.length:Int)]):=by
 intro s h
 rcases List.mem_append.1 h with h | h
 ·obtain ⟨h1,h2⟩:=hs s (List.mem_of_mem_take h)
  exact ⟨h1,by simp;omega⟩
 ·simp at h
  subst h
  simp
theorem st_len {st:List Int} {i k:Nat} (h:st.length≤i) (x:Int):(st.take k++[x]).length≤i+1:=by simp;omega
theorem Zw2 {qa:List Atom}:∀ {xs:List Zb} {i:Nat} {info:List Zh} {st:List Int} {info':List Zh} {st':List Int},Zbi qa xs i info st=some (info',st')→info'.length=info.length+xs.length
 | [],_,_,_,_,_,h=>by simp [Zbi] at h;simp [h.1]
 | x::xs,i,info,st,info',st',h=>by
  rw [Zbi] at h
  split at h
  ·cases h
  ·have:=Zw2 h
   simp at this ⊢
   omega
theorem Zhm {n:Int} {qa:List Atom} {steps:List Zb} {info:List Zh} (h:Zbj n qa steps=some info):Zn n qa=true∧info.length=steps.length∧1≤steps.length∧steps.length≤14:=by
 unfold Zbj at h
 split at h
 ·rename_i hc
  have h2:=hc.2
  simp [inR] at h2
  split at h
  ·rename_i info' st hg
   split at h
   ·cases h
    have:=Zw2 hg
    simp at this
    exact ⟨hc.1,this,by omega,by omega⟩
   ·cases h
  ·cases h
 ·cases h
def Zf0 (n:Int) (qa:List Atom) (steps:List Zb):Int:=match Zbj n qa steps with
 | some info=>match info[info.length - 1]? with
  | some y=>y.Mask
  | none=>0
 | none=>0
def Zf1 (n:Int) (qa:List Atom) (steps:List Zb) (lo hi:List Int) (pc:Int):Bool :=
 Zn n qa && Zje n qa lo hi && decide (Zf0 n qa steps=Zw n qa) && inR pc 100 1000
theorem Zqs {n:Int} {qa:List Atom} (h:Zn n qa=true):0<Zw n qa:=by
 obtain ⟨h1,h2,_⟩:=Zhj h
 unfold Zw
 rw [if_pos h,h2]
 rcases h1 with h1 | h1 | h1 | h1 <;> rw [h1] <;> decide
theorem or16:∀ a b:Fin 16,orI (a.1:Int) (b.1:Int)=((a.1 ||| b.1:Nat):Int):=by decide
theorem or_lt {k:Nat} (hk:k≤4) {a b:Int} (ha:0≤a∧a<2 ^ k) (hb:0≤b∧b<2 ^ k):0≤orI a b∧orI a b<2 ^ k:=by
 have h16:(2:Int) ^ k≤16:=by
  have:k=0∨k=1∨k=2∨k=3∨k=4:=by omega
  rcases this with rfl | rfl | rfl | rfl | rfl <;> decide
 have e1:a=(a.toNat:Int):=by omega
 have e2:b=(b.toNat:Int):=by omega
 have l1:a.toNat<16:=by omega
 have l2:b.toNat<16:=by omega
 have e:=or16 ⟨a.toNat,l1⟩ ⟨b.toNat,l2⟩
 simp only at e
 rw [e1,e2,e]
 have c:((2 ^ k:Nat):Int)=2 ^ k:=by simp
 have m1:a.toNat<2 ^ k:=by omega
 have m2:b.toNat<2 ^ k:=by omega
 have:=Nat.or_lt_two_pow m1 m2
 omega
theorem shl_lt {k:Nat} (hk:k≤4) {v:Int} (h0:0≤v) (h1:v<k):0≤shlI 1 v∧shlI 1 v<2 ^ k:=by
 have h2:v=0∨v=1∨v=2∨v=3:=by omega
 have h3:k=0∨k=1∨k=2∨k=3∨k=4:=by omega
 rcases h2 with rfl | rfl | rfl | rfl <;> rcases h3 with rfl | rfl | rfl | rfl | rfl <;> first | omega | decide
def Zhn (k:Nat) (y:Zh):Prop:=0≤y.Mask∧y.Mask<2 ^ k
theorem Z8j {qa:List Atom} (hk:qa.length≤4) {x:Zb} {info:List Zh} {st:List Int} {y:Zh} (hs:StOk info st) (hm:∀ y∈info,Zhn qa.length y) (h:Zb9 qa x info st=some y):Zhn qa.length y:=by
 unfold Zb9 at h
 split at h
 ·split at h
  ·rename_i hc
   cases h
   have:=hc.1
   simp [inR] at this
   exact shl_lt hk this.1 (by omega)
  ·cases h
 ·split at h
  ·cases h
  ·split at h
   ·split at h
    ·rename_i s y' ht
     split at h
     ·cases h
      obtain ⟨_,_,t3,t4⟩:=Zey hs (Nat.le_refl 1) ht
      exact hm y' (List.mem_of_getElem? t4)
     ·cases h
    ·cases h
   ·split at h
    ·rename_i s y' t z ht hu
     split at h
     ·obtain ⟨_,_,_,t4⟩:=Zey hs (by omega:1≤2) ht
      obtain ⟨_,_,_,u4⟩:=Zey hs (by omega:1≤1) hu
      obtain ⟨o,ho,rfl⟩:=Option.map_eq_some_iff.1 h
      exact or_lt hk (hm y' (List.mem_of_getElem? t4)) (hm z (List.mem_of_getElem? u4))
     ·cases h
    ·cases h
theorem Zw3 {qa:List Atom} (hk:qa.length≤4):∀ {xs:List Zb} {i:Nat} {info:List Zh} {st:List Int} {info':List Zh} {st':List Int},Zbi qa xs i info st=some (info',st') →
  StOk info st→info.length=i→(∀ y∈info,Zhn qa.length y)→(∀ y∈info',Zhn qa.length y)∧∃ tail,info'=info++tail∧tail.length=xs.length∧∀ (j:Nat) (y:Zh) (x:Zb),tail[j]?=some y→xs[j]?=some x→(0≤y.Right↔3≤x.Kind)
 | [],i,info,st,info',st',h,hs,hi,hm=>by
  simp [Zbi] at h
  obtain ⟨rfl,rfl⟩:=h
  exact ⟨hm,[],by simp,rfl,by intro j y x hj;simp at hj⟩
 | x::xs,i,info,st,info',st',h,hs,hi,hm=>by
  rw [Zbi] at h
  split at h
  ·cases h
  ·rename_i y hy
   have hn:=Zkp hs y (st.length - pops y)
   rw [hi] at hn
   have hm2:∀ z∈info++[y],Zhn qa.length z:=by
    intro z hz
    rcases List.mem_append.1 hz with hz | hz
    ·exact hm z hz
    ·simp at hz;subst hz;exact Z8j hk hs hm hy
   obtain ⟨g1,tail,g2,g3,g4⟩:=Zw3 hk h hn (by simp [hi]) hm2
   refine ⟨g1,y::tail,by simp [g2],by simp [g3],?_⟩
   intro j y' x' hj hx
   cases j with
   | zero=>simp at hj hx;subst hj;subst hx;exact (Zqr hs hy).2.2
   | succ j=>exact g4 j y' x' (by simpa using hj) (by simpa using hx)
theorem Zw4 {n:Int} {qa:List Atom} {steps:List Zb} {info:List Zh} (h:Zbj n qa steps=some info) :
  (∀ y∈info,Zhn qa.length y)∧∀ (j:Nat) (y:Zh) (x:Zb),info[j]?=some y→steps[j]?=some x→(0≤y.Right↔3≤x.Kind):=by
 have hq:=(Zhm h).1
 unfold Zbj at h
 split at h
 ·split at h
  ·rename_i info' st hg
   split at h
   ·cases h
    obtain ⟨g1,tail,g2,g3,g4⟩:=Zw3 (Zbu hq).2 hg (fun s hs=>by cases hs) rfl (fun y hy=>by cases hy)
    simp at g2
    subst g2
    exact ⟨g1,g4⟩
   ·cases h
  ·cases h
 ·cases h
theorem dom_len {a b:List Int} (h:dom a b=true):a.length=b.length:=by
 simp only [dom,Bool.and_eq_true,decide_eq_true_eq] at h
 exact h.1
def vol:List Int→List Int→Int
 | l::ls,h::hs=>(h - l+1)*vol ls hs
 | _,_=>1
theorem Zw5:vol [] []=1:=rfl
theorem Zw6 {lo hi:List Int} {i:Nat} (h:i<lo.length) (h':i<hi.length):vol (lo.drop i) (hi.drop i)=(hi[i] - lo[i]+1)*vol (lo.drop (i+1)) (hi.drop (i+1)):=by
 rw [List.drop_eq_getElem_cons h,List.drop_eq_getElem_cons h',vol]
def capV (v:Int):Int:=if 401<v then 401 else v
theorem Zw7:∀ {xs ys:List Int} (h:Z3 xs ys=true) (i:Nat) (h1:i<xs.length) (h2:i<ys.length),ys[i]≤xs[i]
 | x::xs,y::ys,h,0,_,_=>by simp only [Z3,Bool.and_eq_true,decide_eq_true_eq] at h;exact h.1
 | x::xs,y::ys,h,i+1,h1,h2=>by
  simp only [Z3,Bool.and_eq_true,decide_eq_true_eq] at h
  exact Zw7 h.2 i (by simpa using h1) (by simpa using h2)
theorem Zw8 {lo hi:List Int} (h:Zbf lo hi=true):hi.length=lo.length∧1≤lo.length∧lo.length≤16∧∀ (i:Nat) (h1:i<lo.length) (h2:i<hi.length),0≤lo[i]∧lo[i]≤hi[i]∧hi[i]≤7:=by
 simp only [Zbf,Bool.and_eq_true,decide_eq_true_eq,Z9,Zbo,List.all_eq_true] at h
 have hl:=dom_len h.2
 refine ⟨hl,by omega,by omega,fun i h1 h2=>?_⟩
 have a:=h.1.1.2.1 _ (List.getElem_mem h1)
 have b:=h.1.2.1 _ (List.getElem_mem h2)
 have hd:=h.2
 simp only [dom,Bool.and_eq_true] at hd
 have c:=Zw7 hd.2 i h2 h1
 simp [inR] at a b
 omega
theorem pow8 {i:Nat} (h:i≤16):(8:Int) ^ i≤281474976710656:=by
 have:(8:Nat) ^ i≤8 ^ 16:=Nat.pow_le_pow_right (by omega) h
 have e:((8 ^ i:Nat):Int)=(8:Int) ^ i:=by simp
 have e2:(8:Nat) ^ 16=281474976710656:=by decide
 omega
def Zjh (lo hi:List Int):Int:=if Zbf lo hi=true then capV (vol lo hi) else 0
theorem cap_mul {n d:Int} (hn:1≤n) (hd:1≤d):capV (capV n*d)=capV (n*d):=by
 unfold capV
 by_cases h:401<n
 ·have h1:n*1≤n*d:=Int.mul_le_mul_of_nonneg_left hd (by omega)
  have h2:(401:Int)*1≤401*d:=Int.mul_le_mul_of_nonneg_left hd (by omega)
  rw [if_pos h]
  split <;> split <;> omega
 ·rw [if_neg h]
theorem cap_flip (v:Int):(if v<401 then v else 401)=capV v:=by
 unfold capV
 split <;> split <;> omega
theorem cap_le {v:Int} (h:1≤v):1≤capV v∧capV v≤401:=by unfold capV;split <;> omega
def Zcl (v:Int):List T→Bool
 | [_,_,_,_,_,_,.int .i64 x,_]=>x == v
 | _=>true
def entB:List T→Bool
 | [_,_,_,_,_,_,.int .i64 _,_]=>true
 | _=>false
def ext:CallE:=fun f xs h0=>match xs,h0 with
 | [.own 0,.fn 173 [.ptr 1 0]],[.arr 114 8 fr es,.box [.t (.int .i64 v)]]=>if f=172∧es.all entB=true then some (.own 2,[.dead,.box [.t (.int .i64 v)],.arr 114 8 fr (es.filter (Zcl v))]) else none
 | [.t .nil,.fn 173 [.ptr 0 0]],[.box [.t (.int .i64 v)]]=>if f=172 then some (.t .nil,[.box [.t (.int .i64 v)]]) else none
 | _,_=>none
open Go.ChangeShapes Go.WideShapes Go.ChangeAt Go.RowKit
theorem own:ownKnob Tryz.prog.godebug=none:=by kernel_rfl
theorem laidOut:laidOutB Tryz.prog=true:=by kernel_rfl
noncomputable def tbl:Nat→Option MFun:=tblOf Tryz.prog [4000003,4000004,4000005,4000007,4000008,4000010,4000011,4000012,2000018,2000019,2000020,2000021,2000022,3000028,3000029,3000030,3000031,3000032,2000036,2000047,2000054,2000058,2000059,3000061,3000062,2000065,2000073,74,2000079,3000081,2000095,2000096,2000097,2000098,3000113,3000114,3000115,1000124,129,138,139,140,2000147,164,165,171,172,3000175,2000186,2000187,2000188,1000193,3000200,1000211,223,224,225,226,228,2000236,243,247,2000256,271,1000273,282,283,1000289,295,296,1000300,303,1000309]
noncomputable def C:CallE:=callC ext tbl
theorem run {f:Nat} {xs:List AV} {m:MFun} (ht:tbl f=some m) (hl:xs.length=m.np) {r:AV×List Blk} (h:Ev C [.fin 0 m.res] m.body ⟨initE xs 0,[[]],[]⟩=some r):C f xs []=some r:=callC_of (h0:=[]) ht hl h
theorem runM {f:Nat} {xs:List AV} {h0:List Blk} {m:MFun} (ht:tbl f=some m) (hl:xs.length=m.np) {r:AV×List Blk} (h:Ev C [.fin h0.length m.res] m.body ⟨initE xs 0,[rootsE h0 0],h0⟩=some r):C f xs h0=some r:=callC_of ht hl h
abbrev Z8k:Nat:=10
abbrev Z8l:Nat:=13
abbrev Z8m:Nat:=14
abbrev Z8n:Nat:=15
abbrev Z8o:Nat:=18
abbrev Z8p:Nat:=19
abbrev Z8q:Nat:=20
abbrev Z8r:Nat:=23
abbrev Z8s:Nat:=24
abbrev Z8t:Nat:=25
abbrev Z8u:Nat:=26
abbrev Z8v:Nat:=28
abbrev Zn2:Nat:=32
abbrev Z8w:Nat:=33
abbrev Z8x:Nat:=34
abbrev Z8y:Nat:=36
abbrev Z8z:Nat:=38
abbrev Z80:Nat:=52
abbrev Z81:Nat:=54
abbrev Zqt:Nat:=56
abbrev Z82:Nat:=57
abbrev Z83:Nat:=58
abbrev Z84:Nat:=59
abbrev Z85:Nat:=60
abbrev Zw9:Nat:=81
abbrev Zxa:Nat:=82
abbrev Z86:Nat:=84
abbrev Z87:Nat:=85
abbrev Z88:Nat:=86
abbrev Z89:Nat:=95
abbrev Z9a:Nat:=96
abbrev Z9b:Nat:=97
abbrev Z9c:Nat:=109
abbrev Z9d:Nat:=110
abbrev Z9e:Nat:=111
abbrev Z9f:Nat:=113
abbrev Zn3:Nat:=114
abbrev Zn4:Nat:=115
abbrev Z9g:Nat:=146
abbrev Z9h:Nat:=147
abbrev Zqu:Nat:=150
abbrev Z9i:Nat:=151
abbrev Zxb:Nat:=175
abbrev Zxc:Nat:=176
abbrev Z9j:Nat:=177
abbrev Z9k:Nat:=178
abbrev Z9l:Nat:=179
abbrev Z9m:Nat:=186
abbrev Z9n:Nat:=187
abbrev Z9o:Nat:=188
abbrev Z9p:Nat:=197
abbrev Z9q:Nat:=198
abbrev Z9r:Nat:=199
abbrev Z9s:Nat:=200
abbrev Zqv:Nat:=201
abbrev Z9t:Nat:=235
abbrev Z9u:Nat:=236
abbrev Z9v:Nat:=237
abbrev Z9w:Nat:=248
abbrev Z9x:Nat:=256
abbrev Z9y:Nat:=266
abbrev Zx:Nat:=3
abbrev t_bool:Nat:=4
abbrev Zxd:Nat:=38
abbrev Zn5:Nat:=114
abbrev Zho:Nat:=138
abbrev Zji:Nat:=142
abbrev Zez:Nat:=221
abbrev Zkq:Nat:=223
end Go.Proofs.YtbapkgocloaaeaaGreat
