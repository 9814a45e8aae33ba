/-
  Parts of the proofs for this seat: TX PW EX H.
-/
import Derived.Test.YtgnfoghkbpkgjaaGreatRows
import Derived.Test.YtgnfoghkbpkgjaaGreatP4
import Derived.Test.YtgnfoghkbpkgjaaGreatP5
import Derived.Test.YtgnfoghkbpkgjaaGreatP6
set_option linter.unusedSimpArgs false
set_option linter.unusedVariables false
set_option maxRecDepth 100000
set_option maxHeartbeats 4000000
namespace Go.Proofs.YtgnfoghkbpkgjaaGreat
open Go.AM
@[simp] theorem Zf.map_inj (xs ys:List Zf):xs.map Zf.c=ys.map Zf.c↔xs=ys:=map_inj_of (by
 intro a b h
 simp at h
 simp [Zf.ext_iff,h])
@[simp] theorem Zf.flat (xs:List Zf):(xs.map Zf.c).all (fun x=>x.all scalar)=true:=flat_of (fun _=>rfl) xs
@[simp] theorem Zf.flat2 (xs:List Zf):xs.all ((fun x=>x.all scalar) ∘ Zf.c)=true:=flat_of' (fun _=>rfl) xs
@[simp] theorem Zi.map_inj (xs ys:List Zi):xs.map Zi.c=ys.map Zi.c↔xs=ys:=map_inj_of (by
 intro a b h
 simp at h
 simp [Zi.ext_iff,h])
@[simp] theorem Zd.map_inj (xs ys:List Zd):xs.map Zd.c=ys.map Zd.c↔xs=ys:=map_inj_of (by
 intro a b h
 simp at h
 simp [Zd.ext_iff,Zi.ext_iff,h])
@[simp] theorem Atom.map_inj (xs ys:List Atom):xs.map Atom.c=ys.map Atom.c↔xs=ys:=map_inj_of (by
 intro a b h
 simp at h
 simp [Atom.ext_iff,h])
@[simp] theorem Zc.map_inj (xs ys:List Zc):xs.map Zc.c=ys.map Zc.c↔xs=ys:=map_inj_of (by
 intro a b h
 simp at h
 simp [Zc.ext_iff,h])
@[simp] theorem Box.map_inj (xs ys:List Box):xs.map Box.c=ys.map Box.c↔xs=ys:=map_inj_of (by
 intro a b h
 simp at h
 simp [Box.ext_iff,h])
@[simp] theorem Zb.map_inj (xs ys:List Zb):xs.map Zb.c=ys.map Zb.c↔xs=ys:=map_inj_of (by
 intro a b h
 simp at h
 simp [Zb.ext_iff,h])
@[simp] theorem Zb.flat (xs:List Zb):(xs.map Zb.c).all (fun x=>x.all scalar)=true:=flat_of (fun _=>rfl) xs
@[simp] theorem Zb.flat2 (xs:List Zb):xs.all ((fun x=>x.all scalar) ∘ Zb.c)=true:=flat_of' (fun _=>rfl) xs
@[simp] theorem Plan.map_inj (xs ys:List Plan):xs.map Plan.c=ys.map Plan.c↔xs=ys:=map_inj_of (by
 intro a b h
 simp at h
 simp [Plan.ext_iff,h])
@[simp] theorem Zh.map_inj (xs ys:List Zh):xs.map Zh.c=ys.map Zh.c↔xs=ys:=map_inj_of (by
 intro a b h
 simp at h
 simp [Zh.ext_iff,Box.ext_iff,h])
@[ext] structure Za where
 Mask:Int
 Order:Int
 Cost:Int
 Plan:Plan
 deriving DecidableEq
def Za.c (x:Za):List T:=[.int .i64 x.Mask,.int .i64 x.Order,.int .i64 x.Cost,.lst 3 (x.Plan.Steps.map Zb.c)]
@[simp] theorem Za.c_def (x:Za):x.c=[.int .i64 x.Mask,.int .i64 x.Order,.int .i64 x.Cost,.lst 3 (x.Plan.Steps.map Zb.c)]:=rfl
@[simp] theorem Za.map_inj (xs ys:List Za):xs.map Za.c=ys.map Za.c↔xs=ys:=map_inj_of (by
 intro a b h
 simp at h
 simp [Za.ext_iff,Plan.ext_iff,h])
@[ext] structure Zg where
 Mask:Int
 Order:Int
 Left:Int
 Right:Int
 deriving DecidableEq
def Zg.c (x:Zg):List T:=[.int .i64 x.Mask,.int .i64 x.Order,.int .i64 x.Left,.int .i64 x.Right]
@[simp] theorem Zg.c_def (x:Zg):x.c=[.int .i64 x.Mask,.int .i64 x.Order,.int .i64 x.Left,.int .i64 x.Right]:=rfl
@[simp] theorem Zg.map_inj (xs ys:List Zg):xs.map Zg.c=ys.map Zg.c↔xs=ys:=map_inj_of (by
 intro a b h
 simp at h
 simp [Zg.ext_iff,h])
@[simp] theorem Zg.flat (xs:List Zg):(xs.map Zg.c).all (fun x=>x.all scalar)=true:=flat_of (fun _=>rfl) xs
@[simp] theorem Zg.flat2 (xs:List Zg):xs.all ((fun x=>x.all scalar) ∘ Zg.c)=true:=flat_of' (fun _=>rfl) xs
@[ext] structure Zu where
 mask:Int
 Zq:List Int
 shared:List (List Int)
 deriving DecidableEq
def Zu.c (x:Zu):List T:=[.int .i64 x.mask,.lst 1 (x.Zq.map ic),.lst 1 (x.shared.map isc)]
@[simp] theorem Zu.c_def (x:Zu):x.c=[.int .i64 x.mask,.lst 1 (x.Zq.map ic),.lst 1 (x.shared.map isc)]:=rfl
@[simp] theorem Zu.map_inj (xs ys:List Zu):xs.map Zu.c=ys.map Zu.c↔xs=ys:=map_inj_of (by
 intro a b h
 simp at h
 simp [Zu.ext_iff,h])
def inR (a b c:Int):Bool:=decide (b≤a∧a≤c)
def Zbi (c:Int):Int:=if c<0 then -1 else if c=0 then 0 else if c=1 then 1 else if c=2 then 4 else if c=3 then 16 else if c=4 then 64 else if c=5 then 256 else if c=6 then 1024 else if c=7 then 4096 else -1
theorem cls8 {c:Int} (h:inR c 0 7=true):c=0∨c=1∨c=2∨c=3∨c=4∨c=5∨c=6∨c=7:=by
 simp [inR] at h;omega
theorem Zx2 {c:Int} (h:inR c 0 7=false):Zbi c=-1:=by
 simp [inR] at h
 unfold Zbi
 split
 ·rfl
 ·repeat' split
  all_goals omega
theorem Ze2 {α:Type} (p:α→Bool) {xs:List α} {i:Nat} (h:i<xs.length):(xs.drop i).all p=(p xs[i] && (xs.drop (i+1)).all p):=by
 rw [List.drop_eq_getElem_cons h,List.all_cons]
theorem drop_any {α:Type} (p:α→Bool) {xs:List α} {i:Nat} (h:i<xs.length):(xs.drop i).any p=(p xs[i] || (xs.drop (i+1)).any p):=by
 rw [List.drop_eq_getElem_cons h,List.any_cons]
def Zej (xs:List Int):Bool:=xs.all (fun x=>inR x 0 7)
def Zy (xs:List Int):Bool:=Zej xs && decide ((xs.length:Int)≤16)
theorem Zx3 {xs:List Int} {i:Nat} (h:i<xs.length):Zej (xs.drop i)=(inR xs[i] 0 7 && Zej (xs.drop (i+1))):=Ze2 _ h
def Zc9:List Int→List Int→Bool
 | x::xs,y::ys=>decide (y≤x) && Zc9 xs ys
 | _,_=>true
def dom (xs ys:List Int):Bool:=decide (xs.length=ys.length) && Zc9 xs ys
theorem Zx4 {xs ys:List Int} {i:Nat} (h:i<xs.length) (h':i<ys.length):Zc9 (xs.drop i) (ys.drop i)=(decide (ys[i]≤xs[i]) && Zc9 (xs.drop (i+1)) (ys.drop (i+1))):=by
 rw [List.drop_eq_getElem_cons h,List.drop_eq_getElem_cons h',Zc9]
def Z8 (lo hi:List Int):Bool:=decide (0<lo.length) && Zy lo && Zy hi && dom hi lo
def bit4 (a b c d:Bool):Int:=(if a then 1 else 0)+(if b then 2 else 0)+(if c then 4 else 0)+(if d then 8 else 0)
def Zz (p:Nat→Bool):Int:=bit4 (p 0) (p 1) (p 2) (p 3)
theorem in4 {v:Int} (h:inR v 0 3=true):v=0∨v=1∨v=2∨v=3:=by simp [inR] at h;omega
def has (xs:List Int) (v:Int):Bool:=xs.any (fun x=>decide (v=x))
theorem Zfq {xs:List Int} {v:Int}:has xs v=true↔v∈xs:=by
 simp only [has,List.any_eq_true,decide_eq_true_eq]
 exact ⟨fun ⟨x,h,e⟩=>e ▸ h,fun h=>⟨v,h,rfl⟩⟩
def addV (p:Nat→Bool) (vs:List Int):Nat→Bool:=fun u=>p u || has vs u
theorem Zrk (p:Nat→Bool):addV p []=p:=by funext u;simp [addV,has]
theorem Z94 (p:Nat→Bool) (v:Int) (vs:List Int):addV (addV p [v]) vs=addV p (v::vs):=by funext u;simp [addV,has,Bool.or_assoc]
theorem Zrl (p:Nat→Bool) {vs:List Int} {i:Nat} (h:i<vs.length):addV p (vs.drop i)=addV (addV p [vs[i]]) (vs.drop (i+1)):=by
 rw [List.drop_eq_getElem_cons h,Z94]
theorem or_d:∀ a b c d:Bool,orI (bit4 a b c d) 1=bit4 true b c d∧orI (bit4 a b c d) 2=bit4 a true c d∧orI (bit4 a b c d) 4=bit4 a b true d∧orI (bit4 a b c d) 8=bit4 a b c true:=by decide
theorem Zn2 (p:Nat→Bool) {v:Int} (h:inR v 0 3=true):orI (Zz p) (shlI 1 v)=Zz (addV p [v]):=by
 have q:=or_d (p 0) (p 1) (p 2) (p 3)
 rcases in4 h with rfl | rfl | rfl | rfl <;> simp [addV,has,Zz,shlI,wrap64,q]
theorem and_d:∀ a b c d:Bool,(andI (shrI (bit4 a b c d) 0) 1=1↔a=true)∧(andI (shrI (bit4 a b c d) 1) 1=1↔b=true)∧(andI (shrI (bit4 a b c d) 2) 1=1↔c=true)∧(andI (shrI (bit4 a b c d) 3) 1=1↔d=true):=by decide
theorem at_bit (p:Nat→Bool) {v:Int} (h:inR v 0 3=true):andI (shrI (Zz p) v) 1=1↔p v.toNat=true:=by
 have q:=and_d (p 0) (p 1) (p 2) (p 3)
 rcases in4 h with rfl | rfl | rfl | rfl <;> simp [Zz,q]
theorem and4:∀ a b c d a' b' c' d':Bool,andI (bit4 a b c d) (bit4 a' b' c' d')=bit4 (a && a') (b && b') (c && c') (d && d'):=by decide
theorem Zx5 (p q:Nat→Bool):andI (Zz p) (Zz q)=Zz (fun u=>p u && q u):=and4 _ _ _ _ _ _ _ _
theorem zero4:∀ a b c d:Bool,bit4 a b c d=0↔(a=false∧b=false∧c=false∧d=false):=by decide
theorem Z95 (p:Nat→Bool):Zz p=0↔∀ u,u<4→p u=false:=by
 rw [Zz,zero4]
 constructor
 ·rintro ⟨h0,h1,h2,h3⟩ u hu
  match u,hu with
  | 0,_=>exact h0
  | 1,_=>exact h1
  | 2,_=>exact h2
  | 3,_=>exact h3
 ·intro h;exact ⟨h 0 (by omega),h 1 (by omega),h 2 (by omega),h 3 (by omega)⟩
def Zbf {α:Type} (p:α→Bool):List α→Nat→Int
 | [],_=>-1
 | x::xs,i=>if p x=true then i else Zbf p xs (i+1)
theorem Zku {α:Type} (p:α→Bool) {xs:List α} {i:Nat} (h:i<xs.length):Zbf p (xs.drop i) i=if p xs[i]=true then (i:Int) else Zbf p (xs.drop (i+1)) (i+1):=by
 rw [List.drop_eq_getElem_cons h,Zbf]
theorem Zrm {α:Type} (p:α→Bool) (xs:List α):∀ i,xs.any p=false→Zbf p xs i=-1:=by
 induction xs with
 | nil=>intro i _;rfl
 | cons x xs ih=>intro i h;simp at h;simp [Zbf,h];apply ih;simp;exact h.2
theorem Zrn {α:Type} (p:α→Bool) (xs:List α):∀ i,xs.any p=true→0≤Zbf p xs i:=by
 induction xs with
 | nil=>intro i h;simp at h
 | cons x xs ih =>
  intro i h
  unfold Zbf
  split
  ·omega
  ·rename_i hx;simp only [List.any_cons,hx,Bool.false_or] at h;exact ih _ h
abbrev tB (xs:List Bool):T:=.lst 1 (xs.map fun b=>[T.bool b])
def nmOk (s:ByteArray):Bool:=match s[0]? with
 | some b=>decide (s.size=1) && decide (97≤(b.toNat:Int)) && decide ((b.toNat:Int)≤122)
 | none=>false
theorem get0 {s:ByteArray} (h:s.size=1):∃ b,s[0]?=some b:=⟨s[0],getElem?_pos s 0 (by omega)⟩
def Zbj (n:Int) (pre:List Int):List Int→Bool
 | []=>true
 | v::rest=>inR v 0 (n - 1) && !has pre v && Zbj n (pre++[v]) rest
theorem Zn3 (n:Int) {vs:List Int} {k:Nat} (h:k<vs.length):Zbj n (vs.take k) (vs.drop k)=(inR vs[k] 0 (n - 1) && !has (vs.take k) vs[k] && Zbj n (vs.take (k+1)) (vs.drop (k+1))):=by
 conv=>lhs;rw [List.drop_eq_getElem_cons h,Zbj]
 rw [List.take_add_one,List.getElem?_eq_getElem h]
 rfl
theorem Zro {n:Int}:∀ {vs pre:List Int},Zbj n pre vs=true→∀ v∈vs,inR v 0 (n - 1)=true
 | [],_,_,v,hv=>by cases hv
 | x::xs,pre,h,v,hv=>by
  simp only [Zbj,Bool.and_eq_true] at h
  cases hv with
  | head=>exact h.1.1
  | tail _ hv=>exact Zro h.2 v hv
def Zbu (n:Int) (a:Atom):Bool:=nmOk a.Name && inR a.Vars.length 1 3 && Zbj n [] a.Vars
def addA (p:Nat→Bool) (qa:List Atom):Nat→Bool:=fun u=>p u || qa.any fun a=>has a.Vars u
theorem Zx6 (p:Nat→Bool) {qa:List Atom} {i:Nat} (h:i<qa.length):addA p (qa.drop i)=addA (addV p qa[i].Vars) (qa.drop (i+1)):=by
 rw [List.drop_eq_getElem_cons h];funext u;simp only [addA,List.any_cons,addV,Bool.or_assoc]
def Zn (n:Int) (qa:List Atom):Bool :=
 inR n 1 4 && inR qa.length 1 4 && qa.all (Zbu n) && (List.range n.toNat).all (addA (fun _=>false) qa)
def bl (p:Nat→Bool) (n:Nat):List (List T):=(List.range n).map fun u=>[T.bool (p u)]
@[simp] theorem bl_get (p:Nat→Bool) (n i:Nat) (h:i<(bl p n).length):(bl p n)[i]=[T.bool (p i)]:=by simp [bl]
theorem bl_any (p:Nat→Bool) (n:Nat):((List.range n).map p).any (fun x=>false == x)=!(List.range n).all p:=by
 rw [List.any_map,Bool.eq_iff_iff]
 simp
theorem Zn4:∀ a b c d:Bool,(bit4 a b c d=1↔(a=true∧b=false∧c=false∧d=false))∧(bit4 a b c d=3↔(a=true∧b=true∧c=false∧d=false))∧(bit4 a b c d=7↔(a=true∧b=true∧c=true∧d=false))∧(bit4 a b c d=15↔(a=true∧b=true∧c=true∧d=true)):=by decide
theorem all_in {n:Int} {qa:List Atom} (h:qa.all (Zbu n)=true):∀ u:Int,n≤u→qa.any (fun a=>has a.Vars u)=false:=by
 intro u hu
 rw [List.any_eq_false]
 intro a ha hc
 rw [Zfq] at hc
 have:=List.all_eq_true.1 h a ha
 simp only [Zbu,Bool.and_eq_true] at this
 have:=Zro this.2 _ hc
 simp [inR] at this
 omega
def Zr (n:Int) (qa:List Atom):Int:=if Zn n qa=true then shlI 1 qa.length - 1 else 0
theorem Zgp {n:Int} {qa:List Atom} (h:Zn n qa=true):(qa.length=1∨qa.length=2∨qa.length=3∨qa.length=4)∧shlI 1 qa.length=2 ^ qa.length∧IntKind.wrap .i64 (shlI 1 qa.length - 1)=shlI 1 qa.length - 1∧IntKind.wrap .i64 (shlI 1 qa.length - 1+1)=shlI 1 qa.length - 1+1:=by
 simp only [Zn,Bool.and_eq_true] at h
 have h2:=h.1.1.2
 simp [inR] at h2
 have h3:qa.length=1∨qa.length=2∨qa.length=3∨qa.length=4:=by omega
 refine ⟨h3,?_⟩
 rcases h3 with h3 | h3 | h3 | h3 <;> rw [h3] <;> decide
theorem Zn5 (n:Int) (qa:List Atom):IntKind.wrap .i64 (Zr n qa+1)=Zr n qa+1:=by
 unfold Zr
 split
 ·rename_i h;exact (Zgp h).2.2.2
 ·decide
def Zs (m:Int) (i:Nat):Bool:=decide (andI (shrI m i) 1=1)
def hasV (m:Int):List Atom→Nat→Int→Bool
 | [],_,_=>false
 | a::as',i,u=>(Zs m i && has a.Vars u) || hasV m as' (i+1) u
theorem Zrp (m:Int) {qa:List Atom} {i:Nat} (h:i<qa.length) (u:Int):hasV m (qa.drop i) i u=((Zs m i && has qa[i].Vars u) || hasV m (qa.drop (i+1)) (i+1) u):=by
 rw [List.drop_eq_getElem_cons h,hasV]
def pV (m:Int) (qa:List Atom):Nat→Bool:=fun u=>hasV m qa 0 u
def Var4 (qa:List Atom):Prop:=∀ a∈qa,∀ v∈a.Vars,inR v 0 3=true
theorem Zn6 {n:Int} {qa:List Atom} (h:Zn n qa=true):∀ a∈qa,∀ v∈a.Vars,inR v 0 (n - 1)=true:=by
 intro a ha v hv
 simp only [Zn,Bool.and_eq_true] at h
 have:=List.all_eq_true.1 h.1.2 a ha
 simp only [Zbu,Bool.and_eq_true] at this
 exact Zro this.2 v hv
theorem Zda {n:Int} {qa:List Atom} (h:Zn n qa=true):1≤n∧n≤4:=by
 simp only [Zn,Bool.and_eq_true] at h
 have:=h.1.1.1
 simpa [inR] using this
theorem Zbt {n:Int} {qa:List Atom} (h:Zn n qa=true):1≤qa.length∧qa.length≤4:=by
 simp only [Zn,Bool.and_eq_true] at h
 have:=h.1.1.2
 simp [inR] at this
 omega
theorem Zif {n:Int} {qa:List Atom} (h:Zn n qa=true):∀ a∈qa,1≤a.Vars.length∧a.Vars.length≤3:=by
 intro a ha
 simp only [Zn,Bool.and_eq_true] at h
 have:=List.all_eq_true.1 h.1.2 a ha
 simp only [Zbu,Bool.and_eq_true] at this
 have:=this.1.2
 simp [inR] at this
 omega
theorem Zgq {n:Int} {qa:List Atom} (h:Zn n qa=true):Var4 qa:=by
 intro a ha v hv
 have:=Zn6 h a ha v hv
 have h2:=Zda h
 simp [inR] at this ⊢
 omega
def addM (m:Int) (p:Nat→Bool) (qa:List Atom) (i:Nat):Nat→Bool:=fun u=>p u || hasV m (qa.drop i) i u
theorem Z96 (m:Int) (p:Nat→Bool) {qa:List Atom} {i:Nat} (h:i<qa.length):addM m p qa i=addM m (if Zs m i=true then addV p qa[i].Vars else p) qa (i+1):=by
 funext u
 rw [addM,Zrp _ h]
 rcases tf (Zs m i) with e | e <;> simp [addM,addV,e,Bool.or_assoc]
def varL (m:Int) (qa:List Atom) (k:Nat):List Int:=((List.range k).filter (pV m qa)).map fun u:Nat=>(u:Int)
theorem Z97 (m:Int) (qa:List Atom) (k:Nat):varL m qa (k+1)=varL m qa k++if hasV m qa 0 k=true then [(k:Int)] else []:=by
 unfold varL
 rw [List.range_succ,List.filter_append,List.map_append]
 rcases tf (hasV m qa 0 k) with e | e <;> simp [pV,e]
theorem Zig (m:Int) (qa:List Atom) (k:Nat):(varL m qa k).length≤k:=by
 unfold varL
 simp
 exact Nat.le_trans (List.length_filter_le _ _) (by simp)
theorem Zrq {α:Type} (p:α→Bool) {xs:List α} {i:Nat} (h:i<xs.length):(xs.take (i+1)).filter p=(xs.take i).filter p++if p xs[i]=true then [xs[i]] else []:=by
 rw [List.take_add_one,List.getElem?_eq_getElem h,List.filter_append]
 rcases tf (p xs[i]) with e | e <;> simp [e]
def vin (qa:List Atom) (m v:Int):Bool:=inR v 0 3 && pV m qa v.toNat
def shr (qa:List Atom) (a b:Int):Bool:=(List.range 4).any fun u=>pV a qa u && pV b qa u
def Zbg (st:List Int) (info:List Zg) (k:Nat):Option (Int×Zg):=if k≤st.length then (match st[st.length - k]? with
 | some s=>(info[s.toNat]?).map (s,·)
 | none=>none) else none
def Zb0 (qa:List Atom) (x:Zb) (y z:Zg):Option Int :=
 if x.Kind=3∧x.Order=0 then some (-1)
 else if x.Kind=5∧x.Order=0 then some y.Order
 else if x.Kind=4∧vin qa y.Mask x.Order=true∧vin qa z.Mask x.Order=true∧y.Order=x.Order∧z.Order=x.Order then some x.Order
 else none
def Zcb (qa:List Atom) (x:Zb) (info:List Zg) (st:List Int):Option Zg :=
 if x.Kind=1 then (if inR x.Atom 0 (qa.length - 1)=true∧x.Order=0 then some ⟨shlI 1 x.Atom,(match qa[x.Atom.toNat]? with | some a=>a.Vars.headD 0 | none=>0),-1,-1⟩ else none)
 else if x.Atom≠0 then none
 else if x.Kind=2 then (match Zbg st info 1 with
  | some (s,y)=>if vin qa y.Mask x.Order=true∧y.Order≠x.Order then some ⟨y.Mask,x.Order,s,-1⟩ else none
  | none=>none)
 else match Zbg st info 2,Zbg st info 1 with
  | some (s,y),some (t,z)=>if andI y.Mask z.Mask=0∧shr qa y.Mask z.Mask=true then (Zb0 qa x y z).map (⟨orI y.Mask z.Mask,·,s,t⟩) else none
  | _,_=>none
def StOk (info:List Zg) (st:List Int):Prop:=∀ s∈st,0≤s∧s.toNat<info.length
theorem Zgr {info:List Zg} {st:List Int} (h:StOk info st) {k:Nat} (h1:1≤k) (h2:k≤st.length) :
  ∃ s y,Zbg st info k=some (s,y)∧st[st.length - k]?=some s∧0≤s∧info[s.toNat]?=some y:=by
 have hlt:st.length - k<st.length:=by omega
 obtain ⟨h3,h4⟩:=h _ (List.getElem_mem hlt)
 refine ⟨st[st.length - k],info[(st[st.length - k]).toNat],?_,List.getElem?_eq_getElem hlt,h3,List.getElem?_eq_getElem h4⟩
 simp [Zbg,h2,List.getElem?_eq_getElem hlt,List.getElem?_eq_getElem h4]
theorem pV_lt {n:Int} {qa:List Atom} (h:Zn n qa=true) {m:Int} {u:Nat} (hp:pV m qa u=true):(u:Int)<n:=by
 have:∀ (l:List Atom) (i:Nat),(∀ a∈l,a∈qa)→hasV m l i u=true→(u:Int)<n:=by
  intro l
  induction l with
  | nil=>intro i _ hh;simp [hasV] at hh
  | cons a l ih =>
   intro i hs hh
   simp only [hasV,Bool.or_eq_true,Bool.and_eq_true] at hh
   rcases hh with hh | hh
   ·have:=Zn6 h a (hs a (by simp)) u (Zfq.1 hh.2)
    simp [inR] at this
    omega
   ·exact ih (i+1) (fun b hb=>hs b (by simp [hb])) hh
 exact this qa 0 (fun a ha=>ha) hp
theorem Zkv {n:Int} {qa:List Atom} (h:Zn n qa=true) (m v:Int):has (varL m qa n.toNat) v=vin qa m v:=by
 have hn:=Zda h
 rw [Bool.eq_iff_iff,Zfq]
 simp only [varL,List.mem_map,List.mem_filter,List.mem_range,vin,Bool.and_eq_true]
 constructor
 ·rintro ⟨u,⟨h1,h2⟩,rfl⟩
  refine ⟨by simp [inR];omega,by simpa using h2⟩
 ·rintro ⟨h1,h2⟩
  have h3:=pV_lt h h2
  simp [inR] at h1
  exact ⟨v.toNat,⟨by omega,h2⟩,by omega⟩
theorem Z98 {n:Int} {qa:List Atom} (h:Zn n qa=true) (a b:Int):((varL a qa n.toNat).filter (has (varL b qa n.toNat))).length=0↔shr qa a b=false:=by
 have hn:=Zda h
 rw [List.length_eq_zero_iff,List.filter_eq_nil_iff,shr,List.any_eq_false]
 simp only [Zkv h]
 constructor
 ·intro hh u hu
  simp only [List.mem_range] at hu
  simp only [Bool.and_eq_true,not_and]
  intro h1 h2
  have h3:=pV_lt h h1
  refine hh (u:Int) ?_ ?_
  ·simp only [varL,List.mem_map,List.mem_filter,List.mem_range]
   exact ⟨u,⟨by omega,h1⟩,rfl⟩
  ·simp only [vin,Bool.and_eq_true]
   exact ⟨by simp [inR];omega,by simpa using h2⟩
 ·intro hh v hv
  simp only [varL,List.mem_map,List.mem_filter,List.mem_range] at hv
  obtain ⟨u,⟨h1,h2⟩,rfl⟩:=hv
  have:=hh u (by simp only [List.mem_range];omega)
  simp only [Bool.and_eq_true,not_and] at this
  simp only [vin,Bool.and_eq_true,not_and]
  intro _
  simpa using this h2
theorem Z99 {n:Int} {qa:List Atom} (h:Zn n qa=true) (a b v:Int):has ((varL a qa n.toNat).filter (has (varL b qa n.toNat))) v=(vin qa a v && vin qa b v):=by
 rw [Bool.eq_iff_iff,Zfq,List.mem_filter,← Zfq,Zkv h,Zkv h,Bool.and_eq_true]
theorem Zrr (qa:List Atom) (a b:Int):andI (Zz (pV a qa)) (Zz (pV b qa))=0↔shr qa a b=false:=by
 rw [Zx5,Z95,shr,List.any_eq_false]
 simp
def popsI (x:Zb):Int:=if x.Kind=1 then 0 else if x.Kind=2 then 1 else 2
theorem hd0 {xs:List Int} (h:0<xs.length):xs.head?.getD 0=xs[0]:=by cases xs with | nil=>simp at h | cons x xs=>rfl
def pops (y:Zg):Nat:=if 0≤y.Right then 2 else if 0≤y.Left then 1 else 0
def Zbh (qa:List Atom):List Zb→Nat→List Zg→List Int→Option (List Zg×List Int)
 | [],_,info,st=>some (info,st)
 | x::xs,i,info,st=>match Zcb qa x info st with
  | none=>none
  | some y=>Zbh qa xs (i+1) (info++[y]) (st.take (st.length - pops y)++[(i:Int)])
theorem Zx7 (qa:List Atom) {xs:List Zb} {i:Nat} (h:i<xs.length) (info:List Zg) (st:List Int):Zbh qa (xs.drop i) i info st=match Zcb qa xs[i] info st with
  | none=>none
  | some y=>Zbh qa (xs.drop (i+1)) (i+1) (info++[y]) (st.take (st.length - pops y)++[(i:Int)]):=by
 rw [List.drop_eq_getElem_cons h,Zbh]
def Zbb (n:Int) (qa:List Atom) (steps:List Zb):Option (List Zg) :=
 if Zn n qa=true∧inR steps.length 1 14=true then (match Zbh qa steps 0 [] [] with
  | some (info,st)=>if st.length=1 then some info else none
  | none=>none) else none
theorem Ze3 {st:List Int} {info:List Zg} {k:Nat} {s:Int} {y:Zg} (hs:StOk info st) (h1:1≤k) (h:Zbg st info k=some (s,y)):k≤st.length∧0≤s∧s.toNat<info.length∧info[s.toNat]?=some y:=by
 have hk:k≤st.length:=by
  unfold Zbg at h
  split at h
  ·assumption
  ·cases h
 obtain ⟨s',y',q1,q2,q3,q4⟩:=Zgr hs h1 hk
 rw [q1] at h
 cases h
 exact ⟨hk,q3,(List.getElem?_eq_some_iff.1 q4).1,q4⟩
theorem Zrs {qa:List Atom} {x:Zb} {info:List Zg} {st:List Int} {y:Zg} (hs:StOk info st) (h:Zcb qa x info st=some y) :
  popsI x=pops y∧pops y≤st.length∧(0≤y.Right↔3≤x.Kind):=by
 unfold Zcb at h
 unfold popsI pops
 split at h
 ·rename_i k1
  split at h
  ·cases h;simp [k1]
  ·cases h
 ·rename_i k1
  split at h
  ·cases h
  ·split at h
   ·rename_i k2
    split at h
    ·rename_i s y' ht
     split at h
     ·cases h
      obtain ⟨t1,t2,_⟩:=Ze3 hs (Nat.le_refl 1) ht
      simp [k2,t2,t1]
     ·cases h
    ·cases h
   ·rename_i k2
    split at h
    ·rename_i s y' t z ht hu
     split at h
     ·obtain ⟨t1,t2,_⟩:=Ze3 hs (by omega:1≤2) ht
      obtain ⟨u1,u2,_⟩:=Ze3 hs (by omega:1≤1) hu
      obtain ⟨o,ho,rfl⟩:=Option.map_eq_some_iff.1 h
      have hk:x.Kind=3∨x.Kind=4∨x.Kind=5:=by
       unfold Zb0 at ho
       split at ho
       ·omega
       ·split at ho
        ·omega
        ·split at ho
         ·omega
         ·cases ho
      simp only [u2,if_true,k1,k2,if_false]
      refine ⟨rfl,t1,?_⟩
      simp;omega
     ·cases h
    ·cases h
theorem Zkw {info:List Zg} {st:List Int} (hs:StOk info st) (y:Zg) (k:Nat):StOk (info++[y]) (st.take k++[(info.length:Int)]):=by
 intro s h
 rcases List.mem_append.1 h with h | h
 ·obtain ⟨h1,h2⟩:=hs s (List.mem_of_mem_take h)
  exact ⟨h1,by simp;omega⟩
 ·simp at h
  subst h
  simp
theorem st_len {st:List Int} {i k:Nat} (h:st.length≤i) (x:Int):(st.take k++[x]).length≤i+1:=by simp;omega
theorem Zx8 {qa:List Atom}:∀ {xs:List Zb} {i:Nat} {info:List Zg} {st:List Int} {info':List Zg} {st':List Int},Zbh qa xs i info st=some (info',st')→info'.length=info.length+xs.length
 | [],_,_,_,_,_,h=>by simp [Zbh] at h;simp [h.1]
 | x::xs,i,info,st,info',st',h=>by
  rw [Zbh] at h
  split at h
  ·cases h
  ·have:=Zx8 h
   simp at this ⊢
   omega
theorem Zgs {n:Int} {qa:List Atom} {steps:List Zb} {info:List Zg} (h:Zbb n qa steps=some info):Zn n qa=true∧info.length=steps.length∧1≤steps.length∧steps.length≤14:=by
 unfold Zbb at h
 split at h
 ·rename_i hc
  have h2:=hc.2
  simp [inR] at h2
  split at h
  ·rename_i info' st hg
   split at h
   ·cases h
    have:=Zx8 hg
    simp at this
    exact ⟨hc.1,this,by omega,by omega⟩
   ·cases h
  ·cases h
 ·cases h
def Ze4 (n:Int) (qa:List Atom) (steps:List Zb):Int:=match Zbb n qa steps with
 | some info=>match info[info.length - 1]? with
  | some y=>y.Mask
  | none=>0
 | none=>0
theorem Zih {n:Int} {qa:List Atom} (h:Zn n qa=true):0<Zr n qa:=by
 obtain ⟨h1,h2,_⟩:=Zgp h
 unfold Zr
 rw [if_pos h,h2]
 rcases h1 with h1 | h1 | h1 | h1 <;> rw [h1] <;> decide
theorem or16:∀ a b:Fin 16,orI (a.1:Int) (b.1:Int)=((a.1 ||| b.1:Nat):Int):=by decide
theorem or_lt {k:Nat} (hk:k≤4) {a b:Int} (ha:0≤a∧a<2 ^ k) (hb:0≤b∧b<2 ^ k):0≤orI a b∧orI a b<2 ^ k:=by
 have h16:(2:Int) ^ k≤16:=by
  have:k=0∨k=1∨k=2∨k=3∨k=4:=by omega
  rcases this with rfl | rfl | rfl | rfl | rfl <;> decide
 have e1:a=(a.toNat:Int):=by omega
 have e2:b=(b.toNat:Int):=by omega
 have l1:a.toNat<16:=by omega
 have l2:b.toNat<16:=by omega
 have e:=or16 ⟨a.toNat,l1⟩ ⟨b.toNat,l2⟩
 simp only at e
 rw [e1,e2,e]
 have c:((2 ^ k:Nat):Int)=2 ^ k:=by simp
 have m1:a.toNat<2 ^ k:=by omega
 have m2:b.toNat<2 ^ k:=by omega
 have:=Nat.or_lt_two_pow m1 m2
 omega
theorem shl_lt {k:Nat} (hk:k≤4) {v:Int} (h0:0≤v) (h1:v<k):0≤shlI 1 v∧shlI 1 v<2 ^ k:=by
 have h2:v=0∨v=1∨v=2∨v=3:=by omega
 have h3:k=0∨k=1∨k=2∨k=3∨k=4:=by omega
 rcases h2 with rfl | rfl | rfl | rfl <;> rcases h3 with rfl | rfl | rfl | rfl | rfl <;> first | omega | decide
def Zgt (k:Nat) (y:Zg):Prop:=0≤y.Mask∧y.Mask<2 ^ k
theorem Zbaa {qa:List Atom} (hk:qa.length≤4) {x:Zb} {info:List Zg} {st:List Int} {y:Zg} (hs:StOk info st) (hm:∀ y∈info,Zgt qa.length y) (h:Zcb qa x info st=some y):Zgt qa.length y:=by
 unfold Zcb at h
 split at h
 ·split at h
  ·rename_i hc
   cases h
   have:=hc.1
   simp [inR] at this
   exact shl_lt hk this.1 (by omega)
  ·cases h
 ·split at h
  ·cases h
  ·split at h
   ·split at h
    ·rename_i s y' ht
     split at h
     ·cases h
      obtain ⟨_,_,t3,t4⟩:=Ze3 hs (Nat.le_refl 1) ht
      exact hm y' (List.mem_of_getElem? t4)
     ·cases h
    ·cases h
   ·split at h
    ·rename_i s y' t z ht hu
     split at h
     ·obtain ⟨_,_,_,t4⟩:=Ze3 hs (by omega:1≤2) ht
      obtain ⟨_,_,_,u4⟩:=Ze3 hs (by omega:1≤1) hu
      obtain ⟨o,ho,rfl⟩:=Option.map_eq_some_iff.1 h
      exact or_lt hk (hm y' (List.mem_of_getElem? t4)) (hm z (List.mem_of_getElem? u4))
     ·cases h
    ·cases h
theorem Zx9 {qa:List Atom} (hk:qa.length≤4):∀ {xs:List Zb} {i:Nat} {info:List Zg} {st:List Int} {info':List Zg} {st':List Int},Zbh qa xs i info st=some (info',st') →
  StOk info st→info.length=i→(∀ y∈info,Zgt qa.length y)→(∀ y∈info',Zgt qa.length y)∧∃ tail,info'=info++tail∧tail.length=xs.length∧∀ (j:Nat) (y:Zg) (x:Zb),tail[j]?=some y→xs[j]?=some x→(0≤y.Right↔3≤x.Kind)
 | [],i,info,st,info',st',h,hs,hi,hm=>by
  simp [Zbh] at h
  obtain ⟨rfl,rfl⟩:=h
  exact ⟨hm,[],by simp,rfl,by intro j y x hj;simp at hj⟩
 | x::xs,i,info,st,info',st',h,hs,hi,hm=>by
  rw [Zbh] at h
  split at h
  ·cases h
  ·rename_i y hy
   have hn:=Zkw hs y (st.length - pops y)
   rw [hi] at hn
   have hm2:∀ z∈info++[y],Zgt qa.length z:=by
    intro z hz
    rcases List.mem_append.1 hz with hz | hz
    ·exact hm z hz
    ·simp at hz;subst hz;exact Zbaa hk hs hm hy
   obtain ⟨g1,tail,g2,g3,g4⟩:=Zx9 hk h hn (by simp [hi]) hm2
   refine ⟨g1,y::tail,by simp [g2],by simp [g3],?_⟩
   intro j y' x' hj hx
   cases j with
   | zero=>simp at hj hx;subst hj;subst hx;exact (Zrs hs hy).2.2
   | succ j=>exact g4 j y' x' (by simpa using hj) (by simpa using hx)
theorem Zya {n:Int} {qa:List Atom} {steps:List Zb} {info:List Zg} (h:Zbb n qa steps=some info) :
  (∀ y∈info,Zgt qa.length y)∧∀ (j:Nat) (y:Zg) (x:Zb),info[j]?=some y→steps[j]?=some x→(0≤y.Right↔3≤x.Kind):=by
 have hq:=(Zgs h).1
 unfold Zbb at h
 split at h
 ·split at h
  ·rename_i info' st hg
   split at h
   ·cases h
    obtain ⟨g1,tail,g2,g3,g4⟩:=Zx9 (Zbt hq).2 hg (fun s hs=>by cases hs) rfl (fun y hy=>by cases hy)
    simp at g2
    subst g2
    exact ⟨g1,g4⟩
   ·cases h
  ·cases h
 ·cases h
theorem dom_len {a b:List Int} (h:dom a b=true):a.length=b.length:=by
 simp only [dom,Bool.and_eq_true,decide_eq_true_eq] at h
 exact h.1
def vol:List Int→List Int→Int
 | l::ls,h::hs=>(h - l+1)*vol ls hs
 | _,_=>1
theorem Zrt:vol [] []=1:=rfl
theorem Zru {lo hi:List Int} {i:Nat} (h:i<lo.length) (h':i<hi.length):vol (lo.drop i) (hi.drop i)=(hi[i] - lo[i]+1)*vol (lo.drop (i+1)) (hi.drop (i+1)):=by
 rw [List.drop_eq_getElem_cons h,List.drop_eq_getElem_cons h',vol]
def capV (v:Int):Int:=if 401<v then 401 else v
theorem Zyb:∀ {xs ys:List Int} (h:Zc9 xs ys=true) (i:Nat) (h1:i<xs.length) (h2:i<ys.length),ys[i]≤xs[i]
 | x::xs,y::ys,h,0,_,_=>by simp only [Zc9,Bool.and_eq_true,decide_eq_true_eq] at h;exact h.1
 | x::xs,y::ys,h,i+1,h1,h2=>by
  simp only [Zc9,Bool.and_eq_true,decide_eq_true_eq] at h
  exact Zyb h.2 i (by simpa using h1) (by simpa using h2)
theorem Zc0 {lo hi:List Int} (h:Z8 lo hi=true):hi.length=lo.length∧1≤lo.length∧lo.length≤16∧∀ (i:Nat) (h1:i<lo.length) (h2:i<hi.length),0≤lo[i]∧lo[i]≤hi[i]∧hi[i]≤7:=by
 simp only [Z8,Bool.and_eq_true,decide_eq_true_eq,Zy,Zej,List.all_eq_true] at h
 have hl:=dom_len h.2
 refine ⟨hl,by omega,by omega,fun i h1 h2=>?_⟩
 have a:=h.1.1.2.1 _ (List.getElem_mem h1)
 have b:=h.1.2.1 _ (List.getElem_mem h2)
 have hd:=h.2
 simp only [dom,Bool.and_eq_true] at hd
 have c:=Zyb hd.2 i h2 h1
 simp [inR] at a b
 omega
theorem pow8 {i:Nat} (h:i≤16):(8:Int) ^ i≤281474976710656:=by
 have:(8:Nat) ^ i≤8 ^ 16:=Nat.pow_le_pow_right (by omega) h
 have e:((8 ^ i:Nat):Int)=(8:Int) ^ i:=by simp
 have e2:(8:Nat) ^ 16=281474976710656:=by decide
 omega
def Z7 (lo hi:List Int):Int:=if Z8 lo hi=true then capV (vol lo hi) else 0
theorem cap_mul {n d:Int} (hn:1≤n) (hd:1≤d):capV (capV n*d)=capV (n*d):=by
 unfold capV
 by_cases h:401<n
 ·have h1:n*1≤n*d:=Int.mul_le_mul_of_nonneg_left hd (by omega)
  have h2:(401:Int)*1≤401*d:=Int.mul_le_mul_of_nonneg_left hd (by omega)
  rw [if_pos h]
  split <;> split <;> omega
 ·rw [if_neg h]
theorem cap_flip (v:Int):(if v<401 then v else 401)=capV v:=by
 unfold capV
 split <;> split <;> omega
theorem cap_le {v:Int} (h:1≤v):1≤capV v∧capV v≤401:=by unfold capV;split <;> omega
def Zdb (b s:Int):Int:=if inR b 0 1000000000000=true∧inR s 0 100=true then (b*(100+s)).tdiv 100 else -1
theorem Zyc {b s:Int} (h1:inR b 0 1000000000000=true) (h2:inR s 0 100=true):IntKind.wrap .i64 (100+s)=100+s∧IntKind.wrap .i64 (b*(100+s))=b*(100+s)∧IntKind.wrap .i64 ((b*(100+s)).tdiv 100)=(b*(100+s)).tdiv 100:=by
 simp [inR] at h1 h2
 have m1:b*(100+s)≤1000000000000*200:=Int.mul_le_mul h1.2 (by omega) (by omega) (by omega)
 have m2:0≤b*(100+s):=Int.mul_nonneg h1.1 (by omega)
 have m3:0≤(b*(100+s)).tdiv 100:=Int.tdiv_nonneg m2 (by omega)
 have m4:(b*(100+s)).tdiv 100≤b*(100+s):=by
  rw [Int.tdiv_eq_ediv_of_nonneg m2]
  omega
 exact ⟨wrap64 (by omega) (by omega),wrap64 (by omega) (by omega),wrap64 (by omega) (by omega)⟩
def Zco (n:Int) (vs:List Int):Bool:=Zbj n [] vs && decide (0<vs.length)
abbrev LeB (b:Zh):Prop:=Le b.Box.Low∧Le b.Box.High∧Le b.Budgets∧Le b.Plans∧Le b.Contours∧∀ c∈b.Contours,Le c
def Zii (r:Int) (prev:Option Int) (x:Int):Bool:=match prev with
 | none=>true
 | some p=>decide (x=p*r)
def Zc1 (r:Int) (prev:Option Int):List Int→Bool
 | []=>true
 | x::xs=>inR x 1 500000000000 && Zii r prev x && Zc1 r (some x) xs
theorem Zyd (r:Int) (prev:Option Int) {xs:List Int} {k:Nat} (h:k<xs.length):Zc1 r prev (xs.drop k)=(inR xs[k] 1 500000000000 && Zii r prev xs[k] && Zc1 r (some xs[k]) (xs.drop (k+1))):=by
 rw [List.drop_eq_getElem_cons h,Zc1]
def Ze5 (n:Int) (qa:List Atom) (p:Plan):Bool:=decide (Ze4 n qa p.Steps=Zr n qa)
def headB (n:Int) (qa:List Atom) (b:Zh):Bool :=
 inR b.Version 1 999 && inR b.Ratio 2 8 && inR b.Slack 0 100 && inR (Z7 b.Box.Low b.Box.High) 1 400 && decide ((b.Box.Low.length:Int)=Zr n qa+1)
def Ze6 (n:Int) (qa:List Atom) (b:Zh):Bool :=
 Zn n qa && headB n qa b && b.Plans.all (Ze5 n qa) && Zc1 b.Ratio none b.Budgets && b.Contours.all (Zco b.Plans.length) && (decide (0<b.Budgets.length) && decide (b.Contours.length=b.Budgets.length))
def Zb6 (xs:List Int):Nat→Option Int
 | 0=>none
 | k+1=>xs[k]?
def ext:CallE:=fun _ _ _=>none
open Go.ChangeShapes Go.WideShapes Go.ChangeAt Go.RowKit
theorem own:ownKnob Tryz.prog.godebug=none:=by kernel_rfl
theorem laidOut:laidOutB Tryz.prog=true:=by kernel_rfl
noncomputable def tbl:Nat→Option MFun:=tblOf Tryz.prog [4000003,4000004,4000005,4000006,4000008,4000009,4000010,2000015,2000016,2000017,2000018,4000018,5000018,3000023,3000024,3000025,3000026,2000030,2000034,3000036,3000037,2000041,2000046,2000050,2000057,2000058,3000060,2000064,2000065,3000067,2000070,3000072,1000086,2000089,2000090,2000091,2000092,2000093,2000095,3000103,3000104,3000105,3000106,2000111,3000119,3000120,2000123,128,129,1000140,2000170,2000171,3000174,3000175,2000190,1000206,2000209,2000210,3000221,227,2000228,234,240,241,242,243,244,245,246,247,2000279,291,1000293,2000294,305,309,310,311,312,313,314,315,1000372,375,1000381,383,1000391]
noncomputable def C:CallE:=callC ext tbl
theorem run {f:Nat} {xs:List AV} {m:MFun} (ht:tbl f=some m) (hl:xs.length=m.np) {r:AV×List Blk} (h:Ev C [.fin 0 m.res] m.body ⟨initE xs 0,[[]],[]⟩=some r):C f xs []=some r:=callC_of (h0:=[]) ht hl h
theorem runM {f:Nat} {xs:List AV} {h0:List Blk} {m:MFun} (ht:tbl f=some m) (hl:xs.length=m.np) {r:AV×List Blk} (h:Ev C [.fin h0.length m.res] m.body ⟨initE xs 0,[rootsE h0 0],h0⟩=some r):C f xs h0=some r:=callC_of ht hl h
abbrev Zbab:Nat:=3
abbrev Zbac:Nat:=11
abbrev Zbad:Nat:=12
abbrev Zbae:Nat:=13
abbrev Zbaf:Nat:=15
abbrev Zbag:Nat:=16
abbrev Zbah:Nat:=17
abbrev Zbai:Nat:=18
abbrev Zye:Nat:=19
abbrev Zbaj:Nat:=20
abbrev Zbak:Nat:=21
abbrev Zbal:Nat:=22
abbrev Zbam:Nat:=23
abbrev Zban:Nat:=24
abbrev Zbao:Nat:=25
abbrev Zkx:Nat:=26
abbrev Zyf:Nat:=27
abbrev Zbap:Nat:=35
abbrev Zbaq:Nat:=55
abbrev Zbar:Nat:=57
abbrev Zbas:Nat:=62
abbrev Zbat:Nat:=64
abbrev Zbau:Nat:=66
abbrev Zbav:Nat:=67
abbrev Zbaw:Nat:=74
abbrev Zbax:Nat:=75
abbrev Zbay:Nat:=76
abbrev Zbaz:Nat:=77
abbrev Zba0:Nat:=78
abbrev Zba1:Nat:=89
abbrev Zba2:Nat:=90
abbrev Zba3:Nat:=91
abbrev Zba4:Nat:=92
abbrev Zba5:Nat:=93
abbrev Zba6:Nat:=99
abbrev Zba7:Nat:=100
abbrev Zba8:Nat:=101
abbrev Zba9:Nat:=102
abbrev Zbba:Nat:=103
abbrev Zbbb:Nat:=104
abbrev Zbbc:Nat:=105
abbrev Zbbd:Nat:=106
abbrev Zbbe:Nat:=118
abbrev Zn7:Nat:=120
abbrev Zbbf:Nat:=168
abbrev Zbbg:Nat:=170
abbrev Zbbh:Nat:=192
abbrev Zbbi:Nat:=193
abbrev Zbbj:Nat:=209
abbrev Zbbk:Nat:=210
abbrev Zbbl:Nat:=219
abbrev Zbbm:Nat:=220
abbrev Zbbn:Nat:=221
abbrev Zrv:Nat:=222
abbrev Zbbo:Nat:=238
abbrev Zbbp:Nat:=279
abbrev Zbbq:Nat:=294
abbrev Zbbr:Nat:=299
abbrev Zv:Nat:=3
abbrev t_bool:Nat:=4
abbrev Zij:Nat:=30
abbrev Zn8:Nat:=79
abbrev Zn9:Nat:=194
abbrev Zgu:Nat:=209
abbrev Zoa:Nat:=264
abbrev Ze7:Nat:=307
end Go.Proofs.YtgnfoghkbpkgjaaGreat
