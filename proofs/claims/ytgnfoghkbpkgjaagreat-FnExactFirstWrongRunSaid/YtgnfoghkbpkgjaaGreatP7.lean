/-
  Parts of the proofs for this seat: TX PW EX H.
-/
import Derived.Test.YtgnfoghkbpkgjaaGreatRows
import Derived.Test.YtgnfoghkbpkgjaaGreatP4
import Derived.Test.YtgnfoghkbpkgjaaGreatP5
import Derived.Test.YtgnfoghkbpkgjaaGreatP6
set_option linter.unusedSimpArgs false
set_option linter.unusedVariables false
set_option maxRecDepth 100000
set_option maxHeartbeats 4000000
namespace Go.Proofs.YtgnfoghkbpkgjaaGreat
open Go.AM
@[simp] theorem Zf.map_inj(xs ys:List Zf):xs.map Zf.c=ys.map Zf.c↔xs=ys:=Zb4 (by
 intro a b h;simp at h
 simp[Zf.ext_iff,h])
@[simp] theorem Zf.flat(xs:List Zf):(xs.map Zf.c).all (fun x=>x.all Z1)=true:=Zfx (fun _=>rfl) xs
@[simp] theorem Zf.flat2(xs:List Zf):xs.all ((fun x=>x.all Z1) ∘ Zf.c)=true:=Zfy (fun _=>rfl) xs
@[simp] theorem Zh.map_inj(xs ys:List Zh):xs.map Zh.c=ys.map Zh.c↔xs=ys:=Zb4 (by
 intro a b h;simp at h
 simp[Zh.ext_iff,h])
@[simp] theorem Zj.map_inj(xs ys:List Zj):xs.map Zj.c=ys.map Zj.c↔xs=ys:=Zb4 (by
 intro a b h;simp at h
 simp[Zj.ext_iff,Zh.ext_iff,h])
@[simp] theorem Atom.map_inj(xs ys:List Atom):xs.map Atom.c=ys.map Atom.c↔xs=ys:=Zb4 (by
 intro a b h;simp at h
 simp[Atom.ext_iff,h])
@[simp] theorem Zd.map_inj(xs ys:List Zd):xs.map Zd.c=ys.map Zd.c↔xs=ys:=Zb4 (by
 intro a b h;simp at h
 simp[Zd.ext_iff,h])
@[simp] theorem Box.map_inj(xs ys:List Box):xs.map Box.c=ys.map Box.c↔xs=ys:=Zb4 (by
 intro a b h;simp at h
 simp[Box.ext_iff,h])
@[simp] theorem Zg.map_inj(xs ys:List Zg):xs.map Zg.c=ys.map Zg.c↔xs=ys:=Zb4 (by
 intro a b h;simp at h
 simp[Zg.ext_iff,h])
@[simp] theorem Zg.flat(xs:List Zg):(xs.map Zg.c).all (fun x=>x.all Z1)=true:=Zfx (fun _=>rfl) xs
@[simp] theorem Zg.flat2(xs:List Zg):xs.all ((fun x=>x.all Z1) ∘ Zg.c)=true:=Zfy (fun _=>rfl) xs
@[simp] theorem Plan.map_inj(xs ys:List Plan):xs.map Plan.c=ys.map Plan.c↔xs=ys:=Zb4 (by
 intro a b h;simp at h
 simp[Plan.ext_iff,h])
@[simp] theorem Zbb.map_inj(xs ys:List Zbb):xs.map Zbb.c=ys.map Zbb.c↔xs=ys:=Zb4 (by
 intro a b h;simp at h
 simp[Zbb.ext_iff,Box.ext_iff,h])
@[simp] theorem Zi.map_inj(xs ys:List Zi):xs.map Zi.c=ys.map Zi.c↔xs=ys:=Zb4 (by
 intro a b h;simp at h
 simp[Zi.ext_iff,h])
@[simp] theorem Zk.map_inj(xs ys:List Zk):xs.map Zk.c=ys.map Zk.c↔xs=ys:=Zb4 (by
 intro a b h;simp at h
 simp[Zk.ext_iff,h])
@[simp] theorem Zu.map_inj(xs ys:List Zu):xs.map Zu.c=ys.map Zu.c↔xs=ys:=Zb4 (by
 intro a b h;simp at h
 simp[Zu.ext_iff,h])
@[simp] theorem Zu.flat(xs:List Zu):(xs.map Zu.c).all (fun x=>x.all Z1)=true:=Zfx (fun _=>rfl) xs
@[simp] theorem Zu.flat2(xs:List Zu):xs.all ((fun x=>x.all Z1) ∘ Zu.c)=true:=Zfy (fun _=>rfl) xs
@[ext] structure Za where
 Vars:List Int
 Rows:List (List Int)
 deriving DecidableEq
def Za.c(x:Za):List T:=[.lst 1 (x.Vars.map ic),.lst 1 (x.Rows.map isc)]
@[simp] theorem Za.c_def(x:Za):x.c=[.lst 1 (x.Vars.map ic),.lst 1 (x.Rows.map isc)]:=rfl
@[simp] theorem Za.map_inj(xs ys:List Za):xs.map Za.c=ys.map Za.c↔xs=ys:=Zb4 (by
 intro a b h;simp at h
 simp[Za.ext_iff,h])
@[ext] structure Zb where
 Mask:Int
 Order:Int
 Left:Int
 Right:Int
 deriving DecidableEq
def Zb.c(x:Zb):List T:=[.int .i64 x.Mask,.int .i64 x.Order,.int .i64 x.Left,.int .i64 x.Right]
@[simp] theorem Zb.c_def(x:Zb):x.c=[.int .i64 x.Mask,.int .i64 x.Order,.int .i64 x.Left,.int .i64 x.Right]:=rfl
@[simp] theorem Zb.map_inj(xs ys:List Zb):xs.map Zb.c=ys.map Zb.c↔xs=ys:=Zb4 (by
 intro a b h;simp at h
 simp[Zb.ext_iff,h])
@[simp] theorem Zb.flat(xs:List Zb):(xs.map Zb.c).all (fun x=>x.all Z1)=true:=Zfx (fun _=>rfl) xs
@[simp] theorem Zb.flat2(xs:List Zb):xs.all ((fun x=>x.all Z1) ∘ Zb.c)=true:=Zfy (fun _=>rfl) xs
@[ext] structure Zl where
 Mask:Int
 Class:Int
 Exact:Bool
 deriving DecidableEq
def Zl.c(x:Zl):List T:=[.int .i64 x.Mask,.int .i64 x.Class,.bool x.Exact]
@[simp] theorem Zl.c_def(x:Zl):x.c=[.int .i64 x.Mask,.int .i64 x.Class,.bool x.Exact]:=rfl
@[simp] theorem Zl.map_inj(xs ys:List Zl):xs.map Zl.c=ys.map Zl.c↔xs=ys:=Zb4 (by
 intro a b h;simp at h
 simp[Zl.ext_iff,h])
@[simp] theorem Zl.flat(xs:List Zl):(xs.map Zl.c).all (fun x=>x.all Z1)=true:=Zfx (fun _=>rfl) xs
@[simp] theorem Zl.flat2(xs:List Zl):xs.all ((fun x=>x.all Z1) ∘ Zl.c)=true:=Zfy (fun _=>rfl) xs
def inR(a b c:Int):Bool:=decide (b≤a∧a≤c)
def Zbf(c:Int):Int:=if c<0 then -1 else if c=0 then 0 else if c=1 then 1 else if c=2 then 4 else if c=3 then 16 else if c=4 then 64 else if c=5 then 256 else if c=6 then 1024 else if c=7 then 4096 else -1
theorem cls8{c:Int}(h:inR c 0 7=true):c=0∨c=1∨c=2∨c=3∨c=4∨c=5∨c=6∨c=7:=by
 simp[inR]at h;omega
theorem Z3r{c:Int}(h:inR c 0 7=false):Zbf c=-1:=by
 simp[inR]at h;unfold Zbf;split
 ·rfl
 ·repeat' split
  all_goals omega
def Zd2(n:Int):Int:=if n<0 then -1 else if n≤0 then 0 else if n≤1 then 1 else if n≤4 then 2 else if n≤16 then 3 else if n≤64 then 4 else if n≤256 then 5 else if n≤1024 then 6 else if n≤4096 then 7 else -1
def Zne(n:Int):Int:=Zbf (Zd2 n)
theorem Z3s{α:Type}(p:α→Bool){xs:List α}{i:Nat}(h:i<xs.length):(xs.drop i).all p=(p xs[i] && (xs.drop (i+1)).all p):=by
 rw[Yf h,Y4]
theorem drop_any{α:Type}(p:α→Bool){xs:List α}{i:Nat}(h:i<xs.length):(xs.drop i).any p=(p xs[i] || (xs.drop (i+1)).any p):=by
 rw[Yf h,List.any_cons]
def domAll:List Int→List Int→Bool
 |x::xs,y::ys=>decide (y≤x) && domAll xs ys
 |_,_=>true
def dom(xs ys:List Int):Bool:=decide (xs.length=ys.length) && domAll xs ys
def bit4(a b c d:Bool):Int:=(if a then 1 else 0)+(if b then 2 else 0)+(if c then 4 else 0)+(if d then 8 else 0)
def Zbd(p:Nat→Bool):Int:=bit4 (p 0) (p 1) (p 2) (p 3)
theorem in4{v:Int}(h:inR v 0 3=true):v=0∨v=1∨v=2∨v=3:=by simp[inR]at h;omega
def has(xs:List Int)(v:Int):Bool:=xs.any (fun x=>decide (v=x))
theorem Zci{xs:List Int}{v:Int}:has xs v=true↔v∈xs:=by
 simp only[has,List.any_eq_true,decide_eq_true_eq];exact⟨fun⟨x,h,e⟩=>e▸h,fun h=>⟨v,h,rfl⟩⟩
def addV(p:Nat→Bool)(vs:List Int):Nat→Bool:=fun u=>p u || has vs u
theorem Zu9(p:Nat→Bool):addV p []=p:=by funext u;simp[addV,has]
theorem Zbg8(p:Nat→Bool)(v:Int)(vs:List Int):addV (addV p [v]) vs=addV p (v::vs):=by funext u;simp[addV,has,Bool.or_assoc]
theorem Zva(p:Nat→Bool){vs:List Int}{i:Nat}(h:i<vs.length):addV p (vs.drop i)=addV (addV p [vs[i]]) (vs.drop (i+1)):=by
 rw[Yf h,Zbg8]
theorem or_d:∀a b c d:Bool,orI (bit4 a b c d) 1=bit4 true b c d∧orI (bit4 a b c d) 2=bit4 a true c d∧orI (bit4 a b c d) 4=bit4 a b true d∧orI (bit4 a b c d) 8=bit4 a b c true:=by decide
theorem or_bit(p:Nat→Bool){v:Int}(h:inR v 0 3=true):orI (Zbd p) (shlI 1 v)=Zbd (addV p [v]):=by
 have q:=or_d (p 0) (p 1) (p 2) (p 3);rcases in4 h with rfl|rfl|rfl|rfl<;>simp[addV,has,Zbd,shlI,Zt,q]
theorem and_d:∀a b c d:Bool,(andI (shrI (bit4 a b c d) 0) 1=1↔a=true)∧(andI (shrI (bit4 a b c d) 1) 1=1↔b=true)∧(andI (shrI (bit4 a b c d) 2) 1=1↔c=true)∧(andI (shrI (bit4 a b c d) 3) 1=1↔d=true):=by decide
theorem at_bit(p:Nat→Bool){v:Int}(h:inR v 0 3=true):andI (shrI (Zbd p) v) 1=1↔p v.toNat=true:=by
 have q:=and_d (p 0) (p 1) (p 2) (p 3);rcases in4 h with rfl|rfl|rfl|rfl<;>simp[Zbd,q]
theorem and4:∀a b c d a' b' c' d':Bool,andI (bit4 a b c d) (bit4 a' b' c' d')=bit4 (a && a') (b && b') (c && c') (d && d'):=by decide
theorem Z3t(p q:Nat→Bool):andI (Zbd p) (Zbd q)=Zbd (fun u=>p u && q u):=and4 _ _ _ _ _ _ _ _
theorem zero4:∀a b c d:Bool,bit4 a b c d=0↔(a=false∧b=false∧c=false∧d=false):=by decide
theorem Zbg9(p:Nat→Bool):Zbd p=0↔∀u,u<4→p u=false:=by
 rw[Zbd,zero4];constructor
 ·rintro⟨h0,h1,h2,h3⟩ u hu
  match u,hu with
  |0,_=>exact h0
  |1,_=>exact h1
  |2,_=>exact h2
  |3,_=>exact h3
 ·intro h;exact⟨h 0 (by omega),h 1 (by omega),h 2 (by omega),h 3 (by omega)⟩
def Zbi{α:Type}(p:α→Bool):List α→Nat→Int
 |[],_=>-1
 |x::xs,i=>if p x=true then i else Zbi p xs (i+1)
theorem Znf{α:Type}(p:α→Bool){xs:List α}{i:Nat}(h:i<xs.length):Zbi p (xs.drop i) i=if p xs[i]=true then(i:Int)else Zbi p (xs.drop (i+1)) (i+1):=by
 rw[Yf h,Zbi]
theorem Zvb{α:Type}(p:α→Bool)(xs:List α):∀i,xs.any p=false→Zbi p xs i=-1:=by
 induction xs with
 |nil=>intro i _;rfl
 |cons x xs ih=>intro i h;simp at h;simp[Zbi,h];apply ih;simp;exact h.2
theorem Z3u{α:Type}(p:α→Bool)(xs:List α):∀i,xs.any p=true→0≤Zbi p xs i:=by
 induction xs with
 |nil=>intro i h;simp at h
 |cons x xs ih =>
  intro i h;unfold Zbi;split
  ·omega
  ·rename_i hx;simp only[List.any_cons,hx,Yda]at h;exact ih _ h
def nmOk(s:ByteArray):Bool:=match s[0]? with
 |some b=>decide (s.size=1) && decide (97≤(b.toNat:Int)) && decide ((b.toNat:Int)≤122)
 |none=>false
theorem get0{s:ByteArray}(h:s.size=1):∃b,s[0]?=some b:=⟨s[0],getElem?_pos s 0 (by omega)⟩
def Zc2(n:Int)(pre:List Int):List Int→Bool
 |[]=>true
 |v::rest=>inR v 0 (n-1) && !has pre v && Zc2 n (pre++[v]) rest
theorem Z3v(n:Int){vs:List Int}{k:Nat}(h:k<vs.length):Zc2 n (vs.take k) (vs.drop k)=(inR vs[k] 0 (n-1) && !has (vs.take k) vs[k] && Zc2 n (vs.take (k+1)) (vs.drop (k+1))):=by
 conv=>lhs;rw[Yf h,Zc2]
 rw[List.take_add_one,Yh h];rfl
theorem Zvc{n:Int}:∀{vs pre:List Int},Zc2 n pre vs=true→∀v∈vs,inR v 0 (n-1)=true
 |[],_,_,v,hv=>by cases hv
 |x::xs,pre,h,v,hv=>by
  simp only[Zc2,Ye]at h
  cases hv with
  |head=>exact h.1.1
  |tail _ hv=>exact Zvc h.2 v hv
def Zb8(n:Int)(a:Atom):Bool:=nmOk a.Name && inR a.Vars.length 1 3 && Zc2 n [] a.Vars
def addA(p:Nat→Bool)(qa:List Atom):Nat→Bool:=fun u=>p u || qa.any fun a=>has a.Vars u
theorem Z3w(p:Nat→Bool){qa:List Atom}{i:Nat}(h:i<qa.length):addA p (qa.drop i)=addA (addV p qa[i].Vars) (qa.drop (i+1)):=by
 rw[Yf h];funext u;simp only[addA,List.any_cons,addV,Bool.or_assoc]
def Zw(n:Int)(qa:List Atom):Bool :=
 inR n 1 4 && inR qa.length 1 4 && qa.all (Zb8 n) && (List.range n.toNat).all (addA (fun _=>false) qa)
def bl(p:Nat→Bool)(n:Nat):List (List T):=(List.range n).map fun u=>[T.bool (p u)]
@[simp] theorem bl_get(p:Nat→Bool)(n i:Nat)(h:i<(bl p n).length):(bl p n)[i]=[T.bool (p i)]:=by simp[bl]
theorem bl_any(p:Nat→Bool)(n:Nat):((List.range n).map p).any (fun x=>false == x)=!(List.range n).all p:=by
 rw[List.any_map,Yb8];simp
theorem Zqr:∀a b c d:Bool,(bit4 a b c d=1↔(a=true∧b=false∧c=false∧d=false))∧(bit4 a b c d=3↔(a=true∧b=true∧c=false∧d=false))∧(bit4 a b c d=7↔(a=true∧b=true∧c=true∧d=false))∧(bit4 a b c d=15↔(a=true∧b=true∧c=true∧d=true)):=by decide
theorem all_in{n:Int}{qa:List Atom}(h:qa.all (Zb8 n)=true):∀u:Int,n≤u→qa.any (fun a=>has a.Vars u)=false:=by
 intro u hu;rw[Yd1];intro a ha hc;rw[Zci]at hc;have:=Yn.1 h a ha;simp only[Zb8,Ye]at this;have:=Zvc this.2 _ hc;simp[inR]at this;omega
def Zb5(m:Int)(i:Nat):Bool:=decide (andI (shrI m i) 1=1)
def hasV(m:Int):List Atom→Nat→Int→Bool
 |[],_,_=>false
 |a::as',i,u=>(Zb5 m i && has a.Vars u) || hasV m as' (i+1) u
theorem Z3x(m:Int){qa:List Atom}{i:Nat}(h:i<qa.length)(u:Int):hasV m (qa.drop i) i u=((Zb5 m i && has qa[i].Vars u) || hasV m (qa.drop (i+1)) (i+1) u):=by
 rw[Yf h,hasV]
def pV(m:Int)(qa:List Atom):Nat→Bool:=fun u=>hasV m qa 0 u
def Var4(qa:List Atom):Prop:=∀a∈qa,∀v∈a.Vars,inR v 0 3=true
theorem Z3y{n:Int}{qa:List Atom}(h:Zw n qa=true):∀a∈qa,∀v∈a.Vars,inR v 0 (n-1)=true:=by
 intro a ha v hv;simp only[Zw,Ye]at h;have:=Yn.1 h.1.2 a ha;simp only[Zb8,Ye]at this;exact Zvc this.2 v hv
theorem Zic{n:Int}{qa:List Atom}(h:Zw n qa=true):1≤n∧n≤4:=by
 simp only[Zw,Ye]at h;have:=h.1.1.1;simpa[inR]using this
theorem Zfh{n:Int}{qa:List Atom}(h:Zw n qa=true):1≤qa.length∧qa.length≤4:=by
 simp only[Zw,Ye]at h;have:=h.1.1.2;simp[inR]at this;omega
theorem Zng{n:Int}{qa:List Atom}(h:Zw n qa=true):∀a∈qa,1≤a.Vars.length∧a.Vars.length≤3:=by
 intro a ha;simp only[Zw,Ye]at h;have:=Yn.1 h.1.2 a ha;simp only[Zb8,Ye]at this;have:=this.1.2;simp[inR]at this;omega
theorem Znh{n:Int}{qa:List Atom}(h:Zw n qa=true):Var4 qa:=by
 intro a ha v hv;have:=Z3y h a ha v hv;have h2:=Zic h;simp[inR]at this⊢;omega
def addM(m:Int)(p:Nat→Bool)(qa:List Atom)(i:Nat):Nat→Bool:=fun u=>p u || hasV m (qa.drop i) i u
theorem Zbha(m:Int)(p:Nat→Bool){qa:List Atom}{i:Nat}(h:i<qa.length):addM m p qa i=addM m (if Zb5 m i=true then addV p qa[i].Vars else p) qa (i+1):=by
 funext u;rw[addM,Z3x _ h];rcases tf (Zb5 m i)with e|e<;>simp[addM,addV,e,Bool.or_assoc]
def varL(m:Int)(qa:List Atom)(k:Nat):List Int:=((List.range k).filter (pV m qa)).map fun u:Nat=>(u:Int)
theorem Zbhb(m:Int)(qa:List Atom)(k:Nat):varL m qa (k+1)=varL m qa k++if hasV m qa 0 k=true then[(k:Int)]else[]:=by
 unfold varL;rw[Yca,Ydc,Ybk];rcases tf (hasV m qa 0 k)with e|e<;>simp[pV,e]
theorem Zko(m:Int)(qa:List Atom)(k:Nat):(varL m qa k).length≤k:=by
 unfold varL;simp;exact Ym (Yc5 _ _) (by simp)
theorem Zbhc{α:Type}(p:α→Bool){xs:List α}{i:Nat}(h:i<xs.length):(xs.take (i+1)).filter p=(xs.take i).filter p++if p xs[i]=true then[xs[i]]else[]:=by
 rw[List.take_add_one,Yh h,Ydc];rcases tf (p xs[i])with e|e<;>simp[e]
def vin(qa:List Atom)(m v:Int):Bool:=inR v 0 3 && pV m qa v.toNat
def shr(qa:List Atom)(a b:Int):Bool:=(List.range 4).any fun u=>pV a qa u && pV b qa u
def Zc3(st:List Int)(info:List Zb)(k:Nat):Option (Int×Zb):=if k≤st.length then(match st[st.length-k]? with
 |some s=>(info[s.toNat]?).map (s,·)
 |none=>none)else none
def Zd3(qa:List Atom)(x:Zg)(y z:Zb):Option Int :=
 if x.Kind=3∧x.Order=0 then some (-1)
 else if x.Kind=5∧x.Order=0 then some y.Order
 else if x.Kind=4∧vin qa y.Mask x.Order=true∧vin qa z.Mask x.Order=true∧y.Order=x.Order∧z.Order=x.Order then some x.Order
 else none
def Zdd(qa:List Atom)(x:Zg)(info:List Zb)(st:List Int):Option Zb :=
 if x.Kind=1 then(if inR x.Atom 0 (qa.length-1)=true∧x.Order=0 then some ⟨shlI 1 x.Atom,(match qa[x.Atom.toNat]? with|some a=>a.Vars.headD 0|none=>0),-1,-1⟩else none)
 else if x.Atom≠0 then none
 else if x.Kind=2 then(match Zc3 st info 1 with
  |some (s,y)=>if vin qa y.Mask x.Order=true∧y.Order≠x.Order then some ⟨y.Mask,x.Order,s,-1⟩else none
  |none=>none)
 else match Zc3 st info 2,Zc3 st info 1 with
  |some (s,y),some (t,z)=>if andI y.Mask z.Mask=0∧shr qa y.Mask z.Mask=true then(Zd3 qa x y z).map (⟨orI y.Mask z.Mask,·,s,t⟩)else none
  |_,_=>none
def StOk(info:List Zb)(st:List Int):Prop:=∀s∈st,0≤s∧s.toNat<info.length
theorem Zid{info:List Zb}{st:List Int}(h:StOk info st){k:Nat}(h1:1≤k)(h2:k≤st.length) :
  ∃s y,Zc3 st info k=some (s,y)∧st[st.length-k]?=some s∧0≤s∧info[s.toNat]?=some y:=by
 have hlt:st.length-k<st.length:=by omega
 obtain⟨h3,h4⟩:=h _ (Yc hlt);refine⟨st[st.length-k],info[(st[st.length-k]).toNat],?_,Yh hlt,h3,Yh h4⟩;simp[Zc3,h2,Yh hlt,Yh h4]
theorem pV_lt{n:Int}{qa:List Atom}(h:Zw n qa=true){m:Int}{u:Nat}(hp:pV m qa u=true):(u:Int)<n:=by
 have:∀(l:List Atom) (i:Nat),(∀a∈l,a∈qa)→hasV m l i u=true→(u:Int)<n:=by
  intro l
  induction l with
  |nil=>intro i _ hh;simp[hasV]at hh
  |cons a l ih =>
   intro i hs hh;simp only[hasV,Yc4,Ye]at hh;rcases hh with hh|hh
   ·have:=Z3y h a (hs a (by simp)) u (Zci.1 hh.2);simp[inR]at this;omega
   ·exact ih (i+1) (fun b hb=>hs b (by simp[hb])) hh
 exact this qa 0 (fun a ha=>ha) hp
theorem Zkp{n:Int}{qa:List Atom}(h:Zw n qa=true)(m v:Int):has (varL m qa n.toNat) v=vin qa m v:=by
 have hn:=Zic h;rw[Yb8,Zci];simp only[varL,Y1,Ybe,Ybi,vin,Ye];constructor
 ·rintro⟨u,⟨h1,h2⟩,rfl⟩;refine⟨by simp[inR];omega,by simpa using h2⟩
 ·rintro⟨h1,h2⟩;have h3:=pV_lt h h2;simp[inR]at h1;exact⟨v.toNat,⟨by omega,h2⟩,by omega⟩
theorem Zbhd{n:Int}{qa:List Atom}(h:Zw n qa=true)(a b:Int):((varL a qa n.toNat).filter (has (varL b qa n.toNat))).length=0↔shr qa a b=false:=by
 have hn:=Zic h;rw[List.length_eq_zero_iff,Ydz,shr,Yd1];simp only[Zkp h];constructor
 ·intro hh u hu;simp only[Ybi]at hu;simp only[Ye,not_and];intro h1 h2;have h3:=pV_lt h h1;refine hh (u:Int) ?_ ?_
  ·simp only[varL,Y1,Ybe,Ybi];exact⟨u,⟨by omega,h1⟩,rfl⟩
  ·simp only[vin,Ye];exact⟨by simp[inR];omega,by simpa using h2⟩
 ·intro hh v hv;simp only[varL,Y1,Ybe,Ybi]at hv;obtain⟨u,⟨h1,h2⟩,rfl⟩:=hv;have:=hh u (by simp only[Ybi];omega);simp only[Ye,not_and]at this;simp only[vin,Ye,not_and];intro _;simpa using this h2
theorem Zbhe{n:Int}{qa:List Atom}(h:Zw n qa=true)(a b v:Int):has ((varL a qa n.toNat).filter (has (varL b qa n.toNat))) v=(vin qa a v && vin qa b v):=by
 rw[Yb8,Zci,Ybe,←Zci,Zkp h,Zkp h,Ye]
theorem shr_bits(qa:List Atom)(a b:Int):andI (Zbd (pV a qa)) (Zbd (pV b qa))=0↔shr qa a b=false:=by
 rw[Z3t,Zbg9,shr,Yd1];simp
def popsI(x:Zg):Int:=if x.Kind=1 then 0 else if x.Kind=2 then 1 else 2
theorem hd0{xs:List Int}(h:0<xs.length):xs.head?.getD 0=xs[0]:=by cases xs with|nil=>simp at h|cons x xs=>rfl
def pops(y:Zb):Nat:=if 0≤y.Right then 2 else if 0≤y.Left then 1 else 0
def Zcb(qa:List Atom):List Zg→Nat→List Zb→List Int→Option (List Zb×List Int)
 |[],_,info,st=>some (info,st)
 |x::xs,i,info,st=>match Zdd qa x info st with
  |none=>none
  |some y=>Zcb qa xs (i+1) (info++[y]) (st.take (st.length-pops y)++[(i:Int)])
theorem Z3z(qa:List Atom){xs:List Zg}{i:Nat}(h:i<xs.length)(info:List Zb)(st:List Int):Zcb qa (xs.drop i) i info st=match Zdd qa xs[i] info st with
  |none=>none
  |some y=>Zcb qa (xs.drop (i+1)) (i+1) (info++[y]) (st.take (st.length-pops y)++[(i:Int)]):=by
 rw[Yf h,Zcb]
def Zcf(n:Int)(qa:List Atom)(steps:List Zg):Option (List Zb) :=
 if Zw n qa=true∧inR steps.length 1 14=true then(match Zcb qa steps 0 [] []with
  |some (info,st)=>if st.length=1 then some info else none
  |none=>none)else none
theorem Zfz{st:List Int}{info:List Zb}{k:Nat}{s:Int}{y:Zb}(hs:StOk info st)(h1:1≤k)(h:Zc3 st info k=some (s,y)):k≤st.length∧0≤s∧s.toNat<info.length∧info[s.toNat]?=some y:=by
 have hk:k≤st.length:=by
  unfold Zc3 at h;split at h
  ·assumption
  ·cases h
 obtain⟨s',y',q1,q2,q3,q4⟩:=Zid hs h1 hk;rw[q1]at h;cases h;exact⟨hk,q3,(Yx.1 q4).1,q4⟩
theorem Zvd{qa:List Atom}{x:Zg}{info:List Zb}{st:List Int}{y:Zb}(hs:StOk info st)(h:Zdd qa x info st=some y) :
  popsI x=pops y∧pops y≤st.length∧(0≤y.Right↔3≤x.Kind):=by
 unfold Zdd at h;unfold popsI pops;split at h
 ·rename_i k1;split at h
  ·cases h;simp[k1]
  ·cases h
 ·rename_i k1;split at h
  ·cases h
  ·split at h
   ·rename_i k2;split at h
    ·rename_i s y' ht;split at h
     ·cases h;obtain⟨t1,t2,_⟩:=Zfz hs (Yd 1) ht;simp[k2,t2,t1]
     ·cases h
    ·cases h
   ·rename_i k2;split at h
    ·rename_i s y' t z ht hu;split at h
     ·obtain⟨t1,t2,_⟩:=Zfz hs (by omega:1≤2) ht;obtain⟨u1,u2,_⟩:=Zfz hs (by omega:1≤1) hu;obtain⟨o,ho,rfl⟩:=Yj.1 h;have hk:x.Kind=3∨x.Kind=4∨x.Kind=5:=by
       unfold Zd3 at ho;split at ho
       ·omega
       ·split at ho
        ·omega
        ·split at ho
         ·omega
         ·cases ho
      simp only[u2,if_true,k1,k2,if_false];refine⟨rfl,t1,?_⟩;simp;omega
     ·cases h
    ·cases h
theorem Zqs{info:List Zb}{st:List Int}(hs:StOk info st)(y:Zb)(k:Nat):StOk (info++[y]) (st.take k++[(info.length:Int)]):=by
 intro s h;rcases Yi.1 h with h|h
 ·obtain⟨h1,h2⟩:=hs s (Y2 h);exact⟨h1,by simp;omega⟩
 ·simp at h;subst h;simp
theorem st_len{st:List Int}{i k:Nat}(h:st.length≤i)(x:Int):(st.take k++[x]).length≤i+1:=by simp;omega
theorem Z30{qa:List Atom}:∀{xs:List Zg} {i:Nat} {info:List Zb} {st:List Int} {info':List Zb} {st':List Int},Zcb qa xs i info st=some (info',st')→info'.length=info.length+xs.length
 |[],_,_,_,_,_,h=>by simp[Zcb]at h;simp[h.1]
 |x::xs,i,info,st,info',st',h=>by
  rw[Zcb]at h;split at h
  ·cases h
  ·have:=Z30 h;simp at this⊢;omega
theorem Z31{n:Int}{qa:List Atom}{steps:List Zg}{info:List Zb}(h:Zcf n qa steps=some info):Zw n qa=true∧info.length=steps.length∧1≤steps.length∧steps.length≤14:=by
 unfold Zcf at h;split at h
 ·rename_i hc;have h2:=hc.2;simp[inR]at h2;split at h
  ·rename_i info' st hg;split at h
   ·cases h;have:=Z30 hg;simp at this;exact⟨hc.1,this,by omega,by omega⟩
   ·cases h
  ·cases h
 ·cases h
theorem or16:∀a b:Fin 16,orI (a.1:Int) (b.1:Int)=((a.1 ||| b.1:Nat):Int):=by decide
theorem or_lt{k:Nat}(hk:k≤4){a b:Int}(ha:0≤a∧a<2 ^ k)(hb:0≤b∧b<2 ^ k):0≤orI a b∧orI a b<2 ^ k:=by
 have h16:(2:Int) ^ k≤16:=by
  have:k=0∨k=1∨k=2∨k=3∨k=4:=by omega
  rcases this with rfl|rfl|rfl|rfl|rfl<;>decide
 have e1:a=(a.toNat:Int):=by omega
 have e2:b=(b.toNat:Int):=by omega
 have l1:a.toNat<16:=by omega
 have l2:b.toNat<16:=by omega
 have e:=or16 ⟨a.toNat,l1⟩ ⟨b.toNat,l2⟩;simp only at e;rw[e1,e2,e];have c:((2 ^ k:Nat):Int)=2 ^ k:=by simp
 have m1:a.toNat<2 ^ k:=by omega
 have m2:b.toNat<2 ^ k:=by omega
 have:=Nat.or_lt_two_pow m1 m2;omega
theorem shl_lt{k:Nat}(hk:k≤4){v:Int}(h0:0≤v)(h1:v<k):0≤shlI 1 v∧shlI 1 v<2 ^ k:=by
 have h2:v=0∨v=1∨v=2∨v=3:=by omega
 have h3:k=0∨k=1∨k=2∨k=3∨k=4:=by omega
 rcases h2 with rfl|rfl|rfl|rfl<;>rcases h3 with rfl|rfl|rfl|rfl|rfl<;>first|omega|decide
def Zie(k:Nat)(y:Zb):Prop:=0≤y.Mask∧y.Mask<2 ^ k
theorem Zbhf{qa:List Atom}(hk:qa.length≤4){x:Zg}{info:List Zb}{st:List Int}{y:Zb}(hs:StOk info st)(hm:∀y∈info,Zie qa.length y)(h:Zdd qa x info st=some y):Zie qa.length y:=by
 unfold Zdd at h;split at h
 ·split at h
  ·rename_i hc;cases h;have:=hc.1;simp[inR]at this;exact shl_lt hk this.1 (by omega)
  ·cases h
 ·split at h
  ·cases h
  ·split at h
   ·split at h
    ·rename_i s y' ht;split at h
     ·cases h;obtain⟨_,_,t3,t4⟩:=Zfz hs (Yd 1) ht;exact hm y' (Yw t4)
     ·cases h
    ·cases h
   ·split at h
    ·rename_i s y' t z ht hu;split at h
     ·obtain⟨_,_,_,t4⟩:=Zfz hs (by omega:1≤2) ht;obtain⟨_,_,_,u4⟩:=Zfz hs (by omega:1≤1) hu;obtain⟨o,ho,rfl⟩:=Yj.1 h;exact or_lt hk (hm y' (Yw t4)) (hm z (Yw u4))
     ·cases h
    ·cases h
theorem Z32{qa:List Atom}(hk:qa.length≤4):∀{xs:List Zg} {i:Nat} {info:List Zb} {st:List Int} {info':List Zb} {st':List Int},Zcb qa xs i info st=some (info',st') →
  StOk info st→info.length=i→(∀y∈info,Zie qa.length y)→(∀y∈info',Zie qa.length y)∧∃tail,info'=info++tail∧tail.length=xs.length∧∀(j:Nat) (y:Zb) (x:Zg),tail[j]?=some y→xs[j]?=some x→(0≤y.Right↔3≤x.Kind)
 |[],i,info,st,info',st',h,hs,hi,hm=>by
  simp[Zcb]at h;obtain⟨rfl,rfl⟩:=h
  exact⟨hm,[],by simp,rfl,by intro j y x hj;simp at hj⟩
 |x::xs,i,info,st,info',st',h,hs,hi,hm=>by
  rw[Zcb]at h;split at h
  ·cases h
  ·rename_i y hy;have hn:=Zqs hs y (st.length-pops y);rw[hi]at hn;have hm2:∀z∈info++[y],Zie qa.length z:=by
    intro z hz;rcases Yi.1 hz with hz|hz
    ·exact hm z hz
    ·simp at hz;subst hz;exact Zbhf hk hs hm hy
   obtain⟨g1,tail,g2,g3,g4⟩:=Z32 hk h hn (by simp[hi]) hm2;refine⟨g1,y::tail,by simp[g2],by simp[g3],?_⟩;intro j y' x' hj hx
   cases j with
   |zero=>simp at hj hx;subst hj;subst hx;exact(Zvd hs hy).2.2
   |succ j=>exact g4 j y' x' (by simpa using hj) (by simpa using hx)
theorem Zbhg{n:Int}{qa:List Atom}{steps:List Zg}{info:List Zb}(h:Zcf n qa steps=some info) :
  (∀y∈info,Zie qa.length y)∧∀(j:Nat) (y:Zb) (x:Zg),info[j]?=some y→steps[j]?=some x→(0≤y.Right↔3≤x.Kind):=by
 have hq:=(Z31 h).1;unfold Zcf at h;split at h
 ·split at h
  ·rename_i info' st hg;split at h
   ·cases h;obtain⟨g1,tail,g2,g3,g4⟩:=Z32 (Zfh hq).2 hg (fun s hs=>by cases hs) rfl (fun y hy=>by cases hy);simp at g2;subst g2;exact⟨g1,g4⟩
   ·cases h
  ·cases h
 ·cases h
def cmpR:List Int→List Int→Int
 |[],[]=>0
 |[],_::_=>-1
 |_::_,[]=>1
 |a::x,b::y=>if a<b then -1 else if b<a then 1 else cmpR x y
def leR(a b:List Int):Bool:=decide (cmpR a b≤0)
def srtR(rows:List (List Int)):List (List Int):=rows.mergeSort leR
def cptR:List (List Int)→List (List Int)
 |[]=>[]
 |[a]=>[a]
 |a::b::l=>if a=b then cptR (b::l)else a::cptR (b::l)
def srtI(l:List Int):List Int:=l.mergeSort fun x y=>decide (x≤y)
def cptI:List Int→List Int
 |[]=>[]
 |[a]=>[a]
 |a::b::l=>if a=b then cptI (b::l)else a::cptI (b::l)
def Z33(es:List (List T))(rows:List (List Int)):Prop:=es=rows.map isc∧rows.length≤4096∧∀r∈rows,r.length≤4
def Z34(es:List (List T))(l:List Int):Prop:=es=l.map ic∧l.length≤4096
open Classical in
noncomputable def extS(es:List (List T))(k:List (List Int)→AV×List Blk):Option (AV×List Blk):=if h:∃rows,Z33 es rows then some (k h.choose)else none
open Classical in
noncomputable def extI(es:List (List T))(k:List Int→AV×List Blk):Option (AV×List Blk):=if h:∃l,Z34 es l then some (k h.choose)else none
noncomputable def ext:Zr:=fun f xs h0=>match xs,h0 with
 |[.own 0,.fn 331 []],[.arr 30 1 fr es]=>if f=330 then extS es fun rows=>(.tup [],[.arr 30 1 fr ((srtR rows).map isc)])else none
 |[.own 0,.fn 333 []],[.arr 30 1 fr es]=>if f=332 then extS es fun rows=>(.own 1,[.dead,.arr 30 1 fr ((cptR rows).map isc)])else none
 |[.own 0],[.arr 3 1 fr es]=>if f=316 then extI es fun l=>(.tup [],[.arr 3 1 fr ((srtI l).map ic)])else if f=388 then extI es fun l=>(.own 1,[.dead,.arr 3 1 fr ((cptI l).map ic)])else none
 |_,_=>none
open Go.ChangeShapes Go.WideShapes Go.ChangeAt Go.RowKit
theorem own:ownKnob Tryz.prog.godebug=none:=by kernel_rfl
theorem laidOut:laidOutB Tryz.prog=true:=by kernel_rfl
noncomputable def tbl:Nat→Option MFun:=fun f=>if f=330∨f=316 then none else tblOf Tryz.prog [4000003,4000004,4000005,4000006,4000008,4000009,4000010,2000015,2000016,2000017,2000018,4000018,5000018,3000023,3000024,3000025,3000026,2000030,2000034,3000036,3000037,2000041,2000046,2000050,2000057,2000058,3000060,2000064,2000065,3000067,2000070,3000072,1000086,2000089,2000090,2000091,2000092,2000093,2000095,3000103,3000104,3000105,3000106,2000111,115,3000119,3000120,2000123,128,129,1000140,2000170,2000171,3000174,3000175,2000190,1000206,2000209,2000210,3000221,227,2000228,234,240,241,242,243,244,245,246,247,277,2000279,291,1000293,2000294,305,309,310,311,312,313,314,315,316,318,321,1000322,330,332,337,338,1000372,375,1000381,383,385,387,388,1000391,408,419,420,439,444] f
theorem tbl_ok:TblOK Tryz.prog tbl:=by
 intro f m h;unfold tbl at h;split at h
 ·cases h
 ·exact tblOK _ _ f m h
theorem Zc{f:Nat}{fn:Func}{m:MFun}(hf:Tryz.prog.funcs[f]?=some fn)(hc:Zew Tryz.prog f=true)(h:Zgl Tryz.prog (inlOf [4000003,4000004,4000005,4000006,4000008,4000009,4000010,2000015,2000016,2000017,2000018,4000018,5000018,3000023,3000024,3000025,3000026,2000030,2000034,3000036,3000037,2000041,2000046,2000050,2000057,2000058,3000060,2000064,2000065,3000067,2000070,3000072,1000086,2000089,2000090,2000091,2000092,2000093,2000095,3000103,3000104,3000105,3000106,2000111,115,3000119,3000120,2000123,128,129,1000140,2000170,2000171,3000174,3000175,2000190,1000206,2000209,2000210,3000221,227,2000228,234,240,241,242,243,244,245,246,247,277,2000279,291,1000293,2000294,305,309,310,311,312,313,314,315,316,318,321,1000322,330,332,337,338,1000372,375,1000381,383,385,387,388,1000391,408,419,420,439,444] f) (Zqo fn) fn=some m)(hne:¬(f=330∨f=316):=by decide):tbl f=some m:=by
 unfold tbl;rw[if_neg hne];exact tblOf_eq hf hc h
noncomputable def C:Zr:=Zb0 ext tbl
theorem run{f:Nat}{xs:List AV}{m:MFun}(ht:tbl f=some m)(hl:xs.length=m.np){r:AV×List Blk}(h:Ev C [.fin 0 m.res] m.body ⟨Zev xs 0,[[]],[]⟩=some r):C f xs []=some r:=Z27 (h0:=[]) ht hl h
theorem runM{f:Nat}{xs:List AV}{h0:List Blk}{m:MFun}(ht:tbl f=some m)(hl:xs.length=m.np){r:AV×List Blk}(h:Ev C [.fin h0.length m.res] m.body ⟨Zev xs 0,[Zdy h0 0],h0⟩=some r):C f xs h0=some r:=Z27 ht hl h
abbrev Zbhh:Nat:=6
abbrev Zbhi:Nat:=11
abbrev Zbhj:Nat:=12
abbrev Zbhk:Nat:=13
abbrev Zbhl:Nat:=15
abbrev Zbhm:Nat:=16
abbrev Zbhn:Nat:=17
abbrev Zbho:Nat:=19
abbrev Zbhp:Nat:=20
abbrev Zbhq:Nat:=21
abbrev Zbhr:Nat:=22
abbrev Zbhs:Nat:=28
abbrev Zbht:Nat:=30
abbrev Zbhu:Nat:=32
abbrev Zbhv:Nat:=35
abbrev Zbhw:Nat:=39
abbrev Zbhx:Nat:=41
abbrev Zbhy:Nat:=43
abbrev Zbhz:Nat:=55
abbrev Zbh0:Nat:=57
abbrev Zbh1:Nat:=62
abbrev Zbh2:Nat:=64
abbrev Zbh3:Nat:=66
abbrev Zbh4:Nat:=74
abbrev Zbh5:Nat:=75
abbrev Zbh6:Nat:=76
abbrev Zbh7:Nat:=77
abbrev Zbh8:Nat:=78
abbrev Zbh9:Nat:=89
abbrev Zbia:Nat:=90
abbrev Zbib:Nat:=91
abbrev Zbic:Nat:=92
abbrev Zbid:Nat:=93
abbrev Zbie:Nat:=99
abbrev Zbif:Nat:=100
abbrev Zbig:Nat:=101
abbrev Zbih:Nat:=102
abbrev Zbii:Nat:=107
abbrev Zbij:Nat:=111
abbrev Zbik:Nat:=114
abbrev Zbil:Nat:=118
abbrev Zbim:Nat:=123
abbrev Zbin:Nat:=126
abbrev Zbio:Nat:=168
abbrev Zbip:Nat:=170
abbrev Zbiq:Nat:=192
abbrev Zbir:Nat:=193
abbrev Zbis:Nat:=209
abbrev Zbit:Nat:=210
abbrev Zbiu:Nat:=219
abbrev Zbiv:Nat:=220
abbrev Zbiw:Nat:=223
abbrev Zbix:Nat:=228
abbrev Zbiy:Nat:=233
abbrev Zbiz:Nat:=238
abbrev Zbi0:Nat:=279
abbrev Zbi1:Nat:=294
abbrev Zbi2:Nat:=299
abbrev Zby:Nat:=3
abbrev t_bool:Nat:=4
abbrev Zif:Nat:=30
abbrev Zqt:Nat:=79
abbrev Zve:Nat:=179
abbrev Zqu:Nat:=194
abbrev Zig:Nat:=209
abbrev Zqv:Nat:=264
abbrev Zqw:Nat:=277
abbrev Zf0:Nat:=307
end Go.Proofs.YtgnfoghkbpkgjaaGreat
