/-
  Parts of the proofs for this seat: MR L26.
-/
import Derived.Test.YtbapkgocloaaeaaGreatP16
set_option linter.unusedSimpArgs false
set_option linter.unusedVariables false
set_option maxRecDepth 100000
set_option maxHeartbeats 4000000
namespace Go.Proofs.YtbapkgocloaaeaaGreat
open Go.AM
theorem Zwg (xs:List Int) (k:Int) (h1:0≤k) (h2:k+(xs.length:Int)≤4000000000000000000) (h3:SmA xs):C Z8w [L 1 ((mkI xs k).map ic),I k] []=some (I (k+xs.length),[]):=by
 refine run Zbln rfl ?_
 have h4:=fun fr=>Zbny fr xs [] k h1 (by omega) (by have:xs.length≤4294967296:=h3;simp;omega)
 simp at h4
 simp [Z6t,h4]
theorem Zwh (xs:List Int) (k:Int) (h1:0≤k) (h2:k+(xs.length:Int)≤4000000000000000000) (h3:SmA xs):(xs.map ic=[]∧(mkI xs (k)).map ic=[]∧C Zn2 [.t (.lst 1 []),I k] []=some (I (k+(xs.length:Int)),[]))∨∃ y ys,xs.map ic=y::ys∧True∧C Zn2 [.own 0,I k] [.xarr unk 1 (y::ys)]=some (I (k+(xs.length:Int)),[.xarr unk 1 ((mkI xs (k)).map ic)]):=by
 have c:=Zbnw unk xs k h1 (by omega) h3
 cases xs with
 | nil=>exact .inl ⟨rfl,rfl,by have:=Zbnx 1 k;simpa [mkI,mkL] using this⟩
 | cons y ys=>exact .inr ⟨_,_,rfl,trivial,c⟩
noncomputable def Zhg (a:Atom) (k:Int):Atom:=⟨mtext (k),mkI a.Vars (k+1)⟩
def Zc4 (a:Atom):Nat:=1+a.Vars.length
noncomputable def Zc5 (xs:List Atom) (k:Int):List Atom:=mkL Zhg Zc4 xs k
def Zq (xs:List Atom):Nat:=cnL Zc4 xs
theorem Z74 (x:Atom) (xs:List Atom) (k:Int):Zc5 (x::xs) k=Zhg x k::Zc5 xs (k+(Zc4 x:Int)):=rfl
theorem Zbn1 (e:Nat) (fr:List Fr):∀ (xs d:List Atom) (k:Int),0≤k→k+(Zq xs:Int)≤4000000000000000000→d.length+xs.length≤4294967296→(∀ x∈xs,x.small)→EvL C fr [0,1,5] Zno ⟨[(0,.own 0),(1,I k),(5,I d.length)],[[(0,.own 0)]],[.xarr e 2 ((d++xs).map Atom.c)]⟩ =
  EvX C fr (.x 0) ⟨[(0,.own 0),(1,I (k+Zq xs)),(5,I (d.length+xs.length)),(9,Bo false)],[[(0,.own 0)]],[.xarr e 2 ((d++Zc5 xs k).map Atom.c)]⟩:=by
 intro xs
 induction xs with
 | nil =>
  intro d k h1 h2 h3 h4
  rw [EvL_eq Zno.eq_1]
  simp [Zc5,Zq,cnL,mkL]
 | cons x xs ih =>
  intro d k h1 h2 h3 h4
  have hx:=h4 x (by simp)
  have e0:Zq (x::xs)=Zc4 x+Zq xs:=rfl
  rw [e0] at h2
  simp only [List.length_cons] at h3
  rcases x with ⟨x0,x1⟩
  have e1:Zc4 ⟨x0,x1⟩=1+x1.length:=rfl
  have eK:k+(Zc4 ⟨x0,x1⟩:Int)=k+1+(x1.length:Int):=by omega
  have eL:k+(Zq (⟨x0,x1⟩::xs):Int)=k+1+(x1.length:Int)+(Zq xs:Int):=by omega
  have ih':=ih (d++[Zhg ⟨x0,x1⟩ k]) (k+1+(x1.length:Int)) (by omega) (by omega) (by simp;omega) (fun y hy=>h4 y (by simp [hy]))
  rw [EvL_eq Zno.eq_1,eL,Z74,eK]
  have g1:IntKind.wrap .i64 ((d.length:Int)+1)=(d.length:Int)+1:=wrap64 (by omega) (by omega)
  have g3:(d.length:Int)<(d.length:Int)+((xs.length:Int)+1):=by omega
  have g5:(d.length:Int)+1+(xs.length:Int)=(d.length:Int)+((xs.length:Int)+1):=by omega
  have w0:IntKind.wrap .i64 (k+1)=k+1:=wrap64 (by omega) (by omega)
  have t0:=Z73 (k) (by omega) (by omega)
  have m0:=Zwh x1 (k+1) (by omega) (by omega) (by first | exact hx | exact hx.1 | exact hx.2 | exact hx.2.1 | exact hx.2.2 | exact hx.2.2.1 | exact hx.2.2.2 | exact hx.2.2.2.1 | exact hx.2.2.2.2 | exact hx.2.2.2.2.1 | exact hx.2.2.2.2.2)
  rcases m0 with ⟨r0,s0,m0⟩ | ⟨y0,ys0,r0,s0,m0⟩
  all_goals (simp [g5,Zhg,tI,r0,s0] at ih';simp [g1,g3,w0,t0,m0,r0,s0,ih',Zhg,tI])
theorem Zbn2 (e:Nat) (xs:List Atom) (k:Int) (h1:0≤k) (h2:k+(Zq xs:Int)≤4000000000000000000) (h3:SmL Atom.small xs):C Zn3 [.own 0,I k] [.xarr e 2 (xs.map Atom.c)]=some (I (k+Zq xs),[.xarr e 2 ((Zc5 xs k).map Atom.c)]):=by
 refine runM Z7d rfl ?_
 have h4:=fun fr=>Zbn1 e fr xs [] k h1 h2 (by have:xs.length≤4294967296:=h3.1;simp;omega) h3.2
 simp at h4
 simp [Zv7,h4]
theorem Zbn3 (n:Nat) (k:Int):C Zn3 [.t (.lst n []),I k] []=some (I k,[]):=by
 refine run Z7d rfl ?_
 simp [Zv7,EvL_eq Zno.eq_1]
theorem Zbn4 (xs:List Atom) (k:Int) (h1:0≤k) (h2:k+(Zq xs:Int)≤4000000000000000000) (h3:SmL Atom.small xs):(xs.map Atom.c=[]∧(Zc5 xs (k)).map Atom.c=[]∧C Zn3 [.t (.lst 2 []),I k] []=some (I (k+(Zq xs:Int)),[]))∨∃ y ys,xs.map Atom.c=y::ys∧True∧C Zn3 [.own 0,I k] [.xarr unk 2 (y::ys)]=some (I (k+(Zq xs:Int)),[.xarr unk 2 ((Zc5 xs (k)).map Atom.c)]):=by
 have c:=Zbn2 unk xs k h1 h2 h3
 cases xs with
 | nil=>exact .inl ⟨rfl,rfl,by have:=Zbn3 2 k;simpa [Zc5,Zq,cnL,mkL] using this⟩
 | cons y ys=>exact .inr ⟨_,_,rfl,trivial,c⟩
theorem Zbn5 (fr:List Fr):∀ (xs d:List Atom) (k:Int),0≤k→k+(Zq xs:Int)≤4000000000000000000→d.length+xs.length≤4294967296→(∀ x∈xs,x.small)→EvL C fr [0,1,5] Zqj ⟨[(0,L 2 ((d++Zc5 xs k).map Atom.c)),(1,I k),(5,I d.length)],[[]],[]⟩ =
  EvX C fr (.x 0) ⟨[(0,L 2 ((d++Zc5 xs k).map Atom.c)),(1,I (k+Zq xs)),(5,I (d.length+xs.length)),(9,Bo false)],[[]],[]⟩:=by
 intro xs
 induction xs with
 | nil =>
  intro d k h1 h2 h3 h4
  rw [EvL_eq Zqj.eq_1]
  simp [Zc5,Zq,cnL,mkL]
 | cons x xs ih =>
  intro d k h1 h2 h3 h4
  have hx:=h4 x (by simp)
  have e0:Zq (x::xs)=Zc4 x+Zq xs:=rfl
  rw [e0] at h2
  simp only [List.length_cons] at h3
  rcases x with ⟨x0,x1⟩
  have e1:Zc4 ⟨x0,x1⟩=1+x1.length:=rfl
  have eK:k+(Zc4 ⟨x0,x1⟩:Int)=k+1+(x1.length:Int):=by omega
  have eL:k+(Zq (⟨x0,x1⟩::xs):Int)=k+1+(x1.length:Int)+(Zq xs:Int):=by omega
  have ih':=ih (d++[Zhg ⟨x0,x1⟩ k]) (k+1+(x1.length:Int)) (by omega) (by omega) (by simp;omega) (fun y hy=>h4 y (by simp [hy]))
  rw [EvL_eq Zqj.eq_1,eL,Z74,eK]
  have g1:IntKind.wrap .i64 ((d.length:Int)+1)=(d.length:Int)+1:=wrap64 (by omega) (by omega)
  have g3:(d.length:Int)<(d.length:Int)+(((Zc5 xs (k+1+(x1.length:Int))).length:Int)+1):=by omega
  have g5:(d.length:Int)+1+(xs.length:Int)=(d.length:Int)+((xs.length:Int)+1):=by omega
  have w0:IntKind.wrap .i64 (k+1)=k+1:=wrap64 (by omega) (by omega)
  have t0:=Z73 (k) (by omega) (by omega)
  have m0:=Zwg x1 (k+1) (by omega) (by omega) (by first | exact hx | exact hx.1 | exact hx.2 | exact hx.2.1 | exact hx.2.2 | exact hx.2.2.1 | exact hx.2.2.2 | exact hx.2.2.2.1 | exact hx.2.2.2.2 | exact hx.2.2.2.2.1 | exact hx.2.2.2.2.2)
  have z0:¬ (k+1+(x1.length:Int)<0):=by omega
  simp [g5,Zhg,tI] at ih'
  simp +decide [g1,g3,w0,t0,m0,z0,ih',Zhg,tI]
theorem Zbn6 (xs:List Atom) (k:Int) (h1:0≤k) (h2:k+(Zq xs:Int)≤4000000000000000000) (h3:SmL Atom.small xs):C Z9w [L 2 ((Zc5 xs k).map Atom.c),I k] []=some (I (k+Zq xs),[]):=by
 refine run Zbmn rfl ?_
 have h4:=fun fr=>Zbn5 fr xs [] k h1 h2 (by have:xs.length≤4294967296:=h3.1;simp;omega) h3.2
 simp at h4
 simp [Z7x,h4]
noncomputable def Zhh (a:Zb) (k:Int):Zb:=⟨k,k+1,k+1+1⟩
def Zfy (a:Zb):Nat:=1+1+1
noncomputable def Zc6 (xs:List Zb) (k:Int):List Zb:=mkL Zhh Zfy xs k
def Zt (xs:List Zb):Nat:=cnL Zfy xs
theorem Z75 (x:Zb) (xs:List Zb) (k:Int):Zc6 (x::xs) k=Zhh x k::Zc6 xs (k+(Zfy x:Int)):=rfl
theorem Zbn7 (e:Nat) (fr:List Fr):∀ (xs d:List Zb) (k:Int),0≤k→k+(Zt xs:Int)≤4000000000000000000→d.length+xs.length≤4294967296→(∀ x∈xs,x.small)→EvL C fr [0,1,5] Znp ⟨[(0,.own 0),(1,I k),(5,I d.length)],[[(0,.own 0)]],[.xarr e 3 ((d++xs).map Zb.c)]⟩ =
  EvX C fr (.x 0) ⟨[(0,.own 0),(1,I (k+Zt xs)),(5,I (d.length+xs.length)),(9,Bo false)],[[(0,.own 0)]],[.xarr e 3 ((d++Zc6 xs k).map Zb.c)]⟩:=by
 intro xs
 induction xs with
 | nil =>
  intro d k h1 h2 h3 h4
  rw [EvL_eq Znp.eq_1]
  simp [Zc6,Zt,cnL,mkL]
 | cons x xs ih =>
  intro d k h1 h2 h3 h4
  have hx:=h4 x (by simp)
  have e0:Zt (x::xs)=Zfy x+Zt xs:=rfl
  rw [e0] at h2
  simp only [List.length_cons] at h3
  rcases x with ⟨x0,x1,x2⟩
  have e1:Zfy ⟨x0,x1,x2⟩=1+1+1:=rfl
  have eK:k+(Zfy ⟨x0,x1,x2⟩:Int)=k+1+1+1:=by omega
  have eL:k+(Zt (⟨x0,x1,x2⟩::xs):Int)=k+1+1+1+(Zt xs:Int):=by omega
  have ih':=ih (d++[Zhh ⟨x0,x1,x2⟩ k]) (k+1+1+1) (by omega) (by omega) (by simp;omega) (fun y hy=>h4 y (by simp [hy]))
  rw [EvL_eq Znp.eq_1,eL,Z75,eK]
  have g1:IntKind.wrap .i64 ((d.length:Int)+1)=(d.length:Int)+1:=wrap64 (by omega) (by omega)
  have g3:(d.length:Int)<(d.length:Int)+((xs.length:Int)+1):=by omega
  have g5:(d.length:Int)+1+(xs.length:Int)=(d.length:Int)+((xs.length:Int)+1):=by omega
  have w0:IntKind.wrap .i64 (k+1)=k+1:=wrap64 (by omega) (by omega)
  have w1:IntKind.wrap .i64 (k+1+1)=k+1+1:=wrap64 (by omega) (by omega)
  have w2:IntKind.wrap .i64 (k+1+1+1)=k+1+1+1:=wrap64 (by omega) (by omega)
  (simp [g5,Zhh,tI] at ih';simp [g1,g3,w0,w1,w2,ih',Zhh,tI])
theorem Zbn8 (e:Nat) (xs:List Zb) (k:Int) (h1:0≤k) (h2:k+(Zt xs:Int)≤4000000000000000000) (h3:SmA xs):C Zn4 [.own 0,I k] [.xarr e 3 (xs.map Zb.c)]=some (I (k+Zt xs),[.xarr e 3 ((Zc6 xs k).map Zb.c)]):=by
 refine runM Z7e rfl ?_
 have h4:=fun fr=>Zbn7 e fr xs [] k h1 h2 (by have:xs.length≤4294967296:=h3;simp;omega) (fun _ _=>trivial)
 simp at h4
 simp [Zv8,h4]
theorem Zbn9 (n:Nat) (k:Int):C Zn4 [.t (.lst n []),I k] []=some (I k,[]):=by
 refine run Z7e rfl ?_
 simp [Zv8,EvL_eq Znp.eq_1]
theorem Zboa (xs:List Zb) (k:Int) (h1:0≤k) (h2:k+(Zt xs:Int)≤4000000000000000000) (h3:SmA xs):(xs.map Zb.c=[]∧(Zc6 xs (k)).map Zb.c=[]∧C Zn4 [.t (.lst 3 []),I k] []=some (I (k+(Zt xs:Int)),[]))∨∃ y ys,xs.map Zb.c=y::ys∧True∧C Zn4 [.own 0,I k] [.xarr unk 3 (y::ys)]=some (I (k+(Zt xs:Int)),[.xarr unk 3 ((Zc6 xs (k)).map Zb.c)]):=by
 have c:=Zbn8 unk xs k h1 h2 h3
 cases xs with
 | nil=>exact .inl ⟨rfl,rfl,by have:=Zbn9 3 k;simpa [Zc6,Zt,cnL,mkL] using this⟩
 | cons y ys=>exact .inr ⟨_,_,rfl,trivial,c⟩
theorem Zbob (fr:List Fr):∀ (xs d:List Zb) (k:Int),0≤k→k+(Zt xs:Int)≤4000000000000000000→d.length+xs.length≤4294967296→(∀ x∈xs,x.small)→EvL C fr [0,1,5] Zqf ⟨[(0,L 3 ((d++Zc6 xs k).map Zb.c)),(1,I k),(5,I d.length)],[[]],[]⟩ =
  EvX C fr (.x 0) ⟨[(0,L 3 ((d++Zc6 xs k).map Zb.c)),(1,I (k+Zt xs)),(5,I (d.length+xs.length)),(9,Bo false)],[[]],[]⟩:=by
 intro xs
 induction xs with
 | nil =>
  intro d k h1 h2 h3 h4
  rw [EvL_eq Zqf.eq_1]
  simp [Zc6,Zt,cnL,mkL]
 | cons x xs ih =>
  intro d k h1 h2 h3 h4
  have hx:=h4 x (by simp)
  have e0:Zt (x::xs)=Zfy x+Zt xs:=rfl
  rw [e0] at h2
  simp only [List.length_cons] at h3
  rcases x with ⟨x0,x1,x2⟩
  have e1:Zfy ⟨x0,x1,x2⟩=1+1+1:=rfl
  have eK:k+(Zfy ⟨x0,x1,x2⟩:Int)=k+1+1+1:=by omega
  have eL:k+(Zt (⟨x0,x1,x2⟩::xs):Int)=k+1+1+1+(Zt xs:Int):=by omega
  have ih':=ih (d++[Zhh ⟨x0,x1,x2⟩ k]) (k+1+1+1) (by omega) (by omega) (by simp;omega) (fun y hy=>h4 y (by simp [hy]))
  rw [EvL_eq Zqf.eq_1,eL,Z75,eK]
  have g1:IntKind.wrap .i64 ((d.length:Int)+1)=(d.length:Int)+1:=wrap64 (by omega) (by omega)
  have g3:(d.length:Int)<(d.length:Int)+(((Zc6 xs (k+1+1+1)).length:Int)+1):=by omega
  have g5:(d.length:Int)+1+(xs.length:Int)=(d.length:Int)+((xs.length:Int)+1):=by omega
  have w0:IntKind.wrap .i64 (k+1)=k+1:=wrap64 (by omega) (by omega)
  have w1:IntKind.wrap .i64 (k+1+1)=k+1+1:=wrap64 (by omega) (by omega)
  have w2:IntKind.wrap .i64 (k+1+1+1)=k+1+1+1:=wrap64 (by omega) (by omega)
  simp [g5,Zhh,tI] at ih'
  simp +decide [g1,g3,w0,w1,w2,ih',Zhh,tI]
theorem Zboc (xs:List Zb) (k:Int) (h1:0≤k) (h2:k+(Zt xs:Int)≤4000000000000000000) (h3:SmA xs):C Z9j [L 3 ((Zc6 xs k).map Zb.c),I k] []=some (I (k+Zt xs),[]):=by
 refine run Zbma rfl ?_
 have h4:=fun fr=>Zbob fr xs [] k h1 h2 (by have:xs.length≤4294967296:=h3;simp;omega) (fun _ _=>trivial)
 simp at h4
 simp [Z7k,h4]
noncomputable def Zhi (a:Zf) (k:Int):Zf:=⟨⟨k,Zc5 a.Zc.Atoms (k+1)⟩,⟨⟨Zc6 a.Region.Plan.Steps (k+1+(Zq a.Zc.Atoms:Int))⟩,⟨mkI a.Region.Box.Low (k+1+(Zq a.Zc.Atoms:Int)+(Zt a.Region.Plan.Steps:Int)),mkI a.Region.Box.High (k+1+(Zq a.Zc.Atoms:Int)+(Zt a.Region.Plan.Steps:Int)+(a.Region.Box.Low.length:Int))⟩,k+1+(Zq a.Zc.Atoms:Int)+(Zt a.Region.Plan.Steps:Int)+(a.Region.Box.Low.length:Int)+(a.Region.Box.High.length:Int)⟩,k+1+(Zq a.Zc.Atoms:Int)+(Zt a.Region.Plan.Steps:Int)+(a.Region.Box.Low.length:Int)+(a.Region.Box.High.length:Int)+1,k+1+(Zq a.Zc.Atoms:Int)+(Zt a.Region.Plan.Steps:Int)+(a.Region.Box.Low.length:Int)+(a.Region.Box.High.length:Int)+1+1⟩
def Zdd (a:Zf):Nat:=1+Zq a.Zc.Atoms+Zt a.Region.Plan.Steps+a.Region.Box.Low.length+a.Region.Box.High.length+1+1+1
noncomputable def Zdt (xs:List Zf) (k:Int):List Zf:=mkL Zhi Zdd xs k
def Zba (xs:List Zf):Nat:=cnL Zdd xs
theorem Z76 (x:Zf) (xs:List Zf) (k:Int):Zdt (x::xs) k=Zhi x k::Zdt xs (k+(Zdd x:Int)):=rfl
theorem Zbod (e:Nat) (fr:List Fr):∀ (xs d:List Zf) (k:Int),0≤k→k+(Zba xs:Int)≤4000000000000000000→d.length+xs.length≤4294967296→(∀ x∈xs,x.small)→EvL C fr [0,1,5] Znr ⟨[(0,.own 0),(1,I k),(5,I d.length)],[[(0,.own 0)]],[.xarr e 8 ((d++xs).map Zf.c)]⟩ =
  EvX C fr (.x 0) ⟨[(0,.own 0),(1,I (k+Zba xs)),(5,I (d.length+xs.length)),(9,Bo false)],[[(0,.own 0)]],[.xarr e 8 ((d++Zdt xs k).map Zf.c)]⟩:=by
 intro xs
 induction xs with
 | nil =>
  intro d k h1 h2 h3 h4
  rw [EvL_eq Znr.eq_1]
  simp [Zdt,Zba,cnL,mkL]
 | cons x xs ih =>
  intro d k h1 h2 h3 h4
  have hx:=h4 x (by simp)
  have e0:Zba (x::xs)=Zdd x+Zba xs:=rfl
  rw [e0] at h2
  simp only [List.length_cons] at h3
  rcases x with ⟨⟨x0,x1⟩,⟨⟨x2⟩,⟨x3,x4⟩,x5⟩,x6,x7⟩
  have e1:Zdd ⟨⟨x0,x1⟩,⟨⟨x2⟩,⟨x3,x4⟩,x5⟩,x6,x7⟩=1+Zq x1+Zt x2+x3.length+x4.length+1+1+1:=rfl
  have eK:k+(Zdd ⟨⟨x0,x1⟩,⟨⟨x2⟩,⟨x3,x4⟩,x5⟩,x6,x7⟩:Int)=k+1+(Zq x1:Int)+(Zt x2:Int)+(x3.length:Int)+(x4.length:Int)+1+1+1:=by omega
  have eL:k+(Zba (⟨⟨x0,x1⟩,⟨⟨x2⟩,⟨x3,x4⟩,x5⟩,x6,x7⟩::xs):Int)=k+1+(Zq x1:Int)+(Zt x2:Int)+(x3.length:Int)+(x4.length:Int)+1+1+1+(Zba xs:Int):=by omega
  have ih':=ih (d++[Zhi ⟨⟨x0,x1⟩,⟨⟨x2⟩,⟨x3,x4⟩,x5⟩,x6,x7⟩ k]) (k+1+(Zq x1:Int)+(Zt x2:Int)+(x3.length:Int)+(x4.length:Int)+1+1+1) (by omega) (by omega) (by simp;omega) (fun y hy=>h4 y (by simp [hy]))
  rw [EvL_eq Znr.eq_1,eL,Z76,eK]
  have g1:IntKind.wrap .i64 ((d.length:Int)+1)=(d.length:Int)+1:=wrap64 (by omega) (by omega)
  have g3:(d.length:Int)<(d.length:Int)+((xs.length:Int)+1):=by omega
  have g5:(d.length:Int)+1+(xs.length:Int)=(d.length:Int)+((xs.length:Int)+1):=by omega
  have w0:IntKind.wrap .i64 (k+1)=k+1:=wrap64 (by omega) (by omega)
  have w1:IntKind.wrap .i64 (k+1+(Zq x1:Int)+(Zt x2:Int)+(x3.length:Int)+(x4.length:Int)+1)=k+1+(Zq x1:Int)+(Zt x2:Int)+(x3.length:Int)+(x4.length:Int)+1:=wrap64 (by omega) (by omega)
  have w2:IntKind.wrap .i64 (k+1+(Zq x1:Int)+(Zt x2:Int)+(x3.length:Int)+(x4.length:Int)+1+1)=k+1+(Zq x1:Int)+(Zt x2:Int)+(x3.length:Int)+(x4.length:Int)+1+1:=wrap64 (by omega) (by omega)
  have w3:IntKind.wrap .i64 (k+1+(Zq x1:Int)+(Zt x2:Int)+(x3.length:Int)+(x4.length:Int)+1+1+1)=k+1+(Zq x1:Int)+(Zt x2:Int)+(x3.length:Int)+(x4.length:Int)+1+1+1:=wrap64 (by omega) (by omega)
  have m0:=Zbn4 x1 (k+1) (by omega) (by omega) (by first | exact hx | exact hx.1 | exact hx.2 | exact hx.2.1 | exact hx.2.2 | exact hx.2.2.1 | exact hx.2.2.2 | exact hx.2.2.2.1 | exact hx.2.2.2.2 | exact hx.2.2.2.2.1 | exact hx.2.2.2.2.2)
  have m1:=Zboa x2 (k+1+(Zq x1:Int)) (by omega) (by omega) (by first | exact hx | exact hx.1 | exact hx.2 | exact hx.2.1 | exact hx.2.2 | exact hx.2.2.1 | exact hx.2.2.2 | exact hx.2.2.2.1 | exact hx.2.2.2.2 | exact hx.2.2.2.2.1 | exact hx.2.2.2.2.2)
  have m2:=Zwh x3 (k+1+(Zq x1:Int)+(Zt x2:Int)) (by omega) (by omega) (by first | exact hx | exact hx.1 | exact hx.2 | exact hx.2.1 | exact hx.2.2 | exact hx.2.2.1 | exact hx.2.2.2 | exact hx.2.2.2.1 | exact hx.2.2.2.2 | exact hx.2.2.2.2.1 | exact hx.2.2.2.2.2)
  have m3:=Zwh x4 (k+1+(Zq x1:Int)+(Zt x2:Int)+(x3.length:Int)) (by omega) (by omega) (by first | exact hx | exact hx.1 | exact hx.2 | exact hx.2.1 | exact hx.2.2 | exact hx.2.2.1 | exact hx.2.2.2 | exact hx.2.2.2.1 | exact hx.2.2.2.2 | exact hx.2.2.2.2.1 | exact hx.2.2.2.2.2)
  rcases m0 with ⟨r0,s0,m0⟩ | ⟨y0,ys0,r0,s0,m0⟩
  all_goals rcases m1 with ⟨r1,s1,m1⟩ | ⟨y1,ys1,r1,s1,m1⟩
  all_goals rcases m2 with ⟨r2,s2,m2⟩ | ⟨y2,ys2,r2,s2,m2⟩
  all_goals rcases m3 with ⟨r3,s3,m3⟩ | ⟨y3,ys3,r3,s3,m3⟩
  all_goals (simp [g5,Zhi,tI,r0,s0,r1,s1,r2,s2,r3,s3] at ih';simp [g1,g3,w0,w1,w2,w3,m0,r0,s0,m1,r1,s1,m2,r2,s2,m3,r3,s3,ih',Zhi,tI])
theorem Zboe (e:Nat) (xs:List Zf) (k:Int) (h1:0≤k) (h2:k+(Zba xs:Int)≤4000000000000000000) (h3:SmL Zf.small xs):C Zxb [.own 0,I k] [.xarr e 8 (xs.map Zf.c)]=some (I (k+Zba xs),[.xarr e 8 ((Zdt xs k).map Zf.c)]):=by
 refine runM Z7i rfl ?_
 have h4:=fun fr=>Zbod e fr xs [] k h1 h2 (by have:xs.length≤4294967296:=h3.1;simp;omega) h3.2
 simp at h4
 simp [Zwa,h4]
theorem Zbof (k:Int):C Zxb [.t .nil,I k] []=some (I k,[]):=by
 refine run Z7i rfl ?_
 simp [Zwa,EvL_eq Znr.eq_1]
theorem Zbog (fr:List Fr):∀ (xs d:List Zf) (k:Int),0≤k→k+(Zba xs:Int)≤4000000000000000000→d.length+xs.length≤4294967296→(∀ x∈xs,x.small)→EvL C fr [0,1,5] Zns ⟨[(0,L 8 ((d++Zdt xs k).map Zf.c)),(1,I k),(5,I d.length)],[[]],[]⟩ =
  EvX C fr (.x 0) ⟨[(0,L 8 ((d++Zdt xs k).map Zf.c)),(1,I (k+Zba xs)),(5,I (d.length+xs.length)),(9,Bo false)],[[]],[]⟩:=by
 intro xs
 induction xs with
 | nil =>
  intro d k h1 h2 h3 h4
  rw [EvL_eq Zns.eq_1]
  simp [Zdt,Zba,cnL,mkL]
 | cons x xs ih =>
  intro d k h1 h2 h3 h4
  have hx:=h4 x (by simp)
  have e0:Zba (x::xs)=Zdd x+Zba xs:=rfl
  rw [e0] at h2
  simp only [List.length_cons] at h3
  rcases x with ⟨⟨x0,x1⟩,⟨⟨x2⟩,⟨x3,x4⟩,x5⟩,x6,x7⟩
  have e1:Zdd ⟨⟨x0,x1⟩,⟨⟨x2⟩,⟨x3,x4⟩,x5⟩,x6,x7⟩=1+Zq x1+Zt x2+x3.length+x4.length+1+1+1:=rfl
  have eK:k+(Zdd ⟨⟨x0,x1⟩,⟨⟨x2⟩,⟨x3,x4⟩,x5⟩,x6,x7⟩:Int)=k+1+(Zq x1:Int)+(Zt x2:Int)+(x3.length:Int)+(x4.length:Int)+1+1+1:=by omega
  have eL:k+(Zba (⟨⟨x0,x1⟩,⟨⟨x2⟩,⟨x3,x4⟩,x5⟩,x6,x7⟩::xs):Int)=k+1+(Zq x1:Int)+(Zt x2:Int)+(x3.length:Int)+(x4.length:Int)+1+1+1+(Zba xs:Int):=by omega
  have ih':=ih (d++[Zhi ⟨⟨x0,x1⟩,⟨⟨x2⟩,⟨x3,x4⟩,x5⟩,x6,x7⟩ k]) (k+1+(Zq x1:Int)+(Zt x2:Int)+(x3.length:Int)+(x4.length:Int)+1+1+1) (by omega) (by omega) (by simp;omega) (fun y hy=>h4 y (by simp [hy]))
  rw [EvL_eq Zns.eq_1,eL,Z76,eK]
  have g1:IntKind.wrap .i64 ((d.length:Int)+1)=(d.length:Int)+1:=wrap64 (by omega) (by omega)
  have g3:(d.length:Int)<(d.length:Int)+(((Zdt xs (k+1+(Zq x1:Int)+(Zt x2:Int)+(x3.length:Int)+(x4.length:Int)+1+1+1)).length:Int)+1):=by omega
  have g5:(d.length:Int)+1+(xs.length:Int)=(d.length:Int)+((xs.length:Int)+1):=by omega
  have w0:IntKind.wrap .i64 (k+1)=k+1:=wrap64 (by omega) (by omega)
  have w1:IntKind.wrap .i64 (k+1+(Zq x1:Int)+(Zt x2:Int)+(x3.length:Int)+(x4.length:Int)+1)=k+1+(Zq x1:Int)+(Zt x2:Int)+(x3.length:Int)+(x4.length:Int)+1:=wrap64 (by omega) (by omega)
  have w2:IntKind.wrap .i64 (k+1+(Zq x1:Int)+(Zt x2:Int)+(x3.length:Int)+(x4.length:Int)+1+1)=k+1+(Zq x1:Int)+(Zt x2:Int)+(x3.length:Int)+(x4.length:Int)+1+1:=wrap64 (by omega) (by omega)
  have w3:IntKind.wrap .i64 (k+1+(Zq x1:Int)+(Zt x2:Int)+(x3.length:Int)+(x4.length:Int)+1+1+1)=k+1+(Zq x1:Int)+(Zt x2:Int)+(x3.length:Int)+(x4.length:Int)+1+1+1:=wrap64 (by omega) (by omega)
  have m0:=Zbn6 x1 (k+1) (by omega) (by omega) (by first | exact hx | exact hx.1 | exact hx.2 | exact hx.2.1 | exact hx.2.2 | exact hx.2.2.1 | exact hx.2.2.2 | exact hx.2.2.2.1 | exact hx.2.2.2.2 | exact hx.2.2.2.2.1 | exact hx.2.2.2.2.2)
  have z0:¬ (k+1+(Zq x1:Int)<0):=by omega
  have m1:=Zboc x2 (k+1+(Zq x1:Int)) (by omega) (by omega) (by first | exact hx | exact hx.1 | exact hx.2 | exact hx.2.1 | exact hx.2.2 | exact hx.2.2.1 | exact hx.2.2.2 | exact hx.2.2.2.1 | exact hx.2.2.2.2 | exact hx.2.2.2.2.1 | exact hx.2.2.2.2.2)
  have z1:¬ (k+1+(Zq x1:Int)+(Zt x2:Int)<0):=by omega
  have m2:=Zwg x3 (k+1+(Zq x1:Int)+(Zt x2:Int)) (by omega) (by omega) (by first | exact hx | exact hx.1 | exact hx.2 | exact hx.2.1 | exact hx.2.2 | exact hx.2.2.1 | exact hx.2.2.2 | exact hx.2.2.2.1 | exact hx.2.2.2.2 | exact hx.2.2.2.2.1 | exact hx.2.2.2.2.2)
  have z2:¬ (k+1+(Zq x1:Int)+(Zt x2:Int)+(x3.length:Int)<0):=by omega
  have m3:=Zwg x4 (k+1+(Zq x1:Int)+(Zt x2:Int)+(x3.length:Int)) (by omega) (by omega) (by first | exact hx | exact hx.1 | exact hx.2 | exact hx.2.1 | exact hx.2.2 | exact hx.2.2.1 | exact hx.2.2.2 | exact hx.2.2.2.1 | exact hx.2.2.2.2 | exact hx.2.2.2.2.1 | exact hx.2.2.2.2.2)
  have z3:¬ (k+1+(Zq x1:Int)+(Zt x2:Int)+(x3.length:Int)+(x4.length:Int)<0):=by omega
  simp [g5,Zhi,tI] at ih'
  simp +decide [g1,g3,w0,w1,w2,w3,m0,z0,m1,z1,m2,z2,m3,z3,ih',Zhi,tI]
theorem Zboh (xs:List Zf) (k:Int) (h1:0≤k) (h2:k+(Zba xs:Int)≤4000000000000000000) (h3:SmL Zf.small xs):C Zxc [L 8 ((Zdt xs k).map Zf.c),I k] []=some (I (k+Zba xs),[]):=by
 refine run Z7j rfl ?_
 have h4:=fun fr=>Zbog fr xs [] k h1 h2 (by have:xs.length≤4294967296:=h3.1;simp;omega) h3.2
 simp at h4
 simp [Zwb,h4]
theorem Zboi (k:Int):C Zxc [.t .nil,I k] []=some (I k,[]):=by
 refine run Z7j rfl ?_
 simp [Zwb,EvL_eq Zns.eq_1]
noncomputable def Znw (a:Zg) (k:Int):Zg:=⟨k,k+1⟩
def Zkl (a:Zg):Nat:=1+1
noncomputable def Zeh (xs:List Zg) (k:Int):List Zg:=mkL Znw Zkl xs k
def Zs (xs:List Zg):Nat:=cnL Zkl xs
theorem Zboj (x:Zg) (xs:List Zg) (k:Int):Zeh (x::xs) k=Znw x k::Zeh xs (k+(Zkl x:Int)):=rfl
theorem Zbok (e:Nat) (fr:List Fr):∀ (xs d:List Zg) (k:Int),0≤k→k+(Zs xs:Int)≤4000000000000000000→d.length+xs.length≤4294967296→(∀ x∈xs,x.small)→EvL C fr [0,1,5] Zqi ⟨[(0,.own 0),(1,I k),(5,I d.length)],[[(0,.own 0)]],[.xarr e 2 ((d++xs).map Zg.c)]⟩ =
  EvX C fr (.x 0) ⟨[(0,.own 0),(1,I (k+Zs xs)),(5,I (d.length+xs.length)),(9,Bo false)],[[(0,.own 0)]],[.xarr e 2 ((d++Zeh xs k).map Zg.c)]⟩:=by
 intro xs
 induction xs with
 | nil =>
  intro d k h1 h2 h3 h4
  rw [EvL_eq Zqi.eq_1]
  simp [Zeh,Zs,cnL,mkL]
 | cons x xs ih =>
  intro d k h1 h2 h3 h4
  have hx:=h4 x (by simp)
  have e0:Zs (x::xs)=Zkl x+Zs xs:=rfl
  rw [e0] at h2
  simp only [List.length_cons] at h3
  rcases x with ⟨x0,x1⟩
  have e1:Zkl ⟨x0,x1⟩=1+1:=rfl
  have eK:k+(Zkl ⟨x0,x1⟩:Int)=k+1+1:=by omega
  have eL:k+(Zs (⟨x0,x1⟩::xs):Int)=k+1+1+(Zs xs:Int):=by omega
  have ih':=ih (d++[Znw ⟨x0,x1⟩ k]) (k+1+1) (by omega) (by omega) (by simp;omega) (fun y hy=>h4 y (by simp [hy]))
  rw [EvL_eq Zqi.eq_1,eL,Zboj,eK]
  have g1:IntKind.wrap .i64 ((d.length:Int)+1)=(d.length:Int)+1:=wrap64 (by omega) (by omega)
  have g3:(d.length:Int)<(d.length:Int)+((xs.length:Int)+1):=by omega
  have g5:(d.length:Int)+1+(xs.length:Int)=(d.length:Int)+((xs.length:Int)+1):=by omega
  have w0:IntKind.wrap .i64 (k+1)=k+1:=wrap64 (by omega) (by omega)
  have w1:IntKind.wrap .i64 (k+1+1)=k+1+1:=wrap64 (by omega) (by omega)
  (simp [g5,Znw,tI] at ih';simp [g1,g3,w0,w1,ih',Znw,tI])
theorem Zbol (e:Nat) (xs:List Zg) (k:Int) (h1:0≤k) (h2:k+(Zs xs:Int)≤4000000000000000000) (h3:SmA xs):C Z9s [.own 0,I k] [.xarr e 2 (xs.map Zg.c)]=some (I (k+Zs xs),[.xarr e 2 ((Zeh xs k).map Zg.c)]):=by
 refine runM Zbmj rfl ?_
 have h4:=fun fr=>Zbok e fr xs [] k h1 h2 (by have:xs.length≤4294967296:=h3;simp;omega) (fun _ _=>trivial)
 simp at h4
 simp [Z7s,h4]
theorem Znx (e0:Nat) (x0:Int) (x1:Int) (x2:Int) (x3:Int) (x4:Int) (x5:List Zg) (k:Int) (h1:0≤k) (h2:k+(Zs x5:Int)≤4000000000000000000) (sx5:SmA x5):C Z9f [.agg [I x0,I x1,I x2,I x3,I x4,.own 0],I k] [.xarr e0 2 (x5.map Zg.c)]=some (I (k+(Zs x5:Int)),[.xarr e0 2 ((Zeh x5 (k)).map Zg.c)]):=by
 refine runM Zbl6 rfl ?_
 have m0:=Zbol e0 x5 (k) (by omega) (by omega) sx5
 simp [Z7c,m0]
theorem Zbom (e0 e1 e2 e3 e4:Nat) (x0:Int) (x1:Int) (x2:Int) (x3:Int) (x4:Int) (x5:List Zg) (x6:Int) (x7:Int) (x8:Int) (x9:Int) (x10:Int) (x11:List Zg) (x12:Int) (x13:Int) (x14:Int) (x15:Int) (x16:Int) (x17:List Zg) (x18:Int) (x19:Int) (x20:Int) (x21:Int) (x22:Int) (x23:List Zg) (x24:Int) (x25:Int) (x26:Int) (x27:Int) (x28:Int) (x29:List Zg) (k:Int) (h1:0≤k) (h2:k+(Zs x5:Int)+(Zs x11:Int)+(Zs x17:Int)+(Zs x23:Int)+(Zs x29:Int)≤4000000000000000000) (sx5:SmA x5) (sx11:SmA x11) (sx17:SmA x17) (sx23:SmA x23) (sx29:SmA x29):C Z8v [.agg [I x0,I x1,I x2,I x3,I x4,.own 0,I x6,I x7,I x8,I x9,I x10,.own 1,I x12,I x13,I x14,I x15,I x16,.own 2,I x18,I x19,I x20,I x21,I x22,.own 3,I x24,I x25,I x26,I x27,I x28,.own 4],I k] [.xarr e0 2 (x5.map Zg.c),.xarr e1 2 (x11.map Zg.c),.xarr e2 2 (x17.map Zg.c),.xarr e3 2 (x23.map Zg.c),.xarr e4 2 (x29.map Zg.c)]=some (I (k+(Zs x5:Int)+(Zs x11:Int)+(Zs x17:Int)+(Zs x23:Int)+(Zs x29:Int)),[.xarr e0 2 ((Zeh x5 (k)).map Zg.c),.xarr e1 2 ((Zeh x11 (k+(Zs x5:Int))).map Zg.c),.xarr e2 2 ((Zeh x17 (k+(Zs x5:Int)+(Zs x11:Int))).map Zg.c),.xarr e3 2 ((Zeh x23 (k+(Zs x5:Int)+(Zs x11:Int)+(Zs x17:Int))).map Zg.c),.xarr e4 2 ((Zeh x29 (k+(Zs x5:Int)+(Zs x11:Int)+(Zs x17:Int)+(Zs x23:Int))).map Zg.c)]):=by
 refine runM Zblm rfl ?_
 have m0:=Znx e0 x0 x1 x2 x3 x4 x5 (k) (by omega) (by omega) sx5
 have m1:=Znx e1 x6 x7 x8 x9 x10 x11 (k+(Zs x5:Int)) (by omega) (by omega) sx11
 have m2:=Znx e2 x12 x13 x14 x15 x16 x17 (k+(Zs x5:Int)+(Zs x11:Int)) (by omega) (by omega) sx17
 have m3:=Znx e3 x18 x19 x20 x21 x22 x23 (k+(Zs x5:Int)+(Zs x11:Int)+(Zs x17:Int)) (by omega) (by omega) sx23
 have m4:=Znx e4 x24 x25 x26 x27 x28 x29 (k+(Zs x5:Int)+(Zs x11:Int)+(Zs x17:Int)+(Zs x23:Int)) (by omega) (by omega) sx29
 simp [Z6r,m0,m1,m2,m3,m4]
theorem Zqk (e0:Nat) (x0:Int) (x1:List Zf) (k:Int) (h1:0≤k) (h2:k+(Zba x1:Int)≤4000000000000000000) (sx1:SmL Zf.small x1):C Zw9 [.agg [I x0,.own 0],I k] [.xarr e0 8 (x1.map Zf.c)]=some (I (k+(Zba x1:Int)),[.xarr e0 8 ((Zdt x1 (k)).map Zf.c)]):=by
 refine runM Z63 rfl ?_
 have m0:=Zboe e0 x1 (k) (by omega) (by omega) sx1
 simp [Zv3,m0]
theorem Z77 (x0:Int) (k:Int):C Zw9 [.agg [I x0,.t .nil],I k] []=some (I k,[]):=by
 refine run Z63 rfl ?_
 simp [Zv3,Zbof]
theorem Zwi (x0:Int) (x1:List Zf) (k:Int) (h1:0≤k) (h2:k+(Zba x1:Int)≤4000000000000000000) (sx1:SmL Zf.small x1):C Zxa [.agg [I x0,.t (.lst 8 ((Zdt x1 (k)).map Zf.c))],I k] []=some (I (k+(Zba x1:Int)),[]):=by
 refine run Z64 rfl ?_
 have m0:=Zboh x1 (k) (by omega) (by omega) sx1
 have z0:¬ (k+(Zba x1:Int)<0):=by omega
 simp [Zv4,tI,m0,z0]
theorem Z78 (x0:Int) (k:Int) (h1:0≤k):C Zxa [.agg [I x0,.t .nil],I k] []=some (I k,[]):=by
 refine run Z64 rfl ?_
 have z:¬ (k<0):=by omega
 simp [Zv4,z,h1,Zboi]
theorem Zjc {n:Nat} {left:Int} (hn:n≤maxLen) (h0:0≤left) (h1:left≤1048576) (h:0≤sz1 n left):sz1 n left≤left∧(n:Int)≤left - sz1 n left:=by
 unfold maxLen at hn
 have hw:IntKind.wrap .i64 (left - n)=left - n:=wrap64 (by omega) (by omega)
 unfold sz1 at h ⊢
 rw [hw] at h ⊢
 split at h
 ·omega
 ·rename_i hx;rw [if_neg hx];omega
theorem Z79 {α:Type} {f:α→Int→Int} {n:α→Nat} {M:Int}:∀ (xs:List α) (left:Int),(∀ x∈xs,∀ l,0≤l→l≤M→0≤f x l→f x l≤l∧(n x:Int)≤16+16*(l - f x l))→0≤left→left≤M→0≤szFold f xs left→szFold f xs left≤left∧(cnL n xs:Int)≤16*(xs.length:Int)+16*(left - szFold f xs left)
 | [],left,_,_,_,h=>by simp [szFold,cnL]
 | x::xs,left,hf,h0,h1,h=>by
  unfold szFold at h ⊢
  split at h
  ·omega
  ·rename_i hx
   rw [if_neg hx]
   obtain ⟨h2,h3⟩:=hf x (by simp) left h0 h1 (by omega)
   obtain ⟨h4,h5⟩:=Z79 xs (f x left) (fun y hy=>hf y (by simp [hy])) (by omega) (by omega) h
   have e:cnL n (x::xs)=n x+cnL n xs:=rfl
   rw [e,List.length_cons]
   omega
theorem szL_ct {α:Type} {f:α→Int→Int} {n:α→Nat} {xs:List α} {left:Int} (hn:xs.length≤maxLen) (hf:∀ x∈xs,∀ l,0≤l→l≤1048576→0≤f x l→f x l≤l∧(n x:Int)≤16+16*(l - f x l)) (h0:0≤left) (h1:left≤1048576) (h:0≤szL f xs left) :
  szL f xs left≤left∧(cnL n xs:Int)≤16*(left - szL f xs left):=by
 unfold szL andSz at h ⊢
 split at h
 ·omega
 ·rename_i hx
  rw [if_neg hx]
  have a:=Zjc hn h0 h1 (by omega)
  have b:=Z79 xs _ hf (by omega) (by omega) h
  omega
theorem Zwj {α:Type} {n:α→Nat} {c:Nat} (h:∀ x,n x=c):∀ xs:List α,cnL n xs=c*xs.length
 | []=>rfl
 | x::xs=>by
  have e:cnL n (x::xs)=n x+cnL n xs:=rfl
  rw [e,h,Zwj h xs,List.length_cons,Nat.mul_succ,Nat.add_comm]
def Zwk (x:Atom):Nat:=x.Vars.length
theorem Atom.ct (x:Atom) (l:Int) (hx:x.okay) (h0:0≤l) (h1:l≤1048576) (h:0≤x.sz l):x.sz l≤l∧(Zwk x:Int)≤16*(l - x.sz l):=by
 unfold Atom.sz at h ⊢
 simp only [andSz] at h ⊢
 split at h
 ·omega
 rename_i q0
 rw [if_neg q0]
 have s0:=Zjc hx.1 h0 h1 (Int.not_lt.1 q0)
 split at h
 ·omega
 rename_i q1
 rw [if_neg q1]
 have s1:=Zjc hx.2.1 (by omega) (by omega) (Int.not_lt.1 q1)
 refine ⟨by omega,?_⟩
 unfold Zwk
 omega
theorem Zbon (x:Atom) (l:Int) (hx:x.okay) (h0:0≤l) (h1:l≤1048576) (h:0≤x.sz l):x.sz l≤l∧(Zc4 x:Int)≤16+16*(l - x.sz l):=by
 have a:=Atom.ct x l hx h0 h1 h
 unfold Zwk at a
 unfold Zc4
 omega
def Zwl (x:Zc):Nat:=Zq x.Atoms
theorem Zc.ct (x:Zc) (l:Int) (hx:x.okay) (h0:0≤l) (h1:l≤1048576) (h:0≤x.sz l):x.sz l≤l∧(Zwl x:Int)≤16*(l - x.sz l):=by
 unfold Zc.sz at h ⊢
 simp only [andSz] at h ⊢
 split at h
 ·omega
 rename_i q0
 rw [if_neg q0]
 have s0:=szL_ct (n:=Zc4) hx.2.1 (fun y hy l a b c=>Zbon y l (hx.2.2 y hy) a b c) h0 h1 (Int.not_lt.1 q0)
 refine ⟨by omega,?_⟩
 unfold Zwl
 have v0:Zq x.Atoms=cnL Zc4 x.Atoms:=rfl
 omega
def nt_Box (x:Box):Nat:=x.Low.length+x.High.length
theorem Box.ct (x:Box) (l:Int) (hx:x.okay) (h0:0≤l) (h1:l≤1048576) (h:0≤x.sz l):x.sz l≤l∧(nt_Box x:Int)≤16*(l - x.sz l):=by
 unfold Box.sz at h ⊢
 simp only [andSz] at h ⊢
 split at h
 ·omega
 rename_i q0
 rw [if_neg q0]
 have s0:=Zjc hx.1.1 h0 h1 (Int.not_lt.1 q0)
 split at h
 ·omega
 rename_i q1
 rw [if_neg q1]
 have s1:=Zjc hx.2.1 (by omega) (by omega) (Int.not_lt.1 q1)
 refine ⟨by omega,?_⟩
 unfold nt_Box
 omega
theorem Zkm (xs:List Zg):Zs xs=2*xs.length:=Zwj (fun _=>rfl) xs
def Zjd (x:Zi):Nat:=Zs x.Steps
theorem Zi.ct (x:Zi) (l:Int) (hx:x.okay) (h0:0≤l) (h1:l≤1048576) (h:0≤x.sz l):x.sz l≤l∧(Zjd x:Int)≤16*(l - x.sz l):=by
 unfold Zi.sz at h ⊢
 simp only [andSz] at h ⊢
 split at h
 ·omega
 rename_i q0
 rw [if_neg q0]
 have s0:=Zjc hx.2.2.2.2.2.1 h0 h1 (Int.not_lt.1 q0)
 refine ⟨by omega,?_⟩
 unfold Zjd
 have v0:=Zkm x.Steps
 omega
def Zwm (x:Zd):Nat:=Zs x.Scan.Steps+Zs x.Sort_.Steps+Zs x.Hash.Steps+Zs x.Merge.Steps+Zs x.Nested.Steps
theorem Zd.ct (x:Zd) (l:Int) (hx:x.okay) (h0:0≤l) (h1:l≤1048576) (h:0≤x.sz l):x.sz l≤l∧(Zwm x:Int)≤16*(l - x.sz l):=by
 unfold Zd.sz at h ⊢
 simp only [andSz] at h ⊢
 split at h
 ·omega
 rename_i q0
 rw [if_neg q0]
 have s0:=Zi.ct x.Scan _ ⟨hx.1,hx.2.1,hx.2.2.1,hx.2.2.2.1,hx.2.2.2.2.1,hx.2.2.2.2.2.1⟩ h0 h1 (Int.not_lt.1 q0)
 split at h
 ·omega
 rename_i q1
 rw [if_neg q1]
 have s1:=Zi.ct x.Sort_ _ ⟨hx.2.2.2.2.2.2.1,hx.2.2.2.2.2.2.2.1,hx.2.2.2.2.2.2.2.2.1,hx.2.2.2.2.2.2.2.2.2.1,hx.2.2.2.2.2.2.2.2.2.2.1,hx.2.2.2.2.2.2.2.2.2.2.2.1⟩ (by omega) (by omega) (Int.not_lt.1 q1)
 split at h
 ·omega
 rename_i q2
 rw [if_neg q2]
 have s2:=Zi.ct x.Hash _ ⟨hx.2.2.2.2.2.2.2.2.2.2.2.2.1,hx.2.2.2.2.2.2.2.2.2.2.2.2.2.1,hx.2.2.2.2.2.2.2.2.2.2.2.2.2.2.1,hx.2.2.2.2.2.2.2.2.2.2.2.2.2.2.2.1,hx.2.2.2.2.2.2.2.2.2.2.2.2.2.2.2.2.1,hx.2.2.2.2.2.2.2.2.2.2.2.2.2.2.2.2.2.1⟩ (by omega) (by omega) (Int.not_lt.1 q2)
 split at h
 ·omega
 rename_i q3
 rw [if_neg q3]
 have s3:=Zi.ct x.Merge _ ⟨hx.2.2.2.2.2.2.2.2.2.2.2.2.2.2.2.2.2.2.1,hx.2.2.2.2.2.2.2.2.2.2.2.2.2.2.2.2.2.2.2.1,hx.2.2.2.2.2.2.2.2.2.2.2.2.2.2.2.2.2.2.2.2.1,hx.2.2.2.2.2.2.2.2.2.2.2.2.2.2.2.2.2.2.2.2.2.1,hx.2.2.2.2.2.2.2.2.2.2.2.2.2.2.2.2.2.2.2.2.2.2.1,hx.2.2.2.2.2.2.2.2.2.2.2.2.2.2.2.2.2.2.2.2.2.2.2.1⟩ (by omega) (by omega) (Int.not_lt.1 q3)
 split at h
 ·omega
 rename_i q4
 rw [if_neg q4]
 have s4:=Zi.ct x.Nested _ ⟨hx.2.2.2.2.2.2.2.2.2.2.2.2.2.2.2.2.2.2.2.2.2.2.2.2.1,hx.2.2.2.2.2.2.2.2.2.2.2.2.2.2.2.2.2.2.2.2.2.2.2.2.2.1,hx.2.2.2.2.2.2.2.2.2.2.2.2.2.2.2.2.2.2.2.2.2.2.2.2.2.2.1,hx.2.2.2.2.2.2.2.2.2.2.2.2.2.2.2.2.2.2.2.2.2.2.2.2.2.2.2.1,hx.2.2.2.2.2.2.2.2.2.2.2.2.2.2.2.2.2.2.2.2.2.2.2.2.2.2.2.2.1,hx.2.2.2.2.2.2.2.2.2.2.2.2.2.2.2.2.2.2.2.2.2.2.2.2.2.2.2.2.2⟩ (by omega) (by omega) (Int.not_lt.1 q4)
 refine ⟨by omega,?_⟩
 unfold Zwm
 have v0:Zjd x.Scan=Zs x.Scan.Steps:=rfl
 have v1:Zjd x.Sort_=Zs x.Sort_.Steps:=rfl
 have v2:Zjd x.Hash=Zs x.Hash.Steps:=rfl
 have v3:Zjd x.Merge=Zs x.Merge.Steps:=rfl
 have v4:Zjd x.Nested=Zs x.Nested.Steps:=rfl
 have v5:=Zkm x.Scan.Steps
 have v6:=Zkm x.Sort_.Steps
 have v7:=Zkm x.Hash.Steps
 have v8:=Zkm x.Merge.Steps
 have v9:=Zkm x.Nested.Steps
 omega
theorem Zwn (xs:List Zb):Zt xs=3*xs.length:=Zwj (fun _=>rfl) xs
def Zwo (x:Plan):Nat:=Zt x.Steps
theorem Plan.ct (x:Plan) (l:Int) (hx:x.okay) (h0:0≤l) (h1:l≤1048576) (h:0≤x.sz l):x.sz l≤l∧(Zwo x:Int)≤16*(l - x.sz l):=by
 unfold Plan.sz at h ⊢
 simp only [andSz] at h ⊢
 split at h
 ·omega
 rename_i q0
 rw [if_neg q0]
 have s0:=Zjc hx.1 h0 h1 (Int.not_lt.1 q0)
 refine ⟨by omega,?_⟩
 unfold Zwo
 have v0:=Zwn x.Steps
 omega
def Zwp (x:Region):Nat:=Zt x.Plan.Steps+x.Box.Low.length+x.Box.High.length
theorem Region.ct (x:Region) (l:Int) (hx:x.okay) (h0:0≤l) (h1:l≤1048576) (h:0≤x.sz l):x.sz l≤l∧(Zwp x:Int)≤16*(l - x.sz l):=by
 unfold Region.sz at h ⊢
 simp only [andSz] at h ⊢
 split at h
 ·omega
 rename_i q0
 rw [if_neg q0]
 have s0:=Plan.ct x.Plan _ hx.1 h0 h1 (Int.not_lt.1 q0)
 split at h
 ·omega
 rename_i q1
 rw [if_neg q1]
 have s1:=Box.ct x.Box _ ⟨hx.2.1,hx.2.2.1⟩ (by omega) (by omega) (Int.not_lt.1 q1)
 refine ⟨by omega,?_⟩
 unfold Zwp
 have v0:Zwo x.Plan=Zt x.Plan.Steps:=rfl
 have v1:nt_Box x.Box=x.Box.Low.length+x.Box.High.length:=rfl
 have v2:=Zwn x.Plan.Steps
 omega
def Zwq (x:Zf):Nat:=Zq x.Zc.Atoms+Zt x.Region.Plan.Steps+x.Region.Box.Low.length+x.Region.Box.High.length
theorem Zf.ct (x:Zf) (l:Int) (hx:x.okay) (h0:0≤l) (h1:l≤1048576) (h:0≤x.sz l):x.sz l≤l∧(Zwq x:Int)≤16*(l - x.sz l):=by
 unfold Zf.sz at h ⊢
 simp only [andSz] at h ⊢
 split at h
 ·omega
 rename_i q0
 rw [if_neg q0]
 have s0:=Zc.ct x.Zc _ ⟨hx.1,hx.2.1⟩ h0 h1 (Int.not_lt.1 q0)
 split at h
 ·omega
 rename_i q1
 rw [if_neg q1]
 have s1:=Region.ct x.Region _ ⟨hx.2.2.1,hx.2.2.2.1,hx.2.2.2.2.1,hx.2.2.2.2.2.1⟩ (by omega) (by omega) (Int.not_lt.1 q1)
 refine ⟨by omega,?_⟩
 unfold Zwq
 have v0:Zwl x.Zc=Zq x.Zc.Atoms:=rfl
 have v1:Zwp x.Region=Zt x.Region.Plan.Steps+x.Region.Box.Low.length+x.Region.Box.High.length:=rfl
 have v2:Zq x.Zc.Atoms=cnL Zc4 x.Zc.Atoms:=rfl
 have v3:=Zwn x.Region.Plan.Steps
 omega
theorem Zboo (x:Zf) (l:Int) (hx:x.okay) (h0:0≤l) (h1:l≤1048576) (h:0≤x.sz l):x.sz l≤l∧(Zdd x:Int)≤16+16*(l - x.sz l):=by
 have a:=Zf.ct x l hx h0 h1 h
 unfold Zwq at a
 unfold Zdd
 omega
def Zwr (x:Zp):Nat:=Zba x.Entries
theorem Zp.ct (x:Zp) (l:Int) (hx:x.okay) (h0:0≤l) (h1:l≤1048576) (h:0≤x.sz l):x.sz l≤l∧(Zwr x:Int)≤16*(l - x.sz l):=by
 unfold Zp.sz at h ⊢
 simp only [andSz] at h ⊢
 split at h
 ·omega
 rename_i q0
 rw [if_neg q0]
 have s0:=szL_ct (n:=Zdd) hx.2.1 (fun y hy l a b c=>Zboo y l (hx.2.2 y hy) a b c) h0 h1 (Int.not_lt.1 q0)
 refine ⟨by omega,?_⟩
 unfold Zwr
 have v0:Zba x.Entries=cnL Zdd x.Entries:=rfl
 omega
theorem Zbop:C Zqu [.t .nil,.t .nil] []=some (Bo true,[]):=by
 refine run Zv9 rfl ?_
 simp [Znq,EvL_eq Zkk.eq_1]
theorem Z8a (x:Int):C Zqt [.agg [I x,.t .nil],.agg [I x,.t .nil]] []=some (Bo true,[]):=by
 refine run Zv2 rfl ?_
 simp [Zp8,Zbop]
theorem Zboq:C Zqu [.t (.lst 8 []),.t .nil] []=some (Bo true,[]):=by
 refine run Zv9 rfl ?_
 simp [Znq,EvL_eq Zkk.eq_1]
theorem Zbor (x:Int) (l:List Zf) (h:l=[]):C Zqt [.agg [I x,L 8 (l.map Zf.c)],.agg [I x,.t .nil]] []=some (Bo true,[]):=by
 subst h
 refine run Zv2 rfl ?_
 simp [Zp8,Zboq]
theorem Z8b {α:Type} (f:α→Nat) (p:α→Bool):∀ xs:List α,cnL f (xs.filter p)≤cnL f xs
 | []=>Nat.le_refl _
 | x::xs=>by
  have:=Z8b f p xs
  cases h:p x with
  | true=>rw [List.filter_cons_of_pos h];simp [cnL];omega
  | false=>rw [List.filter_cons_of_neg (by rw [h];decide)];simp [cnL];omega
theorem stay_cn (v:Int) (es:List Zf):Zba (stay v es)≤Zba es:=Z8b _ _ _
theorem Z8c (m:Zd) (c:Zp) (v:Int) (hm:m.okay) (hc:c.okay) (hv:OkI v):C Z8k [.agg (m.c.map .t),.agg (c.c.map .t),I v] []=some (Bo true,[]):=by
 refine run Zblb rfl ?_
 have e1:=fun l=>Zbm9 m.Scan.Fixed m.Scan.Zj m.Scan.Zk m.Scan.Zm m.Scan.Zl m.Scan.Steps m.Sort_.Fixed m.Sort_.Zj m.Sort_.Zk m.Sort_.Zm m.Sort_.Zl m.Sort_.Steps m.Hash.Fixed m.Hash.Zj m.Hash.Zk m.Hash.Zm m.Hash.Zl m.Hash.Steps m.Merge.Fixed m.Merge.Zj m.Merge.Zk m.Merge.Zm m.Merge.Zl m.Merge.Steps m.Nested.Fixed m.Nested.Zj m.Nested.Zk m.Nested.Zm m.Nested.Zl m.Nested.Steps l
 by_cases h1:Zd.sz m (1048576)<0
 ·simp [Zhf,e1,h1]
 obtain ⟨b1,g1⟩:=Zd.Zbg m _ hm (by omega) (by omega) (by omega:0≤Zd.sz m (1048576))
 have u1:=(Zd.ct m _ hm (by omega) (by omega) (by omega:0≤Zd.sz m (1048576))).2
 unfold Zwm at u1
 have e2:=fun l=>Zbnu c.Clock c.Entries l (hc.2)
 by_cases h2:Zp.sz c (Zd.sz m (1048576))<0
 ·simp [Zhf,e1,h1,e2,h2]
 obtain ⟨b2,g2⟩:=Zp.Zbg c _ hc (by omega) (by omega) (by omega:0≤Zp.sz c (Zd.sz m (1048576)))
 have u2:=(Zp.ct c _ hc (by omega) (by omega) (by omega:0≤Zp.sz c (Zd.sz m (1048576)))).2
 unfold Zwr at u2
 have t1:=Zbm7 m.Scan.Fixed m.Scan.Zj m.Scan.Zk m.Scan.Zm m.Scan.Zl m.Scan.Steps m.Sort_.Fixed m.Sort_.Zj m.Sort_.Zk m.Sort_.Zm m.Sort_.Zl m.Sort_.Steps m.Hash.Fixed m.Hash.Zj m.Hash.Zk m.Hash.Zm m.Hash.Zl m.Hash.Steps m.Merge.Fixed m.Merge.Zj m.Merge.Zk m.Merge.Zm m.Merge.Zl m.Merge.Steps m.Nested.Fixed m.Nested.Zj m.Nested.Zk m.Nested.Zm m.Nested.Zl m.Nested.Steps (g1.1) (g1.2.1) (g1.2.2.1) (g1.2.2.2.1) (g1.2.2.2.2)
 have q1:=fun y0 y1 y2 y3 y4 y5 y6 y7 y8 y9 y10 y11 y12 y13 y14 y15 y16 y17 y18 y19 y20 y21 y22 y23 y24 y25 y26 y27 y28 y29=>Zbm8 m.Scan.Fixed m.Scan.Zj m.Scan.Zk m.Scan.Zm m.Scan.Zl m.Scan.Steps m.Sort_.Fixed m.Sort_.Zj m.Sort_.Zk m.Sort_.Zm m.Sort_.Zl m.Sort_.Steps m.Hash.Fixed m.Hash.Zj m.Hash.Zk m.Hash.Zm m.Hash.Zl m.Hash.Steps m.Merge.Fixed m.Merge.Zj m.Merge.Zk m.Merge.Zm m.Merge.Zl m.Merge.Steps m.Nested.Fixed m.Nested.Zj m.Nested.Zk m.Nested.Zm m.Nested.Zl m.Nested.Steps y0 y1 y2 y3 y4 y5 y6 y7 y8 y9 y10 y11 y12 y13 y14 y15 y16 y17 y18 y19 y20 y21 y22 y23 y24 y25 y26 y27 y28 y29 (g1.1) (g1.2.1) (g1.2.2.1) (g1.2.2.2.1) (g1.2.2.2.2)
 have t2:=Zbnt c.Clock c.Entries (g2)
 have q2:=fun y0 y1=>Z71 c.Clock c.Entries y0 y1 (g2)
 have m1:=fun a0 a1 a2 a3 a4=>Zbom a0 a1 a2 a3 a4 m.Scan.Fixed m.Scan.Zj m.Scan.Zk m.Scan.Zm m.Scan.Zl m.Scan.Steps m.Sort_.Fixed m.Sort_.Zj m.Sort_.Zk m.Sort_.Zm m.Sort_.Zl m.Sort_.Steps m.Hash.Fixed m.Hash.Zj m.Hash.Zk m.Hash.Zm m.Hash.Zl m.Hash.Steps m.Merge.Fixed m.Merge.Zj m.Merge.Zk m.Merge.Zm m.Merge.Zl m.Merge.Steps m.Nested.Fixed m.Nested.Zj m.Nested.Zk m.Nested.Zm m.Nested.Zl m.Nested.Steps (1) (by omega) (by omega) (g1.1) (g1.2.1) (g1.2.2.1) (g1.2.2.2.1) (g1.2.2.2.2)
 have m2:=fun a0=>Zqk a0 c.Clock c.Entries (1+(Zs m.Scan.Steps:Int)+(Zs m.Sort_.Steps:Int)+(Zs m.Hash.Steps:Int)+(Zs m.Merge.Steps:Int)+(Zs m.Nested.Steps:Int)) (by omega) (by omega) (g2)
 have zk:¬ (1+(Zs m.Scan.Steps:Int)+(Zs m.Sort_.Steps:Int)+(Zs m.Hash.Steps:Int)+(Zs m.Merge.Steps:Int)+(Zs m.Nested.Steps:Int)+(Zba c.Entries:Int)<0):=by omega
 have nm:LeM m:=⟨by have:=g1.1;omega,by have:=g1.2.1;omega,by have:=g1.2.2.1;omega,by have:=g1.2.2.2.1;omega,by have:=g1.2.2.2.2;omega⟩
 have nc:Lc c.Entries:=⟨g2.1,fun e he=>⟨⟨(g2.2 e he).1.1,fun x hx=>((g2.2 e he).1.2 x hx).2⟩,(g2.2 e he).2.1,(g2.2 e he).2.2.1,(g2.2 e he).2.2.2⟩⟩
 have s0:=Zbla m nm c nc v
 have s1:=Zbk7 m nm c nc v
 unfold Zpc at s0
 unfold Zpb at s1
 simp only [Zd.c_def,Zp.c_def,List.map_cons,List.map_nil] at s0 s1
 by_cases ok:Zex m c=true
 ·rw [if_pos ok] at s0 s1
  unfold dsS at s0
  unfold dsI at s1
  by_cases he:c.Entries=[]
  ·have hs:stay v c.Entries=[]:=by rw [he];rfl
   have hl0:(c.Entries.length:Int)=0:=by rw [he];rfl
   rw [if_pos hs,hl0] at s0
   rw [if_pos he] at s1
   clear he hs hl0 ok
   simp +decide [Zhf,e1,h1,e2,h2,t1,q1,t2,q2,m1,m2,zk,s0,s1,Z8a,Z77,Z78]
  ·rw [if_neg he] at s1
   have v2:=stay_cn v c.Entries
   have v4:=Z6h v c.Entries
   have g9:SmL Zf.small (stay v c.Entries):=⟨by have:=g2.1;omega,fun x hx=>g2.2 x (stay_mem _ _ x hx)⟩
   clear he ok
   by_cases hs:stay v c.Entries=[]
   ·rw [if_pos hs,show (c.Entries.length:Int)=(c.Entries.length:Int) - (stay v c.Entries).length by rw [hs];simp] at s0
    generalize stay v c.Entries=es at s0 s1 v2 g9 hs
    generalize (c.Entries.length:Int) - es.length=d at s0 s1
    have q6:=Zbor c.Clock es hs
    clear hs
    have m6:=fun a0=>Zqk a0 c.Clock es 1 (by omega) (by omega) g9
    have m7:=Zwi c.Clock es 1 (by omega) (by omega) g9
    have z2:¬ (1+(Zba es:Int)<0):=by omega
    simp +decide [Zhf,e1,h1,e2,h2,t1,q1,t2,q2,m1,m2,zk,s0,s1,q6,m6,m7,z2]
   ·rw [if_neg hs] at s0
    clear hs
    generalize stay v c.Entries=es at s0 s1 v2 g9
    generalize (c.Entries.length:Int) - es.length=d at s0 s1
    have q6:=Z71 c.Clock es c.Clock es g9
    have m6:=fun a0=>Zqk a0 c.Clock es 1 (by omega) (by omega) g9
    have m7:=Zwi c.Clock es 1 (by omega) (by omega) g9
    have z2:¬ (1+(Zba es:Int)<0):=by omega
    simp +decide [Zhf,e1,h1,e2,h2,t1,q1,t2,q2,m1,m2,zk,s0,s1,q6,m6,m7,z2]
 ·rw [if_neg ok] at s0 s1
  unfold dsNo at s0 s1
  by_cases he:c.Entries=[]
  ·rw [if_pos he] at s0 s1
   clear he
   simp +decide [Zhf,e1,h1,e2,h2,t1,q1,t2,q2,m1,m2,zk,s0,s1,Z8a,Z77,Z78]
  ·rw [if_neg he] at s0 s1
   clear he
   have m6:=fun a0=>Zqk a0 c.Clock c.Entries 1 (by omega) (by omega) g2
   have m7:=Zwi c.Clock c.Entries 1 (by omega) (by omega) g2
   have z2:¬ (1+(Zba c.Entries:Int)<0):=by omega
   simp +decide [Zhf,e1,h1,e2,h2,t1,q1,t2,q2,m1,m2,zk,s0,s1,m6,m7,z2]
end Go.Proofs.YtbapkgocloaaeaaGreat
