/-
  Parts of the proofs for this seat: MR L28.
-/
import Derived.Test.YtbapkgocloaaeaaGreatP16
import Derived.Test.YtbapkgocloaaeaaGreatP17
set_option linter.unusedSimpArgs false
set_option linter.unusedVariables false
set_option maxRecDepth 100000
set_option maxHeartbeats 4000000
/- part: MR -/
namespace Go.Proofs.YtbapkgocloaaeaaGreat
open Go.AM
theorem Zw1 (xs:List Int) (k:Int) (h1:0≤k) (h2:k+(xs.length:Int)≤4000000000000000000) (h3:SmA xs):C Zbac [L 1 ((mkI xs k).map ic),I k] []=some (I (k+xs.length),[]):=by
 refine run Zbnf rfl ?_
 have h4:=fun fr=>Zbpk fr xs [] k h1 (by omega) (by have:xs.length≤4294967296:=h3;simp;omega)
 simp at h4
 simp [Z7v,h4]
theorem Zw2 (xs:List Int) (k:Int) (h1:0≤k) (h2:k+(xs.length:Int)≤4000000000000000000) (h3:SmA xs):(xs.map ic=[]∧(mkI xs (k)).map ic=[]∧C Zok [.t (.lst 1 []),I k] []=some (I (k+(xs.length:Int)),[]))∨∃ y ys,xs.map ic=y::ys∧True∧C Zok [.own 0,I k] [.xarr unk 1 (y::ys)]=some (I (k+(xs.length:Int)),[.xarr unk 1 ((mkI xs (k)).map ic)]):=by
 have c:=Z9c unk xs k h1 (by omega) h3
 cases xs with
 | nil=>exact .inl ⟨rfl,rfl,by have:=Zbpj 1 k;simpa [mkI,mkL] using this⟩
 | cons y ys=>exact .inr ⟨_,_,rfl,trivial,c⟩
noncomputable def Zhg (a:Atom) (k:Int):Atom:=⟨mtext (k),mkI a.Vars (k+1)⟩
def Zc4 (a:Atom):Nat:=1+a.Vars.length
noncomputable def Zcw (xs:List Atom) (k:Int):List Atom:=mkL Zhg Zc4 xs k
def Zr (xs:List Atom):Nat:=cnL Zc4 xs
theorem Z9e (x:Atom) (xs:List Atom) (k:Int):Zcw (x::xs) k=Zhg x k::Zcw xs (k+(Zc4 x:Int)):=rfl
theorem Zbpn (e:Nat) (fr:List Fr):∀ (xs d:List Atom) (k:Int),0≤k→k+(Zr xs:Int)≤4000000000000000000→d.length+xs.length≤4294967296→(∀ x∈xs,x.small)→EvL C fr [0,1,5] Zn5 ⟨[(0,.own 0),(1,I k),(5,I d.length)],[[(0,.own 0)]],[.xarr e 2 ((d++xs).map Atom.c)]⟩ =
  EvX C fr (.x 0) ⟨[(0,.own 0),(1,I (k+Zr xs)),(5,I (d.length+xs.length)),(9,Bo false)],[[(0,.own 0)]],[.xarr e 2 ((d++Zcw xs k).map Atom.c)]⟩:=by
 intro xs
 induction xs with
 | nil =>
  intro d k h1 h2 h3 h4
  rw [EvL_eq Zn5.eq_1]
  simp [Zcw,Zr,cnL,mkL]
 | cons x xs ih =>
  intro d k h1 h2 h3 h4
  have hx:=h4 x (by simp)
  have e0:Zr (x::xs)=Zc4 x+Zr xs:=rfl
  rw [e0] at h2
  simp only [List.length_cons] at h3
  rcases x with ⟨x0,x1⟩
  have e1:Zc4 ⟨x0,x1⟩=1+x1.length:=rfl
  have eK:k+(Zc4 ⟨x0,x1⟩:Int)=k+1+(x1.length:Int):=by omega
  have eL:k+(Zr (⟨x0,x1⟩::xs):Int)=k+1+(x1.length:Int)+(Zr xs:Int):=by omega
  have ih':=ih (d++[Zhg ⟨x0,x1⟩ k]) (k+1+(x1.length:Int)) (by omega) (by omega) (by simp;omega) (fun y hy=>h4 y (by simp [hy]))
  rw [EvL_eq Zn5.eq_1,eL,Z9e,eK]
  have g1:IntKind.wrap .i64 ((d.length:Int)+1)=(d.length:Int)+1:=wrap64 (by omega) (by omega)
  have g3:(d.length:Int)<(d.length:Int)+((xs.length:Int)+1):=by omega
  have g5:(d.length:Int)+1+(xs.length:Int)=(d.length:Int)+((xs.length:Int)+1):=by omega
  have w0:IntKind.wrap .i64 (k+1)=k+1:=wrap64 (by omega) (by omega)
  have t0:=Z9d (k) (by omega) (by omega)
  have m0:=Zw2 x1 (k+1) (by omega) (by omega) (by first | exact hx | exact hx.1 | exact hx.2 | exact hx.2.1 | exact hx.2.2 | exact hx.2.2.1 | exact hx.2.2.2 | exact hx.2.2.2.1 | exact hx.2.2.2.2 | exact hx.2.2.2.2.1 | exact hx.2.2.2.2.2)
  rcases m0 with ⟨r0,s0,m0⟩ | ⟨y0,ys0,r0,s0,m0⟩
  all_goals (simp [g5,Zhg,tI,r0,s0] at ih';simp [g1,g3,w0,t0,m0,r0,s0,ih',Zhg,tI])
theorem Z9f (e:Nat) (xs:List Atom) (k:Int) (h1:0≤k) (h2:k+(Zr xs:Int)≤4000000000000000000) (h3:SmL Atom.small xs):C Zol [.own 0,I k] [.xarr e 2 (xs.map Atom.c)]=some (I (k+Zr xs),[.xarr e 2 ((Zcw xs k).map Atom.c)]):=by
 refine runM Z8i rfl ?_
 have h4:=fun fr=>Zbpn e fr xs [] k h1 h2 (by have:xs.length≤4294967296:=h3.1;simp;omega) h3.2
 simp at h4
 simp [Zwu,h4]
theorem Zbpo (n:Nat) (k:Int):C Zol [.t (.lst n []),I k] []=some (I k,[]):=by
 refine run Z8i rfl ?_
 simp [Zwu,EvL_eq Zn5.eq_1]
theorem Zbpp (xs:List Atom) (k:Int) (h1:0≤k) (h2:k+(Zr xs:Int)≤4000000000000000000) (h3:SmL Atom.small xs):(xs.map Atom.c=[]∧(Zcw xs (k)).map Atom.c=[]∧C Zol [.t (.lst 2 []),I k] []=some (I (k+(Zr xs:Int)),[]))∨∃ y ys,xs.map Atom.c=y::ys∧True∧C Zol [.own 0,I k] [.xarr unk 2 (y::ys)]=some (I (k+(Zr xs:Int)),[.xarr unk 2 ((Zcw xs (k)).map Atom.c)]):=by
 have c:=Z9f unk xs k h1 h2 h3
 cases xs with
 | nil=>exact .inl ⟨rfl,rfl,by have:=Zbpo 2 k;simpa [Zcw,Zr,cnL,mkL] using this⟩
 | cons y ys=>exact .inr ⟨_,_,rfl,trivial,c⟩
theorem Zbpq (fr:List Fr):∀ (xs d:List Atom) (k:Int),0≤k→k+(Zr xs:Int)≤4000000000000000000→d.length+xs.length≤4294967296→(∀ x∈xs,x.small)→EvL C fr [0,1,5] Zqy ⟨[(0,L 2 ((d++Zcw xs k).map Atom.c)),(1,I k),(5,I d.length)],[[]],[]⟩ =
  EvX C fr (.x 0) ⟨[(0,L 2 ((d++Zcw xs k).map Atom.c)),(1,I (k+Zr xs)),(5,I (d.length+xs.length)),(9,Bo false)],[[]],[]⟩:=by
 intro xs
 induction xs with
 | nil =>
  intro d k h1 h2 h3 h4
  rw [EvL_eq Zqy.eq_1]
  simp [Zcw,Zr,cnL,mkL]
 | cons x xs ih =>
  intro d k h1 h2 h3 h4
  have hx:=h4 x (by simp)
  have e0:Zr (x::xs)=Zc4 x+Zr xs:=rfl
  rw [e0] at h2
  simp only [List.length_cons] at h3
  rcases x with ⟨x0,x1⟩
  have e1:Zc4 ⟨x0,x1⟩=1+x1.length:=rfl
  have eK:k+(Zc4 ⟨x0,x1⟩:Int)=k+1+(x1.length:Int):=by omega
  have eL:k+(Zr (⟨x0,x1⟩::xs):Int)=k+1+(x1.length:Int)+(Zr xs:Int):=by omega
  have ih':=ih (d++[Zhg ⟨x0,x1⟩ k]) (k+1+(x1.length:Int)) (by omega) (by omega) (by simp;omega) (fun y hy=>h4 y (by simp [hy]))
  rw [EvL_eq Zqy.eq_1,eL,Z9e,eK]
  have g1:IntKind.wrap .i64 ((d.length:Int)+1)=(d.length:Int)+1:=wrap64 (by omega) (by omega)
  have g3:(d.length:Int)<(d.length:Int)+(((Zcw xs (k+1+(x1.length:Int))).length:Int)+1):=by omega
  have g5:(d.length:Int)+1+(xs.length:Int)=(d.length:Int)+((xs.length:Int)+1):=by omega
  have w0:IntKind.wrap .i64 (k+1)=k+1:=wrap64 (by omega) (by omega)
  have t0:=Z9d (k) (by omega) (by omega)
  have m0:=Zw1 x1 (k+1) (by omega) (by omega) (by first | exact hx | exact hx.1 | exact hx.2 | exact hx.2.1 | exact hx.2.2 | exact hx.2.2.1 | exact hx.2.2.2 | exact hx.2.2.2.1 | exact hx.2.2.2.2 | exact hx.2.2.2.2.1 | exact hx.2.2.2.2.2)
  have z0:¬ (k+1+(x1.length:Int)<0):=by omega
  simp [g5,Zhg,tI] at ih'
  simp +decide [g1,g3,w0,t0,m0,z0,ih',Zhg,tI]
theorem Zbpr (xs:List Atom) (k:Int) (h1:0≤k) (h2:k+(Zr xs:Int)≤4000000000000000000) (h3:SmL Atom.small xs):C Zbba [L 2 ((Zcw xs k).map Atom.c),I k] []=some (I (k+Zr xs),[]):=by
 refine run Zbod rfl ?_
 have h4:=fun fr=>Zbpq fr xs [] k h1 h2 (by have:xs.length≤4294967296:=h3.1;simp;omega) h3.2
 simp at h4
 simp [Z82,h4]
noncomputable def Zhh (a:Zc) (k:Int):Zc:=⟨k,k+1,k+1+1⟩
def Zfy (a:Zc):Nat:=1+1+1
noncomputable def Zcm (xs:List Zc) (k:Int):List Zc:=mkL Zhh Zfy xs k
def Zs (xs:List Zc):Nat:=cnL Zfy xs
theorem Z9g (x:Zc) (xs:List Zc) (k:Int):Zcm (x::xs) k=Zhh x k::Zcm xs (k+(Zfy x:Int)):=rfl
theorem Zbps (e:Nat) (fr:List Fr):∀ (xs d:List Zc) (k:Int),0≤k→k+(Zs xs:Int)≤4000000000000000000→d.length+xs.length≤4294967296→(∀ x∈xs,x.small)→EvL C fr [0,1,5] Zkt ⟨[(0,.own 0),(1,I k),(5,I d.length)],[[(0,.own 0)]],[.xarr e 3 ((d++xs).map Zc.c)]⟩ =
  EvX C fr (.x 0) ⟨[(0,.own 0),(1,I (k+Zs xs)),(5,I (d.length+xs.length)),(9,Bo false)],[[(0,.own 0)]],[.xarr e 3 ((d++Zcm xs k).map Zc.c)]⟩:=by
 intro xs
 induction xs with
 | nil =>
  intro d k h1 h2 h3 h4
  rw [EvL_eq Zkt.eq_1]
  simp [Zcm,Zs,cnL,mkL]
 | cons x xs ih =>
  intro d k h1 h2 h3 h4
  have hx:=h4 x (by simp)
  have e0:Zs (x::xs)=Zfy x+Zs xs:=rfl
  rw [e0] at h2
  simp only [List.length_cons] at h3
  rcases x with ⟨x0,x1,x2⟩
  have e1:Zfy ⟨x0,x1,x2⟩=1+1+1:=rfl
  have eK:k+(Zfy ⟨x0,x1,x2⟩:Int)=k+1+1+1:=by omega
  have eL:k+(Zs (⟨x0,x1,x2⟩::xs):Int)=k+1+1+1+(Zs xs:Int):=by omega
  have ih':=ih (d++[Zhh ⟨x0,x1,x2⟩ k]) (k+1+1+1) (by omega) (by omega) (by simp;omega) (fun y hy=>h4 y (by simp [hy]))
  rw [EvL_eq Zkt.eq_1,eL,Z9g,eK]
  have g1:IntKind.wrap .i64 ((d.length:Int)+1)=(d.length:Int)+1:=wrap64 (by omega) (by omega)
  have g3:(d.length:Int)<(d.length:Int)+((xs.length:Int)+1):=by omega
  have g5:(d.length:Int)+1+(xs.length:Int)=(d.length:Int)+((xs.length:Int)+1):=by omega
  have w0:IntKind.wrap .i64 (k+1)=k+1:=wrap64 (by omega) (by omega)
  have w1:IntKind.wrap .i64 (k+1+1)=k+1+1:=wrap64 (by omega) (by omega)
  have w2:IntKind.wrap .i64 (k+1+1+1)=k+1+1+1:=wrap64 (by omega) (by omega)
  (simp [g5,Zhh,tI] at ih';simp [g1,g3,w0,w1,w2,ih',Zhh,tI])
theorem Z9h (e:Nat) (xs:List Zc) (k:Int) (h1:0≤k) (h2:k+(Zs xs:Int)≤4000000000000000000) (h3:SmA xs):C Zkz [.own 0,I k] [.xarr e 3 (xs.map Zc.c)]=some (I (k+Zs xs),[.xarr e 3 ((Zcm xs k).map Zc.c)]):=by
 refine runM Zwv rfl ?_
 have h4:=fun fr=>Zbps e fr xs [] k h1 h2 (by have:xs.length≤4294967296:=h3;simp;omega) (fun _ _=>trivial)
 simp at h4
 simp [Zqs,h4]
theorem Zbpt (n:Nat) (k:Int):C Zkz [.t (.lst n []),I k] []=some (I k,[]):=by
 refine run Zwv rfl ?_
 simp [Zqs,EvL_eq Zkt.eq_1]
theorem Zbpu (k:Int):C Zkz [.t .nil,I k] []=some (I k,[]):=by
 refine run Zwv rfl ?_
 simp [Zqs,EvL_eq Zkt.eq_1]
theorem Zbpv (xs:List Zc) (k:Int) (h1:0≤k) (h2:k+(Zs xs:Int)≤4000000000000000000) (h3:SmA xs):(xs.map Zc.c=[]∧(Zcm xs (k)).map Zc.c=[]∧C Zkz [.t (.lst 3 []),I k] []=some (I (k+(Zs xs:Int)),[]))∨∃ y ys,xs.map Zc.c=y::ys∧True∧C Zkz [.own 0,I k] [.xarr unk 3 (y::ys)]=some (I (k+(Zs xs:Int)),[.xarr unk 3 ((Zcm xs (k)).map Zc.c)]):=by
 have c:=Z9h unk xs k h1 h2 h3
 cases xs with
 | nil=>exact .inl ⟨rfl,rfl,by have:=Zbpt 3 k;simpa [Zcm,Zs,cnL,mkL] using this⟩
 | cons y ys=>exact .inr ⟨_,_,rfl,trivial,c⟩
theorem Zbpw (fr:List Fr):∀ (xs d:List Zc) (k:Int),0≤k→k+(Zs xs:Int)≤4000000000000000000→d.length+xs.length≤4294967296→(∀ x∈xs,x.small)→EvL C fr [0,1,5] Zn9 ⟨[(0,L 3 ((d++Zcm xs k).map Zc.c)),(1,I k),(5,I d.length)],[[]],[]⟩ =
  EvX C fr (.x 0) ⟨[(0,L 3 ((d++Zcm xs k).map Zc.c)),(1,I (k+Zs xs)),(5,I (d.length+xs.length)),(9,Bo false)],[[]],[]⟩:=by
 intro xs
 induction xs with
 | nil =>
  intro d k h1 h2 h3 h4
  rw [EvL_eq Zn9.eq_1]
  simp [Zcm,Zs,cnL,mkL]
 | cons x xs ih =>
  intro d k h1 h2 h3 h4
  have hx:=h4 x (by simp)
  have e0:Zs (x::xs)=Zfy x+Zs xs:=rfl
  rw [e0] at h2
  simp only [List.length_cons] at h3
  rcases x with ⟨x0,x1,x2⟩
  have e1:Zfy ⟨x0,x1,x2⟩=1+1+1:=rfl
  have eK:k+(Zfy ⟨x0,x1,x2⟩:Int)=k+1+1+1:=by omega
  have eL:k+(Zs (⟨x0,x1,x2⟩::xs):Int)=k+1+1+1+(Zs xs:Int):=by omega
  have ih':=ih (d++[Zhh ⟨x0,x1,x2⟩ k]) (k+1+1+1) (by omega) (by omega) (by simp;omega) (fun y hy=>h4 y (by simp [hy]))
  rw [EvL_eq Zn9.eq_1,eL,Z9g,eK]
  have g1:IntKind.wrap .i64 ((d.length:Int)+1)=(d.length:Int)+1:=wrap64 (by omega) (by omega)
  have g3:(d.length:Int)<(d.length:Int)+(((Zcm xs (k+1+1+1)).length:Int)+1):=by omega
  have g5:(d.length:Int)+1+(xs.length:Int)=(d.length:Int)+((xs.length:Int)+1):=by omega
  have w0:IntKind.wrap .i64 (k+1)=k+1:=wrap64 (by omega) (by omega)
  have w1:IntKind.wrap .i64 (k+1+1)=k+1+1:=wrap64 (by omega) (by omega)
  have w2:IntKind.wrap .i64 (k+1+1+1)=k+1+1+1:=wrap64 (by omega) (by omega)
  simp [g5,Zhh,tI] at ih'
  simp +decide [g1,g3,w0,w1,w2,ih',Zhh,tI]
theorem Z9i (xs:List Zc) (k:Int) (h1:0≤k) (h2:k+(Zs xs:Int)≤4000000000000000000) (h3:SmA xs):C Zx3 [L 3 ((Zcm xs k).map Zc.c),I k] []=some (I (k+Zs xs),[]):=by
 refine run Z8p rfl ?_
 have h4:=fun fr=>Zbpw fr xs [] k h1 h2 (by have:xs.length≤4294967296:=h3;simp;omega) (fun _ _=>trivial)
 simp at h4
 simp [Zwy,h4]
theorem Zbpx (k:Int):C Zx3 [.t .nil,I k] []=some (I k,[]):=by
 refine run Z8p rfl ?_
 simp [Zwy,EvL_eq Zn9.eq_1]
noncomputable def Zhi (a:Zf) (k:Int):Zf:=⟨⟨k,Zcw a.Zb.Atoms (k+1)⟩,⟨⟨Zcm a.Region.Plan.Steps (k+1+(Zr a.Zb.Atoms:Int))⟩,⟨mkI a.Region.Box.Low (k+1+(Zr a.Zb.Atoms:Int)+(Zs a.Region.Plan.Steps:Int)),mkI a.Region.Box.High (k+1+(Zr a.Zb.Atoms:Int)+(Zs a.Region.Plan.Steps:Int)+(a.Region.Box.Low.length:Int))⟩,k+1+(Zr a.Zb.Atoms:Int)+(Zs a.Region.Plan.Steps:Int)+(a.Region.Box.Low.length:Int)+(a.Region.Box.High.length:Int)⟩,k+1+(Zr a.Zb.Atoms:Int)+(Zs a.Region.Plan.Steps:Int)+(a.Region.Box.Low.length:Int)+(a.Region.Box.High.length:Int)+1,k+1+(Zr a.Zb.Atoms:Int)+(Zs a.Region.Plan.Steps:Int)+(a.Region.Box.Low.length:Int)+(a.Region.Box.High.length:Int)+1+1⟩
def Zdc (a:Zf):Nat:=1+Zr a.Zb.Atoms+Zs a.Region.Plan.Steps+a.Region.Box.Low.length+a.Region.Box.High.length+1+1+1
noncomputable def Zds (xs:List Zf) (k:Int):List Zf:=mkL Zhi Zdc xs k
def Z4 (xs:List Zf):Nat:=cnL Zdc xs
theorem Z9j (x:Zf) (xs:List Zf) (k:Int):Zds (x::xs) k=Zhi x k::Zds xs (k+(Zdc x:Int)):=rfl
theorem Zbpy (e:Nat) (fr:List Fr):∀ (xs d:List Zf) (k:Int),0≤k→k+(Z4 xs:Int)≤4000000000000000000→d.length+xs.length≤4294967296→(∀ x∈xs,x.small)→EvL C fr [0,1,5] Zn7 ⟨[(0,.own 0),(1,I k),(5,I d.length)],[[(0,.own 0)]],[.xarr e 8 ((d++xs).map Zf.c)]⟩ =
  EvX C fr (.x 0) ⟨[(0,.own 0),(1,I (k+Z4 xs)),(5,I (d.length+xs.length)),(9,Bo false)],[[(0,.own 0)]],[.xarr e 8 ((d++Zds xs k).map Zf.c)]⟩:=by
 intro xs
 induction xs with
 | nil =>
  intro d k h1 h2 h3 h4
  rw [EvL_eq Zn7.eq_1]
  simp [Zds,Z4,cnL,mkL]
 | cons x xs ih =>
  intro d k h1 h2 h3 h4
  have hx:=h4 x (by simp)
  have e0:Z4 (x::xs)=Zdc x+Z4 xs:=rfl
  rw [e0] at h2
  simp only [List.length_cons] at h3
  rcases x with ⟨⟨x0,x1⟩,⟨⟨x2⟩,⟨x3,x4⟩,x5⟩,x6,x7⟩
  have e1:Zdc ⟨⟨x0,x1⟩,⟨⟨x2⟩,⟨x3,x4⟩,x5⟩,x6,x7⟩=1+Zr x1+Zs x2+x3.length+x4.length+1+1+1:=rfl
  have eK:k+(Zdc ⟨⟨x0,x1⟩,⟨⟨x2⟩,⟨x3,x4⟩,x5⟩,x6,x7⟩:Int)=k+1+(Zr x1:Int)+(Zs x2:Int)+(x3.length:Int)+(x4.length:Int)+1+1+1:=by omega
  have eL:k+(Z4 (⟨⟨x0,x1⟩,⟨⟨x2⟩,⟨x3,x4⟩,x5⟩,x6,x7⟩::xs):Int)=k+1+(Zr x1:Int)+(Zs x2:Int)+(x3.length:Int)+(x4.length:Int)+1+1+1+(Z4 xs:Int):=by omega
  have ih':=ih (d++[Zhi ⟨⟨x0,x1⟩,⟨⟨x2⟩,⟨x3,x4⟩,x5⟩,x6,x7⟩ k]) (k+1+(Zr x1:Int)+(Zs x2:Int)+(x3.length:Int)+(x4.length:Int)+1+1+1) (by omega) (by omega) (by simp;omega) (fun y hy=>h4 y (by simp [hy]))
  rw [EvL_eq Zn7.eq_1,eL,Z9j,eK]
  have g1:IntKind.wrap .i64 ((d.length:Int)+1)=(d.length:Int)+1:=wrap64 (by omega) (by omega)
  have g3:(d.length:Int)<(d.length:Int)+((xs.length:Int)+1):=by omega
  have g5:(d.length:Int)+1+(xs.length:Int)=(d.length:Int)+((xs.length:Int)+1):=by omega
  have w0:IntKind.wrap .i64 (k+1)=k+1:=wrap64 (by omega) (by omega)
  have w1:IntKind.wrap .i64 (k+1+(Zr x1:Int)+(Zs x2:Int)+(x3.length:Int)+(x4.length:Int)+1)=k+1+(Zr x1:Int)+(Zs x2:Int)+(x3.length:Int)+(x4.length:Int)+1:=wrap64 (by omega) (by omega)
  have w2:IntKind.wrap .i64 (k+1+(Zr x1:Int)+(Zs x2:Int)+(x3.length:Int)+(x4.length:Int)+1+1)=k+1+(Zr x1:Int)+(Zs x2:Int)+(x3.length:Int)+(x4.length:Int)+1+1:=wrap64 (by omega) (by omega)
  have w3:IntKind.wrap .i64 (k+1+(Zr x1:Int)+(Zs x2:Int)+(x3.length:Int)+(x4.length:Int)+1+1+1)=k+1+(Zr x1:Int)+(Zs x2:Int)+(x3.length:Int)+(x4.length:Int)+1+1+1:=wrap64 (by omega) (by omega)
  have m0:=Zbpp x1 (k+1) (by omega) (by omega) (by first | exact hx | exact hx.1 | exact hx.2 | exact hx.2.1 | exact hx.2.2 | exact hx.2.2.1 | exact hx.2.2.2 | exact hx.2.2.2.1 | exact hx.2.2.2.2 | exact hx.2.2.2.2.1 | exact hx.2.2.2.2.2)
  have m1:=Zbpv x2 (k+1+(Zr x1:Int)) (by omega) (by omega) (by first | exact hx | exact hx.1 | exact hx.2 | exact hx.2.1 | exact hx.2.2 | exact hx.2.2.1 | exact hx.2.2.2 | exact hx.2.2.2.1 | exact hx.2.2.2.2 | exact hx.2.2.2.2.1 | exact hx.2.2.2.2.2)
  have m2:=Zw2 x3 (k+1+(Zr x1:Int)+(Zs x2:Int)) (by omega) (by omega) (by first | exact hx | exact hx.1 | exact hx.2 | exact hx.2.1 | exact hx.2.2 | exact hx.2.2.1 | exact hx.2.2.2 | exact hx.2.2.2.1 | exact hx.2.2.2.2 | exact hx.2.2.2.2.1 | exact hx.2.2.2.2.2)
  have m3:=Zw2 x4 (k+1+(Zr x1:Int)+(Zs x2:Int)+(x3.length:Int)) (by omega) (by omega) (by first | exact hx | exact hx.1 | exact hx.2 | exact hx.2.1 | exact hx.2.2 | exact hx.2.2.1 | exact hx.2.2.2 | exact hx.2.2.2.1 | exact hx.2.2.2.2 | exact hx.2.2.2.2.1 | exact hx.2.2.2.2.2)
  rcases m0 with ⟨r0,s0,m0⟩ | ⟨y0,ys0,r0,s0,m0⟩
  all_goals rcases m1 with ⟨r1,s1,m1⟩ | ⟨y1,ys1,r1,s1,m1⟩
  all_goals rcases m2 with ⟨r2,s2,m2⟩ | ⟨y2,ys2,r2,s2,m2⟩
  all_goals rcases m3 with ⟨r3,s3,m3⟩ | ⟨y3,ys3,r3,s3,m3⟩
  all_goals (simp [g5,Zhi,tI,r0,s0,r1,s1,r2,s2,r3,s3] at ih';simp [g1,g3,w0,w1,w2,w3,m0,r0,s0,m1,r1,s1,m2,r2,s2,m3,r3,s3,ih',Zhi,tI])
theorem Zbpz (e:Nat) (xs:List Zf) (k:Int) (h1:0≤k) (h2:k+(Z4 xs:Int)≤4000000000000000000) (h3:SmL Zf.small xs):C Zx1 [.own 0,I k] [.xarr e 8 (xs.map Zf.c)]=some (I (k+Z4 xs),[.xarr e 8 ((Zds xs k).map Zf.c)]):=by
 refine runM Z8n rfl ?_
 have h4:=fun fr=>Zbpy e fr xs [] k h1 h2 (by have:xs.length≤4294967296:=h3.1;simp;omega) h3.2
 simp at h4
 simp [Zww,h4]
theorem Zbp0 (k:Int):C Zx1 [.t .nil,I k] []=some (I k,[]):=by
 refine run Z8n rfl ?_
 simp [Zww,EvL_eq Zn7.eq_1]
theorem Zbp1 (fr:List Fr):∀ (xs d:List Zf) (k:Int),0≤k→k+(Z4 xs:Int)≤4000000000000000000→d.length+xs.length≤4294967296→(∀ x∈xs,x.small)→EvL C fr [0,1,5] Zn8 ⟨[(0,L 8 ((d++Zds xs k).map Zf.c)),(1,I k),(5,I d.length)],[[]],[]⟩ =
  EvX C fr (.x 0) ⟨[(0,L 8 ((d++Zds xs k).map Zf.c)),(1,I (k+Z4 xs)),(5,I (d.length+xs.length)),(9,Bo false)],[[]],[]⟩:=by
 intro xs
 induction xs with
 | nil =>
  intro d k h1 h2 h3 h4
  rw [EvL_eq Zn8.eq_1]
  simp [Zds,Z4,cnL,mkL]
 | cons x xs ih =>
  intro d k h1 h2 h3 h4
  have hx:=h4 x (by simp)
  have e0:Z4 (x::xs)=Zdc x+Z4 xs:=rfl
  rw [e0] at h2
  simp only [List.length_cons] at h3
  rcases x with ⟨⟨x0,x1⟩,⟨⟨x2⟩,⟨x3,x4⟩,x5⟩,x6,x7⟩
  have e1:Zdc ⟨⟨x0,x1⟩,⟨⟨x2⟩,⟨x3,x4⟩,x5⟩,x6,x7⟩=1+Zr x1+Zs x2+x3.length+x4.length+1+1+1:=rfl
  have eK:k+(Zdc ⟨⟨x0,x1⟩,⟨⟨x2⟩,⟨x3,x4⟩,x5⟩,x6,x7⟩:Int)=k+1+(Zr x1:Int)+(Zs x2:Int)+(x3.length:Int)+(x4.length:Int)+1+1+1:=by omega
  have eL:k+(Z4 (⟨⟨x0,x1⟩,⟨⟨x2⟩,⟨x3,x4⟩,x5⟩,x6,x7⟩::xs):Int)=k+1+(Zr x1:Int)+(Zs x2:Int)+(x3.length:Int)+(x4.length:Int)+1+1+1+(Z4 xs:Int):=by omega
  have ih':=ih (d++[Zhi ⟨⟨x0,x1⟩,⟨⟨x2⟩,⟨x3,x4⟩,x5⟩,x6,x7⟩ k]) (k+1+(Zr x1:Int)+(Zs x2:Int)+(x3.length:Int)+(x4.length:Int)+1+1+1) (by omega) (by omega) (by simp;omega) (fun y hy=>h4 y (by simp [hy]))
  rw [EvL_eq Zn8.eq_1,eL,Z9j,eK]
  have g1:IntKind.wrap .i64 ((d.length:Int)+1)=(d.length:Int)+1:=wrap64 (by omega) (by omega)
  have g3:(d.length:Int)<(d.length:Int)+(((Zds xs (k+1+(Zr x1:Int)+(Zs x2:Int)+(x3.length:Int)+(x4.length:Int)+1+1+1)).length:Int)+1):=by omega
  have g5:(d.length:Int)+1+(xs.length:Int)=(d.length:Int)+((xs.length:Int)+1):=by omega
  have w0:IntKind.wrap .i64 (k+1)=k+1:=wrap64 (by omega) (by omega)
  have w1:IntKind.wrap .i64 (k+1+(Zr x1:Int)+(Zs x2:Int)+(x3.length:Int)+(x4.length:Int)+1)=k+1+(Zr x1:Int)+(Zs x2:Int)+(x3.length:Int)+(x4.length:Int)+1:=wrap64 (by omega) (by omega)
  have w2:IntKind.wrap .i64 (k+1+(Zr x1:Int)+(Zs x2:Int)+(x3.length:Int)+(x4.length:Int)+1+1)=k+1+(Zr x1:Int)+(Zs x2:Int)+(x3.length:Int)+(x4.length:Int)+1+1:=wrap64 (by omega) (by omega)
  have w3:IntKind.wrap .i64 (k+1+(Zr x1:Int)+(Zs x2:Int)+(x3.length:Int)+(x4.length:Int)+1+1+1)=k+1+(Zr x1:Int)+(Zs x2:Int)+(x3.length:Int)+(x4.length:Int)+1+1+1:=wrap64 (by omega) (by omega)
  have m0:=Zbpr x1 (k+1) (by omega) (by omega) (by first | exact hx | exact hx.1 | exact hx.2 | exact hx.2.1 | exact hx.2.2 | exact hx.2.2.1 | exact hx.2.2.2 | exact hx.2.2.2.1 | exact hx.2.2.2.2 | exact hx.2.2.2.2.1 | exact hx.2.2.2.2.2)
  have z0:¬ (k+1+(Zr x1:Int)<0):=by omega
  have m1:=Z9i x2 (k+1+(Zr x1:Int)) (by omega) (by omega) (by first | exact hx | exact hx.1 | exact hx.2 | exact hx.2.1 | exact hx.2.2 | exact hx.2.2.1 | exact hx.2.2.2 | exact hx.2.2.2.1 | exact hx.2.2.2.2 | exact hx.2.2.2.2.1 | exact hx.2.2.2.2.2)
  have z1:¬ (k+1+(Zr x1:Int)+(Zs x2:Int)<0):=by omega
  have m2:=Zw1 x3 (k+1+(Zr x1:Int)+(Zs x2:Int)) (by omega) (by omega) (by first | exact hx | exact hx.1 | exact hx.2 | exact hx.2.1 | exact hx.2.2 | exact hx.2.2.1 | exact hx.2.2.2 | exact hx.2.2.2.1 | exact hx.2.2.2.2 | exact hx.2.2.2.2.1 | exact hx.2.2.2.2.2)
  have z2:¬ (k+1+(Zr x1:Int)+(Zs x2:Int)+(x3.length:Int)<0):=by omega
  have m3:=Zw1 x4 (k+1+(Zr x1:Int)+(Zs x2:Int)+(x3.length:Int)) (by omega) (by omega) (by first | exact hx | exact hx.1 | exact hx.2 | exact hx.2.1 | exact hx.2.2 | exact hx.2.2.1 | exact hx.2.2.2 | exact hx.2.2.2.1 | exact hx.2.2.2.2 | exact hx.2.2.2.2.1 | exact hx.2.2.2.2.2)
  have z3:¬ (k+1+(Zr x1:Int)+(Zs x2:Int)+(x3.length:Int)+(x4.length:Int)<0):=by omega
  simp [g5,Zhi,tI] at ih'
  simp +decide [g1,g3,w0,w1,w2,w3,m0,z0,m1,z1,m2,z2,m3,z3,ih',Zhi,tI]
theorem Zbp2 (xs:List Zf) (k:Int) (h1:0≤k) (h2:k+(Z4 xs:Int)≤4000000000000000000) (h3:SmL Zf.small xs):C Zx2 [L 8 ((Zds xs k).map Zf.c),I k] []=some (I (k+Z4 xs),[]):=by
 refine run Z8o rfl ?_
 have h4:=fun fr=>Zbp1 fr xs [] k h1 h2 (by have:xs.length≤4294967296:=h3.1;simp;omega) h3.2
 simp at h4
 simp [Zwx,h4]
theorem Zbp3 (k:Int):C Zx2 [.t .nil,I k] []=some (I k,[]):=by
 refine run Z8o rfl ?_
 simp [Zwx,EvL_eq Zn8.eq_1]
noncomputable def Zod (a:Zg) (k:Int):Zg:=⟨k,k+1⟩
def Zku (a:Zg):Nat:=1+1
noncomputable def Zeg (xs:List Zg) (k:Int):List Zg:=mkL Zod Zku xs k
def Zq (xs:List Zg):Nat:=cnL Zku xs
theorem Zbp4 (x:Zg) (xs:List Zg) (k:Int):Zeg (x::xs) k=Zod x k::Zeg xs (k+(Zku x:Int)):=rfl
theorem Zbp5 (e:Nat) (fr:List Fr):∀ (xs d:List Zg) (k:Int),0≤k→k+(Zq xs:Int)≤4000000000000000000→d.length+xs.length≤4294967296→(∀ x∈xs,x.small)→EvL C fr [0,1,5] Zqx ⟨[(0,.own 0),(1,I k),(5,I d.length)],[[(0,.own 0)]],[.xarr e 2 ((d++xs).map Zg.c)]⟩ =
  EvX C fr (.x 0) ⟨[(0,.own 0),(1,I (k+Zq xs)),(5,I (d.length+xs.length)),(9,Bo false)],[[(0,.own 0)]],[.xarr e 2 ((d++Zeg xs k).map Zg.c)]⟩:=by
 intro xs
 induction xs with
 | nil =>
  intro d k h1 h2 h3 h4
  rw [EvL_eq Zqx.eq_1]
  simp [Zeg,Zq,cnL,mkL]
 | cons x xs ih =>
  intro d k h1 h2 h3 h4
  have hx:=h4 x (by simp)
  have e0:Zq (x::xs)=Zku x+Zq xs:=rfl
  rw [e0] at h2
  simp only [List.length_cons] at h3
  rcases x with ⟨x0,x1⟩
  have e1:Zku ⟨x0,x1⟩=1+1:=rfl
  have eK:k+(Zku ⟨x0,x1⟩:Int)=k+1+1:=by omega
  have eL:k+(Zq (⟨x0,x1⟩::xs):Int)=k+1+1+(Zq xs:Int):=by omega
  have ih':=ih (d++[Zod ⟨x0,x1⟩ k]) (k+1+1) (by omega) (by omega) (by simp;omega) (fun y hy=>h4 y (by simp [hy]))
  rw [EvL_eq Zqx.eq_1,eL,Zbp4,eK]
  have g1:IntKind.wrap .i64 ((d.length:Int)+1)=(d.length:Int)+1:=wrap64 (by omega) (by omega)
  have g3:(d.length:Int)<(d.length:Int)+((xs.length:Int)+1):=by omega
  have g5:(d.length:Int)+1+(xs.length:Int)=(d.length:Int)+((xs.length:Int)+1):=by omega
  have w0:IntKind.wrap .i64 (k+1)=k+1:=wrap64 (by omega) (by omega)
  have w1:IntKind.wrap .i64 (k+1+1)=k+1+1:=wrap64 (by omega) (by omega)
  (simp [g5,Zod,tI] at ih';simp [g1,g3,w0,w1,ih',Zod,tI])
theorem Zbp6 (e:Nat) (xs:List Zg) (k:Int) (h1:0≤k) (h2:k+(Zq xs:Int)≤4000000000000000000) (h3:SmA xs):C Zba6 [.own 0,I k] [.xarr e 2 (xs.map Zg.c)]=some (I (k+Zq xs),[.xarr e 2 ((Zeg xs k).map Zg.c)]):=by
 refine runM Zbn9 rfl ?_
 have h4:=fun fr=>Zbp5 e fr xs [] k h1 h2 (by have:xs.length≤4294967296:=h3;simp;omega) (fun _ _=>trivial)
 simp at h4
 simp [Z8x,h4]
theorem Zoe (e0:Nat) (x0:Int) (x1:Int) (x2:Int) (x3:Int) (x4:Int) (x5:List Zg) (k:Int) (h1:0≤k) (h2:k+(Zq x5:Int)≤4000000000000000000) (sx5:SmA x5):C Zbau [.agg [I x0,I x1,I x2,I x3,I x4,.own 0],I k] [.xarr e0 2 (x5.map Zg.c)]=some (I (k+(Zq x5:Int)),[.xarr e0 2 ((Zeg x5 (k)).map Zg.c)]):=by
 refine runM Zbnx rfl ?_
 have m0:=Zbp6 e0 x5 (k) (by omega) (by omega) sx5
 simp [Z8h,m0]
theorem Zbp7 (e0 e1 e2 e3 e4:Nat) (x0:Int) (x1:Int) (x2:Int) (x3:Int) (x4:Int) (x5:List Zg) (x6:Int) (x7:Int) (x8:Int) (x9:Int) (x10:Int) (x11:List Zg) (x12:Int) (x13:Int) (x14:Int) (x15:Int) (x16:Int) (x17:List Zg) (x18:Int) (x19:Int) (x20:Int) (x21:Int) (x22:Int) (x23:List Zg) (x24:Int) (x25:Int) (x26:Int) (x27:Int) (x28:Int) (x29:List Zg) (k:Int) (h1:0≤k) (h2:k+(Zq x5:Int)+(Zq x11:Int)+(Zq x17:Int)+(Zq x23:Int)+(Zq x29:Int)≤4000000000000000000) (sx5:SmA x5) (sx11:SmA x11) (sx17:SmA x17) (sx23:SmA x23) (sx29:SmA x29):C Zbaa [.agg [I x0,I x1,I x2,I x3,I x4,.own 0,I x6,I x7,I x8,I x9,I x10,.own 1,I x12,I x13,I x14,I x15,I x16,.own 2,I x18,I x19,I x20,I x21,I x22,.own 3,I x24,I x25,I x26,I x27,I x28,.own 4],I k] [.xarr e0 2 (x5.map Zg.c),.xarr e1 2 (x11.map Zg.c),.xarr e2 2 (x17.map Zg.c),.xarr e3 2 (x23.map Zg.c),.xarr e4 2 (x29.map Zg.c)]=some (I (k+(Zq x5:Int)+(Zq x11:Int)+(Zq x17:Int)+(Zq x23:Int)+(Zq x29:Int)),[.xarr e0 2 ((Zeg x5 (k)).map Zg.c),.xarr e1 2 ((Zeg x11 (k+(Zq x5:Int))).map Zg.c),.xarr e2 2 ((Zeg x17 (k+(Zq x5:Int)+(Zq x11:Int))).map Zg.c),.xarr e3 2 ((Zeg x23 (k+(Zq x5:Int)+(Zq x11:Int)+(Zq x17:Int))).map Zg.c),.xarr e4 2 ((Zeg x29 (k+(Zq x5:Int)+(Zq x11:Int)+(Zq x17:Int)+(Zq x23:Int))).map Zg.c)]):=by
 refine runM Zbnd rfl ?_
 have m0:=Zoe e0 x0 x1 x2 x3 x4 x5 (k) (by omega) (by omega) sx5
 have m1:=Zoe e1 x6 x7 x8 x9 x10 x11 (k+(Zq x5:Int)) (by omega) (by omega) sx11
 have m2:=Zoe e2 x12 x13 x14 x15 x16 x17 (k+(Zq x5:Int)+(Zq x11:Int)) (by omega) (by omega) sx17
 have m3:=Zoe e3 x18 x19 x20 x21 x22 x23 (k+(Zq x5:Int)+(Zq x11:Int)+(Zq x17:Int)) (by omega) (by omega) sx23
 have m4:=Zoe e4 x24 x25 x26 x27 x28 x29 (k+(Zq x5:Int)+(Zq x11:Int)+(Zq x17:Int)+(Zq x23:Int)) (by omega) (by omega) sx29
 simp [Z7r,m0,m1,m2,m3,m4]
theorem Zbp8 (e0:Nat) (x0:List Zc) (k:Int) (h1:0≤k) (h2:k+(Zs x0:Int)≤4000000000000000000) (sx0:SmA x0):C Zxu [.agg [.own 0],I k] [.xarr e0 3 (x0.map Zc.c)]=some (I (k+(Zs x0:Int)),[.xarr e0 3 ((Zcm x0 (k)).map Zc.c)]):=by
 refine runM Z7t rfl ?_
 have m0:=Z9h e0 x0 (k) (by omega) (by omega) sx0
 simp [Zwn,m0]
theorem Z9k  (k:Int):C Zxu [.agg [.t .nil],I k] []=some (I k,[]):=by
 refine run Z7t rfl ?_
 simp [Zwn,Zbpu]
theorem Zbp9 (x0:List Zc) (k:Int) (h1:0≤k) (h2:k+(Zs x0:Int)≤4000000000000000000) (sx0:SmA x0):C Zxy [.agg [.t (.lst 3 ((Zcm x0 (k)).map Zc.c))],I k] []=some (I (k+(Zs x0:Int)),[]):=by
 refine run Z78 rfl ?_
 have m0:=Z9i x0 (k) (by omega) (by omega) sx0
 have z0:¬ (k+(Zs x0:Int)<0):=by omega
 simp [Zws,tI,m0,z0]
theorem Z9l  (k:Int) (h1:0≤k):C Zxy [.agg [.t .nil],I k] []=some (I k,[]):=by
 refine run Z78 rfl ?_
 have z:¬ (k<0):=by omega
 simp [Zws,z,h1,Zbpx]
theorem Zw3 (e0:Nat) (x0:Int) (x1:List Zf) (k:Int) (h1:0≤k) (h2:k+(Z4 x1:Int)≤4000000000000000000) (sx1:SmL Zf.small x1):C Zxw [.agg [I x0,.own 0],I k] [.xarr e0 8 (x1.map Zf.c)]=some (I (k+(Z4 x1:Int)),[.xarr e0 8 ((Zds x1 (k)).map Zf.c)]):=by
 refine runM Z76 rfl ?_
 have m0:=Zbpz e0 x1 (k) (by omega) (by omega) sx1
 simp [Zwq,m0]
theorem Zbqa (x0:Int) (k:Int):C Zxw [.agg [I x0,.t .nil],I k] []=some (I k,[]):=by
 refine run Z76 rfl ?_
 simp [Zwq,Zbp0]
theorem Z9m (x0:Int) (x1:List Zf) (k:Int) (h1:0≤k) (h2:k+(Z4 x1:Int)≤4000000000000000000) (sx1:SmL Zf.small x1):C Zxx [.agg [I x0,.t (.lst 8 ((Zds x1 (k)).map Zf.c))],I k] []=some (I (k+(Z4 x1:Int)),[]):=by
 refine run Z77 rfl ?_
 have m0:=Zbp2 x1 (k) (by omega) (by omega) sx1
 have z0:¬ (k+(Z4 x1:Int)<0):=by omega
 simp [Zwr,tI,m0,z0]
theorem Zbqb (x0:Int) (k:Int) (h1:0≤k):C Zxx [.agg [I x0,.t .nil],I k] []=some (I k,[]):=by
 refine run Z77 rfl ?_
 have z:¬ (k<0):=by omega
 simp [Zwr,z,h1,Zbp3]
theorem Zbqc (e0:Nat) (x0:Int) (x1:List Atom) (k:Int) (h1:0≤k) (h2:k+(Zr x1:Int)≤4000000000000000000) (sx1:SmL Atom.small x1):C Zbab [.agg [I x0,.own 0],I k] [.xarr e0 2 (x1.map Atom.c)]=some (I (k+(Zr x1:Int)),[.xarr e0 2 ((Zcw x1 (k)).map Atom.c)]):=by
 refine runM Zbne rfl ?_
 have m0:=Z9f e0 x1 (k) (by omega) (by omega) sx1
 simp [Z7s,m0]
theorem Zjh {n:Nat} {left:Int} (hn:n≤maxLen) (h0:0≤left) (h1:left≤1048576) (h:0≤sz1 n left):sz1 n left≤left∧(n:Int)≤left - sz1 n left:=by
 unfold maxLen at hn
 have hw:IntKind.wrap .i64 (left - n)=left - n:=wrap64 (by omega) (by omega)
 unfold sz1 at h ⊢
 rw [hw] at h ⊢
 split at h
 ·omega
 ·rename_i hx;rw [if_neg hx];omega
theorem Z9n {α:Type} {f:α→Int→Int} {n:α→Nat} {M:Int}:∀ (xs:List α) (left:Int),(∀ x∈xs,∀ l,0≤l→l≤M→0≤f x l→f x l≤l∧(n x:Int)≤16+16*(l - f x l))→0≤left→left≤M→0≤szFold f xs left→szFold f xs left≤left∧(cnL n xs:Int)≤16*(xs.length:Int)+16*(left - szFold f xs left)
 | [],left,_,_,_,h=>by simp [szFold,cnL]
 | x::xs,left,hf,h0,h1,h=>by
  unfold szFold at h ⊢
  split at h
  ·omega
  ·rename_i hx
   rw [if_neg hx]
   obtain ⟨h2,h3⟩:=hf x (by simp) left h0 h1 (by omega)
   obtain ⟨h4,h5⟩:=Z9n xs (f x left) (fun y hy=>hf y (by simp [hy])) (by omega) (by omega) h
   have e:cnL n (x::xs)=n x+cnL n xs:=rfl
   rw [e,List.length_cons]
   omega
theorem szL_ct {α:Type} {f:α→Int→Int} {n:α→Nat} {xs:List α} {left:Int} (hn:xs.length≤maxLen) (hf:∀ x∈xs,∀ l,0≤l→l≤1048576→0≤f x l→f x l≤l∧(n x:Int)≤16+16*(l - f x l)) (h0:0≤left) (h1:left≤1048576) (h:0≤szL f xs left) :
  szL f xs left≤left∧(cnL n xs:Int)≤16*(left - szL f xs left):=by
 unfold szL andSz at h ⊢
 split at h
 ·omega
 ·rename_i hx
  rw [if_neg hx]
  have a:=Zjh hn h0 h1 (by omega)
  have b:=Z9n xs _ hf (by omega) (by omega) h
  omega
theorem Zw4 {α:Type} {n:α→Nat} {c:Nat} (h:∀ x,n x=c):∀ xs:List α,cnL n xs=c*xs.length
 | []=>rfl
 | x::xs=>by
  have e:cnL n (x::xs)=n x+cnL n xs:=rfl
  rw [e,h,Zw4 h xs,List.length_cons,Nat.mul_succ,Nat.add_comm]
def Zw5 (x:Atom):Nat:=x.Vars.length
theorem Atom.ct (x:Atom) (l:Int) (hx:x.okay) (h0:0≤l) (h1:l≤1048576) (h:0≤x.sz l):x.sz l≤l∧(Zw5 x:Int)≤16*(l - x.sz l):=by
 unfold Atom.sz at h ⊢
 simp only [andSz] at h ⊢
 split at h
 ·omega
 rename_i q0
 rw [if_neg q0]
 have s0:=Zjh hx.1 h0 h1 (Int.not_lt.1 q0)
 split at h
 ·omega
 rename_i q1
 rw [if_neg q1]
 have s1:=Zjh hx.2.1 (by omega) (by omega) (Int.not_lt.1 q1)
 refine ⟨by omega,?_⟩
 unfold Zw5
 omega
theorem Zbqd (x:Atom) (l:Int) (hx:x.okay) (h0:0≤l) (h1:l≤1048576) (h:0≤x.sz l):x.sz l≤l∧(Zc4 x:Int)≤16+16*(l - x.sz l):=by
 have a:=Atom.ct x l hx h0 h1 h
 unfold Zw5 at a
 unfold Zc4
 omega
def Zq1 (x:Zb):Nat:=Zr x.Atoms
theorem Zb.ct (x:Zb) (l:Int) (hx:x.okay) (h0:0≤l) (h1:l≤1048576) (h:0≤x.sz l):x.sz l≤l∧(Zq1 x:Int)≤16*(l - x.sz l):=by
 unfold Zb.sz at h ⊢
 simp only [andSz] at h ⊢
 split at h
 ·omega
 rename_i q0
 rw [if_neg q0]
 have s0:=szL_ct (n:=Zc4) hx.2.1 (fun y hy l a b c=>Zbqd y l (hx.2.2 y hy) a b c) h0 h1 (Int.not_lt.1 q0)
 refine ⟨by omega,?_⟩
 unfold Zq1
 have v0:Zr x.Atoms=cnL Zc4 x.Atoms:=rfl
 omega
def nt_Box (x:Box):Nat:=x.Low.length+x.High.length
theorem Box.ct (x:Box) (l:Int) (hx:x.okay) (h0:0≤l) (h1:l≤1048576) (h:0≤x.sz l):x.sz l≤l∧(nt_Box x:Int)≤16*(l - x.sz l):=by
 unfold Box.sz at h ⊢
 simp only [andSz] at h ⊢
 split at h
 ·omega
 rename_i q0
 rw [if_neg q0]
 have s0:=Zjh hx.1.1 h0 h1 (Int.not_lt.1 q0)
 split at h
 ·omega
 rename_i q1
 rw [if_neg q1]
 have s1:=Zjh hx.2.1 (by omega) (by omega) (Int.not_lt.1 q1)
 refine ⟨by omega,?_⟩
 unfold nt_Box
 omega
theorem Zkv (xs:List Zg):Zq xs=2*xs.length:=Zw4 (fun _=>rfl) xs
def Zji (x:Zi):Nat:=Zq x.Steps
theorem Zi.ct (x:Zi) (l:Int) (hx:x.okay) (h0:0≤l) (h1:l≤1048576) (h:0≤x.sz l):x.sz l≤l∧(Zji x:Int)≤16*(l - x.sz l):=by
 unfold Zi.sz at h ⊢
 simp only [andSz] at h ⊢
 split at h
 ·omega
 rename_i q0
 rw [if_neg q0]
 have s0:=Zjh hx.2.2.2.2.2.1 h0 h1 (Int.not_lt.1 q0)
 refine ⟨by omega,?_⟩
 unfold Zji
 have v0:=Zkv x.Steps
 omega
def Zw6 (x:Zd):Nat:=Zq x.Scan.Steps+Zq x.Sort_.Steps+Zq x.Hash.Steps+Zq x.Merge.Steps+Zq x.Nested.Steps
theorem Zd.ct (x:Zd) (l:Int) (hx:x.okay) (h0:0≤l) (h1:l≤1048576) (h:0≤x.sz l):x.sz l≤l∧(Zw6 x:Int)≤16*(l - x.sz l):=by
 unfold Zd.sz at h ⊢
 simp only [andSz] at h ⊢
 split at h
 ·omega
 rename_i q0
 rw [if_neg q0]
 have s0:=Zi.ct x.Scan _ ⟨hx.1,hx.2.1,hx.2.2.1,hx.2.2.2.1,hx.2.2.2.2.1,hx.2.2.2.2.2.1⟩ h0 h1 (Int.not_lt.1 q0)
 split at h
 ·omega
 rename_i q1
 rw [if_neg q1]
 have s1:=Zi.ct x.Sort_ _ ⟨hx.2.2.2.2.2.2.1,hx.2.2.2.2.2.2.2.1,hx.2.2.2.2.2.2.2.2.1,hx.2.2.2.2.2.2.2.2.2.1,hx.2.2.2.2.2.2.2.2.2.2.1,hx.2.2.2.2.2.2.2.2.2.2.2.1⟩ (by omega) (by omega) (Int.not_lt.1 q1)
 split at h
 ·omega
 rename_i q2
 rw [if_neg q2]
 have s2:=Zi.ct x.Hash _ ⟨hx.2.2.2.2.2.2.2.2.2.2.2.2.1,hx.2.2.2.2.2.2.2.2.2.2.2.2.2.1,hx.2.2.2.2.2.2.2.2.2.2.2.2.2.2.1,hx.2.2.2.2.2.2.2.2.2.2.2.2.2.2.2.1,hx.2.2.2.2.2.2.2.2.2.2.2.2.2.2.2.2.1,hx.2.2.2.2.2.2.2.2.2.2.2.2.2.2.2.2.2.1⟩ (by omega) (by omega) (Int.not_lt.1 q2)
 split at h
 ·omega
 rename_i q3
 rw [if_neg q3]
 have s3:=Zi.ct x.Merge _ ⟨hx.2.2.2.2.2.2.2.2.2.2.2.2.2.2.2.2.2.2.1,hx.2.2.2.2.2.2.2.2.2.2.2.2.2.2.2.2.2.2.2.1,hx.2.2.2.2.2.2.2.2.2.2.2.2.2.2.2.2.2.2.2.2.1,hx.2.2.2.2.2.2.2.2.2.2.2.2.2.2.2.2.2.2.2.2.2.1,hx.2.2.2.2.2.2.2.2.2.2.2.2.2.2.2.2.2.2.2.2.2.2.1,hx.2.2.2.2.2.2.2.2.2.2.2.2.2.2.2.2.2.2.2.2.2.2.2.1⟩ (by omega) (by omega) (Int.not_lt.1 q3)
 split at h
 ·omega
 rename_i q4
 rw [if_neg q4]
 have s4:=Zi.ct x.Nested _ ⟨hx.2.2.2.2.2.2.2.2.2.2.2.2.2.2.2.2.2.2.2.2.2.2.2.2.1,hx.2.2.2.2.2.2.2.2.2.2.2.2.2.2.2.2.2.2.2.2.2.2.2.2.2.1,hx.2.2.2.2.2.2.2.2.2.2.2.2.2.2.2.2.2.2.2.2.2.2.2.2.2.2.1,hx.2.2.2.2.2.2.2.2.2.2.2.2.2.2.2.2.2.2.2.2.2.2.2.2.2.2.2.1,hx.2.2.2.2.2.2.2.2.2.2.2.2.2.2.2.2.2.2.2.2.2.2.2.2.2.2.2.2.1,hx.2.2.2.2.2.2.2.2.2.2.2.2.2.2.2.2.2.2.2.2.2.2.2.2.2.2.2.2.2⟩ (by omega) (by omega) (Int.not_lt.1 q4)
 refine ⟨by omega,?_⟩
 unfold Zw6
 have v0:Zji x.Scan=Zq x.Scan.Steps:=rfl
 have v1:Zji x.Sort_=Zq x.Sort_.Steps:=rfl
 have v2:Zji x.Hash=Zq x.Hash.Steps:=rfl
 have v3:Zji x.Merge=Zq x.Merge.Steps:=rfl
 have v4:Zji x.Nested=Zq x.Nested.Steps:=rfl
 have v5:=Zkv x.Scan.Steps
 have v6:=Zkv x.Sort_.Steps
 have v7:=Zkv x.Hash.Steps
 have v8:=Zkv x.Merge.Steps
 have v9:=Zkv x.Nested.Steps
 omega
theorem Zq2 (xs:List Zc):Zs xs=3*xs.length:=Zw4 (fun _=>rfl) xs
def Zw7 (x:Plan):Nat:=Zs x.Steps
theorem Plan.ct (x:Plan) (l:Int) (hx:x.okay) (h0:0≤l) (h1:l≤1048576) (h:0≤x.sz l):x.sz l≤l∧(Zw7 x:Int)≤16*(l - x.sz l):=by
 unfold Plan.sz at h ⊢
 simp only [andSz] at h ⊢
 split at h
 ·omega
 rename_i q0
 rw [if_neg q0]
 have s0:=Zjh hx.1 h0 h1 (Int.not_lt.1 q0)
 refine ⟨by omega,?_⟩
 unfold Zw7
 have v0:=Zq2 x.Steps
 omega
def Zw8 (x:Region):Nat:=Zs x.Plan.Steps+x.Box.Low.length+x.Box.High.length
theorem Region.ct (x:Region) (l:Int) (hx:x.okay) (h0:0≤l) (h1:l≤1048576) (h:0≤x.sz l):x.sz l≤l∧(Zw8 x:Int)≤16*(l - x.sz l):=by
 unfold Region.sz at h ⊢
 simp only [andSz] at h ⊢
 split at h
 ·omega
 rename_i q0
 rw [if_neg q0]
 have s0:=Plan.ct x.Plan _ hx.1 h0 h1 (Int.not_lt.1 q0)
 split at h
 ·omega
 rename_i q1
 rw [if_neg q1]
 have s1:=Box.ct x.Box _ ⟨hx.2.1,hx.2.2.1⟩ (by omega) (by omega) (Int.not_lt.1 q1)
 refine ⟨by omega,?_⟩
 unfold Zw8
 have v0:Zw7 x.Plan=Zs x.Plan.Steps:=rfl
 have v1:nt_Box x.Box=x.Box.Low.length+x.Box.High.length:=rfl
 have v2:=Zq2 x.Plan.Steps
 omega
def Zw9 (x:Zf):Nat:=Zr x.Zb.Atoms+Zs x.Region.Plan.Steps+x.Region.Box.Low.length+x.Region.Box.High.length
theorem Zf.ct (x:Zf) (l:Int) (hx:x.okay) (h0:0≤l) (h1:l≤1048576) (h:0≤x.sz l):x.sz l≤l∧(Zw9 x:Int)≤16*(l - x.sz l):=by
 unfold Zf.sz at h ⊢
 simp only [andSz] at h ⊢
 split at h
 ·omega
 rename_i q0
 rw [if_neg q0]
 have s0:=Zb.ct x.Zb _ ⟨hx.1,hx.2.1⟩ h0 h1 (Int.not_lt.1 q0)
 split at h
 ·omega
 rename_i q1
 rw [if_neg q1]
 have s1:=Region.ct x.Region _ ⟨hx.2.2.1,hx.2.2.2.1,hx.2.2.2.2.1,hx.2.2.2.2.2.1⟩ (by omega) (by omega) (Int.not_lt.1 q1)
 refine ⟨by omega,?_⟩
 unfold Zw9
 have v0:Zq1 x.Zb=Zr x.Zb.Atoms:=rfl
 have v1:Zw8 x.Region=Zs x.Region.Plan.Steps+x.Region.Box.Low.length+x.Region.Box.High.length:=rfl
 have v2:Zr x.Zb.Atoms=cnL Zc4 x.Zb.Atoms:=rfl
 have v3:=Zq2 x.Region.Plan.Steps
 omega
theorem Zbqe (x:Zf) (l:Int) (hx:x.okay) (h0:0≤l) (h1:l≤1048576) (h:0≤x.sz l):x.sz l≤l∧(Zdc x:Int)≤16+16*(l - x.sz l):=by
 have a:=Zf.ct x l hx h0 h1 h
 unfold Zw9 at a
 unfold Zdc
 omega
def Zxa (x:Zp):Nat:=Z4 x.Entries
theorem Zp.ct (x:Zp) (l:Int) (hx:x.okay) (h0:0≤l) (h1:l≤1048576) (h:0≤x.sz l):x.sz l≤l∧(Zxa x:Int)≤16*(l - x.sz l):=by
 unfold Zp.sz at h ⊢
 simp only [andSz] at h ⊢
 split at h
 ·omega
 rename_i q0
 rw [if_neg q0]
 have s0:=szL_ct (n:=Zdc) hx.2.1 (fun y hy l a b c=>Zbqe y l (hx.2.2 y hy) a b c) h0 h1 (Int.not_lt.1 q0)
 refine ⟨by omega,?_⟩
 unfold Zxa
 have v0:Z4 x.Entries=cnL Zdc x.Entries:=rfl
 omega
end Go.Proofs.YtbapkgocloaaeaaGreat
/- part: L28 -/
namespace Go.Proofs.YtbapkgocloaaeaaGreat
open Go.AM
theorem Zbqf:C Zxz [.t .nil,.t .nil] []=some (Bo true,[]):=by
 refine run Z8g rfl ?_
 simp [Zqr,EvL_eq Zn4.eq_1]
theorem Z9o:C Zxt [.agg [.t .nil],.agg [.t .nil]] []=some (Bo true,[]):=by
 refine run Z7q rfl ?_
 simp [Zwm,Zbqf]
theorem Zbqg:C Zx0 [.t .nil,.t .nil] []=some (Bo true,[]):=by
 refine run Z8l rfl ?_
 simp [Zqu,EvL_eq Zn6.eq_1]
theorem Zbqh (x:Int):C Zxv [.agg [I x,.t .nil],.agg [I x,.t .nil]] []=some (Bo true,[]):=by
 refine run Z71 rfl ?_
 simp [Zwp,Zbqg]
theorem Z9p {α:Type} (f:α→Nat):∀ (xs:List α) (i:Nat) (e y:α),xs[i]?=some e→f y=f e→cnL f (xs.set i y)=cnL f xs
 | [],_,_,_,h,_=>by simp at h
 | x::xs,0,e,y,h,hf=>by simp at h;subst h;simp [cnL,hf]
 | x::xs,i+1,e,y,h,hf=>by
  have:=Z9p f xs i e y (by simpa using h) hf
  simp [cnL,this]
theorem Z9q (m:Zd) (c:Zp) (q:Zb) (v:Int) (l:List Int) (hm:m.okay) (hc:c.okay) (hq:q.okay) (hv:OkI v) (hl:OkL OkI l):C Z9z [.agg (m.c.map .t),.agg (c.c.map .t),.agg (q.c.map .t),I v,L 1 (l.map ic)] []=some (Bo true,[]):=by
 refine run Zbm2 rfl ?_
 by_cases hll:(1048576:Int)<(l.length:Int)
 ·simp [Zhf,hll]
 have hnl:l.length≤4294967296:=by omega
 have e1:=fun l=>Zbow m.Scan.Fixed m.Scan.Zj m.Scan.Zk m.Scan.Zm m.Scan.Zl m.Scan.Steps m.Sort_.Fixed m.Sort_.Zj m.Sort_.Zk m.Sort_.Zm m.Sort_.Zl m.Sort_.Steps m.Hash.Fixed m.Hash.Zj m.Hash.Zk m.Hash.Zm m.Hash.Zl m.Hash.Steps m.Merge.Fixed m.Merge.Zj m.Merge.Zk m.Merge.Zm m.Merge.Zl m.Merge.Steps m.Nested.Fixed m.Nested.Zj m.Nested.Zk m.Nested.Zm m.Nested.Zl m.Nested.Steps l
 by_cases h1:Zd.sz m (1048576)<0
 ·simp [Zhf,hll,e1,h1]
 obtain ⟨b1,g1⟩:=Zd.Zbf m _ hm (by omega) (by omega) (by omega:0≤Zd.sz m (1048576))
 have u1:=(Zd.ct m _ hm (by omega) (by omega) (by omega:0≤Zd.sz m (1048576))).2
 unfold Zw6 at u1
 have e2:=fun l=>Zbph c.Clock c.Entries l (hc.2)
 by_cases h2:Zp.sz c (Zd.sz m (1048576))<0
 ·simp [Zhf,hll,e1,h1,e2,h2]
 obtain ⟨b2,g2⟩:=Zp.Zbf c _ hc (by omega) (by omega) (by omega:0≤Zp.sz c (Zd.sz m (1048576)))
 have u2:=(Zp.ct c _ hc (by omega) (by omega) (by omega:0≤Zp.sz c (Zd.sz m (1048576)))).2
 unfold Zxa at u2
 have e3:=fun l=>Z88 q.Ze q.Atoms l (hq.2)
 by_cases h3:Zb.sz q (Zp.sz c (Zd.sz m (1048576)))<0
 ·simp [Zhf,hll,e1,h1,e2,h2,e3,h3]
 obtain ⟨b3,g3⟩:=Zb.Zbf q _ hq (by omega) (by omega) (by omega:0≤Zb.sz q (Zp.sz c (Zd.sz m (1048576))))
 have u3:=(Zb.ct q _ hq (by omega) (by omega) (by omega:0≤Zb.sz q (Zp.sz c (Zd.sz m (1048576))))).2
 unfold Zq1 at u3
 have t1:=Zbou m.Scan.Fixed m.Scan.Zj m.Scan.Zk m.Scan.Zm m.Scan.Zl m.Scan.Steps m.Sort_.Fixed m.Sort_.Zj m.Sort_.Zk m.Sort_.Zm m.Sort_.Zl m.Sort_.Steps m.Hash.Fixed m.Hash.Zj m.Hash.Zk m.Hash.Zm m.Hash.Zl m.Hash.Steps m.Merge.Fixed m.Merge.Zj m.Merge.Zk m.Merge.Zm m.Merge.Zl m.Merge.Steps m.Nested.Fixed m.Nested.Zj m.Nested.Zk m.Nested.Zm m.Nested.Zl m.Nested.Steps (g1.1) (g1.2.1) (g1.2.2.1) (g1.2.2.2.1) (g1.2.2.2.2)
 have q1:=fun y0 y1 y2 y3 y4 y5 y6 y7 y8 y9 y10 y11 y12 y13 y14 y15 y16 y17 y18 y19 y20 y21 y22 y23 y24 y25 y26 y27 y28 y29=>Zbov m.Scan.Fixed m.Scan.Zj m.Scan.Zk m.Scan.Zm m.Scan.Zl m.Scan.Steps m.Sort_.Fixed m.Sort_.Zj m.Sort_.Zk m.Sort_.Zm m.Sort_.Zl m.Sort_.Steps m.Hash.Fixed m.Hash.Zj m.Hash.Zk m.Hash.Zm m.Hash.Zl m.Hash.Steps m.Merge.Fixed m.Merge.Zj m.Merge.Zk m.Merge.Zm m.Merge.Zl m.Merge.Steps m.Nested.Fixed m.Nested.Zj m.Nested.Zk m.Nested.Zm m.Nested.Zl m.Nested.Steps y0 y1 y2 y3 y4 y5 y6 y7 y8 y9 y10 y11 y12 y13 y14 y15 y16 y17 y18 y19 y20 y21 y22 y23 y24 y25 y26 y27 y28 y29 (g1.1) (g1.2.1) (g1.2.2.1) (g1.2.2.2.1) (g1.2.2.2.2)
 have t2:=Zbpg c.Clock c.Entries (g2)
 have q2:=fun y0 y1=>Z9a c.Clock c.Entries y0 y1 (g2)
 have t3:=Z86 q.Ze q.Atoms (g3)
 have q3:=fun y0 y1=>Z87 q.Ze q.Atoms y0 y1 (g3)
 have tl:=Zqz l hnl
 have ql:=fun y=>Zq0 l y hnl
 have m1:=fun a0 a1 a2 a3 a4=>Zbp7 a0 a1 a2 a3 a4 m.Scan.Fixed m.Scan.Zj m.Scan.Zk m.Scan.Zm m.Scan.Zl m.Scan.Steps m.Sort_.Fixed m.Sort_.Zj m.Sort_.Zk m.Sort_.Zm m.Sort_.Zl m.Sort_.Steps m.Hash.Fixed m.Hash.Zj m.Hash.Zk m.Hash.Zm m.Hash.Zl m.Hash.Steps m.Merge.Fixed m.Merge.Zj m.Merge.Zk m.Merge.Zm m.Merge.Zl m.Merge.Steps m.Nested.Fixed m.Nested.Zj m.Nested.Zk m.Nested.Zm m.Nested.Zl m.Nested.Steps (1) (by omega) (by omega) (g1.1) (g1.2.1) (g1.2.2.1) (g1.2.2.2.1) (g1.2.2.2.2)
 have m2:=fun a0=>Zw3 a0 c.Clock c.Entries (1+(Zq m.Scan.Steps:Int)+(Zq m.Sort_.Steps:Int)+(Zq m.Hash.Steps:Int)+(Zq m.Merge.Steps:Int)+(Zq m.Nested.Steps:Int)) (by omega) (by omega) (g2)
 have m3:=fun a0=>Zbqc a0 q.Ze q.Atoms (1+(Zq m.Scan.Steps:Int)+(Zq m.Sort_.Steps:Int)+(Zq m.Hash.Steps:Int)+(Zq m.Merge.Steps:Int)+(Zq m.Nested.Steps:Int)+(Z4 c.Entries:Int)) (by omega) (by omega) (g3)
 have ml:=fun a0=>Z9c a0 l (1+(Zq m.Scan.Steps:Int)+(Zq m.Sort_.Steps:Int)+(Zq m.Hash.Steps:Int)+(Zq m.Merge.Steps:Int)+(Zq m.Nested.Steps:Int)+(Z4 c.Entries:Int)+(Zr q.Atoms:Int)) (by omega) (by omega) hnl
 have zk:¬ (1+(Zq m.Scan.Steps:Int)+(Zq m.Sort_.Steps:Int)+(Zq m.Hash.Steps:Int)+(Zq m.Merge.Steps:Int)+(Zq m.Nested.Steps:Int)+(Z4 c.Entries:Int)+(Zr q.Atoms:Int)+(l.length:Int)<0):=by omega
 have nm:LeM m:=⟨by have:=g1.1;omega,by have:=g1.2.1;omega,by have:=g1.2.2.1;omega,by have:=g1.2.2.2.1;omega,by have:=g1.2.2.2.2;omega⟩
 have nq:LeQ q:=⟨by have:=g3.1;omega,fun x hx=>by have:=(g3.2 x hx).2;omega⟩
 have nc:Lc c.Entries:=⟨g2.1,fun e he=>⟨⟨(g2.2 e he).1.1,fun x hx=>((g2.2 e he).1.2 x hx).2⟩,(g2.2 e he).2.1,(g2.2 e he).2.2.1,(g2.2 e he).2.2.2⟩⟩
 rcases Zbm1 m nm c nc q v l (by omega) with ⟨s1,s0⟩ | ⟨i,e,⟨f1,f2,f3,f4⟩,s1,s0⟩
 ·unfold Zi8 lkNo at s0
  unfold Zi4 lkNo at s1
  simp only [Zd.c_def,Zp.c_def,Zb.c_def,List.map_cons,List.map_nil] at s0 s1
  by_cases he:c.Entries=[]
  ·rw [if_pos he] at s0 s1
   clear he
   simp +decide [Zhf,hll,e1,h1,e2,h2,e3,h3,t1,q1,t2,q2,t3,q3,tl,ql,m1,m2,m3,ml,zk,s0,s1,Zbqh,Z9o,Zbqa,Z9k,Zbqb,Z9l]
  ·rw [if_neg he] at s0 s1
   clear he
   have m6:=fun a0=>Zw3 a0 c.Clock c.Entries 1 (by omega) (by omega) g2
   have m7:=Z9m c.Clock c.Entries 1 (by omega) (by omega) g2
   have z2:¬ (1+(Z4 c.Entries:Int)<0):=by omega
   have p1:=Z9l (1+(Z4 c.Entries:Int)) (by omega)
   simp +decide [Zhf,hll,e1,h1,e2,h2,e3,h3,t1,q1,t2,q2,t3,q3,tl,ql,m1,m2,m3,ml,zk,s0,s1,m6,m7,z2,Z9o,Z9k,p1]
 ·unfold Zi8 lkYes at s0
  unfold Zi4 lkYes at s1
  simp only [Zd.c_def,Zp.c_def,Zb.c_def,List.map_cons,List.map_nil] at s0 s1
  have ge:=g2.2 e (List.mem_of_getElem? f2)
  have v1:Z4 (touched c.Entries i e (c.Clock+1))=Z4 c.Entries:=Z9p _ _ _ _ _ f2 rfl
  have g9:SmL Zf.small (touched c.Entries i e (c.Clock+1)):=by
   refine ⟨by unfold touched;rw [List.length_set];exact g2.1,fun x hx=>?_⟩
   rcases List.mem_or_eq_of_mem_set hx with hx | hx
   ·exact g2.2 x hx
   ·subst hx;exact ge
  generalize touched c.Entries i e (c.Clock+1)=es at s0 s1 v1 g9
  have v2:=Zq2 e.Region.Plan.Steps
  have v3:=ge.2.1
  have q6:=Z9a (c.Clock+1) es (c.Clock+1) es g9
  have q7:=Z89 e.Region.Plan.Steps e.Region.Plan.Steps v3
  have m6:=fun a0=>Zw3 a0 (c.Clock+1) es 1 (by omega) (by omega) g9
  have m7:=fun a0=>Zbp8 a0 e.Region.Plan.Steps (1+(Z4 es:Int)) (by omega) (by omega) v3
  have m8:=Z9m (c.Clock+1) es 1 (by omega) (by omega) g9
  have m9:=Zbp9 e.Region.Plan.Steps (1+(Z4 es:Int)) (by omega) (by omega) v3
  have z2:¬ (1+(Z4 es:Int)<0):=by omega
  have z3:¬ (1+(Z4 es:Int)+(Zs e.Region.Plan.Steps:Int)<0):=by omega
  simp +decide [Zhf,hll,e1,h1,e2,h2,e3,h3,t1,q1,t2,q2,t3,q3,tl,ql,m1,m2,m3,ml,zk,s0,s1,q6,q7,m6,m7,m8,m9,z2,z3]
end Go.Proofs.YtbapkgocloaaeaaGreat
