/-
  Parts of the proofs for this seat: MR.
-/
import Derived.Test.YtbapkgocloaaeaaGreatP16
set_option linter.unusedSimpArgs false
set_option linter.unusedVariables false
set_option maxRecDepth 100000
set_option maxHeartbeats 4000000
namespace Go.Proofs.YtbapkgocloaaeaaGreat
open Go.AM
theorem Zwv (xs:List Int) (k:Int) (h1:0≤k) (h2:k+(xs.length:Int)≤4000000000000000000) (h3:SmA xs):C Z9q [L 1 ((mkI xs k).map ic),I k] []=some (I (k+xs.length),[]):=by
 refine run Zbmj rfl ?_
 have h4:=fun fr=>Zbop fr xs [] k h1 (by omega) (by have:xs.length≤4294967296:=h3;simp;omega)
 simp at h4
 simp [Z7c,h4]
theorem Zww (xs:List Int) (k:Int) (h1:0≤k) (h2:k+(xs.length:Int)≤4000000000000000000) (h3:SmA xs):(xs.map ic=[]∧(mkI xs (k)).map ic=[]∧C Zn6 [.t (.lst 1 []),I k] []=some (I (k+(xs.length:Int)),[]))∨∃ y ys,xs.map ic=y::ys∧True∧C Zn6 [.own 0,I k] [.xarr unk 1 (y::ys)]=some (I (k+(xs.length:Int)),[.xarr unk 1 ((mkI xs (k)).map ic)]):=by
 have c:=Zwu unk xs k h1 (by omega) h3
 cases xs with
 | nil=>exact .inl ⟨rfl,rfl,by have:=Zboo 1 k;simpa [mkI,mkL] using this⟩
 | cons y ys=>exact .inr ⟨_,_,rfl,trivial,c⟩
noncomputable def Zhq (a:Atom) (k:Int):Atom:=⟨mtext (k),mkI a.Vars (k+1)⟩
def Zdb (a:Atom):Nat:=1+a.Vars.length
noncomputable def Zc0 (xs:List Atom) (k:Int):List Atom:=mkL Zhq Zdb xs k
def Zs (xs:List Atom):Nat:=cnL Zdb xs
theorem Z8x (x:Atom) (xs:List Atom) (k:Int):Zc0 (x::xs) k=Zhq x k::Zc0 xs (k+(Zdb x:Int)):=rfl
theorem Zbos (e:Nat) (fr:List Fr):∀ (xs d:List Atom) (k:Int),0≤k→k+(Zs xs:Int)≤4000000000000000000→d.length+xs.length≤4294967296→(∀ x∈xs,x.small)→EvL C fr [0,1,5] Zns ⟨[(0,.own 0),(1,I k),(5,I d.length)],[[(0,.own 0)]],[.xarr e 2 ((d++xs).map Atom.c)]⟩ =
  EvX C fr (.x 0) ⟨[(0,.own 0),(1,I (k+Zs xs)),(5,I (d.length+xs.length)),(9,Bo false)],[[(0,.own 0)]],[.xarr e 2 ((d++Zc0 xs k).map Atom.c)]⟩:=by
 intro xs
 induction xs with
 | nil =>
  intro d k h1 h2 h3 h4
  rw [EvL_eq Zns.eq_1]
  simp [Zc0,Zs,cnL,mkL]
 | cons x xs ih =>
  intro d k h1 h2 h3 h4
  have hx:=h4 x (by simp)
  have e0:Zs (x::xs)=Zdb x+Zs xs:=rfl
  rw [e0] at h2
  simp only [List.length_cons] at h3
  rcases x with ⟨x0,x1⟩
  have e1:Zdb ⟨x0,x1⟩=1+x1.length:=rfl
  have eK:k+(Zdb ⟨x0,x1⟩:Int)=k+1+(x1.length:Int):=by omega
  have eL:k+(Zs (⟨x0,x1⟩::xs):Int)=k+1+(x1.length:Int)+(Zs xs:Int):=by omega
  have ih':=ih (d++[Zhq ⟨x0,x1⟩ k]) (k+1+(x1.length:Int)) (by omega) (by omega) (by simp;omega) (fun y hy=>h4 y (by simp [hy]))
  rw [EvL_eq Zns.eq_1,eL,Z8x,eK]
  have g1:IntKind.wrap .i64 ((d.length:Int)+1)=(d.length:Int)+1:=wrap64 (by omega) (by omega)
  have g3:(d.length:Int)<(d.length:Int)+((xs.length:Int)+1):=by omega
  have g5:(d.length:Int)+1+(xs.length:Int)=(d.length:Int)+((xs.length:Int)+1):=by omega
  have w0:IntKind.wrap .i64 (k+1)=k+1:=wrap64 (by omega) (by omega)
  have t0:=Z8w (k) (by omega) (by omega)
  have m0:=Zww x1 (k+1) (by omega) (by omega) (by first | exact hx | exact hx.1 | exact hx.2 | exact hx.2.1 | exact hx.2.2 | exact hx.2.2.1 | exact hx.2.2.2 | exact hx.2.2.2.1 | exact hx.2.2.2.2 | exact hx.2.2.2.2.1 | exact hx.2.2.2.2.2)
  rcases m0 with ⟨r0,s0,m0⟩ | ⟨y0,ys0,r0,s0,m0⟩
  all_goals (simp [g5,Zhq,tI,r0,s0] at ih';simp [g1,g3,w0,t0,m0,r0,s0,ih',Zhq,tI])
theorem Z8y (e:Nat) (xs:List Atom) (k:Int) (h1:0≤k) (h2:k+(Zs xs:Int)≤4000000000000000000) (h3:SmL Atom.small xs):C Zn7 [.own 0,I k] [.xarr e 2 (xs.map Atom.c)]=some (I (k+Zs xs),[.xarr e 2 ((Zc0 xs k).map Atom.c)]):=by
 refine runM Z7z rfl ?_
 have h4:=fun fr=>Zbos e fr xs [] k h1 h2 (by have:xs.length≤4294967296:=h3.1;simp;omega) h3.2
 simp at h4
 simp [Zwm,h4]
theorem Zbot (n:Nat) (k:Int):C Zn7 [.t (.lst n []),I k] []=some (I k,[]):=by
 refine run Z7z rfl ?_
 simp [Zwm,EvL_eq Zns.eq_1]
theorem Zbou (xs:List Atom) (k:Int) (h1:0≤k) (h2:k+(Zs xs:Int)≤4000000000000000000) (h3:SmL Atom.small xs):(xs.map Atom.c=[]∧(Zc0 xs (k)).map Atom.c=[]∧C Zn7 [.t (.lst 2 []),I k] []=some (I (k+(Zs xs:Int)),[]))∨∃ y ys,xs.map Atom.c=y::ys∧True∧C Zn7 [.own 0,I k] [.xarr unk 2 (y::ys)]=some (I (k+(Zs xs:Int)),[.xarr unk 2 ((Zc0 xs (k)).map Atom.c)]):=by
 have c:=Z8y unk xs k h1 h2 h3
 cases xs with
 | nil=>exact .inl ⟨rfl,rfl,by have:=Zbot 2 k;simpa [Zc0,Zs,cnL,mkL] using this⟩
 | cons y ys=>exact .inr ⟨_,_,rfl,trivial,c⟩
theorem Zbov (fr:List Fr):∀ (xs d:List Atom) (k:Int),0≤k→k+(Zs xs:Int)≤4000000000000000000→d.length+xs.length≤4294967296→(∀ x∈xs,x.small)→EvL C fr [0,1,5] Zqn ⟨[(0,L 2 ((d++Zc0 xs k).map Atom.c)),(1,I k),(5,I d.length)],[[]],[]⟩ =
  EvX C fr (.x 0) ⟨[(0,L 2 ((d++Zc0 xs k).map Atom.c)),(1,I (k+Zs xs)),(5,I (d.length+xs.length)),(9,Bo false)],[[]],[]⟩:=by
 intro xs
 induction xs with
 | nil =>
  intro d k h1 h2 h3 h4
  rw [EvL_eq Zqn.eq_1]
  simp [Zc0,Zs,cnL,mkL]
 | cons x xs ih =>
  intro d k h1 h2 h3 h4
  have hx:=h4 x (by simp)
  have e0:Zs (x::xs)=Zdb x+Zs xs:=rfl
  rw [e0] at h2
  simp only [List.length_cons] at h3
  rcases x with ⟨x0,x1⟩
  have e1:Zdb ⟨x0,x1⟩=1+x1.length:=rfl
  have eK:k+(Zdb ⟨x0,x1⟩:Int)=k+1+(x1.length:Int):=by omega
  have eL:k+(Zs (⟨x0,x1⟩::xs):Int)=k+1+(x1.length:Int)+(Zs xs:Int):=by omega
  have ih':=ih (d++[Zhq ⟨x0,x1⟩ k]) (k+1+(x1.length:Int)) (by omega) (by omega) (by simp;omega) (fun y hy=>h4 y (by simp [hy]))
  rw [EvL_eq Zqn.eq_1,eL,Z8x,eK]
  have g1:IntKind.wrap .i64 ((d.length:Int)+1)=(d.length:Int)+1:=wrap64 (by omega) (by omega)
  have g3:(d.length:Int)<(d.length:Int)+(((Zc0 xs (k+1+(x1.length:Int))).length:Int)+1):=by omega
  have g5:(d.length:Int)+1+(xs.length:Int)=(d.length:Int)+((xs.length:Int)+1):=by omega
  have w0:IntKind.wrap .i64 (k+1)=k+1:=wrap64 (by omega) (by omega)
  have t0:=Z8w (k) (by omega) (by omega)
  have m0:=Zwv x1 (k+1) (by omega) (by omega) (by first | exact hx | exact hx.1 | exact hx.2 | exact hx.2.1 | exact hx.2.2 | exact hx.2.2.1 | exact hx.2.2.2 | exact hx.2.2.2.1 | exact hx.2.2.2.2 | exact hx.2.2.2.2.1 | exact hx.2.2.2.2.2)
  have z0:¬ (k+1+(x1.length:Int)<0):=by omega
  simp [g5,Zhq,tI] at ih'
  simp +decide [g1,g3,w0,t0,m0,z0,ih',Zhq,tI]
theorem Zbow (xs:List Atom) (k:Int) (h1:0≤k) (h2:k+(Zs xs:Int)≤4000000000000000000) (h3:SmL Atom.small xs):C Zbas [L 2 ((Zc0 xs k).map Atom.c),I k] []=some (I (k+Zs xs),[]):=by
 refine run Zbnl rfl ?_
 have h4:=fun fr=>Zbov fr xs [] k h1 h2 (by have:xs.length≤4294967296:=h3.1;simp;omega) h3.2
 simp at h4
 simp [Z8k,h4]
noncomputable def Zhr (a:Zc) (k:Int):Zc:=⟨k,k+1,k+1+1⟩
def Zf5 (a:Zc):Nat:=1+1+1
noncomputable def Zcq (xs:List Zc) (k:Int):List Zc:=mkL Zhr Zf5 xs k
def Zr (xs:List Zc):Nat:=cnL Zf5 xs
theorem Z8z (x:Zc) (xs:List Zc) (k:Int):Zcq (x::xs) k=Zhr x k::Zcq xs (k+(Zf5 x:Int)):=rfl
theorem Zbox (e:Nat) (fr:List Fr):∀ (xs d:List Zc) (k:Int),0≤k→k+(Zr xs:Int)≤4000000000000000000→d.length+xs.length≤4294967296→(∀ x∈xs,x.small)→EvL C fr [0,1,5] Znt ⟨[(0,.own 0),(1,I k),(5,I d.length)],[[(0,.own 0)]],[.xarr e 3 ((d++xs).map Zc.c)]⟩ =
  EvX C fr (.x 0) ⟨[(0,.own 0),(1,I (k+Zr xs)),(5,I (d.length+xs.length)),(9,Bo false)],[[(0,.own 0)]],[.xarr e 3 ((d++Zcq xs k).map Zc.c)]⟩:=by
 intro xs
 induction xs with
 | nil =>
  intro d k h1 h2 h3 h4
  rw [EvL_eq Znt.eq_1]
  simp [Zcq,Zr,cnL,mkL]
 | cons x xs ih =>
  intro d k h1 h2 h3 h4
  have hx:=h4 x (by simp)
  have e0:Zr (x::xs)=Zf5 x+Zr xs:=rfl
  rw [e0] at h2
  simp only [List.length_cons] at h3
  rcases x with ⟨x0,x1,x2⟩
  have e1:Zf5 ⟨x0,x1,x2⟩=1+1+1:=rfl
  have eK:k+(Zf5 ⟨x0,x1,x2⟩:Int)=k+1+1+1:=by omega
  have eL:k+(Zr (⟨x0,x1,x2⟩::xs):Int)=k+1+1+1+(Zr xs:Int):=by omega
  have ih':=ih (d++[Zhr ⟨x0,x1,x2⟩ k]) (k+1+1+1) (by omega) (by omega) (by simp;omega) (fun y hy=>h4 y (by simp [hy]))
  rw [EvL_eq Znt.eq_1,eL,Z8z,eK]
  have g1:IntKind.wrap .i64 ((d.length:Int)+1)=(d.length:Int)+1:=wrap64 (by omega) (by omega)
  have g3:(d.length:Int)<(d.length:Int)+((xs.length:Int)+1):=by omega
  have g5:(d.length:Int)+1+(xs.length:Int)=(d.length:Int)+((xs.length:Int)+1):=by omega
  have w0:IntKind.wrap .i64 (k+1)=k+1:=wrap64 (by omega) (by omega)
  have w1:IntKind.wrap .i64 (k+1+1)=k+1+1:=wrap64 (by omega) (by omega)
  have w2:IntKind.wrap .i64 (k+1+1+1)=k+1+1+1:=wrap64 (by omega) (by omega)
  (simp [g5,Zhr,tI] at ih';simp [g1,g3,w0,w1,w2,ih',Zhr,tI])
theorem Z80 (e:Nat) (xs:List Zc) (k:Int) (h1:0≤k) (h2:k+(Zr xs:Int)≤4000000000000000000) (h3:SmA xs):C Zn8 [.own 0,I k] [.xarr e 3 (xs.map Zc.c)]=some (I (k+Zr xs),[.xarr e 3 ((Zcq xs k).map Zc.c)]):=by
 refine runM Z70 rfl ?_
 have h4:=fun fr=>Zbox e fr xs [] k h1 h2 (by have:xs.length≤4294967296:=h3;simp;omega) (fun _ _=>trivial)
 simp at h4
 simp [Zwn,h4]
theorem Zboy (n:Nat) (k:Int):C Zn8 [.t (.lst n []),I k] []=some (I k,[]):=by
 refine run Z70 rfl ?_
 simp [Zwn,EvL_eq Znt.eq_1]
theorem Zboz (xs:List Zc) (k:Int) (h1:0≤k) (h2:k+(Zr xs:Int)≤4000000000000000000) (h3:SmA xs):(xs.map Zc.c=[]∧(Zcq xs (k)).map Zc.c=[]∧C Zn8 [.t (.lst 3 []),I k] []=some (I (k+(Zr xs:Int)),[]))∨∃ y ys,xs.map Zc.c=y::ys∧True∧C Zn8 [.own 0,I k] [.xarr unk 3 (y::ys)]=some (I (k+(Zr xs:Int)),[.xarr unk 3 ((Zcq xs (k)).map Zc.c)]):=by
 have c:=Z80 unk xs k h1 h2 h3
 cases xs with
 | nil=>exact .inl ⟨rfl,rfl,by have:=Zboy 3 k;simpa [Zcq,Zr,cnL,mkL] using this⟩
 | cons y ys=>exact .inr ⟨_,_,rfl,trivial,c⟩
theorem Zbo0 (fr:List Fr):∀ (xs d:List Zc) (k:Int),0≤k→k+(Zr xs:Int)≤4000000000000000000→d.length+xs.length≤4294967296→(∀ x∈xs,x.small)→EvL C fr [0,1,5] Zqj ⟨[(0,L 3 ((d++Zcq xs k).map Zc.c)),(1,I k),(5,I d.length)],[[]],[]⟩ =
  EvX C fr (.x 0) ⟨[(0,L 3 ((d++Zcq xs k).map Zc.c)),(1,I (k+Zr xs)),(5,I (d.length+xs.length)),(9,Bo false)],[[]],[]⟩:=by
 intro xs
 induction xs with
 | nil =>
  intro d k h1 h2 h3 h4
  rw [EvL_eq Zqj.eq_1]
  simp [Zcq,Zr,cnL,mkL]
 | cons x xs ih =>
  intro d k h1 h2 h3 h4
  have hx:=h4 x (by simp)
  have e0:Zr (x::xs)=Zf5 x+Zr xs:=rfl
  rw [e0] at h2
  simp only [List.length_cons] at h3
  rcases x with ⟨x0,x1,x2⟩
  have e1:Zf5 ⟨x0,x1,x2⟩=1+1+1:=rfl
  have eK:k+(Zf5 ⟨x0,x1,x2⟩:Int)=k+1+1+1:=by omega
  have eL:k+(Zr (⟨x0,x1,x2⟩::xs):Int)=k+1+1+1+(Zr xs:Int):=by omega
  have ih':=ih (d++[Zhr ⟨x0,x1,x2⟩ k]) (k+1+1+1) (by omega) (by omega) (by simp;omega) (fun y hy=>h4 y (by simp [hy]))
  rw [EvL_eq Zqj.eq_1,eL,Z8z,eK]
  have g1:IntKind.wrap .i64 ((d.length:Int)+1)=(d.length:Int)+1:=wrap64 (by omega) (by omega)
  have g3:(d.length:Int)<(d.length:Int)+(((Zcq xs (k+1+1+1)).length:Int)+1):=by omega
  have g5:(d.length:Int)+1+(xs.length:Int)=(d.length:Int)+((xs.length:Int)+1):=by omega
  have w0:IntKind.wrap .i64 (k+1)=k+1:=wrap64 (by omega) (by omega)
  have w1:IntKind.wrap .i64 (k+1+1)=k+1+1:=wrap64 (by omega) (by omega)
  have w2:IntKind.wrap .i64 (k+1+1+1)=k+1+1+1:=wrap64 (by omega) (by omega)
  simp [g5,Zhr,tI] at ih'
  simp +decide [g1,g3,w0,w1,w2,ih',Zhr,tI]
theorem Zbo1 (xs:List Zc) (k:Int) (h1:0≤k) (h2:k+(Zr xs:Int)≤4000000000000000000) (h3:SmA xs):C Zbaf [L 3 ((Zcq xs k).map Zc.c),I k] []=some (I (k+Zr xs),[]):=by
 refine run Zbm8 rfl ?_
 have h4:=fun fr=>Zbo0 fr xs [] k h1 h2 (by have:xs.length≤4294967296:=h3;simp;omega) (fun _ _=>trivial)
 simp at h4
 simp [Z77,h4]
noncomputable def Zhs (a:Ze) (k:Int):Ze:=⟨⟨k,Zc0 a.Zb.Atoms (k+1)⟩,⟨⟨Zcq a.Region.Plan.Steps (k+1+(Zs a.Zb.Atoms:Int))⟩,⟨mkI a.Region.Box.Low (k+1+(Zs a.Zb.Atoms:Int)+(Zr a.Region.Plan.Steps:Int)),mkI a.Region.Box.High (k+1+(Zs a.Zb.Atoms:Int)+(Zr a.Region.Plan.Steps:Int)+(a.Region.Box.Low.length:Int))⟩,k+1+(Zs a.Zb.Atoms:Int)+(Zr a.Region.Plan.Steps:Int)+(a.Region.Box.Low.length:Int)+(a.Region.Box.High.length:Int)⟩,k+1+(Zs a.Zb.Atoms:Int)+(Zr a.Region.Plan.Steps:Int)+(a.Region.Box.Low.length:Int)+(a.Region.Box.High.length:Int)+1,k+1+(Zs a.Zb.Atoms:Int)+(Zr a.Region.Plan.Steps:Int)+(a.Region.Box.Low.length:Int)+(a.Region.Box.High.length:Int)+1+1⟩
def Zcr (a:Ze):Nat:=1+Zs a.Zb.Atoms+Zr a.Region.Plan.Steps+a.Region.Box.Low.length+a.Region.Box.High.length+1+1+1
noncomputable def Zd1 (xs:List Ze) (k:Int):List Ze:=mkL Zhs Zcr xs k
def Z1 (xs:List Ze):Nat:=cnL Zcr xs
theorem Z81 (x:Ze) (xs:List Ze) (k:Int):Zd1 (x::xs) k=Zhs x k::Zd1 xs (k+(Zcr x:Int)):=rfl
theorem Zbo2 (e:Nat) (fr:List Fr):∀ (xs d:List Ze) (k:Int),0≤k→k+(Z1 xs:Int)≤4000000000000000000→d.length+xs.length≤4294967296→(∀ x∈xs,x.small)→EvL C fr [0,1,5] Znv ⟨[(0,.own 0),(1,I k),(5,I d.length)],[[(0,.own 0)]],[.xarr e 8 ((d++xs).map Ze.c)]⟩ =
  EvX C fr (.x 0) ⟨[(0,.own 0),(1,I (k+Z1 xs)),(5,I (d.length+xs.length)),(9,Bo false)],[[(0,.own 0)]],[.xarr e 8 ((d++Zd1 xs k).map Ze.c)]⟩:=by
 intro xs
 induction xs with
 | nil =>
  intro d k h1 h2 h3 h4
  rw [EvL_eq Znv.eq_1]
  simp [Zd1,Z1,cnL,mkL]
 | cons x xs ih =>
  intro d k h1 h2 h3 h4
  have hx:=h4 x (by simp)
  have e0:Z1 (x::xs)=Zcr x+Z1 xs:=rfl
  rw [e0] at h2
  simp only [List.length_cons] at h3
  rcases x with ⟨⟨x0,x1⟩,⟨⟨x2⟩,⟨x3,x4⟩,x5⟩,x6,x7⟩
  have e1:Zcr ⟨⟨x0,x1⟩,⟨⟨x2⟩,⟨x3,x4⟩,x5⟩,x6,x7⟩=1+Zs x1+Zr x2+x3.length+x4.length+1+1+1:=rfl
  have eK:k+(Zcr ⟨⟨x0,x1⟩,⟨⟨x2⟩,⟨x3,x4⟩,x5⟩,x6,x7⟩:Int)=k+1+(Zs x1:Int)+(Zr x2:Int)+(x3.length:Int)+(x4.length:Int)+1+1+1:=by omega
  have eL:k+(Z1 (⟨⟨x0,x1⟩,⟨⟨x2⟩,⟨x3,x4⟩,x5⟩,x6,x7⟩::xs):Int)=k+1+(Zs x1:Int)+(Zr x2:Int)+(x3.length:Int)+(x4.length:Int)+1+1+1+(Z1 xs:Int):=by omega
  have ih':=ih (d++[Zhs ⟨⟨x0,x1⟩,⟨⟨x2⟩,⟨x3,x4⟩,x5⟩,x6,x7⟩ k]) (k+1+(Zs x1:Int)+(Zr x2:Int)+(x3.length:Int)+(x4.length:Int)+1+1+1) (by omega) (by omega) (by simp;omega) (fun y hy=>h4 y (by simp [hy]))
  rw [EvL_eq Znv.eq_1,eL,Z81,eK]
  have g1:IntKind.wrap .i64 ((d.length:Int)+1)=(d.length:Int)+1:=wrap64 (by omega) (by omega)
  have g3:(d.length:Int)<(d.length:Int)+((xs.length:Int)+1):=by omega
  have g5:(d.length:Int)+1+(xs.length:Int)=(d.length:Int)+((xs.length:Int)+1):=by omega
  have w0:IntKind.wrap .i64 (k+1)=k+1:=wrap64 (by omega) (by omega)
  have w1:IntKind.wrap .i64 (k+1+(Zs x1:Int)+(Zr x2:Int)+(x3.length:Int)+(x4.length:Int)+1)=k+1+(Zs x1:Int)+(Zr x2:Int)+(x3.length:Int)+(x4.length:Int)+1:=wrap64 (by omega) (by omega)
  have w2:IntKind.wrap .i64 (k+1+(Zs x1:Int)+(Zr x2:Int)+(x3.length:Int)+(x4.length:Int)+1+1)=k+1+(Zs x1:Int)+(Zr x2:Int)+(x3.length:Int)+(x4.length:Int)+1+1:=wrap64 (by omega) (by omega)
  have w3:IntKind.wrap .i64 (k+1+(Zs x1:Int)+(Zr x2:Int)+(x3.length:Int)+(x4.length:Int)+1+1+1)=k+1+(Zs x1:Int)+(Zr x2:Int)+(x3.length:Int)+(x4.length:Int)+1+1+1:=wrap64 (by omega) (by omega)
  have m0:=Zbou x1 (k+1) (by omega) (by omega) (by first | exact hx | exact hx.1 | exact hx.2 | exact hx.2.1 | exact hx.2.2 | exact hx.2.2.1 | exact hx.2.2.2 | exact hx.2.2.2.1 | exact hx.2.2.2.2 | exact hx.2.2.2.2.1 | exact hx.2.2.2.2.2)
  have m1:=Zboz x2 (k+1+(Zs x1:Int)) (by omega) (by omega) (by first | exact hx | exact hx.1 | exact hx.2 | exact hx.2.1 | exact hx.2.2 | exact hx.2.2.1 | exact hx.2.2.2 | exact hx.2.2.2.1 | exact hx.2.2.2.2 | exact hx.2.2.2.2.1 | exact hx.2.2.2.2.2)
  have m2:=Zww x3 (k+1+(Zs x1:Int)+(Zr x2:Int)) (by omega) (by omega) (by first | exact hx | exact hx.1 | exact hx.2 | exact hx.2.1 | exact hx.2.2 | exact hx.2.2.1 | exact hx.2.2.2 | exact hx.2.2.2.1 | exact hx.2.2.2.2 | exact hx.2.2.2.2.1 | exact hx.2.2.2.2.2)
  have m3:=Zww x4 (k+1+(Zs x1:Int)+(Zr x2:Int)+(x3.length:Int)) (by omega) (by omega) (by first | exact hx | exact hx.1 | exact hx.2 | exact hx.2.1 | exact hx.2.2 | exact hx.2.2.1 | exact hx.2.2.2 | exact hx.2.2.2.1 | exact hx.2.2.2.2 | exact hx.2.2.2.2.1 | exact hx.2.2.2.2.2)
  rcases m0 with ⟨r0,s0,m0⟩ | ⟨y0,ys0,r0,s0,m0⟩
  all_goals rcases m1 with ⟨r1,s1,m1⟩ | ⟨y1,ys1,r1,s1,m1⟩
  all_goals rcases m2 with ⟨r2,s2,m2⟩ | ⟨y2,ys2,r2,s2,m2⟩
  all_goals rcases m3 with ⟨r3,s3,m3⟩ | ⟨y3,ys3,r3,s3,m3⟩
  all_goals (simp [g5,Zhs,tI,r0,s0,r1,s1,r2,s2,r3,s3] at ih';simp [g1,g3,w0,w1,w2,w3,m0,r0,s0,m1,r1,s1,m2,r2,s2,m3,r3,s3,ih',Zhs,tI])
theorem Zbo3 (e:Nat) (xs:List Ze) (k:Int) (h1:0≤k) (h2:k+(Z1 xs:Int)≤4000000000000000000) (h3:SmL Ze.small xs):C Zxq [.own 0,I k] [.xarr e 8 (xs.map Ze.c)]=some (I (k+Z1 xs),[.xarr e 8 ((Zd1 xs k).map Ze.c)]):=by
 refine runM Z75 rfl ?_
 have h4:=fun fr=>Zbo2 e fr xs [] k h1 h2 (by have:xs.length≤4294967296:=h3.1;simp;omega) h3.2
 simp at h4
 simp [Zwo,h4]
theorem Zbo4 (k:Int):C Zxq [.t .nil,I k] []=some (I k,[]):=by
 refine run Z75 rfl ?_
 simp [Zwo,EvL_eq Znv.eq_1]
theorem Zbo5 (fr:List Fr):∀ (xs d:List Ze) (k:Int),0≤k→k+(Z1 xs:Int)≤4000000000000000000→d.length+xs.length≤4294967296→(∀ x∈xs,x.small)→EvL C fr [0,1,5] Znw ⟨[(0,L 8 ((d++Zd1 xs k).map Ze.c)),(1,I k),(5,I d.length)],[[]],[]⟩ =
  EvX C fr (.x 0) ⟨[(0,L 8 ((d++Zd1 xs k).map Ze.c)),(1,I (k+Z1 xs)),(5,I (d.length+xs.length)),(9,Bo false)],[[]],[]⟩:=by
 intro xs
 induction xs with
 | nil =>
  intro d k h1 h2 h3 h4
  rw [EvL_eq Znw.eq_1]
  simp [Zd1,Z1,cnL,mkL]
 | cons x xs ih =>
  intro d k h1 h2 h3 h4
  have hx:=h4 x (by simp)
  have e0:Z1 (x::xs)=Zcr x+Z1 xs:=rfl
  rw [e0] at h2
  simp only [List.length_cons] at h3
  rcases x with ⟨⟨x0,x1⟩,⟨⟨x2⟩,⟨x3,x4⟩,x5⟩,x6,x7⟩
  have e1:Zcr ⟨⟨x0,x1⟩,⟨⟨x2⟩,⟨x3,x4⟩,x5⟩,x6,x7⟩=1+Zs x1+Zr x2+x3.length+x4.length+1+1+1:=rfl
  have eK:k+(Zcr ⟨⟨x0,x1⟩,⟨⟨x2⟩,⟨x3,x4⟩,x5⟩,x6,x7⟩:Int)=k+1+(Zs x1:Int)+(Zr x2:Int)+(x3.length:Int)+(x4.length:Int)+1+1+1:=by omega
  have eL:k+(Z1 (⟨⟨x0,x1⟩,⟨⟨x2⟩,⟨x3,x4⟩,x5⟩,x6,x7⟩::xs):Int)=k+1+(Zs x1:Int)+(Zr x2:Int)+(x3.length:Int)+(x4.length:Int)+1+1+1+(Z1 xs:Int):=by omega
  have ih':=ih (d++[Zhs ⟨⟨x0,x1⟩,⟨⟨x2⟩,⟨x3,x4⟩,x5⟩,x6,x7⟩ k]) (k+1+(Zs x1:Int)+(Zr x2:Int)+(x3.length:Int)+(x4.length:Int)+1+1+1) (by omega) (by omega) (by simp;omega) (fun y hy=>h4 y (by simp [hy]))
  rw [EvL_eq Znw.eq_1,eL,Z81,eK]
  have g1:IntKind.wrap .i64 ((d.length:Int)+1)=(d.length:Int)+1:=wrap64 (by omega) (by omega)
  have g3:(d.length:Int)<(d.length:Int)+(((Zd1 xs (k+1+(Zs x1:Int)+(Zr x2:Int)+(x3.length:Int)+(x4.length:Int)+1+1+1)).length:Int)+1):=by omega
  have g5:(d.length:Int)+1+(xs.length:Int)=(d.length:Int)+((xs.length:Int)+1):=by omega
  have w0:IntKind.wrap .i64 (k+1)=k+1:=wrap64 (by omega) (by omega)
  have w1:IntKind.wrap .i64 (k+1+(Zs x1:Int)+(Zr x2:Int)+(x3.length:Int)+(x4.length:Int)+1)=k+1+(Zs x1:Int)+(Zr x2:Int)+(x3.length:Int)+(x4.length:Int)+1:=wrap64 (by omega) (by omega)
  have w2:IntKind.wrap .i64 (k+1+(Zs x1:Int)+(Zr x2:Int)+(x3.length:Int)+(x4.length:Int)+1+1)=k+1+(Zs x1:Int)+(Zr x2:Int)+(x3.length:Int)+(x4.length:Int)+1+1:=wrap64 (by omega) (by omega)
  have w3:IntKind.wrap .i64 (k+1+(Zs x1:Int)+(Zr x2:Int)+(x3.length:Int)+(x4.length:Int)+1+1+1)=k+1+(Zs x1:Int)+(Zr x2:Int)+(x3.length:Int)+(x4.length:Int)+1+1+1:=wrap64 (by omega) (by omega)
  have m0:=Zbow x1 (k+1) (by omega) (by omega) (by first | exact hx | exact hx.1 | exact hx.2 | exact hx.2.1 | exact hx.2.2 | exact hx.2.2.1 | exact hx.2.2.2 | exact hx.2.2.2.1 | exact hx.2.2.2.2 | exact hx.2.2.2.2.1 | exact hx.2.2.2.2.2)
  have z0:¬ (k+1+(Zs x1:Int)<0):=by omega
  have m1:=Zbo1 x2 (k+1+(Zs x1:Int)) (by omega) (by omega) (by first | exact hx | exact hx.1 | exact hx.2 | exact hx.2.1 | exact hx.2.2 | exact hx.2.2.1 | exact hx.2.2.2 | exact hx.2.2.2.1 | exact hx.2.2.2.2 | exact hx.2.2.2.2.1 | exact hx.2.2.2.2.2)
  have z1:¬ (k+1+(Zs x1:Int)+(Zr x2:Int)<0):=by omega
  have m2:=Zwv x3 (k+1+(Zs x1:Int)+(Zr x2:Int)) (by omega) (by omega) (by first | exact hx | exact hx.1 | exact hx.2 | exact hx.2.1 | exact hx.2.2 | exact hx.2.2.1 | exact hx.2.2.2 | exact hx.2.2.2.1 | exact hx.2.2.2.2 | exact hx.2.2.2.2.1 | exact hx.2.2.2.2.2)
  have z2:¬ (k+1+(Zs x1:Int)+(Zr x2:Int)+(x3.length:Int)<0):=by omega
  have m3:=Zwv x4 (k+1+(Zs x1:Int)+(Zr x2:Int)+(x3.length:Int)) (by omega) (by omega) (by first | exact hx | exact hx.1 | exact hx.2 | exact hx.2.1 | exact hx.2.2 | exact hx.2.2.1 | exact hx.2.2.2 | exact hx.2.2.2.1 | exact hx.2.2.2.2 | exact hx.2.2.2.2.1 | exact hx.2.2.2.2.2)
  have z3:¬ (k+1+(Zs x1:Int)+(Zr x2:Int)+(x3.length:Int)+(x4.length:Int)<0):=by omega
  simp [g5,Zhs,tI] at ih'
  simp +decide [g1,g3,w0,w1,w2,w3,m0,z0,m1,z1,m2,z2,m3,z3,ih',Zhs,tI]
theorem Zbo6 (xs:List Ze) (k:Int) (h1:0≤k) (h2:k+(Z1 xs:Int)≤4000000000000000000) (h3:SmL Ze.small xs):C Zxr [L 8 ((Zd1 xs k).map Ze.c),I k] []=some (I (k+Z1 xs),[]):=by
 refine run Z76 rfl ?_
 have h4:=fun fr=>Zbo5 fr xs [] k h1 h2 (by have:xs.length≤4294967296:=h3.1;simp;omega) h3.2
 simp at h4
 simp [Zwp,h4]
theorem Zbo7 (k:Int):C Zxr [.t .nil,I k] []=some (I k,[]):=by
 refine run Z76 rfl ?_
 simp [Zwp,EvL_eq Znw.eq_1]
noncomputable def Zn0 (a:Zg) (k:Int):Zg:=⟨k,k+1⟩
def Zkr (a:Zg):Nat:=1+1
noncomputable def Zeo (xs:List Zg) (k:Int):List Zg:=mkL Zn0 Zkr xs k
def Zq (xs:List Zg):Nat:=cnL Zkr xs
theorem Zbo8 (x:Zg) (xs:List Zg) (k:Int):Zeo (x::xs) k=Zn0 x k::Zeo xs (k+(Zkr x:Int)):=rfl
theorem Zbo9 (e:Nat) (fr:List Fr):∀ (xs d:List Zg) (k:Int),0≤k→k+(Zq xs:Int)≤4000000000000000000→d.length+xs.length≤4294967296→(∀ x∈xs,x.small)→EvL C fr [0,1,5] Zqm ⟨[(0,.own 0),(1,I k),(5,I d.length)],[[(0,.own 0)]],[.xarr e 2 ((d++xs).map Zg.c)]⟩ =
  EvX C fr (.x 0) ⟨[(0,.own 0),(1,I (k+Zq xs)),(5,I (d.length+xs.length)),(9,Bo false)],[[(0,.own 0)]],[.xarr e 2 ((d++Zeo xs k).map Zg.c)]⟩:=by
 intro xs
 induction xs with
 | nil =>
  intro d k h1 h2 h3 h4
  rw [EvL_eq Zqm.eq_1]
  simp [Zeo,Zq,cnL,mkL]
 | cons x xs ih =>
  intro d k h1 h2 h3 h4
  have hx:=h4 x (by simp)
  have e0:Zq (x::xs)=Zkr x+Zq xs:=rfl
  rw [e0] at h2
  simp only [List.length_cons] at h3
  rcases x with ⟨x0,x1⟩
  have e1:Zkr ⟨x0,x1⟩=1+1:=rfl
  have eK:k+(Zkr ⟨x0,x1⟩:Int)=k+1+1:=by omega
  have eL:k+(Zq (⟨x0,x1⟩::xs):Int)=k+1+1+(Zq xs:Int):=by omega
  have ih':=ih (d++[Zn0 ⟨x0,x1⟩ k]) (k+1+1) (by omega) (by omega) (by simp;omega) (fun y hy=>h4 y (by simp [hy]))
  rw [EvL_eq Zqm.eq_1,eL,Zbo8,eK]
  have g1:IntKind.wrap .i64 ((d.length:Int)+1)=(d.length:Int)+1:=wrap64 (by omega) (by omega)
  have g3:(d.length:Int)<(d.length:Int)+((xs.length:Int)+1):=by omega
  have g5:(d.length:Int)+1+(xs.length:Int)=(d.length:Int)+((xs.length:Int)+1):=by omega
  have w0:IntKind.wrap .i64 (k+1)=k+1:=wrap64 (by omega) (by omega)
  have w1:IntKind.wrap .i64 (k+1+1)=k+1+1:=wrap64 (by omega) (by omega)
  (simp [g5,Zn0,tI] at ih';simp [g1,g3,w0,w1,ih',Zn0,tI])
theorem Zbpa (e:Nat) (xs:List Zg) (k:Int) (h1:0≤k) (h2:k+(Zq xs:Int)≤4000000000000000000) (h3:SmA xs):C Zbao [.own 0,I k] [.xarr e 2 (xs.map Zg.c)]=some (I (k+Zq xs),[.xarr e 2 ((Zeo xs k).map Zg.c)]):=by
 refine runM Zbnh rfl ?_
 have h4:=fun fr=>Zbo9 e fr xs [] k h1 h2 (by have:xs.length≤4294967296:=h3;simp;omega) (fun _ _=>trivial)
 simp at h4
 simp [Z8f,h4]
theorem Zbpb (e0 e1:Nat) (x0:List Int) (x1:List Int) (k:Int) (h1:0≤k) (h2:k+(x0.length:Int)+(x1.length:Int)≤4000000000000000000) (sx0:SmA x0) (sx1:SmA x1):C Z90 [.agg [.own 0,.own 1],I k] [.xarr e0 1 (x0.map ic),.xarr e1 1 (x1.map ic)]=some (I (k+(x0.length:Int)+(x1.length:Int)),[.xarr e0 1 ((mkI x0 (k)).map ic),.xarr e1 1 ((mkI x1 (k+(x0.length:Int))).map ic)]):=by
 refine runM Zbmt rfl ?_
 have m0:=Zwu e0 x0 (k) (by omega) (by omega) sx0
 have m1:=Zwu e1 x1 (k+(x0.length:Int)) (by omega) (by omega) sx1
 simp [Z7n,m0,m1]
theorem Zn1 (e0:Nat) (x0:Int) (x1:Int) (x2:Int) (x3:Int) (x4:Int) (x5:List Zg) (k:Int) (h1:0≤k) (h2:k+(Zq x5:Int)≤4000000000000000000) (sx5:SmA x5):C Zbab [.agg [I x0,I x1,I x2,I x3,I x4,.own 0],I k] [.xarr e0 2 (x5.map Zg.c)]=some (I (k+(Zq x5:Int)),[.xarr e0 2 ((Zeo x5 (k)).map Zg.c)]):=by
 refine runM Zbm4 rfl ?_
 have m0:=Zbpa e0 x5 (k) (by omega) (by omega) sx5
 simp [Z7y,m0]
theorem Zbpc (e0 e1 e2 e3 e4:Nat) (x0:Int) (x1:Int) (x2:Int) (x3:Int) (x4:Int) (x5:List Zg) (x6:Int) (x7:Int) (x8:Int) (x9:Int) (x10:Int) (x11:List Zg) (x12:Int) (x13:Int) (x14:Int) (x15:Int) (x16:Int) (x17:List Zg) (x18:Int) (x19:Int) (x20:Int) (x21:Int) (x22:Int) (x23:List Zg) (x24:Int) (x25:Int) (x26:Int) (x27:Int) (x28:Int) (x29:List Zg) (k:Int) (h1:0≤k) (h2:k+(Zq x5:Int)+(Zq x11:Int)+(Zq x17:Int)+(Zq x23:Int)+(Zq x29:Int)≤4000000000000000000) (sx5:SmA x5) (sx11:SmA x11) (sx17:SmA x17) (sx23:SmA x23) (sx29:SmA x29):C Z9n [.agg [I x0,I x1,I x2,I x3,I x4,.own 0,I x6,I x7,I x8,I x9,I x10,.own 1,I x12,I x13,I x14,I x15,I x16,.own 2,I x18,I x19,I x20,I x21,I x22,.own 3,I x24,I x25,I x26,I x27,I x28,.own 4],I k] [.xarr e0 2 (x5.map Zg.c),.xarr e1 2 (x11.map Zg.c),.xarr e2 2 (x17.map Zg.c),.xarr e3 2 (x23.map Zg.c),.xarr e4 2 (x29.map Zg.c)]=some (I (k+(Zq x5:Int)+(Zq x11:Int)+(Zq x17:Int)+(Zq x23:Int)+(Zq x29:Int)),[.xarr e0 2 ((Zeo x5 (k)).map Zg.c),.xarr e1 2 ((Zeo x11 (k+(Zq x5:Int))).map Zg.c),.xarr e2 2 ((Zeo x17 (k+(Zq x5:Int)+(Zq x11:Int))).map Zg.c),.xarr e3 2 ((Zeo x23 (k+(Zq x5:Int)+(Zq x11:Int)+(Zq x17:Int))).map Zg.c),.xarr e4 2 ((Zeo x29 (k+(Zq x5:Int)+(Zq x11:Int)+(Zq x17:Int)+(Zq x23:Int))).map Zg.c)]):=by
 refine runM Zbmg rfl ?_
 have m0:=Zn1 e0 x0 x1 x2 x3 x4 x5 (k) (by omega) (by omega) sx5
 have m1:=Zn1 e1 x6 x7 x8 x9 x10 x11 (k+(Zq x5:Int)) (by omega) (by omega) sx11
 have m2:=Zn1 e2 x12 x13 x14 x15 x16 x17 (k+(Zq x5:Int)+(Zq x11:Int)) (by omega) (by omega) sx17
 have m3:=Zn1 e3 x18 x19 x20 x21 x22 x23 (k+(Zq x5:Int)+(Zq x11:Int)+(Zq x17:Int)) (by omega) (by omega) sx23
 have m4:=Zn1 e4 x24 x25 x26 x27 x28 x29 (k+(Zq x5:Int)+(Zq x11:Int)+(Zq x17:Int)+(Zq x23:Int)) (by omega) (by omega) sx29
 simp [Z68,m0,m1,m2,m3,m4]
theorem Zbpd (e0:Nat) (x0:List Zc) (k:Int) (h1:0≤k) (h2:k+(Zr x0:Int)≤4000000000000000000) (sx0:SmA x0):C Z9p [.agg [.own 0],I k] [.xarr e0 3 (x0.map Zc.c)]=some (I (k+(Zr x0:Int)),[.xarr e0 3 ((Zcq x0 (k)).map Zc.c)]):=by
 refine runM Zbmi rfl ?_
 have m0:=Z80 e0 x0 (k) (by omega) (by omega) sx0
 simp [Z7a,m0]
theorem Zwx (e0:Nat) (x0:Int) (x1:List Ze) (k:Int) (h1:0≤k) (h2:k+(Z1 x1:Int)≤4000000000000000000) (sx1:SmL Ze.small x1):C Zxn [.agg [I x0,.own 0],I k] [.xarr e0 8 (x1.map Ze.c)]=some (I (k+(Z1 x1:Int)),[.xarr e0 8 ((Zd1 x1 (k)).map Ze.c)]):=by
 refine runM Z7p rfl ?_
 have m0:=Zbo3 e0 x1 (k) (by omega) (by omega) sx1
 simp [Zwi,m0]
theorem Zbpe (x0:Int) (k:Int):C Zxn [.agg [I x0,.t .nil],I k] []=some (I k,[]):=by
 refine run Z7p rfl ?_
 simp [Zwi,Zbo4]
theorem Z82 (x0:Int) (x1:List Ze) (k:Int) (h1:0≤k) (h2:k+(Z1 x1:Int)≤4000000000000000000) (sx1:SmL Ze.small x1):C Zxo [.agg [I x0,.t (.lst 8 ((Zd1 x1 (k)).map Ze.c))],I k] []=some (I (k+(Z1 x1:Int)),[]):=by
 refine run Z7q rfl ?_
 have m0:=Zbo6 x1 (k) (by omega) (by omega) sx1
 have z0:¬ (k+(Z1 x1:Int)<0):=by omega
 simp [Zwj,tI,m0,z0]
theorem Zbpf (x0:Int) (k:Int) (h1:0≤k):C Zxo [.agg [I x0,.t .nil],I k] []=some (I k,[]):=by
 refine run Z7q rfl ?_
 have z:¬ (k<0):=by omega
 simp [Zwj,z,h1,Zbo7]
theorem Zbpg (e0:Nat) (x0:Int) (x1:List Atom) (k:Int) (h1:0≤k) (h2:k+(Zs x1:Int)≤4000000000000000000) (sx1:SmL Atom.small x1):C Z9o [.agg [I x0,.own 0],I k] [.xarr e0 2 (x1.map Atom.c)]=some (I (k+(Zs x1:Int)),[.xarr e0 2 ((Zc0 x1 (k)).map Atom.c)]):=by
 refine runM Zbmh rfl ?_
 have m0:=Z8y e0 x1 (k) (by omega) (by omega) sx1
 simp [Z69,m0]
theorem Zbph (e0 e1 e2:Nat) (x0:List Zc) (x1:List Int) (x2:List Int) (x3:Int) (k:Int) (h1:0≤k) (h2:k+(Zr x0:Int)+(x1.length:Int)+(x2.length:Int)≤4000000000000000000) (sx0:SmA x0) (sx1:SmA x1) (sx2:SmA x2):C Z91 [.agg [.own 0,.own 1,.own 2,I x3],I k] [.xarr e0 3 (x0.map Zc.c),.xarr e1 1 (x1.map ic),.xarr e2 1 (x2.map ic)]=some (I (k+(Zr x0:Int)+(x1.length:Int)+(x2.length:Int)),[.xarr e0 3 ((Zcq x0 (k)).map Zc.c),.xarr e1 1 ((mkI x1 (k+(Zr x0:Int))).map ic),.xarr e2 1 ((mkI x2 (k+(Zr x0:Int)+(x1.length:Int))).map ic)]):=by
 refine runM Zbmu rfl ?_
 have m0:=Zbpd e0 x0 (k) (by omega) (by omega) sx0
 have m1:=Zbpb e1 e2 x1 x2 (k+(Zr x0:Int)) (by omega) (by omega) sx1 sx2
 simp [Z7o,m0,m1]
theorem Zjj {n:Nat} {left:Int} (hn:n≤maxLen) (h0:0≤left) (h1:left≤1048576) (h:0≤sz1 n left):sz1 n left≤left∧(n:Int)≤left - sz1 n left:=by
 unfold maxLen at hn
 have hw:IntKind.wrap .i64 (left - n)=left - n:=wrap64 (by omega) (by omega)
 unfold sz1 at h ⊢
 rw [hw] at h ⊢
 split at h
 ·omega
 ·rename_i hx;rw [if_neg hx];omega
theorem Z83 {α:Type} {f:α→Int→Int} {n:α→Nat} {M:Int}:∀ (xs:List α) (left:Int),(∀ x∈xs,∀ l,0≤l→l≤M→0≤f x l→f x l≤l∧(n x:Int)≤16+16*(l - f x l))→0≤left→left≤M→0≤szFold f xs left→szFold f xs left≤left∧(cnL n xs:Int)≤16*(xs.length:Int)+16*(left - szFold f xs left)
 | [],left,_,_,_,h=>by simp [szFold,cnL]
 | x::xs,left,hf,h0,h1,h=>by
  unfold szFold at h ⊢
  split at h
  ·omega
  ·rename_i hx
   rw [if_neg hx]
   obtain ⟨h2,h3⟩:=hf x (by simp) left h0 h1 (by omega)
   obtain ⟨h4,h5⟩:=Z83 xs (f x left) (fun y hy=>hf y (by simp [hy])) (by omega) (by omega) h
   have e:cnL n (x::xs)=n x+cnL n xs:=rfl
   rw [e,List.length_cons]
   omega
theorem szL_ct {α:Type} {f:α→Int→Int} {n:α→Nat} {xs:List α} {left:Int} (hn:xs.length≤maxLen) (hf:∀ x∈xs,∀ l,0≤l→l≤1048576→0≤f x l→f x l≤l∧(n x:Int)≤16+16*(l - f x l)) (h0:0≤left) (h1:left≤1048576) (h:0≤szL f xs left) :
  szL f xs left≤left∧(cnL n xs:Int)≤16*(left - szL f xs left):=by
 unfold szL andSz at h ⊢
 split at h
 ·omega
 ·rename_i hx
  rw [if_neg hx]
  have a:=Zjj hn h0 h1 (by omega)
  have b:=Z83 xs _ hf (by omega) (by omega) h
  omega
theorem Zwy {α:Type} {n:α→Nat} {c:Nat} (h:∀ x,n x=c):∀ xs:List α,cnL n xs=c*xs.length
 | []=>rfl
 | x::xs=>by
  have e:cnL n (x::xs)=n x+cnL n xs:=rfl
  rw [e,h,Zwy h xs,List.length_cons,Nat.mul_succ,Nat.add_comm]
def Zwz (x:Atom):Nat:=x.Vars.length
theorem Atom.ct (x:Atom) (l:Int) (hx:x.okay) (h0:0≤l) (h1:l≤1048576) (h:0≤x.sz l):x.sz l≤l∧(Zwz x:Int)≤16*(l - x.sz l):=by
 unfold Atom.sz at h ⊢
 simp only [andSz] at h ⊢
 split at h
 ·omega
 rename_i q0
 rw [if_neg q0]
 have s0:=Zjj hx.1 h0 h1 (Int.not_lt.1 q0)
 split at h
 ·omega
 rename_i q1
 rw [if_neg q1]
 have s1:=Zjj hx.2.1 (by omega) (by omega) (Int.not_lt.1 q1)
 refine ⟨by omega,?_⟩
 unfold Zwz
 omega
theorem Zbpi (x:Atom) (l:Int) (hx:x.okay) (h0:0≤l) (h1:l≤1048576) (h:0≤x.sz l):x.sz l≤l∧(Zdb x:Int)≤16+16*(l - x.sz l):=by
 have a:=Atom.ct x l hx h0 h1 h
 unfold Zwz at a
 unfold Zdb
 omega
def Zqo (x:Zb):Nat:=Zs x.Atoms
theorem Zb.ct (x:Zb) (l:Int) (hx:x.okay) (h0:0≤l) (h1:l≤1048576) (h:0≤x.sz l):x.sz l≤l∧(Zqo x:Int)≤16*(l - x.sz l):=by
 unfold Zb.sz at h ⊢
 simp only [andSz] at h ⊢
 split at h
 ·omega
 rename_i q0
 rw [if_neg q0]
 have s0:=szL_ct (n:=Zdb) hx.2.1 (fun y hy l a b c=>Zbpi y l (hx.2.2 y hy) a b c) h0 h1 (Int.not_lt.1 q0)
 refine ⟨by omega,?_⟩
 unfold Zqo
 have v0:Zs x.Atoms=cnL Zdb x.Atoms:=rfl
 omega
def nt_Box (x:Box):Nat:=x.Low.length+x.High.length
theorem Box.ct (x:Box) (l:Int) (hx:x.okay) (h0:0≤l) (h1:l≤1048576) (h:0≤x.sz l):x.sz l≤l∧(nt_Box x:Int)≤16*(l - x.sz l):=by
 unfold Box.sz at h ⊢
 simp only [andSz] at h ⊢
 split at h
 ·omega
 rename_i q0
 rw [if_neg q0]
 have s0:=Zjj hx.1.1 h0 h1 (Int.not_lt.1 q0)
 split at h
 ·omega
 rename_i q1
 rw [if_neg q1]
 have s1:=Zjj hx.2.1 (by omega) (by omega) (Int.not_lt.1 q1)
 refine ⟨by omega,?_⟩
 unfold nt_Box
 omega
theorem Zks (xs:List Zg):Zq xs=2*xs.length:=Zwy (fun _=>rfl) xs
def Zjk (x:Zi):Nat:=Zq x.Steps
theorem Zi.ct (x:Zi) (l:Int) (hx:x.okay) (h0:0≤l) (h1:l≤1048576) (h:0≤x.sz l):x.sz l≤l∧(Zjk x:Int)≤16*(l - x.sz l):=by
 unfold Zi.sz at h ⊢
 simp only [andSz] at h ⊢
 split at h
 ·omega
 rename_i q0
 rw [if_neg q0]
 have s0:=Zjj hx.2.2.2.2.2.1 h0 h1 (Int.not_lt.1 q0)
 refine ⟨by omega,?_⟩
 unfold Zjk
 have v0:=Zks x.Steps
 omega
def Zw0 (x:Zd):Nat:=Zq x.Scan.Steps+Zq x.Sort_.Steps+Zq x.Hash.Steps+Zq x.Merge.Steps+Zq x.Nested.Steps
theorem Zd.ct (x:Zd) (l:Int) (hx:x.okay) (h0:0≤l) (h1:l≤1048576) (h:0≤x.sz l):x.sz l≤l∧(Zw0 x:Int)≤16*(l - x.sz l):=by
 unfold Zd.sz at h ⊢
 simp only [andSz] at h ⊢
 split at h
 ·omega
 rename_i q0
 rw [if_neg q0]
 have s0:=Zi.ct x.Scan _ ⟨hx.1,hx.2.1,hx.2.2.1,hx.2.2.2.1,hx.2.2.2.2.1,hx.2.2.2.2.2.1⟩ h0 h1 (Int.not_lt.1 q0)
 split at h
 ·omega
 rename_i q1
 rw [if_neg q1]
 have s1:=Zi.ct x.Sort_ _ ⟨hx.2.2.2.2.2.2.1,hx.2.2.2.2.2.2.2.1,hx.2.2.2.2.2.2.2.2.1,hx.2.2.2.2.2.2.2.2.2.1,hx.2.2.2.2.2.2.2.2.2.2.1,hx.2.2.2.2.2.2.2.2.2.2.2.1⟩ (by omega) (by omega) (Int.not_lt.1 q1)
 split at h
 ·omega
 rename_i q2
 rw [if_neg q2]
 have s2:=Zi.ct x.Hash _ ⟨hx.2.2.2.2.2.2.2.2.2.2.2.2.1,hx.2.2.2.2.2.2.2.2.2.2.2.2.2.1,hx.2.2.2.2.2.2.2.2.2.2.2.2.2.2.1,hx.2.2.2.2.2.2.2.2.2.2.2.2.2.2.2.1,hx.2.2.2.2.2.2.2.2.2.2.2.2.2.2.2.2.1,hx.2.2.2.2.2.2.2.2.2.2.2.2.2.2.2.2.2.1⟩ (by omega) (by omega) (Int.not_lt.1 q2)
 split at h
 ·omega
 rename_i q3
 rw [if_neg q3]
 have s3:=Zi.ct x.Merge _ ⟨hx.2.2.2.2.2.2.2.2.2.2.2.2.2.2.2.2.2.2.1,hx.2.2.2.2.2.2.2.2.2.2.2.2.2.2.2.2.2.2.2.1,hx.2.2.2.2.2.2.2.2.2.2.2.2.2.2.2.2.2.2.2.2.1,hx.2.2.2.2.2.2.2.2.2.2.2.2.2.2.2.2.2.2.2.2.2.1,hx.2.2.2.2.2.2.2.2.2.2.2.2.2.2.2.2.2.2.2.2.2.2.1,hx.2.2.2.2.2.2.2.2.2.2.2.2.2.2.2.2.2.2.2.2.2.2.2.1⟩ (by omega) (by omega) (Int.not_lt.1 q3)
 split at h
 ·omega
 rename_i q4
 rw [if_neg q4]
 have s4:=Zi.ct x.Nested _ ⟨hx.2.2.2.2.2.2.2.2.2.2.2.2.2.2.2.2.2.2.2.2.2.2.2.2.1,hx.2.2.2.2.2.2.2.2.2.2.2.2.2.2.2.2.2.2.2.2.2.2.2.2.2.1,hx.2.2.2.2.2.2.2.2.2.2.2.2.2.2.2.2.2.2.2.2.2.2.2.2.2.2.1,hx.2.2.2.2.2.2.2.2.2.2.2.2.2.2.2.2.2.2.2.2.2.2.2.2.2.2.2.1,hx.2.2.2.2.2.2.2.2.2.2.2.2.2.2.2.2.2.2.2.2.2.2.2.2.2.2.2.2.1,hx.2.2.2.2.2.2.2.2.2.2.2.2.2.2.2.2.2.2.2.2.2.2.2.2.2.2.2.2.2⟩ (by omega) (by omega) (Int.not_lt.1 q4)
 refine ⟨by omega,?_⟩
 unfold Zw0
 have v0:Zjk x.Scan=Zq x.Scan.Steps:=rfl
 have v1:Zjk x.Sort_=Zq x.Sort_.Steps:=rfl
 have v2:Zjk x.Hash=Zq x.Hash.Steps:=rfl
 have v3:Zjk x.Merge=Zq x.Merge.Steps:=rfl
 have v4:Zjk x.Nested=Zq x.Nested.Steps:=rfl
 have v5:=Zks x.Scan.Steps
 have v6:=Zks x.Sort_.Steps
 have v7:=Zks x.Hash.Steps
 have v8:=Zks x.Merge.Steps
 have v9:=Zks x.Nested.Steps
 omega
theorem Zw1 (xs:List Zc):Zr xs=3*xs.length:=Zwy (fun _=>rfl) xs
def Zw2 (x:Plan):Nat:=Zr x.Steps
theorem Plan.ct (x:Plan) (l:Int) (hx:x.okay) (h0:0≤l) (h1:l≤1048576) (h:0≤x.sz l):x.sz l≤l∧(Zw2 x:Int)≤16*(l - x.sz l):=by
 unfold Plan.sz at h ⊢
 simp only [andSz] at h ⊢
 split at h
 ·omega
 rename_i q0
 rw [if_neg q0]
 have s0:=Zjj hx.1 h0 h1 (Int.not_lt.1 q0)
 refine ⟨by omega,?_⟩
 unfold Zw2
 have v0:=Zw1 x.Steps
 omega
def Zqp (x:Region):Nat:=Zr x.Plan.Steps+x.Box.Low.length+x.Box.High.length
theorem Region.ct (x:Region) (l:Int) (hx:x.okay) (h0:0≤l) (h1:l≤1048576) (h:0≤x.sz l):x.sz l≤l∧(Zqp x:Int)≤16*(l - x.sz l):=by
 unfold Region.sz at h ⊢
 simp only [andSz] at h ⊢
 split at h
 ·omega
 rename_i q0
 rw [if_neg q0]
 have s0:=Plan.ct x.Plan _ hx.1 h0 h1 (Int.not_lt.1 q0)
 split at h
 ·omega
 rename_i q1
 rw [if_neg q1]
 have s1:=Box.ct x.Box _ ⟨hx.2.1,hx.2.2.1⟩ (by omega) (by omega) (Int.not_lt.1 q1)
 refine ⟨by omega,?_⟩
 unfold Zqp
 have v0:Zw2 x.Plan=Zr x.Plan.Steps:=rfl
 have v1:nt_Box x.Box=x.Box.Low.length+x.Box.High.length:=rfl
 have v2:=Zw1 x.Plan.Steps
 omega
def Zw3 (x:Ze):Nat:=Zs x.Zb.Atoms+Zr x.Region.Plan.Steps+x.Region.Box.Low.length+x.Region.Box.High.length
theorem Ze.ct (x:Ze) (l:Int) (hx:x.okay) (h0:0≤l) (h1:l≤1048576) (h:0≤x.sz l):x.sz l≤l∧(Zw3 x:Int)≤16*(l - x.sz l):=by
 unfold Ze.sz at h ⊢
 simp only [andSz] at h ⊢
 split at h
 ·omega
 rename_i q0
 rw [if_neg q0]
 have s0:=Zb.ct x.Zb _ ⟨hx.1,hx.2.1⟩ h0 h1 (Int.not_lt.1 q0)
 split at h
 ·omega
 rename_i q1
 rw [if_neg q1]
 have s1:=Region.ct x.Region _ ⟨hx.2.2.1,hx.2.2.2.1,hx.2.2.2.2.1,hx.2.2.2.2.2.1⟩ (by omega) (by omega) (Int.not_lt.1 q1)
 refine ⟨by omega,?_⟩
 unfold Zw3
 have v0:Zqo x.Zb=Zs x.Zb.Atoms:=rfl
 have v1:Zqp x.Region=Zr x.Region.Plan.Steps+x.Region.Box.Low.length+x.Region.Box.High.length:=rfl
 have v2:Zs x.Zb.Atoms=cnL Zdb x.Zb.Atoms:=rfl
 have v3:=Zw1 x.Region.Plan.Steps
 omega
theorem Zbpj (x:Ze) (l:Int) (hx:x.okay) (h0:0≤l) (h1:l≤1048576) (h:0≤x.sz l):x.sz l≤l∧(Zcr x:Int)≤16+16*(l - x.sz l):=by
 have a:=Ze.ct x l hx h0 h1 h
 unfold Zw3 at a
 unfold Zcr
 omega
def Zw4 (x:Zn):Nat:=Z1 x.Entries
theorem Zn.ct (x:Zn) (l:Int) (hx:x.okay) (h0:0≤l) (h1:l≤1048576) (h:0≤x.sz l):x.sz l≤l∧(Zw4 x:Int)≤16*(l - x.sz l):=by
 unfold Zn.sz at h ⊢
 simp only [andSz] at h ⊢
 split at h
 ·omega
 rename_i q0
 rw [if_neg q0]
 have s0:=szL_ct (n:=Zcr) hx.2.1 (fun y hy l a b c=>Zbpj y l (hx.2.2 y hy) a b c) h0 h1 (Int.not_lt.1 q0)
 refine ⟨by omega,?_⟩
 unfold Zw4
 have v0:Z1 x.Entries=cnL Zcr x.Entries:=rfl
 omega
end Go.Proofs.YtbapkgocloaaeaaGreat
