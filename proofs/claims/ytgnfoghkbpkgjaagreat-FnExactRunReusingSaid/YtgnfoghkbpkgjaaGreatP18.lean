/-
  Parts of the proofs for this seat: MR MS SP SY L37.
-/
import Derived.Test.YtgnfoghkbpkgjaaGreatP16
import Derived.Test.YtgnfoghkbpkgjaaGreatP17
set_option linter.unusedSimpArgs false
set_option linter.unusedVariables false
set_option maxRecDepth 100000
set_option maxHeartbeats 4000000
namespace Go.Proofs.YtgnfoghkbpkgjaaGreat
open Go.AM
noncomputable section
theorem Zbm2(xs:List Int)(k:Int)(h1:0<=k)(h2:k+(xs.length:Int)<=4000000000000000000)(h3:SmA xs):C Z9o [L 1 ((mkI xs k).map ic),I k] []=some (I (k+xs.length),[]):=by
 refine run Zblc rfl ?_;have h4:=λfr=>Zb52 fr xs [] k h1 (by omega) (by have:xs.length<=4294967296:=h3;simp;omega)
 simp at h4;simp[Z57,h4]
theorem Zb55(k:Int):C Z9o [.t .nil,I k] []=some (I k,[]):=by
 refine run Zblc rfl ?_;simp[Z57,Zd Zsg.eq_1]
theorem Zbm3(xs:List Int)(k:Int)(h1:0<=k)(h2:k+(xs.length:Int)<=4000000000000000000)(h3:SmA xs):(xs.map ic=[]/\(mkI xs (k)).map ic=[]/\C Zpr [.t (.lst 1 []),I k] []=some (I (k+(xs.length:Int)),[]))\/∃y ys,xs.map ic=y::ys/\True/\C Zpr [.own 0,I k] [.xarr unk 1 (y::ys)]=some (I (k+(xs.length:Int)),[.xarr unk 1 ((mkI xs (k)).map ic)]):=by
 have c:=Zbm0 unk xs k h1 (by omega) h3
 cases xs with
 |nil=>exact .inl ⟨rfl,rfl,by have:=Zb50 1 k;simpa[mkI,mkL]using this⟩
 |cons y ys=>exact .inr ⟨_,_,rfl,trivial,c⟩
def Zjc(a:List Int)(k:Int):List Int:=mkI a k
def Zc5(a:List Int):Nat:=a.length
def Zcq(xs:List (List Int))(k:Int):List (List Int):=mkL Zjc Zc5 xs k
def Zv(xs:List (List Int)):Nat:=cnL Zc5 xs
theorem Zbm4(x:List Int)(xs:List (List Int))(k:Int):Zcq (x::xs) k=Zjc x k::Zcq xs (k+(Zc5 x:Int)):=rfl
theorem Zb56(e:Nat)(fr:List Fr):∀(xs d:List (List Int)) (k:Int),0<=k->k+(Zv xs:Int)<=4000000000000000000->d.length+xs.length<=4294967296->(∀x∈xs,SmA x)->EvL C fr [0,1,5] Zos ⟨[(0,.own 0),(1,I k),(5,I d.length)],[[(0,.own 0)]],[.xarr e 1 ((d++xs).map isc)]⟩ =
  EvX C fr (.x 0) ⟨[(0,.own 0),(1,I (k+Zv xs)),(5,I (d.length+xs.length)),(9,Bo false)],[[(0,.own 0)]],[.xarr e 1 ((d++Zcq xs k).map isc)]⟩:=by
 intro xs
 induction xs with
 |nil =>
  intro d k h1 h2 h3 h4;rw[Zd Zos.eq_1]
  simp[Zcq,Zv,cnL,mkL]
 |cons x xs ih =>
  intro d k h1 h2 h3 h4;have hx:=h4 x (by simp);have e0:Zv (x::xs)=Zc5 x+Zv xs:=rfl;rw[e0]at h2;simp only[Yr]at h3;have e1:Zc5 x=x.length:=rfl;have eK:k+(Zc5 x:Int)=k+(x.length:Int):=by omega
  have eL:k+(Zv (x::xs):Int)=k+(x.length:Int)+(Zv xs:Int):=by omega
  have ih':=ih (d++[Zjc x k]) (k+(x.length:Int)) (by omega) (by omega) (by simp;omega) (λy hy=>h4 y (by simp[hy]));rw[Zd Zos.eq_1,eL,Zbm4,eK];have g1:IntKind.wrap .i64 ((d.length:Int)+1)=(d.length:Int)+1:=Zo (by omega) (by omega);have g3:(d.length:Int)<(d.length:Int)+((xs.length:Int)+1):=by omega
  have g5:(d.length:Int)+1+(xs.length:Int)=(d.length:Int)+((xs.length:Int)+1):=by omega
  have m0:=Zbm3 x (k) (by omega) (by omega) hx;rcases m0 with⟨r0,s0,m0⟩|⟨y0,ys0,r0,s0,m0⟩
  all_goals (simp[g5,Zjc,tI,r0,s0]at ih';simp[g1,g3,m0,r0,s0,ih',Zjc,tI])
theorem Zbm5(e:Nat)(xs:List (List Int))(k:Int)(h1:0<=k)(h2:k+(Zv xs:Int)<=4000000000000000000)(h3:SmL SmA xs):C Zps [.own 0,I k] [.xarr e 1 (xs.map isc)]=some (I (k+Zv xs),[.xarr e 1 ((Zcq xs k).map isc)]):=by
 refine runM Z6b rfl ?_;have h4:=λfr=>Zb56 e fr xs [] k h1 h2 (by have:xs.length<=4294967296:=h3.1;simp;omega) h3.2
 simp at h4;simp[Zxk,h4]
theorem Zb57(n:Nat)(k:Int):C Zps [.t (.lst n []),I k] []=some (I k,[]):=by
 refine run Z6b rfl ?_;simp[Zxk,Zd Zos.eq_1]
theorem Zb58(k:Int):C Zps [.t .nil,I k] []=some (I k,[]):=by
 refine run Z6b rfl ?_;simp[Zxk,Zd Zos.eq_1]
theorem Zb59(xs:List (List Int))(k:Int)(h1:0<=k)(h2:k+(Zv xs:Int)<=4000000000000000000)(h3:SmL SmA xs):(xs.map isc=[]/\(Zcq xs (k)).map isc=[]/\C Zps [.t (.lst 1 []),I k] []=some (I (k+(Zv xs:Int)),[]))\/∃y ys,xs.map isc=y::ys/\True/\C Zps [.own 0,I k] [.xarr unk 1 (y::ys)]=some (I (k+(Zv xs:Int)),[.xarr unk 1 ((Zcq xs (k)).map isc)]):=by
 have c:=Zbm5 unk xs k h1 h2 h3
 cases xs with
 |nil=>exact .inl ⟨rfl,rfl,by have:=Zb57 1 k;simpa[Zcq,Zv,cnL,mkL]using this⟩
 |cons y ys=>exact .inr ⟨_,_,rfl,trivial,c⟩
def Zsr(a:Atom)(k:Int):Atom:=⟨mtext (k),mkI a.Vars (k+1)⟩
def Zgy(a:Atom):Nat:=1+a.Vars.length
def Zot(xs:List Atom)(k:Int):List Atom:=mkL Zsr Zgy xs k
def Zdh(xs:List Atom):Nat:=cnL Zgy xs
theorem Zb6a(x:Atom)(xs:List Atom)(k:Int):Zot (x::xs) k=Zsr x k::Zot xs (k+(Zgy x:Int)):=rfl
theorem Zb6b(e:Nat)(fr:List Fr):∀(xs d:List Atom) (k:Int),0<=k->k+(Zdh xs:Int)<=4000000000000000000->d.length+xs.length<=4294967296->(∀x∈xs,x.small)->EvL C fr [0,1,5] Zxj ⟨[(0,.own 0),(1,I k),(5,I d.length)],[[(0,.own 0)]],[.xarr e 2 ((d++xs).map Atom.c)]⟩ =
  EvX C fr (.x 0) ⟨[(0,.own 0),(1,I (k+Zdh xs)),(5,I (d.length+xs.length)),(9,Bo false)],[[(0,.own 0)]],[.xarr e 2 ((d++Zot xs k).map Atom.c)]⟩:=by
 intro xs
 induction xs with
 |nil =>
  intro d k h1 h2 h3 h4;rw[Zd Zxj.eq_1]
  simp[Zot,Zdh,cnL,mkL]
 |cons x xs ih =>
  intro d k h1 h2 h3 h4;have hx:=h4 x (by simp);have e0:Zdh (x::xs)=Zgy x+Zdh xs:=rfl;rw[e0]at h2;simp only[Yr]at h3;rcases x with⟨x0,x1⟩;have e1:Zgy ⟨x0,x1⟩=1+x1.length:=rfl;have eK:k+(Zgy ⟨x0,x1⟩:Int)=k+1+(x1.length:Int):=by omega
  have eL:k+(Zdh (⟨x0,x1⟩::xs):Int)=k+1+(x1.length:Int)+(Zdh xs:Int):=by omega
  have ih':=ih (d++[Zsr ⟨x0,x1⟩ k]) (k+1+(x1.length:Int)) (by omega) (by omega) (by simp;omega) (λy hy=>h4 y (by simp[hy]));rw[Zd Zxj.eq_1,eL,Zb6a,eK];have g1:IntKind.wrap .i64 ((d.length:Int)+1)=(d.length:Int)+1:=Zo (by omega) (by omega);have g3:(d.length:Int)<(d.length:Int)+((xs.length:Int)+1):=by omega
  have g5:(d.length:Int)+1+(xs.length:Int)=(d.length:Int)+((xs.length:Int)+1):=by omega
  have w0:IntKind.wrap .i64 (k+1)=k+1:=Zo (by omega) (by omega);have t0:=Zbm1 (k) (by omega) (by omega);have m0:=Zbm3 x1 (k+1) (by omega) (by omega) (by first|exact hx|exact hx.1|exact hx.2|exact hx.2.1|exact hx.2.2|exact hx.2.2.1|exact hx.2.2.2|exact hx.2.2.2.1|exact hx.2.2.2.2|exact hx.2.2.2.2.1|exact hx.2.2.2.2.2);rcases m0 with⟨r0,s0,m0⟩|⟨y0,ys0,r0,s0,m0⟩
  all_goals (simp[g5,Zsr,tI,r0,s0]at ih';simp[g1,g3,w0,t0,m0,r0,s0,ih',Zsr,tI])
theorem Zb6c(e:Nat)(xs:List Atom)(k:Int)(h1:0<=k)(h2:k+(Zdh xs:Int)<=4000000000000000000)(h3:SmL Atom.small xs):C Zbqp [.own 0,I k] [.xarr e 2 (xs.map Atom.c)]=some (I (k+Zdh xs),[.xarr e 2 ((Zot xs k).map Atom.c)]):=by
 refine runM Zb3t rfl ?_;have h4:=λfr=>Zb6b e fr xs [] k h1 h2 (by have:xs.length<=4294967296:=h3.1;simp;omega) h3.2
 simp at h4;simp[Zbl0,h4]
def Zss(a:Zg)(k:Int):Zg:=⟨k,k+1⟩
def Zou(a:Zg):Nat:=1+1
def Zf3(xs:List Zg)(k:Int):List Zg:=mkL Zss Zou xs k
def Zr(xs:List Zg):Nat:=cnL Zou xs
theorem Zb6d(x:Zg)(xs:List Zg)(k:Int):Zf3 (x::xs) k=Zss x k::Zf3 xs (k+(Zou x:Int)):=rfl
theorem Zb6e(e:Nat)(fr:List Fr):∀(xs d:List Zg) (k:Int),0<=k->k+(Zr xs:Int)<=4000000000000000000->d.length+xs.length<=4294967296->(∀x∈xs,x.small)->EvL C fr [0,1,5] Zxu ⟨[(0,.own 0),(1,I k),(5,I d.length)],[[(0,.own 0)]],[.xarr e 2 ((d++xs).map Zg.c)]⟩ =
  EvX C fr (.x 0) ⟨[(0,.own 0),(1,I (k+Zr xs)),(5,I (d.length+xs.length)),(9,Bo false)],[[(0,.own 0)]],[.xarr e 2 ((d++Zf3 xs k).map Zg.c)]⟩:=by
 intro xs
 induction xs with
 |nil =>
  intro d k h1 h2 h3 h4;rw[Zd Zxu.eq_1]
  simp[Zf3,Zr,cnL,mkL]
 |cons x xs ih =>
  intro d k h1 h2 h3 h4;have hx:=h4 x (by simp);have e0:Zr (x::xs)=Zou x+Zr xs:=rfl;rw[e0]at h2;simp only[Yr]at h3;rcases x with⟨x0,x1⟩;have e1:Zou ⟨x0,x1⟩=1+1:=rfl;have eK:k+(Zou ⟨x0,x1⟩:Int)=k+1+1:=by omega
  have eL:k+(Zr (⟨x0,x1⟩::xs):Int)=k+1+1+(Zr xs:Int):=by omega
  have ih':=ih (d++[Zss ⟨x0,x1⟩ k]) (k+1+1) (by omega) (by omega) (by simp;omega) (λy hy=>h4 y (by simp[hy]));rw[Zd Zxu.eq_1,eL,Zb6d,eK];have g1:IntKind.wrap .i64 ((d.length:Int)+1)=(d.length:Int)+1:=Zo (by omega) (by omega);have g3:(d.length:Int)<(d.length:Int)+((xs.length:Int)+1):=by omega
  have g5:(d.length:Int)+1+(xs.length:Int)=(d.length:Int)+((xs.length:Int)+1):=by omega
  have w0:IntKind.wrap .i64 (k+1)=k+1:=Zo (by omega) (by omega);have w1:IntKind.wrap .i64 (k+1+1)=k+1+1:=Zo (by omega) (by omega)
  (simp[g5,Zss,tI]at ih';simp[g1,g3,w0,w1,ih',Zss,tI])
theorem Zb6f(e:Nat)(xs:List Zg)(k:Int)(h1:0<=k)(h2:k+(Zr xs:Int)<=4000000000000000000)(h3:SmA xs):C Zbq7 [.own 0,I k] [.xarr e 2 (xs.map Zg.c)]=some (I (k+Zr xs),[.xarr e 2 ((Zf3 xs k).map Zg.c)]):=by
 refine runM Zb4b rfl ?_;have h4:=λfr=>Zb6e e fr xs [] k h1 h2 (by have:xs.length<=4294967296:=h3;simp;omega) (λ_ _=>trivial)
 simp at h4;simp[Zbmk,h4]
def Zjd(a:Kept)(k:Int):Kept:=⟨k,k+1⟩
def Zhv(a:Kept):Nat:=1+1
def Zgz(xs:List Kept)(k:Int):List Kept:=mkL Zjd Zhv xs k
def Zbz(xs:List Kept):Nat:=cnL Zhv xs
theorem Zbm6(x:Kept)(xs:List Kept)(k:Int):Zgz (x::xs) k=Zjd x k::Zgz xs (k+(Zhv x:Int)):=rfl
theorem Zb6g(e:Nat)(fr:List Fr):∀(xs d:List Kept) (k:Int),0<=k->k+(Zbz xs:Int)<=4000000000000000000->d.length+xs.length<=4294967296->(∀x∈xs,x.small)->EvL C fr [0,1,5] Zxd ⟨[(0,.own 0),(1,I k),(5,I d.length)],[[(0,.own 0)]],[.xarr e 2 ((d++xs).map Kept.c)]⟩ =
  EvX C fr (.x 0) ⟨[(0,.own 0),(1,I (k+Zbz xs)),(5,I (d.length+xs.length)),(9,Bo false)],[[(0,.own 0)]],[.xarr e 2 ((d++Zgz xs k).map Kept.c)]⟩:=by
 intro xs
 induction xs with
 |nil =>
  intro d k h1 h2 h3 h4;rw[Zd Zxd.eq_1]
  simp[Zgz,Zbz,cnL,mkL]
 |cons x xs ih =>
  intro d k h1 h2 h3 h4;have hx:=h4 x (by simp);have e0:Zbz (x::xs)=Zhv x+Zbz xs:=rfl;rw[e0]at h2;simp only[Yr]at h3;rcases x with⟨x0,x1⟩;have e1:Zhv ⟨x0,x1⟩=1+1:=rfl;have eK:k+(Zhv ⟨x0,x1⟩:Int)=k+1+1:=by omega
  have eL:k+(Zbz (⟨x0,x1⟩::xs):Int)=k+1+1+(Zbz xs:Int):=by omega
  have ih':=ih (d++[Zjd ⟨x0,x1⟩ k]) (k+1+1) (by omega) (by omega) (by simp;omega) (λy hy=>h4 y (by simp[hy]));rw[Zd Zxd.eq_1,eL,Zbm6,eK];have g1:IntKind.wrap .i64 ((d.length:Int)+1)=(d.length:Int)+1:=Zo (by omega) (by omega);have g3:(d.length:Int)<(d.length:Int)+((xs.length:Int)+1):=by omega
  have g5:(d.length:Int)+1+(xs.length:Int)=(d.length:Int)+((xs.length:Int)+1):=by omega
  have w0:IntKind.wrap .i64 (k+1)=k+1:=Zo (by omega) (by omega);have w1:IntKind.wrap .i64 (k+1+1)=k+1+1:=Zo (by omega) (by omega)
  (simp[g5,Zjd,tI]at ih';simp[g1,g3,w0,w1,ih',Zjd,tI])
theorem Zov(e:Nat)(xs:List Kept)(k:Int)(h1:0<=k)(h2:k+(Zbz xs:Int)<=4000000000000000000)(h3:SmA xs):C Zbqc [.own 0,I k] [.xarr e 2 (xs.map Kept.c)]=some (I (k+Zbz xs),[.xarr e 2 ((Zgz xs k).map Kept.c)]):=by
 refine runM Zb3g rfl ?_;have h4:=λfr=>Zb6g e fr xs [] k h1 h2 (by have:xs.length<=4294967296:=h3;simp;omega) (λ_ _=>trivial)
 simp at h4;simp[Zblo,h4]
theorem Zb6h(fr:List Fr):∀(xs d:List Kept) (k:Int),0<=k->k+(Zbz xs:Int)<=4000000000000000000->d.length+xs.length<=4294967296->(∀x∈xs,x.small)->EvL C fr [0,1,5] Zxe ⟨[(0,L 2 ((d++Zgz xs k).map Kept.c)),(1,I k),(5,I d.length)],[[]],[]⟩ =
  EvX C fr (.x 0) ⟨[(0,L 2 ((d++Zgz xs k).map Kept.c)),(1,I (k+Zbz xs)),(5,I (d.length+xs.length)),(9,Bo false)],[[]],[]⟩:=by
 intro xs
 induction xs with
 |nil =>
  intro d k h1 h2 h3 h4;rw[Zd Zxe.eq_1]
  simp[Zgz,Zbz,cnL,mkL]
 |cons x xs ih =>
  intro d k h1 h2 h3 h4;have hx:=h4 x (by simp);have e0:Zbz (x::xs)=Zhv x+Zbz xs:=rfl;rw[e0]at h2;simp only[Yr]at h3;rcases x with⟨x0,x1⟩;have e1:Zhv ⟨x0,x1⟩=1+1:=rfl;have eK:k+(Zhv ⟨x0,x1⟩:Int)=k+1+1:=by omega
  have eL:k+(Zbz (⟨x0,x1⟩::xs):Int)=k+1+1+(Zbz xs:Int):=by omega
  have ih':=ih (d++[Zjd ⟨x0,x1⟩ k]) (k+1+1) (by omega) (by omega) (by simp;omega) (λy hy=>h4 y (by simp[hy]));rw[Zd Zxe.eq_1,eL,Zbm6,eK];have g1:IntKind.wrap .i64 ((d.length:Int)+1)=(d.length:Int)+1:=Zo (by omega) (by omega);have g3:(d.length:Int)<(d.length:Int)+(((Zgz xs (k+1+1)).length:Int)+1):=by omega
  have g5:(d.length:Int)+1+(xs.length:Int)=(d.length:Int)+((xs.length:Int)+1):=by omega
  have w0:IntKind.wrap .i64 (k+1)=k+1:=Zo (by omega) (by omega);have w1:IntKind.wrap .i64 (k+1+1)=k+1+1:=Zo (by omega) (by omega);simp[g5,Zjd,tI]at ih';simp +decide[g1,g3,w0,w1,ih',Zjd,tI]
theorem Zst(xs:List Kept)(k:Int)(h1:0<=k)(h2:k+(Zbz xs:Int)<=4000000000000000000)(h3:SmA xs):C Zbqd [L 2 ((Zgz xs k).map Kept.c),I k] []=some (I (k+Zbz xs),[]):=by
 refine run Zb3h rfl ?_;have h4:=λfr=>Zb6h fr xs [] k h1 h2 (by have:xs.length<=4294967296:=h3;simp;omega) (λ_ _=>trivial)
 simp at h4;simp[Zblp,h4]
def Zje(a:Zh)(k:Int):Zh:=⟨k,k+1,decide ((k+1+1).tmod 3=0)⟩
def Zg0(a:Zh):Nat:=1+1+1
def Zd8(xs:List Zh)(k:Int):List Zh:=mkL Zje Zg0 xs k
def Z1(xs:List Zh):Nat:=cnL Zg0 xs
theorem Zbm7(x:Zh)(xs:List Zh)(k:Int):Zd8 (x::xs) k=Zje x k::Zd8 xs (k+(Zg0 x:Int)):=rfl
theorem Zb6i(e:Nat)(fr:List Fr):∀(xs d:List Zh) (k:Int),0<=k->k+(Z1 xs:Int)<=4000000000000000000->d.length+xs.length<=4294967296->(∀x∈xs,x.small)->EvL C fr [0,1,5] Zsl ⟨[(0,.own 0),(1,I k),(5,I d.length)],[[(0,.own 0)]],[.xarr e 3 ((d++xs).map Zh.c)]⟩ =
  EvX C fr (.x 0) ⟨[(0,.own 0),(1,I (k+Z1 xs)),(5,I (d.length+xs.length)),(9,Bo false)],[[(0,.own 0)]],[.xarr e 3 ((d++Zd8 xs k).map Zh.c)]⟩:=by
 intro xs
 induction xs with
 |nil =>
  intro d k h1 h2 h3 h4;rw[Zd Zsl.eq_1]
  simp[Zd8,Z1,cnL,mkL]
 |cons x xs ih =>
  intro d k h1 h2 h3 h4;have hx:=h4 x (by simp);have e0:Z1 (x::xs)=Zg0 x+Z1 xs:=rfl;rw[e0]at h2;simp only[Yr]at h3;rcases x with⟨x0,x1,x2⟩;have e1:Zg0 ⟨x0,x1,x2⟩=1+1+1:=rfl;have eK:k+(Zg0 ⟨x0,x1,x2⟩:Int)=k+1+1+1:=by omega
  have eL:k+(Z1 (⟨x0,x1,x2⟩::xs):Int)=k+1+1+1+(Z1 xs:Int):=by omega
  have ih':=ih (d++[Zje ⟨x0,x1,x2⟩ k]) (k+1+1+1) (by omega) (by omega) (by simp;omega) (λy hy=>h4 y (by simp[hy]));rw[Zd Zsl.eq_1,eL,Zbm7,eK];have g1:IntKind.wrap .i64 ((d.length:Int)+1)=(d.length:Int)+1:=Zo (by omega) (by omega);have g3:(d.length:Int)<(d.length:Int)+((xs.length:Int)+1):=by omega
  have g5:(d.length:Int)+1+(xs.length:Int)=(d.length:Int)+((xs.length:Int)+1):=by omega
  have w0:IntKind.wrap .i64 (k+1)=k+1:=Zo (by omega) (by omega);have w1:IntKind.wrap .i64 (k+1+1)=k+1+1:=Zo (by omega) (by omega);have w2:IntKind.wrap .i64 (k+1+1+1)=k+1+1+1:=Zo (by omega) (by omega)
  (simp[g5,Zje,tI]at ih';simp[g1,g3,w0,w1,w2,ih',Zje,tI])
theorem Zbm8(e:Nat)(xs:List Zh)(k:Int)(h1:0<=k)(h2:k+(Z1 xs:Int)<=4000000000000000000)(h3:SmA xs):C Z9p [.own 0,I k] [.xarr e 3 (xs.map Zh.c)]=some (I (k+Z1 xs),[.xarr e 3 ((Zd8 xs k).map Zh.c)]):=by
 refine runM Zbl9 rfl ?_;have h4:=λfr=>Zb6i e fr xs [] k h1 h2 (by have:xs.length<=4294967296:=h3;simp;omega) (λ_ _=>trivial)
 simp at h4;simp[Z6e,h4]
theorem Zbm9(k:Int):C Z9p [.t .nil,I k] []=some (I k,[]):=by
 refine run Zbl9 rfl ?_;simp[Z6e,Zd Zsl.eq_1]
theorem Zb6j(fr:List Fr):∀(xs d:List Zh) (k:Int),0<=k->k+(Z1 xs:Int)<=4000000000000000000->d.length+xs.length<=4294967296->(∀x∈xs,x.small)->EvL C fr [0,1,5] Zsm ⟨[(0,L 3 ((d++Zd8 xs k).map Zh.c)),(1,I k),(5,I d.length)],[[]],[]⟩ =
  EvX C fr (.x 0) ⟨[(0,L 3 ((d++Zd8 xs k).map Zh.c)),(1,I (k+Z1 xs)),(5,I (d.length+xs.length)),(9,Bo false)],[[]],[]⟩:=by
 intro xs
 induction xs with
 |nil =>
  intro d k h1 h2 h3 h4;rw[Zd Zsm.eq_1]
  simp[Zd8,Z1,cnL,mkL]
 |cons x xs ih =>
  intro d k h1 h2 h3 h4;have hx:=h4 x (by simp);have e0:Z1 (x::xs)=Zg0 x+Z1 xs:=rfl;rw[e0]at h2;simp only[Yr]at h3;rcases x with⟨x0,x1,x2⟩;have e1:Zg0 ⟨x0,x1,x2⟩=1+1+1:=rfl;have eK:k+(Zg0 ⟨x0,x1,x2⟩:Int)=k+1+1+1:=by omega
  have eL:k+(Z1 (⟨x0,x1,x2⟩::xs):Int)=k+1+1+1+(Z1 xs:Int):=by omega
  have ih':=ih (d++[Zje ⟨x0,x1,x2⟩ k]) (k+1+1+1) (by omega) (by omega) (by simp;omega) (λy hy=>h4 y (by simp[hy]));rw[Zd Zsm.eq_1,eL,Zbm7,eK];have g1:IntKind.wrap .i64 ((d.length:Int)+1)=(d.length:Int)+1:=Zo (by omega) (by omega);have g3:(d.length:Int)<(d.length:Int)+(((Zd8 xs (k+1+1+1)).length:Int)+1):=by omega
  have g5:(d.length:Int)+1+(xs.length:Int)=(d.length:Int)+((xs.length:Int)+1):=by omega
  have w0:IntKind.wrap .i64 (k+1)=k+1:=Zo (by omega) (by omega);have w1:IntKind.wrap .i64 (k+1+1)=k+1+1:=Zo (by omega) (by omega);have w2:IntKind.wrap .i64 (k+1+1+1)=k+1+1+1:=Zo (by omega) (by omega);simp[g5,Zje,tI]at ih';simp +decide[g1,g3,w0,w1,w2,ih',Zje,tI]
theorem Zbna(xs:List Zh)(k:Int)(h1:0<=k)(h2:k+(Z1 xs:Int)<=4000000000000000000)(h3:SmA xs):C Z9r [L 3 ((Zd8 xs k).map Zh.c),I k] []=some (I (k+Z1 xs),[]):=by
 refine run Zbmb rfl ?_;have h4:=λfr=>Zb6j fr xs [] k h1 h2 (by have:xs.length<=4294967296:=h3;simp;omega) (λ_ _=>trivial)
 simp at h4;simp[Z6g,h4]
theorem Zbnb(k:Int):C Z9r [.t .nil,I k] []=some (I k,[]):=by
 refine run Zbmb rfl ?_;simp[Z6g,Zd Zsm.eq_1]
def Zsu(a:Zf)(k:Int):Zf:=⟨k,k+1,k+1+1⟩
def Zow(a:Zf):Nat:=1+1+1
def Zox(xs:List Zf)(k:Int):List Zf:=mkL Zsu Zow xs k
def Zdv(xs:List Zf):Nat:=cnL Zow xs
theorem Zb6k(x:Zf)(xs:List Zf)(k:Int):Zox (x::xs) k=Zsu x k::Zox xs (k+(Zow x:Int)):=rfl
theorem Zb6l(e:Nat)(fr:List Fr):∀(xs d:List Zf) (k:Int),0<=k->k+(Zdv xs:Int)<=4000000000000000000->d.length+xs.length<=4294967296->(∀x∈xs,x.small)->EvL C fr [0,1,5] Zxp ⟨[(0,.own 0),(1,I k),(5,I d.length)],[[(0,.own 0)]],[.xarr e 3 ((d++xs).map Zf.c)]⟩ =
  EvX C fr (.x 0) ⟨[(0,.own 0),(1,I (k+Zdv xs)),(5,I (d.length+xs.length)),(9,Bo false)],[[(0,.own 0)]],[.xarr e 3 ((d++Zox xs k).map Zf.c)]⟩:=by
 intro xs
 induction xs with
 |nil =>
  intro d k h1 h2 h3 h4;rw[Zd Zxp.eq_1]
  simp[Zox,Zdv,cnL,mkL]
 |cons x xs ih =>
  intro d k h1 h2 h3 h4;have hx:=h4 x (by simp);have e0:Zdv (x::xs)=Zow x+Zdv xs:=rfl;rw[e0]at h2;simp only[Yr]at h3;rcases x with⟨x0,x1,x2⟩;have e1:Zow ⟨x0,x1,x2⟩=1+1+1:=rfl;have eK:k+(Zow ⟨x0,x1,x2⟩:Int)=k+1+1+1:=by omega
  have eL:k+(Zdv (⟨x0,x1,x2⟩::xs):Int)=k+1+1+1+(Zdv xs:Int):=by omega
  have ih':=ih (d++[Zsu ⟨x0,x1,x2⟩ k]) (k+1+1+1) (by omega) (by omega) (by simp;omega) (λy hy=>h4 y (by simp[hy]));rw[Zd Zxp.eq_1,eL,Zb6k,eK];have g1:IntKind.wrap .i64 ((d.length:Int)+1)=(d.length:Int)+1:=Zo (by omega) (by omega);have g3:(d.length:Int)<(d.length:Int)+((xs.length:Int)+1):=by omega
  have g5:(d.length:Int)+1+(xs.length:Int)=(d.length:Int)+((xs.length:Int)+1):=by omega
  have w0:IntKind.wrap .i64 (k+1)=k+1:=Zo (by omega) (by omega);have w1:IntKind.wrap .i64 (k+1+1)=k+1+1:=Zo (by omega) (by omega);have w2:IntKind.wrap .i64 (k+1+1+1)=k+1+1+1:=Zo (by omega) (by omega)
  (simp[g5,Zsu,tI]at ih';simp[g1,g3,w0,w1,w2,ih',Zsu,tI])
theorem Zb6m(e:Nat)(xs:List Zf)(k:Int)(h1:0<=k)(h2:k+(Zdv xs:Int)<=4000000000000000000)(h3:SmA xs):C Zbqv [.own 0,I k] [.xarr e 3 (xs.map Zf.c)]=some (I (k+Zdv xs),[.xarr e 3 ((Zox xs k).map Zf.c)]):=by
 refine runM Zb3z rfl ?_;have h4:=λfr=>Zb6l e fr xs [] k h1 h2 (by have:xs.length<=4294967296:=h3;simp;omega) (λ_ _=>trivial)
 simp at h4;simp[Zbl4,h4]
def Zsv(a:Zj)(k:Int):Zj:=⟨mtext (k),k+1,Zcq a.Rows (k+1+1)⟩
def Zg1(a:Zj):Nat:=1+1+Zv a.Rows
def Zoy(xs:List Zj)(k:Int):List Zj:=mkL Zsv Zg1 xs k
def Zc6(xs:List Zj):Nat:=cnL Zg1 xs
theorem Zb6n(x:Zj)(xs:List Zj)(k:Int):Zoy (x::xs) k=Zsv x k::Zoy xs (k+(Zg1 x:Int)):=rfl
theorem Zb6o(e:Nat)(fr:List Fr):∀(xs d:List Zj) (k:Int),0<=k->k+(Zc6 xs:Int)<=4000000000000000000->d.length+xs.length<=4294967296->(∀x∈xs,x.small)->EvL C fr [0,1,5] Zxo ⟨[(0,.own 0),(1,I k),(5,I d.length)],[[(0,.own 0)]],[.xarr e 3 ((d++xs).map Zj.c)]⟩ =
  EvX C fr (.x 0) ⟨[(0,.own 0),(1,I (k+Zc6 xs)),(5,I (d.length+xs.length)),(9,Bo false)],[[(0,.own 0)]],[.xarr e 3 ((d++Zoy xs k).map Zj.c)]⟩:=by
 intro xs
 induction xs with
 |nil =>
  intro d k h1 h2 h3 h4;rw[Zd Zxo.eq_1]
  simp[Zoy,Zc6,cnL,mkL]
 |cons x xs ih =>
  intro d k h1 h2 h3 h4;have hx:=h4 x (by simp);have e0:Zc6 (x::xs)=Zg1 x+Zc6 xs:=rfl;rw[e0]at h2;simp only[Yr]at h3;rcases x with⟨x0,x1,x2⟩;have e1:Zg1 ⟨x0,x1,x2⟩=1+1+Zv x2:=rfl;have eK:k+(Zg1 ⟨x0,x1,x2⟩:Int)=k+1+1+(Zv x2:Int):=by omega
  have eL:k+(Zc6 (⟨x0,x1,x2⟩::xs):Int)=k+1+1+(Zv x2:Int)+(Zc6 xs:Int):=by omega
  have ih':=ih (d++[Zsv ⟨x0,x1,x2⟩ k]) (k+1+1+(Zv x2:Int)) (by omega) (by omega) (by simp;omega) (λy hy=>h4 y (by simp[hy]));rw[Zd Zxo.eq_1,eL,Zb6n,eK];have g1:IntKind.wrap .i64 ((d.length:Int)+1)=(d.length:Int)+1:=Zo (by omega) (by omega);have g3:(d.length:Int)<(d.length:Int)+((xs.length:Int)+1):=by omega
  have g5:(d.length:Int)+1+(xs.length:Int)=(d.length:Int)+((xs.length:Int)+1):=by omega
  have w0:IntKind.wrap .i64 (k+1)=k+1:=Zo (by omega) (by omega);have w1:IntKind.wrap .i64 (k+1+1)=k+1+1:=Zo (by omega) (by omega);have t0:=Zbm1 (k) (by omega) (by omega);have m0:=Zb59 x2 (k+1+1) (by omega) (by omega) (by first|exact hx|exact hx.1|exact hx.2|exact hx.2.1|exact hx.2.2|exact hx.2.2.1|exact hx.2.2.2|exact hx.2.2.2.1|exact hx.2.2.2.2|exact hx.2.2.2.2.1|exact hx.2.2.2.2.2);rcases m0 with⟨r0,s0,m0⟩|⟨y0,ys0,r0,s0,m0⟩
  all_goals (simp[g5,Zsv,tI,tII,r0,s0]at ih';simp[g1,g3,w0,w1,t0,m0,r0,s0,ih',Zsv,tI,tII])
theorem Zb6p(e:Nat)(xs:List Zj)(k:Int)(h1:0<=k)(h2:k+(Zc6 xs:Int)<=4000000000000000000)(h3:SmL Zj.small xs):C Zbqu [.own 0,I k] [.xarr e 3 (xs.map Zj.c)]=some (I (k+Zc6 xs),[.xarr e 3 ((Zoy xs k).map Zj.c)]):=by
 refine runM Zb3y rfl ?_;have h4:=λfr=>Zb6o e fr xs [] k h1 h2 (by have:xs.length<=4294967296:=h3.1;simp;omega) h3.2
 simp at h4;simp[Zbl3,h4]
theorem Zb6q(e0:Nat)(x0:List Zj)(k:Int)(h1:0<=k)(h2:k+(Zc6 x0:Int)<=4000000000000000000)(sx0:SmL Zj.small x0):C Zbp4 [.agg [.own 0],I k] [.xarr e0 3 (x0.map Zj.c)]=some (I (k+(Zc6 x0:Int)),[.xarr e0 3 ((Zoy x0 (k)).map Zj.c)]):=by
 refine runM Zb28 rfl ?_;have m0:=Zb6p e0 x0 (k) (by omega) (by omega) sx0;simp[Zblh,m0]
theorem Zsw(e0:Nat)(x0 x1 x2 x3 x4:Int)(x5:List Zg)(k:Int)(h1:0<=k)(h2:k+(Zr x5:Int)<=4000000000000000000)(sx5:SmA x5):C Zbqo [.agg [I x0,I x1,I x2,I x3,I x4,.own 0],I k] [.xarr e0 2 (x5.map Zg.c)]=some (I (k+(Zr x5:Int)),[.xarr e0 2 ((Zf3 x5 (k)).map Zg.c)]):=by
 refine runM Zb3s rfl ?_;have m0:=Zb6f e0 x5 (k) (by omega) (by omega) sx5;simp[Zblz,m0]
theorem Zb6r(e0 e1 e2 e3 e4:Nat)(x0 x1 x2 x3 x4:Int)(x5:List Zg)(x6 x7 x8 x9 x10:Int)(x11:List Zg)(x12 x13 x14 x15 x16:Int)(x17:List Zg)(x18 x19 x20 x21 x22:Int)(x23:List Zg)(x24 x25 x26 x27 x28:Int)(x29:List Zg)(k:Int)(h1:0<=k)(h2:k+(Zr x5:Int)+(Zr x11:Int)+(Zr x17:Int)+(Zr x23:Int)+(Zr x29:Int)<=4000000000000000000)(sx5:SmA x5)(sx11:SmA x11)(sx17:SmA x17)(sx23:SmA x23)(sx29:SmA x29):C Zbpy [.agg [I x0,I x1,I x2,I x3,I x4,.own 0,I x6,I x7,I x8,I x9,I x10,.own 1,I x12,I x13,I x14,I x15,I x16,.own 2,I x18,I x19,I x20,I x21,I x22,.own 3,I x24,I x25,I x26,I x27,I x28,.own 4],I k] [.xarr e0 2 (x5.map Zg.c),.xarr e1 2 (x11.map Zg.c),.xarr e2 2 (x17.map Zg.c),.xarr e3 2 (x23.map Zg.c),.xarr e4 2 (x29.map Zg.c)]=some (I (k+(Zr x5:Int)+(Zr x11:Int)+(Zr x17:Int)+(Zr x23:Int)+(Zr x29:Int)),[.xarr e0 2 ((Zf3 x5 (k)).map Zg.c),.xarr e1 2 ((Zf3 x11 (k+(Zr x5:Int))).map Zg.c),.xarr e2 2 ((Zf3 x17 (k+(Zr x5:Int)+(Zr x11:Int))).map Zg.c),.xarr e3 2 ((Zf3 x23 (k+(Zr x5:Int)+(Zr x11:Int)+(Zr x17:Int))).map Zg.c),.xarr e4 2 ((Zf3 x29 (k+(Zr x5:Int)+(Zr x11:Int)+(Zr x17:Int)+(Zr x23:Int))).map Zg.c)]):=by
 refine runM Zb22 rfl ?_;have m0:=Zsw e0 x0 x1 x2 x3 x4 x5 (k) (by omega) (by omega) sx5;have m1:=Zsw e1 x6 x7 x8 x9 x10 x11 (k+(Zr x5:Int)) (by omega) (by omega) sx11;have m2:=Zsw e2 x12 x13 x14 x15 x16 x17 (k+(Zr x5:Int)+(Zr x11:Int)) (by omega) (by omega) sx17;have m3:=Zsw e3 x18 x19 x20 x21 x22 x23 (k+(Zr x5:Int)+(Zr x11:Int)+(Zr x17:Int)) (by omega) (by omega) sx23;have m4:=Zsw e4 x24 x25 x26 x27 x28 x29 (k+(Zr x5:Int)+(Zr x11:Int)+(Zr x17:Int)+(Zr x23:Int)) (by omega) (by omega) sx29;simp[Zbla,m0,m1,m2,m3,m4]
theorem Zb6s(e0:Nat)(x0:List Zf)(k:Int)(h1:0<=k)(h2:k+(Zdv x0:Int)<=4000000000000000000)(sx0:SmA x0):C Zbp5 [.agg [.own 0],I k] [.xarr e0 3 (x0.map Zf.c)]=some (I (k+(Zdv x0:Int)),[.xarr e0 3 ((Zox x0 (k)).map Zf.c)]):=by
 refine runM Zb29 rfl ?_;have m0:=Zb6m e0 x0 (k) (by omega) (by omega) sx0;simp[Zbli,m0]
theorem Zb6t(e0:Nat)(x0:Int)(x1:List Atom)(k:Int)(h1:0<=k)(h2:k+(Zdh x1:Int)<=4000000000000000000)(sx1:SmL Atom.small x1):C Zbpz [.agg [I x0,.own 0],I k] [.xarr e0 2 (x1.map Atom.c)]=some (I (k+(Zdh x1:Int)),[.xarr e0 2 ((Zot x1 (k)).map Atom.c)]):=by
 refine runM Zb23 rfl ?_;have m0:=Zb6c e0 x1 (k) (by omega) (by omega) sx1;simp[Zblb,m0]
theorem Zf4{n:Nat}{left:Int}(hn:n<=maxLen)(h0:0<=left)(h1:left<=1048576)(h:0<=sz1 n left):sz1 n left<=left/\(n:Int)<=left-sz1 n left:=by
 unfold maxLen at hn;have hw:IntKind.wrap .i64 (left-n)=left-n:=Zo (by omega) (by omega);unfold sz1 at h|-;rw[hw]at h|-;split at h
 .omega
 .rename_i hx;rw[if_neg hx];omega
theorem Zbnc{α:Type}{f:α->Int->Int}{n:α->Nat}{M:Int}:∀(xs:List α) (left:Int),(∀x∈xs,∀l,0<=l->l<=M->0<=f x l->f x l<=l/\(n x:Int)<=16+16*(l-f x l))->0<=left->left<=M->0<=Zcd f xs left->Zcd f xs left<=left/\(cnL n xs:Int)<=16*(xs.length:Int)+16*(left-Zcd f xs left)
 |[],left,_,_,_,h=>by simp[Zcd,cnL]
 |x::xs,left,hf,h0,h1,h=>by
  unfold Zcd at h|-;split at h
  .omega
  .rename_i hx;rw[if_neg hx];obtain⟨h2,h3⟩:=hf x (by simp) left h0 h1 (by omega);obtain⟨h4,h5⟩:=Zbnc xs (f x left) (λy hy=>hf y (by simp[hy])) (by omega) (by omega) h;have e:cnL n (x::xs)=n x+cnL n xs:=rfl;rw[e,Yr];omega
theorem Zxv{α:Type}{f:α->Int->Int}{n:α->Nat}{xs:List α}{left:Int}(hn:xs.length<=maxLen)(hf:∀x∈xs,∀l,0<=l->l<=1048576->0<=f x l->f x l<=l/\(n x:Int)<=16+16*(l-f x l))(h0:0<=left)(h1:left<=1048576)(h:0<=szL f xs left) :
  szL f xs left<=left/\(cnL n xs:Int)<=16*(left-szL f xs left):=by
 unfold szL Zy at h|-;split at h
 .omega
 .rename_i hx;rw[if_neg hx];have a:=Zf4 hn h0 h1 (by omega);have b:=Zbnc xs _ hf (by omega) (by omega) h;omega
theorem Zsx{α:Type}{n:α->Nat}{c:Nat}(h:∀x,n x=c):∀xs:List α,cnL n xs=c*xs.length
 |[]=>rfl
 |x::xs=>by
  have e:cnL n (x::xs)=n x+cnL n xs:=rfl;rw[e,h,Zsx h xs,Yr,Yc8,Nat.add_comm]
theorem Zbnd(x:List Int)(l:Int)(hx:x.length<=maxLen)(h0:0<=l)(h1:l<=1048576)(h:0<=szI x l):szI x l<=l/\(Zc5 x:Int)<=16+16*(l-szI x l):=by
 have a:=Zf4 hx h0 h1 h;unfold Zc5;have e:szI x l=sz1 x.length l:=rfl;rw[e];omega
def Z6m(x:Zj):Nat:=Zv x.Rows
theorem Zj.ct(x:Zj)(l:Int)(hx:x.okay)(h0:0<=l)(h1:l<=1048576)(h:0<=x.sz l):x.sz l<=l/\(Z6m x:Int)<=16*(l-x.sz l):=by
 unfold Zj.sz at h|-;simp only[Zy]at h|-;split at h
 .omega
 rename_i q0;rw[if_neg q0];have s0:=Zf4 hx.1 h0 h1 (Yl.1 q0);split at h
 .omega
 rename_i q1;rw[if_neg q1];have s1:=Zxv (f:=szI) (n:=Zc5) hx.2.2.1 (λy hy l a b c=>Zbnd y l (hx.2.2.2 y hy).1 a b c) (by omega) (by omega) (Yl.1 q1);refine⟨by omega,?_⟩;unfold Z6m;have v0:Zv x.Rows=cnL Zc5 x.Rows:=rfl;omega
theorem Zb6u(x:Zj)(l:Int)(hx:x.okay)(h0:0<=l)(h1:l<=1048576)(h:0<=x.sz l):x.sz l<=l/\(Zg1 x:Int)<=16+16*(l-x.sz l):=by
 have a:=Zj.ct x l hx h0 h1 h;unfold Z6m at a;unfold Zg1;omega
def Z6n(x:Zl):Nat:=Zc6 x.Tables
theorem Zl.ct(x:Zl)(l:Int)(hx:x.okay)(h0:0<=l)(h1:l<=1048576)(h:0<=x.sz l):x.sz l<=l/\(Z6n x:Int)<=16*(l-x.sz l):=by
 unfold Zl.sz at h|-;simp only[Zy]at h|-;split at h
 .omega
 rename_i q0;rw[if_neg q0];have s0:=Zxv (n:=Zg1) hx.1 (λy hy l a b c=>Zb6u y l (hx.2 y hy) a b c) h0 h1 (Yl.1 q0);refine⟨by omega,?_⟩;unfold Z6n;have v0:Zc6 x.Tables=cnL Zg1 x.Tables:=rfl;omega
def Z6o(x:Atom):Nat:=x.Vars.length
theorem Atom.ct(x:Atom)(l:Int)(hx:x.okay)(h0:0<=l)(h1:l<=1048576)(h:0<=x.sz l):x.sz l<=l/\(Z6o x:Int)<=16*(l-x.sz l):=by
 unfold Atom.sz at h|-;simp only[Zy]at h|-;split at h
 .omega
 rename_i q0;rw[if_neg q0];have s0:=Zf4 hx.1 h0 h1 (Yl.1 q0);split at h
 .omega
 rename_i q1;rw[if_neg q1];have s1:=Zf4 hx.2.1 (by omega) (by omega) (Yl.1 q1);refine⟨by omega,?_⟩;unfold Z6o;omega
theorem Zb6v(x:Atom)(l:Int)(hx:x.okay)(h0:0<=l)(h1:l<=1048576)(h:0<=x.sz l):x.sz l<=l/\(Zgy x:Int)<=16+16*(l-x.sz l):=by
 have a:=Atom.ct x l hx h0 h1 h;unfold Z6o at a;unfold Zgy;omega
def Z6p(x:Ze):Nat:=Zdh x.Atoms
theorem Ze.ct(x:Ze)(l:Int)(hx:x.okay)(h0:0<=l)(h1:l<=1048576)(h:0<=x.sz l):x.sz l<=l/\(Z6p x:Int)<=16*(l-x.sz l):=by
 unfold Ze.sz at h|-;simp only[Zy]at h|-;split at h
 .omega
 rename_i q0;rw[if_neg q0];have s0:=Zxv (n:=Zgy) hx.2.1 (λy hy l a b c=>Zb6v y l (hx.2.2 y hy) a b c) h0 h1 (Yl.1 q0);refine⟨by omega,?_⟩;unfold Z6p;have v0:Zdh x.Atoms=cnL Zgy x.Atoms:=rfl;omega
def Z6q(x:Zba):Nat:=x.Vars.length+Zv x.Rows
theorem Zba.ct(x:Zba)(l:Int)(hx:x.okay)(h0:0<=l)(h1:l<=1048576)(h:0<=x.sz l):x.sz l<=l/\(Z6q x:Int)<=16*(l-x.sz l):=by
 unfold Zba.sz at h|-;simp only[Zy]at h|-;split at h
 .omega
 rename_i q0;rw[if_neg q0];have s0:=Zf4 hx.1.1 h0 h1 (Yl.1 q0);split at h
 .omega
 rename_i q1;rw[if_neg q1];have s1:=Zxv (f:=szI) (n:=Zc5) hx.2.1 (λy hy l a b c=>Zbnd y l (hx.2.2 y hy).1 a b c) (by omega) (by omega) (Yl.1 q1);refine⟨by omega,?_⟩;unfold Z6q;have v0:Zv x.Rows=cnL Zc5 x.Rows:=rfl;omega
def nt_Box(x:Box):Nat:=x.Low.length+x.High.length
theorem Box.ct(x:Box)(l:Int)(hx:x.okay)(h0:0<=l)(h1:l<=1048576)(h:0<=x.sz l):x.sz l<=l/\(nt_Box x:Int)<=16*(l-x.sz l):=by
 unfold Box.sz at h|-;simp only[Zy]at h|-;split at h
 .omega
 rename_i q0;rw[if_neg q0];have s0:=Zf4 hx.1.1 h0 h1 (Yl.1 q0);split at h
 .omega
 rename_i q1;rw[if_neg q1];have s1:=Zf4 hx.2.1 (by omega) (by omega) (Yl.1 q1);refine⟨by omega,?_⟩;unfold nt_Box;omega
theorem Zoz(xs:List Zg):Zr xs=2*xs.length:=Zsx (λ_=>rfl) xs
def Zlq(x:Zk):Nat:=Zr x.Steps
theorem Zk.ct(x:Zk)(l:Int)(hx:x.okay)(h0:0<=l)(h1:l<=1048576)(h:0<=x.sz l):x.sz l<=l/\(Zlq x:Int)<=16*(l-x.sz l):=by
 unfold Zk.sz at h|-;simp only[Zy]at h|-;split at h
 .omega
 rename_i q0;rw[if_neg q0];have s0:=Zf4 hx.2.2.2.2.2.1 h0 h1 (Yl.1 q0);refine⟨by omega,?_⟩;unfold Zlq;have v0:=Zoz x.Steps;omega
def Z6r(x:Zi):Nat:=Zr x.Scan.Steps+Zr x.Sort_.Steps+Zr x.Hash.Steps+Zr x.Merge.Steps+Zr x.Nested.Steps
theorem Zi.ct(x:Zi)(l:Int)(hx:x.okay)(h0:0<=l)(h1:l<=1048576)(h:0<=x.sz l):x.sz l<=l/\(Z6r x:Int)<=16*(l-x.sz l):=by
 unfold Zi.sz at h|-;simp only[Zy]at h|-;split at h
 .omega
 rename_i q0;rw[if_neg q0];have s0:=Zk.ct x.Scan _ ⟨hx.1,hx.2.1,hx.2.2.1,hx.2.2.2.1,hx.2.2.2.2.1,hx.2.2.2.2.2.1⟩ h0 h1 (Yl.1 q0);split at h
 .omega
 rename_i q1;rw[if_neg q1];have s1:=Zk.ct x.Sort_ _ ⟨hx.2.2.2.2.2.2.1,hx.2.2.2.2.2.2.2.1,hx.2.2.2.2.2.2.2.2.1,hx.2.2.2.2.2.2.2.2.2.1,hx.2.2.2.2.2.2.2.2.2.2.1,hx.2.2.2.2.2.2.2.2.2.2.2.1⟩ (by omega) (by omega) (Yl.1 q1);split at h
 .omega
 rename_i q2;rw[if_neg q2];have s2:=Zk.ct x.Hash _ ⟨hx.2.2.2.2.2.2.2.2.2.2.2.2.1,hx.2.2.2.2.2.2.2.2.2.2.2.2.2.1,hx.2.2.2.2.2.2.2.2.2.2.2.2.2.2.1,hx.2.2.2.2.2.2.2.2.2.2.2.2.2.2.2.1,hx.2.2.2.2.2.2.2.2.2.2.2.2.2.2.2.2.1,hx.2.2.2.2.2.2.2.2.2.2.2.2.2.2.2.2.2.1⟩ (by omega) (by omega) (Yl.1 q2);split at h
 .omega
 rename_i q3;rw[if_neg q3];have s3:=Zk.ct x.Merge _ ⟨hx.2.2.2.2.2.2.2.2.2.2.2.2.2.2.2.2.2.2.1,hx.2.2.2.2.2.2.2.2.2.2.2.2.2.2.2.2.2.2.2.1,hx.2.2.2.2.2.2.2.2.2.2.2.2.2.2.2.2.2.2.2.2.1,hx.2.2.2.2.2.2.2.2.2.2.2.2.2.2.2.2.2.2.2.2.2.1,hx.2.2.2.2.2.2.2.2.2.2.2.2.2.2.2.2.2.2.2.2.2.2.1,hx.2.2.2.2.2.2.2.2.2.2.2.2.2.2.2.2.2.2.2.2.2.2.2.1⟩ (by omega) (by omega) (Yl.1 q3);split at h
 .omega
 rename_i q4;rw[if_neg q4];have s4:=Zk.ct x.Nested _ ⟨hx.2.2.2.2.2.2.2.2.2.2.2.2.2.2.2.2.2.2.2.2.2.2.2.2.1,hx.2.2.2.2.2.2.2.2.2.2.2.2.2.2.2.2.2.2.2.2.2.2.2.2.2.1,hx.2.2.2.2.2.2.2.2.2.2.2.2.2.2.2.2.2.2.2.2.2.2.2.2.2.2.1,hx.2.2.2.2.2.2.2.2.2.2.2.2.2.2.2.2.2.2.2.2.2.2.2.2.2.2.2.1,hx.2.2.2.2.2.2.2.2.2.2.2.2.2.2.2.2.2.2.2.2.2.2.2.2.2.2.2.2.1,hx.2.2.2.2.2.2.2.2.2.2.2.2.2.2.2.2.2.2.2.2.2.2.2.2.2.2.2.2.2⟩ (by omega) (by omega) (Yl.1 q4);refine⟨by omega,?_⟩;unfold Z6r;have v0:Zlq x.Scan=Zr x.Scan.Steps:=rfl;have v1:Zlq x.Sort_=Zr x.Sort_.Steps:=rfl;have v2:Zlq x.Hash=Zr x.Hash.Steps:=rfl;have v3:Zlq x.Merge=Zr x.Merge.Steps:=rfl;have v4:Zlq x.Nested=Zr x.Nested.Steps:=rfl;have v5:=Zoz x.Scan.Steps;have v6:=Zoz x.Sort_.Steps;have v7:=Zoz x.Hash.Steps;have v8:=Zoz x.Merge.Steps;have v9:=Zoz x.Nested.Steps;omega
theorem Zb6w(xs:List Zf):Zdv xs=3*xs.length:=Zsx (λ_=>rfl) xs
def Z6s(x:Plan):Nat:=Zdv x.Steps
theorem Plan.ct(x:Plan)(l:Int)(hx:x.okay)(h0:0<=l)(h1:l<=1048576)(h:0<=x.sz l):x.sz l<=l/\(Z6s x:Int)<=16*(l-x.sz l):=by
 unfold Plan.sz at h|-;simp only[Zy]at h|-;split at h
 .omega
 rename_i q0;rw[if_neg q0];have s0:=Zf4 hx.1 h0 h1 (Yl.1 q0);refine⟨by omega,?_⟩;unfold Z6s;have v0:=Zb6w x.Steps;omega
theorem Zb6x(xs:List Zh):Z1 xs=3*xs.length:=Zsx (λ_=>rfl) xs
def nt_Run(x:Run):Nat:=Z1 x.Seen+x.Zba.Vars.length+Zv x.Zba.Rows
theorem Run.ct(x:Run)(l:Int)(hx:x.okay)(h0:0<=l)(h1:l<=1048576)(h:0<=x.sz l):x.sz l<=l/\(nt_Run x:Int)<=16*(l-x.sz l):=by
 unfold Run.sz at h|-;simp only[Zy]at h|-;split at h
 .omega
 rename_i q0;rw[if_neg q0];have s0:=Zf4 hx.2.2.1.1 h0 h1 (Yl.1 q0);split at h
 .omega
 rename_i q1;rw[if_neg q1];have s1:=Zba.ct x.Zba _ ⟨hx.2.2.2.1,hx.2.2.2.2⟩ (by omega) (by omega) (Yl.1 q1);refine⟨by omega,?_⟩;unfold nt_Run;have v0:Z6q x.Zba=x.Zba.Vars.length+Zv x.Zba.Rows:=rfl;have v1:=Zb6x x.Seen;have v2:Zv x.Zba.Rows=cnL Zc5 x.Zba.Rows:=rfl;omega
theorem Zbne(xs:List Kept):Zbz xs=2*xs.length:=Zsx (λ_=>rfl) xs
theorem Zb6y(fr:List Fr):∀(xs d:List (List Int)) (k:Int),0<=k->k+(Zv xs:Int)<=4000000000000000000->d.length+xs.length<=4294967296->(∀x∈xs,SmA x)->EvL C fr [0,1,5] Zso ⟨[(0,L 1 ((d++Zcq xs k).map isc)),(1,I k),(5,I d.length)],[[]],[]⟩ =
  EvX C fr (.x 0) ⟨[(0,L 1 ((d++Zcq xs k).map isc)),(1,I (k+Zv xs)),(5,I (d.length+xs.length)),(9,Bo false)],[[]],[]⟩:=by
 intro xs
 induction xs with
 |nil =>
  intro d k h1 h2 h3 h4;rw[Zd Zso.eq_1]
  simp[Zcq,Zv,cnL,mkL]
 |cons x xs ih =>
  intro d k h1 h2 h3 h4;have hx:=h4 x (by simp);have e0:Zv (x::xs)=Zc5 x+Zv xs:=rfl;rw[e0]at h2;simp only[Yr]at h3;have e1:Zc5 x=x.length:=rfl;have eK:k+(Zc5 x:Int)=k+(x.length:Int):=by omega
  have eL:k+(Zv (x::xs):Int)=k+(x.length:Int)+(Zv xs:Int):=by omega
  have ih':=ih (d++[Zjc x k]) (k+(x.length:Int)) (by omega) (by omega) (by simp;omega) (λy hy=>h4 y (by simp[hy]));rw[Zd Zso.eq_1,eL,Zbm4,eK];have g1:IntKind.wrap .i64 ((d.length:Int)+1)=(d.length:Int)+1:=Zo (by omega) (by omega);have g3:(d.length:Int)<(d.length:Int)+(((Zcq xs (k+(x.length:Int))).length:Int)+1):=by omega
  have g5:(d.length:Int)+1+(xs.length:Int)=(d.length:Int)+((xs.length:Int)+1):=by omega
  have m0:=Zbm2 x (k) (by omega) (by omega) hx;have z0:¬(k+(x.length:Int)<0):=by omega
  simp[g5,Zjc,tI]at ih';simp +decide[g1,g3,m0,z0,ih',Zjc,tI]
theorem Zb6z(xs:List (List Int))(k:Int)(h1:0<=k)(h2:k+(Zv xs:Int)<=4000000000000000000)(h3:SmL SmA xs):C Z9t [L 1 ((Zcq xs k).map isc),I k] []=some (I (k+Zv xs),[]):=by
 refine run Zbms rfl ?_;have h4:=λfr=>Zb6y fr xs [] k h1 h2 (by have:xs.length<=4294967296:=h3.1;simp;omega) h3.2
 simp at h4;simp[Z6k,h4]
theorem Zb60(k:Int):C Z9t [.t .nil,I k] []=some (I k,[]):=by
 refine run Zbms rfl ?_;simp[Z6k,Zd Zso.eq_1]
theorem Zb61:C Zy5 [.t .nil,.t .nil] []=some (Bo true,[]):=by
 refine run Zbl7 rfl ?_;simp[Zxr,Zd Zsk.eq_1]
theorem Zb62:C Zy4 [.t .nil,.t .nil] []=some (Bo true,[]):=by
 refine run Zbk7 rfl ?_;simp[Zw7,Zd Zsf.eq_1]
theorem Zb63:C Zt0 [.t .nil,.t .nil] []=some (Bo true,[]):=by
 refine run Z6a rfl ?_;simp[Zsj,Zd Zor.eq_1]
theorem Zb64:C Zt0 [.t (.lst 1 []),.t .nil] []=some (Bo true,[]):=by
 refine run Z6a rfl ?_;simp[Zsj,Zd Zor.eq_1]
theorem Zlr(f:Bool)(c st:Int){s s' v v' r r':T}(h1:C Zy5 [.t s,.t s'] []=some (Bo true,[]))(h2:C Zy4 [.t v,.t v'] []=some (Bo true,[]))(h3:C Zt0 [.t r,.t r'] []=some (Bo true,[])) :
  C Zbp8 [.agg [Bo f,I c,I st,.t s,.t v,.t r],.agg [Bo f,I c,I st,.t s',.t v',.t r']] []=some (Bo true,[]):=by
 have h4:C Zbqy [.agg [.t v,.t r],.agg [.t v',.t r']] []=some (Bo true,[]):=by
  refine run Zb32 rfl ?_;simp[Zbl8,h2,h3]
 refine run Zb3c rfl ?_;simp[Zbll,h1,h4]
theorem Zbnf(e0 e1:Nat)(v:List Int)(r:List (List Int))(k:Int)(h1:0<=k)(h2:k+(v.length:Int)+(Zv r:Int)<=4000000000000000000)(hv:SmA v)(hr:SmL SmA r):C Z9q [.agg [.own 0,.own 1],I k] [.xarr e0 1 (v.map ic),.xarr e1 1 (r.map isc)]=some (I (k+(v.length:Int)+(Zv r:Int)),[.xarr e0 1 ((mkI v k).map ic),.xarr e1 1 ((Zcq r (k+(v.length:Int))).map isc)]):=by
 refine runM Zbma rfl ?_;have m0:=Zbm0 e0 v k (by omega) (by omega) hv;have m1:=Zbm5 e1 r (k+(v.length:Int)) (by omega) (by omega) hr;simp[Z6f,m0,m1]
theorem Zbng(k:Int):C Z9q [.agg [.t .nil,.t .nil],I k] []=some (I k,[]):=by
 refine run Zbma rfl ?_;simp[Z6f,Zb51,Zb58]
theorem Zbnh(v:List Int)(r:List (List Int))(k:Int)(h1:0<=k)(h2:k+(v.length:Int)+(Zv r:Int)<=4000000000000000000)(hv:SmA v)(hr:SmL SmA r):C Z9s [.agg [L 1 ((mkI v k).map ic),L 1 ((Zcq r (k+(v.length:Int))).map isc)],I k] []=some (I (k+(v.length:Int)+(Zv r:Int)),[]):=by
 refine run Zbmc rfl ?_;have m0:=Zbm2 v k (by omega) (by omega) hv;have m1:=Zb6z r (k+(v.length:Int)) (by omega) (by omega) hr;have z0:¬(k+(v.length:Int)<0):=by omega
 have z1:¬(k+(v.length:Int)+(Zv r:Int)<0):=by omega
 simp[Z6h,tI,tII,m0,m1,z0,z1]
theorem Zbni(k:Int)(h1:0<=k):C Z9s [.agg [.t .nil,.t .nil],I k] []=some (I k,[]):=by
 refine run Zbmc rfl ?_;have z:¬(k<0):=by omega
 simp[Z6h,z,h1,Zb55,Zb60]
theorem Zbnj(f:Bool)(c st k:Int):C Zty [.agg [Bo f,I c,I st,.t .nil,.t .nil,.t .nil],I k] []=some (I k,[]):=by
 refine run Zw9 rfl ?_;simp[Zsh,Zbm9,Zbng]
theorem Zb65(e0:Nat)(f:Bool)(c st:Int)(o:List Zh)(k:Int)(h1:0<=k)(h2:k+(Z1 o:Int)<=4000000000000000000)(ho:SmA o):C Zty [.agg [Bo f,I c,I st,.own 0,.t .nil,.t .nil],I k] [.xarr e0 3 (o.map Zh.c)]=some (I (k+(Z1 o:Int)),[.xarr e0 3 ((Zd8 o k).map Zh.c)]):=by
 refine runM Zw9 rfl ?_;have m0:=Zbm8 e0 o k (by omega) (by omega) ho;simp[Zsh,m0,Zbng]
theorem Zb66(e0 e1:Nat)(f:Bool)(c st:Int)(v:List Int)(r:List (List Int))(k:Int)(h1:0<=k)(h2:k+(v.length:Int)+(Zv r:Int)<=4000000000000000000)(hv:SmA v)(hr:SmL SmA r):C Zty [.agg [Bo f,I c,I st,.t .nil,.own 0,.own 1],I k] [.xarr e0 1 (v.map ic),.xarr e1 1 (r.map isc)]=some (I (k+(v.length:Int)+(Zv r:Int)),[.xarr e0 1 ((mkI v k).map ic),.xarr e1 1 ((Zcq r (k+(v.length:Int))).map isc)]):=by
 refine runM Zw9 rfl ?_;have m0:=Zbnf e0 e1 v r k h1 h2 hv hr;simp[Zsh,m0,Zbm9]
theorem Zb67(e0 e1 e2:Nat)(f:Bool)(c st:Int)(o:List Zh)(v:List Int)(r:List (List Int))(k:Int)(h1:0<=k)(h2:k+(Z1 o:Int)+(v.length:Int)+(Zv r:Int)<=4000000000000000000)(ho:SmA o)(hv:SmA v)(hr:SmL SmA r):C Zty [.agg [Bo f,I c,I st,.own 0,.own 1,.own 2],I k] [.xarr e0 3 (o.map Zh.c),.xarr e1 1 (v.map ic),.xarr e2 1 (r.map isc)]=some (I (k+(Z1 o:Int)+(v.length:Int)+(Zv r:Int)),[.xarr e0 3 ((Zd8 o k).map Zh.c),.xarr e1 1 ((mkI v (k+(Z1 o:Int))).map ic),.xarr e2 1 ((Zcq r (k+(Z1 o:Int)+(v.length:Int))).map isc)]):=by
 refine runM Zw9 rfl ?_;have m0:=Zbm8 e0 o k (by omega) (by omega) ho;have m1:=Zbnf e1 e2 v r (k+(Z1 o:Int)) (by omega) h2 hv hr;simp[Zsh,m0,m1]
theorem Zbnk(f:Bool)(c st k:Int)(h1:0<=k):C Ztz [.agg [Bo f,I c,I st,.t .nil,.t .nil,.t .nil],I k] []=some (I k,[]):=by
 refine run Zxa rfl ?_;have z:¬(k<0):=by omega
 simp[Zsi,z,h1,Zbnb,Zbni]
theorem Zb68(f:Bool)(c st:Int)(o:List Zh)(k:Int)(h1:0<=k)(h2:k+(Z1 o:Int)<=4000000000000000000)(ho:SmA o):C Ztz [.agg [Bo f,I c,I st,.t (.lst 3 ((Zd8 o k).map Zh.c)),.t .nil,.t .nil],I k] []=some (I (k+(Z1 o:Int)),[]):=by
 refine run Zxa rfl ?_;have m0:=Zbna o k (by omega) (by omega) ho;have z0:¬(k+(Z1 o:Int)<0):=by omega
 have m1:=Zbni (k+(Z1 o:Int)) (by omega);simp[Zsi,m0,m1,z0]
theorem Zb69(f:Bool)(c st:Int)(v:List Int)(r:List (List Int))(k:Int)(h1:0<=k)(h2:k+(v.length:Int)+(Zv r:Int)<=4000000000000000000)(hv:SmA v)(hr:SmL SmA r):C Ztz [.agg [Bo f,I c,I st,.t .nil,L 1 ((mkI v k).map ic),L 1 ((Zcq r (k+(v.length:Int))).map isc)],I k] []=some (I (k+(v.length:Int)+(Zv r:Int)),[]):=by
 refine run Zxa rfl ?_;have m0:=Zbnh v r k h1 h2 hv hr;have z:¬(k<0):=by omega
 have z0:¬(k+(v.length:Int)+(Zv r:Int)<0):=by omega
 simp[Zsi,m0,z,z0,Zbnb]
theorem Zb7a(f:Bool)(c st:Int)(o:List Zh)(v:List Int)(r:List (List Int))(k:Int)(h1:0<=k)(h2:k+(Z1 o:Int)+(v.length:Int)+(Zv r:Int)<=4000000000000000000)(ho:SmA o)(hv:SmA v)(hr:SmL SmA r):C Ztz [.agg [Bo f,I c,I st,.t (.lst 3 ((Zd8 o k).map Zh.c)),L 1 ((mkI v (k+(Z1 o:Int))).map ic),L 1 ((Zcq r (k+(Z1 o:Int)+(v.length:Int))).map isc)],I k] []=some (I (k+(Z1 o:Int)+(v.length:Int)+(Zv r:Int)),[]):=by
 refine run Zxa rfl ?_;have m0:=Zbna o k (by omega) (by omega) ho;have m1:=Zbnh v r (k+(Z1 o:Int)) (by omega) h2 hv hr;have z0:¬(k+(Z1 o:Int)<0):=by omega
 have z1:¬(k+(Z1 o:Int)+(v.length:Int)+(Zv r:Int)<0):=by omega
 simp[Zsi,m0,m1,z0,z1]
theorem cnL_le{α:Type}(n:α->Nat)(b:Nat):∀xs:List α,(∀x∈xs,n x<=b)->cnL n xs<=b*xs.length
 |[],_=>by simp[cnL]
 |x::xs,h=>by
  have h1:=h x (by simp);have h2:=cnL_le n b xs λy hy=>h y (by simp[hy])
  simp only[cnL,Yr,Yc8];omega
theorem VS.ans{s:Zb}(h:VS s):SmA s.Vars/\SmL SmA (ansR s.Rows)/\Zv (ansR s.Rows)<=16384/\s.Vars.length<=4:=by
 have h4:=h.four;have hl:=h.len;have ha:=Zbki s.Rows;have hr:∀r∈ansR s.Rows,r.length<=4:=λr hr=>by
  have:=h.rows r ((Zbkh s.Rows r).1 hr);unfold rwB at this;simp only[Yf,decide_eq_true_eq]at this;omega
 have hn:=cnL_le Zc5 4 (ansR s.Rows) hr;refine⟨by show s.Vars.length<=4294967296;omega,⟨by show(ansR s.Rows).length<=4294967296;omega,λr hh=>by have:=hr r hh;show r.length<=4294967296;omega⟩,?_,h4⟩;unfold Zv;omega
theorem obs_bd{o:List Zh}(h:o.length<=14):SmA o/\Z1 o<=42:=by
 have:=cnL_le Zg0 3 o λ_ _=>Yc _
 refine⟨by show o.length<=4294967296;omega,?_⟩;unfold Z1;omega
theorem ansR_nil{s:Zb}(h:s.Rows=[]):ansR s.Rows=[]:=by
 have:=Zbki s.Rows;rw[h]at this|-;exact Yb4.1 (by simpa using this)
theorem Zxw(m:Zi)(l:List Zb)(info:List Za)(rs:List Int)(bud:Int):∀(xs:List Zf) (ys:List Za) (i:Nat) (c st:Int) (seen:List Zh) (kl:List Kept),kl.length<=8->(runK m l info rs bud xs ys i c st seen kl).2.2.2.1.length<=seen.length+xs.length/\(runK m l info rs bud xs ys i c st seen kl).2.2.2.2.length<=8
 |[],_,_,_,_,_,_,h=>by unfold runK;exact⟨Yc _,h⟩
 |x::xs,[],_,_,_,_,_,h=>by unfold runK;exact⟨Ydw _ _,h⟩
 |x::xs,y::ys,i,c,st,seen,kl,h=>by
  unfold runK;simp only[Yr];split
  .have:=Zxw m l info rs bud xs ys (i+1) c st seen kl h;omega
  .split
   .refine⟨?_,h⟩;dsimp only;split
    .split
     .omega
     .simp
    .omega
   .split
    .have:=Zxw m l info rs bud xs ys (i+1) (w (c+coK m l rs x y i)) (w (st+1)) (seen++[obs2 l y i]) _ (Zhu ⟨y.Mask,szRw l i⟩ h);simp only[Yp,Yr,Yc1]at this;omega
    .have:=Zxw m l info rs bud xs ys (i+1) (w (c+coK m l rs x y i)) (w (st+1)) seen kl h;omega
theorem rrF_bd{m:Zi}{d:Zl}{q:Ze}{p:Plan}{bud:Int}{kl:List Kept}{s:Zb}{r:Bool×Int×Int×List Zh×List Kept}(h:rrF m d q p bud kl=some (s,r)):VS s/\r.2.2.2.1.length<=14/\r.2.2.2.2.length<=8:=by
 unfold rrF at h
 cases e:Zby q.Zm q.Atoms p.Steps with
 |none=>rw[e]at h;cases h
 |some info =>
  rw[e]at h;dsimp only at h;split at h
  .rename_i hq;cases h;have P:PI q p info:=⟨e⟩;have hg:=Z50 hq.1 P;have R:RunI q p info (strm d q p.Steps info):=⟨P,hg.1,hg.2⟩;have hv:=P.val;refine⟨R.last.2,?_⟩;have:=Zxw m (strm d q p.Steps info) info ((Zht m q p kl).getD []) bud p.Steps info 0 0 0 [] kl hq.2.2.2;simp only[Yc1]at this;omega
  .cases h
theorem Zb7b{s:Zb}{o:List Zh}(c st:Int)(ks:List Kept)(e:o=[])(r:s.Rows=[]):Z9 true s (true,c,st,o,ks)=(.tup [.agg [Bo true,I c,I st,.t .nil,.own 0,.t .nil],.own 1,Bo true],[.arr 3 1 true (s.Vars.map ic),.arr 106 2 true (ks.map Kept.c)]):=by simp[Z9,e,r]
theorem Zb7c{s:Zb}{o:List Zh}(c st:Int)(ks:List Kept)(e:o=[])(r:¬s.Rows=[]):Z9 true s (true,c,st,o,ks)=(.tup [.agg [Bo true,I c,I st,.t .nil,.own 0,.own 1],.own 2,Bo true],[.arr 3 1 true (s.Vars.map ic),.arr 30 1 true ((ansR s.Rows).map isc),.arr 106 2 true (ks.map Kept.c)]):=by simp[Z9,e,r]
theorem Zb7d{s:Zb}{o:List Zh}(c st:Int)(ks:List Kept)(e:¬o=[])(r:s.Rows=[]):Z9 true s (true,c,st,o,ks)=(.tup [.agg [Bo true,I c,I st,.own 0,.own 1,.t .nil],.own 2,Bo true],[.arr 211 3 true (o.map Zh.c),.arr 3 1 true (s.Vars.map ic),.arr 106 2 true (ks.map Kept.c)]):=by simp[Z9,e,r]
theorem Zb7e{s:Zb}{o:List Zh}(c st:Int)(ks:List Kept)(e:¬o=[])(r:¬s.Rows=[]):Z9 true s (true,c,st,o,ks)=(.tup [.agg [Bo true,I c,I st,.own 0,.own 1,.own 2],.own 3,Bo true],[.arr 211 3 true (o.map Zh.c),.arr 3 1 true (s.Vars.map ic),.arr 30 1 true ((ansR s.Rows).map isc),.arr 106 2 true (ks.map Kept.c)]):=by simp[Z9,e,r]
theorem Zbnl{s:Zb}{o:List Zh}(c st:Int)(ks:List Kept)(e:o=[]):Z9 false s (true,c,st,o,ks)=(.tup [.agg [Bo true,I c,I st,.t .nil,.own 0,.own 1],.own 2,Bo true],[.arr 3 1 true (s.Vars.map ic),.arr 30 1 true ((ansR s.Rows).map isc),.arr 106 2 true (ks.map Kept.c)]):=by simp[Z9,e]
theorem Zbnm{s:Zb}{o:List Zh}(c st:Int)(ks:List Kept)(e:¬o=[]):Z9 false s (true,c,st,o,ks)=(.tup [.agg [Bo true,I c,I st,.own 0,.own 1,.own 2],.own 3,Bo true],[.arr 211 3 true (o.map Zh.c),.arr 3 1 true (s.Vars.map ic),.arr 30 1 true ((ansR s.Rows).map isc),.arr 106 2 true (ks.map Kept.c)]):=by simp[Z9,e]
theorem Zbno(m:Zi)(d:Zl)(q:Ze)(p:Plan)(b:Int)(kl:List Kept)(hm:m.okay)(hd:d.okay)(hq:q.okay)(hp:p.okay)(hb:OkI b)(hkl:OkL Kept.okay kl):C Zbpr [.agg (m.c.map .t),.agg (d.c.map .t),.agg (q.c.map .t),.agg (p.c.map .t),I b,L 2 (kl.map Kept.c)] []=some (Bo true,[]):=by
 refine run Zb2v rfl ?_;have e1:=λl=>Zb5k m.Scan.Fixed m.Scan.Z2 m.Scan.Z3 m.Scan.Z4 m.Scan.Z5 m.Scan.Steps m.Sort_.Fixed m.Sort_.Z2 m.Sort_.Z3 m.Sort_.Z4 m.Sort_.Z5 m.Sort_.Steps m.Hash.Fixed m.Hash.Z2 m.Hash.Z3 m.Hash.Z4 m.Hash.Z5 m.Hash.Steps m.Merge.Fixed m.Merge.Z2 m.Merge.Z3 m.Merge.Z4 m.Merge.Z5 m.Merge.Steps m.Nested.Fixed m.Nested.Z2 m.Nested.Z3 m.Nested.Z4 m.Nested.Z5 m.Nested.Steps l
 by_cases h1:Zi.sz m (1048576)<0
 .simp[Zel,e1,h1]
 obtain⟨b1,g1⟩:=Zi.sz_ok m _ hm (by omega) (by omega) (by omega:0<=Zi.sz m (1048576));have u1:=(Zi.ct m _ hm (by omega) (by omega) (by omega:0<=Zi.sz m (1048576))).2;unfold Z6r at u1;have e2:=λl=>Zb40 d.Tables l (hd)
 by_cases h2:Zl.sz d (Zi.sz m (1048576))<0
 .simp[Zel,e1,h1,e2,h2]
 obtain⟨b2,g2⟩:=Zl.sz_ok d _ hd (by omega) (by omega) (by omega:0<=Zl.sz d (Zi.sz m (1048576)));have u2:=(Zl.ct d _ hd (by omega) (by omega) (by omega:0<=Zl.sz d (Zi.sz m (1048576)))).2;unfold Z6n at u2;have e3:=λl=>Zb49 q.Zm q.Atoms l (hq.2)
 by_cases h3:Ze.sz q (Zl.sz d (Zi.sz m (1048576)))<0
 .simp[Zel,e1,h1,e2,h2,e3,h3]
 obtain⟨b3,g3⟩:=Ze.sz_ok q _ hq (by omega) (by omega) (by omega:0<=Ze.sz q (Zl.sz d (Zi.sz m (1048576))));have u3:=(Ze.ct q _ hq (by omega) (by omega) (by omega:0<=Ze.sz q (Zl.sz d (Zi.sz m (1048576))))).2;unfold Z6p at u3;have e4:=λl=>c_szPlan p.Steps l
 by_cases h4:Plan.sz p (Ze.sz q (Zl.sz d (Zi.sz m (1048576))))<0
 .simp[Zel,e1,h1,e2,h2,e3,h3,e4,h4]
 obtain⟨b4,g4⟩:=Plan.sz_ok p _ hp (by omega) (by omega) (by omega:0<=Plan.sz p (Ze.sz q (Zl.sz d (Zi.sz m (1048576)))));have u4:=(Plan.ct p _ hp (by omega) (by omega) (by omega:0<=Plan.sz p (Ze.sz q (Zl.sz d (Zi.sz m (1048576)))))).2;unfold Z6s at u4;have e5:=λ(es:List (List T)) l=>Zb5y es l
 by_cases h5:sz1 kl.length (Plan.sz p (Ze.sz q (Zl.sz d (Zi.sz m (1048576)))))<0
 .simp[Zel,e1,h1,e2,h2,e3,h3,e4,h4,e5,h5]
 have g5:kl.length<=1048576:=(sz1_ok hkl.1 (by omega) (by omega) (by omega:0<=sz1 kl.length (Plan.sz p (Ze.sz q (Zl.sz d (Zi.sz m (1048576))))))).2;have u5:=Zbne kl;have t1:=Zb5i m.Scan.Fixed m.Scan.Z2 m.Scan.Z3 m.Scan.Z4 m.Scan.Z5 m.Scan.Steps m.Sort_.Fixed m.Sort_.Z2 m.Sort_.Z3 m.Sort_.Z4 m.Sort_.Z5 m.Sort_.Steps m.Hash.Fixed m.Hash.Z2 m.Hash.Z3 m.Hash.Z4 m.Hash.Z5 m.Hash.Steps m.Merge.Fixed m.Merge.Z2 m.Merge.Z3 m.Merge.Z4 m.Merge.Z5 m.Merge.Steps m.Nested.Fixed m.Nested.Z2 m.Nested.Z3 m.Nested.Z4 m.Nested.Z5 m.Nested.Steps (g1.1) (g1.2.1) (g1.2.2.1) (g1.2.2.2.1) (g1.2.2.2.2);have q1:=λy0 y1 y2 y3 y4 y5 y6 y7 y8 y9 y10 y11 y12 y13 y14 y15 y16 y17 y18 y19 y20 y21 y22 y23 y24 y25 y26 y27 y28 y29=>Zb5j m.Scan.Fixed m.Scan.Z2 m.Scan.Z3 m.Scan.Z4 m.Scan.Z5 m.Scan.Steps m.Sort_.Fixed m.Sort_.Z2 m.Sort_.Z3 m.Sort_.Z4 m.Sort_.Z5 m.Sort_.Steps m.Hash.Fixed m.Hash.Z2 m.Hash.Z3 m.Hash.Z4 m.Hash.Z5 m.Hash.Steps m.Merge.Fixed m.Merge.Z2 m.Merge.Z3 m.Merge.Z4 m.Merge.Z5 m.Merge.Steps m.Nested.Fixed m.Nested.Z2 m.Nested.Z3 m.Nested.Z4 m.Nested.Z5 m.Nested.Steps y0 y1 y2 y3 y4 y5 y6 y7 y8 y9 y10 y11 y12 y13 y14 y15 y16 y17 y18 y19 y20 y21 y22 y23 y24 y25 y26 y27 y28 y29 (g1.1) (g1.2.1) (g1.2.2.1) (g1.2.2.2.1) (g1.2.2.2.2)
 have t2:=Zb4y d.Tables (g2);have q2:=λy0=>Zb4z d.Tables y0 (g2)
 have t3:=Zb47 q.Zm q.Atoms (g3);have q3:=λy0 y1=>Zb48 q.Zm q.Atoms y0 y1 (g3)
 have t4:=c_toPlan p.Steps (g4);have q4:=λy0=>c_eqPlan p.Steps y0 (g4)
 have i5:SmA kl:=by omega
 have t5:=Zb5w kl i5;have q5:=λy=>Zbmy kl y i5
 have m1:=λa0 a1 a2 a3 a4=>Zb6r a0 a1 a2 a3 a4 m.Scan.Fixed m.Scan.Z2 m.Scan.Z3 m.Scan.Z4 m.Scan.Z5 m.Scan.Steps m.Sort_.Fixed m.Sort_.Z2 m.Sort_.Z3 m.Sort_.Z4 m.Sort_.Z5 m.Sort_.Steps m.Hash.Fixed m.Hash.Z2 m.Hash.Z3 m.Hash.Z4 m.Hash.Z5 m.Hash.Steps m.Merge.Fixed m.Merge.Z2 m.Merge.Z3 m.Merge.Z4 m.Merge.Z5 m.Merge.Steps m.Nested.Fixed m.Nested.Z2 m.Nested.Z3 m.Nested.Z4 m.Nested.Z5 m.Nested.Steps (1) (by omega) (by omega) (g1.1) (g1.2.1) (g1.2.2.1) (g1.2.2.2.1) (g1.2.2.2.2)
 have m2:=λa0=>Zb6q a0 d.Tables (1+(Zr m.Scan.Steps:Int)+(Zr m.Sort_.Steps:Int)+(Zr m.Hash.Steps:Int)+(Zr m.Merge.Steps:Int)+(Zr m.Nested.Steps:Int)) (by omega) (by omega) (g2)
 have m3:=λa0=>Zb6t a0 q.Zm q.Atoms (1+(Zr m.Scan.Steps:Int)+(Zr m.Sort_.Steps:Int)+(Zr m.Hash.Steps:Int)+(Zr m.Merge.Steps:Int)+(Zr m.Nested.Steps:Int)+(Zc6 d.Tables:Int)) (by omega) (by omega) (g3)
 have m4:=λa0=>Zb6s a0 p.Steps (1+(Zr m.Scan.Steps:Int)+(Zr m.Sort_.Steps:Int)+(Zr m.Hash.Steps:Int)+(Zr m.Merge.Steps:Int)+(Zr m.Nested.Steps:Int)+(Zc6 d.Tables:Int)+(Zdh q.Atoms:Int)) (by omega) (by omega) (g4)
 have m5:=λa0=>Zov a0 kl (1+(Zr m.Scan.Steps:Int)+(Zr m.Sort_.Steps:Int)+(Zr m.Hash.Steps:Int)+(Zr m.Merge.Steps:Int)+(Zr m.Nested.Steps:Int)+(Zc6 d.Tables:Int)+(Zdh q.Atoms:Int)+(Zdv p.Steps:Int)) (by omega) (by omega) i5
 have zk:¬(1+(Zr m.Scan.Steps:Int)+(Zr m.Sort_.Steps:Int)+(Zr m.Hash.Steps:Int)+(Zr m.Merge.Steps:Int)+(Zr m.Nested.Steps:Int)+(Zc6 d.Tables:Int)+(Zdh q.Atoms:Int)+(Zdv p.Steps:Int)+(Zbz kl:Int)<0):=by omega
 have nm:LeM m:=⟨by have:=g1.1;omega,by have:=g1.2.1;omega,by have:=g1.2.2.1;omega,by have:=g1.2.2.2.1;omega,by have:=g1.2.2.2.2;omega⟩;have nq:LeQ q:=⟨by have:=g3.1;omega,λx hx=>by have:=(g3.2 x hx).2;omega⟩;have nd:LeD d:=⟨by have:=g2.1;omega,λt ht=>⟨by have:=(g2.2 t ht).2.1;omega,λr hr=>by have:=(g2.2 t ht).2.2 r hr;omega⟩⟩;have s0:=Zb2u nm nd nq p b kl (by omega);have s1:=Zb2t nm nd nq p b kl (by omega);unfold Zv3 at s0;unfold Zvy at s1;simp only[Zi.c_def,Zl.c_def,Ze.c_def,Plan.c_def,Yv,Yci]at s0 s1;have en:=Zb61;have ei:=Zb62;have es:=Zb63
 match ho:rrF m d q p b kl with
 |none =>
  rw[ho]at s0 s1;simp only[rrR,noKR]at s0 s1;have qq:=Zlr false 0 0 en ei es;have mm:=Zbnj false 0 0 1;have hh:=Zbnk false 0 0 1 (by omega);have mk:=λa=>Zov a kl 1 (by omega) (by omega) i5
  have hk:=Zst kl 1 (by omega) (by omega) i5;have zz:¬(1+(Zbz kl:Int)<0):=by omega
  simp +decide[Zel,e1,h1,e2,h2,e3,h3,e4,h4,e5,h5,t1,q1,t2,q2,t3,q3,t4,q4,t5,q5,m1,m2,m3,m4,m5,zk,s0,s1,qq,mm,hh,mk,hk,zz]
 |some (s,f,c,st,o,ks) =>
  obtain⟨V,ol,kl8⟩:=rrF_bd ho;obtain⟨a1,a2,a3,a4⟩:=V.ans;obtain⟨o1,o2⟩:=obs_bd (o:=o) ol;have k1:SmA ks:=by show ks.length<=4294967296;have:ks.length<=8:=kl8;omega
  have k2:Zbz ks<=16:=by rw[Zbne];have:ks.length<=8:=kl8;omega
  have eo:=Zb5u o o o1;have ev:=Z6l s.Vars s.Vars a1;have er:=Zbmx (ansR s.Rows) (ansR s.Rows) a2;have ek:=Zbmy ks ks k1;simp only[decide_true]at eo ev er ek;rw[ho]at s0 s1;simp only[rrR]at s0 s1;clear ho
  cases f with
  |false =>
   by_cases e:o=[]
   .simp only[Z9,if_pos e]at s0 s1;have qq:=Zlr false c st en ei es;have mm:=Zbnj false c st 1;have hh:=Zbnk false c st 1 (by omega);have mk:=λa=>Zov a ks 1 (by omega) (by omega) k1
    have hk:=Zst ks 1 (by omega) (by omega) k1;have zz:¬(1+(Zbz ks:Int)<0):=by omega
    simp +decide[Zel,e1,h1,e2,h2,e3,h3,e4,h4,e5,h5,t1,q1,t2,q2,t3,q3,t4,q4,t5,q5,m1,m2,m3,m4,m5,zk,s0,s1,qq,mm,hh,ek,mk,hk,zz]
   .simp only[Z9,if_neg e]at s0 s1;have qq:=Zlr false c st eo ei es;have mm:=λa=>Zb65 a false c st o 1 (by omega) (by omega) o1
    have hh:=Zb68 false c st o 1 (by omega) (by omega) o1;have z2:¬(1+(Z1 o:Int)<0):=by omega
    have mk:=λa=>Zov a ks (1+(Z1 o:Int)) (by omega) (by omega) k1
    have hk:=Zst ks (1+(Z1 o:Int)) (by omega) (by omega) k1;have zz:¬(1+(Z1 o:Int)+(Zbz ks:Int)<0):=by omega
    simp +decide[Zel,e1,h1,e2,h2,e3,h3,e4,h4,e5,h5,t1,q1,t2,q2,t3,q3,t4,q4,t5,q5,m1,m2,m3,m4,m5,zk,s0,s1,qq,mm,hh,z2,ek,mk,hk,zz]
  |true =>
   have z3:¬(1+(s.Vars.length:Int)+(Zv (ansR s.Rows):Int)<0):=by omega
   have z4:¬(1+(Z1 o:Int)+(s.Vars.length:Int)+(Zv (ansR s.Rows):Int)<0):=by omega
   have mc:=λa b=>Zb66 a b true c st s.Vars (ansR s.Rows) 1 (by omega) (by omega) a1 a2
   have hc:=Zb69 true c st s.Vars (ansR s.Rows) 1 (by omega) (by omega) a1 a2;have md:=λa b e=>Zb67 a b e true c st o s.Vars (ansR s.Rows) 1 (by omega) (by omega) o1 a1 a2
   have hd':=Zb7a true c st o s.Vars (ansR s.Rows) 1 (by omega) (by omega) o1 a1 a2;have mkc:=λa=>Zov a ks (1+(s.Vars.length:Int)+(Zv (ansR s.Rows):Int)) (by omega) (by omega) k1
   have hkc:=Zst ks (1+(s.Vars.length:Int)+(Zv (ansR s.Rows):Int)) (by omega) (by omega) k1;have zkc:¬(1+(s.Vars.length:Int)+(Zv (ansR s.Rows):Int)+(Zbz ks:Int)<0):=by omega
   have mkd:=λa=>Zov a ks (1+(Z1 o:Int)+(s.Vars.length:Int)+(Zv (ansR s.Rows):Int)) (by omega) (by omega) k1
   have hkd:=Zst ks (1+(Z1 o:Int)+(s.Vars.length:Int)+(Zv (ansR s.Rows):Int)) (by omega) (by omega) k1;have zkd:¬(1+(Z1 o:Int)+(s.Vars.length:Int)+(Zv (ansR s.Rows):Int)+(Zbz ks:Int)<0):=by omega
   by_cases r:s.Rows=[]
   .have e0:ansR s.Rows=[]:=ansR_nil r;have er':=Zb64;by_cases e:o=[]
    .rw[Zb7b c st ks e r]at s0;rw[Zbnl c st ks e]at s1;simp only[e0,tII,Yci]at s1 mc md hc hd' z3 z4 mkc hkc zkc mkd hkd zkd;have qq:=Zlr true c st en ev er';simp +decide[Zel,e1,h1,e2,h2,e3,h3,e4,h4,e5,h5,t1,q1,t2,q2,t3,q3,t4,q4,t5,q5,m1,m2,m3,m4,m5,zk,s0,s1,qq,mc,hc,z3,ek,mkc,hkc,zkc]
    .rw[Zb7d c st ks e r]at s0;rw[Zbnm c st ks e]at s1;simp only[e0,tII,Yci]at s1 mc md hc hd' z3 z4 mkc hkc zkc mkd hkd zkd;have qq:=Zlr true c st eo ev er';simp +decide[Zel,e1,h1,e2,h2,e3,h3,e4,h4,e5,h5,t1,q1,t2,q2,t3,q3,t4,q4,t5,q5,m1,m2,m3,m4,m5,zk,s0,s1,qq,md,hd',z4,ek,mkd,hkd,zkd]
   .by_cases e:o=[]
    .rw[Zb7c c st ks e r]at s0;rw[Zbnl c st ks e]at s1;have qq:=Zlr true c st en ev er;simp +decide[Zel,e1,h1,e2,h2,e3,h3,e4,h4,e5,h5,t1,q1,t2,q2,t3,q3,t4,q4,t5,q5,m1,m2,m3,m4,m5,zk,s0,s1,qq,mc,hc,z3,ek,mkc,hkc,zkc]
    .rw[Zb7e c st ks e r]at s0;rw[Zbnm c st ks e]at s1;have qq:=Zlr true c st eo ev er;simp +decide[Zel,e1,h1,e2,h2,e3,h3,e4,h4,e5,h5,t1,q1,t2,q2,t3,q3,t4,q4,t5,q5,m1,m2,m3,m4,m5,zk,s0,s1,qq,md,hd',z4,ek,mkd,hkd,zkd]
end
end Go.Proofs.YtgnfoghkbpkgjaaGreat
