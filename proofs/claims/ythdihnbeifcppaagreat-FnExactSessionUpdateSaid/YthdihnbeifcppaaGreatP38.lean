/-
  Parts of the proofs for this seat: MP MQ MR UD DW DY DYX DF DF2 DFN.
-/
import Derived.Deep.RegionLaw
import Derived.Lib.SlBy
import Derived.Lib.SliceRun
import Derived.Shelf.RegionOpenPlain
import Derived.Test.YthdihnbeifcppaaGreatChecked
import Derived.Test.YthdihnbeifcppaaGreatP36
import Derived.Test.YthdihnbeifcppaaGreatP37
set_option linter.all false
set_option maxRecDepth 100000
set_option maxHeartbeats 4000000
namespace Go.Proofs.YthdihnbeifcppaaGreat
open Go.AM
def mkL{α:Type}(f:α->Int->α)(n:α->Nat):List α->Int->List α
 |[],_=>[]
 |x::xs,k=>f x k::mkL f n xs (k+(n x:Int))
def cnL{α:Type}(n:α->Nat):List α->Nat
 |[]=>0
 |x::xs=>n x+cnL n xs
def mkI(xs:V6)(k:Int):V6:=mkL (λ_ k=>k) (λ_=>1) xs k
def Z7i(x:Int)(xs:V6)(k:Int):mkI (x::xs) k=k::mkI xs (k+1):=rfl
def ZNu(e:Nat)(fr:List Fr):∀(xs d:V6) (k:Int),0<=k->k+(xs.length:Int)<=4611686018427387904->d.length+xs.length<=4294967296->EvL C fr [0,1,5] Zis ⟨[(0,.own 0),(1,I k),(5,I d.length)],[[(0,.own 0)]],[.xarr e 1 ((d++xs).map ic)]⟩ =
  EvX C fr (.x 0) ⟨[(0,.own 0),(1,I (k+xs.length)),(5,I (d.length+xs.length)),(9,Bo false)],[[(0,.own 0)]],[.xarr e 1 ((d++mkI xs k).map ic)]⟩:=by
 intro xs
 induction xs with
 |nil =>
  intro d k h1 h2 h3;rw[Zn Zis.eq_1]
  simp[mkI,mkL]
 |cons x xs ih =>
  intro d k h1 h2 h3;simp only[Ym]at h2 h3;have ih':=ih (d++[k]) (k+1) (by omega) (by omega) (by simp;omega);rw[Zn Zis.eq_1];have g1:IntKind.wrap .i64 ((d.length:Int)+1)=(d.length:Int)+1:=Z1 (by omega) (by omega);have g2:IntKind.wrap .i64 (k+1)=k+1:=Z1 (by omega) (by omega);have g3:(d.length:Int)<(d.length:Int)+((xs.length:Int)+1):=by omega
  have g4:k+1+(xs.length:Int)=k+((xs.length:Int)+1):=by omega
  have g5:(d.length:Int)+1+(xs.length:Int)=(d.length:Int)+((xs.length:Int)+1):=by omega
  simp[g4,g5]at ih';simp[g1,g2,g3,ih',Z7i]
def Z7j(e:Nat)(xs:V6)(k:Int)(h1:0<=k)(h2:k+(xs.length:Int)<=4611686018427387904)(h3:SmA xs):C ZjC [.own 0,I k] [.xarr e 1 (xs.map ic)]=some (I (k+xs.length),[.xarr e 1 ((mkI xs k).map ic)]):=by
 refine XR Z50 rfl ?_;have h4:=λfr=>ZNu e fr xs [] k h1 h2 (by have:xs.length<=4294967296:=h3;simp;omega)
 simp at h4;simp[Zvu,h4]
def ZNv(n:Nat)(k:Int):C ZjC [.t (.lst n []),I k] []=some (I k,[]):=by
 refine run Z50 rfl ?_;simp[Zvu,Zn Zis.eq_1]
def ZNw(fr:List Fr):∀(xs d:V6) (k:Int),0<=k->k+(xs.length:Int)<=4611686018427387904->d.length+xs.length<=4294967296->EvL C fr [0,1,5] ZmC ⟨[(0,L 1 ((d++mkI xs k).map ic)),(1,I k),(5,I d.length)],[[]],[]⟩ =
  EvX C fr (.x 0) ⟨[(0,L 1 ((d++mkI xs k).map ic)),(1,I (k+xs.length)),(5,I (d.length+xs.length)),(9,Bo false)],[[]],[]⟩:=by
 intro xs
 induction xs with
 |nil =>
  intro d k h1 h2 h3;rw[Zn ZmC.eq_1]
  simp[mkI,mkL]
 |cons x xs ih =>
  intro d k h1 h2 h3;simp only[Ym]at h2 h3;have ih':=ih (d++[k]) (k+1) (by omega) (by omega) (by simp;omega);rw[Zn ZmC.eq_1];have g1:IntKind.wrap .i64 ((d.length:Int)+1)=(d.length:Int)+1:=Z1 (by omega) (by omega);have g2:IntKind.wrap .i64 (k+1)=k+1:=Z1 (by omega) (by omega);have g3:(d.length:Int)<(d.length:Int)+(((mkI xs (k+1)).length:Int)+1):=by omega
  have g4:k+1+(xs.length:Int)=k+((xs.length:Int)+1):=by omega
  have g5:(d.length:Int)+1+(xs.length:Int)=(d.length:Int)+((xs.length:Int)+1):=by omega
  simp[g4,g5]at ih';simp[g1,g2,g3,ih',Z7i]
def ZNx(x:Int):(strB [x]).size=1:=by simp[strB];rfl
def ZNy(fr:List Fr):∀(n:Nat) (k:Int) (out:UP),k.toNat<=n->(out.size:Int)+k<=4611686018427387904->0<=k->∃s,s.size<=out.size+n/\EvL C fr [0,3] Zit ⟨[(0,I k),(3,.t (.str out))],[[]],[]⟩=EvX C fr (.x 0) ⟨[(0,I 0),(3,.t (.str s)),(7,Bo false)],[[]],[]⟩:=by
 intro n
 induction n with
 |zero =>
  intro k out h1 h2 h3
  have:k=0:=by omega
  subst this;rw[Zn Zit.eq_1]
  exact⟨out,by simp⟩
 |succ n ih =>
  intro k out h1 h2 h3;by_cases h0:k=0
  .subst h0;rw[Zn Zit.eq_1];exact⟨out,by simp⟩
  have hk:0<k:=by omega
  have e:k.tdiv 10=k / 10:=Int.tdiv_eq_ediv_of_nonneg h3;have e2:IntKind.wrap .i64 (k / 10)=k / 10:=Z1 (by omega) (by omega);generalize hx:IntKind.wrap .u8 (IntKind.wrap .i64 (48+k.tmod 10))=x;have s1:=ZNx x;have c:1+out.size<=9223372036854775807:=by omega
  obtain⟨s,hs,hr⟩:=ih (k / 10) (strB [x]++out) (by omega) (by rw[ByteArray.size_append,s1];omega) (by omega);rw[ByteArray.size_append,s1]at hs;refine⟨s,by omega,?_⟩;rw[Zn Zit.eq_1];simp[hk,hx,s1,c,e,e2,hr]
def ZNz(k:Int)(h1:0<=k)(h2:k<=4000000000000000000):∃s,C ZnH [I k] []=some (.t (.str s),[]):=by
 by_cases h0:k=0
 .subst h0;refine⟨⟨#[109,48]⟩,run Z6k rfl ?_⟩;simp[Zvv]
 .have h3:¬k<=0:=by omega
  obtain⟨s,hs,hr⟩:=ZNy [.blk 0,.seq (.seq (.reg [⟨some 18,none,.mov (.s 3)⟩,⟨some 19,none,.bin .add (.c (.t (.str ⟨#[109]⟩))) (.s 18)⟩,⟨some 2,none,.mov (.s 19)⟩] [2]) .ret),.fin 0 [.tmp 2]] k.toNat k ⟨#[]⟩ (Yh _) (by simp[ByteArray.size];omega) h1;have c:(⟨#[109]⟩:UP).size+s.size<=9223372036854775807:=by
   have:(⟨#[]⟩:UP).size=0:=rfl
   have:(⟨#[109]⟩:UP).size=1:=rfl
   omega
  refine⟨⟨#[109]⟩++s,run Z6k rfl ?_⟩;simp at hr;simp[Zvv,h3,hr,c]
noncomputable def JH(k:Int):UP:=match C ZnH [I k] []with
 |some (.t (.str s),[])=>s
 |_=>⟨#[]⟩
def QS(k:Int)(h1:0<=k)(h2:k<=4000000000000000000):C ZnH [I k] []=some (.t (.str (JH k)),[]):=by
 obtain⟨s,h⟩:=ZNz k h1 h2
 have:JH k=s:=by unfold JH;rw[h]
 rw[this,h]
def Zcs(xs:V6)(k:Int)(h1:0<=k)(h2:k+(xs.length:Int)<=4000000000000000000)(h3:SmA xs):C ZAF [L 1 ((mkI xs k).map ic),I k] []=some (I (k+xs.length),[]):=by
 refine run ZKS rfl ?_;have h4:=λfr=>ZNw fr xs [] k h1 (by omega) (by have:xs.length<=4294967296:=h3;simp;omega)
 simp at h4;simp[Z6w,h4]
def Zct(xs:V6)(k:Int)(h1:0<=k)(h2:k+(xs.length:Int)<=4000000000000000000)(h3:SmA xs):(xs.map ic=[]/\(mkI xs (k)).map ic=[]/\C ZjC [.t (.lst 1 []),I k] []=some (I (k+(xs.length:Int)),[]))\/∃y ys,xs.map ic=y::ys/\True/\C ZjC [.own 0,I k] [.xarr unk 1 (y::ys)]=some (I (k+(xs.length:Int)),[.xarr unk 1 ((mkI xs (k)).map ic)]):=by
 have c:=Z7j unk xs k h1 (by omega) h3
 cases xs with
 |nil=>exact .inl ⟨rfl,rfl,by have:=ZNv 1 k;simpa[mkI,mkL]using this⟩
 |cons y ys=>exact .inr ⟨_,_,rfl,trivial,c⟩
def ZaL(a:V6)(k:Int):V6:=mkI a k
def VU(a:V6):Nat:=a.length
def Up(xs:V4)(k:Int):V4:=mkL ZaL VU xs k
def ZY(xs:V4):Nat:=cnL VU xs
def Z7k(x:V6)(xs:V4)(k:Int):Up (x::xs) k=ZaL x k::Up xs (k+(VU x:Int)):=rfl
def ZN0(e:Nat)(fr:List Fr):∀(xs d:V4) (k:Int),0<=k->k+(ZY xs:Int)<=4000000000000000000->d.length+xs.length<=4294967296->(∀x∈xs,SmA x)->EvL C fr [0,1,5] Ziw ⟨[(0,.own 0),(1,I k),(5,I d.length)],[[(0,.own 0)]],[.xarr e 1 ((d++xs).map isc)]⟩ =
  EvX C fr (.x 0) ⟨[(0,.own 0),(1,I (k+ZY xs)),(5,I (d.length+xs.length)),(9,Bo false)],[[(0,.own 0)]],[.xarr e 1 ((d++Up xs k).map isc)]⟩:=by
 intro xs
 induction xs with
 |nil =>
  intro d k h1 h2 h3 h4;rw[Zn Ziw.eq_1]
  simp[Up,ZY,cnL,mkL]
 |cons x xs ih =>
  intro d k h1 h2 h3 h4;have hx:=h4 x (by simp);have e0:ZY (x::xs)=VU x+ZY xs:=rfl;rw[e0]at h2;simp only[Ym]at h3;have e1:VU x=x.length:=rfl;have eK:k+(VU x:Int)=k+(x.length:Int):=by omega
  have eL:k+(ZY (x::xs):Int)=k+(x.length:Int)+(ZY xs:Int):=by omega
  have ih':=ih (d++[ZaL x k]) (k+(x.length:Int)) (by omega) (by omega) (by simp;omega) (λy hy=>h4 y (by simp[hy]));rw[Zn Ziw.eq_1,eL,Z7k,eK];have g1:IntKind.wrap .i64 ((d.length:Int)+1)=(d.length:Int)+1:=Z1 (by omega) (by omega);have g3:(d.length:Int)<(d.length:Int)+((xs.length:Int)+1):=by omega
  have g5:(d.length:Int)+1+(xs.length:Int)=(d.length:Int)+((xs.length:Int)+1):=by omega
  have m0:=Zct x (k) (by omega) (by omega) hx;rcases m0 with⟨r0,s0,m0⟩|⟨y0,ys0,r0,s0,m0⟩
  all_goals (simp[g5,ZaL,tI,r0,s0]at ih';simp[g1,g3,m0,r0,s0,ih',ZaL,tI])
def ZN1(e:Nat)(xs:V4)(k:Int)(h1:0<=k)(h2:k+(ZY xs:Int)<=4000000000000000000)(h3:SmL SmA xs):C ZjF [.own 0,I k] [.xarr e 1 (xs.map isc)]=some (I (k+ZY xs),[.xarr e 1 ((Up xs k).map isc)]):=by
 refine XR Z6I rfl ?_;have h4:=λfr=>ZN0 e fr xs [] k h1 h2 (by have:xs.length<=4294967296:=h3.1;simp;omega) h3.2
 simp at h4;simp[Zvy,h4]
def ZN2(n:Nat)(k:Int):C ZjF [.t (.lst n []),I k] []=some (I k,[]):=by
 refine run Z6I rfl ?_;simp[Zvy,Zn Ziw.eq_1]
def Z7l(xs:V4)(k:Int)(h1:0<=k)(h2:k+(ZY xs:Int)<=4000000000000000000)(h3:SmL SmA xs):(xs.map isc=[]/\(Up xs (k)).map isc=[]/\C ZjF [.t (.lst 1 []),I k] []=some (I (k+(ZY xs:Int)),[]))\/∃y ys,xs.map isc=y::ys/\True/\C ZjF [.own 0,I k] [.xarr unk 1 (y::ys)]=some (I (k+(ZY xs:Int)),[.xarr unk 1 ((Up xs (k)).map isc)]):=by
 have c:=ZN1 unk xs k h1 h2 h3
 cases xs with
 |nil=>exact .inl ⟨rfl,rfl,by have:=ZN2 1 k;simpa[Up,ZY,cnL,mkL]using this⟩
 |cons y ys=>exact .inr ⟨_,_,rfl,trivial,c⟩
noncomputable def ZaM(a:Ze)(k:Int):Ze:=⟨JH (k),mkI a.Vars (k+1)⟩
def UE(a:Ze):Nat:=1+a.Vars.length
noncomputable def UF(xs:List Ze)(k:Int):List Ze:=mkL ZaM UE xs k
def ZI(xs:List Ze):Nat:=cnL UE xs
def Z7m(x:Ze)(xs:List Ze)(k:Int):UF (x::xs) k=ZaM x k::UF xs (k+(UE x:Int)):=rfl
def ZN3(e:Nat)(fr:List Fr):∀(xs d:List Ze) (k:Int),0<=k->k+(ZI xs:Int)<=4000000000000000000->d.length+xs.length<=4294967296->(∀x∈xs,x.small)->EvL C fr [0,1,5] Ziu ⟨[(0,.own 0),(1,I k),(5,I d.length)],[[(0,.own 0)]],[.xarr e 2 ((d++xs).map Ze.c)]⟩ =
  EvX C fr (.x 0) ⟨[(0,.own 0),(1,I (k+ZI xs)),(5,I (d.length+xs.length)),(9,Bo false)],[[(0,.own 0)]],[.xarr e 2 ((d++UF xs k).map Ze.c)]⟩:=by
 intro xs
 induction xs with
 |nil =>
  intro d k h1 h2 h3 h4;rw[Zn Ziu.eq_1]
  simp[UF,ZI,cnL,mkL]
 |cons x xs ih =>
  intro d k h1 h2 h3 h4;have hx:=h4 x (by simp);have e0:ZI (x::xs)=UE x+ZI xs:=rfl;rw[e0]at h2;simp only[Ym]at h3;rcases x with⟨x0,x1⟩;have e1:UE ⟨x0,x1⟩=1+x1.length:=rfl;have eK:k+(UE ⟨x0,x1⟩:Int)=k+1+(x1.length:Int):=by omega
  have eL:k+(ZI (⟨x0,x1⟩::xs):Int)=k+1+(x1.length:Int)+(ZI xs:Int):=by omega
  have ih':=ih (d++[ZaM ⟨x0,x1⟩ k]) (k+1+(x1.length:Int)) (by omega) (by omega) (by simp;omega) (λy hy=>h4 y (by simp[hy]));rw[Zn Ziu.eq_1,eL,Z7m,eK];have g1:IntKind.wrap .i64 ((d.length:Int)+1)=(d.length:Int)+1:=Z1 (by omega) (by omega);have g3:(d.length:Int)<(d.length:Int)+((xs.length:Int)+1):=by omega
  have g5:(d.length:Int)+1+(xs.length:Int)=(d.length:Int)+((xs.length:Int)+1):=by omega
  have w0:IntKind.wrap .i64 (k+1)=k+1:=Z1 (by omega) (by omega);have t0:=QS (k) (by omega) (by omega);have m0:=Zct x1 (k+1) (by omega) (by omega) (by first|exact hx|exact hx.1|exact hx.2|exact hx.2.1|exact hx.2.2|exact hx.2.2.1|exact hx.2.2.2|exact hx.2.2.2.1|exact hx.2.2.2.2|exact hx.2.2.2.2.1|exact hx.2.2.2.2.2);rcases m0 with⟨r0,s0,m0⟩|⟨y0,ys0,r0,s0,m0⟩
  all_goals (simp[g5,ZaM,tI,r0,s0]at ih';simp[g1,g3,w0,t0,m0,r0,s0,ih',ZaM,tI])
def ZN4(e:Nat)(xs:List Ze)(k:Int)(h1:0<=k)(h2:k+(ZI xs:Int)<=4000000000000000000)(h3:SmL Ze.small xs):C ZjD [.own 0,I k] [.xarr e 2 (xs.map Ze.c)]=some (I (k+ZI xs),[.xarr e 2 ((UF xs k).map Ze.c)]):=by
 refine XR Z6o rfl ?_;have h4:=λfr=>ZN3 e fr xs [] k h1 h2 (by have:xs.length<=4294967296:=h3.1;simp;omega) h3.2
 simp at h4;simp[Zvw,h4]
def ZN5(n:Nat)(k:Int):C ZjD [.t (.lst n []),I k] []=some (I k,[]):=by
 refine run Z6o rfl ?_;simp[Zvw,Zn Ziu.eq_1]
def ZN6(xs:List Ze)(k:Int)(h1:0<=k)(h2:k+(ZI xs:Int)<=4000000000000000000)(h3:SmL Ze.small xs):(xs.map Ze.c=[]/\(UF xs (k)).map Ze.c=[]/\C ZjD [.t (.lst 2 []),I k] []=some (I (k+(ZI xs:Int)),[]))\/∃y ys,xs.map Ze.c=y::ys/\True/\C ZjD [.own 0,I k] [.xarr unk 2 (y::ys)]=some (I (k+(ZI xs:Int)),[.xarr unk 2 ((UF xs (k)).map Ze.c)]):=by
 have c:=ZN4 unk xs k h1 h2 h3
 cases xs with
 |nil=>exact .inl ⟨rfl,rfl,by have:=ZN5 2 k;simpa[UF,ZI,cnL,mkL]using this⟩
 |cons y ys=>exact .inr ⟨_,_,rfl,trivial,c⟩
def ZN7(fr:List Fr):∀(xs d:List Ze) (k:Int),0<=k->k+(ZI xs:Int)<=4000000000000000000->d.length+xs.length<=4294967296->(∀x∈xs,x.small)->EvL C fr [0,1,5] ZmE ⟨[(0,L 2 ((d++UF xs k).map Ze.c)),(1,I k),(5,I d.length)],[[]],[]⟩ =
  EvX C fr (.x 0) ⟨[(0,L 2 ((d++UF xs k).map Ze.c)),(1,I (k+ZI xs)),(5,I (d.length+xs.length)),(9,Bo false)],[[]],[]⟩:=by
 intro xs
 induction xs with
 |nil =>
  intro d k h1 h2 h3 h4;rw[Zn ZmE.eq_1]
  simp[UF,ZI,cnL,mkL]
 |cons x xs ih =>
  intro d k h1 h2 h3 h4;have hx:=h4 x (by simp);have e0:ZI (x::xs)=UE x+ZI xs:=rfl;rw[e0]at h2;simp only[Ym]at h3;rcases x with⟨x0,x1⟩;have e1:UE ⟨x0,x1⟩=1+x1.length:=rfl;have eK:k+(UE ⟨x0,x1⟩:Int)=k+1+(x1.length:Int):=by omega
  have eL:k+(ZI (⟨x0,x1⟩::xs):Int)=k+1+(x1.length:Int)+(ZI xs:Int):=by omega
  have ih':=ih (d++[ZaM ⟨x0,x1⟩ k]) (k+1+(x1.length:Int)) (by omega) (by omega) (by simp;omega) (λy hy=>h4 y (by simp[hy]));rw[Zn ZmE.eq_1,eL,Z7m,eK];have g1:IntKind.wrap .i64 ((d.length:Int)+1)=(d.length:Int)+1:=Z1 (by omega) (by omega);have g3:(d.length:Int)<(d.length:Int)+(((UF xs (k+1+(x1.length:Int))).length:Int)+1):=by omega
  have g5:(d.length:Int)+1+(xs.length:Int)=(d.length:Int)+((xs.length:Int)+1):=by omega
  have w0:IntKind.wrap .i64 (k+1)=k+1:=Z1 (by omega) (by omega);have t0:=QS (k) (by omega) (by omega);have m0:=Zcs x1 (k+1) (by omega) (by omega) (by first|exact hx|exact hx.1|exact hx.2|exact hx.2.1|exact hx.2.2|exact hx.2.2.1|exact hx.2.2.2|exact hx.2.2.2.1|exact hx.2.2.2.2|exact hx.2.2.2.2.1|exact hx.2.2.2.2.2);have z0:¬(k+1+(x1.length:Int)<0):=by omega
  simp[g5,ZaM,tI]at ih';simp +decide[g1,g3,w0,t0,m0,z0,ih',ZaM,tI]
def ZN8(xs:List Ze)(k:Int)(h1:0<=k)(h2:k+(ZI xs:Int)<=4000000000000000000)(h3:SmL Ze.small xs):C ZAH [L 2 ((UF xs k).map Ze.c),I k] []=some (I (k+ZI xs),[]):=by
 refine run ZKU rfl ?_;have h4:=λfr=>ZN7 fr xs [] k h1 h2 (by have:xs.length<=4294967296:=h3.1;simp;omega) h3.2
 simp at h4;simp[Z60,h4]
noncomputable def ZaN(a:Zh)(k:Int):Zh:=⟨k,k+1,k+1+1⟩
def JI(a:Zh):Nat:=1+1+1
noncomputable def UG(xs:List Zh)(k:Int):List Zh:=mkL ZaN JI xs k
def ZM(xs:List Zh):Nat:=cnL JI xs
def Z7n(x:Zh)(xs:List Zh)(k:Int):UG (x::xs) k=ZaN x k::UG xs (k+(JI x:Int)):=rfl
def ZN9(e:Nat)(fr:List Fr):∀(xs d:List Zh) (k:Int),0<=k->k+(ZM xs:Int)<=4000000000000000000->d.length+xs.length<=4294967296->(∀x∈xs,x.small)->EvL C fr [0,1,5] Ziv ⟨[(0,.own 0),(1,I k),(5,I d.length)],[[(0,.own 0)]],[.xarr e 3 ((d++xs).map Zh.c)]⟩ =
  EvX C fr (.x 0) ⟨[(0,.own 0),(1,I (k+ZM xs)),(5,I (d.length+xs.length)),(9,Bo false)],[[(0,.own 0)]],[.xarr e 3 ((d++UG xs k).map Zh.c)]⟩:=by
 intro xs
 induction xs with
 |nil =>
  intro d k h1 h2 h3 h4;rw[Zn Ziv.eq_1]
  simp[UG,ZM,cnL,mkL]
 |cons x xs ih =>
  intro d k h1 h2 h3 h4;have hx:=h4 x (by simp);have e0:ZM (x::xs)=JI x+ZM xs:=rfl;rw[e0]at h2;simp only[Ym]at h3;rcases x with⟨x0,x1,x2⟩;have e1:JI ⟨x0,x1,x2⟩=1+1+1:=rfl;have eK:k+(JI ⟨x0,x1,x2⟩:Int)=k+1+1+1:=by omega
  have eL:k+(ZM (⟨x0,x1,x2⟩::xs):Int)=k+1+1+1+(ZM xs:Int):=by omega
  have ih':=ih (d++[ZaN ⟨x0,x1,x2⟩ k]) (k+1+1+1) (by omega) (by omega) (by simp;omega) (λy hy=>h4 y (by simp[hy]));rw[Zn Ziv.eq_1,eL,Z7n,eK];have g1:IntKind.wrap .i64 ((d.length:Int)+1)=(d.length:Int)+1:=Z1 (by omega) (by omega);have g3:(d.length:Int)<(d.length:Int)+((xs.length:Int)+1):=by omega
  have g5:(d.length:Int)+1+(xs.length:Int)=(d.length:Int)+((xs.length:Int)+1):=by omega
  have w0:IntKind.wrap .i64 (k+1)=k+1:=Z1 (by omega) (by omega);have w1:IntKind.wrap .i64 (k+1+1)=k+1+1:=Z1 (by omega) (by omega);have w2:IntKind.wrap .i64 (k+1+1+1)=k+1+1+1:=Z1 (by omega) (by omega)
  (simp[g5,ZaN,tI]at ih';simp[g1,g3,w0,w1,w2,ih',ZaN,tI])
def ZNA(e:Nat)(xs:List Zh)(k:Int)(h1:0<=k)(h2:k+(ZM xs:Int)<=4000000000000000000)(h3:SmA xs):C ZjE [.own 0,I k] [.xarr e 3 (xs.map Zh.c)]=some (I (k+ZM xs),[.xarr e 3 ((UG xs k).map Zh.c)]):=by
 refine XR Z6q rfl ?_;have h4:=λfr=>ZN9 e fr xs [] k h1 h2 (by have:xs.length<=4294967296:=h3;simp;omega) (λ_ _=>trivial)
 simp at h4;simp[Zvx,h4]
def ZNB(n:Nat)(k:Int):C ZjE [.t (.lst n []),I k] []=some (I k,[]):=by
 refine run Z6q rfl ?_;simp[Zvx,Zn Ziv.eq_1]
def ZNC(xs:List Zh)(k:Int)(h1:0<=k)(h2:k+(ZM xs:Int)<=4000000000000000000)(h3:SmA xs):(xs.map Zh.c=[]/\(UG xs (k)).map Zh.c=[]/\C ZjE [.t (.lst 3 []),I k] []=some (I (k+(ZM xs:Int)),[]))\/∃y ys,xs.map Zh.c=y::ys/\True/\C ZjE [.own 0,I k] [.xarr unk 3 (y::ys)]=some (I (k+(ZM xs:Int)),[.xarr unk 3 ((UG xs (k)).map Zh.c)]):=by
 have c:=ZNA unk xs k h1 h2 h3
 cases xs with
 |nil=>exact .inl ⟨rfl,rfl,by have:=ZNB 3 k;simpa[UG,ZM,cnL,mkL]using this⟩
 |cons y ys=>exact .inr ⟨_,_,rfl,trivial,c⟩
def ZND(fr:List Fr):∀(xs d:List Zh) (k:Int),0<=k->k+(ZM xs:Int)<=4000000000000000000->d.length+xs.length<=4294967296->(∀x∈xs,x.small)->EvL C fr [0,1,5] ZmF ⟨[(0,L 3 ((d++UG xs k).map Zh.c)),(1,I k),(5,I d.length)],[[]],[]⟩ =
  EvX C fr (.x 0) ⟨[(0,L 3 ((d++UG xs k).map Zh.c)),(1,I (k+ZM xs)),(5,I (d.length+xs.length)),(9,Bo false)],[[]],[]⟩:=by
 intro xs
 induction xs with
 |nil =>
  intro d k h1 h2 h3 h4;rw[Zn ZmF.eq_1]
  simp[UG,ZM,cnL,mkL]
 |cons x xs ih =>
  intro d k h1 h2 h3 h4;have hx:=h4 x (by simp);have e0:ZM (x::xs)=JI x+ZM xs:=rfl;rw[e0]at h2;simp only[Ym]at h3;rcases x with⟨x0,x1,x2⟩;have e1:JI ⟨x0,x1,x2⟩=1+1+1:=rfl;have eK:k+(JI ⟨x0,x1,x2⟩:Int)=k+1+1+1:=by omega
  have eL:k+(ZM (⟨x0,x1,x2⟩::xs):Int)=k+1+1+1+(ZM xs:Int):=by omega
  have ih':=ih (d++[ZaN ⟨x0,x1,x2⟩ k]) (k+1+1+1) (by omega) (by omega) (by simp;omega) (λy hy=>h4 y (by simp[hy]));rw[Zn ZmF.eq_1,eL,Z7n,eK];have g1:IntKind.wrap .i64 ((d.length:Int)+1)=(d.length:Int)+1:=Z1 (by omega) (by omega);have g3:(d.length:Int)<(d.length:Int)+(((UG xs (k+1+1+1)).length:Int)+1):=by omega
  have g5:(d.length:Int)+1+(xs.length:Int)=(d.length:Int)+((xs.length:Int)+1):=by omega
  have w0:IntKind.wrap .i64 (k+1)=k+1:=Z1 (by omega) (by omega);have w1:IntKind.wrap .i64 (k+1+1)=k+1+1:=Z1 (by omega) (by omega);have w2:IntKind.wrap .i64 (k+1+1+1)=k+1+1+1:=Z1 (by omega) (by omega);simp[g5,ZaN,tI]at ih';simp +decide[g1,g3,w0,w1,w2,ih',ZaN,tI]
def ZNE(xs:List Zh)(k:Int)(h1:0<=k)(h2:k+(ZM xs:Int)<=4000000000000000000)(h3:SmA xs):C ZAI [L 3 ((UG xs k).map Zh.c),I k] []=some (I (k+ZM xs),[]):=by
 refine run ZKV rfl ?_;have h4:=λfr=>ZND fr xs [] k h1 h2 (by have:xs.length<=4294967296:=h3;simp;omega) (λ_ _=>trivial)
 simp at h4;simp[Z62,h4]
noncomputable def ZaO(a:Zo)(k:Int):Zo:=⟨⟨k,UF a.Zj.Atoms (k+1)⟩,⟨⟨UG a.Region.Zg.Steps (k+1+(ZI a.Zj.Atoms:Int))⟩,⟨mkI a.Region.Box.Low (k+1+(ZI a.Zj.Atoms:Int)+(ZM a.Region.Zg.Steps:Int)),mkI a.Region.Box.High (k+1+(ZI a.Zj.Atoms:Int)+(ZM a.Region.Zg.Steps:Int)+(a.Region.Box.Low.length:Int))⟩,k+1+(ZI a.Zj.Atoms:Int)+(ZM a.Region.Zg.Steps:Int)+(a.Region.Box.Low.length:Int)+(a.Region.Box.High.length:Int)⟩,k+1+(ZI a.Zj.Atoms:Int)+(ZM a.Region.Zg.Steps:Int)+(a.Region.Box.Low.length:Int)+(a.Region.Box.High.length:Int)+1,k+1+(ZI a.Zj.Atoms:Int)+(ZM a.Region.Zg.Steps:Int)+(a.Region.Box.Low.length:Int)+(a.Region.Box.High.length:Int)+1+1⟩
def UH(a:Zo):Nat:=1+ZI a.Zj.Atoms+ZM a.Region.Zg.Steps+a.Region.Box.Low.length+a.Region.Box.High.length+1+1+1
noncomputable def UI(xs:List Zo)(k:Int):List Zo:=mkL ZaO UH xs k
def Xv(xs:List Zo):Nat:=cnL UH xs
def Z7o(x:Zo)(xs:List Zo)(k:Int):UI (x::xs) k=ZaO x k::UI xs (k+(UH x:Int)):=rfl
def ZNF(e:Nat)(fr:List Fr):∀(xs d:List Zo) (k:Int),0<=k->k+(Xv xs:Int)<=4000000000000000000->d.length+xs.length<=4294967296->(∀x∈xs,x.small)->EvL C fr [0,1,5] Zm3 ⟨[(0,.own 0),(1,I k),(5,I d.length)],[[(0,.own 0)]],[.xarr e 8 ((d++xs).map Zo.c)]⟩ =
  EvX C fr (.x 0) ⟨[(0,.own 0),(1,I (k+Xv xs)),(5,I (d.length+xs.length)),(9,Bo false)],[[(0,.own 0)]],[.xarr e 8 ((d++UI xs k).map Zo.c)]⟩:=by
 intro xs
 induction xs with
 |nil =>
  intro d k h1 h2 h3 h4;rw[Zn Zm3.eq_1]
  simp[UI,Xv,cnL,mkL]
 |cons x xs ih =>
  intro d k h1 h2 h3 h4;have hx:=h4 x (by simp);have e0:Xv (x::xs)=UH x+Xv xs:=rfl;rw[e0]at h2;simp only[Ym]at h3;rcases x with⟨⟨x0,x1⟩,⟨⟨x2⟩,⟨x3,x4⟩,x5⟩,x6,x7⟩;have e1:UH ⟨⟨x0,x1⟩,⟨⟨x2⟩,⟨x3,x4⟩,x5⟩,x6,x7⟩=1+ZI x1+ZM x2+x3.length+x4.length+1+1+1:=rfl;have eK:k+(UH ⟨⟨x0,x1⟩,⟨⟨x2⟩,⟨x3,x4⟩,x5⟩,x6,x7⟩:Int)=k+1+(ZI x1:Int)+(ZM x2:Int)+(x3.length:Int)+(x4.length:Int)+1+1+1:=by omega
  have eL:k+(Xv (⟨⟨x0,x1⟩,⟨⟨x2⟩,⟨x3,x4⟩,x5⟩,x6,x7⟩::xs):Int)=k+1+(ZI x1:Int)+(ZM x2:Int)+(x3.length:Int)+(x4.length:Int)+1+1+1+(Xv xs:Int):=by omega
  have ih':=ih (d++[ZaO ⟨⟨x0,x1⟩,⟨⟨x2⟩,⟨x3,x4⟩,x5⟩,x6,x7⟩ k]) (k+1+(ZI x1:Int)+(ZM x2:Int)+(x3.length:Int)+(x4.length:Int)+1+1+1) (by omega) (by omega) (by simp;omega) (λy hy=>h4 y (by simp[hy]));rw[Zn Zm3.eq_1,eL,Z7o,eK];have g1:IntKind.wrap .i64 ((d.length:Int)+1)=(d.length:Int)+1:=Z1 (by omega) (by omega);have g3:(d.length:Int)<(d.length:Int)+((xs.length:Int)+1):=by omega
  have g5:(d.length:Int)+1+(xs.length:Int)=(d.length:Int)+((xs.length:Int)+1):=by omega
  have w0:IntKind.wrap .i64 (k+1)=k+1:=Z1 (by omega) (by omega);have w1:IntKind.wrap .i64 (k+1+(ZI x1:Int)+(ZM x2:Int)+(x3.length:Int)+(x4.length:Int)+1)=k+1+(ZI x1:Int)+(ZM x2:Int)+(x3.length:Int)+(x4.length:Int)+1:=Z1 (by omega) (by omega);have w2:IntKind.wrap .i64 (k+1+(ZI x1:Int)+(ZM x2:Int)+(x3.length:Int)+(x4.length:Int)+1+1)=k+1+(ZI x1:Int)+(ZM x2:Int)+(x3.length:Int)+(x4.length:Int)+1+1:=Z1 (by omega) (by omega);have w3:IntKind.wrap .i64 (k+1+(ZI x1:Int)+(ZM x2:Int)+(x3.length:Int)+(x4.length:Int)+1+1+1)=k+1+(ZI x1:Int)+(ZM x2:Int)+(x3.length:Int)+(x4.length:Int)+1+1+1:=Z1 (by omega) (by omega);have m0:=ZN6 x1 (k+1) (by omega) (by omega) (by first|exact hx|exact hx.1|exact hx.2|exact hx.2.1|exact hx.2.2|exact hx.2.2.1|exact hx.2.2.2|exact hx.2.2.2.1|exact hx.2.2.2.2|exact hx.2.2.2.2.1|exact hx.2.2.2.2.2);have m1:=ZNC x2 (k+1+(ZI x1:Int)) (by omega) (by omega) (by first|exact hx|exact hx.1|exact hx.2|exact hx.2.1|exact hx.2.2|exact hx.2.2.1|exact hx.2.2.2|exact hx.2.2.2.1|exact hx.2.2.2.2|exact hx.2.2.2.2.1|exact hx.2.2.2.2.2);have m2:=Zct x3 (k+1+(ZI x1:Int)+(ZM x2:Int)) (by omega) (by omega) (by first|exact hx|exact hx.1|exact hx.2|exact hx.2.1|exact hx.2.2|exact hx.2.2.1|exact hx.2.2.2|exact hx.2.2.2.1|exact hx.2.2.2.2|exact hx.2.2.2.2.1|exact hx.2.2.2.2.2);have m3:=Zct x4 (k+1+(ZI x1:Int)+(ZM x2:Int)+(x3.length:Int)) (by omega) (by omega) (by first|exact hx|exact hx.1|exact hx.2|exact hx.2.1|exact hx.2.2|exact hx.2.2.1|exact hx.2.2.2|exact hx.2.2.2.1|exact hx.2.2.2.2|exact hx.2.2.2.2.1|exact hx.2.2.2.2.2);rcases m0 with⟨r0,s0,m0⟩|⟨y0,ys0,r0,s0,m0⟩
  all_goals rcases m1 with⟨r1,s1,m1⟩|⟨y1,ys1,r1,s1,m1⟩
  all_goals rcases m2 with⟨r2,s2,m2⟩|⟨y2,ys2,r2,s2,m2⟩
  all_goals rcases m3 with⟨r3,s3,m3⟩|⟨y3,ys3,r3,s3,m3⟩
  all_goals (simp[g5,ZaO,tI,r0,s0,r1,s1,r2,s2,r3,s3]at ih';simp[g1,g3,w0,w1,w2,w3,m0,r0,s0,m1,r1,s1,m2,r2,s2,m3,r3,s3,ih',ZaO,tI])
def ZNG(e:Nat)(xs:List Zo)(k:Int)(h1:0<=k)(h2:k+(Xv xs:Int)<=4000000000000000000)(h3:SmL Zo.small xs):C ZAl [.own 0,I k] [.xarr e 8 (xs.map Zo.c)]=some (I (k+Xv xs),[.xarr e 8 ((UI xs k).map Zo.c)]):=by
 refine XR ZK6 rfl ?_;have h4:=λfr=>ZNF e fr xs [] k h1 h2 (by have:xs.length<=4294967296:=h3.1;simp;omega) h3.2
 simp at h4;simp[Z5L,h4]
def ZNH(fr:List Fr):∀(xs d:List Zo) (k:Int),0<=k->k+(Xv xs:Int)<=4000000000000000000->d.length+xs.length<=4294967296->(∀x∈xs,x.small)->EvL C fr [0,1,5] Zm6 ⟨[(0,L 8 ((d++UI xs k).map Zo.c)),(1,I k),(5,I d.length)],[[]],[]⟩ =
  EvX C fr (.x 0) ⟨[(0,L 8 ((d++UI xs k).map Zo.c)),(1,I (k+Xv xs)),(5,I (d.length+xs.length)),(9,Bo false)],[[]],[]⟩:=by
 intro xs
 induction xs with
 |nil =>
  intro d k h1 h2 h3 h4;rw[Zn Zm6.eq_1]
  simp[UI,Xv,cnL,mkL]
 |cons x xs ih =>
  intro d k h1 h2 h3 h4;have hx:=h4 x (by simp);have e0:Xv (x::xs)=UH x+Xv xs:=rfl;rw[e0]at h2;simp only[Ym]at h3;rcases x with⟨⟨x0,x1⟩,⟨⟨x2⟩,⟨x3,x4⟩,x5⟩,x6,x7⟩;have e1:UH ⟨⟨x0,x1⟩,⟨⟨x2⟩,⟨x3,x4⟩,x5⟩,x6,x7⟩=1+ZI x1+ZM x2+x3.length+x4.length+1+1+1:=rfl;have eK:k+(UH ⟨⟨x0,x1⟩,⟨⟨x2⟩,⟨x3,x4⟩,x5⟩,x6,x7⟩:Int)=k+1+(ZI x1:Int)+(ZM x2:Int)+(x3.length:Int)+(x4.length:Int)+1+1+1:=by omega
  have eL:k+(Xv (⟨⟨x0,x1⟩,⟨⟨x2⟩,⟨x3,x4⟩,x5⟩,x6,x7⟩::xs):Int)=k+1+(ZI x1:Int)+(ZM x2:Int)+(x3.length:Int)+(x4.length:Int)+1+1+1+(Xv xs:Int):=by omega
  have ih':=ih (d++[ZaO ⟨⟨x0,x1⟩,⟨⟨x2⟩,⟨x3,x4⟩,x5⟩,x6,x7⟩ k]) (k+1+(ZI x1:Int)+(ZM x2:Int)+(x3.length:Int)+(x4.length:Int)+1+1+1) (by omega) (by omega) (by simp;omega) (λy hy=>h4 y (by simp[hy]));rw[Zn Zm6.eq_1,eL,Z7o,eK];have g1:IntKind.wrap .i64 ((d.length:Int)+1)=(d.length:Int)+1:=Z1 (by omega) (by omega);have g3:(d.length:Int)<(d.length:Int)+(((UI xs (k+1+(ZI x1:Int)+(ZM x2:Int)+(x3.length:Int)+(x4.length:Int)+1+1+1)).length:Int)+1):=by omega
  have g5:(d.length:Int)+1+(xs.length:Int)=(d.length:Int)+((xs.length:Int)+1):=by omega
  have w0:IntKind.wrap .i64 (k+1)=k+1:=Z1 (by omega) (by omega);have w1:IntKind.wrap .i64 (k+1+(ZI x1:Int)+(ZM x2:Int)+(x3.length:Int)+(x4.length:Int)+1)=k+1+(ZI x1:Int)+(ZM x2:Int)+(x3.length:Int)+(x4.length:Int)+1:=Z1 (by omega) (by omega);have w2:IntKind.wrap .i64 (k+1+(ZI x1:Int)+(ZM x2:Int)+(x3.length:Int)+(x4.length:Int)+1+1)=k+1+(ZI x1:Int)+(ZM x2:Int)+(x3.length:Int)+(x4.length:Int)+1+1:=Z1 (by omega) (by omega);have w3:IntKind.wrap .i64 (k+1+(ZI x1:Int)+(ZM x2:Int)+(x3.length:Int)+(x4.length:Int)+1+1+1)=k+1+(ZI x1:Int)+(ZM x2:Int)+(x3.length:Int)+(x4.length:Int)+1+1+1:=Z1 (by omega) (by omega);have m0:=ZN8 x1 (k+1) (by omega) (by omega) (by first|exact hx|exact hx.1|exact hx.2|exact hx.2.1|exact hx.2.2|exact hx.2.2.1|exact hx.2.2.2|exact hx.2.2.2.1|exact hx.2.2.2.2|exact hx.2.2.2.2.1|exact hx.2.2.2.2.2);have z0:¬(k+1+(ZI x1:Int)<0):=by omega
  have m1:=ZNE x2 (k+1+(ZI x1:Int)) (by omega) (by omega) (by first|exact hx|exact hx.1|exact hx.2|exact hx.2.1|exact hx.2.2|exact hx.2.2.1|exact hx.2.2.2|exact hx.2.2.2.1|exact hx.2.2.2.2|exact hx.2.2.2.2.1|exact hx.2.2.2.2.2);have z1:¬(k+1+(ZI x1:Int)+(ZM x2:Int)<0):=by omega
  have m2:=Zcs x3 (k+1+(ZI x1:Int)+(ZM x2:Int)) (by omega) (by omega) (by first|exact hx|exact hx.1|exact hx.2|exact hx.2.1|exact hx.2.2|exact hx.2.2.1|exact hx.2.2.2|exact hx.2.2.2.1|exact hx.2.2.2.2|exact hx.2.2.2.2.1|exact hx.2.2.2.2.2);have z2:¬(k+1+(ZI x1:Int)+(ZM x2:Int)+(x3.length:Int)<0):=by omega
  have m3:=Zcs x4 (k+1+(ZI x1:Int)+(ZM x2:Int)+(x3.length:Int)) (by omega) (by omega) (by first|exact hx|exact hx.1|exact hx.2|exact hx.2.1|exact hx.2.2|exact hx.2.2.1|exact hx.2.2.2|exact hx.2.2.2.1|exact hx.2.2.2.2|exact hx.2.2.2.2.1|exact hx.2.2.2.2.2);have z3:¬(k+1+(ZI x1:Int)+(ZM x2:Int)+(x3.length:Int)+(x4.length:Int)<0):=by omega
  simp[g5,ZaO,tI]at ih';simp +decide[g1,g3,w0,w1,w2,w3,m0,z0,m1,z1,m2,z2,m3,z3,ih',ZaO,tI]
def ZNI(xs:List Zo)(k:Int)(h1:0<=k)(h2:k+(Xv xs:Int)<=4000000000000000000)(h3:SmL Zo.small xs):C ZAr [L 8 ((UI xs k).map Zo.c),I k] []=some (I (k+Xv xs),[]):=by
 refine run ZKC rfl ?_;have h4:=λfr=>ZNH fr xs [] k h1 h2 (by have:xs.length<=4294967296:=h3.1;simp;omega) h3.2
 simp at h4;simp[Z5U,h4]
noncomputable def ZaP(a:Zd)(k:Int):Zd:=⟨k,k+1⟩
def JJ(a:Zd):Nat:=1+1
noncomputable def XD(xs:List Zd)(k:Int):List Zd:=mkL ZaP JJ xs k
def Zq(xs:List Zd):Nat:=cnL JJ xs
def Z7p(x:Zd)(xs:List Zd)(k:Int):XD (x::xs) k=ZaP x k::XD xs (k+(JJ x:Int)):=rfl
def ZNJ(e:Nat)(fr:List Fr):∀(xs d:List Zd) (k:Int),0<=k->k+(Zq xs:Int)<=4000000000000000000->d.length+xs.length<=4294967296->(∀x∈xs,x.small)->EvL C fr [0,1,5] Zm9 ⟨[(0,.own 0),(1,I k),(5,I d.length)],[[(0,.own 0)]],[.xarr e 2 ((d++xs).map Zd.c)]⟩ =
  EvX C fr (.x 0) ⟨[(0,.own 0),(1,I (k+Zq xs)),(5,I (d.length+xs.length)),(9,Bo false)],[[(0,.own 0)]],[.xarr e 2 ((d++XD xs k).map Zd.c)]⟩:=by
 intro xs
 induction xs with
 |nil =>
  intro d k h1 h2 h3 h4;rw[Zn Zm9.eq_1]
  simp[XD,Zq,cnL,mkL]
 |cons x xs ih =>
  intro d k h1 h2 h3 h4;have hx:=h4 x (by simp);have e0:Zq (x::xs)=JJ x+Zq xs:=rfl;rw[e0]at h2;simp only[Ym]at h3;rcases x with⟨x0,x1⟩;have e1:JJ ⟨x0,x1⟩=1+1:=rfl;have eK:k+(JJ ⟨x0,x1⟩:Int)=k+1+1:=by omega
  have eL:k+(Zq (⟨x0,x1⟩::xs):Int)=k+1+1+(Zq xs:Int):=by omega
  have ih':=ih (d++[ZaP ⟨x0,x1⟩ k]) (k+1+1) (by omega) (by omega) (by simp;omega) (λy hy=>h4 y (by simp[hy]));rw[Zn Zm9.eq_1,eL,Z7p,eK];have g1:IntKind.wrap .i64 ((d.length:Int)+1)=(d.length:Int)+1:=Z1 (by omega) (by omega);have g3:(d.length:Int)<(d.length:Int)+((xs.length:Int)+1):=by omega
  have g5:(d.length:Int)+1+(xs.length:Int)=(d.length:Int)+((xs.length:Int)+1):=by omega
  have w0:IntKind.wrap .i64 (k+1)=k+1:=Z1 (by omega) (by omega);have w1:IntKind.wrap .i64 (k+1+1)=k+1+1:=Z1 (by omega) (by omega)
  (simp[g5,ZaP,tI]at ih';simp[g1,g3,w0,w1,ih',ZaP,tI])
def ZNK(e:Nat)(xs:List Zd)(k:Int)(h1:0<=k)(h2:k+(Zq xs:Int)<=4000000000000000000)(h3:SmA xs):C ZAC [.own 0,I k] [.xarr e 2 (xs.map Zd.c)]=some (I (k+Zq xs),[.xarr e 2 ((XD xs k).map Zd.c)]):=by
 refine XR ZKP rfl ?_;have h4:=λfr=>ZNJ e fr xs [] k h1 h2 (by have:xs.length<=4294967296:=h3;simp;omega) (λ_ _=>trivial)
 simp at h4;simp[Z6m,h4]
def ZNL(fr:List Fr):∀(xs d:List Zd) (k:Int),0<=k->k+(Zq xs:Int)<=4000000000000000000->d.length+xs.length<=4294967296->(∀x∈xs,x.small)->EvL C fr [0,1,5] ZmD ⟨[(0,L 2 ((d++XD xs k).map Zd.c)),(1,I k),(5,I d.length)],[[]],[]⟩ =
  EvX C fr (.x 0) ⟨[(0,L 2 ((d++XD xs k).map Zd.c)),(1,I (k+Zq xs)),(5,I (d.length+xs.length)),(9,Bo false)],[[]],[]⟩:=by
 intro xs
 induction xs with
 |nil =>
  intro d k h1 h2 h3 h4;rw[Zn ZmD.eq_1]
  simp[XD,Zq,cnL,mkL]
 |cons x xs ih =>
  intro d k h1 h2 h3 h4;have hx:=h4 x (by simp);have e0:Zq (x::xs)=JJ x+Zq xs:=rfl;rw[e0]at h2;simp only[Ym]at h3;rcases x with⟨x0,x1⟩;have e1:JJ ⟨x0,x1⟩=1+1:=rfl;have eK:k+(JJ ⟨x0,x1⟩:Int)=k+1+1:=by omega
  have eL:k+(Zq (⟨x0,x1⟩::xs):Int)=k+1+1+(Zq xs:Int):=by omega
  have ih':=ih (d++[ZaP ⟨x0,x1⟩ k]) (k+1+1) (by omega) (by omega) (by simp;omega) (λy hy=>h4 y (by simp[hy]));rw[Zn ZmD.eq_1,eL,Z7p,eK];have g1:IntKind.wrap .i64 ((d.length:Int)+1)=(d.length:Int)+1:=Z1 (by omega) (by omega);have g3:(d.length:Int)<(d.length:Int)+(((XD xs (k+1+1)).length:Int)+1):=by omega
  have g5:(d.length:Int)+1+(xs.length:Int)=(d.length:Int)+((xs.length:Int)+1):=by omega
  have w0:IntKind.wrap .i64 (k+1)=k+1:=Z1 (by omega) (by omega);have w1:IntKind.wrap .i64 (k+1+1)=k+1+1:=Z1 (by omega) (by omega);simp[g5,ZaP,tI]at ih';simp +decide[g1,g3,w0,w1,ih',ZaP,tI]
def ZNM(xs:List Zd)(k:Int)(h1:0<=k)(h2:k+(Zq xs:Int)<=4000000000000000000)(h3:SmA xs):C ZAG [L 2 ((XD xs k).map Zd.c),I k] []=some (I (k+Zq xs),[]):=by
 refine run ZKT rfl ?_;have h4:=λfr=>ZNL fr xs [] k h1 h2 (by have:xs.length<=4294967296:=h3;simp;omega) (λ_ _=>trivial)
 simp at h4;simp[Z6y,h4]
noncomputable def ZaQ(a:Zp)(k:Int):Zp:=⟨JH (k),mkI a.From (k+1),k+1+(a.From.length:Int)⟩
def UJ(a:Zp):Nat:=1+a.From.length+1
noncomputable def UK(xs:List Zp)(k:Int):List Zp:=mkL ZaQ UJ xs k
def ZN(xs:List Zp):Nat:=cnL UJ xs
def Z7q(x:Zp)(xs:List Zp)(k:Int):UK (x::xs) k=ZaQ x k::UK xs (k+(UJ x:Int)):=rfl
def ZNN(e:Nat)(fr:List Fr):∀(xs d:List Zp) (k:Int),0<=k->k+(ZN xs:Int)<=4000000000000000000->d.length+xs.length<=4294967296->(∀x∈xs,x.small)->EvL C fr [0,1,5] Zm1 ⟨[(0,.own 0),(1,I k),(5,I d.length)],[[(0,.own 0)]],[.xarr e 3 ((d++xs).map Zp.c)]⟩ =
  EvX C fr (.x 0) ⟨[(0,.own 0),(1,I (k+ZN xs)),(5,I (d.length+xs.length)),(9,Bo false)],[[(0,.own 0)]],[.xarr e 3 ((d++UK xs k).map Zp.c)]⟩:=by
 intro xs
 induction xs with
 |nil =>
  intro d k h1 h2 h3 h4;rw[Zn Zm1.eq_1]
  simp[UK,ZN,cnL,mkL]
 |cons x xs ih =>
  intro d k h1 h2 h3 h4;have hx:=h4 x (by simp);have e0:ZN (x::xs)=UJ x+ZN xs:=rfl;rw[e0]at h2;simp only[Ym]at h3;rcases x with⟨x0,x1,x2⟩;have e1:UJ ⟨x0,x1,x2⟩=1+x1.length+1:=rfl;have eK:k+(UJ ⟨x0,x1,x2⟩:Int)=k+1+(x1.length:Int)+1:=by omega
  have eL:k+(ZN (⟨x0,x1,x2⟩::xs):Int)=k+1+(x1.length:Int)+1+(ZN xs:Int):=by omega
  have ih':=ih (d++[ZaQ ⟨x0,x1,x2⟩ k]) (k+1+(x1.length:Int)+1) (by omega) (by omega) (by simp;omega) (λy hy=>h4 y (by simp[hy]));rw[Zn Zm1.eq_1,eL,Z7q,eK];have g1:IntKind.wrap .i64 ((d.length:Int)+1)=(d.length:Int)+1:=Z1 (by omega) (by omega);have g3:(d.length:Int)<(d.length:Int)+((xs.length:Int)+1):=by omega
  have g5:(d.length:Int)+1+(xs.length:Int)=(d.length:Int)+((xs.length:Int)+1):=by omega
  have w0:IntKind.wrap .i64 (k+1)=k+1:=Z1 (by omega) (by omega);have w1:IntKind.wrap .i64 (k+1+(x1.length:Int)+1)=k+1+(x1.length:Int)+1:=Z1 (by omega) (by omega);have t0:=QS (k) (by omega) (by omega);have m0:=Zct x1 (k+1) (by omega) (by omega) (by first|exact hx|exact hx.1|exact hx.2|exact hx.2.1|exact hx.2.2|exact hx.2.2.1|exact hx.2.2.2|exact hx.2.2.2.1|exact hx.2.2.2.2|exact hx.2.2.2.2.1|exact hx.2.2.2.2.2);rcases m0 with⟨r0,s0,m0⟩|⟨y0,ys0,r0,s0,m0⟩
  all_goals (simp[g5,ZaQ,tI,r0,s0]at ih';simp[g1,g3,w0,w1,t0,m0,r0,s0,ih',ZaQ,tI])
def ZNO(e:Nat)(xs:List Zp)(k:Int)(h1:0<=k)(h2:k+(ZN xs:Int)<=4000000000000000000)(h3:SmL Zp.small xs):C ZAi [.own 0,I k] [.xarr e 3 (xs.map Zp.c)]=some (I (k+ZN xs),[.xarr e 3 ((UK xs k).map Zp.c)]):=by
 refine XR ZK3 rfl ?_;have h4:=λfr=>ZNN e fr xs [] k h1 h2 (by have:xs.length<=4294967296:=h3.1;simp;omega) h3.2
 simp at h4;simp[Z5G,h4]
def ZNP(fr:List Fr):∀(xs d:List Zp) (k:Int),0<=k->k+(ZN xs:Int)<=4000000000000000000->d.length+xs.length<=4294967296->(∀x∈xs,x.small)->EvL C fr [0,1,5] Zm4 ⟨[(0,L 3 ((d++UK xs k).map Zp.c)),(1,I k),(5,I d.length)],[[]],[]⟩ =
  EvX C fr (.x 0) ⟨[(0,L 3 ((d++UK xs k).map Zp.c)),(1,I (k+ZN xs)),(5,I (d.length+xs.length)),(9,Bo false)],[[]],[]⟩:=by
 intro xs
 induction xs with
 |nil =>
  intro d k h1 h2 h3 h4;rw[Zn Zm4.eq_1]
  simp[UK,ZN,cnL,mkL]
 |cons x xs ih =>
  intro d k h1 h2 h3 h4;have hx:=h4 x (by simp);have e0:ZN (x::xs)=UJ x+ZN xs:=rfl;rw[e0]at h2;simp only[Ym]at h3;rcases x with⟨x0,x1,x2⟩;have e1:UJ ⟨x0,x1,x2⟩=1+x1.length+1:=rfl;have eK:k+(UJ ⟨x0,x1,x2⟩:Int)=k+1+(x1.length:Int)+1:=by omega
  have eL:k+(ZN (⟨x0,x1,x2⟩::xs):Int)=k+1+(x1.length:Int)+1+(ZN xs:Int):=by omega
  have ih':=ih (d++[ZaQ ⟨x0,x1,x2⟩ k]) (k+1+(x1.length:Int)+1) (by omega) (by omega) (by simp;omega) (λy hy=>h4 y (by simp[hy]));rw[Zn Zm4.eq_1,eL,Z7q,eK];have g1:IntKind.wrap .i64 ((d.length:Int)+1)=(d.length:Int)+1:=Z1 (by omega) (by omega);have g3:(d.length:Int)<(d.length:Int)+(((UK xs (k+1+(x1.length:Int)+1)).length:Int)+1):=by omega
  have g5:(d.length:Int)+1+(xs.length:Int)=(d.length:Int)+((xs.length:Int)+1):=by omega
  have w0:IntKind.wrap .i64 (k+1)=k+1:=Z1 (by omega) (by omega);have w1:IntKind.wrap .i64 (k+1+(x1.length:Int)+1)=k+1+(x1.length:Int)+1:=Z1 (by omega) (by omega);have t0:=QS (k) (by omega) (by omega);have m0:=Zcs x1 (k+1) (by omega) (by omega) (by first|exact hx|exact hx.1|exact hx.2|exact hx.2.1|exact hx.2.2|exact hx.2.2.1|exact hx.2.2.2|exact hx.2.2.2.1|exact hx.2.2.2.2|exact hx.2.2.2.2.1|exact hx.2.2.2.2.2);have z0:¬(k+1+(x1.length:Int)<0):=by omega
  simp[g5,ZaQ,tI]at ih';simp +decide[g1,g3,w0,w1,t0,m0,z0,ih',ZaQ,tI]
def ZNQ(xs:List Zp)(k:Int)(h1:0<=k)(h2:k+(ZN xs:Int)<=4000000000000000000)(h3:SmL Zp.small xs):C ZAo [L 3 ((UK xs k).map Zp.c),I k] []=some (I (k+ZN xs),[]):=by
 refine run ZK9 rfl ?_;have h4:=λfr=>ZNP fr xs [] k h1 h2 (by have:xs.length<=4294967296:=h3.1;simp;omega) h3.2
 simp at h4;simp[Z5P,h4]
noncomputable def ZaR(a:Zy)(k:Int):Zy:=⟨mkI a.Columns (k),Up a.Values (k+(a.Columns.length:Int)),mkI a.Counts (k+(a.Columns.length:Int)+(ZY a.Values:Int))⟩
def VV(a:Zy):Nat:=a.Columns.length+ZY a.Values+a.Counts.length
noncomputable def UL(xs:List Zy)(k:Int):List Zy:=mkL ZaR VV xs k
def X2(xs:List Zy):Nat:=cnL VV xs
def Z7r(x:Zy)(xs:List Zy)(k:Int):UL (x::xs) k=ZaR x k::UL xs (k+(VV x:Int)):=rfl
def ZNR(e:Nat)(fr:List Fr):∀(xs d:List Zy) (k:Int),0<=k->k+(X2 xs:Int)<=4000000000000000000->d.length+xs.length<=4294967296->(∀x∈xs,x.small)->EvL C fr [0,1,5] Zix ⟨[(0,.own 0),(1,I k),(5,I d.length)],[[(0,.own 0)]],[.xarr e 3 ((d++xs).map Zy.c)]⟩ =
  EvX C fr (.x 0) ⟨[(0,.own 0),(1,I (k+X2 xs)),(5,I (d.length+xs.length)),(9,Bo false)],[[(0,.own 0)]],[.xarr e 3 ((d++UL xs k).map Zy.c)]⟩:=by
 intro xs
 induction xs with
 |nil =>
  intro d k h1 h2 h3 h4;rw[Zn Zix.eq_1]
  simp[UL,X2,cnL,mkL]
 |cons x xs ih =>
  intro d k h1 h2 h3 h4;have hx:=h4 x (by simp);have e0:X2 (x::xs)=VV x+X2 xs:=rfl;rw[e0]at h2;simp only[Ym]at h3;rcases x with⟨x0,x1,x2⟩;have e1:VV ⟨x0,x1,x2⟩=x0.length+ZY x1+x2.length:=rfl;have eK:k+(VV ⟨x0,x1,x2⟩:Int)=k+(x0.length:Int)+(ZY x1:Int)+(x2.length:Int):=by omega
  have eL:k+(X2 (⟨x0,x1,x2⟩::xs):Int)=k+(x0.length:Int)+(ZY x1:Int)+(x2.length:Int)+(X2 xs:Int):=by omega
  have ih':=ih (d++[ZaR ⟨x0,x1,x2⟩ k]) (k+(x0.length:Int)+(ZY x1:Int)+(x2.length:Int)) (by omega) (by omega) (by simp;omega) (λy hy=>h4 y (by simp[hy]));rw[Zn Zix.eq_1,eL,Z7r,eK];have g1:IntKind.wrap .i64 ((d.length:Int)+1)=(d.length:Int)+1:=Z1 (by omega) (by omega);have g3:(d.length:Int)<(d.length:Int)+((xs.length:Int)+1):=by omega
  have g5:(d.length:Int)+1+(xs.length:Int)=(d.length:Int)+((xs.length:Int)+1):=by omega
  have m0:=Zct x0 (k) (by omega) (by omega) (by first|exact hx|exact hx.1|exact hx.2|exact hx.2.1|exact hx.2.2|exact hx.2.2.1|exact hx.2.2.2|exact hx.2.2.2.1|exact hx.2.2.2.2|exact hx.2.2.2.2.1|exact hx.2.2.2.2.2);have m1:=Z7l x1 (k+(x0.length:Int)) (by omega) (by omega) (by first|exact hx|exact hx.1|exact hx.2|exact hx.2.1|exact hx.2.2|exact hx.2.2.1|exact hx.2.2.2|exact hx.2.2.2.1|exact hx.2.2.2.2|exact hx.2.2.2.2.1|exact hx.2.2.2.2.2);have m2:=Zct x2 (k+(x0.length:Int)+(ZY x1:Int)) (by omega) (by omega) (by first|exact hx|exact hx.1|exact hx.2|exact hx.2.1|exact hx.2.2|exact hx.2.2.1|exact hx.2.2.2|exact hx.2.2.2.1|exact hx.2.2.2.2|exact hx.2.2.2.2.1|exact hx.2.2.2.2.2);rcases m0 with⟨r0,s0,m0⟩|⟨y0,ys0,r0,s0,m0⟩
  all_goals rcases m1 with⟨r1,s1,m1⟩|⟨y1,ys1,r1,s1,m1⟩
  all_goals rcases m2 with⟨r2,s2,m2⟩|⟨y2,ys2,r2,s2,m2⟩
  all_goals (simp[g5,ZaR,tI,tII,r0,s0,r1,s1,r2,s2]at ih';simp[g1,g3,m0,r0,s0,m1,r1,s1,m2,r2,s2,ih',ZaR,tI,tII])
def ZNS(e:Nat)(xs:List Zy)(k:Int)(h1:0<=k)(h2:k+(X2 xs:Int)<=4000000000000000000)(h3:SmL Zy.small xs):C ZjG [.own 0,I k] [.xarr e 3 (xs.map Zy.c)]=some (I (k+X2 xs),[.xarr e 3 ((UL xs k).map Zy.c)]):=by
 refine XR Z6K rfl ?_;have h4:=λfr=>ZNR e fr xs [] k h1 h2 (by have:xs.length<=4294967296:=h3.1;simp;omega) h3.2
 simp at h4;simp[Zvz,h4]
def ZNT(n:Nat)(k:Int):C ZjG [.t (.lst n []),I k] []=some (I k,[]):=by
 refine run Z6K rfl ?_;simp[Zvz,Zn Zix.eq_1]
def ZNU(xs:List Zy)(k:Int)(h1:0<=k)(h2:k+(X2 xs:Int)<=4000000000000000000)(h3:SmL Zy.small xs):(xs.map Zy.c=[]/\(UL xs (k)).map Zy.c=[]/\C ZjG [.t (.lst 3 []),I k] []=some (I (k+(X2 xs:Int)),[]))\/∃y ys,xs.map Zy.c=y::ys/\True/\C ZjG [.own 0,I k] [.xarr unk 3 (y::ys)]=some (I (k+(X2 xs:Int)),[.xarr unk 3 ((UL xs (k)).map Zy.c)]):=by
 have c:=ZNS unk xs k h1 h2 h3
 cases xs with
 |nil=>exact .inl ⟨rfl,rfl,by have:=ZNT 3 k;simpa[UL,X2,cnL,mkL]using this⟩
 |cons y ys=>exact .inr ⟨_,_,rfl,trivial,c⟩
def ZNV(fr:List Fr):∀(xs d:V4) (k:Int),0<=k->k+(ZY xs:Int)<=4000000000000000000->d.length+xs.length<=4294967296->(∀x∈xs,SmA x)->EvL C fr [0,1,5] ZmG ⟨[(0,L 1 ((d++Up xs k).map isc)),(1,I k),(5,I d.length)],[[]],[]⟩ =
  EvX C fr (.x 0) ⟨[(0,L 1 ((d++Up xs k).map isc)),(1,I (k+ZY xs)),(5,I (d.length+xs.length)),(9,Bo false)],[[]],[]⟩:=by
 intro xs
 induction xs with
 |nil =>
  intro d k h1 h2 h3 h4;rw[Zn ZmG.eq_1]
  simp[Up,ZY,cnL,mkL]
 |cons x xs ih =>
  intro d k h1 h2 h3 h4;have hx:=h4 x (by simp);have e0:ZY (x::xs)=VU x+ZY xs:=rfl;rw[e0]at h2;simp only[Ym]at h3;have e1:VU x=x.length:=rfl;have eK:k+(VU x:Int)=k+(x.length:Int):=by omega
  have eL:k+(ZY (x::xs):Int)=k+(x.length:Int)+(ZY xs:Int):=by omega
  have ih':=ih (d++[ZaL x k]) (k+(x.length:Int)) (by omega) (by omega) (by simp;omega) (λy hy=>h4 y (by simp[hy]));rw[Zn ZmG.eq_1,eL,Z7k,eK];have g1:IntKind.wrap .i64 ((d.length:Int)+1)=(d.length:Int)+1:=Z1 (by omega) (by omega);have g3:(d.length:Int)<(d.length:Int)+(((Up xs (k+(x.length:Int))).length:Int)+1):=by omega
  have g5:(d.length:Int)+1+(xs.length:Int)=(d.length:Int)+((xs.length:Int)+1):=by omega
  have m0:=Zcs x (k) (by omega) (by omega) hx;have z0:¬(k+(x.length:Int)<0):=by omega
  simp[g5,ZaL,tI]at ih';simp +decide[g1,g3,m0,z0,ih',ZaL,tI]
def Z7s(xs:V4)(k:Int)(h1:0<=k)(h2:k+(ZY xs:Int)<=4000000000000000000)(h3:SmL SmA xs):C ZAX [L 1 ((Up xs k).map isc),I k] []=some (I (k+ZY xs),[]):=by
 refine run ZLk rfl ?_;have h4:=λfr=>ZNV fr xs [] k h1 h2 (by have:xs.length<=4294967296:=h3.1;simp;omega) h3.2
 simp at h4;simp[Z6M,h4]
def ZNW(fr:List Fr):∀(xs d:List Zy) (k:Int),0<=k->k+(X2 xs:Int)<=4000000000000000000->d.length+xs.length<=4294967296->(∀x∈xs,x.small)->EvL C fr [0,1,5] ZmH ⟨[(0,L 3 ((d++UL xs k).map Zy.c)),(1,I k),(5,I d.length)],[[]],[]⟩ =
  EvX C fr (.x 0) ⟨[(0,L 3 ((d++UL xs k).map Zy.c)),(1,I (k+X2 xs)),(5,I (d.length+xs.length)),(9,Bo false)],[[]],[]⟩:=by
 intro xs
 induction xs with
 |nil =>
  intro d k h1 h2 h3 h4;rw[Zn ZmH.eq_1]
  simp[UL,X2,cnL,mkL]
 |cons x xs ih =>
  intro d k h1 h2 h3 h4;have hx:=h4 x (by simp);have e0:X2 (x::xs)=VV x+X2 xs:=rfl;rw[e0]at h2;simp only[Ym]at h3;rcases x with⟨x0,x1,x2⟩;have e1:VV ⟨x0,x1,x2⟩=x0.length+ZY x1+x2.length:=rfl;have eK:k+(VV ⟨x0,x1,x2⟩:Int)=k+(x0.length:Int)+(ZY x1:Int)+(x2.length:Int):=by omega
  have eL:k+(X2 (⟨x0,x1,x2⟩::xs):Int)=k+(x0.length:Int)+(ZY x1:Int)+(x2.length:Int)+(X2 xs:Int):=by omega
  have ih':=ih (d++[ZaR ⟨x0,x1,x2⟩ k]) (k+(x0.length:Int)+(ZY x1:Int)+(x2.length:Int)) (by omega) (by omega) (by simp;omega) (λy hy=>h4 y (by simp[hy]));rw[Zn ZmH.eq_1,eL,Z7r,eK];have g1:IntKind.wrap .i64 ((d.length:Int)+1)=(d.length:Int)+1:=Z1 (by omega) (by omega);have g3:(d.length:Int)<(d.length:Int)+(((UL xs (k+(x0.length:Int)+(ZY x1:Int)+(x2.length:Int))).length:Int)+1):=by omega
  have g5:(d.length:Int)+1+(xs.length:Int)=(d.length:Int)+((xs.length:Int)+1):=by omega
  have m0:=Zcs x0 (k) (by omega) (by omega) (by first|exact hx|exact hx.1|exact hx.2|exact hx.2.1|exact hx.2.2|exact hx.2.2.1|exact hx.2.2.2|exact hx.2.2.2.1|exact hx.2.2.2.2|exact hx.2.2.2.2.1|exact hx.2.2.2.2.2);have z0:¬(k+(x0.length:Int)<0):=by omega
  have m1:=Z7s x1 (k+(x0.length:Int)) (by omega) (by omega) (by first|exact hx|exact hx.1|exact hx.2|exact hx.2.1|exact hx.2.2|exact hx.2.2.1|exact hx.2.2.2|exact hx.2.2.2.1|exact hx.2.2.2.2|exact hx.2.2.2.2.1|exact hx.2.2.2.2.2);have z1:¬(k+(x0.length:Int)+(ZY x1:Int)<0):=by omega
  have m2:=Zcs x2 (k+(x0.length:Int)+(ZY x1:Int)) (by omega) (by omega) (by first|exact hx|exact hx.1|exact hx.2|exact hx.2.1|exact hx.2.2|exact hx.2.2.1|exact hx.2.2.2|exact hx.2.2.2.1|exact hx.2.2.2.2|exact hx.2.2.2.2.1|exact hx.2.2.2.2.2);have z2:¬(k+(x0.length:Int)+(ZY x1:Int)+(x2.length:Int)<0):=by omega
  simp[g5,ZaR,tI,tII]at ih';simp +decide[g1,g3,m0,z0,m1,z1,m2,z2,ih',ZaR,tI,tII]
def ZNX(xs:List Zy)(k:Int)(h1:0<=k)(h2:k+(X2 xs:Int)<=4000000000000000000)(h3:SmL Zy.small xs):C ZAY [L 3 ((UL xs k).map Zy.c),I k] []=some (I (k+X2 xs),[]):=by
 refine run ZLl rfl ?_;have h4:=λfr=>ZNW fr xs [] k h1 h2 (by have:xs.length<=4294967296:=h3.1;simp;omega) h3.2
 simp at h4;simp[Z6O,h4]
noncomputable def ZaS(a:Zr)(k:Int):Zr:=⟨JH (k),k+1,JH (k+1+1),k+1+1+1⟩
def UM(a:Zr):Nat:=1+1+1+1
noncomputable def UN(xs:List Zr)(k:Int):List Zr:=mkL ZaS UM xs k
def Xa(xs:List Zr):Nat:=cnL UM xs
def Z7t(x:Zr)(xs:List Zr)(k:Int):UN (x::xs) k=ZaS x k::UN xs (k+(UM x:Int)):=rfl
def ZNY(e:Nat)(fr:List Fr):∀(xs d:List Zr) (k:Int),0<=k->k+(Xa xs:Int)<=4000000000000000000->d.length+xs.length<=4294967296->(∀x∈xs,x.small)->EvL C fr [0,1,5] Zm2 ⟨[(0,.own 0),(1,I k),(5,I d.length)],[[(0,.own 0)]],[.xarr e 4 ((d++xs).map Zr.c)]⟩ =
  EvX C fr (.x 0) ⟨[(0,.own 0),(1,I (k+Xa xs)),(5,I (d.length+xs.length)),(9,Bo false)],[[(0,.own 0)]],[.xarr e 4 ((d++UN xs k).map Zr.c)]⟩:=by
 intro xs
 induction xs with
 |nil =>
  intro d k h1 h2 h3 h4;rw[Zn Zm2.eq_1]
  simp[UN,Xa,cnL,mkL]
 |cons x xs ih =>
  intro d k h1 h2 h3 h4;have hx:=h4 x (by simp);have e0:Xa (x::xs)=UM x+Xa xs:=rfl;rw[e0]at h2;simp only[Ym]at h3;rcases x with⟨x0,x1,x2,x3⟩;have e1:UM ⟨x0,x1,x2,x3⟩=1+1+1+1:=rfl;have eK:k+(UM ⟨x0,x1,x2,x3⟩:Int)=k+1+1+1+1:=by omega
  have eL:k+(Xa (⟨x0,x1,x2,x3⟩::xs):Int)=k+1+1+1+1+(Xa xs:Int):=by omega
  have ih':=ih (d++[ZaS ⟨x0,x1,x2,x3⟩ k]) (k+1+1+1+1) (by omega) (by omega) (by simp;omega) (λy hy=>h4 y (by simp[hy]));rw[Zn Zm2.eq_1,eL,Z7t,eK];have g1:IntKind.wrap .i64 ((d.length:Int)+1)=(d.length:Int)+1:=Z1 (by omega) (by omega);have g3:(d.length:Int)<(d.length:Int)+((xs.length:Int)+1):=by omega
  have g5:(d.length:Int)+1+(xs.length:Int)=(d.length:Int)+((xs.length:Int)+1):=by omega
  have w0:IntKind.wrap .i64 (k+1)=k+1:=Z1 (by omega) (by omega);have w1:IntKind.wrap .i64 (k+1+1)=k+1+1:=Z1 (by omega) (by omega);have w2:IntKind.wrap .i64 (k+1+1+1)=k+1+1+1:=Z1 (by omega) (by omega);have w3:IntKind.wrap .i64 (k+1+1+1+1)=k+1+1+1+1:=Z1 (by omega) (by omega);have t0:=QS (k) (by omega) (by omega);have t1:=QS (k+1+1) (by omega) (by omega)
  (simp[g5,ZaS,tI]at ih';simp[g1,g3,w0,w1,w2,w3,t0,t1,ih',ZaS,tI])
def ZNZ(e:Nat)(xs:List Zr)(k:Int)(h1:0<=k)(h2:k+(Xa xs:Int)<=4000000000000000000)(h3:SmL Zr.small xs):C ZAj [.own 0,I k] [.xarr e 4 (xs.map Zr.c)]=some (I (k+Xa xs),[.xarr e 4 ((UN xs k).map Zr.c)]):=by
 refine XR ZK4 rfl ?_;have h4:=λfr=>ZNY e fr xs [] k h1 h2 (by have:xs.length<=4294967296:=h3.1;simp;omega) h3.2
 simp at h4;simp[Z5I,h4]
def ZOa(fr:List Fr):∀(xs d:List Zr) (k:Int),0<=k->k+(Xa xs:Int)<=4000000000000000000->d.length+xs.length<=4294967296->(∀x∈xs,x.small)->EvL C fr [0,1,5] Zm5 ⟨[(0,L 4 ((d++UN xs k).map Zr.c)),(1,I k),(5,I d.length)],[[]],[]⟩ =
  EvX C fr (.x 0) ⟨[(0,L 4 ((d++UN xs k).map Zr.c)),(1,I (k+Xa xs)),(5,I (d.length+xs.length)),(9,Bo false)],[[]],[]⟩:=by
 intro xs
 induction xs with
 |nil =>
  intro d k h1 h2 h3 h4;rw[Zn Zm5.eq_1]
  simp[UN,Xa,cnL,mkL]
 |cons x xs ih =>
  intro d k h1 h2 h3 h4;have hx:=h4 x (by simp);have e0:Xa (x::xs)=UM x+Xa xs:=rfl;rw[e0]at h2;simp only[Ym]at h3;rcases x with⟨x0,x1,x2,x3⟩;have e1:UM ⟨x0,x1,x2,x3⟩=1+1+1+1:=rfl;have eK:k+(UM ⟨x0,x1,x2,x3⟩:Int)=k+1+1+1+1:=by omega
  have eL:k+(Xa (⟨x0,x1,x2,x3⟩::xs):Int)=k+1+1+1+1+(Xa xs:Int):=by omega
  have ih':=ih (d++[ZaS ⟨x0,x1,x2,x3⟩ k]) (k+1+1+1+1) (by omega) (by omega) (by simp;omega) (λy hy=>h4 y (by simp[hy]));rw[Zn Zm5.eq_1,eL,Z7t,eK];have g1:IntKind.wrap .i64 ((d.length:Int)+1)=(d.length:Int)+1:=Z1 (by omega) (by omega);have g3:(d.length:Int)<(d.length:Int)+(((UN xs (k+1+1+1+1)).length:Int)+1):=by omega
  have g5:(d.length:Int)+1+(xs.length:Int)=(d.length:Int)+((xs.length:Int)+1):=by omega
  have w0:IntKind.wrap .i64 (k+1)=k+1:=Z1 (by omega) (by omega);have w1:IntKind.wrap .i64 (k+1+1)=k+1+1:=Z1 (by omega) (by omega);have w2:IntKind.wrap .i64 (k+1+1+1)=k+1+1+1:=Z1 (by omega) (by omega);have w3:IntKind.wrap .i64 (k+1+1+1+1)=k+1+1+1+1:=Z1 (by omega) (by omega);have t0:=QS (k) (by omega) (by omega);have t1:=QS (k+1+1) (by omega) (by omega);simp[g5,ZaS,tI]at ih';simp +decide[g1,g3,w0,w1,w2,w3,t0,t1,ih',ZaS,tI]
def ZOb(xs:List Zr)(k:Int)(h1:0<=k)(h2:k+(Xa xs:Int)<=4000000000000000000)(h3:SmL Zr.small xs):C ZAp [L 4 ((UN xs k).map Zr.c),I k] []=some (I (k+Xa xs),[]):=by
 refine run ZKA rfl ?_;have h4:=λfr=>ZOa fr xs [] k h1 h2 (by have:xs.length<=4294967296:=h3.1;simp;omega) h3.2
 simp at h4;simp[Z5R,h4]
noncomputable def ZaT(a:Zc)(k:Int):Zc:=⟨JH (k),k+1,Up a.Rows (k+1+1)⟩
def Vg(a:Zc):Nat:=1+1+ZY a.Rows
noncomputable def VW(xs:List Zc)(k:Int):List Zc:=mkL ZaT Vg xs k
def ZA(xs:List Zc):Nat:=cnL Vg xs
def Z7u(x:Zc)(xs:List Zc)(k:Int):VW (x::xs) k=ZaT x k::VW xs (k+(Vg x:Int)):=rfl
def ZOc(e:Nat)(fr:List Fr):∀(xs d:List Zc) (k:Int),0<=k->k+(ZA xs:Int)<=4000000000000000000->d.length+xs.length<=4294967296->(∀x∈xs,x.small)->EvL C fr [0,1,5] Zm7 ⟨[(0,.own 0),(1,I k),(5,I d.length)],[[(0,.own 0)]],[.xarr e 3 ((d++xs).map Zc.c)]⟩ =
  EvX C fr (.x 0) ⟨[(0,.own 0),(1,I (k+ZA xs)),(5,I (d.length+xs.length)),(9,Bo false)],[[(0,.own 0)]],[.xarr e 3 ((d++VW xs k).map Zc.c)]⟩:=by
 intro xs
 induction xs with
 |nil =>
  intro d k h1 h2 h3 h4;rw[Zn Zm7.eq_1]
  simp[VW,ZA,cnL,mkL]
 |cons x xs ih =>
  intro d k h1 h2 h3 h4;have hx:=h4 x (by simp);have e0:ZA (x::xs)=Vg x+ZA xs:=rfl;rw[e0]at h2;simp only[Ym]at h3;rcases x with⟨x0,x1,x2⟩;have e1:Vg ⟨x0,x1,x2⟩=1+1+ZY x2:=rfl;have eK:k+(Vg ⟨x0,x1,x2⟩:Int)=k+1+1+(ZY x2:Int):=by omega
  have eL:k+(ZA (⟨x0,x1,x2⟩::xs):Int)=k+1+1+(ZY x2:Int)+(ZA xs:Int):=by omega
  have ih':=ih (d++[ZaT ⟨x0,x1,x2⟩ k]) (k+1+1+(ZY x2:Int)) (by omega) (by omega) (by simp;omega) (λy hy=>h4 y (by simp[hy]));rw[Zn Zm7.eq_1,eL,Z7u,eK];have g1:IntKind.wrap .i64 ((d.length:Int)+1)=(d.length:Int)+1:=Z1 (by omega) (by omega);have g3:(d.length:Int)<(d.length:Int)+((xs.length:Int)+1):=by omega
  have g5:(d.length:Int)+1+(xs.length:Int)=(d.length:Int)+((xs.length:Int)+1):=by omega
  have w0:IntKind.wrap .i64 (k+1)=k+1:=Z1 (by omega) (by omega);have w1:IntKind.wrap .i64 (k+1+1)=k+1+1:=Z1 (by omega) (by omega);have t0:=QS (k) (by omega) (by omega);have m0:=Z7l x2 (k+1+1) (by omega) (by omega) (by first|exact hx|exact hx.1|exact hx.2|exact hx.2.1|exact hx.2.2|exact hx.2.2.1|exact hx.2.2.2|exact hx.2.2.2.1|exact hx.2.2.2.2|exact hx.2.2.2.2.1|exact hx.2.2.2.2.2);rcases m0 with⟨r0,s0,m0⟩|⟨y0,ys0,r0,s0,m0⟩
  all_goals (simp[g5,ZaT,tI,tII,r0,s0]at ih';simp[g1,g3,w0,w1,t0,m0,r0,s0,ih',ZaT,tI,tII])
def ZOd(e:Nat)(xs:List Zc)(k:Int)(h1:0<=k)(h2:k+(ZA xs:Int)<=4000000000000000000)(h3:SmL Zc.small xs):C ZAA [.own 0,I k] [.xarr e 3 (xs.map Zc.c)]=some (I (k+ZA xs),[.xarr e 3 ((VW xs k).map Zc.c)]):=by
 refine XR ZKN rfl ?_;have h4:=λfr=>ZOc e fr xs [] k h1 h2 (by have:xs.length<=4294967296:=h3.1;simp;omega) h3.2
 simp at h4;simp[Z6g,h4]
def ZOe(fr:List Fr):∀(xs d:List Zc) (k:Int),0<=k->k+(ZA xs:Int)<=4000000000000000000->d.length+xs.length<=4294967296->(∀x∈xs,x.small)->EvL C fr [0,1,5] ZmA ⟨[(0,L 3 ((d++VW xs k).map Zc.c)),(1,I k),(5,I d.length)],[[]],[]⟩ =
  EvX C fr (.x 0) ⟨[(0,L 3 ((d++VW xs k).map Zc.c)),(1,I (k+ZA xs)),(5,I (d.length+xs.length)),(9,Bo false)],[[]],[]⟩:=by
 intro xs
 induction xs with
 |nil =>
  intro d k h1 h2 h3 h4;rw[Zn ZmA.eq_1]
  simp[VW,ZA,cnL,mkL]
 |cons x xs ih =>
  intro d k h1 h2 h3 h4;have hx:=h4 x (by simp);have e0:ZA (x::xs)=Vg x+ZA xs:=rfl;rw[e0]at h2;simp only[Ym]at h3;rcases x with⟨x0,x1,x2⟩;have e1:Vg ⟨x0,x1,x2⟩=1+1+ZY x2:=rfl;have eK:k+(Vg ⟨x0,x1,x2⟩:Int)=k+1+1+(ZY x2:Int):=by omega
  have eL:k+(ZA (⟨x0,x1,x2⟩::xs):Int)=k+1+1+(ZY x2:Int)+(ZA xs:Int):=by omega
  have ih':=ih (d++[ZaT ⟨x0,x1,x2⟩ k]) (k+1+1+(ZY x2:Int)) (by omega) (by omega) (by simp;omega) (λy hy=>h4 y (by simp[hy]));rw[Zn ZmA.eq_1,eL,Z7u,eK];have g1:IntKind.wrap .i64 ((d.length:Int)+1)=(d.length:Int)+1:=Z1 (by omega) (by omega);have g3:(d.length:Int)<(d.length:Int)+(((VW xs (k+1+1+(ZY x2:Int))).length:Int)+1):=by omega
  have g5:(d.length:Int)+1+(xs.length:Int)=(d.length:Int)+((xs.length:Int)+1):=by omega
  have w0:IntKind.wrap .i64 (k+1)=k+1:=Z1 (by omega) (by omega);have w1:IntKind.wrap .i64 (k+1+1)=k+1+1:=Z1 (by omega) (by omega);have t0:=QS (k) (by omega) (by omega);have m0:=Z7s x2 (k+1+1) (by omega) (by omega) (by first|exact hx|exact hx.1|exact hx.2|exact hx.2.1|exact hx.2.2|exact hx.2.2.1|exact hx.2.2.2|exact hx.2.2.2.1|exact hx.2.2.2.2|exact hx.2.2.2.2.1|exact hx.2.2.2.2.2);have z0:¬(k+1+1+(ZY x2:Int)<0):=by omega
  simp[g5,ZaT,tI,tII]at ih';simp +decide[g1,g3,w0,w1,t0,m0,z0,ih',ZaT,tI,tII]
def ZOf(xs:List Zc)(k:Int)(h1:0<=k)(h2:k+(ZA xs:Int)<=4000000000000000000)(h3:SmL Zc.small xs):C ZAD [L 3 ((VW xs k).map Zc.c),I k] []=some (I (k+ZA xs),[]):=by
 refine run ZKQ rfl ?_;have h4:=λfr=>ZOe fr xs [] k h1 h2 (by have:xs.length<=4294967296:=h3.1;simp;omega) h3.2
 simp at h4;simp[Z6s,h4]
noncomputable def ZaU(a:Zk)(k:Int):Zk:=⟨JH (k),k+1,k+1+1,UL a.Groups (k+1+1+1)⟩
def Vh(a:Zk):Nat:=1+1+1+X2 a.Groups
noncomputable def VX(xs:List Zk)(k:Int):List Zk:=mkL ZaU Vh xs k
def ZF(xs:List Zk):Nat:=cnL Vh xs
def Z7v(x:Zk)(xs:List Zk)(k:Int):VX (x::xs) k=ZaU x k::VX xs (k+(Vh x:Int)):=rfl
def ZOg(e:Nat)(fr:List Fr):∀(xs d:List Zk) (k:Int),0<=k->k+(ZF xs:Int)<=4000000000000000000->d.length+xs.length<=4294967296->(∀x∈xs,x.small)->EvL C fr [0,1,5] Zm8 ⟨[(0,.own 0),(1,I k),(5,I d.length)],[[(0,.own 0)]],[.xarr e 4 ((d++xs).map Zk.c)]⟩ =
  EvX C fr (.x 0) ⟨[(0,.own 0),(1,I (k+ZF xs)),(5,I (d.length+xs.length)),(9,Bo false)],[[(0,.own 0)]],[.xarr e 4 ((d++VX xs k).map Zk.c)]⟩:=by
 intro xs
 induction xs with
 |nil =>
  intro d k h1 h2 h3 h4;rw[Zn Zm8.eq_1]
  simp[VX,ZF,cnL,mkL]
 |cons x xs ih =>
  intro d k h1 h2 h3 h4;have hx:=h4 x (by simp);have e0:ZF (x::xs)=Vh x+ZF xs:=rfl;rw[e0]at h2;simp only[Ym]at h3;rcases x with⟨x0,x1,x2,x3⟩;have e1:Vh ⟨x0,x1,x2,x3⟩=1+1+1+X2 x3:=rfl;have eK:k+(Vh ⟨x0,x1,x2,x3⟩:Int)=k+1+1+1+(X2 x3:Int):=by omega
  have eL:k+(ZF (⟨x0,x1,x2,x3⟩::xs):Int)=k+1+1+1+(X2 x3:Int)+(ZF xs:Int):=by omega
  have ih':=ih (d++[ZaU ⟨x0,x1,x2,x3⟩ k]) (k+1+1+1+(X2 x3:Int)) (by omega) (by omega) (by simp;omega) (λy hy=>h4 y (by simp[hy]));rw[Zn Zm8.eq_1,eL,Z7v,eK];have g1:IntKind.wrap .i64 ((d.length:Int)+1)=(d.length:Int)+1:=Z1 (by omega) (by omega);have g3:(d.length:Int)<(d.length:Int)+((xs.length:Int)+1):=by omega
  have g5:(d.length:Int)+1+(xs.length:Int)=(d.length:Int)+((xs.length:Int)+1):=by omega
  have w0:IntKind.wrap .i64 (k+1)=k+1:=Z1 (by omega) (by omega);have w1:IntKind.wrap .i64 (k+1+1)=k+1+1:=Z1 (by omega) (by omega);have w2:IntKind.wrap .i64 (k+1+1+1)=k+1+1+1:=Z1 (by omega) (by omega);have t0:=QS (k) (by omega) (by omega);have m0:=ZNU x3 (k+1+1+1) (by omega) (by omega) (by first|exact hx|exact hx.1|exact hx.2|exact hx.2.1|exact hx.2.2|exact hx.2.2.1|exact hx.2.2.2|exact hx.2.2.2.1|exact hx.2.2.2.2|exact hx.2.2.2.2.1|exact hx.2.2.2.2.2);rcases m0 with⟨r0,s0,m0⟩|⟨y0,ys0,r0,s0,m0⟩
  all_goals (simp[g5,ZaU,tI,r0,s0]at ih';simp[g1,g3,w0,w1,w2,t0,m0,r0,s0,ih',ZaU,tI])
def ZOh(e:Nat)(xs:List Zk)(k:Int)(h1:0<=k)(h2:k+(ZF xs:Int)<=4000000000000000000)(h3:SmL Zk.small xs):C ZAB [.own 0,I k] [.xarr e 4 (xs.map Zk.c)]=some (I (k+ZF xs),[.xarr e 4 ((VX xs k).map Zk.c)]):=by
 refine XR ZKO rfl ?_;have h4:=λfr=>ZOg e fr xs [] k h1 h2 (by have:xs.length<=4294967296:=h3.1;simp;omega) h3.2
 simp at h4;simp[Z6i,h4]
def ZOi(fr:List Fr):∀(xs d:List Zk) (k:Int),0<=k->k+(ZF xs:Int)<=4000000000000000000->d.length+xs.length<=4294967296->(∀x∈xs,x.small)->EvL C fr [0,1,5] ZmB ⟨[(0,L 4 ((d++VX xs k).map Zk.c)),(1,I k),(5,I d.length)],[[]],[]⟩ =
  EvX C fr (.x 0) ⟨[(0,L 4 ((d++VX xs k).map Zk.c)),(1,I (k+ZF xs)),(5,I (d.length+xs.length)),(9,Bo false)],[[]],[]⟩:=by
 intro xs
 induction xs with
 |nil =>
  intro d k h1 h2 h3 h4;rw[Zn ZmB.eq_1]
  simp[VX,ZF,cnL,mkL]
 |cons x xs ih =>
  intro d k h1 h2 h3 h4;have hx:=h4 x (by simp);have e0:ZF (x::xs)=Vh x+ZF xs:=rfl;rw[e0]at h2;simp only[Ym]at h3;rcases x with⟨x0,x1,x2,x3⟩;have e1:Vh ⟨x0,x1,x2,x3⟩=1+1+1+X2 x3:=rfl;have eK:k+(Vh ⟨x0,x1,x2,x3⟩:Int)=k+1+1+1+(X2 x3:Int):=by omega
  have eL:k+(ZF (⟨x0,x1,x2,x3⟩::xs):Int)=k+1+1+1+(X2 x3:Int)+(ZF xs:Int):=by omega
  have ih':=ih (d++[ZaU ⟨x0,x1,x2,x3⟩ k]) (k+1+1+1+(X2 x3:Int)) (by omega) (by omega) (by simp;omega) (λy hy=>h4 y (by simp[hy]));rw[Zn ZmB.eq_1,eL,Z7v,eK];have g1:IntKind.wrap .i64 ((d.length:Int)+1)=(d.length:Int)+1:=Z1 (by omega) (by omega);have g3:(d.length:Int)<(d.length:Int)+(((VX xs (k+1+1+1+(X2 x3:Int))).length:Int)+1):=by omega
  have g5:(d.length:Int)+1+(xs.length:Int)=(d.length:Int)+((xs.length:Int)+1):=by omega
  have w0:IntKind.wrap .i64 (k+1)=k+1:=Z1 (by omega) (by omega);have w1:IntKind.wrap .i64 (k+1+1)=k+1+1:=Z1 (by omega) (by omega);have w2:IntKind.wrap .i64 (k+1+1+1)=k+1+1+1:=Z1 (by omega) (by omega);have t0:=QS (k) (by omega) (by omega);have m0:=ZNX x3 (k+1+1+1) (by omega) (by omega) (by first|exact hx|exact hx.1|exact hx.2|exact hx.2.1|exact hx.2.2|exact hx.2.2.1|exact hx.2.2.2|exact hx.2.2.2.1|exact hx.2.2.2.2|exact hx.2.2.2.2.1|exact hx.2.2.2.2.2);have z0:¬(k+1+1+1+(X2 x3:Int)<0):=by omega
  simp[g5,ZaU,tI]at ih';simp +decide[g1,g3,w0,w1,w2,t0,m0,z0,ih',ZaU,tI]
def ZOj(xs:List Zk)(k:Int)(h1:0<=k)(h2:k+(ZF xs:Int)<=4000000000000000000)(h3:SmL Zk.small xs):C ZAE [L 4 ((VX xs k).map Zk.c),I k] []=some (I (k+ZF xs),[]):=by
 refine run ZKR rfl ?_;have h4:=λfr=>ZOi fr xs [] k h1 h2 (by have:xs.length<=4294967296:=h3.1;simp;omega) h3.2
 simp at h4;simp[Z6u,h4]
def ZOk(e0:Nat)(x0:Int)(x1:List Zk)(k:Int)(h1:0<=k)(h2:k+(ZF x1:Int)<=4000000000000000000)(cc:SmL Zk.small x1):C ZAh [.agg [I x0,.own 0],I k] [.xarr e0 4 (x1.map Zk.c)]=some (I (k+(ZF x1:Int)),[.xarr e0 4 ((VX x1 (k)).map Zk.c)]):=by
 refine XR ZK2 rfl ?_;have m0:=ZOh e0 x1 (k) (by omega) (by omega) cc;simp[Z5E,m0]
def ZOl(x0:Int)(x1:List Zk)(k:Int)(h1:0<=k)(h2:k+(ZF x1:Int)<=4000000000000000000)(cc:SmL Zk.small x1):C ZAn [.agg [I x0,.t (.lst 4 ((VX x1 (k)).map Zk.c))],I k] []=some (I (k+(ZF x1:Int)),[]):=by
 refine run ZK8 rfl ?_;have m0:=ZOj x1 (k) (by omega) (by omega) cc;have z0:¬(k+(ZF x1:Int)<0):=by omega
 simp[Z5N,tI,m0,z0]
def ZOm(e0:Nat)(x0:List Zc)(k:Int)(h1:0<=k)(h2:k+(ZA x0:Int)<=4000000000000000000)(cc:SmL Zc.small x0):C ZAg [.agg [.own 0],I k] [.xarr e0 3 (x0.map Zc.c)]=some (I (k+(ZA x0:Int)),[.xarr e0 3 ((VW x0 (k)).map Zc.c)]):=by
 refine XR ZK1 rfl ?_;have m0:=ZOd e0 x0 (k) (by omega) (by omega) cc;simp[Z5D,m0]
def ZOn(x0:List Zc)(k:Int)(h1:0<=k)(h2:k+(ZA x0:Int)<=4000000000000000000)(cc:SmL Zc.small x0):C ZAm [.agg [.t (.lst 3 ((VW x0 (k)).map Zc.c))],I k] []=some (I (k+(ZA x0:Int)),[]):=by
 refine run ZK7 rfl ?_;have m0:=ZOf x0 (k) (by omega) (by omega) cc;have z0:¬(k+(ZA x0:Int)<0):=by omega
 simp[Z5M,tI,m0,z0]
def Zi0(e0:Nat)(x0 x1 x2 x3 x4:Int)(x5:List Zd)(k:Int)(h1:0<=k)(h2:k+(Zq x5:Int)<=4000000000000000000)(cc:SmA x5):C ZAk [.agg [I x0,I x1,I x2,I x3,I x4,.own 0],I k] [.xarr e0 2 (x5.map Zd.c)]=some (I (k+(Zq x5:Int)),[.xarr e0 2 ((XD x5 (k)).map Zd.c)]):=by
 refine XR ZK5 rfl ?_;have m0:=ZNK e0 x5 (k) (by omega) (by omega) cc;simp[Z5J,m0]
def Zi1(x0 x1 x2 x3 x4:Int)(x5:List Zd)(k:Int)(h1:0<=k)(h2:k+(Zq x5:Int)<=4000000000000000000)(cc:SmA x5):C ZAq [.agg [I x0,I x1,I x2,I x3,I x4,.t (.lst 2 ((XD x5 (k)).map Zd.c))],I k] []=some (I (k+(Zq x5:Int)),[]):=by
 refine run ZKB rfl ?_;have m0:=ZNM x5 (k) (by omega) (by omega) cc;have z0:¬(k+(Zq x5:Int)<0):=by omega
 simp[Z5S,tI,m0,z0]
def ZOo(e0 e1 e2 e3 e4:Nat)(x0 x1 x2 x3 x4:Int)(x5:List Zd)(x6 x7 x8 x9 cc:Int)(x11:List Zd)(cd cl cn co cp:Int)(x17:List Zd)(cu cv cy cz d:Int)(x23:List Zd)(dc dd dl dn dp:Int)(x29:List Zd)(k:Int)(h1:0<=k)(h2:k+(Zq x5:Int)+(Zq x11:Int)+(Zq x17:Int)+(Zq x23:Int)+(Zq x29:Int)<=4000000000000000000)(l:SmA x5)(du:SmA x11)(dv:SmA x17)(dy:SmA x23)(dz:SmA x29):C Z9J [.agg [I x0,I x1,I x2,I x3,I x4,.own 0,I x6,I x7,I x8,I x9,I cc,.own 1,I cd,I cl,I cn,I co,I cp,.own 2,I cu,I cv,I cy,I cz,I d,.own 3,I dc,I dd,I dl,I dn,I dp,.own 4],I k] [.xarr e0 2 (x5.map Zd.c),.xarr e1 2 (x11.map Zd.c),.xarr e2 2 (x17.map Zd.c),.xarr e3 2 (x23.map Zd.c),.xarr e4 2 (x29.map Zd.c)]=some (I (k+(Zq x5:Int)+(Zq x11:Int)+(Zq x17:Int)+(Zq x23:Int)+(Zq x29:Int)),[.xarr e0 2 ((XD x5 (k)).map Zd.c),.xarr e1 2 ((XD x11 (k+(Zq x5:Int))).map Zd.c),.xarr e2 2 ((XD x17 (k+(Zq x5:Int)+(Zq x11:Int))).map Zd.c),.xarr e3 2 ((XD x23 (k+(Zq x5:Int)+(Zq x11:Int)+(Zq x17:Int))).map Zd.c),.xarr e4 2 ((XD x29 (k+(Zq x5:Int)+(Zq x11:Int)+(Zq x17:Int)+(Zq x23:Int))).map Zd.c)]):=by
 refine XR ZKn rfl ?_;have m0:=Zi0 e0 x0 x1 x2 x3 x4 x5 (k) (by omega) (by omega) l;have m1:=Zi0 e1 x6 x7 x8 x9 cc x11 (k+(Zq x5:Int)) (by omega) (by omega) du;have m2:=Zi0 e2 cd cl cn co cp x17 (k+(Zq x5:Int)+(Zq x11:Int)) (by omega) (by omega) dv;have m3:=Zi0 e3 cu cv cy cz d x23 (k+(Zq x5:Int)+(Zq x11:Int)+(Zq x17:Int)) (by omega) (by omega) dy;have m4:=Zi0 e4 dc dd dl dn dp x29 (k+(Zq x5:Int)+(Zq x11:Int)+(Zq x17:Int)+(Zq x23:Int)) (by omega) (by omega) dz;simp[Z5x,m0,m1,m2,m3,m4]
def ZOp(x0 x1 x2 x3 x4:Int)(x5:List Zd)(x6 x7 x8 x9 cc:Int)(x11:List Zd)(cd cl cn co cp:Int)(x17:List Zd)(cu cv cy cz d:Int)(x23:List Zd)(dc dd dl dn dp:Int)(x29:List Zd)(k:Int)(h1:0<=k)(h2:k+(Zq x5:Int)+(Zq x11:Int)+(Zq x17:Int)+(Zq x23:Int)+(Zq x29:Int)<=4000000000000000000)(l:SmA x5)(du:SmA x11)(dv:SmA x17)(dy:SmA x23)(dz:SmA x29):C Z9M [.agg [I x0,I x1,I x2,I x3,I x4,.t (.lst 2 ((XD x5 (k)).map Zd.c)),I x6,I x7,I x8,I x9,I cc,.t (.lst 2 ((XD x11 (k+(Zq x5:Int))).map Zd.c)),I cd,I cl,I cn,I co,I cp,.t (.lst 2 ((XD x17 (k+(Zq x5:Int)+(Zq x11:Int))).map Zd.c)),I cu,I cv,I cy,I cz,I d,.t (.lst 2 ((XD x23 (k+(Zq x5:Int)+(Zq x11:Int)+(Zq x17:Int))).map Zd.c)),I dc,I dd,I dl,I dn,I dp,.t (.lst 2 ((XD x29 (k+(Zq x5:Int)+(Zq x11:Int)+(Zq x17:Int)+(Zq x23:Int))).map Zd.c))],I k] []=some (I (k+(Zq x5:Int)+(Zq x11:Int)+(Zq x17:Int)+(Zq x23:Int)+(Zq x29:Int)),[]):=by
 refine run ZKq rfl ?_;have m0:=Zi1 x0 x1 x2 x3 x4 x5 (k) (by omega) (by omega) l;have z0:¬(k+(Zq x5:Int)<0):=by omega
 have m1:=Zi1 x6 x7 x8 x9 cc x11 (k+(Zq x5:Int)) (by omega) (by omega) du;have z1:¬(k+(Zq x5:Int)+(Zq x11:Int)<0):=by omega
 have m2:=Zi1 cd cl cn co cp x17 (k+(Zq x5:Int)+(Zq x11:Int)) (by omega) (by omega) dv;have z2:¬(k+(Zq x5:Int)+(Zq x11:Int)+(Zq x17:Int)<0):=by omega
 have m3:=Zi1 cu cv cy cz d x23 (k+(Zq x5:Int)+(Zq x11:Int)+(Zq x17:Int)) (by omega) (by omega) dy;have z3:¬(k+(Zq x5:Int)+(Zq x11:Int)+(Zq x17:Int)+(Zq x23:Int)<0):=by omega
 have m4:=Zi1 dc dd dl dn dp x29 (k+(Zq x5:Int)+(Zq x11:Int)+(Zq x17:Int)+(Zq x23:Int)) (by omega) (by omega) dz;have z4:¬(k+(Zq x5:Int)+(Zq x11:Int)+(Zq x17:Int)+(Zq x23:Int)+(Zq x29:Int)<0):=by omega
 simp[Z52,tI,m0,z0,m1,z1,m2,z2,m3,z3,m4,z4]
def ZOq(e0:Nat)(x0:Int)(x1:List Zo)(k:Int)(h1:0<=k)(h2:k+(Xv x1:Int)<=4000000000000000000)(cc:SmL Zo.small x1):C Z9K [.agg [I x0,.own 0],I k] [.xarr e0 8 (x1.map Zo.c)]=some (I (k+(Xv x1:Int)),[.xarr e0 8 ((UI x1 (k)).map Zo.c)]):=by
 refine XR ZKo rfl ?_;have m0:=ZNG e0 x1 (k) (by omega) (by omega) cc;simp[Z5y,m0]
def ZOr(x0:Int)(x1:List Zo)(k:Int)(h1:0<=k)(h2:k+(Xv x1:Int)<=4000000000000000000)(cc:SmL Zo.small x1):C Z9N [.agg [I x0,.t (.lst 8 ((UI x1 (k)).map Zo.c))],I k] []=some (I (k+(Xv x1:Int)),[]):=by
 refine run ZKr rfl ?_;have m0:=ZNI x1 (k) (by omega) (by omega) cc;have z0:¬(k+(Xv x1:Int)<0):=by omega
 simp[Z53,tI,m0,z0]
def ZOs(e0 e1 e2 e3:Nat)(x0:List Zc)(x1:Int)(x2:List Zk)(x3:List Zp)(x4:List Zr)(k:Int)(h1:0<=k)(h2:k+(ZA x0:Int)+(ZF x2:Int)+(ZN x3:Int)+(Xa x4:Int)<=4000000000000000000)(cc:SmL Zc.small x0)(cd:SmL Zk.small x2)(cl:SmL Zp.small x3)(cn:SmL Zr.small x4):C Z9I [.agg [.own 0,I x1,.own 1,.own 2,.own 3],I k] [.xarr e0 3 (x0.map Zc.c),.xarr e1 4 (x2.map Zk.c),.xarr e2 3 (x3.map Zp.c),.xarr e3 4 (x4.map Zr.c)]=some (I (k+(ZA x0:Int)+(ZF x2:Int)+(ZN x3:Int)+(Xa x4:Int)),[.xarr e0 3 ((VW x0 (k)).map Zc.c),.xarr e1 4 ((VX x2 (k+(ZA x0:Int))).map Zk.c),.xarr e2 3 ((UK x3 (k+(ZA x0:Int)+(ZF x2:Int))).map Zp.c),.xarr e3 4 ((UN x4 (k+(ZA x0:Int)+(ZF x2:Int)+(ZN x3:Int))).map Zr.c)]):=by
 refine XR ZKm rfl ?_;have m0:=ZOm e0 x0 (k) (by omega) (by omega) cc;have m1:=ZOk e1 x1 x2 (k+(ZA x0:Int)) (by omega) (by omega) cd;have m2:=ZNO e2 x3 (k+(ZA x0:Int)+(ZF x2:Int)) (by omega) (by omega) cl;have m3:=ZNZ e3 x4 (k+(ZA x0:Int)+(ZF x2:Int)+(ZN x3:Int)) (by omega) (by omega) cn;simp[Z5w,m0,m1,m2,m3]
def ZOt(x0:List Zc)(x1:Int)(x2:List Zk)(x3:List Zp)(x4:List Zr)(k:Int)(h1:0<=k)(h2:k+(ZA x0:Int)+(ZF x2:Int)+(ZN x3:Int)+(Xa x4:Int)<=4000000000000000000)(cc:SmL Zc.small x0)(cd:SmL Zk.small x2)(cl:SmL Zp.small x3)(cn:SmL Zr.small x4):C Z9L [.agg [.t (.lst 3 ((VW x0 (k)).map Zc.c)),I x1,.t (.lst 4 ((VX x2 (k+(ZA x0:Int))).map Zk.c)),.t (.lst 3 ((UK x3 (k+(ZA x0:Int)+(ZF x2:Int))).map Zp.c)),.t (.lst 4 ((UN x4 (k+(ZA x0:Int)+(ZF x2:Int)+(ZN x3:Int))).map Zr.c))],I k] []=some (I (k+(ZA x0:Int)+(ZF x2:Int)+(ZN x3:Int)+(Xa x4:Int)),[]):=by
 refine run ZKp rfl ?_;have m0:=ZOn x0 (k) (by omega) (by omega) cc;have z0:¬(k+(ZA x0:Int)<0):=by omega
 have m1:=ZOl x1 x2 (k+(ZA x0:Int)) (by omega) (by omega) cd;have z1:¬(k+(ZA x0:Int)+(ZF x2:Int)<0):=by omega
 have m2:=ZNQ x3 (k+(ZA x0:Int)+(ZF x2:Int)) (by omega) (by omega) cl;have z2:¬(k+(ZA x0:Int)+(ZF x2:Int)+(ZN x3:Int)<0):=by omega
 have m3:=ZOb x4 (k+(ZA x0:Int)+(ZF x2:Int)+(ZN x3:Int)) (by omega) (by omega) cn;have z3:¬(k+(ZA x0:Int)+(ZF x2:Int)+(ZN x3:Int)+(Xa x4:Int)<0):=by omega
 simp[Z51,tI,m0,z0,m1,z1,m2,z2,m3,z3]
def Z7w(e0 e1 e2 e3 e4 e5 e6 e7 e8 e9:Nat)(x0:List Zc)(x1:Int)(x2:List Zk)(x3:List Zp)(x4:List Zr)(x5 x6 x7 x8 x9:Int)(x10:List Zd)(cd cl cn co cp:Int)(x16:List Zd)(cu cv cy cz d:Int)(x22:List Zd)(dc dd dl dn dp:Int)(x28:List Zd)(du dv dy dz l:Int)(x34:List Zd)(lc:Int)(cc:List Zo)(nc nd nl nn k:Int)(h1:0<=k)(h2:k+(ZA x0:Int)+(ZF x2:Int)+(ZN x3:Int)+(Xa x4:Int)+(Zq x10:Int)+(Zq x16:Int)+(Zq x22:Int)+(Zq x28:Int)+(Zq x34:Int)+(Xv cc:Int)<=4000000000000000000)(lv:SmL Zc.small x0)(ly:SmL Zk.small x2)(lz:SmL Zp.small x3)(n:SmL Zr.small x4)(ld:SmA x10)(ll:SmA x16)(ln:SmA x22)(lo:SmA x28)(lp:SmA x34)(lu:SmL Zo.small cc):C Z93 [.agg [.own 0,I x1,.own 1,.own 2,.own 3,I x5,I x6,I x7,I x8,I x9,.own 4,I cd,I cl,I cn,I co,I cp,.own 5,I cu,I cv,I cy,I cz,I d,.own 6,I dc,I dd,I dl,I dn,I dp,.own 7,I du,I dv,I dy,I dz,I l,.own 8,I lc,.own 9,I nc,I nd,I nl,I nn],I k] [.xarr e0 3 (x0.map Zc.c),.xarr e1 4 (x2.map Zk.c),.xarr e2 3 (x3.map Zp.c),.xarr e3 4 (x4.map Zr.c),.xarr e4 2 (x10.map Zd.c),.xarr e5 2 (x16.map Zd.c),.xarr e6 2 (x22.map Zd.c),.xarr e7 2 (x28.map Zd.c),.xarr e8 2 (x34.map Zd.c),.xarr e9 8 (cc.map Zo.c)]=some (I (k+(ZA x0:Int)+(ZF x2:Int)+(ZN x3:Int)+(Xa x4:Int)+(Zq x10:Int)+(Zq x16:Int)+(Zq x22:Int)+(Zq x28:Int)+(Zq x34:Int)+(Xv cc:Int)),[.xarr e0 3 ((VW x0 (k)).map Zc.c),.xarr e1 4 ((VX x2 (k+(ZA x0:Int))).map Zk.c),.xarr e2 3 ((UK x3 (k+(ZA x0:Int)+(ZF x2:Int))).map Zp.c),.xarr e3 4 ((UN x4 (k+(ZA x0:Int)+(ZF x2:Int)+(ZN x3:Int))).map Zr.c),.xarr e4 2 ((XD x10 (k+(ZA x0:Int)+(ZF x2:Int)+(ZN x3:Int)+(Xa x4:Int))).map Zd.c),.xarr e5 2 ((XD x16 (k+(ZA x0:Int)+(ZF x2:Int)+(ZN x3:Int)+(Xa x4:Int)+(Zq x10:Int))).map Zd.c),.xarr e6 2 ((XD x22 (k+(ZA x0:Int)+(ZF x2:Int)+(ZN x3:Int)+(Xa x4:Int)+(Zq x10:Int)+(Zq x16:Int))).map Zd.c),.xarr e7 2 ((XD x28 (k+(ZA x0:Int)+(ZF x2:Int)+(ZN x3:Int)+(Xa x4:Int)+(Zq x10:Int)+(Zq x16:Int)+(Zq x22:Int))).map Zd.c),.xarr e8 2 ((XD x34 (k+(ZA x0:Int)+(ZF x2:Int)+(ZN x3:Int)+(Xa x4:Int)+(Zq x10:Int)+(Zq x16:Int)+(Zq x22:Int)+(Zq x28:Int))).map Zd.c),.xarr e9 8 ((UI cc (k+(ZA x0:Int)+(ZF x2:Int)+(ZN x3:Int)+(Xa x4:Int)+(Zq x10:Int)+(Zq x16:Int)+(Zq x22:Int)+(Zq x28:Int)+(Zq x34:Int))).map Zo.c)]):=by
 refine XR ZJX rfl ?_;have m0:=ZOs e0 e1 e2 e3 x0 x1 x2 x3 x4 (k) (by omega) (by omega) lv ly lz n;have m1:=ZOo e4 e5 e6 e7 e8 x5 x6 x7 x8 x9 x10 cd cl cn co cp x16 cu cv cy cz d x22 dc dd dl dn dp x28 du dv dy dz l x34 (k+(ZA x0:Int)+(ZF x2:Int)+(ZN x3:Int)+(Xa x4:Int)) (by omega) (by omega) ld ll ln lo lp;have m2:=ZOq e9 lc cc (k+(ZA x0:Int)+(ZF x2:Int)+(ZN x3:Int)+(Xa x4:Int)+(Zq x10:Int)+(Zq x16:Int)+(Zq x22:Int)+(Zq x28:Int)+(Zq x34:Int)) (by omega) (by omega) lu;have hr:List.range 10=[0,1,2,3,4,5,6,7,8,9]:=rfl;simp[Z5g,m0,m1,m2,hr]
def ZOu(x0:List Zc)(x1:Int)(x2:List Zk)(x3:List Zp)(x4:List Zr)(x5 x6 x7 x8 x9:Int)(x10:List Zd)(cd cl cn co cp:Int)(x16:List Zd)(cu cv cy cz d:Int)(x22:List Zd)(dc dd dl dn dp:Int)(x28:List Zd)(du dv dy dz l:Int)(x34:List Zd)(lc:Int)(cc:List Zo)(nc nd nl nn k:Int)(h1:0<=k)(h2:k+(ZA x0:Int)+(ZF x2:Int)+(ZN x3:Int)+(Xa x4:Int)+(Zq x10:Int)+(Zq x16:Int)+(Zq x22:Int)+(Zq x28:Int)+(Zq x34:Int)+(Xv cc:Int)<=4000000000000000000)(lv:SmL Zc.small x0)(ly:SmL Zk.small x2)(lz:SmL Zp.small x3)(n:SmL Zr.small x4)(ld:SmA x10)(ll:SmA x16)(ln:SmA x22)(lo:SmA x28)(lp:SmA x34)(lu:SmL Zo.small cc):C Z95 [.agg [.t (.lst 3 ((VW x0 (k)).map Zc.c)),I x1,.t (.lst 4 ((VX x2 (k+(ZA x0:Int))).map Zk.c)),.t (.lst 3 ((UK x3 (k+(ZA x0:Int)+(ZF x2:Int))).map Zp.c)),.t (.lst 4 ((UN x4 (k+(ZA x0:Int)+(ZF x2:Int)+(ZN x3:Int))).map Zr.c)),I x5,I x6,I x7,I x8,I x9,.t (.lst 2 ((XD x10 (k+(ZA x0:Int)+(ZF x2:Int)+(ZN x3:Int)+(Xa x4:Int))).map Zd.c)),I cd,I cl,I cn,I co,I cp,.t (.lst 2 ((XD x16 (k+(ZA x0:Int)+(ZF x2:Int)+(ZN x3:Int)+(Xa x4:Int)+(Zq x10:Int))).map Zd.c)),I cu,I cv,I cy,I cz,I d,.t (.lst 2 ((XD x22 (k+(ZA x0:Int)+(ZF x2:Int)+(ZN x3:Int)+(Xa x4:Int)+(Zq x10:Int)+(Zq x16:Int))).map Zd.c)),I dc,I dd,I dl,I dn,I dp,.t (.lst 2 ((XD x28 (k+(ZA x0:Int)+(ZF x2:Int)+(ZN x3:Int)+(Xa x4:Int)+(Zq x10:Int)+(Zq x16:Int)+(Zq x22:Int))).map Zd.c)),I du,I dv,I dy,I dz,I l,.t (.lst 2 ((XD x34 (k+(ZA x0:Int)+(ZF x2:Int)+(ZN x3:Int)+(Xa x4:Int)+(Zq x10:Int)+(Zq x16:Int)+(Zq x22:Int)+(Zq x28:Int))).map Zd.c)),I lc,.t (.lst 8 ((UI cc (k+(ZA x0:Int)+(ZF x2:Int)+(ZN x3:Int)+(Xa x4:Int)+(Zq x10:Int)+(Zq x16:Int)+(Zq x22:Int)+(Zq x28:Int)+(Zq x34:Int))).map Zo.c)),I nc,I nd,I nl,I nn],I k] []=some (I (k+(ZA x0:Int)+(ZF x2:Int)+(ZN x3:Int)+(Xa x4:Int)+(Zq x10:Int)+(Zq x16:Int)+(Zq x22:Int)+(Zq x28:Int)+(Zq x34:Int)+(Xv cc:Int)),[]):=by
 refine run ZJZ rfl ?_;have m0:=ZOt x0 x1 x2 x3 x4 (k) (by omega) (by omega) lv ly lz n;have z0:¬(k+(ZA x0:Int)+(ZF x2:Int)+(ZN x3:Int)+(Xa x4:Int)<0):=by omega
 have m1:=ZOp x5 x6 x7 x8 x9 x10 cd cl cn co cp x16 cu cv cy cz d x22 dc dd dl dn dp x28 du dv dy dz l x34 (k+(ZA x0:Int)+(ZF x2:Int)+(ZN x3:Int)+(Xa x4:Int)) (by omega) (by omega) ld ll ln lo lp;have z1:¬(k+(ZA x0:Int)+(ZF x2:Int)+(ZN x3:Int)+(Xa x4:Int)+(Zq x10:Int)+(Zq x16:Int)+(Zq x22:Int)+(Zq x28:Int)+(Zq x34:Int)<0):=by omega
 have m2:=ZOr lc cc (k+(ZA x0:Int)+(ZF x2:Int)+(ZN x3:Int)+(Xa x4:Int)+(Zq x10:Int)+(Zq x16:Int)+(Zq x22:Int)+(Zq x28:Int)+(Zq x34:Int)) (by omega) (by omega) lu;have z2:¬(k+(ZA x0:Int)+(ZF x2:Int)+(ZN x3:Int)+(Xa x4:Int)+(Zq x10:Int)+(Zq x16:Int)+(Zq x22:Int)+(Zq x28:Int)+(Zq x34:Int)+(Xv cc:Int)<0):=by omega
 simp[Z5i,tI,m0,z0,m1,z1,m2,z2]
def ZOv(e0:Nat)(x0:UP)(x1:Bool)(x2:V6)(k:Int)(h1:0<=k)(h2:k+(x2.length:Int)<=4000000000000000000)(c:SmA x2):C Z94 [.agg [.t (.str x0),Bo x1,.own 0],I k] [.xarr e0 1 (x2.map ic)]=some (I (k+(x2.length:Int)),[.xarr e0 1 ((mkI x2 (k)).map ic)]):=by
 refine XR ZJY rfl ?_;have m0:=Z7j e0 x2 (k) (by omega) (by omega) c;simp[Z5h,m0]
def Vp{n:Nat}{left:Int}(hn:n<=maxLen)(h0:0<=left)(h1:left<=1048576)(h:0<=sz1 n left):sz1 n left<=left/\(n:Int)<=left-sz1 n left:=by
 unfold maxLen at hn;have hw:IntKind.wrap .i64 (left-n)=left-n:=Z1 (by omega) (by omega);unfold sz1 at h|-;rw[hw]at h|-;split at h
 .omega
 .rename_i hx;rw[Yb hx];omega
def Z7x{α:Type}{f:α->Int->Int}{n:α->Nat}{M:Int}:∀(xs:List α) (c:Int),(∀x∈xs,∀l,0<=l->l<=M->0<=f x l->f x l<=l/\(n x:Int)<=16+16*(l-f x l))->0<=c->c<=M->0<=Ut f xs c->Ut f xs c<=c/\(cnL n xs:Int)<=16*(xs.length:Int)+16*(c-Ut f xs c)
 |[],c,_,_,_,h=>by simp[Ut,cnL]
 |x::xs,c,hf,h0,h1,h=>by
  unfold Ut at h|-;split at h
  .omega
  .rename_i hx;rw[Yb hx];obtain⟨h2,h3⟩:=hf x (by simp) c h0 h1 (by omega);obtain⟨h4,h5⟩:=Z7x xs (f x c) (λy hy=>hf y (by simp[hy])) (by omega) (by omega) h;have e:cnL n (x::xs)=n x+cnL n xs:=rfl;rw[e,Ym];omega
def JK{α:Type}{f:α->Int->Int}{n:α->Nat}{xs:List α}{left:Int}(hn:xs.length<=maxLen)(hf:∀x∈xs,∀l,0<=l->l<=1048576->0<=f x l->f x l<=l/\(n x:Int)<=16+16*(l-f x l))(h0:0<=left)(h1:left<=1048576)(h:0<=szL f xs left) :
  szL f xs left<=left/\(cnL n xs:Int)<=16*(left-szL f xs left):=by
 unfold szL Z5 at h|-;split at h
 .omega
 .rename_i hx;rw[Yb hx];have a:=Vp hn h0 h1 (by omega);have b:=Z7x xs _ hf (by omega) (by omega) h;omega
def Zv0{α:Type}{n:α->Nat}{c:Nat}(h:∀x,n x=c):∀xs:List α,cnL n xs=c*xs.length
 |[]=>rfl
 |x::xs=>by
  have e:cnL n (x::xs)=n x+cnL n xs:=rfl;rw[e,h,Zv0 h xs,Ym,Nat.mul_succ,Nat.add_comm]
def Z7y(x:V6)(l:Int)(hx:x.length<=maxLen)(h0:0<=l)(h1:l<=1048576)(h:0<=szI x l):szI x l<=l/\(VU x:Int)<=16+16*(l-szI x l):=by
 have a:=Vp hx h0 h1 h;unfold VU;have e:szI x l=sz1 x.length l:=rfl;rw[e];omega
def Zv1(x:Zc):Nat:=ZY x.Rows
def Zc.ct(x:Zc)(l:Int)(hx:x.okay)(h0:0<=l)(h1:l<=1048576)(h:0<=x.sz l):x.sz l<=l/\(Zv1 x:Int)<=16*(l-x.sz l):=by
 unfold Zc.sz at h|-;simp only[Z5]at h|-;split at h
 .omega
 rename_i q0;rw[Yb q0];have s0:=Vp hx.1 h0 h1 (Yj.1 q0);split at h
 .omega
 rename_i q1;rw[Yb q1];have s1:=JK (f:=szI) (n:=VU) hx.2.2.1 (λy hy l a b c=>Z7y y l (hx.2.2.2 y hy).1 a b c) (by omega) (by omega) (Yj.1 q1);refine⟨by omega,?_⟩;unfold Zv1;have v0:ZY x.Rows=cnL VU x.Rows:=rfl;omega
def ZOw(x:Zc)(l:Int)(hx:x.okay)(h0:0<=l)(h1:l<=1048576)(h:0<=x.sz l):x.sz l<=l/\(Vg x:Int)<=16+16*(l-x.sz l):=by
 have a:=Zc.ct x l hx h0 h1 h;unfold Zv1 at a;unfold Vg;omega
def Zv2(x:Zl):Nat:=ZA x.Tables
def Zl.ct(x:Zl)(l:Int)(hx:x.okay)(h0:0<=l)(h1:l<=1048576)(h:0<=x.sz l):x.sz l<=l/\(Zv2 x:Int)<=16*(l-x.sz l):=by
 unfold Zl.sz at h|-;simp only[Z5]at h|-;split at h
 .omega
 rename_i q0;rw[Yb q0];have s0:=JK (n:=Vg) hx.1 (λy hy l a b c=>ZOw y l (hx.2 y hy) a b c) h0 h1 (Yj.1 q0);refine⟨by omega,?_⟩;unfold Zv2;have v0:ZA x.Tables=cnL Vg x.Tables:=rfl;omega
def Zv3(x:ZR):Nat:=x.Row.length
def ZR.ct(x:ZR)(l:Int)(hx:x.okay)(h0:0<=l)(h1:l<=1048576)(h:0<=x.sz l):x.sz l<=l/\(Zv3 x:Int)<=16*(l-x.sz l):=by
 unfold ZR.sz at h|-;simp only[Z5]at h|-;split at h
 .omega
 rename_i q0;rw[Yb q0];have s0:=Vp hx.1 h0 h1 (Yj.1 q0);split at h
 .omega
 rename_i q1;rw[Yb q1];have s1:=Vp hx.2.1 (by omega) (by omega) (Yj.1 q1);refine⟨by omega,?_⟩;unfold Zv3;omega
def Zv4(x:Ze):Nat:=x.Vars.length
def Ze.ct(x:Ze)(l:Int)(hx:x.okay)(h0:0<=l)(h1:l<=1048576)(h:0<=x.sz l):x.sz l<=l/\(Zv4 x:Int)<=16*(l-x.sz l):=by
 unfold Ze.sz at h|-;simp only[Z5]at h|-;split at h
 .omega
 rename_i q0;rw[Yb q0];have s0:=Vp hx.1 h0 h1 (Yj.1 q0);split at h
 .omega
 rename_i q1;rw[Yb q1];have s1:=Vp hx.2.1 (by omega) (by omega) (Yj.1 q1);refine⟨by omega,?_⟩;unfold Zv4;omega
def ZOx(x:Ze)(l:Int)(hx:x.okay)(h0:0<=l)(h1:l<=1048576)(h:0<=x.sz l):x.sz l<=l/\(UE x:Int)<=16+16*(l-x.sz l):=by
 have a:=Ze.ct x l hx h0 h1 h;unfold Zv4 at a;unfold UE;omega
def Zv5(x:Zj):Nat:=ZI x.Atoms
def Zj.ct(x:Zj)(l:Int)(hx:x.okay)(h0:0<=l)(h1:l<=1048576)(h:0<=x.sz l):x.sz l<=l/\(Zv5 x:Int)<=16*(l-x.sz l):=by
 unfold Zj.sz at h|-;simp only[Z5]at h|-;split at h
 .omega
 rename_i q0;rw[Yb q0];have s0:=JK (n:=UE) hx.2.1 (λy hy l a b c=>ZOx y l (hx.2.2 y hy) a b c) h0 h1 (Yj.1 q0);refine⟨by omega,?_⟩;unfold Zv5;have v0:ZI x.Atoms=cnL UE x.Atoms:=rfl;omega
def Zv6(x:Zp):Nat:=x.From.length
def Zp.ct(x:Zp)(l:Int)(hx:x.okay)(h0:0<=l)(h1:l<=1048576)(h:0<=x.sz l):x.sz l<=l/\(Zv6 x:Int)<=16*(l-x.sz l):=by
 unfold Zp.sz at h|-;simp only[Z5]at h|-;split at h
 .omega
 rename_i q0;rw[Yb q0];have s0:=Vp hx.1 h0 h1 (Yj.1 q0);split at h
 .omega
 rename_i q1;rw[Yb q1];have s1:=Vp hx.2.1.1 (by omega) (by omega) (Yj.1 q1);refine⟨by omega,?_⟩;unfold Zv6;omega
def ZOy(x:Zp)(l:Int)(hx:x.okay)(h0:0<=l)(h1:l<=1048576)(h:0<=x.sz l):x.sz l<=l/\(UJ x:Int)<=16+16*(l-x.sz l):=by
 have a:=Zp.ct x l hx h0 h1 h;unfold Zv6 at a;unfold UJ;omega
def Zv7(x:Zr):Nat:=0
def Zr.ct(x:Zr)(l:Int)(hx:x.okay)(h0:0<=l)(h1:l<=1048576)(h:0<=x.sz l):x.sz l<=l/\(Zv7 x:Int)<=16*(l-x.sz l):=by
 unfold Zr.sz at h|-;simp only[Z5]at h|-;split at h
 .omega
 rename_i q0;rw[Yb q0];have s0:=Vp hx.1 h0 h1 (Yj.1 q0);split at h
 .omega
 rename_i q1;rw[Yb q1];have s1:=Vp hx.2.2.1 (by omega) (by omega) (Yj.1 q1);refine⟨by omega,?_⟩;unfold Zv7;omega
def ZOz(x:Zr)(l:Int)(hx:x.okay)(h0:0<=l)(h1:l<=1048576)(h:0<=x.sz l):x.sz l<=l/\(UM x:Int)<=16+16*(l-x.sz l):=by
 have a:=Zr.ct x l hx h0 h1 h;unfold Zv7 at a;unfold UM;omega
def Zv8(x:Zy):Nat:=x.Columns.length+ZY x.Values+x.Counts.length
def Zy.ct(x:Zy)(l:Int)(hx:x.okay)(h0:0<=l)(h1:l<=1048576)(h:0<=x.sz l):x.sz l<=l/\(Zv8 x:Int)<=16*(l-x.sz l):=by
 unfold Zy.sz at h|-;simp only[Z5]at h|-;split at h
 .omega
 rename_i q0;rw[Yb q0];have s0:=Vp hx.1.1 h0 h1 (Yj.1 q0);split at h
 .omega
 rename_i q1;rw[Yb q1];have s1:=JK (f:=szI) (n:=VU) hx.2.1.1 (λy hy l a b c=>Z7y y l (hx.2.1.2 y hy).1 a b c) (by omega) (by omega) (Yj.1 q1);split at h
 .omega
 rename_i q2;rw[Yb q2];have s2:=Vp hx.2.2.1 (by omega) (by omega) (Yj.1 q2);refine⟨by omega,?_⟩;unfold Zv8;have v0:ZY x.Values=cnL VU x.Values:=rfl;omega
def ZO0(x:Zy)(l:Int)(hx:x.okay)(h0:0<=l)(h1:l<=1048576)(h:0<=x.sz l):x.sz l<=l/\(VV x:Int)<=16+16*(l-x.sz l):=by
 have a:=Zy.ct x l hx h0 h1 h;unfold Zv8 at a;unfold VV;omega
def Zv9(x:Zk):Nat:=X2 x.Groups
def Zk.ct(x:Zk)(l:Int)(hx:x.okay)(h0:0<=l)(h1:l<=1048576)(h:0<=x.sz l):x.sz l<=l/\(Zv9 x:Int)<=16*(l-x.sz l):=by
 unfold Zk.sz at h|-;simp only[Z5]at h|-;split at h
 .omega
 rename_i q0;rw[Yb q0];have s0:=Vp hx.1 h0 h1 (Yj.1 q0);split at h
 .omega
 rename_i q1;rw[Yb q1];have s1:=JK (n:=VV) hx.2.2.2.1 (λy hy l a b c=>ZO0 y l (hx.2.2.2.2 y hy) a b c) (by omega) (by omega) (Yj.1 q1);refine⟨by omega,?_⟩;unfold Zv9;have v0:X2 x.Groups=cnL VV x.Groups:=rfl;omega
def ZO1(x:Zk)(l:Int)(hx:x.okay)(h0:0<=l)(h1:l<=1048576)(h:0<=x.sz l):x.sz l<=l/\(Vh x:Int)<=16+16*(l-x.sz l):=by
 have a:=Zk.ct x l hx h0 h1 h;unfold Zv9 at a;unfold Vh;omega
def ZvA(x:Zu):Nat:=ZF x.Tables
def Zu.ct(x:Zu)(l:Int)(hx:x.okay)(h0:0<=l)(h1:l<=1048576)(h:0<=x.sz l):x.sz l<=l/\(ZvA x:Int)<=16*(l-x.sz l):=by
 unfold Zu.sz at h|-;simp only[Z5]at h|-;split at h
 .omega
 rename_i q0;rw[Yb q0];have s0:=JK (n:=Vh) hx.2.1 (λy hy l a b c=>ZO1 y l (hx.2.2 y hy) a b c) h0 h1 (Yj.1 q0);refine⟨by omega,?_⟩;unfold ZvA;have v0:ZF x.Tables=cnL Vh x.Tables:=rfl;omega
def ZvB(x:Zs):Nat:=ZA x.Zl.Tables+ZF x.Zu.Tables+ZN x.Dependencies+Xa x.Inclusions
def Zs.ct(x:Zs)(l:Int)(hx:x.okay)(h0:0<=l)(h1:l<=1048576)(h:0<=x.sz l):x.sz l<=l/\(ZvB x:Int)<=16*(l-x.sz l):=by
 unfold Zs.sz at h|-;simp only[Z5]at h|-;split at h
 .omega
 rename_i q0;rw[Yb q0];have s0:=Zl.ct x.Zl _ hx.1 h0 h1 (Yj.1 q0);split at h
 .omega
 rename_i q1;rw[Yb q1];have s1:=Zu.ct x.Zu _ ⟨hx.2.1,hx.2.2.1⟩ (by omega) (by omega) (Yj.1 q1);split at h
 .omega
 rename_i q2;rw[Yb q2];have s2:=JK (n:=UJ) hx.2.2.2.1.1 (λy hy l a b c=>ZOy y l (hx.2.2.2.1.2 y hy) a b c) (by omega) (by omega) (Yj.1 q2);split at h
 .omega
 rename_i q3;rw[Yb q3];have s3:=JK (n:=UM) hx.2.2.2.2.1 (λy hy l a b c=>ZOz y l (hx.2.2.2.2.2 y hy) a b c) (by omega) (by omega) (Yj.1 q3);refine⟨by omega,?_⟩;unfold ZvB;have v0:Zv2 x.Zl=ZA x.Zl.Tables:=rfl;have v1:ZvA x.Zu=ZF x.Zu.Tables:=rfl;have v2:ZA x.Zl.Tables=cnL Vg x.Zl.Tables:=rfl;have v3:ZF x.Zu.Tables=cnL Vh x.Zu.Tables:=rfl;have v4:ZN x.Dependencies=cnL UJ x.Dependencies:=rfl;have v5:Xa x.Inclusions=cnL UM x.Inclusions:=rfl;omega
def ZvC(x:Box):Nat:=x.Low.length+x.High.length
def Box.ct(x:Box)(l:Int)(hx:x.okay)(h0:0<=l)(h1:l<=1048576)(h:0<=x.sz l):x.sz l<=l/\(ZvC x:Int)<=16*(l-x.sz l):=by
 unfold Box.sz at h|-;simp only[Z5]at h|-;split at h
 .omega
 rename_i q0;rw[Yb q0];have s0:=Vp hx.1.1 h0 h1 (Yj.1 q0);split at h
 .omega
 rename_i q1;rw[Yb q1];have s1:=Vp hx.2.1 (by omega) (by omega) (Yj.1 q1);refine⟨by omega,?_⟩;unfold ZvC;omega
def Ky(xs:List Zd):Zq xs=2*xs.length:=Zv0 (λ_=>rfl) xs
def Zcu(x:Z0):Nat:=Zq x.Steps
def Z0.ct(x:Z0)(l:Int)(hx:x.okay)(h0:0<=l)(h1:l<=1048576)(h:0<=x.sz l):x.sz l<=l/\(Zcu x:Int)<=16*(l-x.sz l):=by
 unfold Z0.sz at h|-;simp only[Z5]at h|-;split at h
 .omega
 rename_i q0;rw[Yb q0];have s0:=Vp hx.2.2.2.2.2.1 h0 h1 (Yj.1 q0);refine⟨by omega,?_⟩;unfold Zcu;have v0:=Ky x.Steps;omega
def ZvD(x:Za):Nat:=Zq x.Scan.Steps+Zq x.Sort_.Steps+Zq x.Hash.Steps+Zq x.Merge.Steps+Zq x.Nested.Steps
def Za.ct(x:Za)(l:Int)(hx:x.okay)(h0:0<=l)(h1:l<=1048576)(h:0<=x.sz l):x.sz l<=l/\(ZvD x:Int)<=16*(l-x.sz l):=by
 unfold Za.sz at h|-;simp only[Z5]at h|-;split at h
 .omega
 rename_i q0;rw[Yb q0];have s0:=Z0.ct x.Scan _ ⟨hx.1,hx.2.1,hx.2.2.1,hx.2.2.2.1,hx.2.2.2.2.1,hx.2.2.2.2.2.1⟩ h0 h1 (Yj.1 q0);split at h
 .omega
 rename_i q1;rw[Yb q1];have s1:=Z0.ct x.Sort_ _ ⟨hx.2.2.2.2.2.2.1,hx.2.2.2.2.2.2.2.1,hx.2.2.2.2.2.2.2.2.1,hx.2.2.2.2.2.2.2.2.2.1,hx.2.2.2.2.2.2.2.2.2.2.1,hx.2.2.2.2.2.2.2.2.2.2.2.1⟩ (by omega) (by omega) (Yj.1 q1);split at h
 .omega
 rename_i q2;rw[Yb q2];have s2:=Z0.ct x.Hash _ ⟨hx.2.2.2.2.2.2.2.2.2.2.2.2.1,hx.2.2.2.2.2.2.2.2.2.2.2.2.2.1,hx.2.2.2.2.2.2.2.2.2.2.2.2.2.2.1,hx.2.2.2.2.2.2.2.2.2.2.2.2.2.2.2.1,hx.2.2.2.2.2.2.2.2.2.2.2.2.2.2.2.2.1,hx.2.2.2.2.2.2.2.2.2.2.2.2.2.2.2.2.2.1⟩ (by omega) (by omega) (Yj.1 q2);split at h
 .omega
 rename_i q3;rw[Yb q3];have s3:=Z0.ct x.Merge _ ⟨hx.2.2.2.2.2.2.2.2.2.2.2.2.2.2.2.2.2.2.1,hx.2.2.2.2.2.2.2.2.2.2.2.2.2.2.2.2.2.2.2.1,hx.2.2.2.2.2.2.2.2.2.2.2.2.2.2.2.2.2.2.2.2.1,hx.2.2.2.2.2.2.2.2.2.2.2.2.2.2.2.2.2.2.2.2.2.1,hx.2.2.2.2.2.2.2.2.2.2.2.2.2.2.2.2.2.2.2.2.2.2.1,hx.2.2.2.2.2.2.2.2.2.2.2.2.2.2.2.2.2.2.2.2.2.2.2.1⟩ (by omega) (by omega) (Yj.1 q3);split at h
 .omega
 rename_i q4;rw[Yb q4];have s4:=Z0.ct x.Nested _ ⟨hx.2.2.2.2.2.2.2.2.2.2.2.2.2.2.2.2.2.2.2.2.2.2.2.2.1,hx.2.2.2.2.2.2.2.2.2.2.2.2.2.2.2.2.2.2.2.2.2.2.2.2.2.1,hx.2.2.2.2.2.2.2.2.2.2.2.2.2.2.2.2.2.2.2.2.2.2.2.2.2.2.1,hx.2.2.2.2.2.2.2.2.2.2.2.2.2.2.2.2.2.2.2.2.2.2.2.2.2.2.2.1,hx.2.2.2.2.2.2.2.2.2.2.2.2.2.2.2.2.2.2.2.2.2.2.2.2.2.2.2.2.1,hx.2.2.2.2.2.2.2.2.2.2.2.2.2.2.2.2.2.2.2.2.2.2.2.2.2.2.2.2.2⟩ (by omega) (by omega) (Yj.1 q4);refine⟨by omega,?_⟩;unfold ZvD;have v0:Zcu x.Scan=Zq x.Scan.Steps:=rfl;have v1:Zcu x.Sort_=Zq x.Sort_.Steps:=rfl;have v2:Zcu x.Hash=Zq x.Hash.Steps:=rfl;have v3:Zcu x.Merge=Zq x.Merge.Steps:=rfl;have v4:Zcu x.Nested=Zq x.Nested.Steps:=rfl;have v5:=Ky x.Scan.Steps;have v6:=Ky x.Sort_.Steps;have v7:=Ky x.Hash.Steps;have v8:=Ky x.Merge.Steps;have v9:=Ky x.Nested.Steps;omega
def ZvE(xs:List Zh):ZM xs=3*xs.length:=Zv0 (λ_=>rfl) xs
def ZvF(x:Zg):Nat:=ZM x.Steps
def Zg.ct(x:Zg)(l:Int)(hx:x.okay)(h0:0<=l)(h1:l<=1048576)(h:0<=x.sz l):x.sz l<=l/\(ZvF x:Int)<=16*(l-x.sz l):=by
 unfold Zg.sz at h|-;simp only[Z5]at h|-;split at h
 .omega
 rename_i q0;rw[Yb q0];have s0:=Vp hx.1 h0 h1 (Yj.1 q0);refine⟨by omega,?_⟩;unfold ZvF;have v0:=ZvE x.Steps;omega
def ZvG(x:Region):Nat:=ZM x.Zg.Steps+x.Box.Low.length+x.Box.High.length
def Region.ct(x:Region)(l:Int)(hx:x.okay)(h0:0<=l)(h1:l<=1048576)(h:0<=x.sz l):x.sz l<=l/\(ZvG x:Int)<=16*(l-x.sz l):=by
 unfold Region.sz at h|-;simp only[Z5]at h|-;split at h
 .omega
 rename_i q0;rw[Yb q0];have s0:=Zg.ct x.Zg _ hx.1 h0 h1 (Yj.1 q0);split at h
 .omega
 rename_i q1;rw[Yb q1];have s1:=Box.ct x.Box _ ⟨hx.2.1,hx.2.2.1⟩ (by omega) (by omega) (Yj.1 q1);refine⟨by omega,?_⟩;unfold ZvG;have v0:ZvF x.Zg=ZM x.Zg.Steps:=rfl;have v1:ZvC x.Box=x.Box.Low.length+x.Box.High.length:=rfl;have v2:=ZvE x.Zg.Steps;omega
def ZvH(x:Zo):Nat:=ZI x.Zj.Atoms+ZM x.Region.Zg.Steps+x.Region.Box.Low.length+x.Region.Box.High.length
def Zo.ct(x:Zo)(l:Int)(hx:x.okay)(h0:0<=l)(h1:l<=1048576)(h:0<=x.sz l):x.sz l<=l/\(ZvH x:Int)<=16*(l-x.sz l):=by
 unfold Zo.sz at h|-;simp only[Z5]at h|-;split at h
 .omega
 rename_i q0;rw[Yb q0];have s0:=Zj.ct x.Zj _ ⟨hx.1,hx.2.1⟩ h0 h1 (Yj.1 q0);split at h
 .omega
 rename_i q1;rw[Yb q1];have s1:=Region.ct x.Region _ ⟨hx.2.2.1,hx.2.2.2.1,hx.2.2.2.2.1,hx.2.2.2.2.2.1⟩ (by omega) (by omega) (Yj.1 q1);refine⟨by omega,?_⟩;unfold ZvH;have v0:Zv5 x.Zj=ZI x.Zj.Atoms:=rfl;have v1:ZvG x.Region=ZM x.Region.Zg.Steps+x.Region.Box.Low.length+x.Region.Box.High.length:=rfl;have v2:ZI x.Zj.Atoms=cnL UE x.Zj.Atoms:=rfl;have v3:=ZvE x.Region.Zg.Steps;omega
def ZO2(x:Zo)(l:Int)(hx:x.okay)(h0:0<=l)(h1:l<=1048576)(h:0<=x.sz l):x.sz l<=l/\(UH x:Int)<=16+16*(l-x.sz l):=by
 have a:=Zo.ct x l hx h0 h1 h;unfold ZvH at a;unfold UH;omega
def ZvI(x:ZH):Nat:=Xv x.Entries
def ZH.ct(x:ZH)(l:Int)(hx:x.okay)(h0:0<=l)(h1:l<=1048576)(h:0<=x.sz l):x.sz l<=l/\(ZvI x:Int)<=16*(l-x.sz l):=by
 unfold ZH.sz at h|-;simp only[Z5]at h|-;split at h
 .omega
 rename_i q0;rw[Yb q0];have s0:=JK (n:=UH) hx.2.1 (λy hy l a b c=>ZO2 y l (hx.2.2 y hy) a b c) h0 h1 (Yj.1 q0);refine⟨by omega,?_⟩;unfold ZvI;have v0:Xv x.Entries=cnL UH x.Entries:=rfl;omega
def Zcv(x:ZJ):Nat:=ZA x.Zs.Zl.Tables+ZF x.Zs.Zu.Tables+ZN x.Zs.Dependencies+Xa x.Zs.Inclusions+Zq x.Za.Scan.Steps+Zq x.Za.Sort_.Steps+Zq x.Za.Hash.Steps+Zq x.Za.Merge.Steps+Zq x.Za.Nested.Steps+Xv x.Cache.Entries
def ZJ.ct(x:ZJ)(l:Int)(hx:x.okay)(h0:0<=l)(h1:l<=1048576)(h:0<=x.sz l):x.sz l<=l/\(Zcv x:Int)<=16*(l-x.sz l):=by
 unfold ZJ.sz at h|-;simp only[Z5]at h|-;split at h
 .omega
 rename_i q0;rw[Yb q0];have s0:=Zs.ct x.Zs _ ⟨hx.1,hx.2.1,hx.2.2.1,hx.2.2.2.1,hx.2.2.2.2.1⟩ h0 h1 (Yj.1 q0);split at h
 .omega
 rename_i q1;rw[Yb q1];have s1:=Za.ct x.Za _ ⟨hx.2.2.2.2.2.1,hx.2.2.2.2.2.2.1,hx.2.2.2.2.2.2.2.1,hx.2.2.2.2.2.2.2.2.1,hx.2.2.2.2.2.2.2.2.2.1,hx.2.2.2.2.2.2.2.2.2.2.1,hx.2.2.2.2.2.2.2.2.2.2.2.1,hx.2.2.2.2.2.2.2.2.2.2.2.2.1,hx.2.2.2.2.2.2.2.2.2.2.2.2.2.1,hx.2.2.2.2.2.2.2.2.2.2.2.2.2.2.1,hx.2.2.2.2.2.2.2.2.2.2.2.2.2.2.2.1,hx.2.2.2.2.2.2.2.2.2.2.2.2.2.2.2.2.1,hx.2.2.2.2.2.2.2.2.2.2.2.2.2.2.2.2.2.1,hx.2.2.2.2.2.2.2.2.2.2.2.2.2.2.2.2.2.2.1,hx.2.2.2.2.2.2.2.2.2.2.2.2.2.2.2.2.2.2.2.1,hx.2.2.2.2.2.2.2.2.2.2.2.2.2.2.2.2.2.2.2.2.1,hx.2.2.2.2.2.2.2.2.2.2.2.2.2.2.2.2.2.2.2.2.2.1,hx.2.2.2.2.2.2.2.2.2.2.2.2.2.2.2.2.2.2.2.2.2.2.1,hx.2.2.2.2.2.2.2.2.2.2.2.2.2.2.2.2.2.2.2.2.2.2.2.1,hx.2.2.2.2.2.2.2.2.2.2.2.2.2.2.2.2.2.2.2.2.2.2.2.2.1,hx.2.2.2.2.2.2.2.2.2.2.2.2.2.2.2.2.2.2.2.2.2.2.2.2.2.1,hx.2.2.2.2.2.2.2.2.2.2.2.2.2.2.2.2.2.2.2.2.2.2.2.2.2.2.1,hx.2.2.2.2.2.2.2.2.2.2.2.2.2.2.2.2.2.2.2.2.2.2.2.2.2.2.2.1,hx.2.2.2.2.2.2.2.2.2.2.2.2.2.2.2.2.2.2.2.2.2.2.2.2.2.2.2.2.1,hx.2.2.2.2.2.2.2.2.2.2.2.2.2.2.2.2.2.2.2.2.2.2.2.2.2.2.2.2.2.1,hx.2.2.2.2.2.2.2.2.2.2.2.2.2.2.2.2.2.2.2.2.2.2.2.2.2.2.2.2.2.2.1,hx.2.2.2.2.2.2.2.2.2.2.2.2.2.2.2.2.2.2.2.2.2.2.2.2.2.2.2.2.2.2.2.1,hx.2.2.2.2.2.2.2.2.2.2.2.2.2.2.2.2.2.2.2.2.2.2.2.2.2.2.2.2.2.2.2.2.1,hx.2.2.2.2.2.2.2.2.2.2.2.2.2.2.2.2.2.2.2.2.2.2.2.2.2.2.2.2.2.2.2.2.2.1,hx.2.2.2.2.2.2.2.2.2.2.2.2.2.2.2.2.2.2.2.2.2.2.2.2.2.2.2.2.2.2.2.2.2.2.1⟩ (by omega) (by omega) (Yj.1 q1);split at h
 .omega
 rename_i q2;rw[Yb q2];have s2:=ZH.ct x.Cache _ ⟨hx.2.2.2.2.2.2.2.2.2.2.2.2.2.2.2.2.2.2.2.2.2.2.2.2.2.2.2.2.2.2.2.2.2.2.2.1,hx.2.2.2.2.2.2.2.2.2.2.2.2.2.2.2.2.2.2.2.2.2.2.2.2.2.2.2.2.2.2.2.2.2.2.2.2.1⟩ (by omega) (by omega) (Yj.1 q2);refine⟨by omega,?_⟩;unfold Zcv;have v0:ZvB x.Zs=ZA x.Zs.Zl.Tables+ZF x.Zs.Zu.Tables+ZN x.Zs.Dependencies+Xa x.Zs.Inclusions:=rfl;have v1:ZvD x.Za=Zq x.Za.Scan.Steps+Zq x.Za.Sort_.Steps+Zq x.Za.Hash.Steps+Zq x.Za.Merge.Steps+Zq x.Za.Nested.Steps:=rfl;have v2:ZvI x.Cache=Xv x.Cache.Entries:=rfl;have v3:ZA x.Zs.Zl.Tables=cnL Vg x.Zs.Zl.Tables:=rfl;have v4:ZF x.Zs.Zu.Tables=cnL Vh x.Zs.Zu.Tables:=rfl;have v5:ZN x.Zs.Dependencies=cnL UJ x.Zs.Dependencies:=rfl;have v6:Xa x.Zs.Inclusions=cnL UM x.Zs.Inclusions:=rfl;have v7:=Ky x.Za.Scan.Steps;have v8:=Ky x.Za.Sort_.Steps;have v9:=Ky x.Za.Hash.Steps;have v10:=Ky x.Za.Merge.Steps;have v11:=Ky x.Za.Nested.Steps;have v12:Xv x.Cache.Entries=cnL UH x.Cache.Entries:=rfl;omega
def Zi2{α:Type}{n:α->Nat}{B:Nat}:∀{xs:List α},(∀x∈xs,n x<=B)->cnL n xs<=xs.length*B
 |[],_=>by simp[cnL]
 |x::xs,h=>by
  have h1:=h x (by simp);have h2:=Zi2 (xs:=xs) λy hy=>h y (by simp[hy])
  simp only[cnL,Ym,Ybu,Yca];omega
def Z7z{α:Type}{n:α->Nat}{p:α->Bool}:∀{xs:List α},cnL n (xs.filter p)<=cnL n xs
 |[]=>by simp[cnL]
 |x::xs=>by
  have h2:=Z7z (n:=n) (p:=p) (xs:=xs);rw[Yb5];split<;>simp only[cnL]<;>omega
def Z70{rows:V4}(h8:rows.length<=8)(h3:∀r∈rows,r.length<=3):ZY rows<=24:=by
 have:=Zi2 (n:=VU) (B:=3) (xs:=rows) h3;unfold ZY;omega
def n_tab{t:Zc}(h:Xc t=true):Vg t<=100:=by
 have:=Z70 (Za6 h) (Zid h);unfold Vg;omega
def n_grp{t:Zc}(h:Xc t=true){c:V6}(hc:c∈VP t.Arity):VV (grp t.Rows c)<=40:=by
 have h8:=Za6 h;have hl:=Zu9 t.Rows c;have hc3:=(Z2Z (QG h) c hc).1;have:=Z70 (rows:=KR t.Rows c) (by omega) (λr hr=>by have:=ZuA hr;omega);unfold VV grp Zcg;simp only[Y9];omega
def ZO3{t:Zc}(h:Xc t=true):Vh (Wl t)<=300:=by
 have h7:=ZlW (QG h)
 have:=Zi2 (n:=VV) (B:=40) (xs:=(VP t.Arity).map (grp t.Rows)) (λg hg=>by
  obtain⟨c,hc,rfl⟩:=Yr.1 hg
  exact n_grp h hc)
 rw[Y9]at this;unfold Vh Wl X2;simp only;omega
def ap_all{P:Zc->Prop}{d:Zl}{u:ZR}(h:∀t∈d.Tables,P t)(hi:∀t,Xc t=true->P t->P (Kw t u.Row))(hd:∀t,P t->P (Kx t u.Row)):∀t∈(apV d u).1.Tables,P t:=by
 have hs:∀t,P t->∀x∈(stV d t).Tables,P x:=by
  intro t ht x hx;unfold stV at hx;split at hx
  .rcases ZlT t _ _ x hx with rfl|hx
   .exact ht
   .exact h x hx
  .exact h x hx
 unfold apV
 cases hq:X1 d u.Name with
 |none=>exact h
 |some t =>
  have ht:=h t (ZlP hq).2.1;simp only;split
  .split
   .exact hs _ (hi t (Qn hq) ht)
   .exact h
  .split
   .exact hs _ (hd t ht)
   .exact h
def ZO4{d:Zl}{u:ZR}(h:(apV d u).2=true):Xn (apV d u).1=true:=by
 have hs:∀t,Jc d t=true->Xn (stV d t)=true:=by
  intro t e;unfold stV;rw[Ya e];unfold Jc at e;simp only[Yg]at e;exact e.2
 unfold apV at h|-
 cases hq:X1 d u.Name with
 |none=>rw[hq]at h;cases h
 |some t =>
  rw[hq]at h;simp only at h|-;split at h
  .rename_i e1;rw[Ya e1];split at h
   .rename_i e2;rw[Ya e2];exact hs _ h
   .cases h
  .rename_i e1;rw[Yb e1];split at h
   .rename_i e2;rw[Ya e2];exact hs _ h
   .cases h
def ZO5{s:Zs}{u:ZR}(h:QR s u=true):(apV s.Zl u).2=true:=by
 unfold QR at h;simp only[Yg]at h;exact h.2.1
def ZvJ{t:Zc}(h:Zc.small t):LfT t:=⟨h.2.1,h.2.2⟩
def ZO6{t:Zc}{row:V6}(hr:SmA row)(hk:Xc t=true)(h:Zc.small t):Zc.small (Kw t row):=by
 have:=Zmw (ZvJ h) (row:=row) hr hk;refine⟨?_,this.1,this.2⟩;unfold Kw;split
 .exact h.1
 .exact h.1
def ZO7{t:Zc}{row:V6}(h:Zc.small t):Zc.small (Kx t row):=by
 have:=Zmx (ZvJ h) (row:=row);refine⟨?_,this.1,this.2⟩;unfold Kx;split
 .exact h.1
 .exact h.1
def ZvK{s:ZJ}(g:ZJ.small s):LfE s where
 st:=⟨⟨g.1.1,λt ht=>ZvJ (g.1.2 t ht)⟩,⟨g.2.1.1,λx hx=>⟨(g.2.1.2 x hx).2.1,λy hy=>have k:=(g.2.1.2 x hx).2.2 y hy;⟨k.1,⟨k.2.1.1,k.2.1.2⟩,k.2.2⟩⟩⟩,⟨g.2.2.1.1,λx hx=>(g.2.2.1.2 x hx).2⟩,g.2.2.2.1.1⟩
 mo:=⟨g.2.2.2.2.1,g.2.2.2.2.2.1,g.2.2.2.2.2.2.1,g.2.2.2.2.2.2.2.1,g.2.2.2.2.2.2.2.2.1⟩
 ca:=⟨g.2.2.2.2.2.2.2.2.2.1,λe he=>have k:=g.2.2.2.2.2.2.2.2.2.2 e he;⟨⟨k.1.1,λa ha=>(k.1.2 a ha).2⟩,k.2.1,k.2.2.1,k.2.2.2⟩⟩
def ZO8{s:Zs}{u:ZR}(h:QR s u=true)(hT:SmL Zc.small s.Zl.Tables)(hr:SmA u.Row)(hd:LfD s.Zl) :
  SmL Zc.small (upV s u).Zl.Tables/\SmL Zk.small (upV s u).Zu.Tables/\ZA (upV s u).Zl.Tables<=600/\ZF (upV s u).Zu.Tables<=1800:=by
 have hv:=ZO4 (ZO5 h);have ha:=ap_all (P:=Zc.small) hT.2 (λt hk ht=>ZO6 hr hk ht) (λt ht=>ZO7 ht) (u:=u);have hl:=(Zvs hd (u:=u) hr).1;unfold upV;rw[Ya h];have h6:=Zci hv;refine⟨⟨hl,ha⟩,?_,?_,?_⟩
 .show SmL Zk.small (U3 (apV s.Zl u).1 (s.Zu.Version+1)).Tables;unfold U3;split
  .have hs:=Zvn hv;refine⟨hs.1,λx hx=>?_⟩;obtain⟨g1,g2⟩:=hs.2 x hx;obtain⟨t,ht,rfl⟩:=Yr.1 hx;exact⟨(ha t ht).1,g1,λg hg=>have k:=g2 g hg;⟨k.1,⟨k.2.1.1,k.2.1.2⟩,k.2.2⟩⟩
  .exact⟨by simp,by simp⟩
 .have:=Zi2 (n:=Vg) (B:=100) (xs:=(apV s.Zl u).1.Tables) (λt ht=>n_tab (QC hv ht));show cnL Vg (apV s.Zl u).1.Tables<=_;omega
 .show cnL Vh (U3 (apV s.Zl u).1 (s.Zu.Version+1)).Tables<=_;unfold U3;split
  .have:=Zi2 (n:=Vh) (B:=300) (xs:=(apV s.Zl u).1.Tables.map Wl) (λx hx=>by
    obtain⟨t,ht,rfl⟩:=Yr.1 hx
    exact ZO3 (QC hv ht))
   rw[Y9]at this;exact Y1 this (by omega)
  .simp[cnL]
def ZO9(m:Za)(c:ZH)(v:Int)(h:SmL Zo.small c.Entries):SmL Zo.small (dsV m c v).Entries/\Xv (dsV m c v).Entries<=Xv c.Entries:=by
 unfold dsV;split
 .exact⟨⟨Y1 (Z4V v _) h.1,λx hx=>h.2 x (ZJG v _ x hx)⟩,Z7z⟩
 .exact⟨h,Yh _⟩
def ZOA{s:ZJ}{u:ZR}(g:ZJ.small s)(hr:SmA u.Row):ZJ.small (suV s u)/\Zcv (suV s u)<=Zcv s+2400:=by
 rcases tf (ZaI s u)with e|e
 .unfold suV;rw[e,Yb (by decide)];exact⟨g,by omega⟩
 have e2:QR s.Zs u=true:=by
  unfold ZaI at e;simp only[Yg]at e;exact e.2
 obtain⟨u1,u2,u3,u4⟩:=ZO8 e2 g.1 hr (ZvK g).st.d;obtain⟨d1,d2⟩:=ZO9 s.Za s.Cache (upV s.Zs u).Zu.Version g.2.2.2.2.2.2.2.2.2;have k1:(upV s.Zs u).Dependencies=s.Zs.Dependencies:=by unfold upV;rw[Ya e2]
 have k2:(upV s.Zs u).Inclusions=s.Zs.Inclusions:=by unfold upV;rw[Ya e2]
 unfold suV;rw[Ya e];refine⟨⟨u1,u2,by rw[k1];exact g.2.2.1,by rw[k2];exact g.2.2.2.1,g.2.2.2.2.1,g.2.2.2.2.2.1,g.2.2.2.2.2.2.1,g.2.2.2.2.2.2.2.1,g.2.2.2.2.2.2.2.2.1,d1⟩,?_⟩;unfold Zcv;simp only[k1,k2];omega
end Go.Proofs.YthdihnbeifcppaaGreat
namespace Go.Proofs.YthdihnbeifcppaaGreat
open Go.RowKit
def UO:Value:=.agg #[.int .i64 0,.slice none 0 0,.slice none 0 0,.slice none 0 0,.slice none 0 0,.int .i64 0,.int .i64 0,.int .i64 0]
def Jd{w:World}{b t:Nat}{c:Array Value}{te:TypeId}(hh:w.heap[b]?=some (.cells c te (0,0))):w.cell? ⟨b,t,none⟩=c[t]?:=by
 simp[World.cell?,hh]
def Zi3{w:World}{b t:Nat}{c:Array Value}{te:TypeId}(hh:w.heap[b]?=some (.cells c te (0,0))):w.frozen? ⟨b,t,none⟩=false:=by
 simp[World.frozen?,hh]
def Zi4{w:World}{g o:Nat}{te:TypeId}{c:Array Value}(hg:w.heap[g]?=some (.cells c te (0,0))){vs:List Value}(cc:o+vs.length<=c.size)(h1:∀v∈vs,v.oneCell'=true) :
  w.setCells g o vs=w.setRow g (c.toList.take o++vs++c.toList.drop (o+vs.length)).toArray:=by
 have a:=run_storeCells_at (P:=Tryz.prog) g o te vs 0 c w hg (by simpa using cc) h1
 have b:=run_storeCells_cells (P:=Tryz.prog) g o vs 0 w (by
  intro j hj;rw[Jd hg,Array.getElem?_eq_getElem (by omega)]
  rfl) (λj hj=>Zi3 hg) h1
 rw[b]at a;simpa using a
def ZOB(n:Nat):∀v∈(Builtin.zeroCells UO.cells n).toList,v.oneCell'=true:=by
 intro v hv;simp only[Builtin.zeroCells,Array.toList_map,List.mem_map]at hv;obtain⟨k,hk,rfl⟩:=hv;have hlt:k % UO.cells.size<UO.cells.size:=Nat.mod_lt _ (by decide);rw[getElem!_pos UO.cells _ hlt]
 have:∀t:Fin 8,(UO.cells[t.1]'(by exact t.2)).oneCell'=true:=by decide
 exact this ⟨_,hlt⟩
def Z71(n:Nat):(Builtin.zeroCells UO.cells n).toList.length=n*8:=by
 simp[Builtin.zeroCells];rfl
def Z72{P:Program}(w:World)(t e ty:TypeId)(z:Value)(ht:P.underlying t=some (.slice e))(hv:∀w,(zeroValue e).run P w=.ok z w)(h1:∀v∈z.cells.toList,v.oneCell'=true)(b o n c:Nat)(hn:0<n)
  (hc:∀j,j<n*z.cells.size->(w.cell? ⟨b,o+j,none⟩).isSome=true) (hf:∀j,j<n*z.cells.size->w.frozen? ⟨b,o+j,none⟩=false) :
  (Builtin.clear_ #[t] ty #[.slice (some ⟨b,o,none⟩) n c]).run P w=.ok (.tuple #[]) (w.setCells b o (Builtin.zeroCells z.cells n).toList):=by
 have hl:(Builtin.zeroCells z.cells n).toList.length=n*z.cells.size:=by simp[Builtin.zeroCells]
 have hst:=run_storeCells_cells (P:=P) b o (Builtin.zeroCells z.cells n).toList 0 w (by intro j hj;rw[hl]at hj;simpa using hc j hj) (by intro j hj;rw[hl]at hj;simpa using hf j hj) (by
  intro v hv';simp only[Builtin.zeroCells,Array.toList_map,List.mem_map]at hv';obtain⟨k,hk,rfl⟩:=hv';have hk2:k<n*z.cells.size:=by simpa using hk
  have hz:0<z.cells.size:=by
   rcases Nat.eq_zero_or_pos z.cells.size with h|h
   .rw[h]at hk2;omega
   .exact h
  have hlt:k % z.cells.size<z.cells.size:=Nat.mod_lt _ hz;rw[getElem!_pos z.cells _ hlt]
  exact h1 _ (by simp))
 simp only[Nat.add_zero]at hst;obtain⟨m,rfl⟩:∃m,n=m+1:=⟨n-1,by omega⟩;simp[Builtin.clear_,run_underlying ht,hv,hst]
end Go.Proofs.YthdihnbeifcppaaGreat
namespace Go.Proofs.YthdihnbeifcppaaGreat
open Go.RowKit
def UQ:Value:=.slice none 0 0
def infoR:(Tryz.prog.info? 42).map (λi=>(i.zero,i.size,i.bytes))=some (some UQ,1,24):=by kernel_rfl
set_option maxHeartbeats 4000000 in
set_option maxRecDepth 1000000 in
def ZOC(b n cap i j:Nat)(cur:Array Value)(te:TypeId)(w:World)(hh:w.heap[b]?=some (.cells cur te (0,0)))(c:cur.size=cap*1)(h1:∀t v,t<n*1->cur[t]?=some v->v.oneCell'=true)(cc:i<j)(hj:j<=n)(hn:n<=cap)(hm:cap<=9223372036854775807) :
  Calls Tryz.prog 215 #[.slice (some ⟨b,0,none⟩) n cap,.int .i64 i,.int .i64 j] w λe w'=>e=.returned (.slice (some ⟨b,0,none⟩) (i+(n-j)) cap)/\
   w'=(w.drew.setCells b (0+i*1) ((cur.toList.take (n*1)).drop (j*1))).setCells b ((i+(n-j))) (Builtin.zeroCells UQ.cells (n-(i+(n-j)))).toList:=by
 obtain⟨i0,hi0,hz0,hz1,hz2⟩:=info_parts infoR;obtain⟨news,hnews⟩:∃news,news=(cur.toList.take (n*1)).drop (j*1):=⟨_,rfl⟩;have hlen:news.length=(n-j)*1:=by rw[hnews,List.length_drop,List.length_take,Array.length_toList,c];omega
 have hget:∀t u,news[t]?=some u->cur[j*1+t]?=some u/\j*1+t<n*1:=by
  intro t u hu;have ht:=(List.getElem?_eq_some_iff.1 hu).1;rw[hlen]at ht;rw[hnews,List.getElem?_drop,List.getElem?_take_of_lt (by omega),Array.getElem?_toList]at hu;exact⟨hu,by omega⟩
 obtain⟨zs,hzs⟩:∃zs,zs=(Builtin.zeroCells UQ.cells (n-(i+(n-j)))).toList:=⟨_,rfl⟩;rw[<-hnews,<-hzs];obtain⟨A,hA,hsrc⟩:∃A:Addr,(if cap=j then some (⟨b,0,none⟩:Addr)else some ⟨b,j,none⟩)=some A/\Hid (∀t u,news[t]?=some u->w.drew.cell? (A.add t)=some u):=by
  by_cases h:cap=j
  .refine⟨⟨b,0,none⟩,by simp[h],λt u hu=>?_⟩;have h0:news.length=0:=by rw[hlen];omega
   rw[List.length_eq_zero_iff.1 h0]at hu;simp at hu
  .refine⟨⟨b,j,none⟩,by simp[h],λt u hu=>?_⟩;rw[Addr.add_lit];show w.cell? _=_;rw[Jd hh];simpa using(hget t u hu).1
 have s1:Hid (news.length=(n-j)*1):=hlen;have s2:Hid (∀u∈news,u.oneCell'=true):=by
  intro u hu;obtain⟨t,ht⟩:=List.mem_iff_getElem?.1 hu;obtain⟨g1,g2⟩:=hget t u ht;exact h1 _ _ g2 g1
 have s3:Hid (∀t,t<news.length->(w.drew.cell? ⟨b,0+i*1+t,none⟩).isSome=true/\w.drew.frozen? ⟨b,0+i*1+t,none⟩=false):=by
  intro t ht;rw[hlen]at ht;refine⟨?_,Zi3 (w:=w.drew) hh⟩;show(w.cell? _).isSome=true;rw[Jd hh,Array.getElem?_eq_getElem (by omega)];rfl
 obtain⟨W1,hW1⟩:∃W1,W1=w.drew.setCells b (0+i*1) news:=⟨_,rfl⟩;have hW:Hid (W1=w.drew.setCells b (0+i*1) news):=hW1;have hcl:∀ty,(Builtin.clear_ #[177] ty #[.slice (some ⟨b,(i+(n-j)),none⟩) (n-(i+(n-j))) (cap-(i+(n-j)))]).run Tryz.prog W1=.ok (.tuple #[]) (W1.setCells b ((i+(n-j))) zs):=by
  intro ty;have hno:∀v∈news,v.oneCell'=true:=s2.out;have s4:=Zi4 (w:=w.drew) (o:=0+i*1) hh (vs:=news) (by rw[hlen,c];omega) hno;have g1:=setRow_heap w.drew b cur (cur.toList.take (0+i*1)++news++cur.toList.drop (0+i*1+news.length)).toArray te (0,0) hh;rw[<-s4,<-hW1]at g1;have hcl:cur.toList.length=cap*1:=by simpa using c
  have gs:(cur.toList.take (0+i*1)++news++cur.toList.drop (0+i*1+news.length)).toArray.size=cap*1:=by
   simp only[List.size_toArray,List.length_append,List.length_take,List.length_drop,hcl,hlen];omega
  have hz8:UQ.cells.size=1:=rfl;rw[hzs];refine Z72 W1 177 42 ty UQ Tryz.underlying177 Tryz.zeroValue42 (by decide) b _ _ _ (by omega) (λt ht=>?_) (λt ht=>Zi3 g1);rw[hz8]at ht;rw[Jd g1,Array.getElem?_eq_getElem (by rw[gs];omega)];rfl
 have mixed:Tryz.prog.follows Departure.mixedOrders=true:=by kernel_rfl
 have hic:i<=cap:=by omega
 have hjc:j<=cap:=by omega
 clear hh hget hnews hlen h1 hW1 hzs
 go_enter Tryz.func215,Tryz.ntmps215
 go_wp2_with fail
 go_region_law_o (refine step_append_room rfl (.tmp 22) (.tmp 25) 177 rfl 42 i0 1 Tryz.underlying177 hi0 hz1 b 0 i cap (by simp[Act.eval,Act.put]) A (n-j) (cap-j) news (by simp[Act.eval,Act.put]) s1.out hsrc.out s2.out (by omega) s3.out ?_;rw[<-hW.out])
 go_wp2
 go_ret
 exact⟨rfl,by rw[hW.out]⟩
end Go.Proofs.YthdihnbeifcppaaGreat
namespace Go.Proofs.YthdihnbeifcppaaGreat
open Go.RowKit Go.AM
def ZOD(n:Nat):(Builtin.zeroCells UQ.cells n).toList.length=n*1:=by
 simp[Builtin.zeroCells,show UQ.cells.size=1 from rfl]
def ZOE(n:Nat):∀v∈(Builtin.zeroCells UQ.cells n).toList,v.oneCell'=true:=by
 intro v hv;simp only[Builtin.zeroCells,Ybq,Yr]at hv;obtain⟨k,hk,rfl⟩:=hv;have hlt:k % UQ.cells.size<UQ.cells.size:=Nat.mod_lt _ (by decide);rw[getElem!_pos UQ.cells _ hlt]
 have:∀t:Fin 1,(UQ.cells[t.1]'(by exact t.2)).oneCell'=true:=by decide
 exact this ⟨_,hlt⟩
def cutL{L news zs:UC}{a a' b n:Nat}(ha:a'=a)(hb:b=a+news.length)(hz:b+zs.length=n)(hL:n<=L.length) :
  ((List.take b (L.take a'++news++L.drop (a'+news.length)).toArray.toList++zs++List.drop (b+zs.length) (L.take a'++news++L.drop (a'+news.length)).toArray.toList).toArray).toList=L.take a++news++zs++L.drop n:=by
 subst ha;have e1:(L.take a'++news).length=b:=by rw[Yn,Yt,hb];omega
 show List.take b (L.take a'++news++L.drop (a'+news.length))++zs++List.drop (b+zs.length) (L.take a'++news++L.drop (a'+news.length))=_;rw[Ycb e1,hz,List.drop_append,Ybx,e1];rw[Ydb (by rw[e1];omega),Y7];congr 2;omega
def ZOF{fr:Bool}{es:V5}{i j:Nat}(c:i<j)(hj:j<=es.length):Xr Tryz.prog 215 [.own 0,.t (.int .i64 i),.t (.int .i64 j)] [.arr 42 1 fr es] (.own 1) [.dead,.arr 42 1 fr (es.take i++es.drop j)]:=by
 refine⟨by decide +kernel,?_⟩;intro N base w ρ vs R hdom hv hz;obtain⟨l⟩:=vs;simp only at hv
 cases hv with|cons q0 hv =>
 cases hv with|cons q1 hv =>
 cases hv with|cons q2 hv =>
 cases hv
 cases q0 with|own hr h1 =>
 rename_i r
 cases q1 with|t q1 _ =>
 cases q1
 cases q2 with|t q2 _ =>
 cases q2;have hb:gt [Blk.arr 42 1 fr es] 0=.arr 42 1 fr es:=by simp[gt]
 obtain⟨r2,e1,e2⟩:=R.blk 0 (by rw[hb];intro hc;cases hc);rw[hr]at e1;cases e1;rw[hb]at e2;obtain⟨hex,e',xs,hel,ho,hsz,hlen,htr,hfree,hfr,how⟩:=e2;obtain⟨hxl,ho⟩:=ho;rcases ho with⟨_,hn⟩|⟨g,cap,cur,hrv,hbg,hg,hcap,hcm,hcur,htake⟩
 .omega
 have hone:∀t v,t<es.length*1->cur[t]?=some v->v.oneCell'=true:=by
  intro t v ht hv;refine htr.one v ?_;rw[<-htake];refine Y6 (i:=t) ?_;rw[List.getElem?_take_of_lt ht,Ycc];exact hv
 rw[hrv];refine(ZOC g es.length cap i j cur e' w hg hcur hone c hj hcap (by unfold maxLen at hcm;omega)).mono ?_;rintro e w' ⟨rfl,rfl⟩;have hcl:cur.toList.length=cap*1:=by simpa using hcur
 have m1:(es.length-j+i)*1+(j-i)*1=es.length*1:=by omega
 have hnl:((cur.toList.take (es.length*1)).drop (j*1)).length=(es.length-j)*1:=by
  rw[Ybj,Yt,hcl];omega
 have hno:∀v∈(cur.toList.take (es.length*1)).drop (j*1),v.oneCell'=true:=by
  intro v hv;have hv:=Yb8 hv;obtain⟨t,ht⟩:=List.mem_iff_getElem?.1 hv;rw[Ych]at ht;split at ht
  .exact hone t v (by assumption) (by simpa using ht)
  .cases ht
 have s1:=Zi4 (w:=w.drew) (o:=0+i*1) hg (vs:=(cur.toList.take (es.length*1)).drop (j*1)) (by rw[hnl,hcur];omega) hno;have g1:=setRow_heap w.drew g cur (cur.toList.take (0+i*1)++(cur.toList.take (es.length*1)).drop (j*1)++cur.toList.drop (0+i*1+((cur.toList.take (es.length*1)).drop (j*1)).length)).toArray e' (0,0) hg;rw[s1];have hz8:=ZOD (es.length-(i+(es.length-j)));have s2:=Zi4 (o:=(i+(es.length-j))) g1 (vs:=(Builtin.zeroCells UQ.cells (es.length-(i+(es.length-j)))).toList) (by rw[hz8];simp only[Ycr,Yn,Yt,Ybj,hcl,hnl];omega) (ZOE _);rw[s2,setRow_setRow];generalize hzs:(Builtin.zeroCells UQ.cells (es.length-(i+(es.length-j)))).toList=zs at *
 have hfin:=cutL (L:=cur.toList) (news:=(cur.toList.take (es.length*1)).drop (j*1)) (zs:=zs) (a:=i*1) (a':=0+i*1) (b:=(i+(es.length-j))) (n:=es.length*1) (by omega) (by rw[hnl];omega) (by rw[hz8];omega) (by rw[hcl];omega);obtain⟨fp',p1,p2,p3⟩:=del_rel R hr hdom hrv hg (Yc9 c) hj (zs:=zs) (by rw[hz8];congr 1;omega)
  (w':=w.drew.setRow g _) ⟨_,setRow_heap w.drew g cur _ e' (0,0) hg,hfin⟩ ⟨rfl,rfl,rfl,by rw[setRow_size];exact Yh _,λk _ hk=>setRow_other w.drew g k _ (λe=>hk (by rw[e]))⟩
 refine⟨_,_,rfl,⟨rfl,rfl,rfl,by rw[setRow_size];exact Yh _,λk hk=>setRow_other w.drew g k _ (by omega)⟩,p1,.own (b:=1) (r:=⟨.slice (some ⟨g,0,none⟩) (i+(es.length-j)) cap,fp',[]⟩) (by simp[updM]) rfl,?_,(show 1<=2 by decide),p3,λgg hgg hzz=>p2.free gg hgg (hz gg hzz),?_⟩
 .intro b hb;simp at hb;simp only[updM];rw[Ynx];exact hdom b (by simp;omega)
 .intro b r0 hb hr0
  have:b=0:=by simp at hb;omega
  subst this;exact⟨r0,by simp[updM,hr0],rfl⟩
end Go.Proofs.YthdihnbeifcppaaGreat
namespace Go.Proofs.YthdihnbeifcppaaGreat
open Go.RowKit Go.Lib
def Z73{w:World}{o:Obj}{p:Addr}{v:Value}(h:w.cell? p=some v):(w.alloc o).cell? p=some v:=by
 have hl:p.block<w.heap.size:=by
  rcases Nat.lt_or_ge p.block w.heap.size with h'|h'
  .exact h'
  .simp[World.cell?,Array.getElem?_eq_none h']at h
 rw[<-h];unfold World.cell?;simp only[World.alloc,Array.getElem?_push,if_neg (Nat.ne_of_lt hl)]
set_option maxHeartbeats 4000000 in
set_option maxRecDepth 1000000 in
def ZOG(v0 v1 v2 v3 v4 v5 v7:Value)(x ver:Int)(vb:Nat)(w:World)(hv:w.cell? ⟨vb,0,none⟩=some (.int .i64 ver)) :
  Calls Tryz.prog 77 #[.agg #[v0,v1,v2,v3,v4,v5,.int .i64 x,v7],.pointer (some ⟨vb,0,none⟩)] w λe w'=>e=.returned (.bool (x != ver))/\Below w.heap.size w w':=by
 have mixed:Tryz.prog.follows Departure.mixedOrders=true:=by kernel_rfl
 have hv2:=Z73 (o:=Obj.cells #[v0,v1,v2,v3,v4,v5,Value.int IntKind.i64 x,v7] 128) hv;have hB:=(Below.refl w.heap.size w).alloc (Nat.le_refl _) (Obj.cells #[v0,v1,v2,v3,v4,v5,Value.int IntKind.i64 x,v7] 128)
 go_enter Tryz.func77,Tryz.ntmps77
 go_wp2
 go_ret
 exact⟨rfl,hB⟩
def old(ver:Int):List Value->Bool
 |[_,_,_,_,_,_,.int .i64 x,_]=>x != ver
 |_=>false
def Zi5(ys:List Value):Prop:=∃v0 v1 v2 v3 v4 v5 x v7,ys=[v0,v1,v2,v3,v4,v5,.int .i64 x,v7]
def Z74{ys:List Value}(hy:Zi5 ys)(ver:Int)(vb:Nat)(w:World)(hv:w.cell? ⟨vb,0,none⟩=some (.int .i64 ver)) :
  Calls Tryz.prog 77 #[.agg ys.toArray,.pointer (some ⟨vb,0,none⟩)] w λe w'=>e=.returned (.bool (old ver ys))/\Below w.heap.size w w':=by
 obtain⟨v0,v1,v2,v3,v4,v5,x,v7,rfl⟩:=hy;exact ZOG v0 v1 v2 v3 v4 v5 v7 x ver vb w hv
set_option maxHeartbeats 4000000 in
set_option maxRecDepth 1000000 in
def ZOH(b vb n c:Nat)(ver:Int)(zs:List (List Value))(w:World)(hz:n<=zs.length)(cd:n<=9223372036854775807)(hb:b<w.heap.size)(cc:vb<w.heap.size)(hv:w.cell? ⟨vb,0,none⟩=some (.int .i64 ver))
  (hE:∀j,j<n->Zi5 zs[j]!)
  (hc:∀j,j<n->∀i v,(zs[j]!)[i]?=some v->w.cell? ⟨b,j*8+i,none⟩=some v) :
  Calls Tryz.prog 144 #[.slice (some ⟨b,0,none⟩) n c,.func (.func 77) #[] #[.pointer (some ⟨vb,0,none⟩)]] w λe w'=>e=.returned (.int .i64 (Lib.idxBy (λ_ y=>old ver y) (zs.take n) default))/\Below w.heap.size w w':=by
 have mixed:Tryz.prog.follows Departure.mixedOrders=true:=by kernel_rfl
 have hrow:∀(W:World),Below w.heap.size w W->∀j,j<n->∀i v,(zs[j]!)[i]?=some v->W.cell? ⟨b,j*8+i,none⟩=some v:=λW hW j hj i v hi=>by
   rw[hW.cell (p:=⟨b,j*8+i,none⟩) hb];exact hc j hj i v hi
 have hp:∀(W:World),Below w.heap.size w W->∀j,j<n->Calls Tryz.prog 77 #[.agg (zs[j]!).toArray,.pointer (some ⟨vb,0,none⟩)] W λe w'=>e=.returned (.bool (old ver zs[j]!))/\Below w.heap.size w w':=λW hW j hj =>
  (Z74 (hE j hj) ver vb W (by rw[hW.cell (p:=⟨vb,0,none⟩) cc];exact hv)).mono λ_ _ ⟨e,h⟩=>⟨e,hW.trans (h.mono hW.size)⟩
 clear hc
 go_enter Tryz.func144,Tryz.ntmps144
 go_wp2
 go_loopg [5,8] n (λgg _ s8 wr=>∃kk:Nat,kk<=n/\n-kk<=gg/\s8=.int .i64 kk/\Aside (Below w.heap.size w wr)/\Aside (∀j,j<kk->old ver zs[j]! = false))
 case atStart=>exact⟨0,Nat.zero_le _,by omega,rfl,Below.refl _ w,λj hj=>absurd hj (Nat.not_lt_zero _)⟩
 case round =>
  obtain⟨kk,hkk,hg,rfl,BW,A⟩:=hrel;by_cases hlt:kk<n
  .have hltz:(kk:Int)<(n:Int):=by omega
   have l2:=hrow wr BW.out kk (by omega);have hcall:=hp wr BW.out kk (by omega);have he:=hE kk (by omega);clear hrow hp hE;generalize hy:zs[kk]! = y at l2 hcall he;obtain⟨v0,v1,v2,v3,v4,v5,x,v7,rfl⟩:=he;have B:Aside (zs[kk]! = _):=hy;clear hy;have c0:=l2 0 _ rfl;have c1:=l2 1 _ rfl;have c2:=l2 2 _ rfl;have c3:=l2 3 _ rfl;have c4:=l2 4 _ rfl;have c5:=l2 5 _ rfl;have c6:=l2 6 _ rfl;have c7:=l2 7 _ rfl;simp only[Nat.add_zero]at c0;clear l2
   cases hq:old ver [v0,v1,v2,v3,v4,v5,.int .i64 x,v7]with
   |true =>
    rw[hq]at hcall
    go_wp2_with (refine hcall.mono ?_;rintro e w' ⟨rfl,hb'⟩)
    go_ret
    refine⟨?_,hb'⟩;rw[Lib.idxBy_hit (λ_ y=>old ver y) zs n kk default hlt hz (by show old ver zs[kk]! = true;rw[B.out];exact hq) A.out]
    rfl
   |false =>
    rw[hq]at hcall
    go_wp2_with (refine hcall.mono ?_;rintro e w' ⟨rfl,hb'⟩)
    go_roundg (n-(kk+1))
    case measure=>omega
    case rel =>
     refine⟨kk+1,by omega,by omega,by go_num,hb',(show Aside _ from λj hj=>?_)⟩;by_cases e:j=kk
     .subst e;rw[B.out];exact hq
     .exact A.out j (by omega)
  .have hltz:¬(kk:Int)<(n:Int):=by omega
   have:kk=n:=by omega
   subst this
   go_wp2
   go_ret
   refine⟨?_,BW.out⟩;rw[Lib.idxBy_miss (λ_ y=>old ver y) zs kk default A.out];rfl
end Go.Proofs.YthdihnbeifcppaaGreat
namespace Go.Proofs.YthdihnbeifcppaaGreat
open Go.RowKit Go.Lib
def ZOI(eq:List Value->Bool)(l:List (List Value)):(Lib.idxBy (λ_ y=>eq y) l default=-1/\∀j,j<l.length->eq l[j]! = false)\/∃k,k<l.length/\Lib.idxBy (λ_ y=>eq y) l default=(k:Int)/\eq l[k]! = true/\∀j,j<k->eq l[j]! = false:=by
 by_cases h:∃k,k<l.length/\eq l[k]! = true
 .obtain⟨k,hk,ht⟩:=h
  induction k using Nat.strongRecOn with
  |_ k ih =>
   by_cases h2:∃j,j<k/\eq l[j]! = true
   .obtain⟨j,hj,hj2⟩:=h2;exact ih j hj (by omega) hj2
   .have hne:∀j,j<k->eq l[j]! = false:=λj hj=>by
     cases hq:eq l[j]! with
     |true=>exact absurd ⟨j,hj,hq⟩ h2
     |false=>rfl
    refine .inr ⟨k,hk,?_,ht,hne⟩;have:=Lib.idxBy_hit (λ_ y=>eq y) l l.length k default hk (Nat.le_refl _) ht hne
    rwa [List.take_length]at this
 .have hne:∀j,j<l.length->eq l[j]! = false:=λj hj=>by
   cases hq:eq l[j]! with
   |true=>exact absurd ⟨j,hj,hq⟩ h
   |false=>rfl
  refine .inl ⟨?_,hne⟩;have:=Lib.idxBy_miss (λ_ y=>eq y) l l.length default hne
  rwa [List.take_length]at this
def kept(ver:Int)(zs:List (List Value)):List (List Value):=zs.filter λz=>!old ver z
def ZvL{ver:Int}{zs:List (List Value)}{j:Nat}(hj:j<zs.length):kept ver (zs.take (j+1))=kept ver (zs.take j)++if old ver zs[j]! then[]else[zs[j]!]:=by
 unfold kept;rw[List.take_succ_eq_append_getElem hj,List.filter_append,getElem!_pos zs j hj];congr 1;cases h:old ver zs[j]<;>simp[List.filter,h]
def Z75{ver:Int}{zs:List (List Value)}{k:Nat}(hk:k<=zs.length)(h:∀j,j<k->old ver zs[j]! = false):kept ver (zs.take k)=zs.take k:=by
 unfold kept;rw[List.filter_eq_self];intro z hz;obtain⟨j,hj⟩:=List.mem_iff_getElem?.1 hz;have hj1:=(List.getElem?_eq_some_iff.1 hj).1;rw[List.length_take]at hj1;rw[List.getElem?_take_of_lt (by omega)]at hj;have:=h j (by omega);rw[List.getElem!_eq_getElem?_getD,hj]at this;simpa using this
def ZvM{zs:List (List Value)}(h:∀z∈zs,z.length=8):zs.flatten.length=zs.length*8:=by
 induction zs with
 |nil=>rfl
 |cons z zs ih =>
  rw[List.flatten_cons,List.length_append,h z (by simp),ih λx hx=>h x (by simp[hx]),List.length_cons];omega
def ZOJ{zs:List (List Value)}(h:∀z∈zs,z.length=8){j i:Nat}{v:Value}(hj:j<zs.length)(hv:(zs[j]!)[i]?=some v):zs.flatten[j*8+i]?=some v:=by
 induction zs generalizing j with
 |nil=>exact absurd hj (Nat.not_lt_zero _)
 |cons z zs ih =>
  rw[List.flatten_cons]
  cases j with
  |zero =>
   have hv:z[i]?=some v:=by simpa using hv
   rw[Nat.zero_mul,Nat.zero_add,List.getElem?_append_left (List.getElem?_eq_some_iff.1 hv).1,hv]
  |succ j =>
   have hz:=h z (by simp);rw[List.getElem?_append_right (by omega),hz,show(j+1)*8+i-8=j*8+i by omega];exact ih (λx hx=>h x (by simp[hx])) (by simpa using hj) (by simpa using hv)
structure Qt (ver:Int) (zs:List (List Value)) (b te:Nat) (cur:Array Value) (w wr:World) (i j:Nat):Prop where
 len:(kept ver (zs.take j)).length=i
 lt:i<j
 grown:w.grownBy wr (some b)
 row:∃c,wr.heap[b]?=some (.cells c te (0,0))/\c.toList=(kept ver (zs.take j)).flatten++cur.toList.drop (i*8)
def Z76{w wr w1:World}{b:Nat}(h:w.grownBy wr (some b))(k:Below wr.heap.size wr w1):w.grownBy w1 (some b):=by
 obtain⟨a1,a2,a3,a4,a5⟩:=h;exact⟨k.os.trans a1,k.tape.trans a2,k.output.trans a3,Nat.le_trans a4 k.size,λx hx hn=>(k.block x (by omega)).trans (a5 x hx hn)⟩
def kept8{ver:Int}{zs:List (List Value)}(h:∀z∈zs,z.length=8)(j:Nat):(kept ver (zs.take j)).flatten.length=(kept ver (zs.take j)).length*8 :=
 ZvM λz hz=>h z (List.mem_of_mem_take (List.mem_filter.1 hz).1)
def Qt.size{ver:Int}{zs:List (List Value)}{b te:Nat}{cur:Array Value}{w wr:World}{i j:Nat}(I:Qt ver zs b te cur w wr i j)(h8:∀z∈zs,z.length=8)(hi:i*8<=cur.size):∃c,wr.heap[b]?=some (.cells c te (0,0))/\c.toList=(kept ver (zs.take j)).flatten++cur.toList.drop (i*8)/\c.size=cur.size/\(kept ver (zs.take j)).flatten.length=i*8:=by
 obtain⟨c,h1,h2⟩:=I.row;have h3:=kept8 (ver:=ver) h8 j;rw[I.len]at h3;refine⟨c,h1,h2,?_,h3⟩;rw[<-Array.length_toList,h2,List.length_append,h3,List.length_drop,Array.length_toList];omega
def Qt.read{ver:Int}{zs:List (List Value)}{b te:Nat}{cur:Array Value}{w wr:World}{i j:Nat}(I:Qt ver zs b te cur w wr i j)(h8:∀z∈zs,z.length=8)(hi:i*8<=cur.size)(hc:∀t v,(zs[j]!)[t]?=some v->cur[j*8+t]?=some v) :
  ∀t v,(zs[j]!)[t]?=some v->wr.cell? ⟨b,j*8+t,none⟩=some v:=by
 intro t v hv;obtain⟨c,h1,h2,h3,h4⟩:=I.size h8 hi;have:=I.lt;rw[Jd h1,<-Array.getElem?_toList,h2,List.getElem?_append_right (by omega),List.getElem?_drop,h4,show i*8+(j*8+t-i*8)=j*8+t by omega,Array.getElem?_toList];exact hc t v hv
def Qt.skip{ver:Int}{zs:List (List Value)}{b te:Nat}{cur:Array Value}{w wr w1:World}{i j:Nat}(I:Qt ver zs b te cur w wr i j)(hj:j<zs.length)(ho:old ver zs[j]! = true)(hw:w1.heap.size>=wr.heap.size)(hb:b<wr.heap.size)(B:Below wr.heap.size wr w1):Qt ver zs b te cur w w1 i (j+1):=by
 have hs:=ZvL (ver:=ver) hj;rw[ho,if_pos rfl,List.append_nil]at hs;obtain⟨c,h1,h2⟩:=I.row;exact⟨by rw[hs];exact I.len,Nat.lt_succ_of_lt I.lt,Z76 I.grown B,⟨c,by rw[B.block b hb];exact h1,by rw[hs];exact h2⟩⟩
def Qt.keep{ver:Int}{zs:List (List Value)}{b te:Nat}{cur:Array Value}{w wr w1:World}{i j:Nat}(I:Qt ver zs b te cur w wr i j)(h8:∀z∈zs,z.length=8)(cd:zs.length*8<=cur.size)(cc:∀z∈zs,∀v∈z,v.oneCell'=true)(hj:j<zs.length)(ho:old ver zs[j]! = false)(hb:b<wr.heap.size)(B:Below wr.heap.size wr w1):Qt ver zs b te cur w (w1.setCells b (i*8) zs[j]!) (i+1) (j+1):=by
 have hs:=ZvL (ver:=ver) hj;rw[ho,if_neg (by decide)]at hs;have hlt:=I.lt;obtain⟨c,h1,h2,h3,h4⟩:=I.size h8 (by omega);have hg:w1.heap[b]?=some (.cells c te (0,0)):=by rw[B.block b hb];exact h1
 have hm:zs[j]!∈zs:=by rw[getElem!_pos zs j hj];exact List.getElem_mem _
 have hz:=h8 _ hm;rw[Zi4 hg (by rw[hz,h3];omega) (cc _ hm),hz];have G:=Z76 I.grown B;obtain⟨a1,a2,a3,a4,a5⟩:=G;refine⟨by rw[hs,List.length_append,I.len];rfl,by omega,⟨a1,a2,a3,by rw[setRow_size];exact a4,λk hk hn=>(setRow_other w1 b k _ (λe=>hn (by rw[e]))).trans (a5 k hk hn)⟩,⟨_,setRow_heap w1 b c _ te (0,0) hg,?_⟩⟩;show c.toList.take (i*8)++zs[j]!++c.toList.drop (i*8+8)=_;rw[hs,List.flatten_append,h2,List.take_left' h4,List.drop_append,h4,List.drop_eq_nil_of_le (by omega),List.nil_append,List.drop_drop,show i*8+(i*8+8-i*8)=(i+1)*8 by omega];simp
def ZOK{zs:List (List Value)}(h:∀z∈zs,z.length=8)(k:Nat)(hk:k<=zs.length):(zs.take k).flatten=zs.flatten.take (k*8):=by
 have h1:(zs.take k).flatten.length=k*8:=by
  rw[ZvM λz hz=>h z (List.mem_of_mem_take hz),List.length_take,Nat.min_eq_left hk]
 have h2:zs.flatten=(zs.take k).flatten++(zs.drop k).flatten:=by rw[<-List.flatten_append,List.take_append_drop]
 rw[h2,List.take_left' h1]
def ZvN(w:World)(o:Obj):(w.alloc o).heap.size=w.heap.size+1:=by
 show(w.heap.push o).size=_;rw[Array.size_push]
def ZOL(w:World)(o:Obj):(w.alloc o).heap[w.heap.size]?=some o:=by
 show(w.heap.push o)[w.heap.size]?=_;rw[Array.getElem?_push_size]
def ZOM{v0 v1 v2 v3 v4 v5 v7:Value}{x ver:Int}{vb b i te:Nat}{wr:World}{c:Array Value}(hb:b<wr.heap.size)(hc:wr.heap[b]?=some (.cells c te (0,0)))(hi:i*8+8<=c.size)(hv:wr.cell? ⟨vb,0,none⟩=some (.int .i64 ver)) :
  Calls Tryz.prog 77 #[.agg #[v0,v1,v2,v3,v4,v5,.int .i64 x,v7],.pointer (some ⟨vb,0,none⟩)] (wr.alloc (Obj.cells #[v0,v1,v2,v3,v4,v5,.int .i64 x,v7] 128)) λe w1=>e=.returned (.bool (old ver [v0,v1,v2,v3,v4,v5,.int .i64 x,v7]))/\Hid (Below wr.heap.size wr w1)/\
      (w1.cell? ⟨wr.heap.size,0,none⟩=some v0/\w1.cell? ⟨wr.heap.size,1,none⟩=some v1/\w1.cell? ⟨wr.heap.size,2,none⟩=some v2/\w1.cell? ⟨wr.heap.size,3,none⟩=some v3/\w1.cell? ⟨wr.heap.size,4,none⟩=some v4/\w1.cell? ⟨wr.heap.size,5,none⟩=some v5/\w1.cell? ⟨wr.heap.size,6,none⟩=some (.int .i64 x)/\w1.cell? ⟨wr.heap.size,7,none⟩=some v7)/\∃o0 o1 o2 o3 o4 o5 o6 o7,w1.cell? ⟨b,i*8,none⟩=some o0/\w1.frozen? ⟨b,i*8,none⟩=false/\w1.cell? ⟨b,i*8+1,none⟩=some o1/\w1.frozen? ⟨b,i*8+1,none⟩=false/\w1.cell? ⟨b,i*8+2,none⟩=some o2/\w1.frozen? ⟨b,i*8+2,none⟩=false/\w1.cell? ⟨b,i*8+3,none⟩=some o3/\w1.frozen? ⟨b,i*8+3,none⟩=false/\w1.cell? ⟨b,i*8+4,none⟩=some o4/\w1.frozen? ⟨b,i*8+4,none⟩=false/\w1.cell? ⟨b,i*8+5,none⟩=some o5/\w1.frozen? ⟨b,i*8+5,none⟩=false/\w1.cell? ⟨b,i*8+6,none⟩=some o6/\w1.frozen? ⟨b,i*8+6,none⟩=false/\w1.cell? ⟨b,i*8+7,none⟩=some o7/\w1.frozen? ⟨b,i*8+7,none⟩=false:=by
 have hcall:=Z74 (ys:=[v0,v1,v2,v3,v4,v5,.int .i64 x,v7]) ⟨_,_,_,_,_,_,_,_,rfl⟩ ver vb (wr.alloc (Obj.cells #[v0,v1,v2,v3,v4,v5,.int .i64 x,v7] 128)) (Z73 hv);refine hcall.mono λe w1 ⟨he,B⟩=>⟨he,((Below.refl _ _).alloc (Nat.le_refl _) _).trans (B.mono (by rw[ZvN];omega)),?_,?_⟩
 .have hb2:w1.heap[wr.heap.size]?=some (Obj.cells #[v0,v1,v2,v3,v4,v5,.int .i64 x,v7] 128 (0,0)):=by
   rw[B.block _ (by rw[ZvN];omega)];exact ZOL _ _
  refine⟨?_,?_,?_,?_,?_,?_,?_,?_⟩<;>rw[Jd hb2]<;>rfl
 .have hb2:w1.heap[b]?=some (Obj.cells c te (0,0)):=by
   rw[B.block _ (by rw[ZvN];omega),Below.heap_alloc _ _ _ hb];exact hc
  have hbd:∀t,t<8->i*8+t<c.size:=λt ht=>by omega
  refine⟨c[i*8+0]'(hbd 0 (by decide)),c[i*8+1]'(hbd 1 (by decide)),c[i*8+2]'(hbd 2 (by decide)),c[i*8+3]'(hbd 3 (by decide)),c[i*8+4]'(hbd 4 (by decide)),c[i*8+5]'(hbd 5 (by decide)),c[i*8+6]'(hbd 6 (by decide)),c[i*8+7]'(hbd 7 (by decide)),?_⟩
  refine⟨?_,?_,?_,?_,?_,?_,?_,?_,?_,?_,?_,?_,?_,?_,?_,?_⟩<;>first
   |exact Zi3 hb2
   |rw[Jd hb2];exact Array.getElem?_eq_getElem _
set_option maxHeartbeats 4000000 in
set_option maxRecDepth 1000000 in
def ZON(b vb n cap te:Nat)(ver:Int)(zs:List (List Value))(cur:Array Value)(w:World)(hh:w.heap[b]?=some (.cells cur te (0,0)))(cc:zs.length=n)(cd:cur.toList.take (n*8)=zs.flatten)(co:cur.size=cap*8)(hn:n<=cap)(hm:cap<=9223372036854775807)
  (hE:∀z∈zs,Zi5 z) (h1:∀z∈zs,∀v∈z,v.oneCell'=true) (cl:vb<w.heap.size) (cn:vb≠b) (hv:w.cell? ⟨vb,0,none⟩=some (.int .i64 ver)) :
  Calls Tryz.prog 76 #[.slice (some ⟨b,0,none⟩) n cap,.func (.func 77) #[] #[.pointer (some ⟨vb,0,none⟩)]] w λe w'=>e=.returned (.slice (some ⟨b,0,none⟩) (kept ver zs).length cap)/\
   (∃c2,w'.heap[b]?=some (.cells c2 te (0,0))/\c2.toList=(kept ver zs).flatten++(Builtin.zeroCells UO.cells (n-(kept ver zs).length)).toList++cur.toList.drop (n*8))/\w.grownBy w' (some b):=by
 have mixed:Tryz.prog.follows Departure.mixedOrders=true:=by kernel_rfl
 have h8:∀z∈zs,z.length=8:=λz hz=>by obtain⟨_,_,_,_,_,_,_,_,h⟩:=hE z hz;rw[h];rfl
 have hb:b<w.heap.size:=(Array.getElem?_eq_some_iff.1 hh).1;have hfl:=ZvM h8;have hEj:∀j,j<n->Zi5 zs[j]!:=λj hj=>by rw[getElem!_pos zs j (by omega)];exact hE _ (List.getElem_mem _)
 have hcj:∀j,j<n->∀i v,(zs[j]!)[i]?=some v->j*8+i<n*8/\cur[j*8+i]?=some v:=λj hj i v hi=>by
  have ha:=ZOJ h8 (by omega) hi;have hl:=(List.getElem?_eq_some_iff.1 ha).1;rw[hfl,cc]at hl;rw[<-cd,List.getElem?_take_of_lt hl,Array.getElem?_toList]at ha;exact⟨hl,ha⟩
 have hIF:=ZOH b vb n cap ver zs w (by omega) (by omega) hb cl hv hEj (λj hj i v hi=>by rw[Jd hh];exact(hcj j hj i v hi).2);rw[<-cc,List.take_length,cc]at hIF;rcases ZOI (old ver) zs with⟨e1,hall⟩|⟨k0,hk0,e1,ht,hall⟩
 .rw[e1]at hIF;have hk:kept ver zs=zs:=by
   have:=Z75 (ver:=ver) (Nat.le_refl zs.length) hall
   rwa [List.take_length]at this
  rw[hk,cc,Nat.sub_self];have HH:Aside (w.heap[b]?=some (.cells cur te (0,0))):=hh;clear hh hcj hEj hE h1
  go_enter Tryz.func76,Tryz.ntmps76
  go_wp2_with (refine hIF.mono ?_;rintro e w' ⟨rfl,hb'⟩)
  go_ret
  refine⟨rfl,⟨cur,by rw[hb'.block b hb];exact HH.out,?_⟩,⟨hb'.os,hb'.tape,hb'.output,hb'.size,λk hk _=>hb'.block k hk⟩⟩;rw[<-cd];simp[Builtin.zeroCells]
 .rw[e1]at hIF;have hne1:((k0:Int) == -1)=false:=beq_eq_false_iff_ne.2 (by omega);have st1:kept ver (zs.take k0)=zs.take k0:=Z75 (Nat.le_of_lt hk0) hall;have st2:=ZvL (ver:=ver) hk0;rw[ht,if_pos rfl,List.append_nil,st1]at st2;rw[cc]at hk0;have HH:Aside (w.heap[b]?=some (.cells cur te (0,0))):=hh;clear hall ht e1 st1;obtain⟨Z,hZ⟩:∃Z:Nat->List Value,∀m,Z m=(Builtin.zeroCells UO.cells m).toList:=⟨_,λ_=>rfl⟩;rw[<-hZ];have ZD:Hid (∀m,Z m=(Builtin.zeroCells UO.cells m).toList):=hZ;clear hZ;have HC:Aside _:=hcj;have HE:Aside _:=hEj;have H8:Aside _:=h8;have HV:Aside _:=hv;have H1:Aside _:=h1;have HF:Aside _:=hfl;clear hh hcj hEj hE h1 h8 hv hfl
  go_enter Tryz.func76,Tryz.ntmps76
  go_wp2_with (refine hIF.mono ?_;rintro e w' ⟨rfl,hb'⟩)
  go_loopg [5,6,7] n (λgg s5 s6 _ wr=>∃(i j:Nat),s5=.int .i64 i/\s6=.int .i64 j/\j<=n/\n-j<=gg/\Aside (Qt ver zs b te cur w wr i j))
  case atStart =>
   refine⟨k0,k0+1,rfl,by go_num,by omega,by omega,(show Aside _ from⟨?_,Nat.lt_succ_self _,⟨hb'.os,hb'.tape,hb'.output,hb'.size,λk hk _=>hb'.block k hk⟩,⟨cur,by rw[hb'.block b hb];exact HH.out,?_⟩⟩)⟩
   .rw[st2,List.length_take,Nat.min_eq_left (by omega)]
   .rw[st2,ZOK H8.out k0 (by omega),<-cd,List.take_take,Nat.min_eq_left (by omega),List.take_append_drop]
  case round =>
   obtain⟨i,j,rfl,rfl,hjn,hgg,I2⟩:=hrel;have hij:=I2.out.lt;have hbr:Hid (b<wr.heap.size):=by obtain⟨_,_,_,a4,_⟩:=I2.out.grown;exact Nat.lt_of_lt_of_le hb a4
   by_cases hlt:j<n
   .have hltz:(j:Int)<(n:Int):=by omega
    have l2:=I2.out.read H8.out (by omega) (λt v hv=>(HC.out j hlt t v hv).2);have he:=HE.out j hlt;have K2:Hid (∀w1,old ver zs[j]! = false->Below wr.heap.size wr w1->Qt ver zs b te cur w (w1.setCells b (i*8) zs[j]!) (i+1) (j+1)):=λw1 ho B=>I2.out.keep H8.out (by omega) H1.out (by omega) ho hbr.out B
    have S2:Hid (∀w1,old ver zs[j]! = true->Below wr.heap.size wr w1->Qt ver zs b te cur w w1 i (j+1)):=λw1 ho B=>I2.out.skip (by omega) ho B.size hbr.out B
    have Rw:Hid (∃c,wr.heap[b]?=some (.cells c te (0,0))/\c.size=cap*8):=by
     obtain⟨c,h1,_,h3,_⟩:=I2.out.size H8.out (by omega);exact⟨c,h1,by rw[h3,co]⟩
    have hvr:Hid (vb<wr.heap.size/\wr.cell? ⟨vb,0,none⟩=some (.int .i64 ver)):=by
     obtain⟨_,_,_,a4,a5⟩:=I2.out.grown;refine⟨by omega,?_⟩;rw[<-HV.out];exact World.cell?_of_block (w:=w) (a5 vb cl (by intro e;cases e;exact cn rfl))
    have O1:Hid (∀v∈zs[j]!,v.oneCell'=true):=H1.out _ (by rw[getElem!_pos zs j (by omega)];exact List.getElem_mem _);generalize zs[j]! = y at l2 he K2 S2 O1;obtain⟨v0,v1,v2,v3,v4,v5,x,v7,rfl⟩:=he;have c0:=l2 0 _ rfl;have c1:=l2 1 _ rfl;have c2:=l2 2 _ rfl;have c3:=l2 3 _ rfl;have c4:=l2 4 _ rfl;have c5:=l2 5 _ rfl;have c6:=l2 6 _ rfl;have c7:=l2 7 _ rfl;simp only[Nat.add_zero]at c0;clear l2 I2;obtain⟨c,hc,hcz⟩:=Rw.out;have hcall2:=ZOM (v0:=v0) (v1:=v1) (v2:=v2) (v3:=v3) (v4:=v4) (v5:=v5) (v7:=v7) (x:=x) (i:=i) hbr.out hc (by omega) hvr.out.2;clear hc hcz Rw c;have st:∀v∈[v0,v1,v2,v3,v4,v5,.int .i64 x,v7],v.oneCell'=true:=O1.out;have s0:=λa m w=>run_store Tryz.prog w a v0 m (st _ (by simp))
    have s1:=λa m w=>run_store Tryz.prog w a v1 m (st _ (by simp))
    have s2:=λa m w=>run_store Tryz.prog w a v2 m (st _ (by simp))
    have s3:=λa m w=>run_store Tryz.prog w a v3 m (st _ (by simp))
    have s4:=λa m w=>run_store Tryz.prog w a v4 m (st _ (by simp))
    have s5:=λa m w=>run_store Tryz.prog w a v5 m (st _ (by simp))
    have s7:=λa m w=>run_store Tryz.prog w a v7 m (st _ (by simp))
    clear st;clear hIF
    cases hq:old ver [v0,v1,v2,v3,v4,v5,.int .i64 x,v7]with
    |true =>
     rw[hq]at hcall2
     go_wp2_with (refine hcall2.mono ?_;rintro e w1 ⟨rfl,HB,⟨d0,d1,d2,d3,d4,d5,d6,d7⟩,o0,o1,o2,o3,o4,o5,o6,o7,r0,f0,r1,f1,r2,f2,r3,f3,r4,f4,r5,f5,r6,f6,r7,f7⟩)
     go_roundg (n-(j+1))
     case measure=>omega
     case rel=>exact⟨i,j+1,rfl,by go_num,by omega,Nat.le_refl _,S2.out w1 hq HB.out⟩
    |false =>
     rw[hq]at hcall2
     go_wp2_with (refine hcall2.mono ?_;rintro e w1 ⟨rfl,HB,⟨d0,d1,d2,d3,d4,d5,d6,d7⟩,o0,o1,o2,o3,o4,o5,o6,o7,r0,f0,r1,f1,r2,f2,r3,f3,r4,f4,r5,f5,r6,f6,r7,f7⟩)
     go_roundg (n-(j+1))
     case measure=>omega
     case rel=>exact⟨i+1,j+1,by go_num,by go_num,by omega,Nat.le_refl _,K2.out w1 hq HB.out⟩
   .obtain rfl:j=n:=by omega
    have hltz:¬(j:Int)<(j:Int):=by omega
    obtain⟨zz,hzz⟩:∃zz,zz=(Builtin.zeroCells UO.cells (j-i)).toList:=⟨_,rfl⟩;have hzl:zz.length=(j-i)*8:=by rw[hzz];exact Z71 _
    have hle:i*8+zz.length<=cur.size:=by omega
    have E2:Hid (∃c,wr.heap[b]?=some (.cells c te (0,0))/\c.toList=(kept ver (zs.take j)).flatten++cur.toList.drop (i*8)/\c.size=cur.size/\(kept ver (zs.take j)).flatten.length=i*8):=I2.out.size H8.out (by omega);have hcl:∀ty,(Builtin.clear_ #[62] ty #[.slice (some ⟨b,i*8,none⟩) (j-i) (cap-i)]).run Tryz.prog wr=.ok (.tuple #[]) (wr.setCells b (i*8) zz):=by
     intro ty;obtain⟨c,g1,_,g3,_⟩:=E2.out;rw[hzz];refine Z72 wr 62 128 ty UO Tryz.underlying62 Tryz.zeroValue128 (by decide) b _ _ _ (by omega) (λt ht=>?_) (λt ht=>Zi3 g1);rw[show UO.cells.size=8 from rfl]at ht;rw[Jd g1,Array.getElem?_eq_getElem (by omega)];rfl
    have hcap:¬cap=i:=by omega
    have hkl:=I2.out.len;rw[<-cc,List.take_length]at hkl;have KL:Hid ((kept ver zs).length=i):=hkl;have GR:Hid (w.grownBy wr (some b)):=I2.out.grown;have ZO:Hid (∀v∈zz,v.oneCell'=true):=by rw[hzz];exact ZOB _
    have ZZ:Hid (zz=(Builtin.zeroCells UO.cells (j-i)).toList):=hzz;clear hIF hkl hzz I2
    go_wp2
    go_ret
    rw[KL.out];obtain⟨c,g1,g2,g3,g4⟩:=E2.out;obtain⟨a1,a2,a3,a4,a5⟩:=GR.out;rw[Zi4 g1 (by omega) ZO.out];refine⟨rfl,⟨_,setRow_heap wr b c _ te (0,0) g1,?_⟩,⟨a1,a2,a3,by rw[setRow_size];exact a4,λk hk hn=>(setRow_other wr b k _ (λe=>hn (by rw[e]))).trans (a5 k hk hn)⟩⟩;show c.toList.take (i*8)++zz++c.toList.drop (i*8+zz.length)=_;rw[<-cc,List.take_length]at g2 g4;rw[g2,List.take_left' g4,List.drop_append,g4,List.drop_eq_nil_of_le (by omega),List.nil_append,List.drop_drop,ZD.out,<-ZZ.out,show i*8+(i*8+zz.length-i*8)=j*8 by omega];simp only[List.append_assoc,cc]
end Go.Proofs.YthdihnbeifcppaaGreat
namespace Go.Proofs.YthdihnbeifcppaaGreat
open Go.RowKit Go.Lib
set_option maxHeartbeats 4000000 in
set_option maxRecDepth 1000000 in
def ZOO(p:Value)(w:World) :
  Calls Tryz.prog 144 #[.slice none 0 0,.func (.func 77) #[] #[p]] w λe w'=>e=.returned (.int .i64 (-1))/\w'=w:=by
 have mixed:Tryz.prog.follows Departure.mixedOrders=true:=by kernel_rfl
 go_enter Tryz.func144,Tryz.ntmps144
 go_wp2
 go_loopg [5,8] 0 (λgg _ s8 wr=>s8=.int .i64 0/\wr=w)
 case atStart=>exact⟨rfl,rfl⟩
 case round =>
  obtain⟨rfl,rfl⟩:=hrel
  go_wp2
  go_ret
  exact⟨rfl,rfl⟩
set_option maxHeartbeats 4000000 in
set_option maxRecDepth 1000000 in
def ZOP(p:Value)(w:World) :
  Calls Tryz.prog 76 #[.slice none 0 0,.func (.func 77) #[] #[p]] w λe w'=>e=.returned (.slice none 0 0)/\w'=w:=by
 have mixed:Tryz.prog.follows Departure.mixedOrders=true:=by kernel_rfl
 have hIF:=ZOO p w
 go_enter Tryz.func76,Tryz.ntmps76
 go_wp2_with (refine hIF.mono ?_;rintro e w' ⟨rfl,rfl⟩)
 go_ret
 exact⟨rfl,rfl⟩
