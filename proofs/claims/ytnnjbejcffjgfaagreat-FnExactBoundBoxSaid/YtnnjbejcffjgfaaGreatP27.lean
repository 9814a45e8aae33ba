/-
  Parts of the proofs for this seat: MP MQ MR.
-/
import Derived.Test.YtnnjbejcffjgfaaGreatP26
set_option linter.unusedSectionVars false
set_option linter.unusedSimpArgs false
set_option linter.unusedVariables false
set_option maxRecDepth 100000
set_option maxHeartbeats 4000000
namespace Go.Proofs.YtnnjbejcffjgfaaGreat
open Go.AM
noncomputable section
def mkL{α:Type}(f:α->Int->α)(n:α->Nat):List α->Int->List α
 |[],_=>[]
 |x::xs,k=>f x k::mkL f n xs (k+(n x:Int))
def cnL{α:Type}(n:α->Nat):List α->Nat
 |[]=>0
 |x::xs=>n x+cnL n xs
def mkI(xs:List Int)(k:Int):List Int:=mkL (λ_ k=>k) (λ_=>1) xs k
theorem Zcap(x:Int)(xs:List Int)(k:Int):mkI (x::xs) k=k::mkI xs (k+1):=rfl
theorem Zc0n(e:Nat)(fr:List Fr):∀(xs d:List Int) (k:Int),0<=k->k+(xs.length:Int)<=4611686018427387904->d.length+xs.length<=4294967296->EvL C fr [0,1,5] Zsc ⟨[(0,.own 0),(1,I k),(5,I d.length)],[[(0,.own 0)]],[.xarr e 1 ((d++xs).map ic)]⟩ =
  EvX C fr (.x 0) ⟨[(0,.own 0),(1,I (k+xs.length)),(5,I (d.length+xs.length)),(9,Bo false)],[[(0,.own 0)]],[.xarr e 1 ((d++mkI xs k).map ic)]⟩:=by
 intro xs
 induction xs with
 |nil =>
  intro d k h1 h2 h3;rw[Zd Zsc.eq_1]
  simp[mkI,mkL]
 |cons x xs ih =>
  intro d k h1 h2 h3;simp only[Yw]at h2 h3;have ih':=ih (d++[k]) (k+1) (by omega) (by omega) (by simp;omega);rw[Zd Zsc.eq_1];have g1:IntKind.wrap .i64 ((d.length:Int)+1)=(d.length:Int)+1:=Zw (by omega) (by omega);have g2:IntKind.wrap .i64 (k+1)=k+1:=Zw (by omega) (by omega);have g3:(d.length:Int)<(d.length:Int)+((xs.length:Int)+1):=by omega
  have g4:k+1+(xs.length:Int)=k+((xs.length:Int)+1):=by omega
  have g5:(d.length:Int)+1+(xs.length:Int)=(d.length:Int)+((xs.length:Int)+1):=by omega
  simp[g4,g5]at ih';simp[g1,g2,g3,ih',Zcap]
theorem Zblr(e:Nat)(xs:List Int)(k:Int)(h1:0<=k)(h2:k+(xs.length:Int)<=4611686018427387904)(h3:SmA xs):C Zs8 [.own 0,I k] [.xarr e 1 (xs.map ic)]=some (I (k+xs.length),[.xarr e 1 ((mkI xs k).map ic)]):=by
 refine runM Zblc rfl ?_;have h4:=λfr=>Zc0n e fr xs [] k h1 h2 (by have:xs.length<=4294967296:=h3;simp;omega)
 simp at h4;simp[Z6y,h4]
theorem Zc0o(n:Nat)(k:Int):C Zs8 [.t (.lst n []),I k] []=some (I k,[]):=by
 refine run Zblc rfl ?_;simp[Z6y,Zd Zsc.eq_1]
theorem Zc0p(k:Int):C Zs8 [.t .nil,I k] []=some (I k,[]):=by
 refine run Zblc rfl ?_;simp[Z6y,Zd Zsc.eq_1]
theorem Zc0q(fr:List Fr):∀(xs d:List Int) (k:Int),0<=k->k+(xs.length:Int)<=4611686018427387904->d.length+xs.length<=4294967296->EvL C fr [0,1,5] Zy6 ⟨[(0,L 1 ((d++mkI xs k).map ic)),(1,I k),(5,I d.length)],[[]],[]⟩ =
  EvX C fr (.x 0) ⟨[(0,L 1 ((d++mkI xs k).map ic)),(1,I (k+xs.length)),(5,I (d.length+xs.length)),(9,Bo false)],[[]],[]⟩:=by
 intro xs
 induction xs with
 |nil =>
  intro d k h1 h2 h3;rw[Zd Zy6.eq_1]
  simp[mkI,mkL]
 |cons x xs ih =>
  intro d k h1 h2 h3;simp only[Yw]at h2 h3;have ih':=ih (d++[k]) (k+1) (by omega) (by omega) (by simp;omega);rw[Zd Zy6.eq_1];have g1:IntKind.wrap .i64 ((d.length:Int)+1)=(d.length:Int)+1:=Zw (by omega) (by omega);have g2:IntKind.wrap .i64 (k+1)=k+1:=Zw (by omega) (by omega);have g3:(d.length:Int)<(d.length:Int)+(((mkI xs (k+1)).length:Int)+1):=by omega
  have g4:k+1+(xs.length:Int)=k+((xs.length:Int)+1):=by omega
  have g5:(d.length:Int)+1+(xs.length:Int)=(d.length:Int)+((xs.length:Int)+1):=by omega
  simp[g4,g5]at ih';simp[g1,g2,g3,ih',Zcap]
theorem strB_one(x:Int):(strB [x]).size=1:=by simp[strB];rfl
theorem Zc0r(fr:List Fr):∀(n:Nat) (k:Int) (out:ByteArray),k.toNat<=n->(out.size:Int)+k<=4611686018427387904->0<=k->∃s,s.size<=out.size+n/\EvL C fr [0,3] Zy7 ⟨[(0,I k),(3,.t (.str out))],[[]],[]⟩=EvX C fr (.x 0) ⟨[(0,I 0),(3,.t (.str s)),(7,Bo false)],[[]],[]⟩:=by
 intro n
 induction n with
 |zero =>
  intro k out h1 h2 h3
  have:k=0:=by omega
  subst this;rw[Zd Zy7.eq_1]
  exact⟨out,by simp⟩
 |succ n ih =>
  intro k out h1 h2 h3;by_cases h0:k=0
  .subst h0;rw[Zd Zy7.eq_1];exact⟨out,by simp⟩
  have hk:0<k:=by omega
  have e:k.tdiv 10=k / 10:=Int.tdiv_eq_ediv_of_nonneg h3;have e2:IntKind.wrap .i64 (k / 10)=k / 10:=Zw (by omega) (by omega);generalize hx:IntKind.wrap .u8 (IntKind.wrap .i64 (48+k.tmod 10))=x;have s1:=strB_one x;have c:1+out.size<=9223372036854775807:=by omega
  obtain⟨s,hs,hr⟩:=ih (k / 10) (strB [x]++out) (by omega) (by rw[ByteArray.size_append,s1];omega) (by omega);rw[ByteArray.size_append,s1]at hs;refine⟨s,by omega,?_⟩;rw[Zd Zy7.eq_1];simp[hk,hx,s1,c,e,e2,hr]
theorem Zc0s(k:Int)(h1:0<=k)(h2:k<=4000000000000000000):∃s,C Z8t [I k] []=some (.t (.str s),[]):=by
 by_cases h0:k=0
 .subst h0;refine⟨⟨#[109,48]⟩,run Zb9v rfl ?_⟩;simp[Zblm]
 .have h3:¬k<=0:=by omega
  obtain⟨s,hs,hr⟩:=Zc0r [.blk 0,.seq (.seq (.reg [⟨some 18,none,.mov (.s 3)⟩,⟨some 19,none,.bin .add (.c (.t (.str ⟨#[109]⟩))) (.s 18)⟩,⟨some 2,none,.mov (.s 19)⟩] [2]) .ret),.fin 0 [.tmp 2]] k.toNat k ⟨#[]⟩ (Yk _) (by simp[ByteArray.size];omega) h1;have c:(⟨#[109]⟩:ByteArray).size+s.size<=9223372036854775807:=by
   have:(⟨#[]⟩:ByteArray).size=0:=rfl
   have:(⟨#[109]⟩:ByteArray).size=1:=rfl
   omega
  refine⟨⟨#[109]⟩++s,run Zb9v rfl ?_⟩;simp at hr;simp[Zblm,h3,hr,c]
def Zjm(k:Int):ByteArray:=match C Z8t [I k] []with
 |some (.t (.str s),[])=>s
 |_=>⟨#[]⟩
theorem Zsd(k:Int)(h1:0<=k)(h2:k<=4000000000000000000):C Z8t [I k] []=some (.t (.str (Zjm k)),[]):=by
 obtain⟨s,h⟩:=Zc0s k h1 h2
 have:Zjm k=s:=by unfold Zjm;rw[h]
 rw[this,h]
theorem Zcaq(xs:List Int)(k:Int)(h1:0<=k)(h2:k+(xs.length:Int)<=4000000000000000000)(h3:SmA xs):C Zbpa [L 1 ((mkI xs k).map ic),I k] []=some (I (k+xs.length),[]):=by
 refine run Zb8a rfl ?_;have h4:=λfr=>Zc0q fr xs [] k h1 (by omega) (by have:xs.length<=4294967296:=h3;simp;omega)
 simp at h4;simp[Zbld,h4]
theorem Zc0t(k:Int):C Zbpa [.t .nil,I k] []=some (I k,[]):=by
 refine run Zb8a rfl ?_;simp[Zbld,Zd Zy6.eq_1]
theorem Zzb(xs:List Int)(k:Int)(h1:0<=k)(h2:k+(xs.length:Int)<=4000000000000000000)(h3:SmA xs):(xs.map ic=[]/\(mkI xs (k)).map ic=[]/\C Zs8 [.t (.lst 1 []),I k] []=some (I (k+(xs.length:Int)),[]))\/∃y ys,xs.map ic=y::ys/\True/\C Zs8 [.own 0,I k] [.xarr unk 1 (y::ys)]=some (I (k+(xs.length:Int)),[.xarr unk 1 ((mkI xs (k)).map ic)]):=by
 have c:=Zblr unk xs k h1 (by omega) h3
 cases xs with
 |nil=>exact .inl ⟨rfl,rfl,by have:=Zc0o 1 k;simpa[mkI,mkL]using this⟩
 |cons y ys=>exact .inr ⟨_,_,rfl,trivial,c⟩
def Zzc(a:List Int)(k:Int):List Int:=mkI a k
def Zgr(a:List Int):Nat:=a.length
def Zh7(xs:List (List Int))(k:Int):List (List Int):=mkL Zzc Zgr xs k
def Zbw(xs:List (List Int)):Nat:=cnL Zgr xs
theorem Zc0u(x:List Int)(xs:List (List Int))(k:Int):Zh7 (x::xs) k=Zzc x k::Zh7 xs (k+(Zgr x:Int)):=rfl
theorem Zc0v(e:Nat)(fr:List Fr):∀(xs d:List (List Int)) (k:Int),0<=k->k+(Zbw xs:Int)<=4000000000000000000->d.length+xs.length<=4294967296->(∀x∈xs,SmA x)->EvL C fr [0,1,5] Zy8 ⟨[(0,.own 0),(1,I k),(5,I d.length)],[[(0,.own 0)]],[.xarr e 1 ((d++xs).map isc)]⟩ =
  EvX C fr (.x 0) ⟨[(0,.own 0),(1,I (k+Zbw xs)),(5,I (d.length+xs.length)),(9,Bo false)],[[(0,.own 0)]],[.xarr e 1 ((d++Zh7 xs k).map isc)]⟩:=by
 intro xs
 induction xs with
 |nil =>
  intro d k h1 h2 h3 h4;rw[Zd Zy8.eq_1]
  simp[Zh7,Zbw,cnL,mkL]
 |cons x xs ih =>
  intro d k h1 h2 h3 h4;have hx:=h4 x (by simp);have e0:Zbw (x::xs)=Zgr x+Zbw xs:=rfl;rw[e0]at h2;simp only[Yw]at h3;have e1:Zgr x=x.length:=rfl;have eK:k+(Zgr x:Int)=k+(x.length:Int):=by omega
  have eL:k+(Zbw (x::xs):Int)=k+(x.length:Int)+(Zbw xs:Int):=by omega
  have ih':=ih (d++[Zzc x k]) (k+(x.length:Int)) (by omega) (by omega) (by simp;omega) (λy hy=>h4 y (by simp[hy]));rw[Zd Zy8.eq_1,eL,Zc0u,eK];have g1:IntKind.wrap .i64 ((d.length:Int)+1)=(d.length:Int)+1:=Zw (by omega) (by omega);have g3:(d.length:Int)<(d.length:Int)+((xs.length:Int)+1):=by omega
  have g5:(d.length:Int)+1+(xs.length:Int)=(d.length:Int)+((xs.length:Int)+1):=by omega
  have m0:=Zzb x (k) (by omega) (by omega) hx;rcases m0 with⟨r0,s0,m0⟩|⟨y0,ys0,r0,s0,m0⟩
  all_goals (simp[g5,Zzc,tI,r0,s0]at ih';simp[g1,g3,m0,r0,s0,ih',Zzc,tI])
theorem Zc0w(e:Nat)(xs:List (List Int))(k:Int)(h1:0<=k)(h2:k+(Zbw xs:Int)<=4000000000000000000)(h3:SmL SmA xs):C Z0n [.own 0,I k] [.xarr e 1 (xs.map isc)]=some (I (k+Zbw xs),[.xarr e 1 ((Zh7 xs k).map isc)]):=by
 refine runM Zb96 rfl ?_;have h4:=λfr=>Zc0v e fr xs [] k h1 h2 (by have:xs.length<=4294967296:=h3.1;simp;omega) h3.2
 simp at h4;simp[Zbln,h4]
theorem Zc0x(n:Nat)(k:Int):C Z0n [.t (.lst n []),I k] []=some (I k,[]):=by
 refine run Zb96 rfl ?_;simp[Zbln,Zd Zy8.eq_1]
theorem Zcar(xs:List (List Int))(k:Int)(h1:0<=k)(h2:k+(Zbw xs:Int)<=4000000000000000000)(h3:SmL SmA xs):(xs.map isc=[]/\(Zh7 xs (k)).map isc=[]/\C Z0n [.t (.lst 1 []),I k] []=some (I (k+(Zbw xs:Int)),[]))\/∃y ys,xs.map isc=y::ys/\True/\C Z0n [.own 0,I k] [.xarr unk 1 (y::ys)]=some (I (k+(Zbw xs:Int)),[.xarr unk 1 ((Zh7 xs (k)).map isc)]):=by
 have c:=Zc0w unk xs k h1 h2 h3
 cases xs with
 |nil=>exact .inl ⟨rfl,rfl,by have:=Zc0x 1 k;simpa[Zh7,Zbw,cnL,mkL]using this⟩
 |cons y ys=>exact .inr ⟨_,_,rfl,trivial,c⟩
def Zzd(a:Atom)(k:Int):Atom:=⟨Zjm (k),mkI a.Vars (k+1)⟩
def Zh8(a:Atom):Nat:=1+a.Vars.length
def Zse(xs:List Atom)(k:Int):List Atom:=mkL Zzd Zh8 xs k
def Zfd(xs:List Atom):Nat:=cnL Zh8 xs
theorem Zc0y(x:Atom)(xs:List Atom)(k:Int):Zse (x::xs) k=Zzd x k::Zse xs (k+(Zh8 x:Int)):=rfl
theorem Zc0z(e:Nat)(fr:List Fr):∀(xs d:List Atom) (k:Int),0<=k->k+(Zfd xs:Int)<=4000000000000000000->d.length+xs.length<=4294967296->(∀x∈xs,x.Zq)->EvL C fr [0,1,5] Z67 ⟨[(0,.own 0),(1,I k),(5,I d.length)],[[(0,.own 0)]],[.xarr e 2 ((d++xs).map Atom.c)]⟩ =
  EvX C fr (.x 0) ⟨[(0,.own 0),(1,I (k+Zfd xs)),(5,I (d.length+xs.length)),(9,Bo false)],[[(0,.own 0)]],[.xarr e 2 ((d++Zse xs k).map Atom.c)]⟩:=by
 intro xs
 induction xs with
 |nil =>
  intro d k h1 h2 h3 h4;rw[Zd Z67.eq_1]
  simp[Zse,Zfd,cnL,mkL]
 |cons x xs ih =>
  intro d k h1 h2 h3 h4;have hx:=h4 x (by simp);have e0:Zfd (x::xs)=Zh8 x+Zfd xs:=rfl;rw[e0]at h2;simp only[Yw]at h3;rcases x with⟨x0,x1⟩;have e1:Zh8 ⟨x0,x1⟩=1+x1.length:=rfl;have eK:k+(Zh8 ⟨x0,x1⟩:Int)=k+1+(x1.length:Int):=by omega
  have eL:k+(Zfd (⟨x0,x1⟩::xs):Int)=k+1+(x1.length:Int)+(Zfd xs:Int):=by omega
  have ih':=ih (d++[Zzd ⟨x0,x1⟩ k]) (k+1+(x1.length:Int)) (by omega) (by omega) (by simp;omega) (λy hy=>h4 y (by simp[hy]));rw[Zd Z67.eq_1,eL,Zc0y,eK];have g1:IntKind.wrap .i64 ((d.length:Int)+1)=(d.length:Int)+1:=Zw (by omega) (by omega);have g3:(d.length:Int)<(d.length:Int)+((xs.length:Int)+1):=by omega
  have g5:(d.length:Int)+1+(xs.length:Int)=(d.length:Int)+((xs.length:Int)+1):=by omega
  have w0:IntKind.wrap .i64 (k+1)=k+1:=Zw (by omega) (by omega);have t0:=Zsd (k) (by omega) (by omega);have m0:=Zzb x1 (k+1) (by omega) (by omega) (by first|exact hx|exact hx.1|exact hx.2|exact hx.2.1|exact hx.2.2|exact hx.2.2.1|exact hx.2.2.2|exact hx.2.2.2.1|exact hx.2.2.2.2|exact hx.2.2.2.2.1|exact hx.2.2.2.2.2);rcases m0 with⟨r0,s0,m0⟩|⟨y0,ys0,r0,s0,m0⟩
  all_goals (simp[g5,Zzd,tI,r0,s0]at ih';simp[g1,g3,w0,t0,m0,r0,s0,ih',Zzd,tI])
theorem Zc00(e:Nat)(xs:List Atom)(k:Int)(h1:0<=k)(h2:k+(Zfd xs:Int)<=4000000000000000000)(h3:SmL Atom.Zq xs):C Zcd5 [.own 0,I k] [.xarr e 2 (xs.map Atom.c)]=some (I (k+Zfd xs),[.xarr e 2 ((Zse xs k).map Atom.c)]):=by
 refine runM Zcxu rfl ?_;have h4:=λfr=>Zc0z e fr xs [] k h1 h2 (by have:xs.length<=4294967296:=h3.1;simp;omega) h3.2
 simp at h4;simp[Zb86,h4]
def Zze(a:Zk)(k:Int):Zk:=⟨Zjm (k),mkI a.From (k+1),k+1+(a.From.length:Int)⟩
def Zh9(a:Zk):Nat:=1+a.From.length+1
def Zsf(xs:List Zk)(k:Int):List Zk:=mkL Zze Zh9 xs k
def Zdx(xs:List Zk):Nat:=cnL Zh9 xs
theorem Zc01(x:Zk)(xs:List Zk)(k:Int):Zsf (x::xs) k=Zze x k::Zsf xs (k+(Zh9 x:Int)):=rfl
theorem Zc02(e:Nat)(fr:List Fr):∀(xs d:List Zk) (k:Int),0<=k->k+(Zdx xs:Int)<=4000000000000000000->d.length+xs.length<=4294967296->(∀x∈xs,x.Zq)->EvL C fr [0,1,5] Z65 ⟨[(0,.own 0),(1,I k),(5,I d.length)],[[(0,.own 0)]],[.xarr e 3 ((d++xs).map Zk.c)]⟩ =
  EvX C fr (.x 0) ⟨[(0,.own 0),(1,I (k+Zdx xs)),(5,I (d.length+xs.length)),(9,Bo false)],[[(0,.own 0)]],[.xarr e 3 ((d++Zsf xs k).map Zk.c)]⟩:=by
 intro xs
 induction xs with
 |nil =>
  intro d k h1 h2 h3 h4;rw[Zd Z65.eq_1]
  simp[Zsf,Zdx,cnL,mkL]
 |cons x xs ih =>
  intro d k h1 h2 h3 h4;have hx:=h4 x (by simp);have e0:Zdx (x::xs)=Zh9 x+Zdx xs:=rfl;rw[e0]at h2;simp only[Yw]at h3;rcases x with⟨x0,x1,x2⟩;have e1:Zh9 ⟨x0,x1,x2⟩=1+x1.length+1:=rfl;have eK:k+(Zh9 ⟨x0,x1,x2⟩:Int)=k+1+(x1.length:Int)+1:=by omega
  have eL:k+(Zdx (⟨x0,x1,x2⟩::xs):Int)=k+1+(x1.length:Int)+1+(Zdx xs:Int):=by omega
  have ih':=ih (d++[Zze ⟨x0,x1,x2⟩ k]) (k+1+(x1.length:Int)+1) (by omega) (by omega) (by simp;omega) (λy hy=>h4 y (by simp[hy]));rw[Zd Z65.eq_1,eL,Zc01,eK];have g1:IntKind.wrap .i64 ((d.length:Int)+1)=(d.length:Int)+1:=Zw (by omega) (by omega);have g3:(d.length:Int)<(d.length:Int)+((xs.length:Int)+1):=by omega
  have g5:(d.length:Int)+1+(xs.length:Int)=(d.length:Int)+((xs.length:Int)+1):=by omega
  have w0:IntKind.wrap .i64 (k+1)=k+1:=Zw (by omega) (by omega);have w1:IntKind.wrap .i64 (k+1+(x1.length:Int)+1)=k+1+(x1.length:Int)+1:=Zw (by omega) (by omega);have t0:=Zsd (k) (by omega) (by omega);have m0:=Zzb x1 (k+1) (by omega) (by omega) (by first|exact hx|exact hx.1|exact hx.2|exact hx.2.1|exact hx.2.2|exact hx.2.2.1|exact hx.2.2.2|exact hx.2.2.2.1|exact hx.2.2.2.2|exact hx.2.2.2.2.1|exact hx.2.2.2.2.2);rcases m0 with⟨r0,s0,m0⟩|⟨y0,ys0,r0,s0,m0⟩
  all_goals (simp[g5,Zze,tI,r0,s0]at ih';simp[g1,g3,w0,w1,t0,m0,r0,s0,ih',Zze,tI])
theorem Zc03(e:Nat)(xs:List Zk)(k:Int)(h1:0<=k)(h2:k+(Zdx xs:Int)<=4000000000000000000)(h3:SmL Zk.Zq xs):C Zcd3 [.own 0,I k] [.xarr e 3 (xs.map Zk.c)]=some (I (k+Zdx xs),[.xarr e 3 ((Zsf xs k).map Zk.c)]):=by
 refine runM Zcxs rfl ?_;have h4:=λfr=>Zc02 e fr xs [] k h1 h2 (by have:xs.length<=4294967296:=h3.1;simp;omega) h3.2
 simp at h4;simp[Zb82,h4]
def Zzf(a:Zg)(k:Int):Zg:=⟨mkI a.Columns (k),Zh7 a.Values (k+(a.Columns.length:Int)),mkI a.Counts (k+(a.Columns.length:Int)+(Zbw a.Values:Int))⟩
def Zia(a:Zg):Nat:=a.Columns.length+Zbw a.Values+a.Counts.length
def Zjn(xs:List Zg)(k:Int):List Zg:=mkL Zzf Zia xs k
def Zcu(xs:List Zg):Nat:=cnL Zia xs
theorem Zc04(x:Zg)(xs:List Zg)(k:Int):Zjn (x::xs) k=Zzf x k::Zjn xs (k+(Zia x:Int)):=rfl
theorem Zc05(e:Nat)(fr:List Fr):∀(xs d:List Zg) (k:Int),0<=k->k+(Zcu xs:Int)<=4000000000000000000->d.length+xs.length<=4294967296->(∀x∈xs,x.Zq)->EvL C fr [0,1,5] Zy9 ⟨[(0,.own 0),(1,I k),(5,I d.length)],[[(0,.own 0)]],[.xarr e 3 ((d++xs).map Zg.c)]⟩ =
  EvX C fr (.x 0) ⟨[(0,.own 0),(1,I (k+Zcu xs)),(5,I (d.length+xs.length)),(9,Bo false)],[[(0,.own 0)]],[.xarr e 3 ((d++Zjn xs k).map Zg.c)]⟩:=by
 intro xs
 induction xs with
 |nil =>
  intro d k h1 h2 h3 h4;rw[Zd Zy9.eq_1]
  simp[Zjn,Zcu,cnL,mkL]
 |cons x xs ih =>
  intro d k h1 h2 h3 h4;have hx:=h4 x (by simp);have e0:Zcu (x::xs)=Zia x+Zcu xs:=rfl;rw[e0]at h2;simp only[Yw]at h3;rcases x with⟨x0,x1,x2⟩;have e1:Zia ⟨x0,x1,x2⟩=x0.length+Zbw x1+x2.length:=rfl;have eK:k+(Zia ⟨x0,x1,x2⟩:Int)=k+(x0.length:Int)+(Zbw x1:Int)+(x2.length:Int):=by omega
  have eL:k+(Zcu (⟨x0,x1,x2⟩::xs):Int)=k+(x0.length:Int)+(Zbw x1:Int)+(x2.length:Int)+(Zcu xs:Int):=by omega
  have ih':=ih (d++[Zzf ⟨x0,x1,x2⟩ k]) (k+(x0.length:Int)+(Zbw x1:Int)+(x2.length:Int)) (by omega) (by omega) (by simp;omega) (λy hy=>h4 y (by simp[hy]));rw[Zd Zy9.eq_1,eL,Zc04,eK];have g1:IntKind.wrap .i64 ((d.length:Int)+1)=(d.length:Int)+1:=Zw (by omega) (by omega);have g3:(d.length:Int)<(d.length:Int)+((xs.length:Int)+1):=by omega
  have g5:(d.length:Int)+1+(xs.length:Int)=(d.length:Int)+((xs.length:Int)+1):=by omega
  have m0:=Zzb x0 (k) (by omega) (by omega) (by first|exact hx|exact hx.1|exact hx.2|exact hx.2.1|exact hx.2.2|exact hx.2.2.1|exact hx.2.2.2|exact hx.2.2.2.1|exact hx.2.2.2.2|exact hx.2.2.2.2.1|exact hx.2.2.2.2.2);have m1:=Zcar x1 (k+(x0.length:Int)) (by omega) (by omega) (by first|exact hx|exact hx.1|exact hx.2|exact hx.2.1|exact hx.2.2|exact hx.2.2.1|exact hx.2.2.2|exact hx.2.2.2.1|exact hx.2.2.2.2|exact hx.2.2.2.2.1|exact hx.2.2.2.2.2);have m2:=Zzb x2 (k+(x0.length:Int)+(Zbw x1:Int)) (by omega) (by omega) (by first|exact hx|exact hx.1|exact hx.2|exact hx.2.1|exact hx.2.2|exact hx.2.2.1|exact hx.2.2.2|exact hx.2.2.2.1|exact hx.2.2.2.2|exact hx.2.2.2.2.1|exact hx.2.2.2.2.2);rcases m0 with⟨r0,s0,m0⟩|⟨y0,ys0,r0,s0,m0⟩
  all_goals rcases m1 with⟨r1,s1,m1⟩|⟨y1,ys1,r1,s1,m1⟩
  all_goals rcases m2 with⟨r2,s2,m2⟩|⟨y2,ys2,r2,s2,m2⟩
  all_goals (simp[g5,Zzf,tI,tII,r0,s0,r1,s1,r2,s2]at ih';simp[g1,g3,m0,r0,s0,m1,r1,s1,m2,r2,s2,ih',Zzf,tI,tII])
theorem Zc06(e:Nat)(xs:List Zg)(k:Int)(h1:0<=k)(h2:k+(Zcu xs:Int)<=4000000000000000000)(h3:SmL Zg.Zq xs):C Z0o [.own 0,I k] [.xarr e 3 (xs.map Zg.c)]=some (I (k+Zcu xs),[.xarr e 3 ((Zjn xs k).map Zg.c)]):=by
 refine runM Zb98 rfl ?_;have h4:=λfr=>Zc05 e fr xs [] k h1 h2 (by have:xs.length<=4294967296:=h3.1;simp;omega) h3.2
 simp at h4;simp[Zblo,h4]
theorem Zc07(n:Nat)(k:Int):C Z0o [.t (.lst n []),I k] []=some (I k,[]):=by
 refine run Zb98 rfl ?_;simp[Zblo,Zd Zy9.eq_1]
theorem Zc08(xs:List Zg)(k:Int)(h1:0<=k)(h2:k+(Zcu xs:Int)<=4000000000000000000)(h3:SmL Zg.Zq xs):(xs.map Zg.c=[]/\(Zjn xs (k)).map Zg.c=[]/\C Z0o [.t (.lst 3 []),I k] []=some (I (k+(Zcu xs:Int)),[]))\/∃y ys,xs.map Zg.c=y::ys/\True/\C Z0o [.own 0,I k] [.xarr unk 3 (y::ys)]=some (I (k+(Zcu xs:Int)),[.xarr unk 3 ((Zjn xs (k)).map Zg.c)]):=by
 have c:=Zc06 unk xs k h1 h2 h3
 cases xs with
 |nil=>exact .inl ⟨rfl,rfl,by have:=Zc07 3 k;simpa[Zjn,Zcu,cnL,mkL]using this⟩
 |cons y ys=>exact .inr ⟨_,_,rfl,trivial,c⟩
def Zzg(a:Zj)(k:Int):Zj:=⟨Zjm (k),k+1,Zjm (k+1+1),k+1+1+1⟩
def Zib(a:Zj):Nat:=1+1+1+1
def Zsg(xs:List Zj)(k:Int):List Zj:=mkL Zzg Zib xs k
def Ze0(xs:List Zj):Nat:=cnL Zib xs
theorem Zc09(x:Zj)(xs:List Zj)(k:Int):Zsg (x::xs) k=Zzg x k::Zsg xs (k+(Zib x:Int)):=rfl
theorem Zc1a(e:Nat)(fr:List Fr):∀(xs d:List Zj) (k:Int),0<=k->k+(Ze0 xs:Int)<=4000000000000000000->d.length+xs.length<=4294967296->(∀x∈xs,x.Zq)->EvL C fr [0,1,5] Z66 ⟨[(0,.own 0),(1,I k),(5,I d.length)],[[(0,.own 0)]],[.xarr e 4 ((d++xs).map Zj.c)]⟩ =
  EvX C fr (.x 0) ⟨[(0,.own 0),(1,I (k+Ze0 xs)),(5,I (d.length+xs.length)),(9,Bo false)],[[(0,.own 0)]],[.xarr e 4 ((d++Zsg xs k).map Zj.c)]⟩:=by
 intro xs
 induction xs with
 |nil =>
  intro d k h1 h2 h3 h4;rw[Zd Z66.eq_1]
  simp[Zsg,Ze0,cnL,mkL]
 |cons x xs ih =>
  intro d k h1 h2 h3 h4;have hx:=h4 x (by simp);have e0:Ze0 (x::xs)=Zib x+Ze0 xs:=rfl;rw[e0]at h2;simp only[Yw]at h3;rcases x with⟨x0,x1,x2,x3⟩;have e1:Zib ⟨x0,x1,x2,x3⟩=1+1+1+1:=rfl;have eK:k+(Zib ⟨x0,x1,x2,x3⟩:Int)=k+1+1+1+1:=by omega
  have eL:k+(Ze0 (⟨x0,x1,x2,x3⟩::xs):Int)=k+1+1+1+1+(Ze0 xs:Int):=by omega
  have ih':=ih (d++[Zzg ⟨x0,x1,x2,x3⟩ k]) (k+1+1+1+1) (by omega) (by omega) (by simp;omega) (λy hy=>h4 y (by simp[hy]));rw[Zd Z66.eq_1,eL,Zc09,eK];have g1:IntKind.wrap .i64 ((d.length:Int)+1)=(d.length:Int)+1:=Zw (by omega) (by omega);have g3:(d.length:Int)<(d.length:Int)+((xs.length:Int)+1):=by omega
  have g5:(d.length:Int)+1+(xs.length:Int)=(d.length:Int)+((xs.length:Int)+1):=by omega
  have w0:IntKind.wrap .i64 (k+1)=k+1:=Zw (by omega) (by omega);have w1:IntKind.wrap .i64 (k+1+1)=k+1+1:=Zw (by omega) (by omega);have w2:IntKind.wrap .i64 (k+1+1+1)=k+1+1+1:=Zw (by omega) (by omega);have w3:IntKind.wrap .i64 (k+1+1+1+1)=k+1+1+1+1:=Zw (by omega) (by omega);have t0:=Zsd (k) (by omega) (by omega);have t1:=Zsd (k+1+1) (by omega) (by omega)
  (simp[g5,Zzg,tI]at ih';simp[g1,g3,w0,w1,w2,w3,t0,t1,ih',Zzg,tI])
theorem Zc1b(e:Nat)(xs:List Zj)(k:Int)(h1:0<=k)(h2:k+(Ze0 xs:Int)<=4000000000000000000)(h3:SmL Zj.Zq xs):C Zcd4 [.own 0,I k] [.xarr e 4 (xs.map Zj.c)]=some (I (k+Ze0 xs),[.xarr e 4 ((Zsg xs k).map Zj.c)]):=by
 refine runM Zcxt rfl ?_;have h4:=λfr=>Zc1a e fr xs [] k h1 h2 (by have:xs.length<=4294967296:=h3.1;simp;omega) h3.2
 simp at h4;simp[Zb84,h4]
def Zzh(a:Ze)(k:Int):Ze:=⟨Zjm (k),k+1,Zh7 a.Rows (k+1+1)⟩
def Zg8(a:Ze):Nat:=1+1+Zbw a.Rows
def Zof(xs:List Ze)(k:Int):List Ze:=mkL Zzh Zg8 xs k
def Zb2(xs:List Ze):Nat:=cnL Zg8 xs
theorem Zc1c(x:Ze)(xs:List Ze)(k:Int):Zof (x::xs) k=Zzh x k::Zof xs (k+(Zg8 x:Int)):=rfl
theorem Zc1d(e:Nat)(fr:List Fr):∀(xs d:List Ze) (k:Int),0<=k->k+(Zb2 xs:Int)<=4000000000000000000->d.length+xs.length<=4294967296->(∀x∈xs,x.Zq)->EvL C fr [0,1,5] Z7c ⟨[(0,.own 0),(1,I k),(5,I d.length)],[[(0,.own 0)]],[.xarr e 3 ((d++xs).map Ze.c)]⟩ =
  EvX C fr (.x 0) ⟨[(0,.own 0),(1,I (k+Zb2 xs)),(5,I (d.length+xs.length)),(9,Bo false)],[[(0,.own 0)]],[.xarr e 3 ((d++Zof xs k).map Ze.c)]⟩:=by
 intro xs
 induction xs with
 |nil =>
  intro d k h1 h2 h3 h4;rw[Zd Z7c.eq_1]
  simp[Zof,Zb2,cnL,mkL]
 |cons x xs ih =>
  intro d k h1 h2 h3 h4;have hx:=h4 x (by simp);have e0:Zb2 (x::xs)=Zg8 x+Zb2 xs:=rfl;rw[e0]at h2;simp only[Yw]at h3;rcases x with⟨x0,x1,x2⟩;have e1:Zg8 ⟨x0,x1,x2⟩=1+1+Zbw x2:=rfl;have eK:k+(Zg8 ⟨x0,x1,x2⟩:Int)=k+1+1+(Zbw x2:Int):=by omega
  have eL:k+(Zb2 (⟨x0,x1,x2⟩::xs):Int)=k+1+1+(Zbw x2:Int)+(Zb2 xs:Int):=by omega
  have ih':=ih (d++[Zzh ⟨x0,x1,x2⟩ k]) (k+1+1+(Zbw x2:Int)) (by omega) (by omega) (by simp;omega) (λy hy=>h4 y (by simp[hy]));rw[Zd Z7c.eq_1,eL,Zc1c,eK];have g1:IntKind.wrap .i64 ((d.length:Int)+1)=(d.length:Int)+1:=Zw (by omega) (by omega);have g3:(d.length:Int)<(d.length:Int)+((xs.length:Int)+1):=by omega
  have g5:(d.length:Int)+1+(xs.length:Int)=(d.length:Int)+((xs.length:Int)+1):=by omega
  have w0:IntKind.wrap .i64 (k+1)=k+1:=Zw (by omega) (by omega);have w1:IntKind.wrap .i64 (k+1+1)=k+1+1:=Zw (by omega) (by omega);have t0:=Zsd (k) (by omega) (by omega);have m0:=Zcar x2 (k+1+1) (by omega) (by omega) (by first|exact hx|exact hx.1|exact hx.2|exact hx.2.1|exact hx.2.2|exact hx.2.2.1|exact hx.2.2.2|exact hx.2.2.2.1|exact hx.2.2.2.2|exact hx.2.2.2.2.1|exact hx.2.2.2.2.2);rcases m0 with⟨r0,s0,m0⟩|⟨y0,ys0,r0,s0,m0⟩
  all_goals (simp[g5,Zzh,tI,tII,r0,s0]at ih';simp[g1,g3,w0,w1,t0,m0,r0,s0,ih',Zzh,tI,tII])
theorem Zc1e(e:Nat)(xs:List Ze)(k:Int)(h1:0<=k)(h2:k+(Zb2 xs:Int)<=4000000000000000000)(h3:SmL Ze.Zq xs):C Zcel [.own 0,I k] [.xarr e 3 (xs.map Ze.c)]=some (I (k+Zb2 xs),[.xarr e 3 ((Zof xs k).map Ze.c)]):=by
 refine runM Zcya rfl ?_;have h4:=λfr=>Zc1d e fr xs [] k h1 h2 (by have:xs.length<=4294967296:=h3.1;simp;omega) h3.2
 simp at h4;simp[Zb9r,h4]
def Zzi(a:Zf)(k:Int):Zf:=⟨Zjm (k),k+1,k+1+1,Zjn a.Groups (k+1+1+1)⟩
def Zg9(a:Zf):Nat:=1+1+1+Zcu a.Groups
def Zog(xs:List Zf)(k:Int):List Zf:=mkL Zzi Zg9 xs k
def Zce(xs:List Zf):Nat:=cnL Zg9 xs
theorem Zc1f(x:Zf)(xs:List Zf)(k:Int):Zog (x::xs) k=Zzi x k::Zog xs (k+(Zg9 x:Int)):=rfl
theorem Zc1g(e:Nat)(fr:List Fr):∀(xs d:List Zf) (k:Int),0<=k->k+(Zce xs:Int)<=4000000000000000000->d.length+xs.length<=4294967296->(∀x∈xs,x.Zq)->EvL C fr [0,1,5] Z7d ⟨[(0,.own 0),(1,I k),(5,I d.length)],[[(0,.own 0)]],[.xarr e 4 ((d++xs).map Zf.c)]⟩ =
  EvX C fr (.x 0) ⟨[(0,.own 0),(1,I (k+Zce xs)),(5,I (d.length+xs.length)),(9,Bo false)],[[(0,.own 0)]],[.xarr e 4 ((d++Zog xs k).map Zf.c)]⟩:=by
 intro xs
 induction xs with
 |nil =>
  intro d k h1 h2 h3 h4;rw[Zd Z7d.eq_1]
  simp[Zog,Zce,cnL,mkL]
 |cons x xs ih =>
  intro d k h1 h2 h3 h4;have hx:=h4 x (by simp);have e0:Zce (x::xs)=Zg9 x+Zce xs:=rfl;rw[e0]at h2;simp only[Yw]at h3;rcases x with⟨x0,x1,x2,x3⟩;have e1:Zg9 ⟨x0,x1,x2,x3⟩=1+1+1+Zcu x3:=rfl;have eK:k+(Zg9 ⟨x0,x1,x2,x3⟩:Int)=k+1+1+1+(Zcu x3:Int):=by omega
  have eL:k+(Zce (⟨x0,x1,x2,x3⟩::xs):Int)=k+1+1+1+(Zcu x3:Int)+(Zce xs:Int):=by omega
  have ih':=ih (d++[Zzi ⟨x0,x1,x2,x3⟩ k]) (k+1+1+1+(Zcu x3:Int)) (by omega) (by omega) (by simp;omega) (λy hy=>h4 y (by simp[hy]));rw[Zd Z7d.eq_1,eL,Zc1f,eK];have g1:IntKind.wrap .i64 ((d.length:Int)+1)=(d.length:Int)+1:=Zw (by omega) (by omega);have g3:(d.length:Int)<(d.length:Int)+((xs.length:Int)+1):=by omega
  have g5:(d.length:Int)+1+(xs.length:Int)=(d.length:Int)+((xs.length:Int)+1):=by omega
  have w0:IntKind.wrap .i64 (k+1)=k+1:=Zw (by omega) (by omega);have w1:IntKind.wrap .i64 (k+1+1)=k+1+1:=Zw (by omega) (by omega);have w2:IntKind.wrap .i64 (k+1+1+1)=k+1+1+1:=Zw (by omega) (by omega);have t0:=Zsd (k) (by omega) (by omega);have m0:=Zc08 x3 (k+1+1+1) (by omega) (by omega) (by first|exact hx|exact hx.1|exact hx.2|exact hx.2.1|exact hx.2.2|exact hx.2.2.1|exact hx.2.2.2|exact hx.2.2.2.1|exact hx.2.2.2.2|exact hx.2.2.2.2.1|exact hx.2.2.2.2.2);rcases m0 with⟨r0,s0,m0⟩|⟨y0,ys0,r0,s0,m0⟩
  all_goals (simp[g5,Zzi,tI,r0,s0]at ih';simp[g1,g3,w0,w1,w2,t0,m0,r0,s0,ih',Zzi,tI])
theorem Zc1h(e:Nat)(xs:List Zf)(k:Int)(h1:0<=k)(h2:k+(Zce xs:Int)<=4000000000000000000)(h3:SmL Zf.Zq xs):C Zcem [.own 0,I k] [.xarr e 4 (xs.map Zf.c)]=some (I (k+Zce xs),[.xarr e 4 ((Zog xs k).map Zf.c)]):=by
 refine runM Zcyb rfl ?_;have h4:=λfr=>Zc1g e fr xs [] k h1 h2 (by have:xs.length<=4294967296:=h3.1;simp;omega) h3.2
 simp at h4;simp[Zb9t,h4]
theorem Zc1i(e0:Nat)(x0:Int)(x1:List Zf)(k:Int)(h1:0<=k)(h2:k+(Zce x1:Int)<=4000000000000000000)(cc:SmL Zf.Zq x1):C Zcd2 [.agg [I x0,.own 0],I k] [.xarr e0 4 (x1.map Zf.c)]=some (I (k+(Zce x1:Int)),[.xarr e0 4 ((Zog x1 (k)).map Zf.c)]):=by
 refine runM Zcxr rfl ?_;have m0:=Zc1h e0 x1 (k) (by omega) (by omega) cc;simp[Zb80,m0]
theorem Zc1j(e0:Nat)(x0:List Ze)(k:Int)(h1:0<=k)(h2:k+(Zb2 x0:Int)<=4000000000000000000)(cc:SmL Ze.Zq x0):C Zcd1 [.agg [.own 0],I k] [.xarr e0 3 (x0.map Ze.c)]=some (I (k+(Zb2 x0:Int)),[.xarr e0 3 ((Zof x0 (k)).map Ze.c)]):=by
 refine runM Zcxq rfl ?_;have m0:=Zc1e e0 x0 (k) (by omega) (by omega) cc;simp[Zb8z,m0]
theorem Zc1k(e0:Nat)(x0:Int)(x1:List Atom)(k:Int)(h1:0<=k)(h2:k+(Zfd x1:Int)<=4000000000000000000)(cc:SmL Atom.Zq x1):C Zcdl [.agg [I x0,.own 0],I k] [.xarr e0 2 (x1.map Atom.c)]=some (I (k+(Zfd x1:Int)),[.xarr e0 2 ((Zse x1 (k)).map Atom.c)]):=by
 refine runM Zcxa rfl ?_;have m0:=Zc00 e0 x1 (k) (by omega) (by omega) cc;simp[Zb77,m0]
theorem Zc1l(e0 e1 e2 e3:Nat)(x0:List Ze)(x1:Int)(x2:List Zf)(x3:List Zk)(x4:List Zj)(k:Int)(h1:0<=k)(h2:k+(Zb2 x0:Int)+(Zce x2:Int)+(Zdx x3:Int)+(Ze0 x4:Int)<=4000000000000000000)(cc:SmL Ze.Zq x0)(cd:SmL Zf.Zq x2)(cl:SmL Zk.Zq x3)(cn:SmL Zj.Zq x4):C Zcdk [.agg [.own 0,I x1,.own 1,.own 2,.own 3],I k] [.xarr e0 3 (x0.map Ze.c),.xarr e1 4 (x2.map Zf.c),.xarr e2 3 (x3.map Zk.c),.xarr e3 4 (x4.map Zj.c)]=some (I (k+(Zb2 x0:Int)+(Zce x2:Int)+(Zdx x3:Int)+(Ze0 x4:Int)),[.xarr e0 3 ((Zof x0 (k)).map Ze.c),.xarr e1 4 ((Zog x2 (k+(Zb2 x0:Int))).map Zf.c),.xarr e2 3 ((Zsf x3 (k+(Zb2 x0:Int)+(Zce x2:Int))).map Zk.c),.xarr e3 4 ((Zsg x4 (k+(Zb2 x0:Int)+(Zce x2:Int)+(Zdx x3:Int))).map Zj.c)]):=by
 refine runM Zcw9 rfl ?_;have m0:=Zc1j e0 x0 (k) (by omega) (by omega) cc;have m1:=Zc1i e1 x1 x2 (k+(Zb2 x0:Int)) (by omega) (by omega) cd;have m2:=Zc03 e2 x3 (k+(Zb2 x0:Int)+(Zce x2:Int)) (by omega) (by omega) cl;have m3:=Zc1b e3 x4 (k+(Zb2 x0:Int)+(Zce x2:Int)+(Zdx x3:Int)) (by omega) (by omega) cn;simp[Zb76,m0,m1,m2,m3]
theorem Zfe{n:Nat}{left:Int}(hn:n<=maxLen)(h0:0<=left)(h1:left<=1048576)(h:0<=sz1 n left):sz1 n left<=left/\(n:Int)<=left-sz1 n left:=by
 unfold maxLen at hn;have hw:IntKind.wrap .i64 (left-n)=left-n:=Zw (by omega) (by omega);unfold sz1 at h|-;rw[hw]at h|-;split at h
 .omega
 .rename_i hx;rw[if_neg hx];omega
theorem Zcas{α:Type}{f:α->Int->Int}{n:α->Nat}{M:Int}:∀(xs:List α) (c:Int),(∀x∈xs,∀l,0<=l->l<=M->0<=f x l->f x l<=l/\(n x:Int)<=16+16*(l-f x l))->0<=c->c<=M->0<=Zbi f xs c->Zbi f xs c<=c/\(cnL n xs:Int)<=16*(xs.length:Int)+16*(c-Zbi f xs c)
 |[],c,_,_,_,h=>by simp[Zbi,cnL]
 |x::xs,c,hf,h0,h1,h=>by
  unfold Zbi at h|-;split at h
  .omega
  .rename_i hx;rw[if_neg hx];obtain⟨h2,h3⟩:=hf x (by simp) c h0 h1 (by omega);obtain⟨h4,h5⟩:=Zcas xs (f x c) (λy hy=>hf y (by simp[hy])) (by omega) (by omega) h;have e:cnL n (x::xs)=n x+cnL n xs:=rfl;rw[e,Yw];omega
theorem Zlu{α:Type}{f:α->Int->Int}{n:α->Nat}{xs:List α}{left:Int}(hn:xs.length<=maxLen)(hf:∀x∈xs,∀l,0<=l->l<=1048576->0<=f x l->f x l<=l/\(n x:Int)<=16+16*(l-f x l))(h0:0<=left)(h1:left<=1048576)(h:0<=szL f xs left) :
  szL f xs left<=left/\(cnL n xs:Int)<=16*(left-szL f xs left):=by
 unfold szL Zz at h|-;split at h
 .omega
 .rename_i hx;rw[if_neg hx];have a:=Zfe hn h0 h1 (by omega);have b:=Zcas xs _ hf (by omega) (by omega) h;omega
theorem Zcat(x:List Int)(l:Int)(hx:x.length<=maxLen)(h0:0<=l)(h1:l<=1048576)(h:0<=szI x l):szI x l<=l/\(Zgr x:Int)<=16+16*(l-szI x l):=by
 have a:=Zfe hx h0 h1 h;unfold Zgr;have e:szI x l=sz1 x.length l:=rfl;rw[e];omega
def Zbls(x:Ze):Nat:=Zbw x.Rows
theorem Ze.ct(x:Ze)(l:Int)(hx:x.okay)(h0:0<=l)(h1:l<=1048576)(h:0<=x.sz l):x.sz l<=l/\(Zbls x:Int)<=16*(l-x.sz l):=by
 unfold Ze.sz at h|-;simp only[Zz]at h|-;split at h
 .omega
 rename_i q0;rw[if_neg q0];have s0:=Zfe hx.1 h0 h1 (Ym.1 q0);split at h
 .omega
 rename_i q1;rw[if_neg q1];have s1:=Zlu (f:=szI) (n:=Zgr) hx.2.2.1 (λy hy l a b c=>Zcat y l (hx.2.2.2 y hy).1 a b c) (by omega) (by omega) (Ym.1 q1);refine⟨by omega,?_⟩;unfold Zbls;have v0:Zbw x.Rows=cnL Zgr x.Rows:=rfl;omega
theorem Zc1m(x:Ze)(l:Int)(hx:x.okay)(h0:0<=l)(h1:l<=1048576)(h:0<=x.sz l):x.sz l<=l/\(Zg8 x:Int)<=16+16*(l-x.sz l):=by
 have a:=Ze.ct x l hx h0 h1 h;unfold Zbls at a;unfold Zg8;omega
def Zblt(x:Zi):Nat:=Zb2 x.Tables
theorem Zi.ct(x:Zi)(l:Int)(hx:x.okay)(h0:0<=l)(h1:l<=1048576)(h:0<=x.sz l):x.sz l<=l/\(Zblt x:Int)<=16*(l-x.sz l):=by
 unfold Zi.sz at h|-;simp only[Zz]at h|-;split at h
 .omega
 rename_i q0;rw[if_neg q0];have s0:=Zlu (n:=Zg8) hx.1 (λy hy l a b c=>Zc1m y l (hx.2 y hy) a b c) h0 h1 (Ym.1 q0);refine⟨by omega,?_⟩;unfold Zblt;have v0:Zb2 x.Tables=cnL Zg8 x.Tables:=rfl;omega
def Zblu(x:Atom):Nat:=x.Vars.length
theorem Atom.ct(x:Atom)(l:Int)(hx:x.okay)(h0:0<=l)(h1:l<=1048576)(h:0<=x.sz l):x.sz l<=l/\(Zblu x:Int)<=16*(l-x.sz l):=by
 unfold Atom.sz at h|-;simp only[Zz]at h|-;split at h
 .omega
 rename_i q0;rw[if_neg q0];have s0:=Zfe hx.1 h0 h1 (Ym.1 q0);split at h
 .omega
 rename_i q1;rw[if_neg q1];have s1:=Zfe hx.2.1 (by omega) (by omega) (Ym.1 q1);refine⟨by omega,?_⟩;unfold Zblu;omega
theorem Zc1n(x:Atom)(l:Int)(hx:x.okay)(h0:0<=l)(h1:l<=1048576)(h:0<=x.sz l):x.sz l<=l/\(Zh8 x:Int)<=16+16*(l-x.sz l):=by
 have a:=Atom.ct x l hx h0 h1 h;unfold Zblu at a;unfold Zh8;omega
def Zblv(x:Zc):Nat:=Zfd x.Atoms
theorem Zc.ct(x:Zc)(l:Int)(hx:x.okay)(h0:0<=l)(h1:l<=1048576)(h:0<=x.sz l):x.sz l<=l/\(Zblv x:Int)<=16*(l-x.sz l):=by
 unfold Zc.sz at h|-;simp only[Zz]at h|-;split at h
 .omega
 rename_i q0;rw[if_neg q0];have s0:=Zlu (n:=Zh8) hx.2.1 (λy hy l a b c=>Zc1n y l (hx.2.2 y hy) a b c) h0 h1 (Ym.1 q0);refine⟨by omega,?_⟩;unfold Zblv;have v0:Zfd x.Atoms=cnL Zh8 x.Atoms:=rfl;omega
def Zblw(x:Zk):Nat:=x.From.length
theorem Zk.ct(x:Zk)(l:Int)(hx:x.okay)(h0:0<=l)(h1:l<=1048576)(h:0<=x.sz l):x.sz l<=l/\(Zblw x:Int)<=16*(l-x.sz l):=by
 unfold Zk.sz at h|-;simp only[Zz]at h|-;split at h
 .omega
 rename_i q0;rw[if_neg q0];have s0:=Zfe hx.1 h0 h1 (Ym.1 q0);split at h
 .omega
 rename_i q1;rw[if_neg q1];have s1:=Zfe hx.2.1.1 (by omega) (by omega) (Ym.1 q1);refine⟨by omega,?_⟩;unfold Zblw;omega
theorem Zc1o(x:Zk)(l:Int)(hx:x.okay)(h0:0<=l)(h1:l<=1048576)(h:0<=x.sz l):x.sz l<=l/\(Zh9 x:Int)<=16+16*(l-x.sz l):=by
 have a:=Zk.ct x l hx h0 h1 h;unfold Zblw at a;unfold Zh9;omega
def Zblx(x:Zj):Nat:=0
theorem Zj.ct(x:Zj)(l:Int)(hx:x.okay)(h0:0<=l)(h1:l<=1048576)(h:0<=x.sz l):x.sz l<=l/\(Zblx x:Int)<=16*(l-x.sz l):=by
 unfold Zj.sz at h|-;simp only[Zz]at h|-;split at h
 .omega
 rename_i q0;rw[if_neg q0];have s0:=Zfe hx.1 h0 h1 (Ym.1 q0);split at h
 .omega
 rename_i q1;rw[if_neg q1];have s1:=Zfe hx.2.2.1 (by omega) (by omega) (Ym.1 q1);refine⟨by omega,?_⟩;unfold Zblx;omega
theorem Zc1p(x:Zj)(l:Int)(hx:x.okay)(h0:0<=l)(h1:l<=1048576)(h:0<=x.sz l):x.sz l<=l/\(Zib x:Int)<=16+16*(l-x.sz l):=by
 have a:=Zj.ct x l hx h0 h1 h;unfold Zblx at a;unfold Zib;omega
def Zbly(x:Zg):Nat:=x.Columns.length+Zbw x.Values+x.Counts.length
theorem Zg.ct(x:Zg)(l:Int)(hx:x.okay)(h0:0<=l)(h1:l<=1048576)(h:0<=x.sz l):x.sz l<=l/\(Zbly x:Int)<=16*(l-x.sz l):=by
 unfold Zg.sz at h|-;simp only[Zz]at h|-;split at h
 .omega
 rename_i q0;rw[if_neg q0];have s0:=Zfe hx.1.1 h0 h1 (Ym.1 q0);split at h
 .omega
 rename_i q1;rw[if_neg q1];have s1:=Zlu (f:=szI) (n:=Zgr) hx.2.1.1 (λy hy l a b c=>Zcat y l (hx.2.1.2 y hy).1 a b c) (by omega) (by omega) (Ym.1 q1);split at h
 .omega
 rename_i q2;rw[if_neg q2];have s2:=Zfe hx.2.2.1 (by omega) (by omega) (Ym.1 q2);refine⟨by omega,?_⟩;unfold Zbly;have v0:Zbw x.Values=cnL Zgr x.Values:=rfl;omega
theorem Zc1q(x:Zg)(l:Int)(hx:x.okay)(h0:0<=l)(h1:l<=1048576)(h:0<=x.sz l):x.sz l<=l/\(Zia x:Int)<=16+16*(l-x.sz l):=by
 have a:=Zg.ct x l hx h0 h1 h;unfold Zbly at a;unfold Zia;omega
def Zblz(x:Zf):Nat:=Zcu x.Groups
theorem Zf.ct(x:Zf)(l:Int)(hx:x.okay)(h0:0<=l)(h1:l<=1048576)(h:0<=x.sz l):x.sz l<=l/\(Zblz x:Int)<=16*(l-x.sz l):=by
 unfold Zf.sz at h|-;simp only[Zz]at h|-;split at h
 .omega
 rename_i q0;rw[if_neg q0];have s0:=Zfe hx.1 h0 h1 (Ym.1 q0);split at h
 .omega
 rename_i q1;rw[if_neg q1];have s1:=Zlu (n:=Zia) hx.2.2.2.1 (λy hy l a b c=>Zc1q y l (hx.2.2.2.2 y hy) a b c) (by omega) (by omega) (Ym.1 q1);refine⟨by omega,?_⟩;unfold Zblz;have v0:Zcu x.Groups=cnL Zia x.Groups:=rfl;omega
theorem Zc1r(x:Zf)(l:Int)(hx:x.okay)(h0:0<=l)(h1:l<=1048576)(h:0<=x.sz l):x.sz l<=l/\(Zg9 x:Int)<=16+16*(l-x.sz l):=by
 have a:=Zf.ct x l hx h0 h1 h;unfold Zblz at a;unfold Zg9;omega
def Zbl0(x:Zl):Nat:=Zce x.Tables
theorem Zl.ct(x:Zl)(l:Int)(hx:x.okay)(h0:0<=l)(h1:l<=1048576)(h:0<=x.sz l):x.sz l<=l/\(Zbl0 x:Int)<=16*(l-x.sz l):=by
 unfold Zl.sz at h|-;simp only[Zz]at h|-;split at h
 .omega
 rename_i q0;rw[if_neg q0];have s0:=Zlu (n:=Zg9) hx.2.1 (λy hy l a b c=>Zc1r y l (hx.2.2 y hy) a b c) h0 h1 (Ym.1 q0);refine⟨by omega,?_⟩;unfold Zbl0;have v0:Zce x.Tables=cnL Zg9 x.Tables:=rfl;omega
def Zbl1(x:Zh):Nat:=Zb2 x.Zi.Tables+Zce x.Zl.Tables+Zdx x.Dependencies+Ze0 x.Inclusions
theorem Zh.ct(x:Zh)(l:Int)(hx:x.okay)(h0:0<=l)(h1:l<=1048576)(h:0<=x.sz l):x.sz l<=l/\(Zbl1 x:Int)<=16*(l-x.sz l):=by
 unfold Zh.sz at h|-;simp only[Zz]at h|-;split at h
 .omega
 rename_i q0;rw[if_neg q0];have s0:=Zi.ct x.Zi _ hx.1 h0 h1 (Ym.1 q0);split at h
 .omega
 rename_i q1;rw[if_neg q1];have s1:=Zl.ct x.Zl _ ⟨hx.2.1,hx.2.2.1⟩ (by omega) (by omega) (Ym.1 q1);split at h
 .omega
 rename_i q2;rw[if_neg q2];have s2:=Zlu (n:=Zh9) hx.2.2.2.1.1 (λy hy l a b c=>Zc1o y l (hx.2.2.2.1.2 y hy) a b c) (by omega) (by omega) (Ym.1 q2);split at h
 .omega
 rename_i q3;rw[if_neg q3];have s3:=Zlu (n:=Zib) hx.2.2.2.2.1 (λy hy l a b c=>Zc1p y l (hx.2.2.2.2.2 y hy) a b c) (by omega) (by omega) (Ym.1 q3);refine⟨by omega,?_⟩;unfold Zbl1;have v0:Zblt x.Zi=Zb2 x.Zi.Tables:=rfl;have v1:Zbl0 x.Zl=Zce x.Zl.Tables:=rfl;have v2:Zb2 x.Zi.Tables=cnL Zg8 x.Zi.Tables:=rfl;have v3:Zce x.Zl.Tables=cnL Zg9 x.Zl.Tables:=rfl;have v4:Zdx x.Dependencies=cnL Zh9 x.Dependencies:=rfl;have v5:Ze0 x.Inclusions=cnL Zib x.Inclusions:=rfl;omega
def nt_Box(x:Box):Nat:=x.Low.length+x.High.length
theorem Box.ct(x:Box)(l:Int)(hx:x.okay)(h0:0<=l)(h1:l<=1048576)(h:0<=x.sz l):x.sz l<=l/\(nt_Box x:Int)<=16*(l-x.sz l):=by
 unfold Box.sz at h|-;simp only[Zz]at h|-;split at h
 .omega
 rename_i q0;rw[if_neg q0];have s0:=Zfe hx.1.1 h0 h1 (Ym.1 q0);split at h
 .omega
 rename_i q1;rw[if_neg q1];have s1:=Zfe hx.2.1 (by omega) (by omega) (Ym.1 q1);refine⟨by omega,?_⟩;unfold nt_Box;omega
end
end Go.Proofs.YtnnjbejcffjgfaaGreat
