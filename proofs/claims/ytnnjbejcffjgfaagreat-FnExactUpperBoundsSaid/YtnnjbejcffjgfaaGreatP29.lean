/-
  Parts of the proofs for this seat: MP MQ MR.
-/
import Derived.Test.YtnnjbejcffjgfaaGreatP25
set_option linter.unusedSectionVars false
set_option linter.unusedSimpArgs false
set_option linter.unusedVariables false
set_option maxRecDepth 100000
set_option maxHeartbeats 4000000
namespace Go.Proofs.YtnnjbejcffjgfaaGreat
open Go.AM
noncomputable section
def mkL{α:Type}(f:α->Int->α)(n:α->Nat):List α->Int->List α
 |[],_=>[]
 |x::xs,k=>f x k::mkL f n xs (k+(n x:Int))
def cnL{α:Type}(n:α->Nat):List α->Nat
 |[]=>0
 |x::xs=>n x+cnL n xs
def mkI(xs:List Int)(k:Int):List Int:=mkL (λ_ k=>k) (λ_=>1) xs k
theorem Zcbh(x:Int)(xs:List Int)(k:Int):mkI (x::xs) k=k::mkI xs (k+1):=rfl
theorem Zc06(e:Nat)(fr:List Fr):∀(xs d:List Int) (k:Int),0<=k->k+(xs.length:Int)<=4611686018427387904->d.length+xs.length<=4294967296->EvL C fr [0,1,5] Zsi ⟨[(0,.own 0),(1,I k),(5,I d.length)],[[(0,.own 0)]],[.xarr e 1 ((d++xs).map ic)]⟩ =
  EvX C fr (.x 0) ⟨[(0,.own 0),(1,I (k+xs.length)),(5,I (d.length+xs.length)),(9,Bo false)],[[(0,.own 0)]],[.xarr e 1 ((d++mkI xs k).map ic)]⟩:=by
 intro xs
 induction xs with
 |nil =>
  intro d k h1 h2 h3;rw[Zd Zsi.eq_1]
  simp[mkI,mkL]
 |cons x xs ih =>
  intro d k h1 h2 h3;simp only[Yw]at h2 h3;have ih':=ih (d++[k]) (k+1) (by omega) (by omega) (by simp;omega);rw[Zd Zsi.eq_1];have g1:IntKind.wrap .i64 ((d.length:Int)+1)=(d.length:Int)+1:=Zw (by omega) (by omega);have g2:IntKind.wrap .i64 (k+1)=k+1:=Zw (by omega) (by omega);have g3:(d.length:Int)<(d.length:Int)+((xs.length:Int)+1):=by omega
  have g4:k+1+(xs.length:Int)=k+((xs.length:Int)+1):=by omega
  have g5:(d.length:Int)+1+(xs.length:Int)=(d.length:Int)+((xs.length:Int)+1):=by omega
  simp[g4,g5]at ih';simp[g1,g2,g3,ih',Zcbh]
theorem Z7q(e:Nat)(xs:List Int)(k:Int)(h1:0<=k)(h2:k+(xs.length:Int)<=4611686018427387904)(h3:SmA xs):C Zte [.own 0,I k] [.xarr e 1 (xs.map ic)]=some (I (k+xs.length),[.xarr e 1 ((mkI xs k).map ic)]):=by
 refine runM Zblj rfl ?_;have h4:=λfr=>Zc06 e fr xs [] k h1 h2 (by have:xs.length<=4294967296:=h3;simp;omega)
 simp at h4;simp[Z62,h4]
theorem Zc07(n:Nat)(k:Int):C Zte [.t (.lst n []),I k] []=some (I k,[]):=by
 refine run Zblj rfl ?_;simp[Z62,Zd Zsi.eq_1]
theorem Zcbi(k:Int):C Zte [.t .nil,I k] []=some (I k,[]):=by
 refine run Zblj rfl ?_;simp[Z62,Zd Zsi.eq_1]
theorem Zc08(fr:List Fr):∀(xs d:List Int) (k:Int),0<=k->k+(xs.length:Int)<=4611686018427387904->d.length+xs.length<=4294967296->EvL C fr [0,1,5] Zza ⟨[(0,L 1 ((d++mkI xs k).map ic)),(1,I k),(5,I d.length)],[[]],[]⟩ =
  EvX C fr (.x 0) ⟨[(0,L 1 ((d++mkI xs k).map ic)),(1,I (k+xs.length)),(5,I (d.length+xs.length)),(9,Bo false)],[[]],[]⟩:=by
 intro xs
 induction xs with
 |nil =>
  intro d k h1 h2 h3;rw[Zd Zza.eq_1]
  simp[mkI,mkL]
 |cons x xs ih =>
  intro d k h1 h2 h3;simp only[Yw]at h2 h3;have ih':=ih (d++[k]) (k+1) (by omega) (by omega) (by simp;omega);rw[Zd Zza.eq_1];have g1:IntKind.wrap .i64 ((d.length:Int)+1)=(d.length:Int)+1:=Zw (by omega) (by omega);have g2:IntKind.wrap .i64 (k+1)=k+1:=Zw (by omega) (by omega);have g3:(d.length:Int)<(d.length:Int)+(((mkI xs (k+1)).length:Int)+1):=by omega
  have g4:k+1+(xs.length:Int)=k+((xs.length:Int)+1):=by omega
  have g5:(d.length:Int)+1+(xs.length:Int)=(d.length:Int)+((xs.length:Int)+1):=by omega
  simp[g4,g5]at ih';simp[g1,g2,g3,ih',Zcbh]
theorem strB_one(x:Int):(strB [x]).size=1:=by simp[strB];rfl
theorem Zc09(fr:List Fr):∀(n:Nat) (k:Int) (out:ByteArray),k.toNat<=n->(out.size:Int)+k<=4611686018427387904->0<=k->∃s,s.size<=out.size+n/\EvL C fr [0,3] Zzb ⟨[(0,I k),(3,.t (.str out))],[[]],[]⟩=EvX C fr (.x 0) ⟨[(0,I 0),(3,.t (.str s)),(7,Bo false)],[[]],[]⟩:=by
 intro n
 induction n with
 |zero =>
  intro k out h1 h2 h3
  have:k=0:=by omega
  subst this;rw[Zd Zzb.eq_1]
  exact⟨out,by simp⟩
 |succ n ih =>
  intro k out h1 h2 h3;by_cases h0:k=0
  .subst h0;rw[Zd Zzb.eq_1];exact⟨out,by simp⟩
  have hk:0<k:=by omega
  have e:k.tdiv 10=k / 10:=Int.tdiv_eq_ediv_of_nonneg h3;have e2:IntKind.wrap .i64 (k / 10)=k / 10:=Zw (by omega) (by omega);generalize hx:IntKind.wrap .u8 (IntKind.wrap .i64 (48+k.tmod 10))=x;have s1:=strB_one x;have c:1+out.size<=9223372036854775807:=by omega
  obtain⟨s,hs,hr⟩:=ih (k / 10) (strB [x]++out) (by omega) (by rw[ByteArray.size_append,s1];omega) (by omega);rw[ByteArray.size_append,s1]at hs;refine⟨s,by omega,?_⟩;rw[Zd Zzb.eq_1];simp[hk,hx,s1,c,e,e2,hr]
theorem Zc1a(k:Int)(h1:0<=k)(h2:k<=4000000000000000000):∃s,C Z84 [I k] []=some (.t (.str s),[]):=by
 by_cases h0:k=0
 .subst h0;refine⟨⟨#[109,48]⟩,run Zb98 rfl ?_⟩;simp[Zblt]
 .have h3:¬k<=0:=by omega
  obtain⟨s,hs,hr⟩:=Zc09 [.blk 0,.seq (.seq (.reg [⟨some 18,none,.mov (.s 3)⟩,⟨some 19,none,.bin .add (.c (.t (.str ⟨#[109]⟩))) (.s 18)⟩,⟨some 2,none,.mov (.s 19)⟩] [2]) .ret),.fin 0 [.tmp 2]] k.toNat k ⟨#[]⟩ (Yk _) (by simp[ByteArray.size];omega) h1;have c:(⟨#[109]⟩:ByteArray).size+s.size<=9223372036854775807:=by
   have:(⟨#[]⟩:ByteArray).size=0:=rfl
   have:(⟨#[109]⟩:ByteArray).size=1:=rfl
   omega
  refine⟨⟨#[109]⟩++s,run Zb98 rfl ?_⟩;simp at hr;simp[Zblt,h3,hr,c]
def Zjr(k:Int):ByteArray:=match C Z84 [I k] []with
 |some (.t (.str s),[])=>s
 |_=>⟨#[]⟩
theorem Zsj(k:Int)(h1:0<=k)(h2:k<=4000000000000000000):C Z84 [I k] []=some (.t (.str (Zjr k)),[]):=by
 obtain⟨s,h⟩:=Zc1a k h1 h2
 have:Zjr k=s:=by unfold Zjr;rw[h]
 rw[this,h]
theorem Zbl9(xs:List Int)(k:Int)(h1:0<=k)(h2:k+(xs.length:Int)<=4000000000000000000)(h3:SmA xs):C Zbpq [L 1 ((mkI xs k).map ic),I k] []=some (I (k+xs.length),[]):=by
 refine run Zb8n rfl ?_;have h4:=λfr=>Zc08 fr xs [] k h1 (by omega) (by have:xs.length<=4294967296:=h3;simp;omega)
 simp at h4;simp[Zblk,h4]
theorem Zcbj(k:Int):C Zbpq [.t .nil,I k] []=some (I k,[]):=by
 refine run Zb8n rfl ?_;simp[Zblk,Zd Zza.eq_1]
theorem Zzf(xs:List Int)(k:Int)(h1:0<=k)(h2:k+(xs.length:Int)<=4000000000000000000)(h3:SmA xs):(xs.map ic=[]/\(mkI xs (k)).map ic=[]/\C Zte [.t (.lst 1 []),I k] []=some (I (k+(xs.length:Int)),[]))\/∃y ys,xs.map ic=y::ys/\True/\C Zte [.own 0,I k] [.xarr unk 1 (y::ys)]=some (I (k+(xs.length:Int)),[.xarr unk 1 ((mkI xs (k)).map ic)]):=by
 have c:=Z7q unk xs k h1 (by omega) h3
 cases xs with
 |nil=>exact .inl ⟨rfl,rfl,by have:=Zc07 1 k;simpa[mkI,mkL]using this⟩
 |cons y ys=>exact .inr ⟨_,_,rfl,trivial,c⟩
def Zzg(a:List Int)(k:Int):List Int:=mkI a k
def Zgr(a:List Int):Nat:=a.length
def Zib(xs:List (List Int))(k:Int):List (List Int):=mkL Zzg Zgr xs k
def Zbx(xs:List (List Int)):Nat:=cnL Zgr xs
theorem Zc1b(x:List Int)(xs:List (List Int))(k:Int):Zib (x::xs) k=Zzg x k::Zib xs (k+(Zgr x:Int)):=rfl
theorem Zc1c(e:Nat)(fr:List Fr):∀(xs d:List (List Int)) (k:Int),0<=k->k+(Zbx xs:Int)<=4000000000000000000->d.length+xs.length<=4294967296->(∀x∈xs,SmA x)->EvL C fr [0,1,5] Zzc ⟨[(0,.own 0),(1,I k),(5,I d.length)],[[(0,.own 0)]],[.xarr e 1 ((d++xs).map isc)]⟩ =
  EvX C fr (.x 0) ⟨[(0,.own 0),(1,I (k+Zbx xs)),(5,I (d.length+xs.length)),(9,Bo false)],[[(0,.own 0)]],[.xarr e 1 ((d++Zib xs k).map isc)]⟩:=by
 intro xs
 induction xs with
 |nil =>
  intro d k h1 h2 h3 h4;rw[Zd Zzc.eq_1]
  simp[Zib,Zbx,cnL,mkL]
 |cons x xs ih =>
  intro d k h1 h2 h3 h4;have hx:=h4 x (by simp);have e0:Zbx (x::xs)=Zgr x+Zbx xs:=rfl;rw[e0]at h2;simp only[Yw]at h3;have e1:Zgr x=x.length:=rfl;have eK:k+(Zgr x:Int)=k+(x.length:Int):=by omega
  have eL:k+(Zbx (x::xs):Int)=k+(x.length:Int)+(Zbx xs:Int):=by omega
  have ih':=ih (d++[Zzg x k]) (k+(x.length:Int)) (by omega) (by omega) (by simp;omega) (λy hy=>h4 y (by simp[hy]));rw[Zd Zzc.eq_1,eL,Zc1b,eK];have g1:IntKind.wrap .i64 ((d.length:Int)+1)=(d.length:Int)+1:=Zw (by omega) (by omega);have g3:(d.length:Int)<(d.length:Int)+((xs.length:Int)+1):=by omega
  have g5:(d.length:Int)+1+(xs.length:Int)=(d.length:Int)+((xs.length:Int)+1):=by omega
  have m0:=Zzf x (k) (by omega) (by omega) hx;rcases m0 with⟨r0,s0,m0⟩|⟨y0,ys0,r0,s0,m0⟩
  all_goals (simp[g5,Zzg,tI,r0,s0]at ih';simp[g1,g3,m0,r0,s0,ih',Zzg,tI])
theorem Zc1d(e:Nat)(xs:List (List Int))(k:Int)(h1:0<=k)(h2:k+(Zbx xs:Int)<=4000000000000000000)(h3:SmL SmA xs):C Z0r [.own 0,I k] [.xarr e 1 (xs.map isc)]=some (I (k+Zbx xs),[.xarr e 1 ((Zib xs k).map isc)]):=by
 refine runM Zcaj rfl ?_;have h4:=λfr=>Zc1c e fr xs [] k h1 h2 (by have:xs.length<=4294967296:=h3.1;simp;omega) h3.2
 simp at h4;simp[Zblu,h4]
theorem Zc1e(n:Nat)(k:Int):C Z0r [.t (.lst n []),I k] []=some (I k,[]):=by
 refine run Zcaj rfl ?_;simp[Zblu,Zd Zzc.eq_1]
theorem Zcbk(xs:List (List Int))(k:Int)(h1:0<=k)(h2:k+(Zbx xs:Int)<=4000000000000000000)(h3:SmL SmA xs):(xs.map isc=[]/\(Zib xs (k)).map isc=[]/\C Z0r [.t (.lst 1 []),I k] []=some (I (k+(Zbx xs:Int)),[]))\/∃y ys,xs.map isc=y::ys/\True/\C Z0r [.own 0,I k] [.xarr unk 1 (y::ys)]=some (I (k+(Zbx xs:Int)),[.xarr unk 1 ((Zib xs (k)).map isc)]):=by
 have c:=Zc1d unk xs k h1 h2 h3
 cases xs with
 |nil=>exact .inl ⟨rfl,rfl,by have:=Zc1e 1 k;simpa[Zib,Zbx,cnL,mkL]using this⟩
 |cons y ys=>exact .inr ⟨_,_,rfl,trivial,c⟩
def Zzh(a:Atom)(k:Int):Atom:=⟨Zjr (k),mkI a.Vars (k+1)⟩
def Zic(a:Atom):Nat:=1+a.Vars.length
def Zsk(xs:List Atom)(k:Int):List Atom:=mkL Zzh Zic xs k
def Ze1(xs:List Atom):Nat:=cnL Zic xs
theorem Zc1f(x:Atom)(xs:List Atom)(k:Int):Zsk (x::xs) k=Zzh x k::Zsk xs (k+(Zic x:Int)):=rfl
theorem Zc1g(e:Nat)(fr:List Fr):∀(xs d:List Atom) (k:Int),0<=k->k+(Ze1 xs:Int)<=4000000000000000000->d.length+xs.length<=4294967296->(∀x∈xs,x.Zq)->EvL C fr [0,1,5] Z7b ⟨[(0,.own 0),(1,I k),(5,I d.length)],[[(0,.own 0)]],[.xarr e 2 ((d++xs).map Atom.c)]⟩ =
  EvX C fr (.x 0) ⟨[(0,.own 0),(1,I (k+Ze1 xs)),(5,I (d.length+xs.length)),(9,Bo false)],[[(0,.own 0)]],[.xarr e 2 ((d++Zsk xs k).map Atom.c)]⟩:=by
 intro xs
 induction xs with
 |nil =>
  intro d k h1 h2 h3 h4;rw[Zd Z7b.eq_1]
  simp[Zsk,Ze1,cnL,mkL]
 |cons x xs ih =>
  intro d k h1 h2 h3 h4;have hx:=h4 x (by simp);have e0:Ze1 (x::xs)=Zic x+Ze1 xs:=rfl;rw[e0]at h2;simp only[Yw]at h3;rcases x with⟨x0,x1⟩;have e1:Zic ⟨x0,x1⟩=1+x1.length:=rfl;have eK:k+(Zic ⟨x0,x1⟩:Int)=k+1+(x1.length:Int):=by omega
  have eL:k+(Ze1 (⟨x0,x1⟩::xs):Int)=k+1+(x1.length:Int)+(Ze1 xs:Int):=by omega
  have ih':=ih (d++[Zzh ⟨x0,x1⟩ k]) (k+1+(x1.length:Int)) (by omega) (by omega) (by simp;omega) (λy hy=>h4 y (by simp[hy]));rw[Zd Z7b.eq_1,eL,Zc1f,eK];have g1:IntKind.wrap .i64 ((d.length:Int)+1)=(d.length:Int)+1:=Zw (by omega) (by omega);have g3:(d.length:Int)<(d.length:Int)+((xs.length:Int)+1):=by omega
  have g5:(d.length:Int)+1+(xs.length:Int)=(d.length:Int)+((xs.length:Int)+1):=by omega
  have w0:IntKind.wrap .i64 (k+1)=k+1:=Zw (by omega) (by omega);have t0:=Zsj (k) (by omega) (by omega);have m0:=Zzf x1 (k+1) (by omega) (by omega) (by first|exact hx|exact hx.1|exact hx.2|exact hx.2.1|exact hx.2.2|exact hx.2.2.1|exact hx.2.2.2|exact hx.2.2.2.1|exact hx.2.2.2.2|exact hx.2.2.2.2.1|exact hx.2.2.2.2.2);rcases m0 with⟨r0,s0,m0⟩|⟨y0,ys0,r0,s0,m0⟩
  all_goals (simp[g5,Zzh,tI,r0,s0]at ih';simp[g1,g3,w0,t0,m0,r0,s0,ih',Zzh,tI])
theorem Zc1h(e:Nat)(xs:List Atom)(k:Int)(h1:0<=k)(h2:k+(Ze1 xs:Int)<=4000000000000000000)(h3:SmL Atom.Zq xs):C Zcev [.own 0,I k] [.xarr e 2 (xs.map Atom.c)]=some (I (k+Ze1 xs),[.xarr e 2 ((Zsk xs k).map Atom.c)]):=by
 refine runM Zcyd rfl ?_;have h4:=λfr=>Zc1g e fr xs [] k h1 h2 (by have:xs.length<=4294967296:=h3.1;simp;omega) h3.2
 simp at h4;simp[Zb9j,h4]
def Zzi(a:Zk)(k:Int):Zk:=⟨Zjr (k),mkI a.From (k+1),k+1+(a.From.length:Int)⟩
def Zid(a:Zk):Nat:=1+a.From.length+1
def Zsl(xs:List Zk)(k:Int):List Zk:=mkL Zzi Zid xs k
def Zc2(xs:List Zk):Nat:=cnL Zid xs
theorem Zc1i(x:Zk)(xs:List Zk)(k:Int):Zsl (x::xs) k=Zzi x k::Zsl xs (k+(Zid x:Int)):=rfl
theorem Zc1j(e:Nat)(fr:List Fr):∀(xs d:List Zk) (k:Int),0<=k->k+(Zc2 xs:Int)<=4000000000000000000->d.length+xs.length<=4294967296->(∀x∈xs,x.Zq)->EvL C fr [0,1,5] Z69 ⟨[(0,.own 0),(1,I k),(5,I d.length)],[[(0,.own 0)]],[.xarr e 3 ((d++xs).map Zk.c)]⟩ =
  EvX C fr (.x 0) ⟨[(0,.own 0),(1,I (k+Zc2 xs)),(5,I (d.length+xs.length)),(9,Bo false)],[[(0,.own 0)]],[.xarr e 3 ((d++Zsl xs k).map Zk.c)]⟩:=by
 intro xs
 induction xs with
 |nil =>
  intro d k h1 h2 h3 h4;rw[Zd Z69.eq_1]
  simp[Zsl,Zc2,cnL,mkL]
 |cons x xs ih =>
  intro d k h1 h2 h3 h4;have hx:=h4 x (by simp);have e0:Zc2 (x::xs)=Zid x+Zc2 xs:=rfl;rw[e0]at h2;simp only[Yw]at h3;rcases x with⟨x0,x1,x2⟩;have e1:Zid ⟨x0,x1,x2⟩=1+x1.length+1:=rfl;have eK:k+(Zid ⟨x0,x1,x2⟩:Int)=k+1+(x1.length:Int)+1:=by omega
  have eL:k+(Zc2 (⟨x0,x1,x2⟩::xs):Int)=k+1+(x1.length:Int)+1+(Zc2 xs:Int):=by omega
  have ih':=ih (d++[Zzi ⟨x0,x1,x2⟩ k]) (k+1+(x1.length:Int)+1) (by omega) (by omega) (by simp;omega) (λy hy=>h4 y (by simp[hy]));rw[Zd Z69.eq_1,eL,Zc1i,eK];have g1:IntKind.wrap .i64 ((d.length:Int)+1)=(d.length:Int)+1:=Zw (by omega) (by omega);have g3:(d.length:Int)<(d.length:Int)+((xs.length:Int)+1):=by omega
  have g5:(d.length:Int)+1+(xs.length:Int)=(d.length:Int)+((xs.length:Int)+1):=by omega
  have w0:IntKind.wrap .i64 (k+1)=k+1:=Zw (by omega) (by omega);have w1:IntKind.wrap .i64 (k+1+(x1.length:Int)+1)=k+1+(x1.length:Int)+1:=Zw (by omega) (by omega);have t0:=Zsj (k) (by omega) (by omega);have m0:=Zzf x1 (k+1) (by omega) (by omega) (by first|exact hx|exact hx.1|exact hx.2|exact hx.2.1|exact hx.2.2|exact hx.2.2.1|exact hx.2.2.2|exact hx.2.2.2.1|exact hx.2.2.2.2|exact hx.2.2.2.2.1|exact hx.2.2.2.2.2);rcases m0 with⟨r0,s0,m0⟩|⟨y0,ys0,r0,s0,m0⟩
  all_goals (simp[g5,Zzi,tI,r0,s0]at ih';simp[g1,g3,w0,w1,t0,m0,r0,s0,ih',Zzi,tI])
theorem Zc1k(e:Nat)(xs:List Zk)(k:Int)(h1:0<=k)(h2:k+(Zc2 xs:Int)<=4000000000000000000)(h3:SmL Zk.Zq xs):C Zcet [.own 0,I k] [.xarr e 3 (xs.map Zk.c)]=some (I (k+Zc2 xs),[.xarr e 3 ((Zsl xs k).map Zk.c)]):=by
 refine runM Zcyb rfl ?_;have h4:=λfr=>Zc1j e fr xs [] k h1 h2 (by have:xs.length<=4294967296:=h3.1;simp;omega) h3.2
 simp at h4;simp[Zb9f,h4]
def Zzj(a:Zh)(k:Int):Zh:=⟨mkI a.Columns (k),Zib a.Values (k+(a.Columns.length:Int)),mkI a.Counts (k+(a.Columns.length:Int)+(Zbx a.Values:Int))⟩
def Zie(a:Zh):Nat:=a.Columns.length+Zbx a.Values+a.Counts.length
def Zjs(xs:List Zh)(k:Int):List Zh:=mkL Zzj Zie xs k
def Zcw(xs:List Zh):Nat:=cnL Zie xs
theorem Zc1l(x:Zh)(xs:List Zh)(k:Int):Zjs (x::xs) k=Zzj x k::Zjs xs (k+(Zie x:Int)):=rfl
theorem Zc1m(e:Nat)(fr:List Fr):∀(xs d:List Zh) (k:Int),0<=k->k+(Zcw xs:Int)<=4000000000000000000->d.length+xs.length<=4294967296->(∀x∈xs,x.Zq)->EvL C fr [0,1,5] Zzd ⟨[(0,.own 0),(1,I k),(5,I d.length)],[[(0,.own 0)]],[.xarr e 3 ((d++xs).map Zh.c)]⟩ =
  EvX C fr (.x 0) ⟨[(0,.own 0),(1,I (k+Zcw xs)),(5,I (d.length+xs.length)),(9,Bo false)],[[(0,.own 0)]],[.xarr e 3 ((d++Zjs xs k).map Zh.c)]⟩:=by
 intro xs
 induction xs with
 |nil =>
  intro d k h1 h2 h3 h4;rw[Zd Zzd.eq_1]
  simp[Zjs,Zcw,cnL,mkL]
 |cons x xs ih =>
  intro d k h1 h2 h3 h4;have hx:=h4 x (by simp);have e0:Zcw (x::xs)=Zie x+Zcw xs:=rfl;rw[e0]at h2;simp only[Yw]at h3;rcases x with⟨x0,x1,x2⟩;have e1:Zie ⟨x0,x1,x2⟩=x0.length+Zbx x1+x2.length:=rfl;have eK:k+(Zie ⟨x0,x1,x2⟩:Int)=k+(x0.length:Int)+(Zbx x1:Int)+(x2.length:Int):=by omega
  have eL:k+(Zcw (⟨x0,x1,x2⟩::xs):Int)=k+(x0.length:Int)+(Zbx x1:Int)+(x2.length:Int)+(Zcw xs:Int):=by omega
  have ih':=ih (d++[Zzj ⟨x0,x1,x2⟩ k]) (k+(x0.length:Int)+(Zbx x1:Int)+(x2.length:Int)) (by omega) (by omega) (by simp;omega) (λy hy=>h4 y (by simp[hy]));rw[Zd Zzd.eq_1,eL,Zc1l,eK];have g1:IntKind.wrap .i64 ((d.length:Int)+1)=(d.length:Int)+1:=Zw (by omega) (by omega);have g3:(d.length:Int)<(d.length:Int)+((xs.length:Int)+1):=by omega
  have g5:(d.length:Int)+1+(xs.length:Int)=(d.length:Int)+((xs.length:Int)+1):=by omega
  have m0:=Zzf x0 (k) (by omega) (by omega) (by first|exact hx|exact hx.1|exact hx.2|exact hx.2.1|exact hx.2.2|exact hx.2.2.1|exact hx.2.2.2|exact hx.2.2.2.1|exact hx.2.2.2.2|exact hx.2.2.2.2.1|exact hx.2.2.2.2.2);have m1:=Zcbk x1 (k+(x0.length:Int)) (by omega) (by omega) (by first|exact hx|exact hx.1|exact hx.2|exact hx.2.1|exact hx.2.2|exact hx.2.2.1|exact hx.2.2.2|exact hx.2.2.2.1|exact hx.2.2.2.2|exact hx.2.2.2.2.1|exact hx.2.2.2.2.2);have m2:=Zzf x2 (k+(x0.length:Int)+(Zbx x1:Int)) (by omega) (by omega) (by first|exact hx|exact hx.1|exact hx.2|exact hx.2.1|exact hx.2.2|exact hx.2.2.1|exact hx.2.2.2|exact hx.2.2.2.1|exact hx.2.2.2.2|exact hx.2.2.2.2.1|exact hx.2.2.2.2.2);rcases m0 with⟨r0,s0,m0⟩|⟨y0,ys0,r0,s0,m0⟩
  all_goals rcases m1 with⟨r1,s1,m1⟩|⟨y1,ys1,r1,s1,m1⟩
  all_goals rcases m2 with⟨r2,s2,m2⟩|⟨y2,ys2,r2,s2,m2⟩
  all_goals (simp[g5,Zzj,tI,tII,r0,s0,r1,s1,r2,s2]at ih';simp[g1,g3,m0,r0,s0,m1,r1,s1,m2,r2,s2,ih',Zzj,tI,tII])
theorem Zc1n(e:Nat)(xs:List Zh)(k:Int)(h1:0<=k)(h2:k+(Zcw xs:Int)<=4000000000000000000)(h3:SmL Zh.Zq xs):C Z0s [.own 0,I k] [.xarr e 3 (xs.map Zh.c)]=some (I (k+Zcw xs),[.xarr e 3 ((Zjs xs k).map Zh.c)]):=by
 refine runM Zcal rfl ?_;have h4:=λfr=>Zc1m e fr xs [] k h1 h2 (by have:xs.length<=4294967296:=h3.1;simp;omega) h3.2
 simp at h4;simp[Zblv,h4]
theorem Zc1o(n:Nat)(k:Int):C Z0s [.t (.lst n []),I k] []=some (I k,[]):=by
 refine run Zcal rfl ?_;simp[Zblv,Zd Zzd.eq_1]
theorem Zc1p(xs:List Zh)(k:Int)(h1:0<=k)(h2:k+(Zcw xs:Int)<=4000000000000000000)(h3:SmL Zh.Zq xs):(xs.map Zh.c=[]/\(Zjs xs (k)).map Zh.c=[]/\C Z0s [.t (.lst 3 []),I k] []=some (I (k+(Zcw xs:Int)),[]))\/∃y ys,xs.map Zh.c=y::ys/\True/\C Z0s [.own 0,I k] [.xarr unk 3 (y::ys)]=some (I (k+(Zcw xs:Int)),[.xarr unk 3 ((Zjs xs (k)).map Zh.c)]):=by
 have c:=Zc1n unk xs k h1 h2 h3
 cases xs with
 |nil=>exact .inl ⟨rfl,rfl,by have:=Zc1o 3 k;simpa[Zjs,Zcw,cnL,mkL]using this⟩
 |cons y ys=>exact .inr ⟨_,_,rfl,trivial,c⟩
def Zzk(a:Zj)(k:Int):Zj:=⟨Zjr (k),k+1,Zjr (k+1+1),k+1+1+1⟩
def Zif(a:Zj):Nat:=1+1+1+1
def Zsm(xs:List Zj)(k:Int):List Zj:=mkL Zzk Zif xs k
def Zdy(xs:List Zj):Nat:=cnL Zif xs
theorem Zc1q(x:Zj)(xs:List Zj)(k:Int):Zsm (x::xs) k=Zzk x k::Zsm xs (k+(Zif x:Int)):=rfl
theorem Zc1r(e:Nat)(fr:List Fr):∀(xs d:List Zj) (k:Int),0<=k->k+(Zdy xs:Int)<=4000000000000000000->d.length+xs.length<=4294967296->(∀x∈xs,x.Zq)->EvL C fr [0,1,5] Z7a ⟨[(0,.own 0),(1,I k),(5,I d.length)],[[(0,.own 0)]],[.xarr e 4 ((d++xs).map Zj.c)]⟩ =
  EvX C fr (.x 0) ⟨[(0,.own 0),(1,I (k+Zdy xs)),(5,I (d.length+xs.length)),(9,Bo false)],[[(0,.own 0)]],[.xarr e 4 ((d++Zsm xs k).map Zj.c)]⟩:=by
 intro xs
 induction xs with
 |nil =>
  intro d k h1 h2 h3 h4;rw[Zd Z7a.eq_1]
  simp[Zsm,Zdy,cnL,mkL]
 |cons x xs ih =>
  intro d k h1 h2 h3 h4;have hx:=h4 x (by simp);have e0:Zdy (x::xs)=Zif x+Zdy xs:=rfl;rw[e0]at h2;simp only[Yw]at h3;rcases x with⟨x0,x1,x2,x3⟩;have e1:Zif ⟨x0,x1,x2,x3⟩=1+1+1+1:=rfl;have eK:k+(Zif ⟨x0,x1,x2,x3⟩:Int)=k+1+1+1+1:=by omega
  have eL:k+(Zdy (⟨x0,x1,x2,x3⟩::xs):Int)=k+1+1+1+1+(Zdy xs:Int):=by omega
  have ih':=ih (d++[Zzk ⟨x0,x1,x2,x3⟩ k]) (k+1+1+1+1) (by omega) (by omega) (by simp;omega) (λy hy=>h4 y (by simp[hy]));rw[Zd Z7a.eq_1,eL,Zc1q,eK];have g1:IntKind.wrap .i64 ((d.length:Int)+1)=(d.length:Int)+1:=Zw (by omega) (by omega);have g3:(d.length:Int)<(d.length:Int)+((xs.length:Int)+1):=by omega
  have g5:(d.length:Int)+1+(xs.length:Int)=(d.length:Int)+((xs.length:Int)+1):=by omega
  have w0:IntKind.wrap .i64 (k+1)=k+1:=Zw (by omega) (by omega);have w1:IntKind.wrap .i64 (k+1+1)=k+1+1:=Zw (by omega) (by omega);have w2:IntKind.wrap .i64 (k+1+1+1)=k+1+1+1:=Zw (by omega) (by omega);have w3:IntKind.wrap .i64 (k+1+1+1+1)=k+1+1+1+1:=Zw (by omega) (by omega);have t0:=Zsj (k) (by omega) (by omega);have t1:=Zsj (k+1+1) (by omega) (by omega)
  (simp[g5,Zzk,tI]at ih';simp[g1,g3,w0,w1,w2,w3,t0,t1,ih',Zzk,tI])
theorem Zc1s(e:Nat)(xs:List Zj)(k:Int)(h1:0<=k)(h2:k+(Zdy xs:Int)<=4000000000000000000)(h3:SmL Zj.Zq xs):C Zceu [.own 0,I k] [.xarr e 4 (xs.map Zj.c)]=some (I (k+Zdy xs),[.xarr e 4 ((Zsm xs k).map Zj.c)]):=by
 refine runM Zcyc rfl ?_;have h4:=λfr=>Zc1r e fr xs [] k h1 h2 (by have:xs.length<=4294967296:=h3.1;simp;omega) h3.2
 simp at h4;simp[Zb9h,h4]
def Zzl(a:Ze)(k:Int):Ze:=⟨Zjr (k),k+1,Zib a.Rows (k+1+1)⟩
def Zha(a:Ze):Nat:=1+1+Zbx a.Rows
def Zog(xs:List Ze)(k:Int):List Ze:=mkL Zzl Zha xs k
def Zbz(xs:List Ze):Nat:=cnL Zha xs
theorem Zc1t(x:Ze)(xs:List Ze)(k:Int):Zog (x::xs) k=Zzl x k::Zog xs (k+(Zha x:Int)):=rfl
theorem Zc1u(e:Nat)(fr:List Fr):∀(xs d:List Ze) (k:Int),0<=k->k+(Zbz xs:Int)<=4000000000000000000->d.length+xs.length<=4294967296->(∀x∈xs,x.Zq)->EvL C fr [0,1,5] Z7g ⟨[(0,.own 0),(1,I k),(5,I d.length)],[[(0,.own 0)]],[.xarr e 3 ((d++xs).map Ze.c)]⟩ =
  EvX C fr (.x 0) ⟨[(0,.own 0),(1,I (k+Zbz xs)),(5,I (d.length+xs.length)),(9,Bo false)],[[(0,.own 0)]],[.xarr e 3 ((d++Zog xs k).map Ze.c)]⟩:=by
 intro xs
 induction xs with
 |nil =>
  intro d k h1 h2 h3 h4;rw[Zd Z7g.eq_1]
  simp[Zog,Zbz,cnL,mkL]
 |cons x xs ih =>
  intro d k h1 h2 h3 h4;have hx:=h4 x (by simp);have e0:Zbz (x::xs)=Zha x+Zbz xs:=rfl;rw[e0]at h2;simp only[Yw]at h3;rcases x with⟨x0,x1,x2⟩;have e1:Zha ⟨x0,x1,x2⟩=1+1+Zbx x2:=rfl;have eK:k+(Zha ⟨x0,x1,x2⟩:Int)=k+1+1+(Zbx x2:Int):=by omega
  have eL:k+(Zbz (⟨x0,x1,x2⟩::xs):Int)=k+1+1+(Zbx x2:Int)+(Zbz xs:Int):=by omega
  have ih':=ih (d++[Zzl ⟨x0,x1,x2⟩ k]) (k+1+1+(Zbx x2:Int)) (by omega) (by omega) (by simp;omega) (λy hy=>h4 y (by simp[hy]));rw[Zd Z7g.eq_1,eL,Zc1t,eK];have g1:IntKind.wrap .i64 ((d.length:Int)+1)=(d.length:Int)+1:=Zw (by omega) (by omega);have g3:(d.length:Int)<(d.length:Int)+((xs.length:Int)+1):=by omega
  have g5:(d.length:Int)+1+(xs.length:Int)=(d.length:Int)+((xs.length:Int)+1):=by omega
  have w0:IntKind.wrap .i64 (k+1)=k+1:=Zw (by omega) (by omega);have w1:IntKind.wrap .i64 (k+1+1)=k+1+1:=Zw (by omega) (by omega);have t0:=Zsj (k) (by omega) (by omega);have m0:=Zcbk x2 (k+1+1) (by omega) (by omega) (by first|exact hx|exact hx.1|exact hx.2|exact hx.2.1|exact hx.2.2|exact hx.2.2.1|exact hx.2.2.2|exact hx.2.2.2.1|exact hx.2.2.2.2|exact hx.2.2.2.2.1|exact hx.2.2.2.2.2);rcases m0 with⟨r0,s0,m0⟩|⟨y0,ys0,r0,s0,m0⟩
  all_goals (simp[g5,Zzl,tI,tII,r0,s0]at ih';simp[g1,g3,w0,w1,t0,m0,r0,s0,ih',Zzl,tI,tII])
theorem Zc1v(e:Nat)(xs:List Ze)(k:Int)(h1:0<=k)(h2:k+(Zbz xs:Int)<=4000000000000000000)(h3:SmL Ze.Zq xs):C Zcfb [.own 0,I k] [.xarr e 3 (xs.map Ze.c)]=some (I (k+Zbz xs),[.xarr e 3 ((Zog xs k).map Ze.c)]):=by
 refine runM Zcyt rfl ?_;have h4:=λfr=>Zc1u e fr xs [] k h1 h2 (by have:xs.length<=4294967296:=h3.1;simp;omega) h3.2
 simp at h4;simp[Zb94,h4]
def Zzm(a:Zg)(k:Int):Zg:=⟨Zjr (k),k+1,k+1+1,Zjs a.Groups (k+1+1+1)⟩
def Zhb(a:Zg):Nat:=1+1+1+Zcw a.Groups
def Zoh(xs:List Zg)(k:Int):List Zg:=mkL Zzm Zhb xs k
def Zb3(xs:List Zg):Nat:=cnL Zhb xs
theorem Zc1w(x:Zg)(xs:List Zg)(k:Int):Zoh (x::xs) k=Zzm x k::Zoh xs (k+(Zhb x:Int)):=rfl
theorem Zc1x(e:Nat)(fr:List Fr):∀(xs d:List Zg) (k:Int),0<=k->k+(Zb3 xs:Int)<=4000000000000000000->d.length+xs.length<=4294967296->(∀x∈xs,x.Zq)->EvL C fr [0,1,5] Z7h ⟨[(0,.own 0),(1,I k),(5,I d.length)],[[(0,.own 0)]],[.xarr e 4 ((d++xs).map Zg.c)]⟩ =
  EvX C fr (.x 0) ⟨[(0,.own 0),(1,I (k+Zb3 xs)),(5,I (d.length+xs.length)),(9,Bo false)],[[(0,.own 0)]],[.xarr e 4 ((d++Zoh xs k).map Zg.c)]⟩:=by
 intro xs
 induction xs with
 |nil =>
  intro d k h1 h2 h3 h4;rw[Zd Z7h.eq_1]
  simp[Zoh,Zb3,cnL,mkL]
 |cons x xs ih =>
  intro d k h1 h2 h3 h4;have hx:=h4 x (by simp);have e0:Zb3 (x::xs)=Zhb x+Zb3 xs:=rfl;rw[e0]at h2;simp only[Yw]at h3;rcases x with⟨x0,x1,x2,x3⟩;have e1:Zhb ⟨x0,x1,x2,x3⟩=1+1+1+Zcw x3:=rfl;have eK:k+(Zhb ⟨x0,x1,x2,x3⟩:Int)=k+1+1+1+(Zcw x3:Int):=by omega
  have eL:k+(Zb3 (⟨x0,x1,x2,x3⟩::xs):Int)=k+1+1+1+(Zcw x3:Int)+(Zb3 xs:Int):=by omega
  have ih':=ih (d++[Zzm ⟨x0,x1,x2,x3⟩ k]) (k+1+1+1+(Zcw x3:Int)) (by omega) (by omega) (by simp;omega) (λy hy=>h4 y (by simp[hy]));rw[Zd Z7h.eq_1,eL,Zc1w,eK];have g1:IntKind.wrap .i64 ((d.length:Int)+1)=(d.length:Int)+1:=Zw (by omega) (by omega);have g3:(d.length:Int)<(d.length:Int)+((xs.length:Int)+1):=by omega
  have g5:(d.length:Int)+1+(xs.length:Int)=(d.length:Int)+((xs.length:Int)+1):=by omega
  have w0:IntKind.wrap .i64 (k+1)=k+1:=Zw (by omega) (by omega);have w1:IntKind.wrap .i64 (k+1+1)=k+1+1:=Zw (by omega) (by omega);have w2:IntKind.wrap .i64 (k+1+1+1)=k+1+1+1:=Zw (by omega) (by omega);have t0:=Zsj (k) (by omega) (by omega);have m0:=Zc1p x3 (k+1+1+1) (by omega) (by omega) (by first|exact hx|exact hx.1|exact hx.2|exact hx.2.1|exact hx.2.2|exact hx.2.2.1|exact hx.2.2.2|exact hx.2.2.2.1|exact hx.2.2.2.2|exact hx.2.2.2.2.1|exact hx.2.2.2.2.2);rcases m0 with⟨r0,s0,m0⟩|⟨y0,ys0,r0,s0,m0⟩
  all_goals (simp[g5,Zzm,tI,r0,s0]at ih';simp[g1,g3,w0,w1,w2,t0,m0,r0,s0,ih',Zzm,tI])
theorem Zc1y(e:Nat)(xs:List Zg)(k:Int)(h1:0<=k)(h2:k+(Zb3 xs:Int)<=4000000000000000000)(h3:SmL Zg.Zq xs):C Zcfc [.own 0,I k] [.xarr e 4 (xs.map Zg.c)]=some (I (k+Zb3 xs),[.xarr e 4 ((Zoh xs k).map Zg.c)]):=by
 refine runM Zcyu rfl ?_;have h4:=λfr=>Zc1x e fr xs [] k h1 h2 (by have:xs.length<=4294967296:=h3.1;simp;omega) h3.2
 simp at h4;simp[Zb96,h4]
theorem Zc1z(e0:Nat)(x0:Int)(x1:List Zg)(k:Int)(h1:0<=k)(h2:k+(Zb3 x1:Int)<=4000000000000000000)(cc:SmL Zg.Zq x1):C Zces [.agg [I x0,.own 0],I k] [.xarr e0 4 (x1.map Zg.c)]=some (I (k+(Zb3 x1:Int)),[.xarr e0 4 ((Zoh x1 (k)).map Zg.c)]):=by
 refine runM Zcya rfl ?_;have m0:=Zc1y e0 x1 (k) (by omega) (by omega) cc;simp[Zb9d,m0]
theorem Zc10(e0:Nat)(x0:List Ze)(k:Int)(h1:0<=k)(h2:k+(Zbz x0:Int)<=4000000000000000000)(cc:SmL Ze.Zq x0):C Zcer [.agg [.own 0],I k] [.xarr e0 3 (x0.map Ze.c)]=some (I (k+(Zbz x0:Int)),[.xarr e0 3 ((Zog x0 (k)).map Ze.c)]):=by
 refine runM Zcx9 rfl ?_;have m0:=Zc1v e0 x0 (k) (by omega) (by omega) cc;simp[Zb9c,m0]
theorem Zcbl(e0:Nat)(x0:Int)(x1:List Atom)(k:Int)(h1:0<=k)(h2:k+(Ze1 x1:Int)<=4000000000000000000)(cc:SmL Atom.Zq x1):C Zceb [.agg [I x0,.own 0],I k] [.xarr e0 2 (x1.map Atom.c)]=some (I (k+(Ze1 x1:Int)),[.xarr e0 2 ((Zsk x1 (k)).map Atom.c)]):=by
 refine runM Zcxt rfl ?_;have m0:=Zc1h e0 x1 (k) (by omega) (by omega) cc;simp[Zb8k,m0]
theorem Zcbm(e0 e1 e2 e3:Nat)(x0:List Ze)(x1:Int)(x2:List Zg)(x3:List Zk)(x4:List Zj)(k:Int)(h1:0<=k)(h2:k+(Zbz x0:Int)+(Zb3 x2:Int)+(Zc2 x3:Int)+(Zdy x4:Int)<=4000000000000000000)(cc:SmL Ze.Zq x0)(cd:SmL Zg.Zq x2)(cl:SmL Zk.Zq x3)(cn:SmL Zj.Zq x4):C Zcea [.agg [.own 0,I x1,.own 1,.own 2,.own 3],I k] [.xarr e0 3 (x0.map Ze.c),.xarr e1 4 (x2.map Zg.c),.xarr e2 3 (x3.map Zk.c),.xarr e3 4 (x4.map Zj.c)]=some (I (k+(Zbz x0:Int)+(Zb3 x2:Int)+(Zc2 x3:Int)+(Zdy x4:Int)),[.xarr e0 3 ((Zog x0 (k)).map Ze.c),.xarr e1 4 ((Zoh x2 (k+(Zbz x0:Int))).map Zg.c),.xarr e2 3 ((Zsl x3 (k+(Zbz x0:Int)+(Zb3 x2:Int))).map Zk.c),.xarr e3 4 ((Zsm x4 (k+(Zbz x0:Int)+(Zb3 x2:Int)+(Zc2 x3:Int))).map Zj.c)]):=by
 refine runM Zcxs rfl ?_;have m0:=Zc10 e0 x0 (k) (by omega) (by omega) cc;have m1:=Zc1z e1 x1 x2 (k+(Zbz x0:Int)) (by omega) (by omega) cd;have m2:=Zc1k e2 x3 (k+(Zbz x0:Int)+(Zb3 x2:Int)) (by omega) (by omega) cl;have m3:=Zc1s e3 x4 (k+(Zbz x0:Int)+(Zb3 x2:Int)+(Zc2 x3:Int)) (by omega) (by omega) cn;simp[Zb8j,m0,m1,m2,m3]
theorem Zfe{n:Nat}{left:Int}(hn:n<=maxLen)(h0:0<=left)(h1:left<=1048576)(h:0<=sz1 n left):sz1 n left<=left/\(n:Int)<=left-sz1 n left:=by
 unfold maxLen at hn;have hw:IntKind.wrap .i64 (left-n)=left-n:=Zw (by omega) (by omega);unfold sz1 at h|-;rw[hw]at h|-;split at h
 .omega
 .rename_i hx;rw[if_neg hx];omega
theorem Zcbn{α:Type}{f:α->Int->Int}{n:α->Nat}{M:Int}:∀(xs:List α) (c:Int),(∀x∈xs,∀l,0<=l->l<=M->0<=f x l->f x l<=l/\(n x:Int)<=16+16*(l-f x l))->0<=c->c<=M->0<=Zbi f xs c->Zbi f xs c<=c/\(cnL n xs:Int)<=16*(xs.length:Int)+16*(c-Zbi f xs c)
 |[],c,_,_,_,h=>by simp[Zbi,cnL]
 |x::xs,c,hf,h0,h1,h=>by
  unfold Zbi at h|-;split at h
  .omega
  .rename_i hx;rw[if_neg hx];obtain⟨h2,h3⟩:=hf x (by simp) c h0 h1 (by omega);obtain⟨h4,h5⟩:=Zcbn xs (f x c) (λy hy=>hf y (by simp[hy])) (by omega) (by omega) h;have e:cnL n (x::xs)=n x+cnL n xs:=rfl;rw[e,Yw];omega
theorem Zlz{α:Type}{f:α->Int->Int}{n:α->Nat}{xs:List α}{left:Int}(hn:xs.length<=maxLen)(hf:∀x∈xs,∀l,0<=l->l<=1048576->0<=f x l->f x l<=l/\(n x:Int)<=16+16*(l-f x l))(h0:0<=left)(h1:left<=1048576)(h:0<=szL f xs left) :
  szL f xs left<=left/\(cnL n xs:Int)<=16*(left-szL f xs left):=by
 unfold szL Zz at h|-;split at h
 .omega
 .rename_i hx;rw[if_neg hx];have a:=Zfe hn h0 h1 (by omega);have b:=Zcbn xs _ hf (by omega) (by omega) h;omega
theorem Zcbo(x:List Int)(l:Int)(hx:x.length<=maxLen)(h0:0<=l)(h1:l<=1048576)(h:0<=szI x l):szI x l<=l/\(Zgr x:Int)<=16+16*(l-szI x l):=by
 have a:=Zfe hx h0 h1 h;unfold Zgr;have e:szI x l=sz1 x.length l:=rfl;rw[e];omega
def Zbma(x:Ze):Nat:=Zbx x.Rows
theorem Ze.ct(x:Ze)(l:Int)(hx:x.okay)(h0:0<=l)(h1:l<=1048576)(h:0<=x.sz l):x.sz l<=l/\(Zbma x:Int)<=16*(l-x.sz l):=by
 unfold Ze.sz at h|-;simp only[Zz]at h|-;split at h
 .omega
 rename_i q0;rw[if_neg q0];have s0:=Zfe hx.1 h0 h1 (Ym.1 q0);split at h
 .omega
 rename_i q1;rw[if_neg q1];have s1:=Zlz (f:=szI) (n:=Zgr) hx.2.2.1 (λy hy l a b c=>Zcbo y l (hx.2.2.2 y hy).1 a b c) (by omega) (by omega) (Ym.1 q1);refine⟨by omega,?_⟩;unfold Zbma;have v0:Zbx x.Rows=cnL Zgr x.Rows:=rfl;omega
theorem Zc11(x:Ze)(l:Int)(hx:x.okay)(h0:0<=l)(h1:l<=1048576)(h:0<=x.sz l):x.sz l<=l/\(Zha x:Int)<=16+16*(l-x.sz l):=by
 have a:=Ze.ct x l hx h0 h1 h;unfold Zbma at a;unfold Zha;omega
def Zbmb(x:Zi):Nat:=Zbz x.Tables
theorem Zi.ct(x:Zi)(l:Int)(hx:x.okay)(h0:0<=l)(h1:l<=1048576)(h:0<=x.sz l):x.sz l<=l/\(Zbmb x:Int)<=16*(l-x.sz l):=by
 unfold Zi.sz at h|-;simp only[Zz]at h|-;split at h
 .omega
 rename_i q0;rw[if_neg q0];have s0:=Zlz (n:=Zha) hx.1 (λy hy l a b c=>Zc11 y l (hx.2 y hy) a b c) h0 h1 (Ym.1 q0);refine⟨by omega,?_⟩;unfold Zbmb;have v0:Zbz x.Tables=cnL Zha x.Tables:=rfl;omega
def Zbmc(x:Atom):Nat:=x.Vars.length
theorem Atom.ct(x:Atom)(l:Int)(hx:x.okay)(h0:0<=l)(h1:l<=1048576)(h:0<=x.sz l):x.sz l<=l/\(Zbmc x:Int)<=16*(l-x.sz l):=by
 unfold Atom.sz at h|-;simp only[Zz]at h|-;split at h
 .omega
 rename_i q0;rw[if_neg q0];have s0:=Zfe hx.1 h0 h1 (Ym.1 q0);split at h
 .omega
 rename_i q1;rw[if_neg q1];have s1:=Zfe hx.2.1 (by omega) (by omega) (Ym.1 q1);refine⟨by omega,?_⟩;unfold Zbmc;omega
theorem Zc12(x:Atom)(l:Int)(hx:x.okay)(h0:0<=l)(h1:l<=1048576)(h:0<=x.sz l):x.sz l<=l/\(Zic x:Int)<=16+16*(l-x.sz l):=by
 have a:=Atom.ct x l hx h0 h1 h;unfold Zbmc at a;unfold Zic;omega
def Z7r(x:Zb):Nat:=Ze1 x.Atoms
theorem Zb.ct(x:Zb)(l:Int)(hx:x.okay)(h0:0<=l)(h1:l<=1048576)(h:0<=x.sz l):x.sz l<=l/\(Z7r x:Int)<=16*(l-x.sz l):=by
 unfold Zb.sz at h|-;simp only[Zz]at h|-;split at h
 .omega
 rename_i q0;rw[if_neg q0];have s0:=Zlz (n:=Zic) hx.2.1 (λy hy l a b c=>Zc12 y l (hx.2.2 y hy) a b c) h0 h1 (Ym.1 q0);refine⟨by omega,?_⟩;unfold Z7r;have v0:Ze1 x.Atoms=cnL Zic x.Atoms:=rfl;omega
def Zbmd(x:Zk):Nat:=x.From.length
theorem Zk.ct(x:Zk)(l:Int)(hx:x.okay)(h0:0<=l)(h1:l<=1048576)(h:0<=x.sz l):x.sz l<=l/\(Zbmd x:Int)<=16*(l-x.sz l):=by
 unfold Zk.sz at h|-;simp only[Zz]at h|-;split at h
 .omega
 rename_i q0;rw[if_neg q0];have s0:=Zfe hx.1 h0 h1 (Ym.1 q0);split at h
 .omega
 rename_i q1;rw[if_neg q1];have s1:=Zfe hx.2.1.1 (by omega) (by omega) (Ym.1 q1);refine⟨by omega,?_⟩;unfold Zbmd;omega
theorem Zc13(x:Zk)(l:Int)(hx:x.okay)(h0:0<=l)(h1:l<=1048576)(h:0<=x.sz l):x.sz l<=l/\(Zid x:Int)<=16+16*(l-x.sz l):=by
 have a:=Zk.ct x l hx h0 h1 h;unfold Zbmd at a;unfold Zid;omega
def Zbme(x:Zj):Nat:=0
theorem Zj.ct(x:Zj)(l:Int)(hx:x.okay)(h0:0<=l)(h1:l<=1048576)(h:0<=x.sz l):x.sz l<=l/\(Zbme x:Int)<=16*(l-x.sz l):=by
 unfold Zj.sz at h|-;simp only[Zz]at h|-;split at h
 .omega
 rename_i q0;rw[if_neg q0];have s0:=Zfe hx.1 h0 h1 (Ym.1 q0);split at h
 .omega
 rename_i q1;rw[if_neg q1];have s1:=Zfe hx.2.2.1 (by omega) (by omega) (Ym.1 q1);refine⟨by omega,?_⟩;unfold Zbme;omega
theorem Zc14(x:Zj)(l:Int)(hx:x.okay)(h0:0<=l)(h1:l<=1048576)(h:0<=x.sz l):x.sz l<=l/\(Zif x:Int)<=16+16*(l-x.sz l):=by
 have a:=Zj.ct x l hx h0 h1 h;unfold Zbme at a;unfold Zif;omega
def Zbmf(x:Zh):Nat:=x.Columns.length+Zbx x.Values+x.Counts.length
theorem Zh.ct(x:Zh)(l:Int)(hx:x.okay)(h0:0<=l)(h1:l<=1048576)(h:0<=x.sz l):x.sz l<=l/\(Zbmf x:Int)<=16*(l-x.sz l):=by
 unfold Zh.sz at h|-;simp only[Zz]at h|-;split at h
 .omega
 rename_i q0;rw[if_neg q0];have s0:=Zfe hx.1.1 h0 h1 (Ym.1 q0);split at h
 .omega
 rename_i q1;rw[if_neg q1];have s1:=Zlz (f:=szI) (n:=Zgr) hx.2.1.1 (λy hy l a b c=>Zcbo y l (hx.2.1.2 y hy).1 a b c) (by omega) (by omega) (Ym.1 q1);split at h
 .omega
 rename_i q2;rw[if_neg q2];have s2:=Zfe hx.2.2.1 (by omega) (by omega) (Ym.1 q2);refine⟨by omega,?_⟩;unfold Zbmf;have v0:Zbx x.Values=cnL Zgr x.Values:=rfl;omega
theorem Zc15(x:Zh)(l:Int)(hx:x.okay)(h0:0<=l)(h1:l<=1048576)(h:0<=x.sz l):x.sz l<=l/\(Zie x:Int)<=16+16*(l-x.sz l):=by
 have a:=Zh.ct x l hx h0 h1 h;unfold Zbmf at a;unfold Zie;omega
def Zbmg(x:Zg):Nat:=Zcw x.Groups
theorem Zg.ct(x:Zg)(l:Int)(hx:x.okay)(h0:0<=l)(h1:l<=1048576)(h:0<=x.sz l):x.sz l<=l/\(Zbmg x:Int)<=16*(l-x.sz l):=by
 unfold Zg.sz at h|-;simp only[Zz]at h|-;split at h
 .omega
 rename_i q0;rw[if_neg q0];have s0:=Zfe hx.1 h0 h1 (Ym.1 q0);split at h
 .omega
 rename_i q1;rw[if_neg q1];have s1:=Zlz (n:=Zie) hx.2.2.2.1 (λy hy l a b c=>Zc15 y l (hx.2.2.2.2 y hy) a b c) (by omega) (by omega) (Ym.1 q1);refine⟨by omega,?_⟩;unfold Zbmg;have v0:Zcw x.Groups=cnL Zie x.Groups:=rfl;omega
theorem Zc16(x:Zg)(l:Int)(hx:x.okay)(h0:0<=l)(h1:l<=1048576)(h:0<=x.sz l):x.sz l<=l/\(Zhb x:Int)<=16+16*(l-x.sz l):=by
 have a:=Zg.ct x l hx h0 h1 h;unfold Zbmg at a;unfold Zhb;omega
def Zbmh(x:Zl):Nat:=Zb3 x.Tables
theorem Zl.ct(x:Zl)(l:Int)(hx:x.okay)(h0:0<=l)(h1:l<=1048576)(h:0<=x.sz l):x.sz l<=l/\(Zbmh x:Int)<=16*(l-x.sz l):=by
 unfold Zl.sz at h|-;simp only[Zz]at h|-;split at h
 .omega
 rename_i q0;rw[if_neg q0];have s0:=Zlz (n:=Zhb) hx.2.1 (λy hy l a b c=>Zc16 y l (hx.2.2 y hy) a b c) h0 h1 (Ym.1 q0);refine⟨by omega,?_⟩;unfold Zbmh;have v0:Zb3 x.Tables=cnL Zhb x.Tables:=rfl;omega
def Z7s(x:Zf):Nat:=Zbz x.Zi.Tables+Zb3 x.Zl.Tables+Zc2 x.Dependencies+Zdy x.Inclusions
theorem Zf.ct(x:Zf)(l:Int)(hx:x.okay)(h0:0<=l)(h1:l<=1048576)(h:0<=x.sz l):x.sz l<=l/\(Z7s x:Int)<=16*(l-x.sz l):=by
 unfold Zf.sz at h|-;simp only[Zz]at h|-;split at h
 .omega
 rename_i q0;rw[if_neg q0];have s0:=Zi.ct x.Zi _ hx.1 h0 h1 (Ym.1 q0);split at h
 .omega
 rename_i q1;rw[if_neg q1];have s1:=Zl.ct x.Zl _ ⟨hx.2.1,hx.2.2.1⟩ (by omega) (by omega) (Ym.1 q1);split at h
 .omega
 rename_i q2;rw[if_neg q2];have s2:=Zlz (n:=Zid) hx.2.2.2.1.1 (λy hy l a b c=>Zc13 y l (hx.2.2.2.1.2 y hy) a b c) (by omega) (by omega) (Ym.1 q2);split at h
 .omega
 rename_i q3;rw[if_neg q3];have s3:=Zlz (n:=Zif) hx.2.2.2.2.1 (λy hy l a b c=>Zc14 y l (hx.2.2.2.2.2 y hy) a b c) (by omega) (by omega) (Ym.1 q3);refine⟨by omega,?_⟩;unfold Z7s;have v0:Zbmb x.Zi=Zbz x.Zi.Tables:=rfl;have v1:Zbmh x.Zl=Zb3 x.Zl.Tables:=rfl;have v2:Zbz x.Zi.Tables=cnL Zha x.Zi.Tables:=rfl;have v3:Zb3 x.Zl.Tables=cnL Zhb x.Zl.Tables:=rfl;have v4:Zc2 x.Dependencies=cnL Zid x.Dependencies:=rfl;have v5:Zdy x.Inclusions=cnL Zif x.Inclusions:=rfl;omega
def nt_Box(x:Box):Nat:=x.Low.length+x.High.length
theorem Box.ct(x:Box)(l:Int)(hx:x.okay)(h0:0<=l)(h1:l<=1048576)(h:0<=x.sz l):x.sz l<=l/\(nt_Box x:Int)<=16*(l-x.sz l):=by
 unfold Box.sz at h|-;simp only[Zz]at h|-;split at h
 .omega
 rename_i q0;rw[if_neg q0];have s0:=Zfe hx.1.1 h0 h1 (Ym.1 q0);split at h
 .omega
 rename_i q1;rw[if_neg q1];have s1:=Zfe hx.2.1 (by omega) (by omega) (Ym.1 q1);refine⟨by omega,?_⟩;unfold nt_Box;omega
end
end Go.Proofs.YtnnjbejcffjgfaaGreat
