/-
  Parts of the proofs for this seat: MP MQ MR L12.
-/
import Derived.Test.YtdfoicjjheifeaaP9
set_option linter.unusedSimpArgs false
set_option linter.unusedVariables false
set_option maxRecDepth 100000
set_option maxHeartbeats 4000000
/- part: MP -/
namespace Go.Proofs.Ytdfoicjjheifeaa
open Go.AM
def mkL {α:Type} (f:α→Int→α) (n:α→Nat):List α→Int→List α
 | [],_=>[]
 | x::xs,k=>f x k::mkL f n xs (k+(n x:Int))
def cnL {α:Type} (n:α→Nat):List α→Nat
 | []=>0
 | x::xs=>n x+cnL n xs
def mkI (xs:List Int) (k:Int):List Int:=mkL (fun _ k=>k) (fun _=>1) xs k
theorem mkI_cons (x:Int) (xs:List Int) (k:Int):mkI (x::xs) k=k::mkI xs (k+1):=rfl
theorem Zl4 (e:Nat) (fr:List Fr):∀ (xs d:List Int) (k:Int),0≤k→k+(xs.length:Int)≤4611686018427387904→d.length+xs.length≤4294967296→EvL C fr [0,1,5] Zcs ⟨[(0,.own 0),(1,I k),(5,I d.length)],[[(0,.own 0)]],[.xarr e 1 ((d++xs).map ic)]⟩ =
  EvX C fr (.x 0) ⟨[(0,.own 0),(1,I (k+xs.length)),(5,I (d.length+xs.length)),(9,Bo false)],[[(0,.own 0)]],[.xarr e 1 ((d++mkI xs k).map ic)]⟩:=by
 intro xs
 induction xs with
 | nil =>
  intro d k h1 h2 h3
  rw [EvL_eq Zcs.eq_1]
  simp [mkI,mkL]
 | cons x xs ih =>
  intro d k h1 h2 h3
  simp only [List.length_cons] at h2 h3
  have ih':=ih (d++[k]) (k+1) (by omega) (by omega) (by simp;omega)
  rw [EvL_eq Zcs.eq_1]
  have g1:IntKind.wrap .i64 ((d.length:Int)+1)=(d.length:Int)+1:=wrap64 (by omega) (by omega)
  have g2:IntKind.wrap .i64 (k+1)=k+1:=wrap64 (by omega) (by omega)
  have g3:(d.length:Int)<(d.length:Int)+((xs.length:Int)+1):=by omega
  have g4:k+1+(xs.length:Int)=k+((xs.length:Int)+1):=by omega
  have g5:(d.length:Int)+1+(xs.length:Int)=(d.length:Int)+((xs.length:Int)+1):=by omega
  simp [g4,g5] at ih'
  simp [g1,g2,g3,ih',mkI_cons]
theorem Zl5 (e:Nat) (xs:List Int) (k:Int) (h1:0≤k) (h2:k+(xs.length:Int)≤4611686018427387904) (h3:SmA xs):C Zcy [.own 0,I k] [.xarr e 1 (xs.map ic)]=some (I (k+xs.length),[.xarr e 1 ((mkI xs k).map ic)]):=by
 refine runM Zhu rfl ?_
 have h4:=fun fr=>Zl4 e fr xs [] k h1 h2 (by have:xs.length≤4294967296:=h3;simp;omega)
 simp at h4
 simp [Ze2,h4]
theorem Zl6 (n:Nat) (k:Int):C Zcy [.t (.lst n []),I k] []=some (I k,[]):=by
 refine run Zhu rfl ?_
 simp [Ze2,EvL_eq Zcs.eq_1]
end Go.Proofs.Ytdfoicjjheifeaa
/- part: MQ -/
namespace Go.Proofs.Ytdfoicjjheifeaa
open Go.AM
theorem strB_one (x:Int):(strB [x]).size=1:=by simp [strB];rfl
theorem Zl7 (fr:List Fr):∀ (n:Nat) (k:Int) (out:ByteArray),k.toNat≤n→(out.size:Int)+k≤4611686018427387904→0≤k→∃ s,s.size≤out.size+n∧EvL C fr [0,3] Zcr ⟨[(0,I k),(3,.t (.str out))],[[]],[]⟩=EvX C fr (.x 0) ⟨[(0,I 0),(3,.t (.str s)),(7,Bo false)],[[]],[]⟩:=by
 intro n
 induction n with
 | zero =>
  intro k out h1 h2 h3
  have:k=0:=by omega
  subst this
  rw [EvL_eq Zcr.eq_1]
  exact ⟨out,by simp⟩
 | succ n ih =>
  intro k out h1 h2 h3
  by_cases h0:k=0
  ·subst h0
   rw [EvL_eq Zcr.eq_1]
   exact ⟨out,by simp⟩
  have hk:0<k:=by omega
  have e:k.tdiv 10=k / 10:=Int.tdiv_eq_ediv_of_nonneg h3
  have e2:IntKind.wrap .i64 (k / 10)=k / 10:=wrap64 (by omega) (by omega)
  generalize hx:IntKind.wrap .u8 (IntKind.wrap .i64 (48+k.tmod 10))=x
  have s1:=strB_one x
  have c:1+out.size≤9223372036854775807:=by omega
  obtain ⟨s,hs,hr⟩:=ih (k / 10) (strB [x]++out) (by omega) (by rw [ByteArray.size_append,s1];omega) (by omega)
  rw [ByteArray.size_append,s1] at hs
  refine ⟨s,by omega,?_⟩
  rw [EvL_eq Zcr.eq_1]
  simp [hk,hx,s1,c,e,e2,hr]
theorem Zl8 (k:Int) (h1:0≤k) (h2:k≤4000000000000000000):∃ s,C Zdu [I k] []=some (.t (.str s),[]):=by
 by_cases h0:k=0
 ·subst h0
  refine ⟨⟨#[109,48]⟩,run Zht rfl ?_⟩
  simp [Ze1]
 ·have h3:¬ k≤0:=by omega
  obtain ⟨s,hs,hr⟩:=Zl7 [.blk 0,.seq (.seq (.reg [⟨some 18,none,.mov (.s 3)⟩,⟨some 19,none,.bin .add (.c (.t (.str ⟨#[109]⟩))) (.s 18)⟩,⟨some 2,none,.mov (.s 19)⟩] [2]) .ret),.fin 0 [.tmp 2]] k.toNat k ⟨#[]⟩ (Nat.le_refl _) (by simp [ByteArray.size];omega) h1
  have c:(⟨#[109]⟩:ByteArray).size+s.size≤9223372036854775807:=by
   have:(⟨#[]⟩:ByteArray).size=0:=rfl
   have:(⟨#[109]⟩:ByteArray).size=1:=rfl
   omega
  refine ⟨⟨#[109]⟩++s,run Zht rfl ?_⟩
  simp at hr
  simp [Ze1,h3,hr,c]
noncomputable def mtext (k:Int):ByteArray:=match C Zdu [I k] [] with
 | some (.t (.str s),[])=>s
 | _=>⟨#[]⟩
theorem Zl9 (k:Int) (h1:0≤k) (h2:k≤4000000000000000000):C Zdu [I k] []=some (.t (.str (mtext k)),[]):=by
 obtain ⟨s,h⟩:=Zl8 k h1 h2
 have:mtext k=s:=by unfold mtext;rw [h]
 rw [this,h]
end Go.Proofs.Ytdfoicjjheifeaa
/- part: MR -/
namespace Go.Proofs.Ytdfoicjjheifeaa
open Go.AM
theorem Zma (xs:List Int) (k:Int) (h1:0≤k) (h2:k+(xs.length:Int)≤4000000000000000000) (h3:SmA xs):(xs.map ic=[]∧(mkI xs (k)).map ic=[]∧C Zcy [.t (.lst 1 []),I k] []=some (I (k+(xs.length:Int)),[]))∨∃ y ys,xs.map ic=y::ys∧True∧C Zcy [.own 0,I k] [.xarr unk 1 (y::ys)]=some (I (k+(xs.length:Int)),[.xarr unk 1 ((mkI xs (k)).map ic)]):=by
 have c:=Zl5 unk xs k h1 (by omega) h3
 cases xs with
 | nil=>exact .inl ⟨rfl,rfl,by have:=Zl6 1 k;simpa [mkI,mkL] using this⟩
 | cons y ys=>exact .inr ⟨_,_,rfl,trivial,c⟩
noncomputable def Zct (a:Atom) (k:Int):Atom:=⟨mtext (k),mkI a.Vars (k+1)⟩
def Zz (a:Atom):Nat:=1+a.Vars.length
noncomputable def Zb5 (xs:List Atom) (k:Int):List Atom:=mkL Zct Zz xs k
def Zo (xs:List Atom):Nat:=cnL Zz xs
theorem Zmb (x:Atom) (xs:List Atom) (k:Int):Zb5 (x::xs) k=Zct x k::Zb5 xs (k+(Zz x:Int)):=rfl
theorem Zmc (e:Nat) (fr:List Fr):∀ (xs d:List Atom) (k:Int),0≤k→k+(Zo xs:Int)≤4000000000000000000→d.length+xs.length≤4294967296→(∀ x∈xs,x.small)→EvL C fr [0,1,5] Zdk ⟨[(0,.own 0),(1,I k),(5,I d.length)],[[(0,.own 0)]],[.xarr e 2 ((d++xs).map Atom.c)]⟩ =
  EvX C fr (.x 0) ⟨[(0,.own 0),(1,I (k+Zo xs)),(5,I (d.length+xs.length)),(9,Bo false)],[[(0,.own 0)]],[.xarr e 2 ((d++Zb5 xs k).map Atom.c)]⟩:=by
 intro xs
 induction xs with
 | nil =>
  intro d k h1 h2 h3 h4
  rw [EvL_eq Zdk.eq_1]
  simp [Zb5,Zo,cnL,mkL]
 | cons x xs ih =>
  intro d k h1 h2 h3 h4
  have hx:=h4 x (by simp)
  have e0:Zo (x::xs)=Zz x+Zo xs:=rfl
  rw [e0] at h2
  simp only [List.length_cons] at h3
  rcases x with ⟨x0,x1⟩
  have e1:Zz ⟨x0,x1⟩=1+x1.length:=rfl
  have eK:k+(Zz ⟨x0,x1⟩:Int)=k+1+(x1.length:Int):=by omega
  have eL:k+(Zo (⟨x0,x1⟩::xs):Int)=k+1+(x1.length:Int)+(Zo xs:Int):=by omega
  have ih':=ih (d++[Zct ⟨x0,x1⟩ k]) (k+1+(x1.length:Int)) (by omega) (by omega) (by simp;omega) (fun y hy=>h4 y (by simp [hy]))
  rw [EvL_eq Zdk.eq_1,eL,Zmb,eK]
  have g1:IntKind.wrap .i64 ((d.length:Int)+1)=(d.length:Int)+1:=wrap64 (by omega) (by omega)
  have g3:(d.length:Int)<(d.length:Int)+((xs.length:Int)+1):=by omega
  have g5:(d.length:Int)+1+(xs.length:Int)=(d.length:Int)+((xs.length:Int)+1):=by omega
  have w0:IntKind.wrap .i64 (k+1)=k+1:=wrap64 (by omega) (by omega)
  have t0:=Zl9 (k) (by omega) (by omega)
  have m0:=Zma x1 (k+1) (by omega) (by omega) (by first | exact hx | exact hx.1 | exact hx.2 | exact hx.2.1 | exact hx.2.2 | exact hx.2.2.1 | exact hx.2.2.2 | exact hx.2.2.2.1 | exact hx.2.2.2.2 | exact hx.2.2.2.2.1 | exact hx.2.2.2.2.2)
  rcases m0 with ⟨r0,s0,m0⟩ | ⟨y0,ys0,r0,s0,m0⟩
  all_goals (simp [g5,Zct,tI,r0,s0] at ih';simp [g1,g3,w0,t0,m0,r0,s0,ih',Zct,tI])
theorem Zmd (e:Nat) (xs:List Atom) (k:Int) (h1:0≤k) (h2:k+(Zo xs:Int)≤4000000000000000000) (h3:SmL Atom.small xs):C Zip [.own 0,I k] [.xarr e 2 (xs.map Atom.c)]=some (I (k+Zo xs),[.xarr e 2 ((Zb5 xs k).map Atom.c)]):=by
 refine runM Zlf rfl ?_
 have h4:=fun fr=>Zmc e fr xs [] k h1 h2 (by have:xs.length≤4294967296:=h3.1;simp;omega) h3.2
 simp at h4
 simp [Zhl,h4]
noncomputable def Zbh (a:Zb) (k:Int):Zb:=⟨k,k+1,k+1+1⟩
def Z5 (a:Zb):Nat:=1+1+1
noncomputable def Zv (xs:List Zb) (k:Int):List Zb:=mkL Zbh Z5 xs k
def Zg (xs:List Zb):Nat:=cnL Z5 xs
theorem Zhy (x:Zb) (xs:List Zb) (k:Int):Zv (x::xs) k=Zbh x k::Zv xs (k+(Z5 x:Int)):=rfl
theorem Zme (e:Nat) (fr:List Fr):∀ (xs d:List Zb) (k:Int),0≤k→k+(Zg xs:Int)≤4000000000000000000→d.length+xs.length≤4294967296→(∀ x∈xs,x.small)→EvL C fr [0,1,5] Zcp ⟨[(0,.own 0),(1,I k),(5,I d.length)],[[(0,.own 0)]],[.xarr e 3 ((d++xs).map Zb.c)]⟩ =
  EvX C fr (.x 0) ⟨[(0,.own 0),(1,I (k+Zg xs)),(5,I (d.length+xs.length)),(9,Bo false)],[[(0,.own 0)]],[.xarr e 3 ((d++Zv xs k).map Zb.c)]⟩:=by
 intro xs
 induction xs with
 | nil =>
  intro d k h1 h2 h3 h4
  rw [EvL_eq Zcp.eq_1]
  simp [Zv,Zg,cnL,mkL]
 | cons x xs ih =>
  intro d k h1 h2 h3 h4
  have hx:=h4 x (by simp)
  have e0:Zg (x::xs)=Z5 x+Zg xs:=rfl
  rw [e0] at h2
  simp only [List.length_cons] at h3
  rcases x with ⟨x0,x1,x2⟩
  have e1:Z5 ⟨x0,x1,x2⟩=1+1+1:=rfl
  have eK:k+(Z5 ⟨x0,x1,x2⟩:Int)=k+1+1+1:=by omega
  have eL:k+(Zg (⟨x0,x1,x2⟩::xs):Int)=k+1+1+1+(Zg xs:Int):=by omega
  have ih':=ih (d++[Zbh ⟨x0,x1,x2⟩ k]) (k+1+1+1) (by omega) (by omega) (by simp;omega) (fun y hy=>h4 y (by simp [hy]))
  rw [EvL_eq Zcp.eq_1,eL,Zhy,eK]
  have g1:IntKind.wrap .i64 ((d.length:Int)+1)=(d.length:Int)+1:=wrap64 (by omega) (by omega)
  have g3:(d.length:Int)<(d.length:Int)+((xs.length:Int)+1):=by omega
  have g5:(d.length:Int)+1+(xs.length:Int)=(d.length:Int)+((xs.length:Int)+1):=by omega
  have w0:IntKind.wrap .i64 (k+1)=k+1:=wrap64 (by omega) (by omega)
  have w1:IntKind.wrap .i64 (k+1+1)=k+1+1:=wrap64 (by omega) (by omega)
  have w2:IntKind.wrap .i64 (k+1+1+1)=k+1+1+1:=wrap64 (by omega) (by omega)
  (simp [g5,Zbh,tI] at ih';simp [g1,g3,w0,w1,w2,ih',Zbh,tI])
theorem Zmf (e:Nat) (xs:List Zb) (k:Int) (h1:0≤k) (h2:k+(Zg xs:Int)≤4000000000000000000) (h3:SmA xs):C Zfq [.own 0,I k] [.xarr e 3 (xs.map Zb.c)]=some (I (k+Zg xs),[.xarr e 3 ((Zv xs k).map Zb.c)]):=by
 refine runM Zhm rfl ?_
 have h4:=fun fr=>Zme e fr xs [] k h1 h2 (by have:xs.length≤4294967296:=h3;simp;omega) (fun _ _=>trivial)
 simp at h4
 simp [Zez,h4]
theorem Zmg (k:Int):C Zfq [.t .nil,I k] []=some (I k,[]):=by
 refine run Zhm rfl ?_
 simp [Zez,EvL_eq Zcp.eq_1]
theorem Zmh (fr:List Fr):∀ (xs d:List Zb) (k:Int),0≤k→k+(Zg xs:Int)≤4000000000000000000→d.length+xs.length≤4294967296→(∀ x∈xs,x.small)→EvL C fr [0,1,5] Zcq ⟨[(0,L 3 ((d++Zv xs k).map Zb.c)),(1,I k),(5,I d.length)],[[]],[]⟩ =
  EvX C fr (.x 0) ⟨[(0,L 3 ((d++Zv xs k).map Zb.c)),(1,I (k+Zg xs)),(5,I (d.length+xs.length)),(9,Bo false)],[[]],[]⟩:=by
 intro xs
 induction xs with
 | nil =>
  intro d k h1 h2 h3 h4
  rw [EvL_eq Zcq.eq_1]
  simp [Zv,Zg,cnL,mkL]
 | cons x xs ih =>
  intro d k h1 h2 h3 h4
  have hx:=h4 x (by simp)
  have e0:Zg (x::xs)=Z5 x+Zg xs:=rfl
  rw [e0] at h2
  simp only [List.length_cons] at h3
  rcases x with ⟨x0,x1,x2⟩
  have e1:Z5 ⟨x0,x1,x2⟩=1+1+1:=rfl
  have eK:k+(Z5 ⟨x0,x1,x2⟩:Int)=k+1+1+1:=by omega
  have eL:k+(Zg (⟨x0,x1,x2⟩::xs):Int)=k+1+1+1+(Zg xs:Int):=by omega
  have ih':=ih (d++[Zbh ⟨x0,x1,x2⟩ k]) (k+1+1+1) (by omega) (by omega) (by simp;omega) (fun y hy=>h4 y (by simp [hy]))
  rw [EvL_eq Zcq.eq_1,eL,Zhy,eK]
  have g1:IntKind.wrap .i64 ((d.length:Int)+1)=(d.length:Int)+1:=wrap64 (by omega) (by omega)
  have g3:(d.length:Int)<(d.length:Int)+(((Zv xs (k+1+1+1)).length:Int)+1):=by omega
  have g5:(d.length:Int)+1+(xs.length:Int)=(d.length:Int)+((xs.length:Int)+1):=by omega
  have w0:IntKind.wrap .i64 (k+1)=k+1:=wrap64 (by omega) (by omega)
  have w1:IntKind.wrap .i64 (k+1+1)=k+1+1:=wrap64 (by omega) (by omega)
  have w2:IntKind.wrap .i64 (k+1+1+1)=k+1+1+1:=wrap64 (by omega) (by omega)
  simp [g5,Zbh,tI] at ih'
  simp +decide [g1,g3,w0,w1,w2,ih',Zbh,tI]
theorem Zmi (xs:List Zb) (k:Int) (h1:0≤k) (h2:k+(Zg xs:Int)≤4000000000000000000) (h3:SmA xs):C Zfr [L 3 ((Zv xs k).map Zb.c),I k] []=some (I (k+Zg xs),[]):=by
 refine run Zhn rfl ?_
 have h4:=fun fr=>Zmh fr xs [] k h1 h2 (by have:xs.length≤4294967296:=h3;simp;omega) (fun _ _=>trivial)
 simp at h4
 simp [Ze0,h4]
theorem Zmj (k:Int):C Zfr [.t .nil,I k] []=some (I k,[]):=by
 refine run Zhn rfl ?_
 simp [Ze0,EvL_eq Zcq.eq_1]
theorem Zhz (e0:Nat) (x0:List Zb) (k:Int) (h1:0≤k) (h2:k+(Zg x0:Int)≤4000000000000000000) (sx0:SmA x0):C Zfn [.agg [.own 0],I k] [.xarr e0 3 (x0.map Zb.c)]=some (I (k+(Zg x0:Int)),[.xarr e0 3 ((Zv x0 (k)).map Zb.c)]):=by
 refine runM Zhe rfl ?_
 have m0:=Zmf e0 x0 (k) (by omega) (by omega) sx0
 simp [Zew,m0]
theorem Zmk  (k:Int):C Zfn [.agg [.t .nil],I k] []=some (I k,[]):=by
 refine run Zhe rfl ?_
 simp [Zew,Zmg]
theorem Zml (x0:List Zb) (k:Int) (h1:0≤k) (h2:k+(Zg x0:Int)≤4000000000000000000) (sx0:SmA x0):C Zfo [.agg [.t (.lst 3 ((Zv x0 (k)).map Zb.c))],I k] []=some (I (k+(Zg x0:Int)),[]):=by
 refine run Zhf rfl ?_
 have m0:=Zmi x0 (k) (by omega) (by omega) sx0
 have z0:¬ (k+(Zg x0:Int)<0):=by omega
 simp [Zex,tI,m0,z0]
theorem Zmm  (k:Int) (h1:0≤k):C Zfo [.agg [.t .nil],I k] []=some (I k,[]):=by
 refine run Zhf rfl ?_
 have z:¬ (k<0):=by omega
 simp [Zex,z,h1,Zmj]
theorem Zmn (e0:Nat) (x0:Int) (x1:List Atom) (k:Int) (h1:0≤k) (h2:k+(Zo x1:Int)≤4000000000000000000) (sx1:SmL Atom.small x1):C Zij [.agg [I x0,.own 0],I k] [.xarr e0 2 (x1.map Atom.c)]=some (I (k+(Zo x1:Int)),[.xarr e0 2 ((Zb5 x1 (k)).map Atom.c)]):=by
 refine runM Zk9 rfl ?_
 have m0:=Zmd e0 x1 (k) (by omega) (by omega) sx1
 simp [Zhd,m0]
theorem Zdn {n:Nat} {left:Int} (hn:n≤maxLen) (h0:0≤left) (h1:left≤1048576) (h:0≤sz1 n left):sz1 n left≤left∧(n:Int)≤left - sz1 n left:=by
 unfold maxLen at hn
 have hw:IntKind.wrap .i64 (left - n)=left - n:=wrap64 (by omega) (by omega)
 unfold sz1 at h ⊢
 rw [hw] at h ⊢
 split at h
 ·omega
 ·rename_i hx;rw [if_neg hx];omega
theorem Zh0 {α:Type} {f:α→Int→Int} {n:α→Nat} {M:Int}:∀ (xs:List α) (left:Int),(∀ x∈xs,∀ l,0≤l→l≤M→0≤f x l→f x l≤l∧(n x:Int)≤16+16*(l - f x l))→0≤left→left≤M→0≤szFold f xs left→szFold f xs left≤left∧(cnL n xs:Int)≤16*(xs.length:Int)+16*(left - szFold f xs left)
 | [],left,_,_,_,h=>by simp [szFold,cnL]
 | x::xs,left,hf,h0,h1,h=>by
  unfold szFold at h ⊢
  split at h
  ·omega
  ·rename_i hx
   rw [if_neg hx]
   obtain ⟨h2,h3⟩:=hf x (by simp) left h0 h1 (by omega)
   obtain ⟨h4,h5⟩:=Zh0 xs (f x left) (fun y hy=>hf y (by simp [hy])) (by omega) (by omega) h
   have e:cnL n (x::xs)=n x+cnL n xs:=rfl
   rw [e,List.length_cons]
   omega
theorem szL_ct {α:Type} {f:α→Int→Int} {n:α→Nat} {xs:List α} {left:Int} (hn:xs.length≤maxLen) (hf:∀ x∈xs,∀ l,0≤l→l≤1048576→0≤f x l→f x l≤l∧(n x:Int)≤16+16*(l - f x l)) (h0:0≤left) (h1:left≤1048576) (h:0≤szL f xs left) :
  szL f xs left≤left∧(cnL n xs:Int)≤16*(left - szL f xs left):=by
 unfold szL andSz at h ⊢
 split at h
 ·omega
 ·rename_i hx
  rw [if_neg hx]
  have a:=Zdn hn h0 h1 (by omega)
  have b:=Zh0 xs _ hf (by omega) (by omega) h
  omega
theorem Zh1 {α:Type} {n:α→Nat} {c:Nat} (h:∀ x,n x=c):∀ xs:List α,cnL n xs=c*xs.length
 | []=>rfl
 | x::xs=>by
  have e:cnL n (x::xs)=n x+cnL n xs:=rfl
  rw [e,h,Zh1 h xs,List.length_cons,Nat.mul_succ,Nat.add_comm]
def Ze4 (x:Atom):Nat:=x.Vars.length
theorem Atom.ct (x:Atom) (l:Int) (hx:x.okay) (h0:0≤l) (h1:l≤1048576) (h:0≤x.sz l):x.sz l≤l∧(Ze4 x:Int)≤16*(l - x.sz l):=by
 unfold Atom.sz at h ⊢
 simp only [andSz] at h ⊢
 split at h
 ·omega
 rename_i q0
 rw [if_neg q0]
 have s0:=Zdn hx.1 h0 h1 (Int.not_lt.1 q0)
 split at h
 ·omega
 rename_i q1
 rw [if_neg q1]
 have s1:=Zdn hx.2.1 (by omega) (by omega) (Int.not_lt.1 q1)
 refine ⟨by omega,?_⟩
 unfold Ze4
 omega
theorem Zmo (x:Atom) (l:Int) (hx:x.okay) (h0:0≤l) (h1:l≤1048576) (h:0≤x.sz l):x.sz l≤l∧(Zz x:Int)≤16+16*(l - x.sz l):=by
 have a:=Atom.ct x l hx h0 h1 h
 unfold Ze4 at a
 unfold Zz
 omega
def Ze5 (x:Zc):Nat:=Zo x.Atoms
theorem Zc.ct (x:Zc) (l:Int) (hx:x.okay) (h0:0≤l) (h1:l≤1048576) (h:0≤x.sz l):x.sz l≤l∧(Ze5 x:Int)≤16*(l - x.sz l):=by
 unfold Zc.sz at h ⊢
 simp only [andSz] at h ⊢
 split at h
 ·omega
 rename_i q0
 rw [if_neg q0]
 have s0:=szL_ct (n:=Zz) hx.2.1 (fun y hy l a b c=>Zmo y l (hx.2.2 y hy) a b c) h0 h1 (Int.not_lt.1 q0)
 refine ⟨by omega,?_⟩
 unfold Ze5
 have v0:Zo x.Atoms=cnL Zz x.Atoms:=rfl
 omega
theorem Zh2 (xs:List Zb):Zg xs=3*xs.length:=Zh1 (fun _=>rfl) xs
def Ze6 (x:Plan):Nat:=Zg x.Steps
theorem Plan.ct (x:Plan) (l:Int) (hx:x.okay) (h0:0≤l) (h1:l≤1048576) (h:0≤x.sz l):x.sz l≤l∧(Ze6 x:Int)≤16*(l - x.sz l):=by
 unfold Plan.sz at h ⊢
 simp only [andSz] at h ⊢
 split at h
 ·omega
 rename_i q0
 rw [if_neg q0]
 have s0:=Zdn hx.1 h0 h1 (Int.not_lt.1 q0)
 refine ⟨by omega,?_⟩
 unfold Ze6
 have v0:=Zh2 x.Steps
 omega
end Go.Proofs.Ytdfoicjjheifeaa
/- part: L12 -/
namespace Go.Proofs.Ytdfoicjjheifeaa
open Go.AM
theorem Zmp:C Zfp [.t .nil,.t .nil] []=some (Bo true,[]):=by
 refine run Zhk rfl ?_
 simp [Zdi,EvL_eq Zco.eq_1]
theorem Zmq:C Zfm [.agg [.t .nil],.agg [.t .nil]] []=some (Bo true,[]):=by
 refine run Zhb rfl ?_
 simp [Zev,Zmp]
theorem Zh3 (q:Zc) (p:Plan) (k:Int) (hq:q.okay) (hp:p.okay) (hk:OkI k):C Zid [.agg (q.c.map .t),.agg (p.c.map .t),I k] []=some (Bo true,[]):=by
 refine run Zk3 rfl ?_
 have e1:=fun l=>Zlw q.Zd q.Atoms l (hq.2)
 by_cases h1:Zc.sz q (1048576)<0
 ·simp [Zcn,e1,h1]
 obtain ⟨b1,g1⟩:=Zc.sz_ok q _ hq (by omega) (by omega) (by omega:0≤Zc.sz q (1048576))
 have u1:=(Zc.ct q _ hq (by omega) (by omega) (by omega:0≤Zc.sz q (1048576))).2
 unfold Ze5 at u1
 have e2:=fun l=>c_szPlan p.Steps l
 by_cases h2:Plan.sz p (Zc.sz q (1048576))<0
 ·simp [Zcn,e1,h1,e2,h2]
 obtain ⟨b2,g2⟩:=Plan.sz_ok p _ hp (by omega) (by omega) (by omega:0≤Plan.sz p (Zc.sz q (1048576)))
 have u2:=(Plan.ct p _ hp (by omega) (by omega) (by omega:0≤Plan.sz p (Zc.sz q (1048576)))).2
 unfold Ze6 at u2
 have t1:=Zlu q.Zd q.Atoms (g1)
 have q1:=fun y0 y1=>Zlv q.Zd q.Atoms y0 y1 (g1)
 have t2:=c_toPlan p.Steps (g2)
 have q2:=fun y0=>Zhx p.Steps y0 (g2)
 have m1:=fun a0=>Zmn a0 q.Zd q.Atoms (1) (by omega) (by omega) (g1)
 have m2:=fun a0=>Zhz a0 p.Steps (1+(Zo q.Atoms:Int)) (by omega) (by omega) (g2)
 have zk:¬ (1+(Zo q.Atoms:Int)+(Zg p.Steps:Int)<0):=by omega
 have nq:LeQ q:=⟨by have:=g1.1;omega,fun x hx=>by have:=(g1.2 x hx).2;omega⟩
 have s0:=Zk1 q nq p k
 have s1:=Zkz q nq p k
 unfold Zde at s0
 unfold Zc7 at s1
 simp only [Zc.c_def,Plan.c_def,List.map_cons,List.map_nil] at s0 s1
 rcases Zk2 q p k with e | ⟨l,hl,e⟩
 ·rw [e] at s0 s1
  unfold noP at s0 s1
  simp +decide [Zcn,e1,h1,e2,h2,t1,q1,t2,q2,m1,m2,zk,s0,s1,Zmq,Zmk,Zmm]
 ·rw [e] at s0 s1
  unfold yesP at s0 s1
  have v2:=Zh2 l
  have q7:=Zhx l l (by omega)
  have m6:=fun a0=>Zhz a0 l 1 (by omega) (by omega) (by omega)
  have m7:=Zml l 1 (by omega) (by omega) (by omega)
  have z2:¬ (1+(Zg l:Int)<0):=by omega
  simp +decide [Zcn,e1,h1,e2,h2,t1,q1,t2,q2,m1,m2,zk,s0,s1,q7,m6,m7,z2]
end Go.Proofs.Ytdfoicjjheifeaa
