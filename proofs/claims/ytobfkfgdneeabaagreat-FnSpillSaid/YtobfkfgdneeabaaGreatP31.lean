/-
  Parts of the proofs for this seat: PC PC2.
-/
import Derived.Test.YtobfkfgdneeabaaGreatP30
set_option linter.all false
set_option maxRecDepth 100000
set_option maxHeartbeats 4000000
namespace Go.Proofs.YtobfkfgdneeabaaGreat
open Go.AM
structure sD (n:Nat) (x:Zn) (y:Zf):Prop where
 kind:1<=x.Kind/\x.Kind<=5
 refs:(y.Left=-1/\y.Right=-1)\/((0<=y.Left/\y.Left.toNat<n)/\(y.Right=-1\/(0<=y.Right/\y.Right.toNat<n)))
def sD.mono{n k:Nat}{x:Zn}{y:Zf}(h:sD n x y)(hk:n<=k):sD k x y:=by
 refine⟨h.kind,h.refs.imp id λ⟨⟨a,b⟩,c⟩=>⟨⟨a,E⟩,c.imp id λ⟨d,e⟩=>⟨d,E⟩⟩⟩
def ZQY{qa:List Zd}{x:Zn}{info:List Zf}{st:V2}{y:Zf}(hs:Vc info st)(h:Wm qa x info st=some y):sD info.length x y:=by
 unfold Wm at h;split at h
 .rename_i k1;split at h
  .cases h;exact⟨E,.inl ⟨rfl,rfl⟩⟩
  .cases h
 .rename_i k1;split at h
  .cases h
  .split at h
   .rename_i k2;split at h
    .rename_i s y' ht;split at h
     .cases h;obtain⟨_,t2,t3,_⟩:=VV hs (Yi 1) ht;exact⟨E,.inr ⟨⟨t2,t3⟩,.inl rfl⟩⟩
     .cases h
    .cases h
   .rename_i k2;split at h
    .rename_i s y' t z ht hu;split at h
     .obtain⟨_,t2,t3,_⟩:=VV hs (E:1<=2) ht;obtain⟨_,u2,u3,_⟩:=VV hs (E:1<=1) hu;obtain⟨o,ho,rfl⟩:=Yr.1 h;have hk:x.Kind=3\/x.Kind=4\/x.Kind=5:=by
       unfold Vw at ho
       grind
      exact⟨E,.inr ⟨⟨t2,t3⟩,.inr ⟨u2,u3⟩⟩⟩
     .cases h
    .cases h
def sE(xs:V2):Bool:=xs.all (λx=>Am x 0 4096)
def Zrm(n:Int)(qa:List Zd)(xs:V2):Bool:=Zx n qa && decide ((xs.length:Int)=ZU n qa+1) && sE xs
def Wq(sizes:V2)(m:Int):Int:=(sizes[m.toNat]?).getD 0
def XN(info:List Zf)(i:Int):Int:=match info[i.toNat]? with|some y=>y.Mask|none=>0
def Ja(m:Zt)(info:List Zf)(sizes:V2)(x:Zn)(y:Zf):Int :=
 WB (BC m x.Kind) (if y.Left<0 then Wq sizes y.Mask else Wq sizes (XN info y.Left)) (if y.Right<0 then 0 else Wq sizes (XN info y.Right)) (Wq sizes y.Mask)
def sF(m:Zt)(info:List Zf)(sizes:V2):List Zn->List Zf->V2
 |x::xs,y::ys=>Ja m info sizes x y::sF m info sizes xs ys
 |_,_=>[]
def ZEn(m:Zt)(n:Int)(qa:List Zd)(c:List Zn)(sizes:V2):V2:=match ZG n qa c with
 |some info=>if Zrm n qa sizes=true then sF m info sizes c info else[]
 |none=>[]
def kinds{k:Int}(h:1<=k/\k<=5):k=1\/k=2\/k=3\/k=4\/k=5:=by omega
def ZEo(n:Int)(qa:List Zd)(c:List Zn)(sizes:V2):Bool:=(ZG n qa c).isSome && Zrm n qa sizes
def Zrn(xs:V2)(n:Int):Int:=xs.foldl (λa b=>w (a+b)) n
def Z2S(m:Zt)(n:Int)(qa:List Zd)(c:List Zn)(sizes:V2):Int:=if ZEo n qa c sizes=true then Zrn (ZEn m n qa c sizes) 0 else -1
