/-
  Parts of the proofs for this seat: XP.
-/
import Derived.Test.YtdbnflilbkjbhaaP16
set_option linter.unusedSectionVars false
set_option linter.unusedSimpArgs false
set_option linter.unusedVariables false
set_option maxRecDepth 100000
set_option maxHeartbeats 4000000
namespace Go.Proofs.Ytdbnflilbkjbhaa
open Go.AM
theorem Z2c{X:Zo}{tbl t1:Nat->Option MFun}(h:∀f m,t1 f=some m->tbl f=some m):∀n,LeE (Zbk (λ_ _ _=>none) t1 n) (Zbk X tbl n)
 |0=>λ_ _ _ _ h=>by cases h
 |n+1=>λf xs h0 r hr=>by
  simp only[Zbk]at hr|-
  cases hm:t1 f with
  |none=>simp only[hm]at hr;cases hr
  |some m =>
   simp only[hm,h f m hm]at hr|-;split at hr
   .rename_i hl;rw[if_pos hl];exact Zkv (Z2c h n) n hr
   .cases hr
def tabL:List (Nat×MFun)->Nat->Option MFun
 |[],_=>none
 |(k,m)::l,f=>match Nat.beq k f with
  |true=>some m
  |false=>tabL l f
theorem Z2d{tbl:Nat->Option MFun}:∀(l:List (Nat×MFun)),(∀p∈l,tbl p.1=some p.2)->∀f m,tabL l f=some m->tbl f=some m
 |[],_,f,m,h=>by cases h
 |(k,m')::l,hl,f,m,h=>by
  unfold tabL at h;split at h
  .rename_i e;rw[<-Nat.eq_of_beq_eq_true e,<-Option.some.inj h];exact hl (k,m') (by simp)
  .exact Z2d l (λp hp=>hl p (by simp[hp])) f m h
def pqT:List (Nat×MFun):=[(67,Zyc),(26,Zqn),(82,Zx7),(69,Zog),(84,Zx9),(83,Zya),(85,Zra),(86,Zrd),(96,Zyb)]
theorem pqT_ok:∀p∈pqT,tbl p.1=some p.2:=by
 intro p hp;simp only[pqT,Yr,List.not_mem_nil,or_false]at hp;rcases hp with rfl|rfl|rfl|rfl|rfl|rfl|rfl|rfl|rfl
 .exact Z7j
 .exact Zzz
 .exact Z7f
 .exact Zsm
 .exact Z7g
 .exact Z7h
 .exact Zz1
 .exact Zz2
 .exact Z7i
theorem Zdk{f:Nat}{xs:List AV}{h0:List Blk}{r:AV×List Blk}(h:Zbk (λ_ _ _=>none) (tabL pqT) 20000 f xs h0=some r):C f xs h0=some r :=
 Zvj 20000 f xs h0 r (Z2c (Z2d pqT pqT_ok) 20000 f xs h0 r h)
def Zda(s:ByteArray):Prop:=∃(n:Int) (x:List Atom),Zre s=some (.tup [.agg [I n,.own 0],Bo true],[.xarr 116 2 (x.map Atom.c)])/\Zs n x=true
theorem pq0:Zda ⟨#[114,40,88,89,41]⟩:=⟨2,[⟨⟨#[114]⟩,[0,1]⟩],Zdk (by kernel_rfl),by decide⟩
theorem pq1:Zda ⟨#[114,40,88,89,41,32,115,40,89,90,41]⟩:=⟨3,[⟨⟨#[114]⟩,[0,1]⟩,⟨⟨#[115]⟩,[1,2]⟩],Zdk (by kernel_rfl),by decide⟩
theorem pq2:Zda ⟨#[114,40,88,89,41,32,115,40,89,90,41,32,116,40,90,85,41]⟩:=⟨4,[⟨⟨#[114]⟩,[0,1]⟩,⟨⟨#[115]⟩,[1,2]⟩,⟨⟨#[116]⟩,[2,3]⟩],Zdk (by kernel_rfl),by decide⟩
theorem pq3:Zda ⟨#[114,40,88,89,41,32,115,40,89,90,41,32,116,40,90,88,41]⟩:=⟨3,[⟨⟨#[114]⟩,[0,1]⟩,⟨⟨#[115]⟩,[1,2]⟩,⟨⟨#[116]⟩,[2,0]⟩],Zdk (by kernel_rfl),by decide⟩
theorem pq4:Zda ⟨#[114,40,88,89,41,32,115,40,88,90,41,32,116,40,88,85,41]⟩:=⟨4,[⟨⟨#[114]⟩,[0,1]⟩,⟨⟨#[115]⟩,[0,2]⟩,⟨⟨#[116]⟩,[0,3]⟩],Zdk (by kernel_rfl),by decide⟩
theorem pq5:Zda ⟨#[114,40,88,89,41,32,115,40,89,90,41,32,118,40,89,41]⟩:=⟨3,[⟨⟨#[114]⟩,[0,1]⟩,⟨⟨#[115]⟩,[1,2]⟩,⟨⟨#[118]⟩,[1]⟩],Zdk (by kernel_rfl),by decide⟩
theorem pq6:Zda ⟨#[117,40,88,89,90,41,32,115,40,90,85,41]⟩:=⟨4,[⟨⟨#[117]⟩,[0,1,2]⟩,⟨⟨#[115]⟩,[2,3]⟩],Zdk (by kernel_rfl),by decide⟩
theorem pq7:Zda ⟨#[117,40,88,89,90,41,32,114,40,88,89,41,32,118,40,90,41]⟩:=⟨3,[⟨⟨#[117]⟩,[0,1,2]⟩,⟨⟨#[114]⟩,[0,1]⟩,⟨⟨#[118]⟩,[2]⟩],Zdk (by kernel_rfl),by decide⟩
theorem pq8:Zda ⟨#[114,40,88,89,41,32,115,40,89,90,41,32,116,40,90,85,41,32,118,40,88,41]⟩:=⟨4,[⟨⟨#[114]⟩,[0,1]⟩,⟨⟨#[115]⟩,[1,2]⟩,⟨⟨#[116]⟩,[2,3]⟩,⟨⟨#[118]⟩,[0]⟩],Zdk (by kernel_rfl),by decide⟩
theorem pq9:Zda ⟨#[114,40,88,89,41,32,114,40,89,90,41]⟩:=⟨3,[⟨⟨#[114]⟩,[0,1]⟩,⟨⟨#[114]⟩,[1,2]⟩],Zdk (by kernel_rfl),by decide⟩
theorem pq10:Zda ⟨#[114,40,88,89,41,32,115,40,89,88,41]⟩:=⟨2,[⟨⟨#[114]⟩,[0,1]⟩,⟨⟨#[115]⟩,[1,0]⟩],Zdk (by kernel_rfl),by decide⟩
theorem pq11:Zda ⟨#[118,40,88,41,32,114,40,88,89,41,32,115,40,89,90,41,32,116,40,90,85,41]⟩:=⟨4,[⟨⟨#[118]⟩,[0]⟩,⟨⟨#[114]⟩,[0,1]⟩,⟨⟨#[115]⟩,[1,2]⟩,⟨⟨#[116]⟩,[2,3]⟩],Zdk (by kernel_rfl),by decide⟩
theorem pq12:Zda ⟨#[114,40,88,89,41,32,115,40,89,90,41,32,116,40,90,85,41,32,115,40,85,88,41]⟩:=⟨4,[⟨⟨#[114]⟩,[0,1]⟩,⟨⟨#[115]⟩,[1,2]⟩,⟨⟨#[116]⟩,[2,3]⟩,⟨⟨#[115]⟩,[3,0]⟩],Zdk (by kernel_rfl),by decide⟩
abbrev knownQ:List ByteArray:=[(⟨#[114,40,88,89,41]⟩:ByteArray),(⟨#[114,40,88,89,41,32,115,40,89,90,41]⟩:ByteArray),(⟨#[114,40,88,89,41,32,115,40,89,90,41,32,116,40,90,85,41]⟩:ByteArray),(⟨#[114,40,88,89,41,32,115,40,89,90,41,32,116,40,90,88,41]⟩:ByteArray),(⟨#[114,40,88,89,41,32,115,40,88,90,41,32,116,40,88,85,41]⟩:ByteArray),(⟨#[114,40,88,89,41,32,115,40,89,90,41,32,118,40,89,41]⟩:ByteArray),(⟨#[117,40,88,89,90,41,32,115,40,90,85,41]⟩:ByteArray),(⟨#[117,40,88,89,90,41,32,114,40,88,89,41,32,118,40,90,41]⟩:ByteArray),(⟨#[114,40,88,89,41,32,115,40,89,90,41,32,116,40,90,85,41,32,118,40,88,41]⟩:ByteArray),(⟨#[114,40,88,89,41,32,114,40,89,90,41]⟩:ByteArray),(⟨#[114,40,88,89,41,32,115,40,89,88,41]⟩:ByteArray),(⟨#[118,40,88,41,32,114,40,88,89,41,32,115,40,89,90,41,32,116,40,90,85,41]⟩:ByteArray),(⟨#[114,40,88,89,41,32,115,40,89,90,41,32,116,40,90,85,41,32,115,40,85,88,41]⟩:ByteArray)]
theorem Zbbn:∀s∈knownQ,Zda s:=by
 intro s hs;simp only[knownQ,Yr,List.not_mem_nil,or_false]at hs;rcases hs with rfl|rfl|rfl|rfl|rfl|rfl|rfl|rfl|rfl|rfl|rfl|rfl|rfl
 .exact pq0
 .exact pq1
 .exact pq2
 .exact pq3
 .exact pq4
 .exact pq5
 .exact pq6
 .exact pq7
 .exact pq8
 .exact pq9
 .exact pq10
 .exact pq11
 .exact pq12
end Go.Proofs.Ytdbnflilbkjbhaa
