/-
  Parts of the proofs for this seat: XP.
-/
import Derived.Test.YtgbipcfdgfjplaaGreatP20
set_option linter.unusedSectionVars false
set_option linter.unusedSimpArgs false
set_option linter.unusedVariables false
set_option maxRecDepth 100000
set_option maxHeartbeats 4000000
namespace Go.Proofs.YtgbipcfdgfjplaaGreat
open Go.AM
theorem Zz9{X:Z0}{tbl t1:Nat->Option MFun}(h:∀f m,t1 f=some m->tbl f=some m):∀n,LeE (Xp (λ_ _ _=>none) t1 n) (Xp X tbl n)
 |0=>λ_ _ _ _ h=>by cases h
 |n+1=>λf xs h0 r hr=>by
  simp only[Xp]at hr|-
  cases hm:t1 f with
  |none=>simp only[hm]at hr;cases hr
  |some m =>
   simp only[hm,h f m hm]at hr|-;split at hr
   .rename_i hl;rw[Ya hl];exact Zec (Zz9 h n) n hr
   .cases hr
def Zjq:List (Nat×MFun)->Nat->Option MFun
 |[],_=>none
 |(k,m)::l,f=>match Nat.beq k f with
  |true=>some m
  |false=>Zjq l f
theorem ZzA{tbl:Nat->Option MFun}:∀(l:List (Nat×MFun)),(∀p∈l,tbl p.1=some p.2)->∀f m,Zjq l f=some m->tbl f=some m
 |[],_,f,m,h=>by cases h
 |(k,m')::l,hl,f,m,h=>by
  unfold Zjq at h;split at h
  .rename_i e;rw[<-Nat.eq_of_beq_eq_true e,<-Yb8 h];exact hl (k,m') (by simp)
  .exact ZzA l (λp hp=>hl p (by simp[hp])) f m h
noncomputable def pqT:List (Nat×MFun):=[(243,Ztt),(60,Zlh),(299,Zto),(99,Zlk),(301,Ztq),(300,Ztr),(172,Zll),(63,Zlp),(336,Zts)]
theorem pqT_ok:∀p∈pqT,tbl p.1=some p.2:=by
 intro p hp;simp only[pqT,Yl,List.not_mem_nil,or_false]at hp;rcases hp with rfl|rfl|rfl|rfl|rfl|rfl|rfl|rfl|rfl
 .exact Z4e
 .exact Zw9
 .exact Z4a
 .exact ZwA
 .exact Z4b
 .exact Z4c
 .exact ZwB
 .exact ZwC
 .exact Z4d
theorem Ud{f:Nat}{xs:XQ}{h0:V1}{r:XR}(h:Xp (λ_ _ _=>none) (Zjq pqT) 20000 f xs h0=some r):C f xs h0=some r :=
 ZkI 20000 f xs h0 r (Zz9 (ZzA pqT pqT_ok) 20000 f xs h0 r h)
def VL(s:V5):Prop:=∃(n:Int) (x:List Zc),Zlr s=some (.tup [.agg [I n,.own 0],Bo true],[.xarr 185 2 (x.map Zc.c)])/\Zu n x=true
theorem pq0:VL ⟨#[114,40,88,89,41]⟩:=⟨2,[⟨⟨#[114]⟩,[0,1]⟩],Ud (by kernel_rfl),by decide⟩
theorem pq1:VL ⟨#[114,40,88,89,41,32,115,40,89,90,41]⟩:=⟨3,[⟨⟨#[114]⟩,[0,1]⟩,⟨⟨#[115]⟩,[1,2]⟩],Ud (by kernel_rfl),by decide⟩
theorem pq2:VL ⟨#[114,40,88,89,41,32,115,40,89,90,41,32,116,40,90,85,41]⟩:=⟨4,[⟨⟨#[114]⟩,[0,1]⟩,⟨⟨#[115]⟩,[1,2]⟩,⟨⟨#[116]⟩,[2,3]⟩],Ud (by kernel_rfl),by decide⟩
theorem pq3:VL ⟨#[114,40,88,89,41,32,115,40,89,90,41,32,116,40,90,88,41]⟩:=⟨3,[⟨⟨#[114]⟩,[0,1]⟩,⟨⟨#[115]⟩,[1,2]⟩,⟨⟨#[116]⟩,[2,0]⟩],Ud (by kernel_rfl),by decide⟩
theorem pq4:VL ⟨#[114,40,88,89,41,32,115,40,88,90,41,32,116,40,88,85,41]⟩:=⟨4,[⟨⟨#[114]⟩,[0,1]⟩,⟨⟨#[115]⟩,[0,2]⟩,⟨⟨#[116]⟩,[0,3]⟩],Ud (by kernel_rfl),by decide⟩
theorem pq5:VL ⟨#[114,40,88,89,41,32,115,40,89,90,41,32,118,40,89,41]⟩:=⟨3,[⟨⟨#[114]⟩,[0,1]⟩,⟨⟨#[115]⟩,[1,2]⟩,⟨⟨#[118]⟩,[1]⟩],Ud (by kernel_rfl),by decide⟩
theorem pq6:VL ⟨#[117,40,88,89,90,41,32,115,40,90,85,41]⟩:=⟨4,[⟨⟨#[117]⟩,[0,1,2]⟩,⟨⟨#[115]⟩,[2,3]⟩],Ud (by kernel_rfl),by decide⟩
theorem pq7:VL ⟨#[117,40,88,89,90,41,32,114,40,88,89,41,32,118,40,90,41]⟩:=⟨3,[⟨⟨#[117]⟩,[0,1,2]⟩,⟨⟨#[114]⟩,[0,1]⟩,⟨⟨#[118]⟩,[2]⟩],Ud (by kernel_rfl),by decide⟩
theorem pq8:VL ⟨#[114,40,88,89,41,32,115,40,89,90,41,32,116,40,90,85,41,32,118,40,88,41]⟩:=⟨4,[⟨⟨#[114]⟩,[0,1]⟩,⟨⟨#[115]⟩,[1,2]⟩,⟨⟨#[116]⟩,[2,3]⟩,⟨⟨#[118]⟩,[0]⟩],Ud (by kernel_rfl),by decide⟩
theorem pq9:VL ⟨#[114,40,88,89,41,32,114,40,89,90,41]⟩:=⟨3,[⟨⟨#[114]⟩,[0,1]⟩,⟨⟨#[114]⟩,[1,2]⟩],Ud (by kernel_rfl),by decide⟩
theorem pq10:VL ⟨#[114,40,88,89,41,32,115,40,89,88,41]⟩:=⟨2,[⟨⟨#[114]⟩,[0,1]⟩,⟨⟨#[115]⟩,[1,0]⟩],Ud (by kernel_rfl),by decide⟩
theorem pq11:VL ⟨#[118,40,88,41,32,114,40,88,89,41,32,115,40,89,90,41,32,116,40,90,85,41]⟩:=⟨4,[⟨⟨#[118]⟩,[0]⟩,⟨⟨#[114]⟩,[0,1]⟩,⟨⟨#[115]⟩,[1,2]⟩,⟨⟨#[116]⟩,[2,3]⟩],Ud (by kernel_rfl),by decide⟩
theorem pq12:VL ⟨#[114,40,88,89,41,32,115,40,89,90,41,32,116,40,90,85,41,32,115,40,85,88,41]⟩:=⟨4,[⟨⟨#[114]⟩,[0,1]⟩,⟨⟨#[115]⟩,[1,2]⟩,⟨⟨#[116]⟩,[2,3]⟩,⟨⟨#[115]⟩,[3,0]⟩],Ud (by kernel_rfl),by decide⟩
abbrev ZpQ:List V5:=[(⟨#[114,40,88,89,41]⟩:V5),(⟨#[114,40,88,89,41,32,115,40,89,90,41]⟩:V5),(⟨#[114,40,88,89,41,32,115,40,89,90,41,32,116,40,90,85,41]⟩:V5),(⟨#[114,40,88,89,41,32,115,40,89,90,41,32,116,40,90,88,41]⟩:V5),(⟨#[114,40,88,89,41,32,115,40,88,90,41,32,116,40,88,85,41]⟩:V5),(⟨#[114,40,88,89,41,32,115,40,89,90,41,32,118,40,89,41]⟩:V5),(⟨#[117,40,88,89,90,41,32,115,40,90,85,41]⟩:V5),(⟨#[117,40,88,89,90,41,32,114,40,88,89,41,32,118,40,90,41]⟩:V5),(⟨#[114,40,88,89,41,32,115,40,89,90,41,32,116,40,90,85,41,32,118,40,88,41]⟩:V5),(⟨#[114,40,88,89,41,32,114,40,89,90,41]⟩:V5),(⟨#[114,40,88,89,41,32,115,40,89,88,41]⟩:V5),(⟨#[118,40,88,41,32,114,40,88,89,41,32,115,40,89,90,41,32,116,40,90,85,41]⟩:V5),(⟨#[114,40,88,89,41,32,115,40,89,90,41,32,116,40,90,85,41,32,115,40,85,88,41]⟩:V5)]
theorem ZAe:∀s∈ZpQ,VL s:=by
 intro s hs;simp only[ZpQ,Yl,List.not_mem_nil,or_false]at hs;rcases hs with rfl|rfl|rfl|rfl|rfl|rfl|rfl|rfl|rfl|rfl|rfl|rfl|rfl
 .exact pq0
 .exact pq1
 .exact pq2
 .exact pq3
 .exact pq4
 .exact pq5
 .exact pq6
 .exact pq7
 .exact pq8
 .exact pq9
 .exact pq10
 .exact pq11
 .exact pq12
end Go.Proofs.YtgbipcfdgfjplaaGreat
