/-
  Parts of the proofs for this seat: TX EX H.
-/
import Derived.JoinedTies
import Derived.KernelRfl
import Derived.RowKit
import Derived.Test.YteaiinkcanpleaaGreatProg
import GoSem.Claim
import GoSem.ClaimJoined
import GoSem.ClaimMapViews
import Derived.Test.YteaiinkcanpleaaGreatP4
import Derived.Test.YteaiinkcanpleaaGreatP5
set_option linter.all false
set_option maxRecDepth 100000
set_option maxHeartbeats 4000000
namespace Go.Proofs.YteaiinkcanpleaaGreat
open Go.AM
@[ext] structure Zw where
 From:Int
 Add:Int
 deriving DecidableEq
def Zw.c(x:Zw):V5:=[.int .i64 x.From,.int .i64 x.Add]
@[simp] def Zw.c_def(x:Zw):x.c=[.int .i64 x.From,.int .i64 x.Add]:=rfl
@[simp] def Zw.map_inj(xs ys:List Zw):xs.map Zw.c=ys.map Zw.c↔xs=ys:=X8 (by
 intro a b h;simp at h
 simp[Zw.ext_iff,h])
@[simp] def Zw.flat(xs:List Zw):(xs.map Zw.c).all (λx=>x.all X5)=true:=Jp (λ_=>rfl) xs
@[simp] def Zw.flat2(xs:List Zw):xs.all ((λx=>x.all X5) ∘ Zw.c)=true:=Jq (λ_=>rfl) xs
@[ext] structure Zz where
 Fixed:Int
 ZR:Int
 ZS:Int
 ZT:Int
 ZU:Int
 Steps:List Zw
 deriving DecidableEq
def Zz.c(x:Zz):V5:=[.int .i64 x.Fixed,.int .i64 x.ZR,.int .i64 x.ZS,.int .i64 x.ZT,.int .i64 x.ZU,.lst 2 (x.Steps.map Zw.c)]
@[simp] def Zz.c_def(x:Zz):x.c=[.int .i64 x.Fixed,.int .i64 x.ZR,.int .i64 x.ZS,.int .i64 x.ZT,.int .i64 x.ZU,.lst 2 (x.Steps.map Zw.c)]:=rfl
@[simp] def Zz.map_inj(xs ys:List Zz):xs.map Zz.c=ys.map Zz.c↔xs=ys:=X8 (by
 intro a b h;simp at h
 simp[Zz.ext_iff,h])
@[ext] structure Zf where
 Scan:Zz
 Sort_:Zz
 Hash:Zz
 Merge:Zz
 Nested:Zz
 deriving DecidableEq
def Zf.c(x:Zf):V5:=[.int .i64 x.Scan.Fixed,.int .i64 x.Scan.ZR,.int .i64 x.Scan.ZS,.int .i64 x.Scan.ZT,.int .i64 x.Scan.ZU,.lst 2 (x.Scan.Steps.map Zw.c),.int .i64 x.Sort_.Fixed,.int .i64 x.Sort_.ZR,.int .i64 x.Sort_.ZS,.int .i64 x.Sort_.ZT,.int .i64 x.Sort_.ZU,.lst 2 (x.Sort_.Steps.map Zw.c),.int .i64 x.Hash.Fixed,.int .i64 x.Hash.ZR,.int .i64 x.Hash.ZS,.int .i64 x.Hash.ZT,.int .i64 x.Hash.ZU,.lst 2 (x.Hash.Steps.map Zw.c),.int .i64 x.Merge.Fixed,.int .i64 x.Merge.ZR,.int .i64 x.Merge.ZS,.int .i64 x.Merge.ZT,.int .i64 x.Merge.ZU,.lst 2 (x.Merge.Steps.map Zw.c),.int .i64 x.Nested.Fixed,.int .i64 x.Nested.ZR,.int .i64 x.Nested.ZS,.int .i64 x.Nested.ZT,.int .i64 x.Nested.ZU,.lst 2 (x.Nested.Steps.map Zw.c)]
@[simp] def Zf.c_def(x:Zf):x.c=[.int .i64 x.Scan.Fixed,.int .i64 x.Scan.ZR,.int .i64 x.Scan.ZS,.int .i64 x.Scan.ZT,.int .i64 x.Scan.ZU,.lst 2 (x.Scan.Steps.map Zw.c),.int .i64 x.Sort_.Fixed,.int .i64 x.Sort_.ZR,.int .i64 x.Sort_.ZS,.int .i64 x.Sort_.ZT,.int .i64 x.Sort_.ZU,.lst 2 (x.Sort_.Steps.map Zw.c),.int .i64 x.Hash.Fixed,.int .i64 x.Hash.ZR,.int .i64 x.Hash.ZS,.int .i64 x.Hash.ZT,.int .i64 x.Hash.ZU,.lst 2 (x.Hash.Steps.map Zw.c),.int .i64 x.Merge.Fixed,.int .i64 x.Merge.ZR,.int .i64 x.Merge.ZS,.int .i64 x.Merge.ZT,.int .i64 x.Merge.ZU,.lst 2 (x.Merge.Steps.map Zw.c),.int .i64 x.Nested.Fixed,.int .i64 x.Nested.ZR,.int .i64 x.Nested.ZS,.int .i64 x.Nested.ZT,.int .i64 x.Nested.ZU,.lst 2 (x.Nested.Steps.map Zw.c)]:=rfl
@[simp] def Zf.map_inj(xs ys:List Zf):xs.map Zf.c=ys.map Zf.c↔xs=ys:=X8 (by
 intro a b h;simp at h
 simp[Zf.ext_iff,Zz.ext_iff,h])
@[ext] structure Zg where
 Name:V6
 Vars:WL
 deriving DecidableEq
def Zg.c(x:Zg):V5:=[.str x.Name,.lst 1 (x.Vars.map ic)]
@[simp] def Zg.c_def(x:Zg):x.c=[.str x.Name,.lst 1 (x.Vars.map ic)]:=rfl
@[simp] def Zg.map_inj(xs ys:List Zg):xs.map Zg.c=ys.map Zg.c↔xs=ys:=X8 (by
 intro a b h;simp at h
 simp[Zg.ext_iff,h])
@[ext] structure Zc where
 Zh:Int
 Atoms:List Zg
 deriving DecidableEq
def Zc.c(x:Zc):V5:=[.int .i64 x.Zh,.lst 2 (x.Atoms.map Zg.c)]
@[simp] def Zc.c_def(x:Zc):x.c=[.int .i64 x.Zh,.lst 2 (x.Atoms.map Zg.c)]:=rfl
@[simp] def Zc.map_inj(xs ys:List Zc):xs.map Zc.c=ys.map Zc.c↔xs=ys:=X8 (by
 intro a b h;simp at h
 simp[Zc.ext_iff,h])
@[ext] structure Box where
 Low:WL
 High:WL
 deriving DecidableEq
def Box.c(x:Box):V5:=[.lst 1 (x.Low.map ic),.lst 1 (x.High.map ic)]
@[simp] def Box.c_def(x:Box):x.c=[.lst 1 (x.Low.map ic),.lst 1 (x.High.map ic)]:=rfl
@[simp] def Box.map_inj(xs ys:List Box):xs.map Box.c=ys.map Box.c↔xs=ys:=X8 (by
 intro a b h;simp at h
 simp[Box.ext_iff,h])
@[ext] structure Zk where
 Kind:Int
 Zg:Int
 Order:Int
 deriving DecidableEq
def Zk.c(x:Zk):V5:=[.int .i64 x.Kind,.int .i64 x.Zg,.int .i64 x.Order]
@[simp] def Zk.c_def(x:Zk):x.c=[.int .i64 x.Kind,.int .i64 x.Zg,.int .i64 x.Order]:=rfl
@[simp] def Zk.map_inj(xs ys:List Zk):xs.map Zk.c=ys.map Zk.c↔xs=ys:=X8 (by
 intro a b h;simp at h
 simp[Zk.ext_iff,h])
@[simp] def Zk.flat(xs:List Zk):(xs.map Zk.c).all (λx=>x.all X5)=true:=Jp (λ_=>rfl) xs
@[simp] def Zk.flat2(xs:List Zk):xs.all ((λx=>x.all X5) ∘ Zk.c)=true:=Jq (λ_=>rfl) xs
@[ext] structure Ze where
 Steps:List Zk
 deriving DecidableEq
def Ze.c(x:Ze):V5:=[.lst 3 (x.Steps.map Zk.c)]
@[simp] def Ze.c_def(x:Ze):x.c=[.lst 3 (x.Steps.map Zk.c)]:=rfl
@[simp] def Ze.map_inj(xs ys:List Ze):xs.map Ze.c=ys.map Ze.c↔xs=ys:=X8 (by
 intro a b h;simp at h
 simp[Ze.ext_iff,h])
@[ext] structure Zu where
 Version:Int
 Ratio:Int
 Slack:Int
 Box:Box
 Budgets:WL
 Plans:List Ze
 Contours:WA
 deriving DecidableEq
def Zu.c(x:Zu):V5:=[.int .i64 x.Version,.int .i64 x.Ratio,.int .i64 x.Slack,.lst 1 (x.Box.Low.map ic),.lst 1 (x.Box.High.map ic),.lst 1 (x.Budgets.map ic),.lst 1 (x.Plans.map Ze.c),.lst 1 (x.Contours.map AF)]
@[simp] def Zu.c_def(x:Zu):x.c=[.int .i64 x.Version,.int .i64 x.Ratio,.int .i64 x.Slack,.lst 1 (x.Box.Low.map ic),.lst 1 (x.Box.High.map ic),.lst 1 (x.Budgets.map ic),.lst 1 (x.Plans.map Ze.c),.lst 1 (x.Contours.map AF)]:=rfl
@[simp] def Zu.map_inj(xs ys:List Zu):xs.map Zu.c=ys.map Zu.c↔xs=ys:=X8 (by
 intro a b h;simp at h
 simp[Zu.ext_iff,Box.ext_iff,h])
@[ext] structure Zs where
 Name:V6
 Arity:Int
 Rows:WA
 deriving DecidableEq
def Zs.c(x:Zs):V5:=[.str x.Name,.int .i64 x.Arity,.lst 1 (x.Rows.map AF)]
@[simp] def Zs.c_def(x:Zs):x.c=[.str x.Name,.int .i64 x.Arity,.lst 1 (x.Rows.map AF)]:=rfl
@[simp] def Zs.map_inj(xs ys:List Zs):xs.map Zs.c=ys.map Zs.c↔xs=ys:=X8 (by
 intro a b h;simp at h
 simp[Zs.ext_iff,h])
@[ext] structure Zt where
 Tables:List Zs
 deriving DecidableEq
def Zt.c(x:Zt):V5:=[.lst 3 (x.Tables.map Zs.c)]
@[simp] def Zt.c_def(x:Zt):x.c=[.lst 3 (x.Tables.map Zs.c)]:=rfl
@[simp] def Zt.map_inj(xs ys:List Zt):xs.map Zt.c=ys.map Zt.c↔xs=ys:=X8 (by
 intro a b h;simp at h
 simp[Zt.ext_iff,h])
@[ext] structure ZF where
 Columns:WL
 Values:WA
 Counts:WL
 deriving DecidableEq
def ZF.c(x:ZF):V5:=[.lst 1 (x.Columns.map ic),.lst 1 (x.Values.map AF),.lst 1 (x.Counts.map ic)]
@[simp] def ZF.c_def(x:ZF):x.c=[.lst 1 (x.Columns.map ic),.lst 1 (x.Values.map AF),.lst 1 (x.Counts.map ic)]:=rfl
@[simp] def ZF.map_inj(xs ys:List ZF):xs.map ZF.c=ys.map ZF.c↔xs=ys:=X8 (by
 intro a b h;simp at h
 simp[ZF.ext_iff,h])
@[ext] structure Z5 where
 Name:V6
 Arity:Int
 RowCount:Int
 Groups:List ZF
 deriving DecidableEq
def Z5.c(x:Z5):V5:=[.str x.Name,.int .i64 x.Arity,.int .i64 x.RowCount,.lst 3 (x.Groups.map ZF.c)]
@[simp] def Z5.c_def(x:Z5):x.c=[.str x.Name,.int .i64 x.Arity,.int .i64 x.RowCount,.lst 3 (x.Groups.map ZF.c)]:=rfl
@[simp] def Z5.map_inj(xs ys:List Z5):xs.map Z5.c=ys.map Z5.c↔xs=ys:=X8 (by
 intro a b h;simp at h
 simp[Z5.ext_iff,h])
@[ext] structure ZN where
 Version:Int
 Tables:List Z5
 deriving DecidableEq
def ZN.c(x:ZN):V5:=[.int .i64 x.Version,.lst 4 (x.Tables.map Z5.c)]
@[simp] def ZN.c_def(x:ZN):x.c=[.int .i64 x.Version,.lst 4 (x.Tables.map Z5.c)]:=rfl
@[simp] def ZN.map_inj(xs ys:List ZN):xs.map ZN.c=ys.map ZN.c↔xs=ys:=X8 (by
 intro a b h;simp at h
 simp[ZN.ext_iff,h])
@[ext] structure ZD where
 Name:V6
 From:WL
 To:Int
 deriving DecidableEq
def ZD.c(x:ZD):V5:=[.str x.Name,.lst 1 (x.From.map ic),.int .i64 x.To]
@[simp] def ZD.c_def(x:ZD):x.c=[.str x.Name,.lst 1 (x.From.map ic),.int .i64 x.To]:=rfl
@[simp] def ZD.map_inj(xs ys:List ZD):xs.map ZD.c=ys.map ZD.c↔xs=ys:=X8 (by
 intro a b h;simp at h
 simp[ZD.ext_iff,h])
@[ext] structure Z8 where
 Name:V6
 Column:Int
 Into:V6
 IntoColumn:Int
 deriving DecidableEq
def Z8.c(x:Z8):V5:=[.str x.Name,.int .i64 x.Column,.str x.Into,.int .i64 x.IntoColumn]
@[simp] def Z8.c_def(x:Z8):x.c=[.str x.Name,.int .i64 x.Column,.str x.Into,.int .i64 x.IntoColumn]:=rfl
@[simp] def Z8.map_inj(xs ys:List Z8):xs.map Z8.c=ys.map Z8.c↔xs=ys:=X8 (by
 intro a b h;simp at h
 simp[Z8.ext_iff,h])
@[simp] def Z8.flat(xs:List Z8):(xs.map Z8.c).all (λx=>x.all X5)=true:=Jp (λ_=>rfl) xs
@[simp] def Z8.flat2(xs:List Z8):xs.all ((λx=>x.all X5) ∘ Z8.c)=true:=Jq (λ_=>rfl) xs
@[ext] structure Zq where
 Zt:Zt
 ZN:ZN
 Dependencies:List ZD
 Inclusions:List Z8
 deriving DecidableEq
def Zq.c(x:Zq):V5:=[.lst 3 (x.Zt.Tables.map Zs.c),.int .i64 x.ZN.Version,.lst 4 (x.ZN.Tables.map Z5.c),.lst 3 (x.Dependencies.map ZD.c),.lst 4 (x.Inclusions.map Z8.c)]
@[simp] def Zq.c_def(x:Zq):x.c=[.lst 3 (x.Zt.Tables.map Zs.c),.int .i64 x.ZN.Version,.lst 4 (x.ZN.Tables.map Z5.c),.lst 3 (x.Dependencies.map ZD.c),.lst 4 (x.Inclusions.map Z8.c)]:=rfl
@[simp] def Zq.map_inj(xs ys:List Zq):xs.map Zq.c=ys.map Zq.c↔xs=ys:=X8 (by
 intro a b h;simp at h
 simp[Zq.ext_iff,Zt.ext_iff,ZN.ext_iff,h])
@[ext] structure Zd where
 Mask:Int
 Order:Int
 Cost:Int
 Ze:Ze
 deriving DecidableEq
def Zd.c(x:Zd):V5:=[.int .i64 x.Mask,.int .i64 x.Order,.int .i64 x.Cost,.lst 3 (x.Ze.Steps.map Zk.c)]
@[simp] def Zd.c_def(x:Zd):x.c=[.int .i64 x.Mask,.int .i64 x.Order,.int .i64 x.Cost,.lst 3 (x.Ze.Steps.map Zk.c)]:=rfl
@[simp] def Zd.map_inj(xs ys:List Zd):xs.map Zd.c=ys.map Zd.c↔xs=ys:=X8 (by
 intro a b h;simp at h
 simp[Zd.ext_iff,Ze.ext_iff,h])
@[ext] structure Zo where
 b:WL
 i:Int
 h:Int
 deriving DecidableEq
def Zo.c(x:Zo):V5:=[.lst 1 (x.b.map (kc .u8)),.int .i64 x.i,.int .i64 x.h]
@[simp] def Zo.c_def(x:Zo):x.c=[.lst 1 (x.b.map (kc .u8)),.int .i64 x.i,.int .i64 x.h]:=rfl
@[simp] def Zo.map_inj(xs ys:List Zo):xs.map Zo.c=ys.map Zo.c↔xs=ys:=X8 (by
 intro a b h;simp at h
 simp[Zo.ext_iff,h])
@[ext] structure ZX where
 mask:Int
 ZL:WL
 shared:WA
 deriving DecidableEq
def ZX.c(x:ZX):V5:=[.int .i64 x.mask,.lst 1 (x.ZL.map ic),.lst 1 (x.shared.map AF)]
@[simp] def ZX.c_def(x:ZX):x.c=[.int .i64 x.mask,.lst 1 (x.ZL.map ic),.lst 1 (x.shared.map AF)]:=rfl
@[simp] def ZX.map_inj(xs ys:List ZX):xs.map ZX.c=ys.map ZX.c↔xs=ys:=X8 (by
 intro a b h;simp at h
 simp[ZX.ext_iff,h])
@[ext] structure ZY where
 Box:Box
 Costs:WL
 Choices:WL
 Plans:List Ze
 deriving DecidableEq
def ZY.c(x:ZY):V5:=[.lst 1 (x.Box.Low.map ic),.lst 1 (x.Box.High.map ic),.lst 1 (x.Costs.map ic),.lst 1 (x.Choices.map ic),.lst 1 (x.Plans.map Ze.c)]
@[simp] def ZY.c_def(x:ZY):x.c=[.lst 1 (x.Box.Low.map ic),.lst 1 (x.Box.High.map ic),.lst 1 (x.Costs.map ic),.lst 1 (x.Choices.map ic),.lst 1 (x.Plans.map Ze.c)]:=rfl
@[simp] def ZY.map_inj(xs ys:List ZY):xs.map ZY.c=ys.map ZY.c↔xs=ys:=X8 (by
 intro a b h;simp at h
 simp[ZY.ext_iff,Box.ext_iff,h])
@[ext] structure Zp where
 Mask:Int
 Order:Int
 Left:Int
 Right:Int
 deriving DecidableEq
def Zp.c(x:Zp):V5:=[.int .i64 x.Mask,.int .i64 x.Order,.int .i64 x.Left,.int .i64 x.Right]
@[simp] def Zp.c_def(x:Zp):x.c=[.int .i64 x.Mask,.int .i64 x.Order,.int .i64 x.Left,.int .i64 x.Right]:=rfl
@[simp] def Zp.map_inj(xs ys:List Zp):xs.map Zp.c=ys.map Zp.c↔xs=ys:=X8 (by
 intro a b h;simp at h
 simp[Zp.ext_iff,h])
@[simp] def Zp.flat(xs:List Zp):(xs.map Zp.c).all (λx=>x.all X5)=true:=Jp (λ_=>rfl) xs
@[simp] def Zp.flat2(xs:List Zp):xs.all ((λx=>x.all X5) ∘ Zp.c)=true:=Jq (λ_=>rfl) xs
@[ext] structure Zb where
 Num:Int
 Den:Int
 deriving DecidableEq
def Zb.c(x:Zb):V5:=[.int .i64 x.Num,.int .i64 x.Den]
@[simp] def Zb.c_def(x:Zb):x.c=[.int .i64 x.Num,.int .i64 x.Den]:=rfl
@[simp] def Zb.map_inj(xs ys:List Zb):xs.map Zb.c=ys.map Zb.c↔xs=ys:=X8 (by
 intro a b h;simp at h
 simp[Zb.ext_iff,h])
@[simp] def Zb.flat(xs:List Zb):(xs.map Zb.c).all (λx=>x.all X5)=true:=Jp (λ_=>rfl) xs
@[simp] def Zb.flat2(xs:List Zb):xs.all ((λx=>x.all X5) ∘ Zb.c)=true:=Jq (λ_=>rfl) xs
@[simp] def uM(xs ys:List (List Zb)):xs.map (lc 2 Zb.c)=ys.map (lc 2 Zb.c)↔xs=ys:=X8 (by
 intro a b h
 simpa[lc]using h)
@[ext] structure Program where
 Objective:WL
 Rows:WA
 Limits:WL
 deriving DecidableEq
def Program.c(x:Program):V5:=[.lst 1 (x.Objective.map ic),.lst 1 (x.Rows.map AF),.lst 1 (x.Limits.map ic)]
@[simp] def Program.c_def(x:Program):x.c=[.lst 1 (x.Objective.map ic),.lst 1 (x.Rows.map AF),.lst 1 (x.Limits.map ic)]:=rfl
@[simp] def Program.map_inj(xs ys:List Program):xs.map Program.c=ys.map Program.c↔xs=ys:=X8 (by
 intro a b h;simp at h
 simp[Program.ext_iff,h])
@[ext] structure Zv where
 Basic:WL
 Free:WL
 Cells:List (List Zb)
 Limits:List Zb
 Costs:List Zb
 Value:Zb
 deriving DecidableEq
def Zv.c(x:Zv):V5:=[.lst 1 (x.Basic.map ic),.lst 1 (x.Free.map ic),.lst 1 (x.Cells.map (lc 2 Zb.c)),.lst 2 (x.Limits.map Zb.c),.lst 2 (x.Costs.map Zb.c),.int .i64 x.Value.Num,.int .i64 x.Value.Den]
@[simp] def Zv.c_def(x:Zv):x.c=[.lst 1 (x.Basic.map ic),.lst 1 (x.Free.map ic),.lst 1 (x.Cells.map (lc 2 Zb.c)),.lst 2 (x.Limits.map Zb.c),.lst 2 (x.Costs.map Zb.c),.int .i64 x.Value.Num,.int .i64 x.Value.Den]:=rfl
@[simp] def Zv.map_inj(xs ys:List Zv):xs.map Zv.c=ys.map Zv.c↔xs=ys:=X8 (by
 intro a b h;simp at h
 simp[Zv.ext_iff,Zb.ext_iff,h])
@[ext] structure ZJ where
 From:Int
 To:Int
 Bits:Int
 deriving DecidableEq
def ZJ.c(x:ZJ):V5:=[.int .i64 x.From,.int .i64 x.To,.int .i64 x.Bits]
@[simp] def ZJ.c_def(x:ZJ):x.c=[.int .i64 x.From,.int .i64 x.To,.int .i64 x.Bits]:=rfl
@[simp] def ZJ.map_inj(xs ys:List ZJ):xs.map ZJ.c=ys.map ZJ.c↔xs=ys:=X8 (by
 intro a b h;simp at h
 simp[ZJ.ext_iff,h])
@[simp] def ZJ.flat(xs:List ZJ):(xs.map ZJ.c).all (λx=>x.all X5)=true:=Jp (λ_=>rfl) xs
@[simp] def ZJ.flat2(xs:List ZJ):xs.all ((λx=>x.all X5) ∘ ZJ.c)=true:=Jq (λ_=>rfl) xs
def WW(m:Zf)(q:Zc)(sizes:WL)(mask:Int)(cc cd cl cn co:Zd)(cp cu cv cy cz:Bool):AK:=.box [I m.Scan.Fixed,I m.Scan.ZR,I m.Scan.ZS,I m.Scan.ZT,I m.Scan.ZU,L 2 (m.Scan.Steps.map Zw.c),I m.Sort_.Fixed,I m.Sort_.ZR,I m.Sort_.ZS,I m.Sort_.ZT,I m.Sort_.ZU,L 2 (m.Sort_.Steps.map Zw.c),I m.Hash.Fixed,I m.Hash.ZR,I m.Hash.ZS,I m.Hash.ZT,I m.Hash.ZU,L 2 (m.Hash.Steps.map Zw.c),I m.Merge.Fixed,I m.Merge.ZR,I m.Merge.ZS,I m.Merge.ZT,I m.Merge.ZU,L 2 (m.Merge.Steps.map Zw.c),I m.Nested.Fixed,I m.Nested.ZR,I m.Nested.ZS,I m.Nested.ZT,I m.Nested.ZU,L 2 (m.Nested.Steps.map Zw.c),I q.Zh,L 2 (q.Atoms.map Zg.c),L 1 (sizes.map ic),I mask,I cc.Mask,I cc.Order,I cc.Cost,L 3 (cc.Ze.Steps.map Zk.c),I cd.Mask,I cd.Order,I cd.Cost,L 3 (cd.Ze.Steps.map Zk.c),I cl.Mask,I cl.Order,I cl.Cost,L 3 (cl.Ze.Steps.map Zk.c),I cn.Mask,I cn.Order,I cn.Cost,L 3 (cn.Ze.Steps.map Zk.c),I co.Mask,I co.Order,I co.Cost,L 3 (co.Ze.Steps.map Zk.c),Bo cp,Bo cu,Bo cv,Bo cy,Bo cz]
@[simp] def ZFs(m:Zf)(q:Zc)(sizes:WL)(mask:Int)(Aw cc cd cl cn:Zd)(co cp cu cv cy:Bool):WW m q sizes mask Aw cc cd cl cn co cp cu cv cy=.box [I m.Scan.Fixed,I m.Scan.ZR,I m.Scan.ZS,I m.Scan.ZT,I m.Scan.ZU,L 2 (m.Scan.Steps.map Zw.c),I m.Sort_.Fixed,I m.Sort_.ZR,I m.Sort_.ZS,I m.Sort_.ZT,I m.Sort_.ZU,L 2 (m.Sort_.Steps.map Zw.c),I m.Hash.Fixed,I m.Hash.ZR,I m.Hash.ZS,I m.Hash.ZT,I m.Hash.ZU,L 2 (m.Hash.Steps.map Zw.c),I m.Merge.Fixed,I m.Merge.ZR,I m.Merge.ZS,I m.Merge.ZT,I m.Merge.ZU,L 2 (m.Merge.Steps.map Zw.c),I m.Nested.Fixed,I m.Nested.ZR,I m.Nested.ZS,I m.Nested.ZT,I m.Nested.ZU,L 2 (m.Nested.Steps.map Zw.c),I q.Zh,L 2 (q.Atoms.map Zg.c),L 1 (sizes.map ic),I mask,I Aw.Mask,I Aw.Order,I Aw.Cost,L 3 (Aw.Ze.Steps.map Zk.c),I cc.Mask,I cc.Order,I cc.Cost,L 3 (cc.Ze.Steps.map Zk.c),I cd.Mask,I cd.Order,I cd.Cost,L 3 (cd.Ze.Steps.map Zk.c),I cl.Mask,I cl.Order,I cl.Cost,L 3 (cl.Ze.Steps.map Zk.c),I cn.Mask,I cn.Order,I cn.Cost,L 3 (cn.Ze.Steps.map Zk.c),Bo co,Bo cp,Bo cu,Bo cv,Bo cy]:=rfl
def Zm(x:WL):AK:=.arr 3 1 true (x.map ic)
def ZZ(x:WA):AK:=.arr 32 1 true (x.map AF)
def Xc(x:List Zb):AK:=.arr 277 2 true (x.map Zb.c)
def Jr(x:List Zg):AK:=.arr 113 2 true (x.map Zg.c)
def Js(x:List ZX):AK:=.arr 108 3 true (x.map ZX.c)
def FD(x:List Zd):AK:=.arr 77 4 true (x.map Zd.c)
def I6(x:List Zk):AK:=.arr 149 3 true (x.map Zk.c)
def I7(x:List Zp):AK:=.arr 143 4 true (x.map Zp.c)
def Zr(x:WL):AV:=L 1 (x.map ic)
def Ub(x:List Zd):AV:=L 4 (x.map Zd.c)
def FE(x:List Zb):AV:=L 2 (x.map Zb.c)
def Am(x:V5):AV:=.agg (x.map .t)
def Ad(x:V5):AK:=.box (x.map .t)
def Pa:V3->XQ->List (Nat×AV)
 |a::l,b::m=>(a,b)::Pa l m
 |_,_=>[]
noncomputable def lp(C:ZK)(k:List Fr)(ks:V3)(B:Za)(vs:XQ)(h:V2):Rs:=EvL C k ks B ⟨Pa ks vs,[[]],h⟩
def Aq:(∀x,Zm x=.arr 3 1 true (x.map ic))/\(∀x,ZZ x=.arr 32 1 true (x.map AF))/\(∀x,Xc x=.arr 277 2 true (x.map Zb.c))/\(∀x,Jr x=.arr 113 2 true (x.map Zg.c))/\(∀x,Js x=.arr 108 3 true (x.map ZX.c))/\(∀x,FD x=.arr 77 4 true (x.map Zd.c))/\(∀x,I6 x=.arr 149 3 true (x.map Zk.c))/\(∀x,I7 x=.arr 143 4 true (x.map Zp.c))/\(∀x,Zr x=L 1 (x.map ic))/\(∀x,Ub x=L 4 (x.map Zd.c))/\(∀x,FE x=L 2 (x.map Zb.c))/\(∀x,Am x=.agg (x.map .t))/\(∀x,Ad x=.box (x.map .t))/\(∀C k ks B vs h,lp C k ks B vs h=EvL C k ks B ⟨Pa ks vs,[[]],h⟩)/\(∀a l b m,Pa (a::l) (b::m)=(a,b)::Pa l m)/\(∀l,Pa [] l=[]):=by
 and_intros<;>intros<;>rfl
def qB(c:Rs)(A B:Prop):Prop:=∃v,c=some (Bo v,[])/\if v=true then A else B
def qV(c:Rs)(A:Bool->Prop):Prop:=∃v,c=some (Bo v,[])/\A v
def qI(c:Rs)(A:Int->Prop):Prop:=∃v,c=some (I v,[])/\A v
def qH{α:Type}(l:List α)(i:Int)(A:α->Prop):Prop:=∃e,l[i.toNat]?=some e/\A e
def qG{α:Type}(l:List α)(i:Int)(A:α->Prop):Prop:=0<=i/\∃e,l[i.toNat]?=some e/\A e
def qb(b:Bool)(r:Rs->Prop):Prop:=r (some (Bo b,[]))
def qi(n:Int)(r:Rs->Prop):Prop:=r (some (I n,[]))
def qL{α:Sort _}(a:α)(f:α->Prop):Prop:=f a
def qM{α:Type}(l:List α)(A:Prop):Prop:=l.length<=68719476736/\A
def qN{α:Type}(l:List α)(A:Prop):Prop:=l.length+1<=68719476736/\A
def qs1(r:Rs->Prop):Prop:=r (some (Bo false,[]))
def AO(x:Rs)(A:(WL)->Prop):Prop:=∃(a0:WL),x=some (.own 0,[.arr 3 1 true (a0.map ic)])/\A a0
def AZ(b0:WL)(r:Rs->Prop):Prop:=r (some (.own 0,[.arr 3 1 true (b0.map ic)]))
def qs4(r:Rs->Prop):Prop:=r (some (I (-1),[]))
def BA(x:Rs)(A:Zb->Bool->Prop):Prop:=∃(a0:Zb) (a1:Bool),x=some (.tup [.agg (a0.c.map .t),Bo a1],[])/\A a0 a1
def BZ(x:Rs)(A:(List Zk)->Prop):Prop:=∃(a0:List Zk),x=some (.agg [.own 0],[.arr 149 3 true (a0.map Zk.c)])/\A a0
def qs7(r:Rs->Prop):Prop:=r (some (I 0,[]))
def qs8(r:Rs->Prop):Prop:=r (some (Bo true,[]))
def BR(x:Rs)(A:Zo->Int->Prop):Prop:=∃(a0:Zo) (a1:Int),x=some (I a1,[.box (a0.c.map .t)])/\A a0 a1
def Vh(x:Rs)(A:Zb->Prop):Prop:=∃(a0:Zb),x=some (.agg (a0.c.map .t),[])/\A a0
def Wx(r:Rs->Prop):Prop:=r (some (.tup [.agg [I 0,I 0,I 0,I 0],I (-1)],[]))
def G9(b0:WL)(b1:List Zb)(r:Rs->Prop):Prop:=r (some (.tup [.agg [.own 0,.own 1,.own 2,.own 3,.own 4,I 0,I 0],Bo false],[.arr 3 1 true (b0.map ic),.arr 3 1 true (b0.map ic),.arr 283 1 true (([]:List (List Zb)).map (lc 2 Zb.c)),.arr 277 2 true (b1.map Zb.c),.arr 277 2 true (b1.map Zb.c)]))
def Vo(x:Rs)(A:Zo->(WL)->Int->Prop):Prop:=∃(a0:Zo) (a1:WL) (a2:Int),x=some (I a2,[.box (a0.c.map .t),.arr 3 1 true (a1.map ic)])/\A a0 a1 a2
def Kb(b0:WA)(r:Rs->Prop):Prop:=r (some (.own 0,[.arr 32 1 true (b0.map AF)]))
def Kc(x:Rs)(A:(WL)->Bool->Prop):Prop:=∃(a0:WL) (a1:Bool),x=some (.tup [.own 0,Bo a1],[.arr 3 1 true (a0.map ic)])/\A a0 a1
def Uc(x:Rs)(A:(WA)->Prop):Prop:=∃(a0:WA),x=some (.own 0,[.arr 32 1 true (a0.map AF)])/\A a0
def Up(r:Rs->Prop):Prop:=r (some (.tup [.agg [I 0,I 0],Bo false],[]))
def Pb(b0:WL)(b1:List Ze)(b2:WA)(r:Rs->Prop):Prop:=r (some (.tup [.agg [I 0,I 0,I 0,L 1 (b0.map ic),L 1 (b0.map ic),L 1 (b0.map ic),L 1 (b1.map Ze.c),L 1 (b2.map AF)],Bo false],[]))
def Jt(b0:List ZJ)(r:Rs->Prop):Prop:=r (some (.own 0,[.arr 311 3 true (b0.map ZJ.c)]))
def Ju(b0:List Zk)(r:Rs->Prop):Prop:=r (some (.agg [.own 0],[.arr 149 3 true (b0.map Zk.c)]))
def Jv(x:Rs)(A:Int->Int->Int->Prop):Prop:=∃(a0:Int) (a1:Int) (a2:Int),x=some (.tup [.agg [I a0,I a1,I a2,.t .nil],Bo false],[])/\A a0 a1 a2
def Jw(x:Rs)(A:(List Zk)->Int->Int->Int->Prop):Prop:=∃(a0:List Zk) (a1:Int) (a2:Int) (a3:Int),x=some (.tup [.agg [I a1,I a2,I a3,.own 0],Bo true],[.arr 149 3 true (a0.map Zk.c)])/\A a0 a1 a2 a3
def Ha(b0 b1 b2:Int)(b3:Zo)(b4 b5 b6:WL)(b7:List Ze)(b8:WA)(r:Rs->Prop):Prop:=r (some (.agg [I b0,I b1,I b2,.own 1,.own 2,.own 3,.own 4,.own 5],[.box (b3.c.map .t),.arr 3 1 true (b4.map ic),.arr 3 1 true (b5.map ic),.arr 3 1 true (b6.map ic),.arr 75 1 true (b7.map Ze.c),.arr 32 1 true (b8.map AF)]))
def aD(b0:WL)(b1:WA)(r:Rs->Prop):Prop:=r (some (.tup [.agg [.own 0,.own 1,.own 2],Bo false],[.arr 3 1 true (b0.map ic),.arr 32 1 true (b1.map AF),.arr 3 1 true (b0.map ic)]))
def FF(b0 b1:Int)(r:Rs->Prop):Prop:=r (some (.tup [I b0,I b1],[]))
def I8(b0 b1 b2:Int)(b3:Zo)(b4 b5 b6:WL)(b7:List Ze)(r:Rs->Prop):Prop:=r (some (.agg [I b0,I b1,I b2,.own 1,.own 2,.own 3,.own 4,.t .nil],[.box (b3.c.map .t),.arr 3 1 true (b4.map ic),.arr 3 1 true (b5.map ic),.arr 3 1 true (b6.map ic),.arr 75 1 true (b7.map Ze.c)]))
def FG(r:Rs->Prop):Prop:=r (some (.tup [.agg [I 0,I (-1),I (-1),I (-1)],Bo false],[]))
def FH(r:Rs->Prop):Prop:=r (some (.tup [.t .nil,Bo false],[]))
def KC(r:Rs->Prop):Prop:=r (some (.t .nil,[]))
def FI(x:Rs)(A:Zf->Zc->(WL)->Int->Zd->Zd->Zd->Zd->Zd->Bool->Bool->Bool->Bool->Bool->Prop):Prop:=∃(a0:Zf) (a1:Zc) (a2:WL) (a3:Int) (a4:Zd) (a5:Zd) (a6:Zd) (a7:Zd) (a8:Zd) (a9:Bool) (a10:Bool) (a11:Bool) (a12:Bool) (aE:Bool),x=some (.tup [],[WW a0 a1 a2 a3 a4 a5 a6 a7 a8 a9 a10 a11 a12 aE,.dead])/\A a0 a1 a2 a3 a4 a5 a6 a7 a8 a9 a10 a11 a12 aE
def FJ(x:Rs)(A:Zf->Zc->(WL)->Int->Zd->Zd->Zd->Zd->Zd->Bool->Bool->Bool->Bool->Bool->(List Zk)->Prop):Prop:=∃(a0:Zf) (a1:Zc) (a2:WL) (a3:Int) (a4:Zd) (a5:Zd) (a6:Zd) (a7:Zd) (a8:Zd) (a9:Bool) (a10:Bool) (a11:Bool) (a12:Bool) (aE:Bool) (a14:List Zk),x=some (.tup [],[WW a0 a1 a2 a3 a4 a5 a6 a7 a8 a9 a10 a11 a12 aE,.arr 149 3 true (a14.map Zk.c)])/\A a0 a1 a2 a3 a4 a5 a6 a7 a8 a9 a10 a11 a12 aE a14
def Kd(x:Rs)(A:Zo->Bool->Prop):Prop:=∃(a0:Zo) (a1:Bool),x=some (Bo a1,[.box (a0.c.map .t)])/\A a0 a1
def Hb(b0:Zb)(b1:Bool)(r:Rs->Prop):Prop:=r (some (.tup [.agg (b0.c.map .t),Bo b1],[]))
def Hc(x:Rs)(A:Zz->Prop):Prop:=∃(a0:Zz),x=some (.agg (a0.c.map .t),[])/\A a0
def Pc(b0:WL)(b1:List Zd)(b2:List Zk)(r:Rs->Prop):Prop:=r (some (.tup [],[.arr 3 1 true (b0.map ic),.arr 77 4 true (b1.map Zd.c),.arr 149 3 true (b2.map Zk.c)]))
def I9(x:Rs)(A:Zo->(List Zw)->Int->Int->Int->Int->Int->Prop):Prop:=∃(a0:Zo) (a1:List Zw) (a2:Int) (a3:Int) (a4:Int) (a5:Int) (a6:Int),x=some (.agg [I a2,I a3,I a4,I a5,I a6,.own 1],[.box (a0.c.map .t),.arr 147 2 true (a1.map Zw.c)])/\A a0 a1 a2 a3 a4 a5 a6
def aF(b0:List Zb)(r:Rs->Prop):Prop:=r (some (.tup [.agg [I 0,I 0,.own 0,.own 1],Bo false],[.arr 277 2 true (b0.map Zb.c),.arr 277 2 true (b0.map Zb.c)]))
def La(b0:Int)(b1:WL)(r:Rs->Prop):Prop:=r (some (.tup [I b0,L 1 (b1.map ic),.t .nil],[]))
def Lb(r:Rs->Prop):Prop:=r (some (.tup [I 0,Bo false],[]))
def Pd(b0:WL)(r:Rs->Prop):Prop:=r (some (.tup [.own 0,Bo false],[.arr 3 1 true (b0.map ic)]))
def Pe(b0:Int)(b1:List Zg)(b2:Zo)(r:Rs->Prop):Prop:=r (some (.agg [I b0,L 2 (b1.map Zg.c)],[.box (b2.c.map .t)]))
def aG(b0:WA)(r:Rs->Prop):Prop:=r (some (.tup [.agg [.t (.str (⟨#[]⟩:V6)),I 0,.own 0],Bo false],[.arr 32 1 true (b0.map AF)]))
def Pf(b0 b1 b2:Int)(b3:List Zk)(r:Rs->Prop):Prop:=r (some (.tup [.agg [I b0,I b1,I b2,.own 0],Bo true],[.arr 149 3 true (b3.map Zk.c)]))
def Lc(b0:WL)(b1:List Ze)(r:Rs->Prop):Prop:=r (some (.tup [.agg [L 1 (b0.map ic),L 1 (b0.map ic),L 1 (b0.map ic),L 1 (b0.map ic),L 1 (b1.map Ze.c)],Bo false],[]))
def aH(b0:List Zp)(r:Rs->Prop):Prop:=r (some (.tup [.own 0,Bo false],[.arr 143 4 true (b0.map Zp.c)]))
def aI(b0:WL)(r:Rs->Prop):Prop:=r (some (.tup [.own 0,Bo true],[.arr 3 1 true (b0.map ic)]))
def aJ(x:Rs)(A:(List Zg)->Int->Bool->Prop):Prop:=∃(a0:List Zg) (a1:Int) (a2:Bool),x=some (.tup [.agg [I a1,.own 0],Bo a2],[.arr 113 2 true (a0.map Zg.c)])/\A a0 a1 a2
def aK(b0 b1:WL)(r:Rs->Prop):Prop:=r (some (.own 1,[.arr 3 1 true (b0.map ic),.arr 3 1 true (b1.map ic)]))
def aL(x:Rs)(A:(List ZJ)->Prop):Prop:=∃(a0:List ZJ),x=some (.own 0,[.arr 311 3 true (a0.map ZJ.c)])/\A a0
def aM(b0:Int)(r:Rs->Prop):Prop:=r (some (.tup [I b0,I 4],[]))
def uN(b0:WL)(b1:List Zd)(r:Rs->Prop):Prop:=r (some (.tup [],[.arr 3 1 true (b0.map ic),.arr 77 4 true (b1.map Zd.c)]))
def uO(b0:WL)(b1:List Zd)(b2 b3:List Zk)(r:Rs->Prop):Prop:=r (some (.tup [],[.arr 3 1 true (b0.map ic),.arr 77 4 true (b1.map Zd.c),.arr 149 3 true (b2.map Zk.c),.arr 149 3 true (b3.map Zk.c)]))
def aN(x:Rs)(A:(WL)->(List Zd)->Prop):Prop:=∃(a0:WL) (a1:List Zd),x=some (.tup [],[.arr 3 1 true (a0.map ic),.arr 77 4 true (a1.map Zd.c)])/\A a0 a1
def aO(x:Rs)(A:(WL)->(WL)->Prop):Prop:=∃(a0:WL) (a1:WL),x=some (.agg [.own 0,.own 1],[.arr 3 1 true (a0.map ic),.arr 3 1 true (a1.map ic)])/\A a0 a1
def aP(x:Rs)(A:(List ZX)->Prop):Prop:=∃(a0:List ZX),x=some (.own 0,[.arr 108 3 true (a0.map ZX.c)])/\A a0
def Ld(b0 b1 b2:Int)(r:Rs->Prop):Prop:=r (some (.tup [.agg [I b0,I (-1),I b1,I b2],Bo false],[]))
def uP(b0:WL)(b1:Int)(r:Rs->Prop):Prop:=r (some (.ptr 0 0,[.box [L 1 (b0.map (kc .u8)),I 0,I b1]]))
def uQ(b0 b1 b2 b3:Int)(b4:Zo)(b5:List Zw)(r:Rs->Prop):Prop:=r (some (.agg [I b0,I b1,I b2,I b3,I 0,.own 1],[.box (b4.c.map .t),.arr 147 2 true (b5.map Zw.c)]))
def uR(r:Rs->Prop):Prop:=r (some (.tup [.agg [.t (.str (⟨#[]⟩:V6)),I 0,.t .nil],Bo false],[]))
def uS(b0:WA)(b1:WL)(r:Rs->Prop):Prop:=r (some (.tup [.own 0,.own 1],[.arr 32 1 true (b0.map AF),.arr 3 1 true (b1.map ic)]))
def uT(x:Rs)(A:(WA)->(WL)->Prop):Prop:=∃(a0:WA) (a1:WL),x=some (.tup [.own 0,.own 1],[.arr 32 1 true (a0.map AF),.arr 3 1 true (a1.map ic)])/\A a0 a1
def uU(b0:Int)(b1:List Z5)(r:Rs->Prop):Prop:=r (some (.tup [.agg [I b0,L 4 (b1.map Z5.c)],Bo true],[]))
def Lg(b0:List Z5)(r:Rs->Prop):Prop:=r (some (.tup [.agg [I 0,L 4 (b0.map Z5.c)],Bo false],[]))
def uV(b0:List Zs)(r:Rs->Prop):Prop:=r (some (.agg [.own 0],[.arr 191 3 true (b0.map Zs.c)]))
def Lh(b0:List Zs)(b1:List Z5)(b2:List ZD)(b3:List Z8)(r:Rs->Prop):Prop:=r (some (.tup [.agg [L 3 (b0.map Zs.c),I 0,L 4 (b1.map Z5.c),L 3 (b2.map ZD.c),L 4 (b3.map Z8.c)],Bo false],[]))
def uW(x:Rs)(A:(WL)->(WL)->Prop):Prop:=∃(a0:WL) (a1:WL),x=some (.own 1,[.arr 3 1 true (a0.map ic),.arr 3 1 true (a1.map ic)])/\A a0 a1
def uX(x:Rs)(A:(WL)->(WA)->(WL)->Bool->Prop):Prop:=∃(a0:WL) (a1:WA) (a2:WL) (a3:Bool),x=some (.tup [.agg [.own 0,.own 1,.own 2],Bo a3],[.arr 3 1 true (a0.map ic),.arr 32 1 true (a1.map AF),.arr 3 1 true (a2.map ic)])/\A a0 a1 a2 a3
def uY(b0:WL)(r:Rs->Prop):Prop:=r (some (.tup [.agg [L 1 (b0.map ic),L 1 (b0.map ic)],Bo false],[]))
def uZ(b0:WL)(r:Rs->Prop):Prop:=r (some (.tup [.own 0,.own 1,Bo false],[.arr 3 1 true (b0.map ic),.arr 3 1 true (b0.map ic)]))
def vA(b0:Int)(b1 b2:WL)(r:Rs->Prop):Prop:=r (some (.tup [I b0,.own 0,.own 1],[.arr 3 1 true (b1.map ic),.arr 3 1 true (b2.map ic)]))
def vB(x:Rs)(A:(WL)->(List Zd)->(List Zk)->Prop):Prop:=∃(a0:WL) (a1:List Zd) (a2:List Zk),x=some (.tup [],[.arr 3 1 true (a0.map ic),.arr 77 4 true (a1.map Zd.c),.arr 149 3 true (a2.map Zk.c)])/\A a0 a1 a2
def vC(r:Rs->Prop):Prop:=r (some (.tup [.agg [I 0,I 0,I 0,.t .nil],Bo false],[]))
def vD(b0:List Zp)(r:Rs->Prop):Prop:=r (some (.tup [.own 0,Bo true],[.arr 143 4 true (b0.map Zp.c)]))
def vE(b0 b1 b2:Int)(b3 b4 b5:WL)(b6:List Ze)(b7:WA)(r:Rs->Prop):Prop:=r (some (.tup [.agg [I b0,I b1,I b2,L 1 (b3.map ic),L 1 (b4.map ic),L 1 (b5.map ic),L 1 (b6.map Ze.c),L 1 (b7.map AF)],Bo true],[]))
def vF(b0:Zf)(b1:Zq)(b2:Zc)(b3 b4 b5:Int)(b6 b7 b8:WL)(b9:List Ze)(cc:WA)(b11:Zo)(r:Rs->Prop):Prop:=r (some (.tup [.agg (b0.c.map .t),.agg (b1.c.map .t),.agg (b2.c.map .t),.agg [I b3,I b4,I b5,L 1 (b6.map ic),L 1 (b7.map ic),L 1 (b8.map ic),L 1 (b9.map Ze.c),L 1 (cc.map AF)]],[.box (b11.c.map .t)]))
def vG(x:Rs)(A:(List Zp)->Prop):Prop:=∃(a0:List Zp),x=some (.tup [.own 0,Bo true],[.arr 143 4 true (a0.map Zp.c)])/\A a0
def vH(r:Rs->Prop):Prop:=r (some (.tup [.t .nil,.t .nil,Bo false],[]))
def Li(b0:WL)(b1:List Zd)(r:Rs->Prop):Prop:=r (some (.own 1,[.arr 3 1 true (b0.map ic),.arr 77 4 true (b1.map Zd.c)]))
def vI(b0 b1 b2:Int)(b3:WL)(r:Rs->Prop):Prop:=r (some (.tup [.agg [I b0,I b1,I b2,.t .nil],Bo false],[.arr 3 1 true (b3.map ic)]))
def vJ(b0 b1 b2:Int)(b3:WL)(b4:List Zk)(r:Rs->Prop):Prop:=r (some (.tup [.agg [I b0,I b1,I b2,.own 1],Bo true],[.arr 3 1 true (b3.map ic),.arr 149 3 true (b4.map Zk.c)]))
class Hd (F:Type) (T:outParam Type) where
 im:F->T->Prop
instance im0:Hd Rs ((Rs->Prop)->Prop):=⟨λf T=>∀r,Im (f=some r) (T λx=>x=some r)⟩
instance im1 {α F T:Type} [Hd F T]:Hd (α->F) (α->T):=⟨λf t=>∀a,Hd.im (f a) (t a)⟩
abbrev iM{F T:Type}[Hd F T](f:F)(t:T):Prop:=Hd.im f t
def uq{P Q:Prop}(h:P)(e:P=Q:=by conv=>lhs;try dsimp only[qs1,AO,AZ,qs4,BA,BZ,qs7,qs8,BR,Vh,Wx,G9,Vo,Kb,Kc,Uc,Up,Pb,Jt,Ju,Jv,Jw,Ha,aD,FF,I8,FG,FH,KC,FI,FJ,Kd,Hb,Hc,Pc,I9,aF,La,Lb,Pd,Pe,aG,Pf,Lc,aH,aI,aJ,aK,aL,aM,uN,uO,aN,aO,aP,Ld,uP,uQ,uR,uS,uT,uU,Lg,uV,Lh,uW,uX,uY,uZ,vA,vB,vC,vD,vE,vF,vG,vH,Li,vI,vJ,iM,Hd.im,im0,im1,qB,qV,qI,qH,qG,qb,qi,qL,qM,qN,Im]):Q:=e▸h
def qu{P Q:Prop}(h:Q)(e:P=Q:=by conv=>lhs;dsimp only[qs1,AO,AZ,qs4,BA,BZ,qs7,qs8,BR,Vh,Wx,G9,Vo,Kb,Kc,Uc,Up,Pb,Jt,Ju,Jv,Jw,Ha,aD,FF,I8,FG,FH,KC,FI,FJ,Kd,Hb,Hc,Pc,I9,aF,La,Lb,Pd,Pe,aG,Pf,Lc,aH,aI,aJ,aK,aL,aM,uN,uO,aN,aO,aP,Ld,uP,uQ,uR,uS,uT,uU,Lg,uV,Lh,uW,uX,uY,uZ,vA,vB,vC,vD,vE,vF,vG,vH,Li,vI,vJ,iM,Hd.im,im0,im1,qB,qV,qI,qH,qG,qb,qi,qL,qM,qN]):P:=e▸h
def ext:ZK:=λ_ _ _=>none
open Go.ChangeShapes Go.WideShapes Go.ChangeAt Go.RowKit
def own:ownKnob Tryz.prog.godebug=none:=by kernel_rfl
def laidOut:laidOutB Tryz.prog=true:=by kernel_rfl
noncomputable def Ae:Nat->Option Ab:=CP Tryz.prog [9000003,10000005,2000006,4000006,5000006,9000014,10000014,14,2000017,1000027,32,9000035,10000035,35,10000036,37,6000061,1000062,67,10000068,68,9000069,10000069,69,9000070,10000070,70,71,10000072,10000073,10000074,76,99,1000101,103,104,6000105,6000106,106,10000107,107,10000108,108,110,10000112,9000113,10000113,113,6000114,126,6000143,6000144,6000147,147,150,10000153,6000155,6000157,157,1000173,1000180,184,1000190,10000199,6000205,1000214,222,6000223,8000232,6000233,6000241,7000241,6000244,6000249,9000250,6000251,6000252,8000252,6000255,6000256,6000258,7000258,9000262,6000262,7000262,6000263]
noncomputable def Zj(f:Nat)(fn:Func):Option Ab:=GV Tryz.prog (EB [9000003,10000005,2000006,4000006,5000006,9000014,10000014,14,2000017,1000027,32,9000035,10000035,35,10000036,37,6000061,1000062,67,10000068,68,9000069,10000069,69,9000070,10000070,70,71,10000072,10000073,10000074,76,99,1000101,103,104,6000105,6000106,106,10000107,107,10000108,108,110,10000112,9000113,10000113,113,6000114,126,6000143,6000144,6000147,147,150,10000153,6000155,6000157,157,1000173,1000180,184,1000190,10000199,6000205,1000214,222,6000223,8000232,6000233,6000241,7000241,6000244,6000249,9000250,6000251,6000252,8000252,6000255,6000256,6000258,7000258,9000262,6000262,7000262,6000263] f) (ZrL fn) fn
noncomputable def C:ZK:=WH ext Ae
def run{f:Nat}{xs:XQ}{m:Ab}(ht:Ae f=some m)(hl:xs.length=m.np){r:XS}(h:Ev C [.fin 0 m.res] m.body ⟨K8 xs 0,[[]],[]⟩=some r):C f xs []=some r:=Z3W (h0:=[]) ht hl h
def XH{f:Nat}{xs:XQ}{h0:V2}{m:Ab}(ht:Ae f=some m)(hl:xs.length=m.np){r:XS}(h:Ev C [.fin h0.length m.res] m.body ⟨K8 xs 0,[QX h0 0],h0⟩=some r):C f xs h0=some r:=Z3W ht hl h
abbrev ZFt:Nat:=3
abbrev Z9:Nat:=3
abbrev t_bool:Nat:=4
abbrev ZFu:Nat:=9
abbrev Z4p:Nat:=32
abbrev Z4q:Nat:=113
abbrev Lj:Nat:=143
