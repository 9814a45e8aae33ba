/-
  Parts of the proofs for this seat: TX.
-/
import Derived.Test.YtggcnlojfngdeaaGreatP5
import Derived.Test.YtggcnlojfngdeaaGreatP6
set_option linter.all false
set_option maxRecDepth 100000
set_option maxHeartbeats 4000000
namespace Go.Proofs.YtggcnlojfngdeaaGreat
open Go.AM
@[ext] structure Z9 where
 From:Int
 Add:Int
 deriving DecidableEq
def Z9.c(x:Z9):V4:=[.int .i64 x.From,.int .i64 x.Add]
@[simp] def Z9.c_def(x:Z9):x.c=[.int .i64 x.From,.int .i64 x.Add]:=rfl
@[simp] def Z9.map_inj(xs ys:List Z9):xs.map Z9.c=ys.map Z9.c↔xs=ys:=X4 (by
 intro a b h;simp at h
 simp[Z9.ext_iff,h])
@[simp] def Z9.flat(xs:List Z9):(xs.map Z9.c).all (λx=>x.all ZX)=true:=KY (λ_=>rfl) xs
@[simp] def Z9.flat2(xs:List Z9):xs.all ((λx=>x.all ZX) ∘ Z9.c)=true:=KZ (λ_=>rfl) xs
@[ext] structure Zz where
 Fixed:Int
 Vj:Int
 Vk:Int
 Vl:Int
 Vm:Int
 Steps:List Z9
 deriving DecidableEq
def Zz.c(x:Zz):V4:=[.int .i64 x.Fixed,.int .i64 x.Vj,.int .i64 x.Vk,.int .i64 x.Vl,.int .i64 x.Vm,.lst 2 (x.Steps.map Z9.c)]
@[simp] def Zz.c_def(x:Zz):x.c=[.int .i64 x.Fixed,.int .i64 x.Vj,.int .i64 x.Vk,.int .i64 x.Vl,.int .i64 x.Vm,.lst 2 (x.Steps.map Z9.c)]:=rfl
@[simp] def Zz.map_inj(xs ys:List Zz):xs.map Zz.c=ys.map Zz.c↔xs=ys:=X4 (by
 intro a b h;simp at h
 simp[Zz.ext_iff,h])
@[ext] structure Zf where
 Scan:Zz
 Sort_:Zz
 Hash:Zz
 Merge:Zz
 Nested:Zz
 deriving DecidableEq
def Zf.c(x:Zf):V4:=[.int .i64 x.Scan.Fixed,.int .i64 x.Scan.Vj,.int .i64 x.Scan.Vk,.int .i64 x.Scan.Vl,.int .i64 x.Scan.Vm,.lst 2 (x.Scan.Steps.map Z9.c),.int .i64 x.Sort_.Fixed,.int .i64 x.Sort_.Vj,.int .i64 x.Sort_.Vk,.int .i64 x.Sort_.Vl,.int .i64 x.Sort_.Vm,.lst 2 (x.Sort_.Steps.map Z9.c),.int .i64 x.Hash.Fixed,.int .i64 x.Hash.Vj,.int .i64 x.Hash.Vk,.int .i64 x.Hash.Vl,.int .i64 x.Hash.Vm,.lst 2 (x.Hash.Steps.map Z9.c),.int .i64 x.Merge.Fixed,.int .i64 x.Merge.Vj,.int .i64 x.Merge.Vk,.int .i64 x.Merge.Vl,.int .i64 x.Merge.Vm,.lst 2 (x.Merge.Steps.map Z9.c),.int .i64 x.Nested.Fixed,.int .i64 x.Nested.Vj,.int .i64 x.Nested.Vk,.int .i64 x.Nested.Vl,.int .i64 x.Nested.Vm,.lst 2 (x.Nested.Steps.map Z9.c)]
@[simp] def Zf.c_def(x:Zf):x.c=[.int .i64 x.Scan.Fixed,.int .i64 x.Scan.Vj,.int .i64 x.Scan.Vk,.int .i64 x.Scan.Vl,.int .i64 x.Scan.Vm,.lst 2 (x.Scan.Steps.map Z9.c),.int .i64 x.Sort_.Fixed,.int .i64 x.Sort_.Vj,.int .i64 x.Sort_.Vk,.int .i64 x.Sort_.Vl,.int .i64 x.Sort_.Vm,.lst 2 (x.Sort_.Steps.map Z9.c),.int .i64 x.Hash.Fixed,.int .i64 x.Hash.Vj,.int .i64 x.Hash.Vk,.int .i64 x.Hash.Vl,.int .i64 x.Hash.Vm,.lst 2 (x.Hash.Steps.map Z9.c),.int .i64 x.Merge.Fixed,.int .i64 x.Merge.Vj,.int .i64 x.Merge.Vk,.int .i64 x.Merge.Vl,.int .i64 x.Merge.Vm,.lst 2 (x.Merge.Steps.map Z9.c),.int .i64 x.Nested.Fixed,.int .i64 x.Nested.Vj,.int .i64 x.Nested.Vk,.int .i64 x.Nested.Vl,.int .i64 x.Nested.Vm,.lst 2 (x.Nested.Steps.map Z9.c)]:=rfl
@[simp] def Zf.map_inj(xs ys:List Zf):xs.map Zf.c=ys.map Zf.c↔xs=ys:=X4 (by
 intro a b h;simp at h
 simp[Zf.ext_iff,Zz.ext_iff,h])
@[ext] structure Zm where
 Name:V5
 Arity:Int
 Rows:XV
 deriving DecidableEq
def Zm.c(x:Zm):V4:=[.str x.Name,.int .i64 x.Arity,.lst 1 (x.Rows.map AA)]
@[simp] def Zm.c_def(x:Zm):x.c=[.str x.Name,.int .i64 x.Arity,.lst 1 (x.Rows.map AA)]:=rfl
@[simp] def Zm.map_inj(xs ys:List Zm):xs.map Zm.c=ys.map Zm.c↔xs=ys:=X4 (by
 intro a b h;simp at h
 simp[Zm.ext_iff,h])
@[ext] structure Zq where
 Tables:List Zm
 deriving DecidableEq
def Zq.c(x:Zq):V4:=[.lst 3 (x.Tables.map Zm.c)]
@[simp] def Zq.c_def(x:Zq):x.c=[.lst 3 (x.Tables.map Zm.c)]:=rfl
@[simp] def Zq.map_inj(xs ys:List Zq):xs.map Zq.c=ys.map Zq.c↔xs=ys:=X4 (by
 intro a b h;simp at h
 simp[Zq.ext_iff,h])
@[ext] structure ZC where
 Columns:WL
 Values:XV
 Counts:WL
 deriving DecidableEq
def ZC.c(x:ZC):V4:=[.lst 1 (x.Columns.map ic),.lst 1 (x.Values.map AA),.lst 1 (x.Counts.map ic)]
@[simp] def ZC.c_def(x:ZC):x.c=[.lst 1 (x.Columns.map ic),.lst 1 (x.Values.map AA),.lst 1 (x.Counts.map ic)]:=rfl
@[simp] def ZC.map_inj(xs ys:List ZC):xs.map ZC.c=ys.map ZC.c↔xs=ys:=X4 (by
 intro a b h;simp at h
 simp[ZC.ext_iff,h])
@[ext] structure Zu where
 Name:V5
 Arity:Int
 RowCount:Int
 Groups:List ZC
 deriving DecidableEq
def Zu.c(x:Zu):V4:=[.str x.Name,.int .i64 x.Arity,.int .i64 x.RowCount,.lst 3 (x.Groups.map ZC.c)]
@[simp] def Zu.c_def(x:Zu):x.c=[.str x.Name,.int .i64 x.Arity,.int .i64 x.RowCount,.lst 3 (x.Groups.map ZC.c)]:=rfl
@[simp] def Zu.map_inj(xs ys:List Zu):xs.map Zu.c=ys.map Zu.c↔xs=ys:=X4 (by
 intro a b h;simp at h
 simp[Zu.ext_iff,h])
@[ext] structure Z2 where
 Version:Int
 Tables:List Zu
 deriving DecidableEq
def Z2.c(x:Z2):V4:=[.int .i64 x.Version,.lst 4 (x.Tables.map Zu.c)]
@[simp] def Z2.c_def(x:Z2):x.c=[.int .i64 x.Version,.lst 4 (x.Tables.map Zu.c)]:=rfl
@[simp] def Z2.map_inj(xs ys:List Z2):xs.map Z2.c=ys.map Z2.c↔xs=ys:=X4 (by
 intro a b h;simp at h
 simp[Z2.ext_iff,h])
@[ext] structure Zx where
 Name:V5
 From:WL
 To:Int
 deriving DecidableEq
def Zx.c(x:Zx):V4:=[.str x.Name,.lst 1 (x.From.map ic),.int .i64 x.To]
@[simp] def Zx.c_def(x:Zx):x.c=[.str x.Name,.lst 1 (x.From.map ic),.int .i64 x.To]:=rfl
@[simp] def Zx.map_inj(xs ys:List Zx):xs.map Zx.c=ys.map Zx.c↔xs=ys:=X4 (by
 intro a b h;simp at h
 simp[Zx.ext_iff,h])
@[ext] structure Zw where
 Name:V5
 Column:Int
 Into:V5
 IntoColumn:Int
 deriving DecidableEq
def Zw.c(x:Zw):V4:=[.str x.Name,.int .i64 x.Column,.str x.Into,.int .i64 x.IntoColumn]
@[simp] def Zw.c_def(x:Zw):x.c=[.str x.Name,.int .i64 x.Column,.str x.Into,.int .i64 x.IntoColumn]:=rfl
@[simp] def Zw.map_inj(xs ys:List Zw):xs.map Zw.c=ys.map Zw.c↔xs=ys:=X4 (by
 intro a b h;simp at h
 simp[Zw.ext_iff,h])
@[simp] def Zw.flat(xs:List Zw):(xs.map Zw.c).all (λx=>x.all ZX)=true:=KY (λ_=>rfl) xs
@[simp] def Zw.flat2(xs:List Zw):xs.all ((λx=>x.all ZX) ∘ Zw.c)=true:=KZ (λ_=>rfl) xs
@[ext] structure Zr where
 Zq:Zq
 Z2:Z2
 Dependencies:List Zx
 Inclusions:List Zw
 deriving DecidableEq
def Zr.c(x:Zr):V4:=[.lst 3 (x.Zq.Tables.map Zm.c),.int .i64 x.Z2.Version,.lst 4 (x.Z2.Tables.map Zu.c),.lst 3 (x.Dependencies.map Zx.c),.lst 4 (x.Inclusions.map Zw.c)]
@[simp] def Zr.c_def(x:Zr):x.c=[.lst 3 (x.Zq.Tables.map Zm.c),.int .i64 x.Z2.Version,.lst 4 (x.Z2.Tables.map Zu.c),.lst 3 (x.Dependencies.map Zx.c),.lst 4 (x.Inclusions.map Zw.c)]:=rfl
@[simp] def Zr.map_inj(xs ys:List Zr):xs.map Zr.c=ys.map Zr.c↔xs=ys:=X4 (by
 intro a b h;simp at h
 simp[Zr.ext_iff,Zq.ext_iff,Z2.ext_iff,h])
@[ext] structure Zd where
 Name:V5
 Vars:WL
 deriving DecidableEq
def Zd.c(x:Zd):V4:=[.str x.Name,.lst 1 (x.Vars.map ic)]
@[simp] def Zd.c_def(x:Zd):x.c=[.str x.Name,.lst 1 (x.Vars.map ic)]:=rfl
@[simp] def Zd.map_inj(xs ys:List Zd):xs.map Zd.c=ys.map Zd.c↔xs=ys:=X4 (by
 intro a b h;simp at h
 simp[Zd.ext_iff,h])
@[ext] structure Zc where
 Zg:Int
 Atoms:List Zd
 deriving DecidableEq
def Zc.c(x:Zc):V4:=[.int .i64 x.Zg,.lst 2 (x.Atoms.map Zd.c)]
@[simp] def Zc.c_def(x:Zc):x.c=[.int .i64 x.Zg,.lst 2 (x.Atoms.map Zd.c)]:=rfl
@[simp] def Zc.map_inj(xs ys:List Zc):xs.map Zc.c=ys.map Zc.c↔xs=ys:=X4 (by
 intro a b h;simp at h
 simp[Zc.ext_iff,h])
@[ext] structure Box where
 Low:WL
 High:WL
 deriving DecidableEq
def Box.c(x:Box):V4:=[.lst 1 (x.Low.map ic),.lst 1 (x.High.map ic)]
@[simp] def Box.c_def(x:Box):x.c=[.lst 1 (x.Low.map ic),.lst 1 (x.High.map ic)]:=rfl
@[simp] def Box.map_inj(xs ys:List Box):xs.map Box.c=ys.map Box.c↔xs=ys:=X4 (by
 intro a b h;simp at h
 simp[Box.ext_iff,h])
@[ext] structure Zn where
 Kind:Int
 Zd:Int
 Order:Int
 deriving DecidableEq
def Zn.c(x:Zn):V4:=[.int .i64 x.Kind,.int .i64 x.Zd,.int .i64 x.Order]
@[simp] def Zn.c_def(x:Zn):x.c=[.int .i64 x.Kind,.int .i64 x.Zd,.int .i64 x.Order]:=rfl
@[simp] def Zn.map_inj(xs ys:List Zn):xs.map Zn.c=ys.map Zn.c↔xs=ys:=X4 (by
 intro a b h;simp at h
 simp[Zn.ext_iff,h])
@[simp] def Zn.flat(xs:List Zn):(xs.map Zn.c).all (λx=>x.all ZX)=true:=KY (λ_=>rfl) xs
@[simp] def Zn.flat2(xs:List Zn):xs.all ((λx=>x.all ZX) ∘ Zn.c)=true:=KZ (λ_=>rfl) xs
@[ext] structure Zj where
 Steps:List Zn
 deriving DecidableEq
def Zj.c(x:Zj):V4:=[.lst 3 (x.Steps.map Zn.c)]
@[simp] def Zj.c_def(x:Zj):x.c=[.lst 3 (x.Steps.map Zn.c)]:=rfl
@[simp] def Zj.map_inj(xs ys:List Zj):xs.map Zj.c=ys.map Zj.c↔xs=ys:=X4 (by
 intro a b h;simp at h
 simp[Zj.ext_iff,h])
@[ext] structure Z6 where
 Version:Int
 Ratio:Int
 Slack:Int
 Box:Box
 Budgets:WL
 Plans:List Zj
 Contours:XV
 deriving DecidableEq
def Z6.c(x:Z6):V4:=[.int .i64 x.Version,.int .i64 x.Ratio,.int .i64 x.Slack,.lst 1 (x.Box.Low.map ic),.lst 1 (x.Box.High.map ic),.lst 1 (x.Budgets.map ic),.lst 1 (x.Plans.map Zj.c),.lst 1 (x.Contours.map AA)]
@[simp] def Z6.c_def(x:Z6):x.c=[.int .i64 x.Version,.int .i64 x.Ratio,.int .i64 x.Slack,.lst 1 (x.Box.Low.map ic),.lst 1 (x.Box.High.map ic),.lst 1 (x.Budgets.map ic),.lst 1 (x.Plans.map Zj.c),.lst 1 (x.Contours.map AA)]:=rfl
@[simp] def Z6.map_inj(xs ys:List Z6):xs.map Z6.c=ys.map Z6.c↔xs=ys:=X4 (by
 intro a b h;simp at h
 simp[Z6.ext_iff,Box.ext_iff,h])
@[ext] structure Zb where
 Num:Int
 Den:Int
 deriving DecidableEq
def Zb.c(x:Zb):V4:=[.int .i64 x.Num,.int .i64 x.Den]
@[simp] def Zb.c_def(x:Zb):x.c=[.int .i64 x.Num,.int .i64 x.Den]:=rfl
@[simp] def Zb.map_inj(xs ys:List Zb):xs.map Zb.c=ys.map Zb.c↔xs=ys:=X4 (by
 intro a b h;simp at h
 simp[Zb.ext_iff,h])
@[simp] def Zb.flat(xs:List Zb):(xs.map Zb.c).all (λx=>x.all ZX)=true:=KY (λ_=>rfl) xs
@[simp] def Zb.flat2(xs:List Zb):xs.all ((λx=>x.all ZX) ∘ Zb.c)=true:=KZ (λ_=>rfl) xs
@[ext] structure ZL where
 Box:Box
 Costs:WL
 Choices:WL
 Plans:List Zj
 deriving DecidableEq
def ZL.c(x:ZL):V4:=[.lst 1 (x.Box.Low.map ic),.lst 1 (x.Box.High.map ic),.lst 1 (x.Costs.map ic),.lst 1 (x.Choices.map ic),.lst 1 (x.Plans.map Zj.c)]
@[simp] def ZL.c_def(x:ZL):x.c=[.lst 1 (x.Box.Low.map ic),.lst 1 (x.Box.High.map ic),.lst 1 (x.Costs.map ic),.lst 1 (x.Choices.map ic),.lst 1 (x.Plans.map Zj.c)]:=rfl
@[simp] def ZL.map_inj(xs ys:List ZL):xs.map ZL.c=ys.map ZL.c↔xs=ys:=X4 (by
 intro a b h;simp at h
 simp[ZL.ext_iff,Box.ext_iff,h])
@[ext] structure Zl where
 b:WL
 i:Int
 h:Int
 deriving DecidableEq
def Zl.c(x:Zl):V4:=[.lst 1 (x.b.map (kc .u8)),.int .i64 x.i,.int .i64 x.h]
@[simp] def Zl.c_def(x:Zl):x.c=[.lst 1 (x.b.map (kc .u8)),.int .i64 x.i,.int .i64 x.h]:=rfl
@[simp] def Zl.map_inj(xs ys:List Zl):xs.map Zl.c=ys.map Zl.c↔xs=ys:=X4 (by
 intro a b h;simp at h
 simp[Zl.ext_iff,h])
@[ext] structure Ze where
 Mask:Int
 Order:Int
 Cost:Int
 Zj:Zj
 deriving DecidableEq
def Ze.c(x:Ze):V4:=[.int .i64 x.Mask,.int .i64 x.Order,.int .i64 x.Cost,.lst 3 (x.Zj.Steps.map Zn.c)]
@[simp] def Ze.c_def(x:Ze):x.c=[.int .i64 x.Mask,.int .i64 x.Order,.int .i64 x.Cost,.lst 3 (x.Zj.Steps.map Zn.c)]:=rfl
@[simp] def Ze.map_inj(xs ys:List Ze):xs.map Ze.c=ys.map Ze.c↔xs=ys:=X4 (by
 intro a b h;simp at h
 simp[Ze.ext_iff,Zj.ext_iff,h])
@[ext] structure ZU where
 mask:Int
 ZQ:WL
 shared:XV
 deriving DecidableEq
def ZU.c(x:ZU):V4:=[.int .i64 x.mask,.lst 1 (x.ZQ.map ic),.lst 1 (x.shared.map AA)]
@[simp] def ZU.c_def(x:ZU):x.c=[.int .i64 x.mask,.lst 1 (x.ZQ.map ic),.lst 1 (x.shared.map AA)]:=rfl
@[simp] def ZU.map_inj(xs ys:List ZU):xs.map ZU.c=ys.map ZU.c↔xs=ys:=X4 (by
 intro a b h;simp at h
 simp[ZU.ext_iff,h])
@[ext] structure Zp where
 Mask:Int
 Order:Int
 Left:Int
 Right:Int
 deriving DecidableEq
def Zp.c(x:Zp):V4:=[.int .i64 x.Mask,.int .i64 x.Order,.int .i64 x.Left,.int .i64 x.Right]
@[simp] def Zp.c_def(x:Zp):x.c=[.int .i64 x.Mask,.int .i64 x.Order,.int .i64 x.Left,.int .i64 x.Right]:=rfl
@[simp] def Zp.map_inj(xs ys:List Zp):xs.map Zp.c=ys.map Zp.c↔xs=ys:=X4 (by
 intro a b h;simp at h
 simp[Zp.ext_iff,h])
@[simp] def Zp.flat(xs:List Zp):(xs.map Zp.c).all (λx=>x.all ZX)=true:=KY (λ_=>rfl) xs
@[simp] def Zp.flat2(xs:List Zp):xs.all ((λx=>x.all ZX) ∘ Zp.c)=true:=KZ (λ_=>rfl) xs
@[simp] def uI(xs ys:List (List Zb)):xs.map (lc 2 Zb.c)=ys.map (lc 2 Zb.c)↔xs=ys:=X4 (by
 intro a b h
 simpa[lc]using h)
@[ext] structure Program where
 Objective:WL
 Rows:XV
 Limits:WL
 deriving DecidableEq
def Program.c(x:Program):V4:=[.lst 1 (x.Objective.map ic),.lst 1 (x.Rows.map AA),.lst 1 (x.Limits.map ic)]
@[simp] def Program.c_def(x:Program):x.c=[.lst 1 (x.Objective.map ic),.lst 1 (x.Rows.map AA),.lst 1 (x.Limits.map ic)]:=rfl
@[simp] def Program.map_inj(xs ys:List Program):xs.map Program.c=ys.map Program.c↔xs=ys:=X4 (by
 intro a b h;simp at h
 simp[Program.ext_iff,h])
@[ext] structure Zv where
 Basic:WL
 Free:WL
 Cells:List (List Zb)
 Limits:List Zb
 Costs:List Zb
 Value:Zb
 deriving DecidableEq
def Zv.c(x:Zv):V4:=[.lst 1 (x.Basic.map ic),.lst 1 (x.Free.map ic),.lst 1 (x.Cells.map (lc 2 Zb.c)),.lst 2 (x.Limits.map Zb.c),.lst 2 (x.Costs.map Zb.c),.int .i64 x.Value.Num,.int .i64 x.Value.Den]
@[simp] def Zv.c_def(x:Zv):x.c=[.lst 1 (x.Basic.map ic),.lst 1 (x.Free.map ic),.lst 1 (x.Cells.map (lc 2 Zb.c)),.lst 2 (x.Limits.map Zb.c),.lst 2 (x.Costs.map Zb.c),.int .i64 x.Value.Num,.int .i64 x.Value.Den]:=rfl
@[simp] def Zv.map_inj(xs ys:List Zv):xs.map Zv.c=ys.map Zv.c↔xs=ys:=X4 (by
 intro a b h;simp at h
 simp[Zv.ext_iff,Zb.ext_iff,h])
@[ext] structure ZG where
 From:Int
 To:Int
 Bits:Int
 deriving DecidableEq
def ZG.c(x:ZG):V4:=[.int .i64 x.From,.int .i64 x.To,.int .i64 x.Bits]
@[simp] def ZG.c_def(x:ZG):x.c=[.int .i64 x.From,.int .i64 x.To,.int .i64 x.Bits]:=rfl
@[simp] def ZG.map_inj(xs ys:List ZG):xs.map ZG.c=ys.map ZG.c↔xs=ys:=X4 (by
 intro a b h;simp at h
 simp[ZG.ext_iff,h])
@[simp] def ZG.flat(xs:List ZG):(xs.map ZG.c).all (λx=>x.all ZX)=true:=KY (λ_=>rfl) xs
@[simp] def ZG.flat2(xs:List ZG):xs.all ((λx=>x.all ZX) ∘ ZG.c)=true:=KZ (λ_=>rfl) xs
def Zo(x:WL):Ax:=.arr 3 1 true (x.map ic)
def ZZ(x:List Zb):Ax:=.arr 54 2 true (x.map Zb.c)
def Xc(x:XV):Ax:=.arr 44 1 true (x.map AA)
def JH(x:List ZU):Ax:=.arr 158 3 true (x.map ZU.c)
def JI(x:List Ze):Ax:=.arr 117 4 true (x.map Ze.c)
def I6(x:List Zp):Ax:=.arr 185 4 true (x.map Zp.c)
def Zt(x:WL):AV:=L 1 (x.map ic)
def JJ(x:List Zb):AV:=L 2 (x.map Zb.c)
def Am(x:V4):AV:=.agg (x.map .t)
def Ae(x:V4):Ax:=.box (x.map .t)
def Pi:V2->XQ->List (Nat×AV)
 |a::l,b::m=>(a,b)::Pi l m
 |_,_=>[]
noncomputable def lp(C:ZE)(k:List Fr)(ks:V2)(B:Za)(vs:XQ)(h:WM):Rs:=EvL C k ks B ⟨Pi ks vs,[[]],h⟩
def Ar:(∀x,Zo x=.arr 3 1 true (x.map ic))/\(∀x,ZZ x=.arr 54 2 true (x.map Zb.c))/\(∀x,Xc x=.arr 44 1 true (x.map AA))/\(∀x,JH x=.arr 158 3 true (x.map ZU.c))/\(∀x,JI x=.arr 117 4 true (x.map Ze.c))/\(∀x,I6 x=.arr 185 4 true (x.map Zp.c))/\(∀x,Zt x=L 1 (x.map ic))/\(∀x,JJ x=L 2 (x.map Zb.c))/\(∀x,Am x=.agg (x.map .t))/\(∀x,Ae x=.box (x.map .t))/\(∀C k ks B vs h,lp C k ks B vs h=EvL C k ks B ⟨Pi ks vs,[[]],h⟩)/\(∀a l b m,Pi (a::l) (b::m)=(a,b)::Pi l m)/\(∀l,Pi [] l=[]):=by
 and_intros<;>intros<;>rfl
def qB(c:Rs)(A B:Prop):Prop:=∃v,c=some (Bo v,[])/\if v=true then A else B
def qV(c:Rs)(A:Bool->Prop):Prop:=∃v,c=some (Bo v,[])/\A v
def qI(c:Rs)(A:Int->Prop):Prop:=∃v,c=some (I v,[])/\A v
def qH{α:Type}(l:List α)(i:Int)(A:α->Prop):Prop:=∃e,l[i.toNat]?=some e/\A e
def qG{α:Type}(l:List α)(i:Int)(A:α->Prop):Prop:=0<=i/\∃e,l[i.toNat]?=some e/\A e
def qb(b:Bool)(r:Rs->Prop):Prop:=r (some (Bo b,[]))
def qi(n:Int)(r:Rs->Prop):Prop:=r (some (I n,[]))
def qL{α:Sort _}(a:α)(f:α->Prop):Prop:=f a
def qM{α:Type}(l:List α)(A:Prop):Prop:=l.length<=68719476736/\A
def qN{α:Type}(l:List α)(A:Prop):Prop:=l.length+1<=68719476736/\A
def qs1(r:Rs->Prop):Prop:=r (some (Bo false,[]))
def A3(b0:WL)(r:Rs->Prop):Prop:=r (some (.own 0,[.arr 3 1 true (b0.map ic)]))
def A4(x:Rs)(A:(WL)->Prop):Prop:=∃(a0:WL),x=some (.own 0,[.arr 3 1 true (a0.map ic)])/\A a0
def Bs(x:Rs)(A:Zb->Bool->Prop):Prop:=∃(a0:Zb) (a1:Bool),x=some (.tup [.agg (a0.c.map .t),Bo a1],[])/\A a0 a1
def qs5(r:Rs->Prop):Prop:=r (some (I (-1),[]))
def BA(x:Rs)(A:Zl->Int->Prop):Prop:=∃(a0:Zl) (a1:Int),x=some (I a1,[.box (a0.c.map .t)])/\A a0 a1
def qs7(r:Rs->Prop):Prop:=r (some (I 0,[]))
def qs8(r:Rs->Prop):Prop:=r (some (Bo true,[]))
def Cm(x:Rs)(A:Zb->Prop):Prop:=∃(a0:Zb),x=some (.agg (a0.c.map .t),[])/\A a0
def Wy(r:Rs->Prop):Prop:=r (some (.tup [.agg [I 0,I 0,I 0,I 0],I (-1)],[]))
def G1(b0:WL)(b1:List Zb)(r:Rs->Prop):Prop:=r (some (.tup [.agg [.own 0,.own 1,.own 2,.own 3,.own 4,I 0,I 0],Bo false],[.arr 3 1 true (b0.map ic),.arr 3 1 true (b0.map ic),.arr 264 1 true (([]:List (List Zb)).map (lc 2 Zb.c)),.arr 54 2 true (b1.map Zb.c),.arr 54 2 true (b1.map Zb.c)]))
def Qi(b0:List Zm)(b1:Int)(b2:List Zu)(b3:List Zx)(b4:List Zw)(b5:Zl)(r:Rs->Prop):Prop:=r (some (.agg [L 3 (b0.map Zm.c),I b1,L 4 (b2.map Zu.c),L 3 (b3.map Zx.c),L 4 (b4.map Zw.c)],[.box (b5.c.map .t)]))
def W7(r:Rs->Prop):Prop:=r (some (.tup [.agg [I 0,I 0],Bo false],[]))
def VZ(x:Rs)(A:Zl->(WL)->Int->Prop):Prop:=∃(a0:Zl) (a1:WL) (a2:Int),x=some (I a2,[.box (a0.c.map .t),.arr 3 1 true (a1.map ic)])/\A a0 a1 a2
def JK(x:Rs)(A:(List Zn)->Prop):Prop:=∃(a0:List Zn),x=some (.agg [.own 0],[.arr 210 3 true (a0.map Zn.c)])/\A a0
def UL(x:Rs)(A:Zl->Bool->Prop):Prop:=∃(a0:Zl) (a1:Bool),x=some (Bo a1,[.box (a0.c.map .t)])/\A a0 a1
def Ky(b0:XV)(r:Rs->Prop):Prop:=r (some (.own 0,[.arr 44 1 true (b0.map AA)]))
def Kz(x:Rs)(A:(WL)->Bool->Prop):Prop:=∃(a0:WL) (a1:Bool),x=some (.tup [.own 0,Bo a1],[.arr 3 1 true (a0.map ic)])/\A a0 a1
def Pj(b0:WL)(b1:List Zj)(b2:XV)(r:Rs->Prop):Prop:=r (some (.tup [.agg [I 0,I 0,I 0,L 1 (b0.map ic),L 1 (b0.map ic),L 1 (b0.map ic),L 1 (b1.map Zj.c),L 1 (b2.map AA)],Bo false],[]))
def Ja(b0:List ZG)(r:Rs->Prop):Prop:=r (some (.own 0,[.arr 292 3 true (b0.map ZG.c)]))
def UM(x:Rs)(A:(XV)->Prop):Prop:=∃(a0:XV),x=some (.own 0,[.arr 44 1 true (a0.map AA)])/\A a0
def aH(b0:WL)(b1:XV)(r:Rs->Prop):Prop:=r (some (.tup [.agg [.own 0,.own 1,.own 2],Bo false],[.arr 3 1 true (b0.map ic),.arr 44 1 true (b1.map AA),.arr 3 1 true (b0.map ic)]))
def JL(b0:Zb)(b1:Bool)(r:Rs->Prop):Prop:=r (some (.tup [.agg (b0.c.map .t),Bo b1],[]))
def JM(b0 b1:Int)(r:Rs->Prop):Prop:=r (some (.tup [I b0,I b1],[]))
def JN(r:Rs->Prop):Prop:=r (some (.tup [.agg [I 0,I (-1),I (-1),I (-1)],Bo false],[]))
def G2(b0:Int)(b1:Zl)(b2:List Zd)(r:Rs->Prop):Prop:=r (some (.agg [I b0,.own 1],[.box (b1.c.map .t),.xarr 105 2 (b2.map Zd.c)]))
def G3(x:Rs)(A:Zz->Prop):Prop:=∃(a0:Zz),x=some (.agg (a0.c.map .t),[])/\A a0
def Pk(b0:WL)(b1:List Ze)(b2:List Zn)(r:Rs->Prop):Prop:=r (some (.tup [],[.arr 3 1 true (b0.map ic),.arr 117 4 true (b1.map Ze.c),.arr 210 3 true (b2.map Zn.c)]))
def I7(x:Rs)(A:Zl->(List Z9)->Int->Int->Int->Int->Int->Prop):Prop:=∃(a0:Zl) (a1:List Z9) (a2:Int) (a3:Int) (a4:Int) (a5:Int) (a6:Int),x=some (.agg [I a2,I a3,I a4,I a5,I a6,.own 1],[.box (a0.c.map .t),.arr 188 2 true (a1.map Z9.c)])/\A a0 a1 a2 a3 a4 a5 a6
def I8(b0:List Zm)(b1:Zl)(r:Rs->Prop):Prop:=r (some (.agg [L 3 (b0.map Zm.c)],[.box (b1.c.map .t)]))
def aI(b0:List Zb)(r:Rs->Prop):Prop:=r (some (.tup [.agg [I 0,I 0,.own 0,.own 1],Bo false],[.arr 54 2 true (b0.map Zb.c),.arr 54 2 true (b0.map Zb.c)]))
def I9(b0:Int)(b1:WL)(r:Rs->Prop):Prop:=r (some (.tup [I b0,L 1 (b1.map ic),.t .nil],[]))
def Pl(b0:WL)(r:Rs->Prop):Prop:=r (some (.tup [.own 0,Bo false],[.arr 3 1 true (b0.map ic)]))
def Pm(x:Rs)(A:Zl->(List Zd)->Int->Prop):Prop:=∃(a0:Zl) (a1:List Zd) (a2:Int),x=some (.agg [I a2,.own 1],[.box (a0.c.map .t),.xarr 105 2 (a1.map Zd.c)])/\A a0 a1 a2
def Pn(b0:Int)(b1:List Zd)(b2:Zl)(r:Rs->Prop):Prop:=r (some (.agg [I b0,L 2 (b1.map Zd.c)],[.box (b2.c.map .t)]))
def aJ(b0:XV)(r:Rs->Prop):Prop:=r (some (.tup [.agg [.t (.str (⟨#[]⟩:V5)),I 0,.own 0],Bo false],[.arr 44 1 true (b0.map AA)]))
def Po(x:Rs)(A:Int->Int->Int->Prop):Prop:=∃(a0:Int) (a1:Int) (a2:Int),x=some (.tup [.agg [I a0,I a1,I a2,.t .nil],Bo false],[])/\A a0 a1 a2
def Pp(x:Rs)(A:(List Zn)->Int->Int->Int->Prop):Prop:=∃(a0:List Zn) (a1:Int) (a2:Int) (a3:Int),x=some (.tup [.agg [I a1,I a2,I a3,.own 0],Bo true],[.arr 210 3 true (a0.map Zn.c)])/\A a0 a1 a2 a3
def La(b0:WL)(b1:List Zj)(r:Rs->Prop):Prop:=r (some (.tup [.agg [L 1 (b0.map ic),L 1 (b0.map ic),L 1 (b0.map ic),L 1 (b0.map ic),L 1 (b1.map Zj.c)],Bo false],[]))
def aK(b0:List Zp)(r:Rs->Prop):Prop:=r (some (.tup [.own 0,Bo false],[.arr 185 4 true (b0.map Zp.c)]))
def Pq(r:Rs->Prop):Prop:=r (some (.tup [.t .nil,Bo false],[]))
def Pr(r:Rs->Prop):Prop:=r (some (.tup [I 0,Bo false],[]))
def aL(b0:Int)(b1:Zl)(r:Rs->Prop):Prop:=r (some (I b0,[.box (b1.c.map .t)]))
def Lb(b0:List Zm)(b1:List Zu)(b2:List Zx)(b3:List Zw)(r:Rs->Prop):Prop:=r (some (.tup [.agg [.own 0,I 0,.own 1,.own 2,.own 3],Bo false],[.arr 150 3 true (b0.map Zm.c),.arr 100 4 true (b1.map Zu.c),.arr 93 3 true (b2.map Zx.c),.arr 96 4 true (b3.map Zw.c)]))
def aM(x:Rs)(A:(List Zd)->Int->Bool->Prop):Prop:=∃(a0:List Zd) (a1:Int) (a2:Bool),x=some (.tup [.agg [I a1,.own 0],Bo a2],[.xarr 105 2 (a0.map Zd.c)])/\A a0 a1 a2
def aN(x:Rs)(A:Zl->Zc->Prop):Prop:=∃(a0:Zl) (a1:Zc),x=some (.agg (a1.c.map .t),[.box (a0.c.map .t)])/\A a0 a1
def aO(b0 b1:WL)(r:Rs->Prop):Prop:=r (some (.own 1,[.arr 3 1 true (b0.map ic),.arr 3 1 true (b1.map ic)]))
def aP(x:Rs)(A:(List ZG)->Prop):Prop:=∃(a0:List ZG),x=some (.own 0,[.arr 292 3 true (a0.map ZG.c)])/\A a0
def aQ(b0:Int)(r:Rs->Prop):Prop:=r (some (.tup [I b0,I 4],[]))
def aR(b0:List Zn)(r:Rs->Prop):Prop:=r (some (.agg [.own 0],[.arr 210 3 true (b0.map Zn.c)]))
def uJ(b0:WL)(b1:List Ze)(r:Rs->Prop):Prop:=r (some (.tup [],[.arr 3 1 true (b0.map ic),.arr 117 4 true (b1.map Ze.c)]))
def uK(b0:WL)(b1:List Ze)(b2 b3:List Zn)(r:Rs->Prop):Prop:=r (some (.tup [],[.arr 3 1 true (b0.map ic),.arr 117 4 true (b1.map Ze.c),.arr 210 3 true (b2.map Zn.c),.arr 210 3 true (b3.map Zn.c)]))
def aS(x:Rs)(A:(WL)->(List Ze)->Prop):Prop:=∃(a0:WL) (a1:List Ze),x=some (.tup [],[.arr 3 1 true (a0.map ic),.arr 117 4 true (a1.map Ze.c)])/\A a0 a1
def Lc(b0 b1 b2:Int)(r:Rs->Prop):Prop:=r (some (.tup [.agg [I b0,I (-1),I b1,I b2],Bo false],[]))
def uL(b0:WL)(b1:Int)(r:Rs->Prop):Prop:=r (some (.ptr 0 0,[.box [L 1 (b0.map (kc .u8)),I 0,I b1]]))
def uM(b0 b1 b2 b3:Int)(b4:Zl)(b5:List Z9)(r:Rs->Prop):Prop:=r (some (.agg [I b0,I b1,I b2,I b3,I 0,.own 1],[.box (b4.c.map .t),.arr 188 2 true (b5.map Z9.c)]))
def uN(r:Rs->Prop):Prop:=r (some (.tup [.agg [.t (.str (⟨#[]⟩:V5)),I 0,.t .nil],Bo false],[]))
def uO(b0:WL)(r:Rs->Prop):Prop:=r (some (.tup [.own 0,Bo true],[.arr 3 1 true (b0.map ic)]))
def uP(b0:XV)(b1:WL)(r:Rs->Prop):Prop:=r (some (.tup [.own 0,.own 1],[.arr 44 1 true (b0.map AA),.arr 3 1 true (b1.map ic)]))
def uQ(x:Rs)(A:(XV)->(WL)->Prop):Prop:=∃(a0:XV) (a1:WL),x=some (.tup [.own 0,.own 1],[.arr 44 1 true (a0.map AA),.arr 3 1 true (a1.map ic)])/\A a0 a1
def Ld(b0:List Zu)(r:Rs->Prop):Prop:=r (some (.tup [.agg [I 0,.own 0],Bo false],[.arr 100 4 true (b0.map Zu.c)]))
def uR(b0:List Zm)(r:Rs->Prop):Prop:=r (some (.agg [.own 0],[.arr 150 3 true (b0.map Zm.c)]))
def uS(x:Rs)(A:Zl->(List Zm)->Prop):Prop:=∃(a0:Zl) (a1:List Zm),x=some (.agg [.own 1],[.box (a0.c.map .t),.arr 150 3 true (a1.map Zm.c)])/\A a0 a1
def uT(x:Rs)(A:Zl->(List Zm)->(List Zu)->(List Zx)->(List Zw)->Int->Prop):Prop:=∃(a0:Zl) (a1:List Zm) (a2:List Zu) (a3:List Zx) (a4:List Zw) (a5:Int),x=some (.agg [.own 1,I a5,.own 2,.own 3,.own 4],[.box (a0.c.map .t),.arr 150 3 true (a1.map Zm.c),.arr 100 4 true (a2.map Zu.c),.arr 93 3 true (a3.map Zx.c),.arr 96 4 true (a4.map Zw.c)])/\A a0 a1 a2 a3 a4 a5
def uU(b0:Zf)(b1:List Zm)(b2:Int)(b3:List Zu)(b4:List Zx)(b5:List Zw)(b6:Zc)(b7 b8:Int)(b9:Zl)(r:Rs->Prop):Prop:=r (some (.tup [.agg (b0.c.map .t),.agg [L 3 (b1.map Zm.c),I b2,L 4 (b3.map Zu.c),L 3 (b4.map Zx.c),L 4 (b5.map Zw.c)],.agg (b6.c.map .t),I b7,I b8],[.box (b9.c.map .t)]))
def uV(b0:Zf)(b1:Zr)(b2:Int)(b3:List Zd)(b4 b5:Int)(r:Rs->Prop):Prop:=r (some (.tup [.agg (b0.c.map .t),.agg (b1.c.map .t),.agg [I b2,L 2 (b3.map Zd.c)],I b4,I b5],[]))
def uW(b0:Zf)(b1:Zr)(b2:Zc)(b3 b4:Int)(r:Rs->Prop):Prop:=r (some (.tup [.agg (b0.c.map .t),.agg (b1.c.map .t),.agg (b2.c.map .t),I b3,I b4],[]))
def uX(x:Rs)(A:(WL)->(WL)->Prop):Prop:=∃(a0:WL) (a1:WL),x=some (.own 1,[.arr 3 1 true (a0.map ic),.arr 3 1 true (a1.map ic)])/\A a0 a1
def uY(x:Rs)(A:(WL)->(XV)->(WL)->Bool->Prop):Prop:=∃(a0:WL) (a1:XV) (a2:WL) (a3:Bool),x=some (.tup [.agg [.own 0,.own 1,.own 2],Bo a3],[.arr 3 1 true (a0.map ic),.arr 44 1 true (a1.map AA),.arr 3 1 true (a2.map ic)])/\A a0 a1 a2 a3
def uZ(b0:WL)(r:Rs->Prop):Prop:=r (some (.tup [.agg [L 1 (b0.map ic),L 1 (b0.map ic)],Bo false],[]))
def vA(b0:WL)(r:Rs->Prop):Prop:=r (some (.tup [.own 0,.own 1,Bo false],[.arr 3 1 true (b0.map ic),.arr 3 1 true (b0.map ic)]))
def vB(b0:Int)(b1 b2:WL)(r:Rs->Prop):Prop:=r (some (.tup [I b0,.own 0,.own 1],[.arr 3 1 true (b1.map ic),.arr 3 1 true (b2.map ic)]))
def vC(x:Rs)(A:(WL)->(List Ze)->(List Zn)->Prop):Prop:=∃(a0:WL) (a1:List Ze) (a2:List Zn),x=some (.tup [],[.arr 3 1 true (a0.map ic),.arr 117 4 true (a1.map Ze.c),.arr 210 3 true (a2.map Zn.c)])/\A a0 a1 a2
def vD(x:Rs)(A:(WL)->(WL)->Prop):Prop:=∃(a0:WL) (a1:WL),x=some (.agg [.own 0,.own 1],[.arr 3 1 true (a0.map ic),.arr 3 1 true (a1.map ic)])/\A a0 a1
def vE(b0:List Zp)(r:Rs->Prop):Prop:=r (some (.tup [.own 0,Bo true],[.arr 185 4 true (b0.map Zp.c)]))
def vF(b0 b1 b2:Int)(b3 b4 b5:WL)(b6:List Zj)(b7:XV)(r:Rs->Prop):Prop:=r (some (.tup [.agg [I b0,I b1,I b2,L 1 (b3.map ic),L 1 (b4.map ic),L 1 (b5.map ic),L 1 (b6.map Zj.c),L 1 (b7.map AA)],Bo true],[]))
def vG(r:Rs->Prop):Prop:=r (some (.tup [.t .nil,.t .nil,Bo false],[]))
def vH(x:Rs)(A:(List Zp)->Prop):Prop:=∃(a0:List Zp),x=some (.tup [.own 0,Bo true],[.arr 185 4 true (a0.map Zp.c)])/\A a0
def Lg(b0:WL)(b1:List Ze)(r:Rs->Prop):Prop:=r (some (.own 1,[.arr 3 1 true (b0.map ic),.arr 117 4 true (b1.map Ze.c)]))
def vI(b0 b1 b2:Int)(b3:WL)(r:Rs->Prop):Prop:=r (some (.tup [.agg [I b0,I b1,I b2,.t .nil],Bo false],[.arr 3 1 true (b3.map ic)]))
def vJ(b0 b1 b2:Int)(b3:WL)(b4:List Zn)(r:Rs->Prop):Prop:=r (some (.tup [.agg [I b0,I b1,I b2,.own 1],Bo true],[.arr 3 1 true (b3.map ic),.arr 210 3 true (b4.map Zn.c)]))
class G4 (F:Type) (T:outParam Type) where
 im:F->T->Prop
instance im0:G4 Rs ((Rs->Prop)->Prop):=⟨λf T=>∀r,Im (f=some r) (T λx=>x=some r)⟩
instance im1 {α F T:Type} [G4 F T]:G4 (α->F) (α->T):=⟨λf t=>∀a,G4.im (f a) (t a)⟩
abbrev iM{F T:Type}[G4 F T](f:F)(t:T):Prop:=G4.im f t
def uq{P Q:Prop}(h:P)(e:P=Q:=by conv=>lhs;try dsimp only[qs1,A3,A4,Bs,qs5,BA,qs7,qs8,Cm,Wy,G1,Qi,W7,VZ,JK,UL,Ky,Kz,Pj,Ja,UM,aH,JL,JM,JN,G2,G3,Pk,I7,I8,aI,I9,Pl,Pm,Pn,aJ,Po,Pp,La,aK,Pq,Pr,aL,Lb,aM,aN,aO,aP,aQ,aR,uJ,uK,aS,Lc,uL,uM,uN,uO,uP,uQ,Ld,uR,uS,uT,uU,uV,uW,uX,uY,uZ,vA,vB,vC,vD,vE,vF,vG,vH,Lg,vI,vJ,iM,G4.im,im0,im1,qB,qV,qI,qH,qG,qb,qi,qL,qM,qN,Im]):Q:=e▸h
def qu{P Q:Prop}(h:Q)(e:P=Q:=by conv=>lhs;dsimp only[qs1,A3,A4,Bs,qs5,BA,qs7,qs8,Cm,Wy,G1,Qi,W7,VZ,JK,UL,Ky,Kz,Pj,Ja,UM,aH,JL,JM,JN,G2,G3,Pk,I7,I8,aI,I9,Pl,Pm,Pn,aJ,Po,Pp,La,aK,Pq,Pr,aL,Lb,aM,aN,aO,aP,aQ,aR,uJ,uK,aS,Lc,uL,uM,uN,uO,uP,uQ,Ld,uR,uS,uT,uU,uV,uW,uX,uY,uZ,vA,vB,vC,vD,vE,vF,vG,vH,Lg,vI,vJ,iM,G4.im,im0,im1,qB,qV,qI,qH,qG,qb,qi,qL,qM,qN]):P:=e▸h
