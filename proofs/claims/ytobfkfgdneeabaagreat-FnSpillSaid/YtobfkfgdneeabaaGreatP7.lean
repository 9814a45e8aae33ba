/-
  Parts of the proofs for this seat: TX.
-/
import Derived.Test.YtobfkfgdneeabaaGreatP4
import Derived.Test.YtobfkfgdneeabaaGreatP6
set_option linter.all false
set_option maxRecDepth 100000
set_option maxHeartbeats 4000000
namespace Go.Proofs.YtobfkfgdneeabaaGreat
open Go.AM
@[ext] structure Z4 where
 From:Int
 Add:Int
 deriving DecidableEq
def Z4.c(x:Z4):V6:=[.int .i64 x.From,.int .i64 x.Add]
@[simp] def Z4.c_def(x:Z4):x.c=[.int .i64 x.From,.int .i64 x.Add]:=rfl
@[simp] def Z4.map_inj(xs ys:List Z4):xs.map Z4.c=ys.map Z4.c↔xs=ys:=X3 (by
 intro a b h;simp at h
 simp[Z4.ext_iff,h])
@[simp] def Z4.flat(xs:List Z4):(xs.map Z4.c).all (λx=>x.all Xq)=true:=KA (λ_=>rfl) xs
@[simp] def Z4.flat2(xs:List Z4):xs.all ((λx=>x.all Xq) ∘ Z4.c)=true:=KB (λ_=>rfl) xs
@[ext] structure Zy where
 Fixed:Int
 Vj:Int
 Vk:Int
 Vl:Int
 Vv:Int
 Steps:List Z4
 deriving DecidableEq
def Zy.c(x:Zy):V6:=[.int .i64 x.Fixed,.int .i64 x.Vj,.int .i64 x.Vk,.int .i64 x.Vl,.int .i64 x.Vv,.lst 2 (x.Steps.map Z4.c)]
@[simp] def Zy.c_def(x:Zy):x.c=[.int .i64 x.Fixed,.int .i64 x.Vj,.int .i64 x.Vk,.int .i64 x.Vl,.int .i64 x.Vv,.lst 2 (x.Steps.map Z4.c)]:=rfl
@[simp] def Zy.map_inj(xs ys:List Zy):xs.map Zy.c=ys.map Zy.c↔xs=ys:=X3 (by
 intro a b h;simp at h
 simp[Zy.ext_iff,h])
@[ext] structure Zt where
 Scan:Zy
 Sort_:Zy
 Hash:Zy
 Merge:Zy
 Nested:Zy
 deriving DecidableEq
def Zt.c(x:Zt):V6:=[.int .i64 x.Scan.Fixed,.int .i64 x.Scan.Vj,.int .i64 x.Scan.Vk,.int .i64 x.Scan.Vl,.int .i64 x.Scan.Vv,.lst 2 (x.Scan.Steps.map Z4.c),.int .i64 x.Sort_.Fixed,.int .i64 x.Sort_.Vj,.int .i64 x.Sort_.Vk,.int .i64 x.Sort_.Vl,.int .i64 x.Sort_.Vv,.lst 2 (x.Sort_.Steps.map Z4.c),.int .i64 x.Hash.Fixed,.int .i64 x.Hash.Vj,.int .i64 x.Hash.Vk,.int .i64 x.Hash.Vl,.int .i64 x.Hash.Vv,.lst 2 (x.Hash.Steps.map Z4.c),.int .i64 x.Merge.Fixed,.int .i64 x.Merge.Vj,.int .i64 x.Merge.Vk,.int .i64 x.Merge.Vl,.int .i64 x.Merge.Vv,.lst 2 (x.Merge.Steps.map Z4.c),.int .i64 x.Nested.Fixed,.int .i64 x.Nested.Vj,.int .i64 x.Nested.Vk,.int .i64 x.Nested.Vl,.int .i64 x.Nested.Vv,.lst 2 (x.Nested.Steps.map Z4.c)]
@[simp] def Zt.c_def(x:Zt):x.c=[.int .i64 x.Scan.Fixed,.int .i64 x.Scan.Vj,.int .i64 x.Scan.Vk,.int .i64 x.Scan.Vl,.int .i64 x.Scan.Vv,.lst 2 (x.Scan.Steps.map Z4.c),.int .i64 x.Sort_.Fixed,.int .i64 x.Sort_.Vj,.int .i64 x.Sort_.Vk,.int .i64 x.Sort_.Vl,.int .i64 x.Sort_.Vv,.lst 2 (x.Sort_.Steps.map Z4.c),.int .i64 x.Hash.Fixed,.int .i64 x.Hash.Vj,.int .i64 x.Hash.Vk,.int .i64 x.Hash.Vl,.int .i64 x.Hash.Vv,.lst 2 (x.Hash.Steps.map Z4.c),.int .i64 x.Merge.Fixed,.int .i64 x.Merge.Vj,.int .i64 x.Merge.Vk,.int .i64 x.Merge.Vl,.int .i64 x.Merge.Vv,.lst 2 (x.Merge.Steps.map Z4.c),.int .i64 x.Nested.Fixed,.int .i64 x.Nested.Vj,.int .i64 x.Nested.Vk,.int .i64 x.Nested.Vl,.int .i64 x.Nested.Vv,.lst 2 (x.Nested.Steps.map Z4.c)]:=rfl
@[simp] def Zt.map_inj(xs ys:List Zt):xs.map Zt.c=ys.map Zt.c↔xs=ys:=X3 (by
 intro a b h;simp at h
 simp[Zt.ext_iff,Zy.ext_iff,h])
@[ext] structure Zl where
 Name:KI
 Arity:Int
 Rows:XS
 deriving DecidableEq
def Zl.c(x:Zl):V6:=[.str x.Name,.int .i64 x.Arity,.lst 1 (x.Rows.map Ae)]
@[simp] def Zl.c_def(x:Zl):x.c=[.str x.Name,.int .i64 x.Arity,.lst 1 (x.Rows.map Ae)]:=rfl
@[simp] def Zl.map_inj(xs ys:List Zl):xs.map Zl.c=ys.map Zl.c↔xs=ys:=X3 (by
 intro a b h;simp at h
 simp[Zl.ext_iff,h])
@[ext] structure Zj where
 Tables:List Zl
 deriving DecidableEq
def Zj.c(x:Zj):V6:=[.lst 3 (x.Tables.map Zl.c)]
@[simp] def Zj.c_def(x:Zj):x.c=[.lst 3 (x.Tables.map Zl.c)]:=rfl
@[simp] def Zj.map_inj(xs ys:List Zj):xs.map Zj.c=ys.map Zj.c↔xs=ys:=X3 (by
 intro a b h;simp at h
 simp[Zj.ext_iff,h])
@[ext] structure Zd where
 Name:KI
 Vars:V2
 deriving DecidableEq
def Zd.c(x:Zd):V6:=[.str x.Name,.lst 1 (x.Vars.map ic)]
@[simp] def Zd.c_def(x:Zd):x.c=[.str x.Name,.lst 1 (x.Vars.map ic)]:=rfl
@[simp] def Zd.map_inj(xs ys:List Zd):xs.map Zd.c=ys.map Zd.c↔xs=ys:=X3 (by
 intro a b h;simp at h
 simp[Zd.ext_iff,h])
@[ext] structure Zc where
 Zi:Int
 Atoms:List Zd
 deriving DecidableEq
def Zc.c(x:Zc):V6:=[.int .i64 x.Zi,.lst 2 (x.Atoms.map Zd.c)]
@[simp] def Zc.c_def(x:Zc):x.c=[.int .i64 x.Zi,.lst 2 (x.Atoms.map Zd.c)]:=rfl
@[simp] def Zc.map_inj(xs ys:List Zc):xs.map Zc.c=ys.map Zc.c↔xs=ys:=X3 (by
 intro a b h;simp at h
 simp[Zc.ext_iff,h])
@[ext] structure Zn where
 Kind:Int
 Zd:Int
 Order:Int
 deriving DecidableEq
def Zn.c(x:Zn):V6:=[.int .i64 x.Kind,.int .i64 x.Zd,.int .i64 x.Order]
@[simp] def Zn.c_def(x:Zn):x.c=[.int .i64 x.Kind,.int .i64 x.Zd,.int .i64 x.Order]:=rfl
@[simp] def Zn.map_inj(xs ys:List Zn):xs.map Zn.c=ys.map Zn.c↔xs=ys:=X3 (by
 intro a b h;simp at h
 simp[Zn.ext_iff,h])
@[simp] def Zn.flat(xs:List Zn):(xs.map Zn.c).all (λx=>x.all Xq)=true:=KA (λ_=>rfl) xs
@[simp] def Zn.flat2(xs:List Zn):xs.all ((λx=>x.all Xq) ∘ Zn.c)=true:=KB (λ_=>rfl) xs
@[ext] structure Zr where
 Steps:List Zn
 deriving DecidableEq
def Zr.c(x:Zr):V6:=[.lst 3 (x.Steps.map Zn.c)]
@[simp] def Zr.c_def(x:Zr):x.c=[.lst 3 (x.Steps.map Zn.c)]:=rfl
@[simp] def Zr.map_inj(xs ys:List Zr):xs.map Zr.c=ys.map Zr.c↔xs=ys:=X3 (by
 intro a b h;simp at h
 simp[Zr.ext_iff,h])
@[ext] structure Box where
 Low:V2
 High:V2
 deriving DecidableEq
def Box.c(x:Box):V6:=[.lst 1 (x.Low.map ic),.lst 1 (x.High.map ic)]
@[simp] def Box.c_def(x:Box):x.c=[.lst 1 (x.Low.map ic),.lst 1 (x.High.map ic)]:=rfl
@[simp] def Box.map_inj(xs ys:List Box):xs.map Box.c=ys.map Box.c↔xs=ys:=X3 (by
 intro a b h;simp at h
 simp[Box.ext_iff,h])
@[ext] structure XC where
 Vars:V2
 Rows:XS
 deriving DecidableEq
def XC.c(x:XC):V6:=[.lst 1 (x.Vars.map ic),.lst 1 (x.Rows.map Ae)]
@[simp] def XC.c_def(x:XC):x.c=[.lst 1 (x.Vars.map ic),.lst 1 (x.Rows.map Ae)]:=rfl
@[simp] def XC.map_inj(xs ys:List XC):xs.map XC.c=ys.map XC.c↔xs=ys:=X3 (by
 intro a b h;simp at h
 simp[XC.ext_iff,h])
@[ext] structure Zu where
 Mask:Int
 Class:Int
 Exact:Bool
 deriving DecidableEq
def Zu.c(x:Zu):V6:=[.int .i64 x.Mask,.int .i64 x.Class,.bool x.Exact]
@[simp] def Zu.c_def(x:Zu):x.c=[.int .i64 x.Mask,.int .i64 x.Class,.bool x.Exact]:=rfl
@[simp] def Zu.map_inj(xs ys:List Zu):xs.map Zu.c=ys.map Zu.c↔xs=ys:=X3 (by
 intro a b h;simp at h
 simp[Zu.ext_iff,h])
@[simp] def Zu.flat(xs:List Zu):(xs.map Zu.c).all (λx=>x.all Xq)=true:=KA (λ_=>rfl) xs
@[simp] def Zu.flat2(xs:List Zu):xs.all ((λx=>x.all Xq) ∘ Zu.c)=true:=KB (λ_=>rfl) xs
@[ext] structure Run where
 Done:Bool
 Cost:Int
 Steps:Int
 Seen:List Zu
 XC:XC
 deriving DecidableEq
def Run.c(x:Run):V6:=[.bool x.Done,.int .i64 x.Cost,.int .i64 x.Steps,.lst 3 (x.Seen.map Zu.c),.lst 1 (x.XC.Vars.map ic),.lst 1 (x.XC.Rows.map Ae)]
@[simp] def Run.c_def(x:Run):x.c=[.bool x.Done,.int .i64 x.Cost,.int .i64 x.Steps,.lst 3 (x.Seen.map Zu.c),.lst 1 (x.XC.Vars.map ic),.lst 1 (x.XC.Rows.map Ae)]:=rfl
@[simp] def Run.map_inj(xs ys:List Run):xs.map Run.c=ys.map Run.c↔xs=ys:=X3 (by
 intro a b h;simp at h
 simp[Run.ext_iff,XC.ext_iff,h])
@[ext] structure Zf where
 Mask:Int
 Order:Int
 Left:Int
 Right:Int
 deriving DecidableEq
def Zf.c(x:Zf):V6:=[.int .i64 x.Mask,.int .i64 x.Order,.int .i64 x.Left,.int .i64 x.Right]
@[simp] def Zf.c_def(x:Zf):x.c=[.int .i64 x.Mask,.int .i64 x.Order,.int .i64 x.Left,.int .i64 x.Right]:=rfl
@[simp] def Zf.map_inj(xs ys:List Zf):xs.map Zf.c=ys.map Zf.c↔xs=ys:=X3 (by
 intro a b h;simp at h
 simp[Zf.ext_iff,h])
@[simp] def Zf.flat(xs:List Zf):(xs.map Zf.c).all (λx=>x.all Xq)=true:=KA (λ_=>rfl) xs
@[simp] def Zf.flat2(xs:List Zf):xs.all ((λx=>x.all Xq) ∘ Zf.c)=true:=KB (λ_=>rfl) xs
@[ext] structure ZA where
 Columns:V2
 Values:XS
 Counts:V2
 deriving DecidableEq
def ZA.c(x:ZA):V6:=[.lst 1 (x.Columns.map ic),.lst 1 (x.Values.map Ae),.lst 1 (x.Counts.map ic)]
@[simp] def ZA.c_def(x:ZA):x.c=[.lst 1 (x.Columns.map ic),.lst 1 (x.Values.map Ae),.lst 1 (x.Counts.map ic)]:=rfl
@[simp] def ZA.map_inj(xs ys:List ZA):xs.map ZA.c=ys.map ZA.c↔xs=ys:=X3 (by
 intro a b h;simp at h
 simp[ZA.ext_iff,h])
@[ext] structure Z1 where
 Name:KI
 Arity:Int
 RowCount:Int
 Groups:List ZA
 deriving DecidableEq
def Z1.c(x:Z1):V6:=[.str x.Name,.int .i64 x.Arity,.int .i64 x.RowCount,.lst 3 (x.Groups.map ZA.c)]
@[simp] def Z1.c_def(x:Z1):x.c=[.str x.Name,.int .i64 x.Arity,.int .i64 x.RowCount,.lst 3 (x.Groups.map ZA.c)]:=rfl
@[simp] def Z1.map_inj(xs ys:List Z1):xs.map Z1.c=ys.map Z1.c↔xs=ys:=X3 (by
 intro a b h;simp at h
 simp[Z1.ext_iff,h])
@[ext] structure ZM where
 Version:Int
 Tables:List Z1
 deriving DecidableEq
def ZM.c(x:ZM):V6:=[.int .i64 x.Version,.lst 4 (x.Tables.map Z1.c)]
@[simp] def ZM.c_def(x:ZM):x.c=[.int .i64 x.Version,.lst 4 (x.Tables.map Z1.c)]:=rfl
@[simp] def ZM.map_inj(xs ys:List ZM):xs.map ZM.c=ys.map ZM.c↔xs=ys:=X3 (by
 intro a b h;simp at h
 simp[ZM.ext_iff,h])
@[ext] structure Z9 where
 Name:KI
 From:V2
 To:Int
 deriving DecidableEq
def Z9.c(x:Z9):V6:=[.str x.Name,.lst 1 (x.From.map ic),.int .i64 x.To]
@[simp] def Z9.c_def(x:Z9):x.c=[.str x.Name,.lst 1 (x.From.map ic),.int .i64 x.To]:=rfl
@[simp] def Z9.map_inj(xs ys:List Z9):xs.map Z9.c=ys.map Z9.c↔xs=ys:=X3 (by
 intro a b h;simp at h
 simp[Z9.ext_iff,h])
@[ext] structure Z2 where
 Name:KI
 Column:Int
 Into:KI
 IntoColumn:Int
 deriving DecidableEq
def Z2.c(x:Z2):V6:=[.str x.Name,.int .i64 x.Column,.str x.Into,.int .i64 x.IntoColumn]
@[simp] def Z2.c_def(x:Z2):x.c=[.str x.Name,.int .i64 x.Column,.str x.Into,.int .i64 x.IntoColumn]:=rfl
@[simp] def Z2.map_inj(xs ys:List Z2):xs.map Z2.c=ys.map Z2.c↔xs=ys:=X3 (by
 intro a b h;simp at h
 simp[Z2.ext_iff,h])
@[simp] def Z2.flat(xs:List Z2):(xs.map Z2.c).all (λx=>x.all Xq)=true:=KA (λ_=>rfl) xs
@[simp] def Z2.flat2(xs:List Z2):xs.all ((λx=>x.all Xq) ∘ Z2.c)=true:=KB (λ_=>rfl) xs
@[ext] structure Zs where
 Zj:Zj
 ZM:ZM
 Dependencies:List Z9
 Inclusions:List Z2
 deriving DecidableEq
def Zs.c(x:Zs):V6:=[.lst 3 (x.Zj.Tables.map Zl.c),.int .i64 x.ZM.Version,.lst 4 (x.ZM.Tables.map Z1.c),.lst 3 (x.Dependencies.map Z9.c),.lst 4 (x.Inclusions.map Z2.c)]
@[simp] def Zs.c_def(x:Zs):x.c=[.lst 3 (x.Zj.Tables.map Zl.c),.int .i64 x.ZM.Version,.lst 4 (x.ZM.Tables.map Z1.c),.lst 3 (x.Dependencies.map Z9.c),.lst 4 (x.Inclusions.map Z2.c)]:=rfl
@[simp] def Zs.map_inj(xs ys:List Zs):xs.map Zs.c=ys.map Zs.c↔xs=ys:=X3 (by
 intro a b h;simp at h
 simp[Zs.ext_iff,Zj.ext_iff,ZM.ext_iff,h])
@[ext] structure Ze where
 Vars:V2
 Rows:XS
 deriving DecidableEq
def Ze.c(x:Ze):V6:=[.lst 1 (x.Vars.map ic),.lst 1 (x.Rows.map Ae)]
@[simp] def Ze.c_def(x:Ze):x.c=[.lst 1 (x.Vars.map ic),.lst 1 (x.Rows.map Ae)]:=rfl
@[simp] def Ze.map_inj(xs ys:List Ze):xs.map Ze.c=ys.map Ze.c↔xs=ys:=X3 (by
 intro a b h;simp at h
 simp[Ze.ext_iff,h])
@[ext] structure Zo where
 b:V2
 i:Int
 h:Int
 deriving DecidableEq
def Zo.c(x:Zo):V6:=[.lst 1 (x.b.map (kc .u8)),.int .i64 x.i,.int .i64 x.h]
@[simp] def Zo.c_def(x:Zo):x.c=[.lst 1 (x.b.map (kc .u8)),.int .i64 x.i,.int .i64 x.h]:=rfl
@[simp] def Zo.map_inj(xs ys:List Zo):xs.map Zo.c=ys.map Zo.c↔xs=ys:=X3 (by
 intro a b h;simp at h
 simp[Zo.ext_iff,h])
@[ext] structure Zb where
 Num:Int
 Den:Int
 deriving DecidableEq
def Zb.c(x:Zb):V6:=[.int .i64 x.Num,.int .i64 x.Den]
@[simp] def Zb.c_def(x:Zb):x.c=[.int .i64 x.Num,.int .i64 x.Den]:=rfl
@[simp] def Zb.map_inj(xs ys:List Zb):xs.map Zb.c=ys.map Zb.c↔xs=ys:=X3 (by
 intro a b h;simp at h
 simp[Zb.ext_iff,h])
@[simp] def Zb.flat(xs:List Zb):(xs.map Zb.c).all (λx=>x.all Xq)=true:=KA (λ_=>rfl) xs
@[simp] def Zb.flat2(xs:List Zb):xs.all ((λx=>x.all Xq) ∘ Zb.c)=true:=KB (λ_=>rfl) xs
@[simp] def zZ(xs ys:List (List Zb)):xs.map (lc 2 Zb.c)=ys.map (lc 2 Zb.c)↔xs=ys:=X3 (by
 intro a b h
 simpa[lc]using h)
@[ext] structure Program where
 Objective:V2
 Rows:XS
 Limits:V2
 deriving DecidableEq
def Program.c(x:Program):V6:=[.lst 1 (x.Objective.map ic),.lst 1 (x.Rows.map Ae),.lst 1 (x.Limits.map ic)]
@[simp] def Program.c_def(x:Program):x.c=[.lst 1 (x.Objective.map ic),.lst 1 (x.Rows.map Ae),.lst 1 (x.Limits.map ic)]:=rfl
@[simp] def Program.map_inj(xs ys:List Program):xs.map Program.c=ys.map Program.c↔xs=ys:=X3 (by
 intro a b h;simp at h
 simp[Program.ext_iff,h])
@[ext] structure Zv where
 Basic:V2
 Free:V2
 Cells:List (List Zb)
 Limits:List Zb
 Costs:List Zb
 Value:Zb
 deriving DecidableEq
def Zv.c(x:Zv):V6:=[.lst 1 (x.Basic.map ic),.lst 1 (x.Free.map ic),.lst 1 (x.Cells.map (lc 2 Zb.c)),.lst 2 (x.Limits.map Zb.c),.lst 2 (x.Costs.map Zb.c),.int .i64 x.Value.Num,.int .i64 x.Value.Den]
@[simp] def Zv.c_def(x:Zv):x.c=[.lst 1 (x.Basic.map ic),.lst 1 (x.Free.map ic),.lst 1 (x.Cells.map (lc 2 Zb.c)),.lst 2 (x.Limits.map Zb.c),.lst 2 (x.Costs.map Zb.c),.int .i64 x.Value.Num,.int .i64 x.Value.Den]:=rfl
@[simp] def Zv.map_inj(xs ys:List Zv):xs.map Zv.c=ys.map Zv.c↔xs=ys:=X3 (by
 intro a b h;simp at h
 simp[Zv.ext_iff,Zb.ext_iff,h])
@[ext] structure ZD where
 From:Int
 To:Int
 Bits:Int
 deriving DecidableEq
def ZD.c(x:ZD):V6:=[.int .i64 x.From,.int .i64 x.To,.int .i64 x.Bits]
@[simp] def ZD.c_def(x:ZD):x.c=[.int .i64 x.From,.int .i64 x.To,.int .i64 x.Bits]:=rfl
@[simp] def ZD.map_inj(xs ys:List ZD):xs.map ZD.c=ys.map ZD.c↔xs=ys:=X3 (by
 intro a b h;simp at h
 simp[ZD.ext_iff,h])
@[simp] def ZD.flat(xs:List ZD):(xs.map ZD.c).all (λx=>x.all Xq)=true:=KA (λ_=>rfl) xs
@[simp] def ZD.flat2(xs:List ZD):xs.all ((λx=>x.all Xq) ∘ ZD.c)=true:=KB (λ_=>rfl) xs
def R0{α β:Type}(f:α->β){l:List α}{i:Nat}{e:α}(g:i<l.length)(q:l[i]=e):∃g2:i<(l.map f).length,(l.map f)[i]=f e:=⟨by simpa using g,by simp[q]⟩
def Zm(x:V2):AF:=.arr 3 1 true (x.map ic)
def Z3(x:XS):AF:=.arr 38 1 true (x.map Ae)
def ZW(x:List Zb):AF:=.arr 293 2 true (x.map Zb.c)
def Q5(x:List Zf):AF:=.arr 81 4 true (x.map Zf.c)
def Js(x:List Zd):AF:=.arr 110 2 true (x.map Zd.c)
def Zq(x:V2):AV:=L 1 (x.map ic)
def Wl(x:XS):AV:=L 1 (x.map Ae)
def KC(x:List Zf):AV:=L 4 (x.map Zf.c)
def JX(x:List Zb):AV:=L 2 (x.map Zb.c)
def Ap(x:V6):AV:=.agg (x.map .t)
def Ag(x:V6):AF:=.box (x.map .t)
def R3:V4->XQ->List (Nat×AV)
 |a::l,b::m=>(a,b)::R3 l m
 |_,_=>[]
noncomputable def lp(C:ZC)(k:List Fr)(ks:V4)(B:Za)(vs:XQ)(h:V3):Rs:=EvL C k ks B ⟨R3 ks vs,[[]],h⟩
def Bm:(∀x,Zm x=.arr 3 1 true (x.map ic))/\(∀x,Z3 x=.arr 38 1 true (x.map Ae))/\(∀x,ZW x=.arr 293 2 true (x.map Zb.c))/\(∀x,Q5 x=.arr 81 4 true (x.map Zf.c))/\(∀x,Js x=.arr 110 2 true (x.map Zd.c))/\(∀x,Zq x=L 1 (x.map ic))/\(∀x,Wl x=L 1 (x.map Ae))/\(∀x,KC x=L 4 (x.map Zf.c))/\(∀x,JX x=L 2 (x.map Zb.c))/\(∀x,Ap x=.agg (x.map .t))/\(∀x,Ag x=.box (x.map .t))/\(∀C k ks B vs h,lp C k ks B vs h=EvL C k ks B ⟨R3 ks vs,[[]],h⟩)/\(∀a l b m,R3 (a::l) (b::m)=(a,b)::R3 l m)/\(∀l,R3 [] l=[]):=by
 and_intros<;>intros<;>rfl
def qB(c:Rs)(A B:Prop):Prop:=∃v,c=some (Bo v,[])/\if v=true then A else B
def qV(c:Rs)(A:Bool->Prop):Prop:=∃v,c=some (Bo v,[])/\A v
def qI(c:Rs)(A:Int->Prop):Prop:=∃v,c=some (I v,[])/\A v
def qH{α:Type}(l:List α)(i:Int)(A:α->Prop):Prop:=∃e,l[i.toNat]?=some e/\A e
def qG{α:Type}(l:List α)(i:Int)(A:α->Prop):Prop:=0<=i/\∃e,l[i.toNat]?=some e/\A e
def qb(b:Bool)(r:Rs->Prop):Prop:=r (some (Bo b,[]))
def qi(n:Int)(r:Rs->Prop):Prop:=r (some (I n,[]))
def qL{α:Sort _}(a:α)(f:α->Prop):Prop:=f a
def qM{α:Type}(l:List α)(A:Prop):Prop:=l.length<=68719476736/\A
def qN{α:Type}(l:List α)(A:Prop):Prop:=l.length+1<=68719476736/\A
def qs1(r:Rs->Prop):Prop:=r (some (Bo false,[]))
def AX(x:Rs)(A:(V2)->Prop):Prop:=∃(a0:V2),x=some (.own 0,[.arr 3 1 true (a0.map ic)])/\A a0
def Bn(b0:V2)(r:Rs->Prop):Prop:=r (some (.own 0,[.arr 3 1 true (b0.map ic)]))
def BI(x:Rs)(A:Zb->Bool->Prop):Prop:=∃(a0:Zb) (a1:Bool),x=some (.tup [.agg (a0.c.map .t),Bo a1],[])/\A a0 a1
def qs5(r:Rs->Prop):Prop:=r (some (I (-1),[]))
def qs6(r:Rs->Prop):Prop:=r (some (I 0,[]))
def BQ(r:Rs->Prop):Prop:=r (some (.tup [.agg [.t .nil,.t .nil],Bo false],[]))
def qs8(r:Rs->Prop):Prop:=r (some (Bo true,[]))
def BW(x:Rs)(A:Zo->Int->Prop):Prop:=∃(a0:Zo) (a1:Int),x=some (I a1,[.box (a0.c.map .t)])/\A a0 a1
def Va(x:Rs)(A:Zb->Prop):Prop:=∃(a0:Zb),x=some (.agg (a0.c.map .t),[])/\A a0
def Wt(r:Rs->Prop):Prop:=r (some (.tup [.agg [I 0,I 0,I 0,I 0],I (-1)],[]))
def HY(b0:V2)(b1:List Zb)(r:Rs->Prop):Prop:=r (some (.tup [.agg [.own 0,.own 1,.own 2,.own 3,.own 4,I 0,I 0],Bo false],[.arr 3 1 true (b0.map ic),.arr 3 1 true (b0.map ic),.arr 305 1 true (([]:List (List Zb)).map (lc 2 Zb.c)),.arr 293 2 true (b1.map Zb.c),.arr 293 2 true (b1.map Zb.c)]))
def VR(b0:V2)(b1:XS)(r:Rs->Prop):Prop:=r (some (.tup [.agg [.own 0,.own 1],Bo true],[.arr 3 1 true (b0.map ic),.arr 38 1 true (b1.map Ae)]))
def Vm(x:Rs)(A:(V2)->(XS)->Prop):Prop:=∃(a0:V2) (a1:XS),x=some (.tup [.agg [.own 0,.own 1],Bo true],[.arr 3 1 true (a0.map ic),.arr 38 1 true (a1.map Ae)])/\A a0 a1
def Vb(x:Rs)(A:(XS)->Prop):Prop:=∃(a0:XS),x=some (.own 0,[.arr 38 1 true (a0.map Ae)])/\A a0
def VT(x:Rs)(A:(V2)->Prop):Prop:=∃(a0:V2),x=some (.tup [.agg [.own 0,.t .nil],Bo true],[.arr 3 1 true (a0.map ic)])/\A a0
def Qb(x:Rs)(A:(List Zn)->Prop):Prop:=∃(a0:List Zn),x=some (.agg [.own 0],[.arr 118 3 true (a0.map Zn.c)])/\A a0
def Qd(b0:V2)(r:Rs->Prop):Prop:=r (some (.tup [.agg [.own 0,.t .nil],Bo true],[.arr 3 1 true (b0.map ic)]))
def Qe(x:Rs)(A:(V2)->(V2)->Prop):Prop:=∃(a0:V2) (a1:V2),x=some (.agg [.own 0,.own 1],[.arr 3 1 true (a0.map ic),.arr 3 1 true (a1.map ic)])/\A a0 a1
def Q6(b0:XS)(r:Rs->Prop):Prop:=r (some (.own 0,[.arr 38 1 true (b0.map Ae)]))
def JY(b0 b1:V2)(r:Rs->Prop):Prop:=r (some (.tup [.agg [L 1 (b0.map ic),L 1 (b1.map ic)],I 0,Bo false],[]))
def Uj(x:Rs)(A:Zo->Bool->Prop):Prop:=∃(a0:Zo) (a1:Bool),x=some (Bo a1,[.box (a0.c.map .t)])/\A a0 a1
def Uk(r:Rs->Prop):Prop:=r (some (.tup [.agg [I 0,I 0],Bo false],[]))
def KD(r:Rs->Prop):Prop:=r (some (.tup [.t .nil,.t .nil,Bo false],[]))
def Jt(b0:Zo)(b1:List Zn)(r:Rs->Prop):Prop:=r (some (.agg [.own 1],[.box (b0.c.map .t),.arr 118 3 true (b1.map Zn.c)]))
def Ju(b0:List ZD)(r:Rs->Prop):Prop:=r (some (.own 0,[.arr 336 3 true (b0.map ZD.c)]))
def R4(b0:List Zu)(b1:V2)(b2:XS)(r:Rs->Prop):Prop:=r (some (.tup [.agg [Bo false,I 0,I 0,L 3 (b0.map Zu.c),L 1 (b1.map ic),L 1 (b2.map Ae)],Bo false],[]))
def z6(b0 b1:V2)(r:Rs->Prop):Prop:=r (some (.tup [.agg [.own 0,.own 1],Bo false],[.arr 3 1 true (b0.map ic),.arr 3 1 true (b1.map ic)]))
def fO(r:Rs->Prop):Prop:=r (some (I 1,[]))
def fP(b0:V2)(b1:XS)(r:Rs->Prop):Prop:=r (some (.tup [.agg [.own 0,.own 1,.own 2],Bo false],[.arr 3 1 true (b0.map ic),.arr 38 1 true (b1.map Ae),.arr 3 1 true (b0.map ic)]))
def JZ(r:Rs->Prop):Prop:=r (some (.tup [.agg [I 0,I (-1),I (-1),I (-1)],Bo false],[]))
def Kd(x:Rs)(A:Zo->(V2)->Int->Prop):Prop:=∃(a0:Zo) (a1:V2) (a2:Int),x=some (I a2,[.box (a0.c.map .t),.arr 3 1 true (a1.map ic)])/\A a0 a1 a2
def Gk(x:Rs)(A:(List Zf)->Bool->Prop):Prop:=∃(a0:List Zf) (a1:Bool),x=some (.tup [.own 0,Bo a1],[.arr 81 4 true (a0.map Zf.c)])/\A a0 a1
def HZ(b0:Zb)(b1:Bool)(r:Rs->Prop):Prop:=r (some (.tup [.agg (b0.c.map .t),Bo b1],[]))
def H0(b0 b1:Int)(r:Rs->Prop):Prop:=r (some (.tup [I b0,I b1],[]))
def H1(b0 b1:V2)(b2:Int)(r:Rs->Prop):Prop:=r (some (.tup [.agg [L 1 (b0.map ic),L 1 (b1.map ic)],I b2,Bo true],[]))
def Mb(x:Rs)(A:Zo->(List Z4)->Int->Int->Int->Int->Int->Prop):Prop:=∃(a0:Zo) (a1:List Z4) (a2:Int) (a3:Int) (a4:Int) (a5:Int) (a6:Int),x=some (.agg [I a2,I a3,I a4,I a5,I a6,.own 1],[.box (a0.c.map .t),.arr 198 2 true (a1.map Z4.c)])/\A a0 a1 a2 a3 a4 a5 a6
def Zip(b0:List Zb)(r:Rs->Prop):Prop:=r (some (.tup [.agg [I 0,I 0,.own 0,.own 1],Bo false],[.arr 293 2 true (b0.map Zb.c),.arr 293 2 true (b0.map Zb.c)]))
def Mc(b0:Int)(b1:V2)(r:Rs->Prop):Prop:=r (some (.tup [I b0,L 1 (b1.map ic),.t .nil],[]))
def Me(x:Rs)(A:(List Zf)->Prop):Prop:=∃(a0:List Zf),x=some (.tup [.own 0,Bo true],[.arr 81 4 true (a0.map Zf.c)])/\A a0
def Gl(r:Rs->Prop):Prop:=r (some (.tup [.agg [.t .nil],Bo false],[]))
def R5(b0:Int)(b1:Zo)(r:Rs->Prop):Prop:=r (some (I b0,[.box (b1.c.map .t)]))
def R6(r:Rs->Prop):Prop:=r (some (.tup [.agg [.t (.str (⟨#[]⟩:KI)),I 0,.t .nil],Bo false],[]))
def R7(x:Rs)(A:(V2)->Bool->Prop):Prop:=∃(a0:V2) (a1:Bool),x=some (.tup [.own 0,Bo a1],[.arr 3 1 true (a0.map ic)])/\A a0 a1
def R8(b0:Int)(b1:List Zd)(b2:Zo)(r:Rs->Prop):Prop:=r (some (.agg [I b0,L 2 (b1.map Zd.c)],[.box (b2.c.map .t)]))
def R9(b0:List Zn)(r:Rs->Prop):Prop:=r (some (.agg [.own 0],[.arr 118 3 true (b0.map Zn.c)]))
def fQ(b0:List Zf)(r:Rs->Prop):Prop:=r (some (.tup [.own 0,Bo false],[.arr 81 4 true (b0.map Zf.c)]))
def fR(b0:XS)(r:Rs->Prop):Prop:=r (some (.tup [.agg [.t (.str (⟨#[]⟩:KI)),I 0,.own 0],Bo false],[.arr 38 1 true (b0.map Ae)]))
def Sa(r:Rs->Prop):Prop:=r (some (.tup [.t .nil,Bo false],[]))
def Sb(x:Rs)(A:Run->Bool->Prop):Prop:=∃(a0:Run) (a1:Bool),x=some (.tup [.agg (a0.c.map .t),Bo a1],[])/\A a0 a1
def Sc(b0 b1:V2)(r:Rs->Prop):Prop:=r (some (.tup [.agg [.own 0,.own 1],Bo true],[.arr 3 1 true (b0.map ic),.arr 3 1 true (b1.map ic)]))
def Sd(x:Rs)(A:(V2)->(XS)->Prop):Prop:=∃(a0:V2) (a1:XS),x=some (.agg [.own 0,.own 1],[.arr 3 1 true (a0.map ic),.arr 38 1 true (a1.map Ae)])/\A a0 a1
def fS(x:Rs)(A:(List Zd)->Int->Bool->Prop):Prop:=∃(a0:List Zd) (a1:Int) (a2:Bool),x=some (.tup [.agg [I a1,.own 0],Bo a2],[.arr 110 2 true (a0.map Zd.c)])/\A a0 a1 a2
def fT(x:Rs)(A:Zo->(List Zn)->Prop):Prop:=∃(a0:Zo) (a1:List Zn),x=some (.agg [.own 1],[.box (a0.c.map .t),.arr 118 3 true (a1.map Zn.c)])/\A a0 a1
def fU(b0 b1:V2)(r:Rs->Prop):Prop:=r (some (.own 1,[.arr 3 1 true (b0.map ic),.arr 3 1 true (b1.map ic)]))
def fV(x:Rs)(A:(List ZD)->Prop):Prop:=∃(a0:List ZD),x=some (.own 0,[.arr 336 3 true (a0.map ZD.c)])/\A a0
def fW(b0:Int)(r:Rs->Prop):Prop:=r (some (.tup [I b0,I 4],[]))
def Mf(b0 b1 b2:Int)(r:Rs->Prop):Prop:=r (some (.tup [.agg [I b0,I (-1),I b1,I b2],Bo false],[]))
def z7(b0:List Zn)(r:Rs->Prop):Prop:=r (some (.tup [.agg [L 3 (b0.map Zn.c)],Bo false],[]))
def fX(x:Rs)(A:(List Zn)->Prop):Prop:=∃(a0:List Zn),x=some (.tup [.agg [.own 0],Bo true],[.arr 118 3 true (a0.map Zn.c)])/\A a0
def fY(x:Rs)(A:(V2)->Prop):Prop:=∃(a0:V2),x=some (.tup [],[.arr 3 1 true (a0.map ic)])/\A a0
def fZ(x:Rs)(A:(V2)->Prop):Prop:=∃(a0:V2),x=some (.agg [.own 0,.t .nil],[.arr 3 1 true (a0.map ic)])/\A a0
def gB(x:Rs)(A:(V2)->(XS)->Prop):Prop:=∃(a0:V2) (a1:XS),x=some (.tup [.agg [.t .nil,.t .nil],Bo false],[.arr 3 1 true (a0.map ic),.arr 38 1 true (a1.map Ae)])/\A a0 a1
def z8(b0:V2)(b1:Int)(r:Rs->Prop):Prop:=r (some (.ptr 0 0,[.box [L 1 (b0.map (kc .u8)),I 0,I b1]]))
def Znj(b0 b1 b2 b3:Int)(b4:Zo)(b5:List Z4)(r:Rs->Prop):Prop:=r (some (.agg [I b0,I b1,I b2,I b3,I 0,.own 1],[.box (b4.c.map .t),.arr 198 2 true (b5.map Z4.c)]))
def Znk(b0:XS)(b1:V2)(r:Rs->Prop):Prop:=r (some (.tup [.own 0,.own 1],[.arr 38 1 true (b0.map Ae),.arr 3 1 true (b1.map ic)]))
def Znl(x:Rs)(A:(XS)->(V2)->Prop):Prop:=∃(a0:XS) (a1:V2),x=some (.tup [.own 0,.own 1],[.arr 38 1 true (a0.map Ae),.arr 3 1 true (a1.map ic)])/\A a0 a1
def Znm(b0:Int)(b1:List Z1)(r:Rs->Prop):Prop:=r (some (.tup [.agg [I b0,L 4 (b1.map Z1.c)],Bo true],[]))
def Mg(b0:List Z1)(r:Rs->Prop):Prop:=r (some (.tup [.agg [I 0,L 4 (b0.map Z1.c)],Bo false],[]))
def Znn(b0:List Zl)(r:Rs->Prop):Prop:=r (some (.agg [.own 0],[.arr 112 3 true (b0.map Zl.c)]))
def Mh(b0:List Zl)(b1:List Z1)(b2:List Z9)(b3:List Z2)(r:Rs->Prop):Prop:=r (some (.tup [.agg [L 3 (b0.map Zl.c),I 0,L 4 (b1.map Z1.c),L 3 (b2.map Z9.c),L 4 (b3.map Z2.c)],Bo false],[]))
def Zno(b0:List Zf)(r:Rs->Prop):Prop:=r (some (.tup [.own 0,Bo true],[.arr 81 4 true (b0.map Zf.c)]))
def Znp(x:Rs)(A:(V2)->(V2)->Prop):Prop:=∃(a0:V2) (a1:V2),x=some (.own 1,[.arr 3 1 true (a0.map ic),.arr 3 1 true (a1.map ic)])/\A a0 a1
def Znq(x:Rs)(A:(V2)->(XS)->(V2)->Bool->Prop):Prop:=∃(a0:V2) (a1:XS) (a2:V2) (a3:Bool),x=some (.tup [.agg [.own 0,.own 1,.own 2],Bo a3],[.arr 3 1 true (a0.map ic),.arr 38 1 true (a1.map Ae),.arr 3 1 true (a2.map ic)])/\A a0 a1 a2 a3
def Znr(b0:V2)(r:Rs->Prop):Prop:=r (some (.tup [.agg [L 1 (b0.map ic),L 1 (b0.map ic)],Bo false],[]))
def Zns(b0 b1:V2)(r:Rs->Prop):Prop:=r (some (.agg [.own 0,.own 1],[.arr 3 1 true (b0.map ic),.arr 3 1 true (b1.map ic)]))
def gC(b0:List Zn)(r:Rs->Prop):Prop:=r (some (.tup [.agg [.own 0],Bo true],[.arr 118 3 true (b0.map Zn.c)]))
def Znt(b0:V2)(b1:XS)(b2:V2)(b3:XS)(b4:V2)(b5:XS)(r:Rs->Prop):Prop:=r (some (.tup [],[.box [L 1 (b0.map ic),L 1 (b1.map Ae),L 1 (b2.map ic),L 1 (b3.map Ae),.own 1,.own 2],.arr 3 1 true (b4.map ic),.arr 38 1 true (b5.map Ae)]))
def Znu(x:Rs)(A:(V2)->(V2)->Bool->Prop):Prop:=∃(a0:V2) (a1:V2) (a2:Bool),x=some (.tup [.agg [.own 0,.own 1],Bo a2],[.arr 3 1 true (a0.map ic),.arr 3 1 true (a1.map ic)])/\A a0 a1 a2
def Znv(b0:Int)(b1 b2:V2)(r:Rs->Prop):Prop:=r (some (.tup [.agg [.own 0,.own 1],I b0],[.arr 3 1 true (b1.map ic),.arr 3 1 true (b2.map ic)]))
def Znw(x:Rs)(A:(V2)->(V2)->Int->Prop):Prop:=∃(a0:V2) (a1:V2) (a2:Int),x=some (.tup [.agg [.own 0,.own 1],I a2],[.arr 3 1 true (a0.map ic),.arr 3 1 true (a1.map ic)])/\A a0 a1 a2
def Znx(b0:V2)(r:Rs->Prop):Prop:=r (some (.tup [.own 0,.own 1,Bo false],[.arr 3 1 true (b0.map ic),.arr 3 1 true (b0.map ic)]))
def Zny(b0:Int)(b1 b2:V2)(r:Rs->Prop):Prop:=r (some (.tup [I b0,.own 0,.own 1],[.arr 3 1 true (b1.map ic),.arr 3 1 true (b2.map ic)]))
def Znz(b0:V2)(b1:XS)(r:Rs->Prop):Prop:=r (some (.agg [.own 0,.own 1],[.arr 3 1 true (b0.map ic),.arr 38 1 true (b1.map Ae)]))
def Zn0(b0:List Ze)(b1:List Zf)(r:Rs->Prop):Prop:=r (some (.tup [.own 0,.own 1,Bo false],[.arr 134 2 true (b0.map Ze.c),.arr 81 4 true (b1.map Zf.c)]))
class H2 (F:Type) (T:outParam Type) where
 im:F->T->Prop
instance im0:H2 Rs ((Rs->Prop)->Prop):=⟨λf T=>∀r,Im (f=some r) (T λx=>x=some r)⟩
instance im1 {α F T:Type} [H2 F T]:H2 (α->F) (α->T):=⟨λf t=>∀a,H2.im (f a) (t a)⟩
abbrev iM{F T:Type}[H2 F T](f:F)(t:T):Prop:=H2.im f t
def uq{P Q:Prop}(h:P)(e:P=Q:=by conv=>lhs;try dsimp only[qs1,AX,Bn,BI,qs5,qs6,BQ,qs8,BW,Va,Wt,HY,VR,Vm,Vb,VT,Qb,Qd,Qe,Q6,JY,Uj,Uk,KD,Jt,Ju,R4,z6,fO,fP,JZ,Kd,Gk,HZ,H0,H1,Mb,Zip,Mc,Me,Gl,R5,R6,R7,R8,R9,fQ,fR,Sa,Sb,Sc,Sd,fS,fT,fU,fV,fW,Mf,z7,fX,fY,fZ,gB,z8,Znj,Znk,Znl,Znm,Mg,Znn,Mh,Zno,Znp,Znq,Znr,Zns,gC,Znt,Znu,Znv,Znw,Znx,Zny,Znz,Zn0,iM,H2.im,im0,im1,qB,qV,qI,qH,qG,qb,qi,qL,qM,qN,Im]):Q:=e▸h
def qu{P Q:Prop}(h:Q)(e:P=Q:=by conv=>lhs;dsimp only[qs1,AX,Bn,BI,qs5,qs6,BQ,qs8,BW,Va,Wt,HY,VR,Vm,Vb,VT,Qb,Qd,Qe,Q6,JY,Uj,Uk,KD,Jt,Ju,R4,z6,fO,fP,JZ,Kd,Gk,HZ,H0,H1,Mb,Zip,Mc,Me,Gl,R5,R6,R7,R8,R9,fQ,fR,Sa,Sb,Sc,Sd,fS,fT,fU,fV,fW,Mf,z7,fX,fY,fZ,gB,z8,Znj,Znk,Znl,Znm,Mg,Znn,Mh,Zno,Znp,Znq,Znr,Zns,gC,Znt,Znu,Znv,Znw,Znx,Zny,Znz,Zn0,iM,H2.im,im0,im1,qB,qV,qI,qH,qG,qb,qi,qL,qM,qN]):P:=e▸h
