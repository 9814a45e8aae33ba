/-
  Parts of the proofs for this seat: TX.
-/
import Derived.Test.YthpdbpfamhcgiaaGreatP4
import Derived.Test.YthpdbpfamhcgiaaGreatP6
set_option linter.all false
set_option maxRecDepth 100000
set_option maxHeartbeats 4000000
namespace Go.Proofs.YthpdbpfamhcgiaaGreat
open Go.AM
@[simp] def Zx.map_inj(xs ys:List Zx):xs.map Zx.c=ys.map Zx.c↔xs=ys:=XX (by
 intro a b h;simp at h
 simp[Zx.ext_iff,h])
@[simp] def Zx.flat(xs:List Zx):(xs.map Zx.c).all (λx=>x.all XN)=true:=KD (λ_=>rfl) xs
@[simp] def Zx.flat2(xs:List Zx):xs.all ((λx=>x.all XN) ∘ Zx.c)=true:=KE (λ_=>rfl) xs
@[simp] def Z8.map_inj(xs ys:List Z8):xs.map Z8.c=ys.map Z8.c↔xs=ys:=XX (by
 intro a b h;simp at h
 simp[Z8.ext_iff,h])
@[simp] def Zn.map_inj(xs ys:List Zn):xs.map Zn.c=ys.map Zn.c↔xs=ys:=XX (by
 intro a b h;simp at h
 simp[Zn.ext_iff,Z8.ext_iff,h])
@[simp] def Zt.map_inj(xs ys:List Zt):xs.map Zt.c=ys.map Zt.c↔xs=ys:=XX (by
 intro a b h;simp at h
 simp[Zt.ext_iff,h])
@[simp] def Zp.map_inj(xs ys:List Zp):xs.map Zp.c=ys.map Zp.c↔xs=ys:=XX (by
 intro a b h;simp at h
 simp[Zp.ext_iff,h])
@[simp] def ZC.map_inj(xs ys:List ZC):xs.map ZC.c=ys.map ZC.c↔xs=ys:=XX (by
 intro a b h;simp at h
 simp[ZC.ext_iff,h])
@[simp] def Z5.map_inj(xs ys:List Z5):xs.map Z5.c=ys.map Z5.c↔xs=ys:=XX (by
 intro a b h;simp at h
 simp[Z5.ext_iff,h])
@[simp] def ZN.map_inj(xs ys:List ZN):xs.map ZN.c=ys.map ZN.c↔xs=ys:=XX (by
 intro a b h;simp at h
 simp[ZN.ext_iff,h])
@[simp] def ZA.map_inj(xs ys:List ZA):xs.map ZA.c=ys.map ZA.c↔xs=ys:=XX (by
 intro a b h;simp at h
 simp[ZA.ext_iff,h])
@[simp] def Z7.map_inj(xs ys:List Z7):xs.map Z7.c=ys.map Z7.c↔xs=ys:=XX (by
 intro a b h;simp at h
 simp[Z7.ext_iff,h])
@[simp] def Z7.flat(xs:List Z7):(xs.map Z7.c).all (λx=>x.all XN)=true:=KD (λ_=>rfl) xs
@[simp] def Z7.flat2(xs:List Z7):xs.all ((λx=>x.all XN) ∘ Z7.c)=true:=KE (λ_=>rfl) xs
@[simp] def Xr.map_inj(xs ys:List Xr):xs.map Xr.c=ys.map Xr.c↔xs=ys:=XX (by
 intro a b h;simp at h
 simp[Xr.ext_iff,Zp.ext_iff,ZN.ext_iff,h])
@[simp] def Ze.map_inj(xs ys:List Ze):xs.map Ze.c=ys.map Ze.c↔xs=ys:=XX (by
 intro a b h;simp at h
 simp[Ze.ext_iff,h])
@[simp] def Zf.map_inj(xs ys:List Zf):xs.map Zf.c=ys.map Zf.c↔xs=ys:=XX (by
 intro a b h;simp at h
 simp[Zf.ext_iff,h])
@[simp] def Box.map_inj(xs ys:List Box):xs.map Box.c=ys.map Box.c↔xs=ys:=XX (by
 intro a b h;simp at h
 simp[Box.ext_iff,h])
@[simp] def Zj.map_inj(xs ys:List Zj):xs.map Zj.c=ys.map Zj.c↔xs=ys:=XX (by
 intro a b h;simp at h
 simp[Zj.ext_iff,h])
@[simp] def Zj.flat(xs:List Zj):(xs.map Zj.c).all (λx=>x.all XN)=true:=KD (λ_=>rfl) xs
@[simp] def Zj.flat2(xs:List Zj):xs.all ((λx=>x.all XN) ∘ Zj.c)=true:=KE (λ_=>rfl) xs
@[simp] def Zg.map_inj(xs ys:List Zg):xs.map Zg.c=ys.map Zg.c↔xs=ys:=XX (by
 intro a b h;simp at h
 simp[Zg.ext_iff,h])
@[simp] def ZM.map_inj(xs ys:List ZM):xs.map ZM.c=ys.map ZM.c↔xs=ys:=XX (by
 intro a b h;simp at h
 simp[ZM.ext_iff,Box.ext_iff,h])
@[simp] def ZW.map_inj(xs ys:List ZW):xs.map ZW.c=ys.map ZW.c↔xs=ys:=XX (by
 intro a b h;simp at h
 simp[ZW.ext_iff,h])
@[simp] def ZR.map_inj(xs ys:List ZR):xs.map ZR.c=ys.map ZR.c↔xs=ys:=XX (by
 intro a b h;simp at h
 simp[ZR.ext_iff,h])
@[simp] def ZR.flat(xs:List ZR):(xs.map ZR.c).all (λx=>x.all XN)=true:=KD (λ_=>rfl) xs
@[simp] def ZR.flat2(xs:List ZR):xs.all ((λx=>x.all XN) ∘ ZR.c)=true:=KE (λ_=>rfl) xs
@[simp] def Wj.map_inj(xs ys:List Wj):xs.map Wj.c=ys.map Wj.c↔xs=ys:=XX (by
 intro a b h;simp at h
 simp[Wj.ext_iff,ZW.ext_iff,Box.ext_iff,h])
@[ext] structure XO where
 Num:Int
 Den:Int
 deriving DecidableEq
def XO.c(x:XO):KS:=[.int .i64 x.Num,.int .i64 x.Den]
@[simp] def XO.c_def(x:XO):x.c=[.int .i64 x.Num,.int .i64 x.Den]:=rfl
@[simp] def XO.map_inj(xs ys:List XO):xs.map XO.c=ys.map XO.c↔xs=ys:=XX (by
 intro a b h;simp at h
 simp[XO.ext_iff,h])
@[simp] def XO.flat(xs:List XO):(xs.map XO.c).all (λx=>x.all XN)=true:=KD (λ_=>rfl) xs
@[simp] def XO.flat2(xs:List XO):xs.all ((λx=>x.all XN) ∘ XO.c)=true:=KE (λ_=>rfl) xs
@[ext] structure ZB where
 Mask:Int
 Class:Int
 Exact:Bool
 deriving DecidableEq
def ZB.c(x:ZB):KS:=[.int .i64 x.Mask,.int .i64 x.Class,.bool x.Exact]
@[simp] def ZB.c_def(x:ZB):x.c=[.int .i64 x.Mask,.int .i64 x.Class,.bool x.Exact]:=rfl
@[simp] def ZB.map_inj(xs ys:List ZB):xs.map ZB.c=ys.map ZB.c↔xs=ys:=XX (by
 intro a b h;simp at h
 simp[ZB.ext_iff,h])
@[simp] def ZB.flat(xs:List ZB):(xs.map ZB.c).all (λx=>x.all XN)=true:=KD (λ_=>rfl) xs
@[simp] def ZB.flat2(xs:List ZB):xs.all ((λx=>x.all XN) ∘ ZB.c)=true:=KE (λ_=>rfl) xs
@[ext] structure Run where
 Vi:Bool
 Zv:Int
 Steps:Int
 Seen:List ZB
 ZW:ZW
 deriving DecidableEq
def Run.c(x:Run):KS:=[.bool x.Vi,.int .i64 x.Zv,.int .i64 x.Steps,.lst 3 (x.Seen.map ZB.c),.lst 1 (x.ZW.Za.map ic),.lst 1 (x.ZW.Rows.map isc)]
@[simp] def Run.c_def(x:Run):x.c=[.bool x.Vi,.int .i64 x.Zv,.int .i64 x.Steps,.lst 3 (x.Seen.map ZB.c),.lst 1 (x.ZW.Za.map ic),.lst 1 (x.ZW.Rows.map isc)]:=rfl
@[simp] def Run.map_inj(xs ys:List Run):xs.map Run.c=ys.map Run.c↔xs=ys:=XX (by
 intro a b h;simp at h
 simp[Run.ext_iff,ZW.ext_iff,h])
@[ext] structure Zm where
 Za:V6
 Rows:V4
 deriving DecidableEq
def Zm.c(x:Zm):KS:=[.lst 1 (x.Za.map ic),.lst 1 (x.Rows.map isc)]
@[simp] def Zm.c_def(x:Zm):x.c=[.lst 1 (x.Za.map ic),.lst 1 (x.Rows.map isc)]:=rfl
@[simp] def Zm.map_inj(xs ys:List Zm):xs.map Zm.c=ys.map Zm.c↔xs=ys:=XX (by
 intro a b h;simp at h
 simp[Zm.ext_iff,h])
@[ext] structure Zo where
 Mask:Int
 Zl:Int
 Left:Int
 Right:Int
 deriving DecidableEq
def Zo.c(x:Zo):KS:=[.int .i64 x.Mask,.int .i64 x.Zl,.int .i64 x.Left,.int .i64 x.Right]
@[simp] def Zo.c_def(x:Zo):x.c=[.int .i64 x.Mask,.int .i64 x.Zl,.int .i64 x.Left,.int .i64 x.Right]:=rfl
@[simp] def Zo.map_inj(xs ys:List Zo):xs.map Zo.c=ys.map Zo.c↔xs=ys:=XX (by
 intro a b h;simp at h
 simp[Zo.ext_iff,h])
@[simp] def Zo.flat(xs:List Zo):(xs.map Zo.c).all (λx=>x.all XN)=true:=KD (λ_=>rfl) xs
@[simp] def Zo.flat2(xs:List Zo):xs.all ((λx=>x.all XN) ∘ Zo.c)=true:=KE (λ_=>rfl) xs
@[ext] structure Zd where
 Mask:Int
 Zl:Int
 Zv:Int
 Zg:Zg
 deriving DecidableEq
def Zd.c(x:Zd):KS:=[.int .i64 x.Mask,.int .i64 x.Zl,.int .i64 x.Zv,.lst 3 (x.Zg.Steps.map Zj.c)]
@[simp] def Zd.c_def(x:Zd):x.c=[.int .i64 x.Mask,.int .i64 x.Zl,.int .i64 x.Zv,.lst 3 (x.Zg.Steps.map Zj.c)]:=rfl
@[simp] def Zd.map_inj(xs ys:List Zd):xs.map Zd.c=ys.map Zd.c↔xs=ys:=XX (by
 intro a b h;simp at h
 simp[Zd.ext_iff,Zg.ext_iff,h])
@[ext] structure X5 where
 mask:Int
 Xf:V6
 shared:V4
 deriving DecidableEq
def X5.c(x:X5):KS:=[.int .i64 x.mask,.lst 1 (x.Xf.map ic),.lst 1 (x.shared.map isc)]
@[simp] def X5.c_def(x:X5):x.c=[.int .i64 x.mask,.lst 1 (x.Xf.map ic),.lst 1 (x.shared.map isc)]:=rfl
@[simp] def X5.map_inj(xs ys:List X5):xs.map X5.c=ys.map X5.c↔xs=ys:=XX (by
 intro a b h;simp at h
 simp[X5.ext_iff,h])
def WF(m:Zn)(q:Zf)(sizes:V6)(d:Int)(cc cd cl cn co:Zd)(cp cu cv cy cz:Bool):Blk:=.box [I m.Z1.ZD,I m.Z1.ZE,I m.Z1.ZF,I m.Z1.ZG,I m.Z1.ZH,L 2 (m.Z1.Steps.map Zx.c),I m.Zz.ZD,I m.Zz.ZE,I m.Zz.ZF,I m.Zz.ZG,I m.Zz.ZH,L 2 (m.Zz.Steps.map Zx.c),I m.Z2.ZD,I m.Z2.ZE,I m.Z2.ZF,I m.Z2.ZG,I m.Z2.ZH,L 2 (m.Z2.Steps.map Zx.c),I m.Z3.ZD,I m.Z3.ZE,I m.Z3.ZF,I m.Z3.ZG,I m.Z3.ZH,L 2 (m.Z3.Steps.map Zx.c),I m.Z4.ZD,I m.Z4.ZE,I m.Z4.ZF,I m.Z4.ZG,I m.Z4.ZH,L 2 (m.Z4.Steps.map Zx.c),I q.Zk,L 2 (q.Zb.map Ze.c),L 1 (sizes.map ic),I d,I cc.Mask,I cc.Zl,I cc.Zv,L 3 (cc.Zg.Steps.map Zj.c),I cd.Mask,I cd.Zl,I cd.Zv,L 3 (cd.Zg.Steps.map Zj.c),I cl.Mask,I cl.Zl,I cl.Zv,L 3 (cl.Zg.Steps.map Zj.c),I cn.Mask,I cn.Zl,I cn.Zv,L 3 (cn.Zg.Steps.map Zj.c),I co.Mask,I co.Zl,I co.Zv,L 3 (co.Zg.Steps.map Zj.c),Bo cp,Bo cu,Bo cv,Bo cy,Bo cz]
@[simp] def ZFe(m:Zn)(q:Zf)(sizes:V6)(mask:Int)(list0 cc cd cl cn:Zd)(co cp cu cv cy:Bool):WF m q sizes mask list0 cc cd cl cn co cp cu cv cy=.box [I m.Z1.ZD,I m.Z1.ZE,I m.Z1.ZF,I m.Z1.ZG,I m.Z1.ZH,L 2 (m.Z1.Steps.map Zx.c),I m.Zz.ZD,I m.Zz.ZE,I m.Zz.ZF,I m.Zz.ZG,I m.Zz.ZH,L 2 (m.Zz.Steps.map Zx.c),I m.Z2.ZD,I m.Z2.ZE,I m.Z2.ZF,I m.Z2.ZG,I m.Z2.ZH,L 2 (m.Z2.Steps.map Zx.c),I m.Z3.ZD,I m.Z3.ZE,I m.Z3.ZF,I m.Z3.ZG,I m.Z3.ZH,L 2 (m.Z3.Steps.map Zx.c),I m.Z4.ZD,I m.Z4.ZE,I m.Z4.ZF,I m.Z4.ZG,I m.Z4.ZH,L 2 (m.Z4.Steps.map Zx.c),I q.Zk,L 2 (q.Zb.map Ze.c),L 1 (sizes.map ic),I mask,I list0.Mask,I list0.Zl,I list0.Zv,L 3 (list0.Zg.Steps.map Zj.c),I cc.Mask,I cc.Zl,I cc.Zv,L 3 (cc.Zg.Steps.map Zj.c),I cd.Mask,I cd.Zl,I cd.Zv,L 3 (cd.Zg.Steps.map Zj.c),I cl.Mask,I cl.Zl,I cl.Zv,L 3 (cl.Zg.Steps.map Zj.c),I cn.Mask,I cn.Zl,I cn.Zv,L 3 (cn.Zg.Steps.map Zj.c),Bo co,Bo cp,Bo cu,Bo cv,Bo cy]:=rfl
def Zy(x:V6):Blk:=.arr 3 1 true (x.map ic)
def ZI(x:V4):Blk:=.arr 40 1 true (x.map isc)
def Kf(x:List Zo):Blk:=.arr 255 4 true (x.map Zo.c)
def Zab(x:List Zd):Blk:=.arr 328 4 true (x.map Zd.c)
def Zcw(x:List Zj):Blk:=.arr 258 3 true (x.map Zj.c)
def Zw(x:V6):AV:=L 1 (x.map ic)
def XT(x:V4):AV:=L 1 (x.map isc)
def Ul(x:List Zd):AV:=L 4 (x.map Zd.c)
def UQ(x:List ZR):AV:=L 5 (x.map ZR.c)
def Zbi(x:List Z7):AV:=L 4 (x.map Z7.c)
def gaO(x:KS):AV:=.agg (x.map .t)
def gbO(x:KS):Blk:=.box (x.map .t)
def zpO:V8->V2->List (Nat×AV)
 |a::l,b::m=>(a,b)::zpO l m
 |_,_=>[]
noncomputable def lp(C:Xe)(k:List Fr)(ks:V8)(B:Zc)(vs:V2)(h:V7):Rs:=EvL C k ks B ⟨zpO ks vs,[[]],h⟩
def lpz:(∀x,Zy x=.arr 3 1 true (x.map ic))/\(∀x,ZI x=.arr 40 1 true (x.map isc))/\(∀x,Kf x=.arr 255 4 true (x.map Zo.c))/\(∀x,Zab x=.arr 328 4 true (x.map Zd.c))/\(∀x,Zcw x=.arr 258 3 true (x.map Zj.c))/\(∀x,Zw x=L 1 (x.map ic))/\(∀x,XT x=L 1 (x.map isc))/\(∀x,Ul x=L 4 (x.map Zd.c))/\(∀x,UQ x=L 5 (x.map ZR.c))/\(∀x,Zbi x=L 4 (x.map Z7.c))/\(∀x,gaO x=.agg (x.map .t))/\(∀x,gbO x=.box (x.map .t))/\(∀C k ks B vs h,lp C k ks B vs h=EvL C k ks B ⟨zpO ks vs,[[]],h⟩)/\(∀a l b m,zpO (a::l) (b::m)=(a,b)::zpO l m)/\(∀l,zpO [] l=[]):=by
 and_intros<;>intros<;>rfl
def qB(c:Rs)(A B:Prop):Prop:=∃v,c=some (Bo v,[])/\if v=true then A else B
def qV(c:Rs)(A:Bool->Prop):Prop:=∃v,c=some (Bo v,[])/\A v
def qI(c:Rs)(A:Int->Prop):Prop:=∃v,c=some (I v,[])/\A v
def qH{α:Type}(l:List α)(i:Int)(A:α->Prop):Prop:=∃e,l[i.toNat]?=some e/\A e
def qG{α:Type}(l:List α)(i:Int)(A:α->Prop):Prop:=0<=i/\∃e,l[i.toNat]?=some e/\A e
def qb(b:Bool)(r:Rs->Prop):Prop:=r (some (Bo b,[]))
def qi(n:Int)(r:Rs->Prop):Prop:=r (some (I n,[]))
def qL{α:Sort _}(a:α)(f:α->Prop):Prop:=f a
def qM{α:Type}(l:List α)(A:Prop):Prop:=l.length<=68719476736/\A
def qN{α:Type}(l:List α)(A:Prop):Prop:=l.length+1<=68719476736/\A
def qs1(r:Rs->Prop):Prop:=r (some (Bo false,[]))
def qs2(x:Rs)(A:(V6)->Prop):Prop:=∃(a0:V6),x=some (.own 0,[.arr 3 1 true (a0.map ic)])/\A a0
def qs3(b0:V6)(r:Rs->Prop):Prop:=r (some (.own 0,[.arr 3 1 true (b0.map ic)]))
def qs4(r:Rs->Prop):Prop:=r (some (.tup [.agg [.t .nil,.t .nil],Bo false],[]))
def qs5(r:Rs->Prop):Prop:=r (some (I (-1),[]))
def qs6(r:Rs->Prop):Prop:=r (some (Bo true,[]))
def qs7(x:Rs)(A:(List Zj)->Prop):Prop:=∃(a0:List Zj),x=some (.agg [.own 0],[.arr 258 3 true (a0.map Zj.c)])/\A a0
def qs8(r:Rs->Prop):Prop:=r (some (I 0,[]))
def qs9(r:Rs->Prop):Prop:=r (some (.tup [.agg [I 0,I 0,I 0,I 0],I (-1)],[]))
def VV(b0:V6)(b1:V4)(r:Rs->Prop):Prop:=r (some (.tup [.agg [.own 0,.own 1],Bo true],[.arr 3 1 true (b0.map ic),.arr 40 1 true (b1.map isc)]))
def VW(x:Rs)(A:(V6)->(V4)->Prop):Prop:=∃(a0:V6) (a1:V4),x=some (.tup [.agg [.own 0,.own 1],Bo true],[.arr 3 1 true (a0.map ic),.arr 40 1 true (a1.map isc)])/\A a0 a1
def UR(x:Rs)(A:(V4)->Prop):Prop:=∃(a0:V4),x=some (.own 0,[.arr 40 1 true (a0.map isc)])/\A a0
def qs13(r:Rs->Prop):Prop:=r (some (I 1,[]))
def US(x:Rs)(A:(V6)->Prop):Prop:=∃(a0:V6),x=some (.tup [.agg [.own 0,.t .nil],Bo true],[.arr 3 1 true (a0.map ic)])/\A a0
def Qm(b0:V4)(r:Rs->Prop):Prop:=r (some (.own 0,[.arr 40 1 true (b0.map isc)]))
def Qn(b0:V6)(r:Rs->Prop):Prop:=r (some (.tup [.agg [.own 0,.t .nil],Bo true],[.arr 3 1 true (b0.map ic)]))
def KF(r:Rs->Prop):Prop:=r (some (.tup [.t .nil,.t .nil,Bo false],[]))
def KG(r:Rs->Prop):Prop:=r (some (.t .nil,[]))
def J5(b0:List Zj)(r:Rs->Prop):Prop:=r (some (.agg [.own 0],[.arr 258 3 true (b0.map Zj.c)]))
def Zac(r:Rs->Prop):Prop:=r (some (.tup [.agg [I 0,I (-1),I (-1),I (-1)],Bo false],[]))
def Zad(x:Rs)(A:Zn->Zf->(V6)->Int->Zd->Zd->Zd->Zd->Zd->Bool->Bool->Bool->Bool->Bool->Prop):Prop:=∃(a0:Zn) (a1:Zf) (a2:V6) (a3:Int) (a4:Zd) (a5:Zd) (a6:Zd) (a7:Zd) (a8:Zd) (a9:Bool) (a10:Bool) (a11:Bool) (a12:Bool) (a13:Bool),x=some (.tup [],[WF a0 a1 a2 a3 a4 a5 a6 a7 a8 a9 a10 a11 a12 a13,.dead])/\A a0 a1 a2 a3 a4 a5 a6 a7 a8 a9 a10 a11 a12 a13
def Zae(x:Rs)(A:Zn->Zf->(V6)->Int->Zd->Zd->Zd->Zd->Zd->Bool->Bool->Bool->Bool->Bool->(List Zj)->Prop):Prop:=∃(a0:Zn) (a1:Zf) (a2:V6) (a3:Int) (a4:Zd) (a5:Zd) (a6:Zd) (a7:Zd) (a8:Zd) (a9:Bool) (a10:Bool) (a11:Bool) (a12:Bool) (a13:Bool) (a14:List Zj),x=some (.tup [],[WF a0 a1 a2 a3 a4 a5 a6 a7 a8 a9 a10 a11 a12 a13,.arr 258 3 true (a14.map Zj.c)])/\A a0 a1 a2 a3 a4 a5 a6 a7 a8 a9 a10 a11 a12 a13 a14
def Zaf(x:Rs)(A:Z8->Prop):Prop:=∃(a0:Z8),x=some (.agg (a0.c.map .t),[])/\A a0
def Zbj(x:Rs)(A:(V6)->(V4)->Prop):Prop:=∃(a0:V6) (a1:V4),x=some (.agg [.own 0,.own 1],[.arr 3 1 true (a0.map ic),.arr 40 1 true (a1.map isc)])/\A a0 a1
def Zbk(r:Rs->Prop):Prop:=r (some (.tup [.agg [I 0,I 0],Bo false],[]))
def Zm0(b0:List ZB)(b1:V6)(b2:V4)(r:Rs->Prop):Prop:=r (some (.tup [.agg [Bo false,I 0,I 0,L 3 (b0.map ZB.c),L 1 (b1.map ic),L 1 (b2.map isc)],Bo false],[]))
def ZeE(b0:V6)(b1:List Zd)(b2:List Zj)(r:Rs->Prop):Prop:=r (some (.tup [],[.arr 3 1 true (b0.map ic),.arr 328 4 true (b1.map Zd.c),.arr 258 3 true (b2.map Zj.c)]))
def Zcx(r:Rs->Prop):Prop:=r (some (.tup [.t .nil,Bo false],[]))
def Zcy(b0:Int)(b1:V6)(r:Rs->Prop):Prop:=r (some (.tup [I b0,L 1 (b1.map ic),.t .nil],[]))
def Zcz(x:Rs)(A:(V6)->Prop):Prop:=∃(a0:V6),x=some (.tup [.own 0,Bo true],[.arr 3 1 true (a0.map ic)])/\A a0
def Zc0(x:Rs)(A:Int->Int->Int->Prop):Prop:=∃(a0:Int) (a1:Int) (a2:Int),x=some (.tup [.agg [I a0,I a1,I a2,.t .nil],Bo false],[])/\A a0 a1 a2
def Zc1(x:Rs)(A:(List Zj)->Int->Int->Int->Prop):Prop:=∃(a0:List Zj) (a1:Int) (a2:Int) (a3:Int),x=some (.tup [.agg [I a1,I a2,I a3,.own 0],Bo true],[.arr 258 3 true (a0.map Zj.c)])/\A a0 a1 a2 a3
def ZeF(x:Rs)(A:(V4)->(V6)->Prop):Prop:=∃(a0:V4) (a1:V6),x=some (.tup [.own 0,.own 1],[.arr 40 1 true (a0.map isc),.arr 3 1 true (a1.map ic)])/\A a0 a1
def ZeG(b0:Int)(b1:List Z5)(r:Rs->Prop):Prop:=r (some (.tup [.agg [I b0,L 4 (b1.map Z5.c)],Bo true],[]))
def Zm1(b0:List Z5)(r:Rs->Prop):Prop:=r (some (.tup [.agg [I 0,L 4 (b0.map Z5.c)],Bo false],[]))
def ZeH(r:Rs->Prop):Prop:=r (some (.tup [.agg [.t (.str (⟨#[]⟩:YA)),I 0,.t .nil],Bo false],[]))
def ZeI(x:Rs)(A:(V6)->Prop):Prop:=∃(a0:V6),x=some (.tup [],[.arr 3 1 true (a0.map ic)])/\A a0
def ZeJ(b0:V6)(b1:V4)(r:Rs->Prop):Prop:=r (some (.agg [.own 0,.own 1],[.arr 3 1 true (b0.map ic),.arr 40 1 true (b1.map isc)]))
def ZeK(x:Rs)(A:XO->Bool->Prop):Prop:=∃(a0:XO) (a1:Bool),x=some (.tup [.agg (a0.c.map .t),Bo a1],[])/\A a0 a1
def ZeL(b0 b1 b2:Int)(b3:List Zj)(r:Rs->Prop):Prop:=r (some (.tup [.agg [I b0,I b1,I b2,.own 0],Bo true],[.arr 258 3 true (b3.map Zj.c)]))
def ZeM(x:Rs)(A:(V6)->Bool->Prop):Prop:=∃(a0:V6) (a1:Bool),x=some (.tup [.own 0,Bo a1],[.arr 3 1 true (a0.map ic)])/\A a0 a1
def Zia(b0:List Zo)(r:Rs->Prop):Prop:=r (some (.tup [.own 0,Bo false],[.arr 255 4 true (b0.map Zo.c)]))
def qs43(b0 b1 b2:Int)(r:Rs->Prop):Prop:=r (some (.tup [.agg [I b0,I (-1),I b1,I b2],Bo false],[]))
def Zib(x:Rs)(A:(List Zo)->Prop):Prop:=∃(a0:List Zo),x=some (.tup [.own 0,Bo true],[.arr 255 4 true (a0.map Zo.c)])/\A a0
def Zic(b0:V4)(b1:V6)(r:Rs->Prop):Prop:=r (some (.tup [.own 0,.own 1],[.arr 40 1 true (b0.map isc),.arr 3 1 true (b1.map ic)]))
def Zid(b0:V6)(b1:V4)(r:Rs->Prop):Prop:=r (some (.tup [.agg [L 1 (b0.map ic),L 1 (b1.map isc)],Bo true],[]))
def Zie(x:Rs)(A:(V6)->Prop):Prop:=∃(a0:V6),x=some (.agg [.own 0,.t .nil],[.arr 3 1 true (a0.map ic)])/\A a0
def Zif(x:Rs)(A:(V6)->(V4)->Prop):Prop:=∃(a0:V6) (a1:V4),x=some (.tup [.agg [.t .nil,.t .nil],Bo false],[.arr 3 1 true (a0.map ic),.arr 40 1 true (a1.map isc)])/\A a0 a1
def Zm2(b0:V6)(b1:List Zd)(r:Rs->Prop):Prop:=r (some (.tup [],[.arr 3 1 true (b0.map ic),.arr 328 4 true (b1.map Zd.c)]))
def Zm3(b0:V6)(b1:List Zd)(b2 b3:List Zj)(r:Rs->Prop):Prop:=r (some (.tup [],[.arr 3 1 true (b0.map ic),.arr 328 4 true (b1.map Zd.c),.arr 258 3 true (b2.map Zj.c),.arr 258 3 true (b3.map Zj.c)]))
def Zig(x:Rs)(A:(V6)->(List Zd)->Prop):Prop:=∃(a0:V6) (a1:List Zd),x=some (.tup [],[.arr 3 1 true (a0.map ic),.arr 328 4 true (a1.map Zd.c)])/\A a0 a1
def Zm4(b0:List Zo)(r:Rs->Prop):Prop:=r (some (.tup [.own 0,Bo true],[.arr 255 4 true (b0.map Zo.c)]))
def Zm5(b0:V6)(r:Rs->Prop):Prop:=r (some (.tup [.own 0,Bo true],[.arr 3 1 true (b0.map ic)]))
def Zm6(r:Rs->Prop):Prop:=r (some (.agg [.t (.str (⟨#[]⟩:YA)),I 0,I 0,.t .nil],[]))
def Zm7(b0:V6)(b1:V4)(r:Rs->Prop):Prop:=r (some (.tup [.agg [L 1 (b0.map ic),L 1 (b1.map isc)],Bo false],[]))
def Zm8(b0:V6)(b1:V4)(b2:V6)(b3:V4)(b4:V6)(b5:V4)(r:Rs->Prop):Prop:=r (some (.tup [],[.box [L 1 (b0.map ic),L 1 (b1.map isc),L 1 (b2.map ic),L 1 (b3.map isc),.own 1,.own 2],.arr 3 1 true (b4.map ic),.arr 40 1 true (b5.map isc)]))
def Zm9(r:Rs->Prop):Prop:=r (some (.tup [.agg [I 0,I 0,I 0,.t .nil],Bo false],[]))
def ZmA(b0:V6)(r:Rs->Prop):Prop:=r (some (.tup [.own 0,.own 1,Bo false],[.arr 3 1 true (b0.map ic),.arr 3 1 true (b0.map ic)]))
def ZmB(b0:Int)(b1 b2:V6)(r:Rs->Prop):Prop:=r (some (.tup [I b0,.own 0,.own 1],[.arr 3 1 true (b1.map ic),.arr 3 1 true (b2.map ic)]))
def ZmC(b0:List Zm)(b1:List Zo)(r:Rs->Prop):Prop:=r (some (.tup [.own 0,.own 1,Bo false],[.arr 251 2 true (b0.map Zm.c),.arr 255 4 true (b1.map Zo.c)]))
def ZmD(x:Rs)(A:(V6)->(List Zd)->(List Zj)->Prop):Prop:=∃(a0:V6) (a1:List Zd) (a2:List Zj),x=some (.tup [],[.arr 3 1 true (a0.map ic),.arr 328 4 true (a1.map Zd.c),.arr 258 3 true (a2.map Zj.c)])/\A a0 a1 a2
def qs62(b0:V6)(b1:List Zd)(r:Rs->Prop):Prop:=r (some (.own 1,[.arr 3 1 true (b0.map ic),.arr 328 4 true (b1.map Zd.c)]))
def ZmE(b0 b1 b2:Int)(b3:V6)(r:Rs->Prop):Prop:=r (some (.tup [.agg [I b0,I b1,I b2,.t .nil],Bo false],[.arr 3 1 true (b3.map ic)]))
def ZmF(b0 b1 b2:Int)(b3:V6)(b4:List Zj)(r:Rs->Prop):Prop:=r (some (.tup [.agg [I b0,I b1,I b2,.own 1],Bo true],[.arr 3 1 true (b3.map ic),.arr 258 3 true (b4.map Zj.c)]))
class IMC (F:Type) (T:outParam Type) where
 im:F->T->Prop
instance im0:IMC Rs ((Rs->Prop)->Prop):=⟨λf T=>∀r,Im (f=some r) (T λx=>x=some r)⟩
instance im1 {α F T:Type} [IMC F T]:IMC (α->F) (α->T):=⟨λf t=>∀a,IMC.im (f a) (t a)⟩
abbrev iM{F T:Type}[IMC F T](f:F)(t:T):Prop:=IMC.im f t
def uq{P Q:Prop}(h:P)(e:P=Q:=by conv=>lhs;try dsimp only[qs1,qs2,qs3,qs4,qs5,qs6,qs7,qs8,qs9,VV,VW,UR,qs13,US,Qm,Qn,KF,KG,J5,Zac,Zad,Zae,Zaf,Zbj,Zbk,Zm0,ZeE,Zcx,Zcy,Zcz,Zc0,Zc1,ZeF,ZeG,Zm1,ZeH,ZeI,ZeJ,ZeK,ZeL,ZeM,Zia,qs43,Zib,Zic,Zid,Zie,Zif,Zm2,Zm3,Zig,Zm4,Zm5,Zm6,Zm7,Zm8,Zm9,ZmA,ZmB,ZmC,ZmD,qs62,ZmE,ZmF,iM,IMC.im,im0,im1,qB,qV,qI,qH,qG,qb,qi,qL,qM,qN,Im]):Q:=e▸h
def qu{P Q:Prop}(h:Q)(e:P=Q:=by conv=>lhs;dsimp only[qs1,qs2,qs3,qs4,qs5,qs6,qs7,qs8,qs9,VV,VW,UR,qs13,US,Qm,Qn,KF,KG,J5,Zac,Zad,Zae,Zaf,Zbj,Zbk,Zm0,ZeE,Zcx,Zcy,Zcz,Zc0,Zc1,ZeF,ZeG,Zm1,ZeH,ZeI,ZeJ,ZeK,ZeL,ZeM,Zia,qs43,Zib,Zic,Zid,Zie,Zif,Zm2,Zm3,Zig,Zm4,Zm5,Zm6,Zm7,Zm8,Zm9,ZmA,ZmB,ZmC,ZmD,qs62,ZmE,ZmF,iM,IMC.im,im0,im1,qB,qV,qI,qH,qG,qb,qi,qL,qM,qN]):P:=e▸h
