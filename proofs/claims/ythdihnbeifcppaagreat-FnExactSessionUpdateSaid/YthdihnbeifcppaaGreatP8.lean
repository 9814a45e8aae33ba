/-
  Parts of the proofs for this seat: TX.
-/
import Derived.Test.YthdihnbeifcppaaGreatP5
import Derived.Test.YthdihnbeifcppaaGreatP7
set_option linter.all false
set_option maxRecDepth 100000
set_option maxHeartbeats 4000000
namespace Go.Proofs.YthdihnbeifcppaaGreat
open Go.AM
@[simp] def Zc.map_inj(xs ys:List Zc):xs.map Zc.c=ys.map Zc.c↔xs=ys:=XF (by
 intro a b h;simp at h
 simp[Zc.ext_iff,h])
@[simp] def Zl.map_inj(xs ys:List Zl):xs.map Zl.c=ys.map Zl.c↔xs=ys:=XF (by
 intro a b h;simp at h
 simp[Zl.ext_iff,h])
@[simp] def Zy.map_inj(xs ys:List Zy):xs.map Zy.c=ys.map Zy.c↔xs=ys:=XF (by
 intro a b h;simp at h
 simp[Zy.ext_iff,h])
@[simp] def Zk.map_inj(xs ys:List Zk):xs.map Zk.c=ys.map Zk.c↔xs=ys:=XF (by
 intro a b h;simp at h
 simp[Zk.ext_iff,h])
@[simp] def Zu.map_inj(xs ys:List Zu):xs.map Zu.c=ys.map Zu.c↔xs=ys:=XF (by
 intro a b h;simp at h
 simp[Zu.ext_iff,h])
@[simp] def Zp.map_inj(xs ys:List Zp):xs.map Zp.c=ys.map Zp.c↔xs=ys:=XF (by
 intro a b h;simp at h
 simp[Zp.ext_iff,h])
@[simp] def Zr.map_inj(xs ys:List Zr):xs.map Zr.c=ys.map Zr.c↔xs=ys:=XF (by
 intro a b h;simp at h
 simp[Zr.ext_iff,h])
@[simp] def Zr.flat(xs:List Zr):(xs.map Zr.c).all (λx=>x.all Xe)=true:=JV (λ_=>rfl) xs
@[simp] def Zr.flat2(xs:List Zr):xs.all ((λx=>x.all Xe) ∘ Zr.c)=true:=JW (λ_=>rfl) xs
@[simp] def Zs.map_inj(xs ys:List Zs):xs.map Zs.c=ys.map Zs.c↔xs=ys:=XF (by
 intro a b h;simp at h
 simp[Zs.ext_iff,Zl.ext_iff,Zu.ext_iff,h])
@[simp] def Zd.map_inj(xs ys:List Zd):xs.map Zd.c=ys.map Zd.c↔xs=ys:=XF (by
 intro a b h;simp at h
 simp[Zd.ext_iff,h])
@[simp] def Zd.flat(xs:List Zd):(xs.map Zd.c).all (λx=>x.all Xe)=true:=JV (λ_=>rfl) xs
@[simp] def Zd.flat2(xs:List Zd):xs.all ((λx=>x.all Xe) ∘ Zd.c)=true:=JW (λ_=>rfl) xs
@[simp] def Z0.map_inj(xs ys:List Z0):xs.map Z0.c=ys.map Z0.c↔xs=ys:=XF (by
 intro a b h;simp at h
 simp[Z0.ext_iff,h])
@[simp] def Za.map_inj(xs ys:List Za):xs.map Za.c=ys.map Za.c↔xs=ys:=XF (by
 intro a b h;simp at h
 simp[Za.ext_iff,Z0.ext_iff,h])
@[simp] def Ze.map_inj(xs ys:List Ze):xs.map Ze.c=ys.map Ze.c↔xs=ys:=XF (by
 intro a b h;simp at h
 simp[Ze.ext_iff,h])
@[simp] def Zj.map_inj(xs ys:List Zj):xs.map Zj.c=ys.map Zj.c↔xs=ys:=XF (by
 intro a b h;simp at h
 simp[Zj.ext_iff,h])
@[simp] def Zh.map_inj(xs ys:List Zh):xs.map Zh.c=ys.map Zh.c↔xs=ys:=XF (by
 intro a b h;simp at h
 simp[Zh.ext_iff,h])
@[simp] def Zh.flat(xs:List Zh):(xs.map Zh.c).all (λx=>x.all Xe)=true:=JV (λ_=>rfl) xs
@[simp] def Zh.flat2(xs:List Zh):xs.all ((λx=>x.all Xe) ∘ Zh.c)=true:=JW (λ_=>rfl) xs
@[simp] def Zg.map_inj(xs ys:List Zg):xs.map Zg.c=ys.map Zg.c↔xs=ys:=XF (by
 intro a b h;simp at h
 simp[Zg.ext_iff,h])
@[simp] def Box.map_inj(xs ys:List Box):xs.map Box.c=ys.map Box.c↔xs=ys:=XF (by
 intro a b h;simp at h
 simp[Box.ext_iff,h])
@[simp] def Region.map_inj(xs ys:List Region):xs.map Region.c=ys.map Region.c↔xs=ys:=XF (by
 intro a b h;simp at h
 simp[Region.ext_iff,Zg.ext_iff,Box.ext_iff,h])
@[simp] def Zo.map_inj(xs ys:List Zo):xs.map Zo.c=ys.map Zo.c↔xs=ys:=XF (by
 intro a b h;simp at h
 simp[Zo.ext_iff,Zj.ext_iff,Region.ext_iff,Zg.ext_iff,Box.ext_iff,h])
@[simp] def ZH.map_inj(xs ys:List ZH):xs.map ZH.c=ys.map ZH.c↔xs=ys:=XF (by
 intro a b h;simp at h
 simp[ZH.ext_iff,h])
@[simp] def ZJ.map_inj(xs ys:List ZJ):xs.map ZJ.c=ys.map ZJ.c↔xs=ys:=XF (by
 intro a b h;simp at h
 simp[ZJ.ext_iff,Zs.ext_iff,Zl.ext_iff,Zu.ext_iff,Za.ext_iff,Z0.ext_iff,ZH.ext_iff,h])
@[simp] def ZR.map_inj(xs ys:List ZR):xs.map ZR.c=ys.map ZR.c↔xs=ys:=XF (by
 intro a b h;simp at h
 simp[ZR.ext_iff,h])
@[ext] structure Zb where
 Mask:Int
 Order:Int
 Cost:Int
 Zg:Zg
 deriving DecidableEq
def Zb.c(x:Zb):UD:=[.int .i64 x.Mask,.int .i64 x.Order,.int .i64 x.Cost,.lst 3 (x.Zg.Steps.map Zh.c)]
@[simp] def Zb.c_def(x:Zb):x.c=[.int .i64 x.Mask,.int .i64 x.Order,.int .i64 x.Cost,.lst 3 (x.Zg.Steps.map Zh.c)]:=rfl
@[simp] def Zb.map_inj(xs ys:List Zb):xs.map Zb.c=ys.map Zb.c↔xs=ys:=XF (by
 intro a b h;simp at h
 simp[Zb.ext_iff,Zg.ext_iff,h])
@[ext] structure Zt where
 Mask:Int
 Order:Int
 Left:Int
 Right:Int
 deriving DecidableEq
def Zt.c(x:Zt):UD:=[.int .i64 x.Mask,.int .i64 x.Order,.int .i64 x.Left,.int .i64 x.Right]
@[simp] def Zt.c_def(x:Zt):x.c=[.int .i64 x.Mask,.int .i64 x.Order,.int .i64 x.Left,.int .i64 x.Right]:=rfl
@[simp] def Zt.map_inj(xs ys:List Zt):xs.map Zt.c=ys.map Zt.c↔xs=ys:=XF (by
 intro a b h;simp at h
 simp[Zt.ext_iff,h])
@[simp] def Zt.flat(xs:List Zt):(xs.map Zt.c).all (λx=>x.all Xe)=true:=JV (λ_=>rfl) xs
@[simp] def Zt.flat2(xs:List Zt):xs.all ((λx=>x.all Xe) ∘ Zt.c)=true:=JW (λ_=>rfl) xs
@[ext] structure Xk where
 mask:Int
 ZK:V6
 shared:V4
 deriving DecidableEq
def Xk.c(x:Xk):UD:=[.int .i64 x.mask,.lst 1 (x.ZK.map ic),.lst 1 (x.shared.map isc)]
@[simp] def Xk.c_def(x:Xk):x.c=[.int .i64 x.mask,.lst 1 (x.ZK.map ic),.lst 1 (x.shared.map isc)]:=rfl
@[simp] def Xk.map_inj(xs ys:List Xk):xs.map Xk.c=ys.map Xk.c↔xs=ys:=XF (by
 intro a b h;simp at h
 simp[Xk.ext_iff,h])
def We(m:Za)(q:Zj)(sizes:V6)(d:Int)(cc cd cl cn co:Zb)(cp cu cv cy cz:Bool):Blk:=.box [I m.Scan.Fixed,I m.Scan.Zv,I m.Scan.Zw,I m.Scan.Zz,I m.Scan.Zx,L 2 (m.Scan.Steps.map Zd.c),I m.Sort_.Fixed,I m.Sort_.Zv,I m.Sort_.Zw,I m.Sort_.Zz,I m.Sort_.Zx,L 2 (m.Sort_.Steps.map Zd.c),I m.Hash.Fixed,I m.Hash.Zv,I m.Hash.Zw,I m.Hash.Zz,I m.Hash.Zx,L 2 (m.Hash.Steps.map Zd.c),I m.Merge.Fixed,I m.Merge.Zv,I m.Merge.Zw,I m.Merge.Zz,I m.Merge.Zx,L 2 (m.Merge.Steps.map Zd.c),I m.Nested.Fixed,I m.Nested.Zv,I m.Nested.Zw,I m.Nested.Zz,I m.Nested.Zx,L 2 (m.Nested.Steps.map Zd.c),I q.Zm,L 2 (q.Atoms.map Ze.c),L 1 (sizes.map ic),I d,I cc.Mask,I cc.Order,I cc.Cost,L 3 (cc.Zg.Steps.map Zh.c),I cd.Mask,I cd.Order,I cd.Cost,L 3 (cd.Zg.Steps.map Zh.c),I cl.Mask,I cl.Order,I cl.Cost,L 3 (cl.Zg.Steps.map Zh.c),I cn.Mask,I cn.Order,I cn.Cost,L 3 (cn.Zg.Steps.map Zh.c),I co.Mask,I co.Order,I co.Cost,L 3 (co.Zg.Steps.map Zh.c),Bo cp,Bo cu,Bo cv,Bo cy,Bo cz]
@[simp] def Z9n(m:Za)(q:Zj)(sizes:V6)(mask:Int)(list0 cc cd cl cn:Zb)(co cp cu cv cy:Bool):We m q sizes mask list0 cc cd cl cn co cp cu cv cy=.box [I m.Scan.Fixed,I m.Scan.Zv,I m.Scan.Zw,I m.Scan.Zz,I m.Scan.Zx,L 2 (m.Scan.Steps.map Zd.c),I m.Sort_.Fixed,I m.Sort_.Zv,I m.Sort_.Zw,I m.Sort_.Zz,I m.Sort_.Zx,L 2 (m.Sort_.Steps.map Zd.c),I m.Hash.Fixed,I m.Hash.Zv,I m.Hash.Zw,I m.Hash.Zz,I m.Hash.Zx,L 2 (m.Hash.Steps.map Zd.c),I m.Merge.Fixed,I m.Merge.Zv,I m.Merge.Zw,I m.Merge.Zz,I m.Merge.Zx,L 2 (m.Merge.Steps.map Zd.c),I m.Nested.Fixed,I m.Nested.Zv,I m.Nested.Zw,I m.Nested.Zz,I m.Nested.Zx,L 2 (m.Nested.Steps.map Zd.c),I q.Zm,L 2 (q.Atoms.map Ze.c),L 1 (sizes.map ic),I mask,I list0.Mask,I list0.Order,I list0.Cost,L 3 (list0.Zg.Steps.map Zh.c),I cc.Mask,I cc.Order,I cc.Cost,L 3 (cc.Zg.Steps.map Zh.c),I cd.Mask,I cd.Order,I cd.Cost,L 3 (cd.Zg.Steps.map Zh.c),I cl.Mask,I cl.Order,I cl.Cost,L 3 (cl.Zg.Steps.map Zh.c),I cn.Mask,I cn.Order,I cn.Cost,L 3 (cn.Zg.Steps.map Zh.c),Bo co,Bo cp,Bo cu,Bo cv,Bo cy]:=rfl
def ZB(x:V6):Blk:=.arr 3 1 true (x.map ic)
def Xl(x:V4):Blk:=.arr 42 1 true (x.map isc)
def Jl(x:List Zb):Blk:=.arr 287 4 true (x.map Zb.c)
def Zbi(x:List Zt):Blk:=.arr 332 4 true (x.map Zt.c)
def Zbj(x:List Zh):Blk:=.arr 277 3 true (x.map Zh.c)
def Z2(x:V6):AV:=L 1 (x.map ic)
def WG(x:V4):AV:=L 1 (x.map isc)
def Vy(x:List Zb):AV:=L 4 (x.map Zb.c)
def QW(x:List Zp):AV:=L 3 (x.map Zp.c)
def JX(x:List Zr):AV:=L 4 (x.map Zr.c)
def gaO(x:UD):AV:=.agg (x.map .t)
def gbO(x:UD):Blk:=.box (x.map .t)
def zpO:UB->V2->List (Nat×AV)
 |a::l,b::m=>(a,b)::zpO l m
 |_,_=>[]
noncomputable def lp(C:ZG)(k:List Fr)(ks:UB)(B:MCode)(vs:V2)(h:UA):Rs:=EvL C k ks B ⟨zpO ks vs,[[]],h⟩
def lpz:(∀x,ZB x=.arr 3 1 true (x.map ic))/\(∀x,Xl x=.arr 42 1 true (x.map isc))/\(∀x,Jl x=.arr 287 4 true (x.map Zb.c))/\(∀x,Zbi x=.arr 332 4 true (x.map Zt.c))/\(∀x,Zbj x=.arr 277 3 true (x.map Zh.c))/\(∀x,Z2 x=L 1 (x.map ic))/\(∀x,WG x=L 1 (x.map isc))/\(∀x,Vy x=L 4 (x.map Zb.c))/\(∀x,QW x=L 3 (x.map Zp.c))/\(∀x,JX x=L 4 (x.map Zr.c))/\(∀x,gaO x=.agg (x.map .t))/\(∀x,gbO x=.box (x.map .t))/\(∀C k ks B vs h,lp C k ks B vs h=EvL C k ks B ⟨zpO ks vs,[[]],h⟩)/\(∀a l b m,zpO (a::l) (b::m)=(a,b)::zpO l m)/\(∀l,zpO [] l=[]):=by
 and_intros<;>intros<;>rfl
def qB(c:Rs)(A B:Prop):Prop:=∃v,c=some (Bo v,[])/\if v=true then A else B
def qV(c:Rs)(A:Bool->Prop):Prop:=∃v,c=some (Bo v,[])/\A v
def qI(c:Rs)(A:Int->Prop):Prop:=∃v,c=some (I v,[])/\A v
def qH{α:Type}(l:List α)(i:Int)(A:α->Prop):Prop:=∃e,l[i.toNat]?=some e/\A e
def qG{α:Type}(l:List α)(i:Int)(A:α->Prop):Prop:=0<=i/\∃e,l[i.toNat]?=some e/\A e
def qb(b:Bool)(r:Rs->Prop):Prop:=r (some (Bo b,[]))
def qi(n:Int)(r:Rs->Prop):Prop:=r (some (I n,[]))
def qL{α:Sort _}(a:α)(f:α->Prop):Prop:=f a
def qM{α:Type}(l:List α)(A:Prop):Prop:=l.length<=68719476736/\A
def qN{α:Type}(l:List α)(A:Prop):Prop:=l.length+1<=68719476736/\A
def qs1(r:Rs->Prop):Prop:=r (some (Bo false,[]))
def qs2(x:Rs)(A:(V6)->Prop):Prop:=∃(a0:V6),x=some (.own 0,[.arr 3 1 true (a0.map ic)])/\A a0
def qs3(b0:V6)(r:Rs->Prop):Prop:=r (some (.own 0,[.arr 3 1 true (b0.map ic)]))
def qs4(x:Rs)(A:(List Zh)->Prop):Prop:=∃(a0:List Zh),x=some (.agg [.own 0],[.arr 277 3 true (a0.map Zh.c)])/\A a0
def qs5(r:Rs->Prop):Prop:=r (some (Bo true,[]))
def qs6(x:Rs)(A:(List Zc)->Prop):Prop:=∃(a0:List Zc),x=some (.agg [.own 0],[.arr 179 3 true (a0.map Zc.c)])/\A a0
def qs7(r:Rs->Prop):Prop:=r (some (.tup [.agg [I 0,I 0,I 0,I 0],I (-1)],[]))
def qs8(r:Rs->Prop):Prop:=r (some (I 0,[]))
def qs9(r:Rs->Prop):Prop:=r (some (I (-1),[]))
def Uu(b0:List Zc)(r:Rs->Prop):Prop:=r (some (.tup [.agg [.own 0],Bo false],[.arr 179 3 true (b0.map Zc.c)]))
def QX(r:Rs->Prop):Prop:=r (some (.t .nil,[]))
def KB(b0:V4)(r:Rs->Prop):Prop:=r (some (.own 0,[.arr 42 1 true (b0.map isc)]))
def KC(x:Rs)(A:(V4)->Prop):Prop:=∃(a0:V4),x=some (.own 0,[.arr 42 1 true (a0.map isc)])/\A a0
def KD(b0:List Zh)(r:Rs->Prop):Prop:=r (some (.agg [.own 0],[.arr 277 3 true (b0.map Zh.c)]))
def KE(b0:List Zc)(r:Rs->Prop):Prop:=r (some (.tup [.agg [.own 0],Bo true],[.arr 179 3 true (b0.map Zc.c)]))
def JY(x:Rs)(A:(List Zc)->(List Zk)->(List Zp)->(List Zr)->Int->Prop):Prop:=∃(a0:List Zc) (a1:List Zk) (a2:List Zp) (a3:List Zr) (a4:Int),x=some (.agg [.own 0,I a4,.own 1,.own 2,.own 3],[.arr 179 3 true (a0.map Zc.c),.arr 191 4 true (a1.map Zk.c),.arr 185 3 true (a2.map Zp.c),.arr 187 4 true (a3.map Zr.c)])/\A a0 a1 a2 a3 a4
def Jm(r:Rs->Prop):Prop:=r (some (.tup [.agg [I 0,I (-1),I (-1),I (-1)],Bo false],[]))
def Jn(x:Rs)(A:Za->Zj->(V6)->Int->Zb->Zb->Zb->Zb->Zb->Bool->Bool->Bool->Bool->Bool->Prop):Prop:=∃(a0:Za) (a1:Zj) (a2:V6) (a3:Int) (a4:Zb) (a5:Zb) (a6:Zb) (a7:Zb) (a8:Zb) (a9:Bool) (a10:Bool) (a11:Bool) (a12:Bool) (a13:Bool),x=some (.tup [],[We a0 a1 a2 a3 a4 a5 a6 a7 a8 a9 a10 a11 a12 a13,.dead])/\A a0 a1 a2 a3 a4 a5 a6 a7 a8 a9 a10 a11 a12 a13
def Jo(x:Rs)(A:Za->Zj->(V6)->Int->Zb->Zb->Zb->Zb->Zb->Bool->Bool->Bool->Bool->Bool->(List Zh)->Prop):Prop:=∃(a0:Za) (a1:Zj) (a2:V6) (a3:Int) (a4:Zb) (a5:Zb) (a6:Zb) (a7:Zb) (a8:Zb) (a9:Bool) (a10:Bool) (a11:Bool) (a12:Bool) (a13:Bool) (a14:List Zh),x=some (.tup [],[We a0 a1 a2 a3 a4 a5 a6 a7 a8 a9 a10 a11 a12 a13,.arr 277 3 true (a14.map Zh.c)])/\A a0 a1 a2 a3 a4 a5 a6 a7 a8 a9 a10 a11 a12 a13 a14
def JZ(x:Rs)(A:Z0->Prop):Prop:=∃(a0:Z0),x=some (.agg (a0.c.map .t),[])/\A a0
def ZcD(b0:V6)(b1:List Zb)(b2:List Zh)(r:Rs->Prop):Prop:=r (some (.tup [],[.arr 3 1 true (b0.map ic),.arr 287 4 true (b1.map Zb.c),.arr 277 3 true (b2.map Zh.c)]))
def qs22(r:Rs->Prop):Prop:=r (some (I 1,[]))
def Zbk(r:Rs->Prop):Prop:=r (some (.tup [.t .nil,Bo false],[]))
def Zbl(b0:Int)(b1:V6)(r:Rs->Prop):Prop:=r (some (.tup [I b0,L 1 (b1.map ic),.t .nil],[]))
def Zbm(x:Rs)(A:(List Zc)->Bool->Prop):Prop:=∃(a0:List Zc) (a1:Bool),x=some (.tup [.agg [.own 0],Bo a1],[.arr 179 3 true (a0.map Zc.c)])/\A a0 a1
def Zbn(x:Rs)(A:(List Zd)->Int->Int->Int->Int->Int->Prop):Prop:=∃(a0:List Zd) (a1:Int) (a2:Int) (a3:Int) (a4:Int) (a5:Int),x=some (.agg [I a1,I a2,I a3,I a4,I a5,.own 0],[.arr 256 2 true (a0.map Zd.c)])/\A a0 a1 a2 a3 a4 a5
def ZcE(b0:List Zc)(r:Rs->Prop):Prop:=r (some (.agg [.own 0],[.arr 179 3 true (b0.map Zc.c)]))
def ZcF(r:Rs->Prop):Prop:=r (some (.tup [.agg [.t (.str (⟨#[]⟩:UP)),I 0,.t .nil],Bo false],[]))
def ZcG(b0 b1 b2:Int)(b3:List Zh)(r:Rs->Prop):Prop:=r (some (.tup [.agg [I b0,I b1,I b2,.own 0],Bo true],[.arr 277 3 true (b3.map Zh.c)]))
def ZcH(x:Rs)(A:Int->Int->Int->Prop):Prop:=∃(a0:Int) (a1:Int) (a2:Int),x=some (.tup [.agg [I a0,I a1,I a2,.t .nil],Bo false],[])/\A a0 a1 a2
def ZcI(x:Rs)(A:(List Zh)->Int->Int->Int->Prop):Prop:=∃(a0:List Zh) (a1:Int) (a2:Int) (a3:Int),x=some (.tup [.agg [I a1,I a2,I a3,.own 0],Bo true],[.arr 277 3 true (a0.map Zh.c)])/\A a0 a1 a2 a3
def qs32(b0:Int)(b1:List Zc)(b2:List Zk)(b3:List Zp)(b4:List Zr)(r:Rs->Prop):Prop:=r (some (.tup [.agg [.own 0,I b0,.own 1,.own 2,.own 3],Bo false],[.arr 179 3 true (b1.map Zc.c),.arr 191 4 true (b2.map Zk.c),.arr 185 3 true (b3.map Zp.c),.arr 187 4 true (b4.map Zr.c)]))
def ZcJ(x:Rs)(A:(V6)->Bool->Prop):Prop:=∃(a0:V6) (a1:Bool),x=some (.tup [.own 0,Bo a1],[.arr 3 1 true (a0.map ic)])/\A a0 a1
def Zfg(b0:List Zt)(r:Rs->Prop):Prop:=r (some (.tup [.own 0,Bo false],[.arr 332 4 true (b0.map Zt.c)]))
def Zfh(b0:List Zc)(b1:Int)(b2:List Zk)(b3:List Zp)(b4:List Zr)(r:Rs->Prop):Prop:=r (some (.tup [.agg [L 3 (b0.map Zc.c),I b1,L 4 (b2.map Zk.c),L 3 (b3.map Zp.c),L 4 (b4.map Zr.c)],Bo false],[]))
def Zfi(x:Rs)(A:(List Zp)->Prop):Prop:=∃(a0:List Zp),x=some (.own 0,[.arr 185 3 true (a0.map Zp.c)])/\A a0
def Zfj(x:Rs)(A:(V6)->Prop):Prop:=∃(a0:V6),x=some (.tup [.own 0,Bo true],[.arr 3 1 true (a0.map ic)])/\A a0
def qs38(b0 b1 b2:Int)(r:Rs->Prop):Prop:=r (some (.tup [.agg [I b0,I (-1),I b1,I b2],Bo false],[]))
def Zfk(b0:V4)(b1:V6)(r:Rs->Prop):Prop:=r (some (.tup [.own 0,.own 1],[.arr 42 1 true (b0.map isc),.arr 3 1 true (b1.map ic)]))
def Zjl(b0:V6)(b1:List Zb)(r:Rs->Prop):Prop:=r (some (.tup [],[.arr 3 1 true (b0.map ic),.arr 287 4 true (b1.map Zb.c)]))
def Zjm(b0:V6)(b1:List Zb)(b2 b3:List Zh)(r:Rs->Prop):Prop:=r (some (.tup [],[.arr 3 1 true (b0.map ic),.arr 287 4 true (b1.map Zb.c),.arr 277 3 true (b2.map Zh.c),.arr 277 3 true (b3.map Zh.c)]))
def Zfl(x:Rs)(A:(V6)->(List Zb)->Prop):Prop:=∃(a0:V6) (a1:List Zb),x=some (.tup [],[.arr 3 1 true (a0.map ic),.arr 287 4 true (a1.map Zb.c)])/\A a0 a1
def Zjn(b0:List Zc)(r:Rs->Prop):Prop:=r (some (.tup [.agg [L 3 (b0.map Zc.c)],Bo false],[]))
def Zjo(b0:Int)(b1:List Zk)(r:Rs->Prop):Prop:=r (some (.agg [I b0,.own 0],[.arr 191 4 true (b1.map Zk.c)]))
def Zjp(b0:List Zp)(r:Rs->Prop):Prop:=r (some (.own 0,[.arr 185 3 true (b0.map Zp.c)]))
def Zjq(b0:Int)(b1:List Zc)(b2:List Zk)(b3:List Zp)(b4:List Zr)(r:Rs->Prop):Prop:=r (some (.agg [.own 0,I b0,.own 1,.own 2,.own 3],[.arr 179 3 true (b1.map Zc.c),.arr 191 4 true (b2.map Zk.c),.arr 185 3 true (b3.map Zp.c),.arr 187 4 true (b4.map Zr.c)]))
def Zjr(b0:Int)(b1:List Ze)(r:Rs->Prop):Prop:=r (some (.agg [I b0,.own 0],[.arr 251 2 true (b1.map Ze.c)]))
def Zjs(x:Rs)(A:(List Zh)->(V6)->(V6)->Int->Prop):Prop:=∃(a0:List Zh) (a1:V6) (a2:V6) (a3:Int),x=some (.agg [.own 0,.own 1,.own 2,I a3],[.arr 277 3 true (a0.map Zh.c),.arr 3 1 true (a1.map ic),.arr 3 1 true (a2.map ic)])/\A a0 a1 a2 a3
def Zjt(b0:Int)(b1:List Zo)(r:Rs->Prop):Prop:=r (some (.agg [I b0,.own 0],[.arr 128 8 true (b1.map Zo.c)]))
def Zju(x:Rs)(A:(List Zd)->(List Zd)->(List Zd)->(List Zd)->(List Zd)->Int->Int->Int->Int->Int->Int->Int->Int->Int->Int->Int->Int->Int->Int->Int->Int->Int->Int->Int->Int->Int->Int->Int->Int->Int->Prop):Prop:=∃(a0:List Zd) (a1:List Zd) (a2:List Zd) (a3:List Zd) (a4:List Zd) (a5:Int) (a6:Int) (a7:Int) (a8:Int) (a9:Int) (a10:Int) (a11:Int) (a12:Int) (a13:Int) (a14:Int) (a15:Int) (a16:Int) (a17:Int) (a18:Int) (a19:Int) (a20:Int) (a21:Int) (a22:Int) (a23:Int) (a24:Int) (a25:Int) (a26:Int) (a27:Int) (a28:Int) (a29:Int),x=some (.agg [I a5,I a6,I a7,I a8,I a9,.own 0,I a10,I a11,I a12,I a13,I a14,.own 1,I a15,I a16,I a17,I a18,I a19,.own 2,I a20,I a21,I a22,I a23,I a24,.own 3,I a25,I a26,I a27,I a28,I a29,.own 4],[.arr 256 2 true (a0.map Zd.c),.arr 256 2 true (a1.map Zd.c),.arr 256 2 true (a2.map Zd.c),.arr 256 2 true (a3.map Zd.c),.arr 256 2 true (a4.map Zd.c)])/\A a0 a1 a2 a3 a4 a5 a6 a7 a8 a9 a10 a11 a12 a13 a14 a15 a16 a17 a18 a19 a20 a21 a22 a23 a24 a25 a26 a27 a28 a29
def Zjv(b0:Int)(b1:List Zk)(r:Rs->Prop):Prop:=r (some (.tup [.agg [I b0,.own 0],Bo true],[.arr 191 4 true (b1.map Zk.c)]))
def qs52(b0:List Zk)(r:Rs->Prop):Prop:=r (some (.tup [.agg [I 0,.own 0],Bo false],[.arr 191 4 true (b0.map Zk.c)]))
def Zjw(b0:V6)(r:Rs->Prop):Prop:=r (some (.tup [.own 0,Bo true],[.arr 3 1 true (b0.map ic)]))
def Zjx(r:Rs->Prop):Prop:=r (some (.tup [.t .nil,.t .nil,Bo false],[]))
def Zjy(b0:List Zt)(r:Rs->Prop):Prop:=r (some (.tup [.own 0,Bo true],[.arr 332 4 true (b0.map Zt.c)]))
def Zjz(x:Rs)(A:(List Zt)->Prop):Prop:=∃(a0:List Zt),x=some (.tup [.own 0,Bo true],[.arr 332 4 true (a0.map Zt.c)])/\A a0
def Zj0(r:Rs->Prop):Prop:=r (some (.tup [.agg [I 0,I 0,I 0,.t .nil],Bo false],[]))
def Zj1(b0:Bool)(b1:List Zc)(r:Rs->Prop):Prop:=r (some (.tup [.agg [.own 0],Bo b0],[.arr 179 3 true (b1.map Zc.c)]))
def qs59(b0 b1 b2 b3 b4 b5 b6 b7 b8 b9 cc cd cl cn co cp cu cv cy cz d dc dd dl dn dp du dv dy dz l:Int)(lc:List Zc)(ld:List Zk)(ll:List Zp)(ln:List Zr)(lo lp lu lv ly:List Zd)(lz:List Zo)(r:Rs->Prop):Prop:=r (some (.tup [.agg [.own 0,I b0,.own 1,.own 2,.own 3,I b1,I b2,I b3,I b4,I b5,.own 4,I b6,I b7,I b8,I b9,I cc,.own 5,I cd,I cl,I cn,I co,I cp,.own 6,I cu,I cv,I cy,I cz,I d,.own 7,I dc,I dd,I dl,I dn,I dp,.own 8,I du,.own 9,I dv,I dy,I dz,I l],Bo false],[.arr 179 3 true (lc.map Zc.c),.arr 191 4 true (ld.map Zk.c),.arr 185 3 true (ll.map Zp.c),.arr 187 4 true (ln.map Zr.c),.arr 256 2 true (lo.map Zd.c),.arr 256 2 true (lp.map Zd.c),.arr 256 2 true (lu.map Zd.c),.arr 256 2 true (lv.map Zd.c),.arr 256 2 true (ly.map Zd.c),.arr 128 8 true (lz.map Zo.c)]))
def Zj2(x:Rs)(A:(V4)->(V6)->Prop):Prop:=∃(a0:V4) (a1:V6),x=some (.tup [.own 0,.own 1],[.arr 42 1 true (a0.map isc),.arr 3 1 true (a1.map ic)])/\A a0 a1
def Zj3(b0:Int)(b1:List Zk)(r:Rs->Prop):Prop:=r (some (.tup [.agg [I b0,L 4 (b1.map Zk.c)],Bo true],[]))
def qs62(b0:List Zk)(r:Rs->Prop):Prop:=r (some (.tup [.agg [I 0,L 4 (b0.map Zk.c)],Bo false],[]))
def Zj4(b0:V6)(r:Rs->Prop):Prop:=r (some (.tup [.own 0,.own 1,Bo false],[.arr 3 1 true (b0.map ic),.arr 3 1 true (b0.map ic)]))
def Zj5(b0:Int)(b1 b2:V6)(r:Rs->Prop):Prop:=r (some (.tup [I b0,.own 0,.own 1],[.arr 3 1 true (b1.map ic),.arr 3 1 true (b2.map ic)]))
def Zj6(x:Rs)(A:(V6)->(List Zb)->(List Zh)->Prop):Prop:=∃(a0:V6) (a1:List Zb) (a2:List Zh),x=some (.tup [],[.arr 3 1 true (a0.map ic),.arr 287 4 true (a1.map Zb.c),.arr 277 3 true (a2.map Zh.c)])/\A a0 a1 a2
class IMC (F:Type) (T:outParam Type) where
 im:F->T->Prop
instance im0:IMC Rs ((Rs->Prop)->Prop):=⟨λf T=>∀r,Im (f=some r) (T λx=>x=some r)⟩
instance im1 {α F T:Type} [IMC F T]:IMC (α->F) (α->T):=⟨λf t=>∀a,IMC.im (f a) (t a)⟩
abbrev iM{F T:Type}[IMC F T](f:F)(t:T):Prop:=IMC.im f t
def uq{P Q:Prop}(h:P)(e:P=Q:=by conv=>lhs;try dsimp only[qs1,qs2,qs3,qs4,qs5,qs6,qs7,qs8,qs9,Uu,QX,KB,KC,KD,KE,JY,Jm,Jn,Jo,JZ,ZcD,qs22,Zbk,Zbl,Zbm,Zbn,ZcE,ZcF,ZcG,ZcH,ZcI,qs32,ZcJ,Zfg,Zfh,Zfi,Zfj,qs38,Zfk,Zjl,Zjm,Zfl,Zjn,Zjo,Zjp,Zjq,Zjr,Zjs,Zjt,Zju,Zjv,qs52,Zjw,Zjx,Zjy,Zjz,Zj0,Zj1,qs59,Zj2,Zj3,qs62,Zj4,Zj5,Zj6,iM,IMC.im,im0,im1,qB,qV,qI,qH,qG,qb,qi,qL,qM,qN,Im]):Q:=e▸h
def qu{P Q:Prop}(h:Q)(e:P=Q:=by conv=>lhs;dsimp only[qs1,qs2,qs3,qs4,qs5,qs6,qs7,qs8,qs9,Uu,QX,KB,KC,KD,KE,JY,Jm,Jn,Jo,JZ,ZcD,qs22,Zbk,Zbl,Zbm,Zbn,ZcE,ZcF,ZcG,ZcH,ZcI,qs32,ZcJ,Zfg,Zfh,Zfi,Zfj,qs38,Zfk,Zjl,Zjm,Zfl,Zjn,Zjo,Zjp,Zjq,Zjr,Zjs,Zjt,Zju,Zjv,qs52,Zjw,Zjx,Zjy,Zjz,Zj0,Zj1,qs59,Zj2,Zj3,qs62,Zj4,Zj5,Zj6,iM,IMC.im,im0,im1,qB,qV,qI,qH,qG,qb,qi,qL,qM,qN]):P:=e▸h
