/-
  Parts of the proofs for this seat: D2.
-/
import Derived.Test.YthdihnbeifcppaaGreatP9
set_option linter.all false
set_option maxRecDepth 100000
set_option maxHeartbeats 4000000
set_option cbv.maxSteps 9999999
namespace Go.Proofs.YthdihnbeifcppaaGreat
open Go.AM
noncomputable section
def Qd:RawF (Zi 379 Tryz.f379):={ m:=_ }
def Zqv:MCode:=cut0 Qd 65
def Zqw:MCode:=cut0 Qd 81
def Zqx:MCode:=cut1 Qd 77 4 Zqw
def Zk0:MCode:=cut0 Qd 93
def Zgv:MCode:=cut3 Qd 44 21 Zqv 33 Zqx 49 Zk0
def Zqy:MCode:=cut0 Qd 94
def ZzP:MCode:=cut2 Qd 39 5 Zgv 55 Zqy
def Zqz:MCode:=cut0 Qd 97
def Zk1:MCode:=cut2 Qd 19 20 ZzP 78 Zqz
def Zq0:MCode:=cut0 Qd 103
def Zq1:MCode:=cut0 Qd 115
def Zq2:MCode:=cut2 Qd 98 5 Zq0 17 Zq1
def Zk2:MFun:=Z3 Qd 19 Zk1 98 Zq2
def Zdm(a:Za)(a1:Zj)(a2:V6):Rs:=C 379 [gaO a.c,gaO a1.c,Z2 a2] []
def Zk3:List Fr:=[.blk 0,.seq Zq2,.fin 0 [.tmp 6]]
def Zap(m:Za)(q:Zj)(fr:Bool)(cd:List (List Zb))(cl:Bool)(cn:List Zb)(x cc:V6)(x1 x2:Int):Rs:=lp C Zk3 [2,3,4,7,8,38,39,40] Zk1 [Z2 cc,.ptr 0 0,.ptr 1 0,.own 2,.own 3,.own 4,I x1,I x2] [gbO m.c,gbO q.c,.arr 290 1 fr (cd.map (lc 4 Zb.c)),.arr 287 4 cl (cn.map Zb.c),ZB x]
def Zk4:List Fr:=.blk 2::.seq Zqy::.blk 1::.seq Zqz::.loop [2,3,4,7,8,38,39,40] Zk1::Zk3
def Zq3:=lp C Zk4 [2,3,4,7,8,10,11,38,39,40,73,74,75] Zgv
def ZzQ(m:Za)(q:Zj)(fr:Bool)(dd:List (List Zb))(dn:Bool)(du:List Zb)(dp:Za)(dv:Zj)(cu:V6)(dl:Int)(cd cl cn co cp:Zb)(cv cy cz d dc:Bool)(x cc:V6)(mask1 x1 x2 x3 x4:Int):Rs:=Zq3 [Z2 cc,.ptr 0 0,.ptr 1 0,.own 2,.own 3,I mask1,.ptr 4 0,.own 5,I x1,I x2,.t .nil,I x3,I x4] [gbO m.c,gbO q.c,.arr 290 1 fr (dd.map (lc 4 Zb.c)),.arr 287 4 dn (du.map Zb.c),We dp dv cu dl cd cl cn co cp cv cy cz d dc,ZB x]
def ZbE(m:Za)(q:Zj)(fr:Bool)(dd:List (List Zb))(dn:Bool)(du:List Zb)(dp:Za)(dv:Zj)(cu:V6)(dl:Int)(cd cl cn co cp:Zb)(cv cy cz d dc:Bool)(x x1 cc:V6)(mask1 x2 x3 x4 x5:Int):Rs:=Zq3 [Z2 cc,.ptr 0 0,.ptr 1 0,.own 2,.own 3,I mask1,.ptr 4 0,.own 5,I x2,I x3,.own 6,I x4,I x5] [gbO m.c,gbO q.c,.arr 290 1 fr (dd.map (lc 4 Zb.c)),.arr 287 4 dn (du.map Zb.c),We dp dv cu dl cd cl cn co cp cv cy cz d dc,ZB x,ZB x1]
def Zgw(fr:Bool)(cc:List Zb)(x x1:Int):Rs:=lp C [.blk 8,.seq Zq1,.fin 0 [.tmp 6]] [8,157,158] Zq0 [.own 0,I x,I x1] [.arr 287 4 fr (cc.map Zb.c)]
def Zdn(m:Za)(q:Zj)(fr:Bool)(dl:List (List Zb))(du:Bool)(dy:List Zb)(dv:Za)(dz:Zj)(cv:V6)(dp:Int)(cd cl cn co cp:Zb)(cy cz d dc dd:Bool)(y:Zg)(x x1 cc:V6)(mask1 x2:Int)(dn cu:List Zb)(x3 x4 x5 x6:Int)(x7:List Zb)(x8 x9:Int):Rs:=lp C (.blk 4::.seq Zqx::.blk 3::.seq Zk0::.loop [2,3,4,7,8,10,11,38,39,40,73,74,75] Zgv::Zk4) [2,3,4,7,8,10,11,14,15,16,17,38,39,40,73,74,75,99,100,101] Zqv [Z2 cc,.ptr 0 0,.ptr 1 0,.own 2,.own 3,I mask1,.ptr 4 0,I x2,Vy dn,Vy cu,.ptr 5 0,.own 6,I x3,I x4,.own 7,I x5,I x6,Vy x7,I x8,I x9] [gbO m.c,gbO q.c,.arr 290 1 fr (dl.map (lc 4 Zb.c)),.arr 287 4 du (dy.map Zb.c),We dv dz cv dp cd cl cn co cp cy cz d dc dd,gbO y.c,ZB x,ZB x1]
def Zdo(m:Za)(q:Zj)(fr:Bool)(dl:List (List Zb))(du:Bool)(dy:List Zb)(dv:Za)(dz:Zj)(cv:V6)(dp:Int)(cd cl cn co cp:Zb)(cy cz d dc dd:Bool)(x x1 x2 cc:V6)(mask1:Int)(dn cu:List Zb)(x3 x4 x5 x6 x7 x8:Int):Rs:=lp C (.blk 6::.blk 3::.seq Zk0::.loop [2,3,4,7,8,10,11,38,39,40,73,74,75] Zgv::Zk4) [2,3,4,7,8,10,11,15,16,38,39,40,73,74,75,119,120,121] Zqw [Z2 cc,.ptr 0 0,.ptr 1 0,.own 2,.own 3,I mask1,.ptr 4 0,Vy dn,Vy cu,.own 5,I x3,I x4,.own 6,I x5,I x6,.own 7,I x7,I x8] [gbO m.c,gbO q.c,.arr 290 1 fr (dl.map (lc 4 Zb.c)),.arr 287 4 du (dy.map Zb.c),We dv dz cv dp cd cl cn co cp cy cz d dc dd,ZB x,ZB x1,ZB x2]
def Zk5:RawF (Zi 378 Tryz.f378):={ m:=_ }
def ZzR:MCode:=cut0 Zk5 24
def Zq4:MCode:=cut1 Zk5 9 15 ZzR
def Zq5:MCode:=cut0 Zk5 25
def ZzS:MFun:=Z3 Zk5 9 Zq4 25 Zq5
def Zq6(a:Int):Rs:=C 378 [.t .nil,I a] []
def Zk6(fr:Bool)(x:List Zb):Rs:=C 389 [.own 0] [.arr 287 4 fr (x.map Zb.c)]
def Zgx(a:List Zb)(a1:Int):Rs:=C 378 [Vy a,I a1] []
def Zdq(Mask Order Cost:Int)(fr:Bool)(x:List Zb)(mask:Int)(x1:List Zb)(x2 x3:Int):Rs:=lp C [.blk 0,.seq Zq5,.fin 0 [.cell 4 (some 4),.tmp 5]] [1,4,6,11,12,13] Zq4 [I mask,.ptr 0 0,.own 1,Vy x1,I x2,I x3] [.box [I Mask,I Order,I Cost,.t .nil],.arr 287 4 fr (x.map Zb.c)]
def ZzT:MFun:=mkF (Zi 343 Tryz.f343)
def Zgy(a:Za)(a1:Zj)(a2:V6):Rs:=C 343 [gaO a.c,gaO a1.c,Z2 a2] []
def ZzU:MFun:=mkF (Zi 317 Tryz.f317)
def Zgz(a:Za)(a1:Zj)(a2:V6):Rs:=C 317 [gaO a.c,gaO a1.c,Z2 a2] []
def ZzV(a:Za)(a1:Zj):Rs:=C 317 [gaO a.c,gaO a1.c,.t .nil] []
def ZzW:MFun:=mkF (Zi 268 Tryz.f268)
def Zk7(a:Za)(a1:Zj)(a2:V6):Rs:=C 268 [gaO a.c,gaO a1.c,Z2 a2] []
def ZzX:MFun:=mkF (Zi 207 Tryz.f207)
def Zk8(a:Za)(a1:Zj)(a2:Region):Rs:=C 207 [gaO a.c,gaO a1.c,gaO a2.c] []
def ZzY:MFun:=mkF (Zi 133 Tryz.f133)
def Zk9(a:Za)(a1:Zj)(a2:Region):Rs:=C 133 [gaO a.c,gaO a1.c,gaO a2.c] []
def ZzZ:MFun:=mkF (Zi 135 Tryz.f135)
def Zq7(a a1:Zo):Rs:=C 135 [gaO a.c,.iptr (a1.c) 0] []
def Zq8:RawF (Zi 144 Tryz.f144):={ m:=_ }
def Zq9:MCode:=cut0 Zq8 7
def ZqA:MCode:=cut0 Zq8 25
def Z0a:MFun:=Z3 Zq8 7 Zq9 25 ZqA
def ZqB(a:List Zo)(a1:Zo):Rs:=C 144 [L 8 (a.map Zo.c),.fn 135 [.iptr (a1.c) 0]] []
def Zg0(s:List Zo)(f:Zo)(x x1:Int):Rs:=lp C [.blk 0,.seq ZqA,.fin 0 [.tmp 4]] [0,1,7,8] Zq9 [L 8 (s.map Zo.c),.fn 135 [.iptr (f.c) 0],I x,I x1] []
def Z0b:MFun:=mkF (Zi 134 Tryz.f134)
def ZkA(a:List Zo)(a1:Zo):Rs:=C 134 [L 8 (a.map Zo.c),.fn 135 [.iptr (a1.c) 0]] []
def ZqC:RawF (Zi 72 Tryz.f72):={ m:=_ }
def ZqD:MCode:=cut0 ZqC 15
def ZqE:MCode:=cut0 ZqC 41
def Z0c:MFun:=Z3 ZqC 15 ZqD 41 ZqE
def Zdr(a:Za)(a1:ZH):Rs:=C 72 [gaO a.c,gaO a1.c] []
def Zg1(m:Za)(c:ZH)(x:List Zo)(x1 x2:Int):Rs:=lp C [.blk 0,.seq ZqE,.fin 0 [.tmp 4]] [2,3,18,19,20] ZqD [.ptr 0 0,.ptr 1 0,L 8 (x.map Zo.c),I x1,I x2] [gbO m.c,gbO c.c]
def Z0d:MFun:=mkF (Zi 28 Tryz.f28)
def Zg2(a:ZJ):Rs:=C 28 [gaO a.c] []
def Z0e:MFun:=mkF (Zi 272 Tryz.f272)
def ZqF(a a1:V6):Rs:=C 272 [Z2 a,.iptr [.lst 1 (a1.map ic)] 0] []
def ZqG:RawF (Zi 271 Tryz.f271):={ m:=_ }
def ZqH:MCode:=cut0 ZqG 7
def ZqI:MCode:=cut0 ZqG 25
def Z0f:MFun:=Z3 ZqG 7 ZqH 25 ZqI
def ZqJ(a:V4)(a1:V6):Rs:=C 271 [WG a,.fn 272 [.iptr [.lst 1 (a1.map ic)] 0]] []
def Zg3(s:V4)(f:V6)(x x1:Int):Rs:=lp C [.blk 0,.seq ZqI,.fin 0 [.tmp 4]] [0,1,7,8] ZqH [WG s,.fn 272 [.iptr [.lst 1 (f.map ic)] 0],I x,I x1] []
def Z0g:MFun:=mkF (Zi 212 Tryz.f212)
def Zds(a:Zc)(a1:V6):Rs:=C 212 [gaO a.c,Z2 a1] []
def ZqK(x:V4):Rs:=C 274 [.own 0,.fn 275 []] [.arr 42 1 true (x.map isc)]
def ZqL(x:V4):Rs:=C 276 [.own 0,.fn 277 []] [.arr 42 1 true (x.map isc)]
def Z0h:MFun:=mkF (Zi 213 Tryz.f213)
def Zdt(a:V4):Rs:=C 213 [WG a] []
def Z0i:MFun:=mkF (Zi 137 Tryz.f137)
def Zg4(a:Zc)(a1:V6):Rs:=C 137 [gaO a.c,Z2 a1] []
def Z0j:MFun:=mkF (Zi 214 Tryz.f214)
def ZkB(a:Zc)(a1:V6):Rs:=C 214 [gaO a.c,Z2 a1] []
def ZkC(x:V4)(a a1:Int):Rs:=C 215 [.own 0,I a,I a1] [.arr 42 1 true (x.map isc)]
def Z0k:MFun:=mkF (Zi 138 Tryz.f138)
def Zg5(a:Zc)(a1:V6):Rs:=C 138 [gaO a.c,Z2 a1] []
def Zg6:RawF (Zi 139 Tryz.f139):={ m:=_ }
def Z0l:MCode:=cut0 Zg6 37
def ZqM:MCode:=cut1 Zg6 19 18 Z0l
def Z0m:MCode:=cut0 Zg6 49
def ZqN:MCode:=cut1 Zg6 43 6 Z0m
def Z0n:MFun:=Z3 Zg6 19 ZqM 43 ZqN
def Zg7(a:Zl)(a1:Zc):Rs:=C 139 [gaO a.c,gaO a1.c] []
def ZqO:=lp C [.blk 0,.seq ZqN,.fin 0 [.cellO 4 (some 1) [some (179,3)],.tmpO 5 [none]]] [2,3,4,6,7,22,23,24] ZqM
def Zdu(db:Zl)(t:Zc)(done:Bool)(x:List Zc)(x1 x2:Int):Rs:=ZqO [.ptr 0 0,.ptr 1 0,.ptr 2 0,.ptr 3 0,Bo done,L 3 (x.map Zc.c),I x1,I x2] [gbO db.c,gbO t.c,.box [.t .nil],.box [.t .nil]]
def Zaq(db:Zl)(t:Zc)(x:List Zc)(done:Bool)(x1:List Zc)(x2 x3:Int):Rs:=ZqO [.ptr 0 0,.ptr 1 0,.ptr 2 0,.ptr 3 0,Bo done,L 3 (x1.map Zc.c),I x2,I x3] [gbO db.c,gbO t.c,.box [.t .nil],.box [.own 4],.arr 179 3 true (x.map Zc.c)]
def Z0o:RawF (Zi 73 Tryz.f73):={ m:=_ }
def Z0p:MCode:=cut0 Z0o 18
def Z0q:MFun:=XH Z0o 18 Z0p
def ZkD(a:Zl)(a1:ZR):Rs:=C 73 [gaO a.c,gaO a1.c] []
def Z0r:MFun:=mkF (Zi 29 Tryz.f29)
def ZkE(a:Zs)(a1:ZR):Rs:=C 29 [gaO a.c,gaO a1.c] []
def ZkF(x:List Zo)(x1:Int):Rs:=C 76 [.own 0,.fn 77 [.ptr 1 0]] [.arr 128 8 true (x.map Zo.c),.box [I x1]]
def Z0s:MFun:=mkF (Zi 30 Tryz.f30)
def ZkG(a:Za)(a1:ZH)(a2:Int):Rs:=C 30 [gaO a.c,gaO a1.c,I a2] []
def Z0t:MFun:=mkF (Zi 9 Tryz.f9)
def ZkH(a:ZJ)(a1:ZR):Rs:=C 9 [.agg (a.c.map .t),.agg (a1.c.map .t)] []
def ZqP:RawF (Zi 167 Tryz.f167):={ m:=_ }
def ZqQ:MCode:=cut0 ZqP 9
def ZqR:MCode:=cut0 ZqP 19
def Z0u:MFun:=Z3 ZqP 9 ZqQ 19 ZqR
def W7(a:Zc):Rs:=C 167 [gaO a.c] []
def ZqS:=lp C [.blk 0,.seq ZqR,.fin 0 [.cellO 2 (some 3) [none,none,some (42,1)]]] [1,2,3,4] ZqQ
def ZqT(t:Zc)(cd:UP)(Arity:Int)(cc:UP)(Arity1 i:Int):Rs:=ZqS [.ptr 0 0,.ptr 1 0,.ptr 2 0,I i] [gbO t.c,.box [.t (.str cd),I Arity,.t .nil],.box [.t (.str cc),I Arity1,.t .nil]]
def Zdv(t:Zc)(cd:UP)(Arity:Int)(cc:UP)(Arity1:Int)(x:V4)(i:Int):Rs:=ZqS [.ptr 0 0,.ptr 1 0,.ptr 2 0,I i] [gbO t.c,.box [.t (.str cd),I Arity,.t .nil],.box [.t (.str cc),I Arity1,.own 3],Xl x]
def ZqU:RawF (Zi 102 Tryz.f102):={ m:=_ }
def ZqV:MCode:=cut0 ZqU 9
def ZqW:MCode:=cut0 ZqU 21
def Z0v:MFun:=Z3 ZqU 9 ZqV 21 ZqW
def Ux(a:Zl):Rs:=C 102 [gaO a.c] []
def ZqX:=lp C [.blk 0,.seq ZqW,.fin 0 [.cellO 2 (some 1) [some (179,3)]]] [1,2,3,4] ZqV
def ZqY(d:Zl)(i:Int):Rs:=ZqX [.ptr 0 0,.ptr 1 0,.ptr 2 0,I i] [gbO d.c,.box [.t .nil],.box [.t .nil]]
def Zg8(d:Zl)(x:List Zc)(i:Int):Rs:=ZqX [.ptr 0 0,.ptr 1 0,.ptr 2 0,I i] [gbO d.c,.box [.t .nil],.box [.own 3],.arr 179 3 true (x.map Zc.c)]
def Zdw:RawF (Zi 168 Tryz.f168):={ m:=_ }
def ZqZ:MCode:=cut0 Zdw 24
def Zra:MCode:=cut0 Zdw 34
def Zrb:MCode:=cut0 Zdw 35
def ZkI:MCode:=cut3 Zdw 9 15 ZqZ 25 Zra 26 Zrb
def Zrc:MCode:=cut0 Zdw 36
def Z0w:MFun:=Z3 Zdw 9 ZkI 36 Zrc
def Zg9(a:Zk):Rs:=C 168 [gaO a.c] []
def Zrd:List Fr:=[.blk 0,.seq Zrc,.fin 0 [.cellO 2 (some 4) [none,none,none,some (249,3)]]]
def Zre:=lp C Zrd [1,2,3,4] ZkI
def Zrf(s:Zk)(cd:UP)(Arity RowCount:Int)(cc:UP)(Arity1 RowCount1 i:Int):Rs:=Zre [.ptr 0 0,.ptr 1 0,.ptr 2 0,I i] [gbO s.c,.box [.t (.str cd),I Arity,I RowCount,.t .nil],.box [.t (.str cc),I Arity1,I RowCount1,.t .nil]]
def ZgA:=lp C (.blk 2::.seq Zra::.blk 1::.seq Zrb::.loop [1,2,3,4] ZkI::Zrd) [1,2,3,4,5,6] ZqZ
def Zrg(s:Zk)(cd:UP)(Arity RowCount:Int)(cc:UP)(Arity1 RowCount1:Int)(x x1:V6)(i k:Int):Rs:=ZgA [.ptr 0 0,.ptr 1 0,.ptr 2 0,I i,.ptr 3 0,I k] [gbO s.c,.box [.t (.str cd),I Arity,I RowCount,.t .nil],.box [.t (.str cc),I Arity1,I RowCount1,.t .nil],.box [.own 4,.t .nil,.own 5],ZB x,ZB x1]
def ZgB(s:Zk)(cd:UP)(Arity RowCount:Int)(cc:UP)(Arity1 RowCount1:Int)(x:V6)(x1:V4)(x2:V6)(i k:Int):Rs:=ZgA [.ptr 0 0,.ptr 1 0,.ptr 2 0,I i,.ptr 3 0,I k] [gbO s.c,.box [.t (.str cd),I Arity,I RowCount,.t .nil],.box [.t (.str cc),I Arity1,I RowCount1,.t .nil],.box [.own 4,.own 5,.own 6],ZB x,Xl x1,ZB x2]
def J0(s:Zk)(cd:UP)(Arity RowCount:Int)(cc:UP)(Arity1 RowCount1:Int)(x:List Zy)(i:Int):Rs:=Zre [.ptr 0 0,.ptr 1 0,.ptr 2 0,I i] [gbO s.c,.box [.t (.str cd),I Arity,I RowCount,.t .nil],.box [.t (.str cc),I Arity1,I RowCount1,.own 3],.arr 249 3 true (x.map Zy.c)]
def Zrh(s:Zk)(cd:UP)(Arity RowCount:Int)(cc:UP)(Arity1 RowCount1:Int)(x:List Zy)(x1 x2:V6)(i k:Int):Rs:=ZgA [.ptr 0 0,.ptr 1 0,.ptr 2 0,I i,.ptr 4 0,I k] [gbO s.c,.box [.t (.str cd),I Arity,I RowCount,.t .nil],.box [.t (.str cc),I Arity1,I RowCount1,.own 3],.arr 249 3 true (x.map Zy.c),.box [.own 5,.t .nil,.own 6],ZB x1,ZB x2]
def ZgC(s:Zk)(cd:UP)(Arity RowCount:Int)(cc:UP)(Arity1 RowCount1:Int)(x:List Zy)(x1:V6)(x2:V4)(x3:V6)(i k:Int):Rs:=ZgA [.ptr 0 0,.ptr 1 0,.ptr 2 0,I i,.ptr 4 0,I k] [gbO s.c,.box [.t (.str cd),I Arity,I RowCount,.t .nil],.box [.t (.str cc),I Arity1,I RowCount1,.own 3],.arr 249 3 true (x.map Zy.c),.box [.own 5,.own 6,.own 7],ZB x1,Xl x2,ZB x3]
def Zri:RawF (Zi 103 Tryz.f103):={ m:=_ }
def Zrj:MCode:=cut0 Zri 9
def Zrk:MCode:=cut0 Zri 21
def Z0x:MFun:=Z3 Zri 9 Zrj 21 Zrk
def ZkJ(a:Zu):Rs:=C 103 [gaO a.c] []
def Zrl:=lp C [.blk 0,.seq Zrk,.fin 0 [.cellO 2 (some 2) [none,some (191,4)]]] [1,2,3,4] Zrj
def Zrm(c:Zu)(Version Version1 i:Int):Rs:=Zrl [.ptr 0 0,.ptr 1 0,.ptr 2 0,I i] [gbO c.c,.box [I Version,.t .nil],.box [I Version1,.t .nil]]
def ZgD(c:Zu)(Version Version1:Int)(x:List Zk)(i:Int):Rs:=Zrl [.ptr 0 0,.ptr 1 0,.ptr 2 0,I i] [gbO c.c,.box [I Version,.t .nil],.box [I Version1,.own 3],.arr 191 4 true (x.map Zk.c)]
def Zrn:RawF (Zi 58 Tryz.f58):={ m:=_ }
def Zro:MCode:=cut0 Zrn 9
def Zrp:MCode:=cut0 Zrn 19
def Z0y:MFun:=Z3 Zrn 9 Zro 19 Zrp
def ZgE(a:List Zp):Rs:=C 58 [QW a] []
def ZgF(cc l:List Zp)(i:Int):Rs:=lp C [.blk 0,.seq Zrp,.fin 0 [.tmp 2]] [0,3,4] Zro [QW l,.own 0,I i] [.arr 185 3 true (cc.map Zp.c)]
def Z0z:MFun:=mkF (Zi 48 Tryz.f48)
def J1(a:Zs):Rs:=C 48 [gaO a.c] []
def Z00:MFun:=mkF (Zi 104 Tryz.f104)
def ZbF(a:Z0):Rs:=C 104 [gaO a.c] []
def Z01:MFun:=mkF (Zi 49 Tryz.f49)
def ZgG(a:Za):Rs:=C 49 [gaO a.c] []
def Zrq:RawF (Zi 116 Tryz.f116):={ m:=_ }
def Zrr:MCode:=cut0 Zrq 9
def Zrs:MCode:=cut0 Zrq 19
def Z02:MFun:=Z3 Zrq 9 Zrr 19 Zrs
def ZgH(a:Zj):Rs:=C 116 [gaO a.c] []
def Zrt:=lp C [.blk 0,.seq Zrs,.fin 0 [.cellO 2 (some 2) [none,some (2,0)]]] [1,2,3,4] Zrr
def Zru(q:Zj)(Zm VariableCount1 i:Int):Rs:=Zrt [.ptr 0 0,.ptr 1 0,.ptr 2 0,I i] [gbO q.c,.box [I Zm,.t .nil],.box [I VariableCount1,.t .nil]]
def ZgI(q:Zj)(Zm VariableCount1:Int)(x:List Ze)(i:Int):Rs:=Zrt [.ptr 0 0,.ptr 1 0,.ptr 2 0,I i] [gbO q.c,.box [I Zm,.t .nil],.box [I VariableCount1,.own 3],.arr 251 2 true (x.map Ze.c)]
def Z03:MFun:=mkF (Zi 189 Tryz.f189)
def ZkK(a:Box):Rs:=C 189 [gaO a.c] []
def Z04:MFun:=mkF (Zi 117 Tryz.f117)
def ZkL(a:Region):Rs:=C 117 [gaO a.c] []
def Z05:MFun:=mkF (Zi 59 Tryz.f59)
def Zar(a:Zo):Rs:=C 59 [gaO a.c] []
def Zrv:RawF (Zi 50 Tryz.f50):={ m:=_ }
def Zrw:MCode:=cut0 Zrv 9
def Zrx:MCode:=cut0 Zrv 21
def Z06:MFun:=Z3 Zrv 9 Zrw 21 Zrx
def Zdx(a:ZH):Rs:=C 50 [gaO a.c] []
def Zry:=lp C [.blk 0,.seq Zrx,.fin 0 [.cellO 2 (some 2) [none,some (8,0)]]] [1,2,3,4] Zrw
def Zrz(c:ZH)(Clock Clock1 i:Int):Rs:=Zry [.ptr 0 0,.ptr 1 0,.ptr 2 0,I i] [gbO c.c,.box [I Clock,.t .nil],.box [I Clock1,.t .nil]]
def ZgJ(c:ZH)(Clock Clock1:Int)(fr:Bool)(x:List Zo)(i:Int):Rs:=Zry [.ptr 0 0,.ptr 1 0,.ptr 2 0,I i] [gbO c.c,.box [I Clock,.t .nil],.box [I Clock1,.own 3],.arr 128 8 fr (x.map Zo.c)]
def Z07:MFun:=mkF (Zi 19 Tryz.f19)
def ZgK(a:ZJ):Rs:=C 19 [gaO a.c] []
def Z08:MFun:=mkF (Zi 248 Tryz.f248)
def ZbG(a:UP):Rs:=C 248 [.t (.str a)] []
def Z09:MFun:=mkF (Zi 54 Tryz.f54)
def Xg(a a1 a2:Int):Rs:=C 54 [I a,I a1,I a2] []
def Zr0:RawF (Zi 179 Tryz.f179):={ m:=_ }
def Zr1:MCode:=cut0 Zr0 7
def Zr2:MCode:=cut0 Zr0 23
def Z0A:MFun:=Z3 Zr0 7 Zr1 23 Zr2
def ZbH(a:V6)(a1:Int):Rs:=C 179 [Z2 a,I a1] []
def ZgL(c:V6)(n i:Int):Rs:=lp C [.blk 0,.seq Zr2,.fin 0 [.tmp 4]] [0,1,5] Zr1 [Z2 c,I n,I i] []
def Zr3:RawF (Zi 182 Tryz.f182):={ m:=_ }
def Zr4:MCode:=cut0 Zr3 7
def ZkM:MCode:=cut0 Zr3 31
def Z0B:MFun:=Z3 Zr3 7 Zr4 31 ZkM
def Uj(a a1:V6):Rs:=C 182 [Z2 a,Z2 a1] []
def ZgM(a b:V6)(i:Int):Rs:=lp C [.blk 0,.seq ZkM,.fin 0 [.tmp 4]] [0,1,5] Zr4 [Z2 a,Z2 b,I i] []
def ZgN(a b:V6)(i:Int)(x:Bool):Rs:=Ev C [.fin 0 [.tmp 4]] ZkM ⟨[(0,Z2 a),(1,Z2 b),(5,I i),(15,Bo x)],[[]],[]⟩
def Zr5:RawF (Zi 178 Tryz.f178):={ m:=_ }
def Zr6:MCode:=cut0 Zr5 15
def Zr7:MCode:=cut0 Zr5 31
def Z0C:MFun:=Z3 Zr5 15 Zr6 31 Zr7
def Q6(a:Zc):Rs:=C 178 [gaO a.c] []
def Zdy(t:Zc)(i:Int):Rs:=lp C [.blk 0,.seq Zr7,.fin 0 [.tmp 2]] [1,3] Zr6 [.ptr 0 0,I i] [gbO t.c]
def Zr8:RawF (Zi 114 Tryz.f114):={ m:=_ }
def ZgO:MCode:=cut0 Zr8 7
def ZgP:MCode:=cut0 Zr8 23
def Zr9:MFun:=Z3 Zr8 7 ZgO 23 ZgP
def Q7(a:Zl):Rs:=C 114 [gaO a.c] []
def Zdz(d:Zl)(i:Int):Rs:=lp C [.blk 0,.seq ZgP,.fin 0 [.tmp 2]] [1,3] ZgO [.ptr 0 0,I i] [gbO d.c]
def ZkN:RawF (Zi 252 Tryz.f252):={ m:=_ }
def Z0D:MCode:=cut0 ZkN 22
def ZrA:MCode:=cut1 ZkN 9 13 Z0D
def ZrB:MCode:=cut0 ZkN 23
def Z0E:MFun:=Z3 ZkN 9 ZrA 23 ZrB
def Q8(a:Int):Rs:=C 252 [I a] []
def Zd0(c:V6)(m v:Int):Rs:=lp C [.blk 0,.seq ZrB,.fin 0 [.tmp 2]] [0,3,4] ZrA [I m,.own 0,I v] [ZB c]
def ZrC:RawF (Zi 187 Tryz.f187):={ m:=_ }
def ZrD:MCode:=cut0 ZrC 9
def ZrE:MCode:=cut0 ZrC 19
def Z0F:MFun:=Z3 ZrC 9 ZrD 19 ZrE
def ZgQ(a:Int):Rs:=C 187 [I a] []
def ZbI(c:V4)(n m:Int):Rs:=lp C [.blk 0,.seq ZrE,.fin 0 [.tmp 2]] [0,3,4] ZrD [I n,.own 0,I m] [Xl c]
def ZrF:RawF (Zi 249 Tryz.f249):={ m:=_ }
def ZrG:MCode:=cut0 ZrF 7
def ZrH:MCode:=cut0 ZrF 23
def Z0G:MFun:=Z3 ZrF 7 ZrG 23 ZrH
def ZbJ(a:Zc)(a1:V6):Rs:=C 249 [gaO a.c,Z2 a1] []
def ZgR(t:Zc)(cc:V6)(i:Int):Rs:=lp C [.blk 0,.seq ZrH,.fin 0 [.tmp 4]] [1,2,5] ZrG [Z2 cc,.ptr 0 0,I i] [gbO t.c]
def ZrI:RawF (Zi 251 Tryz.f251):={ m:=_ }
def ZrJ:MCode:=cut0 ZrI 9
def ZrK:MCode:=cut0 ZrI 27
def Z0H:MFun:=Z3 ZrI 9 ZrJ 27 ZrK
def J2(a a1:V6):Rs:=C 251 [Z2 a,Z2 a1] []
def ZgS(cc cd c:V6)(i:Int):Rs:=lp C [.blk 0,.seq ZrK,.fin 0 [.tmp 4,.tmp 5]] [0,1,6,7] ZrJ [Z2 cd,Z2 c,.own 0,I i] [ZB cc]
def Zd1:RawF (Zi 181 Tryz.f181):={ m:=_ }
def Z0I:MCode:=cut0 Zd1 35
def Z0J:MCode:=cut1 Zd1 27 8 Z0I
def ZrL:MCode:=cut1 Zd1 11 16 Z0J
def Z0K:MCode:=cut0 Zd1 43
def ZrM:MCode:=cut1 Zd1 37 6 Z0K
def Z0L:MFun:=Z3 Zd1 11 ZrL 37 ZrM
def Zd2(a:V4)(a1:V6):Rs:=C 181 [WG a,Z2 a1] []
def Zd3(cc c:V4)(cl:V6)(cd:Bool)(i:Int):Rs:=lp C [.blk 0,.seq ZrM,.fin 0 [.tmp 4]] [0,1,5,6,7] ZrL [WG c,Z2 cl,.own 0,Bo cd,I i] [Xl cc]
def J3:RawF (Zi 188 Tryz.f188):={ m:=_ }
def ZrN:MCode:=cut0 J3 19
def Z0M:MCode:=cut0 J3 66
def ZrO:MCode:=cut1 J3 51 15 Z0M
def ZrP:MCode:=cut0 J3 67
def ZrQ:MCode:=cut0 J3 68
def ZkO:MCode:=cut3 J3 36 15 ZrO 31 ZrP 32 ZrQ
def ZrR:MCode:=cut0 J3 69
def ZrS:MCode:=cut2 J3 31 5 ZkO 38 ZrR
def Z0N:MFun:=Z3 J3 19 ZrN 31 ZrS
def ZgT(a:Zc)(a1:V6):Rs:=C 188 [gaO a.c,Z2 a1] []
def Zd4(t:Zc)(cd:V4)(cc cl:V6)(i:Int):Rs:=lp C [.blk 0,.seq ZrS,.fin 0 [.tmp 4,.tmp 5]] [1,2,6,7,8] ZrN [Z2 cl,.ptr 0 0,.own 1,.own 2,I i] [gbO t.c,Xl cd,ZB cc]
def ZkP:List Fr:=[.blk 2,.seq ZrR,.fin 0 [.tmp 4,.tmp 5]]
def ZbK(t:Zc)(cd:V4)(cc cl:V6)(k:Int):Rs:=lp C ZkP [1,2,6,7,11] ZkO [Z2 cl,.ptr 0 0,.own 1,.own 2,I k] [gbO t.c,Xl cd,ZB cc]
def ZgU(t:Zc)(cd:V4)(cc cl:V6)(k n i:Int):Rs:=lp C (.blk 4::.seq ZrP::.blk 3::.seq ZrQ::.loop [1,2,6,7,11] ZkO::ZkP) [1,2,6,7,11,12,13] ZrO [Z2 cl,.ptr 0 0,.own 1,.own 2,I k,I n,I i] [gbO t.c,Xl cd,ZB cc]
def ZrT:RawF (Zi 115 Tryz.f115):={ m:=_ }
def ZrU:MCode:=cut0 ZrT 19
def ZrV:MCode:=cut0 ZrT 31
def Z0O:MFun:=Z3 ZrT 19 ZrU 31 ZrV
def ZgV(a:Zc):Rs:=C 115 [gaO a.c] []
def ZrW:=lp C [.blk 0,.seq ZrV,.fin 0 [.cellO 2 (some 4) [none,none,none,some (3,0)]]] [1,2,3,4,5] ZrU
def ZrX(t:Zc)(cd:UP)(Arity RowCount:Int)(cc:UP)(Arity1 RowCount1:Int)(l:V4)(i:Int):Rs:=ZrW [.ptr 0 0,.ptr 1 0,.ptr 2 0,.own 3,I i] [gbO t.c,.box [.t (.str cd),I Arity,I RowCount,.t .nil],.box [.t (.str cc),I Arity1,I RowCount1,.t .nil],Xl l]
def ZgW(t:Zc)(cd:UP)(Arity RowCount:Int)(cc:UP)(Arity1 RowCount1:Int)(fr:Bool)(x:List Zy)(l:V4)(i:Int):Rs:=ZrW [.ptr 0 0,.ptr 1 0,.ptr 2 0,.own 4,I i] [gbO t.c,.box [.t (.str cd),I Arity,I RowCount,.t .nil],.box [.t (.str cc),I Arity1,I RowCount1,.own 3],.arr 249 3 fr (x.map Zy.c),Xl l]
def ZrY:RawF (Zi 57 Tryz.f57):={ m:=_ }
def ZrZ:MCode:=cut0 ZrY 17
def Zsa:MCode:=cut0 ZrY 29
def Z0P:MFun:=Z3 ZrY 17 ZrZ 29 Zsa
def ZbL(a:Zl)(a1:Int):Rs:=C 57 [gaO a.c,I a1] []
def Zsb:=lp C [.blk 0,.seq Zsa,.fin 0 [.cellO 4 (some 2) [none,some (4,0)],.tmpO 5 [none]]] [2,4,6,7] ZrZ
def Zsc(d:Zl)(Version Version1 i:Int):Rs:=Zsb [.ptr 0 0,.ptr 1 0,.ptr 2 0,I i] [gbO d.c,.box [I Version,.t .nil],.box [I Version1,.t .nil]]
def ZgX(d:Zl)(Version Version1:Int)(fr:Bool)(x:List Zk)(i:Int):Rs:=Zsb [.ptr 0 0,.ptr 1 0,.ptr 2 0,I i] [gbO d.c,.box [I Version,.t .nil],.box [I Version1,.own 3],.arr 191 4 fr (x.map Zk.c)]
def ZgY:RawF (Zi 169 Tryz.f169):={ m:=_ }
def Zsd:MCode:=cut0 ZgY 39
def Zse:MCode:=cut0 ZgY 55
def ZkQ:MCode:=cut2 ZgY 15 24 Zsd 40 Zse
def Zsf:MCode:=cut0 ZgY 56
def Z0Q:MFun:=Z3 ZgY 15 ZkQ 56 Zsf
def ZkR(a a1:Zk):Rs:=C 169 [gaO a.c,gaO a1.c] []
def Zsg:List Fr:=[.blk 0,.seq Zsf,.fin 0 [.tmp 4]]
def Zd5(a b:Zk)(i:Int):Rs:=lp C Zsg [2,3,5] ZkQ [.ptr 0 0,.ptr 1 0,I i] [gbO a.c,gbO b.c]
def ZgZ(a b:Zk)(x y:Zy)(i k:Int):Rs:=lp C (.blk 2::.blk 1::.seq Zse::.loop [2,3,5] ZkQ::Zsg) [2,3,5,6,7,8] Zsd [.ptr 0 0,.ptr 1 0,I i,.ptr 2 0,.ptr 3 0,I k] [gbO a.c,gbO b.c,gbO x.c,gbO y.c]
def Zsh:RawF (Zi 105 Tryz.f105):={ m:=_ }
def Zsi:MCode:=cut0 Zsh 15
def Zsj:MCode:=cut0 Zsh 31
def Z0R:MFun:=Z3 Zsh 15 Zsi 31 Zsj
def Zha(a a1:Zu):Rs:=C 105 [gaO a.c,gaO a1.c] []
def Zhb(a b:Zu)(i:Int):Rs:=lp C [.blk 0,.seq Zsj,.fin 0 [.tmp 4]] [2,3,5] Zsi [.ptr 0 0,.ptr 1 0,I i] [gbO a.c,gbO b.c]
def Zsk:RawF (Zi 108 Tryz.f108):={ m:=_ }
def Zsl:MCode:=cut0 Zsk 7
def Zsm:MCode:=cut0 Zsk 23
def Z0S:MFun:=Z3 Zsk 7 Zsl 23 Zsm
def V7(a:Zl)(a1:UP):Rs:=C 108 [gaO a.c,.t (.str a1)] []
def Zhc(d:Zl)(cc:UP)(Arity:Int)(cd:UP)(i:Int):Rs:=lp C [.blk 0,.seq Zsm,.fin 0 [.cell 4 (some 3),.tmp 5]] [1,2,4,6] Zsl [.t (.str cd),.ptr 0 0,.ptr 1 0,I i] [gbO d.c,.box [.t (.str cc),I Arity,.t .nil]]
def Zsn:RawF (Zi 250 Tryz.f250):={ m:=_ }
def Zso:MCode:=cut0 Zsn 7
def Zsp:MCode:=cut0 Zsn 23
def Z0T:MFun:=Z3 Zsn 7 Zso 23 Zsp
def Zas(a:V6)(a1:Int):Rs:=C 250 [Z2 a,I a1] []
def Zhd(l:V6)(x i:Int):Rs:=lp C [.blk 0,.seq Zsp,.fin 0 [.tmp 4]] [0,1,5] Zso [Z2 l,I x,I i] []
def Z0U:MFun:=mkF (Zi 183 Tryz.f183)
def Zhe(a:Zl)(a1:Zp):Rs:=C 183 [gaO a.c,gaO a1.c] []
def Zhf:RawF (Zi 184 Tryz.f184):={ m:=_ }
def Zsq:MCode:=cut0 Zhf 23
def Zsr:MCode:=cut0 Zhf 41
def ZkS:MCode:=cut2 Zhf 9 14 Zsq 32 Zsr
def Zss:MCode:=cut0 Zhf 42
def Z0V:MFun:=Z3 Zhf 9 ZkS 42 Zss
def ZkT(a:Zl)(a1:Zp):Rs:=C 184 [gaO a.c,gaO a1.c] []
def Zst:List Fr:=[.blk 0,.seq Zss,.fin 0 [.tmp 4]]
def Zsu:=lp C Zst [2,3,5,7] ZkS
def Zd6(d:Zl)(f:Zp)(cc:UP)(Arity:Int)(x:V4)(k:Int):Rs:=Zsu [.ptr 0 0,.ptr 1 0,.ptr 2 0,I k] [gbO d.c,gbO f.c,.box [.t (.str cc),I Arity,.own 3],Xl x]
def Z0W(d:Zl)(f:Zp)(cc:UP)(Arity k:Int):Rs:=Zsu [.ptr 0 0,.ptr 1 0,.ptr 2 0,I k] [gbO d.c,gbO f.c,.box [.t (.str cc),I Arity,.t .nil]]
def Zat(d:Zl)(f:Zp)(cc:UP)(Arity:Int)(x:V4)(y:V6)(k i:Int):Rs:=lp C (.blk 2::.blk 1::.seq Zsr::.loop [2,3,5,7] ZkS::Zst) [2,3,5,7,8,10] Zsq [.ptr 0 0,.ptr 1 0,.ptr 2 0,I k,.own 4,I i] [gbO d.c,gbO f.c,.box [.t (.str cc),I Arity,.own 3],Xl x,ZB y]
def Z0X:MFun:=mkF (Zi 112 Tryz.f112)
def Zhg(a:Zl)(a1:Zp):Rs:=C 112 [gaO a.c,gaO a1.c] []
def Z0Y:MFun:=mkF (Zi 185 Tryz.f185)
def Zd7(a:Zl)(a1:Zr):Rs:=C 185 [gaO a.c,gaO a1.c] []
def Zau:RawF (Zi 186 Tryz.f186):={ m:=_ }
def Zsv:MCode:=cut0 Zau 38
def Zsw:MCode:=cut0 Zau 53
def Zsx:MCode:=cut0 Zau 63
def Zsy:MCode:=cut2 Zau 48 5 Zsw 15 Zsx
def ZkU:MCode:=cut0 Zau 68
def Zhh:MCode:=cut3 Zau 21 17 Zsv 27 Zsy 47 ZkU
def Zsz:MCode:=cut0 Zau 69
def Z0Z:MFun:=Z3 Zau 21 Zhh 69 Zsz
def Zs0(a:Zl)(a1:Zr):Rs:=C 186 [gaO a.c,gaO a1.c] []
def ZkV:List Fr:=[.blk 0,.seq Zsz,.fin 0 [.tmp 4]]
def Zhi:=lp C ZkV [3,5,6,8,10] Zhh
def Kg(x:Zr)(cl:V6)(cd:UP)(Arity:Int)(x1:V4)(cc:UP)(Arity1:Int)(x2:V4)(v:Int):Rs:=Zhi [.ptr 0 0,.own 1,.ptr 2 0,.ptr 4 0,I v] [gbO x.c,ZB cl,.box [.t (.str cd),I Arity,.own 3],Xl x1,.box [.t (.str cc),I Arity1,.own 5],Xl x2]
def Z1a(x:Zr)(cl:V6)(cd:UP)(Arity:Int)(x1:V4)(cc:UP)(Arity1 v:Int):Rs:=Zhi [.ptr 0 0,.own 1,.ptr 2 0,.ptr 4 0,I v] [gbO x.c,ZB cl,.box [.t (.str cd),I Arity,.own 3],Xl x1,.box [.t (.str cc),I Arity1,.t .nil]]
def Z1b(x:Zr)(cl:V6)(cd:UP)(Arity:Int)(cc:UP)(Arity1:Int)(x1:V4)(v:Int):Rs:=Zhi [.ptr 0 0,.own 1,.ptr 2 0,.ptr 3 0,I v] [gbO x.c,ZB cl,.box [.t (.str cd),I Arity,.t .nil],.box [.t (.str cc),I Arity1,.own 4],Xl x1]
def Z1c(x:Zr)(cl:V6)(cd:UP)(Arity:Int)(cc:UP)(Arity1 v:Int):Rs:=Zhi [.ptr 0 0,.own 1,.ptr 2 0,.ptr 3 0,I v] [gbO x.c,ZB cl,.box [.t (.str cd),I Arity,.t .nil],.box [.t (.str cc),I Arity1,.t .nil]]
def Zhj(x:Zr)(cn:V6)(cd:UP)(Arity:Int)(x1:V4)(cc:UP)(Arity1:Int)(x2:V4)(v:Int)(cl co:Bool)(i:Int):Rs:=lp C (.blk 2::.seq Zsy::.blk 1::.seq ZkU::.loop [3,5,6,8,10] Zhh::ZkV) [3,5,6,8,10,11,12,13] Zsv [.ptr 0 0,.own 1,.ptr 2 0,.ptr 4 0,I v,Bo cl,Bo co,I i] [gbO x.c,ZB cn,.box [.t (.str cd),I Arity,.own 3],Xl x1,.box [.t (.str cc),I Arity1,.own 5],Xl x2]
def Zd8(x:Zr)(cn:V6)(cd:UP)(Arity:Int)(x1:V4)(cc:UP)(Arity1:Int)(x2:V4)(v:Int)(cl co:Bool)(i:Int):Rs:=lp C (.blk 4::.seq Zsx::.blk 1::.seq ZkU::.loop [3,5,6,8,10] Zhh::ZkV) [3,5,6,8,10,11,12,14] Zsw [.ptr 0 0,.own 1,.ptr 2 0,.ptr 4 0,I v,Bo cl,Bo co,I i] [gbO x.c,ZB cn,.box [.t (.str cd),I Arity,.own 3],Xl x1,.box [.t (.str cc),I Arity1,.own 5],Xl x2]
def Z1d:MFun:=mkF (Zi 113 Tryz.f113)
def ZkW(a:Zl)(a1:Zr):Rs:=C 113 [gaO a.c,gaO a1.c] []
def Zhk:RawF (Zi 56 Tryz.f56):={ m:=_ }
def Zs1:MCode:=cut0 Zhk 15
def Zs2:MCode:=cut0 Zhk 36
def Zs3:MCode:=cut0 Zhk 52
def Zs4:MCode:=cut2 Zhk 31 5 Zs2 21 Zs3
def Z1e:MFun:=Z3 Zhk 15 Zs1 31 Zs4
def Zd9(a:Zl)(a1:List Zp)(a2:List Zr):Rs:=C 56 [gaO a.c,QW a1,JX a2] []
def Zhl(d:Zl)(cc:List Zp)(cd:List Zr)(i:Int):Rs:=lp C [.blk 0,.seq Zs4,.fin 0 [.tmp 6]] [1,2,3,7] Zs1 [QW cc,JX cd,.ptr 0 0,I i] [gbO d.c]
def Zhm(d:Zl)(cc:List Zr)(i:Int):Rs:=lp C [.blk 2,.seq Zs3,.fin 0 [.tmp 6]] [2,3,8] Zs2 [JX cc,.ptr 0 0,I i] [gbO d.c]
def Z1f:MFun:=mkF (Zi 51 Tryz.f51)
def ZbM(a:Zs):Rs:=C 51 [gaO a.c] []
def Z1g:MFun:=mkF (Zi 170 Tryz.f170)
def Qe(a:Za)(a1:Int):Rs:=C 170 [gaO a.c,I a1] []
def Z1h:MFun:=mkF (Zi 236 Tryz.f236)
def J4(a:Int):Rs:=C 236 [I a] []
def Zs5:RawF (Zi 171 Tryz.f171):={ m:=_ }
def Zs6:MCode:=cut0 Zs5 15
def Zs7:MCode:=cut0 Zs5 31
def Z1i:MFun:=Z3 Zs5 15 Zs6 31 Zs7
def Zav(a:Z0):Rs:=C 171 [gaO a.c] []
def ZbN(o:Z0)(i:Int):Rs:=lp C [.blk 0,.seq Zs7,.fin 0 [.tmp 2]] [1,3] Zs6 [.ptr 0 0,I i] [gbO o.c]
def Zs8:RawF (Zi 293 Tryz.f293):={ m:=_ }
def Zs9:MCode:=cut0 Zs8 17
def ZsA:MCode:=cut0 Zs8 27
def Z1j:MFun:=Z3 Zs8 17 Zs9 27 ZsA
def J5(a:Int):Rs:=C 293 [I a] []
def ZdA(k n i:Int):Rs:=lp C [.blk 0,.seq ZsA,.fin 0 [.tmp 2]] [0,3,4] Zs9 [I k,I n,I i] []
def ZkX:RawF (Zi 292 Tryz.f292):={ m:=_ }
def Z1k:MCode:=cut0 ZkX 30
def ZsB:MCode:=cut1 ZkX 17 13 Z1k
def ZsC:MCode:=cut0 ZkX 31
def Z1l:MFun:=Z3 ZkX 17 ZsB 31 ZsC
def V8(a:Z0)(a1 a2 a3:Int):Rs:=C 292 [gaO a.c,I a1,I a2,I a3] []
def ZbO(o:Z0)(l r_1 n i:Int):Rs:=lp C [.blk 0,.seq ZsC,.fin 0 [.tmp 8]] [1,2,4,9,10] ZsB [I l,I r_1,.ptr 0 0,I n,I i] [gbO o.c]
def Z1m:MFun:=mkF (Zi 237 Tryz.f237)
def ZdB(a:Z0)(a1:V6):Rs:=C 237 [gaO a.c,Z2 a1] []
def J6:RawF (Zi 172 Tryz.f172):={ m:=_ }
def ZsD:MCode:=cut0 J6 53
def ZsE:MCode:=cut0 J6 73
def ZkY:MCode:=cut2 J6 39 14 ZsD 34 ZsE
def ZsF:MCode:=cut0 J6 74
def ZkZ:MCode:=cut2 J6 27 12 ZkY 47 ZsF
def ZsG:MCode:=cut0 J6 75
def Zla:MCode:=cut2 J6 15 12 ZkZ 60 ZsG
def ZsH:MCode:=cut0 J6 76
def Z1n:MFun:=Z3 J6 15 Zla 76 ZsH
def Zlb(a:Z0):Rs:=C 172 [gaO a.c] []
def ZsI:List Fr:=[.blk 0,.seq ZsH,.fin 0 [.tmp 2,.tmp 3,.tmp 4]]
def ZdC(o:Z0)(a:Int):Rs:=lp C ZsI [1,5] Zla [.ptr 0 0,I a] [gbO o.c]
def ZsJ:List Fr:=.blk 2::.blk 1::.seq ZsG::.loop [1,5] Zla::ZsI
def ZdD(o:Z0)(a b:Int):Rs:=lp C ZsJ [1,5,6] ZkZ [.ptr 0 0,I a,I b] [gbO o.c]
def ZsK:List Fr:=.blk 4::.blk 3::.seq ZsF::.loop [1,5,6] ZkZ::ZsJ
def ZdE(o:Z0)(a b e:Int):Rs:=lp C ZsK [1,5,6,7] ZkY [.ptr 0 0,I a,I b,I e] [gbO o.c]
def Zaw(o:Z0)(x:V6)(a b e k:Int):Rs:=lp C (.blk 6::.blk 5::.seq ZsE::.loop [1,5,6,7] ZkY::ZsK) [1,5,6,7,8,9] ZsD [.ptr 0 0,I a,I b,I e,.own 1,I k] [gbO o.c,ZB x]
def ZbP:RawF (Zi 173 Tryz.f173):={ m:=_ }
def ZsL:MCode:=cut0 ZbP 31
def ZsM:MCode:=cut0 ZbP 47
def Zlc:MCode:=cut2 ZbP 19 12 ZsL 28 ZsM
def ZsN:MCode:=cut0 ZbP 48
def Zld:MCode:=cut2 ZbP 7 12 Zlc 41 ZsN
def ZsO:MCode:=cut0 ZbP 49
def Z1o:MFun:=Z3 ZbP 7 Zld 49 ZsO
def Zle(a:Z0):Rs:=C 173 [gaO a.c] []
def ZsP:List Fr:=[.blk 0,.seq ZsO,.fin 0 [.tmp 2]]
def ZdF(o:Z0)(a:Int):Rs:=lp C ZsP [1,3] Zld [.ptr 0 0,I a] [gbO o.c]
def ZsQ:List Fr:=.blk 2::.blk 1::.seq ZsN::.loop [1,3] Zld::ZsP
def ZdG(o:Z0)(a b:Int):Rs:=lp C ZsQ [1,3,4] Zlc [.ptr 0 0,I a,I b] [gbO o.c]
def Zhn(o:Z0)(a b e:Int):Rs:=lp C (.blk 4::.blk 3::.seq ZsM::.loop [1,3,4] Zlc::ZsQ) [1,3,4,5] ZsL [.ptr 0 0,I a,I b,I e] [gbO o.c]
def ZsR:RawF (Zi 106 Tryz.f106):={ m:=_ }
def ZsS:MCode:=cut0 ZsR 7
def ZsT:MCode:=cut0 ZsR 45
def Z1p:MFun:=Z3 ZsR 7 ZsS 45 ZsT
def ZsU(a:Za):Rs:=C 106 [gaO a.c] []
def ZdH(m:Za)(k:Int):Rs:=lp C [.blk 0,.seq ZsT,.fin 0 [.tmp 2,.tmp 3,.tmp 4]] [1,5] ZsS [.ptr 0 0,I k] [gbO m.c]
def Z1q:MFun:=mkF (Zi 52 Tryz.f52)
def ZdI(a:Za):Rs:=C 52 [gaO a.c] []
def Zho:RawF (Zi 240 Tryz.f240):={ m:=_ }
def ZsV:MCode:=cut0 Zho 39
def ZsW:MCode:=cut0 Zho 57
def Zlf:MCode:=cut2 Zho 17 22 ZsV 40 ZsW
def ZsX:MCode:=cut0 Zho 58
def Z1r:MFun:=Z3 Zho 17 Zlf 58 ZsX
def KK(a:Zj):Rs:=C 240 [gaO a.c] []
def ZsY:List Fr:=[.blk 0,.seq ZsX,.fin 0 [.tmp 2]]
def ZdJ(q:Zj)(seen i:Int):Rs:=lp C ZsY [1,3,4] Zlf [.ptr 0 0,I seen,I i] [gbO q.c]
def Zhp(q:Zj)(a:Ze)(seen i k:Int):Rs:=lp C (.blk 2::.blk 1::.seq ZsW::.loop [1,3,4] Zlf::ZsY) [1,3,4,5,6] ZsV [.ptr 0 0,I seen,I i,.ptr 1 0,I k] [gbO q.c,gbO a.c]
end
