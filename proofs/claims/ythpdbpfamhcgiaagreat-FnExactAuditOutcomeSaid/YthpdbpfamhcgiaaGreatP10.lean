/-
  Parts of the proofs for this seat: D2.
-/
import Derived.Test.YthpdbpfamhcgiaaGreatP8
set_option linter.all false
set_option maxRecDepth 100000
set_option maxHeartbeats 4000000
set_option cbv.maxSteps 9999999
namespace Go.Proofs.YthpdbpfamhcgiaaGreat
open Go.AM
noncomputable section
def U3:RawF (Zi 440 Tryz.f440):={ m:=_ }
def Zul:Zc:=cut0 U3 11
def Zum:Zc:=cut0 U3 30
def Zun:Zc:=cut0 U3 40
def Zuo:Zc:=cut2 U3 25 5 Zum 15 Zun
def Zup:Zc:=cut0 U3 53
def Zuq:Zc:=cut0 U3 72
def Zur:Zc:=cut0 U3 82
def Zus:Zc:=cut2 U3 67 5 Zuq 15 Zur
def Zut:Zc:=cut0 U3 105
def Zji:Zc:=cut0 U3 133
def Zn9:Zc:=cut1 U3 127 6 Zji
def Zuu:Zc:=cut1 U3 119 8 Zn9
def Z5w:Zc:=cut2 U3 100 5 Zut 19 Zuu
def ZnA:Zc:=cut1 U3 84 16 Z5w
def ZnB:Zc:=cut3 U3 42 11 Zup 25 Zus 42 ZnA
def Z5x:MFun:=cutF3 U3 11 Zul 25 Zuo 42 ZnB
def U4(fr:Bool)(x:V4)(x1 a a1 a2:Int):Rs:=C 440 [.own 0,I a,I a1,I a2,.fn 353 [.ptr 1 0]] [.arr 40 1 fr (x.map isc),.box [I x1]]
def Zb2(fr:Bool)(c:V4)(x a i j:Int):Rs:=EvL C [.blk 0,.seq Zuo,.seq ZnB,.fin 2 []] [0,1,4,10,11] Zul ⟨[(0,.own 0),(1,I a),(4,.fn 353 [.ptr 1 0]),(10,I i),(11,I j)],[[(0,.own 0),(1,.ptr 1 0)]],[.arr 40 1 fr (c.map isc),.box [I x]]⟩
def Zb3(fr:Bool)(c:V4)(x m i j:Int):Rs:=EvL C [.blk 4,.seq Zus,.seq ZnA,.fin 2 []] [0,2,4,14,15] Zup ⟨[(0,.own 0),(2,I m),(4,.fn 353 [.ptr 1 0]),(14,I i),(15,I j)],[[(0,.own 0),(1,.ptr 1 0)]],[.arr 40 1 fr (c.map isc),.box [I x]]⟩
def Zat(fr:Bool)(cc:V4)(x a m b cd n c cl p:Int):Rs:=EvL C [.blk 8,.seq Zuu,.fin 2 []] [0,1,2,3,4,18,19,20,21,22] Zut ⟨[(0,.own 0),(1,I a),(2,I m),(3,I b),(4,.fn 353 [.ptr 1 0]),(18,I cd),(19,I n),(20,I c),(21,I cl),(22,I p)],[[(0,.own 0),(1,.ptr 1 0)]],[.arr 40 1 fr (cc.map isc),.box [I x]]⟩
def Zda(fr:Bool)(c:V4)(x i k:Int):Rs:=EvL C [.blk 2,.seq Zun,.seq ZnB,.fin 2 []] [0,10,13] Zum ⟨[(0,.own 0),(10,I i),(13,I k)],[[(0,.own 0),(1,.ptr 1 0)]],[.arr 40 1 fr (c.map isc),.box [I x]]⟩
def Zdb(fr:Bool)(c:V4)(x i k:Int):Rs:=EvL C [.blk 6,.seq Zur,.seq ZnA,.fin 2 []] [0,14,17] Zuq ⟨[(0,.own 0),(14,I i),(17,I k)],[[(0,.own 0),(1,.ptr 1 0)]],[.arr 40 1 fr (c.map isc),.box [I x]]⟩
def Zau(fr:Bool)(c:V4)(x b cc x1:Int):Rs:=Ev C [.fin 2 []] Zji ⟨[(0,.own 0),(3,I b),(4,.fn 353 [.ptr 1 0]),(18,I cc),(24,I x1)],[[(0,.own 0),(1,.ptr 1 0)]],[.arr 40 1 fr (c.map isc),.box [I x]]⟩
def KP(fr:Bool)(cc:V4)(x a b cd c x1:Int)(x2:Bool):Rs:=Ev C [.fin 2 []] Zji ⟨[(0,.own 0),(1,I a),(3,I b),(4,.fn 353 [.ptr 1 0]),(18,I cd),(20,I c),(24,I x1),(199,Bo x2)],[[(0,.own 0),(1,.ptr 1 0)]],[.arr 40 1 fr (cc.map isc),.box [I x]]⟩
def Zfv(fr:Bool)(cc:V4)(x a m b cd c x1:Int)(x2:Bool):Rs:=Ev C [.fin 2 []] Zn9 ⟨[(0,.own 0),(1,I a),(2,I m),(3,I b),(4,.fn 353 [.ptr 1 0]),(18,I cd),(20,I c),(24,I x1),(185,Bo x2)],[[(0,.own 0),(1,.ptr 1 0)]],[.arr 40 1 fr (cc.map isc),.box [I x]]⟩
def Zdc:RawF (Zi 406 Tryz.f406):={ m:=_ }
def Zuv:Zc:=cut0 Zdc 7
def Zuw:Zc:=cut0 Zdc 35
def Z5y:Zc:=cut0 Zdc 55
def Zux:Zc:=cut1 Zdc 47 8 Z5y
def ZnC:Zc:=cut2 Zdc 23 12 Zuw 24 Zux
def Zuy:Zc:=cut1 Zdc 19 4 ZnC
def Z5z:MFun:=Z0 Zdc 7 Zuv 19 Zuy
def ZnD(x:V4)(x1 a:Int):Rs:=C 406 [.own 0,I a,.fn 353 [.ptr 1 0]] [ZI x,.box [I x1]]
def Zdd(fr:Bool)(cc:V4)(x n c a b:Int):Rs:=EvL C [.blk 0,.seq Zuy,.fin 2 []] [0,1,2,6,7,8] Zuv ⟨[(0,.own 0),(1,I n),(2,.fn 353 [.ptr 1 0]),(6,I c),(7,I a),(8,I b)],[[(0,.own 0),(1,.ptr 1 0)]],[.arr 40 1 fr (cc.map isc),.box [I x]]⟩
def Zav(fr:Bool)(cc:V4)(x n c:Int):Rs:=EvL C [.blk 2,.fin 2 []] [0,1,2,6] ZnC ⟨[(0,.own 0),(1,I n),(2,.fn 353 [.ptr 1 0]),(6,I c)],[[(0,.own 0),(1,.ptr 1 0)]],[.arr 40 1 fr (cc.map isc),.box [I x]]⟩
def Zde(fr:Bool)(cc:V4)(x n c a b:Int):Rs:=EvL C [.blk 4,.seq Zux,.blk 3,.loop [0,1,2,6] ZnC,.blk 2,.fin 2 []] [0,1,2,6,7,8] Zuw ⟨[(0,.own 0),(1,I n),(2,.fn 353 [.ptr 1 0]),(6,I c),(7,I a),(8,I b)],[[(0,.own 0),(1,.ptr 1 0)]],[.arr 40 1 fr (cc.map isc),.box [I x]]⟩
def Z50:MFun:=mkF (Zi 352 Tryz.f352)
def ZnE(x:V4)(x1:Int):Rs:=C 352 [.own 0,.fn 353 [.ptr 1 0]] [ZI x,.box [I x1]]
def Z51:MFun:=mkF (Zi 286 Tryz.f286)
def Zfw(a:Zm)(a1:Int):Rs:=C 286 [gaO a.c,I a1] []
def Z52:MFun:=mkF (Zi 354 Tryz.f354)
def Zfx(a a1:Zm):Rs:=C 354 [gaO a.c,gaO a1.c] []
def ZnF:RawF (Zi 355 Tryz.f355):={ m:=_ }
def Zuz:Zc:=cut0 ZnF 29
def Zjj:Zc:=cut1 ZnF 7 22 Zuz
def Zjk:Zc:=cut0 ZnF 30
def Zu0:MFun:=Z0 ZnF 7 Zjj 30 Zjk
def Zb4(a b:Zm)(x a1 a2:V6):Rs:=C 355 [.ptr 0 0,Zw a1,Zw a2] [.box [L 1 (a.Za.map ic),L 1 (a.Rows.map isc),L 1 (b.Za.map ic),L 1 (b.Rows.map isc),.own 1,.t .nil],Zy x]
def Zdf(a b:Zm)(x c x1 y:V6)(x2 x3:Int):Rs:=EvL C [.blk 0,.seq Zjk,.fin 2 []] [0,1,2,6,16,17,18] Zjj ⟨[(0,.ptr 0 0),(1,Zw x1),(2,Zw y),(6,.own 2),(16,.own 1),(17,I x2),(18,I x3)],[[(0,.ptr 0 0),(1,.own 1)]],[.box [L 1 (a.Za.map ic),L 1 (a.Rows.map isc),L 1 (b.Za.map ic),L 1 (b.Rows.map isc),.own 1,.t .nil],Zy x,Zy c]⟩
def Zu1:MFun:=mkF (Zi 356 Tryz.f356)
def Zjl(a b:Zm)(x:V6):Rs:=C 356 [.ptr 0 0] [.box [L 1 (a.Za.map ic),L 1 (a.Rows.map isc),L 1 (b.Za.map ic),L 1 (b.Rows.map isc),.own 1,.t .nil],Zy x]
def Zdg(a b:Zm)(x:V6)(x1:V4)(a1 a2:V6):Rs:=C 355 [.ptr 0 0,Zw a1,Zw a2] [.box [L 1 (a.Za.map ic),L 1 (a.Rows.map isc),L 1 (b.Za.map ic),L 1 (b.Rows.map isc),.own 1,.own 2],Zy x,ZI x1]
def Zdh(a b:Zm)(x:V6)(x1:V4)(c x2 y:V6)(x3 x4:Int):Rs:=EvL C [.blk 0,.seq Zjk,.fin 3 []] [0,1,2,6,16,17,18] Zjj ⟨[(0,.ptr 0 0),(1,Zw x2),(2,Zw y),(6,.own 3),(16,.own 1),(17,I x3),(18,I x4)],[[(0,.ptr 0 0),(1,.own 1),(2,.own 2)]],[.box [L 1 (a.Za.map ic),L 1 (a.Rows.map isc),L 1 (b.Za.map ic),L 1 (b.Rows.map isc),.own 1,.own 2],Zy x,ZI x1,Zy c]⟩
def JA(a b:Zm)(x:V6)(x1:V4):Rs:=C 356 [.ptr 0 0] [.box [L 1 (a.Za.map ic),L 1 (a.Rows.map isc),L 1 (b.Za.map ic),L 1 (b.Rows.map isc),.own 1,.own 2],Zy x,ZI x1]
def Zfy:RawF (Zi 287 Tryz.f287):={ m:=_ }
def Zu2:Zc:=cut0 Zfy 32
def Zu3:Zc:=cut0 Zfy 44
def Zu4:Zc:=cut0 Zfy 49
def ZnG:Zc:=cut3 Zfy 17 15 Zu2 27 Zu3 32 Zu4
def Zu5:Zc:=cut0 Zfy 50
def Z53:MFun:=Z0 Zfy 17 ZnG 50 Zu5
def Zdi(a a1:Zm):Rs:=C 287 [gaO a.c,gaO a1.c] []
def Zu6:List Fr:=[.blk 0,.seq Zu5,.fin 0 [.cell 4 (some 2),.tmp 5]]
def Zu7:=lp C Zu6 [2,4,6,24,25,26] ZnG
def Zjm(a a1 b:Zm)(x:V6)(x1:V4)(x2 x3:Int):Rs:=Zu7 [.ptr 0 0,.ptr 1 0,.ptr 2 0,XT x1,I x2,I x3] [gbO a.c,.box [.t .nil,.t .nil],.box [L 1 (a1.Za.map ic),L 1 (a1.Rows.map isc),L 1 (b.Za.map ic),L 1 (b.Rows.map isc),.own 3,.t .nil],Zy x]
def Zu8:=lp C (.blk 2::.seq Zu3::.blk 1::.seq Zu4::.loop [2,4,6,24,25,26] ZnG::Zu6) [2,4,6,8,24,25,26,31,32,33] Zu2
def Zjn(a a1 b:Zm)(x y:V6)(x1:V4)(x2 x3:Int)(x4:V4)(x5 x6:Int):Rs:=Zu8 [.ptr 0 0,.ptr 1 0,.ptr 2 0,Zw y,XT x1,I x2,I x3,XT x4,I x5,I x6] [gbO a.c,.box [.t .nil,.t .nil],.box [L 1 (a1.Za.map ic),L 1 (a1.Rows.map isc),L 1 (b.Za.map ic),L 1 (b.Rows.map isc),.own 3,.t .nil],Zy x]
def Zdj(a a1 b:Zm)(x:V6)(x1:V4)(y:V6)(x2:V4)(x3 x4:Int)(x5:V4)(x6 x7:Int):Rs:=Zu8 [.ptr 0 0,.ptr 1 0,.ptr 2 0,Zw y,XT x2,I x3,I x4,XT x5,I x6,I x7] [gbO a.c,.box [.t .nil,.t .nil],.box [L 1 (a1.Za.map ic),L 1 (a1.Rows.map isc),L 1 (b.Za.map ic),L 1 (b.Rows.map isc),.own 3,.own 4],Zy x,ZI x1]
def Zjo(a a1 b:Zm)(x:V6)(x1 x2:V4)(x3 x4:Int):Rs:=Zu7 [.ptr 0 0,.ptr 1 0,.ptr 2 0,XT x2,I x3,I x4] [gbO a.c,.box [.t .nil,.t .nil],.box [L 1 (a1.Za.map ic),L 1 (a1.Rows.map isc),L 1 (b.Za.map ic),L 1 (b.Rows.map isc),.own 3,.own 4],Zy x,ZI x1]
def Z54:MFun:=mkF (Zi 409 Tryz.f409)
def Zu9(a a1:V6)(a2:Int):Rs:=C 409 [Zw a,Zw a1,.iptr [.int .i64 a2] 0] []
def ZuA:RawF (Zi 408 Tryz.f408):={ m:=_ }
def ZuB:Zc:=cut0 ZuA 7
def ZuC:Zc:=cut0 ZuA 23
def Z55:MFun:=Z0 ZuA 7 ZuB 23 ZuC
def ZuD(a:V4)(a1:Int):Rs:=C 408 [XT a,.fn 409 [.iptr [.int .i64 a1] 0]] []
def Zjp(x:V4)(c i:Int):Rs:=lp C [.blk 0,.seq ZuC,.fin 0 [.tmp 4]] [0,1,5] ZuB [XT x,.fn 409 [.iptr [.int .i64 c] 0],I i] []
def Z56:MFun:=mkF (Zi 357 Tryz.f357)
def Zjq(a:Zm)(a1:Int):Rs:=C 357 [gaO a.c,I a1] []
def Zfz:RawF (Zi 289 Tryz.f289):={ m:=_ }
def ZuE:Zc:=cut0 Zfz 32
def ZuF:Zc:=cut0 Zfz 44
def ZuG:Zc:=cut0 Zfz 49
def ZnH:Zc:=cut3 Zfz 17 15 ZuE 27 ZuF 32 ZuG
def ZuH:Zc:=cut0 Zfz 50
def Z57:MFun:=Z0 Zfz 17 ZnH 50 ZuH
def JB(a a1:Zm):Rs:=C 289 [gaO a.c,gaO a1.c] []
def ZuI:List Fr:=[.blk 0,.seq ZuH,.fin 0 [.cell 4 (some 2),.tmp 5]]
def ZuJ:=lp C ZuI [3,4,6,24,25,26] ZnH
def Zjr(b a b1:Zm)(x:V6)(x1:V4)(x2 x3:Int):Rs:=ZuJ [.ptr 0 0,.ptr 1 0,.ptr 2 0,XT x1,I x2,I x3] [gbO b.c,.box [.t .nil,.t .nil],.box [L 1 (a.Za.map ic),L 1 (a.Rows.map isc),L 1 (b1.Za.map ic),L 1 (b1.Rows.map isc),.own 3,.t .nil],Zy x]
def ZuK:=lp C (.blk 2::.seq ZuF::.blk 1::.seq ZuG::.loop [3,4,6,24,25,26] ZnH::ZuI) [3,4,6,8,24,25,26,31,32,33] ZuE
def Zjs(b a b1:Zm)(x x1:V6)(x2:V4)(x3 x4:Int)(x5:V4)(x6 x7:Int):Rs:=ZuK [.ptr 0 0,.ptr 1 0,.ptr 2 0,Zw x1,XT x2,I x3,I x4,XT x5,I x6,I x7] [gbO b.c,.box [.t .nil,.t .nil],.box [L 1 (a.Za.map ic),L 1 (a.Rows.map isc),L 1 (b1.Za.map ic),L 1 (b1.Rows.map isc),.own 3,.t .nil],Zy x]
def Zdk(b a b1:Zm)(x:V6)(x1:V4)(x2:V6)(x3:V4)(x4 x5:Int)(x6:V4)(x7 x8:Int):Rs:=ZuK [.ptr 0 0,.ptr 1 0,.ptr 2 0,Zw x2,XT x3,I x4,I x5,XT x6,I x7,I x8] [gbO b.c,.box [.t .nil,.t .nil],.box [L 1 (a.Za.map ic),L 1 (a.Rows.map isc),L 1 (b1.Za.map ic),L 1 (b1.Rows.map isc),.own 3,.own 4],Zy x,ZI x1]
def Zjt(b a b1:Zm)(x:V6)(x1 x2:V4)(x3 x4:Int):Rs:=ZuJ [.ptr 0 0,.ptr 1 0,.ptr 2 0,XT x2,I x3,I x4] [gbO b.c,.box [.t .nil,.t .nil],.box [L 1 (a.Za.map ic),L 1 (a.Rows.map isc),L 1 (b1.Za.map ic),L 1 (b1.Rows.map isc),.own 3,.own 4],Zy x,ZI x1]
def Z58:MFun:=mkF (Zi 288 Tryz.f288)
def Zju(a a1:Zm)(a2:Int):Rs:=C 288 [gaO a.c,gaO a1.c,I a2] []
def ZnI:RawF (Zi 195 Tryz.f195):={ m:=_ }
def Z59:Zc:=cut0 ZnI 52
def ZuL:Zc:=cut1 ZnI 19 33 Z59
def ZuM:Zc:=cut0 ZnI 62
def Z5A:MFun:=Z0 ZnI 19 ZuL 62 ZuM
def Zdl(a:Zp)(a1:Zf)(a2:Zg):Rs:=C 195 [gaO a.c,gaO a1.c,gaO a2.c] []
def Zdm(db:Zp)(q:Zf)(cc:List Zo)(fr:Bool)(cd:List Zm)(x:List Zj)(x1 x2:Int):Rs:=lp C [.blk 0,.seq ZuM,.fin 0 [.tmp 6,.tmp 7,.tmp 8]] [3,4,9,11,32,33,34] ZuL [.ptr 0 0,.ptr 1 0,.own 2,.own 3,L 3 (x.map Zj.c),I x1,I x2] [gbO db.c,gbO q.c,Kf cc,.arr 251 2 fr (cd.map Zm.c)]
def Z5B:RawF (Zi 206 Tryz.f206):={ m:=_ }
def ZuN:Zc:=cut0 Z5B 14
def Z5C:MFun:=Kd Z5B 14 ZuN
def JC(a:Int):Rs:=C 206 [I a] []
def Zjv(n c:Int):Rs:=lp C [.blk 0,.fin 0 [.tmp 2]] [0,3] ZuN [I n,I c] []
def Z5D:MFun:=mkF (Zi 297 Tryz.f297)
def Zdn(a:Int):Rs:=C 297 [I a] []
def ZuO:RawF (Zi 201 Tryz.f201):={ m:=_ }
def Z5E:Zc:=cut0 ZuO 18
def Z5F:Zc:=cut1 ZuO 12 6 Z5E
def Z5G:MFun:=Kd ZuO 12 Z5F
def Zaw(a:List Zo)(a1:List Zm)(a2:Int):Rs:=C 201 [L 4 (a.map Zo.c),L 2 (a1.map Zm.c),I a2] []
def Z5H:MFun:=mkF (Zi 298 Tryz.f298)
def Wb(a:Z8)(a1 a2 a3:Int):Rs:=C 298 [gaO a.c,I a1,I a2,I a3] []
def Zf0:MFun:=mkF (Zi 202 Tryz.f202)
def Zdo(a:Zn)(a1:Zg)(a2:List Zo)(a3:List Zm)(a4:Int):Rs:=C 202 [gaO a.c,gaO a1.c,L 4 (a2.map Zo.c),L 2 (a3.map Zm.c),I a4] []
def ZuP:RawF (Zi 204 Tryz.f204):={ m:=_ }
def ZuQ:Zc:=cut0 ZuP 7
def ZuR:Zc:=cut0 ZuP 15
def Z5I:MFun:=Z0 ZuP 7 ZuQ 15 ZuR
def WN(a:Z8)(a1 a2 a3:Int):Rs:=C 204 [gaO a.c,I a1,I a2,I a3] []
def Zjw(o:Z8)(cl cd cc k:Int):Rs:=lp C [.blk 0,.seq ZuR,.fin 0 [.tmp 8]] [1,2,3,4,9] ZuQ [I cl,I cd,I cc,.ptr 0 0,I k] [gbO o.c]
def Z5J:MFun:=mkF (Zi 208 Tryz.f208)
def KQ(a:Zm):Rs:=C 208 [gaO a.c] []
def Zjx:RawF (Zi 167 Tryz.f167):={ m:=_ }
def QJ:Zc:=cut0 Zjx 47
def Zjy:Zc:=cut0 Zjx 62
def ZnJ:Zc:=cut2 Zjx 19 28 QJ 43 Zjy
def Zf1:Zc:=cut0 Zjx 63
def Z5K:MFun:=Z0 Zjx 19 ZnJ 63 Zf1
def ZnK(a:Zn)(a1:Zp)(a2:Zf)(a3:Zg)(a4:Int):Rs:=C 167 [gaO a.c,gaO a1.c,gaO a2.c,gaO a3.c,I a4] []
def Zax:=lp C [.blk 0,.seq Zf1,.fin 0 [.cellO 10 (some 6) [none,none,none,some (3,0),some (1,0),some (1,0)],.tmpO 11 [none]]] [4,5,8,10,12,13,15,47,48,49] ZnJ
def Zdp(m:Zn)(p:Zg)(cu:Bool)(cp co:Int)(cv:List Zo)(fr:Bool)(l:List Zm)(cn:Bool)(cl cc cd:Int)(x:List Zj)(x1 x2:Int):Rs:=Zax [I cd,.ptr 0 0,.ptr 1 0,.ptr 2 0,.own 3,.own 4,.ptr 5 0,L 3 (x.map Zj.c),I x1,I x2] [gbO m.c,gbO p.c,.box [Bo cu,I cp,I co,.t .nil,.t .nil,.t .nil],Kf cv,.arr 251 2 fr (l.map Zm.c),.box [Bo cn,I cl,I cc,.t .nil,.t .nil,.t .nil]]
def Zay(m:Zn)(p:Zg)(cu:Bool)(cp co:Int)(cv:List Zo)(fr:Bool)(l:List Zm)(cn:Bool)(cl cc:Int)(x:List ZB)(cd:Int)(x1:List Zj)(x2 x3:Int):Rs:=Zax [I cd,.ptr 0 0,.ptr 1 0,.ptr 2 0,.own 3,.own 4,.ptr 5 0,L 3 (x1.map Zj.c),I x2,I x3] [gbO m.c,gbO p.c,.box [Bo cu,I cp,I co,.t .nil,.t .nil,.t .nil],Kf cv,.arr 251 2 fr (l.map Zm.c),.box [Bo cn,I cl,I cc,.own 6,.t .nil,.t .nil],.arr 261 3 true (x.map ZB.c)]
def ZuS:RawF (Zi 79 Tryz.f79):={ m:=_ }
def ZuT:Zc:=cut0 ZuS 7
def ZuU:Zc:=cut0 ZuS 35
def Z5L:MFun:=Z0 ZuS 7 ZuT 35 ZuU
def Zf2(a:Zn)(a1:Zp)(a2:Zf)(a3:ZM)(a4:List ZR):Rs:=C 79 [gaO a.c,gaO a1.c,gaO a2.c,gaO a3.c,UQ a4] []
def Zf3(m:Zn)(db:Zp)(q:Zf)(b:ZM)(x:List ZR)(x1 x2:Int):Rs:=lp C [.blk 0,.seq ZuU,.fin 0 [.tmp 10]] [5,6,7,8,15,16,17] ZuT [.ptr 0 0,.ptr 1 0,.ptr 2 0,.ptr 3 0,UQ x,I x1,I x2] [gbO m.c,gbO db.c,gbO q.c,gbO b.c]
def Z5M:MFun:=mkF (Zi 169 Tryz.f169)
def Zjz(a:Zn)(a1:Zp)(a2:Zf):Rs:=C 169 [gaO a.c,gaO a1.c,gaO a2.c] []
def ZnL:RawF (Zi 337 Tryz.f337):={ m:=_ }
def Z5N:Zc:=cut0 ZnL 22
def ZuV:Zc:=cut1 ZnL 9 13 Z5N
def ZuW:Zc:=cut0 ZnL 23
def Z5O:MFun:=Z0 ZnL 9 ZuV 23 ZuW
def Zdq(a:Zf):Rs:=C 337 [gaO a.c] []
def Zf4(q:Zf)(cd:V6)(cc:Int):Rs:=lp C [.blk 0,.seq ZuW,.fin 0 [.tmp 2]] [1,3,4] ZuV [.ptr 0 0,.own 1,I cc] [gbO q.c,Zy cd]
def ZuX:RawF (Zi 263 Tryz.f263):={ m:=_ }
def ZuY:Zc:=cut0 ZuX 17
def ZuZ:Zc:=cut0 ZuX 29
def Zva:MFun:=Z0 ZuX 17 ZuY 29 ZuZ
def Zf5(a:Zp)(a1:Zf):Rs:=C 263 [gaO a.c,gaO a1.c] []
def Zf6(db:Zp)(q:Zf)(cc x:V6)(x1 x2:Int):Rs:=lp C [.blk 0,.seq ZuZ,.fin 0 [.tmp 4]] [2,3,5,17,18,19] ZuY [.ptr 0 0,.ptr 1 0,.own 2,.own 3,I x1,I x2] [gbO db.c,gbO q.c,Zy cc,Zy x]
def Zvb:RawF (Zi 262 Tryz.f262):={ m:=_ }
def Zvc:Zc:=cut0 Zvb 9
def Zvd:Zc:=cut0 Zvb 21
def Z5P:MFun:=Z0 Zvb 9 Zvc 21 Zvd
def Z5Q:Rs:=C 262 [.t .nil] []
def Zve(a:V6):Rs:=C 262 [Zw a] []
def Zj0(c x:V6)(x1 x2:Int):Rs:=lp C [.blk 0,.seq Zvd,.fin 0 [.tmp 2]] [3,7,8,9] Zvc [.own 0,Zw x,I x1,I x2] [Zy c]
def Z5R:MFun:=mkF (Zi 170 Tryz.f170)
def Zj1(a:Zp)(a1:Zf):Rs:=C 170 [gaO a.c,gaO a1.c] []
def Zvf:RawF (Zi 194 Tryz.f194):={ m:=_ }
def Zvg:Zc:=cut0 Zvf 9
def Zvh:Zc:=cut0 Zvf 21
def Z5S:MFun:=Z0 Zvf 9 Zvg 21 Zvh
def Zf7(a:V6):Rs:=C 194 [Zw a] []
def Zdr(cc c x:V6)(x1 x2:Int):Rs:=lp C [.blk 0,.seq Zvh,.fin 0 [.tmp 2]] [0,3,7,8,9] Zvg [Zw c,.own 0,Zw x,I x1,I x2] [Zy cc]
def Zvi:RawF (Zi 395 Tryz.f395):={ m:=_ }
def Zvj:Zc:=cut0 Zvi 7
def Zvk:Zc:=cut0 Zvi 25
def Z5T:MFun:=Z0 Zvi 7 Zvj 25 Zvk
def Zds(a:Zf)(a1:V6):Rs:=C 395 [gaO a.c,Zw a1] []
def Zj2(q:Zf)(cc x:V6)(x1 x2:Int):Rs:=lp C [.blk 0,.seq Zvk,.fin 0 [.tmp 4]] [1,2,7,8,9] Zvj [Zw cc,.ptr 0 0,Zw x,I x1,I x2] [gbO q.c]
def ZnM:RawF (Zi 396 Tryz.f396):={ m:=_ }
def Z5U:Zc:=cut0 ZnM 30
def Zvl:Zc:=cut1 ZnM 17 13 Z5U
def Zvm:Zc:=cut0 ZnM 31
def Z5V:MFun:=Z0 ZnM 17 Zvl 31 Zvm
def Zf8(a:Int):Rs:=C 396 [I a] []
def Zf9(cc:V6)(c i:Int):Rs:=lp C [.blk 0,.seq Zvm,.fin 0 [.tmp 2]] [0,3,4] Zvl [I c,.own 0,I i] [Zy cc]
def Z5W:MFun:=mkF (Zi 398 Tryz.f398)
def Zj3(a:Int):Rs:=C 398 [I a] []
def Zj4:RawF (Zi 452 Tryz.f452):={ m:=_ }
def Zj5:Zc:=cut0 Zj4 43
def Z5X:Zc:=cut1 Zj4 37 6 Zj5
def Zj6:Zc:=cut1 Zj4 19 18 Z5X
def Zj7:Zc:=cut0 Zj4 45
def Z5Y:MFun:=Z0 Zj4 19 Zj6 45 Zj7
def Zdt(a:Zn)(a1:Zf)(a2:Zg)(a3:V6):Rs:=C 452 [gaO a.c,gaO a1.c,gaO a2.c,Zw a3] []
def WG(m:Zn)(cd:List Zo)(cl cc:V6)(x:List Zj)(x1 x2:Int):Rs:=lp C [.blk 0,.seq Zj7,.fin 0 [.tmp 8]] [3,4,9,11,32,33,34] Zj6 [Zw cc,.ptr 0 0,.own 1,.own 2,L 3 (x.map Zj.c),I x1,I x2] [gbO m.c,Kf cd,Zy cl]
def Zj8(m:Zn)(cl:List Zo)(co:V6)(x:Zj)(cd:V6)(i cn cc:Int)(x1:List Zj)(x2 x3:Int):Rs:=Ev C [.blk 1,.seq (.reg [.o 105 (.bin .add (.s 34) (.k 1)),.m 34 105] [3,4,9,11,32,33,34]),.loop [3,4,9,11,32,33,34] Zj6,.blk 0,.seq Zj7,.fin 0 [.tmp 8]] Zj5 ⟨[(3,Zw cd),(4,.ptr 0 0),(9,.own 1),(11,.own 2),(12,I i),(13,.ptr 3 0),(14,I cn),(15,I cc),(32,L 3 (x1.map Zj.c)),(33,I x2),(34,I x3)],[[]],[gbO m.c,Kf cl,Zy co,gbO x.c]⟩
def Zj9(m:Zn)(cl:List Zo)(co:V6)(x:Zj)(cd:V6)(i cn cc:Int)(x1:List Zj)(x2 x3:Int)(x4:Bool):Rs:=Ev C [.blk 1,.seq (.reg [.o 105 (.bin .add (.s 34) (.k 1)),.m 34 105] [3,4,9,11,32,33,34]),.loop [3,4,9,11,32,33,34] Zj6,.blk 0,.seq Zj7,.fin 0 [.tmp 8]] Zj5 ⟨[(3,Zw cd),(4,.ptr 0 0),(9,.own 1),(11,.own 2),(12,I i),(13,.ptr 3 0),(14,I cn),(15,I cc),(32,L 3 (x1.map Zj.c)),(33,I x2),(34,I x3),(70,Bo x4)],[[]],[gbO m.c,Kf cl,Zy co,gbO x.c]⟩
def Zvn:RawF (Zi 453 Tryz.f453):={ m:=_ }
def Zvo:Zc:=cut0 Zvn 9
def Zvp:Zc:=cut0 Zvn 21
def Z5Z:MFun:=Z0 Zvn 9 Zvo 21 Zvp
def ZjA(a:V6):Rs:=C 453 [Zw a] []
def ZjB(n:Int)(x:V6)(x1 x2:Int):Rs:=lp C [.blk 0,.seq Zvp,.fin 0 [.tmp 2]] [3,6,7,8] Zvo [I n,Zw x,I x1,I x2] []
def Zvq:MFun:=mkF (Zi 425 Tryz.f425)
def Zdu(a:Zn)(a1:Zf)(a2:Zg)(a3:V6):Rs:=C 425 [gaO a.c,gaO a1.c,gaO a2.c,Zw a3] []
def U5:MFun:=mkF (Zi 397 Tryz.f397)
def Zaz(m:Zn)(q:Zf)(co:V6)(d:Int)(c cc cd cl cn:Zd)(cp cu cv cy cz:Bool)(x:List Zj)(a:Int):Rs:=C 397 [.ptr 0 0,.agg [.own 1],I a] [WF m q co d c cc cd cl cn cp cu cv cy cz,Zcw x]
def ZnN:RawF (Zi 399 Tryz.f399):={ m:=_ }
def Z6a:Zc:=cut0 ZnN 30
def Zvr:Zc:=cut1 ZnN 17 13 Z6a
def Zvs:Zc:=cut0 ZnN 31
def Z6b:MFun:=Z0 ZnN 17 Zvr 31 Zvs
def ZjC(a:Zf)(a1:Int):Rs:=C 399 [gaO a.c,I a1] []
def Zdv(q:Zf)(cd:V6)(cc x:Int):Rs:=lp C [.blk 0,.seq Zvs,.fin 0 [.tmp 4]] [1,2,5,6] Zvr [I cc,.ptr 0 0,.own 1,I x] [gbO q.c,Zy cd]
def ZnO:RawF (Zi 393 Tryz.f393):={ m:=_ }
def Zvt:Zc:=cut0 ZnO 24
def ZjD:Zc:=cut1 ZnO 9 15 Zvt
def ZjE:Zc:=cut0 ZnO 25
def Zvu:MFun:=Z0 ZnO 9 ZjD 25 ZjE
def Zdw(a:List Zd):Rs:=C 393 [Ul a] []
def ZfA(cl cc cd:Int)(best:Zd)(x:List Zd)(x1 x2:Int):Rs:=lp C [.blk 0,.seq ZjE,.fin 0 [.cell 2 (some 4)]] [2,3,9,10,11] ZjD [.ptr 0 0,.ptr 1 0,Ul x,I x1,I x2] [.box [I cl,I cc,I cd,.t .nil],gbO best.c]
def Z6c:MFun:=mkF (Zi 394 Tryz.f394)
def Za0(a:Zg):Rs:=C 394 [gaO a.c] []
def Z6d:MFun:=mkF (Zi 400 Tryz.f400)
def JD(a a1:Zg)(a2 a3:Int):Rs:=C 400 [gaO a.c,gaO a1.c,I a2,I a3] []
def ZnP:RawF (Zi 403 Tryz.f403):={ m:=_ }
def KR:Zc:=cut0 ZnP 24
def Zvv:Zc:=cut1 ZnP 9 15 KR
def Zvw:Zc:=cut0 ZnP 25
def Z6e:MFun:=Z0 ZnP 9 Zvv 25 Zvw
def ZjF(m:Zn)(q:Zf)(co:V6)(d:Int)(c cc cd cl cn:Zd)(cp cu cv cy cz:Bool):Rs:=C 403 [.ptr 0 0] [WF m q co d c cc cd cl cn cp cu cv cy cz]
def Wx(m:Zn)(q:Zf)(cp:V6)(dc:Int)(cc cd cl cn co:Zd)(cu cv cy cz d fr:Bool)(dd:List Zd)(x0 x1 x2 x3 x4:Bool)(x:Int):Rs:=EvL C [.blk 0,.seq Zvw,.fin 1 [.tmp 2]] [0,3,10,11] Zvv ⟨[(0,.ptr 0 0),(3,.own 1),(10,.agg [Bo x0,Bo x1,Bo x2,Bo x3,Bo x4]),(11,I x)],[[(0,.ptr 0 0)]],[WF m q cp dc cc cd cl cn co cu cv cy cz d,.arr 328 4 fr (dd.map Zd.c)]⟩
def Z6f:MFun:=mkF (Zi 426 Tryz.f426)
def Za1(a:Zf)(a1:Int):Rs:=C 426 [gaO a.c,I a1] []
def Z6g(a:V6):Rs:=C 374 [Zw a,.t .nil] []
def Z6h(a:V6):Rs:=C 374 [.t .nil,Zw a] []
def Z6i:Rs:=C 374 [.t .nil,.t .nil] []
def Z6j:MFun:=mkF (Zi 401 Tryz.f401)
def Zdx(a:Zf)(a1 a2:Int):Rs:=C 401 [gaO a.c,I a1,I a2] []
def Z6k:MFun:=mkF (Zi 427 Tryz.f427)
def ZnQ(a:Zg)(a1:Int):Rs:=C 427 [gaO a.c,I a1] []
def Zvx:RawF (Zi 402 Tryz.f402):={ m:=_ }
def Zvy:Zc:=cut0 Zvx 19
def Zvz:Zc:=cut0 Zvx 37
def Z6l:MFun:=Z0 Zvx 19 Zvy 37 Zvz
def Zdy(a:Zn)(a1:Zf)(a2:V6)(a3:List Zd)(a4:Int):Rs:=C 402 [gaO a.c,gaO a1.c,Zw a2,Ul a3,I a4] []
def ZjG(m:Zn)(q:Zf)(x:List Zj)(cc:V6)(v:Int)(x1:List Zd)(x2 x3:Int):Rs:=lp C [.blk 0,.seq Zvz,.fin 0 [.cell 10 (some 1)]] [2,4,5,6,10,12,27,28,29] Zvy [Zw cc,I v,.ptr 0 0,.ptr 1 0,.ptr 2 0,.ptr 3 0,Ul x1,I x2,I x3] [gbO m.c,gbO q.c,.box [.t .nil],.box [.own 4],Zcw x]
def QK:RawF (Zi 349 Tryz.f349):={ m:=_ }
def Zv0:Zc:=cut0 QK 65
def Zv1:Zc:=cut0 QK 81
def Zv2:Zc:=cut1 QK 77 4 Zv1
def ZnR:Zc:=cut0 QK 93
def ZjH:Zc:=cut3 QK 44 21 Zv0 33 Zv2 49 ZnR
def Zv3:Zc:=cut0 QK 94
def Z6m:Zc:=cut2 QK 39 5 ZjH 55 Zv3
def Zv4:Zc:=cut0 QK 97
def ZnS:Zc:=cut2 QK 19 20 Z6m 78 Zv4
def Zv5:Zc:=cut0 QK 103
def Zv6:Zc:=cut0 QK 115
def Zv7:Zc:=cut2 QK 98 5 Zv5 17 Zv6
def ZnT:MFun:=Z0 QK 19 ZnS 98 Zv7
def ZfB(a:Zn)(a1:Zf)(a2:V6):Rs:=C 349 [gaO a.c,gaO a1.c,Zw a2] []
def ZnU:List Fr:=[.blk 0,.seq Zv7,.fin 0 [.tmp 6]]
def Zb5(m:Zn)(q:Zf)(fr:Bool)(cd:List (List Zd))(cl:Bool)(cn:List Zd)(x cc:V6)(x1 x2:Int):Rs:=lp C ZnU [2,3,4,7,8,38,39,40] ZnS [Zw cc,.ptr 0 0,.ptr 1 0,.own 2,.own 3,.own 4,I x1,I x2] [gbO m.c,gbO q.c,.arr 370 1 fr (cd.map (lc 4 Zd.c)),.arr 328 4 cl (cn.map Zd.c),Zy x]
def ZnV:List Fr:=.blk 2::.seq Zv3::.blk 1::.seq Zv4::.loop [2,3,4,7,8,38,39,40] ZnS::ZnU
def Zv8:=lp C ZnV [2,3,4,7,8,10,11,38,39,40,73,74,75] ZjH
def Z6n(m:Zn)(q:Zf)(fr:Bool)(dl:List (List Zd))(dp:Bool)(dv:List Zd)(du:Zn)(dy:Zf)(cv:V6)(dn:Int)(cd cl cn co cp:Zd)(cy cz d dc dd:Bool)(x cc:V6)(cu x1 x2 x3 x4:Int):Rs:=Zv8 [Zw cc,.ptr 0 0,.ptr 1 0,.own 2,.own 3,I cu,.ptr 4 0,.own 5,I x1,I x2,.t .nil,I x3,I x4] [gbO m.c,gbO q.c,.arr 370 1 fr (dl.map (lc 4 Zd.c)),.arr 328 4 dp (dv.map Zd.c),WF du dy cv dn cd cl cn co cp cy cz d dc dd,Zy x]
def Zdz(m:Zn)(q:Zf)(fr:Bool)(dl:List (List Zd))(dp:Bool)(dv:List Zd)(du:Zn)(dy:Zf)(cv:V6)(dn:Int)(cd cl cn co cp:Zd)(cy cz d dc dd:Bool)(x x1 cc:V6)(cu x2 x3 x4 x5:Int):Rs:=Zv8 [Zw cc,.ptr 0 0,.ptr 1 0,.own 2,.own 3,I cu,.ptr 4 0,.own 5,I x2,I x3,.own 6,I x4,I x5] [gbO m.c,gbO q.c,.arr 370 1 fr (dl.map (lc 4 Zd.c)),.arr 328 4 dp (dv.map Zd.c),WF du dy cv dn cd cl cn co cp cy cz d dc dd,Zy x,Zy x1]
def ZjI(fr:Bool)(cc:List Zd)(x x1:Int):Rs:=lp C [.blk 8,.seq Zv6,.fin 0 [.tmp 6]] [8,157,158] Zv5 [.own 0,I x,I x1] [.arr 328 4 fr (cc.map Zd.c)]
def ZfC(m:Zn)(q:Zf)(fr:Bool)(dn:List (List Zd))(dv:Bool)(dz:List Zd)(dy:Zn)(l:Zf)(cy:V6)(du:Int)(cd cl cn co cp:Zd)(cz d dc dd dl:Bool)(y:Zg)(x x1 cc:V6)(cu x2:Int)(dp cv:List Zd)(x3 x4 x5 x6:Int)(x7:List Zd)(x8 x9:Int):Rs:=lp C (.blk 4::.seq Zv2::.blk 3::.seq ZnR::.loop [2,3,4,7,8,10,11,38,39,40,73,74,75] ZjH::ZnV) [2,3,4,7,8,10,11,14,15,16,17,38,39,40,73,74,75,99,100,101] Zv0 [Zw cc,.ptr 0 0,.ptr 1 0,.own 2,.own 3,I cu,.ptr 4 0,I x2,Ul dp,Ul cv,.ptr 5 0,.own 6,I x3,I x4,.own 7,I x5,I x6,Ul x7,I x8,I x9] [gbO m.c,gbO q.c,.arr 370 1 fr (dn.map (lc 4 Zd.c)),.arr 328 4 dv (dz.map Zd.c),WF dy l cy du cd cl cn co cp cz d dc dd dl,gbO y.c,Zy x,Zy x1]
def ZfD(m:Zn)(q:Zf)(fr:Bool)(dn:List (List Zd))(dv:Bool)(dz:List Zd)(dy:Zn)(l:Zf)(cy:V6)(du:Int)(cd cl cn co cp:Zd)(cz d dc dd dl:Bool)(x x1 x2 cc:V6)(cu:Int)(dp cv:List Zd)(x3 x4 x5 x6 x7 x8:Int):Rs:=lp C (.blk 6::.blk 3::.seq ZnR::.loop [2,3,4,7,8,10,11,38,39,40,73,74,75] ZjH::ZnV) [2,3,4,7,8,10,11,15,16,38,39,40,73,74,75,119,120,121] Zv1 [Zw cc,.ptr 0 0,.ptr 1 0,.own 2,.own 3,I cu,.ptr 4 0,Ul dp,Ul cv,.own 5,I x3,I x4,.own 6,I x5,I x6,.own 7,I x7,I x8] [gbO m.c,gbO q.c,.arr 370 1 fr (dn.map (lc 4 Zd.c)),.arr 328 4 dv (dz.map Zd.c),WF dy l cy du cd cl cn co cp cz d dc dd dl,Zy x,Zy x1,Zy x2]
def ZnW:RawF (Zi 348 Tryz.f348):={ m:=_ }
def Z6o:Zc:=cut0 ZnW 24
def Zv9:Zc:=cut1 ZnW 9 15 Z6o
def ZvA:Zc:=cut0 ZnW 25
def Z6p:MFun:=Z0 ZnW 9 Zv9 25 ZvA
def ZvB(a:Int):Rs:=C 348 [.t .nil,I a] []
def ZnX(fr:Bool)(x:List Zd):Rs:=C 393 [.own 0] [.arr 328 4 fr (x.map Zd.c)]
def ZfE(cl cc cd:Int)(best:Zd)(fr:Bool)(x:List Zd)(x1 x2:Int):Rs:=EvL C [.blk 0,.seq ZjE,.fin 1 [.cell 2 (some 4)]] [2,3,9,10,11] ZjD ⟨[(2,.ptr 0 0),(3,.ptr 1 0),(9,.own 2),(10,I x1),(11,I x2)],[[(0,.own 2)]],[.box [I cl,I cc,I cd,.t .nil],gbO best.c,.arr 328 4 fr (x.map Zd.c)]⟩
def ZjJ(a:List Zd)(a1:Int):Rs:=C 348 [Ul a,I a1] []
def ZfF(cl cc cd:Int)(fr:Bool)(x:List Zd)(cn:Int)(x1:List Zd)(x2 x3:Int):Rs:=lp C [.blk 0,.seq ZvA,.fin 0 [.cell 4 (some 4),.tmp 5]] [1,4,6,11,12,13] Zv9 [I cn,.ptr 0 0,.own 1,Ul x1,I x2,I x3] [.box [I cl,I cc,I cd,.t .nil],.arr 328 4 fr (x.map Zd.c)]
def Z6q:MFun:=mkF (Zi 281 Tryz.f281)
def ZjK(a:Zn)(a1:Zf)(a2:V6):Rs:=C 281 [gaO a.c,gaO a1.c,Zw a2] []
def Z6r:MFun:=mkF (Zi 193 Tryz.f193)
def ZjL(a:Zn)(a1:Zf)(a2:V6):Rs:=C 193 [gaO a.c,gaO a1.c,Zw a2] []
def Z6s(a:Zn)(a1:Zf):Rs:=C 193 [gaO a.c,gaO a1.c,.t .nil] []
def Z6t:MFun:=mkF (Zi 101 Tryz.f101)
def ZnY(a:Zn)(a1:Zf)(a2:V6):Rs:=C 101 [gaO a.c,gaO a1.c,Zw a2] []
def Z6u:MFun:=mkF (Zi 81 Tryz.f81)
def ZjM(a:Zn)(a1:Zp)(a2:Zf):Rs:=C 81 [gaO a.c,gaO a1.c,gaO a2.c] []
def Z6v:MFun:=mkF (Zi 80 Tryz.f80)
def ZjN(a:Int)(a1:XO)(a2:Int):Rs:=C 80 [I a,gaO a1.c,I a2] []
def Z6w:MFun:=mkF (Zi 16 Tryz.f16)
def ZfG(a:Zn)(a1:Xr)(a2:Zf)(a3:ZM)(a4:Wj):Rs:=C 16 [.agg (a.c.map .t),.agg (a1.c.map .t),.agg (a2.c.map .t),.agg (a3.c.map .t),.agg (a4.c.map .t)] []
def Z6x:MFun:=mkF (Zi 220 Tryz.f220)
def Qs(a:Zn)(a1:Int):Rs:=C 220 [gaO a.c,I a1] []
def Z6y:MFun:=mkF (Zi 133 Tryz.f133)
def Xb(a a1 a2:Int):Rs:=C 133 [I a,I a1,I a2] []
def Z6z:MFun:=mkF (Zi 305 Tryz.f305)
def Za2(a:Int):Rs:=C 305 [I a] []
def ZvC:RawF (Zi 221 Tryz.f221):={ m:=_ }
def ZvD:Zc:=cut0 ZvC 15
def ZvE:Zc:=cut0 ZvC 31
def Z60:MFun:=Z0 ZvC 15 ZvD 31 ZvE
def Za3(a:Z8):Rs:=C 221 [gaO a.c] []
def Zd0(o:Z8)(i:Int):Rs:=lp C [.blk 0,.seq ZvE,.fin 0 [.tmp 2]] [1,3] ZvD [.ptr 0 0,I i] [gbO o.c]
def ZvF:RawF (Zi 270 Tryz.f270):={ m:=_ }
def ZvG:Zc:=cut0 ZvF 17
def ZvH:Zc:=cut0 ZvF 27
def Z61:MFun:=Z0 ZvF 17 ZvG 27 ZvH
def QL(a:Int):Rs:=C 270 [I a] []
def ZfH(k n i:Int):Rs:=lp C [.blk 0,.seq ZvH,.fin 0 [.tmp 2]] [0,3,4] ZvG [I k,I n,I i] []
def ZnZ:RawF (Zi 277 Tryz.f277):={ m:=_ }
def Z62:Zc:=cut0 ZnZ 30
def ZvI:Zc:=cut1 ZnZ 17 13 Z62
def ZvJ:Zc:=cut0 ZnZ 31
def Z63:MFun:=Z0 ZnZ 17 ZvI 31 ZvJ
def Ua(a:Z8)(a1 a2 a3:Int):Rs:=C 277 [gaO a.c,I a1,I a2,I a3] []
def Zd1(o:Z8)(l cc n i:Int):Rs:=lp C [.blk 0,.seq ZvJ,.fin 0 [.tmp 8]] [1,2,4,9,10] ZvI [I l,I cc,.ptr 0 0,I n,I i] [gbO o.c]
def Z64:MFun:=mkF (Zi 306 Tryz.f306)
def Zd2(a:Z8)(a1:V6):Rs:=C 306 [gaO a.c,Zw a1] []
def Za4:RawF (Zi 222 Tryz.f222):={ m:=_ }
def ZvK:Zc:=cut0 Za4 53
def ZvL:Zc:=cut0 Za4 73
def Zoa:Zc:=cut2 Za4 39 14 ZvK 34 ZvL
def ZvM:Zc:=cut0 Za4 74
def Zob:Zc:=cut2 Za4 27 12 Zoa 47 ZvM
def ZvN:Zc:=cut0 Za4 75
def Zoc:Zc:=cut2 Za4 15 12 Zob 60 ZvN
def ZvO:Zc:=cut0 Za4 76
def Z65:MFun:=Z0 Za4 15 Zoc 76 ZvO
def ZjO(a:Z8):Rs:=C 222 [gaO a.c] []
def Zod:List Fr:=[.blk 0,.seq ZvO,.fin 0 [.tmp 2,.tmp 3,.tmp 4]]
def Zd3(o:Z8)(a:Int):Rs:=lp C Zod [1,5] Zoc [.ptr 0 0,I a] [gbO o.c]
def ZvP:List Fr:=.blk 2::.blk 1::.seq ZvN::.loop [1,5] Zoc::Zod
def ZfI(o:Z8)(a b:Int):Rs:=lp C ZvP [1,5,6] Zob [.ptr 0 0,I a,I b] [gbO o.c]
def ZvQ:List Fr:=.blk 4::.blk 3::.seq ZvM::.loop [1,5,6] Zob::ZvP
def ZfJ(o:Z8)(a b e:Int):Rs:=lp C ZvQ [1,5,6,7] Zoa [.ptr 0 0,I a,I b,I e] [gbO o.c]
def Zb6(o:Z8)(x:V6)(a b e k:Int):Rs:=lp C (.blk 6::.blk 5::.seq ZvL::.loop [1,5,6,7] Zoa::ZvQ) [1,5,6,7,8,9] ZvK [.ptr 0 0,I a,I b,I e,.own 1,I k] [gbO o.c,Zy x]
def Zd4:RawF (Zi 223 Tryz.f223):={ m:=_ }
def ZvR:Zc:=cut0 Zd4 31
def ZvS:Zc:=cut0 Zd4 47
def Zoe:Zc:=cut2 Zd4 19 12 ZvR 28 ZvS
def ZvT:Zc:=cut0 Zd4 48
def Zof:Zc:=cut2 Zd4 7 12 Zoe 41 ZvT
def ZvU:Zc:=cut0 Zd4 49
def Z66:MFun:=Z0 Zd4 7 Zof 49 ZvU
def ZjP(a:Z8):Rs:=C 223 [gaO a.c] []
def ZvV:List Fr:=[.blk 0,.seq ZvU,.fin 0 [.tmp 2]]
def ZfK(o:Z8)(a:Int):Rs:=lp C ZvV [1,3] Zof [.ptr 0 0,I a] [gbO o.c]
def ZvW:List Fr:=.blk 2::.blk 1::.seq ZvT::.loop [1,3] Zof::ZvV
def ZfL(o:Z8)(a b:Int):Rs:=lp C ZvW [1,3,4] Zoe [.ptr 0 0,I a,I b] [gbO o.c]
def ZjQ(o:Z8)(a b e:Int):Rs:=lp C (.blk 4::.blk 3::.seq ZvS::.loop [1,3,4] Zoe::ZvW) [1,3,4,5] ZvR [.ptr 0 0,I a,I b,I e] [gbO o.c]
def ZvX:RawF (Zi 127 Tryz.f127):={ m:=_ }
def ZvY:Zc:=cut0 ZvX 7
def ZvZ:Zc:=cut0 ZvX 45
def Z67:MFun:=Z0 ZvX 7 ZvY 45 ZvZ
def Zwa(a:Zn):Rs:=C 127 [gaO a.c] []
def ZfM(m:Zn)(k:Int):Rs:=lp C [.blk 0,.seq ZvZ,.fin 0 [.tmp 2,.tmp 3,.tmp 4]] [1,5] ZvY [.ptr 0 0,I k] [gbO m.c]
def Z68:MFun:=mkF (Zi 45 Tryz.f45)
def Za5(a:Zn):Rs:=C 45 [gaO a.c] []
def Z69:MFun:=mkF (Zi 227 Tryz.f227)
def Zb7(a:YA):Rs:=C 227 [.t (.str a)] []
def Zwb:RawF (Zi 347 Tryz.f347):={ m:=_ }
def Zwc:Zc:=cut0 Zwb 7
def Zwd:Zc:=cut0 Zwb 23
def Z6A:MFun:=Z0 Zwb 7 Zwc 23 Zwd
def ZfN(a:V6)(a1:Int):Rs:=C 347 [Zw a,I a1] []
def ZjR(c:V6)(n i:Int):Rs:=lp C [.blk 0,.seq Zwd,.fin 0 [.tmp 4]] [0,1,5] Zwc [Zw c,I n,I i] []
def Zwe:RawF (Zi 138 Tryz.f138):={ m:=_ }
def Zwf:Zc:=cut0 Zwe 7
def Zog:Zc:=cut0 Zwe 31
def Z6B:MFun:=Z0 Zwe 7 Zwf 31 Zog
def U6(a a1:V6):Rs:=C 138 [Zw a,Zw a1] []
def ZjS(a b:V6)(i:Int):Rs:=lp C [.blk 0,.seq Zog,.fin 0 [.tmp 4]] [0,1,5] Zwf [Zw a,Zw b,I i] []
def ZjT(a b:V6)(i:Int)(x:Bool):Rs:=Ev C [.fin 0 [.tmp 4]] Zog ⟨[(0,Zw a),(1,Zw b),(5,I i),(15,Bo x)],[[]],[]⟩
def Zwg:RawF (Zi 311 Tryz.f311):={ m:=_ }
def ZjU:Zc:=cut0 Zwg 15
def ZjV:Zc:=cut0 Zwg 31
def Zwh:MFun:=Z0 Zwg 15 ZjU 31 ZjV
def Zd5(a:Zt):Rs:=C 311 [gaO a.c] []
def ZfO(t:Zt)(i:Int):Rs:=lp C [.blk 0,.seq ZjV,.fin 0 [.tmp 2]] [1,3] ZjU [.ptr 0 0,I i] [gbO t.c]
def Zwi:RawF (Zi 228 Tryz.f228):={ m:=_ }
def Zwj:Zc:=cut0 Zwi 7
def Zwk:Zc:=cut0 Zwi 23
def Z6C:MFun:=Z0 Zwi 7 Zwj 23 Zwk
def ZfP(a:Zp):Rs:=C 228 [gaO a.c] []
def ZfQ(d:Zp)(i:Int):Rs:=lp C [.blk 0,.seq Zwk,.fin 0 [.tmp 2]] [1,3] Zwj [.ptr 0 0,I i] [gbO d.c]
def Zoh:RawF (Zi 413 Tryz.f413):={ m:=_ }
def Z6D:Zc:=cut0 Zoh 22
def Zwl:Zc:=cut1 Zoh 9 13 Z6D
def Zwm:Zc:=cut0 Zoh 23
def Z6E:MFun:=Z0 Zoh 9 Zwl 23 Zwm
def Kk(a:Int):Rs:=C 413 [I a] []
def ZfR(c:V6)(m v:Int):Rs:=lp C [.blk 0,.seq Zwm,.fin 0 [.tmp 2]] [0,3,4] Zwl [I m,.own 0,I v] [Zy c]
def Zwn:RawF (Zi 366 Tryz.f366):={ m:=_ }
def Zwo:Zc:=cut0 Zwn 9
def Zwp:Zc:=cut0 Zwn 19
def Z6F:MFun:=Z0 Zwn 9 Zwo 19 Zwp
def ZjW(a:Int):Rs:=C 366 [I a] []
def Zd6(c:V4)(n m:Int):Rs:=lp C [.blk 0,.seq Zwp,.fin 0 [.tmp 2]] [0,3,4] Zwo [I n,.own 0,I m] [ZI c]
def Zwq:RawF (Zi 414 Tryz.f414):={ m:=_ }
def ZjX:Zc:=cut0 Zwq 7
def ZjY:Zc:=cut0 Zwq 23
def Zwr:MFun:=Z0 Zwq 7 ZjX 23 ZjY
def ZfS(a:Zt)(a1:V6):Rs:=C 414 [gaO a.c,Zw a1] []
def ZfT(t:Zt)(cc:V6)(i:Int):Rs:=lp C [.blk 0,.seq ZjY,.fin 0 [.tmp 4]] [1,2,5] ZjX [Zw cc,.ptr 0 0,I i] [gbO t.c]
def Zws:RawF (Zi 415 Tryz.f415):={ m:=_ }
def Zwt:Zc:=cut0 Zws 9
def Zwu:Zc:=cut0 Zws 27
def Z6G:MFun:=Z0 Zws 9 Zwt 27 Zwu
def Zb8(a a1:V6):Rs:=C 415 [Zw a,Zw a1] []
def ZjZ(cc cd c:V6)(i:Int):Rs:=lp C [.blk 0,.seq Zwu,.fin 0 [.tmp 4,.tmp 5]] [0,1,6,7] Zwt [Zw cd,Zw c,.own 0,I i] [Zy cc]
end
