/-
  Parts of the proofs for this seat: D2.
-/
import Derived.Test.YtgbipcfdgfjplaaGreatP8
set_option linter.unusedSectionVars false
set_option linter.unusedSimpArgs false
set_option linter.unusedVariables false
set_option maxRecDepth 100000
set_option maxHeartbeats 4000000
set_option cbv.maxSteps 9999999
namespace Go.Proofs.YtgbipcfdgfjplaaGreat
open Go.AM
noncomputable section
def Zcm:RawF (Zh 122 Tryz.f122):={ m:=_ }
def Zib:MCode:=cut0 Zcm 40
def Zic:MCode:=cut0 Zcm 52
def Zid:MCode:=cut0 Zcm 53
def Zaf:MCode:=cut3 Zcm 23 17 Zib 29 Zic 30 Zid
def Zag:MCode:=cut0 Zcm 54
def ZuF:MFun:=Zt Zcm 23 Zaf 54 Zag
def Zah(a:Zn)(a1:Ze)(a2:Int):Rs:=C 122 [.agg (a.c.map .t),.agg (a1.c.map .t),I a2] []
def ZuG(a:Zc)(x:WA)(x1 x2:Int):Rs:=EvL C [.blk 0,.seq Zag,.fin 0 [.cell 6 (some 2),.tmp 7]] [6,8,11,51,52,53] Zaf ⟨[(6,.ptr 0 0),(8,.ptr 1 0),(11,.ptr 2 0),(51,.t .nil),(52,I x1),(53,I x2)],[[]],[.box [.t .nil,.t .nil],.box (a.c.map .t),.box [.own 3,.t .nil],.arr 3 1 true (x.map ic)]⟩
def ZmK(a:Zc)(x:WA)(x1:XS)(x2 x3:Int):Rs:=EvL C [.blk 0,.seq Zag,.fin 0 [.cell 6 (some 2),.tmp 7]] [6,8,11,51,52,53] Zaf ⟨[(6,.ptr 0 0),(8,.ptr 1 0),(11,.ptr 2 0),(51,.own 4),(52,I x2),(53,I x3)],[[]],[.box [.t .nil,.t .nil],.box (a.c.map .t),.box [.own 3,.t .nil],.arr 3 1 true (x.map ic),.arr 42 1 true (x1.map isc)]⟩
def ZeY(a:Zc)(x x1:WA)(x2:XS)(cc:WA)(x3 x4 x5 x6:Int):Rs:=EvL C [.blk 2,.seq Zic,.blk 1,.seq Zid,.loop [6,8,11,51,52,53] Zaf,.blk 0,.seq Zag,.fin 0 [.cell 6 (some 2),.tmp 7]] [6,8,11,13,14,51,52,53,59,60,61] Zib ⟨[(6,.ptr 0 0),(8,.ptr 1 0),(11,.ptr 2 0),(13,L 1 (cc.map ic)),(14,.own 4),(51,.own 5),(52,I x3),(53,I x4),(59,.own 3),(60,I x5),(61,I x6)],[[]],[.box [.t .nil,.t .nil],.box (a.c.map .t),.box [.own 3,.t .nil],.arr 3 1 true (x.map ic),.arr 3 1 true (x1.map ic),.arr 42 1 true (x2.map isc)]⟩
def Zai(a:Zc)(x:WA)(x1 x2:XS)(x3 x4:Int):Rs:=EvL C [.blk 0,.seq Zag,.fin 0 [.cell 6 (some 2),.tmp 7]] [6,8,11,51,52,53] Zaf ⟨[(6,.ptr 0 0),(8,.ptr 1 0),(11,.ptr 2 0),(51,.own 5),(52,I x3),(53,I x4)],[[]],[.box [.t .nil,.t .nil],.box (a.c.map .t),.box [.own 3,.own 4],.arr 3 1 true (x.map ic),.arr 42 1 true (x1.map isc),.arr 42 1 true (x2.map isc)]⟩
def ZeZ(a:Zc)(x:WA)(x1:XS)(x2:WA)(x3:XS)(cc:WA)(x4 x5 x6 x7:Int):Rs:=EvL C [.blk 2,.seq Zic,.blk 1,.seq Zid,.loop [6,8,11,51,52,53] Zaf,.blk 0,.seq Zag,.fin 0 [.cell 6 (some 2),.tmp 7]] [6,8,11,13,14,51,52,53,59,60,61] Zib ⟨[(6,.ptr 0 0),(8,.ptr 1 0),(11,.ptr 2 0),(13,L 1 (cc.map ic)),(14,.own 5),(51,.own 6),(52,I x4),(53,I x5),(59,.own 3),(60,I x6),(61,I x7)],[[]],[.box [.t .nil,.t .nil],.box (a.c.map .t),.box [.own 3,.own 4],.arr 3 1 true (x.map ic),.arr 42 1 true (x1.map isc),.arr 3 1 true (x2.map ic),.arr 42 1 true (x3.map isc)]⟩
def ZmL:RawF (Zh 266 Tryz.f266):={ m:=_ }
def ZmM:MCode:=cut0 ZmL 7
def ZmN:MCode:=cut0 ZmL 25
def ZuH:MFun:=Zt ZmL 7 ZmM 25 ZmN
def ZmO(a:WA)(a1:Int):Rs:=C 266 [L 1 (a.map ic),I a1] []
def Zcn(c:WA)(cc:Int)(x:WA)(x1 x2:Int):Rs:=EvL C [.blk 0,.seq ZmN,.fin 0 [.tmp 4]] [0,1,7,8,9] ZmM ⟨[(0,L 1 (c.map ic)),(1,I cc),(7,L 1 (x.map ic)),(8,I x1),(9,I x2)],[[]],[]⟩
def ZuI:MFun:=mkF (Zh 203 Tryz.f203)
def ZmP(a:WA):Rs:=C 203 [L 1 (a.map ic)] []
def ZmQ:RawF (Zh 135 Tryz.f135):={ m:=_ }
def ZmR:MCode:=cut0 ZmQ 7
def ZmS:MCode:=cut0 ZmQ 25
def ZuJ:MFun:=Zt ZmQ 7 ZmR 25 ZmS
def Ua(a:Zb):Rs:=C 135 [.agg (a.c.map .t)] []
def Zco(s:Zb)(x:XS)(x1 x2:Int):Rs:=EvL C [.blk 0,.seq ZmS,.fin 0 [.tmp 2]] [1,6,7,8] ZmR ⟨[(1,.ptr 0 0),(6,L 1 (x.map isc)),(7,I x1),(8,I x2)],[[]],[.box (s.c.map .t)]⟩
def ZuK:MFun:=mkF (Zh 193 Tryz.f193)
def UH(x:Int)(a a1:WA):Rs:=C 193 [L 1 (a.map ic),L 1 (a1.map ic),.ptr 0 0] [.box [I x]]
def Zie:RawF (Zh 317 Tryz.f317):={ m:=_ }
def ZmT:MCode:=cut0 Zie 16
def ZmU:MCode:=cut0 Zie 26
def Zif:MCode:=cut2 Zie 4 12 ZmT 22 ZmU
def ZuL:MFun:=WT Zie 4 Zif
def Zcp(fr:Bool)(x:XS)(x1 a a1:Int):Rs:=C 317 [.own 0,I a,I a1,.fn 193 [.ptr 1 0]] [.arr 42 1 fr (x.map isc),.box [I x1]]
def QN(fr:Bool)(c:XS)(x a b i:Int):Rs:=EvL C [.blk 0,.fin 2 []] [0,1,2,3,8] Zif ⟨[(0,.own 0),(1,I a),(2,I b),(3,.fn 193 [.ptr 1 0]),(8,I i)],[[(0,.own 0),(1,.ptr 1 0)]],[.arr 42 1 fr (c.map isc),.box [I x]]⟩
def Zaj(fr:Bool)(c:XS)(x a b i j:Int):Rs:=EvL C [.blk 2,.blk 1,.seq ZmU,.loop [0,1,2,3,8] Zif,.blk 0,.fin 2 []] [0,1,2,3,8,9] ZmT ⟨[(0,.own 0),(1,I a),(2,I b),(3,.fn 193 [.ptr 1 0]),(8,I i),(9,I j)],[[(0,.own 0),(1,.ptr 1 0)]],[.arr 42 1 fr (c.map isc),.box [I x]]⟩
def ZuM:RawF (Zh 369 Tryz.f369):={ m:=_ }
def ZmV:MCode:=cut0 ZuM 4
def ZuN:MFun:=WT ZuM 4 ZmV
def Zak(fr:Bool)(x:XS)(x1 a a1 a2:Int):Rs:=C 369 [.own 0,I a,I a1,I a2,.fn 193 [.ptr 1 0]] [.arr 42 1 fr (x.map isc),.box [I x1]]
def Zal(fr:Bool)(c:XS)(x a b n i:Int):Rs:=EvL C [.blk 0,.fin 2 []] [0,1,2,3,10] ZmV ⟨[(0,.own 0),(1,I a),(2,I b),(3,I n),(10,I i)],[[(0,.own 0),(1,.ptr 1 0)]],[.arr 42 1 fr (c.map isc),.box [I x]]⟩
def ZmW:RawF (Zh 348 Tryz.f348):={ m:=_ }
def ZmX:MCode:=cut0 ZmW 7
def ZmY:MCode:=cut0 ZmW 23
def ZuO:MFun:=Zt ZmW 7 ZmX 23 ZmY
def Zfa(fr:Bool)(x:XS)(x1 a a1 a2:Int):Rs:=C 348 [.own 0,I a,I a1,I a2,.fn 193 [.ptr 1 0]] [.arr 42 1 fr (x.map isc),.box [I x1]]
def K9(fr:Bool)(c:XS)(x m i j:Int):Rs:=EvL C [.blk 0,.seq ZmY,.fin 2 []] [0,2,4,10,11] ZmX ⟨[(0,.own 0),(2,I m),(4,.fn 193 [.ptr 1 0]),(10,I i),(11,I j)],[[(0,.own 0),(1,.ptr 1 0)]],[.arr 42 1 fr (c.map isc),.box [I x]]⟩
def WY:RawF (Zh 318 Tryz.f318):={ m:=_ }
def ZmZ:MCode:=cut0 WY 11
def Zna:MCode:=cut0 WY 30
def Znb:MCode:=cut0 WY 40
def Znc:MCode:=cut2 WY 25 5 Zna 15 Znb
def Znd:MCode:=cut0 WY 53
def Zne:MCode:=cut0 WY 72
def Znf:MCode:=cut0 WY 82
def Zng:MCode:=cut2 WY 67 5 Zne 15 Znf
def Znh:MCode:=cut0 WY 105
def Zfb:MCode:=cut0 WY 133
def Zig:MCode:=cut1 WY 127 6 Zfb
def Zni:MCode:=cut1 WY 119 8 Zig
def ZuP:MCode:=cut2 WY 100 5 Znh 19 Zni
def Zih:MCode:=cut1 WY 84 16 ZuP
def Zii:MCode:=cut3 WY 42 11 Znd 25 Zng 42 Zih
def ZuQ:MFun:=cutF3 WY 11 ZmZ 25 Znc 42 Zii
def WZ(fr:Bool)(x:XS)(x1 a a1 a2:Int):Rs:=C 318 [.own 0,I a,I a1,I a2,.fn 193 [.ptr 1 0]] [.arr 42 1 fr (x.map isc),.box [I x1]]
def KA(fr:Bool)(c:XS)(x a i j:Int):Rs:=EvL C [.blk 0,.seq Znc,.seq Zii,.fin 2 []] [0,1,4,10,11] ZmZ ⟨[(0,.own 0),(1,I a),(4,.fn 193 [.ptr 1 0]),(10,I i),(11,I j)],[[(0,.own 0),(1,.ptr 1 0)]],[.arr 42 1 fr (c.map isc),.box [I x]]⟩
def KB(fr:Bool)(c:XS)(x m i j:Int):Rs:=EvL C [.blk 4,.seq Zng,.seq Zih,.fin 2 []] [0,2,4,14,15] Znd ⟨[(0,.own 0),(2,I m),(4,.fn 193 [.ptr 1 0]),(14,I i),(15,I j)],[[(0,.own 0),(1,.ptr 1 0)]],[.arr 42 1 fr (c.map isc),.box [I x]]⟩
def QO(fr:Bool)(cc:XS)(x a m b cd n c cl p:Int):Rs:=EvL C [.blk 8,.seq Zni,.fin 2 []] [0,1,2,3,4,18,19,20,21,22] Znh ⟨[(0,.own 0),(1,I a),(2,I m),(3,I b),(4,.fn 193 [.ptr 1 0]),(18,I cd),(19,I n),(20,I c),(21,I cl),(22,I p)],[[(0,.own 0),(1,.ptr 1 0)]],[.arr 42 1 fr (cc.map isc),.box [I x]]⟩
def Zam(fr:Bool)(c:XS)(x i k:Int):Rs:=EvL C [.blk 2,.seq Znb,.seq Zii,.fin 2 []] [0,10,13] Zna ⟨[(0,.own 0),(10,I i),(13,I k)],[[(0,.own 0),(1,.ptr 1 0)]],[.arr 42 1 fr (c.map isc),.box [I x]]⟩
def Zan(fr:Bool)(c:XS)(x i k:Int):Rs:=EvL C [.blk 6,.seq Znf,.seq Zih,.fin 2 []] [0,14,17] Zne ⟨[(0,.own 0),(14,I i),(17,I k)],[[(0,.own 0),(1,.ptr 1 0)]],[.arr 42 1 fr (c.map isc),.box [I x]]⟩
def QP(fr:Bool)(c:XS)(x b cc x1:Int):Rs:=Ev C [.fin 2 []] Zfb ⟨[(0,.own 0),(3,I b),(4,.fn 193 [.ptr 1 0]),(18,I cc),(24,I x1)],[[(0,.own 0),(1,.ptr 1 0)]],[.arr 42 1 fr (c.map isc),.box [I x]]⟩
def UI(fr:Bool)(cc:XS)(x a b cd c x1:Int)(x2:Bool):Rs:=Ev C [.fin 2 []] Zfb ⟨[(0,.own 0),(1,I a),(3,I b),(4,.fn 193 [.ptr 1 0]),(18,I cd),(20,I c),(24,I x1),(199,Bo x2)],[[(0,.own 0),(1,.ptr 1 0)]],[.arr 42 1 fr (cc.map isc),.box [I x]]⟩
def Zcq(fr:Bool)(cc:XS)(x a m b cd c x1:Int)(x2:Bool):Rs:=Ev C [.fin 2 []] Zig ⟨[(0,.own 0),(1,I a),(2,I m),(3,I b),(4,.fn 193 [.ptr 1 0]),(18,I cd),(20,I c),(24,I x1),(185,Bo x2)],[[(0,.own 0),(1,.ptr 1 0)]],[.arr 42 1 fr (cc.map isc),.box [I x]]⟩
def Zao:RawF (Zh 261 Tryz.f261):={ m:=_ }
def Znj:MCode:=cut0 Zao 7
def Znk:MCode:=cut0 Zao 35
def ZuR:MCode:=cut0 Zao 55
def Znl:MCode:=cut1 Zao 47 8 ZuR
def Zij:MCode:=cut2 Zao 23 12 Znk 24 Znl
def Znm:MCode:=cut1 Zao 19 4 Zij
def ZuS:MFun:=Zt Zao 7 Znj 19 Znm
def Zik(x:XS)(x1 a:Int):Rs:=C 261 [.own 0,I a,.fn 193 [.ptr 1 0]] [.arr 42 1 true (x.map isc),.box [I x1]]
def Zap(fr:Bool)(cc:XS)(x n c a b:Int):Rs:=EvL C [.blk 0,.seq Znm,.fin 2 []] [0,1,2,6,7,8] Znj ⟨[(0,.own 0),(1,I n),(2,.fn 193 [.ptr 1 0]),(6,I c),(7,I a),(8,I b)],[[(0,.own 0),(1,.ptr 1 0)]],[.arr 42 1 fr (cc.map isc),.box [I x]]⟩
def QQ(fr:Bool)(cc:XS)(x n c:Int):Rs:=EvL C [.blk 2,.fin 2 []] [0,1,2,6] Zij ⟨[(0,.own 0),(1,I n),(2,.fn 193 [.ptr 1 0]),(6,I c)],[[(0,.own 0),(1,.ptr 1 0)]],[.arr 42 1 fr (cc.map isc),.box [I x]]⟩
def Zaq(fr:Bool)(cc:XS)(x n c a b:Int):Rs:=EvL C [.blk 4,.seq Znl,.blk 3,.loop [0,1,2,6] Zij,.blk 2,.fin 2 []] [0,1,2,6,7,8] Znk ⟨[(0,.own 0),(1,I n),(2,.fn 193 [.ptr 1 0]),(6,I c),(7,I a),(8,I b)],[[(0,.own 0),(1,.ptr 1 0)]],[.arr 42 1 fr (cc.map isc),.box [I x]]⟩
def ZuT:MFun:=mkF (Zh 192 Tryz.f192)
def Zil(x:XS)(x1:Int):Rs:=C 192 [.own 0,.fn 193 [.ptr 1 0]] [.arr 42 1 true (x.map isc),.box [I x1]]
def ZuU:MFun:=mkF (Zh 123 Tryz.f123)
def Zcr(a:Zb)(a1:Int):Rs:=C 123 [.agg (a.c.map .t),I a1] []
def Zim(x:WA):Rs:=C 262 [.own 0] [.arr 3 1 true (x.map ic)]
def ZuV:MFun:=mkF (Zh 194 Tryz.f194)
def Zcs(a a1:Zb):Rs:=C 194 [.agg (a.c.map .t),.agg (a1.c.map .t)] []
def Zin:RawF (Zh 195 Tryz.f195):={ m:=_ }
def Znn:MCode:=cut0 Zin 29
def Zfc:MCode:=cut1 Zin 7 22 Znn
def Zfd:MCode:=cut0 Zin 30
def Zno:MFun:=Zt Zin 7 Zfc 30 Zfd
def KC(a b:Zb)(x a1 a2:WA):Rs:=C 195 [.ptr 0 0,L 1 (a1.map ic),L 1 (a2.map ic)] [.box [L 1 (a.Vars.map ic),L 1 (a.Rows.map isc),L 1 (b.Vars.map ic),L 1 (b.Rows.map isc),.own 1,.t .nil],.arr 3 1 true (x.map ic)]
def Zar(a b:Zb)(x c x1 y:WA)(x2 x3:Int):Rs:=EvL C [.blk 0,.seq Zfd,.fin 2 []] [0,1,2,6,16,17,18] Zfc ⟨[(0,.ptr 0 0),(1,L 1 (x1.map ic)),(2,L 1 (y.map ic)),(6,.own 2),(16,.own 1),(17,I x2),(18,I x3)],[[(0,.ptr 0 0),(1,.own 1)]],[.box [L 1 (a.Vars.map ic),L 1 (a.Rows.map isc),L 1 (b.Vars.map ic),L 1 (b.Rows.map isc),.own 1,.t .nil],.arr 3 1 true (x.map ic),.arr 3 1 true (c.map ic)]⟩
def Znp:MFun:=mkF (Zh 196 Tryz.f196)
def Zfe(a b:Zb)(x:WA):Rs:=C 196 [.ptr 0 0] [.box [L 1 (a.Vars.map ic),L 1 (a.Rows.map isc),L 1 (b.Vars.map ic),L 1 (b.Rows.map isc),.own 1,.t .nil],.arr 3 1 true (x.map ic)]
def Zas(a b:Zb)(x:WA)(x1:XS)(a1 a2:WA):Rs:=C 195 [.ptr 0 0,L 1 (a1.map ic),L 1 (a2.map ic)] [.box [L 1 (a.Vars.map ic),L 1 (a.Rows.map isc),L 1 (b.Vars.map ic),L 1 (b.Rows.map isc),.own 1,.own 2],.arr 3 1 true (x.map ic),.arr 42 1 true (x1.map isc)]
def Zat(a b:Zb)(x:WA)(x1:XS)(c x2 y:WA)(x3 x4:Int):Rs:=EvL C [.blk 0,.seq Zfd,.fin 3 []] [0,1,2,6,16,17,18] Zfc ⟨[(0,.ptr 0 0),(1,L 1 (x2.map ic)),(2,L 1 (y.map ic)),(6,.own 3),(16,.own 1),(17,I x3),(18,I x4)],[[(0,.ptr 0 0),(1,.own 1),(2,.own 2)]],[.box [L 1 (a.Vars.map ic),L 1 (a.Rows.map isc),L 1 (b.Vars.map ic),L 1 (b.Rows.map isc),.own 1,.own 2],.arr 3 1 true (x.map ic),.arr 42 1 true (x1.map isc),.arr 3 1 true (c.map ic)]⟩
def Qp(a b:Zb)(x:WA)(x1:XS):Rs:=C 196 [.ptr 0 0] [.box [L 1 (a.Vars.map ic),L 1 (a.Rows.map isc),L 1 (b.Vars.map ic),L 1 (b.Rows.map isc),.own 1,.own 2],.arr 3 1 true (x.map ic),.arr 42 1 true (x1.map isc)]
def Zct:RawF (Zh 124 Tryz.f124):={ m:=_ }
def Zio:MCode:=cut0 Zct 32
def Zip:MCode:=cut0 Zct 44
def Ziq:MCode:=cut0 Zct 49
def Zcu:MCode:=cut3 Zct 17 15 Zio 27 Zip 32 Ziq
def Zcv:MCode:=cut0 Zct 50
def ZuW:MFun:=Zt Zct 17 Zcu 50 Zcv
def Zau(a a1:Zb):Rs:=C 124 [.agg (a.c.map .t),.agg (a1.c.map .t)] []
def Zff(a a1 b:Zb)(x:WA)(x1:XS)(x2 x3:Int):Rs:=EvL C [.blk 0,.seq Zcv,.fin 0 [.cell 4 (some 2),.tmp 5]] [2,4,6,24,25,26] Zcu ⟨[(2,.ptr 0 0),(4,.ptr 1 0),(6,.ptr 2 0),(24,L 1 (x1.map isc)),(25,I x2),(26,I x3)],[[]],[.box (a.c.map .t),.box [.t .nil,.t .nil],.box [L 1 (a1.Vars.map ic),L 1 (a1.Rows.map isc),L 1 (b.Vars.map ic),L 1 (b.Rows.map isc),.own 3,.t .nil],.arr 3 1 true (x.map ic)]⟩
def Zfg(a a1 b:Zb)(x y:WA)(x1:XS)(x2 x3:Int)(x4:XS)(x5 x6:Int):Rs:=EvL C [.blk 2,.seq Zip,.blk 1,.seq Ziq,.loop [2,4,6,24,25,26] Zcu,.blk 0,.seq Zcv,.fin 0 [.cell 4 (some 2),.tmp 5]] [2,4,6,8,24,25,26,31,32,33] Zio ⟨[(2,.ptr 0 0),(4,.ptr 1 0),(6,.ptr 2 0),(8,L 1 (y.map ic)),(24,L 1 (x1.map isc)),(25,I x2),(26,I x3),(31,L 1 (x4.map isc)),(32,I x5),(33,I x6)],[[]],[.box (a.c.map .t),.box [.t .nil,.t .nil],.box [L 1 (a1.Vars.map ic),L 1 (a1.Rows.map isc),L 1 (b.Vars.map ic),L 1 (b.Rows.map isc),.own 3,.t .nil],.arr 3 1 true (x.map ic)]⟩
def Zav(a a1 b:Zb)(x:WA)(x1:XS)(y:WA)(x2:XS)(x3 x4:Int)(x5:XS)(x6 x7:Int):Rs:=EvL C [.blk 2,.seq Zip,.blk 1,.seq Ziq,.loop [2,4,6,24,25,26] Zcu,.blk 0,.seq Zcv,.fin 0 [.cell 4 (some 2),.tmp 5]] [2,4,6,8,24,25,26,31,32,33] Zio ⟨[(2,.ptr 0 0),(4,.ptr 1 0),(6,.ptr 2 0),(8,L 1 (y.map ic)),(24,L 1 (x2.map isc)),(25,I x3),(26,I x4),(31,L 1 (x5.map isc)),(32,I x6),(33,I x7)],[[]],[.box (a.c.map .t),.box [.t .nil,.t .nil],.box [L 1 (a1.Vars.map ic),L 1 (a1.Rows.map isc),L 1 (b.Vars.map ic),L 1 (b.Rows.map isc),.own 3,.own 4],.arr 3 1 true (x.map ic),.arr 42 1 true (x1.map isc)]⟩
def Zfh(a a1 b:Zb)(x:WA)(x1 x2:XS)(x3 x4:Int):Rs:=EvL C [.blk 0,.seq Zcv,.fin 0 [.cell 4 (some 2),.tmp 5]] [2,4,6,24,25,26] Zcu ⟨[(2,.ptr 0 0),(4,.ptr 1 0),(6,.ptr 2 0),(24,L 1 (x2.map isc)),(25,I x3),(26,I x4)],[[]],[.box (a.c.map .t),.box [.t .nil,.t .nil],.box [L 1 (a1.Vars.map ic),L 1 (a1.Rows.map isc),L 1 (b.Vars.map ic),L 1 (b.Rows.map isc),.own 3,.own 4],.arr 3 1 true (x.map ic),.arr 42 1 true (x1.map isc)]⟩
def ZuX:MFun:=mkF (Zh 264 Tryz.f264)
def Znq(a a1:WA)(a2:Int):Rs:=C 264 [L 1 (a.map ic),L 1 (a1.map ic),.iptr [.int .i64 a2] 0] []
def Znr:RawF (Zh 263 Tryz.f263):={ m:=_ }
def Zns:MCode:=cut0 Znr 7
def Znt:MCode:=cut0 Znr 23
def ZuY:MFun:=Zt Znr 7 Zns 23 Znt
def Znu(a:XS)(a1:Int):Rs:=C 263 [L 1 (a.map isc),.fn 264 [.iptr [.int .i64 a1] 0]] []
def Zfi(x:XS)(c i:Int):Rs:=EvL C [.blk 0,.seq Znt,.fin 0 [.tmp 4]] [0,1,5] Zns ⟨[(0,L 1 (x.map isc)),(1,.fn 264 [.iptr [.int .i64 c] 0]),(5,I i)],[[]],[]⟩
def ZuZ:MFun:=mkF (Zh 197 Tryz.f197)
def Zfj(a:Zb)(a1:Int):Rs:=C 197 [.agg (a.c.map .t),I a1] []
def Zcw:RawF (Zh 126 Tryz.f126):={ m:=_ }
def Zir:MCode:=cut0 Zcw 32
def Zis:MCode:=cut0 Zcw 44
def Zit:MCode:=cut0 Zcw 49
def Zcx:MCode:=cut3 Zcw 17 15 Zir 27 Zis 32 Zit
def Zcy:MCode:=cut0 Zcw 50
def Zva:MFun:=Zt Zcw 17 Zcx 50 Zcy
def Qq(a a1:Zb):Rs:=C 126 [.agg (a.c.map .t),.agg (a1.c.map .t)] []
def Zfk(b a b1:Zb)(x:WA)(x1:XS)(x2 x3:Int):Rs:=EvL C [.blk 0,.seq Zcy,.fin 0 [.cell 4 (some 2),.tmp 5]] [3,4,6,24,25,26] Zcx ⟨[(3,.ptr 0 0),(4,.ptr 1 0),(6,.ptr 2 0),(24,L 1 (x1.map isc)),(25,I x2),(26,I x3)],[[]],[.box (b.c.map .t),.box [.t .nil,.t .nil],.box [L 1 (a.Vars.map ic),L 1 (a.Rows.map isc),L 1 (b1.Vars.map ic),L 1 (b1.Rows.map isc),.own 3,.t .nil],.arr 3 1 true (x.map ic)]⟩
def Zfl(b a b1:Zb)(x x1:WA)(x2:XS)(x3 x4:Int)(x5:XS)(x6 x7:Int):Rs:=EvL C [.blk 2,.seq Zis,.blk 1,.seq Zit,.loop [3,4,6,24,25,26] Zcx,.blk 0,.seq Zcy,.fin 0 [.cell 4 (some 2),.tmp 5]] [3,4,6,8,24,25,26,31,32,33] Zir ⟨[(3,.ptr 0 0),(4,.ptr 1 0),(6,.ptr 2 0),(8,L 1 (x1.map ic)),(24,L 1 (x2.map isc)),(25,I x3),(26,I x4),(31,L 1 (x5.map isc)),(32,I x6),(33,I x7)],[[]],[.box (b.c.map .t),.box [.t .nil,.t .nil],.box [L 1 (a.Vars.map ic),L 1 (a.Rows.map isc),L 1 (b1.Vars.map ic),L 1 (b1.Rows.map isc),.own 3,.t .nil],.arr 3 1 true (x.map ic)]⟩
def Zaw(b a b1:Zb)(x:WA)(x1:XS)(x2:WA)(x3:XS)(x4 x5:Int)(x6:XS)(x7 x8:Int):Rs:=EvL C [.blk 2,.seq Zis,.blk 1,.seq Zit,.loop [3,4,6,24,25,26] Zcx,.blk 0,.seq Zcy,.fin 0 [.cell 4 (some 2),.tmp 5]] [3,4,6,8,24,25,26,31,32,33] Zir ⟨[(3,.ptr 0 0),(4,.ptr 1 0),(6,.ptr 2 0),(8,L 1 (x2.map ic)),(24,L 1 (x3.map isc)),(25,I x4),(26,I x5),(31,L 1 (x6.map isc)),(32,I x7),(33,I x8)],[[]],[.box (b.c.map .t),.box [.t .nil,.t .nil],.box [L 1 (a.Vars.map ic),L 1 (a.Rows.map isc),L 1 (b1.Vars.map ic),L 1 (b1.Rows.map isc),.own 3,.own 4],.arr 3 1 true (x.map ic),.arr 42 1 true (x1.map isc)]⟩
def Zfm(b a b1:Zb)(x:WA)(x1 x2:XS)(x3 x4:Int):Rs:=EvL C [.blk 0,.seq Zcy,.fin 0 [.cell 4 (some 2),.tmp 5]] [3,4,6,24,25,26] Zcx ⟨[(3,.ptr 0 0),(4,.ptr 1 0),(6,.ptr 2 0),(24,L 1 (x2.map isc)),(25,I x3),(26,I x4)],[[]],[.box (b.c.map .t),.box [.t .nil,.t .nil],.box [L 1 (a.Vars.map ic),L 1 (a.Rows.map isc),L 1 (b1.Vars.map ic),L 1 (b1.Rows.map isc),.own 3,.own 4],.arr 3 1 true (x.map ic),.arr 42 1 true (x1.map isc)]⟩
def Zvb:MFun:=mkF (Zh 125 Tryz.f125)
def Zax(a a1:Zb)(a2:Int):Rs:=C 125 [.agg (a.c.map .t),.agg (a1.c.map .t),I a2] []
def Ziu:RawF (Zh 43 Tryz.f43):={ m:=_ }
def Zvc:MCode:=cut0 Ziu 52
def Znv:MCode:=cut1 Ziu 19 33 Zvc
def Znw:MCode:=cut0 Ziu 62
def Zvd:MFun:=Zt Ziu 19 Znv 62 Znw
def Zay(a:Zn)(a1:Ze)(a2:Zo):Rs:=C 43 [.agg (a.c.map .t),.agg (a1.c.map .t),.agg (a2.c.map .t)] []
def VD(db:Zn)(q:Ze)(cc:List Za)(fr:Bool)(cd:List Zb)(x:List Zj)(x1 x2:Int):Rs:=EvL C [.blk 0,.seq Znw,.fin 0 [.tmp 6,.tmp 7,.tmp 8]] [3,4,9,11,32,33,34] Znv ⟨[(3,.ptr 0 0),(4,.ptr 1 0),(9,.own 2),(11,.own 3),(32,L 3 (x.map Zj.c)),(33,I x1),(34,I x2)],[[]],[.box (db.c.map .t),.box (q.c.map .t),.arr 113 4 true (cc.map Za.c),.arr 102 2 fr (cd.map Zb.c)]⟩
def Zve:MFun:=mkF (Zh 54 Tryz.f54)
def VE(x:Zm):Rs:=C 54 [.ptr 0 0] [.box (x.c.map .t)]
def Zvf:MFun:=mkF (Zh 265 Tryz.f265)
def Ziv(x:Zr):Rs:=C 265 [.ptr 0 0] [.box (x.c.map .t)]
def Zfn:RawF (Zh 198 Tryz.f198):={ m:=_ }
def Znx:MCode:=cut0 Zfn 7
def Zny:MCode:=cut0 Zfn 30
def Znz:MCode:=cut0 Zfn 48
def Zn0:MCode:=cut2 Zfn 25 5 Zny 23 Znz
def Zvg:MFun:=Zt Zfn 7 Znx 25 Zn0
def XV(a:Zr):Rs:=C 198 [.agg (a.c.map .t)] []
def VF(o:Zr)(x x1:Int):Rs:=EvL C [.blk 0,.seq Zn0,.fin 0 [.tmp 2]] [1,7,8,9] Znx ⟨[(1,.ptr 0 0),(7,.bsl 1 5),(8,I x),(9,I x1)],[[]],[.box (o.c.map .t),.box [.ptr 0 0,.ptr 0 1,.ptr 0 2,.ptr 0 3,.ptr 0 4]]⟩
def KD(o:Zr)(x:List Zp)(x1 x2:Int):Rs:=EvL C [.blk 2,.seq Znz,.fin 0 [.tmp 2]] [1,20,21,22] Zny ⟨[(1,.ptr 0 0),(20,L 2 (x.map Zp.c)),(21,I x1),(22,I x2)],[[]],[.box (o.c.map .t)]⟩
def Zaz:RawF (Zh 200 Tryz.f200):={ m:=_ }
def Zn1:MCode:=cut0 Zaz 33
def Zn2:MCode:=cut0 Zaz 43
def Ziw:MCode:=cut2 Zaz 21 12 Zn1 22 Zn2
def Zix:MCode:=cut0 Zaz 44
def Zfo:MCode:=cut2 Zaz 9 12 Ziw 35 Zix
def Zfp:MCode:=cut0 Zaz 45
def Zvh:MFun:=Zt Zaz 9 Zfo 45 Zfp
def VG:Rs:=C 200 [] []
def Zcz(c:XS)(a:Int):Rs:=EvL C [.blk 0,.seq Zfp,.fin 0 [.tmp 0]] [1,2] Zfo ⟨[(1,.own 0),(2,I a)],[[]],[.arr 42 1 true (c.map isc)]⟩
def Za0(c:XS)(a b:Int):Rs:=EvL C [.blk 2,.blk 1,.seq Zix,.loop [1,2] Zfo,.blk 0,.seq Zfp,.fin 0 [.tmp 0]] [1,2,3] Ziw ⟨[(1,.own 0),(2,I a),(3,I b)],[[]],[.arr 42 1 true (c.map isc)]⟩
def Zc0(cc:XS)(a b c:Int):Rs:=EvL C [.blk 4,.blk 3,.seq Zn2,.loop [1,2,3] Ziw,.blk 2,.blk 1,.seq Zix,.loop [1,2] Zfo,.blk 0,.seq Zfp,.fin 0 [.tmp 0]] [1,2,3,4] Zn1 ⟨[(1,.own 0),(2,I a),(3,I b),(4,I c)],[[]],[.arr 42 1 true (cc.map isc)]⟩
def Zvi:MFun:=mkF (Zh 134 Tryz.f134)
def UJ(a:Int):Rs:=C 134 [I a] []
def Ziy:RawF (Zh 133 Tryz.f133):={ m:=_ }
def Zvj:MCode:=cut0 Ziy 24
def Zn3:MCode:=cut1 Ziy 9 15 Zvj
def Zn4:MCode:=cut0 Ziy 25
def Zvk:MFun:=Zt Ziy 9 Zn3 25 Zn4
def KE(a:Zr)(a1 a2 a3:Int):Rs:=C 133 [.agg (a.c.map .t),I a1,I a2,I a3] []
def Zc1(cd cc n:Int)(x:List Zp)(x1 x2:Int):Rs:=EvL C [.blk 0,.seq Zn4,.fin 0 [.tmp 8]] [1,2,9,37,38,39] Zn3 ⟨[(1,I cd),(2,I cc),(9,I n),(37,L 2 (x.map Zp.c)),(38,I x1),(39,I x2)],[[]],[]⟩
def Zvl:MFun:=mkF (Zh 201 Tryz.f201)
def UK(a:Zr)(a1:WA):Rs:=C 201 [.agg (a.c.map .t),L 1 (a1.map ic)] []
def Zc2:RawF (Zh 199 Tryz.f199):={ m:=_ }
def Zvm:MCode:=cut0 Zc2 56
def Zn5:MCode:=cut1 Zc2 29 27 Zvm
def Zn6:MCode:=cut0 Zc2 57
def Ziz:MCode:=cut2 Zc2 15 14 Zn5 42 Zn6
def Zi0:MCode:=cut0 Zc2 58
def Zvn:MFun:=Zt Zc2 15 Ziz 58 Zi0
def X5(a:Zr):Rs:=C 199 [.agg (a.c.map .t)] []
def KF(o:Zr)(x:XS)(x1 x2:Int):Rs:=EvL C [.blk 0,.seq Zi0,.fin 0 [.tmp 2,.tmp 3,.tmp 4]] [1,12,13,14] Ziz ⟨[(1,.ptr 0 0),(12,.own 1),(13,I x1),(14,I x2)],[[]],[.box (o.c.map .t),.arr 42 1 true (x.map isc)]⟩
def Us(o:Zr)(x:XS)(t:WA)(x1 x2 x3 x4:Int):Rs:=EvL C [.blk 2,.blk 1,.seq Zn6,.loop [1,12,13,14] Ziz,.blk 0,.seq Zi0,.fin 0 [.tmp 2,.tmp 3,.tmp 4]] [1,6,12,13,14,19,20] Zn5 ⟨[(1,.ptr 0 0),(6,L 1 (t.map ic)),(12,.own 1),(13,I x1),(14,I x2),(19,I x3),(20,I x4)],[[]],[.box (o.c.map .t),.arr 42 1 true (x.map isc)]⟩
def Zfq:RawF (Zh 127 Tryz.f127):={ m:=_ }
def Za1:MCode:=cut0 Zfq 41
def Za2:MCode:=cut0 Zfq 59
def KG:MCode:=cut2 Zfq 7 34 Za1 52 Za2
def KH:MCode:=cut0 Zfq 60
def Zvo:MFun:=Zt Zfq 7 KG 60 KH
def Zc3(a:Zm):Rs:=C 127 [.agg (a.c.map .t)] []
def Xh(x:Zm)(x1 x2:Int):Rs:=EvL C [.blk 0,.seq KH,.fin 0 [.tmp 2,.tmp 3,.tmp 4]] [13,14,15] KG ⟨[(13,.bsl 0 5),(14,I x1),(15,I x2)],[[]],[.box [.ptr 1 0,.ptr 1 6,.ptr 1 12,.ptr 1 18,.ptr 1 24],.box (x.c.map .t)]⟩
def KJ(o:Zm)(x:XS)(cc x1 x2 x3 x4:Int):Rs:=EvL C [.blk 2,.blk 1,.seq Za2,.loop [13,14,15] KG,.blk 0,.seq KH,.fin 0 [.tmp 2,.tmp 3,.tmp 4]] [6,7,13,14,15,40,41,42] Za1 ⟨[(6,.ptr 0 0),(7,I cc),(13,.bsl 1 5),(14,I x1),(15,I x2),(40,.own 2),(41,I x3),(42,I x4)],[[]],[.box (o.c.map .t),.box [.ptr 0 0,.ptr 0 6,.ptr 0 12,.ptr 0 18,.ptr 0 24],.arr 42 1 true (x.map isc)]⟩
def KK(o:Zm)(x:XS)(cc x1 x2 x3 x4:Int):Rs:=EvL C [.blk 2,.blk 1,.seq Za2,.loop [13,14,15] KG,.blk 0,.seq KH,.fin 0 [.tmp 2,.tmp 3,.tmp 4]] [6,7,13,14,15,40,41,42] Za1 ⟨[(6,.ptr 0 6),(7,I cc),(13,.bsl 1 5),(14,I x1),(15,I x2),(40,.own 2),(41,I x3),(42,I x4)],[[]],[.box (o.c.map .t),.box [.ptr 0 0,.ptr 0 6,.ptr 0 12,.ptr 0 18,.ptr 0 24],.arr 42 1 true (x.map isc)]⟩
def KL(o:Zm)(x:XS)(cc x1 x2 x3 x4:Int):Rs:=EvL C [.blk 2,.blk 1,.seq Za2,.loop [13,14,15] KG,.blk 0,.seq KH,.fin 0 [.tmp 2,.tmp 3,.tmp 4]] [6,7,13,14,15,40,41,42] Za1 ⟨[(6,.ptr 0 12),(7,I cc),(13,.bsl 1 5),(14,I x1),(15,I x2),(40,.own 2),(41,I x3),(42,I x4)],[[]],[.box (o.c.map .t),.box [.ptr 0 0,.ptr 0 6,.ptr 0 12,.ptr 0 18,.ptr 0 24],.arr 42 1 true (x.map isc)]⟩
def KM(o:Zm)(x:XS)(cc x1 x2 x3 x4:Int):Rs:=EvL C [.blk 2,.blk 1,.seq Za2,.loop [13,14,15] KG,.blk 0,.seq KH,.fin 0 [.tmp 2,.tmp 3,.tmp 4]] [6,7,13,14,15,40,41,42] Za1 ⟨[(6,.ptr 0 18),(7,I cc),(13,.bsl 1 5),(14,I x1),(15,I x2),(40,.own 2),(41,I x3),(42,I x4)],[[]],[.box (o.c.map .t),.box [.ptr 0 0,.ptr 0 6,.ptr 0 12,.ptr 0 18,.ptr 0 24],.arr 42 1 true (x.map isc)]⟩
def KN(o:Zm)(x:XS)(cc x1 x2 x3 x4:Int):Rs:=EvL C [.blk 2,.blk 1,.seq Za2,.loop [13,14,15] KG,.blk 0,.seq KH,.fin 0 [.tmp 2,.tmp 3,.tmp 4]] [6,7,13,14,15,40,41,42] Za1 ⟨[(6,.ptr 0 24),(7,I cc),(13,.bsl 1 5),(14,I x1),(15,I x2),(40,.own 2),(41,I x3),(42,I x4)],[[]],[.box (o.c.map .t),.box [.ptr 0 0,.ptr 0 6,.ptr 0 12,.ptr 0 18,.ptr 0 24],.arr 42 1 true (x.map isc)]⟩
def Zvp:MFun:=mkF (Zh 44 Tryz.f44)
def QR(a:Zm):Rs:=C 44 [.agg (a.c.map .t)] []
def Zi1:RawF (Zh 71 Tryz.f71):={ m:=_ }
def Zvq:MCode:=cut0 Zi1 24
def Zn7:MCode:=cut1 Zi1 9 15 Zvq
def Zn8:MCode:=cut0 Zi1 25
def Zvr:MFun:=Zt Zi1 9 Zn7 25 Zn8
def Zfr(a:Zo):Rs:=C 71 [.agg (a.c.map .t)] []
def Zc4(cc:WA)(x:List Zj)(x1 x2:Int):Rs:=EvL C [.blk 0,.seq Zn8,.fin 0 [.tmp 2]] [3,8,9,10] Zn7 ⟨[(3,.own 0),(8,L 3 (x.map Zj.c)),(9,I x1),(10,I x2)],[[]],[.arr 3 1 true (cc.map ic)]⟩
def Zvs:MFun:=mkF (Zh 73 Tryz.f73)
def Zi2(a:Zd)(a1:List Za)(a2:Int):Rs:=C 73 [.agg (a.c.map .t),.iptr [.lst 4 (a1.map Za.c)] 0,.iptr [.int .i64 a2] 0] []
def Zn9:RawF (Zh 72 Tryz.f72):={ m:=_ }
def ZnA:MCode:=cut0 Zn9 7
def ZnB:MCode:=cut0 Zn9 25
def Zvt:MFun:=Zt Zn9 7 ZnA 25 ZnB
def Zfs(a:List Zd)(a1:List Za)(a2:Int):Rs:=C 72 [L 2 (a.map Zd.c),.fn 73 [.iptr [.lst 4 (a1.map Za.c)] 0,.iptr [.int .i64 a2] 0]] []
def Zft(s:List Zd)(f:List Za)(f1 x x1:Int):Rs:=EvL C [.blk 0,.seq ZnB,.fin 0 [.tmp 4]] [0,1,7,8] ZnA ⟨[(0,L 2 (s.map Zd.c)),(1,.fn 73 [.iptr [.lst 4 (f.map Za.c)] 0,.iptr [.int .i64 f1] 0]),(7,I x),(8,I x1)],[[]],[]⟩
def Zvu:RawF (Zh 55 Tryz.f55):={ m:=_ }
def ZnC:MCode:=cut0 Zvu 14
def Zvv:MFun:=WT Zvu 14 ZnC
def Ut(a:Int):Rs:=C 55 [I a] []
def Zfu(n c:Int):Rs:=EvL C [.blk 0,.fin 0 [.tmp 2]] [0,3] ZnC ⟨[(0,I n),(3,I c)],[[]],[]⟩
def Zvw:MFun:=mkF (Zh 131 Tryz.f131)
def Wk(a:Int):Rs:=C 131 [I a] []
def Zvx:MFun:=mkF (Zh 132 Tryz.f132)
def X6(a:Zr)(a1 a2 a3:Int):Rs:=C 132 [.agg (a.c.map .t),I a1,I a2,I a3] []
def Zvy:MFun:=mkF (Zh 52 Tryz.f52)
def QS(a:Zm)(a1:Int):Rs:=C 52 [.agg (a.c.map .t),I a1] []
def QT:MFun:=mkF (Zh 74 Tryz.f74)
def Zfv(a:Zm)(a1 a2:Int):Rs:=C 74 [.agg (a.c.map .t),I a1,I a2] []
def ZnD:RawF (Zh 129 Tryz.f129):={ m:=_ }
def ZnE:MCode:=cut0 ZnD 5
def ZnF:MCode:=cut0 ZnD 13
def Zvz:MFun:=Zt ZnD 5 ZnE 13 ZnF
def Zi3(a:List Za)(a1:Int):Rs:=C 129 [L 4 (a.map Za.c),I a1] []
def Zfw(cc:List Za)(cd:Int):Rs:=EvL C [.blk 0,.seq ZnF,.fin 0 [.tmp 4]] [0,1] ZnE ⟨[(0,L 4 (cc.map Za.c)),(1,I cd)],[[]],[]⟩
def Zv0:MFun:=mkF (Zh 48 Tryz.f48)
def Zfx(a:List Za)(a1 a2:Int):Rs:=C 48 [L 4 (a.map Za.c),I a1,I a2] []
def Zv1:MFun:=mkF (Zh 75 Tryz.f75)
def ZnG(a:Int)(a1:List Za)(a2:Int):Rs:=C 75 [I a,.iptr [.lst 4 (a1.map Za.c)] 0,.iptr [.int .i64 a2] 0] []
def ZnH:RawF (Zh 128 Tryz.f128):={ m:=_ }
def Zi4:MCode:=cut0 ZnH 7
def Zi5:MCode:=cut0 ZnH 25
def Zv2:MFun:=Zt ZnH 7 Zi4 25 Zi5
def ZnI(a:WA)(a1:List Za)(a2:Int):Rs:=C 128 [L 1 (a.map ic),.fn 75 [.iptr [.lst 4 (a1.map Za.c)] 0,.iptr [.int .i64 a2] 0]] []
def Zfy(s:WA)(f:List Za)(f1 x x1:Int):Rs:=EvL C [.blk 0,.seq Zi5,.fin 0 [.tmp 4]] [0,1,7,8] Zi4 ⟨[(0,L 1 (s.map ic)),(1,.fn 75 [.iptr [.lst 4 (f.map Za.c)] 0,.iptr [.int .i64 f1] 0]),(7,I x),(8,I x1)],[[]],[]⟩
def Zv3:MFun:=mkF (Zh 46 Tryz.f46)
def Zi6(a:WA)(a1:List Za)(a2:Int):Rs:=C 46 [L 1 (a.map ic),.fn 75 [.iptr [.lst 4 (a1.map Za.c)] 0,.iptr [.int .i64 a2] 0]] []
def Za3:RawF (Zh 12 Tryz.f12):={ m:=_ }
def Zv4:MCode:=cut0 Za3 36
def ZnJ:MCode:=cut1 Za3 19 17 Zv4
def Zv5:MCode:=cut0 Za3 59
def ZnK:MCode:=cut1 Za3 44 15 Zv5
def ZnL:MCode:=cut0 Za3 60
def ZnM:MCode:=cut2 Za3 37 7 ZnK 23 ZnL
def Zv6:MFun:=Zt Za3 19 ZnJ 37 ZnM
def QU(a:Zm)(a1:Ze)(a2:Zo)(a3:List Zd):Rs:=C 12 [.agg (a.c.map .t),.agg (a1.c.map .t),.agg (a2.c.map .t),L 2 (a3.map Zd.c)] []
def Za4(m:Zm)(p:Zo)(x:List Za)(cc x1:WA)(cd:List Zd)(x2 x3:Int):Rs:=EvL C [.blk 0,.seq ZnM,.fin 0 [.tmp 8]] [3,4,6,9,11,33,34,35] ZnJ ⟨[(3,L 2 (cd.map Zd.c)),(4,.ptr 0 0),(6,.ptr 1 0),(9,.ptr 2 0),(11,.own 4),(33,.own 5),(34,I x2),(35,I x3)],[[]],[.box (m.c.map .t),.box (p.c.map .t),.box [.own 3],.arr 113 4 true (x.map Za.c),.arr 3 1 true (cc.map ic),.arr 3 1 true (x1.map ic)]⟩
def Za5(x:List Za)(cc cd:WA)(x1 x2:Int):Rs:=EvL C [.blk 2,.seq ZnL,.fin 0 [.tmp 8]] [9,11,15,65,66,67] ZnK ⟨[(9,.ptr 0 0),(11,.own 2),(15,.own 3),(65,.own 2),(66,I x1),(67,I x2)],[[]],[.box [.own 1],.arr 113 4 true (x.map Za.c),.arr 3 1 true (cc.map ic),.arr 3 1 true (cd.map ic)]⟩
def ZnN:RawF (Zh 50 Tryz.f50):={ m:=_ }
def Zv7:MCode:=cut0 ZnN 18
def Zv8:MCode:=cut1 ZnN 12 6 Zv7
def Zv9:MFun:=WT ZnN 12 Zv8
def QV(a:List Za)(a1:List Zb)(a2:Int):Rs:=C 50 [L 4 (a.map Za.c),L 2 (a1.map Zb.c),I a2] []
def Zc5:MFun:=mkF (Zh 51 Tryz.f51)
def Za6(a:Zm)(a1:Zo)(a2:List Za)(a3:List Zb)(a4:Int):Rs:=C 51 [.agg (a.c.map .t),.agg (a1.c.map .t),L 4 (a2.map Za.c),L 2 (a3.map Zb.c),I a4] []
def ZvA:MFun:=mkF (Zh 47 Tryz.f47)
def ZnO(a:Int)(a1:List Za)(a2:Int):Rs:=C 47 [I a,.iptr [.lst 4 (a1.map Za.c)] 0,.iptr [.int .i64 a2] 0] []
def ZnP(a:WA)(a1:List Za)(a2:Int):Rs:=C 128 [L 1 (a.map ic),.fn 47 [.iptr [.lst 4 (a1.map Za.c)] 0,.iptr [.int .i64 a2] 0]] []
def Zfz(s:WA)(f:List Za)(f1 x x1:Int):Rs:=EvL C [.blk 0,.seq Zi5,.fin 0 [.tmp 4]] [0,1,7,8] Zi4 ⟨[(0,L 1 (s.map ic)),(1,.fn 47 [.iptr [.lst 4 (f.map Za.c)] 0,.iptr [.int .i64 f1] 0]),(7,I x),(8,I x1)],[[]],[]⟩
def Za7(a:WA)(a1:List Za)(a2:Int):Rs:=C 46 [L 1 (a.map ic),.fn 47 [.iptr [.lst 4 (a1.map Za.c)] 0,.iptr [.int .i64 a2] 0]] []
def ZnQ:RawF (Zh 53 Tryz.f53):={ m:=_ }
def ZnR:MCode:=cut0 ZnQ 7
def ZnS:MCode:=cut0 ZnQ 15
def ZvB:MFun:=Zt ZnQ 7 ZnR 15 ZnS
def X1(a:Zr)(a1 a2 a3:Int):Rs:=C 53 [.agg (a.c.map .t),I a1,I a2,I a3] []
def Zf0(o:Zr)(cl cd cc k:Int):Rs:=EvL C [.blk 0,.seq ZnS,.fin 0 [.tmp 8]] [1,2,3,4,9] ZnR ⟨[(1,I cl),(2,I cd),(3,I cc),(4,.ptr 0 0),(9,I k)],[[]],[.box (o.c.map .t)]⟩
def Zf1:RawF (Zh 56 Tryz.f56):={ m:=_ }
def ZvC:MCode:=cut0 Zf1 29
def ZnT:MCode:=cut1 Zf1 11 18 ZvC
def ZvD:MCode:=cut0 Zf1 41
def ZnU:MCode:=cut1 Zf1 35 6 ZvD
def ZvE:MFun:=Zt Zf1 11 ZnT 35 ZnU
def UL(a:List Zd)(a1:Zd):Rs:=C 56 [L 2 (a.map Zd.c),.agg (a1.c.map .t)] []
def Qr(x:Zd)(cc:List Zd)(done:Bool)(x1:List Zd)(x2 x3:Int):Rs:=EvL C [.blk 0,.seq ZnU,.fin 0 [.tmp 4]] [3,5,6,10,11,12] ZnT ⟨[(3,.ptr 0 0),(5,.own 1),(6,Bo done),(10,L 2 (x1.map Zd.c)),(11,I x2),(12,I x3)],[[]],[.box (x.c.map .t),.arr 52 2 true (cc.map Zd.c)]⟩
def ZnV(x:XS):Rs:=C 204 [.own 0,.fn 205 []] [.arr 42 1 true (x.map isc)]
def ZnW(x:XS):Rs:=C 206 [.own 0,.fn 207 []] [.arr 42 1 true (x.map isc)]
def ZvF:MFun:=mkF (Zh 137 Tryz.f137)
def Zi7(a:XS):Rs:=C 137 [L 1 (a.map isc)] []
def ZvG:MFun:=mkF (Zh 57 Tryz.f57)
def UM(a:Zb):Rs:=C 57 [.agg (a.c.map .t)] []
def Zc6:RawF (Zh 8 Tryz.f8):={ m:=_ }
def WJ:MCode:=cut0 Zc6 67
def Xl:MCode:=cut1 Zc6 55 12 WJ
def Vu:MCode:=cut0 Zc6 92
def Zc7:MCode:=cut2 Zc6 23 32 Xl 69 Vu
def KO:MCode:=cut0 Zc6 93
def ZvH:MFun:=Zt Zc6 23 Zc7 93 KO
def Za8(a:Zm)(a1:Zn)(a2:Ze)(a3:Zo)(a4:Int)(a5:List Zd):Rs:=C 8 [.agg (a.c.map .t),.agg (a1.c.map .t),.agg (a2.c.map .t),.agg (a3.c.map .t),I a4,L 2 (a5.map Zd.c)] []
def ZvI(m:Zm)(p:Zo)(cu:Bool)(cp co:Int)(x:List Zd)(x1:List Za)(fr:Bool)(l:List Zb)(cn:Bool)(cl cc cd:Int)(x2:List Zj)(x3 x4:Int):Rs:=EvL C [.blk 0,.seq KO,.fin 0 [.cellO 12 (some 6) [none,none,none,some (3,0),some (1,0),some (1,0)],.tmpO 13 [some (2,0)],.tmpO 14 [none]]] [4,6,9,12,15,16,17,19,20,69,70,71] Zc7 ⟨[(4,I cd),(6,.ptr 0 0),(9,.ptr 1 0),(12,.ptr 2 0),(15,.own 3),(16,.ptr 4 0),(17,.own 6),(19,.t .nil),(20,.ptr 7 0),(69,L 3 (x2.map Zj.c)),(70,I x3),(71,I x4)],[[]],[.box (m.c.map .t),.box (p.c.map .t),.box [Bo cu,I cp,I co,.t .nil,.t .nil,.t .nil],.arr 52 2 true (x.map Zd.c),.box [.own 5],.arr 113 4 true (x1.map Za.c),.arr 102 2 fr (l.map Zb.c),.box [Bo cn,I cl,I cc,.t .nil,.t .nil,.t .nil]]⟩
def UN(m:Zm)(p:Zo)(cv:Bool)(cu cp:Int)(x:List Zd)(x1:List Za)(fr:Bool)(l:List Zb)(cl:WA)(co:Bool)(cn cc cd:Int)(x2:List Zj)(x3 x4:Int):Rs:=EvL C [.blk 0,.seq KO,.fin 0 [.cellO 12 (some 6) [none,none,none,some (3,0),some (1,0),some (1,0)],.tmpO 13 [some (2,0)],.tmpO 14 [none]]] [4,6,9,12,15,16,17,19,20,69,70,71] Zc7 ⟨[(4,I cd),(6,.ptr 0 0),(9,.ptr 1 0),(12,.ptr 2 0),(15,.own 3),(16,.ptr 4 0),(17,.own 6),(19,.own 7),(20,.ptr 8 0),(69,L 3 (x2.map Zj.c)),(70,I x3),(71,I x4)],[[]],[.box (m.c.map .t),.box (p.c.map .t),.box [Bo cv,I cu,I cp,.t .nil,.t .nil,.t .nil],.arr 52 2 true (x.map Zd.c),.box [.own 5],.arr 113 4 true (x1.map Za.c),.arr 102 2 fr (l.map Zb.c),.arr 3 1 true (cl.map ic),.box [Bo co,I cn,I cc,.t .nil,.t .nil,.t .nil]]⟩
def X2(m:Zm)(p:Zo)(cv:Bool)(cu cp:Int)(x:List Zd)(x1:List Za)(fr:Bool)(l:List Zb)(cl:WA)(co:Bool)(cn cc:Int)(x2:List Zg)(cd:Int)(x3:List Zj)(x4 x5:Int):Rs:=EvL C [.blk 0,.seq KO,.fin 0 [.cellO 12 (some 6) [none,none,none,some (3,0),some (1,0),some (1,0)],.tmpO 13 [some (2,0)],.tmpO 14 [none]]] [4,6,9,12,15,16,17,19,20,69,70,71] Zc7 ⟨[(4,I cd),(6,.ptr 0 0),(9,.ptr 1 0),(12,.ptr 2 0),(15,.own 3),(16,.ptr 4 0),(17,.own 6),(19,.own 7),(20,.ptr 8 0),(69,L 3 (x3.map Zj.c)),(70,I x4),(71,I x5)],[[]],[.box (m.c.map .t),.box (p.c.map .t),.box [Bo cv,I cu,I cp,.t .nil,.t .nil,.t .nil],.arr 52 2 true (x.map Zd.c),.box [.own 5],.arr 113 4 true (x1.map Za.c),.arr 102 2 fr (l.map Zb.c),.arr 3 1 true (cl.map ic),.box [Bo co,I cn,I cc,.own 9,.t .nil,.t .nil],.arr 115 3 true (x2.map Zg.c)]⟩
def ZnX:RawF (Zh 208 Tryz.f208):={ m:=_ }
def ZnY:MCode:=cut0 ZnX 7
def ZnZ:MCode:=cut0 ZnX 23
def ZvJ:MFun:=Zt ZnX 7 ZnY 23 ZnZ
def Zf2(a:Zc)(a1:Int):Rs:=C 208 [.agg (a.c.map .t),I a1] []
def Zf3(a:Zc)(v k:Int):Rs:=EvL C [.blk 0,.seq ZnZ,.fin 0 [.tmp 4]] [1,2,5] ZnY ⟨[(1,I v),(2,.ptr 0 0),(5,I k)],[[]],[.box (a.c.map .t)]⟩
def Zc8:RawF (Zh 138 Tryz.f138):={ m:=_ }
def Zf4:MCode:=cut0 Zc8 34
def Zf5:MCode:=cut0 Zc8 44
def Zf6:MCode:=cut0 Zc8 45
def KP:MCode:=cut3 Zc8 19 15 Zf4 25 Zf5 26 Zf6
def KQ:MCode:=cut0 Zc8 46
def ZvK:MFun:=Zt Zc8 19 KP 46 KQ
def Za9(a:Zn)(a1:Ze)(a2:Int):Rs:=C 138 [.agg (a.c.map .t),.agg (a1.c.map .t),I a2] []
def Zoa(q:Ze)(cd:V5)(cc:Int)(x:WA)(i k:Int):Rs:=EvL C [.blk 0,.seq KQ,.fin 0 [.cell 6 (some 2),.tmp 7]] [2,4,6,8,10,11] KP ⟨[(2,I i),(4,.ptr 0 0),(6,.ptr 1 0),(8,.ptr 2 0),(10,.ptr 3 0),(11,I k)],[[]],[.box (q.c.map .t),.box [.t .nil,.t .nil],.box [.t (.str cd),I cc,.t .nil],.box [.own 4,.t .nil],.arr 3 1 true (x.map ic)]⟩
def Zob(q:Ze)(cd:V5)(cc:Int)(x:XS)(x1:WA)(i k:Int):Rs:=EvL C [.blk 0,.seq KQ,.fin 0 [.cell 6 (some 2),.tmp 7]] [2,4,6,8,10,11] KP ⟨[(2,I i),(4,.ptr 0 0),(6,.ptr 1 0),(8,.ptr 2 0),(10,.ptr 4 0),(11,I k)],[[]],[.box (q.c.map .t),.box [.t .nil,.t .nil],.box [.t (.str cd),I cc,.own 3],.arr 42 1 true (x.map isc),.box [.own 5,.t .nil],.arr 3 1 true (x1.map ic)]⟩
def ZvL(q:Ze)(cd:V5)(cc:Int)(x cl:WA)(i k j:Int):Rs:=EvL C [.blk 2,.seq Zf5,.blk 1,.seq Zf6,.loop [2,4,6,8,10,11] KP,.blk 0,.seq KQ,.fin 0 [.cell 6 (some 2),.tmp 7]] [2,4,6,8,10,11,12,13] Zf4 ⟨[(2,I i),(4,.ptr 0 0),(6,.ptr 1 0),(8,.ptr 2 0),(10,.ptr 3 0),(11,I k),(12,.own 5),(13,I j)],[[]],[.box (q.c.map .t),.box [.t .nil,.t .nil],.box [.t (.str cd),I cc,.t .nil],.box [.own 4,.t .nil],.arr 3 1 true (x.map ic),.arr 3 1 true (cl.map ic)]⟩
def Zf7(q:Ze)(cd:V5)(cc:Int)(x:XS)(x1 cl:WA)(i k j:Int):Rs:=EvL C [.blk 2,.seq Zf5,.blk 1,.seq Zf6,.loop [2,4,6,8,10,11] KP,.blk 0,.seq KQ,.fin 0 [.cell 6 (some 2),.tmp 7]] [2,4,6,8,10,11,12,13] Zf4 ⟨[(2,I i),(4,.ptr 0 0),(6,.ptr 1 0),(8,.ptr 2 0),(10,.ptr 4 0),(11,I k),(12,.own 6),(13,I j)],[[]],[.box (q.c.map .t),.box [.t .nil,.t .nil],.box [.t (.str cd),I cc,.own 3],.arr 42 1 true (x.map isc),.box [.own 5,.t .nil],.arr 3 1 true (x1.map ic),.arr 3 1 true (cl.map ic)]⟩
def ZaA(q:Ze)(cd:V5)(cc:Int)(x:XS)(x1:WA)(x2:XS)(i k:Int):Rs:=EvL C [.blk 0,.seq KQ,.fin 0 [.cell 6 (some 2),.tmp 7]] [2,4,6,8,10,11] KP ⟨[(2,I i),(4,.ptr 0 0),(6,.ptr 1 0),(8,.ptr 2 0),(10,.ptr 4 0),(11,I k)],[[]],[.box (q.c.map .t),.box [.t .nil,.t .nil],.box [.t (.str cd),I cc,.own 3],.arr 42 1 true (x.map isc),.box [.own 5,.own 6],.arr 3 1 true (x1.map ic),.arr 42 1 true (x2.map isc)]⟩
def Zf8(q:Ze)(cd:V5)(cc:Int)(x:XS)(x1:WA)(x2:XS)(cl:WA)(i k j:Int):Rs:=EvL C [.blk 2,.seq Zf5,.blk 1,.seq Zf6,.loop [2,4,6,8,10,11] KP,.blk 0,.seq KQ,.fin 0 [.cell 6 (some 2),.tmp 7]] [2,4,6,8,10,11,12,13] Zf4 ⟨[(2,I i),(4,.ptr 0 0),(6,.ptr 1 0),(8,.ptr 2 0),(10,.ptr 4 0),(11,I k),(12,.own 7),(13,I j)],[[]],[.box (q.c.map .t),.box [.t .nil,.t .nil],.box [.t (.str cd),I cc,.own 3],.arr 42 1 true (x.map isc),.box [.own 5,.own 6],.arr 3 1 true (x1.map ic),.arr 42 1 true (x2.map isc),.arr 3 1 true (cl.map ic)]⟩
def Zoc:RawF (Zh 209 Tryz.f209):={ m:=_ }
def Zod:MCode:=cut0 Zoc 7
def Zoe:MCode:=cut0 Zoc 23
def ZvM:MFun:=Zt Zoc 7 Zod 23 Zoe
def VH(a:WA)(a1:Int):Rs:=C 209 [L 1 (a.map ic),I a1] []
def Zf9(l:WA)(v i:Int):Rs:=EvL C [.blk 0,.seq Zoe,.fin 0 [.tmp 4]] [0,1,5] Zod ⟨[(0,L 1 (l.map ic)),(1,I v),(5,I i)],[[]],[]⟩
def ZfA:RawF (Zh 145 Tryz.f145):={ m:=_ }
def Zof:MCode:=cut0 ZfA 7
def Zog:MCode:=cut0 ZfA 28
def Zoh:MCode:=cut0 ZfA 44
def Zoi:MCode:=cut2 ZfA 23 5 Zog 21 Zoh
def ZvN:MFun:=Zt ZfA 7 Zof 23 Zoi
def Uu(a:Zb):Rs:=C 145 [.agg (a.c.map .t)] []
def Zc9(s:Zb)(i:Int):Rs:=EvL C [.blk 0,.seq Zoi,.fin 0 [.tmp 2]] [1,3] Zof ⟨[(1,.ptr 0 0),(3,I i)],[[]],[.box (s.c.map .t)]⟩
def ZfB(s:Zb)(i:Int):Rs:=EvL C [.blk 2,.seq Zoh,.fin 0 [.tmp 2]] [1,4] Zog ⟨[(1,.ptr 0 0),(4,I i)],[[]],[.box (s.c.map .t)]⟩
def ZcA:RawF (Zh 139 Tryz.f139):={ m:=_ }
def ZvO:MCode:=cut0 ZcA 44
def Zi8:MCode:=cut1 ZcA 31 13 ZvO
def Zi9:MCode:=cut0 ZcA 45
def ZcB:MCode:=cut2 ZcA 19 12 Zi8 26 Zi9
def ZcC:MCode:=cut0 ZcA 46
def ZvP:MFun:=Zt ZcA 19 ZcB 46 ZcC
def ZaB(a:Zb)(a1:Int):Rs:=C 139 [.agg (a.c.map .t),I a1] []
def ZfC(s:Zb)(x:WA)(x1 cc:Int):Rs:=EvL C [.blk 0,.seq ZcC,.fin 0 [.cell 4 (some 2),.tmp 5]] [2,4,6,7,8] ZcB ⟨[(2,.ptr 0 0),(4,.ptr 1 0),(6,I x1),(7,.ptr 2 0),(8,I cc)],[[]],[.box (s.c.map .t),.box [.t .nil,.t .nil],.box [.own 3,.t .nil],.arr 3 1 true (x.map ic)]⟩
def ZfD(s:Zb)(x:WA)(x1 cc i:Int):Rs:=EvL C [.blk 2,.blk 1,.seq Zi9,.loop [2,4,6,7,8] ZcB,.blk 0,.seq ZcC,.fin 0 [.cell 4 (some 2),.tmp 5]] [2,4,6,7,8,9] Zi8 ⟨[(2,.ptr 0 0),(4,.ptr 1 0),(6,I x1),(7,.ptr 2 0),(8,I cc),(9,I i)],[[]],[.box (s.c.map .t),.box [.t .nil,.t .nil],.box [.own 3,.t .nil],.arr 3 1 true (x.map ic)]⟩
def KR(s:Zb)(x:WA)(x1:XS)(x2 cc i:Int):Rs:=EvL C [.blk 2,.blk 1,.seq Zi9,.loop [2,4,6,7,8] ZcB,.blk 0,.seq ZcC,.fin 0 [.cell 4 (some 2),.tmp 5]] [2,4,6,7,8,9] Zi8 ⟨[(2,.ptr 0 0),(4,.ptr 1 0),(6,I x2),(7,.ptr 2 0),(8,I cc),(9,I i)],[[]],[.box (s.c.map .t),.box [.t .nil,.t .nil],.box [.own 3,.own 4],.arr 3 1 true (x.map ic),.arr 42 1 true (x1.map isc)]⟩
def ZiA(s:Zb)(x:WA)(x1:XS)(x2 cc:Int):Rs:=EvL C [.blk 0,.seq ZcC,.fin 0 [.cell 4 (some 2),.tmp 5]] [2,4,6,7,8] ZcB ⟨[(2,.ptr 0 0),(4,.ptr 1 0),(6,I x2),(7,.ptr 2 0),(8,I cc)],[[]],[.box (s.c.map .t),.box [.t .nil,.t .nil],.box [.own 3,.own 4],.arr 3 1 true (x.map ic),.arr 42 1 true (x1.map isc)]⟩
def ZiB:RawF (Zh 212 Tryz.f212):={ m:=_ }
def ZvQ:MCode:=cut0 ZiB 22
def Zoj:MCode:=cut1 ZiB 9 13 ZvQ
def Zok:MCode:=cut0 ZiB 23
def ZvR:MFun:=Zt ZiB 9 Zoj 23 Zok
def KT(a a1:WA):Rs:=C 212 [L 1 (a.map ic),L 1 (a1.map ic)] []
def ZaC(c a b:WA)(v:Int):Rs:=EvL C [.blk 0,.seq Zok,.fin 0 [.tmp 4]] [0,1,5,6] Zoj ⟨[(0,L 1 (a.map ic)),(1,L 1 (b.map ic)),(5,.own 0),(6,I v)],[[]],[.arr 3 1 true (c.map ic)]⟩
def Zol:RawF (Zh 269 Tryz.f269):={ m:=_ }
def Zom:MCode:=cut0 Zol 7
def Zon:MCode:=cut0 Zol 25
def ZvS:MFun:=Zt Zol 7 Zom 25 Zon
def Xs(a a1 a2 a3:WA):Rs:=C 269 [L 1 (a.map ic),L 1 (a1.map ic),L 1 (a2.map ic),L 1 (a3.map ic)] []
def ZcD(a x b y:WA)(i:Int):Rs:=EvL C [.blk 0,.seq Zon,.fin 0 [.tmp 8]] [0,1,2,3,9] Zom ⟨[(0,L 1 (a.map ic)),(1,L 1 (x.map ic)),(2,L 1 (b.map ic)),(3,L 1 (y.map ic)),(9,I i)],[[]],[]⟩
def ZiC:RawF (Zh 270 Tryz.f270):={ m:=_ }
def ZvT:MCode:=cut0 ZiC 24
def Zoo:MCode:=cut1 ZiC 9 15 ZvT
def Zop:MCode:=cut0 ZiC 25
def ZvU:MFun:=Zt ZiC 9 Zoo 25 Zop
def Xt(a a1 a2 a3 a4:WA):Rs:=C 270 [L 1 (a.map ic),L 1 (a1.map ic),L 1 (a2.map ic),L 1 (a3.map ic),L 1 (a4.map ic)] []
def ZcE(cc c a x b y:WA)(i:Int):Rs:=EvL C [.blk 0,.seq Zop,.fin 0 [.tmp 10]] [0,1,2,3,4,11,12] Zoo ⟨[(0,L 1 (c.map ic)),(1,L 1 (a.map ic)),(2,L 1 (x.map ic)),(3,L 1 (b.map ic)),(4,L 1 (y.map ic)),(11,.own 0),(12,I i)],[[]],[.arr 3 1 true (cc.map ic)]⟩
def ZaD:RawF (Zh 211 Tryz.f211):={ m:=_ }
def Zoq:MCode:=cut0 ZaD 53
def ZaE:MCode:=cut1 ZaD 33 20 Zoq
def ZaF:MCode:=cut0 ZaD 59
def UO:MCode:=cut2 ZaD 21 12 ZaE 38 ZaF
def UP:MCode:=cut0 ZaD 60
def Zor:MCode:=cut2 ZaD 16 5 UO 44 UP
def Zos:MFun:=WT ZaD 16 Zor
def Uv(x:WA)(a a1:Zb)(a2:Bool)(a3 a4:Int):Rs:=C 211 [.agg (a.c.map .t),.agg (a1.c.map .t),Bo a2,I a3,I a4,.agg [.own 0,.t .nil]] [.arr 3 1 true (x.map ic)]
def ZcF(a b:Zb)(x:WA)(cl:Bool)(only x1 cd cc i:Int):Rs:=EvL C [.blk 0,.seq UP,.fin 1 [.cell 12 (some 2)]] [2,4,6,7,11,12,13,14,15,16] UO ⟨[(2,Bo cl),(4,I only),(6,.ptr 0 0),(7,.ptr 1 0),(11,.ptr 2 0),(12,.ptr 4 0),(13,I x1),(14,I cd),(15,I cc),(16,I i)],[[(0,.own 3)]],[.box (a.c.map .t),.box (b.c.map .t),.box [.own 3,.t .nil],.arr 3 1 true (x.map ic),.box [.t .nil,.t .nil]]⟩
def UQ(a b:Zb)(x:WA)(cl:Bool)(only x1 cd cc i k:Int):Rs:=EvL C [.blk 2,.blk 1,.seq ZaF,.loop [2,4,6,7,11,12,13,14,15,16] UO,.blk 0,.seq UP,.fin 1 [.cell 12 (some 2)]] [2,4,6,7,11,12,13,14,15,16,17] ZaE ⟨[(2,Bo cl),(4,I only),(6,.ptr 0 0),(7,.ptr 1 0),(11,.ptr 2 0),(12,.ptr 4 0),(13,I x1),(14,I cd),(15,I cc),(16,I i),(17,I k)],[[(0,.own 3)]],[.box (a.c.map .t),.box (b.c.map .t),.box [.own 3,.t .nil],.arr 3 1 true (x.map ic),.box [.t .nil,.t .nil]]⟩
def XW(a b:Zb)(x:WA)(x1:XS)(cl:Bool)(only x2 cd cc i k:Int):Rs:=EvL C [.blk 2,.blk 1,.seq ZaF,.loop [2,4,6,7,11,12,13,14,15,16] UO,.blk 0,.seq UP,.fin 1 [.cell 12 (some 2)]] [2,4,6,7,11,12,13,14,15,16,17] ZaE ⟨[(2,Bo cl),(4,I only),(6,.ptr 0 0),(7,.ptr 1 0),(11,.ptr 2 0),(12,.ptr 5 0),(13,I x2),(14,I cd),(15,I cc),(16,I i),(17,I k)],[[(0,.own 3)]],[.box (a.c.map .t),.box (b.c.map .t),.box [.own 3,.own 4],.arr 3 1 true (x.map ic),.arr 42 1 true (x1.map isc),.box [.t .nil,.t .nil]]⟩
def ZcG(a b:Zb)(x:WA)(x1:XS)(cl:Bool)(only x2 cd cc i:Int):Rs:=EvL C [.blk 0,.seq UP,.fin 1 [.cell 12 (some 2)]] [2,4,6,7,11,12,13,14,15,16] UO ⟨[(2,Bo cl),(4,I only),(6,.ptr 0 0),(7,.ptr 1 0),(11,.ptr 2 0),(12,.ptr 5 0),(13,I x2),(14,I cd),(15,I cc),(16,I i)],[[(0,.own 3)]],[.box (a.c.map .t),.box (b.c.map .t),.box [.own 3,.own 4],.arr 3 1 true (x.map ic),.arr 42 1 true (x1.map isc),.box [.t .nil,.t .nil]]⟩
def ZvV:MFun:=mkF (Zh 210 Tryz.f210)
def ZcH(x:WA):Rs:=C 210 [.agg [.own 0,.t .nil]] [.arr 3 1 true (x.map ic)]
def Qs(x:WA)(x1:XS):Rs:=C 210 [.agg [.own 0,.own 1]] [.arr 3 1 true (x.map ic),.arr 42 1 true (x1.map isc)]
def ZvW:MFun:=mkF (Zh 140 Tryz.f140)
def ZaG(a a1:Zb):Rs:=C 140 [.agg (a.c.map .t),.agg (a1.c.map .t)] []
def ZvX:MFun:=mkF (Zh 141 Tryz.f141)
def ZaH(a a1:Zb):Rs:=C 141 [.agg (a.c.map .t),.agg (a1.c.map .t)] []
def Zot:RawF (Zh 213 Tryz.f213):={ m:=_ }
def Zou:MCode:=cut0 Zot 17
def Zov:MCode:=cut0 Zot 33
def ZvY:MFun:=Zt Zot 17 Zou 33 Zov
def ZcI(a:Zb)(a1:Int):Rs:=C 213 [.agg (a.c.map .t),I a1] []
def ZfE(s:Zb)(x i:Int):Rs:=EvL C [.blk 0,.seq Zov,.fin 0 [.tmp 4]] [2,5,6] Zou ⟨[(2,.ptr 0 0),(5,I x),(6,I i)],[[]],[.box (s.c.map .t)]⟩
def ZfF(x:WA)(x1:XS)(a a1:Zb)(a2:Bool)(a3 a4:Int):Rs:=C 211 [.agg (a.c.map .t),.agg (a1.c.map .t),Bo a2,I a3,I a4,.agg [.own 0,.own 1]] [.arr 3 1 true (x.map ic),.arr 42 1 true (x1.map isc)]
def ZaI(a b:Zb)(x:WA)(x1:XS)(cl:Bool)(only x2 cd cc i:Int):Rs:=EvL C [.blk 0,.seq UP,.fin 2 [.cell 12 (some 2)]] [2,4,6,7,11,12,13,14,15,16] UO ⟨[(2,Bo cl),(4,I only),(6,.ptr 0 0),(7,.ptr 1 0),(11,.ptr 2 0),(12,.ptr 5 0),(13,I x2),(14,I cd),(15,I cc),(16,I i)],[[(0,.own 3),(1,.own 4)]],[.box (a.c.map .t),.box (b.c.map .t),.box [.own 3,.own 4],.arr 3 1 true (x.map ic),.arr 42 1 true (x1.map isc),.box [.t .nil,.t .nil]]⟩
def UR(a b:Zb)(x:WA)(x1:XS)(cl:Bool)(only x2 cd cc i k:Int):Rs:=EvL C [.blk 2,.blk 1,.seq ZaF,.loop [2,4,6,7,11,12,13,14,15,16] UO,.blk 0,.seq UP,.fin 2 [.cell 12 (some 2)]] [2,4,6,7,11,12,13,14,15,16,17] ZaE ⟨[(2,Bo cl),(4,I only),(6,.ptr 0 0),(7,.ptr 1 0),(11,.ptr 2 0),(12,.ptr 5 0),(13,I x2),(14,I cd),(15,I cc),(16,I i),(17,I k)],[[(0,.own 3),(1,.own 4)]],[.box (a.c.map .t),.box (b.c.map .t),.box [.own 3,.own 4],.arr 3 1 true (x.map ic),.arr 42 1 true (x1.map isc),.box [.t .nil,.t .nil]]⟩
def XX(a b:Zb)(x:WA)(x1:XS)(cl:Bool)(only x2 cd cc i k:Int):Rs:=EvL C [.blk 2,.blk 1,.seq ZaF,.loop [2,4,6,7,11,12,13,14,15,16] UO,.blk 0,.seq UP,.fin 2 [.cell 12 (some 2)]] [2,4,6,7,11,12,13,14,15,16,17] ZaE ⟨[(2,Bo cl),(4,I only),(6,.ptr 0 0),(7,.ptr 1 0),(11,.ptr 2 0),(12,.ptr 5 0),(13,I x2),(14,I cd),(15,I cc),(16,I i),(17,I k)],[[(0,.own 3),(1,.own 6)]],[.box (a.c.map .t),.box (b.c.map .t),.box [.own 3,.own 4],.arr 3 1 true (x.map ic),.arr 42 1 true (x1.map isc),.box [.t .nil,.t .nil],.dead]⟩
def ZcJ(a b:Zb)(x:WA)(x1:XS)(cl:Bool)(only x2 cd cc i:Int):Rs:=EvL C [.blk 0,.seq UP,.fin 2 [.cell 12 (some 2)]] [2,4,6,7,11,12,13,14,15,16] UO ⟨[(2,Bo cl),(4,I only),(6,.ptr 0 0),(7,.ptr 1 0),(11,.ptr 2 0),(12,.ptr 5 0),(13,I x2),(14,I cd),(15,I cc),(16,I i)],[[(0,.own 3),(1,.own 6)]],[.box (a.c.map .t),.box (b.c.map .t),.box [.own 3,.own 4],.arr 3 1 true (x.map ic),.arr 42 1 true (x1.map isc),.box [.t .nil,.t .nil],.dead]⟩
def Zow:RawF (Zh 142 Tryz.f142):={ m:=_ }
def ZiD:MCode:=cut0 Zow 17
def ZiE:MCode:=cut0 Zow 27
def ZvZ:MFun:=Zt Zow 17 ZiD 27 ZiE
def ZcK(a a1:Zb)(a2:Int):Rs:=C 142 [.agg (a.c.map .t),.agg (a1.c.map .t),I a2] []
def ZfG(a b:Zb)(x:WA)(v cc:Int):Rs:=EvL C [.blk 0,.seq ZiE,.fin 0 [.cell 6 (some 2),.tmp 7]] [2,3,4,6,8,9] ZiD ⟨[(2,I v),(3,.ptr 0 0),(4,.ptr 1 0),(6,.ptr 2 0),(8,.ptr 3 0),(9,I cc)],[[]],[.box (a.c.map .t),.box (b.c.map .t),.box [.t .nil,.t .nil],.box [.own 4,.t .nil],.arr 3 1 true (x.map ic)]⟩
def ZcL(a b:Zb)(x:WA)(x1:XS)(v cc:Int):Rs:=EvL C [.blk 0,.seq ZiE,.fin 0 [.cell 6 (some 2),.tmp 7]] [2,3,4,6,8,9] ZiD ⟨[(2,I v),(3,.ptr 0 0),(4,.ptr 1 0),(6,.ptr 2 0),(8,.ptr 3 0),(9,I cc)],[[]],[.box (a.c.map .t),.box (b.c.map .t),.box [.t .nil,.t .nil],.box [.own 4,.own 5],.arr 3 1 true (x.map ic),.arr 42 1 true (x1.map isc)]⟩
def ZiF:RawF (Zh 58 Tryz.f58):={ m:=_ }
def Zwa:MCode:=cut0 ZiF 50
def Zox:MCode:=cut1 ZiF 19 31 Zwa
def Zoy:MCode:=cut0 ZiF 52
def Zwb:MFun:=Zt ZiF 19 Zox 52 Zoy
def KV(a:Zn)(a1:Ze)(a2:Zo):Rs:=C 58 [.agg (a.c.map .t),.agg (a1.c.map .t),.agg (a2.c.map .t)] []
def Wf(d:Zn)(q:Ze)(p:Zo)(cc:List Za)(cd:List Zb)(i:Int):Rs:=EvL C [.blk 0,.seq Zoy,.fin 0 [.tmp 6,.tmp 7,.tmp 8]] [3,4,5,9,11,12] Zox ⟨[(3,.ptr 0 0),(4,.ptr 1 0),(5,.ptr 2 0),(9,.own 3),(11,.own 4),(12,I i)],[[]],[.box (d.c.map .t),.box (q.c.map .t),.box (p.c.map .t),.arr 113 4 true (cc.map Za.c),.arr 102 2 true (cd.map Zb.c)]⟩
def Zwc:MFun:=mkF (Zh 79 Tryz.f79)
def Qt(a:Zm)(a1:Int):Rs:=C 79 [.agg (a.c.map .t),I a1] []
def Zwd:MFun:=mkF (Zh 223 Tryz.f223)
def Qu(a:Int):Rs:=C 223 [I a] []
def Zoz:RawF (Zh 150 Tryz.f150):={ m:=_ }
def Zo0:MCode:=cut0 Zoz 15
def Zo1:MCode:=cut0 Zoz 31
def Zwe:MFun:=Zt Zoz 15 Zo0 31 Zo1
def ZaJ(a:Zr):Rs:=C 150 [.agg (a.c.map .t)] []
def ZaK(o:Zr)(i:Int):Rs:=EvL C [.blk 0,.seq Zo1,.fin 0 [.tmp 2]] [1,3] Zo0 ⟨[(1,.ptr 0 0),(3,I i)],[[]],[.box (o.c.map .t)]⟩
def Zo2:RawF (Zh 144 Tryz.f144):={ m:=_ }
def Zo3:MCode:=cut0 Zo2 17
def Zo4:MCode:=cut0 Zo2 27
def Zwf:MFun:=Zt Zo2 17 Zo3 27 Zo4
def US(a:Int):Rs:=C 144 [I a] []
def ZcM(k n i:Int):Rs:=EvL C [.blk 0,.seq Zo4,.fin 0 [.tmp 2]] [0,3,4] Zo3 ⟨[(0,I k),(3,I n),(4,I i)],[[]],[]⟩
def ZiG:RawF (Zh 78 Tryz.f78):={ m:=_ }
def Zwg:MCode:=cut0 ZiG 30
def Zo5:MCode:=cut1 ZiG 17 13 Zwg
def Zo6:MCode:=cut0 ZiG 31
def Zwh:MFun:=Zt ZiG 17 Zo5 31 Zo6
def Uw(a:Zr)(a1 a2 a3:Int):Rs:=C 78 [.agg (a.c.map .t),I a1,I a2,I a3] []
def ZaL(o:Zr)(l cc n i:Int):Rs:=EvL C [.blk 0,.seq Zo6,.fin 0 [.tmp 8]] [1,2,4,9,10] Zo5 ⟨[(1,I l),(2,I cc),(4,.ptr 0 0),(9,I n),(10,I i)],[[]],[.box (o.c.map .t)]⟩
def Zwi:MFun:=mkF (Zh 271 Tryz.f271)
def ZcN(a:Zr)(a1:WA):Rs:=C 271 [.agg (a.c.map .t),L 1 (a1.map ic)] []
end
end Go.Proofs.YtgbipcfdgfjplaaGreat
