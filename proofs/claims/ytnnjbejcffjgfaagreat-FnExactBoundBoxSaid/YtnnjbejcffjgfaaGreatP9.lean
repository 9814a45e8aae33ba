/-
  Parts of the proofs for this seat: D2.
-/
import Derived.Test.YtnnjbejcffjgfaaGreatP7
set_option linter.unusedSectionVars false
set_option linter.unusedSimpArgs false
set_option linter.unusedVariables false
set_option maxRecDepth 100000
set_option maxHeartbeats 4000000
set_option cbv.maxSteps 9999999
namespace Go.Proofs.YtnnjbejcffjgfaaGreat
open Go.AM
noncomputable section
def Zmq:RawF (rawF 290 Tryz.f290):={ m:=_ }
def Zbs8:MCode:=cut0 Zmq 41
def Zbc0:MCode:=cut1 Zmq 25 16 Zbs8
def Zbs9:MCode:=cut0 Zmq 75
def Zvd:MCode:=cut1 Zmq 52 23 Zbs9
def Zve:MCode:=cut0 Zmq 76
def Zbc1:MCode:=cut2 Zmq 43 9 Zvd 33 Zve
def Zbta:MFun:=Zn Zmq 25 Zbc0 43 Zbc1
def Zmr(a:Zm)(a1 a2:Int):Rs:=C 290 [.agg (a.c.map .t),I a1,I a2] []
def Zp0(d:Zm)(cl:Int)(cd:Za)(x:Z4)(a cc:Za)(x1 x2:List Int)(x3 x4 x5:List Za)(cn:Int)(x6:List Za)(x7 x8:Int):Rs:=EvL C [.blk 0,.seq Zbc1,.fin 0 [.cellO 6 (some 7) [some (3,1),some (3,1),some (179,1),some (149,2),some (149,2),none,none],.tmpO 7 [none]]] [1,3,5,6,8,9,10,11,70,71,72] Zbc0 ⟨[(1,I cn),(3,.ptr 0 0),(5,.ptr 1 0),(6,.ptr 2 0),(8,.ptr 3 0),(9,.ptr 5 0),(10,.ptr 6 0),(11,.ptr 11 0),(70,L 2 (x6.map Za.c)),(71,I x7),(72,I x8)],[[]],[.box (d.c.map .t),.box [I cl],.box [.t .nil,.t .nil,.t .nil,.t .nil,.t .nil,I cd.Num,I cd.Den],.box [.ptr 4 0],.box (x.c.map .t),.box (a.c.map .t),.box [.own 7,.own 8,.t .nil,.own 9,.own 10,I cc.Num,I cc.Den],.arr 3 1 true (x1.map ic),.arr 3 1 true (x2.map ic),.arr 149 2 true (x3.map Za.c),.arr 149 2 true (x4.map Za.c),.box [.own 12],.arr 149 2 true (x5.map Za.c)]⟩
def Z2b(d:Zm)(cl:Int)(cd:Za)(x:Z4)(cc:Za)(x1 x2:List Int)(x3 x4 x5:List Za)(limit x6:Za)(cn:Int)(x7:List (List Za))(x8 x9:Int):Rs:=EvL C [.blk 2,.seq Zve,.fin 0 [.cellO 6 (some 7) [some (3,1),some (3,1),some (179,1),some (149,2),some (149,2),none,none],.tmpO 7 [none]]] [1,3,5,6,8,10,11,14,15,99,100,101] Zvd ⟨[(1,I cn),(3,.ptr 0 0),(5,.ptr 1 0),(6,.ptr 2 0),(8,.ptr 3 0),(10,.ptr 5 0),(11,.ptr 10 0),(14,.ptr 12 0),(15,.fn 322 [.ptr 1 0,.ptr 3 0,.ptr 13 0,.ptr 10 0]),(99,L 1 (x7.map (lc 2 Za.c))),(100,I x8),(101,I x9)],[[]],[.box (d.c.map .t),.box [I cl],.box [.t .nil,.t .nil,.t .nil,.t .nil,.t .nil,I cd.Num,I cd.Den],.box [.ptr 4 0],.box (x.c.map .t),.box [.own 6,.own 7,.t .nil,.own 8,.own 9,I cc.Num,I cc.Den],.arr 3 1 true (x1.map ic),.arr 3 1 true (x2.map ic),.arr 149 2 true (x3.map Za.c),.arr 149 2 true (x4.map Za.c),.box [.own 11],.arr 149 2 true (x5.map Za.c),.box (limit.c.map .t),.box (x6.c.map .t)]⟩
def Zms(d:Zm)(cn:Int)(cl:Za)(x:Z4)(cc:Za)(x1 x2:List Int)(fr:Bool)(x3:List (List Za))(x4 x5 cd:List Za)(limit x6:Za)(co:Int)(x7:List (List Za))(x8 x9:Int):Rs:=EvL C [.blk 2,.seq Zve,.fin 0 [.cellO 6 (some 7) [some (3,1),some (3,1),some (179,1),some (149,2),some (149,2),none,none],.tmpO 7 [none]]] [1,3,5,6,8,10,11,14,15,99,100,101] Zvd ⟨[(1,I co),(3,.ptr 0 0),(5,.ptr 1 0),(6,.ptr 2 0),(8,.ptr 3 0),(10,.ptr 5 0),(11,.ptr 11 0),(14,.ptr 12 0),(15,.fn 322 [.ptr 1 0,.ptr 3 0,.ptr 13 0,.ptr 11 0]),(99,L 1 (x7.map (lc 2 Za.c))),(100,I x8),(101,I x9)],[[]],[.box (d.c.map .t),.box [I cn],.box [.t .nil,.t .nil,.t .nil,.t .nil,.t .nil,I cl.Num,I cl.Den],.box [.ptr 4 0],.box (x.c.map .t),.box [.own 6,.own 7,.own 8,.own 9,.own 10,I cc.Num,I cc.Den],.arr 3 1 true (x1.map ic),.arr 3 1 true (x2.map ic),.arr 179 1 fr (x3.map (lc 2 Za.c)),.arr 149 2 true (x4.map Za.c),.arr 149 2 true (x5.map Za.c),.box [L 2 (cd.map Za.c)],.box (limit.c.map .t),.box (x6.c.map .t)]⟩
def Zvf(d:Zm)(cl:Int)(cd:Za)(x:Z4)(cc:Za)(x1 x2:List Int)(x3:List (List Za))(x4 x5 x6:List Za)(limit x7:Za)(cn:Int)(x8:List (List Za))(x9 co:Int):Rs:=EvL C [.blk 2,.seq Zve,.fin 0 [.cellO 6 (some 7) [some (3,1),some (3,1),some (179,1),some (149,2),some (149,2),none,none],.tmpO 7 [none]]] [1,3,5,6,8,10,11,14,15,99,100,101] Zvd ⟨[(1,I cn),(3,.ptr 0 0),(5,.ptr 1 0),(6,.ptr 2 0),(8,.ptr 3 0),(10,.ptr 5 0),(11,.ptr 11 0),(14,.ptr 13 0),(15,.fn 322 [.ptr 1 0,.ptr 3 0,.ptr 14 0,.ptr 11 0]),(99,L 1 (x8.map (lc 2 Za.c))),(100,I x9),(101,I co)],[[]],[.box (d.c.map .t),.box [I cl],.box [.t .nil,.t .nil,.t .nil,.t .nil,.t .nil,I cd.Num,I cd.Den],.box [.ptr 4 0],.box (x.c.map .t),.box [.own 6,.own 7,.own 8,.own 9,.own 10,I cc.Num,I cc.Den],.arr 3 1 true (x1.map ic),.arr 3 1 true (x2.map ic),.arr 179 1 true (x3.map (lc 2 Za.c)),.arr 149 2 true (x4.map Za.c),.arr 149 2 true (x5.map Za.c),.box [.own 12],.arr 149 2 true (x6.map Za.c),.box (limit.c.map .t),.box (x7.c.map .t)]⟩
def Zio:RawF (rawF 256 Tryz.f256):={ m:=_ }
def Zbc2:MCode:=cut0 Zio 17
def Zbtb:MCode:=cut0 Zio 71
def Zbc3:MCode:=cut1 Zio 56 15 Zbtb
def Zbtc:MCode:=cut0 Zio 92
def Zbc4:MCode:=cut1 Zio 77 15 Zbtc
def Zbc5:MCode:=cut0 Zio 93
def Zbc6:MCode:=cut2 Zio 72 5 Zbc4 21 Zbc5
def Zbc7:MCode:=cut2 Zio 47 9 Zbc3 25 Zbc6
def Zbtd:MFun:=Zn Zio 17 Zbc2 47 Zbc7
def Zvg(a:Program):Rs:=C 256 [.agg (a.c.map .t)] []
def Zge(p:Program)(cc:Za)(d:Zm)(cd:Int):Rs:=EvL C [.blk 0,.seq Zbc7,.fin 0 [.cellO 2 (some 4) [none,none,some (149,2),some (149,2)],.tmpO 3 [none]]] [1,2,4,6] Zbc2 ⟨[(1,.ptr 0 0),(2,.ptr 1 0),(4,.ptr 2 0),(6,I cd)],[[]],[.box (p.c.map .t),.box [I cc.Num,I cc.Den,.t .nil,.t .nil],.box (d.c.map .t)]⟩
def Zmt(cd:Za)(d:Zm)(cc:Za)(x x1:List Za)(n:Int)(x2:List Int)(x3 x4:Int):Rs:=EvL C [.blk 2,.seq Zbc6,.fin 0 [.cellO 2 (some 4) [none,none,some (149,2),some (149,2)],.tmpO 3 [none]]] [2,4,9,10,65,66,67] Zbc3 ⟨[(2,.ptr 0 0),(4,.ptr 1 0),(9,I n),(10,.ptr 2 0),(65,L 1 (x2.map ic)),(66,I x3),(67,I x4)],[[]],[.box [I cd.Num,I cd.Den,.t .nil,.t .nil],.box (d.c.map .t),.box [I cc.Num,I cc.Den,.own 3,.own 4],.arr 149 2 true (x.map Za.c),.arr 149 2 true (x1.map Za.c)]⟩
def Zp1(cd:Za)(d:Zm)(cc:Za)(x x1:List Za)(n:Int)(x2:List Int)(x3 x4:Int):Rs:=EvL C [.blk 4,.seq Zbc5,.fin 0 [.cellO 2 (some 4) [none,none,some (149,2),some (149,2)],.tmpO 3 [none]]] [2,4,9,10,86,87,88] Zbc4 ⟨[(2,.ptr 0 0),(4,.ptr 1 0),(9,I n),(10,.ptr 2 0),(86,L 1 (x2.map ic)),(87,I x3),(88,I x4)],[[]],[.box [I cd.Num,I cd.Den,.t .nil,.t .nil],.box (d.c.map .t),.box [I cc.Num,I cc.Den,.own 3,.own 4],.arr 149 2 true (x.map Za.c),.arr 149 2 true (x1.map Za.c)]⟩
def Zbte:MFun:=mkF (rawF 218 Tryz.f218)
def Z2c(a:Zh)(a1:Zc)(a2:Int):Rs:=C 218 [.agg (a.c.map .t),.agg (a1.c.map .t),I a2] []
def Zbtf:MFun:=mkF (rawF 175 Tryz.f175)
def Z2d(a:Zh)(a1:Zc)(a2:Int):Rs:=C 175 [.agg (a.c.map .t),.agg (a1.c.map .t),I a2] []
def Zbtg:RawF (rawF 220 Tryz.f220):={ m:=_ }
def Zbth:MCode:=cut0 Zbtg 18
def Zbti:MFun:=Zbb Zbtg 18 Zbth
def Z2e(a:Za):Rs:=C 220 [.agg (a.c.map .t)] []
def Zbc8:RawF (rawF 221 Tryz.f221):={ m:=_ }
def Zbc9:MCode:=cut0 Zbc8 7
def Zbda:MCode:=cut0 Zbc8 25
def Zbtj:MFun:=Zn Zbc8 7 Zbc9 25 Zbda
def Z2f(a a1 a2:Int):Rs:=C 221 [I a,I a1,I a2] []
def Zvh(k c cc p:Int):Rs:=EvL C [.blk 0,.seq Zbda,.fin 0 [.tmp 6]] [0,1,2,7] Zbc9 ⟨[(0,I k),(1,I c),(2,I cc),(7,I p)],[[]],[]⟩
def Zbdb:RawF (rawF 176 Tryz.f176):={ m:=_ }
def Zbdc:MCode:=cut0 Zbdb 39
def Zbdd:MCode:=cut0 Zbdb 47
def Zbtk:MFun:=Zn Zbdb 39 Zbdc 47 Zbdd
def Z2g(a:Za):Rs:=C 176 [.agg (a.c.map .t)] []
def Zvi(r_1:Za)(k:Int):Rs:=EvL C [.blk 0,.seq Zbdd,.fin 0 [.tmp 2]] [1,3] Zbdc ⟨[(1,.ptr 0 0),(3,I k)],[[]],[.box (r_1.c.map .t)]⟩
def Zbtl:MFun:=mkF (rawF 124 Tryz.f124)
def Zvj(a:Zh)(a1:Zc)(a2:Int):Rs:=C 124 [.agg (a.c.map .t),.agg (a1.c.map .t),I a2] []
def Zbde:RawF (rawF 80 Tryz.f80):={ m:=_ }
def Zbtm:MCode:=cut0 Zbde 18
def Zbtn:MCode:=cut1 Zbde 12 6 Zbtm
def Zbto:MFun:=Zbb Zbde 12 Zbtn
def Z2h(a:Zh)(a1:Zc)(a2:Int):Rs:=C 80 [.agg (a.c.map .t),.agg (a1.c.map .t),I a2] []
def Z2i:RawF (rawF 41 Tryz.f41):={ m:=_ }
def Zbtp:MCode:=cut0 Z2i 24
def Zbdf:MCode:=cut1 Z2i 9 15 Zbtp
def Zbdg:MCode:=cut0 Z2i 25
def Zbtq:MFun:=Zn Z2i 9 Zbdf 25 Zbdg
def Zvk(a:Zh)(a1:Zc)(a2:Int):Rs:=C 41 [.agg (a.c.map .t),.agg (a1.c.map .t),I a2] []
def Zkk(x:List Int)(c cc x1 x2:Int):Rs:=EvL C [.blk 0,.seq Zbdg,.fin 0 [.tmp 6,.tmp 7]] [8,9,15,16,17] Zbdf ⟨[(8,I c),(9,I cc),(15,.own 0),(16,I x1),(17,I x2)],[[]],[.arr 3 1 true (x.map ic)]⟩
def Zbtr:MFun:=mkF (rawF 131 Tryz.f131)
def Zip(a:ByteArray):Rs:=C 131 [.t (.str a)] []
def Zbts:MFun:=mkF (rawF 88 Tryz.f88)
def Z0(a a1 a2:Int):Rs:=C 88 [I a,I a1,I a2] []
def Zbdh:RawF (rawF 258 Tryz.f258):={ m:=_ }
def Zbdi:MCode:=cut0 Zbdh 7
def Zbdj:MCode:=cut0 Zbdh 23
def Zbtt:MFun:=Zn Zbdh 7 Zbdi 23 Zbdj
def Zvl(a:List Int)(a1:Int):Rs:=C 258 [L 1 (a.map ic),I a1] []
def Zvm(c:List Int)(n i:Int):Rs:=EvL C [.blk 0,.seq Zbdj,.fin 0 [.tmp 4]] [0,1,5] Zbdi ⟨[(0,L 1 (c.map ic)),(1,I n),(5,I i)],[[]],[]⟩
def Zbdk:RawF (rawF 195 Tryz.f195):={ m:=_ }
def Zbdl:MCode:=cut0 Zbdk 7
def Z2j:MCode:=cut0 Zbdk 31
def Zbtu:MFun:=Zn Zbdk 7 Zbdl 31 Z2j
def Zd1(a a1:List Int):Rs:=C 195 [L 1 (a.map ic),L 1 (a1.map ic)] []
def Zvn(a b:List Int)(i:Int):Rs:=EvL C [.blk 0,.seq Z2j,.fin 0 [.tmp 4]] [0,1,5] Zbdl ⟨[(0,L 1 (a.map ic)),(1,L 1 (b.map ic)),(5,I i)],[[]],[]⟩
def Zvo(a b:List Int)(i:Int)(x:Bool):Rs:=Ev C [.fin 0 [.tmp 4]] Z2j ⟨[(0,L 1 (a.map ic)),(1,L 1 (b.map ic)),(5,I i),(15,Bo x)],[[]],[]⟩
def Zbdm:RawF (rawF 223 Tryz.f223):={ m:=_ }
def Zvp:MCode:=cut0 Zbdm 15
def Zvq:MCode:=cut0 Zbdm 31
def Zbdn:MFun:=Zn Zbdm 15 Zvp 31 Zvq
def Zhp(a:Ze):Rs:=C 223 [.agg (a.c.map .t)] []
def Zp2(t:Ze)(i:Int):Rs:=EvL C [.blk 0,.seq Zvq,.fin 0 [.tmp 2]] [1,3] Zvp ⟨[(1,.ptr 0 0),(3,I i)],[[]],[.box (t.c.map .t)]⟩
def Zbdo:RawF (rawF 179 Tryz.f179):={ m:=_ }
def Zbdp:MCode:=cut0 Zbdo 7
def Zbdq:MCode:=cut0 Zbdo 23
def Zbtv:MFun:=Zn Zbdo 7 Zbdp 23 Zbdq
def Zmu(a:Zi):Rs:=C 179 [.agg (a.c.map .t)] []
def Zp3(d:Zi)(i:Int):Rs:=EvL C [.blk 0,.seq Zbdq,.fin 0 [.tmp 2]] [1,3] Zbdp ⟨[(1,.ptr 0 0),(3,I i)],[[]],[.box (d.c.map .t)]⟩
def Z2k:RawF (rawF 259 Tryz.f259):={ m:=_ }
def Zbtw:MCode:=cut0 Z2k 22
def Zbdr:MCode:=cut1 Z2k 9 13 Zbtw
def Zbds:MCode:=cut0 Z2k 23
def Zbtx:MFun:=Zn Z2k 9 Zbdr 23 Zbds
def Zeq(a:Int):Rs:=C 259 [I a] []
def Zmv(c:List Int)(m v:Int):Rs:=EvL C [.blk 0,.seq Zbds,.fin 0 [.tmp 2]] [0,3,4] Zbdr ⟨[(0,I m),(3,.own 0),(4,I v)],[[]],[.arr 3 1 true (c.map ic)]⟩
def Zbdt:RawF (rawF 224 Tryz.f224):={ m:=_ }
def Zbdu:MCode:=cut0 Zbdt 9
def Zbdv:MCode:=cut0 Zbdt 19
def Zbty:MFun:=Zn Zbdt 9 Zbdu 19 Zbdv
def Zvr(a:Int):Rs:=C 224 [I a] []
def Zmw(c:List (List Int))(n m:Int):Rs:=EvL C [.blk 0,.seq Zbdv,.fin 0 [.tmp 2]] [0,3,4] Zbdu ⟨[(0,I n),(3,.own 0),(4,I m)],[[]],[.arr 56 1 true (c.map isc)]⟩
def Zbdw:RawF (rawF 260 Tryz.f260):={ m:=_ }
def Zvs:MCode:=cut0 Zbdw 7
def Zvt:MCode:=cut0 Zbdw 23
def Zbdx:MFun:=Zn Zbdw 7 Zvs 23 Zvt
def Zp4(a:Ze)(a1:List Int):Rs:=C 260 [.agg (a.c.map .t),L 1 (a1.map ic)] []
def Zp5(t:Ze)(cc:List Int)(i:Int):Rs:=EvL C [.blk 0,.seq Zvt,.fin 0 [.tmp 4]] [1,2,5] Zvs ⟨[(1,L 1 (cc.map ic)),(2,.ptr 0 0),(5,I i)],[[]],[.box (t.c.map .t)]⟩
def Zbdy:RawF (rawF 261 Tryz.f261):={ m:=_ }
def Zbdz:MCode:=cut0 Zbdy 9
def Zbd0:MCode:=cut0 Zbdy 27
def Zbtz:MFun:=Zn Zbdy 9 Zbdz 27 Zbd0
def Zkl(a a1:List Int):Rs:=C 261 [L 1 (a.map ic),L 1 (a1.map ic)] []
def Zvu(cc cd c:List Int)(i:Int):Rs:=EvL C [.blk 0,.seq Zbd0,.fin 0 [.tmp 4,.tmp 5]] [0,1,6,7] Zbdz ⟨[(0,L 1 (cd.map ic)),(1,L 1 (c.map ic)),(6,.own 0),(7,I i)],[[]],[.arr 3 1 true (cc.map ic)]⟩
def Zp6:RawF (rawF 262 Tryz.f262):={ m:=_ }
def Zbt0:MCode:=cut0 Zp6 35
def Zbt1:MCode:=cut1 Zp6 27 8 Zbt0
def Zvv:MCode:=cut1 Zp6 11 16 Zbt1
def Zbd1:MCode:=cut0 Zp6 43
def Zvw:MCode:=cut1 Zp6 37 6 Zbd1
def Zbd2:MFun:=Zn Zp6 11 Zvv 37 Zvw
def Zp7(a:List (List Int))(a1:List Int):Rs:=C 262 [L 1 (a.map isc),L 1 (a1.map ic)] []
def Ziq(cc c:List (List Int))(cl:List Int)(cd:Bool)(i:Int):Rs:=EvL C [.blk 0,.seq Zvw,.fin 0 [.tmp 4]] [0,1,5,6,7] Zvv ⟨[(0,L 1 (c.map isc)),(1,L 1 (cl.map ic)),(5,.own 0),(6,Bo cd),(7,I i)],[[]],[.arr 56 1 true (cc.map isc)]⟩
def Zir:RawF (rawF 225 Tryz.f225):={ m:=_ }
def Zbd3:MCode:=cut0 Zir 19
def Zbt2:MCode:=cut0 Zir 66
def Zbd4:MCode:=cut1 Zir 51 15 Zbt2
def Zbd5:MCode:=cut0 Zir 67
def Zbd6:MCode:=cut0 Zir 68
def Z2l:MCode:=cut3 Zir 36 15 Zbd4 31 Zbd5 32 Zbd6
def Z2m:MCode:=cut0 Zir 69
def Zbd7:MCode:=cut2 Zir 31 5 Z2l 38 Z2m
def Zbt3:MFun:=Zn Zir 19 Zbd3 31 Zbd7
def Zp8(a:Ze)(a1:List Int):Rs:=C 225 [.agg (a.c.map .t),L 1 (a1.map ic)] []
def Zvx(t:Ze)(cd:List (List Int))(cc cl:List Int)(i:Int):Rs:=EvL C [.blk 0,.seq Zbd7,.fin 0 [.tmp 4,.tmp 5]] [1,2,6,7,8] Zbd3 ⟨[(1,L 1 (cl.map ic)),(2,.ptr 0 0),(6,.own 1),(7,.own 2),(8,I i)],[[]],[.box (t.c.map .t),.arr 56 1 true (cd.map isc),.arr 3 1 true (cc.map ic)]⟩
def Zp9(t:Ze)(cd:List (List Int))(cc cl:List Int)(k:Int):Rs:=EvL C [.blk 2,.seq Z2m,.fin 0 [.tmp 4,.tmp 5]] [1,2,6,7,11] Z2l ⟨[(1,L 1 (cl.map ic)),(2,.ptr 0 0),(6,.own 1),(7,.own 2),(11,I k)],[[]],[.box (t.c.map .t),.arr 56 1 true (cd.map isc),.arr 3 1 true (cc.map ic)]⟩
def Zqa(t:Ze)(cd:List (List Int))(cc cl:List Int)(k n i:Int):Rs:=EvL C [.blk 4,.seq Zbd5,.blk 3,.seq Zbd6,.loop [1,2,6,7,11] Z2l,.blk 2,.seq Z2m,.fin 0 [.tmp 4,.tmp 5]] [1,2,6,7,11,12,13] Zbd4 ⟨[(1,L 1 (cl.map ic)),(2,.ptr 0 0),(6,.own 1),(7,.own 2),(11,I k),(12,I n),(13,I i)],[[]],[.box (t.c.map .t),.arr 56 1 true (cd.map isc),.arr 3 1 true (cc.map ic)]⟩
def Zbd8:RawF (rawF 180 Tryz.f180):={ m:=_ }
def Z2n:MCode:=cut0 Zbd8 19
def Z2o:MCode:=cut0 Zbd8 31
def Zbt4:MFun:=Zn Zbd8 19 Z2n 31 Z2o
def Zhq(a:Ze):Rs:=C 180 [.agg (a.c.map .t)] []
def Zbd9(t:Ze)(cp:ByteArray)(cn cd:Int)(co:ByteArray)(cl cc:Int)(l:List (List Int))(i:Int):Rs:=EvL C [.blk 0,.seq Z2o,.fin 0 [.cell 2 (some 4)]] [1,2,3,4,5] Z2n ⟨[(1,.ptr 0 0),(2,.ptr 1 0),(3,.ptr 2 0),(4,.own 3),(5,I i)],[[]],[.box (t.c.map .t),.box [.t (.str cp),I cn,I cd,.t .nil],.box [.t (.str co),I cl,I cc,.t .nil],.arr 56 1 true (l.map isc)]⟩
def Zvy(t:Ze)(cp:ByteArray)(cn cd:Int)(co:ByteArray)(cl cc:Int)(fr:Bool)(x:List Zg)(l:List (List Int))(i:Int):Rs:=EvL C [.blk 0,.seq Z2o,.fin 0 [.cell 2 (some 4)]] [1,2,3,4,5] Z2n ⟨[(1,.ptr 0 0),(2,.ptr 1 0),(3,.ptr 2 0),(4,.own 4),(5,I i)],[[]],[.box (t.c.map .t),.box [.t (.str cp),I cn,I cd,.t .nil],.box [.t (.str co),I cl,I cc,.own 3],.arr 200 3 fr (x.map Zg.c),.arr 56 1 true (l.map isc)]⟩
def Zbea:RawF (rawF 127 Tryz.f127):={ m:=_ }
def Z2p:MCode:=cut0 Zbea 17
def Z2q:MCode:=cut0 Zbea 29
def Zbt5:MFun:=Zn Zbea 17 Z2p 29 Z2q
def Zqb(a:Zi)(a1:Int):Rs:=C 127 [.agg (a.c.map .t),I a1] []
def Zbeb(d:Zi)(cd cc i:Int):Rs:=EvL C [.blk 0,.seq Z2q,.fin 0 [.cell 4 (some 2),.tmp 5]] [2,4,6,7] Z2p ⟨[(2,.ptr 0 0),(4,.ptr 1 0),(6,.ptr 2 0),(7,I i)],[[]],[.box (d.c.map .t),.box [I cd,.t .nil],.box [I cc,.t .nil]]⟩
def Zmx(d:Zi)(cd cc:Int)(fr:Bool)(x:List Zf)(i:Int):Rs:=EvL C [.blk 0,.seq Z2q,.fin 0 [.cell 4 (some 2),.tmp 5]] [2,4,6,7] Z2p ⟨[(2,.ptr 0 0),(4,.ptr 1 0),(6,.ptr 2 0),(7,I i)],[[]],[.box (d.c.map .t),.box [I cd,.t .nil],.box [I cc,.own 3],.arr 141 4 fr (x.map Zf.c)]⟩
def Zbec:RawF (rawF 128 Tryz.f128):={ m:=_ }
def Zvz:MCode:=cut0 Zbec 15
def Zv0:MCode:=cut0 Zbec 31
def Zbed:MFun:=Zn Zbec 15 Zvz 31 Zv0
def Zv1(cc:Int)(a:Zl):Rs:=C 128 [.agg [I cc,.t .nil],.agg (a.c.map .t)] []
def Zbee(cc:Int)(b:Zl)(i:Int):Rs:=EvL C [.blk 0,.seq Zv0,.fin 0 [.tmp 4]] [2,3,5] Zvz ⟨[(2,.ptr 0 0),(3,.ptr 1 0),(5,I i)],[[]],[.box [I cc,.t .nil],.box (b.c.map .t)]⟩
def Zbef:RawF (rawF 184 Tryz.f184):={ m:=_ }
def Z2r:MCode:=cut0 Zbef 9
def Z2s:MCode:=cut0 Zbef 19
def Zbt6:MFun:=Zn Zbef 9 Z2r 19 Z2s
def Zv2(a:Ze):Rs:=C 184 [.agg (a.c.map .t)] []
def Zbeg(t:Ze)(cn:ByteArray)(cd:Int)(cl:ByteArray)(cc i:Int):Rs:=EvL C [.blk 0,.seq Z2s,.fin 0 [.cell 2 (some 3)]] [1,2,3,4] Z2r ⟨[(1,.ptr 0 0),(2,.ptr 1 0),(3,.ptr 2 0),(4,I i)],[[]],[.box (t.c.map .t),.box [.t (.str cn),I cd,.t .nil],.box [.t (.str cl),I cc,.t .nil]]⟩
def Zv3(t:Ze)(cn:ByteArray)(cd:Int)(cl:ByteArray)(cc:Int)(x:List (List Int))(i:Int):Rs:=EvL C [.blk 0,.seq Z2s,.fin 0 [.cell 2 (some 3)]] [1,2,3,4] Z2r ⟨[(1,.ptr 0 0),(2,.ptr 1 0),(3,.ptr 2 0),(4,I i)],[[]],[.box (t.c.map .t),.box [.t (.str cn),I cd,.t .nil],.box [.t (.str cl),I cc,.own 3],.arr 56 1 true (x.map isc)]⟩
def Zbeh:RawF (rawF 130 Tryz.f130):={ m:=_ }
def Zbei:MCode:=cut0 Zbeh 7
def Zbej:MCode:=cut0 Zbeh 23
def Zbt7:MFun:=Zn Zbeh 7 Zbei 23 Zbej
def Zch(a:Zi)(a1:ByteArray):Rs:=C 130 [.agg (a.c.map .t),.t (.str a1)] []
def Zv4(d:Zi)(cd:ByteArray)(cc:Int)(cl:ByteArray)(i:Int):Rs:=EvL C [.blk 0,.seq Zbej,.fin 0 [.cell 4 (some 3),.tmp 5]] [1,2,4,6] Zbei ⟨[(1,.t (.str cl)),(2,.ptr 0 0),(4,.ptr 1 0),(6,I i)],[[]],[.box (d.c.map .t),.box [.t (.str cd),I cc,.t .nil]]⟩
def Zmy(cc:ByteArray)(c:Int):Rs:=C 223 [.agg [.t (.str cc),I c,.t .nil]] []
def Zbek(cc:ByteArray)(c i:Int):Rs:=EvL C [.blk 0,.seq Zvq,.fin 0 [.tmp 2]] [1,3] Zvp ⟨[(1,.ptr 0 0),(3,I i)],[[]],[.box [.t (.str cc),I c,.t .nil]]⟩
def Z2t(cc:ByteArray)(c:Int)(a:List Int):Rs:=C 260 [.agg [.t (.str cc),I c,.t .nil],L 1 (a.map ic)] []
def Zqc(cc:ByteArray)(c:Int)(cd:List Int)(i:Int):Rs:=EvL C [.blk 0,.seq Zvt,.fin 0 [.tmp 4]] [1,2,5] Zvs ⟨[(1,L 1 (cd.map ic)),(2,.ptr 0 0),(5,I i)],[[]],[.box [.t (.str cc),I c,.t .nil]]⟩
def Zbel:RawF (rawF 132 Tryz.f132):={ m:=_ }
def Zbem:MCode:=cut0 Zbel 7
def Zben:MCode:=cut0 Zbel 23
def Zbt8:MFun:=Zn Zbel 7 Zbem 23 Zben
def Zer(a:List Int)(a1:Int):Rs:=C 132 [L 1 (a.map ic),I a1] []
def Zv5(l:List Int)(x i:Int):Rs:=EvL C [.blk 0,.seq Zben,.fin 0 [.tmp 4]] [0,1,5] Zbem ⟨[(0,L 1 (l.map ic)),(1,I x),(5,I i)],[[]],[]⟩
def Zbt9:MFun:=mkF (rawF 226 Tryz.f226)
def Zqd(a:Zi)(a1:Zk):Rs:=C 226 [.agg (a.c.map .t),.agg (a1.c.map .t)] []
def Zv6:RawF (rawF 227 Tryz.f227):={ m:=_ }
def Zbeo:MCode:=cut0 Zv6 23
def Zbep:MCode:=cut0 Zv6 41
def Zv7:MCode:=cut2 Zv6 9 14 Zbeo 32 Zbep
def Zv8:MCode:=cut0 Zv6 42
def Zbua:MFun:=Zn Zv6 9 Zv7 42 Zv8
def Z2u(a:Zi)(a1:Zk):Rs:=C 227 [.agg (a.c.map .t),.agg (a1.c.map .t)] []
def Zbeq(d:Zi)(f:Zk)(cd:ByteArray)(cc k:Int):Rs:=EvL C [.blk 0,.seq Zv8,.fin 0 [.tmp 4]] [2,3,5,7] Zv7 ⟨[(2,.ptr 0 0),(3,.ptr 1 0),(5,.ptr 2 0),(7,I k)],[[]],[.box (d.c.map .t),.box (f.c.map .t),.box [.t (.str cd),I cc,.t .nil]]⟩
def Zqe(d:Zi)(f:Zk)(cd:ByteArray)(cc:Int)(x:List (List Int))(k:Int):Rs:=EvL C [.blk 0,.seq Zv8,.fin 0 [.tmp 4]] [2,3,5,7] Zv7 ⟨[(2,.ptr 0 0),(3,.ptr 1 0),(5,.ptr 2 0),(7,I k)],[[]],[.box (d.c.map .t),.box (f.c.map .t),.box [.t (.str cd),I cc,.own 3],.arr 56 1 true (x.map isc)]⟩
def Zis(d:Zi)(f:Zk)(cd:ByteArray)(cc:Int)(x:List (List Int))(y:List Int)(k i:Int):Rs:=EvL C [.blk 2,.blk 1,.seq Zbep,.loop [2,3,5,7] Zv7,.blk 0,.seq Zv8,.fin 0 [.tmp 4]] [2,3,5,7,8,10] Zbeo ⟨[(2,.ptr 0 0),(3,.ptr 1 0),(5,.ptr 2 0),(7,I k),(8,.own 4),(10,I i)],[[]],[.box (d.c.map .t),.box (f.c.map .t),.box [.t (.str cd),I cc,.own 3],.arr 56 1 true (x.map isc),.arr 3 1 true (y.map ic)]⟩
def Zbub:MFun:=mkF (rawF 182 Tryz.f182)
def Zv9(a:Zi)(a1:Zk):Rs:=C 182 [.agg (a.c.map .t),.agg (a1.c.map .t)] []
def Zbuc:MFun:=mkF (rawF 228 Tryz.f228)
def Zqf(a:Zi)(a1:Zj):Rs:=C 228 [.agg (a.c.map .t),.agg (a1.c.map .t)] []
def Zkm:RawF (rawF 229 Tryz.f229):={ m:=_ }
def Zqg:MCode:=cut0 Zkm 38
def Zqh:MCode:=cut0 Zkm 53
def Zqi:MCode:=cut0 Zkm 63
def Zqj:MCode:=cut2 Zkm 48 5 Zqh 15 Zqi
def Zhr:MCode:=cut0 Zkm 68
def Ze5:MCode:=cut3 Zkm 21 17 Zqg 27 Zqj 47 Zhr
def Ze6:MCode:=cut0 Zkm 69
def Zbud:MFun:=Zn Zkm 21 Ze5 69 Ze6
def Zber(a:Zi)(a1:Zj):Rs:=C 229 [.agg (a.c.map .t),.agg (a1.c.map .t)] []
def Zgf(x:Zj)(co:List Int)(cn:ByteArray)(cd:Int)(cl:ByteArray)(cc v:Int):Rs:=EvL C [.blk 0,.seq Ze6,.fin 0 [.tmp 4]] [3,5,6,8,10] Ze5 ⟨[(3,.ptr 0 0),(5,.own 1),(6,.ptr 2 0),(8,.ptr 3 0),(10,I v)],[[]],[.box (x.c.map .t),.arr 3 1 true (co.map ic),.box [.t (.str cn),I cd,.t .nil],.box [.t (.str cl),I cc,.t .nil]]⟩
def Zgg(x:Zj)(co:List Int)(cn:ByteArray)(cd:Int)(cl:ByteArray)(cc:Int)(x1:List (List Int))(v:Int):Rs:=EvL C [.blk 0,.seq Ze6,.fin 0 [.tmp 4]] [3,5,6,8,10] Ze5 ⟨[(3,.ptr 0 0),(5,.own 1),(6,.ptr 2 0),(8,.ptr 3 0),(10,I v)],[[]],[.box (x.c.map .t),.arr 3 1 true (co.map ic),.box [.t (.str cn),I cd,.t .nil],.box [.t (.str cl),I cc,.own 4],.arr 56 1 true (x1.map isc)]⟩
def Zgh(x:Zj)(co:List Int)(cn:ByteArray)(cd:Int)(x1:List (List Int))(cl:ByteArray)(cc v:Int):Rs:=EvL C [.blk 0,.seq Ze6,.fin 0 [.tmp 4]] [3,5,6,8,10] Ze5 ⟨[(3,.ptr 0 0),(5,.own 1),(6,.ptr 2 0),(8,.ptr 4 0),(10,I v)],[[]],[.box (x.c.map .t),.arr 3 1 true (co.map ic),.box [.t (.str cn),I cd,.own 3],.arr 56 1 true (x1.map isc),.box [.t (.str cl),I cc,.t .nil]]⟩
def Zgi(x:Zj)(co:List Int)(cn:ByteArray)(cd:Int)(x1:List (List Int))(cl:ByteArray)(cc:Int)(x2:List (List Int))(v:Int):Rs:=EvL C [.blk 0,.seq Ze6,.fin 0 [.tmp 4]] [3,5,6,8,10] Ze5 ⟨[(3,.ptr 0 0),(5,.own 1),(6,.ptr 2 0),(8,.ptr 4 0),(10,I v)],[[]],[.box (x.c.map .t),.arr 3 1 true (co.map ic),.box [.t (.str cn),I cd,.own 3],.arr 56 1 true (x1.map isc),.box [.t (.str cl),I cc,.own 5],.arr 56 1 true (x2.map isc)]⟩
def Zwa(x:Zj)(cp:List Int)(cn:ByteArray)(cd:Int)(cl:ByteArray)(cc v:Int)(co cu:Bool)(i:Int):Rs:=EvL C [.blk 2,.seq Zqj,.blk 1,.seq Zhr,.loop [3,5,6,8,10] Ze5,.blk 0,.seq Ze6,.fin 0 [.tmp 4]] [3,5,6,8,10,11,12,13] Zqg ⟨[(3,.ptr 0 0),(5,.own 1),(6,.ptr 2 0),(8,.ptr 3 0),(10,I v),(11,Bo co),(12,Bo cu),(13,I i)],[[]],[.box (x.c.map .t),.arr 3 1 true (cp.map ic),.box [.t (.str cn),I cd,.t .nil],.box [.t (.str cl),I cc,.t .nil]]⟩
def Zwb(x:Zj)(cp:List Int)(cn:ByteArray)(cd:Int)(cl:ByteArray)(cc:Int)(x1:List (List Int))(v:Int)(co cu:Bool)(i:Int):Rs:=EvL C [.blk 2,.seq Zqj,.blk 1,.seq Zhr,.loop [3,5,6,8,10] Ze5,.blk 0,.seq Ze6,.fin 0 [.tmp 4]] [3,5,6,8,10,11,12,13] Zqg ⟨[(3,.ptr 0 0),(5,.own 1),(6,.ptr 2 0),(8,.ptr 3 0),(10,I v),(11,Bo co),(12,Bo cu),(13,I i)],[[]],[.box (x.c.map .t),.arr 3 1 true (cp.map ic),.box [.t (.str cn),I cd,.t .nil],.box [.t (.str cl),I cc,.own 4],.arr 56 1 true (x1.map isc)]⟩
def Zqk(x:Zj)(cp:List Int)(cn:ByteArray)(cd:Int)(x1:List (List Int))(cl:ByteArray)(cc v:Int)(co cu:Bool)(i:Int):Rs:=EvL C [.blk 2,.seq Zqj,.blk 1,.seq Zhr,.loop [3,5,6,8,10] Ze5,.blk 0,.seq Ze6,.fin 0 [.tmp 4]] [3,5,6,8,10,11,12,13] Zqg ⟨[(3,.ptr 0 0),(5,.own 1),(6,.ptr 2 0),(8,.ptr 4 0),(10,I v),(11,Bo co),(12,Bo cu),(13,I i)],[[]],[.box (x.c.map .t),.arr 3 1 true (cp.map ic),.box [.t (.str cn),I cd,.own 3],.arr 56 1 true (x1.map isc),.box [.t (.str cl),I cc,.t .nil]]⟩
def Zql(x:Zj)(cp:List Int)(cn:ByteArray)(cd:Int)(x1:List (List Int))(cl:ByteArray)(cc:Int)(x2:List (List Int))(v:Int)(co cu:Bool)(i:Int):Rs:=EvL C [.blk 2,.seq Zqj,.blk 1,.seq Zhr,.loop [3,5,6,8,10] Ze5,.blk 0,.seq Ze6,.fin 0 [.tmp 4]] [3,5,6,8,10,11,12,13] Zqg ⟨[(3,.ptr 0 0),(5,.own 1),(6,.ptr 2 0),(8,.ptr 4 0),(10,I v),(11,Bo co),(12,Bo cu),(13,I i)],[[]],[.box (x.c.map .t),.arr 3 1 true (cp.map ic),.box [.t (.str cn),I cd,.own 3],.arr 56 1 true (x1.map isc),.box [.t (.str cl),I cc,.own 5],.arr 56 1 true (x2.map isc)]⟩
def Zqm(x:Zj)(cp:List Int)(cn:ByteArray)(cd:Int)(cl:ByteArray)(cc v:Int)(co cu:Bool)(i:Int):Rs:=EvL C [.blk 4,.seq Zqi,.blk 1,.seq Zhr,.loop [3,5,6,8,10] Ze5,.blk 0,.seq Ze6,.fin 0 [.tmp 4]] [3,5,6,8,10,11,12,14] Zqh ⟨[(3,.ptr 0 0),(5,.own 1),(6,.ptr 2 0),(8,.ptr 3 0),(10,I v),(11,Bo co),(12,Bo cu),(14,I i)],[[]],[.box (x.c.map .t),.arr 3 1 true (cp.map ic),.box [.t (.str cn),I cd,.t .nil],.box [.t (.str cl),I cc,.t .nil]]⟩
def Zmz(x:Zj)(cp:List Int)(cn:ByteArray)(cd:Int)(cl:ByteArray)(cc:Int)(x1:List (List Int))(v:Int)(co cu:Bool)(i:Int):Rs:=EvL C [.blk 4,.seq Zqi,.blk 1,.seq Zhr,.loop [3,5,6,8,10] Ze5,.blk 0,.seq Ze6,.fin 0 [.tmp 4]] [3,5,6,8,10,11,12,14] Zqh ⟨[(3,.ptr 0 0),(5,.own 1),(6,.ptr 2 0),(8,.ptr 3 0),(10,I v),(11,Bo co),(12,Bo cu),(14,I i)],[[]],[.box (x.c.map .t),.arr 3 1 true (cp.map ic),.box [.t (.str cn),I cd,.t .nil],.box [.t (.str cl),I cc,.own 4],.arr 56 1 true (x1.map isc)]⟩
def Zqn(x:Zj)(cp:List Int)(cn:ByteArray)(cd:Int)(x1:List (List Int))(cl:ByteArray)(cc v:Int)(co cu:Bool)(i:Int):Rs:=EvL C [.blk 4,.seq Zqi,.blk 1,.seq Zhr,.loop [3,5,6,8,10] Ze5,.blk 0,.seq Ze6,.fin 0 [.tmp 4]] [3,5,6,8,10,11,12,14] Zqh ⟨[(3,.ptr 0 0),(5,.own 1),(6,.ptr 2 0),(8,.ptr 4 0),(10,I v),(11,Bo co),(12,Bo cu),(14,I i)],[[]],[.box (x.c.map .t),.arr 3 1 true (cp.map ic),.box [.t (.str cn),I cd,.own 3],.arr 56 1 true (x1.map isc),.box [.t (.str cl),I cc,.t .nil]]⟩
def Zm0(x:Zj)(cp:List Int)(cn:ByteArray)(cd:Int)(x1:List (List Int))(cl:ByteArray)(cc:Int)(x2:List (List Int))(v:Int)(co cu:Bool)(i:Int):Rs:=EvL C [.blk 4,.seq Zqi,.blk 1,.seq Zhr,.loop [3,5,6,8,10] Ze5,.blk 0,.seq Ze6,.fin 0 [.tmp 4]] [3,5,6,8,10,11,12,14] Zqh ⟨[(3,.ptr 0 0),(5,.own 1),(6,.ptr 2 0),(8,.ptr 4 0),(10,I v),(11,Bo co),(12,Bo cu),(14,I i)],[[]],[.box (x.c.map .t),.arr 3 1 true (cp.map ic),.box [.t (.str cn),I cd,.own 3],.arr 56 1 true (x1.map isc),.box [.t (.str cl),I cc,.own 5],.arr 56 1 true (x2.map isc)]⟩
def Zbue:MFun:=mkF (rawF 183 Tryz.f183)
def Z2v(a:Zi)(a1:Zj):Rs:=C 183 [.agg (a.c.map .t),.agg (a1.c.map .t)] []
def Zwc:RawF (rawF 129 Tryz.f129):={ m:=_ }
def Zbes:MCode:=cut0 Zwc 15
def Zbet:MCode:=cut0 Zwc 36
def Zbeu:MCode:=cut0 Zwc 52
def Zbev:MCode:=cut2 Zwc 31 5 Zbet 21 Zbeu
def Zbuf:MFun:=Zn Zwc 15 Zbes 31 Zbev
def Zqo(a:Zi)(a1:List Zk)(a2:List Zj):Rs:=C 129 [.agg (a.c.map .t),L 3 (a1.map Zk.c),L 4 (a2.map Zj.c)] []
def Zwd(d:Zi)(cc:List Zk)(cd:List Zj)(i:Int):Rs:=EvL C [.blk 0,.seq Zbev,.fin 0 [.tmp 6]] [1,2,3,7] Zbes ⟨[(1,L 3 (cc.map Zk.c)),(2,L 4 (cd.map Zj.c)),(3,.ptr 0 0),(7,I i)],[[]],[.box (d.c.map .t)]⟩
def Zwe(d:Zi)(cc:List Zj)(i:Int):Rs:=EvL C [.blk 2,.seq Zbeu,.fin 0 [.tmp 6]] [2,3,8] Zbet ⟨[(2,L 4 (cc.map Zj.c)),(3,.ptr 0 0),(8,I i)],[[]],[.box (d.c.map .t)]⟩
def Zwf:RawF (rawF 181 Tryz.f181):={ m:=_ }
def Zbew:MCode:=cut0 Zwf 39
def Zbex:MCode:=cut0 Zwf 55
def Z2w:MCode:=cut2 Zwf 15 24 Zbew 40 Zbex
def Z2x:MCode:=cut0 Zwf 56
def Zbug:MFun:=Zn Zwf 15 Z2w 56 Z2x
def Zqp(a a1:Zf):Rs:=C 181 [.agg (a.c.map .t),.agg (a1.c.map .t)] []
def Zm1(a b:Zf)(i:Int):Rs:=EvL C [.blk 0,.seq Z2x,.fin 0 [.tmp 4]] [2,3,5] Z2w ⟨[(2,.ptr 0 0),(3,.ptr 1 0),(5,I i)],[[]],[.box (a.c.map .t),.box (b.c.map .t)]⟩
def Zqq(a b:Zf)(x y:Zg)(i k:Int):Rs:=EvL C [.blk 2,.blk 1,.seq Zbex,.loop [2,3,5] Z2w,.blk 0,.seq Z2x,.fin 0 [.tmp 4]] [2,3,5,6,7,8] Zbew ⟨[(2,.ptr 0 0),(3,.ptr 1 0),(5,I i),(6,.ptr 2 0),(7,.ptr 3 0),(8,I k)],[[]],[.box (a.c.map .t),.box (b.c.map .t),.box (x.c.map .t),.box (y.c.map .t)]⟩
def Z2y(a a1:Zl):Rs:=C 128 [.agg (a.c.map .t),.agg (a1.c.map .t)] []
def Zwg(a b:Zl)(i:Int):Rs:=EvL C [.blk 0,.seq Zv0,.fin 0 [.tmp 4]] [2,3,5] Zvz ⟨[(2,.ptr 0 0),(3,.ptr 1 0),(5,I i)],[[]],[.box (a.c.map .t),.box (b.c.map .t)]⟩
def Zbuh:MFun:=mkF (rawF 86 Tryz.f86)
def Zwh(a:Zh):Rs:=C 86 [.agg (a.c.map .t)] []
def Zwi:RawF (rawF 89 Tryz.f89):={ m:=_ }
def Zbey:MCode:=cut0 Zwi 39
def Zbez:MCode:=cut0 Zwi 57
def Z2z:MCode:=cut2 Zwi 17 22 Zbey 40 Zbez
def Z20:MCode:=cut0 Zwi 58
def Zbui:MFun:=Zn Zwi 17 Z2z 58 Z20
def Zm2(a:Zc):Rs:=C 89 [.agg (a.c.map .t)] []
def Zqr(q:Zc)(cc i:Int):Rs:=EvL C [.blk 0,.seq Z20,.fin 0 [.tmp 2]] [1,3,4] Z2z ⟨[(1,.ptr 0 0),(3,I cc),(4,I i)],[[]],[.box (q.c.map .t)]⟩
def Zwj(q:Zc)(a:Atom)(cc i k:Int):Rs:=EvL C [.blk 2,.blk 1,.seq Zbez,.loop [1,3,4] Z2z,.blk 0,.seq Z20,.fin 0 [.tmp 2]] [1,3,4,5,6] Zbey ⟨[(1,.ptr 0 0),(3,I cc),(4,I i),(5,.ptr 1 0),(6,I k)],[[]],[.box (q.c.map .t),.box (a.c.map .t)]⟩
def Zbe0:RawF (rawF 87 Tryz.f87):={ m:=_ }
def Zbe1:MCode:=cut0 Zbe0 15
def Zbe2:MCode:=cut0 Zbe0 33
def Zbuj:MFun:=Zn Zbe0 15 Zbe1 33 Zbe2
def Z21(a:Zi)(a1:Zc):Rs:=C 87 [.agg (a.c.map .t),.agg (a1.c.map .t)] []
def Zqs(d:Zi)(q:Zc)(i:Int):Rs:=EvL C [.blk 0,.seq Zbe2,.fin 0 [.tmp 4]] [2,3,5] Zbe1 ⟨[(2,.ptr 0 0),(3,.ptr 1 0),(5,I i)],[[]],[.box (d.c.map .t),.box (q.c.map .t)]⟩
def Zbuk:MFun:=mkF (rawF 48 Tryz.f48)
def Zfr(a:Zc):Rs:=C 48 [.agg (a.c.map .t)] []
def Zbul:MFun:=mkF (rawF 47 Tryz.f47)
def Zct(a:Zh)(a1:Zc)(a2:Int):Rs:=C 47 [.agg (a.c.map .t),.agg (a1.c.map .t),I a2] []
def Z22(a:List Int):Rs:=C 262 [.t .nil,L 1 (a.map ic)] []
def Zbe3(c:List (List Int))(cd:List Int)(cc:Bool)(i:Int):Rs:=EvL C [.blk 0,.seq Zvw,.fin 0 [.tmp 4]] [0,1,5,6,7] Zvv ⟨[(0,.t .nil),(1,L 1 (cd.map ic)),(5,.own 0),(6,Bo cc),(7,I i)],[[]],[.arr 56 1 true (c.map isc)]⟩
def Zbe4:RawF (rawF 234 Tryz.f234):={ m:=_ }
def Z23:MCode:=cut0 Zbe4 9
def Z24:MCode:=cut0 Zbe4 19
def Zbum:MFun:=Zn Zbe4 9 Z23 19 Z24
def Z25(a:ByteArray)(a1:Int)(a2:List (List Int)):Rs:=C 234 [.t (.str a),I a1,L 1 (a2.map isc)] []
def Zbe5(cl:ByteArray)(cc:Int)(cd:ByteArray)(c:Int)(cn:List (List Int))(i:Int):Rs:=EvL C [.blk 0,.seq Z24,.fin 0 [.cellO 6 (some 3) [none,none,some (56,1)],.tmpO 7 [none]]] [2,6,8,9] Z23 ⟨[(2,L 1 (cn.map isc)),(6,.ptr 0 0),(8,.ptr 1 0),(9,I i)],[[]],[.box [.t (.str cl),I cc,.t .nil],.box [.t (.str cd),I c,.t .nil]]⟩
def Zwk(cl:ByteArray)(cc:Int)(cd:ByteArray)(c:Int)(x cn:List (List Int))(i:Int):Rs:=EvL C [.blk 0,.seq Z24,.fin 0 [.cellO 6 (some 3) [none,none,some (56,1)],.tmpO 7 [none]]] [2,6,8,9] Z23 ⟨[(2,L 1 (cn.map isc)),(6,.ptr 0 0),(8,.ptr 1 0),(9,I i)],[[]],[.box [.t (.str cl),I cc,.t .nil],.box [.t (.str cd),I c,.own 2],.arr 56 1 true (x.map isc)]⟩
def Zbun:MFun:=mkF (rawF 197 Tryz.f197)
def Z26(a:Zf):Rs:=C 197 [.agg (a.c.map .t)] []
def Zbuo(cl:ByteArray)(cd cc:Int)(a:Zf):Rs:=C 181 [.agg [.t (.str cl),I cd,I cc,.t .nil],.agg (a.c.map .t)] []
def Zbup:MFun:=mkF (rawF 152 Tryz.f152)
def Zit(a:Zf):Rs:=C 152 [.agg (a.c.map .t)] []
def Zqt:RawF (rawF 194 Tryz.f194):={ m:=_ }
def Zm3:MCode:=cut0 Zqt 24
def Zm4:MCode:=cut0 Zqt 34
def Zm5:MCode:=cut0 Zqt 35
def Zkn:MCode:=cut3 Zqt 9 15 Zm3 25 Zm4 26 Zm5
def Zko:MCode:=cut0 Zqt 36
def Zbuq:MFun:=Zn Zqt 9 Zkn 36 Zko
def Z27(a:Zf):Rs:=C 194 [.agg (a.c.map .t)] []
def Z28(s:Zf)(cp:ByteArray)(cn cd:Int)(co:ByteArray)(cl cc i:Int):Rs:=EvL C [.blk 0,.seq Zko,.fin 0 [.cellO 2 (some 4) [none,none,none,some (200,3)]]] [1,2,3,4] Zkn ⟨[(1,.ptr 0 0),(2,.ptr 1 0),(3,.ptr 2 0),(4,I i)],[[]],[.box (s.c.map .t),.box [.t (.str cp),I cn,I cd,.t .nil],.box [.t (.str co),I cl,I cc,.t .nil]]⟩
def Zbe6(s:Zf)(cp:ByteArray)(cn cd:Int)(co:ByteArray)(cl cc:Int)(x x1:List Int)(i k:Int):Rs:=EvL C [.blk 2,.seq Zm4,.blk 1,.seq Zm5,.loop [1,2,3,4] Zkn,.blk 0,.seq Zko,.fin 0 [.cellO 2 (some 4) [none,none,none,some (200,3)]]] [1,2,3,4,5,6] Zm3 ⟨[(1,.ptr 0 0),(2,.ptr 1 0),(3,.ptr 2 0),(4,I i),(5,.ptr 3 0),(6,I k)],[[]],[.box (s.c.map .t),.box [.t (.str cp),I cn,I cd,.t .nil],.box [.t (.str co),I cl,I cc,.t .nil],.box [.own 4,.t .nil,.own 5],.arr 3 1 true (x.map ic),.arr 3 1 true (x1.map ic)]⟩
def Zwl(s:Zf)(cp:ByteArray)(cn cd:Int)(co:ByteArray)(cl cc:Int)(x:List Int)(x1:List (List Int))(x2:List Int)(i k:Int):Rs:=EvL C [.blk 2,.seq Zm4,.blk 1,.seq Zm5,.loop [1,2,3,4] Zkn,.blk 0,.seq Zko,.fin 0 [.cellO 2 (some 4) [none,none,none,some (200,3)]]] [1,2,3,4,5,6] Zm3 ⟨[(1,.ptr 0 0),(2,.ptr 1 0),(3,.ptr 2 0),(4,I i),(5,.ptr 3 0),(6,I k)],[[]],[.box (s.c.map .t),.box [.t (.str cp),I cn,I cd,.t .nil],.box [.t (.str co),I cl,I cc,.t .nil],.box [.own 4,.own 5,.own 6],.arr 3 1 true (x.map ic),.arr 56 1 true (x1.map isc),.arr 3 1 true (x2.map ic)]⟩
def Zhs(s:Zf)(cp:ByteArray)(cn cd:Int)(co:ByteArray)(cl cc:Int)(x:List Zg)(i:Int):Rs:=EvL C [.blk 0,.seq Zko,.fin 0 [.cellO 2 (some 4) [none,none,none,some (200,3)]]] [1,2,3,4] Zkn ⟨[(1,.ptr 0 0),(2,.ptr 1 0),(3,.ptr 2 0),(4,I i)],[[]],[.box (s.c.map .t),.box [.t (.str cp),I cn,I cd,.t .nil],.box [.t (.str co),I cl,I cc,.own 3],.arr 200 3 true (x.map Zg.c)]⟩
def Z29(s:Zf)(cp:ByteArray)(cn cd:Int)(co:ByteArray)(cl cc:Int)(x:List Zg)(x1 x2:List Int)(i k:Int):Rs:=EvL C [.blk 2,.seq Zm4,.blk 1,.seq Zm5,.loop [1,2,3,4] Zkn,.blk 0,.seq Zko,.fin 0 [.cellO 2 (some 4) [none,none,none,some (200,3)]]] [1,2,3,4,5,6] Zm3 ⟨[(1,.ptr 0 0),(2,.ptr 1 0),(3,.ptr 2 0),(4,I i),(5,.ptr 4 0),(6,I k)],[[]],[.box (s.c.map .t),.box [.t (.str cp),I cn,I cd,.t .nil],.box [.t (.str co),I cl,I cc,.own 3],.arr 200 3 true (x.map Zg.c),.box [.own 5,.t .nil,.own 6],.arr 3 1 true (x1.map ic),.arr 3 1 true (x2.map ic)]⟩
def Zwm(s:Zf)(cp:ByteArray)(cn cd:Int)(co:ByteArray)(cl cc:Int)(x:List Zg)(x1:List Int)(x2:List (List Int))(x3:List Int)(i k:Int):Rs:=EvL C [.blk 2,.seq Zm4,.blk 1,.seq Zm5,.loop [1,2,3,4] Zkn,.blk 0,.seq Zko,.fin 0 [.cellO 2 (some 4) [none,none,none,some (200,3)]]] [1,2,3,4,5,6] Zm3 ⟨[(1,.ptr 0 0),(2,.ptr 1 0),(3,.ptr 2 0),(4,I i),(5,.ptr 4 0),(6,I k)],[[]],[.box (s.c.map .t),.box [.t (.str cp),I cn,I cd,.t .nil],.box [.t (.str co),I cl,I cc,.own 3],.arr 200 3 true (x.map Zg.c),.box [.own 5,.own 6,.own 7],.arr 3 1 true (x1.map ic),.arr 56 1 true (x2.map isc),.arr 3 1 true (x3.map ic)]⟩
def Zbe7:RawF (rawF 146 Tryz.f146):={ m:=_ }
def Zbe8:MCode:=cut0 Zbe7 7
def Zbe9:MCode:=cut0 Zbe7 23
def Zbur:MFun:=Zn Zbe7 7 Zbe8 23 Zbe9
def Zwn(a:Zl)(a1:ByteArray):Rs:=C 146 [.agg (a.c.map .t),.t (.str a1)] []
def Zqu(c:Zl)(cl:ByteArray)(cd cc:Int)(cn:ByteArray)(i:Int):Rs:=EvL C [.blk 0,.seq Zbe9,.fin 0 [.cellO 4 (some 4) [none,none,none,some (200,3)],.tmpO 5 [none]]] [1,2,4,6] Zbe8 ⟨[(1,.t (.str cn)),(2,.ptr 0 0),(4,.ptr 1 0),(6,I i)],[[]],[.box (c.c.map .t),.box [.t (.str cl),I cd,I cc,.t .nil]]⟩
def Zbus:MFun:=mkF (rawF 105 Tryz.f105)
def Zfs(a:Zh)(a1:Zc)(a2:Int):Rs:=C 105 [.agg (a.c.map .t),.agg (a1.c.map .t),I a2] []
def Z3a:RawF (rawF 67 Tryz.f67):={ m:=_ }
def Zbut:MCode:=cut0 Z3a 30
def Zbfa:MCode:=cut1 Z3a 17 13 Zbut
def Zbfb:MCode:=cut0 Z3a 31
def Zbuu:MFun:=Zn Z3a 17 Zbfa 31 Zbfb
def Zwo(a:Zh)(a1:Zc)(a2:Int):Rs:=C 67 [.agg (a.c.map .t),.agg (a1.c.map .t),I a2] []
def Zqv(s:Zh)(q:Zc)(cc n i:Int):Rs:=EvL C [.blk 0,.seq Zbfb,.fin 0 [.tmp 6]] [2,3,4,7,8] Zbfa ⟨[(2,I cc),(3,.ptr 0 0),(4,.ptr 1 0),(7,I n),(8,I i)],[[]],[.box (s.c.map .t),.box (q.c.map .t)]⟩
def Zwp:RawF (rawF 149 Tryz.f149):={ m:=_ }
def Zbfc:MCode:=cut0 Zwp 21
def Zbfd:MCode:=cut0 Zwp 31
def Z3b:MCode:=cut2 Zwp 9 12 Zbfc 22 Zbfd
def Z3c:MCode:=cut0 Zwp 32
def Zbuv:MFun:=Zn Zwp 9 Z3b 32 Z3c
def Ziu(a:Zc)(a1:Int):Rs:=C 149 [.agg (a.c.map .t),I a1] []
def Zm6(q:Zc)(cc x i:Int):Rs:=EvL C [.blk 0,.seq Z3c,.fin 0 [.tmp 4]] [1,2,5,6] Z3b ⟨[(1,I cc),(2,.ptr 0 0),(5,I x),(6,I i)],[[]],[.box (q.c.map .t)]⟩
def Zqw(q:Zc)(cc x i k:Int):Rs:=EvL C [.blk 2,.blk 1,.seq Zbfd,.loop [1,2,5,6] Z3b,.blk 0,.seq Z3c,.fin 0 [.tmp 4]] [1,2,5,6,7] Zbfc ⟨[(1,I cc),(2,.ptr 0 0),(5,I x),(6,I i),(7,I k)],[[]],[.box (q.c.map .t)]⟩
def Z3d:RawF (rawF 148 Tryz.f148):={ m:=_ }
def Zbuw:MCode:=cut0 Z3d 22
def Zbfe:MCode:=cut1 Z3d 9 13 Zbuw
def Zbff:MCode:=cut0 Z3d 23
def Zbux:MFun:=Zn Z3d 9 Zbfe 23 Zbff
def Zqx(a:Int):Rs:=C 148 [I a] []
def Zqy(cc:List Int)(c v:Int):Rs:=EvL C [.blk 0,.seq Zbff,.fin 0 [.tmp 2]] [0,3,4] Zbfe ⟨[(0,I c),(3,.own 0),(4,I v)],[[]],[.arr 3 1 true (cc.map ic)]⟩
def Z3e:RawF (rawF 110 Tryz.f110):={ m:=_ }
def Zbuy:MCode:=cut0 Z3e 22
def Zbfg:MCode:=cut1 Z3e 9 13 Zbuy
def Zbfh:MCode:=cut0 Z3e 23
def Zbuz:MFun:=Zn Z3e 9 Zbfg 23 Zbfh
def Zm7(a:Atom)(a1:List Int):Rs:=C 110 [.agg (a.c.map .t),L 1 (a1.map ic)] []
def Zqz(a:Atom)(cd cc:List Int)(i:Int):Rs:=EvL C [.blk 0,.seq Zbfh,.fin 0 [.tmp 4]] [1,2,5,6] Zbfg ⟨[(1,L 1 (cc.map ic)),(2,.ptr 0 0),(5,.own 1),(6,I i)],[[]],[.box (a.c.map .t),.arr 3 1 true (cd.map ic)]⟩
def Zq0:RawF (rawF 196 Tryz.f196):={ m:=_ }
def Zbfi:MCode:=cut0 Zq0 22
def Z3f:MCode:=cut0 Zq0 30
def Z3g:MCode:=cut0 Zq0 31
def Z3h:MCode:=cut3 Zq0 9 13 Zbfi 21 Z3f 22 Z3g
def Z3i:MCode:=cut0 Zq0 32
def Zbu0:MFun:=Zn Zq0 9 Z3h 32 Z3i
def Z3j(a:List Int):Rs:=C 196 [L 1 (a.map ic)] []
def Ziv(c l:List Int)(i:Int):Rs:=EvL C [.blk 0,.seq Z3i,.fin 0 [.tmp 2]] [0,3,4] Z3h ⟨[(0,L 1 (l.map ic)),(3,.own 0),(4,I i)],[[]],[.arr 3 1 true (c.map ic)]⟩
def Zm8(c l:List Int)(i k:Int):Rs:=EvL C [.blk 2,.seq Z3f,.blk 1,.seq Z3g,.loop [0,3,4] Z3h,.blk 0,.seq Z3i,.fin 0 [.tmp 2]] [0,3,4,5] Zbfi ⟨[(0,L 1 (l.map ic)),(3,.own 0),(4,I i),(5,I k)],[[]],[.arr 3 1 true (c.map ic)]⟩
def Zbfj:RawF (rawF 147 Tryz.f147):={ m:=_ }
def Zbfk:MCode:=cut0 Zbfj 23
def Zbfl:MCode:=cut0 Zbfj 39
def Zbu1:MFun:=Zn Zbfj 23 Zbfk 39 Zbfl
def Zq1(a:Zf)(a1:List Int):Rs:=C 147 [.agg (a.c.map .t),L 1 (a1.map ic)] []
def Zwq(s:Zf)(cc:List Int)(i:Int):Rs:=EvL C [.blk 0,.seq Zbfl,.fin 0 [.tmp 4]] [1,2,5] Zbfk ⟨[(1,L 1 (cc.map ic)),(2,.ptr 0 0),(5,I i)],[[]],[.box (s.c.map .t)]⟩
def Z3k:RawF (rawF 106 Tryz.f106):={ m:=_ }
def Zbu2:MCode:=cut0 Z3k 38
def Zbfm:MCode:=cut1 Z3k 17 21 Zbu2
def Zbfn:MCode:=cut0 Z3k 39
def Zbu3:MFun:=Zn Z3k 17 Zbfm 39 Zbfn
def Zq2(a:List Zf)(a1:Zc)(a2 a3:Int):Rs:=C 106 [L 4 (a.map Zf.c),.agg (a1.c.map .t),I a2,I a3] []
def Ziw(q:Zc)(s:List Zf)(cd cl cc i:Int):Rs:=EvL C [.blk 0,.seq Zbfn,.fin 0 [.tmp 8]] [0,2,3,5,9,10] Zbfm ⟨[(0,L 4 (s.map Zf.c)),(2,I cd),(3,I cl),(5,.ptr 0 0),(9,I cc),(10,I i)],[[]],[.box (q.c.map .t)]⟩
def Zbfo:RawF (rawF 68 Tryz.f68):={ m:=_ }
def Zbfp:MCode:=cut0 Zbfo 17
def Zbfq:MCode:=cut0 Zbfo 29
def Zbu4:MFun:=Zn Zbfo 17 Zbfp 29 Zbfq
def Zwr(a:Zh)(a1:Zc)(a2:Int):Rs:=C 68 [.agg (a.c.map .t),.agg (a1.c.map .t),I a2] []
def Zws(s:Zh)(q:Zc)(l:List Zf)(cc i:Int):Rs:=EvL C [.blk 0,.seq Zbfq,.fin 0 [.tmp 6]] [2,3,4,7,8] Zbfp ⟨[(2,I cc),(3,.ptr 0 0),(4,.ptr 1 0),(7,.own 2),(8,I i)],[[]],[.box (s.c.map .t),.box (q.c.map .t),.arr 141 4 true (l.map Zf.c)]⟩
def Z3l:RawF (rawF 69 Tryz.f69):={ m:=_ }
def Zbu5:MCode:=cut0 Z3l 22
def Zbfr:MCode:=cut1 Z3l 9 13 Zbu5
def Zbfs:MCode:=cut0 Z3l 23
def Zbu6:MFun:=Zn Z3l 9 Zbfr 23 Zbfs
def Zq3(a:Int):Rs:=C 69 [I a] []
def Zq4(cc:List Int)(c i:Int):Rs:=EvL C [.blk 0,.seq Zbfs,.fin 0 [.tmp 2]] [0,3,4] Zbfr ⟨[(0,I c),(3,.own 0),(4,I i)],[[]],[.arr 3 1 true (cc.map ic)]⟩
def Zbu7:MFun:=mkF (rawF 90 Tryz.f90)
def Zq5(a:Zc)(a1:Int):Rs:=C 90 [.agg (a.c.map .t),I a1] []
def Zbu8:MFun:=mkF (rawF 150 Tryz.f150)
def Zm9(a:Zc)(a1:Int):Rs:=C 150 [.agg (a.c.map .t),I a1] []
def Z3m:RawF (rawF 107 Tryz.f107):={ m:=_ }
def Zbu9:MCode:=cut0 Z3m 26
def Zbft:MCode:=cut1 Z3m 13 13 Zbu9
def Zbfu:MCode:=cut0 Z3m 27
def Zbva:MFun:=Zn Z3m 13 Zbft 27 Zbfu
def Zna(a:Zc)(a1 a2:Int):Rs:=C 107 [.agg (a.c.map .t),I a1,I a2] []
def Zq6(c x y:List Int)(i:Int):Rs:=EvL C [.blk 0,.seq Zbfu,.fin 0 [.tmp 6]] [7,8,9,10] Zbft ⟨[(7,.own 0),(8,.own 1),(9,.own 2),(10,I i)],[[]],[.arr 3 1 true (c.map ic),.arr 3 1 true (x.map ic),.arr 3 1 true (y.map ic)]⟩
def Zbvb:MFun:=mkF (rawF 109 Tryz.f109)
def Znb(a:Zf)(a1:List Int):Rs:=C 109 [.agg (a.c.map .t),L 1 (a1.map ic)] []
def Zbfv:RawF (rawF 151 Tryz.f151):={ m:=_ }
def Zbfw:MCode:=cut0 Zbfv 9
def Zbfx:MCode:=cut0 Zbfv 27
def Zbvc:MFun:=Zn Zbfv 9 Zbfw 27 Zbfx
def Zq7(a:List Int):Rs:=C 151 [L 1 (a.map ic)] []
def Zq8(l:List Int)(n i:Int):Rs:=EvL C [.blk 0,.seq Zbfx,.fin 0 [.tmp 2]] [0,3,4] Zbfw ⟨[(0,L 1 (l.map ic)),(3,I n),(4,I i)],[[]],[]⟩
def Zbfy:RawF (rawF 108 Tryz.f108):={ m:=_ }
def Zbfz:MCode:=cut0 Zbfy 9
def Zbf0:MCode:=cut0 Zbfy 19
def Zbvd:MFun:=Zn Zbfy 9 Zbfz 19 Zbf0
def Z3n(a a1:List Int):Rs:=C 108 [L 1 (a.map ic),L 1 (a1.map ic)] []
def Zwt(a b:List Int)(n i:Int):Rs:=EvL C [.blk 0,.seq Zbf0,.fin 0 [.tmp 4]] [0,1,5,6] Zbfz ⟨[(0,L 1 (a.map ic)),(1,L 1 (b.map ic)),(5,I n),(6,I i)],[[]],[]⟩
def Zbve:MFun:=mkF (rawF 70 Tryz.f70)
def Zq9(a:Zh)(a1:Zc)(a2 a3:Int):Rs:=C 70 [.agg (a.c.map .t),.agg (a1.c.map .t),I a2,I a3] []
def Z3o:RawF (rawF 293 Tryz.f293):={ m:=_ }
def Zbvf:MCode:=cut0 Z3o 22
def Zbf1:MCode:=cut1 Z3o 9 13 Zbvf
def Zbf2:MCode:=cut0 Z3o 23
def Zbvg:MFun:=Zn Z3o 9 Zbf1 23 Zbf2
def Z3p(a:Atom)(a1:Int):Rs:=C 293 [.agg (a.c.map .t),I a1] []
def Znc(a:Atom)(m x k:Int):Rs:=EvL C [.blk 0,.seq Zbf2,.fin 0 [.tmp 4]] [1,2,5,6] Zbf1 ⟨[(1,I m),(2,.ptr 0 0),(5,I x),(6,I k)],[[]],[.box (a.c.map .t)]⟩
def Z3q:RawF (rawF 294 Tryz.f294):={ m:=_ }
def Zbvh:MCode:=cut0 Z3q 22
def Zbf3:MCode:=cut1 Z3q 9 13 Zbvh
def Zbf4:MCode:=cut0 Z3q 23
def Zbvi:MFun:=Zn Z3q 9 Zbf3 23 Zbf4
def Z3r(a:List Int):Rs:=C 294 [L 1 (a.map ic)] []
def Zra(l:List Int)(m i:Int):Rs:=EvL C [.blk 0,.seq Zbf4,.fin 0 [.tmp 2]] [0,3,4] Zbf3 ⟨[(0,L 1 (l.map ic)),(3,I m),(4,I i)],[[]],[]⟩
def Zbvj:MFun:=mkF (rawF 296 Tryz.f296)
def Z3s(a:Zf)(a1:List Int):Rs:=C 296 [.agg (a.c.map .t),L 1 (a1.map ic)] []
def Zbf5:RawF (rawF 295 Tryz.f295):={ m:=_ }
def Zbf6:MCode:=cut0 Zbf5 15
def Zbf7:MCode:=cut0 Zbf5 23
def Zbvk:MFun:=Zn Zbf5 15 Zbf6 23 Zbf7
def Z3t(a:Int):Rs:=C 295 [I a] []
def Zwu(n b:Int):Rs:=EvL C [.blk 0,.seq Zbf7,.fin 0 [.tmp 2]] [0,3] Zbf6 ⟨[(0,I n),(3,I b)],[[]],[]⟩
def Zbf8:RawF (rawF 265 Tryz.f265):={ m:=_ }
def Zbf9:MCode:=cut0 Zbf8 17
def Zbga:MCode:=cut0 Zbf8 27
def Zbvl:MFun:=Zn Zbf8 17 Zbf9 27 Zbga
def Zwv(a:Zf)(a1:Atom):Rs:=C 265 [.agg (a.c.map .t),.agg (a1.c.map .t)] []
def Zww(s:Zf)(a:Atom)(cc:List Zo)(m:Int):Rs:=EvL C [.blk 0,.seq Zbga,.fin 0 [.tmpO 4 [some (251,3)]]] [2,3,5,6] Zbf9 ⟨[(2,.ptr 0 0),(3,.ptr 1 0),(5,.own 2),(6,I m)],[[]],[.box (s.c.map .t),.box (a.c.map .t),.arr 251 3 true (cc.map Zo.c)]⟩
def Z3u:RawF (rawF 235 Tryz.f235):={ m:=_ }
def Zbvm:MCode:=cut0 Z3u 42
def Zbgb:MCode:=cut1 Z3u 17 25 Zbvm
def Zbgc:MCode:=cut0 Z3u 43
def Zbvn:MFun:=Zn Z3u 17 Zbgb 43 Zbgc
def Zwx(a:Zh)(a1:Zc)(a2:Int):Rs:=C 235 [.agg (a.c.map .t),.agg (a1.c.map .t),I a2] []
def Zrb(s:Zh)(q:Zc)(cd:List Zo)(cc i:Int):Rs:=EvL C [.blk 0,.seq Zbgc,.fin 0 [.tmpO 6 [some (251,3)]]] [2,3,4,7,8] Zbgb ⟨[(2,I cc),(3,.ptr 0 0),(4,.ptr 1 0),(7,.own 2),(8,I i)],[[]],[.box (s.c.map .t),.box (q.c.map .t),.arr 251 3 true (cd.map Zo.c)]⟩
def Z3v:RawF (rawF 269 Tryz.f269):={ m:=_ }
def Zbvo:MCode:=cut0 Z3v 22
def Zbgd:MCode:=cut1 Z3v 9 13 Zbvo
def Zbge:MCode:=cut0 Z3v 23
def Zbvp:MFun:=Zn Z3v 9 Zbgd 23 Zbge
def Zwy(a:Int)(a1:List Int):Rs:=C 269 [I a,L 1 (a1.map ic)] []
def Znd(m:Int)(c:List Int)(x i:Int):Rs:=EvL C [.blk 0,.seq Zbge,.fin 0 [.tmp 4]] [0,1,5,6] Zbgd ⟨[(0,I m),(1,L 1 (c.map ic)),(5,I x),(6,I i)],[[]],[]⟩
def Zbgf:RawF (rawF 237 Tryz.f237):={ m:=_ }
def Zbgg:MCode:=cut0 Zbgf 9
def Zbgh:MCode:=cut0 Zbgf 19
def Zbvq:MFun:=Zn Zbgf 9 Zbgg 19 Zbgh
def Zwz(a:List Zo)(a1:List Int):Rs:=C 237 [L 3 (a.map Zo.c),L 1 (a1.map ic)] []
def Zw0(cd l:List Zo)(cc:List Int)(i:Int):Rs:=EvL C [.blk 0,.seq Zbgh,.fin 0 [.tmp 4]] [0,1,5,6] Zbgg ⟨[(0,L 3 (l.map Zo.c)),(1,L 1 (cc.map ic)),(5,.own 0),(6,I i)],[[]],[.arr 251 3 true (cd.map Zo.c)]⟩
def Zne:RawF (rawF 266 Tryz.f266):={ m:=_ }
def Zbvr:MCode:=cut0 Zne 22
def Zbgi:MCode:=cut1 Zne 9 13 Zbvr
def Zbvs:MCode:=cut0 Zne 41
def Zbgj:MCode:=cut1 Zne 28 13 Zbvs
def Zbgk:MCode:=cut0 Zne 42
def Zbgl:MCode:=cut2 Zne 23 5 Zbgj 19 Zbgk
def Zbvt:MFun:=Zn Zne 9 Zbgi 23 Zbgl
def Zht(a:Int)(a1 a2:List Int):Rs:=C 266 [I a,L 1 (a1.map ic),L 1 (a2.map ic)] []
def Znf(cd cc c:List Int)(i:Int):Rs:=EvL C [.blk 0,.seq Zbgl,.fin 0 [.tmp 6]] [1,2,7,8] Zbgi ⟨[(1,L 1 (cc.map ic)),(2,L 1 (c.map ic)),(7,.own 0),(8,I i)],[[]],[.arr 3 1 true (cd.map ic)]⟩
def Zrc(cc c:List Int)(i:Int):Rs:=EvL C [.blk 2,.seq Zbgk,.fin 0 [.tmp 6]] [2,7,9] Zbgj ⟨[(2,L 1 (c.map ic)),(7,.own 0),(9,I i)],[[]],[.arr 3 1 true (cc.map ic)]⟩
def Zhu:RawF (rawF 267 Tryz.f267):={ m:=_ }
def Zbgm:MCode:=cut0 Zhu 19
def Zbvu:MCode:=cut0 Zhu 71
def Zbgn:MCode:=cut1 Zhu 58 13 Zbvu
def Zbgo:MCode:=cut0 Zhu 72
def Z3w:MCode:=cut2 Zhu 46 12 Zbgn 26 Zbgo
def Z3x:MCode:=cut0 Zhu 73
def Zw1:MCode:=cut2 Zhu 34 12 Z3w 39 Z3x
def Zw2:MCode:=cut0 Zhu 74
def Zbgp:MCode:=cut2 Zhu 29 5 Zw1 45 Zw2
def Zbvv:MFun:=Zn Zhu 19 Zbgm 29 Zbgp
def Zw3(a:Int):Rs:=C 267 [I a] []
def Zw4(cc:List (List Int))(n c i:Int):Rs:=EvL C [.blk 0,.seq Zbgp,.fin 0 [.tmp 2]] [0,3,4,5] Zbgm ⟨[(0,I n),(3,.own 0),(4,I c),(5,I i)],[[]],[.arr 56 1 true (cc.map isc)]⟩
def Zrd(cc:List (List Int))(n c i:Int):Rs:=EvL C [.blk 2,.seq Zw2,.fin 0 [.tmp 2]] [0,3,4,6] Zw1 ⟨[(0,I n),(3,.own 0),(4,I c),(6,I i)],[[]],[.arr 56 1 true (cc.map isc)]⟩
def Zre(cc:List (List Int))(n c i j:Int):Rs:=EvL C [.blk 4,.blk 3,.seq Z3x,.loop [0,3,4,6] Zw1,.blk 2,.seq Zw2,.fin 0 [.tmp 2]] [0,3,4,6,7] Z3w ⟨[(0,I n),(3,.own 0),(4,I c),(6,I i),(7,I j)],[[]],[.arr 56 1 true (cc.map isc)]⟩
def Zng(cc:List (List Int))(n c i j s:Int):Rs:=EvL C [.blk 6,.blk 5,.seq Zbgo,.loop [0,3,4,6,7] Z3w,.blk 4,.blk 3,.seq Z3x,.loop [0,3,4,6] Zw1,.blk 2,.seq Zw2,.fin 0 [.tmp 2]] [0,3,4,6,7,8] Zbgn ⟨[(0,I n),(3,.own 0),(4,I c),(6,I i),(7,I j),(8,I s)],[[]],[.arr 56 1 true (cc.map isc)]⟩
def Znh:RawF (rawF 268 Tryz.f268):={ m:=_ }
def Zbgq:MCode:=cut0 Znh 17
def Zbgr:MCode:=cut0 Znh 58
def Zbgs:MCode:=cut0 Znh 74
def Z3y:MCode:=cut2 Znh 38 20 Zbgr 36 Zbgs
def Z3z:MCode:=cut0 Znh 75
def Zbgt:MCode:=cut2 Znh 33 5 Z3y 42 Z3z
def Zbvw:MFun:=Zn Znh 17 Zbgq 33 Zbgt
def Zw5(a:Program):Rs:=C 268 [.agg (a.c.map .t)] []
def Zw6(p:Program)(n k:Int):Rs:=EvL C [.blk 0,.seq Zbgt,.fin 0 [.tmp 2]] [1,3,4] Zbgq ⟨[(1,.ptr 0 0),(3,I n),(4,I k)],[[]],[.box (p.c.map .t)]⟩
def Zrf(p:Program)(n i:Int):Rs:=EvL C [.blk 2,.seq Z3z,.fin 0 [.tmp 2]] [1,3,5] Z3y ⟨[(1,.ptr 0 0),(3,I n),(5,I i)],[[]],[.box (p.c.map .t)]⟩
def Zw7(p:Program)(n i k:Int):Rs:=EvL C [.blk 4,.blk 3,.seq Zbgs,.loop [1,3,5] Z3y,.blk 2,.seq Z3z,.fin 0 [.tmp 2]] [1,3,5,6] Zbgr ⟨[(1,.ptr 0 0),(3,I n),(5,I i),(6,I k)],[[]],[.box (p.c.map .t)]⟩
def Zbgu:RawF (rawF 236 Tryz.f236):={ m:=_ }
def Zbgv:MCode:=cut0 Zbgu 21
def Zbgw:MCode:=cut0 Zbgu 41
def Zbgx:MFun:=Zn Zbgu 21 Zbgv 41 Zbgw
def Zni(a:List Zo)(a1:Int):Rs:=C 236 [L 3 (a.map Zo.c),I a1] []
def Zrg(x:List Int)(x1:List (List Int))(x2:List Int)(l:List Zo)(n cc i:Int):Rs:=EvL C [.blk 0,.seq Zbgw,.fin 0 [.cellO 4 (some 3) [some (3,1),some (56,1),some (3,1)],.tmpO 5 [none]]] [0,1,4,6,7,8] Zbgv ⟨[(0,L 3 (l.map Zo.c)),(1,I n),(4,.ptr 0 0),(6,I cc),(7,.ptr 1 0),(8,I i)],[[]],[.box [.t .nil,.t .nil,.t .nil],.box [.own 2,.own 3,.own 4],.arr 3 1 true (x.map ic),.arr 56 1 true (x1.map isc),.arr 3 1 true (x2.map ic)]⟩
def Zbvx:MFun:=mkF (rawF 198 Tryz.f198)
def Z30(a:Zh)(a1:Zc)(a2:Int):Rs:=C 198 [.agg (a.c.map .t),.agg (a1.c.map .t),I a2] []
def Zbvy:MFun:=mkF (rawF 240 Tryz.f240)
def Zca(a:Int):Rs:=C 240 [I a] []
end
end Go.Proofs.YtnnjbejcffjgfaaGreat
