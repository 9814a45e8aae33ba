/-
  Parts of the proofs for this seat: D2.
-/
import Derived.Test.YtnnjbejcffjgfaaGreatP7
set_option linter.unusedSectionVars false
set_option linter.unusedSimpArgs false
set_option linter.unusedVariables false
set_option maxRecDepth 100000
set_option maxHeartbeats 4000000
set_option cbv.maxSteps 9999999
namespace Go.Proofs.YtnnjbejcffjgfaaGreat
open Go.AM
noncomputable section
def Zmu:RawF (rawF 290 Tryz.f290):={ m:=_ }
def Zbto:MCode:=cut0 Zmu 41
def Zbdb:MCode:=cut1 Zmu 25 16 Zbto
def Zbtp:MCode:=cut0 Zmu 75
def Zvj:MCode:=cut1 Zmu 52 23 Zbtp
def Zvk:MCode:=cut0 Zmu 76
def Zbdc:MCode:=cut2 Zmu 43 9 Zvj 33 Zvk
def Zbtq:MFun:=Zo Zmu 25 Zbdb 43 Zbdc
def Zmv(a:Zn)(a1 a2:Int):Rs:=C 290 [.agg (a.c.map .t),I a1,I a2] []
def Zp2(d:Zn)(cl:Int)(cd:Za)(x:Z4)(a cc:Za)(x1 x2:List Int)(x3 x4 x5:List Za)(cn:Int)(x6:List Za)(x7 x8:Int):Rs:=EvL C [.blk 0,.seq Zbdc,.fin 0 [.cellO 6 (some 7) [some (3,1),some (3,1),some (179,1),some (149,2),some (149,2),none,none],.tmpO 7 [none]]] [1,3,5,6,8,9,10,11,70,71,72] Zbdb ⟨[(1,I cn),(3,.ptr 0 0),(5,.ptr 1 0),(6,.ptr 2 0),(8,.ptr 3 0),(9,.ptr 5 0),(10,.ptr 6 0),(11,.ptr 11 0),(70,L 2 (x6.map Za.c)),(71,I x7),(72,I x8)],[[]],[.box (d.c.map .t),.box [I cl],.box [.t .nil,.t .nil,.t .nil,.t .nil,.t .nil,I cd.Num,I cd.Den],.box [.ptr 4 0],.box (x.c.map .t),.box (a.c.map .t),.box [.own 7,.own 8,.t .nil,.own 9,.own 10,I cc.Num,I cc.Den],.arr 3 1 true (x1.map ic),.arr 3 1 true (x2.map ic),.arr 149 2 true (x3.map Za.c),.arr 149 2 true (x4.map Za.c),.box [.own 12],.arr 149 2 true (x5.map Za.c)]⟩
def Z2f(d:Zn)(cl:Int)(cd:Za)(x:Z4)(cc:Za)(x1 x2:List Int)(x3 x4 x5:List Za)(limit x6:Za)(cn:Int)(x7:List (List Za))(x8 x9:Int):Rs:=EvL C [.blk 2,.seq Zvk,.fin 0 [.cellO 6 (some 7) [some (3,1),some (3,1),some (179,1),some (149,2),some (149,2),none,none],.tmpO 7 [none]]] [1,3,5,6,8,10,11,14,15,99,100,101] Zvj ⟨[(1,I cn),(3,.ptr 0 0),(5,.ptr 1 0),(6,.ptr 2 0),(8,.ptr 3 0),(10,.ptr 5 0),(11,.ptr 10 0),(14,.ptr 12 0),(15,.fn 322 [.ptr 1 0,.ptr 3 0,.ptr 13 0,.ptr 10 0]),(99,L 1 (x7.map (lc 2 Za.c))),(100,I x8),(101,I x9)],[[]],[.box (d.c.map .t),.box [I cl],.box [.t .nil,.t .nil,.t .nil,.t .nil,.t .nil,I cd.Num,I cd.Den],.box [.ptr 4 0],.box (x.c.map .t),.box [.own 6,.own 7,.t .nil,.own 8,.own 9,I cc.Num,I cc.Den],.arr 3 1 true (x1.map ic),.arr 3 1 true (x2.map ic),.arr 149 2 true (x3.map Za.c),.arr 149 2 true (x4.map Za.c),.box [.own 11],.arr 149 2 true (x5.map Za.c),.box (limit.c.map .t),.box (x6.c.map .t)]⟩
def Zmw(d:Zn)(cn:Int)(cl:Za)(x:Z4)(cc:Za)(x1 x2:List Int)(fr:Bool)(x3:List (List Za))(x4 x5 cd:List Za)(limit x6:Za)(co:Int)(x7:List (List Za))(x8 x9:Int):Rs:=EvL C [.blk 2,.seq Zvk,.fin 0 [.cellO 6 (some 7) [some (3,1),some (3,1),some (179,1),some (149,2),some (149,2),none,none],.tmpO 7 [none]]] [1,3,5,6,8,10,11,14,15,99,100,101] Zvj ⟨[(1,I co),(3,.ptr 0 0),(5,.ptr 1 0),(6,.ptr 2 0),(8,.ptr 3 0),(10,.ptr 5 0),(11,.ptr 11 0),(14,.ptr 12 0),(15,.fn 322 [.ptr 1 0,.ptr 3 0,.ptr 13 0,.ptr 11 0]),(99,L 1 (x7.map (lc 2 Za.c))),(100,I x8),(101,I x9)],[[]],[.box (d.c.map .t),.box [I cn],.box [.t .nil,.t .nil,.t .nil,.t .nil,.t .nil,I cl.Num,I cl.Den],.box [.ptr 4 0],.box (x.c.map .t),.box [.own 6,.own 7,.own 8,.own 9,.own 10,I cc.Num,I cc.Den],.arr 3 1 true (x1.map ic),.arr 3 1 true (x2.map ic),.arr 179 1 fr (x3.map (lc 2 Za.c)),.arr 149 2 true (x4.map Za.c),.arr 149 2 true (x5.map Za.c),.box [L 2 (cd.map Za.c)],.box (limit.c.map .t),.box (x6.c.map .t)]⟩
def Zvl(d:Zn)(cl:Int)(cd:Za)(x:Z4)(cc:Za)(x1 x2:List Int)(x3:List (List Za))(x4 x5 x6:List Za)(limit x7:Za)(cn:Int)(x8:List (List Za))(x9 co:Int):Rs:=EvL C [.blk 2,.seq Zvk,.fin 0 [.cellO 6 (some 7) [some (3,1),some (3,1),some (179,1),some (149,2),some (149,2),none,none],.tmpO 7 [none]]] [1,3,5,6,8,10,11,14,15,99,100,101] Zvj ⟨[(1,I cn),(3,.ptr 0 0),(5,.ptr 1 0),(6,.ptr 2 0),(8,.ptr 3 0),(10,.ptr 5 0),(11,.ptr 11 0),(14,.ptr 13 0),(15,.fn 322 [.ptr 1 0,.ptr 3 0,.ptr 14 0,.ptr 11 0]),(99,L 1 (x8.map (lc 2 Za.c))),(100,I x9),(101,I co)],[[]],[.box (d.c.map .t),.box [I cl],.box [.t .nil,.t .nil,.t .nil,.t .nil,.t .nil,I cd.Num,I cd.Den],.box [.ptr 4 0],.box (x.c.map .t),.box [.own 6,.own 7,.own 8,.own 9,.own 10,I cc.Num,I cc.Den],.arr 3 1 true (x1.map ic),.arr 3 1 true (x2.map ic),.arr 179 1 true (x3.map (lc 2 Za.c)),.arr 149 2 true (x4.map Za.c),.arr 149 2 true (x5.map Za.c),.box [.own 12],.arr 149 2 true (x6.map Za.c),.box (limit.c.map .t),.box (x7.c.map .t)]⟩
def Zir:RawF (rawF 256 Tryz.f256):={ m:=_ }
def Zbdd:MCode:=cut0 Zir 17
def Zbtr:MCode:=cut0 Zir 71
def Zbde:MCode:=cut1 Zir 56 15 Zbtr
def Zbts:MCode:=cut0 Zir 92
def Zbdf:MCode:=cut1 Zir 77 15 Zbts
def Zbdg:MCode:=cut0 Zir 93
def Zbdh:MCode:=cut2 Zir 72 5 Zbdf 21 Zbdg
def Zbdi:MCode:=cut2 Zir 47 9 Zbde 25 Zbdh
def Zbtt:MFun:=Zo Zir 17 Zbdd 47 Zbdi
def Zvm(a:Program):Rs:=C 256 [.agg (a.c.map .t)] []
def Zge(p:Program)(cc:Za)(d:Zn)(cd:Int):Rs:=EvL C [.blk 0,.seq Zbdi,.fin 0 [.cellO 2 (some 4) [none,none,some (149,2),some (149,2)],.tmpO 3 [none]]] [1,2,4,6] Zbdd ⟨[(1,.ptr 0 0),(2,.ptr 1 0),(4,.ptr 2 0),(6,I cd)],[[]],[.box (p.c.map .t),.box [I cc.Num,I cc.Den,.t .nil,.t .nil],.box (d.c.map .t)]⟩
def Zmx(cd:Za)(d:Zn)(cc:Za)(x x1:List Za)(n:Int)(x2:List Int)(x3 x4:Int):Rs:=EvL C [.blk 2,.seq Zbdh,.fin 0 [.cellO 2 (some 4) [none,none,some (149,2),some (149,2)],.tmpO 3 [none]]] [2,4,9,10,65,66,67] Zbde ⟨[(2,.ptr 0 0),(4,.ptr 1 0),(9,I n),(10,.ptr 2 0),(65,L 1 (x2.map ic)),(66,I x3),(67,I x4)],[[]],[.box [I cd.Num,I cd.Den,.t .nil,.t .nil],.box (d.c.map .t),.box [I cc.Num,I cc.Den,.own 3,.own 4],.arr 149 2 true (x.map Za.c),.arr 149 2 true (x1.map Za.c)]⟩
def Zp3(cd:Za)(d:Zn)(cc:Za)(x x1:List Za)(n:Int)(x2:List Int)(x3 x4:Int):Rs:=EvL C [.blk 4,.seq Zbdg,.fin 0 [.cellO 2 (some 4) [none,none,some (149,2),some (149,2)],.tmpO 3 [none]]] [2,4,9,10,86,87,88] Zbdf ⟨[(2,.ptr 0 0),(4,.ptr 1 0),(9,I n),(10,.ptr 2 0),(86,L 1 (x2.map ic)),(87,I x3),(88,I x4)],[[]],[.box [I cd.Num,I cd.Den,.t .nil,.t .nil],.box (d.c.map .t),.box [I cc.Num,I cc.Den,.own 3,.own 4],.arr 149 2 true (x.map Za.c),.arr 149 2 true (x1.map Za.c)]⟩
def Zbtu:MFun:=mkF (rawF 218 Tryz.f218)
def Z2g(a:Zf)(a1:Zb)(a2:Int):Rs:=C 218 [.agg (a.c.map .t),.agg (a1.c.map .t),I a2] []
def Zbtv:MFun:=mkF (rawF 175 Tryz.f175)
def Z2h(a:Zf)(a1:Zb)(a2:Int):Rs:=C 175 [.agg (a.c.map .t),.agg (a1.c.map .t),I a2] []
def Zbtw:RawF (rawF 220 Tryz.f220):={ m:=_ }
def Zbtx:MCode:=cut0 Zbtw 18
def Zbty:MFun:=Zbb Zbtw 18 Zbtx
def Z2i(a:Za):Rs:=C 220 [.agg (a.c.map .t)] []
def Zbdj:RawF (rawF 221 Tryz.f221):={ m:=_ }
def Zbdk:MCode:=cut0 Zbdj 7
def Zbdl:MCode:=cut0 Zbdj 25
def Zbtz:MFun:=Zo Zbdj 7 Zbdk 25 Zbdl
def Z2j(a a1 a2:Int):Rs:=C 221 [I a,I a1,I a2] []
def Zvn(k c cc p:Int):Rs:=EvL C [.blk 0,.seq Zbdl,.fin 0 [.tmp 6]] [0,1,2,7] Zbdk ⟨[(0,I k),(1,I c),(2,I cc),(7,I p)],[[]],[]⟩
def Zbdm:RawF (rawF 176 Tryz.f176):={ m:=_ }
def Zbdn:MCode:=cut0 Zbdm 39
def Zbdo:MCode:=cut0 Zbdm 47
def Zbt0:MFun:=Zo Zbdm 39 Zbdn 47 Zbdo
def Z2k(a:Za):Rs:=C 176 [.agg (a.c.map .t)] []
def Zvo(r_1:Za)(k:Int):Rs:=EvL C [.blk 0,.seq Zbdo,.fin 0 [.tmp 2]] [1,3] Zbdn ⟨[(1,.ptr 0 0),(3,I k)],[[]],[.box (r_1.c.map .t)]⟩
def Zbt1:MFun:=mkF (rawF 124 Tryz.f124)
def Zvp(a:Zf)(a1:Zb)(a2:Int):Rs:=C 124 [.agg (a.c.map .t),.agg (a1.c.map .t),I a2] []
def Zbdp:RawF (rawF 80 Tryz.f80):={ m:=_ }
def Zbt2:MCode:=cut0 Zbdp 18
def Zbt3:MCode:=cut1 Zbdp 12 6 Zbt2
def Zbt4:MFun:=Zbb Zbdp 12 Zbt3
def Z2l(a:Zf)(a1:Zb)(a2:Int):Rs:=C 80 [.agg (a.c.map .t),.agg (a1.c.map .t),I a2] []
def Z2m:RawF (rawF 41 Tryz.f41):={ m:=_ }
def Zbt5:MCode:=cut0 Z2m 24
def Zbdq:MCode:=cut1 Z2m 9 15 Zbt5
def Zbdr:MCode:=cut0 Z2m 25
def Zbt6:MFun:=Zo Z2m 9 Zbdq 25 Zbdr
def Zp4(a:Zf)(a1:Zb)(a2:Int):Rs:=C 41 [.agg (a.c.map .t),.agg (a1.c.map .t),I a2] []
def Zkp(x:List Int)(c cc x1 x2:Int):Rs:=EvL C [.blk 0,.seq Zbdr,.fin 0 [.tmp 6,.tmp 7]] [8,9,15,16,17] Zbdq ⟨[(8,I c),(9,I cc),(15,.own 0),(16,I x1),(17,I x2)],[[]],[.arr 3 1 true (x.map ic)]⟩
def Zbt7:MFun:=mkF (rawF 131 Tryz.f131)
def Zis(a:ByteArray):Rs:=C 131 [.t (.str a)] []
def Zbt8:MFun:=mkF (rawF 88 Tryz.f88)
def Z0(a a1 a2:Int):Rs:=C 88 [I a,I a1,I a2] []
def Zbds:RawF (rawF 258 Tryz.f258):={ m:=_ }
def Zbdt:MCode:=cut0 Zbds 7
def Zbdu:MCode:=cut0 Zbds 23
def Zbt9:MFun:=Zo Zbds 7 Zbdt 23 Zbdu
def Zvq(a:List Int)(a1:Int):Rs:=C 258 [L 1 (a.map ic),I a1] []
def Zvr(c:List Int)(n i:Int):Rs:=EvL C [.blk 0,.seq Zbdu,.fin 0 [.tmp 4]] [0,1,5] Zbdt ⟨[(0,L 1 (c.map ic)),(1,I n),(5,I i)],[[]],[]⟩
def Zbdv:RawF (rawF 195 Tryz.f195):={ m:=_ }
def Zbdw:MCode:=cut0 Zbdv 7
def Z2n:MCode:=cut0 Zbdv 31
def Zbua:MFun:=Zo Zbdv 7 Zbdw 31 Z2n
def Zd2(a a1:List Int):Rs:=C 195 [L 1 (a.map ic),L 1 (a1.map ic)] []
def Zvs(a b:List Int)(i:Int):Rs:=EvL C [.blk 0,.seq Z2n,.fin 0 [.tmp 4]] [0,1,5] Zbdw ⟨[(0,L 1 (a.map ic)),(1,L 1 (b.map ic)),(5,I i)],[[]],[]⟩
def Zvt(a b:List Int)(i:Int)(x:Bool):Rs:=Ev C [.fin 0 [.tmp 4]] Z2n ⟨[(0,L 1 (a.map ic)),(1,L 1 (b.map ic)),(5,I i),(15,Bo x)],[[]],[]⟩
def Zbdx:RawF (rawF 223 Tryz.f223):={ m:=_ }
def Zvu:MCode:=cut0 Zbdx 15
def Zvv:MCode:=cut0 Zbdx 31
def Zbdy:MFun:=Zo Zbdx 15 Zvu 31 Zvv
def Zhs(a:Ze):Rs:=C 223 [.agg (a.c.map .t)] []
def Zp5(t:Ze)(i:Int):Rs:=EvL C [.blk 0,.seq Zvv,.fin 0 [.tmp 2]] [1,3] Zvu ⟨[(1,.ptr 0 0),(3,I i)],[[]],[.box (t.c.map .t)]⟩
def Zbdz:RawF (rawF 179 Tryz.f179):={ m:=_ }
def Zbd0:MCode:=cut0 Zbdz 7
def Zbd1:MCode:=cut0 Zbdz 23
def Zbub:MFun:=Zo Zbdz 7 Zbd0 23 Zbd1
def Zmy(a:Zi):Rs:=C 179 [.agg (a.c.map .t)] []
def Zp6(d:Zi)(i:Int):Rs:=EvL C [.blk 0,.seq Zbd1,.fin 0 [.tmp 2]] [1,3] Zbd0 ⟨[(1,.ptr 0 0),(3,I i)],[[]],[.box (d.c.map .t)]⟩
def Z2o:RawF (rawF 259 Tryz.f259):={ m:=_ }
def Zbuc:MCode:=cut0 Z2o 22
def Zbd2:MCode:=cut1 Z2o 9 13 Zbuc
def Zbd3:MCode:=cut0 Z2o 23
def Zbud:MFun:=Zo Z2o 9 Zbd2 23 Zbd3
def Zer(a:Int):Rs:=C 259 [I a] []
def Zmz(c:List Int)(m v:Int):Rs:=EvL C [.blk 0,.seq Zbd3,.fin 0 [.tmp 2]] [0,3,4] Zbd2 ⟨[(0,I m),(3,.own 0),(4,I v)],[[]],[.arr 3 1 true (c.map ic)]⟩
def Zbd4:RawF (rawF 224 Tryz.f224):={ m:=_ }
def Zbd5:MCode:=cut0 Zbd4 9
def Zbd6:MCode:=cut0 Zbd4 19
def Zbue:MFun:=Zo Zbd4 9 Zbd5 19 Zbd6
def Zvw(a:Int):Rs:=C 224 [I a] []
def Zm0(c:List (List Int))(n m:Int):Rs:=EvL C [.blk 0,.seq Zbd6,.fin 0 [.tmp 2]] [0,3,4] Zbd5 ⟨[(0,I n),(3,.own 0),(4,I m)],[[]],[.arr 56 1 true (c.map isc)]⟩
def Zbd7:RawF (rawF 260 Tryz.f260):={ m:=_ }
def Zvx:MCode:=cut0 Zbd7 7
def Zvy:MCode:=cut0 Zbd7 23
def Zbd8:MFun:=Zo Zbd7 7 Zvx 23 Zvy
def Zp7(a:Ze)(a1:List Int):Rs:=C 260 [.agg (a.c.map .t),L 1 (a1.map ic)] []
def Zp8(t:Ze)(cc:List Int)(i:Int):Rs:=EvL C [.blk 0,.seq Zvy,.fin 0 [.tmp 4]] [1,2,5] Zvx ⟨[(1,L 1 (cc.map ic)),(2,.ptr 0 0),(5,I i)],[[]],[.box (t.c.map .t)]⟩
def Zbd9:RawF (rawF 261 Tryz.f261):={ m:=_ }
def Zbea:MCode:=cut0 Zbd9 9
def Zbeb:MCode:=cut0 Zbd9 27
def Zbuf:MFun:=Zo Zbd9 9 Zbea 27 Zbeb
def Zkq(a a1:List Int):Rs:=C 261 [L 1 (a.map ic),L 1 (a1.map ic)] []
def Zvz(cc cd c:List Int)(i:Int):Rs:=EvL C [.blk 0,.seq Zbeb,.fin 0 [.tmp 4,.tmp 5]] [0,1,6,7] Zbea ⟨[(0,L 1 (cd.map ic)),(1,L 1 (c.map ic)),(6,.own 0),(7,I i)],[[]],[.arr 3 1 true (cc.map ic)]⟩
def Zp9:RawF (rawF 262 Tryz.f262):={ m:=_ }
def Zbug:MCode:=cut0 Zp9 35
def Zbuh:MCode:=cut1 Zp9 27 8 Zbug
def Zv0:MCode:=cut1 Zp9 11 16 Zbuh
def Zbec:MCode:=cut0 Zp9 43
def Zv1:MCode:=cut1 Zp9 37 6 Zbec
def Zbed:MFun:=Zo Zp9 11 Zv0 37 Zv1
def Zqa(a:List (List Int))(a1:List Int):Rs:=C 262 [L 1 (a.map isc),L 1 (a1.map ic)] []
def Zit(cc c:List (List Int))(cl:List Int)(cd:Bool)(i:Int):Rs:=EvL C [.blk 0,.seq Zv1,.fin 0 [.tmp 4]] [0,1,5,6,7] Zv0 ⟨[(0,L 1 (c.map isc)),(1,L 1 (cl.map ic)),(5,.own 0),(6,Bo cd),(7,I i)],[[]],[.arr 56 1 true (cc.map isc)]⟩
def Ziu:RawF (rawF 225 Tryz.f225):={ m:=_ }
def Zbee:MCode:=cut0 Ziu 19
def Zbui:MCode:=cut0 Ziu 66
def Zbef:MCode:=cut1 Ziu 51 15 Zbui
def Zbeg:MCode:=cut0 Ziu 67
def Zbeh:MCode:=cut0 Ziu 68
def Z2p:MCode:=cut3 Ziu 36 15 Zbef 31 Zbeg 32 Zbeh
def Z2q:MCode:=cut0 Ziu 69
def Zbei:MCode:=cut2 Ziu 31 5 Z2p 38 Z2q
def Zbuj:MFun:=Zo Ziu 19 Zbee 31 Zbei
def Zqb(a:Ze)(a1:List Int):Rs:=C 225 [.agg (a.c.map .t),L 1 (a1.map ic)] []
def Zv2(t:Ze)(cd:List (List Int))(cc cl:List Int)(i:Int):Rs:=EvL C [.blk 0,.seq Zbei,.fin 0 [.tmp 4,.tmp 5]] [1,2,6,7,8] Zbee ⟨[(1,L 1 (cl.map ic)),(2,.ptr 0 0),(6,.own 1),(7,.own 2),(8,I i)],[[]],[.box (t.c.map .t),.arr 56 1 true (cd.map isc),.arr 3 1 true (cc.map ic)]⟩
def Zqc(t:Ze)(cd:List (List Int))(cc cl:List Int)(k:Int):Rs:=EvL C [.blk 2,.seq Z2q,.fin 0 [.tmp 4,.tmp 5]] [1,2,6,7,11] Z2p ⟨[(1,L 1 (cl.map ic)),(2,.ptr 0 0),(6,.own 1),(7,.own 2),(11,I k)],[[]],[.box (t.c.map .t),.arr 56 1 true (cd.map isc),.arr 3 1 true (cc.map ic)]⟩
def Zqd(t:Ze)(cd:List (List Int))(cc cl:List Int)(k n i:Int):Rs:=EvL C [.blk 4,.seq Zbeg,.blk 3,.seq Zbeh,.loop [1,2,6,7,11] Z2p,.blk 2,.seq Z2q,.fin 0 [.tmp 4,.tmp 5]] [1,2,6,7,11,12,13] Zbef ⟨[(1,L 1 (cl.map ic)),(2,.ptr 0 0),(6,.own 1),(7,.own 2),(11,I k),(12,I n),(13,I i)],[[]],[.box (t.c.map .t),.arr 56 1 true (cd.map isc),.arr 3 1 true (cc.map ic)]⟩
def Zbej:RawF (rawF 180 Tryz.f180):={ m:=_ }
def Z2r:MCode:=cut0 Zbej 19
def Z2s:MCode:=cut0 Zbej 31
def Zbuk:MFun:=Zo Zbej 19 Z2r 31 Z2s
def Zht(a:Ze):Rs:=C 180 [.agg (a.c.map .t)] []
def Zbek(t:Ze)(cp:ByteArray)(cn cd:Int)(co:ByteArray)(cl cc:Int)(l:List (List Int))(i:Int):Rs:=EvL C [.blk 0,.seq Z2s,.fin 0 [.cell 2 (some 4)]] [1,2,3,4,5] Z2r ⟨[(1,.ptr 0 0),(2,.ptr 1 0),(3,.ptr 2 0),(4,.own 3),(5,I i)],[[]],[.box (t.c.map .t),.box [.t (.str cp),I cn,I cd,.t .nil],.box [.t (.str co),I cl,I cc,.t .nil],.arr 56 1 true (l.map isc)]⟩
def Zv3(t:Ze)(cp:ByteArray)(cn cd:Int)(co:ByteArray)(cl cc:Int)(fr:Bool)(x:List Zh)(l:List (List Int))(i:Int):Rs:=EvL C [.blk 0,.seq Z2s,.fin 0 [.cell 2 (some 4)]] [1,2,3,4,5] Z2r ⟨[(1,.ptr 0 0),(2,.ptr 1 0),(3,.ptr 2 0),(4,.own 4),(5,I i)],[[]],[.box (t.c.map .t),.box [.t (.str cp),I cn,I cd,.t .nil],.box [.t (.str co),I cl,I cc,.own 3],.arr 200 3 fr (x.map Zh.c),.arr 56 1 true (l.map isc)]⟩
def Zbel:RawF (rawF 127 Tryz.f127):={ m:=_ }
def Z2t:MCode:=cut0 Zbel 17
def Z2u:MCode:=cut0 Zbel 29
def Zbul:MFun:=Zo Zbel 17 Z2t 29 Z2u
def Zqe(a:Zi)(a1:Int):Rs:=C 127 [.agg (a.c.map .t),I a1] []
def Zbem(d:Zi)(cd cc i:Int):Rs:=EvL C [.blk 0,.seq Z2u,.fin 0 [.cell 4 (some 2),.tmp 5]] [2,4,6,7] Z2t ⟨[(2,.ptr 0 0),(4,.ptr 1 0),(6,.ptr 2 0),(7,I i)],[[]],[.box (d.c.map .t),.box [I cd,.t .nil],.box [I cc,.t .nil]]⟩
def Zm1(d:Zi)(cd cc:Int)(fr:Bool)(x:List Zg)(i:Int):Rs:=EvL C [.blk 0,.seq Z2u,.fin 0 [.cell 4 (some 2),.tmp 5]] [2,4,6,7] Z2t ⟨[(2,.ptr 0 0),(4,.ptr 1 0),(6,.ptr 2 0),(7,I i)],[[]],[.box (d.c.map .t),.box [I cd,.t .nil],.box [I cc,.own 3],.arr 141 4 fr (x.map Zg.c)]⟩
def Zben:RawF (rawF 128 Tryz.f128):={ m:=_ }
def Zv4:MCode:=cut0 Zben 15
def Zv5:MCode:=cut0 Zben 31
def Zbeo:MFun:=Zo Zben 15 Zv4 31 Zv5
def Zv6(cc:Int)(a:Zl):Rs:=C 128 [.agg [I cc,.t .nil],.agg (a.c.map .t)] []
def Zbep(cc:Int)(b:Zl)(i:Int):Rs:=EvL C [.blk 0,.seq Zv5,.fin 0 [.tmp 4]] [2,3,5] Zv4 ⟨[(2,.ptr 0 0),(3,.ptr 1 0),(5,I i)],[[]],[.box [I cc,.t .nil],.box (b.c.map .t)]⟩
def Zbeq:RawF (rawF 184 Tryz.f184):={ m:=_ }
def Z2v:MCode:=cut0 Zbeq 9
def Z2w:MCode:=cut0 Zbeq 19
def Zbum:MFun:=Zo Zbeq 9 Z2v 19 Z2w
def Zv7(a:Ze):Rs:=C 184 [.agg (a.c.map .t)] []
def Zber(t:Ze)(cn:ByteArray)(cd:Int)(cl:ByteArray)(cc i:Int):Rs:=EvL C [.blk 0,.seq Z2w,.fin 0 [.cell 2 (some 3)]] [1,2,3,4] Z2v ⟨[(1,.ptr 0 0),(2,.ptr 1 0),(3,.ptr 2 0),(4,I i)],[[]],[.box (t.c.map .t),.box [.t (.str cn),I cd,.t .nil],.box [.t (.str cl),I cc,.t .nil]]⟩
def Zv8(t:Ze)(cn:ByteArray)(cd:Int)(cl:ByteArray)(cc:Int)(x:List (List Int))(i:Int):Rs:=EvL C [.blk 0,.seq Z2w,.fin 0 [.cell 2 (some 3)]] [1,2,3,4] Z2v ⟨[(1,.ptr 0 0),(2,.ptr 1 0),(3,.ptr 2 0),(4,I i)],[[]],[.box (t.c.map .t),.box [.t (.str cn),I cd,.t .nil],.box [.t (.str cl),I cc,.own 3],.arr 56 1 true (x.map isc)]⟩
def Zbes:RawF (rawF 130 Tryz.f130):={ m:=_ }
def Zbet:MCode:=cut0 Zbes 7
def Zbeu:MCode:=cut0 Zbes 23
def Zbun:MFun:=Zo Zbes 7 Zbet 23 Zbeu
def Zch(a:Zi)(a1:ByteArray):Rs:=C 130 [.agg (a.c.map .t),.t (.str a1)] []
def Zv9(d:Zi)(cd:ByteArray)(cc:Int)(cl:ByteArray)(i:Int):Rs:=EvL C [.blk 0,.seq Zbeu,.fin 0 [.cell 4 (some 3),.tmp 5]] [1,2,4,6] Zbet ⟨[(1,.t (.str cl)),(2,.ptr 0 0),(4,.ptr 1 0),(6,I i)],[[]],[.box (d.c.map .t),.box [.t (.str cd),I cc,.t .nil]]⟩
def Zm2(cc:ByteArray)(c:Int):Rs:=C 223 [.agg [.t (.str cc),I c,.t .nil]] []
def Zbev(cc:ByteArray)(c i:Int):Rs:=EvL C [.blk 0,.seq Zvv,.fin 0 [.tmp 2]] [1,3] Zvu ⟨[(1,.ptr 0 0),(3,I i)],[[]],[.box [.t (.str cc),I c,.t .nil]]⟩
def Z2x(cc:ByteArray)(c:Int)(a:List Int):Rs:=C 260 [.agg [.t (.str cc),I c,.t .nil],L 1 (a.map ic)] []
def Zqf(cc:ByteArray)(c:Int)(cd:List Int)(i:Int):Rs:=EvL C [.blk 0,.seq Zvy,.fin 0 [.tmp 4]] [1,2,5] Zvx ⟨[(1,L 1 (cd.map ic)),(2,.ptr 0 0),(5,I i)],[[]],[.box [.t (.str cc),I c,.t .nil]]⟩
def Zbew:RawF (rawF 132 Tryz.f132):={ m:=_ }
def Zbex:MCode:=cut0 Zbew 7
def Zbey:MCode:=cut0 Zbew 23
def Zbuo:MFun:=Zo Zbew 7 Zbex 23 Zbey
def Zes(a:List Int)(a1:Int):Rs:=C 132 [L 1 (a.map ic),I a1] []
def Zwa(l:List Int)(x i:Int):Rs:=EvL C [.blk 0,.seq Zbey,.fin 0 [.tmp 4]] [0,1,5] Zbex ⟨[(0,L 1 (l.map ic)),(1,I x),(5,I i)],[[]],[]⟩
def Zbup:MFun:=mkF (rawF 226 Tryz.f226)
def Zqg(a:Zi)(a1:Zk):Rs:=C 226 [.agg (a.c.map .t),.agg (a1.c.map .t)] []
def Zwb:RawF (rawF 227 Tryz.f227):={ m:=_ }
def Zbez:MCode:=cut0 Zwb 23
def Zbe0:MCode:=cut0 Zwb 41
def Zwc:MCode:=cut2 Zwb 9 14 Zbez 32 Zbe0
def Zwd:MCode:=cut0 Zwb 42
def Zbuq:MFun:=Zo Zwb 9 Zwc 42 Zwd
def Z2y(a:Zi)(a1:Zk):Rs:=C 227 [.agg (a.c.map .t),.agg (a1.c.map .t)] []
def Zbe1(d:Zi)(f:Zk)(cd:ByteArray)(cc k:Int):Rs:=EvL C [.blk 0,.seq Zwd,.fin 0 [.tmp 4]] [2,3,5,7] Zwc ⟨[(2,.ptr 0 0),(3,.ptr 1 0),(5,.ptr 2 0),(7,I k)],[[]],[.box (d.c.map .t),.box (f.c.map .t),.box [.t (.str cd),I cc,.t .nil]]⟩
def Zqh(d:Zi)(f:Zk)(cd:ByteArray)(cc:Int)(x:List (List Int))(k:Int):Rs:=EvL C [.blk 0,.seq Zwd,.fin 0 [.tmp 4]] [2,3,5,7] Zwc ⟨[(2,.ptr 0 0),(3,.ptr 1 0),(5,.ptr 2 0),(7,I k)],[[]],[.box (d.c.map .t),.box (f.c.map .t),.box [.t (.str cd),I cc,.own 3],.arr 56 1 true (x.map isc)]⟩
def Ziv(d:Zi)(f:Zk)(cd:ByteArray)(cc:Int)(x:List (List Int))(y:List Int)(k i:Int):Rs:=EvL C [.blk 2,.blk 1,.seq Zbe0,.loop [2,3,5,7] Zwc,.blk 0,.seq Zwd,.fin 0 [.tmp 4]] [2,3,5,7,8,10] Zbez ⟨[(2,.ptr 0 0),(3,.ptr 1 0),(5,.ptr 2 0),(7,I k),(8,.own 4),(10,I i)],[[]],[.box (d.c.map .t),.box (f.c.map .t),.box [.t (.str cd),I cc,.own 3],.arr 56 1 true (x.map isc),.arr 3 1 true (y.map ic)]⟩
def Zbur:MFun:=mkF (rawF 182 Tryz.f182)
def Zwe(a:Zi)(a1:Zk):Rs:=C 182 [.agg (a.c.map .t),.agg (a1.c.map .t)] []
def Zbus:MFun:=mkF (rawF 228 Tryz.f228)
def Zqi(a:Zi)(a1:Zj):Rs:=C 228 [.agg (a.c.map .t),.agg (a1.c.map .t)] []
def Zkr:RawF (rawF 229 Tryz.f229):={ m:=_ }
def Zqj:MCode:=cut0 Zkr 38
def Zqk:MCode:=cut0 Zkr 53
def Zql:MCode:=cut0 Zkr 63
def Zqm:MCode:=cut2 Zkr 48 5 Zqk 15 Zql
def Zhu:MCode:=cut0 Zkr 68
def Ze6:MCode:=cut3 Zkr 21 17 Zqj 27 Zqm 47 Zhu
def Ze7:MCode:=cut0 Zkr 69
def Zbut:MFun:=Zo Zkr 21 Ze6 69 Ze7
def Zbe2(a:Zi)(a1:Zj):Rs:=C 229 [.agg (a.c.map .t),.agg (a1.c.map .t)] []
def Zgf(x:Zj)(co:List Int)(cn:ByteArray)(cd:Int)(cl:ByteArray)(cc v:Int):Rs:=EvL C [.blk 0,.seq Ze7,.fin 0 [.tmp 4]] [3,5,6,8,10] Ze6 ⟨[(3,.ptr 0 0),(5,.own 1),(6,.ptr 2 0),(8,.ptr 3 0),(10,I v)],[[]],[.box (x.c.map .t),.arr 3 1 true (co.map ic),.box [.t (.str cn),I cd,.t .nil],.box [.t (.str cl),I cc,.t .nil]]⟩
def Zgg(x:Zj)(co:List Int)(cn:ByteArray)(cd:Int)(cl:ByteArray)(cc:Int)(x1:List (List Int))(v:Int):Rs:=EvL C [.blk 0,.seq Ze7,.fin 0 [.tmp 4]] [3,5,6,8,10] Ze6 ⟨[(3,.ptr 0 0),(5,.own 1),(6,.ptr 2 0),(8,.ptr 3 0),(10,I v)],[[]],[.box (x.c.map .t),.arr 3 1 true (co.map ic),.box [.t (.str cn),I cd,.t .nil],.box [.t (.str cl),I cc,.own 4],.arr 56 1 true (x1.map isc)]⟩
def Zgh(x:Zj)(co:List Int)(cn:ByteArray)(cd:Int)(x1:List (List Int))(cl:ByteArray)(cc v:Int):Rs:=EvL C [.blk 0,.seq Ze7,.fin 0 [.tmp 4]] [3,5,6,8,10] Ze6 ⟨[(3,.ptr 0 0),(5,.own 1),(6,.ptr 2 0),(8,.ptr 4 0),(10,I v)],[[]],[.box (x.c.map .t),.arr 3 1 true (co.map ic),.box [.t (.str cn),I cd,.own 3],.arr 56 1 true (x1.map isc),.box [.t (.str cl),I cc,.t .nil]]⟩
def Zgi(x:Zj)(co:List Int)(cn:ByteArray)(cd:Int)(x1:List (List Int))(cl:ByteArray)(cc:Int)(x2:List (List Int))(v:Int):Rs:=EvL C [.blk 0,.seq Ze7,.fin 0 [.tmp 4]] [3,5,6,8,10] Ze6 ⟨[(3,.ptr 0 0),(5,.own 1),(6,.ptr 2 0),(8,.ptr 4 0),(10,I v)],[[]],[.box (x.c.map .t),.arr 3 1 true (co.map ic),.box [.t (.str cn),I cd,.own 3],.arr 56 1 true (x1.map isc),.box [.t (.str cl),I cc,.own 5],.arr 56 1 true (x2.map isc)]⟩
def Zwf(x:Zj)(cp:List Int)(cn:ByteArray)(cd:Int)(cl:ByteArray)(cc v:Int)(co cu:Bool)(i:Int):Rs:=EvL C [.blk 2,.seq Zqm,.blk 1,.seq Zhu,.loop [3,5,6,8,10] Ze6,.blk 0,.seq Ze7,.fin 0 [.tmp 4]] [3,5,6,8,10,11,12,13] Zqj ⟨[(3,.ptr 0 0),(5,.own 1),(6,.ptr 2 0),(8,.ptr 3 0),(10,I v),(11,Bo co),(12,Bo cu),(13,I i)],[[]],[.box (x.c.map .t),.arr 3 1 true (cp.map ic),.box [.t (.str cn),I cd,.t .nil],.box [.t (.str cl),I cc,.t .nil]]⟩
def Zwg(x:Zj)(cp:List Int)(cn:ByteArray)(cd:Int)(cl:ByteArray)(cc:Int)(x1:List (List Int))(v:Int)(co cu:Bool)(i:Int):Rs:=EvL C [.blk 2,.seq Zqm,.blk 1,.seq Zhu,.loop [3,5,6,8,10] Ze6,.blk 0,.seq Ze7,.fin 0 [.tmp 4]] [3,5,6,8,10,11,12,13] Zqj ⟨[(3,.ptr 0 0),(5,.own 1),(6,.ptr 2 0),(8,.ptr 3 0),(10,I v),(11,Bo co),(12,Bo cu),(13,I i)],[[]],[.box (x.c.map .t),.arr 3 1 true (cp.map ic),.box [.t (.str cn),I cd,.t .nil],.box [.t (.str cl),I cc,.own 4],.arr 56 1 true (x1.map isc)]⟩
def Zqn(x:Zj)(cp:List Int)(cn:ByteArray)(cd:Int)(x1:List (List Int))(cl:ByteArray)(cc v:Int)(co cu:Bool)(i:Int):Rs:=EvL C [.blk 2,.seq Zqm,.blk 1,.seq Zhu,.loop [3,5,6,8,10] Ze6,.blk 0,.seq Ze7,.fin 0 [.tmp 4]] [3,5,6,8,10,11,12,13] Zqj ⟨[(3,.ptr 0 0),(5,.own 1),(6,.ptr 2 0),(8,.ptr 4 0),(10,I v),(11,Bo co),(12,Bo cu),(13,I i)],[[]],[.box (x.c.map .t),.arr 3 1 true (cp.map ic),.box [.t (.str cn),I cd,.own 3],.arr 56 1 true (x1.map isc),.box [.t (.str cl),I cc,.t .nil]]⟩
def Zqo(x:Zj)(cp:List Int)(cn:ByteArray)(cd:Int)(x1:List (List Int))(cl:ByteArray)(cc:Int)(x2:List (List Int))(v:Int)(co cu:Bool)(i:Int):Rs:=EvL C [.blk 2,.seq Zqm,.blk 1,.seq Zhu,.loop [3,5,6,8,10] Ze6,.blk 0,.seq Ze7,.fin 0 [.tmp 4]] [3,5,6,8,10,11,12,13] Zqj ⟨[(3,.ptr 0 0),(5,.own 1),(6,.ptr 2 0),(8,.ptr 4 0),(10,I v),(11,Bo co),(12,Bo cu),(13,I i)],[[]],[.box (x.c.map .t),.arr 3 1 true (cp.map ic),.box [.t (.str cn),I cd,.own 3],.arr 56 1 true (x1.map isc),.box [.t (.str cl),I cc,.own 5],.arr 56 1 true (x2.map isc)]⟩
def Zqp(x:Zj)(cp:List Int)(cn:ByteArray)(cd:Int)(cl:ByteArray)(cc v:Int)(co cu:Bool)(i:Int):Rs:=EvL C [.blk 4,.seq Zql,.blk 1,.seq Zhu,.loop [3,5,6,8,10] Ze6,.blk 0,.seq Ze7,.fin 0 [.tmp 4]] [3,5,6,8,10,11,12,14] Zqk ⟨[(3,.ptr 0 0),(5,.own 1),(6,.ptr 2 0),(8,.ptr 3 0),(10,I v),(11,Bo co),(12,Bo cu),(14,I i)],[[]],[.box (x.c.map .t),.arr 3 1 true (cp.map ic),.box [.t (.str cn),I cd,.t .nil],.box [.t (.str cl),I cc,.t .nil]]⟩
def Zm3(x:Zj)(cp:List Int)(cn:ByteArray)(cd:Int)(cl:ByteArray)(cc:Int)(x1:List (List Int))(v:Int)(co cu:Bool)(i:Int):Rs:=EvL C [.blk 4,.seq Zql,.blk 1,.seq Zhu,.loop [3,5,6,8,10] Ze6,.blk 0,.seq Ze7,.fin 0 [.tmp 4]] [3,5,6,8,10,11,12,14] Zqk ⟨[(3,.ptr 0 0),(5,.own 1),(6,.ptr 2 0),(8,.ptr 3 0),(10,I v),(11,Bo co),(12,Bo cu),(14,I i)],[[]],[.box (x.c.map .t),.arr 3 1 true (cp.map ic),.box [.t (.str cn),I cd,.t .nil],.box [.t (.str cl),I cc,.own 4],.arr 56 1 true (x1.map isc)]⟩
def Zqq(x:Zj)(cp:List Int)(cn:ByteArray)(cd:Int)(x1:List (List Int))(cl:ByteArray)(cc v:Int)(co cu:Bool)(i:Int):Rs:=EvL C [.blk 4,.seq Zql,.blk 1,.seq Zhu,.loop [3,5,6,8,10] Ze6,.blk 0,.seq Ze7,.fin 0 [.tmp 4]] [3,5,6,8,10,11,12,14] Zqk ⟨[(3,.ptr 0 0),(5,.own 1),(6,.ptr 2 0),(8,.ptr 4 0),(10,I v),(11,Bo co),(12,Bo cu),(14,I i)],[[]],[.box (x.c.map .t),.arr 3 1 true (cp.map ic),.box [.t (.str cn),I cd,.own 3],.arr 56 1 true (x1.map isc),.box [.t (.str cl),I cc,.t .nil]]⟩
def Zm4(x:Zj)(cp:List Int)(cn:ByteArray)(cd:Int)(x1:List (List Int))(cl:ByteArray)(cc:Int)(x2:List (List Int))(v:Int)(co cu:Bool)(i:Int):Rs:=EvL C [.blk 4,.seq Zql,.blk 1,.seq Zhu,.loop [3,5,6,8,10] Ze6,.blk 0,.seq Ze7,.fin 0 [.tmp 4]] [3,5,6,8,10,11,12,14] Zqk ⟨[(3,.ptr 0 0),(5,.own 1),(6,.ptr 2 0),(8,.ptr 4 0),(10,I v),(11,Bo co),(12,Bo cu),(14,I i)],[[]],[.box (x.c.map .t),.arr 3 1 true (cp.map ic),.box [.t (.str cn),I cd,.own 3],.arr 56 1 true (x1.map isc),.box [.t (.str cl),I cc,.own 5],.arr 56 1 true (x2.map isc)]⟩
def Zbuu:MFun:=mkF (rawF 183 Tryz.f183)
def Z2z(a:Zi)(a1:Zj):Rs:=C 183 [.agg (a.c.map .t),.agg (a1.c.map .t)] []
def Zwh:RawF (rawF 129 Tryz.f129):={ m:=_ }
def Zbe3:MCode:=cut0 Zwh 15
def Zbe4:MCode:=cut0 Zwh 36
def Zbe5:MCode:=cut0 Zwh 52
def Zbe6:MCode:=cut2 Zwh 31 5 Zbe4 21 Zbe5
def Zbuv:MFun:=Zo Zwh 15 Zbe3 31 Zbe6
def Zqr(a:Zi)(a1:List Zk)(a2:List Zj):Rs:=C 129 [.agg (a.c.map .t),L 3 (a1.map Zk.c),L 4 (a2.map Zj.c)] []
def Zwi(d:Zi)(cc:List Zk)(cd:List Zj)(i:Int):Rs:=EvL C [.blk 0,.seq Zbe6,.fin 0 [.tmp 6]] [1,2,3,7] Zbe3 ⟨[(1,L 3 (cc.map Zk.c)),(2,L 4 (cd.map Zj.c)),(3,.ptr 0 0),(7,I i)],[[]],[.box (d.c.map .t)]⟩
def Zwj(d:Zi)(cc:List Zj)(i:Int):Rs:=EvL C [.blk 2,.seq Zbe5,.fin 0 [.tmp 6]] [2,3,8] Zbe4 ⟨[(2,L 4 (cc.map Zj.c)),(3,.ptr 0 0),(8,I i)],[[]],[.box (d.c.map .t)]⟩
def Zwk:RawF (rawF 181 Tryz.f181):={ m:=_ }
def Zbe7:MCode:=cut0 Zwk 39
def Zbe8:MCode:=cut0 Zwk 55
def Z20:MCode:=cut2 Zwk 15 24 Zbe7 40 Zbe8
def Z21:MCode:=cut0 Zwk 56
def Zbuw:MFun:=Zo Zwk 15 Z20 56 Z21
def Zqs(a a1:Zg):Rs:=C 181 [.agg (a.c.map .t),.agg (a1.c.map .t)] []
def Zm5(a b:Zg)(i:Int):Rs:=EvL C [.blk 0,.seq Z21,.fin 0 [.tmp 4]] [2,3,5] Z20 ⟨[(2,.ptr 0 0),(3,.ptr 1 0),(5,I i)],[[]],[.box (a.c.map .t),.box (b.c.map .t)]⟩
def Zqt(a b:Zg)(x y:Zh)(i k:Int):Rs:=EvL C [.blk 2,.blk 1,.seq Zbe8,.loop [2,3,5] Z20,.blk 0,.seq Z21,.fin 0 [.tmp 4]] [2,3,5,6,7,8] Zbe7 ⟨[(2,.ptr 0 0),(3,.ptr 1 0),(5,I i),(6,.ptr 2 0),(7,.ptr 3 0),(8,I k)],[[]],[.box (a.c.map .t),.box (b.c.map .t),.box (x.c.map .t),.box (y.c.map .t)]⟩
def Z22(a a1:Zl):Rs:=C 128 [.agg (a.c.map .t),.agg (a1.c.map .t)] []
def Zwl(a b:Zl)(i:Int):Rs:=EvL C [.blk 0,.seq Zv5,.fin 0 [.tmp 4]] [2,3,5] Zv4 ⟨[(2,.ptr 0 0),(3,.ptr 1 0),(5,I i)],[[]],[.box (a.c.map .t),.box (b.c.map .t)]⟩
def Zbux:MFun:=mkF (rawF 86 Tryz.f86)
def Zwm(a:Zf):Rs:=C 86 [.agg (a.c.map .t)] []
def Zwn:RawF (rawF 89 Tryz.f89):={ m:=_ }
def Zbe9:MCode:=cut0 Zwn 39
def Zbfa:MCode:=cut0 Zwn 57
def Z23:MCode:=cut2 Zwn 17 22 Zbe9 40 Zbfa
def Z24:MCode:=cut0 Zwn 58
def Zbuy:MFun:=Zo Zwn 17 Z23 58 Z24
def Zm6(a:Zb):Rs:=C 89 [.agg (a.c.map .t)] []
def Zqu(q:Zb)(cc i:Int):Rs:=EvL C [.blk 0,.seq Z24,.fin 0 [.tmp 2]] [1,3,4] Z23 ⟨[(1,.ptr 0 0),(3,I cc),(4,I i)],[[]],[.box (q.c.map .t)]⟩
def Zwo(q:Zb)(a:Atom)(cc i k:Int):Rs:=EvL C [.blk 2,.blk 1,.seq Zbfa,.loop [1,3,4] Z23,.blk 0,.seq Z24,.fin 0 [.tmp 2]] [1,3,4,5,6] Zbe9 ⟨[(1,.ptr 0 0),(3,I cc),(4,I i),(5,.ptr 1 0),(6,I k)],[[]],[.box (q.c.map .t),.box (a.c.map .t)]⟩
def Zbfb:RawF (rawF 87 Tryz.f87):={ m:=_ }
def Zbfc:MCode:=cut0 Zbfb 15
def Zbfd:MCode:=cut0 Zbfb 33
def Zbuz:MFun:=Zo Zbfb 15 Zbfc 33 Zbfd
def Z25(a:Zi)(a1:Zb):Rs:=C 87 [.agg (a.c.map .t),.agg (a1.c.map .t)] []
def Zqv(d:Zi)(q:Zb)(i:Int):Rs:=EvL C [.blk 0,.seq Zbfd,.fin 0 [.tmp 4]] [2,3,5] Zbfc ⟨[(2,.ptr 0 0),(3,.ptr 1 0),(5,I i)],[[]],[.box (d.c.map .t),.box (q.c.map .t)]⟩
def Zbu0:MFun:=mkF (rawF 48 Tryz.f48)
def Zfr(a:Zb):Rs:=C 48 [.agg (a.c.map .t)] []
def Zbu1:MFun:=mkF (rawF 47 Tryz.f47)
def Zcv(a:Zf)(a1:Zb)(a2:Int):Rs:=C 47 [.agg (a.c.map .t),.agg (a1.c.map .t),I a2] []
def Z26(a:List Int):Rs:=C 262 [.t .nil,L 1 (a.map ic)] []
def Zbfe(c:List (List Int))(cd:List Int)(cc:Bool)(i:Int):Rs:=EvL C [.blk 0,.seq Zv1,.fin 0 [.tmp 4]] [0,1,5,6,7] Zv0 ⟨[(0,.t .nil),(1,L 1 (cd.map ic)),(5,.own 0),(6,Bo cc),(7,I i)],[[]],[.arr 56 1 true (c.map isc)]⟩
def Zbff:RawF (rawF 234 Tryz.f234):={ m:=_ }
def Z27:MCode:=cut0 Zbff 9
def Z28:MCode:=cut0 Zbff 19
def Zbu2:MFun:=Zo Zbff 9 Z27 19 Z28
def Z29(a:ByteArray)(a1:Int)(a2:List (List Int)):Rs:=C 234 [.t (.str a),I a1,L 1 (a2.map isc)] []
def Zbfg(cl:ByteArray)(cc:Int)(cd:ByteArray)(c:Int)(cn:List (List Int))(i:Int):Rs:=EvL C [.blk 0,.seq Z28,.fin 0 [.cellO 6 (some 3) [none,none,some (56,1)],.tmpO 7 [none]]] [2,6,8,9] Z27 ⟨[(2,L 1 (cn.map isc)),(6,.ptr 0 0),(8,.ptr 1 0),(9,I i)],[[]],[.box [.t (.str cl),I cc,.t .nil],.box [.t (.str cd),I c,.t .nil]]⟩
def Zwp(cl:ByteArray)(cc:Int)(cd:ByteArray)(c:Int)(x cn:List (List Int))(i:Int):Rs:=EvL C [.blk 0,.seq Z28,.fin 0 [.cellO 6 (some 3) [none,none,some (56,1)],.tmpO 7 [none]]] [2,6,8,9] Z27 ⟨[(2,L 1 (cn.map isc)),(6,.ptr 0 0),(8,.ptr 1 0),(9,I i)],[[]],[.box [.t (.str cl),I cc,.t .nil],.box [.t (.str cd),I c,.own 2],.arr 56 1 true (x.map isc)]⟩
def Zbu3:MFun:=mkF (rawF 197 Tryz.f197)
def Z3a(a:Zg):Rs:=C 197 [.agg (a.c.map .t)] []
def Zbu4(cl:ByteArray)(cd cc:Int)(a:Zg):Rs:=C 181 [.agg [.t (.str cl),I cd,I cc,.t .nil],.agg (a.c.map .t)] []
def Zbu5:MFun:=mkF (rawF 152 Tryz.f152)
def Ziw(a:Zg):Rs:=C 152 [.agg (a.c.map .t)] []
def Zqw:RawF (rawF 194 Tryz.f194):={ m:=_ }
def Zm7:MCode:=cut0 Zqw 24
def Zm8:MCode:=cut0 Zqw 34
def Zm9:MCode:=cut0 Zqw 35
def Zks:MCode:=cut3 Zqw 9 15 Zm7 25 Zm8 26 Zm9
def Zkt:MCode:=cut0 Zqw 36
def Zbu6:MFun:=Zo Zqw 9 Zks 36 Zkt
def Z3b(a:Zg):Rs:=C 194 [.agg (a.c.map .t)] []
def Z3c(s:Zg)(cp:ByteArray)(cn cd:Int)(co:ByteArray)(cl cc i:Int):Rs:=EvL C [.blk 0,.seq Zkt,.fin 0 [.cellO 2 (some 4) [none,none,none,some (200,3)]]] [1,2,3,4] Zks ⟨[(1,.ptr 0 0),(2,.ptr 1 0),(3,.ptr 2 0),(4,I i)],[[]],[.box (s.c.map .t),.box [.t (.str cp),I cn,I cd,.t .nil],.box [.t (.str co),I cl,I cc,.t .nil]]⟩
def Zbfh(s:Zg)(cp:ByteArray)(cn cd:Int)(co:ByteArray)(cl cc:Int)(x x1:List Int)(i k:Int):Rs:=EvL C [.blk 2,.seq Zm8,.blk 1,.seq Zm9,.loop [1,2,3,4] Zks,.blk 0,.seq Zkt,.fin 0 [.cellO 2 (some 4) [none,none,none,some (200,3)]]] [1,2,3,4,5,6] Zm7 ⟨[(1,.ptr 0 0),(2,.ptr 1 0),(3,.ptr 2 0),(4,I i),(5,.ptr 3 0),(6,I k)],[[]],[.box (s.c.map .t),.box [.t (.str cp),I cn,I cd,.t .nil],.box [.t (.str co),I cl,I cc,.t .nil],.box [.own 4,.t .nil,.own 5],.arr 3 1 true (x.map ic),.arr 3 1 true (x1.map ic)]⟩
def Zwq(s:Zg)(cp:ByteArray)(cn cd:Int)(co:ByteArray)(cl cc:Int)(x:List Int)(x1:List (List Int))(x2:List Int)(i k:Int):Rs:=EvL C [.blk 2,.seq Zm8,.blk 1,.seq Zm9,.loop [1,2,3,4] Zks,.blk 0,.seq Zkt,.fin 0 [.cellO 2 (some 4) [none,none,none,some (200,3)]]] [1,2,3,4,5,6] Zm7 ⟨[(1,.ptr 0 0),(2,.ptr 1 0),(3,.ptr 2 0),(4,I i),(5,.ptr 3 0),(6,I k)],[[]],[.box (s.c.map .t),.box [.t (.str cp),I cn,I cd,.t .nil],.box [.t (.str co),I cl,I cc,.t .nil],.box [.own 4,.own 5,.own 6],.arr 3 1 true (x.map ic),.arr 56 1 true (x1.map isc),.arr 3 1 true (x2.map ic)]⟩
def Zhv(s:Zg)(cp:ByteArray)(cn cd:Int)(co:ByteArray)(cl cc:Int)(x:List Zh)(i:Int):Rs:=EvL C [.blk 0,.seq Zkt,.fin 0 [.cellO 2 (some 4) [none,none,none,some (200,3)]]] [1,2,3,4] Zks ⟨[(1,.ptr 0 0),(2,.ptr 1 0),(3,.ptr 2 0),(4,I i)],[[]],[.box (s.c.map .t),.box [.t (.str cp),I cn,I cd,.t .nil],.box [.t (.str co),I cl,I cc,.own 3],.arr 200 3 true (x.map Zh.c)]⟩
def Z3d(s:Zg)(cp:ByteArray)(cn cd:Int)(co:ByteArray)(cl cc:Int)(x:List Zh)(x1 x2:List Int)(i k:Int):Rs:=EvL C [.blk 2,.seq Zm8,.blk 1,.seq Zm9,.loop [1,2,3,4] Zks,.blk 0,.seq Zkt,.fin 0 [.cellO 2 (some 4) [none,none,none,some (200,3)]]] [1,2,3,4,5,6] Zm7 ⟨[(1,.ptr 0 0),(2,.ptr 1 0),(3,.ptr 2 0),(4,I i),(5,.ptr 4 0),(6,I k)],[[]],[.box (s.c.map .t),.box [.t (.str cp),I cn,I cd,.t .nil],.box [.t (.str co),I cl,I cc,.own 3],.arr 200 3 true (x.map Zh.c),.box [.own 5,.t .nil,.own 6],.arr 3 1 true (x1.map ic),.arr 3 1 true (x2.map ic)]⟩
def Zwr(s:Zg)(cp:ByteArray)(cn cd:Int)(co:ByteArray)(cl cc:Int)(x:List Zh)(x1:List Int)(x2:List (List Int))(x3:List Int)(i k:Int):Rs:=EvL C [.blk 2,.seq Zm8,.blk 1,.seq Zm9,.loop [1,2,3,4] Zks,.blk 0,.seq Zkt,.fin 0 [.cellO 2 (some 4) [none,none,none,some (200,3)]]] [1,2,3,4,5,6] Zm7 ⟨[(1,.ptr 0 0),(2,.ptr 1 0),(3,.ptr 2 0),(4,I i),(5,.ptr 4 0),(6,I k)],[[]],[.box (s.c.map .t),.box [.t (.str cp),I cn,I cd,.t .nil],.box [.t (.str co),I cl,I cc,.own 3],.arr 200 3 true (x.map Zh.c),.box [.own 5,.own 6,.own 7],.arr 3 1 true (x1.map ic),.arr 56 1 true (x2.map isc),.arr 3 1 true (x3.map ic)]⟩
def Zbfi:RawF (rawF 146 Tryz.f146):={ m:=_ }
def Zbfj:MCode:=cut0 Zbfi 7
def Zbfk:MCode:=cut0 Zbfi 23
def Zbu7:MFun:=Zo Zbfi 7 Zbfj 23 Zbfk
def Zws(a:Zl)(a1:ByteArray):Rs:=C 146 [.agg (a.c.map .t),.t (.str a1)] []
def Zqx(c:Zl)(cl:ByteArray)(cd cc:Int)(cn:ByteArray)(i:Int):Rs:=EvL C [.blk 0,.seq Zbfk,.fin 0 [.cellO 4 (some 4) [none,none,none,some (200,3)],.tmpO 5 [none]]] [1,2,4,6] Zbfj ⟨[(1,.t (.str cn)),(2,.ptr 0 0),(4,.ptr 1 0),(6,I i)],[[]],[.box (c.c.map .t),.box [.t (.str cl),I cd,I cc,.t .nil]]⟩
def Zbu8:MFun:=mkF (rawF 105 Tryz.f105)
def Zfs(a:Zf)(a1:Zb)(a2:Int):Rs:=C 105 [.agg (a.c.map .t),.agg (a1.c.map .t),I a2] []
def Z3e:RawF (rawF 67 Tryz.f67):={ m:=_ }
def Zbu9:MCode:=cut0 Z3e 30
def Zbfl:MCode:=cut1 Z3e 17 13 Zbu9
def Zbfm:MCode:=cut0 Z3e 31
def Zbva:MFun:=Zo Z3e 17 Zbfl 31 Zbfm
def Zwt(a:Zf)(a1:Zb)(a2:Int):Rs:=C 67 [.agg (a.c.map .t),.agg (a1.c.map .t),I a2] []
def Zqy(s:Zf)(q:Zb)(cc n i:Int):Rs:=EvL C [.blk 0,.seq Zbfm,.fin 0 [.tmp 6]] [2,3,4,7,8] Zbfl ⟨[(2,I cc),(3,.ptr 0 0),(4,.ptr 1 0),(7,I n),(8,I i)],[[]],[.box (s.c.map .t),.box (q.c.map .t)]⟩
def Zwu:RawF (rawF 149 Tryz.f149):={ m:=_ }
def Zbfn:MCode:=cut0 Zwu 21
def Zbfo:MCode:=cut0 Zwu 31
def Z3f:MCode:=cut2 Zwu 9 12 Zbfn 22 Zbfo
def Z3g:MCode:=cut0 Zwu 32
def Zbvb:MFun:=Zo Zwu 9 Z3f 32 Z3g
def Zix(a:Zb)(a1:Int):Rs:=C 149 [.agg (a.c.map .t),I a1] []
def Zna(q:Zb)(cc x i:Int):Rs:=EvL C [.blk 0,.seq Z3g,.fin 0 [.tmp 4]] [1,2,5,6] Z3f ⟨[(1,I cc),(2,.ptr 0 0),(5,I x),(6,I i)],[[]],[.box (q.c.map .t)]⟩
def Zqz(q:Zb)(cc x i k:Int):Rs:=EvL C [.blk 2,.blk 1,.seq Zbfo,.loop [1,2,5,6] Z3f,.blk 0,.seq Z3g,.fin 0 [.tmp 4]] [1,2,5,6,7] Zbfn ⟨[(1,I cc),(2,.ptr 0 0),(5,I x),(6,I i),(7,I k)],[[]],[.box (q.c.map .t)]⟩
def Z3h:RawF (rawF 148 Tryz.f148):={ m:=_ }
def Zbvc:MCode:=cut0 Z3h 22
def Zbfp:MCode:=cut1 Z3h 9 13 Zbvc
def Zbfq:MCode:=cut0 Z3h 23
def Zbvd:MFun:=Zo Z3h 9 Zbfp 23 Zbfq
def Zq0(a:Int):Rs:=C 148 [I a] []
def Zq1(cc:List Int)(c v:Int):Rs:=EvL C [.blk 0,.seq Zbfq,.fin 0 [.tmp 2]] [0,3,4] Zbfp ⟨[(0,I c),(3,.own 0),(4,I v)],[[]],[.arr 3 1 true (cc.map ic)]⟩
def Z3i:RawF (rawF 110 Tryz.f110):={ m:=_ }
def Zbve:MCode:=cut0 Z3i 22
def Zbfr:MCode:=cut1 Z3i 9 13 Zbve
def Zbfs:MCode:=cut0 Z3i 23
def Zbvf:MFun:=Zo Z3i 9 Zbfr 23 Zbfs
def Znb(a:Atom)(a1:List Int):Rs:=C 110 [.agg (a.c.map .t),L 1 (a1.map ic)] []
def Zq2(a:Atom)(cd cc:List Int)(i:Int):Rs:=EvL C [.blk 0,.seq Zbfs,.fin 0 [.tmp 4]] [1,2,5,6] Zbfr ⟨[(1,L 1 (cc.map ic)),(2,.ptr 0 0),(5,.own 1),(6,I i)],[[]],[.box (a.c.map .t),.arr 3 1 true (cd.map ic)]⟩
def Zq3:RawF (rawF 196 Tryz.f196):={ m:=_ }
def Zbft:MCode:=cut0 Zq3 22
def Z3j:MCode:=cut0 Zq3 30
def Z3k:MCode:=cut0 Zq3 31
def Z3l:MCode:=cut3 Zq3 9 13 Zbft 21 Z3j 22 Z3k
def Z3m:MCode:=cut0 Zq3 32
def Zbvg:MFun:=Zo Zq3 9 Z3l 32 Z3m
def Z3n(a:List Int):Rs:=C 196 [L 1 (a.map ic)] []
def Ziy(c l:List Int)(i:Int):Rs:=EvL C [.blk 0,.seq Z3m,.fin 0 [.tmp 2]] [0,3,4] Z3l ⟨[(0,L 1 (l.map ic)),(3,.own 0),(4,I i)],[[]],[.arr 3 1 true (c.map ic)]⟩
def Znc(c l:List Int)(i k:Int):Rs:=EvL C [.blk 2,.seq Z3j,.blk 1,.seq Z3k,.loop [0,3,4] Z3l,.blk 0,.seq Z3m,.fin 0 [.tmp 2]] [0,3,4,5] Zbft ⟨[(0,L 1 (l.map ic)),(3,.own 0),(4,I i),(5,I k)],[[]],[.arr 3 1 true (c.map ic)]⟩
def Zbfu:RawF (rawF 147 Tryz.f147):={ m:=_ }
def Zbfv:MCode:=cut0 Zbfu 23
def Zbfw:MCode:=cut0 Zbfu 39
def Zbvh:MFun:=Zo Zbfu 23 Zbfv 39 Zbfw
def Zq4(a:Zg)(a1:List Int):Rs:=C 147 [.agg (a.c.map .t),L 1 (a1.map ic)] []
def Zwv(s:Zg)(cc:List Int)(i:Int):Rs:=EvL C [.blk 0,.seq Zbfw,.fin 0 [.tmp 4]] [1,2,5] Zbfv ⟨[(1,L 1 (cc.map ic)),(2,.ptr 0 0),(5,I i)],[[]],[.box (s.c.map .t)]⟩
def Z3o:RawF (rawF 106 Tryz.f106):={ m:=_ }
def Zbvi:MCode:=cut0 Z3o 38
def Zbfx:MCode:=cut1 Z3o 17 21 Zbvi
def Zbfy:MCode:=cut0 Z3o 39
def Zbvj:MFun:=Zo Z3o 17 Zbfx 39 Zbfy
def Zq5(a:List Zg)(a1:Zb)(a2 a3:Int):Rs:=C 106 [L 4 (a.map Zg.c),.agg (a1.c.map .t),I a2,I a3] []
def Ziz(q:Zb)(s:List Zg)(cd cl cc i:Int):Rs:=EvL C [.blk 0,.seq Zbfy,.fin 0 [.tmp 8]] [0,2,3,5,9,10] Zbfx ⟨[(0,L 4 (s.map Zg.c)),(2,I cd),(3,I cl),(5,.ptr 0 0),(9,I cc),(10,I i)],[[]],[.box (q.c.map .t)]⟩
def Zbfz:RawF (rawF 68 Tryz.f68):={ m:=_ }
def Zbf0:MCode:=cut0 Zbfz 17
def Zbf1:MCode:=cut0 Zbfz 29
def Zbvk:MFun:=Zo Zbfz 17 Zbf0 29 Zbf1
def Zww(a:Zf)(a1:Zb)(a2:Int):Rs:=C 68 [.agg (a.c.map .t),.agg (a1.c.map .t),I a2] []
def Zwx(s:Zf)(q:Zb)(l:List Zg)(cc i:Int):Rs:=EvL C [.blk 0,.seq Zbf1,.fin 0 [.tmp 6]] [2,3,4,7,8] Zbf0 ⟨[(2,I cc),(3,.ptr 0 0),(4,.ptr 1 0),(7,.own 2),(8,I i)],[[]],[.box (s.c.map .t),.box (q.c.map .t),.arr 141 4 true (l.map Zg.c)]⟩
def Z3p:RawF (rawF 69 Tryz.f69):={ m:=_ }
def Zbvl:MCode:=cut0 Z3p 22
def Zbf2:MCode:=cut1 Z3p 9 13 Zbvl
def Zbf3:MCode:=cut0 Z3p 23
def Zbvm:MFun:=Zo Z3p 9 Zbf2 23 Zbf3
def Zq6(a:Int):Rs:=C 69 [I a] []
def Zq7(cc:List Int)(c i:Int):Rs:=EvL C [.blk 0,.seq Zbf3,.fin 0 [.tmp 2]] [0,3,4] Zbf2 ⟨[(0,I c),(3,.own 0),(4,I i)],[[]],[.arr 3 1 true (cc.map ic)]⟩
def Zbvn:MFun:=mkF (rawF 90 Tryz.f90)
def Zq8(a:Zb)(a1:Int):Rs:=C 90 [.agg (a.c.map .t),I a1] []
def Zbvo:MFun:=mkF (rawF 150 Tryz.f150)
def Znd(a:Zb)(a1:Int):Rs:=C 150 [.agg (a.c.map .t),I a1] []
def Z3q:RawF (rawF 107 Tryz.f107):={ m:=_ }
def Zbvp:MCode:=cut0 Z3q 26
def Zbf4:MCode:=cut1 Z3q 13 13 Zbvp
def Zbf5:MCode:=cut0 Z3q 27
def Zbvq:MFun:=Zo Z3q 13 Zbf4 27 Zbf5
def Zne(a:Zb)(a1 a2:Int):Rs:=C 107 [.agg (a.c.map .t),I a1,I a2] []
def Zq9(c x y:List Int)(i:Int):Rs:=EvL C [.blk 0,.seq Zbf5,.fin 0 [.tmp 6]] [7,8,9,10] Zbf4 ⟨[(7,.own 0),(8,.own 1),(9,.own 2),(10,I i)],[[]],[.arr 3 1 true (c.map ic),.arr 3 1 true (x.map ic),.arr 3 1 true (y.map ic)]⟩
def Zbvr:MFun:=mkF (rawF 109 Tryz.f109)
def Znf(a:Zg)(a1:List Int):Rs:=C 109 [.agg (a.c.map .t),L 1 (a1.map ic)] []
def Zbf6:RawF (rawF 151 Tryz.f151):={ m:=_ }
def Zbf7:MCode:=cut0 Zbf6 9
def Zbf8:MCode:=cut0 Zbf6 27
def Zbvs:MFun:=Zo Zbf6 9 Zbf7 27 Zbf8
def Zra(a:List Int):Rs:=C 151 [L 1 (a.map ic)] []
def Zrb(l:List Int)(n i:Int):Rs:=EvL C [.blk 0,.seq Zbf8,.fin 0 [.tmp 2]] [0,3,4] Zbf7 ⟨[(0,L 1 (l.map ic)),(3,I n),(4,I i)],[[]],[]⟩
def Zbf9:RawF (rawF 108 Tryz.f108):={ m:=_ }
def Zbga:MCode:=cut0 Zbf9 9
def Zbgb:MCode:=cut0 Zbf9 19
def Zbvt:MFun:=Zo Zbf9 9 Zbga 19 Zbgb
def Z3r(a a1:List Int):Rs:=C 108 [L 1 (a.map ic),L 1 (a1.map ic)] []
def Zwy(a b:List Int)(n i:Int):Rs:=EvL C [.blk 0,.seq Zbgb,.fin 0 [.tmp 4]] [0,1,5,6] Zbga ⟨[(0,L 1 (a.map ic)),(1,L 1 (b.map ic)),(5,I n),(6,I i)],[[]],[]⟩
def Zbvu:MFun:=mkF (rawF 70 Tryz.f70)
def Zrc(a:Zf)(a1:Zb)(a2 a3:Int):Rs:=C 70 [.agg (a.c.map .t),.agg (a1.c.map .t),I a2,I a3] []
def Z3s:RawF (rawF 293 Tryz.f293):={ m:=_ }
def Zbvv:MCode:=cut0 Z3s 22
def Zbgc:MCode:=cut1 Z3s 9 13 Zbvv
def Zbgd:MCode:=cut0 Z3s 23
def Zbvw:MFun:=Zo Z3s 9 Zbgc 23 Zbgd
def Z3t(a:Atom)(a1:Int):Rs:=C 293 [.agg (a.c.map .t),I a1] []
def Zng(a:Atom)(m x k:Int):Rs:=EvL C [.blk 0,.seq Zbgd,.fin 0 [.tmp 4]] [1,2,5,6] Zbgc ⟨[(1,I m),(2,.ptr 0 0),(5,I x),(6,I k)],[[]],[.box (a.c.map .t)]⟩
def Z3u:RawF (rawF 294 Tryz.f294):={ m:=_ }
def Zbvx:MCode:=cut0 Z3u 22
def Zbge:MCode:=cut1 Z3u 9 13 Zbvx
def Zbgf:MCode:=cut0 Z3u 23
def Zbvy:MFun:=Zo Z3u 9 Zbge 23 Zbgf
def Z3v(a:List Int):Rs:=C 294 [L 1 (a.map ic)] []
def Zrd(l:List Int)(m i:Int):Rs:=EvL C [.blk 0,.seq Zbgf,.fin 0 [.tmp 2]] [0,3,4] Zbge ⟨[(0,L 1 (l.map ic)),(3,I m),(4,I i)],[[]],[]⟩
def Zbvz:MFun:=mkF (rawF 296 Tryz.f296)
def Z3w(a:Zg)(a1:List Int):Rs:=C 296 [.agg (a.c.map .t),L 1 (a1.map ic)] []
def Zbgg:RawF (rawF 295 Tryz.f295):={ m:=_ }
def Zbgh:MCode:=cut0 Zbgg 15
def Zbgi:MCode:=cut0 Zbgg 23
def Zbv0:MFun:=Zo Zbgg 15 Zbgh 23 Zbgi
def Z3x(a:Int):Rs:=C 295 [I a] []
def Zwz(n b:Int):Rs:=EvL C [.blk 0,.seq Zbgi,.fin 0 [.tmp 2]] [0,3] Zbgh ⟨[(0,I n),(3,I b)],[[]],[]⟩
def Zbgj:RawF (rawF 265 Tryz.f265):={ m:=_ }
def Zbgk:MCode:=cut0 Zbgj 17
def Zbgl:MCode:=cut0 Zbgj 27
def Zbv1:MFun:=Zo Zbgj 17 Zbgk 27 Zbgl
def Zw0(a:Zg)(a1:Atom):Rs:=C 265 [.agg (a.c.map .t),.agg (a1.c.map .t)] []
def Zw1(s:Zg)(a:Atom)(cc:List Zm)(m:Int):Rs:=EvL C [.blk 0,.seq Zbgl,.fin 0 [.tmpO 4 [some (251,3)]]] [2,3,5,6] Zbgk ⟨[(2,.ptr 0 0),(3,.ptr 1 0),(5,.own 2),(6,I m)],[[]],[.box (s.c.map .t),.box (a.c.map .t),.arr 251 3 true (cc.map Zm.c)]⟩
def Z3y:RawF (rawF 235 Tryz.f235):={ m:=_ }
def Zbv2:MCode:=cut0 Z3y 42
def Zbgm:MCode:=cut1 Z3y 17 25 Zbv2
def Zbgn:MCode:=cut0 Z3y 43
def Zbv3:MFun:=Zo Z3y 17 Zbgm 43 Zbgn
def Zw2(a:Zf)(a1:Zb)(a2:Int):Rs:=C 235 [.agg (a.c.map .t),.agg (a1.c.map .t),I a2] []
def Zre(s:Zf)(q:Zb)(cd:List Zm)(cc i:Int):Rs:=EvL C [.blk 0,.seq Zbgn,.fin 0 [.tmpO 6 [some (251,3)]]] [2,3,4,7,8] Zbgm ⟨[(2,I cc),(3,.ptr 0 0),(4,.ptr 1 0),(7,.own 2),(8,I i)],[[]],[.box (s.c.map .t),.box (q.c.map .t),.arr 251 3 true (cd.map Zm.c)]⟩
def Z3z:RawF (rawF 269 Tryz.f269):={ m:=_ }
def Zbv4:MCode:=cut0 Z3z 22
def Zbgo:MCode:=cut1 Z3z 9 13 Zbv4
def Zbgp:MCode:=cut0 Z3z 23
def Zbv5:MFun:=Zo Z3z 9 Zbgo 23 Zbgp
def Zw3(a:Int)(a1:List Int):Rs:=C 269 [I a,L 1 (a1.map ic)] []
def Znh(m:Int)(c:List Int)(x i:Int):Rs:=EvL C [.blk 0,.seq Zbgp,.fin 0 [.tmp 4]] [0,1,5,6] Zbgo ⟨[(0,I m),(1,L 1 (c.map ic)),(5,I x),(6,I i)],[[]],[]⟩
def Zbgq:RawF (rawF 237 Tryz.f237):={ m:=_ }
def Zbgr:MCode:=cut0 Zbgq 9
def Zbgs:MCode:=cut0 Zbgq 19
def Zbv6:MFun:=Zo Zbgq 9 Zbgr 19 Zbgs
def Zw4(a:List Zm)(a1:List Int):Rs:=C 237 [L 3 (a.map Zm.c),L 1 (a1.map ic)] []
def Zw5(cd l:List Zm)(cc:List Int)(i:Int):Rs:=EvL C [.blk 0,.seq Zbgs,.fin 0 [.tmp 4]] [0,1,5,6] Zbgr ⟨[(0,L 3 (l.map Zm.c)),(1,L 1 (cc.map ic)),(5,.own 0),(6,I i)],[[]],[.arr 251 3 true (cd.map Zm.c)]⟩
def Zni:RawF (rawF 266 Tryz.f266):={ m:=_ }
def Zbv7:MCode:=cut0 Zni 22
def Zbgt:MCode:=cut1 Zni 9 13 Zbv7
def Zbv8:MCode:=cut0 Zni 41
def Zbgu:MCode:=cut1 Zni 28 13 Zbv8
def Zbgv:MCode:=cut0 Zni 42
def Zbgw:MCode:=cut2 Zni 23 5 Zbgu 19 Zbgv
def Zbv9:MFun:=Zo Zni 9 Zbgt 23 Zbgw
def Zhw(a:Int)(a1 a2:List Int):Rs:=C 266 [I a,L 1 (a1.map ic),L 1 (a2.map ic)] []
def Znj(cd cc c:List Int)(i:Int):Rs:=EvL C [.blk 0,.seq Zbgw,.fin 0 [.tmp 6]] [1,2,7,8] Zbgt ⟨[(1,L 1 (cc.map ic)),(2,L 1 (c.map ic)),(7,.own 0),(8,I i)],[[]],[.arr 3 1 true (cd.map ic)]⟩
def Zrf(cc c:List Int)(i:Int):Rs:=EvL C [.blk 2,.seq Zbgv,.fin 0 [.tmp 6]] [2,7,9] Zbgu ⟨[(2,L 1 (c.map ic)),(7,.own 0),(9,I i)],[[]],[.arr 3 1 true (cc.map ic)]⟩
def Zhx:RawF (rawF 267 Tryz.f267):={ m:=_ }
def Zbgx:MCode:=cut0 Zhx 19
def Zbwa:MCode:=cut0 Zhx 71
def Zbgy:MCode:=cut1 Zhx 58 13 Zbwa
def Zbgz:MCode:=cut0 Zhx 72
def Z30:MCode:=cut2 Zhx 46 12 Zbgy 26 Zbgz
def Z31:MCode:=cut0 Zhx 73
def Zw6:MCode:=cut2 Zhx 34 12 Z30 39 Z31
def Zw7:MCode:=cut0 Zhx 74
def Zbg0:MCode:=cut2 Zhx 29 5 Zw6 45 Zw7
def Zbwb:MFun:=Zo Zhx 19 Zbgx 29 Zbg0
def Zw8(a:Int):Rs:=C 267 [I a] []
def Zw9(cc:List (List Int))(n c i:Int):Rs:=EvL C [.blk 0,.seq Zbg0,.fin 0 [.tmp 2]] [0,3,4,5] Zbgx ⟨[(0,I n),(3,.own 0),(4,I c),(5,I i)],[[]],[.arr 56 1 true (cc.map isc)]⟩
def Zrg(cc:List (List Int))(n c i:Int):Rs:=EvL C [.blk 2,.seq Zw7,.fin 0 [.tmp 2]] [0,3,4,6] Zw6 ⟨[(0,I n),(3,.own 0),(4,I c),(6,I i)],[[]],[.arr 56 1 true (cc.map isc)]⟩
def Zrh(cc:List (List Int))(n c i j:Int):Rs:=EvL C [.blk 4,.blk 3,.seq Z31,.loop [0,3,4,6] Zw6,.blk 2,.seq Zw7,.fin 0 [.tmp 2]] [0,3,4,6,7] Z30 ⟨[(0,I n),(3,.own 0),(4,I c),(6,I i),(7,I j)],[[]],[.arr 56 1 true (cc.map isc)]⟩
def Znk(cc:List (List Int))(n c i j s:Int):Rs:=EvL C [.blk 6,.blk 5,.seq Zbgz,.loop [0,3,4,6,7] Z30,.blk 4,.blk 3,.seq Z31,.loop [0,3,4,6] Zw6,.blk 2,.seq Zw7,.fin 0 [.tmp 2]] [0,3,4,6,7,8] Zbgy ⟨[(0,I n),(3,.own 0),(4,I c),(6,I i),(7,I j),(8,I s)],[[]],[.arr 56 1 true (cc.map isc)]⟩
def Znl:RawF (rawF 268 Tryz.f268):={ m:=_ }
def Zbg1:MCode:=cut0 Znl 17
def Zbg2:MCode:=cut0 Znl 58
def Zbg3:MCode:=cut0 Znl 74
def Z32:MCode:=cut2 Znl 38 20 Zbg2 36 Zbg3
def Z33:MCode:=cut0 Znl 75
def Zbg4:MCode:=cut2 Znl 33 5 Z32 42 Z33
def Zbwc:MFun:=Zo Znl 17 Zbg1 33 Zbg4
def Zxa(a:Program):Rs:=C 268 [.agg (a.c.map .t)] []
def Zxb(p:Program)(n k:Int):Rs:=EvL C [.blk 0,.seq Zbg4,.fin 0 [.tmp 2]] [1,3,4] Zbg1 ⟨[(1,.ptr 0 0),(3,I n),(4,I k)],[[]],[.box (p.c.map .t)]⟩
def Zri(p:Program)(n i:Int):Rs:=EvL C [.blk 2,.seq Z33,.fin 0 [.tmp 2]] [1,3,5] Z32 ⟨[(1,.ptr 0 0),(3,I n),(5,I i)],[[]],[.box (p.c.map .t)]⟩
def Zxc(p:Program)(n i k:Int):Rs:=EvL C [.blk 4,.blk 3,.seq Zbg3,.loop [1,3,5] Z32,.blk 2,.seq Z33,.fin 0 [.tmp 2]] [1,3,5,6] Zbg2 ⟨[(1,.ptr 0 0),(3,I n),(5,I i),(6,I k)],[[]],[.box (p.c.map .t)]⟩
def Zbg5:RawF (rawF 236 Tryz.f236):={ m:=_ }
def Zbg6:MCode:=cut0 Zbg5 21
def Zbg7:MCode:=cut0 Zbg5 41
def Zbg8:MFun:=Zo Zbg5 21 Zbg6 41 Zbg7
def Znm(a:List Zm)(a1:Int):Rs:=C 236 [L 3 (a.map Zm.c),I a1] []
def Zrj(x:List Int)(x1:List (List Int))(x2:List Int)(l:List Zm)(n cc i:Int):Rs:=EvL C [.blk 0,.seq Zbg7,.fin 0 [.cellO 4 (some 3) [some (3,1),some (56,1),some (3,1)],.tmpO 5 [none]]] [0,1,4,6,7,8] Zbg6 ⟨[(0,L 3 (l.map Zm.c)),(1,I n),(4,.ptr 0 0),(6,I cc),(7,.ptr 1 0),(8,I i)],[[]],[.box [.t .nil,.t .nil,.t .nil],.box [.own 2,.own 3,.own 4],.arr 3 1 true (x.map ic),.arr 56 1 true (x1.map isc),.arr 3 1 true (x2.map ic)]⟩
def Zbwd:MFun:=mkF (rawF 198 Tryz.f198)
def Z34(a:Zf)(a1:Zb)(a2:Int):Rs:=C 198 [.agg (a.c.map .t),.agg (a1.c.map .t),I a2] []
def Zbwe:MFun:=mkF (rawF 240 Tryz.f240)
def Zcb(a:Int):Rs:=C 240 [I a] []
end
end Go.Proofs.YtnnjbejcffjgfaaGreat
