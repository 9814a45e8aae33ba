/-
  Parts of the proofs for this seat: D3.
-/
import Derived.Test.YtnnjbejcffjgfaaGreatP7
set_option linter.unusedSectionVars false
set_option linter.unusedSimpArgs false
set_option linter.unusedVariables false
set_option maxRecDepth 100000
set_option maxHeartbeats 4000000
set_option cbv.maxSteps 9999999
namespace Go.Proofs.YtnnjbejcffjgfaaGreat
open Go.AM
noncomputable section
def Zku:RawF (rawF 238 Tryz.f238):={ m:=_ }
def Z35:MCode:=cut0 Zku 19
def Z36:MCode:=cut0 Zku 51
def Z37:MCode:=cut0 Zku 61
def Z38:MCode:=cut0 Zku 66
def Znn:MCode:=cut3 Zku 36 15 Z36 25 Z37 30 Z38
def Zno:MCode:=cut0 Zku 67
def Z39:MCode:=cut2 Zku 31 5 Znn 36 Zno
def Zbwf:MFun:=Zo Zku 19 Z35 31 Z39
def Zxd(a:Program):Rs:=C 238 [.agg (a.c.map .t)] []
def Zbg9(p:Program)(cd cc:Za)(n k:Int):Rs:=EvL C [.blk 0,.seq Z39,.fin 0 [.cellO 2 (some 7) [some (3,1),some (3,1),some (179,1),some (149,2),some (149,2),none,none],.tmpO 3 [none]]] [1,2,4,5,6] Z35 ⟨[(1,.ptr 0 0),(2,.ptr 1 0),(4,I n),(5,.ptr 2 0),(6,I k)],[[]],[.box (p.c.map .t),.box [.t .nil,.t .nil,.t .nil,.t .nil,.t .nil,I cd.Num,I cd.Den],.box [.t .nil,.t .nil,.t .nil,.t .nil,.t .nil,I cc.Num,I cc.Den]]⟩
def Zxe(p:Program)(cd cc:Za)(x:List Int)(x1:List Za)(n k:Int):Rs:=EvL C [.blk 0,.seq Z39,.fin 0 [.cellO 2 (some 7) [some (3,1),some (3,1),some (179,1),some (149,2),some (149,2),none,none],.tmpO 3 [none]]] [1,2,4,5,6] Z35 ⟨[(1,.ptr 0 0),(2,.ptr 1 0),(4,I n),(5,.ptr 2 0),(6,I k)],[[]],[.box (p.c.map .t),.box [.t .nil,.t .nil,.t .nil,.t .nil,.t .nil,I cd.Num,I cd.Den],.box [.t .nil,.own 3,.t .nil,.t .nil,.own 4,I cc.Num,I cc.Den],.arr 3 1 true (x.map ic),.arr 149 2 true (x1.map Za.c)]⟩
def Zbwg(p:Program)(cd cc:Za)(n i:Int):Rs:=EvL C [.blk 2,.seq Zno,.fin 0 [.cellO 2 (some 7) [some (3,1),some (3,1),some (179,1),some (149,2),some (149,2),none,none],.tmpO 3 [none]]] [1,2,4,5,7] Znn ⟨[(1,.ptr 0 0),(2,.ptr 1 0),(4,I n),(5,.ptr 2 0),(7,I i)],[[]],[.box (p.c.map .t),.box [.t .nil,.t .nil,.t .nil,.t .nil,.t .nil,I cd.Num,I cd.Den],.box [.t .nil,.t .nil,.t .nil,.t .nil,.t .nil,I cc.Num,I cc.Den]]⟩
def Zbha(p:Program)(cd cc:Za)(x:List Int)(x1:List Za)(n i:Int):Rs:=EvL C [.blk 2,.seq Zno,.fin 0 [.cellO 2 (some 7) [some (3,1),some (3,1),some (179,1),some (149,2),some (149,2),none,none],.tmpO 3 [none]]] [1,2,4,5,7] Znn ⟨[(1,.ptr 0 0),(2,.ptr 1 0),(4,I n),(5,.ptr 2 0),(7,I i)],[[]],[.box (p.c.map .t),.box [.t .nil,.t .nil,.t .nil,.t .nil,.t .nil,I cd.Num,I cd.Den],.box [.t .nil,.own 3,.t .nil,.t .nil,.own 4,I cc.Num,I cc.Den],.arr 3 1 true (x.map ic),.arr 149 2 true (x1.map Za.c)]⟩
def Zxf(p:Program)(cd cc:Za)(x:List Int)(x1 cl:List Za)(n i k:Int):Rs:=EvL C [.blk 4,.seq Z37,.blk 3,.seq Z38,.loop [1,2,4,5,7] Znn,.blk 2,.seq Zno,.fin 0 [.cellO 2 (some 7) [some (3,1),some (3,1),some (179,1),some (149,2),some (149,2),none,none],.tmpO 3 [none]]] [1,2,4,5,7,8,9] Z36 ⟨[(1,.ptr 0 0),(2,.ptr 1 0),(4,I n),(5,.ptr 2 0),(7,I i),(8,.own 5),(9,I k)],[[]],[.box (p.c.map .t),.box [.t .nil,.t .nil,.t .nil,.t .nil,.t .nil,I cd.Num,I cd.Den],.box [.t .nil,.own 3,.t .nil,.t .nil,.own 4,I cc.Num,I cc.Den],.arr 3 1 true (x.map ic),.arr 149 2 true (x1.map Za.c),.arr 149 2 true (cl.map Za.c)]⟩
def Znp(p:Program)(cd cc:Za)(x x1:List Int)(x2:List (List Za))(x3 x4:List Za)(n i:Int):Rs:=EvL C [.blk 2,.seq Zno,.fin 0 [.cellO 2 (some 7) [some (3,1),some (3,1),some (179,1),some (149,2),some (149,2),none,none],.tmpO 3 [none]]] [1,2,4,5,7] Znn ⟨[(1,.ptr 0 0),(2,.ptr 1 0),(4,I n),(5,.ptr 2 0),(7,I i)],[[]],[.box (p.c.map .t),.box [.t .nil,.t .nil,.t .nil,.t .nil,.t .nil,I cd.Num,I cd.Den],.box [.own 3,.own 4,.own 5,.own 6,.own 7,I cc.Num,I cc.Den],.arr 3 1 true (x.map ic),.arr 3 1 true (x1.map ic),.arr 179 1 true (x2.map (lc 2 Za.c)),.arr 149 2 true (x3.map Za.c),.arr 149 2 true (x4.map Za.c)]⟩
def Zxg(p:Program)(cd cc:Za)(x x1:List Int)(x2:List (List Za))(x3 x4 cl:List Za)(n i k:Int):Rs:=EvL C [.blk 4,.seq Z37,.blk 3,.seq Z38,.loop [1,2,4,5,7] Znn,.blk 2,.seq Zno,.fin 0 [.cellO 2 (some 7) [some (3,1),some (3,1),some (179,1),some (149,2),some (149,2),none,none],.tmpO 3 [none]]] [1,2,4,5,7,8,9] Z36 ⟨[(1,.ptr 0 0),(2,.ptr 1 0),(4,I n),(5,.ptr 2 0),(7,I i),(8,.own 8),(9,I k)],[[]],[.box (p.c.map .t),.box [.t .nil,.t .nil,.t .nil,.t .nil,.t .nil,I cd.Num,I cd.Den],.box [.own 3,.own 4,.own 5,.own 6,.own 7,I cc.Num,I cc.Den],.arr 3 1 true (x.map ic),.arr 3 1 true (x1.map ic),.arr 179 1 true (x2.map (lc 2 Za.c)),.arr 149 2 true (x3.map Za.c),.arr 149 2 true (x4.map Za.c),.arr 149 2 true (cl.map Za.c)]⟩
def Zbwh:MFun:=mkF (rawF 201 Tryz.f201)
def Zkv(a:Int):Rs:=C 201 [I a] []
def Zbhb:RawF (rawF 200 Tryz.f200):={ m:=_ }
def Zbhc:MCode:=cut0 Zbhb 5
def Zbhd:MCode:=cut0 Zbhb 17
def Zbwi:MFun:=Zo Zbhb 5 Zbhc 17 Zbhd
def Zkw(a a1:Int):Rs:=C 200 [I a,I a1] []
def Zxh(a b:Int):Rs:=EvL C [.blk 0,.seq Zbhd,.fin 0 [.tmp 4]] [0,1] Zbhc ⟨[(0,I a),(1,I b)],[[]],[]⟩
def Zbwj:MFun:=mkF (rawF 154 Tryz.f154)
def Zcn(a:Za):Rs:=C 154 [.agg (a.c.map .t)] []
def Zbhe:RawF (rawF 297 Tryz.f297):={ m:=_ }
def Zbhf:MCode:=cut0 Zbhe 7
def Zbhg:MCode:=cut0 Zbhe 23
def Zbwk:MFun:=Zo Zbhe 7 Zbhf 23 Zbhg
def Zrk(a:List Za):Rs:=C 297 [L 2 (a.map Za.c)] []
def Zxi(l:List Za)(i:Int):Rs:=EvL C [.blk 0,.seq Zbhg,.fin 0 [.tmp 2]] [0,3] Zbhf ⟨[(0,L 2 (l.map Za.c)),(3,I i)],[[]],[]⟩
def Zxj:RawF (rawF 270 Tryz.f270):={ m:=_ }
def Zbhh:MCode:=cut0 Zxj 21
def Zbhi:MCode:=cut0 Zxj 42
def Zbhj:MCode:=cut0 Zxj 58
def Zbhk:MCode:=cut2 Zxj 37 5 Zbhi 21 Zbhj
def Zbwl:MFun:=Zo Zxj 21 Zbhh 37 Zbhk
def Znq(a:Zn):Rs:=C 270 [.agg (a.c.map .t)] []
def Zxk(d:Zn)(all:List Int)(m n i:Int):Rs:=EvL C [.blk 0,.seq Zbhk,.fin 0 [.tmp 2]] [1,3,4,5,6] Zbhh ⟨[(1,.ptr 0 0),(3,I m),(4,I n),(5,.own 1),(6,I i)],[[]],[.box (d.c.map .t),.arr 3 1 true (all.map ic)]⟩
def Zxl(d:Zn)(m n i:Int):Rs:=EvL C [.blk 2,.seq Zbhj,.fin 0 [.tmp 2]] [1,3,4,7] Zbhi ⟨[(1,.ptr 0 0),(3,I m),(4,I n),(7,I i)],[[]],[.box (d.c.map .t)]⟩
def Z4a:RawF (rawF 239 Tryz.f239):={ m:=_ }
def Zbwm:MCode:=cut0 Z4a 30
def Zbhl:MCode:=cut1 Z4a 17 13 Zbwm
def Zbhm:MCode:=cut0 Z4a 31
def Zbwn:MFun:=Zo Z4a 17 Zbhl 31 Zbhm
def Zxm(a:Zn):Rs:=C 239 [.agg (a.c.map .t)] []
def Zkx(d:Zn)(cc j:Int):Rs:=EvL C [.blk 0,.seq Zbhm,.fin 0 [.tmp 2]] [1,3,4] Zbhl ⟨[(1,.ptr 0 0),(3,I cc),(4,I j)],[[]],[.box (d.c.map .t)]⟩
def Zbwo:RawF (rawF 298 Tryz.f298):={ m:=_ }
def Zbwp:MCode:=cut0 Zbwo 18
def Zbwq:MFun:=Zbb Zbwo 18 Zbwp
def Zky(a a1:Int):Rs:=C 298 [I a,I a1] []
def Zbwr:MFun:=mkF (rawF 271 Tryz.f271)
def Zkz(a a1:Za):Rs:=C 271 [.agg (a.c.map .t),.agg (a1.c.map .t)] []
def Zbws:MFun:=mkF (rawF 272 Tryz.f272)
def Z4b(a a1:Za):Rs:=C 272 [.agg (a.c.map .t),.agg (a1.c.map .t)] []
def Z4c:RawF (rawF 241 Tryz.f241):={ m:=_ }
def Zbwt:MCode:=cut0 Z4c 52
def Zbhn:MCode:=cut1 Z4c 19 33 Zbwt
def Zbho:MCode:=cut0 Z4c 53
def Zbwu:MFun:=Zo Z4c 19 Zbhn 53 Zbho
def Zxn(a:Zn)(a1:Int):Rs:=C 241 [.agg (a.c.map .t),I a1] []
def Zhy(d:Zn)(least:Za)(j cc i:Int):Rs:=EvL C [.blk 0,.seq Zbho,.fin 0 [.tmp 4]] [1,2,5,6,7] Zbhn ⟨[(1,I j),(2,.ptr 0 0),(5,I cc),(6,.ptr 1 0),(7,I i)],[[]],[.box (d.c.map .t),.box (least.c.map .t)]⟩
def Zbwv:MFun:=mkF (rawF 274 Tryz.f274)
def Zi0(a a1:Za):Rs:=C 274 [.agg (a.c.map .t),.agg (a1.c.map .t)] []
def Zbww:MFun:=mkF (rawF 299 Tryz.f299)
def Z4d(a a1:Za):Rs:=C 299 [.agg (a.c.map .t),.agg (a1.c.map .t)] []
def Zbwx:MFun:=mkF (rawF 273 Tryz.f273)
def Zco(a a1 a2:Za):Rs:=C 273 [.agg (a.c.map .t),.agg (a1.c.map .t),.agg (a2.c.map .t)] []
def Zbwy:MFun:=mkF (rawF 275 Tryz.f275)
def Zk0(a a1:Za):Rs:=C 275 [.agg (a.c.map .t),.agg (a1.c.map .t)] []
def Zft:RawF (rawF 242 Tryz.f242):={ m:=_ }
def Zbwz:MCode:=cut0 Zft 37
def Zbhp:MCode:=cut1 Zft 21 16 Zbwz
def Zbw0:MCode:=cut0 Zft 97
def Zxo:MCode:=cut1 Zft 81 16 Zbw0
def Zxp:MCode:=cut0 Zft 103
def Zxq:MCode:=cut0 Zft 110
def Zk1:MCode:=cut3 Zft 56 25 Zxo 47 Zxp 54 Zxq
def Zbw1:MCode:=cut0 Zft 132
def Zk2:MCode:=cut1 Zft 116 16 Zbw1
def Zgj:MCode:=cut0 Zft 138
def Zk3:MCode:=cut2 Zft 111 5 Zk2 27 Zgj
def Zbhq:MCode:=cut2 Zft 41 15 Zk1 70 Zk3
def Zbw2:MFun:=Zo Zft 21 Zbhp 41 Zbhq
def Zrl(a:Zn)(a1 a2:Int):Rs:=C 242 [.agg (a.c.map .t),I a1,I a2] []
def Zk4(d:Zn)(cc a:Za)(cd:List Za)(i j:Int)(cl:Bool)(k:Int):Rs:=EvL C [.blk 0,.seq Zbhq,.fin 0 [.cellO 6 (some 7) [some (3,1),some (3,1),some (179,1),some (149,2),some (149,2),none,none],.tmpO 7 [none]]] [1,2,3,6,8,9,10,11] Zbhp ⟨[(1,I i),(2,I j),(3,.ptr 0 0),(6,.ptr 1 0),(8,Bo cl),(9,.ptr 2 0),(10,.own 3),(11,I k)],[[]],[.box (d.c.map .t),.box [.t .nil,.t .nil,.t .nil,.t .nil,.t .nil,I cc.Num,I cc.Den],.box (a.c.map .t),.arr 149 2 true (cd.map Za.c)]⟩
def Zxr(d:Zn)(cd:Za)(cl:List Za)(limit cc:Za)(x x1:List Int)(i j:Int)(cn:Bool)(co:Int):Rs:=EvL C [.blk 2,.seq Zk3,.fin 0 [.cellO 6 (some 7) [some (3,1),some (3,1),some (179,1),some (149,2),some (149,2),none,none],.tmpO 7 [none]]] [1,2,3,6,8,10,14,16,17] Zk1 ⟨[(1,I i),(2,I j),(3,.ptr 0 0),(6,.ptr 1 0),(8,Bo cn),(10,.own 2),(14,.ptr 3 0),(16,.ptr 4 0),(17,I co)],[[]],[.box (d.c.map .t),.box [.t .nil,.t .nil,.t .nil,.t .nil,.t .nil,I cd.Num,I cd.Den],.arr 149 2 true (cl.map Za.c),.box (limit.c.map .t),.box [.own 5,.own 6,.t .nil,.t .nil,.t .nil,I cc.Num,I cc.Den],.arr 3 1 true (x.map ic),.arr 3 1 true (x1.map ic)]⟩
def Zi1(d:Zn)(cd limit cc:Za)(x x1:List Int)(fr:Bool)(x2:List (List Za))(x3:List Za)(i j:Int)(cn:Bool)(cl:List Za)(co:Int):Rs:=EvL C [.blk 2,.seq Zk3,.fin 0 [.cellO 6 (some 7) [some (3,1),some (3,1),some (179,1),some (149,2),some (149,2),none,none],.tmpO 7 [none]]] [1,2,3,6,8,10,14,16,17] Zk1 ⟨[(1,I i),(2,I j),(3,.ptr 0 0),(6,.ptr 1 0),(8,Bo cn),(10,L 2 (cl.map Za.c)),(14,.ptr 2 0),(16,.ptr 3 0),(17,I co)],[[]],[.box (d.c.map .t),.box [.t .nil,.t .nil,.t .nil,.t .nil,.t .nil,I cd.Num,I cd.Den],.box (limit.c.map .t),.box [.own 4,.own 5,.own 6,.own 7,.t .nil,I cc.Num,I cc.Den],.arr 3 1 true (x.map ic),.arr 3 1 true (x1.map ic),.arr 179 1 fr (x2.map (lc 2 Za.c)),.arr 149 2 true (x3.map Za.c)]⟩
def Zk5(d:Zn)(cd:Za)(cl:List Za)(limit cc:Za)(x x1:List Int)(cp:List Za)(i j:Int)(cn:Bool)(co k:Int):Rs:=EvL C [.blk 4,.seq Zxp,.blk 3,.seq Zxq,.loop [1,2,3,6,8,10,14,16,17] Zk1,.blk 2,.seq Zk3,.fin 0 [.cellO 6 (some 7) [some (3,1),some (3,1),some (179,1),some (149,2),some (149,2),none,none],.tmpO 7 [none]]] [1,2,3,6,8,10,14,16,17,18,19] Zxo ⟨[(1,I i),(2,I j),(3,.ptr 0 0),(6,.ptr 1 0),(8,Bo cn),(10,.own 2),(14,.ptr 3 0),(16,.ptr 4 0),(17,I co),(18,.own 7),(19,I k)],[[]],[.box (d.c.map .t),.box [.t .nil,.t .nil,.t .nil,.t .nil,.t .nil,I cd.Num,I cd.Den],.arr 149 2 true (cl.map Za.c),.box (limit.c.map .t),.box [.own 5,.own 6,.t .nil,.t .nil,.t .nil,I cc.Num,I cc.Den],.arr 3 1 true (x.map ic),.arr 3 1 true (x1.map ic),.arr 149 2 true (cp.map Za.c)]⟩
def Zxs(d:Zn)(cd:Za)(cl:List Za)(limit cc:Za)(x x1:List Int)(j:Int)(cn:Bool)(k:Int):Rs:=EvL C [.blk 6,.seq Zgj,.fin 0 [.cellO 6 (some 7) [some (3,1),some (3,1),some (179,1),some (149,2),some (149,2),none,none],.tmpO 7 [none]]] [2,3,6,8,10,14,16,25] Zk2 ⟨[(2,I j),(3,.ptr 0 0),(6,.ptr 1 0),(8,Bo cn),(10,.own 2),(14,.ptr 3 0),(16,.ptr 4 0),(25,I k)],[[]],[.box (d.c.map .t),.box [.t .nil,.t .nil,.t .nil,.t .nil,.t .nil,I cd.Num,I cd.Den],.arr 149 2 true (cl.map Za.c),.box (limit.c.map .t),.box [.own 5,.own 6,.t .nil,.t .nil,.t .nil,I cc.Num,I cc.Den],.arr 3 1 true (x.map ic),.arr 3 1 true (x1.map ic)]⟩
def Zk6(d:Zn)(cd limit cc:Za)(x x1:List Int)(fr:Bool)(x2:List (List Za))(x3 cp:List Za)(i j:Int)(cn:Bool)(cl:List Za)(co k:Int):Rs:=EvL C [.blk 4,.seq Zxp,.blk 3,.seq Zxq,.loop [1,2,3,6,8,10,14,16,17] Zk1,.blk 2,.seq Zk3,.fin 0 [.cellO 6 (some 7) [some (3,1),some (3,1),some (179,1),some (149,2),some (149,2),none,none],.tmpO 7 [none]]] [1,2,3,6,8,10,14,16,17,18,19] Zxo ⟨[(1,I i),(2,I j),(3,.ptr 0 0),(6,.ptr 1 0),(8,Bo cn),(10,L 2 (cl.map Za.c)),(14,.ptr 2 0),(16,.ptr 3 0),(17,I co),(18,.own 8),(19,I k)],[[]],[.box (d.c.map .t),.box [.t .nil,.t .nil,.t .nil,.t .nil,.t .nil,I cd.Num,I cd.Den],.box (limit.c.map .t),.box [.own 4,.own 5,.own 6,.own 7,.t .nil,I cc.Num,I cc.Den],.arr 3 1 true (x.map ic),.arr 3 1 true (x1.map ic),.arr 179 1 fr (x2.map (lc 2 Za.c)),.arr 149 2 true (x3.map Za.c),.arr 149 2 true (cp.map Za.c)]⟩
def Zrm(d:Zn)(cd limit cc:Za)(x x1:List Int)(fr:Bool)(x2:List (List Za))(x3:List Za)(j:Int)(cn:Bool)(cl:List Za)(k:Int):Rs:=EvL C [.blk 6,.seq Zgj,.fin 0 [.cellO 6 (some 7) [some (3,1),some (3,1),some (179,1),some (149,2),some (149,2),none,none],.tmpO 7 [none]]] [2,3,6,8,10,14,16,25] Zk2 ⟨[(2,I j),(3,.ptr 0 0),(6,.ptr 1 0),(8,Bo cn),(10,L 2 (cl.map Za.c)),(14,.ptr 2 0),(16,.ptr 3 0),(25,I k)],[[]],[.box (d.c.map .t),.box [.t .nil,.t .nil,.t .nil,.t .nil,.t .nil,I cd.Num,I cd.Den],.box (limit.c.map .t),.box [.own 4,.own 5,.own 6,.own 7,.t .nil,I cc.Num,I cc.Den],.arr 3 1 true (x.map ic),.arr 3 1 true (x1.map ic),.arr 179 1 fr (x2.map (lc 2 Za.c)),.arr 149 2 true (x3.map Za.c)]⟩
def Zi2(d:Zn)(cd:Za)(cl:List Za)(limit cc:Za)(x x1:List Int)(fr:Bool)(x2:List (List Za))(x3:List Za)(i j:Int)(cn:Bool)(co:Int):Rs:=EvL C [.blk 2,.seq Zk3,.fin 0 [.cellO 6 (some 7) [some (3,1),some (3,1),some (179,1),some (149,2),some (149,2),none,none],.tmpO 7 [none]]] [1,2,3,6,8,10,14,16,17] Zk1 ⟨[(1,I i),(2,I j),(3,.ptr 0 0),(6,.ptr 1 0),(8,Bo cn),(10,.own 2),(14,.ptr 3 0),(16,.ptr 4 0),(17,I co)],[[]],[.box (d.c.map .t),.box [.t .nil,.t .nil,.t .nil,.t .nil,.t .nil,I cd.Num,I cd.Den],.arr 149 2 true (cl.map Za.c),.box (limit.c.map .t),.box [.own 5,.own 6,.own 7,.own 8,.t .nil,I cc.Num,I cc.Den],.arr 3 1 true (x.map ic),.arr 3 1 true (x1.map ic),.arr 179 1 fr (x2.map (lc 2 Za.c)),.arr 149 2 true (x3.map Za.c)]⟩
def Zbhr(d:Zn)(cd:Za)(cl:List Za)(limit cc:Za)(x x1:List Int)(x2:List Za)(j:Int)(cn:Bool)(k:Int):Rs:=EvL C [.blk 6,.seq Zgj,.fin 0 [.cellO 6 (some 7) [some (3,1),some (3,1),some (179,1),some (149,2),some (149,2),none,none],.tmpO 7 [none]]] [2,3,6,8,10,14,16,25] Zk2 ⟨[(2,I j),(3,.ptr 0 0),(6,.ptr 1 0),(8,Bo cn),(10,.own 2),(14,.ptr 3 0),(16,.ptr 4 0),(25,I k)],[[]],[.box (d.c.map .t),.box [.t .nil,.t .nil,.t .nil,.t .nil,.t .nil,I cd.Num,I cd.Den],.arr 149 2 true (cl.map Za.c),.box (limit.c.map .t),.box [.own 5,.own 6,.t .nil,.t .nil,.own 7,I cc.Num,I cc.Den],.arr 3 1 true (x.map ic),.arr 3 1 true (x1.map ic),.arr 149 2 true (x2.map Za.c)]⟩
def Z4e(d:Zn)(cd:Za)(cl:List Za)(limit cc:Za)(x x1:List Int)(j:Int)(cn:Bool)(k:Int)(x2:Bool):Rs:=Ev C [.fin 0 [.cellO 6 (some 7) [some (3,1),some (3,1),some (179,1),some (149,2),some (149,2),none,none],.tmpO 7 [none]]] Zgj ⟨[(2,I j),(3,.ptr 0 0),(6,.ptr 1 0),(8,Bo cn),(10,.own 2),(14,.ptr 3 0),(16,.ptr 4 0),(25,I k),(265,Bo x2)],[[]],[.box (d.c.map .t),.box [.t .nil,.t .nil,.t .nil,.t .nil,.t .nil,I cd.Num,I cd.Den],.arr 149 2 true (cl.map Za.c),.box (limit.c.map .t),.box [.own 5,.own 6,.t .nil,.t .nil,.t .nil,I cc.Num,I cc.Den],.arr 3 1 true (x.map ic),.arr 3 1 true (x1.map ic)]⟩
def Znr(d:Zn)(cd limit cc:Za)(x x1:List Int)(fr:Bool)(x2:List (List Za))(x3 x4:List Za)(j:Int)(cn:Bool)(cl:List Za)(k:Int):Rs:=EvL C [.blk 6,.seq Zgj,.fin 0 [.cellO 6 (some 7) [some (3,1),some (3,1),some (179,1),some (149,2),some (149,2),none,none],.tmpO 7 [none]]] [2,3,6,8,10,14,16,25] Zk2 ⟨[(2,I j),(3,.ptr 0 0),(6,.ptr 1 0),(8,Bo cn),(10,L 2 (cl.map Za.c)),(14,.ptr 2 0),(16,.ptr 3 0),(25,I k)],[[]],[.box (d.c.map .t),.box [.t .nil,.t .nil,.t .nil,.t .nil,.t .nil,I cd.Num,I cd.Den],.box (limit.c.map .t),.box [.own 4,.own 5,.own 6,.own 7,.own 8,I cc.Num,I cc.Den],.arr 3 1 true (x.map ic),.arr 3 1 true (x1.map ic),.arr 179 1 fr (x2.map (lc 2 Za.c)),.arr 149 2 true (x3.map Za.c),.arr 149 2 true (x4.map Za.c)]⟩
def Z4f(d:Zn)(cd limit cc:Za)(x x1:List Int)(fr:Bool)(x2:List (List Za))(x3:List Za)(j:Int)(cn:Bool)(cl:List Za)(k:Int)(x4:Bool):Rs:=Ev C [.fin 0 [.cellO 6 (some 7) [some (3,1),some (3,1),some (179,1),some (149,2),some (149,2),none,none],.tmpO 7 [none]]] Zgj ⟨[(2,I j),(3,.ptr 0 0),(6,.ptr 1 0),(8,Bo cn),(10,L 2 (cl.map Za.c)),(14,.ptr 2 0),(16,.ptr 3 0),(25,I k),(265,Bo x4)],[[]],[.box (d.c.map .t),.box [.t .nil,.t .nil,.t .nil,.t .nil,.t .nil,I cd.Num,I cd.Den],.box (limit.c.map .t),.box [.own 4,.own 5,.own 6,.own 7,.t .nil,I cc.Num,I cc.Den],.arr 3 1 true (x.map ic),.arr 3 1 true (x1.map ic),.arr 179 1 fr (x2.map (lc 2 Za.c)),.arr 149 2 true (x3.map Za.c)]⟩
def Zk7(d:Zn)(cd:Za)(cl:List Za)(limit cc:Za)(x x1:List Int)(fr:Bool)(x2:List (List Za))(x3 cp:List Za)(i j:Int)(cn:Bool)(co k:Int):Rs:=EvL C [.blk 4,.seq Zxp,.blk 3,.seq Zxq,.loop [1,2,3,6,8,10,14,16,17] Zk1,.blk 2,.seq Zk3,.fin 0 [.cellO 6 (some 7) [some (3,1),some (3,1),some (179,1),some (149,2),some (149,2),none,none],.tmpO 7 [none]]] [1,2,3,6,8,10,14,16,17,18,19] Zxo ⟨[(1,I i),(2,I j),(3,.ptr 0 0),(6,.ptr 1 0),(8,Bo cn),(10,.own 2),(14,.ptr 3 0),(16,.ptr 4 0),(17,I co),(18,.own 9),(19,I k)],[[]],[.box (d.c.map .t),.box [.t .nil,.t .nil,.t .nil,.t .nil,.t .nil,I cd.Num,I cd.Den],.arr 149 2 true (cl.map Za.c),.box (limit.c.map .t),.box [.own 5,.own 6,.own 7,.own 8,.t .nil,I cc.Num,I cc.Den],.arr 3 1 true (x.map ic),.arr 3 1 true (x1.map ic),.arr 179 1 fr (x2.map (lc 2 Za.c)),.arr 149 2 true (x3.map Za.c),.arr 149 2 true (cp.map Za.c)]⟩
def Zxt(d:Zn)(cd:Za)(cl:List Za)(limit cc:Za)(x x1:List Int)(fr:Bool)(x2:List (List Za))(x3:List Za)(j:Int)(cn:Bool)(k:Int):Rs:=EvL C [.blk 6,.seq Zgj,.fin 0 [.cellO 6 (some 7) [some (3,1),some (3,1),some (179,1),some (149,2),some (149,2),none,none],.tmpO 7 [none]]] [2,3,6,8,10,14,16,25] Zk2 ⟨[(2,I j),(3,.ptr 0 0),(6,.ptr 1 0),(8,Bo cn),(10,.own 2),(14,.ptr 3 0),(16,.ptr 4 0),(25,I k)],[[]],[.box (d.c.map .t),.box [.t .nil,.t .nil,.t .nil,.t .nil,.t .nil,I cd.Num,I cd.Den],.arr 149 2 true (cl.map Za.c),.box (limit.c.map .t),.box [.own 5,.own 6,.own 7,.own 8,.t .nil,I cc.Num,I cc.Den],.arr 3 1 true (x.map ic),.arr 3 1 true (x1.map ic),.arr 179 1 fr (x2.map (lc 2 Za.c)),.arr 149 2 true (x3.map Za.c)]⟩
def Zrn(d:Zn)(cd limit cc:Za)(x x1:List Int)(fr:Bool)(x2:List (List Za))(x3 x4:List Za)(j:Int)(cn:Bool)(cl:List Za)(k:Int)(x5:Bool):Rs:=Ev C [.fin 0 [.cellO 6 (some 7) [some (3,1),some (3,1),some (179,1),some (149,2),some (149,2),none,none],.tmpO 7 [none]]] Zgj ⟨[(2,I j),(3,.ptr 0 0),(6,.ptr 1 0),(8,Bo cn),(10,L 2 (cl.map Za.c)),(14,.ptr 2 0),(16,.ptr 3 0),(25,I k),(265,Bo x5)],[[]],[.box (d.c.map .t),.box [.t .nil,.t .nil,.t .nil,.t .nil,.t .nil,I cd.Num,I cd.Den],.box (limit.c.map .t),.box [.own 4,.own 5,.own 6,.own 7,.own 8,I cc.Num,I cc.Den],.arr 3 1 true (x.map ic),.arr 3 1 true (x1.map ic),.arr 179 1 fr (x2.map (lc 2 Za.c)),.arr 149 2 true (x3.map Za.c),.arr 149 2 true (x4.map Za.c)]⟩
def Zbhs(d:Zn)(cd:Za)(cl:List Za)(limit cc:Za)(x x1:List Int)(fr:Bool)(x2:List (List Za))(x3 x4:List Za)(j:Int)(cn:Bool)(k:Int):Rs:=EvL C [.blk 6,.seq Zgj,.fin 0 [.cellO 6 (some 7) [some (3,1),some (3,1),some (179,1),some (149,2),some (149,2),none,none],.tmpO 7 [none]]] [2,3,6,8,10,14,16,25] Zk2 ⟨[(2,I j),(3,.ptr 0 0),(6,.ptr 1 0),(8,Bo cn),(10,.own 2),(14,.ptr 3 0),(16,.ptr 4 0),(25,I k)],[[]],[.box (d.c.map .t),.box [.t .nil,.t .nil,.t .nil,.t .nil,.t .nil,I cd.Num,I cd.Den],.arr 149 2 true (cl.map Za.c),.box (limit.c.map .t),.box [.own 5,.own 6,.own 7,.own 8,.own 9,I cc.Num,I cc.Den],.arr 3 1 true (x.map ic),.arr 3 1 true (x1.map ic),.arr 179 1 fr (x2.map (lc 2 Za.c)),.arr 149 2 true (x3.map Za.c),.arr 149 2 true (x4.map Za.c)]⟩
def Z4g(d:Zn)(cd:Za)(cl:List Za)(limit cc:Za)(x x1:List Int)(fr:Bool)(x2:List (List Za))(x3:List Za)(j:Int)(cn:Bool)(k:Int)(x4:Bool):Rs:=Ev C [.fin 0 [.cellO 6 (some 7) [some (3,1),some (3,1),some (179,1),some (149,2),some (149,2),none,none],.tmpO 7 [none]]] Zgj ⟨[(2,I j),(3,.ptr 0 0),(6,.ptr 1 0),(8,Bo cn),(10,.own 2),(14,.ptr 3 0),(16,.ptr 4 0),(25,I k),(265,Bo x4)],[[]],[.box (d.c.map .t),.box [.t .nil,.t .nil,.t .nil,.t .nil,.t .nil,I cd.Num,I cd.Den],.arr 149 2 true (cl.map Za.c),.box (limit.c.map .t),.box [.own 5,.own 6,.own 7,.own 8,.t .nil,I cc.Num,I cc.Den],.arr 3 1 true (x.map ic),.arr 3 1 true (x1.map ic),.arr 179 1 fr (x2.map (lc 2 Za.c)),.arr 149 2 true (x3.map Za.c)]⟩
def Zet:RawF (rawF 199 Tryz.f199):={ m:=_ }
def Z4h:MCode:=cut0 Zet 38
def Zxu:MCode:=cut0 Zet 53
def Zbw3:MCode:=cut0 Zet 81
def Z4i:MCode:=cut1 Zet 68 13 Zbw3
def Zbw4:MCode:=cut0 Zet 100
def Zbht:MCode:=cut1 Zet 87 13 Zbw4
def Zbhu:MCode:=cut0 Zet 101
def Z4j:MCode:=cut2 Zet 82 5 Zbht 19 Zbhu
def Zxv:MCode:=cut2 Zet 63 5 Z4i 19 Z4j
def Z4k:MCode:=cut2 Zet 48 5 Zxu 15 Zxv
def Zhz:MCode:=cut0 Zet 105
def Zh0:MCode:=cut0 Zet 126
def Zgz:MCode:=cut4 Zet 17 21 Z4h 31 Z4k 88 Zhz 109 Zh0
def Zg0:MCode:=cut0 Zet 127
def Zbw5:MFun:=Zo Zet 17 Zgz 127 Zg0
def Zxw(a:Program):Rs:=C 199 [.agg (a.c.map .t)] []
def Zi3(p:Program)(cc:Za)(d:Zn)(n:Int):Rs:=EvL C [.blk 0,.seq Zg0,.fin 0 [.cellO 2 (some 4) [none,none,some (149,2),some (149,2)],.tmpO 3 [none]]] [1,2,4,6] Zgz ⟨[(1,.ptr 0 0),(2,.ptr 1 0),(4,.ptr 2 0),(6,I n)],[[]],[.box (p.c.map .t),.box [I cc.Num,I cc.Den,.t .nil,.t .nil],.box (d.c.map .t)]⟩
def Z4l(p:Program)(cd:Za)(d:Zn)(cc:Za)(k:Int):Rs:=EvL C [.blk 2,.seq Z4k,.seq Zhz,.blk 1,.seq Zh0,.loop [1,2,4,6] Zgz,.blk 0,.seq Zg0,.fin 0 [.cellO 2 (some 4) [none,none,some (149,2),some (149,2)],.tmpO 3 [none]]] [1,2,4,8,9] Z4h ⟨[(1,.ptr 0 0),(2,.ptr 1 0),(4,.ptr 2 0),(8,.ptr 3 0),(9,I k)],[[]],[.box (p.c.map .t),.box [I cd.Num,I cd.Den,.t .nil,.t .nil],.box (d.c.map .t),.box [I cc.Num,I cc.Den,.t .nil,.t .nil]]⟩
def Zxx(p:Program)(cd:Za)(d:Zn)(cc:Za)(x:List Za)(k:Int):Rs:=EvL C [.blk 2,.seq Z4k,.seq Zhz,.blk 1,.seq Zh0,.loop [1,2,4,6] Zgz,.blk 0,.seq Zg0,.fin 0 [.cellO 2 (some 4) [none,none,some (149,2),some (149,2)],.tmpO 3 [none]]] [1,2,4,8,9] Z4h ⟨[(1,.ptr 0 0),(2,.ptr 1 0),(4,.ptr 2 0),(8,.ptr 3 0),(9,I k)],[[]],[.box (p.c.map .t),.box [I cd.Num,I cd.Den,.t .nil,.t .nil],.box (d.c.map .t),.box [I cc.Num,I cc.Den,.own 4,.t .nil],.arr 149 2 true (x.map Za.c)]⟩
def Zbw6(p:Program)(cd:Za)(d:Zn)(cc:Za)(i:Int):Rs:=EvL C [.blk 4,.seq Zxv,.seq Zhz,.blk 1,.seq Zh0,.loop [1,2,4,6] Zgz,.blk 0,.seq Zg0,.fin 0 [.cellO 2 (some 4) [none,none,some (149,2),some (149,2)],.tmpO 3 [none]]] [1,2,4,8,10] Zxu ⟨[(1,.ptr 0 0),(2,.ptr 1 0),(4,.ptr 2 0),(8,.ptr 3 0),(10,I i)],[[]],[.box (p.c.map .t),.box [I cd.Num,I cd.Den,.t .nil,.t .nil],.box (d.c.map .t),.box [I cc.Num,I cc.Den,.t .nil,.t .nil]]⟩
def Zbhv(p:Program)(cd:Za)(d:Zn)(cc:Za)(x:List Za)(i:Int):Rs:=EvL C [.blk 4,.seq Zxv,.seq Zhz,.blk 1,.seq Zh0,.loop [1,2,4,6] Zgz,.blk 0,.seq Zg0,.fin 0 [.cellO 2 (some 4) [none,none,some (149,2),some (149,2)],.tmpO 3 [none]]] [1,2,4,8,10] Zxu ⟨[(1,.ptr 0 0),(2,.ptr 1 0),(4,.ptr 2 0),(8,.ptr 3 0),(10,I i)],[[]],[.box (p.c.map .t),.box [I cd.Num,I cd.Den,.t .nil,.t .nil],.box (d.c.map .t),.box [I cc.Num,I cc.Den,.own 4,.t .nil],.arr 149 2 true (x.map Za.c)]⟩
def Zxy(p:Program)(cd:Za)(d:Zn)(cc:Za)(x x1:List Za)(i:Int):Rs:=EvL C [.blk 4,.seq Zxv,.seq Zhz,.blk 1,.seq Zh0,.loop [1,2,4,6] Zgz,.blk 0,.seq Zg0,.fin 0 [.cellO 2 (some 4) [none,none,some (149,2),some (149,2)],.tmpO 3 [none]]] [1,2,4,8,10] Zxu ⟨[(1,.ptr 0 0),(2,.ptr 1 0),(4,.ptr 2 0),(8,.ptr 3 0),(10,I i)],[[]],[.box (p.c.map .t),.box [I cd.Num,I cd.Den,.t .nil,.t .nil],.box (d.c.map .t),.box [I cc.Num,I cc.Den,.own 4,.own 5],.arr 149 2 true (x.map Za.c),.arr 149 2 true (x1.map Za.c)]⟩
def Zbw7(p:Program)(cd:Za)(d:Zn)(cc:Za)(x:List Za)(i:Int):Rs:=EvL C [.blk 6,.seq Z4j,.seq Zhz,.blk 1,.seq Zh0,.loop [1,2,4,6] Zgz,.blk 0,.seq Zg0,.fin 0 [.cellO 2 (some 4) [none,none,some (149,2),some (149,2)],.tmpO 3 [none]]] [1,2,4,8,11] Z4i ⟨[(1,.ptr 0 0),(2,.ptr 1 0),(4,.ptr 2 0),(8,.ptr 3 0),(11,I i)],[[]],[.box (p.c.map .t),.box [I cd.Num,I cd.Den,.t .nil,.t .nil],.box (d.c.map .t),.box [I cc.Num,I cc.Den,.own 4,.t .nil],.arr 149 2 true (x.map Za.c)]⟩
def Zro(p:Program)(cd:Za)(d:Zn)(cc:Za)(x x1:List Za)(i:Int):Rs:=EvL C [.blk 6,.seq Z4j,.seq Zhz,.blk 1,.seq Zh0,.loop [1,2,4,6] Zgz,.blk 0,.seq Zg0,.fin 0 [.cellO 2 (some 4) [none,none,some (149,2),some (149,2)],.tmpO 3 [none]]] [1,2,4,8,11] Z4i ⟨[(1,.ptr 0 0),(2,.ptr 1 0),(4,.ptr 2 0),(8,.ptr 3 0),(11,I i)],[[]],[.box (p.c.map .t),.box [I cd.Num,I cd.Den,.t .nil,.t .nil],.box (d.c.map .t),.box [I cc.Num,I cc.Den,.own 4,.own 5],.arr 149 2 true (x.map Za.c),.arr 149 2 true (x1.map Za.c)]⟩
def Zrp(p:Program)(cd:Za)(d:Zn)(cc:Za)(x x1:List Za)(k:Int):Rs:=EvL C [.blk 8,.seq Zbhu,.seq Zhz,.blk 1,.seq Zh0,.loop [1,2,4,6] Zgz,.blk 0,.seq Zg0,.fin 0 [.cellO 2 (some 4) [none,none,some (149,2),some (149,2)],.tmpO 3 [none]]] [1,2,4,8,12] Zbht ⟨[(1,.ptr 0 0),(2,.ptr 1 0),(4,.ptr 2 0),(8,.ptr 3 0),(12,I k)],[[]],[.box (p.c.map .t),.box [I cd.Num,I cd.Den,.t .nil,.t .nil],.box (d.c.map .t),.box [I cc.Num,I cc.Den,.own 4,.own 5],.arr 149 2 true (x.map Za.c),.arr 149 2 true (x1.map Za.c)]⟩
def Zbw8:MFun:=mkF (rawF 153 Tryz.f153)
def Z4m(a:Zf)(a1:Zb)(a2:Int):Rs:=C 153 [.agg (a.c.map .t),.agg (a1.c.map .t),I a2] []
def Zbw9:MFun:=mkF (rawF 111 Tryz.f111)
def Zxz(a:Zf)(a1:Zb)(a2:Int):Rs:=C 111 [.agg (a.c.map .t),.agg (a1.c.map .t),I a2] []
def Zbxa:RawF (rawF 156 Tryz.f156):={ m:=_ }
def Zbxb:MCode:=cut0 Zbxa 18
def Zbxc:MFun:=Zbb Zbxa 18 Zbxb
def Z4n(a:Za):Rs:=C 156 [.agg (a.c.map .t)] []
def Zbxd:MFun:=mkF (rawF 155 Tryz.f155)
def Zbhw(a:Int):Rs:=C 155 [I a] []
def Zbhx:RawF (rawF 157 Tryz.f157):={ m:=_ }
def Zbhy:MCode:=cut0 Zbhx 9
def Zbhz:MCode:=cut0 Zbhx 27
def Zbxe:MFun:=Zo Zbhx 9 Zbhy 27 Zbhz
def Z4o(a a1 a2:Int):Rs:=C 157 [I a,I a1,I a2] []
def Zx0(n c cc x i:Int):Rs:=EvL C [.blk 0,.seq Zbhz,.fin 0 [.tmp 6]] [0,1,2,7,8] Zbhy ⟨[(0,I n),(1,I c),(2,I cc),(7,I x),(8,I i)],[[]],[]⟩
def Zbh0:RawF (rawF 112 Tryz.f112):={ m:=_ }
def Zbh1:MCode:=cut0 Zbh0 23
def Zbh2:MCode:=cut0 Zbh0 31
def Zbxf:MFun:=Zo Zbh0 23 Zbh1 31 Zbh2
def Zx1(a:Za):Rs:=C 112 [.agg (a.c.map .t)] []
def Zx2(r_1:Za)(n:Int):Rs:=EvL C [.blk 0,.seq Zbh2,.fin 0 [.tmp 2]] [1,3] Zbh1 ⟨[(1,.ptr 0 0),(3,I n)],[[]],[.box (r_1.c.map .t)]⟩
def Zbh3:RawF (rawF 71 Tryz.f71):={ m:=_ }
def Zbh4:MCode:=cut0 Zbh3 15
def Zbh5:MCode:=cut0 Zbh3 31
def Zbxg:MFun:=Zo Zbh3 15 Zbh4 31 Zbh5
def Zrq(a:Zf)(a1:Zb)(a2:Int):Rs:=C 71 [.agg (a.c.map .t),.agg (a1.c.map .t),I a2] []
def Zrr(s:Zf)(q:Zb)(cc i:Int):Rs:=EvL C [.blk 0,.seq Zbh5,.fin 0 [.tmp 6]] [2,3,4,7] Zbh4 ⟨[(2,I cc),(3,.ptr 0 0),(4,.ptr 1 0),(7,I i)],[[]],[.box (s.c.map .t),.box (q.c.map .t)]⟩
def Z4p:RawF (rawF 34 Tryz.f34):={ m:=_ }
def Zbxh:MCode:=cut0 Z4p 54
def Zx3:MCode:=cut1 Z4p 40 14 Zbxh
def Zbxi:MCode:=cut1 Z4p 24 16 Zx3
def Zbxj:MFun:=Zbb Z4p 24 Zbxi
def Zrs(a:Zf)(a1:Zb)(a2:Int):Rs:=C 34 [.agg (a.c.map .t),.agg (a1.c.map .t),I a2] []
def Zx4(s:Zf)(q:Zb)(l:List Int)(cc n cd:Int):Rs:=Ev C [.fin 0 [.tmp 6,.tmp 7]] Zx3 ⟨[(2,I cc),(3,.ptr 0 0),(4,.ptr 1 0),(8,I n),(9,I cd),(11,.own 2)],[[]],[.box (s.c.map .t),.box (q.c.map .t),.arr 3 1 true (l.map ic)]⟩
def Zx5(s:Zf)(q:Zb)(l:List Int)(cc n cd x:Int)(x1:Bool):Rs:=Ev C [.fin 0 [.tmp 6,.tmp 7]] Zx3 ⟨[(2,I cc),(3,.ptr 0 0),(4,.ptr 1 0),(8,I n),(9,I cd),(10,I x),(11,.own 2),(45,Bo x1)],[[]],[.box (s.c.map .t),.box (q.c.map .t),.arr 3 1 true (l.map ic)]⟩
def Zx6(s:Zf)(q:Zb)(l:List Int)(cc n cd:Int)(x:Bool):Rs:=Ev C [.fin 0 [.tmp 6,.tmp 7]] Zx3 ⟨[(2,I cc),(3,.ptr 0 0),(4,.ptr 1 0),(8,I n),(9,I cd),(11,.own 2),(33,Bo x)],[[]],[.box (s.c.map .t),.box (q.c.map .t),.arr 3 1 true (l.map ic)]⟩
def Zbxk:MFun:=mkF (rawF 9 Tryz.f9)
def Zx7(a:Zf)(a1:Zb)(a2:Int):Rs:=C 9 [.agg (a.c.map .t),.agg (a1.c.map .t),I a2] []
def Zbxl:MFun:=mkF (rawF 16 Tryz.f16)
def Z4q(a:Zf)(a1:Zb)(a2:Int):Rs:=C 16 [.agg (a.c.map .t),.agg (a1.c.map .t),I a2] []
def Zbxm:MFun:=mkF (rawF 15 Tryz.f15)
def Z4r(a:Zf)(a1:Zb)(a2:Int):Rs:=C 15 [.agg (a.c.map .t),.agg (a1.c.map .t),I a2] []
def Z4s:RawF (rawF 137 Tryz.f137):={ m:=_ }
def Zbxn:MCode:=cut0 Z4s 26
def Zbh6:MCode:=cut1 Z4s 11 15 Zbxn
def Zbh7:MCode:=cut0 Z4s 27
def Zbxo:MFun:=Zo Z4s 11 Zbh6 27 Zbh7
def Z4t(a:Zb)(a1:Int):Rs:=C 137 [.agg (a.c.map .t),I a1] []
def Zns(cd:List Int)(cc cl:Int)(x:List Atom)(x1 x2:Int):Rs:=EvL C [.blk 0,.seq Zbh7,.fin 0 [.tmp 4]] [1,5,6,13,14,15] Zbh6 ⟨[(1,I cc),(5,.own 0),(6,I cl),(13,L 2 (x.map Atom.c)),(14,I x1),(15,I x2)],[[]],[.arr 3 1 true (cd.map ic)]⟩
def Zbxp:RawF (rawF 93 Tryz.f93):={ m:=_ }
def Zbh8:MCode:=cut0 Zbxp 14
def Zbxq:MFun:=Zbb Zbxp 14 Zbh8
def Zrt(a:Zb)(a1:Int):Rs:=C 93 [.agg (a.c.map .t),I a1] []
def Zx8(q:Zb)(cc cd:Int):Rs:=EvL C [.blk 0,.fin 0 [.tmp 4]] [1,2,5] Zbh8 ⟨[(1,I cc),(2,.ptr 0 0),(5,I cd)],[[]],[.box (q.c.map .t)]⟩
def Z4u:RawF (rawF 51 Tryz.f51):={ m:=_ }
def Zbxr:MCode:=cut0 Z4u 22
def Zbh9:MCode:=cut1 Z4u 9 13 Zbxr
def Zbia:MCode:=cut0 Z4u 23
def Zbxs:MFun:=Zo Z4u 9 Zbh9 23 Zbia
def Znt(a:Zb):Rs:=C 51 [.agg (a.c.map .t)] []
def Zru(q:Zb)(cd:List Int)(cc:Int):Rs:=EvL C [.blk 0,.seq Zbia,.fin 0 [.tmp 2]] [1,3,4] Zbh9 ⟨[(1,.ptr 0 0),(3,.own 1),(4,I cc)],[[]],[.box (q.c.map .t),.arr 3 1 true (cd.map ic)]⟩
def Zbib:RawF (rawF 18 Tryz.f18):={ m:=_ }
def Zbic:MCode:=cut0 Zbib 17
def Zbid:MCode:=cut0 Zbib 29
def Zbie:MFun:=Zo Zbib 17 Zbic 29 Zbid
def Zi4(a:Zf)(a1:Zb):Rs:=C 18 [.agg (a.c.map .t),.agg (a1.c.map .t)] []
def Zrv(s:Zf)(q:Zb)(cc x:List Int)(x1 x2:Int):Rs:=EvL C [.blk 0,.seq Zbid,.fin 0 [.tmp 4]] [2,3,5,17,18,19] Zbic ⟨[(2,.ptr 0 0),(3,.ptr 1 0),(5,.own 2),(17,.own 3),(18,I x1),(19,I x2)],[[]],[.box (s.c.map .t),.box (q.c.map .t),.arr 3 1 true (cc.map ic),.arr 3 1 true (x.map ic)]⟩
def Z4v:RawF (rawF 133 Tryz.f133):={ m:=_ }
def Zbxt:MCode:=cut0 Z4v 24
def Zbif:MCode:=cut1 Z4v 11 13 Zbxt
def Zbig:MCode:=cut0 Z4v 25
def Zbxu:MFun:=Zo Z4v 11 Zbif 25 Zbig
def Zx9(a:Zb)(a1:Int):Rs:=C 133 [.agg (a.c.map .t),I a1] []
def Znu(q:Zb)(cd cl cc i:Int):Rs:=EvL C [.blk 0,.seq Zbig,.fin 0 [.tmp 4]] [1,2,5,6,7] Zbif ⟨[(1,I cd),(2,.ptr 0 0),(5,I cl),(6,I cc),(7,I i)],[[]],[.box (q.c.map .t)]⟩
def Zbih:RawF (rawF 91 Tryz.f91):={ m:=_ }
def Zbii:MCode:=cut0 Zbih 9
def Zbij:MCode:=cut0 Zbih 19
def Zbxv:MFun:=Zo Zbih 9 Zbii 19 Zbij
def Z4w(a:Zb)(a1:Int):Rs:=C 91 [.agg (a.c.map .t),I a1] []
def Zya(q:Zb)(cc x n:Int):Rs:=EvL C [.blk 0,.seq Zbij,.fin 0 [.tmp 4]] [1,2,5,6] Zbii ⟨[(1,I cc),(2,.ptr 0 0),(5,I x),(6,I n)],[[]],[.box (q.c.map .t)]⟩
def Zbxw:MFun:=mkF (rawF 49 Tryz.f49)
def Znv(a:Zb)(a1:Int):Rs:=C 49 [.agg (a.c.map .t),I a1] []
def Z4x:RawF (rawF 17 Tryz.f17):={ m:=_ }
def Zbxx:MCode:=cut0 Z4x 33
def Zbik:MCode:=cut1 Z4x 17 16 Zbxx
def Zbil:MCode:=cut0 Z4x 35
def Zbxy:MFun:=Zo Z4x 17 Zbik 35 Zbil
def Zrw(a:Zf)(a1:Zb):Rs:=C 17 [.agg (a.c.map .t),.agg (a1.c.map .t)] []
def Zrx(s:Zf)(q:Zb)(cc:List Int)(m:Int):Rs:=EvL C [.blk 0,.seq Zbil,.fin 0 [.tmp 4]] [2,3,5,6] Zbik ⟨[(2,.ptr 0 0),(3,.ptr 1 0),(5,.own 2),(6,I m)],[[]],[.box (s.c.map .t),.box (q.c.map .t),.arr 3 1 true (cc.map ic)]⟩
def Zbxz:MFun:=mkF (rawF 59 Tryz.f59)
def Zyb(a:Zb)(a1:Int):Rs:=C 59 [.agg (a.c.map .t),I a1] []
def Zbim:RawF (rawF 264 Tryz.f264):={ m:=_ }
def Zbin:MCode:=cut0 Zbim 7
def Zbio:MCode:=cut0 Zbim 25
def Zbx0:MFun:=Zo Zbim 7 Zbin 25 Zbio
def Zbip(a:List Zj)(a1:Zj):Rs:=C 264 [L 4 (a.map Zj.c),.agg (a1.c.map .t)] []
def Zyc(v:Zj)(s:List Zj)(x x1:Int):Rs:=EvL C [.blk 0,.seq Zbio,.fin 0 [.tmp 4]] [0,3,7,8] Zbin ⟨[(0,L 4 (s.map Zj.c)),(3,.ptr 0 0),(7,I x),(8,I x1)],[[]],[.box (v.c.map .t)]⟩
def Zbx1:MFun:=mkF (rawF 231 Tryz.f231)
def Znw(a:List Zj)(a1:Zj):Rs:=C 231 [L 4 (a.map Zj.c),.agg (a1.c.map .t)] []
def Z4y:RawF (rawF 190 Tryz.f190):={ m:=_ }
def Zbx2:MCode:=cut0 Z4y 50
def Z4z:MCode:=cut1 Z4y 23 27 Zbx2
def Z40:MCode:=cut0 Z4y 51
def Zbx3:MFun:=Zo Z4y 23 Z4z 51 Z40
def Z41(a:Zf)(a1:Zb)(a2 a3:Int):Rs:=C 190 [.agg (a.c.map .t),.agg (a1.c.map .t),I a2,I a3] []
def Zbx4(s:Zf)(q:Zb)(x:Atom)(v cc x1 x2:Int):Rs:=EvL C [.blk 0,.seq Z40,.fin 0 [.tmp 8]] [4,5,9,11,12,46,47,48] Z4z ⟨[(4,.ptr 0 0),(5,.ptr 1 0),(9,.ptr 2 0),(11,I v),(12,I cc),(46,.t .nil),(47,I x1),(48,I x2)],[[]],[.box (s.c.map .t),.box (q.c.map .t),.box (x.c.map .t)]⟩
def Zk8(s:Zf)(q:Zb)(x:Atom)(x1:List Int)(v cc x2 x3:Int):Rs:=EvL C [.blk 0,.seq Z40,.fin 0 [.tmp 8]] [4,5,9,11,12,46,47,48] Z4z ⟨[(4,.ptr 0 0),(5,.ptr 1 0),(9,.ptr 2 0),(11,I v),(12,I cc),(46,.own 3),(47,I x2),(48,I x3)],[[]],[.box (s.c.map .t),.box (q.c.map .t),.box (x.c.map .t),.arr 3 1 true (x1.map ic)]⟩
def Z42:RawF (rawF 142 Tryz.f142):={ m:=_ }
def Zbx5:MCode:=cut0 Z42 40
def Z43:MCode:=cut1 Z42 15 25 Zbx5
def Z44:MCode:=cut0 Z42 41
def Zbx6:MFun:=Zo Z42 15 Z43 41 Z44
def Ze8(x:List Int)(a:Zf)(a1:Zb)(a2 a3:Int):Rs:=C 142 [.agg (a.c.map .t),.agg (a1.c.map .t),.own 0,I a2,I a3] [.arr 3 1 true (x.map ic)]
def Zbx7(cc:List Int)(s:Zf)(q:Zb)(cl cd x x1:Int):Rs:=EvL C [.blk 0,.seq Z44,.fin 1 [.tmp 10,.tmp 11]] [2,3,4,5,6,20,21,22] Z43 ⟨[(2,.own 0),(3,I cl),(4,I cd),(5,.ptr 1 0),(6,.ptr 2 0),(20,.t .nil),(21,I x),(22,I x1)],[[(0,.own 0)]],[.arr 3 1 true (cc.map ic),.box (s.c.map .t),.box (q.c.map .t)]⟩
def Zg1(cc:List Int)(s:Zf)(q:Zb)(x:List Int)(cl cd x1 x2:Int):Rs:=EvL C [.blk 0,.seq Z44,.fin 1 [.tmp 10,.tmp 11]] [2,3,4,5,6,20,21,22] Z43 ⟨[(2,.own 0),(3,I cl),(4,I cd),(5,.ptr 1 0),(6,.ptr 2 0),(20,.own 3),(21,I x1),(22,I x2)],[[(0,.own 0)]],[.arr 3 1 true (cc.map ic),.box (s.c.map .t),.box (q.c.map .t),.arr 3 1 true (x.map ic)]⟩
def Z45:RawF (rawF 101 Tryz.f101):={ m:=_ }
def Zbx8:MCode:=cut0 Z45 34
def Z46:MCode:=cut1 Z45 17 17 Zbx8
def Z47:MCode:=cut0 Z45 35
def Zbx9:MFun:=Zo Z45 17 Z46 35 Z47
def Z48(a:Zf)(a1:Zb)(a2:Int):Rs:=C 101 [.agg (a.c.map .t),.agg (a1.c.map .t),I a2] []
def Zbya(s:Zf)(q:Zb)(cd cc x x1:Int):Rs:=EvL C [.blk 0,.seq Z47,.fin 0 [.tmp 6]] [2,3,4,7,18,19,20] Z46 ⟨[(2,I cd),(3,.ptr 0 0),(4,.ptr 1 0),(7,I cc),(18,.t .nil),(19,I x),(20,I x1)],[[]],[.box (s.c.map .t),.box (q.c.map .t)]⟩
def Znx(s:Zf)(q:Zb)(x:List Int)(cd cc x1 x2:Int):Rs:=EvL C [.blk 0,.seq Z47,.fin 0 [.tmp 6]] [2,3,4,7,18,19,20] Z46 ⟨[(2,I cd),(3,.ptr 0 0),(4,.ptr 1 0),(7,I cc),(18,.own 2),(19,I x1),(20,I x2)],[[]],[.box (s.c.map .t),.box (q.c.map .t),.arr 3 1 true (x.map ic)]⟩
def Zbiq:RawF (rawF 61 Tryz.f61):={ m:=_ }
def Zbir:MCode:=cut0 Zbiq 17
def Zbis:MCode:=cut0 Zbiq 29
def Zbit:MFun:=Zo Zbiq 17 Zbir 29 Zbis
def Zry(a:Zf)(a1:Zb):Rs:=C 61 [.agg (a.c.map .t),.agg (a1.c.map .t)] []
def Zrz(s:Zf)(q:Zb)(cc x:List Int)(x1 x2:Int):Rs:=EvL C [.blk 0,.seq Zbis,.fin 0 [.tmp 4]] [2,3,5,17,18,19] Zbir ⟨[(2,.ptr 0 0),(3,.ptr 1 0),(5,.own 2),(17,.own 3),(18,I x1),(19,I x2)],[[]],[.box (s.c.map .t),.box (q.c.map .t),.arr 3 1 true (cc.map ic),.arr 3 1 true (x.map ic)]⟩
def Zbiu:RawF (rawF 60 Tryz.f60):={ m:=_ }
def Zbiv:MCode:=cut0 Zbiu 9
def Zbiw:MCode:=cut0 Zbiu 21
def Zbyb:MFun:=Zo Zbiu 9 Zbiv 21 Zbiw
def Zbix:Rs:=C 60 [.t .nil] []
def Zbyc:MFun:=mkF (rawF 141 Tryz.f141)
def Z49(a:Int):Rs:=C 141 [I a] []
def Zbyd:RawF (rawF 100 Tryz.f100):={ m:=_ }
def Zbiy:MCode:=cut0 Zbyd 14
def Zbye:MFun:=Zbb Zbyd 14 Zbiy
def Z5a(a:Int):Rs:=C 100 [I a] []
def Z5b(n c:Int):Rs:=EvL C [.blk 0,.fin 0 [.tmp 2]] [0,3] Zbiy ⟨[(0,I n),(3,I c)],[[]],[]⟩
def Zr0(a:List Int):Rs:=C 60 [L 1 (a.map ic)] []
def Zyd(c x:List Int)(x1 x2:Int):Rs:=EvL C [.blk 0,.seq Zbiw,.fin 0 [.tmp 2]] [3,7,8,9] Zbiv ⟨[(3,.own 0),(7,L 1 (x.map ic)),(8,I x1),(9,I x2)],[[]],[.arr 3 1 true (c.map ic)]⟩
def Zbyf:MFun:=mkF (rawF 25 Tryz.f25)
def Z5c(a:Zf)(a1:Zb):Rs:=C 25 [.agg (a.c.map .t),.agg (a1.c.map .t)] []
def Zbiz:RawF (rawF 263 Tryz.f263):={ m:=_ }
def Zbi0:MCode:=cut0 Zbiz 7
def Zbi1:MCode:=cut0 Zbiz 23
def Zbyg:MFun:=Zo Zbiz 7 Zbi0 23 Zbi1
def Zye(a:Atom)(a1:Int):Rs:=C 263 [.agg (a.c.map .t),I a1] []
def Zyf(a:Atom)(v k:Int):Rs:=EvL C [.blk 0,.seq Zbi1,.fin 0 [.tmp 4]] [1,2,5] Zbi0 ⟨[(1,I v),(2,.ptr 0 0),(5,I k)],[[]],[.box (a.c.map .t)]⟩
def Zyg:RawF (rawF 230 Tryz.f230):={ m:=_ }
def Zbi2:MCode:=cut0 Zyg 53
def Zbi3:MCode:=cut0 Zyg 69
def Z5d:MCode:=cut2 Zyg 25 28 Zbi2 44 Zbi3
def Z5e:MCode:=cut0 Zyg 70
def Zbyh:MFun:=Zo Zyg 25 Z5d 70 Z5e
def Zyh(a:Zf)(a1:Zb)(a2 a3:Int):Rs:=C 230 [.agg (a.c.map .t),.agg (a1.c.map .t),I a2,I a3] []
def Zk9(s:Zf)(q:Zb)(v:List Int)(cc i k:Int):Rs:=EvL C [.blk 0,.seq Z5e,.fin 0 [.tmp 8]] [2,3,4,5,9,10] Z5d ⟨[(2,I cc),(3,I i),(4,.ptr 0 0),(5,.ptr 1 0),(9,.own 2),(10,I k)],[[]],[.box (s.c.map .t),.box (q.c.map .t),.arr 3 1 true (v.map ic)]⟩
def Zr1(s:Zf)(q:Zb)(v:List Int)(want:Zj)(cc i k j:Int):Rs:=EvL C [.blk 2,.blk 1,.seq Zbi3,.loop [2,3,4,5,9,10] Z5d,.blk 0,.seq Z5e,.fin 0 [.tmp 8]] [2,3,4,5,9,10,11,12] Zbi2 ⟨[(2,I cc),(3,I i),(4,.ptr 0 0),(5,.ptr 1 0),(9,.own 2),(10,I k),(11,.ptr 3 0),(12,I j)],[[]],[.box (s.c.map .t),.box (q.c.map .t),.arr 3 1 true (v.map ic),.box (want.c.map .t)]⟩
def Zr2:RawF (rawF 189 Tryz.f189):={ m:=_ }
def Zbi4:MCode:=cut0 Zr2 9
def Zbyi:MCode:=cut0 Zr2 53
def Zbi5:MCode:=cut1 Zr2 32 21 Zbyi
def Zbi6:MCode:=cut0 Zr2 54
def Zbi7:MCode:=cut2 Zr2 19 13 Zbi5 35 Zbi6
def Zbyj:MFun:=Zo Zr2 9 Zbi4 19 Zbi7
def Zfu(x:List Int)(a:Zf)(a1:Zb)(a2:Int):Rs:=C 189 [.agg (a.c.map .t),.agg (a1.c.map .t),I a2,.own 0] [.arr 3 1 true (x.map ic)]
def Zyi(cc:List Int)(s:Zf)(q:Zb)(cd cl i:Int):Rs:=EvL C [.blk 0,.seq Zbi7,.fin 1 [.tmp 8]] [2,3,4,5,9,10] Zbi4 ⟨[(2,I cd),(3,.own 0),(4,.ptr 1 0),(5,.ptr 2 0),(9,I cl),(10,I i)],[[(0,.own 0)]],[.arr 3 1 true (cc.map ic),.box (s.c.map .t),.box (q.c.map .t)]⟩
def Zeu(cc:List Int)(s:Zf)(q:Zb)(cd cl i:Int):Rs:=EvL C [.blk 2,.seq Zbi6,.fin 1 [.tmp 8]] [2,3,4,5,9,11] Zbi5 ⟨[(2,I cd),(3,.own 0),(4,.ptr 1 0),(5,.ptr 2 0),(9,I cl),(11,I i)],[[(0,.own 0)]],[.arr 3 1 true (cc.map ic),.box (s.c.map .t),.box (q.c.map .t)]⟩
def Zbyk:MFun:=mkF (rawF 140 Tryz.f140)
def Zyj(a:Zf)(a1:Zb)(a2 a3:Int):Rs:=C 140 [.agg (a.c.map .t),.agg (a1.c.map .t),I a2,I a3] []
def Z5f:RawF (rawF 97 Tryz.f97):={ m:=_ }
def Zbyl:MCode:=cut0 Z5f 30
def Zbi8:MCode:=cut1 Z5f 17 13 Zbyl
def Zbi9:MCode:=cut0 Z5f 31
def Zbym:MFun:=Zo Z5f 17 Zbi8 31 Zbi9
def Z5g(a:Zf)(a1:Zb)(a2:Int):Rs:=C 97 [.agg (a.c.map .t),.agg (a1.c.map .t),I a2] []
def Zr3(s:Zf)(q:Zb)(cc n i:Int):Rs:=EvL C [.blk 0,.seq Zbi9,.fin 0 [.tmp 6]] [2,3,4,7,8] Zbi8 ⟨[(2,I cc),(3,.ptr 0 0),(4,.ptr 1 0),(7,I n),(8,I i)],[[]],[.box (s.c.map .t),.box (q.c.map .t)]⟩
def Z5h:RawF (rawF 57 Tryz.f57):={ m:=_ }
def Zbyn:MCode:=cut0 Z5h 33
def Zbja:MCode:=cut1 Z5h 17 16 Zbyn
def Zbjb:MCode:=cut0 Z5h 35
def Zbyo:MFun:=Zo Z5h 17 Zbja 35 Zbjb
def Z5i(a:Zf)(a1:Zb):Rs:=C 57 [.agg (a.c.map .t),.agg (a1.c.map .t)] []
def Zr4(s:Zf)(q:Zb)(cc:List Int)(m:Int):Rs:=EvL C [.blk 0,.seq Zbjb,.fin 0 [.tmp 4]] [2,3,5,6] Zbja ⟨[(2,.ptr 0 0),(3,.ptr 1 0),(5,.own 2),(6,I m)],[[]],[.box (s.c.map .t),.box (q.c.map .t),.arr 3 1 true (cc.map ic)]⟩
def Zbjc:RawF (rawF 98 Tryz.f98):={ m:=_ }
def Zbjd:MCode:=cut0 Zbjc 17
def Zbje:MCode:=cut0 Zbjc 27
def Zbyp:MFun:=Zo Zbjc 17 Zbjd 27 Zbje
def Z5j(a:Int):Rs:=C 98 [I a] []
def Zr5(k n i:Int):Rs:=EvL C [.blk 0,.seq Zbje,.fin 0 [.tmp 2]] [0,3,4] Zbjd ⟨[(0,I k),(3,I n),(4,I i)],[[]],[]⟩
def Zbjf:RawF (rawF 58 Tryz.f58):={ m:=_ }
def Zbjg:MCode:=cut0 Zbjf 15
def Zbjh:MCode:=cut0 Zbjf 31
def Zbyq:MFun:=Zo Zbjf 15 Zbjg 31 Zbjh
def Zny(a:Int):Rs:=C 58 [I a] []
def Z5k(n k:Int):Rs:=EvL C [.blk 0,.seq Zbjh,.fin 0 [.tmp 2]] [0,3] Zbjg ⟨[(0,I n),(3,I k)],[[]],[]⟩
def Zbji:RawF (rawF 24 Tryz.f24):={ m:=_ }
def Z5l:MCode:=cut0 Zbji 21
def Z5m:MCode:=cut0 Zbji 33
def Zbyr:MFun:=Zo Zbji 21 Z5l 33 Z5m
def Z5n(a:Zf)(a1:Zb):Rs:=C 24 [.agg (a.c.map .t),.agg (a1.c.map .t)] []
def Z5o(cc c:List Int)(m:Int):Rs:=EvL C [.blk 0,.seq Z5m,.fin 0 [.cell 4 (some 2),.tmp 5]] [4,6,7,8,9] Z5l ⟨[(4,.ptr 0 0),(6,.own 1),(7,.own 2),(8,.ptr 3 0),(9,I m)],[[]],[.box [.t .nil,.t .nil],.arr 3 1 true (cc.map ic),.arr 3 1 true (c.map ic),.box [.t .nil,.t .nil]]⟩
def Zyk(cc c x x1:List Int)(m:Int):Rs:=EvL C [.blk 0,.seq Z5m,.fin 0 [.cell 4 (some 2),.tmp 5]] [4,6,7,8,9] Z5l ⟨[(4,.ptr 0 0),(6,.own 1),(7,.own 2),(8,.ptr 3 0),(9,I m)],[[]],[.box [.t .nil,.t .nil],.arr 3 1 true (cc.map ic),.arr 3 1 true (c.map ic),.box [.own 4,.own 5],.arr 3 1 true (x.map ic),.arr 3 1 true (x1.map ic)]⟩
end
end Go.Proofs.YtnnjbejcffjgfaaGreat
