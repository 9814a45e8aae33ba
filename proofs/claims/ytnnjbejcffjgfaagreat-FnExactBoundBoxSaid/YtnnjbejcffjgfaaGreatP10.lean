/-
  Parts of the proofs for this seat: D3.
-/
import Derived.Test.YtnnjbejcffjgfaaGreatP7
set_option linter.unusedSectionVars false
set_option linter.unusedSimpArgs false
set_option linter.unusedVariables false
set_option maxRecDepth 100000
set_option maxHeartbeats 4000000
set_option cbv.maxSteps 9999999
namespace Go.Proofs.YtnnjbejcffjgfaaGreat
open Go.AM
noncomputable section
def Zkp:RawF (rawF 238 Tryz.f238):={ m:=_ }
def Z31:MCode:=cut0 Zkp 19
def Z32:MCode:=cut0 Zkp 51
def Z33:MCode:=cut0 Zkp 61
def Z34:MCode:=cut0 Zkp 66
def Znj:MCode:=cut3 Zkp 36 15 Z32 25 Z33 30 Z34
def Znk:MCode:=cut0 Zkp 67
def Z35:MCode:=cut2 Zkp 31 5 Znj 36 Znk
def Zbvz:MFun:=Zn Zkp 19 Z31 31 Z35
def Zw8(a:Program):Rs:=C 238 [.agg (a.c.map .t)] []
def Zbgy(p:Program)(cd cc:Za)(n k:Int):Rs:=EvL C [.blk 0,.seq Z35,.fin 0 [.cellO 2 (some 7) [some (3,1),some (3,1),some (179,1),some (149,2),some (149,2),none,none],.tmpO 3 [none]]] [1,2,4,5,6] Z31 ⟨[(1,.ptr 0 0),(2,.ptr 1 0),(4,I n),(5,.ptr 2 0),(6,I k)],[[]],[.box (p.c.map .t),.box [.t .nil,.t .nil,.t .nil,.t .nil,.t .nil,I cd.Num,I cd.Den],.box [.t .nil,.t .nil,.t .nil,.t .nil,.t .nil,I cc.Num,I cc.Den]]⟩
def Zw9(p:Program)(cd cc:Za)(x:List Int)(x1:List Za)(n k:Int):Rs:=EvL C [.blk 0,.seq Z35,.fin 0 [.cellO 2 (some 7) [some (3,1),some (3,1),some (179,1),some (149,2),some (149,2),none,none],.tmpO 3 [none]]] [1,2,4,5,6] Z31 ⟨[(1,.ptr 0 0),(2,.ptr 1 0),(4,I n),(5,.ptr 2 0),(6,I k)],[[]],[.box (p.c.map .t),.box [.t .nil,.t .nil,.t .nil,.t .nil,.t .nil,I cd.Num,I cd.Den],.box [.t .nil,.own 3,.t .nil,.t .nil,.own 4,I cc.Num,I cc.Den],.arr 3 1 true (x.map ic),.arr 149 2 true (x1.map Za.c)]⟩
def Zbv0(p:Program)(cd cc:Za)(n i:Int):Rs:=EvL C [.blk 2,.seq Znk,.fin 0 [.cellO 2 (some 7) [some (3,1),some (3,1),some (179,1),some (149,2),some (149,2),none,none],.tmpO 3 [none]]] [1,2,4,5,7] Znj ⟨[(1,.ptr 0 0),(2,.ptr 1 0),(4,I n),(5,.ptr 2 0),(7,I i)],[[]],[.box (p.c.map .t),.box [.t .nil,.t .nil,.t .nil,.t .nil,.t .nil,I cd.Num,I cd.Den],.box [.t .nil,.t .nil,.t .nil,.t .nil,.t .nil,I cc.Num,I cc.Den]]⟩
def Zbgz(p:Program)(cd cc:Za)(x:List Int)(x1:List Za)(n i:Int):Rs:=EvL C [.blk 2,.seq Znk,.fin 0 [.cellO 2 (some 7) [some (3,1),some (3,1),some (179,1),some (149,2),some (149,2),none,none],.tmpO 3 [none]]] [1,2,4,5,7] Znj ⟨[(1,.ptr 0 0),(2,.ptr 1 0),(4,I n),(5,.ptr 2 0),(7,I i)],[[]],[.box (p.c.map .t),.box [.t .nil,.t .nil,.t .nil,.t .nil,.t .nil,I cd.Num,I cd.Den],.box [.t .nil,.own 3,.t .nil,.t .nil,.own 4,I cc.Num,I cc.Den],.arr 3 1 true (x.map ic),.arr 149 2 true (x1.map Za.c)]⟩
def Zxa(p:Program)(cd cc:Za)(x:List Int)(x1 cl:List Za)(n i k:Int):Rs:=EvL C [.blk 4,.seq Z33,.blk 3,.seq Z34,.loop [1,2,4,5,7] Znj,.blk 2,.seq Znk,.fin 0 [.cellO 2 (some 7) [some (3,1),some (3,1),some (179,1),some (149,2),some (149,2),none,none],.tmpO 3 [none]]] [1,2,4,5,7,8,9] Z32 ⟨[(1,.ptr 0 0),(2,.ptr 1 0),(4,I n),(5,.ptr 2 0),(7,I i),(8,.own 5),(9,I k)],[[]],[.box (p.c.map .t),.box [.t .nil,.t .nil,.t .nil,.t .nil,.t .nil,I cd.Num,I cd.Den],.box [.t .nil,.own 3,.t .nil,.t .nil,.own 4,I cc.Num,I cc.Den],.arr 3 1 true (x.map ic),.arr 149 2 true (x1.map Za.c),.arr 149 2 true (cl.map Za.c)]⟩
def Znl(p:Program)(cd cc:Za)(x x1:List Int)(x2:List (List Za))(x3 x4:List Za)(n i:Int):Rs:=EvL C [.blk 2,.seq Znk,.fin 0 [.cellO 2 (some 7) [some (3,1),some (3,1),some (179,1),some (149,2),some (149,2),none,none],.tmpO 3 [none]]] [1,2,4,5,7] Znj ⟨[(1,.ptr 0 0),(2,.ptr 1 0),(4,I n),(5,.ptr 2 0),(7,I i)],[[]],[.box (p.c.map .t),.box [.t .nil,.t .nil,.t .nil,.t .nil,.t .nil,I cd.Num,I cd.Den],.box [.own 3,.own 4,.own 5,.own 6,.own 7,I cc.Num,I cc.Den],.arr 3 1 true (x.map ic),.arr 3 1 true (x1.map ic),.arr 179 1 true (x2.map (lc 2 Za.c)),.arr 149 2 true (x3.map Za.c),.arr 149 2 true (x4.map Za.c)]⟩
def Zxb(p:Program)(cd cc:Za)(x x1:List Int)(x2:List (List Za))(x3 x4 cl:List Za)(n i k:Int):Rs:=EvL C [.blk 4,.seq Z33,.blk 3,.seq Z34,.loop [1,2,4,5,7] Znj,.blk 2,.seq Znk,.fin 0 [.cellO 2 (some 7) [some (3,1),some (3,1),some (179,1),some (149,2),some (149,2),none,none],.tmpO 3 [none]]] [1,2,4,5,7,8,9] Z32 ⟨[(1,.ptr 0 0),(2,.ptr 1 0),(4,I n),(5,.ptr 2 0),(7,I i),(8,.own 8),(9,I k)],[[]],[.box (p.c.map .t),.box [.t .nil,.t .nil,.t .nil,.t .nil,.t .nil,I cd.Num,I cd.Den],.box [.own 3,.own 4,.own 5,.own 6,.own 7,I cc.Num,I cc.Den],.arr 3 1 true (x.map ic),.arr 3 1 true (x1.map ic),.arr 179 1 true (x2.map (lc 2 Za.c)),.arr 149 2 true (x3.map Za.c),.arr 149 2 true (x4.map Za.c),.arr 149 2 true (cl.map Za.c)]⟩
def Zbv1:MFun:=mkF (rawF 201 Tryz.f201)
def Zkq(a:Int):Rs:=C 201 [I a] []
def Zbg0:RawF (rawF 200 Tryz.f200):={ m:=_ }
def Zbg1:MCode:=cut0 Zbg0 5
def Zbg2:MCode:=cut0 Zbg0 17
def Zbv2:MFun:=Zn Zbg0 5 Zbg1 17 Zbg2
def Zkr(a a1:Int):Rs:=C 200 [I a,I a1] []
def Zxc(a b:Int):Rs:=EvL C [.blk 0,.seq Zbg2,.fin 0 [.tmp 4]] [0,1] Zbg1 ⟨[(0,I a),(1,I b)],[[]],[]⟩
def Zbv3:MFun:=mkF (rawF 154 Tryz.f154)
def Zcn(a:Za):Rs:=C 154 [.agg (a.c.map .t)] []
def Zbg3:RawF (rawF 297 Tryz.f297):={ m:=_ }
def Zbg4:MCode:=cut0 Zbg3 7
def Zbg5:MCode:=cut0 Zbg3 23
def Zbv4:MFun:=Zn Zbg3 7 Zbg4 23 Zbg5
def Zrh(a:List Za):Rs:=C 297 [L 2 (a.map Za.c)] []
def Zxd(l:List Za)(i:Int):Rs:=EvL C [.blk 0,.seq Zbg5,.fin 0 [.tmp 2]] [0,3] Zbg4 ⟨[(0,L 2 (l.map Za.c)),(3,I i)],[[]],[]⟩
def Zxe:RawF (rawF 270 Tryz.f270):={ m:=_ }
def Zbg6:MCode:=cut0 Zxe 21
def Zbg7:MCode:=cut0 Zxe 42
def Zbg8:MCode:=cut0 Zxe 58
def Zbg9:MCode:=cut2 Zxe 37 5 Zbg7 21 Zbg8
def Zbv5:MFun:=Zn Zxe 21 Zbg6 37 Zbg9
def Znm(a:Zm):Rs:=C 270 [.agg (a.c.map .t)] []
def Zxf(d:Zm)(all:List Int)(m n i:Int):Rs:=EvL C [.blk 0,.seq Zbg9,.fin 0 [.tmp 2]] [1,3,4,5,6] Zbg6 ⟨[(1,.ptr 0 0),(3,I m),(4,I n),(5,.own 1),(6,I i)],[[]],[.box (d.c.map .t),.arr 3 1 true (all.map ic)]⟩
def Zxg(d:Zm)(m n i:Int):Rs:=EvL C [.blk 2,.seq Zbg8,.fin 0 [.tmp 2]] [1,3,4,7] Zbg7 ⟨[(1,.ptr 0 0),(3,I m),(4,I n),(7,I i)],[[]],[.box (d.c.map .t)]⟩
def Z36:RawF (rawF 239 Tryz.f239):={ m:=_ }
def Zbv6:MCode:=cut0 Z36 30
def Zbha:MCode:=cut1 Z36 17 13 Zbv6
def Zbhb:MCode:=cut0 Z36 31
def Zbv7:MFun:=Zn Z36 17 Zbha 31 Zbhb
def Zxh(a:Zm):Rs:=C 239 [.agg (a.c.map .t)] []
def Zks(d:Zm)(cc j:Int):Rs:=EvL C [.blk 0,.seq Zbhb,.fin 0 [.tmp 2]] [1,3,4] Zbha ⟨[(1,.ptr 0 0),(3,I cc),(4,I j)],[[]],[.box (d.c.map .t)]⟩
def Zbv8:RawF (rawF 298 Tryz.f298):={ m:=_ }
def Zbv9:MCode:=cut0 Zbv8 18
def Zbwa:MFun:=Zbb Zbv8 18 Zbv9
def Zkt(a a1:Int):Rs:=C 298 [I a,I a1] []
def Zbwb:MFun:=mkF (rawF 271 Tryz.f271)
def Zku(a a1:Za):Rs:=C 271 [.agg (a.c.map .t),.agg (a1.c.map .t)] []
def Zbwc:MFun:=mkF (rawF 272 Tryz.f272)
def Z37(a a1:Za):Rs:=C 272 [.agg (a.c.map .t),.agg (a1.c.map .t)] []
def Z38:RawF (rawF 241 Tryz.f241):={ m:=_ }
def Zbwd:MCode:=cut0 Z38 52
def Zbhc:MCode:=cut1 Z38 19 33 Zbwd
def Zbhd:MCode:=cut0 Z38 53
def Zbwe:MFun:=Zn Z38 19 Zbhc 53 Zbhd
def Zxi(a:Zm)(a1:Int):Rs:=C 241 [.agg (a.c.map .t),I a1] []
def Zhv(d:Zm)(least:Za)(j cc i:Int):Rs:=EvL C [.blk 0,.seq Zbhd,.fin 0 [.tmp 4]] [1,2,5,6,7] Zbhc ⟨[(1,I j),(2,.ptr 0 0),(5,I cc),(6,.ptr 1 0),(7,I i)],[[]],[.box (d.c.map .t),.box (least.c.map .t)]⟩
def Zbwf:MFun:=mkF (rawF 274 Tryz.f274)
def Zix(a a1:Za):Rs:=C 274 [.agg (a.c.map .t),.agg (a1.c.map .t)] []
def Zbwg:MFun:=mkF (rawF 299 Tryz.f299)
def Z39(a a1:Za):Rs:=C 299 [.agg (a.c.map .t),.agg (a1.c.map .t)] []
def Zbwh:MFun:=mkF (rawF 273 Tryz.f273)
def Zco(a a1 a2:Za):Rs:=C 273 [.agg (a.c.map .t),.agg (a1.c.map .t),.agg (a2.c.map .t)] []
def Zbwi:MFun:=mkF (rawF 275 Tryz.f275)
def Zkv(a a1:Za):Rs:=C 275 [.agg (a.c.map .t),.agg (a1.c.map .t)] []
def Zft:RawF (rawF 242 Tryz.f242):={ m:=_ }
def Zbwj:MCode:=cut0 Zft 37
def Zbhe:MCode:=cut1 Zft 21 16 Zbwj
def Zbwk:MCode:=cut0 Zft 97
def Zxj:MCode:=cut1 Zft 81 16 Zbwk
def Zxk:MCode:=cut0 Zft 103
def Zxl:MCode:=cut0 Zft 110
def Zkw:MCode:=cut3 Zft 56 25 Zxj 47 Zxk 54 Zxl
def Zbwl:MCode:=cut0 Zft 132
def Zkx:MCode:=cut1 Zft 116 16 Zbwl
def Zgj:MCode:=cut0 Zft 138
def Zky:MCode:=cut2 Zft 111 5 Zkx 27 Zgj
def Zbhf:MCode:=cut2 Zft 41 15 Zkw 70 Zky
def Zbwm:MFun:=Zn Zft 21 Zbhe 41 Zbhf
def Zri(a:Zm)(a1 a2:Int):Rs:=C 242 [.agg (a.c.map .t),I a1,I a2] []
def Zkz(d:Zm)(cc a:Za)(cd:List Za)(i j:Int)(cl:Bool)(k:Int):Rs:=EvL C [.blk 0,.seq Zbhf,.fin 0 [.cellO 6 (some 7) [some (3,1),some (3,1),some (179,1),some (149,2),some (149,2),none,none],.tmpO 7 [none]]] [1,2,3,6,8,9,10,11] Zbhe ⟨[(1,I i),(2,I j),(3,.ptr 0 0),(6,.ptr 1 0),(8,Bo cl),(9,.ptr 2 0),(10,.own 3),(11,I k)],[[]],[.box (d.c.map .t),.box [.t .nil,.t .nil,.t .nil,.t .nil,.t .nil,I cc.Num,I cc.Den],.box (a.c.map .t),.arr 149 2 true (cd.map Za.c)]⟩
def Zxm(d:Zm)(cd:Za)(cl:List Za)(limit cc:Za)(x x1:List Int)(i j:Int)(cn:Bool)(co:Int):Rs:=EvL C [.blk 2,.seq Zky,.fin 0 [.cellO 6 (some 7) [some (3,1),some (3,1),some (179,1),some (149,2),some (149,2),none,none],.tmpO 7 [none]]] [1,2,3,6,8,10,14,16,17] Zkw ⟨[(1,I i),(2,I j),(3,.ptr 0 0),(6,.ptr 1 0),(8,Bo cn),(10,.own 2),(14,.ptr 3 0),(16,.ptr 4 0),(17,I co)],[[]],[.box (d.c.map .t),.box [.t .nil,.t .nil,.t .nil,.t .nil,.t .nil,I cd.Num,I cd.Den],.arr 149 2 true (cl.map Za.c),.box (limit.c.map .t),.box [.own 5,.own 6,.t .nil,.t .nil,.t .nil,I cc.Num,I cc.Den],.arr 3 1 true (x.map ic),.arr 3 1 true (x1.map ic)]⟩
def Ziy(d:Zm)(cd limit cc:Za)(x x1:List Int)(fr:Bool)(x2:List (List Za))(x3:List Za)(i j:Int)(cn:Bool)(cl:List Za)(co:Int):Rs:=EvL C [.blk 2,.seq Zky,.fin 0 [.cellO 6 (some 7) [some (3,1),some (3,1),some (179,1),some (149,2),some (149,2),none,none],.tmpO 7 [none]]] [1,2,3,6,8,10,14,16,17] Zkw ⟨[(1,I i),(2,I j),(3,.ptr 0 0),(6,.ptr 1 0),(8,Bo cn),(10,L 2 (cl.map Za.c)),(14,.ptr 2 0),(16,.ptr 3 0),(17,I co)],[[]],[.box (d.c.map .t),.box [.t .nil,.t .nil,.t .nil,.t .nil,.t .nil,I cd.Num,I cd.Den],.box (limit.c.map .t),.box [.own 4,.own 5,.own 6,.own 7,.t .nil,I cc.Num,I cc.Den],.arr 3 1 true (x.map ic),.arr 3 1 true (x1.map ic),.arr 179 1 fr (x2.map (lc 2 Za.c)),.arr 149 2 true (x3.map Za.c)]⟩
def Zk0(d:Zm)(cd:Za)(cl:List Za)(limit cc:Za)(x x1:List Int)(cp:List Za)(i j:Int)(cn:Bool)(co k:Int):Rs:=EvL C [.blk 4,.seq Zxk,.blk 3,.seq Zxl,.loop [1,2,3,6,8,10,14,16,17] Zkw,.blk 2,.seq Zky,.fin 0 [.cellO 6 (some 7) [some (3,1),some (3,1),some (179,1),some (149,2),some (149,2),none,none],.tmpO 7 [none]]] [1,2,3,6,8,10,14,16,17,18,19] Zxj ⟨[(1,I i),(2,I j),(3,.ptr 0 0),(6,.ptr 1 0),(8,Bo cn),(10,.own 2),(14,.ptr 3 0),(16,.ptr 4 0),(17,I co),(18,.own 7),(19,I k)],[[]],[.box (d.c.map .t),.box [.t .nil,.t .nil,.t .nil,.t .nil,.t .nil,I cd.Num,I cd.Den],.arr 149 2 true (cl.map Za.c),.box (limit.c.map .t),.box [.own 5,.own 6,.t .nil,.t .nil,.t .nil,I cc.Num,I cc.Den],.arr 3 1 true (x.map ic),.arr 3 1 true (x1.map ic),.arr 149 2 true (cp.map Za.c)]⟩
def Zxn(d:Zm)(cd:Za)(cl:List Za)(limit cc:Za)(x x1:List Int)(j:Int)(cn:Bool)(k:Int):Rs:=EvL C [.blk 6,.seq Zgj,.fin 0 [.cellO 6 (some 7) [some (3,1),some (3,1),some (179,1),some (149,2),some (149,2),none,none],.tmpO 7 [none]]] [2,3,6,8,10,14,16,25] Zkx ⟨[(2,I j),(3,.ptr 0 0),(6,.ptr 1 0),(8,Bo cn),(10,.own 2),(14,.ptr 3 0),(16,.ptr 4 0),(25,I k)],[[]],[.box (d.c.map .t),.box [.t .nil,.t .nil,.t .nil,.t .nil,.t .nil,I cd.Num,I cd.Den],.arr 149 2 true (cl.map Za.c),.box (limit.c.map .t),.box [.own 5,.own 6,.t .nil,.t .nil,.t .nil,I cc.Num,I cc.Den],.arr 3 1 true (x.map ic),.arr 3 1 true (x1.map ic)]⟩
def Zk1(d:Zm)(cd limit cc:Za)(x x1:List Int)(fr:Bool)(x2:List (List Za))(x3 cp:List Za)(i j:Int)(cn:Bool)(cl:List Za)(co k:Int):Rs:=EvL C [.blk 4,.seq Zxk,.blk 3,.seq Zxl,.loop [1,2,3,6,8,10,14,16,17] Zkw,.blk 2,.seq Zky,.fin 0 [.cellO 6 (some 7) [some (3,1),some (3,1),some (179,1),some (149,2),some (149,2),none,none],.tmpO 7 [none]]] [1,2,3,6,8,10,14,16,17,18,19] Zxj ⟨[(1,I i),(2,I j),(3,.ptr 0 0),(6,.ptr 1 0),(8,Bo cn),(10,L 2 (cl.map Za.c)),(14,.ptr 2 0),(16,.ptr 3 0),(17,I co),(18,.own 8),(19,I k)],[[]],[.box (d.c.map .t),.box [.t .nil,.t .nil,.t .nil,.t .nil,.t .nil,I cd.Num,I cd.Den],.box (limit.c.map .t),.box [.own 4,.own 5,.own 6,.own 7,.t .nil,I cc.Num,I cc.Den],.arr 3 1 true (x.map ic),.arr 3 1 true (x1.map ic),.arr 179 1 fr (x2.map (lc 2 Za.c)),.arr 149 2 true (x3.map Za.c),.arr 149 2 true (cp.map Za.c)]⟩
def Zrj(d:Zm)(cd limit cc:Za)(x x1:List Int)(fr:Bool)(x2:List (List Za))(x3:List Za)(j:Int)(cn:Bool)(cl:List Za)(k:Int):Rs:=EvL C [.blk 6,.seq Zgj,.fin 0 [.cellO 6 (some 7) [some (3,1),some (3,1),some (179,1),some (149,2),some (149,2),none,none],.tmpO 7 [none]]] [2,3,6,8,10,14,16,25] Zkx ⟨[(2,I j),(3,.ptr 0 0),(6,.ptr 1 0),(8,Bo cn),(10,L 2 (cl.map Za.c)),(14,.ptr 2 0),(16,.ptr 3 0),(25,I k)],[[]],[.box (d.c.map .t),.box [.t .nil,.t .nil,.t .nil,.t .nil,.t .nil,I cd.Num,I cd.Den],.box (limit.c.map .t),.box [.own 4,.own 5,.own 6,.own 7,.t .nil,I cc.Num,I cc.Den],.arr 3 1 true (x.map ic),.arr 3 1 true (x1.map ic),.arr 179 1 fr (x2.map (lc 2 Za.c)),.arr 149 2 true (x3.map Za.c)]⟩
def Ziz(d:Zm)(cd:Za)(cl:List Za)(limit cc:Za)(x x1:List Int)(fr:Bool)(x2:List (List Za))(x3:List Za)(i j:Int)(cn:Bool)(co:Int):Rs:=EvL C [.blk 2,.seq Zky,.fin 0 [.cellO 6 (some 7) [some (3,1),some (3,1),some (179,1),some (149,2),some (149,2),none,none],.tmpO 7 [none]]] [1,2,3,6,8,10,14,16,17] Zkw ⟨[(1,I i),(2,I j),(3,.ptr 0 0),(6,.ptr 1 0),(8,Bo cn),(10,.own 2),(14,.ptr 3 0),(16,.ptr 4 0),(17,I co)],[[]],[.box (d.c.map .t),.box [.t .nil,.t .nil,.t .nil,.t .nil,.t .nil,I cd.Num,I cd.Den],.arr 149 2 true (cl.map Za.c),.box (limit.c.map .t),.box [.own 5,.own 6,.own 7,.own 8,.t .nil,I cc.Num,I cc.Den],.arr 3 1 true (x.map ic),.arr 3 1 true (x1.map ic),.arr 179 1 fr (x2.map (lc 2 Za.c)),.arr 149 2 true (x3.map Za.c)]⟩
def Zbhg(d:Zm)(cd:Za)(cl:List Za)(limit cc:Za)(x x1:List Int)(x2:List Za)(j:Int)(cn:Bool)(k:Int):Rs:=EvL C [.blk 6,.seq Zgj,.fin 0 [.cellO 6 (some 7) [some (3,1),some (3,1),some (179,1),some (149,2),some (149,2),none,none],.tmpO 7 [none]]] [2,3,6,8,10,14,16,25] Zkx ⟨[(2,I j),(3,.ptr 0 0),(6,.ptr 1 0),(8,Bo cn),(10,.own 2),(14,.ptr 3 0),(16,.ptr 4 0),(25,I k)],[[]],[.box (d.c.map .t),.box [.t .nil,.t .nil,.t .nil,.t .nil,.t .nil,I cd.Num,I cd.Den],.arr 149 2 true (cl.map Za.c),.box (limit.c.map .t),.box [.own 5,.own 6,.t .nil,.t .nil,.own 7,I cc.Num,I cc.Den],.arr 3 1 true (x.map ic),.arr 3 1 true (x1.map ic),.arr 149 2 true (x2.map Za.c)]⟩
def Z4a(d:Zm)(cd:Za)(cl:List Za)(limit cc:Za)(x x1:List Int)(j:Int)(cn:Bool)(k:Int)(x2:Bool):Rs:=Ev C [.fin 0 [.cellO 6 (some 7) [some (3,1),some (3,1),some (179,1),some (149,2),some (149,2),none,none],.tmpO 7 [none]]] Zgj ⟨[(2,I j),(3,.ptr 0 0),(6,.ptr 1 0),(8,Bo cn),(10,.own 2),(14,.ptr 3 0),(16,.ptr 4 0),(25,I k),(265,Bo x2)],[[]],[.box (d.c.map .t),.box [.t .nil,.t .nil,.t .nil,.t .nil,.t .nil,I cd.Num,I cd.Den],.arr 149 2 true (cl.map Za.c),.box (limit.c.map .t),.box [.own 5,.own 6,.t .nil,.t .nil,.t .nil,I cc.Num,I cc.Den],.arr 3 1 true (x.map ic),.arr 3 1 true (x1.map ic)]⟩
def Znn(d:Zm)(cd limit cc:Za)(x x1:List Int)(fr:Bool)(x2:List (List Za))(x3 x4:List Za)(j:Int)(cn:Bool)(cl:List Za)(k:Int):Rs:=EvL C [.blk 6,.seq Zgj,.fin 0 [.cellO 6 (some 7) [some (3,1),some (3,1),some (179,1),some (149,2),some (149,2),none,none],.tmpO 7 [none]]] [2,3,6,8,10,14,16,25] Zkx ⟨[(2,I j),(3,.ptr 0 0),(6,.ptr 1 0),(8,Bo cn),(10,L 2 (cl.map Za.c)),(14,.ptr 2 0),(16,.ptr 3 0),(25,I k)],[[]],[.box (d.c.map .t),.box [.t .nil,.t .nil,.t .nil,.t .nil,.t .nil,I cd.Num,I cd.Den],.box (limit.c.map .t),.box [.own 4,.own 5,.own 6,.own 7,.own 8,I cc.Num,I cc.Den],.arr 3 1 true (x.map ic),.arr 3 1 true (x1.map ic),.arr 179 1 fr (x2.map (lc 2 Za.c)),.arr 149 2 true (x3.map Za.c),.arr 149 2 true (x4.map Za.c)]⟩
def Z4b(d:Zm)(cd limit cc:Za)(x x1:List Int)(fr:Bool)(x2:List (List Za))(x3:List Za)(j:Int)(cn:Bool)(cl:List Za)(k:Int)(x4:Bool):Rs:=Ev C [.fin 0 [.cellO 6 (some 7) [some (3,1),some (3,1),some (179,1),some (149,2),some (149,2),none,none],.tmpO 7 [none]]] Zgj ⟨[(2,I j),(3,.ptr 0 0),(6,.ptr 1 0),(8,Bo cn),(10,L 2 (cl.map Za.c)),(14,.ptr 2 0),(16,.ptr 3 0),(25,I k),(265,Bo x4)],[[]],[.box (d.c.map .t),.box [.t .nil,.t .nil,.t .nil,.t .nil,.t .nil,I cd.Num,I cd.Den],.box (limit.c.map .t),.box [.own 4,.own 5,.own 6,.own 7,.t .nil,I cc.Num,I cc.Den],.arr 3 1 true (x.map ic),.arr 3 1 true (x1.map ic),.arr 179 1 fr (x2.map (lc 2 Za.c)),.arr 149 2 true (x3.map Za.c)]⟩
def Zk2(d:Zm)(cd:Za)(cl:List Za)(limit cc:Za)(x x1:List Int)(fr:Bool)(x2:List (List Za))(x3 cp:List Za)(i j:Int)(cn:Bool)(co k:Int):Rs:=EvL C [.blk 4,.seq Zxk,.blk 3,.seq Zxl,.loop [1,2,3,6,8,10,14,16,17] Zkw,.blk 2,.seq Zky,.fin 0 [.cellO 6 (some 7) [some (3,1),some (3,1),some (179,1),some (149,2),some (149,2),none,none],.tmpO 7 [none]]] [1,2,3,6,8,10,14,16,17,18,19] Zxj ⟨[(1,I i),(2,I j),(3,.ptr 0 0),(6,.ptr 1 0),(8,Bo cn),(10,.own 2),(14,.ptr 3 0),(16,.ptr 4 0),(17,I co),(18,.own 9),(19,I k)],[[]],[.box (d.c.map .t),.box [.t .nil,.t .nil,.t .nil,.t .nil,.t .nil,I cd.Num,I cd.Den],.arr 149 2 true (cl.map Za.c),.box (limit.c.map .t),.box [.own 5,.own 6,.own 7,.own 8,.t .nil,I cc.Num,I cc.Den],.arr 3 1 true (x.map ic),.arr 3 1 true (x1.map ic),.arr 179 1 fr (x2.map (lc 2 Za.c)),.arr 149 2 true (x3.map Za.c),.arr 149 2 true (cp.map Za.c)]⟩
def Zxo(d:Zm)(cd:Za)(cl:List Za)(limit cc:Za)(x x1:List Int)(fr:Bool)(x2:List (List Za))(x3:List Za)(j:Int)(cn:Bool)(k:Int):Rs:=EvL C [.blk 6,.seq Zgj,.fin 0 [.cellO 6 (some 7) [some (3,1),some (3,1),some (179,1),some (149,2),some (149,2),none,none],.tmpO 7 [none]]] [2,3,6,8,10,14,16,25] Zkx ⟨[(2,I j),(3,.ptr 0 0),(6,.ptr 1 0),(8,Bo cn),(10,.own 2),(14,.ptr 3 0),(16,.ptr 4 0),(25,I k)],[[]],[.box (d.c.map .t),.box [.t .nil,.t .nil,.t .nil,.t .nil,.t .nil,I cd.Num,I cd.Den],.arr 149 2 true (cl.map Za.c),.box (limit.c.map .t),.box [.own 5,.own 6,.own 7,.own 8,.t .nil,I cc.Num,I cc.Den],.arr 3 1 true (x.map ic),.arr 3 1 true (x1.map ic),.arr 179 1 fr (x2.map (lc 2 Za.c)),.arr 149 2 true (x3.map Za.c)]⟩
def Zrk(d:Zm)(cd limit cc:Za)(x x1:List Int)(fr:Bool)(x2:List (List Za))(x3 x4:List Za)(j:Int)(cn:Bool)(cl:List Za)(k:Int)(x5:Bool):Rs:=Ev C [.fin 0 [.cellO 6 (some 7) [some (3,1),some (3,1),some (179,1),some (149,2),some (149,2),none,none],.tmpO 7 [none]]] Zgj ⟨[(2,I j),(3,.ptr 0 0),(6,.ptr 1 0),(8,Bo cn),(10,L 2 (cl.map Za.c)),(14,.ptr 2 0),(16,.ptr 3 0),(25,I k),(265,Bo x5)],[[]],[.box (d.c.map .t),.box [.t .nil,.t .nil,.t .nil,.t .nil,.t .nil,I cd.Num,I cd.Den],.box (limit.c.map .t),.box [.own 4,.own 5,.own 6,.own 7,.own 8,I cc.Num,I cc.Den],.arr 3 1 true (x.map ic),.arr 3 1 true (x1.map ic),.arr 179 1 fr (x2.map (lc 2 Za.c)),.arr 149 2 true (x3.map Za.c),.arr 149 2 true (x4.map Za.c)]⟩
def Zbhh(d:Zm)(cd:Za)(cl:List Za)(limit cc:Za)(x x1:List Int)(fr:Bool)(x2:List (List Za))(x3 x4:List Za)(j:Int)(cn:Bool)(k:Int):Rs:=EvL C [.blk 6,.seq Zgj,.fin 0 [.cellO 6 (some 7) [some (3,1),some (3,1),some (179,1),some (149,2),some (149,2),none,none],.tmpO 7 [none]]] [2,3,6,8,10,14,16,25] Zkx ⟨[(2,I j),(3,.ptr 0 0),(6,.ptr 1 0),(8,Bo cn),(10,.own 2),(14,.ptr 3 0),(16,.ptr 4 0),(25,I k)],[[]],[.box (d.c.map .t),.box [.t .nil,.t .nil,.t .nil,.t .nil,.t .nil,I cd.Num,I cd.Den],.arr 149 2 true (cl.map Za.c),.box (limit.c.map .t),.box [.own 5,.own 6,.own 7,.own 8,.own 9,I cc.Num,I cc.Den],.arr 3 1 true (x.map ic),.arr 3 1 true (x1.map ic),.arr 179 1 fr (x2.map (lc 2 Za.c)),.arr 149 2 true (x3.map Za.c),.arr 149 2 true (x4.map Za.c)]⟩
def Z4c(d:Zm)(cd:Za)(cl:List Za)(limit cc:Za)(x x1:List Int)(fr:Bool)(x2:List (List Za))(x3:List Za)(j:Int)(cn:Bool)(k:Int)(x4:Bool):Rs:=Ev C [.fin 0 [.cellO 6 (some 7) [some (3,1),some (3,1),some (179,1),some (149,2),some (149,2),none,none],.tmpO 7 [none]]] Zgj ⟨[(2,I j),(3,.ptr 0 0),(6,.ptr 1 0),(8,Bo cn),(10,.own 2),(14,.ptr 3 0),(16,.ptr 4 0),(25,I k),(265,Bo x4)],[[]],[.box (d.c.map .t),.box [.t .nil,.t .nil,.t .nil,.t .nil,.t .nil,I cd.Num,I cd.Den],.arr 149 2 true (cl.map Za.c),.box (limit.c.map .t),.box [.own 5,.own 6,.own 7,.own 8,.t .nil,I cc.Num,I cc.Den],.arr 3 1 true (x.map ic),.arr 3 1 true (x1.map ic),.arr 179 1 fr (x2.map (lc 2 Za.c)),.arr 149 2 true (x3.map Za.c)]⟩
def Zes:RawF (rawF 199 Tryz.f199):={ m:=_ }
def Z4d:MCode:=cut0 Zes 38
def Zxp:MCode:=cut0 Zes 53
def Zbwn:MCode:=cut0 Zes 81
def Z4e:MCode:=cut1 Zes 68 13 Zbwn
def Zbwo:MCode:=cut0 Zes 100
def Zbhi:MCode:=cut1 Zes 87 13 Zbwo
def Zbhj:MCode:=cut0 Zes 101
def Z4f:MCode:=cut2 Zes 82 5 Zbhi 19 Zbhj
def Zxq:MCode:=cut2 Zes 63 5 Z4e 19 Z4f
def Z4g:MCode:=cut2 Zes 48 5 Zxp 15 Zxq
def Zhw:MCode:=cut0 Zes 105
def Zhx:MCode:=cut0 Zes 126
def Zgx:MCode:=cut4 Zes 17 21 Z4d 31 Z4g 88 Zhw 109 Zhx
def Zgy:MCode:=cut0 Zes 127
def Zbwp:MFun:=Zn Zes 17 Zgx 127 Zgy
def Zxr(a:Program):Rs:=C 199 [.agg (a.c.map .t)] []
def Zi0(p:Program)(cc:Za)(d:Zm)(n:Int):Rs:=EvL C [.blk 0,.seq Zgy,.fin 0 [.cellO 2 (some 4) [none,none,some (149,2),some (149,2)],.tmpO 3 [none]]] [1,2,4,6] Zgx ⟨[(1,.ptr 0 0),(2,.ptr 1 0),(4,.ptr 2 0),(6,I n)],[[]],[.box (p.c.map .t),.box [I cc.Num,I cc.Den,.t .nil,.t .nil],.box (d.c.map .t)]⟩
def Z4h(p:Program)(cd:Za)(d:Zm)(cc:Za)(k:Int):Rs:=EvL C [.blk 2,.seq Z4g,.seq Zhw,.blk 1,.seq Zhx,.loop [1,2,4,6] Zgx,.blk 0,.seq Zgy,.fin 0 [.cellO 2 (some 4) [none,none,some (149,2),some (149,2)],.tmpO 3 [none]]] [1,2,4,8,9] Z4d ⟨[(1,.ptr 0 0),(2,.ptr 1 0),(4,.ptr 2 0),(8,.ptr 3 0),(9,I k)],[[]],[.box (p.c.map .t),.box [I cd.Num,I cd.Den,.t .nil,.t .nil],.box (d.c.map .t),.box [I cc.Num,I cc.Den,.t .nil,.t .nil]]⟩
def Zxs(p:Program)(cd:Za)(d:Zm)(cc:Za)(x:List Za)(k:Int):Rs:=EvL C [.blk 2,.seq Z4g,.seq Zhw,.blk 1,.seq Zhx,.loop [1,2,4,6] Zgx,.blk 0,.seq Zgy,.fin 0 [.cellO 2 (some 4) [none,none,some (149,2),some (149,2)],.tmpO 3 [none]]] [1,2,4,8,9] Z4d ⟨[(1,.ptr 0 0),(2,.ptr 1 0),(4,.ptr 2 0),(8,.ptr 3 0),(9,I k)],[[]],[.box (p.c.map .t),.box [I cd.Num,I cd.Den,.t .nil,.t .nil],.box (d.c.map .t),.box [I cc.Num,I cc.Den,.own 4,.t .nil],.arr 149 2 true (x.map Za.c)]⟩
def Zbwq(p:Program)(cd:Za)(d:Zm)(cc:Za)(i:Int):Rs:=EvL C [.blk 4,.seq Zxq,.seq Zhw,.blk 1,.seq Zhx,.loop [1,2,4,6] Zgx,.blk 0,.seq Zgy,.fin 0 [.cellO 2 (some 4) [none,none,some (149,2),some (149,2)],.tmpO 3 [none]]] [1,2,4,8,10] Zxp ⟨[(1,.ptr 0 0),(2,.ptr 1 0),(4,.ptr 2 0),(8,.ptr 3 0),(10,I i)],[[]],[.box (p.c.map .t),.box [I cd.Num,I cd.Den,.t .nil,.t .nil],.box (d.c.map .t),.box [I cc.Num,I cc.Den,.t .nil,.t .nil]]⟩
def Zbhk(p:Program)(cd:Za)(d:Zm)(cc:Za)(x:List Za)(i:Int):Rs:=EvL C [.blk 4,.seq Zxq,.seq Zhw,.blk 1,.seq Zhx,.loop [1,2,4,6] Zgx,.blk 0,.seq Zgy,.fin 0 [.cellO 2 (some 4) [none,none,some (149,2),some (149,2)],.tmpO 3 [none]]] [1,2,4,8,10] Zxp ⟨[(1,.ptr 0 0),(2,.ptr 1 0),(4,.ptr 2 0),(8,.ptr 3 0),(10,I i)],[[]],[.box (p.c.map .t),.box [I cd.Num,I cd.Den,.t .nil,.t .nil],.box (d.c.map .t),.box [I cc.Num,I cc.Den,.own 4,.t .nil],.arr 149 2 true (x.map Za.c)]⟩
def Zxt(p:Program)(cd:Za)(d:Zm)(cc:Za)(x x1:List Za)(i:Int):Rs:=EvL C [.blk 4,.seq Zxq,.seq Zhw,.blk 1,.seq Zhx,.loop [1,2,4,6] Zgx,.blk 0,.seq Zgy,.fin 0 [.cellO 2 (some 4) [none,none,some (149,2),some (149,2)],.tmpO 3 [none]]] [1,2,4,8,10] Zxp ⟨[(1,.ptr 0 0),(2,.ptr 1 0),(4,.ptr 2 0),(8,.ptr 3 0),(10,I i)],[[]],[.box (p.c.map .t),.box [I cd.Num,I cd.Den,.t .nil,.t .nil],.box (d.c.map .t),.box [I cc.Num,I cc.Den,.own 4,.own 5],.arr 149 2 true (x.map Za.c),.arr 149 2 true (x1.map Za.c)]⟩
def Zbwr(p:Program)(cd:Za)(d:Zm)(cc:Za)(x:List Za)(i:Int):Rs:=EvL C [.blk 6,.seq Z4f,.seq Zhw,.blk 1,.seq Zhx,.loop [1,2,4,6] Zgx,.blk 0,.seq Zgy,.fin 0 [.cellO 2 (some 4) [none,none,some (149,2),some (149,2)],.tmpO 3 [none]]] [1,2,4,8,11] Z4e ⟨[(1,.ptr 0 0),(2,.ptr 1 0),(4,.ptr 2 0),(8,.ptr 3 0),(11,I i)],[[]],[.box (p.c.map .t),.box [I cd.Num,I cd.Den,.t .nil,.t .nil],.box (d.c.map .t),.box [I cc.Num,I cc.Den,.own 4,.t .nil],.arr 149 2 true (x.map Za.c)]⟩
def Zrl(p:Program)(cd:Za)(d:Zm)(cc:Za)(x x1:List Za)(i:Int):Rs:=EvL C [.blk 6,.seq Z4f,.seq Zhw,.blk 1,.seq Zhx,.loop [1,2,4,6] Zgx,.blk 0,.seq Zgy,.fin 0 [.cellO 2 (some 4) [none,none,some (149,2),some (149,2)],.tmpO 3 [none]]] [1,2,4,8,11] Z4e ⟨[(1,.ptr 0 0),(2,.ptr 1 0),(4,.ptr 2 0),(8,.ptr 3 0),(11,I i)],[[]],[.box (p.c.map .t),.box [I cd.Num,I cd.Den,.t .nil,.t .nil],.box (d.c.map .t),.box [I cc.Num,I cc.Den,.own 4,.own 5],.arr 149 2 true (x.map Za.c),.arr 149 2 true (x1.map Za.c)]⟩
def Zrm(p:Program)(cd:Za)(d:Zm)(cc:Za)(x x1:List Za)(k:Int):Rs:=EvL C [.blk 8,.seq Zbhj,.seq Zhw,.blk 1,.seq Zhx,.loop [1,2,4,6] Zgx,.blk 0,.seq Zgy,.fin 0 [.cellO 2 (some 4) [none,none,some (149,2),some (149,2)],.tmpO 3 [none]]] [1,2,4,8,12] Zbhi ⟨[(1,.ptr 0 0),(2,.ptr 1 0),(4,.ptr 2 0),(8,.ptr 3 0),(12,I k)],[[]],[.box (p.c.map .t),.box [I cd.Num,I cd.Den,.t .nil,.t .nil],.box (d.c.map .t),.box [I cc.Num,I cc.Den,.own 4,.own 5],.arr 149 2 true (x.map Za.c),.arr 149 2 true (x1.map Za.c)]⟩
def Zbws:MFun:=mkF (rawF 153 Tryz.f153)
def Z4i(a:Zh)(a1:Zc)(a2:Int):Rs:=C 153 [.agg (a.c.map .t),.agg (a1.c.map .t),I a2] []
def Zbwt:MFun:=mkF (rawF 111 Tryz.f111)
def Zxu(a:Zh)(a1:Zc)(a2:Int):Rs:=C 111 [.agg (a.c.map .t),.agg (a1.c.map .t),I a2] []
def Zbwu:RawF (rawF 156 Tryz.f156):={ m:=_ }
def Zbwv:MCode:=cut0 Zbwu 18
def Zbww:MFun:=Zbb Zbwu 18 Zbwv
def Z4j(a:Za):Rs:=C 156 [.agg (a.c.map .t)] []
def Zbwx:MFun:=mkF (rawF 155 Tryz.f155)
def Zbhl(a:Int):Rs:=C 155 [I a] []
def Zbhm:RawF (rawF 157 Tryz.f157):={ m:=_ }
def Zbhn:MCode:=cut0 Zbhm 9
def Zbho:MCode:=cut0 Zbhm 27
def Zbwy:MFun:=Zn Zbhm 9 Zbhn 27 Zbho
def Z4k(a a1 a2:Int):Rs:=C 157 [I a,I a1,I a2] []
def Zxv(n c cc x i:Int):Rs:=EvL C [.blk 0,.seq Zbho,.fin 0 [.tmp 6]] [0,1,2,7,8] Zbhn ⟨[(0,I n),(1,I c),(2,I cc),(7,I x),(8,I i)],[[]],[]⟩
def Zbhp:RawF (rawF 112 Tryz.f112):={ m:=_ }
def Zbhq:MCode:=cut0 Zbhp 23
def Zbhr:MCode:=cut0 Zbhp 31
def Zbwz:MFun:=Zn Zbhp 23 Zbhq 31 Zbhr
def Zxw(a:Za):Rs:=C 112 [.agg (a.c.map .t)] []
def Zxx(r_1:Za)(n:Int):Rs:=EvL C [.blk 0,.seq Zbhr,.fin 0 [.tmp 2]] [1,3] Zbhq ⟨[(1,.ptr 0 0),(3,I n)],[[]],[.box (r_1.c.map .t)]⟩
def Zbhs:RawF (rawF 71 Tryz.f71):={ m:=_ }
def Zbht:MCode:=cut0 Zbhs 15
def Zbhu:MCode:=cut0 Zbhs 31
def Zbw0:MFun:=Zn Zbhs 15 Zbht 31 Zbhu
def Zrn(a:Zh)(a1:Zc)(a2:Int):Rs:=C 71 [.agg (a.c.map .t),.agg (a1.c.map .t),I a2] []
def Zro(s:Zh)(q:Zc)(cc i:Int):Rs:=EvL C [.blk 0,.seq Zbhu,.fin 0 [.tmp 6]] [2,3,4,7] Zbht ⟨[(2,I cc),(3,.ptr 0 0),(4,.ptr 1 0),(7,I i)],[[]],[.box (s.c.map .t),.box (q.c.map .t)]⟩
def Z4l:RawF (rawF 34 Tryz.f34):={ m:=_ }
def Zbw1:MCode:=cut0 Z4l 54
def Zxy:MCode:=cut1 Z4l 40 14 Zbw1
def Zbw2:MCode:=cut1 Z4l 24 16 Zxy
def Zbw3:MFun:=Zbb Z4l 24 Zbw2
def Zxz(a:Zh)(a1:Zc)(a2:Int):Rs:=C 34 [.agg (a.c.map .t),.agg (a1.c.map .t),I a2] []
def Zx0(s:Zh)(q:Zc)(l:List Int)(cc n cd:Int):Rs:=Ev C [.fin 0 [.tmp 6,.tmp 7]] Zxy ⟨[(2,I cc),(3,.ptr 0 0),(4,.ptr 1 0),(8,I n),(9,I cd),(11,.own 2)],[[]],[.box (s.c.map .t),.box (q.c.map .t),.arr 3 1 true (l.map ic)]⟩
def Zx1(s:Zh)(q:Zc)(l:List Int)(cc n cd x:Int)(x1:Bool):Rs:=Ev C [.fin 0 [.tmp 6,.tmp 7]] Zxy ⟨[(2,I cc),(3,.ptr 0 0),(4,.ptr 1 0),(8,I n),(9,I cd),(10,I x),(11,.own 2),(45,Bo x1)],[[]],[.box (s.c.map .t),.box (q.c.map .t),.arr 3 1 true (l.map ic)]⟩
def Zx2(s:Zh)(q:Zc)(l:List Int)(cc n cd:Int)(x:Bool):Rs:=Ev C [.fin 0 [.tmp 6,.tmp 7]] Zxy ⟨[(2,I cc),(3,.ptr 0 0),(4,.ptr 1 0),(8,I n),(9,I cd),(11,.own 2),(33,Bo x)],[[]],[.box (s.c.map .t),.box (q.c.map .t),.arr 3 1 true (l.map ic)]⟩
def Zbw4:MFun:=mkF (rawF 9 Tryz.f9)
def Zx3(a:Zh)(a1:Zc)(a2:Int):Rs:=C 9 [.agg (a.c.map .t),.agg (a1.c.map .t),I a2] []
def Z4m:RawF (rawF 137 Tryz.f137):={ m:=_ }
def Zbw5:MCode:=cut0 Z4m 26
def Zbhv:MCode:=cut1 Z4m 11 15 Zbw5
def Zbhw:MCode:=cut0 Z4m 27
def Zbw6:MFun:=Zn Z4m 11 Zbhv 27 Zbhw
def Z4n(a:Zc)(a1:Int):Rs:=C 137 [.agg (a.c.map .t),I a1] []
def Zno(cd:List Int)(cc cl:Int)(x:List Atom)(x1 x2:Int):Rs:=EvL C [.blk 0,.seq Zbhw,.fin 0 [.tmp 4]] [1,5,6,13,14,15] Zbhv ⟨[(1,I cc),(5,.own 0),(6,I cl),(13,L 2 (x.map Atom.c)),(14,I x1),(15,I x2)],[[]],[.arr 3 1 true (cd.map ic)]⟩
def Zbw7:RawF (rawF 93 Tryz.f93):={ m:=_ }
def Zbhx:MCode:=cut0 Zbw7 14
def Zbw8:MFun:=Zbb Zbw7 14 Zbhx
def Zrp(a:Zc)(a1:Int):Rs:=C 93 [.agg (a.c.map .t),I a1] []
def Zx4(q:Zc)(cc cd:Int):Rs:=EvL C [.blk 0,.fin 0 [.tmp 4]] [1,2,5] Zbhx ⟨[(1,I cc),(2,.ptr 0 0),(5,I cd)],[[]],[.box (q.c.map .t)]⟩
def Z4o:RawF (rawF 51 Tryz.f51):={ m:=_ }
def Zbw9:MCode:=cut0 Z4o 22
def Zbhy:MCode:=cut1 Z4o 9 13 Zbw9
def Zbhz:MCode:=cut0 Z4o 23
def Zbxa:MFun:=Zn Z4o 9 Zbhy 23 Zbhz
def Znp(a:Zc):Rs:=C 51 [.agg (a.c.map .t)] []
def Zrq(q:Zc)(cd:List Int)(cc:Int):Rs:=EvL C [.blk 0,.seq Zbhz,.fin 0 [.tmp 2]] [1,3,4] Zbhy ⟨[(1,.ptr 0 0),(3,.own 1),(4,I cc)],[[]],[.box (q.c.map .t),.arr 3 1 true (cd.map ic)]⟩
def Zbh0:RawF (rawF 18 Tryz.f18):={ m:=_ }
def Zbh1:MCode:=cut0 Zbh0 17
def Zbh2:MCode:=cut0 Zbh0 29
def Zbh3:MFun:=Zn Zbh0 17 Zbh1 29 Zbh2
def Zk3(a:Zh)(a1:Zc):Rs:=C 18 [.agg (a.c.map .t),.agg (a1.c.map .t)] []
def Zrr(s:Zh)(q:Zc)(cc x:List Int)(x1 x2:Int):Rs:=EvL C [.blk 0,.seq Zbh2,.fin 0 [.tmp 4]] [2,3,5,17,18,19] Zbh1 ⟨[(2,.ptr 0 0),(3,.ptr 1 0),(5,.own 2),(17,.own 3),(18,I x1),(19,I x2)],[[]],[.box (s.c.map .t),.box (q.c.map .t),.arr 3 1 true (cc.map ic),.arr 3 1 true (x.map ic)]⟩
def Z4p:RawF (rawF 133 Tryz.f133):={ m:=_ }
def Zbxb:MCode:=cut0 Z4p 24
def Zbh4:MCode:=cut1 Z4p 11 13 Zbxb
def Zbh5:MCode:=cut0 Z4p 25
def Zbxc:MFun:=Zn Z4p 11 Zbh4 25 Zbh5
def Z4q(a:Zc)(a1:Int):Rs:=C 133 [.agg (a.c.map .t),I a1] []
def Znq(q:Zc)(cd cl cc i:Int):Rs:=EvL C [.blk 0,.seq Zbh5,.fin 0 [.tmp 4]] [1,2,5,6,7] Zbh4 ⟨[(1,I cd),(2,.ptr 0 0),(5,I cl),(6,I cc),(7,I i)],[[]],[.box (q.c.map .t)]⟩
def Zbh6:RawF (rawF 91 Tryz.f91):={ m:=_ }
def Zbh7:MCode:=cut0 Zbh6 9
def Zbh8:MCode:=cut0 Zbh6 19
def Zbxd:MFun:=Zn Zbh6 9 Zbh7 19 Zbh8
def Zx5(a:Zc)(a1:Int):Rs:=C 91 [.agg (a.c.map .t),I a1] []
def Zx6(q:Zc)(cc x n:Int):Rs:=EvL C [.blk 0,.seq Zbh8,.fin 0 [.tmp 4]] [1,2,5,6] Zbh7 ⟨[(1,I cc),(2,.ptr 0 0),(5,I x),(6,I n)],[[]],[.box (q.c.map .t)]⟩
def Zbxe:MFun:=mkF (rawF 49 Tryz.f49)
def Znr(a:Zc)(a1:Int):Rs:=C 49 [.agg (a.c.map .t),I a1] []
def Z4r:RawF (rawF 17 Tryz.f17):={ m:=_ }
def Zbxf:MCode:=cut0 Z4r 33
def Zbh9:MCode:=cut1 Z4r 17 16 Zbxf
def Zbia:MCode:=cut0 Z4r 35
def Zbxg:MFun:=Zn Z4r 17 Zbh9 35 Zbia
def Zx7(a:Zh)(a1:Zc):Rs:=C 17 [.agg (a.c.map .t),.agg (a1.c.map .t)] []
def Zrs(s:Zh)(q:Zc)(cc:List Int)(m:Int):Rs:=EvL C [.blk 0,.seq Zbia,.fin 0 [.tmp 4]] [2,3,5,6] Zbh9 ⟨[(2,.ptr 0 0),(3,.ptr 1 0),(5,.own 2),(6,I m)],[[]],[.box (s.c.map .t),.box (q.c.map .t),.arr 3 1 true (cc.map ic)]⟩
def Zbxh:MFun:=mkF (rawF 59 Tryz.f59)
def Zx8(a:Zc)(a1:Int):Rs:=C 59 [.agg (a.c.map .t),I a1] []
def Zbib:RawF (rawF 264 Tryz.f264):={ m:=_ }
def Zbic:MCode:=cut0 Zbib 7
def Zbid:MCode:=cut0 Zbib 25
def Zbxi:MFun:=Zn Zbib 7 Zbic 25 Zbid
def Zbie(a:List Zj)(a1:Zj):Rs:=C 264 [L 4 (a.map Zj.c),.agg (a1.c.map .t)] []
def Zx9(v:Zj)(s:List Zj)(x x1:Int):Rs:=EvL C [.blk 0,.seq Zbid,.fin 0 [.tmp 4]] [0,3,7,8] Zbic ⟨[(0,L 4 (s.map Zj.c)),(3,.ptr 0 0),(7,I x),(8,I x1)],[[]],[.box (v.c.map .t)]⟩
def Zbxj:MFun:=mkF (rawF 231 Tryz.f231)
def Zns(a:List Zj)(a1:Zj):Rs:=C 231 [L 4 (a.map Zj.c),.agg (a1.c.map .t)] []
def Z4s:RawF (rawF 190 Tryz.f190):={ m:=_ }
def Zbxk:MCode:=cut0 Z4s 50
def Z4t:MCode:=cut1 Z4s 23 27 Zbxk
def Z4u:MCode:=cut0 Z4s 51
def Zbxl:MFun:=Zn Z4s 23 Z4t 51 Z4u
def Z4v(a:Zh)(a1:Zc)(a2 a3:Int):Rs:=C 190 [.agg (a.c.map .t),.agg (a1.c.map .t),I a2,I a3] []
def Zbxm(s:Zh)(q:Zc)(x:Atom)(v cc x1 x2:Int):Rs:=EvL C [.blk 0,.seq Z4u,.fin 0 [.tmp 8]] [4,5,9,11,12,46,47,48] Z4t ⟨[(4,.ptr 0 0),(5,.ptr 1 0),(9,.ptr 2 0),(11,I v),(12,I cc),(46,.t .nil),(47,I x1),(48,I x2)],[[]],[.box (s.c.map .t),.box (q.c.map .t),.box (x.c.map .t)]⟩
def Zk4(s:Zh)(q:Zc)(x:Atom)(x1:List Int)(v cc x2 x3:Int):Rs:=EvL C [.blk 0,.seq Z4u,.fin 0 [.tmp 8]] [4,5,9,11,12,46,47,48] Z4t ⟨[(4,.ptr 0 0),(5,.ptr 1 0),(9,.ptr 2 0),(11,I v),(12,I cc),(46,.own 3),(47,I x2),(48,I x3)],[[]],[.box (s.c.map .t),.box (q.c.map .t),.box (x.c.map .t),.arr 3 1 true (x1.map ic)]⟩
def Z4w:RawF (rawF 142 Tryz.f142):={ m:=_ }
def Zbxn:MCode:=cut0 Z4w 40
def Z4x:MCode:=cut1 Z4w 15 25 Zbxn
def Z4y:MCode:=cut0 Z4w 41
def Zbxo:MFun:=Zn Z4w 15 Z4x 41 Z4y
def Ze7(x:List Int)(a:Zh)(a1:Zc)(a2 a3:Int):Rs:=C 142 [.agg (a.c.map .t),.agg (a1.c.map .t),.own 0,I a2,I a3] [.arr 3 1 true (x.map ic)]
def Zbxp(cc:List Int)(s:Zh)(q:Zc)(cl cd x x1:Int):Rs:=EvL C [.blk 0,.seq Z4y,.fin 1 [.tmp 10,.tmp 11]] [2,3,4,5,6,20,21,22] Z4x ⟨[(2,.own 0),(3,I cl),(4,I cd),(5,.ptr 1 0),(6,.ptr 2 0),(20,.t .nil),(21,I x),(22,I x1)],[[(0,.own 0)]],[.arr 3 1 true (cc.map ic),.box (s.c.map .t),.box (q.c.map .t)]⟩
def Zgz(cc:List Int)(s:Zh)(q:Zc)(x:List Int)(cl cd x1 x2:Int):Rs:=EvL C [.blk 0,.seq Z4y,.fin 1 [.tmp 10,.tmp 11]] [2,3,4,5,6,20,21,22] Z4x ⟨[(2,.own 0),(3,I cl),(4,I cd),(5,.ptr 1 0),(6,.ptr 2 0),(20,.own 3),(21,I x1),(22,I x2)],[[(0,.own 0)]],[.arr 3 1 true (cc.map ic),.box (s.c.map .t),.box (q.c.map .t),.arr 3 1 true (x.map ic)]⟩
def Z4z:RawF (rawF 101 Tryz.f101):={ m:=_ }
def Zbxq:MCode:=cut0 Z4z 34
def Z40:MCode:=cut1 Z4z 17 17 Zbxq
def Z41:MCode:=cut0 Z4z 35
def Zbxr:MFun:=Zn Z4z 17 Z40 35 Z41
def Z42(a:Zh)(a1:Zc)(a2:Int):Rs:=C 101 [.agg (a.c.map .t),.agg (a1.c.map .t),I a2] []
def Zbxs(s:Zh)(q:Zc)(cd cc x x1:Int):Rs:=EvL C [.blk 0,.seq Z41,.fin 0 [.tmp 6]] [2,3,4,7,18,19,20] Z40 ⟨[(2,I cd),(3,.ptr 0 0),(4,.ptr 1 0),(7,I cc),(18,.t .nil),(19,I x),(20,I x1)],[[]],[.box (s.c.map .t),.box (q.c.map .t)]⟩
def Znt(s:Zh)(q:Zc)(x:List Int)(cd cc x1 x2:Int):Rs:=EvL C [.blk 0,.seq Z41,.fin 0 [.tmp 6]] [2,3,4,7,18,19,20] Z40 ⟨[(2,I cd),(3,.ptr 0 0),(4,.ptr 1 0),(7,I cc),(18,.own 2),(19,I x1),(20,I x2)],[[]],[.box (s.c.map .t),.box (q.c.map .t),.arr 3 1 true (x.map ic)]⟩
def Zbif:RawF (rawF 61 Tryz.f61):={ m:=_ }
def Zbig:MCode:=cut0 Zbif 17
def Zbih:MCode:=cut0 Zbif 29
def Zbii:MFun:=Zn Zbif 17 Zbig 29 Zbih
def Zrt(a:Zh)(a1:Zc):Rs:=C 61 [.agg (a.c.map .t),.agg (a1.c.map .t)] []
def Zru(s:Zh)(q:Zc)(cc x:List Int)(x1 x2:Int):Rs:=EvL C [.blk 0,.seq Zbih,.fin 0 [.tmp 4]] [2,3,5,17,18,19] Zbig ⟨[(2,.ptr 0 0),(3,.ptr 1 0),(5,.own 2),(17,.own 3),(18,I x1),(19,I x2)],[[]],[.box (s.c.map .t),.box (q.c.map .t),.arr 3 1 true (cc.map ic),.arr 3 1 true (x.map ic)]⟩
def Zbij:RawF (rawF 60 Tryz.f60):={ m:=_ }
def Zbik:MCode:=cut0 Zbij 9
def Zbil:MCode:=cut0 Zbij 21
def Zbxt:MFun:=Zn Zbij 9 Zbik 21 Zbil
def Zbim:Rs:=C 60 [.t .nil] []
def Zbxu:MFun:=mkF (rawF 141 Tryz.f141)
def Z43(a:Int):Rs:=C 141 [I a] []
def Zbxv:RawF (rawF 100 Tryz.f100):={ m:=_ }
def Zbin:MCode:=cut0 Zbxv 14
def Zbxw:MFun:=Zbb Zbxv 14 Zbin
def Z44(a:Int):Rs:=C 100 [I a] []
def Z45(n c:Int):Rs:=EvL C [.blk 0,.fin 0 [.tmp 2]] [0,3] Zbin ⟨[(0,I n),(3,I c)],[[]],[]⟩
def Zrv(a:List Int):Rs:=C 60 [L 1 (a.map ic)] []
def Zya(c x:List Int)(x1 x2:Int):Rs:=EvL C [.blk 0,.seq Zbil,.fin 0 [.tmp 2]] [3,7,8,9] Zbik ⟨[(3,.own 0),(7,L 1 (x.map ic)),(8,I x1),(9,I x2)],[[]],[.arr 3 1 true (c.map ic)]⟩
def Zbxx:MFun:=mkF (rawF 25 Tryz.f25)
def Z46(a:Zh)(a1:Zc):Rs:=C 25 [.agg (a.c.map .t),.agg (a1.c.map .t)] []
def Zbio:RawF (rawF 263 Tryz.f263):={ m:=_ }
def Zbip:MCode:=cut0 Zbio 7
def Zbiq:MCode:=cut0 Zbio 23
def Zbxy:MFun:=Zn Zbio 7 Zbip 23 Zbiq
def Zyb(a:Atom)(a1:Int):Rs:=C 263 [.agg (a.c.map .t),I a1] []
def Zyc(a:Atom)(v k:Int):Rs:=EvL C [.blk 0,.seq Zbiq,.fin 0 [.tmp 4]] [1,2,5] Zbip ⟨[(1,I v),(2,.ptr 0 0),(5,I k)],[[]],[.box (a.c.map .t)]⟩
def Zyd:RawF (rawF 230 Tryz.f230):={ m:=_ }
def Zbir:MCode:=cut0 Zyd 53
def Zbis:MCode:=cut0 Zyd 69
def Z47:MCode:=cut2 Zyd 25 28 Zbir 44 Zbis
def Z48:MCode:=cut0 Zyd 70
def Zbxz:MFun:=Zn Zyd 25 Z47 70 Z48
def Zye(a:Zh)(a1:Zc)(a2 a3:Int):Rs:=C 230 [.agg (a.c.map .t),.agg (a1.c.map .t),I a2,I a3] []
def Zk5(s:Zh)(q:Zc)(v:List Int)(cc i k:Int):Rs:=EvL C [.blk 0,.seq Z48,.fin 0 [.tmp 8]] [2,3,4,5,9,10] Z47 ⟨[(2,I cc),(3,I i),(4,.ptr 0 0),(5,.ptr 1 0),(9,.own 2),(10,I k)],[[]],[.box (s.c.map .t),.box (q.c.map .t),.arr 3 1 true (v.map ic)]⟩
def Zrw(s:Zh)(q:Zc)(v:List Int)(want:Zj)(cc i k j:Int):Rs:=EvL C [.blk 2,.blk 1,.seq Zbis,.loop [2,3,4,5,9,10] Z47,.blk 0,.seq Z48,.fin 0 [.tmp 8]] [2,3,4,5,9,10,11,12] Zbir ⟨[(2,I cc),(3,I i),(4,.ptr 0 0),(5,.ptr 1 0),(9,.own 2),(10,I k),(11,.ptr 3 0),(12,I j)],[[]],[.box (s.c.map .t),.box (q.c.map .t),.arr 3 1 true (v.map ic),.box (want.c.map .t)]⟩
def Zrx:RawF (rawF 189 Tryz.f189):={ m:=_ }
def Zbit:MCode:=cut0 Zrx 9
def Zbx0:MCode:=cut0 Zrx 53
def Zbiu:MCode:=cut1 Zrx 32 21 Zbx0
def Zbiv:MCode:=cut0 Zrx 54
def Zbiw:MCode:=cut2 Zrx 19 13 Zbiu 35 Zbiv
def Zbx1:MFun:=Zn Zrx 9 Zbit 19 Zbiw
def Zfu(x:List Int)(a:Zh)(a1:Zc)(a2:Int):Rs:=C 189 [.agg (a.c.map .t),.agg (a1.c.map .t),I a2,.own 0] [.arr 3 1 true (x.map ic)]
def Zyf(cc:List Int)(s:Zh)(q:Zc)(cd cl i:Int):Rs:=EvL C [.blk 0,.seq Zbiw,.fin 1 [.tmp 8]] [2,3,4,5,9,10] Zbit ⟨[(2,I cd),(3,.own 0),(4,.ptr 1 0),(5,.ptr 2 0),(9,I cl),(10,I i)],[[(0,.own 0)]],[.arr 3 1 true (cc.map ic),.box (s.c.map .t),.box (q.c.map .t)]⟩
def Zet(cc:List Int)(s:Zh)(q:Zc)(cd cl i:Int):Rs:=EvL C [.blk 2,.seq Zbiv,.fin 1 [.tmp 8]] [2,3,4,5,9,11] Zbiu ⟨[(2,I cd),(3,.own 0),(4,.ptr 1 0),(5,.ptr 2 0),(9,I cl),(11,I i)],[[(0,.own 0)]],[.arr 3 1 true (cc.map ic),.box (s.c.map .t),.box (q.c.map .t)]⟩
def Zbx2:MFun:=mkF (rawF 140 Tryz.f140)
def Zyg(a:Zh)(a1:Zc)(a2 a3:Int):Rs:=C 140 [.agg (a.c.map .t),.agg (a1.c.map .t),I a2,I a3] []
def Z49:RawF (rawF 97 Tryz.f97):={ m:=_ }
def Zbx3:MCode:=cut0 Z49 30
def Zbix:MCode:=cut1 Z49 17 13 Zbx3
def Zbiy:MCode:=cut0 Z49 31
def Zbx4:MFun:=Zn Z49 17 Zbix 31 Zbiy
def Z5a(a:Zh)(a1:Zc)(a2:Int):Rs:=C 97 [.agg (a.c.map .t),.agg (a1.c.map .t),I a2] []
def Zry(s:Zh)(q:Zc)(cc n i:Int):Rs:=EvL C [.blk 0,.seq Zbiy,.fin 0 [.tmp 6]] [2,3,4,7,8] Zbix ⟨[(2,I cc),(3,.ptr 0 0),(4,.ptr 1 0),(7,I n),(8,I i)],[[]],[.box (s.c.map .t),.box (q.c.map .t)]⟩
def Z5b:RawF (rawF 57 Tryz.f57):={ m:=_ }
def Zbx5:MCode:=cut0 Z5b 33
def Zbiz:MCode:=cut1 Z5b 17 16 Zbx5
def Zbi0:MCode:=cut0 Z5b 35
def Zbx6:MFun:=Zn Z5b 17 Zbiz 35 Zbi0
def Z5c(a:Zh)(a1:Zc):Rs:=C 57 [.agg (a.c.map .t),.agg (a1.c.map .t)] []
def Zrz(s:Zh)(q:Zc)(cc:List Int)(m:Int):Rs:=EvL C [.blk 0,.seq Zbi0,.fin 0 [.tmp 4]] [2,3,5,6] Zbiz ⟨[(2,.ptr 0 0),(3,.ptr 1 0),(5,.own 2),(6,I m)],[[]],[.box (s.c.map .t),.box (q.c.map .t),.arr 3 1 true (cc.map ic)]⟩
def Zbi1:RawF (rawF 98 Tryz.f98):={ m:=_ }
def Zbi2:MCode:=cut0 Zbi1 17
def Zbi3:MCode:=cut0 Zbi1 27
def Zbx7:MFun:=Zn Zbi1 17 Zbi2 27 Zbi3
def Z5d(a:Int):Rs:=C 98 [I a] []
def Zr0(k n i:Int):Rs:=EvL C [.blk 0,.seq Zbi3,.fin 0 [.tmp 2]] [0,3,4] Zbi2 ⟨[(0,I k),(3,I n),(4,I i)],[[]],[]⟩
def Zbi4:RawF (rawF 58 Tryz.f58):={ m:=_ }
def Zbi5:MCode:=cut0 Zbi4 15
def Zbi6:MCode:=cut0 Zbi4 31
def Zbx8:MFun:=Zn Zbi4 15 Zbi5 31 Zbi6
def Znu(a:Int):Rs:=C 58 [I a] []
def Z5e(n k:Int):Rs:=EvL C [.blk 0,.seq Zbi6,.fin 0 [.tmp 2]] [0,3] Zbi5 ⟨[(0,I n),(3,I k)],[[]],[]⟩
def Zbi7:RawF (rawF 24 Tryz.f24):={ m:=_ }
def Z5f:MCode:=cut0 Zbi7 21
def Z5g:MCode:=cut0 Zbi7 33
def Zbx9:MFun:=Zn Zbi7 21 Z5f 33 Z5g
def Z5h(a:Zh)(a1:Zc):Rs:=C 24 [.agg (a.c.map .t),.agg (a1.c.map .t)] []
def Z5i(cc c:List Int)(m:Int):Rs:=EvL C [.blk 0,.seq Z5g,.fin 0 [.cell 4 (some 2),.tmp 5]] [4,6,7,8,9] Z5f ⟨[(4,.ptr 0 0),(6,.own 1),(7,.own 2),(8,.ptr 3 0),(9,I m)],[[]],[.box [.t .nil,.t .nil],.arr 3 1 true (cc.map ic),.arr 3 1 true (c.map ic),.box [.t .nil,.t .nil]]⟩
def Zyh(cc c x x1:List Int)(m:Int):Rs:=EvL C [.blk 0,.seq Z5g,.fin 0 [.cell 4 (some 2),.tmp 5]] [4,6,7,8,9] Z5f ⟨[(4,.ptr 0 0),(6,.own 1),(7,.own 2),(8,.ptr 3 0),(9,I m)],[[]],[.box [.t .nil,.t .nil],.arr 3 1 true (cc.map ic),.arr 3 1 true (c.map ic),.box [.own 4,.own 5],.arr 3 1 true (x.map ic),.arr 3 1 true (x1.map ic)]⟩
end
end Go.Proofs.YtnnjbejcffjgfaaGreat
