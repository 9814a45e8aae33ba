/-
  Parts of the proofs for this seat: D1.
-/
import Derived.Test.YtgbipcfdgfjplaaGreatP8
set_option linter.unusedSectionVars false
set_option linter.unusedSimpArgs false
set_option linter.unusedVariables false
set_option maxRecDepth 100000
set_option maxHeartbeats 4000000
set_option cbv.maxSteps 9999999
namespace Go.Proofs.YtgbipcfdgfjplaaGreat
open Go.AM
noncomputable section
def ZsP:MFun:=mkF (Zh 6 Tryz.f6)
def Zhp(a:WA):Rs:=C 6 [L 1 (a.map (kc .u8))] []
def ZkS:RawF (Zh 93 Tryz.f93):={ m:=_ }
def ZkT:MCode:=cut0 ZkS 9
def ZkU:MCode:=cut0 ZkS 19
def ZsQ:MFun:=Zt ZkS 9 ZkT 19 ZkU
def Zej(a:WA):Rs:=C 93 [L 1 (a.map (kc .u8))] []
def Zek(c:WA)(h1 i:Int):Rs:=EvL C [.blk 0,.seq ZkU,.fin 0 [.tmp 2]] [0,3,4] ZkT ⟨[(0,L 1 (c.map (kc .u8))),(3,I h1),(4,I i)],[[]],[]⟩
def ZsR:RawF (Zh 166 Tryz.f166):={ m:=_ }
def ZsS:MCode:=cut0 ZsR 14
def ZsT:MFun:=WT ZsR 14 ZsS
def K2(x:Zf):Rs:=C 166 [.ptr 0 0] [.box (x.c.map .t)]
def ZsU:MFun:=mkF (Zh 96 Tryz.f96)
def Z7(x:Zf)(a:Int):Rs:=C 96 [.ptr 0 0,I a] [.box (x.c.map .t)]
def ZsV:MFun:=mkF (Zh 94 Tryz.f94)
def XC(x:Zf)(a:Int):Rs:=C 94 [.ptr 0 0,I a] [.box (x.c.map .t)]
def ZsW:MFun:=mkF (Zh 184 Tryz.f184)
def ZkV:Rs:=C 184 [] []
def ZkW:MFun:=mkF (Zh 95 Tryz.f95)
def XU(x:Zf)(x1:WA):Rs:=C 95 [.ptr 0 0,.own 1] [.box (x.c.map .t),.arr 3 1 true (x1.map ic)]
def ZkX:RawF (Zh 185 Tryz.f185):={ m:=_ }
def ZsX:MCode:=cut0 ZkX 16
def ZsY:MCode:=cut1 ZkX 10 6 ZsX
def ZsZ:MFun:=WT ZkX 10 ZsY
def QF(x:Zf):Rs:=C 185 [.ptr 0 0] [.box (x.c.map .t)]
def Zta:MFun:=mkF (Zh 117 Tryz.f117)
def Zb9(x:Zf):Rs:=C 117 [.ptr 0 0] [.box (x.c.map .t)]
def Ztb:RawF (Zh 186 Tryz.f186):={ m:=_ }
def Ztc:MCode:=cut0 Ztb 21
def Ztd:MFun:=WT Ztb 21 Ztc
def ZbA(x:Zf):Rs:=C 186 [.ptr 0 0] [.box (x.c.map .t)]
def ZkY:RawF (Zh 118 Tryz.f118):={ m:=_ }
def Zte:MCode:=cut0 ZkY 16
def Ztf:MCode:=cut1 ZkY 10 6 Zte
def Ztg:MFun:=WT ZkY 10 Ztf
def Zel(x:Zf):Rs:=C 118 [.ptr 0 0] [.box (x.c.map .t)]
def ZbB:RawF (Zh 146 Tryz.f146):={ m:=_ }
def Zth:MCode:=cut0 ZbB 35
def Zti:MCode:=cut1 ZbB 27 8 Zth
def Zhq:MCode:=cut1 ZbB 11 16 Zti
def Ztj:MCode:=cut0 ZbB 43
def Zhr:MCode:=cut1 ZbB 37 6 Ztj
def ZkZ:MFun:=Zt ZbB 11 Zhq 37 Zhr
def K3(a:WA):Rs:=C 146 [.t .nil,L 1 (a.map ic)] []
def Zla(c:XS)(cd:WA)(cc:Bool)(i:Int):Rs:=EvL C [.blk 0,.seq Zhr,.fin 0 [.tmp 4]] [0,1,5,6,7] Zhq ⟨[(0,.t .nil),(1,L 1 (cd.map ic)),(5,.own 0),(6,Bo cc),(7,I i)],[[]],[.arr 42 1 true (c.map isc)]⟩
def Zlb:RawF (Zh 82 Tryz.f82):={ m:=_ }
def Zlc:MCode:=cut0 Zlb 7
def Zhs:MCode:=cut0 Zlb 31
def Ztk:MFun:=Zt Zlb 7 Zlc 31 Zhs
def QG(a a1:WA):Rs:=C 82 [L 1 (a.map ic),L 1 (a1.map ic)] []
def Zem(a b:WA)(i:Int):Rs:=EvL C [.blk 0,.seq Zhs,.fin 0 [.tmp 4]] [0,1,5] Zlc ⟨[(0,L 1 (a.map ic)),(1,L 1 (b.map ic)),(5,I i)],[[]],[]⟩
def Zen(a b:WA)(i:Int)(x:Bool):Rs:=Ev C [.fin 0 [.tmp 4]] Zhs ⟨[(0,L 1 (a.map ic)),(1,L 1 (b.map ic)),(5,I i),(15,Bo x)],[[]],[]⟩
def K4(a:XS)(a1:WA):Rs:=C 146 [L 1 (a.map isc),L 1 (a1.map ic)] []
def Wu(cc c:XS)(cl:WA)(cd:Bool)(i:Int):Rs:=EvL C [.blk 0,.seq Zhr,.fin 0 [.tmp 4]] [0,1,5,6,7] Zhq ⟨[(0,L 1 (c.map isc)),(1,L 1 (cl.map ic)),(5,.own 0),(6,Bo cd),(7,I i)],[[]],[.arr 42 1 true (cc.map isc)]⟩
def ZbC:RawF (Zh 187 Tryz.f187):={ m:=_ }
def Zht:MCode:=cut0 ZbC 24
def Zhu:MCode:=cut0 ZbC 34
def Zhv:MCode:=cut0 ZbC 35
def ZbD:MCode:=cut3 ZbC 9 15 Zht 25 Zhu 26 Zhv
def ZbE:MCode:=cut0 ZbC 36
def Ztl:MFun:=Zt ZbC 9 ZbD 36 ZbE
def Vr(x:Zf)(a:V5)(a1 a2 a3:Int):Rs:=C 187 [.ptr 0 0,.t (.str a),I a1,I a2,I a3] [.box (x.c.map .t)]
def Zld(c:Zf)(co:V5)(cd:Int)(cl:V5)(cc cn cp n:Int):Rs:=EvL C [.blk 0,.seq ZbE,.fin 1 [.cellO 10 (some 3) [none,none,some (42,1)]]] [0,2,4,10,11,12] ZbD ⟨[(0,.ptr 0 0),(2,I cn),(4,I cp),(10,.ptr 1 0),(11,.ptr 2 0),(12,I n)],[[(0,.ptr 0 0)]],[.box (c.c.map .t),.box [.t (.str co),I cd,.t .nil],.box [.t (.str cl),I cc,.t .nil]]⟩
def Zeo(c:Zf)(co:V5)(cd:Int)(cl:V5)(cc:Int)(cp:WA)(cn cu n i:Int):Rs:=EvL C [.blk 2,.seq Zhu,.blk 1,.seq Zhv,.loop [0,2,4,10,11,12] ZbD,.blk 0,.seq ZbE,.fin 1 [.cellO 10 (some 3) [none,none,some (42,1)]]] [0,2,4,10,11,12,13,14] Zht ⟨[(0,.ptr 0 0),(2,I cn),(4,I cu),(10,.ptr 1 0),(11,.ptr 2 0),(12,I n),(13,.own 3),(14,I i)],[[(0,.ptr 0 0)]],[.box (c.c.map .t),.box [.t (.str co),I cd,.t .nil],.box [.t (.str cl),I cc,.t .nil],.arr 3 1 true (cp.map ic)]⟩
def ZbF(c:Zf)(co:V5)(cd:Int)(cl:V5)(cc:Int)(x:XS)(cn cp n:Int):Rs:=EvL C [.blk 0,.seq ZbE,.fin 1 [.cellO 10 (some 3) [none,none,some (42,1)]]] [0,2,4,10,11,12] ZbD ⟨[(0,.ptr 0 0),(2,I cn),(4,I cp),(10,.ptr 1 0),(11,.ptr 2 0),(12,I n)],[[(0,.ptr 0 0)]],[.box (c.c.map .t),.box [.t (.str co),I cd,.t .nil],.box [.t (.str cl),I cc,.own 3],.arr 42 1 true (x.map isc)]⟩
def Zep(c:Zf)(co:V5)(cd:Int)(cl:V5)(cc:Int)(x:XS)(cp:WA)(cn cu n i:Int):Rs:=EvL C [.blk 2,.seq Zhu,.blk 1,.seq Zhv,.loop [0,2,4,10,11,12] ZbD,.blk 0,.seq ZbE,.fin 1 [.cellO 10 (some 3) [none,none,some (42,1)]]] [0,2,4,10,11,12,13,14] Zht ⟨[(0,.ptr 0 0),(2,I cn),(4,I cu),(10,.ptr 1 0),(11,.ptr 2 0),(12,I n),(13,.own 4),(14,I i)],[[(0,.ptr 0 0)]],[.box (c.c.map .t),.box [.t (.str co),I cd,.t .nil],.box [.t (.str cl),I cc,.own 3],.arr 42 1 true (x.map isc),.arr 3 1 true (cp.map ic)]⟩
def ZbG:RawF (Zh 119 Tryz.f119):={ m:=_ }
def Zle:MCode:=cut0 ZbG 37
def Zlf:MCode:=cut1 ZbG 31 6 Zle
def Zeq:MCode:=cut1 ZbG 13 18 Zlf
def Zlg:MCode:=cut0 ZbG 47
def Zer:MCode:=cut1 ZbG 41 6 Zlg
def Ztm:MFun:=Zt ZbG 13 Zeq 41 Zer
def ZbH(x:Zf):Rs:=C 119 [.ptr 0 0] [.box (x.c.map .t)]
def Zhw(c:Zf)(x:List V5)(cd cc x1 x2:Int):Rs:=EvL C [.blk 0,.seq Zer,.fin 1 [.cellO 2 (some 1) [some (3,0)]]] [0,2,3,4,5,17,18,19] Zeq ⟨[(0,.ptr 0 0),(2,.ptr 1 0),(3,I cd),(4,I cc),(5,.ptr 2 0),(17,.own 3),(18,I x1),(19,I x2)],[[(0,.ptr 0 0)]],[.box (c.c.map .t),.box [.t .nil],.box [.t .nil],.arr 9 1 true (x.map sc)]⟩
def VC(c:Zf)(x:List Zq)(x1:List V5)(cd cc x2 x3:Int):Rs:=EvL C [.blk 0,.seq Zer,.fin 1 [.cellO 2 (some 1) [some (3,0)]]] [0,2,3,4,5,17,18,19] Zeq ⟨[(0,.ptr 0 0),(2,.ptr 1 0),(3,I cd),(4,I cc),(5,.ptr 2 0),(17,.own 4),(18,I x2),(19,I x3)],[[(0,.ptr 0 0)]],[.box (c.c.map .t),.box [.t .nil],.box [.own 3],.arr 181 3 true (x.map Zq.c),.arr 9 1 true (x1.map sc)]⟩
def Ztn:MFun:=mkF (Zh 258 Tryz.f258)
def JF(x:Zf)(x1:List V5):Rs:=C 258 [.ptr 0 0,.own 1] [.box (x.c.map .t),.arr 9 1 true (x1.map sc)]
def Zhx:RawF (Zh 299 Tryz.f299):={ m:=_ }
def Z36:MCode:=cut0 Zhx 26
def Z37:MCode:=cut1 Zhx 11 15 Z36
def Z38:MCode:=cut0 Zhx 27
def Zto:MFun:=Zt Zhx 11 Z37 27 Z38
def Zlh:MFun:=mkF (Zh 60 Tryz.f60)
def ZB(a a1 a2:Int):Rs:=C 60 [I a,I a1,I a2] []
def Zes:RawF (Zh 99 Tryz.f99):={ m:=_ }
def Zli:MCode:=cut0 Zes 39
def Zlj:MCode:=cut0 Zes 57
def Zet:MCode:=cut2 Zes 17 22 Zli 40 Zlj
def Zeu:MCode:=cut0 Zes 58
def Zlk:MFun:=Zt Zes 17 Zet 58 Zeu
def Zev(c:Int):Rs:=C 99 [.agg [I c,.t .nil]] []
def Ztp(c cc i:Int):Rs:=EvL C [.blk 0,.seq Zeu,.fin 0 [.tmp 2]] [1,3,4] Zet ⟨[(1,.ptr 0 0),(3,I cc),(4,I i)],[[]],[.box [I c,.t .nil]]⟩
def Zhy:RawF (Zh 301 Tryz.f301):={ m:=_ }
def Z39:MCode:=cut0 Zhy 23
def Z3A:MCode:=cut1 Zhy 9 14 Z39
def Z3B:MCode:=cut0 Zhy 25
def Ztq:MFun:=Zt Zhy 9 Z3A 25 Z3B
def Ztr:MFun:=mkF (Zh 300 Tryz.f300)
def Zll:MFun:=mkF (Zh 172 Tryz.f172)
def ZbI(a:V5):Rs:=C 172 [.t (.str a)] []
def Zlm:RawF (Zh 63 Tryz.f63):={ m:=_ }
def Zln:MCode:=cut0 Zlm 7
def Zlo:MCode:=cut0 Zlm 23
def Zlp:MFun:=Zt Zlm 7 Zln 23 Zlo
def VX(a:WA)(a1:Int):Rs:=C 63 [L 1 (a.map ic),I a1] []
def Zew(l:WA)(x i:Int):Rs:=EvL C [.blk 0,.seq Zlo,.fin 0 [.tmp 4]] [0,1,5] Zln ⟨[(0,L 1 (l.map ic)),(1,I x),(5,I i)],[[]],[]⟩
def Uq(a:Ze):Rs:=C 99 [.agg (a.c.map .t)] []
def ZbJ(q:Ze)(cc i:Int):Rs:=EvL C [.blk 0,.seq Zeu,.fin 0 [.tmp 2]] [1,3,4] Zet ⟨[(1,.ptr 0 0),(3,I cc),(4,I i)],[[]],[.box (q.c.map .t)]⟩
def Zex(q:Ze)(a:Zc)(cc i k:Int):Rs:=EvL C [.blk 2,.blk 1,.seq Zlj,.loop [1,3,4] Zet,.blk 0,.seq Zeu,.fin 0 [.tmp 2]] [1,3,4,5,6] Zli ⟨[(1,.ptr 0 0),(3,I cc),(4,I i),(5,.ptr 1 0),(6,I k)],[[]],[.box (q.c.map .t),.box (a.c.map .t)]⟩
def Zlq:RawF (Zh 336 Tryz.f336):={ m:=_ }
def Z3C:MCode:=cut0 Zlq 9
def Z3D:MCode:=cut0 Zlq 19
def Zts:MFun:=Zt Zlq 9 Z3C 19 Z3D
def QH:RawF (Zh 243 Tryz.f243):={ m:=_ }
def Z3E:MCode:=cut0 QH 61
def Z3F:MCode:=cut1 QH 46 15 Z3E
def Z3G:MCode:=cut0 QH 62
def Z3H:MCode:=cut2 QH 34 12 Z3F 28 Z3G
def Z3I:MCode:=cut0 QH 63
def Z3J:MCode:=cut0 QH 64
def Z3K:MCode:=cut3 QH 11 23 Z3H 52 Z3I 53 Z3J
def Z3L:MCode:=cut0 QH 65
def Ztt:MFun:=Zt QH 11 Z3K 65 Z3L
def Zlr(a:V5):Rs:=C 243 [.t (.str a)] []
def ZbK:RawF (Zh 188 Tryz.f188):={ m:=_ }
def ZbL:MCode:=cut0 ZbK 42
def ZbM:MCode:=cut0 ZbK 56
def ZbN:MCode:=cut0 ZbK 57
def QI:MCode:=cut3 ZbK 21 21 ZbL 35 ZbM 36 ZbN
def QJ:MCode:=cut0 ZbK 58
def Ztu:MFun:=Zt ZbK 21 QI 58 QJ
def JG(x:Zf):Rs:=C 188 [.ptr 0 0] [.box (x.c.map .t)]
def Zey(c:Zf)(cl cc:Int)(x:List Zc)(cd n:Int):Rs:=EvL C [.blk 0,.seq QJ,.fin 1 [.cellO 2 (some 2) [none,some (1000000185,2)]]] [0,2,4,6,7] QI ⟨[(0,.ptr 0 0),(2,.ptr 1 0),(4,.ptr 2 0),(6,.ptr 4 0),(7,I n)],[[(0,.ptr 0 0)]],[.box (c.c.map .t),.box [I cl,.t .nil],.box [I cc,.own 3],.xarr 185 2 (x.map Zc.c),.box [I cd,.t .nil]]⟩
def Zez(c:Zf)(cl cc:Int)(x:List Zc)(cd:Int)(cn:V5)(n m v i:Int):Rs:=EvL C [.blk 2,.seq ZbM,.blk 1,.seq ZbN,.loop [0,2,4,6,7] QI,.blk 0,.seq QJ,.fin 1 [.cellO 2 (some 2) [none,some (1000000185,2)]]] [0,2,4,6,7,9,10,11,12] ZbL ⟨[(0,.ptr 0 0),(2,.ptr 1 0),(4,.ptr 2 0),(6,.ptr 4 0),(7,I n),(9,.ptr 5 0),(10,I m),(11,I v),(12,I i)],[[(0,.ptr 0 0)]],[.box (c.c.map .t),.box [I cl,.t .nil],.box [I cc,.own 3],.xarr 185 2 (x.map Zc.c),.box [I cd,.t .nil],.box [.t (.str cn),.t .nil]]⟩
def Ze0(c:Zf)(cl cc:Int)(x:List Zc)(cd:Int)(cn:V5)(x1:WA)(n m v i:Int):Rs:=EvL C [.blk 2,.seq ZbM,.blk 1,.seq ZbN,.loop [0,2,4,6,7] QI,.blk 0,.seq QJ,.fin 1 [.cellO 2 (some 2) [none,some (1000000185,2)]]] [0,2,4,6,7,9,10,11,12] ZbL ⟨[(0,.ptr 0 0),(2,.ptr 1 0),(4,.ptr 2 0),(6,.ptr 4 0),(7,I n),(9,.ptr 5 0),(10,I m),(11,I v),(12,I i)],[[(0,.ptr 0 0)]],[.box (c.c.map .t),.box [I cl,.t .nil],.box [I cc,.own 3],.xarr 185 2 (x.map Zc.c),.box [I cd,.t .nil],.box [.t (.str cn),.own 6],.arr 3 1 true (x1.map ic)]⟩
def Ur(c:Zf)(cl cc:Int)(x:List Zc)(cd:Int)(x1:List Zc)(n:Int):Rs:=EvL C [.blk 0,.seq QJ,.fin 1 [.cellO 2 (some 2) [none,some (1000000185,2)]]] [0,2,4,6,7] QI ⟨[(0,.ptr 0 0),(2,.ptr 1 0),(4,.ptr 2 0),(6,.ptr 4 0),(7,I n)],[[(0,.ptr 0 0)]],[.box (c.c.map .t),.box [I cl,.t .nil],.box [I cc,.own 3],.xarr 185 2 (x.map Zc.c),.box [I cd,.own 5],.xarr 185 2 (x1.map Zc.c)]⟩
def Ze1(c:Zf)(cl cc:Int)(x:List Zc)(cd:Int)(x1:List Zc)(cn:V5)(n m v i:Int):Rs:=EvL C [.blk 2,.seq ZbM,.blk 1,.seq ZbN,.loop [0,2,4,6,7] QI,.blk 0,.seq QJ,.fin 1 [.cellO 2 (some 2) [none,some (1000000185,2)]]] [0,2,4,6,7,9,10,11,12] ZbL ⟨[(0,.ptr 0 0),(2,.ptr 1 0),(4,.ptr 2 0),(6,.ptr 4 0),(7,I n),(9,.ptr 6 0),(10,I m),(11,I v),(12,I i)],[[(0,.ptr 0 0)]],[.box (c.c.map .t),.box [I cl,.t .nil],.box [I cc,.own 3],.xarr 185 2 (x.map Zc.c),.box [I cd,.own 5],.xarr 185 2 (x1.map Zc.c),.box [.t (.str cn),.t .nil]]⟩
def Ze2(c:Zf)(cl cc:Int)(x:List Zc)(cd:Int)(x1:List Zc)(cn:V5)(x2:WA)(n m v i:Int):Rs:=EvL C [.blk 2,.seq ZbM,.blk 1,.seq ZbN,.loop [0,2,4,6,7] QI,.blk 0,.seq QJ,.fin 1 [.cellO 2 (some 2) [none,some (1000000185,2)]]] [0,2,4,6,7,9,10,11,12] ZbL ⟨[(0,.ptr 0 0),(2,.ptr 1 0),(4,.ptr 2 0),(6,.ptr 4 0),(7,I n),(9,.ptr 6 0),(10,I m),(11,I v),(12,I i)],[[(0,.ptr 0 0)]],[.box (c.c.map .t),.box [I cl,.t .nil],.box [I cc,.own 3],.xarr 185 2 (x.map Zc.c),.box [I cd,.own 5],.xarr 185 2 (x1.map Zc.c),.box [.t (.str cn),.own 7],.arr 3 1 true (x2.map ic)]⟩
def Ztv:MFun:=mkF (Zh 28 Tryz.f28)
def JH(a:Ze):Rs:=C 28 [.agg (a.c.map .t)] []
def Ztw:MFun:=mkF (Zh 161 Tryz.f161)
def ZbO(a:Ze)(a1:Int):Rs:=C 161 [.agg (a.c.map .t),I a1] []
def Ze3:RawF (Zh 222 Tryz.f222):={ m:=_ }
def Zls:MCode:=cut0 Ze3 21
def Zlt:MCode:=cut0 Ze3 31
def Zhz:MCode:=cut2 Ze3 9 12 Zls 22 Zlt
def Zh0:MCode:=cut0 Ze3 32
def Ztx:MFun:=Zt Ze3 9 Zhz 32 Zh0
def Vs(a:Ze)(a1:Int):Rs:=C 222 [.agg (a.c.map .t),I a1] []
def JI(q:Ze)(cc x i:Int):Rs:=EvL C [.blk 0,.seq Zh0,.fin 0 [.tmp 4]] [1,2,5,6] Zhz ⟨[(1,I cc),(2,.ptr 0 0),(5,I x),(6,I i)],[[]],[.box (q.c.map .t)]⟩
def ZbP(q:Ze)(cc x i k:Int):Rs:=EvL C [.blk 2,.blk 1,.seq Zlt,.loop [1,2,5,6] Zhz,.blk 0,.seq Zh0,.fin 0 [.tmp 4]] [1,2,5,6,7] Zls ⟨[(1,I cc),(2,.ptr 0 0),(5,I x),(6,I i),(7,I k)],[[]],[.box (q.c.map .t)]⟩
def Zh1:RawF (Zh 234 Tryz.f234):={ m:=_ }
def Zty:MCode:=cut0 Zh1 24
def Zlu:MCode:=cut1 Zh1 11 13 Zty
def Zlv:MCode:=cut0 Zh1 25
def Ztz:MFun:=Zt Zh1 11 Zlu 25 Zlv
def Zh2(a:Ze)(a1:Int):Rs:=C 234 [.agg (a.c.map .t),I a1] []
def JJ(q:Ze)(cd cl cc i:Int):Rs:=EvL C [.blk 0,.seq Zlv,.fin 0 [.tmp 4]] [1,2,5,6,7] Zlu ⟨[(1,I cd),(2,.ptr 0 0),(5,I cl),(6,I cc),(7,I i)],[[]],[.box (q.c.map .t)]⟩
def Zlw:RawF (Zh 162 Tryz.f162):={ m:=_ }
def Zlx:MCode:=cut0 Zlw 9
def Zly:MCode:=cut0 Zlw 19
def Zt0:MFun:=Zt Zlw 9 Zlx 19 Zly
def ZbQ(a:Ze)(a1:Int):Rs:=C 162 [.agg (a.c.map .t),I a1] []
def Ze4(q:Ze)(cc x n:Int):Rs:=EvL C [.blk 0,.seq Zly,.fin 0 [.tmp 4]] [1,2,5,6] Zlx ⟨[(1,I cc),(2,.ptr 0 0),(5,I x),(6,I n)],[[]],[.box (q.c.map .t)]⟩
def Zt1:MFun:=mkF (Zh 88 Tryz.f88)
def Zh3(a:Ze)(a1:Int):Rs:=C 88 [.agg (a.c.map .t),I a1] []
def Zh4:RawF (Zh 244 Tryz.f244):={ m:=_ }
def Zt2:MCode:=cut0 Zh4 30
def Zlz:MCode:=cut1 Zh4 17 13 Zt2
def Zl0:MCode:=cut0 Zh4 31
def Zt3:MFun:=Zt Zh4 17 Zlz 31 Zl0
def JK(a:Ze)(a1:Int):Rs:=C 244 [.agg (a.c.map .t),I a1] []
def QK(q:Ze)(cd:WA)(cc m:Int):Rs:=EvL C [.blk 0,.seq Zl0,.fin 0 [.tmp 4]] [1,2,5,6] Zlz ⟨[(1,I cc),(2,.ptr 0 0),(5,.own 1),(6,I m)],[[]],[.box (q.c.map .t),.arr 3 1 true (cd.map ic)]⟩
def Zh5:RawF (Zh 245 Tryz.f245):={ m:=_ }
def Zt4:MCode:=cut0 Zh5 22
def Zl1:MCode:=cut1 Zh5 9 13 Zt4
def Zl2:MCode:=cut0 Zh5 23
def Zt5:MFun:=Zt Zh5 9 Zl1 23 Zl2
def Ze5(a:Int):Rs:=C 245 [I a] []
def JL(cc:WA)(c i:Int):Rs:=EvL C [.blk 0,.seq Zl2,.fin 0 [.tmp 2]] [0,3,4] Zl1 ⟨[(0,I c),(3,.own 0),(4,I i)],[[]],[.arr 3 1 true (cc.map ic)]⟩
def Zt6:MFun:=mkF (Zh 246 Tryz.f246)
def ZbR(a:Int):Rs:=C 246 [I a] []
def Zt7:MFun:=mkF (Zh 247 Tryz.f247)
def Qn(a a1:Zo)(a2 a3:Int):Rs:=C 247 [.agg (a.c.map .t),.agg (a1.c.map .t),I a2,I a3] []
def Zh6:RawF (Zh 226 Tryz.f226):={ m:=_ }
def Zt8:MCode:=cut0 Zh6 22
def Zl3:MCode:=cut1 Zh6 9 13 Zt8
def Zl4:MCode:=cut0 Zh6 23
def Zt9:MFun:=Zt Zh6 9 Zl3 23 Zl4
def Zl5(a:Int):Rs:=C 226 [I a] []
def JM(cc:WA)(c v:Int):Rs:=EvL C [.blk 0,.seq Zl4,.fin 0 [.tmp 2]] [0,3,4] Zl3 ⟨[(0,I c),(3,.own 0),(4,I v)],[[]],[.arr 3 1 true (cc.map ic)]⟩
def ZtA:MFun:=mkF (Zh 152 Tryz.f152)
def UE(a:Ze)(a1:Int):Rs:=C 152 [.agg (a.c.map .t),I a1] []
def Zh7:RawF (Zh 248 Tryz.f248):={ m:=_ }
def ZtB:MCode:=cut0 Zh7 26
def Zl6:MCode:=cut1 Zh7 13 13 ZtB
def Zl7:MCode:=cut0 Zh7 27
def ZtC:MFun:=Zt Zh7 13 Zl6 27 Zl7
def Ze6(a:Ze)(a1 a2:Int):Rs:=C 248 [.agg (a.c.map .t),I a1,I a2] []
def ZbS(c x y:WA)(i:Int):Rs:=EvL C [.blk 0,.seq Zl7,.fin 0 [.tmp 6]] [7,8,9,10] Zl6 ⟨[(7,.own 0),(8,.own 1),(9,.own 2),(10,I i)],[[]],[.arr 3 1 true (c.map ic),.arr 3 1 true (x.map ic),.arr 3 1 true (y.map ic)]⟩
def ZtD:MFun:=mkF (Zh 221 Tryz.f221)
def JN(a a1:Int):Rs:=C 221 [I a,I a1] []
def Zh8:RawF (Zh 149 Tryz.f149):={ m:=_ }
def ZtE:MCode:=cut0 Zh8 91
def Zh9:MCode:=cut1 Zh8 77 14 ZtE
def ZhA:MCode:=cut1 Zh8 46 31 Zh9
def ZtF:MFun:=WT Zh8 46 ZhA
def JO(a:Ze)(a1:Zj)(a2:List Za)(a3:WA):Rs:=C 149 [.agg (a.c.map .t),.agg (a1.c.map .t),L 4 (a2.map Za.c),L 1 (a3.map ic)] []
def JP(q:Ze)(x:Zj)(x1:Za)(cd:List Za)(cc:WA)(n x2:Int)(x3:Bool):Rs:=Ev C [.blk 0,.seq (.seq (.reg [.o 213 (.build [.t (.int .i64 0),.t (.int .i64 0),.t (.int .i64 0),.t (.int .i64 0)] []),.n (.store 4 (.s 8) (.s 213)),.o 9 (.mov (.k (-1)))] [8,9]) (.ret)),.fin 0 [.cell 8 (some 4),.tmp 9]] ZhA ⟨[(2,L 4 (cd.map Za.c)),(3,L 1 (cc.map ic)),(4,.ptr 0 0),(5,.ptr 1 0),(8,.ptr 2 0),(10,I n),(18,I x2),(106,Bo x3)],[[]],[.box (q.c.map .t),.box (x.c.map .t),.box (x1.c.map .t)]⟩
def ZbT(x:Ze)(x1:Zj)(x2 a b y:Za)(v:Int):Rs:=Ev C [.blk 0,.seq (.seq (.reg [.o 213 (.build [.t (.int .i64 0),.t (.int .i64 0),.t (.int .i64 0),.t (.int .i64 0)] []),.n (.store 4 (.s 8) (.s 213)),.o 9 (.mov (.k (-1)))] [8,9]) (.ret)),.fin 0 [.cell 8 (some 4),.tmp 9]] Zh9 ⟨[(5,.ptr 1 0),(8,.ptr 2 0),(11,.ptr 3 0),(12,.ptr 4 0),(13,I v),(14,.ptr 5 0)],[[]],[.box (x.c.map .t),.box (x1.c.map .t),.box (x2.c.map .t),.box (a.c.map .t),.box (b.c.map .t),.box (y.c.map .t)]⟩
def K5(x:Ze)(x1:Zj)(x2 a b y:Za)(v:Int)(x3:Bool):Rs:=Ev C [.blk 0,.seq (.seq (.reg [.o 213 (.build [.t (.int .i64 0),.t (.int .i64 0),.t (.int .i64 0),.t (.int .i64 0)] []),.n (.store 4 (.s 8) (.s 213)),.o 9 (.mov (.k (-1)))] [8,9]) (.ret)),.fin 0 [.cell 8 (some 4),.tmp 9]] Zh9 ⟨[(5,.ptr 1 0),(8,.ptr 2 0),(11,.ptr 3 0),(12,.ptr 4 0),(13,I v),(14,.ptr 5 0),(182,Bo x3)],[[]],[.box (x.c.map .t),.box (x1.c.map .t),.box (x2.c.map .t),.box (a.c.map .t),.box (b.c.map .t),.box (y.c.map .t)]⟩
def Zl8:RawF (Zh 76 Tryz.f76):={ m:=_ }
def Zl9:MCode:=cut0 Zl8 19
def ZlA:MCode:=cut0 Zl8 41
def ZtG:MFun:=Zt Zl8 19 Zl9 41 ZlA
def K6(a:Ze)(a1:Zo):Rs:=C 76 [.agg (a.c.map .t),.agg (a1.c.map .t)] []
def Ze7(q:Ze)(p:Zo)(cd:List Za)(cc:WA)(i:Int):Rs:=EvL C [.blk 0,.seq ZlA,.fin 0 [.tmp 4,.tmp 5]] [2,3,6,7,8] Zl9 ⟨[(2,.ptr 0 0),(3,.ptr 1 0),(6,.own 2),(7,.own 3),(8,I i)],[[]],[.box (q.c.map .t),.box (p.c.map .t),.arr 113 4 true (cd.map Za.c),.arr 3 1 true (cc.map ic)]⟩
def ZtH:MFun:=mkF (Zh 249 Tryz.f249)
def ZbU(a:Ze)(a1:Zo):Rs:=C 249 [.agg (a.c.map .t),.agg (a1.c.map .t)] []
def ZtI:MFun:=mkF (Zh 250 Tryz.f250)
def ZbV(a:Zo)(a1:Int):Rs:=C 250 [.agg (a.c.map .t),I a1] []
def ZlB:RawF (Zh 175 Tryz.f175):={ m:=_ }
def ZtJ:MCode:=cut0 ZlB 61
def ZtK:MCode:=cut1 ZlB 55 6 ZtJ
def ZtL:MFun:=WT ZlB 55 ZtK
def JQ(x:Zf)(a:Ze)(a1:Int):Rs:=C 175 [.ptr 0 0,.agg (a.c.map .t),I a1] [.box (x.c.map .t)]
def ZtM:RawF (Zh 189 Tryz.f189):={ m:=_ }
def ZtN:MCode:=cut0 ZtM 25
def ZtO:MFun:=WT ZtM 25 ZtN
def Ze8(x:Zf):Rs:=C 189 [.ptr 0 0] [.box (x.c.map .t)]
def ZtP:RawF (Zh 120 Tryz.f120):={ m:=_ }
def ZtQ:MCode:=cut0 ZtP 31
def ZtR:MFun:=WT ZtP 31 ZtQ
def ZbW(x:Zf):Rs:=C 120 [.ptr 0 0] [.box (x.c.map .t)]
def ZtS:RawF (Zh 40 Tryz.f40):={ m:=_ }
def ZtT:MCode:=cut0 ZtS 12
def ZtU:MFun:=WT ZtS 12 ZtT
def Ze9(a:WA):Rs:=C 40 [L 1 (a.map (kc .u8))] []
def ZtV:MFun:=mkF (Zh 41 Tryz.f41)
def ZeA(x:Zf):Rs:=C 41 [.ptr 0 0] [.box (x.c.map .t)]
def ZtW:MFun:=mkF (Zh 121 Tryz.f121)
def ZeB(x:Zf)(a:Ze):Rs:=C 121 [.ptr 0 0,.agg (a.c.map .t)] [.box (x.c.map .t)]
def ZlC:RawF (Zh 216 Tryz.f216):={ m:=_ }
def ZlD:MCode:=cut0 ZlC 7
def ZlE:MCode:=cut0 ZlC 23
def ZtX:MFun:=Zt ZlC 7 ZlD 23 ZlE
def ZbX(a:WA)(a1:Int):Rs:=C 216 [L 1 (a.map ic),I a1] []
def ZeC(c:WA)(n i:Int):Rs:=EvL C [.blk 0,.seq ZlE,.fin 0 [.tmp 4]] [0,1,5] ZlD ⟨[(0,L 1 (c.map ic)),(1,I n),(5,I i)],[[]],[]⟩
def ZlF:RawF (Zh 273 Tryz.f273):={ m:=_ }
def ZlG:MCode:=cut0 ZlF 15
def ZlH:MCode:=cut0 ZlF 31
def ZtY:MFun:=Zt ZlF 15 ZlG 31 ZlH
def ZhB(a:Zq):Rs:=C 273 [.agg (a.c.map .t)] []
def ZbY(t:Zq)(i:Int):Rs:=EvL C [.blk 0,.seq ZlH,.fin 0 [.tmp 2]] [1,3] ZlG ⟨[(1,.ptr 0 0),(3,I i)],[[]],[.box (t.c.map .t)]⟩
def ZlI:RawF (Zh 224 Tryz.f224):={ m:=_ }
def ZlJ:MCode:=cut0 ZlI 7
def ZlK:MCode:=cut0 ZlI 23
def ZtZ:MFun:=Zt ZlI 7 ZlJ 23 ZlK
def ZhC(a:Zn):Rs:=C 224 [.agg (a.c.map .t)] []
def ZbZ(d:Zn)(i:Int):Rs:=EvL C [.blk 0,.seq ZlK,.fin 0 [.tmp 2]] [1,3] ZlJ ⟨[(1,.ptr 0 0),(3,I i)],[[]],[.box (d.c.map .t)]⟩
def ZlL:RawF (Zh 225 Tryz.f225):={ m:=_ }
def ZhD:MCode:=cut0 ZlL 9
def ZhE:MCode:=cut0 ZlL 19
def Zua:MFun:=Zt ZlL 9 ZhD 19 ZhE
def ZeD(a:Zq):Rs:=C 225 [.agg (a.c.map .t)] []
def ZlM(t:Zq)(cn:V5)(cd:Int)(cl:V5)(cc i:Int):Rs:=EvL C [.blk 0,.seq ZhE,.fin 0 [.cell 2 (some 3)]] [1,2,3,4] ZhD ⟨[(1,.ptr 0 0),(2,.ptr 1 0),(3,.ptr 2 0),(4,I i)],[[]],[.box (t.c.map .t),.box [.t (.str cn),I cd,.t .nil],.box [.t (.str cl),I cc,.t .nil]]⟩
def ZeE(t:Zq)(cn:V5)(cd:Int)(cl:V5)(cc:Int)(x:XS)(i:Int):Rs:=EvL C [.blk 0,.seq ZhE,.fin 0 [.cell 2 (some 3)]] [1,2,3,4] ZhD ⟨[(1,.ptr 0 0),(2,.ptr 1 0),(3,.ptr 2 0),(4,I i)],[[]],[.box (t.c.map .t),.box [.t (.str cn),I cd,.t .nil],.box [.t (.str cl),I cc,.own 3],.arr 42 1 true (x.map isc)]⟩
def ZlN:RawF (Zh 151 Tryz.f151):={ m:=_ }
def ZlO:MCode:=cut0 ZlN 7
def ZlP:MCode:=cut0 ZlN 23
def Zub:MFun:=Zt ZlN 7 ZlO 23 ZlP
def UF(a:Zn)(a1:V5):Rs:=C 151 [.agg (a.c.map .t),.t (.str a1)] []
def ZeF(d:Zn)(cd:V5)(cc:Int)(cl:V5)(i:Int):Rs:=EvL C [.blk 0,.seq ZlP,.fin 0 [.cell 4 (some 3),.tmp 5]] [1,2,4,6] ZlO ⟨[(1,.t (.str cl)),(2,.ptr 0 0),(4,.ptr 1 0),(6,I i)],[[]],[.box (d.c.map .t),.box [.t (.str cd),I cc,.t .nil]]⟩
def ZlQ:RawF (Zh 106 Tryz.f106):={ m:=_ }
def ZlR:MCode:=cut0 ZlQ 15
def ZlS:MCode:=cut0 ZlQ 33
def Zuc:MFun:=Zt ZlQ 15 ZlR 33 ZlS
def QL(a:Zn)(a1:Ze):Rs:=C 106 [.agg (a.c.map .t),.agg (a1.c.map .t)] []
def Zca(d:Zn)(q:Ze)(i:Int):Rs:=EvL C [.blk 0,.seq ZlS,.fin 0 [.tmp 4]] [2,3,5] ZlR ⟨[(2,.ptr 0 0),(3,.ptr 1 0),(5,I i)],[[]],[.box (d.c.map .t),.box (q.c.map .t)]⟩
def K7:RawF (Zh 227 Tryz.f227):={ m:=_ }
def ZlT:MCode:=cut0 K7 34
def ZlU:MCode:=cut0 K7 44
def ZhF:MCode:=cut2 K7 22 12 ZlT 22 ZlU
def ZhG:MCode:=cut0 K7 45
def ZhH:MCode:=cut0 K7 52
def ZeG:MCode:=cut3 K7 7 15 ZhF 38 ZhG 45 ZhH
def ZeH:MCode:=cut0 K7 53
def Zud:MFun:=Zt K7 7 ZeG 53 ZeH
def ZeI(a:Zq)(a1:Zc)(a2 a3:WA):Rs:=C 227 [.agg (a.c.map .t),.agg (a1.c.map .t),L 1 (a2.map ic),L 1 (a3.map ic)] []
def JR(t:Zq)(a:Zc)(cc cd:WA)(i:Int):Rs:=EvL C [.blk 0,.seq ZeH,.fin 0 [.tmp 8]] [2,3,4,5,9] ZeG ⟨[(2,L 1 (cc.map ic)),(3,L 1 (cd.map ic)),(4,.ptr 0 0),(5,.ptr 1 0),(9,I i)],[[]],[.box (t.c.map .t),.box (a.c.map .t)]⟩
def JS(t:Zq)(a:Zc)(cc cd:WA)(i:Int)(is:Bool)(k:Int):Rs:=EvL C [.blk 2,.seq ZhG,.blk 1,.seq ZhH,.loop [2,3,4,5,9] ZeG,.blk 0,.seq ZeH,.fin 0 [.tmp 8]] [2,3,4,5,9,10,11] ZhF ⟨[(2,L 1 (cc.map ic)),(3,L 1 (cd.map ic)),(4,.ptr 0 0),(5,.ptr 1 0),(9,I i),(10,Bo is),(11,I k)],[[]],[.box (t.c.map .t),.box (a.c.map .t)]⟩
def JT(t:Zq)(a:Zc)(cc cd:WA)(i:Int)(is:Bool)(k j:Int):Rs:=EvL C [.blk 4,.blk 3,.seq ZlU,.loop [2,3,4,5,9,10,11] ZhF,.blk 2,.seq ZhG,.blk 1,.seq ZhH,.loop [2,3,4,5,9] ZeG,.blk 0,.seq ZeH,.fin 0 [.tmp 8]] [2,3,4,5,9,10,11,12] ZlT ⟨[(2,L 1 (cc.map ic)),(3,L 1 (cd.map ic)),(4,.ptr 0 0),(5,.ptr 1 0),(9,I i),(10,Bo is),(11,I k),(12,I j)],[[]],[.box (t.c.map .t),.box (a.c.map .t)]⟩
def ZeJ:RawF (Zh 153 Tryz.f153):={ m:=_ }
def ZlV:MCode:=cut0 ZeJ 7
def ZlW:MCode:=cut0 ZeJ 38
def ZlX:MCode:=cut0 ZeJ 48
def ZlY:MCode:=cut2 ZeJ 23 15 ZlW 25 ZlX
def Zue:MFun:=Zt ZeJ 7 ZlV 23 ZlY
def JU(x:List Zq)(fr:Bool)(x1:List Zc)(x2 x3:WA):Rs:=C 153 [.own 0,.own 1,.own 2,.own 3] [.arr 181 3 true (x.map Zq.c),.arr 185 2 fr (x1.map Zc.c),.arr 3 1 true (x2.map ic),.arr 3 1 true (x3.map ic)]
def Zcb(l:List Zq)(fr:Bool)(cc:List Zc)(cd cl:WA)(i:Int):Rs:=EvL C [.blk 0,.seq ZlY,.fin 4 [.tmp 8]] [0,1,2,3,9] ZlV ⟨[(0,.own 0),(1,.own 1),(2,.own 2),(3,.own 3),(9,I i)],[[(0,.own 0),(1,.own 1),(2,.own 2),(3,.own 3)]],[.arr 181 3 true (l.map Zq.c),.arr 185 2 fr (cc.map Zc.c),.arr 3 1 true (cd.map ic),.arr 3 1 true (cl.map ic)]⟩
def Zcc(l:List Zq)(fr:Bool)(cc:List Zc)(cd co:WA)(cl:Bool)(cn:XS)(v:Int):Rs:=EvL C [.blk 2,.seq ZlX,.fin 4 [.tmp 8]] [0,1,2,3,10,11] ZlW ⟨[(0,.own 0),(1,.own 1),(2,.own 2),(3,.own 3),(10,.own 4),(11,I v)],[[(0,.own 0),(1,.own 1),(2,.own 2),(3,.own 3)]],[.arr 181 3 true (l.map Zq.c),.arr 185 2 fr (cc.map Zc.c),.arr 3 1 true (cd.map ic),.arr 3 1 true (co.map ic),.arr 42 1 cl (cn.map isc)]⟩
def ZhI:RawF (Zh 81 Tryz.f81):={ m:=_ }
def Zuf:MCode:=cut0 ZhI 36
def ZlZ:MCode:=cut1 ZhI 19 17 Zuf
def Zma:MCode:=cut0 ZhI 37
def Zug:MFun:=Zt ZhI 19 ZlZ 37 Zma
def JV(a:Zn)(a1:Ze)(a2:Int):Rs:=C 81 [.agg (a.c.map .t),.agg (a1.c.map .t),I a2] []
def JW(d:Zn)(q:Ze)(l:List Zq)(fr:Bool)(cc:List Zc)(cd i:Int):Rs:=EvL C [.blk 0,.seq Zma,.fin 0 [.cell 6 (some 2),.tmp 7]] [2,3,4,6,8,9,10] ZlZ ⟨[(2,I cd),(3,.ptr 0 0),(4,.ptr 1 0),(6,.ptr 2 0),(8,.own 3),(9,.own 4),(10,I i)],[[]],[.box (d.c.map .t),.box (q.c.map .t),.box [.t .nil,.t .nil],.arr 181 3 true (l.map Zq.c),.arr 185 2 fr (cc.map Zc.c)]⟩
def Zuh:MFun:=mkF (Zh 14 Tryz.f14)
def Vt(a:Zn)(a1:Ze)(a2:Int):Rs:=C 14 [.agg (a.c.map .t),.agg (a1.c.map .t),I a2] []
def ZhJ(x:Zf)(a:WA):Rs:=C 95 [.ptr 0 0,L 1 (a.map ic)] [.box (x.c.map .t)]
def ZeK:RawF (Zh 68 Tryz.f68):={ m:=_ }
def Zui:MCode:=cut0 ZeK 27
def Zmb:MCode:=cut1 ZeK 11 16 Zui
def Zuj:MCode:=cut0 ZeK 39
def Zmc:MCode:=cut1 ZeK 33 6 Zuj
def Zuk:MFun:=Zt ZeK 11 Zmb 33 Zmc
def UG(a:List Zd)(a1:Zd):Rs:=C 68 [L 2 (a.map Zd.c),.agg (a1.c.map .t)] []
def Qo(x:Zd)(cc l:List Zd)(cd:Bool)(i:Int):Rs:=EvL C [.blk 0,.seq Zmc,.fin 0 [.tmp 4]] [0,3,5,6,7] Zmb ⟨[(0,L 2 (l.map Zd.c)),(3,.ptr 0 0),(5,.own 1),(6,Bo cd),(7,I i)],[[]],[.box (x.c.map .t),.arr 52 2 true (cc.map Zd.c)]⟩
def ZhK:RawF (Zh 42 Tryz.f42):={ m:=_ }
def Zul:MCode:=cut0 ZhK 27
def Zmd:MCode:=cut1 ZhK 9 18 Zul
def Zme:MCode:=cut0 ZhK 29
def Zum:MFun:=Zt ZhK 9 Zmd 29 Zme
def ZhL(x:Zf)(a:Zn)(a1:Ze):Rs:=C 42 [.ptr 0 0,.agg (a.c.map .t),.agg (a1.c.map .t)] [.box (x.c.map .t)]
def Zcd(c:Zf)(d:Zn)(q:Ze)(l:List Zd)(k:Int):Rs:=EvL C [.blk 0,.seq Zme,.fin 1 [.tmpO 6 [some (2,0)]]] [0,4,5,7,8] Zmd ⟨[(0,.ptr 0 0),(4,.ptr 1 0),(5,.ptr 2 0),(7,.own 3),(8,I k)],[[(0,.ptr 0 0)]],[.box (c.c.map .t),.box (d.c.map .t),.box (q.c.map .t),.arr 52 2 true (l.map Zd.c)]⟩
def Zun:MFun:=mkF (Zh 7 Tryz.f7)
def ZeL(a:WA):Rs:=C 7 [L 1 (a.map (kc .u8))] []
def Zuo:MFun:=mkF (Zh 45 Tryz.f45)
def ZC(a a1 a2:Int):Rs:=C 45 [I a,I a1,I a2] []
def Zup:MFun:=mkF (Zh 217 Tryz.f217)
def JX(a:V5):Rs:=C 217 [.t (.str a)] []
def Zmf:RawF (Zh 130 Tryz.f130):={ m:=_ }
def Zmg:MCode:=cut0 Zmf 7
def Zmh:MCode:=cut0 Zmf 25
def Zuq:MFun:=Zt Zmf 7 Zmg 25 Zmh
def WX(a:WA)(a1:Int):Rs:=C 130 [L 1 (a.map ic),I a1] []
def ZeM(s:WA)(v x x1:Int):Rs:=EvL C [.blk 0,.seq Zmh,.fin 0 [.tmp 4]] [0,1,7,8] Zmg ⟨[(0,L 1 (s.map ic)),(1,I v),(7,I x),(8,I x1)],[[]],[]⟩
def Zur:MFun:=mkF (Zh 49 Tryz.f49)
def VY(a:WA)(a1:Int):Rs:=C 49 [L 1 (a.map ic),I a1] []
def Zmi:RawF (Zh 272 Tryz.f272):={ m:=_ }
def Zmj:MCode:=cut0 Zmi 7
def Zmk:MCode:=cut0 Zmi 25
def Zus:MFun:=Zt Zmi 7 Zmj 25 Zmk
def ZhM(a:List Bool)(a1:Bool):Rs:=C 272 [L 1 (a.map bc),Bo a1] []
def Zce(s:List Bool)(v:Bool)(x x1:Int):Rs:=EvL C [.blk 0,.seq Zmk,.fin 0 [.tmp 4]] [0,1,7,8] Zmj ⟨[(0,L 1 (s.map bc)),(1,Bo v),(7,I x),(8,I x1)],[[]],[]⟩
def Zut:MFun:=mkF (Zh 218 Tryz.f218)
def ZeN(a:List Bool)(a1:Bool):Rs:=C 218 [L 1 (a.map bc),Bo a1] []
def ZeO:RawF (Zh 147 Tryz.f147):={ m:=_ }
def Zml:MCode:=cut0 ZeO 39
def Zmm:MCode:=cut0 ZeO 59
def ZhN:MCode:=cut2 ZeO 17 22 Zml 42 Zmm
def ZhO:MCode:=cut0 ZeO 60
def ZhP:MFun:=Zt ZeO 17 ZhN 60 ZhO
def JY(a:Ze):Rs:=C 147 [.agg (a.c.map .t)] []
def JZ(q:Ze)(cc:List Bool)(x:List Zc)(x1 x2:Int):Rs:=EvL C [.blk 0,.seq ZhO,.fin 0 [.tmp 2]] [1,3,23,24,25] ZhN ⟨[(1,.ptr 0 0),(3,.own 1),(23,L 2 (x.map Zc.c)),(24,I x1),(25,I x2)],[[]],[.box (q.c.map .t),.arr 4 1 true (cc.map bc)]⟩
def ZeP(q:Ze)(cc:List Bool)(a:Zc)(x:List Zc)(x1 x2:Int)(x3:WA)(x4 x5:Int):Rs:=EvL C [.blk 2,.blk 1,.seq Zmm,.loop [1,3,23,24,25] ZhN,.blk 0,.seq ZhO,.fin 0 [.tmp 2]] [1,3,5,23,24,25,41,42,43] Zml ⟨[(1,.ptr 0 0),(3,.own 1),(5,.ptr 2 0),(23,L 2 (x.map Zc.c)),(24,I x1),(25,I x2),(41,L 1 (x3.map ic)),(42,I x4),(43,I x5)],[[]],[.box (q.c.map .t),.arr 4 1 true (cc.map bc),.box (a.c.map .t)]⟩
def ZeQ:RawF (Zh 219 Tryz.f219):={ m:=_ }
def Zmn:MCode:=cut0 ZeQ 21
def Zmo:MCode:=cut0 ZeQ 39
def ZhQ:MCode:=cut2 ZeQ 9 12 Zmn 30 Zmo
def ZhR:MCode:=cut0 ZeQ 40
def Zuu:MFun:=Zt ZeQ 9 ZhQ 40 ZhR
def Zcf(a:Ze)(a1:Int):Rs:=C 219 [.agg (a.c.map .t),I a1] []
def Zaa(q:Ze)(cd:WA)(cc v:Int):Rs:=EvL C [.blk 0,.seq ZhR,.fin 0 [.tmp 4]] [1,2,5,6] ZhQ ⟨[(1,I cc),(2,.ptr 0 0),(5,.own 1),(6,I v)],[[]],[.box (q.c.map .t),.arr 3 1 true (cd.map ic)]⟩
def Zcg(q:Ze)(cd:WA)(cc v:Int)(x:List Zc)(x1 x2:Int):Rs:=EvL C [.blk 2,.blk 1,.seq Zmo,.loop [1,2,5,6] ZhQ,.blk 0,.seq ZhR,.fin 0 [.tmp 4]] [1,2,5,6,17,18,19] Zmn ⟨[(1,I cc),(2,.ptr 0 0),(5,.own 1),(6,I v),(17,L 2 (x.map Zc.c)),(18,I x1),(19,I x2)],[[]],[.box (q.c.map .t),.arr 3 1 true (cd.map ic)]⟩
def ZhS:RawF (Zh 220 Tryz.f220):={ m:=_ }
def Zuv:MCode:=cut0 ZhS 24
def Zmp:MCode:=cut1 ZhS 9 15 Zuv
def Zmq:MCode:=cut0 ZhS 25
def Zuw:MFun:=Zt ZhS 9 Zmp 25 Zmq
def ZhT(a a1:WA):Rs:=C 220 [L 1 (a.map ic),L 1 (a1.map ic)] []
def Zch(c b x:WA)(x1 x2:Int):Rs:=EvL C [.blk 0,.seq Zmq,.fin 0 [.tmp 4]] [1,5,9,10,11] Zmp ⟨[(1,L 1 (b.map ic)),(5,.own 0),(9,L 1 (x.map ic)),(10,I x1),(11,I x2)],[[]],[.arr 3 1 true (c.map ic)]⟩
def Zux:MFun:=mkF (Zh 148 Tryz.f148)
def Zci(a:Ze)(a1:Zj)(a2:List Za)(a3:WA):Rs:=C 148 [.agg (a.c.map .t),.agg (a1.c.map .t),L 4 (a2.map Za.c),L 1 (a3.map ic)] []
def ZhU:RawF (Zh 70 Tryz.f70):={ m:=_ }
def Zuy:MCode:=cut0 ZhU 52
def Zmr:MCode:=cut1 ZhU 19 33 Zuy
def Zms:MCode:=cut0 ZhU 54
def Zuz:MFun:=Zt ZhU 19 Zmr 54 Zms
def QM(a:Ze)(a1:Zo):Rs:=C 70 [.agg (a.c.map .t),.agg (a1.c.map .t)] []
def Zab(q:Ze)(cd:List Za)(cc:WA)(x:List Zj)(x1 x2:Int):Rs:=EvL C [.blk 0,.seq Zms,.fin 0 [.tmp 4,.tmp 5]] [2,6,7,25,26,27] Zmr ⟨[(2,.ptr 0 0),(6,.own 1),(7,.own 2),(25,L 3 (x.map Zj.c)),(26,I x1),(27,I x2)],[[]],[.box (q.c.map .t),.arr 113 4 true (cd.map Za.c),.arr 3 1 true (cc.map ic)]⟩
def Zu0:MFun:=mkF (Zh 254 Tryz.f254)
def Zmt(a:Zq)(a1:V5):Rs:=C 254 [.agg (a.c.map .t),.iptr [.str a1] 0] []
def Zmu:RawF (Zh 253 Tryz.f253):={ m:=_ }
def Zmv:MCode:=cut0 Zmu 7
def Zmw:MCode:=cut0 Zmu 25
def Zu1:MFun:=Zt Zmu 7 Zmv 25 Zmw
def ZhV(a:List Zq)(a1:V5):Rs:=C 253 [L 3 (a.map Zq.c),.fn 254 [.iptr [.str a1] 0]] []
def ZeR(s:List Zq)(f:V5)(x x1:Int):Rs:=EvL C [.blk 0,.seq Zmw,.fin 0 [.tmp 4]] [0,1,7,8] Zmv ⟨[(0,L 3 (s.map Zq.c)),(1,.fn 254 [.iptr [.str f] 0]),(7,I x),(8,I x1)],[[]],[]⟩
def Zmx:RawF (Zh 202 Tryz.f202):={ m:=_ }
def Zmy:MCode:=cut0 Zmx 7
def Zmz:MCode:=cut0 Zmx 25
def Zu2:MFun:=Zt Zmx 7 Zmy 25 Zmz
def Zac(a:WA)(a1:Int):Rs:=C 202 [L 1 (a.map ic),I a1] []
def ZeS(cc:WA)(c:Int)(x:WA)(x1 x2:Int):Rs:=EvL C [.blk 0,.seq Zmz,.fin 0 [.tmp 4]] [0,1,7,8,9] Zmy ⟨[(0,L 1 (cc.map ic)),(1,I c),(7,L 1 (x.map ic)),(8,I x1),(9,I x2)],[[]],[]⟩
def Zu3:MFun:=mkF (Zh 347 Tryz.f347)
def ZhW(a:Int):Rs:=C 347 [I a] []
def Zu4:MFun:=mkF (Zh 326 Tryz.f326)
def ZhX(a a1:Int):Rs:=C 326 [I a,I a1] []
def Zm0:RawF (Zh 268 Tryz.f268):={ m:=_ }
def Zm1:MCode:=cut0 Zm0 7
def Zm2:MCode:=cut0 Zm0 37
def Zu5:MFun:=Zt Zm0 7 Zm1 37 Zm2
def Zm3(a a1:WA):Rs:=C 268 [L 1 (a.map ic),L 1 (a1.map ic)] []
def Zcj(s1 s2 x:WA)(x1 x2:Int):Rs:=EvL C [.blk 0,.seq Zm2,.fin 0 [.tmp 4]] [0,1,9,10,11] Zm1 ⟨[(0,L 1 (s1.map ic)),(1,L 1 (s2.map ic)),(9,L 1 (x.map ic)),(10,I x1),(11,I x2)],[[]],[]⟩
def Zu6:MFun:=mkF (Zh 205 Tryz.f205)
def ZhY(a a1:WA):Rs:=C 205 [L 1 (a.map ic),L 1 (a1.map ic)] []
def Zm4:RawF (Zh 341 Tryz.f341):={ m:=_ }
def Zm5:MCode:=cut0 Zm4 7
def Zm6:MCode:=cut0 Zm4 23
def Zu7:MFun:=Zt Zm4 7 Zm5 23 Zm6
def ZhZ(a:XS):Rs:=C 341 [L 1 (a.map isc)] []
def ZeT(c:XS)(i:Int):Rs:=EvL C [.blk 0,.seq Zm6,.fin 0 [.tmp 2]] [0,3] Zm5 ⟨[(0,L 1 (c.map isc)),(3,I i)],[[]],[]⟩
def Zm7:RawF (Zh 305 Tryz.f305):={ m:=_ }
def Zm8:MCode:=cut0 Zm7 7
def Zm9:MCode:=cut0 Zm7 25
def Zu8:MFun:=Zt Zm7 7 Zm8 25 Zm9
def ZeU(a:Zq):Rs:=C 305 [.agg (a.c.map .t)] []
def ZeV(t:Zq)(x:XS)(x1 x2:Int):Rs:=EvL C [.blk 0,.seq Zm9,.fin 0 [.tmp 2]] [1,6,7,8] Zm8 ⟨[(1,.ptr 0 0),(6,L 1 (x.map isc)),(7,I x1),(8,I x2)],[[]],[.box (t.c.map .t)]⟩
def ZmA:RawF (Zh 255 Tryz.f255):={ m:=_ }
def ZmB:MCode:=cut0 ZmA 7
def ZmC:MCode:=cut0 ZmA 25
def Zu9:MFun:=Zt ZmA 7 ZmB 25 ZmC
def Zia(a:Zn):Rs:=C 255 [.agg (a.c.map .t)] []
def Zck(db:Zn)(x:List Zq)(x1 x2:Int):Rs:=EvL C [.blk 0,.seq ZmC,.fin 0 [.tmp 2]] [1,6,7,8] ZmB ⟨[(1,.ptr 0 0),(6,L 3 (x.map Zq.c)),(7,I x1),(8,I x2)],[[]],[.box (db.c.map .t)]⟩
def ZuA:MFun:=mkF (Zh 136 Tryz.f136)
def VZ(a:WA):Rs:=C 136 [L 1 (a.map ic)] []
def ZmD:RawF (Zh 191 Tryz.f191):={ m:=_ }
def ZmE:MCode:=cut0 ZmD 9
def ZmF:MCode:=cut0 ZmD 21
def ZuB:MFun:=Zt ZmD 9 ZmE 21 ZmF
def K8(a:XS):Rs:=C 191 [L 1 (a.map isc)] []
def ZeW(c x:XS)(x1 x2:Int):Rs:=EvL C [.blk 0,.seq ZmF,.fin 0 [.tmp 2]] [3,7,8,9] ZmE ⟨[(3,.own 0),(7,L 1 (x.map isc)),(8,I x1),(9,I x2)],[[]],[.arr 42 1 true (c.map isc)]⟩
def ZuC:MFun:=mkF (Zh 256 Tryz.f256)
def ZmG(a:Zq):Rs:=C 256 [.agg (a.c.map .t)] []
def ZuD:MFun:=mkF (Zh 178 Tryz.f178)
def Zad(a:Zn)(a1:V5):Rs:=C 178 [.agg (a.c.map .t),.t (.str a1)] []
def ZmH:RawF (Zh 102 Tryz.f102):={ m:=_ }
def ZmI:MCode:=cut0 ZmH 15
def ZmJ:MCode:=cut0 ZmH 35
def ZuE:MFun:=Zt ZmH 15 ZmI 35 ZmJ
def Zcl(a:Zn)(a1:Ze):Rs:=C 102 [.agg (a.c.map .t),.agg (a1.c.map .t)] []
def ZeX(db:Zn)(x:List Zc)(x1 x2:Int):Rs:=EvL C [.blk 0,.seq ZmJ,.fin 0 [.tmp 4]] [2,13,14,15] ZmI ⟨[(2,.ptr 0 0),(13,L 2 (x.map Zc.c)),(14,I x1),(15,I x2)],[[]],[.box (db.c.map .t)]⟩
def Zae(x:WA):Rs:=C 190 [.own 0] [.arr 3 1 true (x.map ic)]
end
end Go.Proofs.YtgbipcfdgfjplaaGreat
