/-
  Parts of the proofs for this seat: D3 T1 T2 T3 T4.
-/
import Derived.Test.YtgbipcfdgfjplaaGreatP8
import Derived.Test.YtgbipcfdgfjplaaGreatP9
import Derived.Test.YtgbipcfdgfjplaaGreatP10
set_option linter.unusedSectionVars false
set_option linter.unusedSimpArgs false
set_option linter.unusedVariables false
set_option maxRecDepth 100000
set_option maxHeartbeats 4000000
set_option cbv.maxSteps 9999999
namespace Go.Proofs.YtgbipcfdgfjplaaGreat
open Go.AM
noncomputable section
def QW:RawF (Zh 214 Tryz.f214):={ m:=_ }
def Zo7:MCode:=cut0 QW 53
def Zo8:MCode:=cut0 QW 73
def ZiH:MCode:=cut2 QW 39 14 Zo7 34 Zo8
def ZiI:MCode:=cut0 QW 74
def ZfH:MCode:=cut2 QW 27 12 ZiH 47 ZiI
def ZfI:MCode:=cut0 QW 75
def ZcO:MCode:=cut2 QW 15 12 ZfH 60 ZfI
def ZcP:MCode:=cut0 QW 76
def Zwj:MFun:=Zt QW 15 ZcO 76 ZcP
def ZiJ(a:Zr):Rs:=C 214 [.agg (a.c.map .t)] []
def ZcQ(o:Zr)(a:Int):Rs:=EvL C [.blk 0,.seq ZcP,.fin 0 [.tmp 2,.tmp 3,.tmp 4]] [1,5] ZcO ⟨[(1,.ptr 0 0),(5,I a)],[[]],[.box (o.c.map .t)]⟩
def ZcR(o:Zr)(a b:Int):Rs:=EvL C [.blk 2,.blk 1,.seq ZfI,.loop [1,5] ZcO,.blk 0,.seq ZcP,.fin 0 [.tmp 2,.tmp 3,.tmp 4]] [1,5,6] ZfH ⟨[(1,.ptr 0 0),(5,I a),(6,I b)],[[]],[.box (o.c.map .t)]⟩
def ZcS(o:Zr)(a b e:Int):Rs:=EvL C [.blk 4,.blk 3,.seq ZiI,.loop [1,5,6] ZfH,.blk 2,.blk 1,.seq ZfI,.loop [1,5] ZcO,.blk 0,.seq ZcP,.fin 0 [.tmp 2,.tmp 3,.tmp 4]] [1,5,6,7] ZiH ⟨[(1,.ptr 0 0),(5,I a),(6,I b),(7,I e)],[[]],[.box (o.c.map .t)]⟩
def QX(o:Zr)(x:WA)(a b e k:Int):Rs:=EvL C [.blk 6,.blk 5,.seq Zo8,.loop [1,5,6,7] ZiH,.blk 4,.blk 3,.seq ZiI,.loop [1,5,6] ZfH,.blk 2,.blk 1,.seq ZfI,.loop [1,5] ZcO,.blk 0,.seq ZcP,.fin 0 [.tmp 2,.tmp 3,.tmp 4]] [1,5,6,7,8,9] Zo7 ⟨[(1,.ptr 0 0),(5,I a),(6,I b),(7,I e),(8,.own 1),(9,I k)],[[]],[.box (o.c.map .t),.arr 3 1 true (x.map ic)]⟩
def ZaM:RawF (Zh 215 Tryz.f215):={ m:=_ }
def Zo9:MCode:=cut0 ZaM 31
def ZoA:MCode:=cut0 ZaM 47
def ZiK:MCode:=cut2 ZaM 19 12 Zo9 28 ZoA
def ZiL:MCode:=cut0 ZaM 48
def ZfJ:MCode:=cut2 ZaM 7 12 ZiK 41 ZiL
def ZfK:MCode:=cut0 ZaM 49
def Zwk:MFun:=Zt ZaM 7 ZfJ 49 ZfK
def ZiM(a:Zr):Rs:=C 215 [.agg (a.c.map .t)] []
def ZcT(o:Zr)(a:Int):Rs:=EvL C [.blk 0,.seq ZfK,.fin 0 [.tmp 2]] [1,3] ZfJ ⟨[(1,.ptr 0 0),(3,I a)],[[]],[.box (o.c.map .t)]⟩
def ZcU(o:Zr)(a b:Int):Rs:=EvL C [.blk 2,.blk 1,.seq ZiL,.loop [1,3] ZfJ,.blk 0,.seq ZfK,.fin 0 [.tmp 2]] [1,3,4] ZiK ⟨[(1,.ptr 0 0),(3,I a),(4,I b)],[[]],[.box (o.c.map .t)]⟩
def ZfL(o:Zr)(a b e:Int):Rs:=EvL C [.blk 4,.blk 3,.seq ZoA,.loop [1,3,4] ZiK,.blk 2,.blk 1,.seq ZiL,.loop [1,3] ZfJ,.blk 0,.seq ZfK,.fin 0 [.tmp 2]] [1,3,4,5] Zo9 ⟨[(1,.ptr 0 0),(3,I a),(4,I b),(5,I e)],[[]],[.box (o.c.map .t)]⟩
def ZoB:RawF (Zh 143 Tryz.f143):={ m:=_ }
def ZoC:MCode:=cut0 ZoB 7
def ZoD:MCode:=cut0 ZoB 45
def Zwl:MFun:=Zt ZoB 7 ZoC 45 ZoD
def ZiN(a:Zm):Rs:=C 143 [.agg (a.c.map .t)] []
def ZcV(m:Zm)(k:Int):Rs:=EvL C [.blk 0,.seq ZoD,.fin 0 [.tmp 2,.tmp 3,.tmp 4]] [1,5] ZoC ⟨[(1,.ptr 0 0),(5,I k)],[[]],[.box (m.c.map .t)]⟩
def Zwm:MFun:=mkF (Zh 59 Tryz.f59)
def QY(a:Zm):Rs:=C 59 [.agg (a.c.map .t)] []
def ZoE:RawF (Zh 77 Tryz.f77):={ m:=_ }
def ZoF:MCode:=cut0 ZoE 7
def ZoG:MCode:=cut0 ZoE 23
def Zwn:MFun:=Zt ZoE 7 ZoF 23 ZoG
def ZiO(a:List Zd)(a1:Int):Rs:=C 77 [L 2 (a.map Zd.c),I a1] []
def ZcW(l:List Zd)(cc i:Int):Rs:=EvL C [.blk 0,.seq ZoG,.fin 0 [.tmp 4]] [0,1,5] ZoF ⟨[(0,L 2 (l.map Zd.c)),(1,I cc),(5,I i)],[[]],[]⟩
def ZoH:RawF (Zh 67 Tryz.f67):={ m:=_ }
def ZoI:MCode:=cut0 ZoH 15
def ZoJ:MCode:=cut0 ZoH 31
def Zwo:MFun:=Zt ZoH 15 ZoI 31 ZoJ
def VI(a:Int):Rs:=C 67 [I a] []
def ZfM(n k:Int):Rs:=EvL C [.blk 0,.seq ZoJ,.fin 0 [.tmp 2]] [0,3] ZoI ⟨[(0,I n),(3,I k)],[[]],[]⟩
def Zwp:MFun:=mkF (Zh 66 Tryz.f66)
def Xm(a:Int):Rs:=C 66 [I a] []
def Zwq:MFun:=mkF (Zh 64 Tryz.f64)
def KW(a:Zm)(a1:Int):Rs:=C 64 [.agg (a.c.map .t),I a1] []
def ZoK:RawF (Zh 80 Tryz.f80):={ m:=_ }
def ZoL:MCode:=cut0 ZoK 5
def ZoM:MCode:=cut0 ZoK 13
def Zwr:MFun:=Zt ZoK 5 ZoL 13 ZoM
def ZcX(a:List Za)(a1:Int):Rs:=C 80 [L 4 (a.map Za.c),I a1] []
def ZfN(cc:List Za)(i:Int):Rs:=EvL C [.blk 0,.seq ZoM,.fin 0 [.tmp 4]] [0,1] ZoL ⟨[(0,L 4 (cc.map Za.c)),(1,I i)],[[]],[]⟩
def ZaN:RawF (Zh 13 Tryz.f13):={ m:=_ }
def Zws:MCode:=cut0 ZaN 57
def ZoN:MCode:=cut1 ZaN 44 13 Zws
def ZoO:MCode:=cut0 ZaN 58
def ZoP:MCode:=cut0 ZaN 59
def ZiP:MCode:=cut3 ZaN 19 25 ZoN 39 ZoO 40 ZoP
def ZiQ:MCode:=cut0 ZaN 60
def Zwt:MFun:=Zt ZaN 19 ZiP 60 ZiQ
def KX(a:Zm)(a1:Ze)(a2:Zo)(a3:List Zd):Rs:=C 13 [.agg (a.c.map .t),.agg (a1.c.map .t),.agg (a2.c.map .t),L 2 (a3.map Zd.c)] []
def QZ(m:Zm)(p:Zo)(cl:WA)(cc:List Za)(cd:List Zd)(i:Int):Rs:=EvL C [.blk 0,.seq ZiQ,.fin 0 [.tmp 8]] [3,4,6,9,10,12] ZiP ⟨[(3,L 2 (cd.map Zd.c)),(4,.ptr 0 0),(6,.ptr 1 0),(9,.own 2),(10,.own 3),(12,I i)],[[]],[.box (m.c.map .t),.box (p.c.map .t),.arr 3 1 true (cl.map ic),.arr 113 4 true (cc.map Za.c)]⟩
def ZcY(m:Zm)(p:Zo)(cn:WA)(cc:List Za)(cl:WA)(cd:List Zd)(i first k:Int):Rs:=EvL C [.blk 2,.seq ZoO,.blk 1,.seq ZoP,.loop [3,4,6,9,10,12] ZiP,.blk 0,.seq ZiQ,.fin 0 [.tmp 8]] [3,4,6,9,10,12,14,15,16] ZoN ⟨[(3,L 2 (cd.map Zd.c)),(4,.ptr 0 0),(6,.ptr 1 0),(9,.own 2),(10,.own 3),(12,I i),(14,I first),(15,.own 4),(16,I k)],[[]],[.box (m.c.map .t),.box (p.c.map .t),.arr 3 1 true (cn.map ic),.arr 113 4 true (cc.map Za.c),.arr 3 1 true (cl.map ic)]⟩
def ZoQ:RawF (Zh 61 Tryz.f61):={ m:=_ }
def ZoR:MCode:=cut0 ZoQ 7
def ZoS:MCode:=cut0 ZoQ 23
def Zwu:MFun:=Zt ZoQ 7 ZoR 23 ZoS
def ZaO(a:List Za)(a1:WA)(a2:Int):Rs:=C 61 [L 4 (a.map Za.c),L 1 (a1.map ic),I a2] []
def ZfO(cd:List Za)(cc:WA)(i k:Int):Rs:=EvL C [.blk 0,.seq ZoS,.fin 0 [.tmp 6]] [0,1,2,7] ZoR ⟨[(0,L 4 (cd.map Za.c)),(1,L 1 (cc.map ic)),(2,I i),(7,I k)],[[]],[]⟩
def Zwv:MFun:=mkF (Zh 62 Tryz.f62)
def UT(a:Zm)(a1:Zo)(a2:List Za)(a3:WA)(a4:Int):Rs:=C 62 [.agg (a.c.map .t),.agg (a1.c.map .t),L 4 (a2.map Za.c),L 1 (a3.map ic),I a4] []
def ZoT:RawF (Zh 65 Tryz.f65):={ m:=_ }
def ZoU:MCode:=cut0 ZoT 15
def ZoV:MCode:=cut0 ZoT 23
def Zww:MFun:=Zt ZoT 15 ZoU 23 ZoV
def UU(a:Zm)(a1 a2 a3 a4:Int):Rs:=C 65 [.agg (a.c.map .t),I a1,I a2,I a3,I a4] []
def ZfP(m:Zm)(cd l cl cc n:Int):Rs:=EvL C [.blk 0,.seq ZoV,.fin 0 [.tmp 10]] [1,2,3,4,5,11] ZoU ⟨[(1,I cd),(2,I l),(3,I cl),(4,I cc),(5,.ptr 0 0),(11,I n)],[[]],[.box (m.c.map .t)]⟩
def ZoW:RawF (Zh 69 Tryz.f69):={ m:=_ }
def ZiR:MCode:=cut0 ZoW 17
def ZiS:MCode:=cut0 ZoW 27
def Zwx:MFun:=Zt ZoW 17 ZiR 27 ZiS
def Wl(a:Zb):Rs:=C 69 [.agg (a.c.map .t)] []
def ZoX(s:Zb)(x:WA)(i:Int):Rs:=EvL C [.blk 0,.seq ZiS,.fin 0 [.cell 2 (some 2),.tmp 3]] [1,2,4,5] ZiR ⟨[(1,.ptr 0 0),(2,.ptr 1 0),(4,.ptr 2 0),(5,I i)],[[]],[.box (s.c.map .t),.box [.t .nil,.t .nil],.box [.own 3,.t .nil],.arr 3 1 true (x.map ic)]⟩
def ZfQ(s:Zb)(x:WA)(x1:XS)(i:Int):Rs:=EvL C [.blk 0,.seq ZiS,.fin 0 [.cell 2 (some 2),.tmp 3]] [1,2,4,5] ZiR ⟨[(1,.ptr 0 0),(2,.ptr 1 0),(4,.ptr 2 0),(5,I i)],[[]],[.box (s.c.map .t),.box [.t .nil,.t .nil],.box [.own 3,.own 4],.arr 3 1 true (x.map ic),.arr 42 1 true (x1.map isc)]⟩
def ZcZ:RawF (Zh 9 Tryz.f9):={ m:=_ }
def ZoY:MCode:=cut0 ZcZ 61
def ZoZ:MCode:=cut1 ZcZ 49 12 ZoY
def Zpa:MCode:=cut0 ZcZ 82
def ZfR:MCode:=cut2 ZcZ 25 24 ZoZ 57 Zpa
def ZfS:MCode:=cut0 ZcZ 83
def Zwy:MFun:=Zt ZcZ 25 ZfR 83 ZfS
def ZaP(a:Zm)(a1:Zn)(a2:Ze)(a3:Zo)(a4:Int)(a5:List Zd):Rs:=C 9 [.agg (a.c.map .t),.agg (a1.c.map .t),.agg (a2.c.map .t),.agg (a3.c.map .t),I a4,L 2 (a5.map Zd.c)] []
def Ka(m:Zm)(p:Zo)(cv:Bool)(cu cp:Int)(l:List Zb)(cy:List Za)(cz:List Zd)(cl n:WA)(co:Bool)(cn cc cd i:Int):Rs:=EvL C [.blk 0,.seq ZfS,.fin 0 [.cellO 12 (some 6) [none,none,none,some (3,0),some (1,0),some (1,0)],.tmpO 13 [some (2,0)],.tmpO 14 [none]]] [4,6,9,12,15,16,18,19,20,21,22] ZfR ⟨[(4,I cd),(6,.ptr 0 0),(9,.ptr 1 0),(12,.ptr 2 0),(15,.own 3),(16,.own 4),(18,.own 5),(19,.own 6),(20,.own 7),(21,.ptr 8 0),(22,I i)],[[]],[.box (m.c.map .t),.box (p.c.map .t),.box [Bo cv,I cu,I cp,.t .nil,.t .nil,.t .nil],.arr 102 2 true (l.map Zb.c),.arr 113 4 true (cy.map Za.c),.arr 52 2 true (cz.map Zd.c),.arr 3 1 true (cl.map ic),.arr 3 1 true (n.map ic),.box [Bo co,I cn,I cc,.t .nil,.t .nil,.t .nil]]⟩
def Va(m:Zm)(p:Zo)(cv:Bool)(cu cp:Int)(l:List Zb)(cy:List Za)(cz:List Zd)(cl n:WA)(co:Bool)(cn cc:Int)(x:List Zg)(cd i:Int):Rs:=EvL C [.blk 0,.seq ZfS,.fin 0 [.cellO 12 (some 6) [none,none,none,some (3,0),some (1,0),some (1,0)],.tmpO 13 [some (2,0)],.tmpO 14 [none]]] [4,6,9,12,15,16,18,19,20,21,22] ZfR ⟨[(4,I cd),(6,.ptr 0 0),(9,.ptr 1 0),(12,.ptr 2 0),(15,.own 3),(16,.own 4),(18,.own 5),(19,.own 6),(20,.own 7),(21,.ptr 8 0),(22,I i)],[[]],[.box (m.c.map .t),.box (p.c.map .t),.box [Bo cv,I cu,I cp,.t .nil,.t .nil,.t .nil],.arr 102 2 true (l.map Zb.c),.arr 113 4 true (cy.map Za.c),.arr 52 2 true (cz.map Zd.c),.arr 3 1 true (cl.map ic),.arr 3 1 true (n.map ic),.box [Bo co,I cn,I cc,.own 9,.t .nil,.t .nil],.arr 115 3 true (x.map Zg.c)]⟩
def Zpb:RawF (Zh 16 Tryz.f16):={ m:=_ }
def Zpc:MCode:=cut0 Zpb 15
def Zpd:MCode:=cut0 Zpb 31
def Zwz:MFun:=Zt Zpb 15 Zpc 31 Zpd
def Zda(a a1:ZV):Rs:=C 16 [.agg (a.c.map .t),.agg (a1.c.map .t)] []
def ZfT(a b:ZV)(i:Int):Rs:=EvL C [.blk 0,.seq Zpd,.fin 0 [.tmp 4]] [2,3,5] Zpc ⟨[(2,.ptr 0 0),(3,.ptr 1 0),(5,I i)],[[]],[.box (a.c.map .t),.box (b.c.map .t)]⟩
def Zpe:RawF (Zh 10 Tryz.f10):={ m:=_ }
def Zpf:MCode:=cut0 Zpe 15
def Zpg:MCode:=cut0 Zpe 31
def Zw0:MFun:=Zt Zpe 15 Zpf 31 Zpg
def ZfU(a a1:Run):Rs:=C 10 [.agg (a.c.map .t),.agg (a1.c.map .t)] []
def ZaQ(a b:Run)(i:Int):Rs:=EvL C [.blk 0,.seq Zpg,.fin 0 [.tmp 4]] [2,3,5] Zpf ⟨[(2,.ptr 0 0),(3,.ptr 1 0),(5,I i)],[[]],[.box (a.c.map .t),.box (b.c.map .t)]⟩
def Zw1:RawF (Zh 11 Tryz.f11):={ m:=_ }
def ZiT:MCode:=cut0 Zw1 15
def Zph:MCode:=.r [.mq 4 true] [4] .ret
def Zw2:MFun:=WT Zw1 15 ZiT
def ZfV(a:WA):Rs:=C 11 [.t .nil,L 1 (a.map ic)] []
def Zpi(b:WA)(i:Int):Rs:=EvL C [.blk 0,.seq Zph,.fin 0 [.tmp 4]] [0,1,5] ZiT ⟨[(0,.t .nil),(1,L 1 (b.map ic)),(5,I i)],[[]],[]⟩
def ZfW(a a1:WA):Rs:=C 11 [L 1 (a.map ic),L 1 (a1.map ic)] []
def ZfX(a b:WA)(i:Int):Rs:=EvL C [.blk 0,.seq Zph,.fin 0 [.tmp 4]] [0,1,5] ZiT ⟨[(0,L 1 (a.map ic)),(1,L 1 (b.map ic)),(5,I i)],[[]],[]⟩
def ZfY:RawF (Zh 15 Tryz.f15):={ m:=_ }
def Zpj:MCode:=cut0 ZfY 45
def Zpk:MCode:=cut0 ZfY 60
def ZfZ:MCode:=cut2 ZfY 21 24 Zpj 39 Zpk
def Zga:MCode:=cut0 ZfY 61
def Zw3:MFun:=Zt ZfY 21 ZfZ 61 Zga
def Zgb(a:Zm)(a1:Zn)(a2:Ze)(a3:Zo)(a4:Int):Rs:=C 15 [.agg (a.c.map .t),.agg (a1.c.map .t),.agg (a2.c.map .t),.agg (a3.c.map .t),I a4] []
def ZaR(m:Zm)(p:Zo)(cu:Bool)(cp co:Int)(l:List Zb)(cv:List Za)(n:WA)(cn:Bool)(cl cc cd i:Int):Rs:=EvL C [.blk 0,.seq Zga,.fin 0 [.cellO 10 (some 6) [none,none,none,some (3,0),some (1,0),some (1,0)],.tmpO 11 [none]]] [4,5,8,10,12,13,15,16,17] ZfZ ⟨[(4,I cd),(5,.ptr 0 0),(8,.ptr 1 0),(10,.ptr 2 0),(12,.own 3),(13,.own 4),(15,.own 5),(16,.ptr 6 0),(17,I i)],[[]],[.box (m.c.map .t),.box (p.c.map .t),.box [Bo cu,I cp,I co,.t .nil,.t .nil,.t .nil],.arr 102 2 true (l.map Zb.c),.arr 113 4 true (cv.map Za.c),.arr 3 1 true (n.map ic),.box [Bo cn,I cl,I cc,.t .nil,.t .nil,.t .nil]]⟩
def KY(m:Zm)(p:Zo)(cu:Bool)(cp co:Int)(l:List Zb)(cv:List Za)(n:WA)(cn:Bool)(cl cc:Int)(x:List Zg)(cd i:Int):Rs:=EvL C [.blk 0,.seq Zga,.fin 0 [.cellO 10 (some 6) [none,none,none,some (3,0),some (1,0),some (1,0)],.tmpO 11 [none]]] [4,5,8,10,12,13,15,16,17] ZfZ ⟨[(4,I cd),(5,.ptr 0 0),(8,.ptr 1 0),(10,.ptr 2 0),(12,.own 3),(13,.own 4),(15,.own 5),(16,.ptr 6 0),(17,I i)],[[]],[.box (m.c.map .t),.box (p.c.map .t),.box [Bo cu,I cp,I co,.t .nil,.t .nil,.t .nil],.arr 102 2 true (l.map Zb.c),.arr 113 4 true (cv.map Za.c),.arr 3 1 true (n.map ic),.box [Bo cn,I cl,I cc,.own 7,.t .nil,.t .nil],.arr 115 3 true (x.map Zg.c)]⟩
def ZiU:RawF (Zh 3 Tryz.f3):={ m:=_ }
def Zpl:MCode:=cut0 ZiU 29
def ZiV:MCode:=cut0 ZiU 66
def ZiW:MCode:=cut0 ZiU 97
def Zpm:MCode:=.seq (.regF [.mq 2 true] [2]) .ret
def Zpn:MCode:=.seq (.regF [.ln 122 30 3,.ln 123 1 4,.ln 124 2 5,.ln 125 1 6,.m 126 7,.cl 127 15 [122,123,124,125,126],.m 121 127,.o 128 (.ext (.s 121) 0),.o 129 (.ext (.s 121) 1),.o 17 (.al [.bool false,.z,.z,.nil,.nil,.nil]),.st 6 17 128,.m 18 129] [4,5,9,10,17]) (.seq (.seq (.regF [.fa 130 1 9,.l 131 130,.fa 132 1 17,.l 133 132,.b 134 .gtr 131 133,.m 135 134,.h 136 135 (.fa 0 17),.h 137 135 (.l 136),.h 138 135 (.m 137),.g 139 138 (.fa 0 9),.g 140 138 (.l 139),.g 141 138 (.nt 140),.g 142 138 (.m 141),.h 143 142 (.fa 4 9),.h 144 142 (.ln 2 143),.h 145 142 (.fa 4 17),.h 146 142 (.ln 2 145),.h 147 142 (.cl 16 [144,146]),.h 148 142 (.nt 147),.g 149 138 (.or 142 148),.h 150 135 (.an 138 149),.or 151 135 150] [4,5,10,151]) (.cond (.s 151) (.seq (.regF [.mq 2 false] [2]) .ret) .skip)) (.seq (.seq (.regF [.mk' 19 0] [4,5,10,19]) (.block 4 (.loop [4,5,10,19] ZiW))) Zpm))
def Zw4:MCode:=.seq (.seq (.drwF [.ln 84 30 3,.ln 85 2 5,.ln 86 1 6,.m 87 8,.cl 88 12 [84,85,86,87],.ln 89 30 3,.ln 90 2 5,.ln 91 1 6,.m 92 8,.cl 93 13 [89,90,91,92],.cl 94 11 [88,93],.nt 95 94] [[],[],[],[],[0,1,2,3],[],[],[],[],[5,6,7,8,4],[4,9,9],[10]] [3,4,5,6,7,8,9,10,11,95]) (.cond (.s 95) (.seq (.regF [.mq 2 false] [2]) .ret) .skip)) (.seq (.seq (.regF [.m 96 11,.nt 97 96] [3,4,5,6,7,8,9,10,97]) (.cond (.s 97) (.seq (.regF [.fa 98 1 9,.l 99 98,.bk 100 .eql 99 0,.m 2 100] [2]) .ret) .skip)) (.seq (.seq (.regF [.mk' 16 0] [3,4,5,6,7,8,9,10,16]) (.block 2 (.loop [3,4,5,6,7,8,9,10,16] ZiV))) Zpn))
def Zw5:MFun:=cutF3 ZiU 29 Zpl 66 ZiV 97 ZiW
def Zw6(a:WA):Rs:=C 3 [L 1 (a.map (kc .u8))] []
def KZ(m:Zm)(d:Zn)(q:Ze)(p:Zo)(r_1:Run)(cc:Int)(cl cn:List Zd)(is:Bool)(cd:List Zd)(i:Int):Rs:=EvL C [.blk 0,.seq Zw4,.fin 0 [.tmp 2]] [3,4,5,6,7,8,9,10,11,13,15] Zpl ⟨[(3,.ptr 0 0),(4,.ptr 1 0),(5,.ptr 2 0),(6,.ptr 3 0),(7,I cc),(8,L 2 (cl.map Zd.c)),(9,.ptr 4 0),(10,L 2 (cn.map Zd.c)),(11,Bo is),(13,L 2 (cd.map Zd.c)),(15,I i)],[[]],[.box (m.c.map .t),.box (d.c.map .t),.box (q.c.map .t),.box (p.c.map .t),.box (r_1.c.map .t)]⟩
def UV(m:Zm)(d:Zn)(q:Ze)(p:Zo)(r_1:Run)(cc:Int)(cd cl:List Zd)(i:Int):Rs:=EvL C [.blk 2,.seq Zpn,.fin 0 [.tmp 2]] [3,4,5,6,7,8,9,10,16] ZiV ⟨[(3,.ptr 0 0),(4,.ptr 1 0),(5,.ptr 2 0),(6,.ptr 3 0),(7,I cc),(8,L 2 (cd.map Zd.c)),(9,.ptr 4 0),(10,L 2 (cl.map Zd.c)),(16,I i)],[[]],[.box (m.c.map .t),.box (d.c.map .t),.box (q.c.map .t),.box (p.c.map .t),.box (r_1.c.map .t)]⟩
def ZaS(d:Zn)(q:Ze)(cc:List Zd)(i:Int):Rs:=EvL C [.blk 4,.seq Zpm,.fin 0 [.tmp 2]] [4,5,10,19] ZiW ⟨[(4,.ptr 0 0),(5,.ptr 1 0),(10,L 2 (cc.map Zd.c)),(19,I i)],[[]],[.box (d.c.map .t),.box (q.c.map .t)]⟩
theorem Z3M:tbl 6=some ZsP:=Zi Tryz.func6
theorem Z3N:tbl 93=some ZsQ:=Zi Tryz.func93
theorem Z3O:tbl 166=some ZsT:=Zi Tryz.func166
theorem Z3P:tbl 96=some ZsU:=Zi Tryz.func96
theorem Z3Q:tbl 94=some ZsV:=Zi Tryz.func94
theorem Z3R:tbl 184=some ZsW:=Zi Tryz.func184
theorem Zw7:tbl 95=some ZkW:=Zi Tryz.func95
theorem Z3S:tbl 185=some ZsZ:=Zi Tryz.func185
theorem Z3T:tbl 117=some Zta:=Zi Tryz.func117
theorem Z3U:tbl 186=some Ztd:=Zi Tryz.func186
theorem Z3V:tbl 118=some Ztg:=Zi Tryz.func118
theorem Zw8:tbl 146=some ZkZ:=Zi Tryz.func146
theorem Z3W:tbl 82=some Ztk:=Zi Tryz.func82
theorem Z3X:tbl 187=some Ztl:=Zi Tryz.func187
theorem Z3Y:tbl 119=some Ztm:=Zi Tryz.func119
theorem Z3Z:tbl 258=some Ztn:=Zi Tryz.func258
theorem Z4a:tbl 299=some Zto:=Zi Tryz.func299
theorem Zw9:tbl 60=some Zlh:=Zi Tryz.func60
theorem ZwA:tbl 99=some Zlk:=Zi Tryz.func99
theorem Z4b:tbl 301=some Ztq:=Zi Tryz.func301
theorem Z4c:tbl 300=some Ztr:=Zi Tryz.func300
theorem ZwB:tbl 172=some Zll:=Zi Tryz.func172
theorem ZwC:tbl 63=some Zlp:=Zi Tryz.func63
theorem Z4d:tbl 336=some Zts:=Zi Tryz.func336
theorem Z4e:tbl 243=some Ztt:=Zi Tryz.func243
theorem Z4f:tbl 188=some Ztu:=Zi Tryz.func188
theorem Z4g:tbl 28=some Ztv:=Zi Tryz.func28
theorem Z4h:tbl 161=some Ztw:=Zi Tryz.func161
theorem Z4i:tbl 222=some Ztx:=Zi Tryz.func222
theorem Z4j:tbl 234=some Ztz:=Zi Tryz.func234
theorem Z4k:tbl 162=some Zt0:=Zi Tryz.func162
theorem Z4l:tbl 88=some Zt1:=Zi Tryz.func88
theorem Z4m:tbl 244=some Zt3:=Zi Tryz.func244
theorem Z4n:tbl 245=some Zt5:=Zi Tryz.func245
theorem Z4o:tbl 246=some Zt6:=Zi Tryz.func246
theorem Z4p:tbl 247=some Zt7:=Zi Tryz.func247
theorem Z4q:tbl 226=some Zt9:=Zi Tryz.func226
theorem Z4r:tbl 152=some ZtA:=Zi Tryz.func152
theorem Z4s:tbl 248=some ZtC:=Zi Tryz.func248
theorem Z4t:tbl 221=some ZtD:=Zi Tryz.func221
theorem Z4u:tbl 149=some ZtF:=Zi Tryz.func149
theorem Z4v:tbl 76=some ZtG:=Zi Tryz.func76
theorem Z4w:tbl 249=some ZtH:=Zi Tryz.func249
theorem Z4x:tbl 250=some ZtI:=Zi Tryz.func250
theorem Z4y:tbl 175=some ZtL:=Zi Tryz.func175
theorem Z4z:tbl 189=some ZtO:=Zi Tryz.func189
theorem Z40:tbl 120=some ZtR:=Zi Tryz.func120
theorem Z41:tbl 40=some ZtU:=Zi Tryz.func40
theorem Z42:tbl 41=some ZtV:=Zi Tryz.func41
theorem Z43:tbl 121=some ZtW:=Zi Tryz.func121
theorem Z44:tbl 216=some ZtX:=Zi Tryz.func216
theorem Z45:tbl 273=some ZtY:=Zi Tryz.func273
theorem Z46:tbl 224=some ZtZ:=Zi Tryz.func224
theorem Z47:tbl 225=some Zua:=Zi Tryz.func225
theorem Z48:tbl 151=some Zub:=Zi Tryz.func151
theorem Z49:tbl 106=some Zuc:=Zi Tryz.func106
theorem Z4A:tbl 227=some Zud:=Zi Tryz.func227
theorem Z4B:tbl 153=some Zue:=Zi Tryz.func153
theorem Z4C:tbl 81=some Zug:=Zi Tryz.func81
theorem Z4D:tbl 14=some Zuh:=Zi Tryz.func14
theorem Z4E:tbl 68=some Zuk:=Zi Tryz.func68
theorem Z4F:tbl 42=some Zum:=Zi Tryz.func42
theorem Z4G:tbl 7=some Zun:=Zi Tryz.func7
theorem Z4H:tbl 45=some Zuo:=Zi Tryz.func45
theorem Z4I:tbl 217=some Zup:=Zi Tryz.func217
theorem Z4J:tbl 130=some Zuq:=Zi Tryz.func130
theorem Z4K:tbl 49=some Zur:=Zi Tryz.func49
theorem Z4L:tbl 272=some Zus:=Zi Tryz.func272
theorem Z4M:tbl 218=some Zut:=Zi Tryz.func218
theorem Z4N:tbl 147=some ZhP:=Zi Tryz.func147
theorem Z4O:tbl 219=some Zuu:=Zi Tryz.func219
theorem Z4P:tbl 220=some Zuw:=Zi Tryz.func220
theorem Z4Q:tbl 148=some Zux:=Zi Tryz.func148
theorem Z4R:tbl 70=some Zuz:=Zi Tryz.func70
theorem Z4S:tbl 254=some Zu0:=Zi Tryz.func254
theorem Z4T:tbl 253=some Zu1:=Zi Tryz.func253
theorem Z4U:tbl 202=some Zu2:=Zi Tryz.func202
theorem Z4V:tbl 347=some Zu3:=Zi Tryz.func347
theorem Z4W:tbl 326=some Zu4:=Zi Tryz.func326
theorem Z4X:tbl 268=some Zu5:=Zi Tryz.func268
theorem Z4Y:tbl 205=some Zu6:=Zi Tryz.func205
theorem Z4Z:tbl 341=some Zu7:=Zi Tryz.func341
theorem Z5a:tbl 305=some Zu8:=Zi Tryz.func305
theorem Z5b:tbl 255=some Zu9:=Zi Tryz.func255
theorem Z5c:tbl 136=some ZuA:=Zi Tryz.func136
theorem Z5d:tbl 191=some ZuB:=Zi Tryz.func191
theorem Z5e:tbl 256=some ZuC:=Zi Tryz.func256
theorem Z5f:tbl 178=some ZuD:=Zi Tryz.func178
theorem Z5g:tbl 102=some ZuE:=Zi Tryz.func102
theorem Z5h:tbl 122=some ZuF:=Zi Tryz.func122
theorem Z5i:tbl 266=some ZuH:=Zi Tryz.func266
theorem Z5j:tbl 203=some ZuI:=Zi Tryz.func203
theorem Z5k:tbl 135=some ZuJ:=Zi Tryz.func135
theorem Z5l:tbl 193=some ZuK:=Zi Tryz.func193
theorem Z5m:tbl 317=some ZuL:=Zi Tryz.func317
theorem Z5n:tbl 369=some ZuN:=Zi Tryz.func369
theorem Z5o:tbl 348=some ZuO:=Zi Tryz.func348
theorem Z5p:tbl 318=some ZuQ:=Zi Tryz.func318
theorem Z5q:tbl 261=some ZuS:=Zi Tryz.func261
theorem Z5r:tbl 192=some ZuT:=Zi Tryz.func192
theorem Z5s:tbl 123=some ZuU:=Zi Tryz.func123
theorem Z5t:tbl 194=some ZuV:=Zi Tryz.func194
theorem ZwD:tbl 195=some Zno:=Zi Tryz.func195
theorem ZwE:tbl 196=some Znp:=Zi Tryz.func196
theorem Z5u:tbl 124=some ZuW:=Zi Tryz.func124
theorem Z5v:tbl 264=some ZuX:=Zi Tryz.func264
theorem Z5w:tbl 263=some ZuY:=Zi Tryz.func263
theorem Z5x:tbl 197=some ZuZ:=Zi Tryz.func197
theorem Z5y:tbl 126=some Zva:=Zi Tryz.func126
theorem Z5z:tbl 125=some Zvb:=Zi Tryz.func125
theorem Z50:tbl 43=some Zvd:=Zi Tryz.func43
theorem Z51:tbl 54=some Zve:=Zi Tryz.func54
theorem Z52:tbl 265=some Zvf:=Zi Tryz.func265
theorem Z53:tbl 198=some Zvg:=Zi Tryz.func198
theorem Z54:tbl 200=some Zvh:=Zi Tryz.func200
theorem Z55:tbl 134=some Zvi:=Zi Tryz.func134
theorem Z56:tbl 133=some Zvk:=Zi Tryz.func133
theorem Z57:tbl 201=some Zvl:=Zi Tryz.func201
theorem Z58:tbl 199=some Zvn:=Zi Tryz.func199
theorem Z59:tbl 127=some Zvo:=Zi Tryz.func127
theorem Z5A:tbl 44=some Zvp:=Zi Tryz.func44
theorem Z5B:tbl 71=some Zvr:=Zi Tryz.func71
theorem Z5C:tbl 73=some Zvs:=Zi Tryz.func73
theorem Z5D:tbl 72=some Zvt:=Zi Tryz.func72
theorem Z5E:tbl 55=some Zvv:=Zi Tryz.func55
theorem Z5F:tbl 131=some Zvw:=Zi Tryz.func131
theorem Z5G:tbl 132=some Zvx:=Zi Tryz.func132
theorem Z5H:tbl 52=some Zvy:=Zi Tryz.func52
theorem Z5I:tbl 74=some QT:=Zi Tryz.func74
theorem Z5J:tbl 129=some Zvz:=Zi Tryz.func129
theorem Z5K:tbl 48=some Zv0:=Zi Tryz.func48
theorem Z5L:tbl 75=some Zv1:=Zi Tryz.func75
theorem Z5M:tbl 128=some Zv2:=Zi Tryz.func128
theorem Z5N:tbl 46=some Zv3:=Zi Tryz.func46
theorem Z5O:tbl 12=some Zv6:=Zi Tryz.func12
theorem Z5P:tbl 50=some Zv9:=Zi Tryz.func50
theorem Z5Q:tbl 51=some Zc5:=Zi Tryz.func51
theorem Z5R:tbl 47=some ZvA:=Zi Tryz.func47
theorem Z5S:tbl 53=some ZvB:=Zi Tryz.func53
theorem Z5T:tbl 56=some ZvE:=Zi Tryz.func56
theorem Z5U:tbl 137=some ZvF:=Zi Tryz.func137
theorem Z5V:tbl 57=some ZvG:=Zi Tryz.func57
theorem Z5W:tbl 8=some ZvH:=Zi Tryz.func8
theorem Z5X:tbl 208=some ZvJ:=Zi Tryz.func208
theorem Z5Y:tbl 138=some ZvK:=Zi Tryz.func138
theorem Z5Z:tbl 209=some ZvM:=Zi Tryz.func209
theorem Z6a:tbl 145=some ZvN:=Zi Tryz.func145
theorem Z6b:tbl 139=some ZvP:=Zi Tryz.func139
theorem Z6c:tbl 212=some ZvR:=Zi Tryz.func212
theorem Z6d:tbl 269=some ZvS:=Zi Tryz.func269
theorem Z6e:tbl 270=some ZvU:=Zi Tryz.func270
theorem ZwF:tbl 211=some Zos:=Zi Tryz.func211
theorem Z6f:tbl 210=some ZvV:=Zi Tryz.func210
theorem Z6g:tbl 140=some ZvW:=Zi Tryz.func140
theorem Z6h:tbl 141=some ZvX:=Zi Tryz.func141
theorem Z6i:tbl 213=some ZvY:=Zi Tryz.func213
theorem Z6j:tbl 142=some ZvZ:=Zi Tryz.func142
theorem Z6k:tbl 58=some Zwb:=Zi Tryz.func58
theorem Z6l:tbl 79=some Zwc:=Zi Tryz.func79
theorem Z6m:tbl 223=some Zwd:=Zi Tryz.func223
theorem Z6n:tbl 150=some Zwe:=Zi Tryz.func150
theorem Z6o:tbl 144=some Zwf:=Zi Tryz.func144
theorem Z6p:tbl 78=some Zwh:=Zi Tryz.func78
theorem Z6q:tbl 271=some Zwi:=Zi Tryz.func271
theorem Z6r:tbl 214=some Zwj:=Zi Tryz.func214
theorem Z6s:tbl 215=some Zwk:=Zi Tryz.func215
theorem Z6t:tbl 143=some Zwl:=Zi Tryz.func143
theorem Z6u:tbl 59=some Zwm:=Zi Tryz.func59
theorem Z6v:tbl 77=some Zwn:=Zi Tryz.func77
theorem Z6w:tbl 67=some Zwo:=Zi Tryz.func67
theorem Z6x:tbl 66=some Zwp:=Zi Tryz.func66
theorem Z6y:tbl 64=some Zwq:=Zi Tryz.func64
theorem Z6z:tbl 80=some Zwr:=Zi Tryz.func80
theorem Z60:tbl 13=some Zwt:=Zi Tryz.func13
theorem Z61:tbl 61=some Zwu:=Zi Tryz.func61
theorem Z62:tbl 62=some Zwv:=Zi Tryz.func62
theorem Z63:tbl 65=some Zww:=Zi Tryz.func65
theorem Z64:tbl 69=some Zwx:=Zi Tryz.func69
theorem Z65:tbl 9=some Zwy:=Zi Tryz.func9
theorem Z66:tbl 16=some Zwz:=Zi Tryz.func16
theorem Z67:tbl 10=some Zw0:=Zi Tryz.func10
theorem Z68:tbl 11=some Zw2:=Zi Tryz.func11
theorem Z69:tbl 15=some Zw3:=Zi Tryz.func15
theorem Z6A:tbl 3=some Zw5:=Zi Tryz.func3
end
end Go.Proofs.YtgbipcfdgfjplaaGreat
