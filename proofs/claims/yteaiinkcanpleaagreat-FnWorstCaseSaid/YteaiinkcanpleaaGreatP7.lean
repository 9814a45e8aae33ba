/-
  Parts of the proofs for this seat: D1.
-/
import Derived.Test.YteaiinkcanpleaaGreatP6
set_option linter.all false
set_option maxRecDepth 100000
set_option maxHeartbeats 4000000
set_option cbv.maxSteps 9999999
namespace Go.Proofs.YteaiinkcanpleaaGreat
open Go.AM
noncomputable section
def Z4r:Ab:=AD (Zj 4 Tryz.f4)
def FK(a:WL):Rs:=C 4 [L 1 (a.map (kc .u8))] []
def ZrO:Af (Zj 15 Tryz.f15):={ m:=_ }
def ZrP:Za:=Aa ZrO 9
def ZrQ:Za:=Aa ZrO 19
def Z4s:Ab:=Zn ZrO 9 ZrP 19 ZrQ
def aQ(a:WL):Rs:=C 15 [L 1 (a.map (kc .u8))] []
def aR(c:WL)(h1 i:Int):Rs:=lp C [.blk 0,.seq ZrQ,.fin 0 [.tmp 2]] [0,3,4] ZrP [L 1 (c.map (kc .u8)),I h1,I i] []
def Z4t:Af (Zj 126 Tryz.f126):={ m:=_ }
def Z4u:Za:=Aa Z4t 14
def Z4v:Ab:=Ql Z4t 14 Z4u
def He(x:Zo):Rs:=C 126 [.ptr 0 0] [Ad x.c]
def Z4w:Ab:=AD (Zj 76 Tryz.f76)
def Xk(x:Zo)(a:Int):Rs:=C 76 [.ptr 0 0,I a] [Ad x.c]
def Z4x:Ab:=AD (Zj 104 Tryz.f104)
def Wy(x:Zo)(a:Int):Rs:=C 104 [.ptr 0 0,I a] [Ad x.c]
def Z4y:Ab:=AD (Zj 105 Tryz.f105)
def ZrR:Rs:=C 105 [] []
def Z4z:Ab:=AD (Zj 71 Tryz.f71)
def XI(x:Zo)(x1:WL):Rs:=C 71 [.ptr 0 0,.own 1] [Ad x.c,Zm x1]
def ZrS:Af (Zj 106 Tryz.f106):={ m:=_ }
def Z40:Za:=Aa ZrS 16
def Z41:Za:=As ZrS 10 6 Z40
def Z42:Ab:=Ql ZrS 10 Z41
def Hf(x:Zo):Rs:=C 106 [.ptr 0 0] [Ad x.c]
def Z43:Ab:=AD (Zj 68 Tryz.f68)
def aS(x:Zo):Rs:=C 68 [.ptr 0 0] [Ad x.c]
def Pg:Af (Zj 193 Tryz.f193):={ m:=_ }
def Z44:Za:=Aa Pg 35
def Z45:Za:=As Pg 27 8 Z44
def ZrT:Za:=As Pg 11 16 Z45
def Z46:Za:=Aa Pg 43
def ZrU:Za:=As Pg 37 6 Z46
def Z47:Ab:=Zn Pg 11 ZrT 37 ZrU
def Hg(a:WL):Rs:=C 193 [.t .nil,Zr a] []
def ZrV:=lp C [.blk 0,.seq ZrU,.fin 0 [.tmp 4]] [0,1,5,6,7] ZrT
def ZrW(c:WA)(cd:WL)(cc:Bool)(i:Int):Rs:=ZrV [.t .nil,Zr cd,.own 0,Bo cc,I i] [ZZ c]
def ZrX:Af (Zj 197 Tryz.f197):={ m:=_ }
def ZrY:Za:=Aa ZrX 7
def vK:Za:=Aa ZrX 31
def Z48:Ab:=Zn ZrX 7 ZrY 31 vK
def Uq(a a1:WL):Rs:=C 197 [Zr a,Zr a1] []
def aT(a b:WL)(i:Int):Rs:=lp C [.blk 0,.seq vK,.fin 0 [.tmp 4]] [0,1,5] ZrY [Zr a,Zr b,I i] []
def aU(a b:WL)(i:Int)(x:Bool):Rs:=Ev C [.fin 0 [.tmp 4]] vK ⟨[(0,Zr a),(1,Zr b),(5,I i),(15,Bo x)],[[]],[]⟩
def Jx(a:WA)(a1:WL):Rs:=C 193 [L 1 (a.map AF),Zr a1] []
def Qm(cc c:WA)(cl:WL)(cd:Bool)(i:Int):Rs:=ZrV [L 1 (c.map AF),Zr cl,.own 0,Bo cd,I i] [ZZ cc]
def Ph:Af (Zj 147 Tryz.f147):={ m:=_ }
def vL:Za:=Aa Ph 24
def vM:Za:=Aa Ph 34
def vN:Za:=Aa Ph 35
def Lk:Za:=BL Ph 9 15 vL 25 vM 26 vN
def Ll:Za:=Aa Ph 36
def Z49:Ab:=Zn Ph 9 Lk 36 Ll
def Q7(x:Zo)(a:V6)(a1 a2 a3:Int):Rs:=C 147 [.ptr 0 0,.t (.str a),I a1,I a2,I a3] [Ad x.c]
def vO(c:Zo)(co:V6)(cd:Int)(cl:V6)(cc cn cp n:Int):Rs:=EvL C [.blk 0,.seq Ll,.fin 1 [.cellO 10 (some 3) [none,none,some (32,1)]]] [0,2,4,10,11,12] Lk ⟨[(0,.ptr 0 0),(2,I cn),(4,I cp),(10,.ptr 1 0),(11,.ptr 2 0),(12,I n)],[[(0,.ptr 0 0)]],[Ad c.c,.box [.t (.str co),I cd,.t .nil],.box [.t (.str cl),I cc,.t .nil]]⟩
def Pi(c:Zo)(co:V6)(cd:Int)(cl:V6)(cc:Int)(cp:WL)(cn cu n i:Int):Rs:=EvL C [.blk 2,.seq vM,.blk 1,.seq vN,.loop [0,2,4,10,11,12] Lk,.blk 0,.seq Ll,.fin 1 [.cellO 10 (some 3) [none,none,some (32,1)]]] [0,2,4,10,11,12,13,14] vL ⟨[(0,.ptr 0 0),(2,I cn),(4,I cu),(10,.ptr 1 0),(11,.ptr 2 0),(12,I n),(13,.own 3),(14,I i)],[[(0,.ptr 0 0)]],[Ad c.c,.box [.t (.str co),I cd,.t .nil],.box [.t (.str cl),I cc,.t .nil],Zm cp]⟩
def Pj(c:Zo)(co:V6)(cd:Int)(cl:V6)(cc:Int)(x:WA)(cn cp n:Int):Rs:=EvL C [.blk 0,.seq Ll,.fin 1 [.cellO 10 (some 3) [none,none,some (32,1)]]] [0,2,4,10,11,12] Lk ⟨[(0,.ptr 0 0),(2,I cn),(4,I cp),(10,.ptr 1 0),(11,.ptr 2 0),(12,I n)],[[(0,.ptr 0 0)]],[Ad c.c,.box [.t (.str co),I cd,.t .nil],.box [.t (.str cl),I cc,.own 3],ZZ x]⟩
def aV(c:Zo)(co:V6)(cd:Int)(cl:V6)(cc:Int)(x:WA)(cp:WL)(cn cu n i:Int):Rs:=EvL C [.blk 2,.seq vM,.blk 1,.seq vN,.loop [0,2,4,10,11,12] Lk,.blk 0,.seq Ll,.fin 1 [.cellO 10 (some 3) [none,none,some (32,1)]]] [0,2,4,10,11,12,13,14] vL ⟨[(0,.ptr 0 0),(2,I cn),(4,I cu),(10,.ptr 1 0),(11,.ptr 2 0),(12,I n),(13,.own 4),(14,I i)],[[(0,.ptr 0 0)]],[Ad c.c,.box [.t (.str co),I cd,.t .nil],.box [.t (.str cl),I cc,.own 3],ZZ x,Zm cp]⟩
def Pk:Af (Zj 107 Tryz.f107):={ m:=_ }
def ZrZ:Za:=Aa Pk 37
def Zsa:Za:=As Pk 31 6 ZrZ
def aW:Za:=As Pk 13 18 Zsa
def Zsb:Za:=Aa Pk 47
def aX:Za:=As Pk 41 6 Zsb
def Z4A:Ab:=Zn Pk 13 aW 41 aX
def aY(x:Zo):Rs:=C 107 [.ptr 0 0] [Ad x.c]
def vP(c:Zo)(x:List V6)(cd cc x1 x2:Int):Rs:=EvL C [.blk 0,.seq aX,.fin 1 [.cellO 2 (some 1) [some (3,0)]]] [0,2,3,4,5,17,18,19] aW ⟨[(0,.ptr 0 0),(2,.ptr 1 0),(3,I cd),(4,I cc),(5,.ptr 2 0),(17,.own 3),(18,I x1),(19,I x2)],[[(0,.ptr 0 0)]],[Ad c.c,.box [.t .nil],.box [.t .nil],.arr 9 1 true (x.map sc)]⟩
def Ke(c:Zo)(x:List Zs)(x1:List V6)(cd cc x2 x3:Int):Rs:=EvL C [.blk 0,.seq aX,.fin 1 [.cellO 2 (some 1) [some (3,0)]]] [0,2,3,4,5,17,18,19] aW ⟨[(0,.ptr 0 0),(2,.ptr 1 0),(3,I cd),(4,I cc),(5,.ptr 2 0),(17,.own 4),(18,I x2),(19,I x3)],[[(0,.ptr 0 0)]],[Ad c.c,.box [.t .nil],.box [.own 3],.arr 191 3 true (x.map Zs.c),.arr 9 1 true (x1.map sc)]⟩
def Pl:Af (Zj 108 Tryz.f108):={ m:=_ }
def Z4B:Za:=Aa Pl 26
def vQ:Za:=As Pl 13 13 Z4B
def Z4C:Za:=Aa Pl 39
def Z4D:Za:=As Pl 33 6 Z4C
def vS:Za:=As Pl 27 6 Z4D
def Z4E:Ab:=Zn Pl 13 vQ 27 vS
def aZ(x:Zo):Rs:=C 108 [.ptr 0 0] [Ad x.c]
def Lm(c:Zo)(cd:V6)(To:Int)(cc:V6)(cl m i:Int):Rs:=EvL C [.blk 0,.seq vS,.fin 1 [.cellO 2 (some 3) [none,some (1,0),none]]] [0,2,4,5,6] vQ ⟨[(0,.ptr 0 0),(2,.ptr 1 0),(4,I m),(5,.ptr 2 0),(6,I i)],[[(0,.ptr 0 0)]],[Ad c.c,.box [.t (.str cd),.t .nil,I To],.box [.t (.str cc),.t .nil,I cl]]⟩
def Pm(c:Zo)(cd:V6)(To:Int)(cc:V6)(cl:Int)(x:WL)(m i:Int):Rs:=EvL C [.blk 0,.seq vS,.fin 1 [.cellO 2 (some 3) [none,some (1,0),none]]] [0,2,4,5,6] vQ ⟨[(0,.ptr 0 0),(2,.ptr 1 0),(4,I m),(5,.ptr 2 0),(6,I i)],[[(0,.ptr 0 0)]],[Ad c.c,.box [.t (.str cd),.t .nil,I To],.box [.t (.str cc),.own 3,I cl],Zm x]⟩
def Zsc:Ab:=AD (Zj 97 Tryz.f97)
def Ln(a:V6):Rs:=C 97 [.t (.str a)] []
def Zsd:Ab:=AD (Zj 49 Tryz.f49)
def Z0(a a1 a2:Int):Rs:=C 49 [I a,I a1,I a2] []
def Zse:Af (Zj 228 Tryz.f228):={ m:=_ }
def Zsf:Za:=Aa Zse 7
def Zsg:Za:=Aa Zse 23
def Z4F:Ab:=Zn Zse 7 Zsf 23 Zsg
def vT(a:WL)(a1:Int):Rs:=C 228 [Zr a,I a1] []
def bC(c:WL)(n i:Int):Rs:=lp C [.blk 0,.seq Zsg,.fin 0 [.tmp 4]] [0,1,5] Zsf [Zr c,I n,I i] []
def Zsh:Af (Zj 218 Tryz.f218):={ m:=_ }
def Zsi:Za:=Aa Zsh 15
def Zsj:Za:=Aa Zsh 31
def Z4G:Ab:=Zn Zsh 15 Zsi 31 Zsj
def Jy(a:Zs):Rs:=C 218 [Am a.c] []
def Zsk:=lp C [.blk 0,.seq Zsj,.fin 0 [.tmp 2]] [1,3] Zsi
def Pn(t:Zs)(i:Int):Rs:=Zsk [.ptr 0 0,I i] [Ad t.c]
def Zsl:Af (Zj 198 Tryz.f198):={ m:=_ }
def Zsm:Za:=Aa Zsl 7
def Zsn:Za:=Aa Zsl 23
def Z4H:Ab:=Zn Zsl 7 Zsm 23 Zsn
def Po(a:Zt):Rs:=C 198 [Am a.c] []
def Pp(d:Zt)(i:Int):Rs:=lp C [.blk 0,.seq Zsn,.fin 0 [.tmp 2]] [1,3] Zsm [.ptr 0 0,I i] [Ad d.c]
def Zso:Af (Zj 200 Tryz.f200):={ m:=_ }
def Zsp:Za:=Aa Zso 9
def Zsq:Za:=Aa Zso 19
def Z4I:Ab:=Zn Zso 9 Zsp 19 Zsq
def KD(a:Zs):Rs:=C 200 [Am a.c] []
def Zsr:=lp C [.blk 0,.seq Zsq,.fin 0 [.cell 2 (some 3)]] [1,2,3,4] Zsp
def Zss(t:Zs)(cn:V6)(cd:Int)(cl:V6)(cc i:Int):Rs:=Zsr [.ptr 0 0,.ptr 1 0,.ptr 2 0,I i] [Ad t.c,.box [.t (.str cn),I cd,.t .nil],.box [.t (.str cl),I cc,.t .nil]]
def Pq(t:Zs)(cn:V6)(cd:Int)(cl:V6)(cc:Int)(x:WA)(i:Int):Rs:=Zsr [.ptr 0 0,.ptr 1 0,.ptr 2 0,I i] [Ad t.c,.box [.t (.str cn),I cd,.t .nil],.box [.t (.str cl),I cc,.own 3],ZZ x]
def Zst:Af (Zj 194 Tryz.f194):={ m:=_ }
def Zsu:Za:=Aa Zst 7
def Zsv:Za:=Aa Zst 23
def Z4J:Ab:=Zn Zst 7 Zsu 23 Zsv
def VK(a:Zt)(a1:V6):Rs:=C 194 [Am a.c,.t (.str a1)] []
def bD(d:Zt)(cd:V6)(cc:Int)(cl:V6)(i:Int):Rs:=lp C [.blk 0,.seq Zsv,.fin 0 [.cell 4 (some 3),.tmp 5]] [1,2,4,6] Zsu [.t (.str cl),.ptr 0 0,.ptr 1 0,I i] [Ad d.c,.box [.t (.str cd),I cc,.t .nil]]
def Hh(cc:V6)(c:Int):Rs:=C 218 [.agg [.t (.str cc),I c,.t .nil]] []
def Zsw(cc:V6)(c i:Int):Rs:=Zsk [.ptr 0 0,I i] [.box [.t (.str cc),I c,.t .nil]]
def Zsx:Af (Zj 195 Tryz.f195):={ m:=_ }
def Zsy:Za:=Aa Zsx 7
def Zsz:Za:=Aa Zsx 23
def Z4K:Ab:=Zn Zsx 7 Zsy 23 Zsz
def vU(cc:V6)(c:Int)(a:WL):Rs:=C 195 [.agg [.t (.str cc),I c,.t .nil],Zr a] []
def Zs0:=lp C [.blk 0,.seq Zsz,.fin 0 [.tmp 4]] [1,2,5] Zsy
def bE(cc:V6)(c:Int)(cd:WL)(i:Int):Rs:=Zs0 [Zr cd,.ptr 0 0,I i] [.box [.t (.str cc),I c,.t .nil]]
def Zs1:Af (Zj 51 Tryz.f51):={ m:=_ }
def Zs2:Za:=Aa Zs1 7
def Zs3:Za:=Aa Zs1 23
def Zs4:Ab:=Zn Zs1 7 Zs2 23 Zs3
def Vw(a:WL)(a1:Int):Rs:=C 51 [Zr a,I a1] []
def Zip(l:WL)(x i:Int):Rs:=lp C [.blk 0,.seq Zs3,.fin 0 [.tmp 4]] [0,1,5] Zs2 [Zr l,I x,I i] []
def Pr(a:Zs)(a1:WL):Rs:=C 195 [Am a.c,Zr a1] []
def bF(t:Zs)(cc:WL)(i:Int):Rs:=Zs0 [Zr cc,.ptr 0 0,I i] [Ad t.c]
def Z4L:Ab:=AD (Zj 148 Tryz.f148)
def Ps(a:Zt)(a1:ZD):Rs:=C 148 [Am a.c,Am a1.c] []
def Zs5:Af (Zj 196 Tryz.f196):={ m:=_ }
def Zs6:Za:=Aa Zs5 9
def Zs7:Za:=Aa Zs5 27
def Z4M:Ab:=Zn Zs5 9 Zs6 27 Zs7
def Hi(a a1:WL):Rs:=C 196 [Zr a,Zr a1] []
def bG(cc cd c:WL)(i:Int):Rs:=lp C [.blk 0,.seq Zs7,.fin 0 [.tmp 4,.tmp 5]] [0,1,6,7] Zs6 [Zr cd,Zr c,.own 0,I i] [Zm cc]
def bH:Af (Zj 149 Tryz.f149):={ m:=_ }
def Zs8:Za:=Aa bH 23
def Zs9:Za:=Aa bH 41
def vV:Za:=AG bH 9 14 Zs8 32 Zs9
def ZsA:Za:=Aa bH 42
def Z4N:Ab:=Zn bH 9 vV 42 ZsA
def vW(a:Zt)(a1:ZD):Rs:=C 149 [Am a.c,Am a1.c] []
def ZsB:List Fr:=[.blk 0,.seq ZsA,.fin 0 [.tmp 4]]
def ZsC:=lp C ZsB [2,3,5,7] vV
def ZsD(d:Zt)(f:ZD)(cd:V6)(cc k:Int):Rs:=ZsC [.ptr 0 0,.ptr 1 0,.ptr 2 0,I k] [Ad d.c,Ad f.c,.box [.t (.str cd),I cc,.t .nil]]
def Pt(d:Zt)(f:ZD)(cd:V6)(cc:Int)(x:WA)(k:Int):Rs:=ZsC [.ptr 0 0,.ptr 1 0,.ptr 2 0,I k] [Ad d.c,Ad f.c,.box [.t (.str cd),I cc,.own 3],ZZ x]
def Hj(d:Zt)(f:ZD)(cd:V6)(cc:Int)(x:WA)(y:WL)(k i:Int):Rs:=lp C (.blk 2::.blk 1::.seq Zs9::.loop [2,3,5,7] vV::ZsB) [2,3,5,7,8,10] Zs8 [.ptr 0 0,.ptr 1 0,.ptr 2 0,I k,.own 4,I i] [Ad d.c,Ad f.c,.box [.t (.str cd),I cc,.own 3],ZZ x,Zm y]
def Z4O:Ab:=AD (Zj 109 Tryz.f109)
def Pu(a:Zt)(a1:ZD):Rs:=C 109 [Am a.c,Am a1.c] []
def ZsE:Ab:=AD (Zj 150 Tryz.f150)
def Hk(x:Zo)(x1:List V6):Rs:=C 150 [.ptr 0 0,.own 1] [Ad x.c,.arr 9 1 true (x1.map sc)]
def vX:Af (Zj 110 Tryz.f110):={ m:=_ }
def Z4P:Za:=Aa vX 22
def Z4Q:Za:=As vX 16 6 Z4P
def Z4R:Za:=As vX 10 6 Z4Q
def Z4S:Ab:=Ql vX 10 Z4R
def Pv(x:Zo):Rs:=C 110 [.ptr 0 0] [Ad x.c]
def Z4T:Ab:=AD (Zj 151 Tryz.f151)
def Pw(a:Zt)(a1:Z8):Rs:=C 151 [Am a.c,Am a1.c] []
def Hl:Af (Zj 152 Tryz.f152):={ m:=_ }
def ZsF:Za:=Aa Hl 38
def ZsG:Za:=Aa Hl 53
def ZsH:Za:=Aa Hl 63
def ZsI:Za:=AG Hl 48 5 ZsG 15 ZsH
def vY:Za:=Aa Hl 68
def bI:Za:=BL Hl 21 17 ZsF 27 ZsI 47 vY
def ZsJ:Za:=Aa Hl 69
def Z4U:Ab:=Zn Hl 21 bI 69 ZsJ
def ZsK(a:Zt)(a1:Z8):Rs:=C 152 [Am a.c,Am a1.c] []
def vZ:List Fr:=[.blk 0,.seq ZsJ,.fin 0 [.tmp 4]]
def bJ:=lp C vZ [3,5,6,8,10] bI
def KE(x:Z8)(co:WL)(cn:V6)(cd:Int)(cl:V6)(cc v:Int):Rs:=bJ [.ptr 0 0,.own 1,.ptr 2 0,.ptr 3 0,I v] [Ad x.c,Zm co,.box [.t (.str cn),I cd,.t .nil],.box [.t (.str cl),I cc,.t .nil]]
def KF(x:Z8)(co:WL)(cn:V6)(cd:Int)(cl:V6)(cc:Int)(x1:WA)(v:Int):Rs:=bJ [.ptr 0 0,.own 1,.ptr 2 0,.ptr 3 0,I v] [Ad x.c,Zm co,.box [.t (.str cn),I cd,.t .nil],.box [.t (.str cl),I cc,.own 4],ZZ x1]
def KG(x:Z8)(co:WL)(cn:V6)(cd:Int)(x1:WA)(cl:V6)(cc v:Int):Rs:=bJ [.ptr 0 0,.own 1,.ptr 2 0,.ptr 4 0,I v] [Ad x.c,Zm co,.box [.t (.str cn),I cd,.own 3],ZZ x1,.box [.t (.str cl),I cc,.t .nil]]
def KH(x:Z8)(co:WL)(cn:V6)(cd:Int)(x1:WA)(cl:V6)(cc:Int)(x2:WA)(v:Int):Rs:=bJ [.ptr 0 0,.own 1,.ptr 2 0,.ptr 4 0,I v] [Ad x.c,Zm co,.box [.t (.str cn),I cd,.own 3],ZZ x1,.box [.t (.str cl),I cc,.own 5],ZZ x2]
def bK:=lp C (.blk 2::.seq ZsI::.blk 1::.seq vY::.loop [3,5,6,8,10] bI::vZ) [3,5,6,8,10,11,12,13] ZsF
def bL(x:Z8)(cp:WL)(cn:V6)(cd:Int)(cl:V6)(cc v:Int)(co cu:Bool)(i:Int):Rs:=bK [.ptr 0 0,.own 1,.ptr 2 0,.ptr 3 0,I v,Bo co,Bo cu,I i] [Ad x.c,Zm cp,.box [.t (.str cn),I cd,.t .nil],.box [.t (.str cl),I cc,.t .nil]]
def bM(x:Z8)(cp:WL)(cn:V6)(cd:Int)(cl:V6)(cc:Int)(x1:WA)(v:Int)(co cu:Bool)(i:Int):Rs:=bK [.ptr 0 0,.own 1,.ptr 2 0,.ptr 3 0,I v,Bo co,Bo cu,I i] [Ad x.c,Zm cp,.box [.t (.str cn),I cd,.t .nil],.box [.t (.str cl),I cc,.own 4],ZZ x1]
def bN(x:Z8)(cp:WL)(cn:V6)(cd:Int)(x1:WA)(cl:V6)(cc v:Int)(co cu:Bool)(i:Int):Rs:=bK [.ptr 0 0,.own 1,.ptr 2 0,.ptr 4 0,I v,Bo co,Bo cu,I i] [Ad x.c,Zm cp,.box [.t (.str cn),I cd,.own 3],ZZ x1,.box [.t (.str cl),I cc,.t .nil]]
def bO(x:Z8)(cp:WL)(cn:V6)(cd:Int)(x1:WA)(cl:V6)(cc:Int)(x2:WA)(v:Int)(co cu:Bool)(i:Int):Rs:=bK [.ptr 0 0,.own 1,.ptr 2 0,.ptr 4 0,I v,Bo co,Bo cu,I i] [Ad x.c,Zm cp,.box [.t (.str cn),I cd,.own 3],ZZ x1,.box [.t (.str cl),I cc,.own 5],ZZ x2]
def bP:=lp C (.blk 4::.seq ZsH::.blk 1::.seq vY::.loop [3,5,6,8,10] bI::vZ) [3,5,6,8,10,11,12,14] ZsG
def Px(x:Z8)(cp:WL)(cn:V6)(cd:Int)(cl:V6)(cc v:Int)(co cu:Bool)(i:Int):Rs:=bP [.ptr 0 0,.own 1,.ptr 2 0,.ptr 3 0,I v,Bo co,Bo cu,I i] [Ad x.c,Zm cp,.box [.t (.str cn),I cd,.t .nil],.box [.t (.str cl),I cc,.t .nil]]
def Py(x:Z8)(cp:WL)(cn:V6)(cd:Int)(cl:V6)(cc:Int)(x1:WA)(v:Int)(co cu:Bool)(i:Int):Rs:=bP [.ptr 0 0,.own 1,.ptr 2 0,.ptr 3 0,I v,Bo co,Bo cu,I i] [Ad x.c,Zm cp,.box [.t (.str cn),I cd,.t .nil],.box [.t (.str cl),I cc,.own 4],ZZ x1]
def Pz(x:Z8)(cp:WL)(cn:V6)(cd:Int)(x1:WA)(cl:V6)(cc v:Int)(co cu:Bool)(i:Int):Rs:=bP [.ptr 0 0,.own 1,.ptr 2 0,.ptr 4 0,I v,Bo co,Bo cu,I i] [Ad x.c,Zm cp,.box [.t (.str cn),I cd,.own 3],ZZ x1,.box [.t (.str cl),I cc,.t .nil]]
def PA(x:Z8)(cp:WL)(cn:V6)(cd:Int)(x1:WA)(cl:V6)(cc:Int)(x2:WA)(v:Int)(co cu:Bool)(i:Int):Rs:=bP [.ptr 0 0,.own 1,.ptr 2 0,.ptr 4 0,I v,Bo co,Bo cu,I i] [Ad x.c,Zm cp,.box [.t (.str cn),I cd,.own 3],ZZ x1,.box [.t (.str cl),I cc,.own 5],ZZ x2]
def Z4V:Ab:=AD (Zj 111 Tryz.f111)
def PB(a:Zt)(a1:Z8):Rs:=C 111 [Am a.c,Am a1.c] []
def wA:Af (Zj 229 Tryz.f229):={ m:=_ }
def Z4W:Za:=Aa wA 22
def ZsL:Za:=As wA 9 13 Z4W
def ZsM:Za:=Aa wA 23
def Z4X:Ab:=Zn wA 9 ZsL 23 ZsM
def UM(a:Int):Rs:=C 229 [I a] []
def Lo(c:WL)(m v:Int):Rs:=lp C [.blk 0,.seq ZsM,.fin 0 [.tmp 2]] [0,3,4] ZsL [I m,.own 0,I v] [Zm c]
def ZsN:Af (Zj 219 Tryz.f219):={ m:=_ }
def ZsO:Za:=Aa ZsN 9
def ZsP:Za:=Aa ZsN 19
def Z4Y:Ab:=Zn ZsN 9 ZsO 19 ZsP
def bQ(a:Int):Rs:=C 219 [I a] []
def Lp(c:WA)(n m:Int):Rs:=lp C [.blk 0,.seq ZsP,.fin 0 [.tmp 2]] [0,3,4] ZsO [I n,.own 0,I m] [ZZ c]
def FL:Af (Zj 220 Tryz.f220):={ m:=_ }
def ZsQ:Za:=Aa FL 19
def Z4Z:Za:=Aa FL 66
def ZsR:Za:=As FL 51 15 Z4Z
def ZsS:Za:=Aa FL 67
def ZsT:Za:=Aa FL 68
def wB:Za:=BL FL 36 15 ZsR 31 ZsS 32 ZsT
def ZsU:Za:=Aa FL 69
def ZsV:Za:=AG FL 31 5 wB 38 ZsU
def Z5a:Ab:=Zn FL 19 ZsQ 31 ZsV
def PC(a:Zs)(a1:WL):Rs:=C 220 [Am a.c,Zr a1] []
def bR(t:Zs)(cd:WA)(cc cl:WL)(i:Int):Rs:=lp C [.blk 0,.seq ZsV,.fin 0 [.tmp 4,.tmp 5]] [1,2,6,7,8] ZsQ [Zr cl,.ptr 0 0,.own 1,.own 2,I i] [Ad t.c,ZZ cd,Zm cc]
def ZsW:List Fr:=[.blk 2,.seq ZsU,.fin 0 [.tmp 4,.tmp 5]]
def PD(t:Zs)(cd:WA)(cc cl:WL)(k:Int):Rs:=lp C ZsW [1,2,6,7,11] wB [Zr cl,.ptr 0 0,.own 1,.own 2,I k] [Ad t.c,ZZ cd,Zm cc]
def bS(t:Zs)(cd:WA)(cc cl:WL)(k n i:Int):Rs:=lp C (.blk 4::.seq ZsS::.blk 3::.seq ZsT::.loop [1,2,6,7,11] wB::ZsW) [1,2,6,7,11,12,13] ZsR [Zr cl,.ptr 0 0,.own 1,.own 2,I k,I n,I i] [Ad t.c,ZZ cd,Zm cc]
def ZsX:Af (Zj 199 Tryz.f199):={ m:=_ }
def ZsY:Za:=Aa ZsX 19
def ZsZ:Za:=Aa ZsX 31
def Z5b:Ab:=Zn ZsX 19 ZsY 31 ZsZ
def Lq(a:Zs):Rs:=C 199 [Am a.c] []
def Zta:=lp C [.blk 0,.seq ZsZ,.fin 0 [.cellO 2 (some 4) [none,none,none,some (3,0)]]] [1,2,3,4,5] ZsY
def Ztb(t:Zs)(cp:V6)(cn cd:Int)(co:V6)(cl cc:Int)(l:WA)(i:Int):Rs:=Zta [.ptr 0 0,.ptr 1 0,.ptr 2 0,.own 3,I i] [Ad t.c,.box [.t (.str cp),I cn,I cd,.t .nil],.box [.t (.str co),I cl,I cc,.t .nil],ZZ l]
def bT(t:Zs)(cp:V6)(cn cd:Int)(co:V6)(cl cc:Int)(fr:Bool)(x:List ZF)(l:WA)(i:Int):Rs:=Zta [.ptr 0 0,.ptr 1 0,.ptr 2 0,.own 4,I i] [Ad t.c,.box [.t (.str cp),I cn,I cd,.t .nil],.box [.t (.str co),I cl,I cc,.own 3],.arr 263 3 fr (x.map ZF.c),ZZ l]
def Ztc:Af (Zj 153 Tryz.f153):={ m:=_ }
def Ztd:Za:=Aa Ztc 17
def Zte:Za:=Aa Ztc 29
def Z5c:Ab:=Zn Ztc 17 Ztd 29 Zte
def PE(a:Zt)(a1:Int):Rs:=C 153 [Am a.c,I a1] []
def Ztf:=lp C [.blk 0,.seq Zte,.fin 0 [.cellO 4 (some 2) [none,some (4,0)],.tmpO 5 [none]]] [2,4,6,7] Ztd
def Ztg(d:Zt)(cd cc i:Int):Rs:=Ztf [.ptr 0 0,.ptr 1 0,.ptr 2 0,I i] [Ad d.c,.box [I cd,.t .nil],.box [I cc,.t .nil]]
def bU(d:Zt)(cd cc:Int)(fr:Bool)(x:List Z5)(i:Int):Rs:=Ztf [.ptr 0 0,.ptr 1 0,.ptr 2 0,I i] [Ad d.c,.box [I cd,.t .nil],.box [I cc,.own 3],.arr 240 4 fr (x.map Z5.c)]
def bV:Af (Zj 154 Tryz.f154):={ m:=_ }
def Zth:Za:=Aa bV 15
def Zti:Za:=Aa bV 36
def Ztj:Za:=Aa bV 52
def Ztk:Za:=AG bV 31 5 Zti 21 Ztj
def Z5d:Ab:=Zn bV 15 Zth 31 Ztk
def PF(a:Zt)(a1:List ZD)(a2:List Z8):Rs:=C 154 [Am a.c,L 3 (a1.map ZD.c),L 4 (a2.map Z8.c)] []
def bW(d:Zt)(cc:List ZD)(cd:List Z8)(i:Int):Rs:=lp C [.blk 0,.seq Ztk,.fin 0 [.tmp 6]] [1,2,3,7] Zth [L 3 (cc.map ZD.c),L 4 (cd.map Z8.c),.ptr 0 0,I i] [Ad d.c]
def bX(d:Zt)(cc:List Z8)(i:Int):Rs:=lp C [.blk 2,.seq Ztj,.fin 0 [.tmp 6]] [2,3,8] Zti [L 4 (cc.map Z8.c),.ptr 0 0,I i] [Ad d.c]
def Ztl:Af (Zj 155 Tryz.f155):={ m:=_ }
def Ztm:Za:=Aa Ztl 9
def Ztn:Za:=Aa Ztl 21
def Z5e:Ab:=Zn Ztl 9 Ztm 21 Ztn
def wC(a:Zt):Rs:=C 155 [Am a.c] []
def Zto:=lp C [.blk 0,.seq Ztn,.fin 0 [.cellO 2 (some 1) [some (191,3)]]] [1,2,3,4] Ztm
def Ztp(d:Zt)(i:Int):Rs:=Zto [.ptr 0 0,.ptr 1 0,.ptr 2 0,I i] [Ad d.c,.box [.t .nil],.box [.t .nil]]
def Lr(d:Zt)(x:List Zs)(i:Int):Rs:=Zto [.ptr 0 0,.ptr 1 0,.ptr 2 0,I i] [Ad d.c,.box [.t .nil],.box [.own 3],.arr 191 3 true (x.map Zs.c)]
def Ztq:Af (Zj 156 Tryz.f156):={ m:=_ }
def Ztr:Za:=Aa Ztq 9
def Zts:Za:=Aa Ztq 19
def Z5f:Ab:=Zn Ztq 9 Ztr 19 Zts
def wD(a:List ZD):Rs:=C 156 [L 3 (a.map ZD.c)] []
def bY(cc l:List ZD)(i:Int):Rs:=lp C [.blk 0,.seq Zts,.fin 0 [.tmp 2]] [0,3,4] Ztr [L 3 (l.map ZD.c),.own 0,I i] [.arr 159 3 true (cc.map ZD.c)]
def Z5g:Ab:=AD (Zj 112 Tryz.f112)
def wE(a:Zt)(a1:List ZD)(a2:List Z8):Rs:=C 112 [Am a.c,L 3 (a1.map ZD.c),L 4 (a2.map Z8.c)] []
def Ls:Af (Zj 69 Tryz.f69):={ m:=_ }
def Z5h:Za:=Aa Ls 26
def Ztt:Za:=As Ls 11 15 Z5h
def Z5i:Za:=Aa Ls 49
def Ztu:Za:=As Ls 34 15 Z5i
def Ztv:Za:=Aa Ls 50
def Ztw:Za:=AG Ls 27 7 Ztu 23 Ztv
def Z5j:Ab:=Zn Ls 11 Ztt 27 Ztw
def bZ(x:Zo):Rs:=C 69 [.ptr 0 0] [Ad x.c]
def PG(c:Zo)(cc:Int)(d:Zt)(fr:Bool)(cd:List ZD)(n:Int):Rs:=EvL C [.blk 0,.seq Ztw,.fin 1 [.cellO 2 (some 5) [some (3,0),none,some (4,0),some (3,0),some (4,0)]]] [0,2,3,4,5] Ztt ⟨[(0,.ptr 0 0),(2,.ptr 1 0),(3,.ptr 2 0),(4,.own 3),(5,I n)],[[(0,.ptr 0 0)]],[Ad c.c,.box [.t .nil,I cc,.t .nil,.t .nil,.t .nil],Ad d.c,.arr 159 3 fr (cd.map ZD.c)]⟩
def cA(c:Zo)(cc:Int)(d:Zt)(fr:Bool)(cd:List ZD)(cl:List Z8)(n:Int):Rs:=EvL C [.blk 2,.seq Ztv,.fin 1 [.cellO 2 (some 5) [some (3,0),none,some (4,0),some (3,0),some (4,0)]]] [0,2,3,4,7,8] Ztu ⟨[(0,.ptr 0 0),(2,.ptr 1 0),(3,.ptr 2 0),(4,.own 3),(7,.own 4),(8,I n)],[[(0,.ptr 0 0)]],[Ad c.c,.box [.t .nil,I cc,.t .nil,.t .nil,.t .nil],Ad d.c,.arr 159 3 fr (cd.map ZD.c),.arr 163 4 true (cl.map Z8.c)]⟩
def wF:Af (Zj 158 Tryz.f158):={ m:=_ }
def ZFv:Za:=Aa wF 26
def ZFw:Za:=As wF 11 15 ZFv
def ZFx:Za:=Aa wF 27
def Z5k:Ab:=Zn wF 11 ZFw 27 ZFx
def cC:Af (Zj 54 Tryz.f54):={ m:=_ }
def Ztx:Za:=Aa cC 39
def Zty:Za:=Aa cC 57
def wG:Za:=AG cC 17 22 Ztx 40 Zty
def Ztz:Za:=Aa cC 58
def wH:Ab:=Zn cC 17 wG 58 Ztz
def cD(c:Int):Rs:=C 54 [.agg [I c,.t .nil]] []
def wI:List Fr:=[.blk 0,.seq Ztz,.fin 0 [.tmp 2]]
def wJ:=lp C wI [1,3,4] wG
def Z5l(c cc i:Int):Rs:=wJ [.ptr 0 0,I cc,I i] [.box [I c,.t .nil]]
def wK:Af (Zj 160 Tryz.f160):={ m:=_ }
def ZFy:Za:=Aa wK 23
def ZFz:Za:=As wK 9 14 ZFy
def ZF0:Za:=Aa wK 25
def Z5m:Ab:=Zn wK 9 ZFz 25 ZF0
def Z5n:Ab:=AD (Zj 159 Tryz.f159)
def Q8(a:Zc):Rs:=C 54 [Am a.c] []
def PH(q:Zc)(cc i:Int):Rs:=wJ [.ptr 0 0,I cc,I i] [Ad q.c]
def cE(q:Zc)(a:Zg)(cc i k:Int):Rs:=lp C (.blk 2::.blk 1::.seq Zty::.loop [1,3,4] wG::wI) [1,3,4,5,6] Ztx [.ptr 0 0,I cc,I i,.ptr 1 0,I k] [Ad q.c,Ad a.c]
def Zt0:Af (Zj 201 Tryz.f201):={ m:=_ }
def ZF1:Za:=Aa Zt0 9
def ZF2:Za:=Aa Zt0 19
def Z5o:Ab:=Zn Zt0 9 ZF1 19 ZF2
def FM:Af (Zj 114 Tryz.f114):={ m:=_ }
def ZF3:Za:=Aa FM 61
def ZF4:Za:=As FM 46 15 ZF3
def ZF5:Za:=Aa FM 62
def ZF6:Za:=AG FM 34 12 ZF4 28 ZF5
def ZF7:Za:=Aa FM 63
def ZF8:Za:=Aa FM 64
def ZF9:Za:=BL FM 11 23 ZF6 52 ZF7 53 ZF8
def ZFA:Za:=Aa FM 65
def Z5p:Ab:=Zn FM 11 ZF9 65 ZFA
def cF(a:V6):Rs:=C 114 [.t (.str a)] []
def PI:Af (Zj 157 Tryz.f157):={ m:=_ }
def PJ:Za:=Aa PI 42
def PK:Za:=Aa PI 56
def PL:Za:=Aa PI 57
def FN:Za:=BL PI 21 21 PJ 35 PK 36 PL
def FO:Za:=Aa PI 58
def Z5q:Ab:=Zn PI 21 FN 58 FO
def wL(x:Zo):Rs:=C 157 [.ptr 0 0] [Ad x.c]
def cG(c:Zo)(cl cc:Int)(x:List Zg)(cd n:Int):Rs:=EvL C [.blk 0,.seq FO,.fin 1 [.cellO 2 (some 2) [none,some (113,2)]]] [0,2,4,6,7] FN ⟨[(0,.ptr 0 0),(2,.ptr 1 0),(4,.ptr 2 0),(6,.ptr 4 0),(7,I n)],[[(0,.ptr 0 0)]],[Ad c.c,.box [I cl,.t .nil],.box [I cc,.own 3],Jr x,.box [I cd,.t .nil]]⟩
def cH(c:Zo)(cl cc:Int)(x:List Zg)(cd:Int)(cn:V6)(n m v i:Int):Rs:=EvL C [.blk 2,.seq PK,.blk 1,.seq PL,.loop [0,2,4,6,7] FN,.blk 0,.seq FO,.fin 1 [.cellO 2 (some 2) [none,some (113,2)]]] [0,2,4,6,7,9,10,11,12] PJ ⟨[(0,.ptr 0 0),(2,.ptr 1 0),(4,.ptr 2 0),(6,.ptr 4 0),(7,I n),(9,.ptr 5 0),(10,I m),(11,I v),(12,I i)],[[(0,.ptr 0 0)]],[Ad c.c,.box [I cl,.t .nil],.box [I cc,.own 3],Jr x,.box [I cd,.t .nil],.box [.t (.str cn),.t .nil]]⟩
def cI(c:Zo)(cl cc:Int)(x:List Zg)(cd:Int)(cn:V6)(x1:WL)(n m v i:Int):Rs:=EvL C [.blk 2,.seq PK,.blk 1,.seq PL,.loop [0,2,4,6,7] FN,.blk 0,.seq FO,.fin 1 [.cellO 2 (some 2) [none,some (113,2)]]] [0,2,4,6,7,9,10,11,12] PJ ⟨[(0,.ptr 0 0),(2,.ptr 1 0),(4,.ptr 2 0),(6,.ptr 4 0),(7,I n),(9,.ptr 5 0),(10,I m),(11,I v),(12,I i)],[[(0,.ptr 0 0)]],[Ad c.c,.box [I cl,.t .nil],.box [I cc,.own 3],Jr x,.box [I cd,.t .nil],.box [.t (.str cn),.own 6],Zm x1]⟩
def Kf(c:Zo)(cl cc:Int)(x:List Zg)(cd:Int)(x1:List Zg)(n:Int):Rs:=EvL C [.blk 0,.seq FO,.fin 1 [.cellO 2 (some 2) [none,some (113,2)]]] [0,2,4,6,7] FN ⟨[(0,.ptr 0 0),(2,.ptr 1 0),(4,.ptr 2 0),(6,.ptr 4 0),(7,I n)],[[(0,.ptr 0 0)]],[Ad c.c,.box [I cl,.t .nil],.box [I cc,.own 3],Jr x,.box [I cd,.own 5],Jr x1]⟩
def cJ(c:Zo)(cl cc:Int)(x:List Zg)(cd:Int)(x1:List Zg)(cn:V6)(n m v i:Int):Rs:=EvL C [.blk 2,.seq PK,.blk 1,.seq PL,.loop [0,2,4,6,7] FN,.blk 0,.seq FO,.fin 1 [.cellO 2 (some 2) [none,some (113,2)]]] [0,2,4,6,7,9,10,11,12] PJ ⟨[(0,.ptr 0 0),(2,.ptr 1 0),(4,.ptr 2 0),(6,.ptr 4 0),(7,I n),(9,.ptr 6 0),(10,I m),(11,I v),(12,I i)],[[(0,.ptr 0 0)]],[Ad c.c,.box [I cl,.t .nil],.box [I cc,.own 3],Jr x,.box [I cd,.own 5],Jr x1,.box [.t (.str cn),.t .nil]]⟩
def cK(c:Zo)(cl cc:Int)(x:List Zg)(cd:Int)(x1:List Zg)(cn:V6)(x2:WL)(n m v i:Int):Rs:=EvL C [.blk 2,.seq PK,.blk 1,.seq PL,.loop [0,2,4,6,7] FN,.blk 0,.seq FO,.fin 1 [.cellO 2 (some 2) [none,some (113,2)]]] [0,2,4,6,7,9,10,11,12] PJ ⟨[(0,.ptr 0 0),(2,.ptr 1 0),(4,.ptr 2 0),(6,.ptr 4 0),(7,I n),(9,.ptr 6 0),(10,I m),(11,I v),(12,I i)],[[(0,.ptr 0 0)]],[Ad c.c,.box [I cl,.t .nil],.box [I cc,.own 3],Jr x,.box [I cd,.own 5],Jr x1,.box [.t (.str cn),.own 7],Zm x2]⟩
def wM(x:Zo)(a:List V6):Rs:=C 150 [.ptr 0 0,L 1 (a.map sc)] [Ad x.c]
def Z5r:Af (Zj 113 Tryz.f113):={ m:=_ }
def Z5s:Za:=Aa Z5r 10
def Z5t:Ab:=Ql Z5r 10 Z5s
def wO(x:Zo):Rs:=C 113 [.ptr 0 0] [Ad x.c]
def Z5u:Ab:=AD (Zj 24 Tryz.f24)
def Wn(a:Zc):Rs:=C 24 [Am a.c] []
def Z5v:Ab:=AD (Zj 52 Tryz.f52)
def PM(a:Zc)(a1:Int):Rs:=C 52 [Am a.c,I a1] []
def cL:Af (Zj 141 Tryz.f141):={ m:=_ }
def Zt1:Za:=Aa cL 21
def Zt2:Za:=Aa cL 31
def wQ:Za:=AG cL 9 12 Zt1 22 Zt2
def Zt3:Za:=Aa cL 32
def Z5w:Ab:=Zn cL 9 wQ 32 Zt3
def Ud(a:Zc)(a1:Int):Rs:=C 141 [Am a.c,I a1] []
def Zt4:List Fr:=[.blk 0,.seq Zt3,.fin 0 [.tmp 4]]
def PN(q:Zc)(cc x i:Int):Rs:=lp C Zt4 [1,2,5,6] wQ [I cc,.ptr 0 0,I x,I i] [Ad q.c]
def cM(q:Zc)(cc x i k:Int):Rs:=lp C (.blk 2::.blk 1::.seq Zt2::.loop [1,2,5,6] wQ::Zt4) [1,2,5,6,7] Zt1 [I cc,.ptr 0 0,I x,I i,I k] [Ad q.c]
def wR:Af (Zj 96 Tryz.f96):={ m:=_ }
def Z5x:Za:=Aa wR 24
def Zt5:Za:=As wR 11 13 Z5x
def Zt6:Za:=Aa wR 25
def Z5y:Ab:=Zn wR 11 Zt5 25 Zt6
def wT(a:Zc)(a1:Int):Rs:=C 96 [Am a.c,I a1] []
def PO(q:Zc)(cd cl cc i:Int):Rs:=lp C [.blk 0,.seq Zt6,.fin 0 [.tmp 4]] [1,2,5,6,7] Zt5 [I cd,.ptr 0 0,I cl,I cc,I i] [Ad q.c]
def Zt7:Af (Zj 53 Tryz.f53):={ m:=_ }
def Zt8:Za:=Aa Zt7 9
def Zt9:Za:=Aa Zt7 19
def Z5z:Ab:=Zn Zt7 9 Zt8 19 Zt9
def FP(a:Zc)(a1:Int):Rs:=C 53 [Am a.c,I a1] []
def cN(q:Zc)(cc x n:Int):Rs:=lp C [.blk 0,.seq Zt9,.fin 0 [.tmp 4]] [1,2,5,6] Zt8 [I cc,.ptr 0 0,I x,I n] [Ad q.c]
def Z50:Ab:=AD (Zj 23 Tryz.f23)
def UN(a:Zc)(a1:Int):Rs:=C 23 [Am a.c,I a1] []
def Z51:Af (Zj 70 Tryz.f70):={ m:=_ }
def Z52:Za:=Aa Z51 10
def Z53:Ab:=Ql Z51 10 Z52
def cO(x:Zo):Rs:=C 70 [.ptr 0 0] [Ad x.c]
def Z54:Ab:=AD (Zj 35 Tryz.f35)
def cQ(x:Zo):Rs:=C 35 [.ptr 0 0] [Ad x.c]
def cR:Af (Zj 230 Tryz.f230):={ m:=_ }
def ZtA:Za:=Aa cR 39
def ZtB:Za:=Aa cR 55
def wU:Za:=AG cR 15 24 ZtA 40 ZtB
def ZtC:Za:=Aa cR 56
def Z55:Ab:=Zn cR 15 wU 56 ZtC
def Lt(a a1:Z5):Rs:=C 230 [Am a.c,Am a1.c] []
def ZtD:List Fr:=[.blk 0,.seq ZtC,.fin 0 [.tmp 4]]
def PP(a b:Z5)(i:Int):Rs:=lp C ZtD [2,3,5] wU [.ptr 0 0,.ptr 1 0,I i] [Ad a.c,Ad b.c]
def cS(a b:Z5)(x y:ZF)(i k:Int):Rs:=lp C (.blk 2::.blk 1::.seq ZtB::.loop [2,3,5] wU::ZtD) [2,3,5,6,7,8] ZtA [.ptr 0 0,.ptr 1 0,I i,.ptr 2 0,.ptr 3 0,I k] [Ad a.c,Ad b.c,Ad x.c,Ad y.c]
def ZtE:Af (Zj 221 Tryz.f221):={ m:=_ }
def ZtF:Za:=Aa ZtE 15
def ZtG:Za:=Aa ZtE 31
def Z56:Ab:=Zn ZtE 15 ZtF 31 ZtG
def wV(a a1:ZN):Rs:=C 221 [Am a.c,Am a1.c] []
def cT(a b:ZN)(i:Int):Rs:=lp C [.blk 0,.seq ZtG,.fin 0 [.tmp 4]] [2,3,5] ZtF [.ptr 0 0,.ptr 1 0,I i] [Ad a.c,Ad b.c]
def Z57:Ab:=AD (Zj 202 Tryz.f202)
def wW(a:Zq):Rs:=C 202 [Am a.c] []
def ZtH:Af (Zj 203 Tryz.f203):={ m:=_ }
def ZtI:Za:=Aa ZtH 15
def ZtJ:Za:=Aa ZtH 33
def Z58:Ab:=Zn ZtH 15 ZtI 33 ZtJ
def wX(a:Zt)(a1:Zc):Rs:=C 203 [Am a.c,Am a1.c] []
def PR(d:Zt)(q:Zc)(i:Int):Rs:=lp C [.blk 0,.seq ZtJ,.fin 0 [.tmp 4]] [2,3,5] ZtI [.ptr 0 0,.ptr 1 0,I i] [Ad d.c,Ad q.c]
def Z59:Ab:=AD (Zj 161 Tryz.f161)
def Vx(a:Zq)(a1:Zc)(a2:Int):Rs:=C 161 [Am a.c,Am a1.c,I a2] []
def wY:Af (Zj 142 Tryz.f142):={ m:=_ }
def Z5A:Za:=Aa wY 22
def ZtK:Za:=As wY 9 13 Z5A
def ZtL:Za:=Aa wY 23
def Z5B:Ab:=Zn wY 9 ZtK 23 ZtL
def PS(a:Int):Rs:=C 142 [I a] []
def PT(cc:WL)(c v:Int):Rs:=lp C [.blk 0,.seq ZtL,.fin 0 [.tmp 2]] [0,3,4] ZtK [I c,.own 0,I v] [Zm cc]
def Z5C:Ab:=AD (Zj 98 Tryz.f98)
def Lu(a:Zc)(a1:Int):Rs:=C 98 [Am a.c,I a1] []
def wZ:Af (Zj 57 Tryz.f57):={ m:=_ }
def Z5D:Za:=Aa wZ 26
def ZtM:Za:=As wZ 13 13 Z5D
def ZtN:Za:=Aa wZ 27
def Z5E:Ab:=Zn wZ 13 ZtM 27 ZtN
def Jz(a:Zc)(a1 a2:Int):Rs:=C 57 [Am a.c,I a1,I a2] []
def PU(c x y:WL)(i:Int):Rs:=lp C [.blk 0,.seq ZtN,.fin 0 [.tmp 6]] [7,8,9,10] ZtM [.own 0,.own 1,.own 2,I i] [Zm c,Zm x,Zm y]
def ZtO:Af (Zj 240 Tryz.f240):={ m:=_ }
def ZtP:Za:=Aa ZtO 7
def ZtQ:Za:=Aa ZtO 23
def Z5F:Ab:=Zn ZtO 7 ZtP 23 ZtQ
def cU(a:Zg)(a1:Int):Rs:=C 240 [Am a.c,I a1] []
def cV(a:Zg)(v k:Int):Rs:=lp C [.blk 0,.seq ZtQ,.fin 0 [.tmp 4]] [1,2,5] ZtP [I v,.ptr 0 0,I k] [Ad a.c]
def cW:Af (Zj 231 Tryz.f231):={ m:=_ }
def ZtR:Za:=Aa cW 53
def ZtS:Za:=Aa cW 69
def w6:Za:=AG cW 25 28 ZtR 44 ZtS
def ZtT:Za:=Aa cW 70
def Z5G:Ab:=Zn cW 25 w6 70 ZtT
def w7(a:Zq)(a1:Zc)(a2 a3:Int):Rs:=C 231 [Am a.c,Am a1.c,I a2,I a3] []
def ZtU:List Fr:=[.blk 0,.seq ZtT,.fin 0 [.tmp 8]]
def Lv(s:Zq)(q:Zc)(v:WL)(cc i k:Int):Rs:=lp C ZtU [2,3,4,5,9,10] w6 [I cc,I i,.ptr 0 0,.ptr 1 0,.own 2,I k] [Ad s.c,Ad q.c,Zm v]
def cX(s:Zq)(q:Zc)(v:WL)(want:Z8)(cc i k j:Int):Rs:=lp C (.blk 2::.blk 1::.seq ZtS::.loop [2,3,4,5,9,10] w6::ZtU) [2,3,4,5,9,10,11,12] ZtR [I cc,I i,.ptr 0 0,.ptr 1 0,.own 2,I k,.ptr 3 0,I j] [Ad s.c,Ad q.c,Zm v,Ad want.c]
def PV:Af (Zj 222 Tryz.f222):={ m:=_ }
def ZtV:Za:=Aa PV 9
def Z5H:Za:=Aa PV 53
def ZtW:Za:=As PV 32 21 Z5H
def ZtX:Za:=Aa PV 54
def ZtY:Za:=AG PV 19 13 ZtW 35 ZtX
def Z5I:Ab:=Zn PV 9 ZtV 19 ZtY
def Q9(x:WL)(a:Zq)(a1:Zc)(a2:Int):Rs:=C 222 [Am a.c,Am a1.c,I a2,.own 0] [Zm x]
def PW(cc:WL)(s:Zq)(q:Zc)(cd cl i:Int):Rs:=EvL C [.blk 0,.seq ZtY,.fin 1 [.tmp 8]] [2,3,4,5,9,10] ZtV ⟨[(2,I cd),(3,.own 0),(4,.ptr 1 0),(5,.ptr 2 0),(9,I cl),(10,I i)],[[(0,.own 0)]],[Zm cc,Ad s.c,Ad q.c]⟩
def Kg(cc:WL)(s:Zq)(q:Zc)(cd cl i:Int):Rs:=EvL C [.blk 2,.seq ZtX,.fin 1 [.tmp 8]] [2,3,4,5,9,11] ZtW ⟨[(2,I cd),(3,.own 0),(4,.ptr 1 0),(5,.ptr 2 0),(9,I cl),(11,I i)],[[(0,.own 0)]],[Zm cc,Ad s.c,Ad q.c]⟩
def Z5J:Ab:=AD (Zj 204 Tryz.f204)
def PX(a:Zq)(a1:Zc)(a2 a3:Int):Rs:=C 204 [Am a.c,Am a1.c,I a2,I a3] []
def ZtZ:Af (Zj 249 Tryz.f249):={ m:=_ }
def Zua:Za:=Aa ZtZ 9
def Zub:Za:=Aa ZtZ 19
def Z5K:Ab:=Zn ZtZ 9 Zua 19 Zub
def w8(a:V6)(a1:Int)(a2:WA):Rs:=C 249 [.t (.str a),I a1,L 1 (a2.map AF)] []
def Zuc:=lp C [.blk 0,.seq Zub,.fin 0 [.cellO 6 (some 3) [none,none,some (32,1)],.tmpO 7 [none]]] [2,6,8,9] Zua
def Zud(cl:V6)(cc:Int)(cd:V6)(c:Int)(cn:WA)(i:Int):Rs:=Zuc [L 1 (cn.map AF),.ptr 0 0,.ptr 1 0,I i] [.box [.t (.str cl),I cc,.t .nil],.box [.t (.str cd),I c,.t .nil]]
def cY(cl:V6)(cc:Int)(cd:V6)(c:Int)(x cn:WA)(i:Int):Rs:=Zuc [L 1 (cn.map AF),.ptr 0 0,.ptr 1 0,I i] [.box [.t (.str cl),I cc,.t .nil],.box [.t (.str cd),I c,.own 2],ZZ x]
def Z5L:Ab:=AD (Zj 241 Tryz.f241)
def w9(a:Z5):Rs:=C 241 [Am a.c] []
def Z5M:Ab:=AD (Zj 232 Tryz.f232)
def FQ(a:Z5):Rs:=C 232 [Am a.c] []
def PY:Af (Zj 233 Tryz.f233):={ m:=_ }
def Zue:Za:=Aa PY 24
def Zuf:Za:=Aa PY 34
def Zug:Za:=Aa PY 35
def xA:Za:=BL PY 9 15 Zue 25 Zuf 26 Zug
def Zuh:Za:=Aa PY 36
def Z5N:Ab:=Zn PY 9 xA 36 Zuh
def xB(a:Z5):Rs:=C 233 [Am a.c] []
def Zui:List Fr:=[.blk 0,.seq Zuh,.fin 0 [.cellO 2 (some 4) [none,none,none,some (263,3)]]]
def Zuj:=lp C Zui [1,2,3,4] xA
def Zuk(s:Z5)(cp:V6)(cn cd:Int)(co:V6)(cl cc i:Int):Rs:=Zuj [.ptr 0 0,.ptr 1 0,.ptr 2 0,I i] [Ad s.c,.box [.t (.str cp),I cn,I cd,.t .nil],.box [.t (.str co),I cl,I cc,.t .nil]]
def cZ:=lp C (.blk 2::.seq Zuf::.blk 1::.seq Zug::.loop [1,2,3,4] xA::Zui) [1,2,3,4,5,6] Zue
def Zul(s:Z5)(cp:V6)(cn cd:Int)(co:V6)(cl cc:Int)(x x1:WL)(i k:Int):Rs:=cZ [.ptr 0 0,.ptr 1 0,.ptr 2 0,I i,.ptr 3 0,I k] [Ad s.c,.box [.t (.str cp),I cn,I cd,.t .nil],.box [.t (.str co),I cl,I cc,.t .nil],.box [.own 4,.t .nil,.own 5],Zm x,Zm x1]
def c7(s:Z5)(cp:V6)(cn cd:Int)(co:V6)(cl cc:Int)(x:WL)(x1:WA)(x2:WL)(i k:Int):Rs:=cZ [.ptr 0 0,.ptr 1 0,.ptr 2 0,I i,.ptr 3 0,I k] [Ad s.c,.box [.t (.str cp),I cn,I cd,.t .nil],.box [.t (.str co),I cl,I cc,.t .nil],.box [.own 4,.own 5,.own 6],Zm x,ZZ x1,Zm x2]
def FR(s:Z5)(cp:V6)(cn cd:Int)(co:V6)(cl cc:Int)(x:List ZF)(i:Int):Rs:=Zuj [.ptr 0 0,.ptr 1 0,.ptr 2 0,I i] [Ad s.c,.box [.t (.str cp),I cn,I cd,.t .nil],.box [.t (.str co),I cl,I cc,.own 3],.arr 263 3 true (x.map ZF.c)]
def Zum(s:Z5)(cp:V6)(cn cd:Int)(co:V6)(cl cc:Int)(x:List ZF)(x1 x2:WL)(i k:Int):Rs:=cZ [.ptr 0 0,.ptr 1 0,.ptr 2 0,I i,.ptr 4 0,I k] [Ad s.c,.box [.t (.str cp),I cn,I cd,.t .nil],.box [.t (.str co),I cl,I cc,.own 3],.arr 263 3 true (x.map ZF.c),.box [.own 5,.t .nil,.own 6],Zm x1,Zm x2]
def c8(s:Z5)(cp:V6)(cn cd:Int)(co:V6)(cl cc:Int)(x:List ZF)(x1:WL)(x2:WA)(x3:WL)(i k:Int):Rs:=cZ [.ptr 0 0,.ptr 1 0,.ptr 2 0,I i,.ptr 4 0,I k] [Ad s.c,.box [.t (.str cp),I cn,I cd,.t .nil],.box [.t (.str co),I cl,I cc,.own 3],.arr 263 3 true (x.map ZF.c),.box [.own 5,.own 6,.own 7],Zm x1,ZZ x2,Zm x3]
def Zun:Af (Zj 223 Tryz.f223):={ m:=_ }
def Zuo:Za:=Aa Zun 7
def Zup:Za:=Aa Zun 23
def Z5O:Ab:=Zn Zun 7 Zuo 23 Zup
def xC(a:ZN)(a1:V6):Rs:=C 223 [Am a.c,.t (.str a1)] []
def c9(c:ZN)(cl:V6)(cd cc:Int)(cn:V6)(i:Int):Rs:=lp C [.blk 0,.seq Zup,.fin 0 [.cellO 4 (some 4) [none,none,none,some (263,3)],.tmpO 5 [none]]] [1,2,4,6] Zuo [.t (.str cn),.ptr 0 0,.ptr 1 0,I i] [Ad c.c,.box [.t (.str cl),I cd,I cc,.t .nil]]
def Z5P:Ab:=AD (Zj 205 Tryz.f205)
def QA(a:Zq)(a1:Zc)(a2:Int):Rs:=C 205 [Am a.c,Am a1.c,I a2] []
def xD:Af (Zj 162 Tryz.f162):={ m:=_ }
def Z5Q:Za:=Aa xD 30
def Zuq:Za:=As xD 17 13 Z5Q
def Zur:Za:=Aa xD 31
def Z5R:Ab:=Zn xD 17 Zuq 31 Zur
def xE(a:Zq)(a1:Zc)(a2:Int):Rs:=C 162 [Am a.c,Am a1.c,I a2] []
def PZ(s:Zq)(q:Zc)(cc n i:Int):Rs:=lp C [.blk 0,.seq Zur,.fin 0 [.tmp 6]] [2,3,4,7,8] Zuq [I cc,.ptr 0 0,.ptr 1 0,I n,I i] [Ad s.c,Ad q.c]
def xF:Af (Zj 115 Tryz.f115):={ m:=_ }
def Z5S:Za:=Aa xF 33
def Zus:Za:=As xF 17 16 Z5S
def Zut:Za:=Aa xF 35
def Z5T:Ab:=Zn xF 17 Zus 35 Zut
def dA(a:Zq)(a1:Zc):Rs:=C 115 [Am a.c,Am a1.c] []
def P0(s:Zq)(q:Zc)(cc:WL)(m:Int):Rs:=lp C [.blk 0,.seq Zut,.fin 0 [.tmp 4]] [2,3,5,6] Zus [.ptr 0 0,.ptr 1 0,.own 2,I m] [Ad s.c,Ad q.c,Zm cc]
def xG:Af (Zj 224 Tryz.f224):={ m:=_ }
def Z5U:Za:=Aa xG 30
def Zuu:Za:=As xG 17 13 Z5U
def Zuv:Za:=Aa xG 31
def Z5V:Ab:=Zn xG 17 Zuu 31 Zuv
def dB(a:Zq)(a1:Zc)(a2:Int):Rs:=C 224 [Am a.c,Am a1.c,I a2] []
def P1(s:Zq)(q:Zc)(cc n i:Int):Rs:=lp C [.blk 0,.seq Zuv,.fin 0 [.tmp 6]] [2,3,4,7,8] Zuu [I cc,.ptr 0 0,.ptr 1 0,I n,I i] [Ad s.c,Ad q.c]
end
