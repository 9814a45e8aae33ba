/-
  Parts of the proofs for this seat: D1.
-/
import Derived.Test.YtggcnlojfngdeaaGreatP8
set_option linter.all false
set_option maxRecDepth 100000
set_option maxHeartbeats 4000000
set_option cbv.maxSteps 9999999
namespace Go.Proofs.YtggcnlojfngdeaaGreat
open Go.AM
noncomputable section
def Z29:Ab:=AB (Zi 4 Tryz.f4)
def vS(a:WL):Rs:=C 4 [L 1 (a.map (kc .u8))] []
def Zrm:Ag (Zi 16 Tryz.f16):={ m:=_ }
def Zrn:Za:=Aa Zrm 9
def Zro:Za:=Aa Zrm 19
def Z2A:Ab:=Zs Zrm 9 Zrn 19 Zro
def bC(a:WL):Rs:=C 16 [L 1 (a.map (kc .u8))] []
def bD(c:WL)(h1 i:Int):Rs:=lp C [.blk 0,.seq Zro,.fin 0 [.tmp 2]] [0,3,4] Zrn [L 1 (c.map (kc .u8)),I h1,I i] []
def Z2B:Ag (Zi 87 Tryz.f87):={ m:=_ }
def Z2C:Za:=Aa Z2B 14
def Z2D:Ab:=VY Z2B 14 Z2C
def G7(x:Zl):Rs:=C 87 [.ptr 0 0] [Ae x.c]
def Z2E:Ab:=AB (Zi 38 Tryz.f38)
def ZT(x:Zl)(a:Int):Rs:=C 38 [.ptr 0 0,I a] [Ae x.c]
def Z2F:Ab:=AB (Zi 18 Tryz.f18)
def XJ(x:Zl)(a:Int):Rs:=C 18 [.ptr 0 0,I a] [Ae x.c]
def Z2G:Ab:=AB (Zi 79 Tryz.f79)
def Zrp:Rs:=C 79 [] []
def Zrq:Ab:=AB (Zi 37 Tryz.f37)
def XY(x:Zl)(x1:WL):Rs:=C 37 [.ptr 0 0,.own 1] [Ae x.c,Zo x1]
def Zrr:Ag (Zi 80 Tryz.f80):={ m:=_ }
def Z2H:Za:=Aa Zrr 16
def Z2I:Za:=Av Zrr 10 6 Z2H
def Z2J:Ab:=VY Zrr 10 Z2I
def G8(x:Zl):Rs:=C 80 [.ptr 0 0] [Ae x.c]
def Z2K:Ab:=AB (Zi 34 Tryz.f34)
def bE(x:Zl):Rs:=C 34 [.ptr 0 0] [Ae x.c]
def Pt:Ag (Zi 136 Tryz.f136):={ m:=_ }
def Z2L:Za:=Aa Pt 35
def Z2M:Za:=Av Pt 27 8 Z2L
def Zrs:Za:=Av Pt 11 16 Z2M
def Z2N:Za:=Aa Pt 43
def Zrt:Za:=Av Pt 37 6 Z2N
def Z2O:Ab:=Zs Pt 11 Zrs 37 Zrt
def G9(a:WL):Rs:=C 136 [.t .nil,Zt a] []
def Zru:=lp C [.blk 0,.seq Zrt,.fin 0 [.tmp 4]] [0,1,5,6,7] Zrs
def Zrv(c:XV)(cd:WL)(cc:Bool)(i:Int):Rs:=Zru [.t .nil,Zt cd,.own 0,Bo cc,I i] [Xc c]
def Zrw:Ag (Zi 168 Tryz.f168):={ m:=_ }
def Zrx:Za:=Aa Zrw 7
def vT:Za:=Aa Zrw 31
def Z2P:Ab:=Zs Zrw 7 Zrx 31 vT
def Ut(a a1:WL):Rs:=C 168 [Zt a,Zt a1] []
def bF(a b:WL)(i:Int):Rs:=lp C [.blk 0,.seq vT,.fin 0 [.tmp 4]] [0,1,5] Zrx [Zt a,Zt b,I i] []
def bG(a b:WL)(i:Int)(x:Bool):Rs:=Ev C [.fin 0 [.tmp 4]] vT ⟨[(0,Zt a),(1,Zt b),(5,I i),(15,Bo x)],[[]],[]⟩
def Jd(a:XV)(a1:WL):Rs:=C 136 [L 1 (a.map AA),Zt a1] []
def Ql(cc c:XV)(cl:WL)(cd:Bool)(i:Int):Rs:=Zru [L 1 (c.map AA),Zt cl,.own 0,Bo cd,I i] [Xc cc]
def Pu:Ag (Zi 89 Tryz.f89):={ m:=_ }
def vU:Za:=Aa Pu 24
def vV:Za:=Aa Pu 34
def vW:Za:=Aa Pu 35
def Lq:Za:=BM Pu 9 15 vU 25 vV 26 vW
def Lr:Za:=Aa Pu 36
def Z2Q:Ab:=Zs Pu 9 Lq 36 Lr
def Vx(x:Zl)(a:V5)(a1 a2 a3:Int):Rs:=C 89 [.ptr 0 0,.t (.str a),I a1,I a2,I a3] [Ae x.c]
def vX(c:Zl)(co:V5)(cd:Int)(cl:V5)(cc cn cp n:Int):Rs:=EvL C [.blk 0,.seq Lr,.fin 1 [.cellO 10 (some 3) [none,none,some (44,1)]]] [0,2,4,10,11,12] Lq ⟨[(0,.ptr 0 0),(2,I cn),(4,I cp),(10,.ptr 1 0),(11,.ptr 2 0),(12,I n)],[[(0,.ptr 0 0)]],[Ae c.c,.box [.t (.str co),I cd,.t .nil],.box [.t (.str cl),I cc,.t .nil]]⟩
def Pv(c:Zl)(co:V5)(cd:Int)(cl:V5)(cc:Int)(cp:WL)(cn cu n i:Int):Rs:=EvL C [.blk 2,.seq vV,.blk 1,.seq vW,.loop [0,2,4,10,11,12] Lq,.blk 0,.seq Lr,.fin 1 [.cellO 10 (some 3) [none,none,some (44,1)]]] [0,2,4,10,11,12,13,14] vU ⟨[(0,.ptr 0 0),(2,I cn),(4,I cu),(10,.ptr 1 0),(11,.ptr 2 0),(12,I n),(13,.own 3),(14,I i)],[[(0,.ptr 0 0)]],[Ae c.c,.box [.t (.str co),I cd,.t .nil],.box [.t (.str cl),I cc,.t .nil],Zo cp]⟩
def Pw(c:Zl)(co:V5)(cd:Int)(cl:V5)(cc:Int)(x:XV)(cn cp n:Int):Rs:=EvL C [.blk 0,.seq Lr,.fin 1 [.cellO 10 (some 3) [none,none,some (44,1)]]] [0,2,4,10,11,12] Lq ⟨[(0,.ptr 0 0),(2,I cn),(4,I cp),(10,.ptr 1 0),(11,.ptr 2 0),(12,I n)],[[(0,.ptr 0 0)]],[Ae c.c,.box [.t (.str co),I cd,.t .nil],.box [.t (.str cl),I cc,.own 3],Xc x]⟩
def bH(c:Zl)(co:V5)(cd:Int)(cl:V5)(cc:Int)(x:XV)(cp:WL)(cn cu n i:Int):Rs:=EvL C [.blk 2,.seq vV,.blk 1,.seq vW,.loop [0,2,4,10,11,12] Lq,.blk 0,.seq Lr,.fin 1 [.cellO 10 (some 3) [none,none,some (44,1)]]] [0,2,4,10,11,12,13,14] vU ⟨[(0,.ptr 0 0),(2,I cn),(4,I cu),(10,.ptr 1 0),(11,.ptr 2 0),(12,I n),(13,.own 4),(14,I i)],[[(0,.ptr 0 0)]],[Ae c.c,.box [.t (.str co),I cd,.t .nil],.box [.t (.str cl),I cc,.own 3],Xc x,Zo cp]⟩
def Px:Ag (Zi 81 Tryz.f81):={ m:=_ }
def Zry:Za:=Aa Px 37
def Zrz:Za:=Av Px 31 6 Zry
def bI:Za:=Av Px 13 18 Zrz
def Zr0:Za:=Aa Px 47
def bJ:Za:=Av Px 41 6 Zr0
def Z2R:Ab:=Zs Px 13 bI 41 bJ
def Ls(x:Zl):Rs:=C 81 [.ptr 0 0] [Ae x.c]
def vY(c:Zl)(x:List V5)(cd cc x1 x2:Int):Rs:=EvL C [.blk 0,.seq bJ,.fin 1 [.cellO 2 (some 1) [some (150,3)]]] [0,2,3,4,5,17,18,19] bI ⟨[(0,.ptr 0 0),(2,.ptr 1 0),(3,I cd),(4,I cc),(5,.ptr 2 0),(17,.own 3),(18,I x1),(19,I x2)],[[(0,.ptr 0 0)]],[Ae c.c,.box [.t .nil],.box [.t .nil],.arr 9 1 true (x.map sc)]⟩
def QX(c:Zl)(x:List Zm)(x1:List V5)(cd cc x2 x3:Int):Rs:=EvL C [.blk 0,.seq bJ,.fin 1 [.cellO 2 (some 1) [some (150,3)]]] [0,2,3,4,5,17,18,19] bI ⟨[(0,.ptr 0 0),(2,.ptr 1 0),(3,I cd),(4,I cc),(5,.ptr 2 0),(17,.own 4),(18,I x2),(19,I x3)],[[(0,.ptr 0 0)]],[Ae c.c,.box [.t .nil],.box [.own 3],.arr 150 3 true (x.map Zm.c),.arr 9 1 true (x1.map sc)]⟩
def Py:Ag (Zi 39 Tryz.f39):={ m:=_ }
def Z2S:Za:=Aa Py 26
def vZ:Za:=Av Py 13 13 Z2S
def Z2T:Za:=Aa Py 39
def Z2U:Za:=Av Py 33 6 Z2T
def wA:Za:=Av Py 27 6 Z2U
def Z2V:Ab:=Zs Py 13 vZ 27 wA
def JT(x:Zl):Rs:=C 39 [.ptr 0 0] [Ae x.c]
def Lt(c:Zl)(cd:V5)(To:Int)(cc:V5)(cl m i:Int):Rs:=EvL C [.blk 0,.seq wA,.fin 1 [.cellO 2 (some 3) [none,some (1,0),none]]] [0,2,4,5,6] vZ ⟨[(0,.ptr 0 0),(2,.ptr 1 0),(4,I m),(5,.ptr 2 0),(6,I i)],[[(0,.ptr 0 0)]],[Ae c.c,.box [.t (.str cd),.t .nil,I To],.box [.t (.str cc),.t .nil,I cl]]⟩
def Pz(c:Zl)(cd:V5)(To:Int)(cc:V5)(cl:Int)(x:WL)(m i:Int):Rs:=EvL C [.blk 0,.seq wA,.fin 1 [.cellO 2 (some 3) [none,some (1,0),none]]] [0,2,4,5,6] vZ ⟨[(0,.ptr 0 0),(2,.ptr 1 0),(4,I m),(5,.ptr 2 0),(6,I i)],[[(0,.ptr 0 0)]],[Ae c.c,.box [.t (.str cd),.t .nil,I To],.box [.t (.str cc),.own 3,I cl],Zo x]⟩
def Zr1:Ab:=AB (Zi 137 Tryz.f137)
def Lu(a:V5):Rs:=C 137 [.t (.str a)] []
def Zr2:Ab:=AB (Zi 50 Tryz.f50)
def Z0(a a1 a2:Int):Rs:=C 50 [I a,I a1,I a2] []
def Zr3:Ag (Zi 208 Tryz.f208):={ m:=_ }
def Zr4:Za:=Aa Zr3 7
def Zr5:Za:=Aa Zr3 23
def Z2W:Ab:=Zs Zr3 7 Zr4 23 Zr5
def wB(a:WL)(a1:Int):Rs:=C 208 [Zt a,I a1] []
def bL(c:WL)(n i:Int):Rs:=lp C [.blk 0,.seq Zr5,.fin 0 [.tmp 4]] [0,1,5] Zr4 [Zt c,I n,I i] []
def Zr6:Ag (Zi 193 Tryz.f193):={ m:=_ }
def Zr7:Za:=Aa Zr6 15
def Zr8:Za:=Aa Zr6 31
def Z2X:Ab:=Zs Zr6 15 Zr7 31 Zr8
def Je(a:Zm):Rs:=C 193 [Am a.c] []
def Zr9:=lp C [.blk 0,.seq Zr8,.fin 0 [.tmp 2]] [1,3] Zr7
def PA(t:Zm)(i:Int):Rs:=Zr9 [.ptr 0 0,I i] [Ae t.c]
def ZrA:Ag (Zi 169 Tryz.f169):={ m:=_ }
def ZrB:Za:=Aa ZrA 7
def ZrC:Za:=Aa ZrA 23
def Z2Y:Ab:=Zs ZrA 7 ZrB 23 ZrC
def PB(a:Zq):Rs:=C 169 [Am a.c] []
def PC(d:Zq)(i:Int):Rs:=lp C [.blk 0,.seq ZrC,.fin 0 [.tmp 2]] [1,3] ZrB [.ptr 0 0,I i] [Ae d.c]
def ZrD:Ag (Zi 171 Tryz.f171):={ m:=_ }
def ZrE:Za:=Aa ZrD 9
def ZrF:Za:=Aa ZrD 19
def Z2Z:Ab:=Zs ZrD 9 ZrE 19 ZrF
def K1(a:Zm):Rs:=C 171 [Am a.c] []
def ZrG:=lp C [.blk 0,.seq ZrF,.fin 0 [.cell 2 (some 3)]] [1,2,3,4] ZrE
def ZrH(t:Zm)(cn:V5)(cd:Int)(cl:V5)(cc i:Int):Rs:=ZrG [.ptr 0 0,.ptr 1 0,.ptr 2 0,I i] [Ae t.c,.box [.t (.str cn),I cd,.t .nil],.box [.t (.str cl),I cc,.t .nil]]
def PD(t:Zm)(cn:V5)(cd:Int)(cl:V5)(cc:Int)(x:XV)(i:Int):Rs:=ZrG [.ptr 0 0,.ptr 1 0,.ptr 2 0,I i] [Ae t.c,.box [.t (.str cn),I cd,.t .nil],.box [.t (.str cl),I cc,.own 3],Xc x]
def ZrI:Ag (Zi 165 Tryz.f165):={ m:=_ }
def ZrJ:Za:=Aa ZrI 7
def ZrK:Za:=Aa ZrI 23
def Z3a:Ab:=Zs ZrI 7 ZrJ 23 ZrK
def VK(a:Zq)(a1:V5):Rs:=C 165 [Am a.c,.t (.str a1)] []
def bM(d:Zq)(cd:V5)(cc:Int)(cl:V5)(i:Int):Rs:=lp C [.blk 0,.seq ZrK,.fin 0 [.cell 4 (some 3),.tmp 5]] [1,2,4,6] ZrJ [.t (.str cl),.ptr 0 0,.ptr 1 0,I i] [Ae d.c,.box [.t (.str cd),I cc,.t .nil]]
def Ha(cc:V5)(c:Int):Rs:=C 193 [.agg [.t (.str cc),I c,.t .nil]] []
def ZrL(cc:V5)(c i:Int):Rs:=Zr9 [.ptr 0 0,I i] [.box [.t (.str cc),I c,.t .nil]]
def ZrM:Ag (Zi 166 Tryz.f166):={ m:=_ }
def ZrN:Za:=Aa ZrM 7
def ZrO:Za:=Aa ZrM 23
def Z3b:Ab:=Zs ZrM 7 ZrN 23 ZrO
def wC(cc:V5)(c:Int)(a:WL):Rs:=C 166 [.agg [.t (.str cc),I c,.t .nil],Zt a] []
def ZrP:=lp C [.blk 0,.seq ZrO,.fin 0 [.tmp 4]] [1,2,5] ZrN
def bN(cc:V5)(c:Int)(cd:WL)(i:Int):Rs:=ZrP [Zt cd,.ptr 0 0,I i] [.box [.t (.str cc),I c,.t .nil]]
def ZrQ:Ag (Zi 107 Tryz.f107):={ m:=_ }
def ZrR:Za:=Aa ZrQ 7
def ZrS:Za:=Aa ZrQ 23
def ZrT:Ab:=Zs ZrQ 7 ZrR 23 ZrS
def Vn(a:WL)(a1:Int):Rs:=C 107 [Zt a,I a1] []
def bO(l:WL)(x i:Int):Rs:=lp C [.blk 0,.seq ZrS,.fin 0 [.tmp 4]] [0,1,5] ZrR [Zt l,I x,I i] []
def PE(a:Zm)(a1:WL):Rs:=C 166 [Am a.c,Zt a1] []
def bP(t:Zm)(cc:WL)(i:Int):Rs:=ZrP [Zt cc,.ptr 0 0,I i] [Ae t.c]
def Z3c:Ab:=AB (Zi 125 Tryz.f125)
def PF(a:Zq)(a1:Zx):Rs:=C 125 [Am a.c,Am a1.c] []
def ZrU:Ag (Zi 167 Tryz.f167):={ m:=_ }
def ZrV:Za:=Aa ZrU 9
def ZrW:Za:=Aa ZrU 27
def Z3d:Ab:=Zs ZrU 9 ZrV 27 ZrW
def Hb(a a1:WL):Rs:=C 167 [Zt a,Zt a1] []
def bQ(cc cd c:WL)(i:Int):Rs:=lp C [.blk 0,.seq ZrW,.fin 0 [.tmp 4,.tmp 5]] [0,1,6,7] ZrV [Zt cd,Zt c,.own 0,I i] [Zo cc]
def bR:Ag (Zi 126 Tryz.f126):={ m:=_ }
def ZrX:Za:=Aa bR 23
def ZrY:Za:=Aa bR 41
def wD:Za:=AD bR 9 14 ZrX 32 ZrY
def ZrZ:Za:=Aa bR 42
def Z3e:Ab:=Zs bR 9 wD 42 ZrZ
def wE(a:Zq)(a1:Zx):Rs:=C 126 [Am a.c,Am a1.c] []
def Zsa:List Fr:=[.blk 0,.seq ZrZ,.fin 0 [.tmp 4]]
def Zsb:=lp C Zsa [2,3,5,7] wD
def Zsc(d:Zq)(f:Zx)(cd:V5)(cc k:Int):Rs:=Zsb [.ptr 0 0,.ptr 1 0,.ptr 2 0,I k] [Ae d.c,Ae f.c,.box [.t (.str cd),I cc,.t .nil]]
def PG(d:Zq)(f:Zx)(cd:V5)(cc:Int)(x:XV)(k:Int):Rs:=Zsb [.ptr 0 0,.ptr 1 0,.ptr 2 0,I k] [Ae d.c,Ae f.c,.box [.t (.str cd),I cc,.own 3],Xc x]
def Hc(d:Zq)(f:Zx)(cd:V5)(cc:Int)(x:XV)(y:WL)(k i:Int):Rs:=lp C (.blk 2::.blk 1::.seq ZrY::.loop [2,3,5,7] wD::Zsa) [2,3,5,7,8,10] ZrX [.ptr 0 0,.ptr 1 0,.ptr 2 0,I k,.own 4,I i] [Ae d.c,Ae f.c,.box [.t (.str cd),I cc,.own 3],Xc x,Zo y]
def Z3f:Ab:=AB (Zi 82 Tryz.f82)
def Lv(a:Zq)(a1:Zx):Rs:=C 82 [Am a.c,Am a1.c] []
def Zsd:Ab:=AB (Zi 43 Tryz.f43)
def Q2(x:Zl)(x1:List V5):Rs:=C 43 [.ptr 0 0,.own 1] [Ae x.c,.arr 9 1 true (x1.map sc)]
def wF:Ag (Zi 40 Tryz.f40):={ m:=_ }
def Z3g:Za:=Aa wF 22
def Z3h:Za:=Av wF 16 6 Z3g
def Z3i:Za:=Av wF 10 6 Z3h
def Z3j:Ab:=VY wF 10 Z3i
def K2(x:Zl):Rs:=C 40 [.ptr 0 0] [Ae x.c]
def Z3k:Ab:=AB (Zi 127 Tryz.f127)
def PH(a:Zq)(a1:Zw):Rs:=C 127 [Am a.c,Am a1.c] []
def Hd:Ag (Zi 128 Tryz.f128):={ m:=_ }
def Zse:Za:=Aa Hd 38
def Zsf:Za:=Aa Hd 53
def Zsg:Za:=Aa Hd 63
def Zsh:Za:=AD Hd 48 5 Zsf 15 Zsg
def wG:Za:=Aa Hd 68
def bS:Za:=BM Hd 21 17 Zse 27 Zsh 47 wG
def Zsi:Za:=Aa Hd 69
def Z3l:Ab:=Zs Hd 21 bS 69 Zsi
def Zsj(a:Zq)(a1:Zw):Rs:=C 128 [Am a.c,Am a1.c] []
def wH:List Fr:=[.blk 0,.seq Zsi,.fin 0 [.tmp 4]]
def bT:=lp C wH [3,5,6,8,10] bS
def K3(x:Zw)(co:WL)(cn:V5)(cd:Int)(cl:V5)(cc v:Int):Rs:=bT [.ptr 0 0,.own 1,.ptr 2 0,.ptr 3 0,I v] [Ae x.c,Zo co,.box [.t (.str cn),I cd,.t .nil],.box [.t (.str cl),I cc,.t .nil]]
def K4(x:Zw)(co:WL)(cn:V5)(cd:Int)(cl:V5)(cc:Int)(x1:XV)(v:Int):Rs:=bT [.ptr 0 0,.own 1,.ptr 2 0,.ptr 3 0,I v] [Ae x.c,Zo co,.box [.t (.str cn),I cd,.t .nil],.box [.t (.str cl),I cc,.own 4],Xc x1]
def K5(x:Zw)(co:WL)(cn:V5)(cd:Int)(x1:XV)(cl:V5)(cc v:Int):Rs:=bT [.ptr 0 0,.own 1,.ptr 2 0,.ptr 4 0,I v] [Ae x.c,Zo co,.box [.t (.str cn),I cd,.own 3],Xc x1,.box [.t (.str cl),I cc,.t .nil]]
def K6(x:Zw)(co:WL)(cn:V5)(cd:Int)(x1:XV)(cl:V5)(cc:Int)(x2:XV)(v:Int):Rs:=bT [.ptr 0 0,.own 1,.ptr 2 0,.ptr 4 0,I v] [Ae x.c,Zo co,.box [.t (.str cn),I cd,.own 3],Xc x1,.box [.t (.str cl),I cc,.own 5],Xc x2]
def bU:=lp C (.blk 2::.seq Zsh::.blk 1::.seq wG::.loop [3,5,6,8,10] bS::wH) [3,5,6,8,10,11,12,13] Zse
def bV(x:Zw)(cp:WL)(cn:V5)(cd:Int)(cl:V5)(cc v:Int)(co cu:Bool)(i:Int):Rs:=bU [.ptr 0 0,.own 1,.ptr 2 0,.ptr 3 0,I v,Bo co,Bo cu,I i] [Ae x.c,Zo cp,.box [.t (.str cn),I cd,.t .nil],.box [.t (.str cl),I cc,.t .nil]]
def bW(x:Zw)(cp:WL)(cn:V5)(cd:Int)(cl:V5)(cc:Int)(x1:XV)(v:Int)(co cu:Bool)(i:Int):Rs:=bU [.ptr 0 0,.own 1,.ptr 2 0,.ptr 3 0,I v,Bo co,Bo cu,I i] [Ae x.c,Zo cp,.box [.t (.str cn),I cd,.t .nil],.box [.t (.str cl),I cc,.own 4],Xc x1]
def bX(x:Zw)(cp:WL)(cn:V5)(cd:Int)(x1:XV)(cl:V5)(cc v:Int)(co cu:Bool)(i:Int):Rs:=bU [.ptr 0 0,.own 1,.ptr 2 0,.ptr 4 0,I v,Bo co,Bo cu,I i] [Ae x.c,Zo cp,.box [.t (.str cn),I cd,.own 3],Xc x1,.box [.t (.str cl),I cc,.t .nil]]
def bY(x:Zw)(cp:WL)(cn:V5)(cd:Int)(x1:XV)(cl:V5)(cc:Int)(x2:XV)(v:Int)(co cu:Bool)(i:Int):Rs:=bU [.ptr 0 0,.own 1,.ptr 2 0,.ptr 4 0,I v,Bo co,Bo cu,I i] [Ae x.c,Zo cp,.box [.t (.str cn),I cd,.own 3],Xc x1,.box [.t (.str cl),I cc,.own 5],Xc x2]
def bZ:=lp C (.blk 4::.seq Zsg::.blk 1::.seq wG::.loop [3,5,6,8,10] bS::wH) [3,5,6,8,10,11,12,14] Zsf
def PI(x:Zw)(cp:WL)(cn:V5)(cd:Int)(cl:V5)(cc v:Int)(co cu:Bool)(i:Int):Rs:=bZ [.ptr 0 0,.own 1,.ptr 2 0,.ptr 3 0,I v,Bo co,Bo cu,I i] [Ae x.c,Zo cp,.box [.t (.str cn),I cd,.t .nil],.box [.t (.str cl),I cc,.t .nil]]
def PJ(x:Zw)(cp:WL)(cn:V5)(cd:Int)(cl:V5)(cc:Int)(x1:XV)(v:Int)(co cu:Bool)(i:Int):Rs:=bZ [.ptr 0 0,.own 1,.ptr 2 0,.ptr 3 0,I v,Bo co,Bo cu,I i] [Ae x.c,Zo cp,.box [.t (.str cn),I cd,.t .nil],.box [.t (.str cl),I cc,.own 4],Xc x1]
def PK(x:Zw)(cp:WL)(cn:V5)(cd:Int)(x1:XV)(cl:V5)(cc v:Int)(co cu:Bool)(i:Int):Rs:=bZ [.ptr 0 0,.own 1,.ptr 2 0,.ptr 4 0,I v,Bo co,Bo cu,I i] [Ae x.c,Zo cp,.box [.t (.str cn),I cd,.own 3],Xc x1,.box [.t (.str cl),I cc,.t .nil]]
def PL(x:Zw)(cp:WL)(cn:V5)(cd:Int)(x1:XV)(cl:V5)(cc:Int)(x2:XV)(v:Int)(co cu:Bool)(i:Int):Rs:=bZ [.ptr 0 0,.own 1,.ptr 2 0,.ptr 4 0,I v,Bo co,Bo cu,I i] [Ae x.c,Zo cp,.box [.t (.str cn),I cd,.own 3],Xc x1,.box [.t (.str cl),I cc,.own 5],Xc x2]
def Z3m:Ab:=AB (Zi 83 Tryz.f83)
def He(a:Zq)(a1:Zw):Rs:=C 83 [Am a.c,Am a1.c] []
def wI:Ag (Zi 209 Tryz.f209):={ m:=_ }
def Z3n:Za:=Aa wI 22
def Zsk:Za:=Av wI 9 13 Z3n
def Zsl:Za:=Aa wI 23
def Z3o:Ab:=Zs wI 9 Zsk 23 Zsl
def UP(a:Int):Rs:=C 209 [I a] []
def Lw(c:WL)(m v:Int):Rs:=lp C [.blk 0,.seq Zsl,.fin 0 [.tmp 2]] [0,3,4] Zsk [I m,.own 0,I v] [Zo c]
def Zsm:Ag (Zi 194 Tryz.f194):={ m:=_ }
def Zsn:Za:=Aa Zsm 9
def Zso:Za:=Aa Zsm 19
def Z3p:Ab:=Zs Zsm 9 Zsn 19 Zso
def cA(a:Int):Rs:=C 194 [I a] []
def Lx(c:XV)(n m:Int):Rs:=lp C [.blk 0,.seq Zso,.fin 0 [.tmp 2]] [0,3,4] Zsn [I n,.own 0,I m] [Xc c]
def JU:Ag (Zi 195 Tryz.f195):={ m:=_ }
def Zsp:Za:=Aa JU 19
def Z3q:Za:=Aa JU 66
def Zsq:Za:=Av JU 51 15 Z3q
def Zsr:Za:=Aa JU 67
def Zss:Za:=Aa JU 68
def wJ:Za:=BM JU 36 15 Zsq 31 Zsr 32 Zss
def Zst:Za:=Aa JU 69
def Zsu:Za:=AD JU 31 5 wJ 38 Zst
def Z3r:Ab:=Zs JU 19 Zsp 31 Zsu
def PM(a:Zm)(a1:WL):Rs:=C 195 [Am a.c,Zt a1] []
def cC(t:Zm)(cd:XV)(cc cl:WL)(i:Int):Rs:=lp C [.blk 0,.seq Zsu,.fin 0 [.tmp 4,.tmp 5]] [1,2,6,7,8] Zsp [Zt cl,.ptr 0 0,.own 1,.own 2,I i] [Ae t.c,Xc cd,Zo cc]
def Zsv:List Fr:=[.blk 2,.seq Zst,.fin 0 [.tmp 4,.tmp 5]]
def PN(t:Zm)(cd:XV)(cc cl:WL)(k:Int):Rs:=lp C Zsv [1,2,6,7,11] wJ [Zt cl,.ptr 0 0,.own 1,.own 2,I k] [Ae t.c,Xc cd,Zo cc]
def cD(t:Zm)(cd:XV)(cc cl:WL)(k n i:Int):Rs:=lp C (.blk 4::.seq Zsr::.blk 3::.seq Zss::.loop [1,2,6,7,11] wJ::Zsv) [1,2,6,7,11,12,13] Zsq [Zt cl,.ptr 0 0,.own 1,.own 2,I k,I n,I i] [Ae t.c,Xc cd,Zo cc]
def Zsw:Ag (Zi 170 Tryz.f170):={ m:=_ }
def Zsx:Za:=Aa Zsw 19
def Zsy:Za:=Aa Zsw 31
def Z3s:Ab:=Zs Zsw 19 Zsx 31 Zsy
def Ly(a:Zm):Rs:=C 170 [Am a.c] []
def Zsz:=lp C [.blk 0,.seq Zsy,.fin 0 [.cellO 2 (some 4) [none,none,none,some (3,0)]]] [1,2,3,4,5] Zsx
def Zs0(t:Zm)(cp:V5)(cn cd:Int)(co:V5)(cl cc:Int)(l:XV)(i:Int):Rs:=Zsz [.ptr 0 0,.ptr 1 0,.ptr 2 0,.own 3,I i] [Ae t.c,.box [.t (.str cp),I cn,I cd,.t .nil],.box [.t (.str co),I cl,I cc,.t .nil],Xc l]
def cE(t:Zm)(cp:V5)(cn cd:Int)(co:V5)(cl cc:Int)(fr:Bool)(x:List ZC)(l:XV)(i:Int):Rs:=Zsz [.ptr 0 0,.ptr 1 0,.ptr 2 0,.own 4,I i] [Ae t.c,.box [.t (.str cp),I cn,I cd,.t .nil],.box [.t (.str co),I cl,I cc,.own 3],.arr 251 3 fr (x.map ZC.c),Xc l]
def Zs1:Ag (Zi 129 Tryz.f129):={ m:=_ }
def Zs2:Za:=Aa Zs1 17
def Zs3:Za:=Aa Zs1 29
def Z3t:Ab:=Zs Zs1 17 Zs2 29 Zs3
def Lz(a:Zq)(a1:Int):Rs:=C 129 [Am a.c,I a1] []
def Zs4:=lp C [.blk 0,.seq Zs3,.fin 0 [.cellO 4 (some 2) [none,some (100,4)],.tmpO 5 [none]]] [2,4,6,7] Zs2
def Zs5(d:Zq)(cd cc i:Int):Rs:=Zs4 [.ptr 0 0,.ptr 1 0,.ptr 2 0,I i] [Ae d.c,.box [I cd,.t .nil],.box [I cc,.t .nil]]
def cF(d:Zq)(cd cc:Int)(fr:Bool)(x:List Zu)(i:Int):Rs:=Zs4 [.ptr 0 0,.ptr 1 0,.ptr 2 0,I i] [Ae d.c,.box [I cd,.t .nil],.box [I cc,.own 3],.arr 100 4 fr (x.map Zu.c)]
def cG:Ag (Zi 130 Tryz.f130):={ m:=_ }
def Zs6:Za:=Aa cG 15
def Zs7:Za:=Aa cG 36
def Zs8:Za:=Aa cG 52
def Zs9:Za:=AD cG 31 5 Zs7 21 Zs8
def Z3u:Ab:=Zs cG 15 Zs6 31 Zs9
def Hf(a:Zq)(a1:List Zx)(a2:List Zw):Rs:=C 130 [Am a.c,L 3 (a1.map Zx.c),L 4 (a2.map Zw.c)] []
def cH(d:Zq)(cc:List Zx)(cd:List Zw)(i:Int):Rs:=lp C [.blk 0,.seq Zs9,.fin 0 [.tmp 6]] [1,2,3,7] Zs6 [L 3 (cc.map Zx.c),L 4 (cd.map Zw.c),.ptr 0 0,I i] [Ae d.c]
def cI(d:Zq)(cc:List Zw)(i:Int):Rs:=lp C [.blk 2,.seq Zs8,.fin 0 [.tmp 6]] [2,3,8] Zs7 [L 4 (cc.map Zw.c),.ptr 0 0,I i] [Ae d.c]
def ZsA:Ag (Zi 131 Tryz.f131):={ m:=_ }
def ZsB:Za:=Aa ZsA 9
def ZsC:Za:=Aa ZsA 21
def Z3v:Ab:=Zs ZsA 9 ZsB 21 ZsC
def cJ(a:Zq):Rs:=C 131 [Am a.c] []
def ZsD:=lp C [.blk 0,.seq ZsC,.fin 0 [.cellO 2 (some 1) [some (150,3)]]] [1,2,3,4] ZsB
def ZsE(d:Zq)(i:Int):Rs:=ZsD [.ptr 0 0,.ptr 1 0,.ptr 2 0,I i] [Ae d.c,.box [.t .nil],.box [.t .nil]]
def LA(d:Zq)(x:List Zm)(i:Int):Rs:=ZsD [.ptr 0 0,.ptr 1 0,.ptr 2 0,I i] [Ae d.c,.box [.t .nil],.box [.own 3],.arr 150 3 true (x.map Zm.c)]
def ZsF:Ag (Zi 132 Tryz.f132):={ m:=_ }
def ZsG:Za:=Aa ZsF 9
def ZsH:Za:=Aa ZsF 19
def Z3w:Ab:=Zs ZsF 9 ZsG 19 ZsH
def cK(a:List Zx):Rs:=C 132 [L 3 (a.map Zx.c)] []
def cL(cc l:List Zx)(i:Int):Rs:=lp C [.blk 0,.seq ZsH,.fin 0 [.tmp 2]] [0,3,4] ZsG [L 3 (l.map Zx.c),.own 0,I i] [.arr 93 3 true (cc.map Zx.c)]
def Z3x:Ab:=AB (Zi 84 Tryz.f84)
def Hg(a:Zq)(a1:List Zx)(a2:List Zw):Rs:=C 84 [Am a.c,L 3 (a1.map Zx.c),L 4 (a2.map Zw.c)] []
def LB:Ag (Zi 35 Tryz.f35):={ m:=_ }
def Z3y:Za:=Aa LB 26
def wK:Za:=Av LB 11 15 Z3y
def ZsI:Za:=Aa LB 49
def cM:Za:=Av LB 34 15 ZsI
def cN:Za:=Aa LB 50
def wL:Za:=AD LB 27 7 cM 23 cN
def Z3z:Ab:=Zs LB 11 wK 27 wL
def JV(x:Zl):Rs:=C 35 [.ptr 0 0] [Ae x.c]
def cO(c:Zl)(cc:Int)(fr:Bool)(x:List Zm)(cd:List Zx)(n:Int):Rs:=EvL C [.blk 0,.seq wL,.fin 1 [.cellO 2 (some 5) [some (150,3),none,some (100,4),some (93,3),some (96,4)]]] [0,2,3,4,5] wK ⟨[(0,.ptr 0 0),(2,.ptr 1 0),(3,.ptr 2 0),(4,.own 4),(5,I n)],[[(0,.ptr 0 0)]],[Ae c.c,.box [.t .nil,I cc,.t .nil,.t .nil,.t .nil],.box [.own 3],.arr 150 3 fr (x.map Zm.c),.arr 93 3 true (cd.map Zx.c)]⟩
def LC(c:Zl)(cc:Int)(d:Zq)(fr:Bool)(cd:List Zx)(n:Int):Rs:=EvL C [.blk 0,.seq wL,.fin 1 [.cellO 2 (some 5) [some (150,3),none,some (100,4),some (93,3),some (96,4)]]] [0,2,3,4,5] wK ⟨[(0,.ptr 0 0),(2,.ptr 1 0),(3,.ptr 2 0),(4,.own 3),(5,I n)],[[(0,.ptr 0 0)]],[Ae c.c,.box [.t .nil,I cc,.t .nil,.t .nil,.t .nil],Ae d.c,.arr 93 3 fr (cd.map Zx.c)]⟩
def wM(c:Zl)(cc:Int)(fr:Bool)(x:List Zm)(cd:List Zx)(cl:List Zw)(n:Int):Rs:=EvL C [.blk 2,.seq cN,.fin 1 [.cellO 2 (some 5) [some (150,3),none,some (100,4),some (93,3),some (96,4)]]] [0,2,3,4,7,8] cM ⟨[(0,.ptr 0 0),(2,.ptr 1 0),(3,.ptr 2 0),(4,.own 4),(7,.own 5),(8,I n)],[[(0,.ptr 0 0)]],[Ae c.c,.box [.t .nil,I cc,.t .nil,.t .nil,.t .nil],.box [.own 3],.arr 150 3 fr (x.map Zm.c),.arr 93 3 true (cd.map Zx.c),.arr 96 4 true (cl.map Zw.c)]⟩
def LD(c:Zl)(cc:Int)(d:Zq)(fr:Bool)(cd:List Zx)(cl:List Zw)(n:Int):Rs:=EvL C [.blk 2,.seq cN,.fin 1 [.cellO 2 (some 5) [some (150,3),none,some (100,4),some (93,3),some (96,4)]]] [0,2,3,4,7,8] cM ⟨[(0,.ptr 0 0),(2,.ptr 1 0),(3,.ptr 2 0),(4,.own 3),(7,.own 4),(8,I n)],[[(0,.ptr 0 0)]],[Ae c.c,.box [.t .nil,I cc,.t .nil,.t .nil,.t .nil],Ae d.c,.arr 93 3 fr (cd.map Zx.c),.arr 96 4 true (cl.map Zw.c)]⟩
def wO:Ag (Zi 133 Tryz.f133):={ m:=_ }
def ZDk:Za:=Aa wO 26
def ZDl:Za:=Av wO 11 15 ZDk
def ZDm:Za:=Aa wO 27
def Z30:Ab:=Zs wO 11 ZDl 27 ZDm
def cQ:Ag (Zi 90 Tryz.f90):={ m:=_ }
def ZsJ:Za:=Aa cQ 39
def ZsK:Za:=Aa cQ 57
def wQ:Za:=AD cQ 17 22 ZsJ 40 ZsK
def ZsL:Za:=Aa cQ 58
def ZsM:Ab:=Zs cQ 17 wQ 58 ZsL
def cR(c:Int):Rs:=C 90 [.agg [I c,.t .nil]] []
def ZsN:List Fr:=[.blk 0,.seq ZsL,.fin 0 [.tmp 2]]
def ZsO:=lp C ZsN [1,3,4] wQ
def Z31(c cc i:Int):Rs:=ZsO [.ptr 0 0,I cc,I i] [.box [I c,.t .nil]]
def wR:Ag (Zi 135 Tryz.f135):={ m:=_ }
def ZDn:Za:=Aa wR 23
def ZDo:Za:=Av wR 9 14 ZDn
def ZDp:Za:=Aa wR 25
def Z32:Ab:=Zs wR 9 ZDo 25 ZDp
def Z33:Ab:=AB (Zi 134 Tryz.f134)
def Q3(a:Zc):Rs:=C 90 [Am a.c] []
def PO(q:Zc)(cc i:Int):Rs:=ZsO [.ptr 0 0,I cc,I i] [Ae q.c]
def cS(q:Zc)(a:Zd)(cc i k:Int):Rs:=lp C (.blk 2::.blk 1::.seq ZsK::.loop [1,3,4] wQ::ZsN) [1,3,4,5,6] ZsJ [.ptr 0 0,I cc,I i,.ptr 1 0,I k] [Ae q.c,Ae a.c]
def ZsP:Ag (Zi 172 Tryz.f172):={ m:=_ }
def ZDq:Za:=Aa ZsP 9
def ZDr:Za:=Aa ZsP 19
def Z34:Ab:=Zs ZsP 9 ZDq 19 ZDr
def JW:Ag (Zi 86 Tryz.f86):={ m:=_ }
def ZDs:Za:=Aa JW 61
def ZDt:Za:=Av JW 46 15 ZDs
def ZDu:Za:=Aa JW 62
def ZDv:Za:=AD JW 34 12 ZDt 28 ZDu
def ZDw:Za:=Aa JW 63
def ZDx:Za:=Aa JW 64
def ZDy:Za:=BM JW 11 23 ZDv 52 ZDw 53 ZDx
def ZDz:Za:=Aa JW 65
def Z35:Ab:=Zs JW 11 ZDy 65 ZDz
def PP(a:V5):Rs:=C 86 [.t (.str a)] []
def PR:Ag (Zi 42 Tryz.f42):={ m:=_ }
def PS:Za:=Aa PR 42
def PT:Za:=Aa PR 56
def PU:Za:=Aa PR 57
def JX:Za:=BM PR 21 21 PS 35 PT 36 PU
def JY:Za:=Aa PR 58
def Z36:Ab:=Zs PR 21 JX 58 JY
def LE(x:Zl):Rs:=C 42 [.ptr 0 0] [Ae x.c]
def cT(c:Zl)(cl cc:Int)(x:List Zd)(cd n:Int):Rs:=EvL C [.blk 0,.seq JY,.fin 1 [.cellO 2 (some 2) [none,some (1000000105,2)]]] [0,2,4,6,7] JX ⟨[(0,.ptr 0 0),(2,.ptr 1 0),(4,.ptr 2 0),(6,.ptr 4 0),(7,I n)],[[(0,.ptr 0 0)]],[Ae c.c,.box [I cl,.t .nil],.box [I cc,.own 3],.xarr 105 2 (x.map Zd.c),.box [I cd,.t .nil]]⟩
def cU(c:Zl)(cl cc:Int)(x:List Zd)(cd:Int)(cn:V5)(n m v i:Int):Rs:=EvL C [.blk 2,.seq PT,.blk 1,.seq PU,.loop [0,2,4,6,7] JX,.blk 0,.seq JY,.fin 1 [.cellO 2 (some 2) [none,some (1000000105,2)]]] [0,2,4,6,7,9,10,11,12] PS ⟨[(0,.ptr 0 0),(2,.ptr 1 0),(4,.ptr 2 0),(6,.ptr 4 0),(7,I n),(9,.ptr 5 0),(10,I m),(11,I v),(12,I i)],[[(0,.ptr 0 0)]],[Ae c.c,.box [I cl,.t .nil],.box [I cc,.own 3],.xarr 105 2 (x.map Zd.c),.box [I cd,.t .nil],.box [.t (.str cn),.t .nil]]⟩
def cV(c:Zl)(cl cc:Int)(x:List Zd)(cd:Int)(cn:V5)(x1:WL)(n m v i:Int):Rs:=EvL C [.blk 2,.seq PT,.blk 1,.seq PU,.loop [0,2,4,6,7] JX,.blk 0,.seq JY,.fin 1 [.cellO 2 (some 2) [none,some (1000000105,2)]]] [0,2,4,6,7,9,10,11,12] PS ⟨[(0,.ptr 0 0),(2,.ptr 1 0),(4,.ptr 2 0),(6,.ptr 4 0),(7,I n),(9,.ptr 5 0),(10,I m),(11,I v),(12,I i)],[[(0,.ptr 0 0)]],[Ae c.c,.box [I cl,.t .nil],.box [I cc,.own 3],.xarr 105 2 (x.map Zd.c),.box [I cd,.t .nil],.box [.t (.str cn),.own 6],Zo x1]⟩
def QY(c:Zl)(cl cc:Int)(x:List Zd)(cd:Int)(x1:List Zd)(n:Int):Rs:=EvL C [.blk 0,.seq JY,.fin 1 [.cellO 2 (some 2) [none,some (1000000105,2)]]] [0,2,4,6,7] JX ⟨[(0,.ptr 0 0),(2,.ptr 1 0),(4,.ptr 2 0),(6,.ptr 4 0),(7,I n)],[[(0,.ptr 0 0)]],[Ae c.c,.box [I cl,.t .nil],.box [I cc,.own 3],.xarr 105 2 (x.map Zd.c),.box [I cd,.own 5],.xarr 105 2 (x1.map Zd.c)]⟩
def cW(c:Zl)(cl cc:Int)(x:List Zd)(cd:Int)(x1:List Zd)(cn:V5)(n m v i:Int):Rs:=EvL C [.blk 2,.seq PT,.blk 1,.seq PU,.loop [0,2,4,6,7] JX,.blk 0,.seq JY,.fin 1 [.cellO 2 (some 2) [none,some (1000000105,2)]]] [0,2,4,6,7,9,10,11,12] PS ⟨[(0,.ptr 0 0),(2,.ptr 1 0),(4,.ptr 2 0),(6,.ptr 4 0),(7,I n),(9,.ptr 6 0),(10,I m),(11,I v),(12,I i)],[[(0,.ptr 0 0)]],[Ae c.c,.box [I cl,.t .nil],.box [I cc,.own 3],.xarr 105 2 (x.map Zd.c),.box [I cd,.own 5],.xarr 105 2 (x1.map Zd.c),.box [.t (.str cn),.t .nil]]⟩
def cX(c:Zl)(cl cc:Int)(x:List Zd)(cd:Int)(x1:List Zd)(cn:V5)(x2:WL)(n m v i:Int):Rs:=EvL C [.blk 2,.seq PT,.blk 1,.seq PU,.loop [0,2,4,6,7] JX,.blk 0,.seq JY,.fin 1 [.cellO 2 (some 2) [none,some (1000000105,2)]]] [0,2,4,6,7,9,10,11,12] PS ⟨[(0,.ptr 0 0),(2,.ptr 1 0),(4,.ptr 2 0),(6,.ptr 4 0),(7,I n),(9,.ptr 6 0),(10,I m),(11,I v),(12,I i)],[[(0,.ptr 0 0)]],[Ae c.c,.box [I cl,.t .nil],.box [I cc,.own 3],.xarr 105 2 (x.map Zd.c),.box [I cd,.own 5],.xarr 105 2 (x1.map Zd.c),.box [.t (.str cn),.own 7],Zo x2]⟩
def PV(x:Zl)(a:List V5):Rs:=C 43 [.ptr 0 0,L 1 (a.map sc)] [Ae x.c]
def Z37:Ag (Zi 85 Tryz.f85):={ m:=_ }
def Z38:Za:=Aa Z37 10
def Z39:Ab:=VY Z37 10 Z38
def wT(x:Zl):Rs:=C 85 [.ptr 0 0] [Ae x.c]
def Z3A:Ab:=AB (Zi 47 Tryz.f47)
def Wp(a:Zc):Rs:=C 47 [Am a.c] []
def Z3B:Ab:=AB (Zi 94 Tryz.f94)
def PW(a:Zc)(a1:Int):Rs:=C 94 [Am a.c,I a1] []
def cY:Ag (Zi 180 Tryz.f180):={ m:=_ }
def ZsQ:Za:=Aa cY 21
def ZsR:Za:=Aa cY 31
def wU:Za:=AD cY 9 12 ZsQ 22 ZsR
def ZsS:Za:=Aa cY 32
def Z3C:Ab:=Zs cY 9 wU 32 ZsS
def Uc(a:Zc)(a1:Int):Rs:=C 180 [Am a.c,I a1] []
def ZsT:List Fr:=[.blk 0,.seq ZsS,.fin 0 [.tmp 4]]
def PX(q:Zc)(cc x i:Int):Rs:=lp C ZsT [1,2,5,6] wU [I cc,.ptr 0 0,I x,I i] [Ae q.c]
def cZ(q:Zc)(cc x i k:Int):Rs:=lp C (.blk 2::.blk 1::.seq ZsR::.loop [1,2,5,6] wU::ZsT) [1,2,5,6,7] ZsQ [I cc,.ptr 0 0,I x,I i,I k] [Ae q.c]
def wV:Ag (Zi 143 Tryz.f143):={ m:=_ }
def Z3D:Za:=Aa wV 24
def ZsU:Za:=Av wV 11 13 Z3D
def ZsV:Za:=Aa wV 25
def Z3E:Ab:=Zs wV 11 ZsU 25 ZsV
def wW(a:Zc)(a1:Int):Rs:=C 143 [Am a.c,I a1] []
def PY(q:Zc)(cd cl cc i:Int):Rs:=lp C [.blk 0,.seq ZsV,.fin 0 [.tmp 4]] [1,2,5,6,7] ZsU [I cd,.ptr 0 0,I cl,I cc,I i] [Ae q.c]
def ZsW:Ag (Zi 95 Tryz.f95):={ m:=_ }
def ZsX:Za:=Aa ZsW 9
def ZsY:Za:=Aa ZsW 19
def Z3F:Ab:=Zs ZsW 9 ZsX 19 ZsY
def JZ(a:Zc)(a1:Int):Rs:=C 95 [Am a.c,I a1] []
def c7(q:Zc)(cc x n:Int):Rs:=lp C [.blk 0,.seq ZsY,.fin 0 [.tmp 4]] [1,2,5,6] ZsX [I cc,.ptr 0 0,I x,I n] [Ae q.c]
def Z3G:Ab:=AB (Zi 46 Tryz.f46)
def Q4(a:Zc)(a1:Int):Rs:=C 46 [Am a.c,I a1] []
def Z3H:Ag (Zi 36 Tryz.f36):={ m:=_ }
def Z3I:Za:=Aa Z3H 10
def Z3J:Ab:=VY Z3H 10 Z3I
def c8(x:Zl):Rs:=C 36 [.ptr 0 0] [Ae x.c]
def Z3K:Ab:=AB (Zi 17 Tryz.f17)
def c9(x:Zl):Rs:=C 17 [.ptr 0 0] [Ae x.c]
def PZ(x:Zl)(a:WL):Rs:=C 37 [.ptr 0 0,Zt a] [Ae x.c]
def Z3L:Ag (Zi 88 Tryz.f88):={ m:=_ }
def Z3M:Za:=Aa Z3L 25
def Z3N:Ab:=VY Z3L 25 Z3M
def Zip(x:Zl):Rs:=C 88 [.ptr 0 0] [Ae x.c]
def Z3O:Ag (Zi 41 Tryz.f41):={ m:=_ }
def Z3P:Za:=Aa Z3O 33
def Z3Q:Ab:=VY Z3O 33 Z3P
def LF(x:Zl):Rs:=C 41 [.ptr 0 0] [Ae x.c]
def Z3R:Ag (Zi 19 Tryz.f19):={ m:=_ }
def Z3S:Za:=Aa Z3R 33
def Z3T:Ab:=VY Z3R 33 Z3S
def dA(x:Zl):Rs:=C 19 [.ptr 0 0] [Ae x.c]
def Z3U:Ag (Zi 20 Tryz.f20):={ m:=_ }
def Z3V:Za:=Aa Z3U 25
def Z3W:Ab:=VY Z3U 25 Z3V
def dB(x:Zl):Rs:=C 20 [.ptr 0 0] [Ae x.c]
def ZsZ:Ag (Zi 5 Tryz.f5):={ m:=_ }
def Z3X:Za:=Aa ZsZ 18
def Z3Y:Za:=Av ZsZ 12 6 Z3X
def Z3Z:Ab:=VY ZsZ 12 Z3Y
def P0(a:WL):Rs:=C 5 [L 1 (a.map (kc .u8))] []
def dC:Ag (Zi 196 Tryz.f196):={ m:=_ }
def Zta:Za:=Aa dC 39
def Ztb:Za:=Aa dC 55
def wX:Za:=AD dC 15 24 Zta 40 Ztb
def Ztc:Za:=Aa dC 56
def Z4a:Ab:=Zs dC 15 wX 56 Ztc
def P1(a a1:Zu):Rs:=C 196 [Am a.c,Am a1.c] []
def Ztd:List Fr:=[.blk 0,.seq Ztc,.fin 0 [.tmp 4]]
def P2(a b:Zu)(i:Int):Rs:=lp C Ztd [2,3,5] wX [.ptr 0 0,.ptr 1 0,I i] [Ae a.c,Ae b.c]
def dD(a b:Zu)(x y:ZC)(i k:Int):Rs:=lp C (.blk 2::.blk 1::.seq Ztb::.loop [2,3,5] wX::Ztd) [2,3,5,6,7,8] Zta [.ptr 0 0,.ptr 1 0,I i,.ptr 2 0,.ptr 3 0,I k] [Ae a.c,Ae b.c,Ae x.c,Ae y.c]
def Zte:Ag (Zi 173 Tryz.f173):={ m:=_ }
def Ztf:Za:=Aa Zte 15
def Ztg:Za:=Aa Zte 31
def Z4b:Ab:=Zs Zte 15 Ztf 31 Ztg
def P3(a a1:Z2):Rs:=C 173 [Am a.c,Am a1.c] []
def dE(a b:Z2)(i:Int):Rs:=lp C [.blk 0,.seq Ztg,.fin 0 [.tmp 4]] [2,3,5] Ztf [.ptr 0 0,.ptr 1 0,I i] [Ae a.c,Ae b.c]
def Z4c:Ab:=AB (Zi 138 Tryz.f138)
def wY(a:Zr):Rs:=C 138 [Am a.c] []
def Zth:Ag (Zi 139 Tryz.f139):={ m:=_ }
def Zti:Za:=Aa Zth 15
def Ztj:Za:=Aa Zth 33
def Z4d:Ab:=Zs Zth 15 Zti 33 Ztj
def wZ(a:Zq)(a1:Zc):Rs:=C 139 [Am a.c,Am a1.c] []
def P4(d:Zq)(q:Zc)(i:Int):Rs:=lp C [.blk 0,.seq Ztj,.fin 0 [.tmp 4]] [2,3,5] Zti [.ptr 0 0,.ptr 1 0,I i] [Ae d.c,Ae q.c]
def Z4e:Ab:=AB (Zi 91 Tryz.f91)
def VL(a:Zr)(a1:Zc)(a2:Int):Rs:=C 91 [Am a.c,Am a1.c,I a2] []
def w6:Ag (Zi 183 Tryz.f183):={ m:=_ }
def Z4f:Za:=Aa w6 22
def Ztk:Za:=Av w6 9 13 Z4f
def Ztl:Za:=Aa w6 23
def Z4g:Ab:=Zs w6 9 Ztk 23 Ztl
def P5(a:Int):Rs:=C 183 [I a] []
def P6(cc:WL)(c v:Int):Rs:=lp C [.blk 0,.seq Ztl,.fin 0 [.tmp 2]] [0,3,4] Ztk [I c,.own 0,I v] [Zo cc]
def Z4h:Ab:=AB (Zi 148 Tryz.f148)
def LG(a:Zc)(a1:Int):Rs:=C 148 [Am a.c,I a1] []
def w7:Ag (Zi 99 Tryz.f99):={ m:=_ }
def Z4i:Za:=Aa w7 26
def Ztm:Za:=Av w7 13 13 Z4i
def Ztn:Za:=Aa w7 27
def Z4j:Ab:=Zs w7 13 Ztm 27 Ztn
def K7(a:Zc)(a1 a2:Int):Rs:=C 99 [Am a.c,I a1,I a2] []
def P7(c x y:WL)(i:Int):Rs:=lp C [.blk 0,.seq Ztn,.fin 0 [.tmp 6]] [7,8,9,10] Ztm [.own 0,.own 1,.own 2,I i] [Zo c,Zo x,Zo y]
def Zto:Ag (Zi 210 Tryz.f210):={ m:=_ }
def Ztp:Za:=Aa Zto 7
def Ztq:Za:=Aa Zto 23
def Z4k:Ab:=Zs Zto 7 Ztp 23 Ztq
def dF(a:Zd)(a1:Int):Rs:=C 210 [Am a.c,I a1] []
def dG(a:Zd)(v k:Int):Rs:=lp C [.blk 0,.seq Ztq,.fin 0 [.tmp 4]] [1,2,5] Ztp [I v,.ptr 0 0,I k] [Ae a.c]
def dH:Ag (Zi 197 Tryz.f197):={ m:=_ }
def Ztr:Za:=Aa dH 53
def Zts:Za:=Aa dH 69
def w8:Za:=AD dH 25 28 Ztr 44 Zts
def Ztt:Za:=Aa dH 70
def Z4l:Ab:=Zs dH 25 w8 70 Ztt
def w9(a:Zr)(a1:Zc)(a2 a3:Int):Rs:=C 197 [Am a.c,Am a1.c,I a2,I a3] []
def Ztu:List Fr:=[.blk 0,.seq Ztt,.fin 0 [.tmp 8]]
def LH(s:Zr)(q:Zc)(v:WL)(cc i k:Int):Rs:=lp C Ztu [2,3,4,5,9,10] w8 [I cc,I i,.ptr 0 0,.ptr 1 0,.own 2,I k] [Ae s.c,Ae q.c,Zo v]
def dI(s:Zr)(q:Zc)(v:WL)(want:Zw)(cc i k j:Int):Rs:=lp C (.blk 2::.blk 1::.seq Zts::.loop [2,3,4,5,9,10] w8::Ztu) [2,3,4,5,9,10,11,12] Ztr [I cc,I i,.ptr 0 0,.ptr 1 0,.own 2,I k,.ptr 3 0,I j] [Ae s.c,Ae q.c,Zo v,Ae want.c]
def P8:Ag (Zi 174 Tryz.f174):={ m:=_ }
def Ztv:Za:=Aa P8 9
def Z4m:Za:=Aa P8 53
def Ztw:Za:=Av P8 32 21 Z4m
def Ztx:Za:=Aa P8 54
def Zty:Za:=AD P8 19 13 Ztw 35 Ztx
def Z4n:Ab:=Zs P8 9 Ztv 19 Zty
def QZ(x:WL)(a:Zr)(a1:Zc)(a2:Int):Rs:=C 174 [Am a.c,Am a1.c,I a2,.own 0] [Zo x]
def dJ(cc:WL)(s:Zr)(q:Zc)(cd cl i:Int):Rs:=EvL C [.blk 0,.seq Zty,.fin 1 [.tmp 8]] [2,3,4,5,9,10] Ztv ⟨[(2,I cd),(3,.own 0),(4,.ptr 1 0),(5,.ptr 2 0),(9,I cl),(10,I i)],[[(0,.own 0)]],[Zo cc,Ae s.c,Ae q.c]⟩
def Ka(cc:WL)(s:Zr)(q:Zc)(cd cl i:Int):Rs:=EvL C [.blk 2,.seq Ztx,.fin 1 [.tmp 8]] [2,3,4,5,9,11] Ztw ⟨[(2,I cd),(3,.own 0),(4,.ptr 1 0),(5,.ptr 2 0),(9,I cl),(11,I i)],[[(0,.own 0)]],[Zo cc,Ae s.c,Ae q.c]⟩
def Z4o:Ab:=AB (Zi 140 Tryz.f140)
def P9(a:Zr)(a1:Zc)(a2 a3:Int):Rs:=C 140 [Am a.c,Am a1.c,I a2,I a3] []
def Ztz:Ag (Zi 220 Tryz.f220):={ m:=_ }
def Zt0:Za:=Aa Ztz 9
def Zt1:Za:=Aa Ztz 19
def Z4p:Ab:=Zs Ztz 9 Zt0 19 Zt1
def xA(a:V5)(a1:Int)(a2:XV):Rs:=C 220 [.t (.str a),I a1,L 1 (a2.map AA)] []
def Zt2:=lp C [.blk 0,.seq Zt1,.fin 0 [.cellO 6 (some 3) [none,none,some (44,1)],.tmpO 7 [none]]] [2,6,8,9] Zt0
def Zt3(cl:V5)(cc:Int)(cd:V5)(c:Int)(cn:XV)(i:Int):Rs:=Zt2 [L 1 (cn.map AA),.ptr 0 0,.ptr 1 0,I i] [.box [.t (.str cl),I cc,.t .nil],.box [.t (.str cd),I c,.t .nil]]
def dK(cl:V5)(cc:Int)(cd:V5)(c:Int)(x cn:XV)(i:Int):Rs:=Zt2 [L 1 (cn.map AA),.ptr 0 0,.ptr 1 0,I i] [.box [.t (.str cl),I cc,.t .nil],.box [.t (.str cd),I c,.own 2],Xc x]
def Z4q:Ab:=AB (Zi 211 Tryz.f211)
def xC(a:Zu):Rs:=C 211 [Am a.c] []
def Z4r:Ab:=AB (Zi 198 Tryz.f198)
def FR(a:Zu):Rs:=C 198 [Am a.c] []
end
