/-
  Parts of the proofs for this seat: D4.
-/
import Derived.Test.YtobfkfgdneeabaaGreatP8
set_option linter.all false
set_option maxRecDepth 100000
set_option maxHeartbeats 4000000
set_option cbv.maxSteps 9999999
namespace Go.Proofs.YtobfkfgdneeabaaGreat
open Go.AM
noncomputable section
def GY:Af (Zg 125 Tryz.f125):={ m:=_ }
def Z0g:Za:=Aa GY 53
def Z0h:Za:=Aa GY 73
def ZpY:Za:=AJ GY 39 14 Z0g 34 Z0h
def Z0i:Za:=Aa GY 74
def ZpZ:Za:=AJ GY 27 12 ZpY 47 Z0i
def Z0j:Za:=Aa GY 75
def Zqa:Za:=AJ GY 15 12 ZpZ 60 Z0j
def Z0k:Za:=Aa GY 76
def ZBk:Ab:=Zp GY 15 Zqa 76 Z0k
def nK(a:Zy):Rs:=C 125 [Ap a.c] []
def Z0l:List Fr:=[.blk 0,.seq Z0k,.fin 0 [.tmp 2,.tmp 3,.tmp 4]]
def YD(o:Zy)(a:Int):Rs:=lp C Z0l [1,5] Zqa [.ptr 0 0,I a] [Ag o.c]
def Z0m:List Fr:=.blk 2::.blk 1::.seq Z0j::.loop [1,5] Zqa::Z0l
def YE(o:Zy)(a b:Int):Rs:=lp C Z0m [1,5,6] ZpZ [.ptr 0 0,I a,I b] [Ag o.c]
def Z0n:List Fr:=.blk 4::.blk 3::.seq Z0i::.loop [1,5,6] ZpZ::Z0m
def YF(o:Zy)(a b e:Int):Rs:=lp C Z0n [1,5,6,7] ZpY [.ptr 0 0,I a,I b,I e] [Ag o.c]
def IF(o:Zy)(x:V2)(a b e k:Int):Rs:=lp C (.blk 6::.blk 5::.seq Z0h::.loop [1,5,6,7] ZpY::Z0n) [1,5,6,7,8,9] Z0g [.ptr 0 0,I a,I b,I e,.own 1,I k] [Ag o.c,Zm x]
def Ny:Af (Zg 126 Tryz.f126):={ m:=_ }
def Z0o:Za:=Aa Ny 31
def Z0p:Za:=Aa Ny 47
def Zqb:Za:=AJ Ny 19 12 Z0o 28 Z0p
def Z0q:Za:=Aa Ny 48
def Zqc:Za:=AJ Ny 7 12 Zqb 41 Z0q
def Z0r:Za:=Aa Ny 49
def ZBl:Ab:=Zp Ny 7 Zqc 49 Z0r
def Zqd(a:Zy):Rs:=C 126 [Ap a.c] []
def Z0s:List Fr:=[.blk 0,.seq Z0r,.fin 0 [.tmp 2]]
def YG(o:Zy)(a:Int):Rs:=lp C Z0s [1,3] Zqc [.ptr 0 0,I a] [Ag o.c]
def Z0t:List Fr:=.blk 2::.blk 1::.seq Z0q::.loop [1,3] Zqc::Z0s
def YH(o:Zy)(a b:Int):Rs:=lp C Z0t [1,3,4] Zqb [.ptr 0 0,I a,I b] [Ag o.c]
def nL(o:Zy)(a b e:Int):Rs:=lp C (.blk 4::.blk 3::.seq Z0p::.loop [1,3,4] Zqb::Z0t) [1,3,4,5] Z0o [.ptr 0 0,I a,I b,I e] [Ag o.c]
def Z0u:Af (Zg 64 Tryz.f64):={ m:=_ }
def Z0v:Za:=Aa Z0u 7
def Z0w:Za:=Aa Z0u 45
def ZBm:Ab:=Zp Z0u 7 Z0v 45 Z0w
def Z0x(a:Zt):Rs:=C 64 [Ap a.c] []
def YI(m:Zt)(k:Int):Rs:=lp C [.blk 0,.seq Z0w,.fin 0 [.tmp 2,.tmp 3,.tmp 4]] [1,5] Z0v [.ptr 0 0,I k] [Ag m.c]
def ZBn:Ab:=AG (Zg 27 Tryz.f27)
def IG(a:Zt):Rs:=C 27 [Ap a.c] []
def ZBo:Ab:=AG (Zg 29 Tryz.f29)
def nN(a:Zc)(a1:Zr):Rs:=C 29 [Ap a.c,Ap a1.c] []
def Z0y:Af (Zg 67 Tryz.f67):={ m:=_ }
def Z0z:Za:=Aa Z0y 7
def Z00:Za:=Aa Z0y 23
def ZBp:Ab:=Zp Z0y 7 Z0z 23 Z00
def nO(a:V2):Rs:=C 67 [Zq a] []
def nP(l:V2)(i:Int):Rs:=lp C [.blk 0,.seq Z00,.fin 0 [.tmp 2]] [0,3] Z0z [Zq l,I i] []
def Z01:Af (Zg 46 Tryz.f46):={ m:=_ }
def Z02:Za:=Aa Z01 15
def Z03:Za:=Aa Z01 31
def ZBq:Ab:=Zp Z01 15 Z02 31 Z03
def Nz(a a1:V2):Rs:=C 46 [Zq a,Zq a1] []
def nQ(a b:V2)(i:Int):Rs:=lp C [.blk 0,.seq Z03,.fin 0 [.tmp 4]] [0,1,5] Z02 [Zq a,Zq b,I i] []
def ZBr:Ab:=AG (Zg 30 Tryz.f30)
def Kq(a:Box):Rs:=C 30 [Ap a.c] []
def ZBs:Ab:=AG (Zg 33 Tryz.f33)
def II(a:Box):Rs:=C 33 [Ap a.c] []
def Z04:Af (Zg 10 Tryz.f10):={ m:=_ }
def Z05:Za:=Aa Z04 17
def Z06:Za:=Aa Z04 33
def ZBt:Ab:=Zp Z04 17 Z05 33 Z06
def NA(a:Zc)(a1:Zr)(a2:Box):Rs:=C 10 [.agg (a.c.map .t),.agg (a1.c.map .t),.agg (a2.c.map .t)] []
def nS(b:Box)(cc:List Zf)(i:Int):Rs:=lp C [.blk 0,.seq Z06,.fin 0 [.tmp 6]] [5,7,9] Z05 [.ptr 0 0,.own 1,I i] [Ag b.c,Q5 cc]
def Z07:Af (Zg 146 Tryz.f146):={ m:=_ }
def Z08:Za:=Aa Z07 5
def Z09:Za:=Aa Z07 13
def ZBu:Ab:=Zp Z07 5 Z08 13 Z09
def nT(a:List Zf)(a1:Int):Rs:=C 146 [KC a,I a1] []
def nU(c:List Zf)(i:Int):Rs:=lp C [.blk 0,.seq Z09,.fin 0 [.tmp 4]] [0,1] Z08 [KC c,I i] []
def Zqe:Ab:=AG (Zg 78 Tryz.f78)
def YJ(a:Zc)(a1:Zr)(a2:Int):Rs:=C 78 [Ap a.c,Ap a1.c,I a2] []
def Z0A:Af (Zg 40 Tryz.f40):={ m:=_ }
def Z0B:Za:=Aa Z0A 9
def Z0C:Za:=Aa Z0A 27
def ZBv:Ab:=Zp Z0A 9 Z0B 27 Z0C
def YK(a:Zc)(a1:Zr)(a2:Int):Rs:=C 40 [Ap a.c,Ap a1.c,I a2] []
def nV(q:Zc)(p:Zr)(cc:List Zf)(cd:Int)(is:Bool)(i:Int):Rs:=lp C [.blk 0,.seq Z0C,.fin 0 [.cell 6 (some 1),.tmp 7]] [2,3,4,6,8,9,10] Z0B [I cd,.ptr 0 0,.ptr 1 0,.ptr 2 0,.own 3,Bo is,I i] [Ag q.c,Ag p.c,.box [.t .nil],Q5 cc]
def YL:Af (Zg 147 Tryz.f147):={ m:=_ }
def Z0D:Za:=Aa YL 34
def Z0E:Za:=Aa YL 44
def Z0F:Za:=Aa YL 45
def Zqf:Za:=BR YL 19 15 Z0D 25 Z0E 26 Z0F
def Z0G:Za:=Aa YL 46
def ZBw:Ab:=Zp YL 19 Zqf 46 Z0G
def nW(a:Zj)(a1:Zc)(a2:Int):Rs:=C 147 [Ap a.c,Ap a1.c,I a2] []
def Zqg:List Fr:=[.blk 0,.seq Z0G,.fin 0 [.cell 6 (some 2),.tmp 7]]
def nX:=lp C Zqg [2,4,6,8,10,11] Zqf
def Zqh(q:Zc)(cd:KI)(cc:Int)(x:V2)(i k:Int):Rs:=nX [I i,.ptr 0 0,.ptr 1 0,.ptr 2 0,.ptr 3 0,I k] [Ag q.c,.box [.t .nil,.t .nil],.box [.t (.str cd),I cc,.t .nil],.box [.own 4,.t .nil],Zm x]
def Zqi(q:Zc)(cd:KI)(cc:Int)(x:XS)(x1:V2)(i k:Int):Rs:=nX [I i,.ptr 0 0,.ptr 1 0,.ptr 2 0,.ptr 4 0,I k] [Ag q.c,.box [.t .nil,.t .nil],.box [.t (.str cd),I cc,.own 3],Z3 x,.box [.own 5,.t .nil],Zm x1]
def Zqj:=lp C (.blk 2::.seq Z0E::.blk 1::.seq Z0F::.loop [2,4,6,8,10,11] Zqf::Zqg) [2,4,6,8,10,11,12,13] Z0D
def ZBx(q:Zc)(cd:KI)(cc:Int)(x cl:V2)(i k j:Int):Rs:=Zqj [I i,.ptr 0 0,.ptr 1 0,.ptr 2 0,.ptr 3 0,I k,.own 5,I j] [Ag q.c,.box [.t .nil,.t .nil],.box [.t (.str cd),I cc,.t .nil],.box [.own 4,.t .nil],Zm x,Zm cl]
def nY(q:Zc)(cd:KI)(cc:Int)(x:XS)(x1 cl:V2)(i k j:Int):Rs:=Zqj [I i,.ptr 0 0,.ptr 1 0,.ptr 2 0,.ptr 4 0,I k,.own 6,I j] [Ag q.c,.box [.t .nil,.t .nil],.box [.t (.str cd),I cc,.own 3],Z3 x,.box [.own 5,.t .nil],Zm x1,Zm cl]
def NB(q:Zc)(cd:KI)(cc:Int)(x:XS)(x1:V2)(x2:XS)(i k:Int):Rs:=nX [I i,.ptr 0 0,.ptr 1 0,.ptr 2 0,.ptr 4 0,I k] [Ag q.c,.box [.t .nil,.t .nil],.box [.t (.str cd),I cc,.own 3],Z3 x,.box [.own 5,.own 6],Zm x1,Z3 x2]
def nZ(q:Zc)(cd:KI)(cc:Int)(x:XS)(x1:V2)(x2:XS)(cl:V2)(i k j:Int):Rs:=Zqj [I i,.ptr 0 0,.ptr 1 0,.ptr 2 0,.ptr 4 0,I k,.own 7,I j] [Ag q.c,.box [.t .nil,.t .nil],.box [.t (.str cd),I cc,.own 3],Z3 x,.box [.own 5,.own 6],Zm x1,Z3 x2,Zm cl]
def Z0H:Af (Zg 198 Tryz.f198):={ m:=_ }
def Z0I:Za:=Aa Z0H 7
def Z0J:Za:=Aa Z0H 23
def ZBy:Ab:=Zp Z0H 7 Z0I 23 Z0J
def QG(a:V2)(a1:Int):Rs:=C 198 [Zq a,I a1] []
def n5(l:V2)(v i:Int):Rs:=lp C [.blk 0,.seq Z0J,.fin 0 [.tmp 4]] [0,1,5] Z0I [Zq l,I v,I i] []
def n7:Af (Zg 153 Tryz.f153):={ m:=_ }
def Z0K:Za:=Aa n7 7
def Z0L:Za:=Aa n7 28
def Z0M:Za:=Aa n7 44
def Z0N:Za:=AJ n7 23 5 Z0L 21 Z0M
def ZBz:Ab:=Zp n7 7 Z0K 23 Z0N
def Qj(a:Ze):Rs:=C 153 [Ap a.c] []
def YM(s:Ze)(i:Int):Rs:=lp C [.blk 0,.seq Z0N,.fin 0 [.tmp 2]] [1,3] Z0K [.ptr 0 0,I i] [Ag s.c]
def n8(s:Ze)(i:Int):Rs:=lp C [.blk 2,.seq Z0M,.fin 0 [.tmp 2]] [1,4] Z0L [.ptr 0 0,I i] [Ag s.c]
def YN:Af (Zg 148 Tryz.f148):={ m:=_ }
def ZB0:Za:=Aa YN 44
def Z0O:Za:=Aw YN 31 13 ZB0
def Z0P:Za:=Aa YN 45
def Zqk:Za:=AJ YN 19 12 Z0O 26 Z0P
def Z0Q:Za:=Aa YN 46
def ZB1:Ab:=Zp YN 19 Zqk 46 Z0Q
def n9(a:Ze)(a1:Int):Rs:=C 148 [Ap a.c,I a1] []
def Z0R:List Fr:=[.blk 0,.seq Z0Q,.fin 0 [.cell 4 (some 2),.tmp 5]]
def Z0S:=lp C Z0R [2,4,6,7,8] Zqk
def oA(s:Ze)(x:V2)(x1 cc:Int):Rs:=Z0S [.ptr 0 0,.ptr 1 0,I x1,.ptr 2 0,I cc] [Ag s.c,.box [.t .nil,.t .nil],.box [.own 3,.t .nil],Zm x]
def Z0T:=lp C (.blk 2::.blk 1::.seq Z0P::.loop [2,4,6,7,8] Zqk::Z0R) [2,4,6,7,8,9] Z0O
def oB(s:Ze)(x:V2)(x1 cc i:Int):Rs:=Z0T [.ptr 0 0,.ptr 1 0,I x1,.ptr 2 0,I cc,I i] [Ag s.c,.box [.t .nil,.t .nil],.box [.own 3,.t .nil],Zm x]
def IJ(s:Ze)(x:V2)(x1:XS)(x2 cc i:Int):Rs:=Z0T [.ptr 0 0,.ptr 1 0,I x2,.ptr 2 0,I cc,I i] [Ag s.c,.box [.t .nil,.t .nil],.box [.own 3,.own 4],Zm x,Z3 x1]
def Zql(s:Ze)(x:V2)(x1:XS)(x2 cc:Int):Rs:=Z0S [.ptr 0 0,.ptr 1 0,I x2,.ptr 2 0,I cc] [Ag s.c,.box [.t .nil,.t .nil],.box [.own 3,.own 4],Zm x,Z3 x1]
def Zqm:Af (Zg 201 Tryz.f201):={ m:=_ }
def ZB2:Za:=Aa Zqm 22
def Z0U:Za:=Aw Zqm 9 13 ZB2
def Z0V:Za:=Aa Zqm 23
def ZB3:Ab:=Zp Zqm 9 Z0U 23 Z0V
def IK(a a1:V2):Rs:=C 201 [Zq a,Zq a1] []
def YO(c a b:V2)(v:Int):Rs:=lp C [.blk 0,.seq Z0V,.fin 0 [.tmp 4]] [0,1,5,6] Z0U [Zq a,Zq b,.own 0,I v] [Zm c]
def Z0W:Af (Zg 225 Tryz.f225):={ m:=_ }
def Z0X:Za:=Aa Z0W 7
def Z0Y:Za:=Aa Z0W 25
def ZB4:Ab:=Zp Z0W 7 Z0X 25 Z0Y
def VH(a a1 a2 a3:V2):Rs:=C 225 [Zq a,Zq a1,Zq a2,Zq a3] []
def oC(a x b y:V2)(i:Int):Rs:=lp C [.blk 0,.seq Z0Y,.fin 0 [.tmp 8]] [0,1,2,3,9] Z0X [Zq a,Zq x,Zq b,Zq y,I i] []
def Zqn:Af (Zg 226 Tryz.f226):={ m:=_ }
def ZB5:Za:=Aa Zqn 24
def Z0Z:Za:=Aw Zqn 9 15 ZB5
def Z1a:Za:=Aa Zqn 25
def ZB6:Ab:=Zp Zqn 9 Z0Z 25 Z1a
def Qk(a a1 a2 a3 a4:V2):Rs:=C 226 [Zq a,Zq a1,Zq a2,Zq a3,Zq a4] []
def YP(cc c a x b y:V2)(i:Int):Rs:=lp C [.blk 0,.seq Z1a,.fin 0 [.tmp 10]] [0,1,2,3,4,11,12] Z0Z [Zq c,Zq a,Zq x,Zq b,Zq y,.own 0,I i] [Zm cc]
def NC:Af (Zg 200 Tryz.f200):={ m:=_ }
def Z1b:Za:=Aa NC 53
def ND:Za:=Aw NC 33 20 Z1b
def NE:Za:=Aa NC 59
def KP:Za:=AJ NC 21 12 ND 38 NE
def KQ:Za:=Aa NC 60
def Z1c:Za:=AJ NC 16 5 KP 44 KQ
def Z1d:Ab:=Vu NC 16 Z1c
def KR(x:V2)(a a1:Ze)(a2:Bool)(a3 a4:Int):Rs:=C 200 [Ap a.c,Ap a1.c,Bo a2,I a3,I a4,.agg [.own 0,.t .nil]] [Zm x]
def YQ(a b:Ze)(x:V2)(cl:Bool)(only x1 cd cc i:Int):Rs:=EvL C [.blk 0,.seq KQ,.fin 1 [.cell 12 (some 2)]] [2,4,6,7,11,12,13,14,15,16] KP ⟨[(2,Bo cl),(4,I only),(6,.ptr 0 0),(7,.ptr 1 0),(11,.ptr 2 0),(12,.ptr 4 0),(13,I x1),(14,I cd),(15,I cc),(16,I i)],[[(0,.own 3)]],[Ag a.c,Ag b.c,.box [.own 3,.t .nil],Zm x,.box [.t .nil,.t .nil]]⟩
def NF(a b:Ze)(x:V2)(cl:Bool)(only x1 cd cc i k:Int):Rs:=EvL C [.blk 2,.blk 1,.seq NE,.loop [2,4,6,7,11,12,13,14,15,16] KP,.blk 0,.seq KQ,.fin 1 [.cell 12 (some 2)]] [2,4,6,7,11,12,13,14,15,16,17] ND ⟨[(2,Bo cl),(4,I only),(6,.ptr 0 0),(7,.ptr 1 0),(11,.ptr 2 0),(12,.ptr 4 0),(13,I x1),(14,I cd),(15,I cc),(16,I i),(17,I k)],[[(0,.own 3)]],[Ag a.c,Ag b.c,.box [.own 3,.t .nil],Zm x,.box [.t .nil,.t .nil]]⟩
def Kr(a b:Ze)(x:V2)(x1:XS)(cl:Bool)(only x2 cd cc i k:Int):Rs:=EvL C [.blk 2,.blk 1,.seq NE,.loop [2,4,6,7,11,12,13,14,15,16] KP,.blk 0,.seq KQ,.fin 1 [.cell 12 (some 2)]] [2,4,6,7,11,12,13,14,15,16,17] ND ⟨[(2,Bo cl),(4,I only),(6,.ptr 0 0),(7,.ptr 1 0),(11,.ptr 2 0),(12,.ptr 5 0),(13,I x2),(14,I cd),(15,I cc),(16,I i),(17,I k)],[[(0,.own 3)]],[Ag a.c,Ag b.c,.box [.own 3,.own 4],Zm x,Z3 x1,.box [.t .nil,.t .nil]]⟩
def oD(a b:Ze)(x:V2)(x1:XS)(cl:Bool)(only x2 cd cc i:Int):Rs:=EvL C [.blk 0,.seq KQ,.fin 1 [.cell 12 (some 2)]] [2,4,6,7,11,12,13,14,15,16] KP ⟨[(2,Bo cl),(4,I only),(6,.ptr 0 0),(7,.ptr 1 0),(11,.ptr 2 0),(12,.ptr 5 0),(13,I x2),(14,I cd),(15,I cc),(16,I i)],[[(0,.own 3)]],[Ag a.c,Ag b.c,.box [.own 3,.own 4],Zm x,Z3 x1,.box [.t .nil,.t .nil]]⟩
def ZB7:Ab:=AG (Zg 199 Tryz.f199)
def NG(x:V2):Rs:=C 199 [.agg [.own 0,.t .nil]] [Zm x]
def KT(x:V2)(x1:XS):Rs:=C 199 [.agg [.own 0,.own 1]] [Zm x,Z3 x1]
def ZB8:Ab:=AG (Zg 149 Tryz.f149)
def NH(a a1:Ze):Rs:=C 149 [Ap a.c,Ap a1.c] []
def ZB9:Ab:=AG (Zg 150 Tryz.f150)
def NI(a a1:Ze):Rs:=C 150 [Ap a.c,Ap a1.c] []
def Z1e:Af (Zg 202 Tryz.f202):={ m:=_ }
def Z1f:Za:=Aa Z1e 17
def Z1g:Za:=Aa Z1e 33
def ZBA:Ab:=Zp Z1e 17 Z1f 33 Z1g
def oE(a:Ze)(a1:Int):Rs:=C 202 [Ap a.c,I a1] []
def oF(s:Ze)(x i:Int):Rs:=lp C [.blk 0,.seq Z1g,.fin 0 [.tmp 4]] [2,5,6] Z1f [.ptr 0 0,I x,I i] [Ag s.c]
def Zqo(x:V2)(x1:XS)(a a1:Ze)(a2:Bool)(a3 a4:Int):Rs:=C 200 [Ap a.c,Ap a1.c,Bo a2,I a3,I a4,.agg [.own 0,.own 1]] [Zm x,Z3 x1]
def YR(a b:Ze)(x:V2)(x1:XS)(cl:Bool)(only x2 cd cc i:Int):Rs:=EvL C [.blk 0,.seq KQ,.fin 2 [.cell 12 (some 2)]] [2,4,6,7,11,12,13,14,15,16] KP ⟨[(2,Bo cl),(4,I only),(6,.ptr 0 0),(7,.ptr 1 0),(11,.ptr 2 0),(12,.ptr 5 0),(13,I x2),(14,I cd),(15,I cc),(16,I i)],[[(0,.own 3),(1,.own 4)]],[Ag a.c,Ag b.c,.box [.own 3,.own 4],Zm x,Z3 x1,.box [.t .nil,.t .nil]]⟩
def NJ(a b:Ze)(x:V2)(x1:XS)(cl:Bool)(only x2 cd cc i k:Int):Rs:=EvL C [.blk 2,.blk 1,.seq NE,.loop [2,4,6,7,11,12,13,14,15,16] KP,.blk 0,.seq KQ,.fin 2 [.cell 12 (some 2)]] [2,4,6,7,11,12,13,14,15,16,17] ND ⟨[(2,Bo cl),(4,I only),(6,.ptr 0 0),(7,.ptr 1 0),(11,.ptr 2 0),(12,.ptr 5 0),(13,I x2),(14,I cd),(15,I cc),(16,I i),(17,I k)],[[(0,.own 3),(1,.own 4)]],[Ag a.c,Ag b.c,.box [.own 3,.own 4],Zm x,Z3 x1,.box [.t .nil,.t .nil]]⟩
def Ks(a b:Ze)(x:V2)(x1:XS)(cl:Bool)(only x2 cd cc i k:Int):Rs:=EvL C [.blk 2,.blk 1,.seq NE,.loop [2,4,6,7,11,12,13,14,15,16] KP,.blk 0,.seq KQ,.fin 2 [.cell 12 (some 2)]] [2,4,6,7,11,12,13,14,15,16,17] ND ⟨[(2,Bo cl),(4,I only),(6,.ptr 0 0),(7,.ptr 1 0),(11,.ptr 2 0),(12,.ptr 5 0),(13,I x2),(14,I cd),(15,I cc),(16,I i),(17,I k)],[[(0,.own 3),(1,.own 6)]],[Ag a.c,Ag b.c,.box [.own 3,.own 4],Zm x,Z3 x1,.box [.t .nil,.t .nil],.dead]⟩
def oG(a b:Ze)(x:V2)(x1:XS)(cl:Bool)(only x2 cd cc i:Int):Rs:=EvL C [.blk 0,.seq KQ,.fin 2 [.cell 12 (some 2)]] [2,4,6,7,11,12,13,14,15,16] KP ⟨[(2,Bo cl),(4,I only),(6,.ptr 0 0),(7,.ptr 1 0),(11,.ptr 2 0),(12,.ptr 5 0),(13,I x2),(14,I cd),(15,I cc),(16,I i)],[[(0,.own 3),(1,.own 6)]],[Ag a.c,Ag b.c,.box [.own 3,.own 4],Zm x,Z3 x1,.box [.t .nil,.t .nil],.dead]⟩
def Z1h:Af (Zg 151 Tryz.f151):={ m:=_ }
def Z1i:Za:=Aa Z1h 17
def Z1j:Za:=Aa Z1h 27
def ZBB:Ab:=Zp Z1h 17 Z1i 27 Z1j
def Zqp(a a1:Ze)(a2:Int):Rs:=C 151 [Ap a.c,Ap a1.c,I a2] []
def Z1k:=lp C [.blk 0,.seq Z1j,.fin 0 [.cell 6 (some 2),.tmp 7]] [2,3,4,6,8,9] Z1i
def oH(a b:Ze)(x:V2)(v cc:Int):Rs:=Z1k [I v,.ptr 0 0,.ptr 1 0,.ptr 2 0,.ptr 3 0,I cc] [Ag a.c,Ag b.c,.box [.t .nil,.t .nil],.box [.own 4,.t .nil],Zm x]
def YS(a b:Ze)(x:V2)(x1:XS)(v cc:Int):Rs:=Z1k [I v,.ptr 0 0,.ptr 1 0,.ptr 2 0,.ptr 3 0,I cc] [Ag a.c,Ag b.c,.box [.t .nil,.t .nil],.box [.own 4,.own 5],Zm x,Z3 x1]
def Zqq:Af (Zg 79 Tryz.f79):={ m:=_ }
def ZBC:Za:=Aa Zqq 50
def Z1l:Za:=Aw Zqq 19 31 ZBC
def Z1m:Za:=Aa Zqq 52
def ZBD:Ab:=Zp Zqq 19 Z1l 52 Z1m
def YT(a:Zj)(a1:Zc)(a2:Zr):Rs:=C 79 [Ap a.c,Ap a1.c,Ap a2.c] []
def YU(d:Zj)(q:Zc)(p:Zr)(cc:List Zf)(cd:List Ze)(i:Int):Rs:=lp C [.blk 0,.seq Z1m,.fin 0 [.tmp 6,.tmp 7,.tmp 8]] [3,4,5,9,11,12] Z1l [.ptr 0 0,.ptr 1 0,.ptr 2 0,.own 3,.own 4,I i] [Ag d.c,Ag q.c,Ag p.c,Q5 cc,.arr 134 2 true (cd.map Ze.c)]
def ZBE:Ab:=AG (Zg 82 Tryz.f82)
def Vz(a:Int):Rs:=C 82 [I a] []
def ZBF:Ab:=AG (Zg 80 Tryz.f80)
def NK(a:Zt)(a1:Zr)(a2:List Zf)(a3:V2)(a4:Int):Rs:=C 80 [Ap a.c,Ap a1.c,KC a2,Zq a3,I a4] []
def Z1n:Af (Zg 81 Tryz.f81):={ m:=_ }
def Z1o:Za:=Aa Z1n 15
def Z1p:Za:=Aa Z1n 23
def ZBG:Ab:=Zp Z1n 15 Z1o 23 Z1p
def NL(a:Zt)(a1 a2 a3 a4:Int):Rs:=C 81 [Ap a.c,I a1,I a2,I a3,I a4] []
def oI(m:Zt)(cd l cl cc n:Int):Rs:=lp C [.blk 0,.seq Z1p,.fin 0 [.tmp 10]] [1,2,3,4,5,11] Z1o [I cd,I l,I cl,I cc,.ptr 0 0,I n] [Ag m.c]
def Z1q:Af (Zg 83 Tryz.f83):={ m:=_ }
def Z1r:Za:=Aa Z1q 17
def Z1s:Za:=Aa Z1q 27
def ZBH:Ab:=Zp Z1q 17 Z1r 27 Z1s
def KU(a:Ze):Rs:=C 83 [Ap a.c] []
def Z1t:=lp C [.blk 0,.seq Z1s,.fin 0 [.cell 2 (some 2),.tmp 3]] [1,2,4,5] Z1r
def Z1u(s:Ze)(x:V2)(i:Int):Rs:=Z1t [.ptr 0 0,.ptr 1 0,.ptr 2 0,I i] [Ag s.c,.box [.t .nil,.t .nil],.box [.own 3,.t .nil],Zm x]
def oJ(s:Ze)(x:V2)(x1:XS)(i:Int):Rs:=Z1t [.ptr 0 0,.ptr 1 0,.ptr 2 0,I i] [Ag s.c,.box [.t .nil,.t .nil],.box [.own 3,.own 4],Zm x,Z3 x1]
def oK:Af (Zg 41 Tryz.f41):={ m:=_ }
def Z1v:Za:=Aa oK 45
def Z1w:Za:=Aa oK 60
def Zqr:Za:=AJ oK 21 24 Z1v 39 Z1w
def Zqs:Za:=Aa oK 61
def ZBI:Ab:=Zp oK 21 Zqr 61 Zqs
def Zqt(a:Zt)(a1:Zj)(a2:Zc)(a3:Zr)(a4:Int):Rs:=C 41 [Ap a.c,Ap a1.c,Ap a2.c,Ap a3.c,I a4] []
def Z1x:=lp C [.blk 0,.seq Zqs,.fin 0 [.cellO 10 (some 6) [none,none,none,some (3,0),some (1,0),some (1,0)],.tmpO 11 [none]]] [4,5,8,10,12,13,15,16,17] Zqr
def NM(m:Zt)(p:Zr)(cu:Bool)(cp co:Int)(l:List Ze)(cv:List Zf)(n:V2)(cn:Bool)(cl cc cd i:Int):Rs:=Z1x [I cd,.ptr 0 0,.ptr 1 0,.ptr 2 0,.own 3,.own 4,.own 5,.ptr 6 0,I i] [Ag m.c,Ag p.c,.box [Bo cu,I cp,I co,.t .nil,.t .nil,.t .nil],.arr 134 2 true (l.map Ze.c),Q5 cv,Zm n,.box [Bo cn,I cl,I cc,.t .nil,.t .nil,.t .nil]]
def NN(m:Zt)(p:Zr)(cu:Bool)(cp co:Int)(l:List Ze)(cv:List Zf)(n:V2)(cn:Bool)(cl cc:Int)(x:List Zu)(cd i:Int):Rs:=Z1x [I cd,.ptr 0 0,.ptr 1 0,.ptr 2 0,.own 3,.own 4,.own 5,.ptr 6 0,I i] [Ag m.c,Ag p.c,.box [Bo cu,I cp,I co,.t .nil,.t .nil,.t .nil],.arr 134 2 true (l.map Ze.c),Q5 cv,Zm n,.box [Bo cn,I cl,I cc,.own 7,.t .nil,.t .nil],.arr 85 3 true (x.map Zu.c)]
def ZBJ:Ab:=AG (Zg 12 Tryz.f12)
def NO(a:Zt)(a1:Zj)(a2:Zc)(a3:Zr)(a4 a5:Int):Rs:=C 12 [.agg (a.c.map .t),.agg (a1.c.map .t),.agg (a2.c.map .t),.agg (a3.c.map .t),I a4,I a5] []
def ZBK:Af (Zg 68 Tryz.f68):={ m:=_ }
def ZBL:Za:=Aa ZBK 20
def ZBM:Ab:=Vu ZBK 20 ZBL
def Zqu(a:Box)(a1:Zu):Rs:=C 68 [Ap a.c,Ap a1.c] []
def Zqv:Af (Zg 34 Tryz.f34):={ m:=_ }
def ZBN:Za:=Aa Zqv 27
def Z1y:Za:=Aw Zqv 11 16 ZBN
def Z1z:Za:=Aa Zqv 29
def ZBO:Ab:=Zp Zqv 11 Z1y 29 Z1z
def oL(a:Box)(a1:List Zu):Rs:=C 34 [Ap a.c,L 3 (a1.map Zu.c)] []
def YV(x x1:V2)(l:List Zu)(n i:Int):Rs:=lp C [.blk 0,.seq Z1z,.fin 0 [.cell 4 (some 2),.tmp 5]] [1,4,6,7,8] Z1y [L 3 (l.map Zu.c),.ptr 0 0,.ptr 1 0,I n,I i] [.box [.t .nil,.t .nil],.box [.own 2,.own 3],Zm x,Zm x1]
def Z10:Af (Zg 7 Tryz.f7):={ m:=_ }
def Z11:Za:=Aa Z10 19
def Z12:Za:=Aa Z10 53
def ZBP:Ab:=Zp Z10 19 Z11 53 Z12
def oM(a:Zt)(a1:Zj)(a2:Zc)(a3:Zr)(a4:Box)(a5:Int):Rs:=C 7 [.agg (a.c.map .t),.agg (a1.c.map .t),.agg (a2.c.map .t),.agg (a3.c.map .t),.agg (a4.c.map .t),I a5] []
def YW(m:Zt)(d:Zj)(q:Zc)(p:Zr)(x x1:V2)(cc cd n:Int):Rs:=lp C [.blk 0,.seq Z12,.fin 0 [.cellO 12 (some 2) [some (1,0),some (1,0)],.tmpO 13 [none],.tmpO 14 [none]]] [5,6,7,8,9,12,15,16,17] Z11 [I cc,.ptr 0 0,.ptr 1 0,.ptr 2 0,.ptr 3 0,.ptr 4 0,.ptr 5 0,I cd,I n] [Ag m.c,Ag d.c,Ag q.c,Ag p.c,.box [.t .nil,.t .nil],.box [.own 6,.own 7],Zm x,Zm x1]
def Z13:Af (Zg 35 Tryz.f35):={ m:=_ }
def Z14:Za:=Aa Z13 15
def Z15:Za:=Aa Z13 33
def ZBQ:Ab:=Zp Z13 15 Z14 33 Z15
def oO(a a1:V2):Rs:=C 35 [Zq a,Zq a1] []
def oP(s1 s2:V2)(x x1:Int):Rs:=lp C [.blk 0,.seq Z15,.fin 0 [.tmp 4]] [0,1,12,13] Z14 [Zq s1,Zq s2,I x,I x1] []
def ZBR:Ab:=AG (Zg 8 Tryz.f8)
def oQ(a a1:Box):Rs:=C 8 [.agg (a.c.map .t),.agg (a1.c.map .t)] []
def Z16:Af (Zg 43 Tryz.f43):={ m:=_ }
def Z17:Za:=Aa Z16 15
def Z18:Za:=Aa Z16 31
def ZBS:Ab:=Zp Z16 15 Z17 31 Z18
def Zqw(a a1:XC):Rs:=C 43 [Ap a.c,Ap a1.c] []
def oS(a b:XC)(i:Int):Rs:=lp C [.blk 0,.seq Z18,.fin 0 [.tmp 4]] [2,3,5] Z17 [.ptr 0 0,.ptr 1 0,I i] [Ag a.c,Ag b.c]
def Z19:Af (Zg 14 Tryz.f14):={ m:=_ }
def Z1A:Za:=Aa Z19 15
def Z1B:Za:=Aa Z19 31
def ZBT:Ab:=Zp Z19 15 Z1A 31 Z1B
def YX(a a1:Run):Rs:=C 14 [.agg (a.c.map .t),.agg (a1.c.map .t)] []
def oT(a b:Run)(i:Int):Rs:=lp C [.blk 0,.seq Z1B,.fin 0 [.tmp 4]] [2,3,5] Z1A [.ptr 0 0,.ptr 1 0,I i] [Ag a.c,Ag b.c]
def ZBU:Ab:=AG (Zg 15 Tryz.f15)
def NP(a:Zc)(a1:Zr):Rs:=C 15 [.agg (a.c.map .t),.agg (a1.c.map .t)] []
def IL:Af (Zg 227 Tryz.f227):={ m:=_ }
def Z1C:Za:=Aa IL 34
def Z1D:Za:=Aa IL 44
def Zqx:Za:=AJ IL 22 12 Z1C 22 Z1D
def Z1E:Za:=Aa IL 45
def Z1F:Za:=Aa IL 52
def Zqy:Za:=BR IL 7 15 Zqx 38 Z1E 45 Z1F
def Z1G:Za:=Aa IL 53
def ZBV:Ab:=Zp IL 7 Zqy 53 Z1G
def Zqz(a:Zl)(a1:Zd)(a2 a3:V2):Rs:=C 227 [Ap a.c,Ap a1.c,Zq a2,Zq a3] []
def Z1H:List Fr:=[.blk 0,.seq Z1G,.fin 0 [.tmp 8]]
def YY(t:Zl)(a:Zd)(cc cd:V2)(i:Int):Rs:=lp C Z1H [2,3,4,5,9] Zqy [Zq cc,Zq cd,.ptr 0 0,.ptr 1 0,I i] [Ag t.c,Ag a.c]
def Z1I:List Fr:=.blk 2::.seq Z1E::.blk 1::.seq Z1F::.loop [2,3,4,5,9] Zqy::Z1H
def YZ(t:Zl)(a:Zd)(cc cd:V2)(i:Int)(is:Bool)(k:Int):Rs:=lp C Z1I [2,3,4,5,9,10,11] Zqx [Zq cc,Zq cd,.ptr 0 0,.ptr 1 0,I i,Bo is,I k] [Ag t.c,Ag a.c]
def oU(t:Zl)(a:Zd)(cc cd:V2)(i:Int)(is:Bool)(k j:Int):Rs:=lp C (.blk 4::.blk 3::.seq Z1D::.loop [2,3,4,5,9,10,11] Zqx::Z1I) [2,3,4,5,9,10,11,12] Z1C [Zq cc,Zq cd,.ptr 0 0,.ptr 1 0,I i,Bo is,I k,I j] [Ag t.c,Ag a.c]
def oV:Af (Zg 205 Tryz.f205):={ m:=_ }
def Z1J:Za:=Aa oV 7
def Z1K:Za:=Aa oV 38
def Z1L:Za:=Aa oV 48
def Z1M:Za:=AJ oV 23 15 Z1K 25 Z1L
def ZBW:Ab:=Zp oV 7 Z1J 23 Z1M
def aA(x:List Zl)(fr:Bool)(x1:List Zd)(x2 x3:V2):Rs:=C 205 [.own 0,.own 1,.own 2,.own 3] [.arr 112 3 true (x.map Zl.c),.arr 110 2 fr (x1.map Zd.c),Zm x2,Zm x3]
def aB(l:List Zl)(fr:Bool)(cc:List Zd)(cd cl:V2)(i:Int):Rs:=EvL C [.blk 0,.seq Z1M,.fin 4 [.tmp 8]] [0,1,2,3,9] Z1J ⟨[(0,.own 0),(1,.own 1),(2,.own 2),(3,.own 3),(9,I i)],[[(0,.own 0),(1,.own 1),(2,.own 2),(3,.own 3)]],[.arr 112 3 true (l.map Zl.c),.arr 110 2 fr (cc.map Zd.c),Zm cd,Zm cl]⟩
def aC(l:List Zl)(fr:Bool)(cc:List Zd)(cd co:V2)(cl:Bool)(cn:XS)(v:Int):Rs:=EvL C [.blk 2,.seq Z1L,.fin 4 [.tmp 8]] [0,1,2,3,10,11] Z1K ⟨[(0,.own 0),(1,.own 1),(2,.own 2),(3,.own 3),(10,.own 4),(11,I v)],[[(0,.own 0),(1,.own 1),(2,.own 2),(3,.own 3)]],[.arr 112 3 true (l.map Zl.c),.arr 110 2 fr (cc.map Zd.c),Zm cd,Zm co,.arr 38 1 cl (cn.map Ae)]⟩
def Zq0:Af (Zg 157 Tryz.f157):={ m:=_ }
def ZBX:Za:=Aa Zq0 36
def Z1N:Za:=Aw Zq0 19 17 ZBX
def Z1O:Za:=Aa Zq0 37
def ZBY:Ab:=Zp Zq0 19 Z1N 37 Z1O
def aD(a:Zj)(a1:Zc)(a2:Int):Rs:=C 157 [Ap a.c,Ap a1.c,I a2] []
def NQ(d:Zj)(q:Zc)(l:List Zl)(fr:Bool)(cc:List Zd)(cd i:Int):Rs:=lp C [.blk 0,.seq Z1O,.fin 0 [.cell 6 (some 2),.tmp 7]] [2,3,4,6,8,9,10] Z1N [I cd,.ptr 0 0,.ptr 1 0,.ptr 2 0,.own 3,.own 4,I i] [Ag d.c,Ag q.c,.box [.t .nil,.t .nil],.arr 112 3 true (l.map Zl.c),.arr 110 2 fr (cc.map Zd.c)]
def ZBZ:Ab:=AG (Zg 88 Tryz.f88)
def Zq1(a:Zj)(a1:Zc)(a2:Int):Rs:=C 88 [Ap a.c,Ap a1.c,I a2] []
def Zq2:Af (Zg 44 Tryz.f44):={ m:=_ }
def ZCa:Za:=Aa Zq2 25
def Z1P:Za:=Aw Zq2 9 16 ZCa
def Z1Q:Za:=Aa Zq2 27
def ZCb:Ab:=Zp Zq2 9 Z1P 27 Z1Q
def oW(a:Zj)(a1:Zc):Rs:=C 44 [Ap a.c,Ap a1.c] []
def aE(d:Zj)(q:Zc)(cc:V2)(m:Int):Rs:=lp C [.blk 0,.seq Z1Q,.fin 0 [.tmp 4]] [2,3,5,6] Z1P [.ptr 0 0,.ptr 1 0,.own 2,I m] [Ag d.c,Ag q.c,Zm cc]
def Z1R:Af (Zg 16 Tryz.f16):={ m:=_ }
def Z1S:Za:=Aa Z1R 11
def Z1T:Za:=Aa Z1R 21
def ZCc:Ab:=Zp Z1R 11 Z1S 21 Z1T
def oX(a:Zj)(a1:Zc):Rs:=C 16 [.agg (a.c.map .t),.agg (a1.c.map .t)] []
def oY(c l:V2)(i:Int):Rs:=lp C [.blk 0,.seq Z1T,.fin 0 [.tmp 4]] [5,6,7] Z1S [.own 0,.own 1,I i] [Zm c,Zm l]
def ZCd:Ab:=AG (Zg 17 Tryz.f17)
def aF(a:Box)(a1:V2):Rs:=C 17 [.agg (a.c.map .t),L 1 (a1.map ic)] []
def oZ:Ab:=AG (Zg 3 Tryz.f3)
def o7(a:V2):Rs:=C 3 [L 1 (a.map (kc .u8))] []
end
