/-
  Parts of the proofs for this seat: D3.
-/
import Derived.Test.YtggcnlojfngdeaaGreatP8
set_option linter.all false
set_option maxRecDepth 100000
set_option maxHeartbeats 4000000
set_option cbv.maxSteps 9999999
namespace Go.Proofs.YtggcnlojfngdeaaGreat
open Go.AM
noncomputable section
def zD:Ag (Zi 102 Tryz.f102):={ m:=_ }
def Z5S:Za:=Aa zD 30
def ZvW:Za:=Av zD 17 13 Z5S
def ZvX:Za:=Aa zD 31
def Z5T:Ab:=Zs zD 17 ZvW 31 ZvX
def Uu(a:Zz)(a1 a2 a3:Int):Rs:=C 102 [Am a.c,I a1,I a2,I a3] []
def LZ(o:Zz)(l cc n i:Int):Rs:=lp C [.blk 0,.seq ZvX,.fin 0 [.tmp 8]] [1,2,4,9,10] ZvW [I l,I cc,.ptr 0 0,I n,I i] [Ae o.c]
def Z5U:Ab:=AB (Zi 182 Tryz.f182)
def RJ(a:Zz)(a1:WL):Rs:=C 182 [Am a.c,Zt a1] []
def FX:Ag (Zi 146 Tryz.f146):={ m:=_ }
def ZvY:Za:=Aa FX 53
def ZvZ:Za:=Aa FX 73
def zF:Za:=AD FX 39 14 ZvY 34 ZvZ
def Zwa:Za:=Aa FX 74
def zG:Za:=AD FX 27 12 zF 47 Zwa
def Zwb:Za:=Aa FX 75
def zH:Za:=AD FX 15 12 zG 60 Zwb
def Zwc:Za:=Aa FX 76
def Z5V:Ab:=Zs FX 15 zH 76 Zwc
def zI(a:Zz):Rs:=C 146 [Am a.c] []
def Zwd:List Fr:=[.blk 0,.seq Zwc,.fin 0 [.tmp 2,.tmp 3,.tmp 4]]
def RK(o:Zz)(a:Int):Rs:=lp C Zwd [1,5] zH [.ptr 0 0,I a] [Ae o.c]
def Zwe:List Fr:=.blk 2::.blk 1::.seq Zwb::.loop [1,5] zH::Zwd
def RL(o:Zz)(a b:Int):Rs:=lp C Zwe [1,5,6] zG [.ptr 0 0,I a,I b] [Ae o.c]
def Zwf:List Fr:=.blk 4::.blk 3::.seq Zwa::.loop [1,5,6] zG::Zwe
def RM(o:Zz)(a b e:Int):Rs:=lp C Zwf [1,5,6,7] zF [.ptr 0 0,I a,I b,I e] [Ae o.c]
def Ht(o:Zz)(x:WL)(a b e k:Int):Rs:=lp C (.blk 6::.blk 5::.seq ZvZ::.loop [1,5,6,7] zF::Zwf) [1,5,6,7,8,9] ZvY [.ptr 0 0,I a,I b,I e,.own 1,I k] [Ae o.c,Zo x]
def L0:Ag (Zi 147 Tryz.f147):={ m:=_ }
def Zwg:Za:=Aa L0 31
def Zwh:Za:=Aa L0 47
def zJ:Za:=AD L0 19 12 Zwg 28 Zwh
def Zwi:Za:=Aa L0 48
def zK:Za:=AD L0 7 12 zJ 41 Zwi
def Zwj:Za:=Aa L0 49
def Z5W:Ab:=Zs L0 7 zK 49 Zwj
def zL(a:Zz):Rs:=C 147 [Am a.c] []
def Zwk:List Fr:=[.blk 0,.seq Zwj,.fin 0 [.tmp 2]]
def RN(o:Zz)(a:Int):Rs:=lp C Zwk [1,3] zK [.ptr 0 0,I a] [Ae o.c]
def Zwl:List Fr:=.blk 2::.blk 1::.seq Zwi::.loop [1,3] zK::Zwk
def RO(o:Zz)(a b:Int):Rs:=lp C Zwl [1,3,4] zJ [.ptr 0 0,I a,I b] [Ae o.c]
def fW(o:Zz)(a b e:Int):Rs:=lp C (.blk 4::.blk 3::.seq Zwh::.loop [1,3,4] zJ::Zwl) [1,3,4,5] Zwg [.ptr 0 0,I a,I b,I e] [Ae o.c]
def Zwm:Ag (Zi 96 Tryz.f96):={ m:=_ }
def Zwn:Za:=Aa Zwm 7
def Zwo:Za:=Aa Zwm 45
def Z5X:Ab:=Zs Zwm 7 Zwn 45 Zwo
def Zwp(a:Zf):Rs:=C 96 [Am a.c] []
def RP(m:Zf)(k:Int):Rs:=lp C [.blk 0,.seq Zwo,.fin 0 [.tmp 2,.tmp 3,.tmp 4]] [1,5] Zwn [.ptr 0 0,I k] [Ae m.c]
def Z5Y:Ab:=AB (Zi 49 Tryz.f49)
def FY(a:Zf):Rs:=C 49 [Am a.c] []
def Z5Z:Ab:=AB (Zi 51 Tryz.f51)
def Hu(a:Box):Rs:=C 51 [Am a.c] []
def zN:Ag (Zi 97 Tryz.f97):={ m:=_ }
def Z6a:Za:=Aa zN 24
def Zwq:Za:=Av zN 11 13 Z6a
def Zwr:Za:=Aa zN 25
def Z6b:Ab:=Zs zN 11 Zwq 25 Zwr
def fX(a:Zc):Rs:=C 97 [Am a.c] []
def RQ(q:Zc)(cd:WL)(cc m:Int):Rs:=lp C [.blk 0,.seq Zwr,.fin 0 [.tmp 2]] [1,3,4,5] Zwq [.ptr 0 0,.own 1,I cc,I m] [Ae q.c,Zo cd]
def zO:Ag (Zi 98 Tryz.f98):={ m:=_ }
def Z6c:Za:=Aa zO 30
def Zws:Za:=Av zO 17 13 Z6c
def Zwt:Za:=Aa zO 31
def Z6d:Ab:=Zs zO 17 Zws 31 Zwt
def zP(a:Zc)(a1:Int):Rs:=C 98 [Am a.c,I a1] []
def L1(q:Zc)(cd:WL)(cc m:Int):Rs:=lp C [.blk 0,.seq Zwt,.fin 0 [.tmp 4]] [1,2,5,6] Zws [I cc,.ptr 0 0,.own 1,I m] [Ae q.c,Zo cd]
def RR:Ag (Zi 52 Tryz.f52):={ m:=_ }
def Zwu:Za:=Aa RR 26
def Zwv:Za:=Aa RR 36
def Zww:Za:=Aa RR 37
def zQ:Za:=BM RR 11 15 Zwu 25 Zwv 26 Zww
def Zwx:Za:=Aa RR 38
def Z6e:Ab:=Zs RR 11 zQ 38 Zwx
def L2(a:Zc):Rs:=C 52 [Am a.c] []
def Zwy:List Fr:=[.blk 0,.seq Zwx,.fin 0 [.tmp 2]]
def Hv(q:Zc)(cd:List ZU)(cc:WL)(i:Int):Rs:=lp C Zwy [1,3,4,5] zQ [.ptr 0 0,.own 1,.own 2,I i] [Ae q.c,JH cd,Zo cc]
def Zwz:=lp C (.blk 2::.seq Zwv::.blk 1::.seq Zww::.loop [1,3,4,5] zQ::Zwy) [1,3,4,5,6,7] Zwu
def zR(q:Zc)(cl:List ZU)(cc:WL)(cd:Int)(x:WL)(i k:Int):Rs:=Zwz [.ptr 0 0,.own 1,.own 2,I i,.ptr 3 0,I k] [Ae q.c,JH cl,Zo cc,.box [I cd,.own 4,.t .nil],Zo x]
def fY(q:Zc)(cl:List ZU)(cc:WL)(cd:Int)(x:WL)(x1:XV)(i k:Int):Rs:=Zwz [.ptr 0 0,.own 1,.own 2,I i,.ptr 3 0,I k] [Ae q.c,JH cl,Zo cc,.box [I cd,.own 4,.own 5],Zo x,Xc x1]
def Zw0:Ag (Zi 11 Tryz.f11):={ m:=_ }
def Zw1:Za:=Aa Zw0 17
def Zw2:Za:=Aa Zw0 31
def Z6f:Ab:=Zs Zw0 17 Zw1 31 Zw2
def Kc(a:Box)(a1:Int):Rs:=C 11 [Am a.c,I a1] []
def fZ(b:Box)(cd:WL)(cc i:Int):Rs:=lp C [.blk 0,.seq Zw2,.fin 0 [.tmp 4,.tmp 5]] [1,2,6,7] Zw1 [I cc,.ptr 0 0,.own 1,I i] [Ae b.c,Zo cd]
def Zw3:Ag (Zi 33 Tryz.f33):={ m:=_ }
def Zw4:Za:=Aa Zw3 9
def Zw5:Za:=Aa Zw3 19
def Z6g:Ab:=Zs Zw3 9 Zw4 19 Zw5
def K8(a:WL):Rs:=C 33 [Zt a] []
def f0(c l:WL)(i:Int):Rs:=lp C [.blk 0,.seq Zw5,.fin 0 [.tmp 2]] [0,3,4] Zw4 [Zt l,.own 0,I i] [Zo c]
def Z6h:Ab:=AB (Zi 103 Tryz.f103)
def gA(a:Int):Rs:=C 103 [I a] []
def zS:Ag (Zi 100 Tryz.f100):={ m:=_ }
def Z6i:Za:=Aa zS 22
def Zw6:Za:=Av zS 9 13 Z6i
def Zw7:Za:=Aa zS 23
def Z6j:Ab:=Zs zS 9 Zw6 23 Zw7
def FZ(a:List Ze)(a1:Int):Rs:=C 100 [L 4 (a.map Ze.c),I a1] []
def RS(l:List Ze)(cd cc i:Int):Rs:=lp C [.blk 0,.seq Zw7,.fin 0 [.tmp 4]] [0,1,5,6] Zw6 [L 4 (l.map Ze.c),I cd,I cc,I i] []
def Z6k:Ab:=AB (Zi 184 Tryz.f184)
def Hw(a a1:Zj)(a2 a3:Int):Rs:=C 184 [Am a.c,Am a1.c,I a2,I a3] []
def Z6l:Ab:=AB (Zi 149 Tryz.f149)
def L3(x:WL)(x1:List Ze)(a:Zf)(a1 a2:Ze)(a3 a4 a5:Int):Rs:=C 149 [Am a.c,.own 0,.own 1,Am a1.c,Am a2.c,I a3,I a4,I a5] [Zo x,JI x1]
def Zw8:Ag (Zi 150 Tryz.f150):={ m:=_ }
def Zw9:Za:=Aa Zw8 7
def ZwA:Za:=Aa Zw8 23
def Z6m:Ab:=Zs Zw8 7 Zw9 23 ZwA
def RT(a:List Ze)(a1 a2:Int):Rs:=C 150 [L 4 (a.map Ze.c),I a1,I a2] []
def gB(l:List Ze)(cd cc i:Int):Rs:=lp C [.blk 0,.seq ZwA,.fin 0 [.tmp 6]] [0,1,2,7] Zw9 [L 4 (l.map Ze.c),I cd,I cc,I i] []
def Z6n:Ab:=AB (Zi 185 Tryz.f185)
def gC(a:Zj)(a1:Int):Rs:=C 185 [Am a.c,I a1] []
def Z6o:Ab:=AB (Zi 151 Tryz.f151)
def gF(x:WL)(x1:List Ze)(x2:List Zn)(a:Zf)(a1:Ze)(cl cc cd a2 a3 a4:Int):Rs:=C 149 [Am a.c,.own 0,.own 1,Am a1.c,.agg [I cl,I cc,I cd,.own 2],I a2,I a3,I a4] [Zo x,JI x1,.arr 210 3 true (x2.map Zn.c)]
def gG(x:WL)(x1:List Ze)(x2:List Zn)(a:Zf)(cl cc cd:Int)(a1:Ze)(a2 a3 a4:Int):Rs:=C 149 [Am a.c,.own 0,.own 1,.agg [I cl,I cc,I cd,.own 2],Am a1.c,I a2,I a3,I a4] [Zo x,JI x1,.arr 210 3 true (x2.map Zn.c)]
def gH(x:WL)(x1:List Ze)(x2 x3:List Zn)(a:Zf)(cp cn co cl cc cd a1 a2 a3:Int):Rs:=C 149 [Am a.c,.own 0,.own 1,.agg [I cp,I cn,I co,.own 2],.agg [I cl,I cc,I cd,.own 3],I a1,I a2,I a3] [Zo x,JI x1,.arr 210 3 true (x2.map Zn.c),.arr 210 3 true (x3.map Zn.c)]
def K9:Ag (Zi 104 Tryz.f104):={ m:=_ }
def Z6p:Za:=Aa K9 47
def ZwB:Za:=Av K9 32 15 Z6p
def ZwC:Za:=Aa K9 52
def ZwD:Za:=Av K9 48 4 ZwC
def zT:Za:=Aa K9 64
def gI:Za:=BM K9 9 23 ZwB 39 ZwD 55 zT
def Z6q:Za:=Aa K9 85
def ZwE:Za:=Av K9 72 13 Z6q
def ZwF:Za:=Aa K9 86
def gJ:Za:=AD K9 65 7 ZwE 21 ZwF
def Z6r:Ab:=Zs K9 9 gI 65 gJ
def RU(x:WL)(fr:Bool)(x1:List Ze)(a:Zf)(a1 a2:Int):Rs:=C 151 [Am a.c,.own 0,.own 1,I a1,I a2] [Zo x,.arr 117 4 fr (x1.map Ze.c)]
def zU(x:WL)(fr:Bool)(x1:List Ze)(a:Zf)(a1:ZU):Rs:=C 104 [Am a.c,.own 0,.own 1,Am a1.c] [Zo x,.arr 117 4 fr (x1.map Ze.c)]
def RW(cc:WL)(fr:Bool)(l:List Ze)(m:Zf)(x:ZU)(cd:List Ze)(k:Int):Rs:=EvL C [.blk 0,.seq gJ,.fin 2 [.tmp 8]] [1,2,4,7,9,10] gI ⟨[(1,.own 0),(2,.own 1),(4,.ptr 2 0),(7,.ptr 3 0),(9,.own 4),(10,I k)],[[(0,.own 0),(1,.own 1)]],[Zo cc,.arr 117 4 fr (l.map Ze.c),Ae m.c,Ae x.c,JI cd]⟩
def RX(cd:WL)(fr:Bool)(l:List Ze)(m:Zf)(x:ZU)(cn:List Ze)(b:Ze)(k cl cc o:Int):Rs:=EvL C [.blk 2,.seq ZwD,.blk 1,.seq zT,.loop [1,2,4,7,9,10] gI,.blk 0,.seq gJ,.fin 2 [.tmp 8]] [1,2,4,7,9,10,11,12,14,15] ZwB ⟨[(1,.own 0),(2,.own 1),(4,.ptr 2 0),(7,.ptr 3 0),(9,.own 4),(10,I k),(11,I cl),(12,I cc),(14,.ptr 5 0),(15,I o)],[[(0,.own 0),(1,.own 1)]],[Zo cd,.arr 117 4 fr (l.map Ze.c),Ae m.c,Ae x.c,JI cn,Ae b.c]⟩
def L4(cc:List Ze)(fr:Bool)(cl:List Ze)(x:WL)(cd:Bool)(x1:List Ze)(o:Int):Rs:=EvL C [.blk 6,.seq ZwF,.fin 2 [.tmp 8]] [9,19,20] ZwE ⟨[(9,.own 0),(19,.own 1),(20,I o)],[[(0,.own 2),(1,.own 3)]],[JI cc,.arr 117 4 fr (cl.map Ze.c),Zo x,.arr 117 4 cd (x1.map Ze.c)]⟩
def F0(cd:WL)(fr:Bool)(l:List Ze)(m:Zf)(x:ZU)(cn:List Ze)(k cl cc e:Int):Rs:=EvL C [.blk 4,.blk 1,.seq zT,.loop [1,2,4,7,9,10] gI,.blk 0,.seq gJ,.fin 2 [.tmp 8]] [1,2,4,7,9,10,11,12,17] ZwC ⟨[(1,.own 0),(2,.own 1),(4,.ptr 2 0),(7,.ptr 3 0),(9,.own 4),(10,I k),(11,I cl),(12,I cc),(17,I e)],[[(0,.own 0),(1,.own 1)]],[Zo cd,.arr 117 4 fr (l.map Ze.c),Ae m.c,Ae x.c,JI cn]⟩
def zV:Ag (Zi 54 Tryz.f54):={ m:=_ }
def Z6s:Za:=Aa zV 30
def ZwG:Za:=Av zV 9 21 Z6s
def ZwH:Za:=Aa zV 31
def Z6t:Ab:=Zs zV 9 ZwG 31 ZwH
def F1(x:List ZU)(x1:WL)(a:Zf)(a1:Zc):Rs:=C 54 [Am a.c,Am a1.c,.own 0,.own 1] [JH x,Zo x1]
def RY(cc:List ZU)(cd:WL)(m:Zf)(q:Zc)(fr:Bool)(cl:List Ze)(i:Int):Rs:=EvL C [.blk 0,.seq ZwH,.fin 2 [.tmp 8]] [2,3,4,5,9,10] ZwG ⟨[(2,.own 0),(3,.own 1),(4,.ptr 2 0),(5,.ptr 3 0),(9,.own 4),(10,I i)],[[(0,.own 0),(1,.own 1)]],[JH cc,Zo cd,Ae m.c,Ae q.c,.arr 117 4 fr (cl.map Ze.c)]⟩
def Z6u:Ab:=AB (Zi 53 Tryz.f53)
def Qm(a:List Ze)(a1:Int):Rs:=C 53 [L 4 (a.map Ze.c),I a1] []
def ZwI:Ag (Zi 55 Tryz.f55):={ m:=_ }
def ZwJ:Za:=Aa ZwI 7
def ZwK:Za:=Aa ZwI 23
def Z6v:Ab:=Zs ZwI 7 ZwJ 23 ZwK
def Z6w:Rs:=C 55 [.t .nil,.agg [.t .nil]] []
def gK(a:Zj):Rs:=C 55 [.t .nil,Am a.c] []
def ZwL:=lp C [.blk 0,.seq ZwK,.fin 0 [.tmp 4]] [0,3,5] ZwJ
def ZwM(p:Zj)(i:Int):Rs:=ZwL [.t .nil,.ptr 0 0,I i] [Ae p.c]
def ZwN:Ag (Zi 105 Tryz.f105):={ m:=_ }
def ZwO:Za:=Aa ZwN 15
def ZwP:Za:=Aa ZwN 31
def Z6x:Ab:=Zs ZwN 15 ZwO 31 ZwP
def Z6y(a:List Zj):Rs:=C 55 [L 1 (a.map Zj.c),.agg [.t .nil]] []
def zW(a a1:Zj):Rs:=C 105 [Am a.c,Am a1.c] []
def L5(a b:Zj)(i:Int):Rs:=lp C [.blk 0,.seq ZwP,.fin 0 [.tmp 4]] [2,3,5] ZwO [.ptr 0 0,.ptr 1 0,I i] [Ae a.c,Ae b.c]
def gL(a:List Zj)(a1:Zj):Rs:=C 55 [L 1 (a.map Zj.c),Am a1.c] []
def gM(p:Zj)(l:List Zj)(i:Int):Rs:=ZwL [L 1 (l.map Zj.c),.ptr 0 0,I i] [Ae p.c]
def zX:Ag (Zi 22 Tryz.f22):={ m:=_ }
def Z6z:Za:=Aa zX 45
def ZwQ:Za:=Av zX 23 22 Z6z
def ZwR:Za:=Aa zX 49
def Z60:Ab:=Zs zX 23 ZwQ 49 ZwR
def gN(a:Zf)(a1:Zc)(a2:Box):Rs:=C 22 [Am a.c,Am a1.c,Am a2.c] []
def zY:=lp C [.blk 0,.seq ZwR,.fin 0 [.cellO 6 (some 5) [some (1,0),some (1,0),some (1,0),some (1,0),some (1,0)],.tmpO 7 [none]]] [3,4,5,6,8,9,10,11,12] ZwQ
def zZ(m:Zf)(q:Zc)(b:Box)(x x1:WL)(cc:List ZU)(n cd i:Int):Rs:=zY [.ptr 0 0,.ptr 1 0,.ptr 2 0,.ptr 3 0,I n,.ptr 4 0,.own 7,I cd,I i] [Ae m.c,Ae q.c,Ae b.c,.box [.t .nil,.t .nil,.t .nil,.t .nil,.t .nil],.box [.own 5,.own 6,.t .nil,.t .nil,.t .nil],Zo x,Zo x1,JH cc]
def RZ(m:Zf)(q:Zc)(b:Box)(x x1 x2 x3:WL)(x4:List Zj)(cc:List ZU)(n cd i:Int):Rs:=zY [.ptr 0 0,.ptr 1 0,.ptr 2 0,.ptr 3 0,I n,.ptr 4 0,.own 10,I cd,I i] [Ae m.c,Ae q.c,Ae b.c,.box [.t .nil,.t .nil,.t .nil,.t .nil,.t .nil],.box [.own 5,.own 6,.own 7,.own 8,.own 9],Zo x,Zo x1,Zo x2,Zo x3,.arr 115 1 true (x4.map Zj.c),JH cc]
def ZwS(m:Zf)(q:Zc)(b:Box)(x x1 x2 x3:WL)(cc:List ZU)(n cd i:Int):Rs:=zY [.ptr 0 0,.ptr 1 0,.ptr 2 0,.ptr 3 0,I n,.ptr 4 0,.own 9,I cd,I i] [Ae m.c,Ae q.c,Ae b.c,.box [.t .nil,.t .nil,.t .nil,.t .nil,.t .nil],.box [.own 5,.own 6,.own 7,.own 8,.t .nil],Zo x,Zo x1,Zo x2,Zo x3,JH cc]
def ZwT:Ag (Zi 58 Tryz.f58):={ m:=_ }
def ZwU:Za:=Aa ZwT 17
def ZwV:Za:=Aa ZwT 33
def Z61:Ab:=Zs ZwT 17 ZwU 33 ZwV
def Jk(a:ZL):Rs:=C 58 [Am a.c] []
def gO(s:ZL)(n i:Int):Rs:=lp C [.blk 0,.seq ZwV,.fin 0 [.tmp 2]] [1,3,4] ZwU [.ptr 0 0,I n,I i] [Ae s.c]
def ZwW:Ag (Zi 56 Tryz.f56):={ m:=_ }
def ZwX:Za:=Aa ZwW 19
def ZwY:Za:=Aa ZwW 31
def Z62:Ab:=Zs ZwW 19 ZwX 31 ZwY
def gP(a:ZL):Rs:=C 56 [Am a.c] []
def gQ(s:ZL)(lo hi i:Int):Rs:=lp C [.blk 0,.seq ZwY,.fin 0 [.tmp 2,.tmp 3]] [1,4,5,6] ZwX [.ptr 0 0,I lo,I hi,I i] [Ae s.c]
def ZwZ:Ag (Zi 57 Tryz.f57):={ m:=_ }
def Zxa:Za:=Aa ZwZ 19
def Zxb:Za:=Aa ZwZ 29
def Z63:Ab:=Zs ZwZ 19 Zxa 29 Zxb
def gT(a a1 a2:Int):Rs:=C 57 [I a,I a1,I a2] []
def gU(cd:WL)(cc c b:Int):Rs:=lp C [.blk 0,.seq Zxb,.fin 0 [.tmp 6]] [1,2,7,8] Zxa [I cc,I c,.own 0,I b] [Zo cd]
def Zxc:Ag (Zi 59 Tryz.f59):={ m:=_ }
def Zxd:Za:=Aa Zxc 9
def Zxe:Za:=Aa Zxc 19
def Z64:Ab:=Zs Zxc 9 Zxd 19 Zxe
def gV(a:List Zj):Rs:=C 59 [L 1 (a.map Zj.c)] []
def gW(cc l:List Zj)(i:Int):Rs:=lp C [.blk 0,.seq Zxe,.fin 0 [.tmp 2]] [0,3,4] Zxd [L 1 (l.map Zj.c),.own 0,I i] [.arr 115 1 true (cc.map Zj.c)]
def Z65:Ab:=AB (Zi 187 Tryz.f187)
def z0(a:Box)(a1:WL):Rs:=C 187 [Am a.c,Zt a1] []
def Zxf:Ag (Zi 153 Tryz.f153):={ m:=_ }
def Zxg:Za:=Aa Zxf 17
def Zxh:Za:=Aa Zxf 27
def Z66:Ab:=Zs Zxf 17 Zxg 27 Zxh
def z6(a:Box)(a1:WL):Rs:=C 153 [Am a.c,Zt a1] []
def gX(b:Box)(l:WL)(n i:Int):Rs:=lp C [.blk 0,.seq Zxh,.fin 0 [.tmp 4]] [1,2,5,6] Zxg [Zt l,.ptr 0 0,I n,I i] [Ae b.c]
def Z67:Ab:=AB (Zi 109 Tryz.f109)
def z7(a:Box)(a1:WL)(a2:Int):Rs:=C 109 [Am a.c,Zt a1,I a2] []
def R2:Ag (Zi 61 Tryz.f61):={ m:=_ }
def Zxi:Za:=Aa R2 40
def Zxj:Za:=Aa R2 52
def Zxk:Za:=Aa R2 57
def z8:Za:=BM R2 17 23 Zxi 35 Zxj 40 Zxk
def Zxl:Za:=Aa R2 58
def Z68:Ab:=Zs R2 17 z8 58 Zxl
def L6(a:ZL)(a1:Int):Rs:=C 61 [Am a.c,I a1] []
def Zxm:List Fr:=[.blk 0,.seq Zxl,.fin 0 [.tmp 4]]
def F2(s:ZL)(cd:WL)(cc i:Int):Rs:=lp C Zxm [1,2,5,6] z8 [I cc,.ptr 0 0,.own 1,I i] [Ae s.c,Zo cd]
def gY(s:ZL)(cd l:WL)(cc i:Int)(cl:Bool)(k:Int):Rs:=lp C (.blk 2::.seq Zxj::.blk 1::.seq Zxk::.loop [1,2,5,6] z8::Zxm) [1,2,5,6,7,9,10] Zxi [I cc,.ptr 0 0,.own 1,I i,.own 2,Bo cl,I k] [Ae s.c,Zo cd,Zo l]
def Z69:Ab:=AB (Zi 62 Tryz.f62)
def L7(a a1:Int):Rs:=C 62 [I a,I a1] []
def z9:Ag (Zi 106 Tryz.f106):={ m:=_ }
def Z6A:Za:=Aa z9 22
def Zxn:Za:=Av z9 9 13 Z6A
def Zxo:Za:=Aa z9 23
def Z6B:Ab:=Zs z9 9 Zxn 23 Zxo
def gZ(a:ZL)(a1:WL):Rs:=C 106 [Am a.c,Zt a1] []
def R3(s:ZL)(cc f:WL)(i:Int):Rs:=lp C [.blk 0,.seq Zxo,.fin 0 [.tmp 4]] [1,2,5,6] Zxn [Zt f,.ptr 0 0,.own 1,I i] [Ae s.c,Zo cc]
def Z6C:Ab:=AB (Zi 207 Tryz.f207)
def R4(a a1:Int):Rs:=C 207 [I a,I a1] []
def Zo4:Ag (Zi 188 Tryz.f188):={ m:=_ }
def Z6D:Za:=Aa Zo4 91
def Zo5:Za:=Av Zo4 77 14 Z6D
def Zo6:Za:=Av Zo4 46 31 Zo5
def Z6E:Ab:=VY Zo4 46 Zo6
def L8(a:Zc)(a1:Zn)(a2:List Zp)(a3:WL):Rs:=C 188 [Am a.c,Am a1.c,L 4 (a2.map Zp.c),Zt a3] []
def R5(q:Zc)(x:Zn)(x1:Zp)(cd:List Zp)(cc:WL)(n x2:Int)(x3:Bool):Rs:=Ev C [.blk 0,.seq (.seq (.reg [.o 213 (.build [.t (.int .i64 0),.t (.int .i64 0),.t (.int .i64 0),.t (.int .i64 0)] []),.n (.store 4 (.s 8) (.s 213)),.o 9 (.mov (.k (-1)))] [8,9]) (.ret)),.fin 0 [.cell 8 (some 4),.tmp 9]] Zo6 ⟨[(2,L 4 (cd.map Zp.c)),(3,Zt cc),(4,.ptr 0 0),(5,.ptr 1 0),(8,.ptr 2 0),(10,I n),(18,I x2),(106,Bo x3)],[[]],[Ae q.c,Ae x.c,Ae x1.c]⟩
def R6(x:Zc)(x1:Zn)(x2 a b y:Zp)(v:Int):Rs:=Ev C [.blk 0,.seq (.seq (.reg [.o 213 (.build [.t (.int .i64 0),.t (.int .i64 0),.t (.int .i64 0),.t (.int .i64 0)] []),.n (.store 4 (.s 8) (.s 213)),.o 9 (.mov (.k (-1)))] [8,9]) (.ret)),.fin 0 [.cell 8 (some 4),.tmp 9]] Zo5 ⟨[(5,.ptr 1 0),(8,.ptr 2 0),(11,.ptr 3 0),(12,.ptr 4 0),(13,I v),(14,.ptr 5 0)],[[]],[Ae x.c,Ae x1.c,Ae x2.c,Ae a.c,Ae b.c,Ae y.c]⟩
def L9(x:Zc)(x1:Zn)(x2 a b y:Zp)(v:Int)(x3:Bool):Rs:=Ev C [.blk 0,.seq (.seq (.reg [.o 213 (.build [.t (.int .i64 0),.t (.int .i64 0),.t (.int .i64 0),.t (.int .i64 0)] []),.n (.store 4 (.s 8) (.s 213)),.o 9 (.mov (.k (-1)))] [8,9]) (.ret)),.fin 0 [.cell 8 (some 4),.tmp 9]] Zo5 ⟨[(5,.ptr 1 0),(8,.ptr 2 0),(11,.ptr 3 0),(12,.ptr 4 0),(13,I v),(14,.ptr 5 0),(182,Bo x3)],[[]],[Ae x.c,Ae x1.c,Ae x2.c,Ae a.c,Ae b.c,Ae y.c]⟩
def Zxp:Ag (Zi 154 Tryz.f154):={ m:=_ }
def Zxq:Za:=Aa Zxp 19
def Zxr:Za:=Aa Zxp 41
def Z6F:Ab:=Zs Zxp 19 Zxq 41 Zxr
def R7(a:Zc)(a1:Zj):Rs:=C 154 [Am a.c,Am a1.c] []
def g7(q:Zc)(p:Zj)(cd:List Zp)(cc:WL)(i:Int):Rs:=lp C [.blk 0,.seq Zxr,.fin 0 [.tmp 4,.tmp 5]] [2,3,6,7,8] Zxq [.ptr 0 0,.ptr 1 0,.own 2,.own 3,I i] [Ae q.c,Ae p.c,I6 cd,Zo cc]
def Zxs:Ag (Zi 164 Tryz.f164):={ m:=_ }
def Zxt:Za:=Aa Zxs 15
def Zxu:Za:=Aa Zxs 31
def Z6G:Ab:=Zs Zxs 15 Zxt 31 Zxu
def R8(a:Zc)(a1:WL):Rs:=C 164 [Am a.c,Zt a1] []
def g8(c:WL)(i:Int):Rs:=lp C [.blk 0,.seq Zxu,.fin 0 [.tmp 4]] [1,5] Zxt [Zt c,I i] []
def Z6H:Ab:=AB (Zi 226 Tryz.f226)
def Zo7(a:Zf)(a1:Int)(a2:List Zp)(a3:Int)(a4:WL):Rs:=C 226 [Am a.c,I a1,L 4 (a2.map Zp.c),I a3,Zt a4] []
def Zxv:Ag (Zi 219 Tryz.f219):={ m:=_ }
def Zxw:Za:=Aa Zxv 19
def Zxx:Za:=Aa Zxv 29
def Z6I:Ab:=Zs Zxv 19 Zxw 29 Zxx
def Zo8(a:Zf)(a1:Zc)(a2:Zj)(a3:WL):Rs:=C 219 [Am a.c,Am a1.c,Am a2.c,Zt a3] []
def g9(m:Zf)(p:Zj)(cl:WL)(cd:List Zp)(cc:WL)(i:Int):Rs:=lp C [.blk 0,.seq Zxx,.fin 0 [.tmp 8]] [3,4,6,9,10,12] Zxw [Zt cc,.ptr 0 0,.ptr 1 0,.own 2,.own 3,I i] [Ae m.c,Ae p.c,Zo cl,I6 cd]
def Zxy:Ag (Zi 206 Tryz.f206):={ m:=_ }
def Zxz:Za:=Aa Zxy 19
def Zx0:Za:=Aa Zxy 29
def Z6J:Ab:=Zs Zxy 19 Zxz 29 Zx0
def Zo9(a:Zf)(a1:Zc)(a2:Zj)(a3:WL):Rs:=C 206 [Am a.c,Am a1.c,Am a2.c,Zt a3] []
def hH(l:WL)(n i:Int):Rs:=lp C [.blk 0,.seq Zx0,.fin 0 [.tmp 8]] [9,10,11] Zxz [.own 0,I n,I i] [Zo l]
def Z6K:Ab:=AB (Zi 186 Tryz.f186)
def ZoA(a:Zf)(a1:Zc)(a2:Zj)(a3:WL):Rs:=C 186 [Am a.c,Am a1.c,Am a2.c,Zt a3] []
def Z6L:Ab:=AB (Zi 152 Tryz.f152)
def hU(a:Zf)(a1:Zc)(a2:ZL)(a3 a4 a5:Int):Rs:=C 152 [Am a.c,Am a1.c,Am a2.c,I a3,I a4,I a5] []
def ZoB:Ag (Zi 108 Tryz.f108):={ m:=_ }
def Z6M:Za:=Aa ZoB 22
def Zx1:Za:=Av ZoB 9 13 Z6M
def Zx2:Za:=Aa ZoB 23
def Z6N:Ab:=Zs ZoB 9 Zx1 23 Zx2
def hY(a:Zf)(a1:Zc)(a2:ZL)(a3:Int)(a4:WL)(a5:Int):Rs:=C 108 [Am a.c,Am a1.c,Am a2.c,I a3,Zt a4,I a5] []
def R9(m:Zf)(q:Zc)(s:ZL)(cd:WL)(k:Int)(f:WL)(cc i:Int):Rs:=lp C [.blk 0,.seq Zx2,.fin 0 [.tmp 12]] [3,4,5,6,7,8,13,14] Zx1 [I k,Zt f,I cc,.ptr 0 0,.ptr 1 0,.ptr 2 0,.own 3,I i] [Ae m.c,Ae q.c,Ae s.c,Zo cd]
def Kd:Ag (Zi 60 Tryz.f60):={ m:=_ }
def Z6O:Za:=Aa Kd 26
def Zx3:Za:=Av Kd 13 13 Z6O
def Z6P:Za:=Aa Kd 63
def Zx4:Za:=Av Kd 46 17 Z6P
def Z6Q:Za:=Aa Kd 94
def Zx5:Za:=Av Kd 81 13 Z6Q
def Zx6:Za:=Aa Kd 95
def Zx7:Za:=AD Kd 64 17 Zx5 31 Zx6
def hZ:Za:=AD Kd 30 16 Zx4 34 Zx7
def Zx8:Za:=Aa Kd 98
def Zx9:Za:=AD Kd 27 3 hZ 71 Zx8
def Z6R:Ab:=Zs Kd 13 Zx3 27 Zx9
def Sa(a:Zf)(a1:Zc)(a2:ZL)(a3:WL)(a4:Int):Rs:=C 60 [Am a.c,Am a1.c,Am a2.c,Zt a3,I a4] []
def Sb(m:Zf)(q:Zc)(s:ZL)(cl l cd f:WL)(cc i:Int):Rs:=lp C [.blk 0,.seq Zx9,.fin 0 [.tmp 10]] [3,4,5,6,7,11,12,13,14] Zx3 [Zt f,I cc,.ptr 0 0,.ptr 1 0,.ptr 2 0,.own 3,.own 4,.own 5,I i] [Ae m.c,Ae q.c,Ae s.c,Zo cl,Zo l,Zo cd]
def ZoC:List Fr:=[.blk 2,.seq Zx8,.fin 0 [.tmp 10]]
def Hx(m:Zf)(q:Zc)(s:ZL)(cl l cd:WL)(cc:Int):Rs:=lp C ZoC [4,5,6,7,11,12,13] hZ [I cc,.ptr 0 0,.ptr 1 0,.ptr 2 0,.own 3,.own 4,.own 5] [Ae m.c,Ae q.c,Ae s.c,Zo cl,Zo l,Zo cd]
def iA(m:Zf)(q:Zc)(s:ZL)(co l cl:WL)(cc cd cn k:Int):Rs:=lp C (.blk 4::.seq Zx7::.blk 3::.loop [4,5,6,7,11,12,13] hZ::ZoC) [4,5,6,7,11,12,13,15,16,17] Zx4 [I cc,.ptr 0 0,.ptr 1 0,.ptr 2 0,.own 3,.own 4,.own 5,I cd,I cn,I k] [Ae m.c,Ae q.c,Ae s.c,Zo co,Zo l,Zo cl]
def iB(m:Zf)(q:Zc)(s:ZL)(cp l cn cl co:WL)(cc cd i:Int):Rs:=lp C (.blk 6::.seq Zx6::.blk 3::.loop [4,5,6,7,11,12,13] hZ::ZoC) [4,5,6,7,11,12,13,15,19,20,21] Zx5 [I cc,.ptr 0 0,.ptr 1 0,.ptr 2 0,.own 3,.own 4,.own 5,I cd,.own 6,.own 7,I i] [Ae m.c,Ae q.c,Ae s.c,Zo cp,Zo l,Zo cn,Zo cl,Zo co]
def Ma:Ag (Zi 63 Tryz.f63):={ m:=_ }
def ZxA:Za:=Aa Ma 23
def ZxB:Za:=Aa Ma 64
def ZxC:Za:=Aa Ma 80
def ZoD:Za:=AD Ma 44 20 ZxB 36 ZxC
def ZxD:Za:=Aa Ma 81
def ZxE:Za:=AD Ma 39 5 ZoD 42 ZxD
def Z6S:Ab:=Zs Ma 23 ZxA 39 ZxE
def Z6T(a:Zc)(cd cn co:Int)(Box:Box)(cc:WL)(cl:List Zj):Rs:=C 63 [Am a.c,.agg [I cd,I cn,I co,L 1 (Box.Low.map ic),L 1 (Box.High.map ic),Zt cc,L 1 (cl.map Zj.c),.t .nil]] []
def Z6U:Ab:=AB (Zi 110 Tryz.f110)
def ZoE(a:Zc)(a1:Zj):Rs:=C 110 [Am a.c,Am a1.c] []
def ZoF(a:Zc)(a1:Z6):Rs:=C 63 [Am a.c,Am a1.c] []
def Sc(q:Zc)(b:Z6)(i:Int):Rs:=lp C [.blk 0,.seq ZxE,.fin 0 [.tmp 4]] [2,3,5] ZxA [.ptr 0 0,.ptr 1 0,I i] [Ae q.c,Ae b.c]
def ZxF:List Fr:=[.blk 2,.seq ZxD,.fin 0 [.tmp 4]]
def Mb(b:Z6)(k:Int):Rs:=lp C ZxF [3,6] ZoD [.ptr 0 0,I k] [Ae b.c]
def Mc(b:Z6)(k i:Int):Rs:=lp C (.blk 4::.blk 3::.seq ZxC::.loop [3,6] ZoD::ZxF) [3,6,7] ZxB [.ptr 0 0,I k,I i] [Ae b.c]
def ZxG:Ag (Zi 23 Tryz.f23):={ m:=_ }
def ZxH:Za:=Aa ZxG 21
def ZxI:Za:=Aa ZxG 33
def Z6V:Ab:=Zs ZxG 21 ZxH 33 ZxI
def ZoG(a:Zf)(a1:Zc)(a2:ZL)(a3 a4 a5:Int):Rs:=C 23 [Am a.c,Am a1.c,Am a2.c,I a3,I a4,I a5] []
def ZxJ:=lp C [.blk 0,.seq ZxI,.fin 0 [.cellO 12 (some 8) [none,none,none,some (1,0),some (1,0),some (1,0),some (1,0),some (1,0)],.tmpO 13 [none]]] [5,6,7,8,12,16,17,18] ZxH
def ZxK(m:Zf)(q:Zc)(s:ZL)(cd cp cu:Int)(cl:WL)(cc cn co:Int)(x x1:WL)(x2:List Zj)(cv k:Int):Rs:=ZxJ [I cv,.ptr 0 0,.ptr 1 0,.ptr 2 0,.ptr 3 0,.own 4,.ptr 5 0,I k] [Ae m.c,Ae q.c,Ae s.c,.box [I cd,I cp,I cu,.t .nil,.t .nil,.t .nil,.t .nil,.t .nil],Zo cl,.box [I cc,I cn,I co,.own 6,.own 7,.own 4,.own 8,.t .nil],Zo x,Zo x1,.arr 115 1 true (x2.map Zj.c)]
def iC(m:Zf)(q:Zc)(s:ZL)(cd cp cu:Int)(cl:WL)(cc cn co:Int)(x x1:WL)(x2:List Zj)(x3:XV)(cv k:Int):Rs:=ZxJ [I cv,.ptr 0 0,.ptr 1 0,.ptr 2 0,.ptr 3 0,.own 4,.ptr 5 0,I k] [Ae m.c,Ae q.c,Ae s.c,.box [I cd,I cp,I cu,.t .nil,.t .nil,.t .nil,.t .nil,.t .nil],Zo cl,.box [I cc,I cn,I co,.own 6,.own 7,.own 4,.own 8,.own 9],Zo x,Zo x1,.arr 115 1 true (x2.map Zj.c),Xc x3]
def Z6W:Ab:=AB (Zi 6 Tryz.f6)
def iD(a:Zf)(a1:Zr)(a2:Zc)(a3 a4:Int):Rs:=C 6 [Am a.c,Am a1.c,Am a2.c,I a3,I a4] []
def ZxL:Ag (Zi 8 Tryz.f8):={ m:=_ }
def ZxM:Za:=Aa ZxL 9
def ZxN:Za:=Aa ZxL 21
def Z6X:Ab:=Zs ZxL 9 ZxM 21 ZxN
def Md(a:Z6):Rs:=C 8 [Am a.c] []
def iE(n:Int)(x:XV)(x1 x2:Int):Rs:=lp C [.blk 0,.seq ZxN,.fin 0 [.tmp 2]] [3,7,8,9] ZxM [I n,L 1 (x.map AA),I x1,I x2] []
def Z6Y:Ab:=AB (Zi 24 Tryz.f24)
def ZW(a a1 a2:Int):Rs:=C 24 [I a,I a1,I a2] []
def ZxO:Ag (Zi 64 Tryz.f64):={ m:=_ }
def ZxP:Za:=Aa ZxO 5
def ZxQ:Za:=Aa ZxO 13
def Z6Z:Ab:=Zs ZxO 5 ZxP 13 ZxQ
def F3(a a1:Int):Rs:=C 64 [I a,I a1] []
def iF(a b:Int):Rs:=lp C [.blk 0,.seq ZxQ,.fin 0 [.tmp 4]] [0,1] ZxP [I a,I b] []
def Z7a:Ab:=AB (Zi 31 Tryz.f31)
def Jl(a:Zb):Rs:=C 31 [Am a.c] []
def Z7b:Ag (Zi 25 Tryz.f25):={ m:=_ }
def Z7c:Za:=Aa Z7b 16
def Z7d:Ab:=VY Z7b 16 Z7c
def iG(a a1:Int):Rs:=C 25 [I a,I a1] []
def Z7e:Ab:=AB (Zi 7 Tryz.f7)
def iH(a:Z6):Rs:=C 7 [Am a.c] []
def ZxR:Ag (Zi 9 Tryz.f9):={ m:=_ }
def ZxS:Za:=Aa ZxR 9
def ZxT:Za:=Aa ZxR 19
def Z7f:Ab:=Zs ZxR 9 ZxS 19 ZxT
def iI(a:Z6):Rs:=C 9 [Am a.c] []
def iJ(b:Z6)(n i:Int):Rs:=lp C [.blk 0,.seq ZxT,.fin 0 [.tmp 2]] [1,3,4] ZxS [.ptr 0 0,I n,I i] [Ae b.c]
def Z7g:Ab:=AB (Zi 12 Tryz.f12)
def iK(a:WL)(a1:Int):Rs:=C 12 [L 1 (a.map (kc .u8)),I a1] []
def Z7h:Ab:=AB (Zi 111 Tryz.f111)
def Jm(x:Zf):Rs:=C 111 [.ptr 0 0] [Ae x.c]
def Z7i:Ab:=AB (Zi 155 Tryz.f155)
def ZoH(x:Zz):Rs:=C 155 [.ptr 0 0] [Ae x.c]
def iL:Ag (Zi 112 Tryz.f112):={ m:=_ }
def ZxU:Za:=Aa iL 7
def ZxV:Za:=Aa iL 30
def ZxW:Za:=Aa iL 48
def ZxX:Za:=AD iL 25 5 ZxV 23 ZxW
def Z7j:Ab:=Zs iL 7 ZxU 25 ZxX
def WT(a:Zz):Rs:=C 112 [Am a.c] []
def Jn(o:Zz)(x x1:Int):Rs:=lp C [.blk 0,.seq ZxX,.fin 0 [.tmp 2]] [1,7,8,9] ZxU [.ptr 0 0,.bsl 1 5,I x,I x1] [Ae o.c,.box [.ptr 0 0,.ptr 0 1,.ptr 0 2,.ptr 0 3,.ptr 0 4]]
def Me(o:Zz)(x:List Z9)(x1 x2:Int):Rs:=lp C [.blk 2,.seq ZxW,.fin 0 [.tmp 2]] [1,20,21,22] ZxV [.ptr 0 0,L 2 (x.map Z9.c),I x1,I x2] [Ae o.c]
def Mf:Ag (Zi 114 Tryz.f114):={ m:=_ }
def ZxY:Za:=Aa Mf 33
def ZxZ:Za:=Aa Mf 43
def ZoI:Za:=AD Mf 21 12 ZxY 22 ZxZ
def Zya:Za:=Aa Mf 44
def ZoJ:Za:=AD Mf 9 12 ZoI 35 Zya
def Zyb:Za:=Aa Mf 45
def Z7k:Ab:=Zs Mf 9 ZoJ 45 Zyb
def UR:Rs:=C 114 [] []
def Zyc:List Fr:=[.blk 0,.seq Zyb,.fin 0 [.tmp 0]]
def Sd(c:XV)(a:Int):Rs:=lp C Zyc [1,2] ZoJ [.own 0,I a] [Xc c]
def Zyd:List Fr:=.blk 2::.blk 1::.seq Zya::.loop [1,2] ZoJ::Zyc
def Mg(c:XV)(a b:Int):Rs:=lp C Zyd [1,2,3] ZoI [.own 0,I a,I b] [Xc c]
def Se(cc:XV)(a b c:Int):Rs:=lp C (.blk 4::.blk 3::.seq ZxZ::.loop [1,2,3] ZoI::Zyd) [1,2,3,4] ZxY [.own 0,I a,I b,I c] [Xc cc]
def Z7l:Ab:=AB (Zi 156 Tryz.f156)
def iN(a:WL):Rs:=C 156 [Zt a] []
def Z7m:Ab:=AB (Zi 158 Tryz.f158)
def F4(a:Int):Rs:=C 158 [I a] []
def ZoK:Ag (Zi 157 Tryz.f157):={ m:=_ }
def Z7n:Za:=Aa ZoK 24
def Zye:Za:=Av ZoK 9 15 Z7n
def Zyf:Za:=Aa ZoK 25
def Z7o:Ab:=Zs ZoK 9 Zye 25 Zyf
def Sf(a:Zz)(a1 a2 a3:Int):Rs:=C 157 [Am a.c,I a1,I a2,I a3] []
def Mh(cd cc n:Int)(x:List Z9)(x1 x2:Int):Rs:=lp C [.blk 0,.seq Zyf,.fin 0 [.tmp 8]] [1,2,9,37,38,39] Zye [I cd,I cc,I n,L 2 (x.map Z9.c),I x1,I x2] []
def Z7p:Ab:=AB (Zi 115 Tryz.f115)
def KA(a:Zz)(a1:WL):Rs:=C 115 [Am a.c,Zt a1] []
def Sg:Ag (Zi 113 Tryz.f113):={ m:=_ }
def Z7q:Za:=Aa Sg 56
def Zyg:Za:=Av Sg 29 27 Z7q
def Zyh:Za:=Aa Sg 57
def ZoL:Za:=AD Sg 15 14 Zyg 42 Zyh
def Zyi:Za:=Aa Sg 58
def Z7r:Ab:=Zs Sg 15 ZoL 58 Zyi
def WC(a:Zz):Rs:=C 113 [Am a.c] []
def Zyj:List Fr:=[.blk 0,.seq Zyi,.fin 0 [.tmp 2,.tmp 3,.tmp 4]]
def Hy(o:Zz)(x:XV)(x1 x2:Int):Rs:=lp C Zyj [1,12,13,14] ZoL [.ptr 0 0,.own 1,I x1,I x2] [Ae o.c,Xc x]
def F5(o:Zz)(x:XV)(t:WL)(x1 x2 x3 x4:Int):Rs:=lp C (.blk 2::.blk 1::.seq Zyh::.loop [1,12,13,14] ZoL::Zyj) [1,6,12,13,14,19,20] Zyg [.ptr 0 0,Zt t,.own 1,I x1,I x2,I x3,I x4] [Ae o.c,Xc x]
def iO:Ag (Zi 67 Tryz.f67):={ m:=_ }
def Zyk:Za:=Aa iO 41
def Zyl:Za:=Aa iO 59
def ZoM:Za:=AD iO 7 34 Zyk 52 Zyl
def Zym:Za:=Aa iO 60
def Z7s:Ab:=Zs iO 7 ZoM 60 Zym
def Sh(a:Zf):Rs:=C 67 [Am a.c] []
def F6:List Fr:=[.blk 0,.seq Zym,.fin 0 [.tmp 2,.tmp 3,.tmp 4]]
def XM(x:Zf)(x1 x2:Int):Rs:=lp C F6 [13,14,15] ZoM [.bsl 0 5,I x1,I x2] [.box [.ptr 1 0,.ptr 1 6,.ptr 1 12,.ptr 1 18,.ptr 1 24],Ae x.c]
def KB:=lp C (.blk 2::.blk 1::.seq Zyl::.loop [13,14,15] ZoM::F6) [6,7,13,14,15,40,41,42] Zyk
def Hz(o:Zf)(x:XV)(cc x1 x2 x3 x4:Int):Rs:=KB [.ptr 0 0,I cc,.bsl 1 5,I x1,I x2,.own 2,I x3,I x4] [Ae o.c,.box [.ptr 0 0,.ptr 0 6,.ptr 0 12,.ptr 0 18,.ptr 0 24],Xc x]
def HA(o:Zf)(x:XV)(cc x1 x2 x3 x4:Int):Rs:=KB [.ptr 0 6,I cc,.bsl 1 5,I x1,I x2,.own 2,I x3,I x4] [Ae o.c,.box [.ptr 0 0,.ptr 0 6,.ptr 0 12,.ptr 0 18,.ptr 0 24],Xc x]
def HB(o:Zf)(x:XV)(cc x1 x2 x3 x4:Int):Rs:=KB [.ptr 0 12,I cc,.bsl 1 5,I x1,I x2,.own 2,I x3,I x4] [Ae o.c,.box [.ptr 0 0,.ptr 0 6,.ptr 0 12,.ptr 0 18,.ptr 0 24],Xc x]
def HC(o:Zf)(x:XV)(cc x1 x2 x3 x4:Int):Rs:=KB [.ptr 0 18,I cc,.bsl 1 5,I x1,I x2,.own 2,I x3,I x4] [Ae o.c,.box [.ptr 0 0,.ptr 0 6,.ptr 0 12,.ptr 0 18,.ptr 0 24],Xc x]
def HD(o:Zf)(x:XV)(cc x1 x2 x3 x4:Int):Rs:=KB [.ptr 0 24,I cc,.bsl 1 5,I x1,I x2,.own 2,I x3,I x4] [Ae o.c,.box [.ptr 0 0,.ptr 0 6,.ptr 0 12,.ptr 0 18,.ptr 0 24],Xc x]
def Z7t:Ab:=AB (Zi 27 Tryz.f27)
def iP(a:Zf):Rs:=C 27 [Am a.c] []
def Z7u:Ab:=AB (Zi 116 Tryz.f116)
def ZoN(a:V5):Rs:=C 116 [.t (.str a)] []
def Zyn:Ag (Zi 159 Tryz.f159):={ m:=_ }
def Zyo:Za:=Aa Zyn 7
def Zyp:Za:=Aa Zyn 25
def Z7v:Ab:=Zs Zyn 7 Zyo 25 Zyp
def ZoO(a:WL)(a1:Int):Rs:=C 159 [Zt a,I a1] []
def iQ(s:WL)(v x x1:Int):Rs:=lp C [.blk 0,.seq Zyp,.fin 0 [.tmp 4]] [0,1,7,8] Zyo [Zt s,I v,I x,I x1] []
def Z7w:Ab:=AB (Zi 117 Tryz.f117)
def Jo(a:WL)(a1:Int):Rs:=C 117 [Zt a,I a1] []
def Zyq:Ag (Zi 160 Tryz.f160):={ m:=_ }
def Zyr:Za:=Aa Zyq 7
def Zys:Za:=Aa Zyq 25
def Z7x:Ab:=Zs Zyq 7 Zyr 25 Zys
def ZoP(a:List Bool)(a1:Bool):Rs:=C 160 [L 1 (a.map bc),Bo a1] []
def iR(s:List Bool)(v:Bool)(x x1:Int):Rs:=lp C [.blk 0,.seq Zys,.fin 0 [.tmp 4]] [0,1,7,8] Zyr [L 1 (s.map bc),Bo v,I x,I x1] []
def Z7y:Ab:=AB (Zi 118 Tryz.f118)
def ZoQ(a:List Bool)(a1:Bool):Rs:=C 118 [L 1 (a.map bc),Bo a1] []
def iS:Ag (Zi 68 Tryz.f68):={ m:=_ }
def Zyt:Za:=Aa iS 39
def Zyu:Za:=Aa iS 59
def ZoR:Za:=AD iS 17 22 Zyt 42 Zyu
def Zyv:Za:=Aa iS 60
def ZoS:Ab:=Zs iS 17 ZoR 60 Zyv
def Jp(a:Zc):Rs:=C 68 [Am a.c] []
def ZoT:List Fr:=[.blk 0,.seq Zyv,.fin 0 [.tmp 2]]
def Mi(q:Zc)(cc:List Bool)(x:List Zd)(x1 x2:Int):Rs:=lp C ZoT [1,3,23,24,25] ZoR [.ptr 0 0,.own 1,L 2 (x.map Zd.c),I x1,I x2] [Ae q.c,.arr 4 1 true (cc.map bc)]
def iT(q:Zc)(cc:List Bool)(a:Zd)(x:List Zd)(x1 x2:Int)(x3:WL)(x4 x5:Int):Rs:=lp C (.blk 2::.blk 1::.seq Zyu::.loop [1,3,23,24,25] ZoR::ZoT) [1,3,5,23,24,25,41,42,43] Zyt [.ptr 0 0,.own 1,.ptr 2 0,L 2 (x.map Zd.c),I x1,I x2,Zt x3,I x4,I x5] [Ae q.c,.arr 4 1 true (cc.map bc),Ae a.c]
def Zyw:Ag (Zi 121 Tryz.f121):={ m:=_ }
def Zyx:Za:=Aa Zyw 7
def Zyy:Za:=Aa Zyw 25
def Z7z:Ab:=Zs Zyw 7 Zyx 25 Zyy
def HE(a:WL):Rs:=C 121 [Zt a] []
def iU(c x:WL)(x1 x2:Int):Rs:=lp C [.blk 0,.seq Zyy,.fin 0 [.tmp 2]] [0,5,6,7] Zyx [Zt c,Zt x,I x1,I x2] []
def Zyz:Ag (Zi 74 Tryz.f74):={ m:=_ }
def Zy0:Za:=Aa Zyz 15
def Zy1:Za:=Aa Zyz 33
def Z70:Ab:=Zs Zyz 15 Zy0 33 Zy1
def Mj(a a1:WL):Rs:=C 74 [Zt a,Zt a1] []
def iV(a b:WL)(x x1:Int):Rs:=lp C [.blk 0,.seq Zy1,.fin 0 [.tmp 4]] [0,1,12,13] Zy0 [Zt a,Zt b,I x,I x1] []
def Z71:Ab:=AB (Zi 73 Tryz.f73)
def Si(a:Box):Rs:=C 73 [Am a.c] []
def Zy2:Ag (Zi 119 Tryz.f119):={ m:=_ }
def Zy3:Za:=Aa Zy2 9
def Zy4:Za:=Aa Zy2 21
def Z72:Ab:=Zs Zy2 9 Zy3 21 Zy4
def ZoU(a:Box):Rs:=C 119 [Am a.c] []
def iW(b:Box)(n x x1:Int):Rs:=lp C [.blk 0,.seq Zy4,.fin 0 [.tmp 2]] [1,3,7,8] Zy3 [.ptr 0 0,I n,I x,I x1] [Ae b.c]
def Z73:Ab:=AB (Zi 69 Tryz.f69)
def iX(a:Box):Rs:=C 69 [Am a.c] []
def Z74:Ab:=AB (Zi 70 Tryz.f70)
def HF(a:Zc):Rs:=C 70 [Am a.c] []
def iY:Ag (Zi 189 Tryz.f189):={ m:=_ }
def Zy5:Za:=Aa iY 21
def Zy6:Za:=Aa iY 39
def ZoV:Za:=AD iY 9 12 Zy5 30 Zy6
def Zy7:Za:=Aa iY 40
def Z75:Ab:=Zs iY 9 ZoV 40 Zy7
def Sj(a:Zc)(a1:Int):Rs:=C 189 [Am a.c,I a1] []
def Zy8:List Fr:=[.blk 0,.seq Zy7,.fin 0 [.tmp 4]]
def Mk(q:Zc)(cd:WL)(cc v:Int):Rs:=lp C Zy8 [1,2,5,6] ZoV [I cc,.ptr 0 0,.own 1,I v] [Ae q.c,Zo cd]
def iZ(q:Zc)(cd:WL)(cc v:Int)(x:List Zd)(x1 x2:Int):Rs:=lp C (.blk 2::.blk 1::.seq Zy6::.loop [1,2,5,6] ZoV::Zy8) [1,2,5,6,17,18,19] Zy5 [I cc,.ptr 0 0,.own 1,I v,L 2 (x.map Zd.c),I x1,I x2] [Ae q.c,Zo cd]
def ZoW:Ag (Zi 190 Tryz.f190):={ m:=_ }
def Z76:Za:=Aa ZoW 24
def Zy9:Za:=Av ZoW 9 15 Z76
def ZyA:Za:=Aa ZoW 25
def Z77:Ab:=Zs ZoW 9 Zy9 25 ZyA
def ZoX(a a1:WL):Rs:=C 190 [Zt a,Zt a1] []
def Sk(c b x:WL)(x1 x2:Int):Rs:=lp C [.blk 0,.seq ZyA,.fin 0 [.tmp 4]] [1,5,9,10,11] Zy9 [Zt b,.own 0,Zt x,I x1,I x2] [Zo c]
end
