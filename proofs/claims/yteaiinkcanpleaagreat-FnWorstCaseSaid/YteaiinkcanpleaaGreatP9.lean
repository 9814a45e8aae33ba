/-
  Parts of the proofs for this seat: D3.
-/
import Derived.Test.YteaiinkcanpleaaGreatP6
set_option linter.all false
set_option maxRecDepth 100000
set_option maxHeartbeats 4000000
set_option cbv.maxSteps 9999999
namespace Go.Proofs.YteaiinkcanpleaaGreat
open Go.AM
noncomputable section
def zC:Af (Zj 56 Tryz.f56):={ m:=_ }
def Z77:Za:=Aa zC 30
def ZwZ:Za:=As zC 17 13 Z77
def Zxa:Za:=Aa zC 31
def Z78:Ab:=Zn zC 17 ZwZ 31 Zxa
def zD(a:Zc)(a1:Int):Rs:=C 56 [Am a.c,I a1] []
def LP(q:Zc)(cd:WL)(cc m:Int):Rs:=lp C [.blk 0,.seq Zxa,.fin 0 [.tmp 4]] [1,2,5,6] ZwZ [I cc,.ptr 0 0,.own 1,I m] [Ad q.c,Zm cd]
def RH:Af (Zj 25 Tryz.f25):={ m:=_ }
def Zxb:Za:=Aa RH 26
def Zxc:Za:=Aa RH 36
def Zxd:Za:=Aa RH 37
def zF:Za:=BL RH 11 15 Zxb 25 Zxc 26 Zxd
def Zxe:Za:=Aa RH 38
def Z79:Ab:=Zn RH 11 zF 38 Zxe
def Hw(a:Zc):Rs:=C 25 [Am a.c] []
def Zxf:List Fr:=[.blk 0,.seq Zxe,.fin 0 [.tmp 2]]
def Hx(q:Zc)(cd:List ZX)(cc:WL)(i:Int):Rs:=lp C Zxf [1,3,4,5] zF [.ptr 0 0,.own 1,.own 2,I i] [Ad q.c,Js cd,Zm cc]
def Zxg:=lp C (.blk 2::.seq Zxc::.blk 1::.seq Zxd::.loop [1,3,4,5] zF::Zxf) [1,3,4,5,6,7] Zxb
def zG(q:Zc)(cl:List ZX)(cc:WL)(cd:Int)(x:WL)(i k:Int):Rs:=Zxg [.ptr 0 0,.own 1,.own 2,I i,.ptr 3 0,I k] [Ad q.c,Js cl,Zm cc,.box [I cd,.own 4,.t .nil],Zm x]
def fJ(q:Zc)(cl:List ZX)(cc:WL)(cd:Int)(x:WL)(x1:WA)(i k:Int):Rs:=Zxg [.ptr 0 0,.own 1,.own 2,I i,.ptr 3 0,I k] [Ad q.c,Js cl,Zm cc,.box [I cd,.own 4,.own 5],Zm x,ZZ x1]
def Zxh:Af (Zj 10 Tryz.f10):={ m:=_ }
def Zxi:Za:=Aa Zxh 17
def Zxj:Za:=Aa Zxh 31
def Z7A:Ab:=Zn Zxh 17 Zxi 31 Zxj
def Qn(a:Box)(a1:Int):Rs:=C 10 [Am a.c,I a1] []
def fK(b:Box)(cd:WL)(cc i:Int):Rs:=lp C [.blk 0,.seq Zxj,.fin 0 [.tmp 4,.tmp 5]] [1,2,6,7] Zxi [I cc,.ptr 0 0,.own 1,I i] [Ad b.c,Zm cd]
def Zxk:Af (Zj 28 Tryz.f28):={ m:=_ }
def Zxl:Za:=Aa Zxk 9
def Zxm:Za:=Aa Zxk 19
def Z7B:Ab:=Zn Zxk 9 Zxl 19 Zxm
def Kk(a:WL):Rs:=C 28 [Zr a] []
def fL(c l:WL)(i:Int):Rs:=lp C [.blk 0,.seq Zxm,.fin 0 [.tmp 2]] [0,3,4] Zxl [Zr l,.own 0,I i] [Zm c]
def Z7C:Ab:=AD (Zj 61 Tryz.f61)
def fN(a:Int):Rs:=C 61 [I a] []
def zH:Af (Zj 58 Tryz.f58):={ m:=_ }
def Z7D:Za:=Aa zH 22
def Zxn:Za:=As zH 9 13 Z7D
def Zxo:Za:=Aa zH 23
def Z7E:Ab:=Zn zH 9 Zxn 23 Zxo
def F1(a:List Zd)(a1:Int):Rs:=C 58 [Ub a,I a1] []
def RI(l:List Zd)(cc c i:Int):Rs:=lp C [.blk 0,.seq Zxo,.fin 0 [.tmp 4]] [0,1,5,6] Zxn [Ub l,I cc,I c,I i] []
def Z7F:Ab:=AD (Zj 143 Tryz.f143)
def Hy(a a1:Ze)(a2 a3:Int):Rs:=C 143 [Am a.c,Am a1.c,I a2,I a3] []
def Z7G:Ab:=AD (Zj 99 Tryz.f99)
def LQ(x:WL)(x1:List Zd)(a:Zf)(a1 a2:Zd)(a3 a4 a5:Int):Rs:=C 99 [Am a.c,.own 0,.own 1,Am a1.c,Am a2.c,I a3,I a4,I a5] [Zm x,FD x1]
def Zxp:Af (Zj 100 Tryz.f100):={ m:=_ }
def Zxq:Za:=Aa Zxp 7
def Zxr:Za:=Aa Zxp 23
def Z7H:Ab:=Zn Zxp 7 Zxq 23 Zxr
def RJ(a:List Zd)(a1 a2:Int):Rs:=C 100 [Ub a,I a1,I a2] []
def fO(l:List Zd)(cc c i:Int):Rs:=lp C [.blk 0,.seq Zxr,.fin 0 [.tmp 6]] [0,1,2,7] Zxq [Ub l,I cc,I c,I i] []
def Z7I:Ab:=AD (Zj 144 Tryz.f144)
def fP(a:Ze)(a1:Int):Rs:=C 144 [Am a.c,I a1] []
def Z7J:Ab:=AD (Zj 101 Tryz.f101)
def fQ(x:WL)(x1:List Zd)(x2:List Zk)(a:Zf)(a1:Zd)(cl cc cd a2 a3 a4:Int):Rs:=C 99 [Am a.c,.own 0,.own 1,Am a1.c,.agg [I cl,I cc,I cd,.own 2],I a2,I a3,I a4] [Zm x,FD x1,I6 x2]
def fR(x:WL)(x1:List Zd)(x2:List Zk)(a:Zf)(cl cc cd:Int)(a1:Zd)(a2 a3 a4:Int):Rs:=C 99 [Am a.c,.own 0,.own 1,.agg [I cl,I cc,I cd,.own 2],Am a1.c,I a2,I a3,I a4] [Zm x,FD x1,I6 x2]
def fS(x:WL)(x1:List Zd)(x2 x3:List Zk)(a:Zf)(cp cn co cl cc cd a1 a2 a3:Int):Rs:=C 99 [Am a.c,.own 0,.own 1,.agg [I cp,I cn,I co,.own 2],.agg [I cl,I cc,I cd,.own 3],I a1,I a2,I a3] [Zm x,FD x1,I6 x2,I6 x3]
def KJ:Af (Zj 62 Tryz.f62):={ m:=_ }
def Z7K:Za:=Aa KJ 47
def Zxs:Za:=As KJ 32 15 Z7K
def Zxt:Za:=Aa KJ 52
def Zxu:Za:=As KJ 48 4 Zxt
def zI:Za:=Aa KJ 64
def fT:Za:=BL KJ 9 23 Zxs 39 Zxu 55 zI
def Z7L:Za:=Aa KJ 85
def Zxv:Za:=As KJ 72 13 Z7L
def Zxw:Za:=Aa KJ 86
def fU:Za:=AG KJ 65 7 Zxv 21 Zxw
def Z7M:Ab:=Zn KJ 9 fT 65 fU
def RK(x:WL)(fr:Bool)(x1:List Zd)(a:Zf)(a1 a2:Int):Rs:=C 101 [Am a.c,.own 0,.own 1,I a1,I a2] [Zm x,.arr 77 4 fr (x1.map Zd.c)]
def zJ(x:WL)(fr:Bool)(x1:List Zd)(a:Zf)(a1:ZX):Rs:=C 62 [Am a.c,.own 0,.own 1,Am a1.c] [Zm x,.arr 77 4 fr (x1.map Zd.c)]
def RL(cc:WL)(fr:Bool)(l:List Zd)(m:Zf)(x:ZX)(cd:List Zd)(k:Int):Rs:=EvL C [.blk 0,.seq fU,.fin 2 [.tmp 8]] [1,2,4,7,9,10] fT ⟨[(1,.own 0),(2,.own 1),(4,.ptr 2 0),(7,.ptr 3 0),(9,.own 4),(10,I k)],[[(0,.own 0),(1,.own 1)]],[Zm cc,.arr 77 4 fr (l.map Zd.c),Ad m.c,Ad x.c,FD cd]⟩
def RM(cd:WL)(fr:Bool)(l:List Zd)(m:Zf)(x:ZX)(cn:List Zd)(b:Zd)(k cl cc o:Int):Rs:=EvL C [.blk 2,.seq Zxu,.blk 1,.seq zI,.loop [1,2,4,7,9,10] fT,.blk 0,.seq fU,.fin 2 [.tmp 8]] [1,2,4,7,9,10,11,12,14,15] Zxs ⟨[(1,.own 0),(2,.own 1),(4,.ptr 2 0),(7,.ptr 3 0),(9,.own 4),(10,I k),(11,I cl),(12,I cc),(14,.ptr 5 0),(15,I o)],[[(0,.own 0),(1,.own 1)]],[Zm cd,.arr 77 4 fr (l.map Zd.c),Ad m.c,Ad x.c,FD cn,Ad b.c]⟩
def LR(cc:List Zd)(fr:Bool)(cl:List Zd)(x:WL)(cd:Bool)(x1:List Zd)(o:Int):Rs:=EvL C [.blk 6,.seq Zxw,.fin 2 [.tmp 8]] [9,19,20] Zxv ⟨[(9,.own 0),(19,.own 1),(20,I o)],[[(0,.own 2),(1,.own 3)]],[FD cc,.arr 77 4 fr (cl.map Zd.c),Zm x,.arr 77 4 cd (x1.map Zd.c)]⟩
def F2(cd:WL)(fr:Bool)(l:List Zd)(m:Zf)(x:ZX)(cn:List Zd)(k cl cc e:Int):Rs:=EvL C [.blk 4,.blk 1,.seq zI,.loop [1,2,4,7,9,10] fT,.blk 0,.seq fU,.fin 2 [.tmp 8]] [1,2,4,7,9,10,11,12,17] Zxt ⟨[(1,.own 0),(2,.own 1),(4,.ptr 2 0),(7,.ptr 3 0),(9,.own 4),(10,I k),(11,I cl),(12,I cc),(17,I e)],[[(0,.own 0),(1,.own 1)]],[Zm cd,.arr 77 4 fr (l.map Zd.c),Ad m.c,Ad x.c,FD cn]⟩
def zK:Af (Zj 27 Tryz.f27):={ m:=_ }
def Z7N:Za:=Aa zK 30
def Zxx:Za:=As zK 9 21 Z7N
def Zxy:Za:=Aa zK 31
def Z7O:Ab:=Zn zK 9 Zxx 31 Zxy
def J2(x:List ZX)(x1:WL)(a:Zf)(a1:Zc):Rs:=C 27 [Am a.c,Am a1.c,.own 0,.own 1] [Js x,Zm x1]
def RN(cc:List ZX)(cd:WL)(m:Zf)(q:Zc)(fr:Bool)(cl:List Zd)(i:Int):Rs:=EvL C [.blk 0,.seq Zxy,.fin 2 [.tmp 8]] [2,3,4,5,9,10] Zxx ⟨[(2,.own 0),(3,.own 1),(4,.ptr 2 0),(5,.ptr 3 0),(9,.own 4),(10,I i)],[[(0,.own 0),(1,.own 1)]],[Js cc,Zm cd,Ad m.c,Ad q.c,.arr 77 4 fr (cl.map Zd.c)]⟩
def Z7P:Ab:=AD (Zj 26 Tryz.f26)
def Us(a:List Zd)(a1:Int):Rs:=C 26 [Ub a,I a1] []
def Zxz:Af (Zj 119 Tryz.f119):={ m:=_ }
def Zx0:Za:=Aa Zxz 7
def Zx1:Za:=Aa Zxz 23
def Z7Q:Ab:=Zn Zxz 7 Zx0 23 Zx1
def Z7R:Rs:=C 119 [.t .nil,.agg [.t .nil]] []
def fV(a:Ze):Rs:=C 119 [.t .nil,Am a.c] []
def Zx2:=lp C [.blk 0,.seq Zx1,.fin 0 [.tmp 4]] [0,3,5] Zx0
def Zx3(p:Ze)(i:Int):Rs:=Zx2 [.t .nil,.ptr 0 0,I i] [Ad p.c]
def Zx4:Af (Zj 164 Tryz.f164):={ m:=_ }
def Zx5:Za:=Aa Zx4 15
def Zx6:Za:=Aa Zx4 31
def Z7S:Ab:=Zn Zx4 15 Zx5 31 Zx6
def Z7T(a:List Ze):Rs:=C 119 [L 1 (a.map Ze.c),.agg [.t .nil]] []
def zL(a a1:Ze):Rs:=C 164 [Am a.c,Am a1.c] []
def LS(a b:Ze)(i:Int):Rs:=lp C [.blk 0,.seq Zx6,.fin 0 [.tmp 4]] [2,3,5] Zx5 [.ptr 0 0,.ptr 1 0,I i] [Ad a.c,Ad b.c]
def fW(a:List Ze)(a1:Ze):Rs:=C 119 [L 1 (a.map Ze.c),Am a1.c] []
def fX(p:Ze)(l:List Ze)(i:Int):Rs:=Zx2 [L 1 (l.map Ze.c),.ptr 0 0,I i] [Ad p.c]
def zN:Af (Zj 73 Tryz.f73):={ m:=_ }
def Z7U:Za:=Aa zN 45
def Zx7:Za:=As zN 23 22 Z7U
def Zx8:Za:=Aa zN 49
def Z7V:Ab:=Zn zN 23 Zx7 49 Zx8
def fY(a:Zf)(a1:Zc)(a2:Box):Rs:=C 73 [Am a.c,Am a1.c,Am a2.c] []
def zO:=lp C [.blk 0,.seq Zx8,.fin 0 [.cellO 6 (some 5) [some (1,0),some (1,0),some (1,0),some (1,0),some (1,0)],.tmpO 7 [none]]] [3,4,5,6,8,9,10,11,12] Zx7
def zP(m:Zf)(q:Zc)(b:Box)(x x1:WL)(cc:List ZX)(n cd i:Int):Rs:=zO [.ptr 0 0,.ptr 1 0,.ptr 2 0,.ptr 3 0,I n,.ptr 4 0,.own 7,I cd,I i] [Ad m.c,Ad q.c,Ad b.c,.box [.t .nil,.t .nil,.t .nil,.t .nil,.t .nil],.box [.own 5,.own 6,.t .nil,.t .nil,.t .nil],Zm x,Zm x1,Js cc]
def RO(m:Zf)(q:Zc)(b:Box)(x x1 x2 x3:WL)(x4:List Ze)(cc:List ZX)(n cd i:Int):Rs:=zO [.ptr 0 0,.ptr 1 0,.ptr 2 0,.ptr 3 0,I n,.ptr 4 0,.own 10,I cd,I i] [Ad m.c,Ad q.c,Ad b.c,.box [.t .nil,.t .nil,.t .nil,.t .nil,.t .nil],.box [.own 5,.own 6,.own 7,.own 8,.own 9],Zm x,Zm x1,Zm x2,Zm x3,.arr 75 1 true (x4.map Ze.c),Js cc]
def Zx9(m:Zf)(q:Zc)(b:Box)(x x1 x2 x3:WL)(cc:List ZX)(n cd i:Int):Rs:=zO [.ptr 0 0,.ptr 1 0,.ptr 2 0,.ptr 3 0,I n,.ptr 4 0,.own 9,I cd,I i] [Ad m.c,Ad q.c,Ad b.c,.box [.t .nil,.t .nil,.t .nil,.t .nil,.t .nil],.box [.own 5,.own 6,.own 7,.own 8,.t .nil],Zm x,Zm x1,Zm x2,Zm x3,Js cc]
def ZxA:Af (Zj 122 Tryz.f122):={ m:=_ }
def ZxB:Za:=Aa ZxA 17
def ZxC:Za:=Aa ZxA 33
def Z7W:Ab:=Zn ZxA 17 ZxB 33 ZxC
def J3(a:ZY):Rs:=C 122 [Am a.c] []
def fZ(s:ZY)(n i:Int):Rs:=lp C [.blk 0,.seq ZxC,.fin 0 [.tmp 2]] [1,3,4] ZxB [.ptr 0 0,I n,I i] [Ad s.c]
def ZxD:Af (Zj 120 Tryz.f120):={ m:=_ }
def ZxE:Za:=Aa ZxD 19
def ZxF:Za:=Aa ZxD 31
def Z7X:Ab:=Zn ZxD 19 ZxE 31 ZxF
def gA(a:ZY):Rs:=C 120 [Am a.c] []
def gB(s:ZY)(lo hi i:Int):Rs:=lp C [.blk 0,.seq ZxF,.fin 0 [.tmp 2,.tmp 3]] [1,4,5,6] ZxE [.ptr 0 0,I lo,I hi,I i] [Ad s.c]
def ZxG:Af (Zj 121 Tryz.f121):={ m:=_ }
def ZxH:Za:=Aa ZxG 19
def ZxI:Za:=Aa ZxG 29
def Z7Y:Ab:=Zn ZxG 19 ZxH 29 ZxI
def gC(a a1 a2:Int):Rs:=C 121 [I a,I a1,I a2] []
def gF(cd:WL)(cc c b:Int):Rs:=lp C [.blk 0,.seq ZxI,.fin 0 [.tmp 6]] [1,2,7,8] ZxH [I cc,I c,.own 0,I b] [Zm cd]
def ZxJ:Af (Zj 123 Tryz.f123):={ m:=_ }
def ZxK:Za:=Aa ZxJ 9
def ZxL:Za:=Aa ZxJ 19
def Z7Z:Ab:=Zn ZxJ 9 ZxK 19 ZxL
def LT(a:List Ze):Rs:=C 123 [L 1 (a.map Ze.c)] []
def gG(cc l:List Ze)(i:Int):Rs:=lp C [.blk 0,.seq ZxL,.fin 0 [.tmp 2]] [0,3,4] ZxK [L 1 (l.map Ze.c),.own 0,I i] [.arr 75 1 true (cc.map Ze.c)]
def Z8a:Ab:=AD (Zj 13 Tryz.f13)
def LU(a:Box)(a1:WL):Rs:=C 13 [Am a.c,Zr a1] []
def ZxM:Af (Zj 208 Tryz.f208):={ m:=_ }
def ZxN:Za:=Aa ZxM 17
def ZxO:Za:=Aa ZxM 27
def Z8b:Ab:=Zn ZxM 17 ZxN 27 ZxO
def zQ(a:Box)(a1:WL):Rs:=C 208 [Am a.c,Zr a1] []
def gH(b:Box)(l:WL)(n i:Int):Rs:=lp C [.blk 0,.seq ZxO,.fin 0 [.tmp 4]] [1,2,5,6] ZxN [Zr l,.ptr 0 0,I n,I i] [Ad b.c]
def Z8c:Ab:=AD (Zj 167 Tryz.f167)
def zR(a:Box)(a1:WL)(a2:Int):Rs:=C 167 [Am a.c,Zr a1,I a2] []
def RP:Af (Zj 125 Tryz.f125):={ m:=_ }
def ZxP:Za:=Aa RP 40
def ZxQ:Za:=Aa RP 52
def ZxR:Za:=Aa RP 57
def zS:Za:=BL RP 17 23 ZxP 35 ZxQ 40 ZxR
def ZxS:Za:=Aa RP 58
def Z8d:Ab:=Zn RP 17 zS 58 ZxS
def LV(a:ZY)(a1:Int):Rs:=C 125 [Am a.c,I a1] []
def ZxT:List Fr:=[.blk 0,.seq ZxS,.fin 0 [.tmp 4]]
def Hz(s:ZY)(cd:WL)(cc i:Int):Rs:=lp C ZxT [1,2,5,6] zS [I cc,.ptr 0 0,.own 1,I i] [Ad s.c,Zm cd]
def gI(s:ZY)(cd l:WL)(cc i:Int)(cl:Bool)(k:Int):Rs:=lp C (.blk 2::.seq ZxQ::.blk 1::.seq ZxR::.loop [1,2,5,6] zS::ZxT) [1,2,5,6,7,9,10] ZxP [I cc,.ptr 0 0,.own 1,I i,.own 2,Bo cl,I k] [Ad s.c,Zm cd,Zm l]
def Z8e:Ab:=AD (Zj 66 Tryz.f66)
def KK(a a1:Int):Rs:=C 66 [I a,I a1] []
def zT:Af (Zj 165 Tryz.f165):={ m:=_ }
def Z8f:Za:=Aa zT 22
def ZxU:Za:=As zT 9 13 Z8f
def ZxV:Za:=Aa zT 23
def Z8g:Ab:=Zn zT 9 ZxU 23 ZxV
def gJ(a:ZY)(a1:WL):Rs:=C 165 [Am a.c,Zr a1] []
def RQ(s:ZY)(cc f:WL)(i:Int):Rs:=lp C [.blk 0,.seq ZxV,.fin 0 [.tmp 4]] [1,2,5,6] ZxU [Zr f,.ptr 0 0,.own 1,I i] [Ad s.c,Zm cc]
def Z8h:Ab:=AD (Zj 191 Tryz.f191)
def RR(a a1:Int):Rs:=C 191 [I a,I a1] []
def zU:Af (Zj 140 Tryz.f140):={ m:=_ }
def Z8i:Za:=Aa zU 91
def zV:Za:=As zU 77 14 Z8i
def zW:Za:=As zU 46 31 zV
def Z8j:Ab:=Ql zU 46 zW
def LW(a:Zc)(a1:Zk)(a2:List Zp)(a3:WL):Rs:=C 140 [Am a.c,Am a1.c,L 4 (a2.map Zp.c),Zr a3] []
def RS(q:Zc)(x:Zk)(x1:Zp)(cd:List Zp)(cc:WL)(n x2:Int)(x3:Bool):Rs:=Ev C [.blk 0,.seq (.seq (.reg [.o 213 (.build [.t (.int .i64 0),.t (.int .i64 0),.t (.int .i64 0),.t (.int .i64 0)] []),.n (.store 4 (.s 8) (.s 213)),.o 9 (.mov (.k (-1)))] [8,9]) (.ret)),.fin 0 [.cell 8 (some 4),.tmp 9]] zW ⟨[(2,L 4 (cd.map Zp.c)),(3,Zr cc),(4,.ptr 0 0),(5,.ptr 1 0),(8,.ptr 2 0),(10,I n),(18,I x2),(106,Bo x3)],[[]],[Ad q.c,Ad x.c,Ad x1.c]⟩
def RT(x:Zc)(x1:Zk)(x2 a b y:Zp)(v:Int):Rs:=Ev C [.blk 0,.seq (.seq (.reg [.o 213 (.build [.t (.int .i64 0),.t (.int .i64 0),.t (.int .i64 0),.t (.int .i64 0)] []),.n (.store 4 (.s 8) (.s 213)),.o 9 (.mov (.k (-1)))] [8,9]) (.ret)),.fin 0 [.cell 8 (some 4),.tmp 9]] zV ⟨[(5,.ptr 1 0),(8,.ptr 2 0),(11,.ptr 3 0),(12,.ptr 4 0),(13,I v),(14,.ptr 5 0)],[[]],[Ad x.c,Ad x1.c,Ad x2.c,Ad a.c,Ad b.c,Ad y.c]⟩
def LX(x:Zc)(x1:Zk)(x2 a b y:Zp)(v:Int)(x3:Bool):Rs:=Ev C [.blk 0,.seq (.seq (.reg [.o 213 (.build [.t (.int .i64 0),.t (.int .i64 0),.t (.int .i64 0),.t (.int .i64 0)] []),.n (.store 4 (.s 8) (.s 213)),.o 9 (.mov (.k (-1)))] [8,9]) (.ret)),.fin 0 [.cell 8 (some 4),.tmp 9]] zV ⟨[(5,.ptr 1 0),(8,.ptr 2 0),(11,.ptr 3 0),(12,.ptr 4 0),(13,I v),(14,.ptr 5 0),(182,Bo x3)],[[]],[Ad x.c,Ad x1.c,Ad x2.c,Ad a.c,Ad b.c,Ad y.c]⟩
def ZxW:Af (Zj 95 Tryz.f95):={ m:=_ }
def ZxX:Za:=Aa ZxW 19
def ZxY:Za:=Aa ZxW 41
def Z8k:Ab:=Zn ZxW 19 ZxX 41 ZxY
def RU(a:Zc)(a1:Ze):Rs:=C 95 [Am a.c,Am a1.c] []
def gK(q:Zc)(p:Ze)(cd:List Zp)(cc:WL)(i:Int):Rs:=lp C [.blk 0,.seq ZxY,.fin 0 [.tmp 4,.tmp 5]] [2,3,6,7,8] ZxX [.ptr 0 0,.ptr 1 0,.own 2,.own 3,I i] [Ad q.c,Ad p.c,I7 cd,Zm cc]
def ZxZ:Af (Zj 146 Tryz.f146):={ m:=_ }
def Zya:Za:=Aa ZxZ 15
def Zyb:Za:=Aa ZxZ 31
def Z8l:Ab:=Zn ZxZ 15 Zya 31 Zyb
def RW(a:Zc)(a1:WL):Rs:=C 146 [Am a.c,Zr a1] []
def gL(c:WL)(i:Int):Rs:=lp C [.blk 0,.seq Zyb,.fin 0 [.tmp 4]] [1,5] Zya [Zr c,I i] []
def Z8m:Ab:=AD (Zj 192 Tryz.f192)
def zX(a:Zf)(a1:Int)(a2:List Zp)(a3:Int)(a4:WL):Rs:=C 192 [Am a.c,I a1,L 4 (a2.map Zp.c),I a3,Zr a4] []
def Zyc:Af (Zj 145 Tryz.f145):={ m:=_ }
def Zyd:Za:=Aa Zyc 19
def Zye:Za:=Aa Zyc 29
def Z8n:Ab:=Zn Zyc 19 Zyd 29 Zye
def zY(a:Zf)(a1:Zc)(a2:Ze)(a3:WL):Rs:=C 145 [Am a.c,Am a1.c,Am a2.c,Zr a3] []
def gM(m:Zf)(p:Ze)(cl:WL)(cd:List Zp)(cc:WL)(i:Int):Rs:=lp C [.blk 0,.seq Zye,.fin 0 [.tmp 8]] [3,4,6,9,10,12] Zyd [Zr cc,.ptr 0 0,.ptr 1 0,.own 2,.own 3,I i] [Ad m.c,Ad p.c,Zm cl,I7 cd]
def Zyf:Af (Zj 102 Tryz.f102):={ m:=_ }
def Zyg:Za:=Aa Zyf 19
def Zyh:Za:=Aa Zyf 29
def Z8o:Ab:=Zn Zyf 19 Zyg 29 Zyh
def zZ(a:Zf)(a1:Zc)(a2:Ze)(a3:WL):Rs:=C 102 [Am a.c,Am a1.c,Am a2.c,Zr a3] []
def gN(l:WL)(n i:Int):Rs:=lp C [.blk 0,.seq Zyh,.fin 0 [.tmp 8]] [9,10,11] Zyg [.own 0,I n,I i] [Zm l]
def Z8p:Ab:=AD (Zj 65 Tryz.f65)
def HA(a:Zf)(a1:Zc)(a2:Ze)(a3:WL):Rs:=C 65 [Am a.c,Am a1.c,Am a2.c,Zr a3] []
def Z8q:Ab:=AD (Zj 207 Tryz.f207)
def gO(a:Zf)(a1:Zc)(a2:ZY)(a3 a4 a5:Int):Rs:=C 207 [Am a.c,Am a1.c,Am a2.c,I a3,I a4,I a5] []
def z0:Af (Zj 166 Tryz.f166):={ m:=_ }
def Z8r:Za:=Aa z0 22
def Zyi:Za:=As z0 9 13 Z8r
def Zyj:Za:=Aa z0 23
def Z8s:Ab:=Zn z0 9 Zyi 23 Zyj
def gP(a:Zf)(a1:Zc)(a2:ZY)(a3:Int)(a4:WL)(a5:Int):Rs:=C 166 [Am a.c,Am a1.c,Am a2.c,I a3,Zr a4,I a5] []
def RX(m:Zf)(q:Zc)(s:ZY)(cd:WL)(k:Int)(f:WL)(cc i:Int):Rs:=lp C [.blk 0,.seq Zyj,.fin 0 [.tmp 12]] [3,4,5,6,7,8,13,14] Zyi [I k,Zr f,I cc,.ptr 0 0,.ptr 1 0,.ptr 2 0,.own 3,I i] [Ad m.c,Ad q.c,Ad s.c,Zm cd]
def Kl:Af (Zj 124 Tryz.f124):={ m:=_ }
def Z8t:Za:=Aa Kl 26
def Zyk:Za:=As Kl 13 13 Z8t
def Z8u:Za:=Aa Kl 63
def Zyl:Za:=As Kl 46 17 Z8u
def Z8v:Za:=Aa Kl 94
def Zym:Za:=As Kl 81 13 Z8v
def Zyn:Za:=Aa Kl 95
def Zyo:Za:=AG Kl 64 17 Zym 31 Zyn
def gQ:Za:=AG Kl 30 16 Zyl 34 Zyo
def Zyp:Za:=Aa Kl 98
def Zyq:Za:=AG Kl 27 3 gQ 71 Zyp
def Z8w:Ab:=Zn Kl 13 Zyk 27 Zyq
def RY(a:Zf)(a1:Zc)(a2:ZY)(a3:WL)(a4:Int):Rs:=C 124 [Am a.c,Am a1.c,Am a2.c,Zr a3,I a4] []
def RZ(m:Zf)(q:Zc)(s:ZY)(cl l cd f:WL)(cc i:Int):Rs:=lp C [.blk 0,.seq Zyq,.fin 0 [.tmp 10]] [3,4,5,6,7,11,12,13,14] Zyk [Zr f,I cc,.ptr 0 0,.ptr 1 0,.ptr 2 0,.own 3,.own 4,.own 5,I i] [Ad m.c,Ad q.c,Ad s.c,Zm cl,Zm l,Zm cd]
def z6:List Fr:=[.blk 2,.seq Zyp,.fin 0 [.tmp 10]]
def HB(m:Zf)(q:Zc)(s:ZY)(cl l cd:WL)(cc:Int):Rs:=lp C z6 [4,5,6,7,11,12,13] gQ [I cc,.ptr 0 0,.ptr 1 0,.ptr 2 0,.own 3,.own 4,.own 5] [Ad m.c,Ad q.c,Ad s.c,Zm cl,Zm l,Zm cd]
def gT(m:Zf)(q:Zc)(s:ZY)(co l cl:WL)(cc cd cn k:Int):Rs:=lp C (.blk 4::.seq Zyo::.blk 3::.loop [4,5,6,7,11,12,13] gQ::z6) [4,5,6,7,11,12,13,15,16,17] Zyl [I cc,.ptr 0 0,.ptr 1 0,.ptr 2 0,.own 3,.own 4,.own 5,I cd,I cn,I k] [Ad m.c,Ad q.c,Ad s.c,Zm co,Zm l,Zm cl]
def gU(m:Zf)(q:Zc)(s:ZY)(cp l cn cl co:WL)(cc cd i:Int):Rs:=lp C (.blk 6::.seq Zyn::.blk 3::.loop [4,5,6,7,11,12,13] gQ::z6) [4,5,6,7,11,12,13,15,19,20,21] Zym [I cc,.ptr 0 0,.ptr 1 0,.ptr 2 0,.own 3,.own 4,.own 5,I cd,.own 6,.own 7,I i] [Ad m.c,Ad q.c,Ad s.c,Zm cp,Zm l,Zm cn,Zm cl,Zm co]
def LY:Af (Zj 22 Tryz.f22):={ m:=_ }
def Zyr:Za:=Aa LY 23
def Zys:Za:=Aa LY 64
def Zyt:Za:=Aa LY 80
def z7:Za:=AG LY 44 20 Zys 36 Zyt
def Zyu:Za:=Aa LY 81
def Zyv:Za:=AG LY 39 5 z7 42 Zyu
def Z8x:Ab:=Zn LY 23 Zyr 39 Zyv
def Z8y(a:Zc)(cd cn co:Int)(Box:Box)(cc:WL)(cl:List Ze):Rs:=C 22 [Am a.c,.agg [I cd,I cn,I co,L 1 (Box.Low.map ic),L 1 (Box.High.map ic),Zr cc,L 1 (cl.map Ze.c),.t .nil]] []
def Z8z:Ab:=AD (Zj 50 Tryz.f50)
def z8(a:Zc)(a1:Ze):Rs:=C 50 [Am a.c,Am a1.c] []
def HC(a:Zc)(a1:Zu):Rs:=C 22 [Am a.c,Am a1.c] []
def R0(q:Zc)(b:Zu)(i:Int):Rs:=lp C [.blk 0,.seq Zyv,.fin 0 [.tmp 4]] [2,3,5] Zyr [.ptr 0 0,.ptr 1 0,I i] [Ad q.c,Ad b.c]
def Zyw:List Fr:=[.blk 2,.seq Zyu,.fin 0 [.tmp 4]]
def LZ(b:Zu)(k:Int):Rs:=lp C Zyw [3,6] z7 [.ptr 0 0,I k] [Ad b.c]
def L0(b:Zu)(k i:Int):Rs:=lp C (.blk 4::.blk 3::.seq Zyt::.loop [3,6] z7::Zyw) [3,6,7] Zys [.ptr 0 0,I k,I i] [Ad b.c]
def Zyx:Af (Zj 74 Tryz.f74):={ m:=_ }
def Zyy:Za:=Aa Zyx 21
def Zyz:Za:=Aa Zyx 33
def Z80:Ab:=Zn Zyx 21 Zyy 33 Zyz
def z9(a:Zf)(a1:Zc)(a2:ZY)(a3 a4 a5:Int):Rs:=C 74 [Am a.c,Am a1.c,Am a2.c,I a3,I a4,I a5] []
def Zy0:=lp C [.blk 0,.seq Zyz,.fin 0 [.cellO 12 (some 8) [none,none,none,some (1,0),some (1,0),some (1,0),some (1,0),some (1,0)],.tmpO 13 [none]]] [5,6,7,8,12,16,17,18] Zyy
def Zy1(m:Zf)(q:Zc)(s:ZY)(cd cp cu:Int)(cl:WL)(cc cn co:Int)(x x1:WL)(x2:List Ze)(cv k:Int):Rs:=Zy0 [I cv,.ptr 0 0,.ptr 1 0,.ptr 2 0,.ptr 3 0,.own 4,.ptr 5 0,I k] [Ad m.c,Ad q.c,Ad s.c,.box [I cd,I cp,I cu,.t .nil,.t .nil,.t .nil,.t .nil,.t .nil],Zm cl,.box [I cc,I cn,I co,.own 6,.own 7,.own 4,.own 8,.t .nil],Zm x,Zm x1,.arr 75 1 true (x2.map Ze.c)]
def gV(m:Zf)(q:Zc)(s:ZY)(cd cp cu:Int)(cl:WL)(cc cn co:Int)(x x1:WL)(x2:List Ze)(x3:WA)(cv k:Int):Rs:=Zy0 [I cv,.ptr 0 0,.ptr 1 0,.ptr 2 0,.ptr 3 0,.own 4,.ptr 5 0,I k] [Ad m.c,Ad q.c,Ad s.c,.box [I cd,I cp,I cu,.t .nil,.t .nil,.t .nil,.t .nil,.t .nil],Zm cl,.box [I cc,I cn,I co,.own 6,.own 7,.own 4,.own 8,.own 9],Zm x,Zm x1,.arr 75 1 true (x2.map Ze.c),ZZ x3]
def Z81:Ab:=AD (Zj 36 Tryz.f36)
def gW(a:Zf)(a1:Zq)(a2:Zc)(a3 a4:Int):Rs:=C 36 [Am a.c,Am a1.c,Am a2.c,I a3,I a4] []
def Zy2:Af (Zj 75 Tryz.f75):={ m:=_ }
def Zy3:Za:=Aa Zy2 9
def Zy4:Za:=Aa Zy2 19
def Z82:Ab:=Zn Zy2 9 Zy3 19 Zy4
def R2(a:Zu):Rs:=C 75 [Am a.c] []
def Zy5:=lp C [.blk 0,.seq Zy4,.fin 0 [.cell 2 (some 8)]] [1,2,3,4] Zy3
def Zy6(b:Zu)(cd co cp cc cl cn:Int)(x x1 x2:WL)(x3:List Ze)(i:Int):Rs:=Zy5 [.ptr 0 0,.ptr 1 0,.ptr 2 0,I i] [Ad b.c,.box [I cd,I co,I cp,.t .nil,.t .nil,.t .nil,.t .nil,.t .nil],.box [I cc,I cl,I cn,.own 3,.own 4,.own 5,.own 6,.t .nil],Zm x,Zm x1,Zm x2,.arr 75 1 true (x3.map Ze.c)]
def gX(b:Zu)(cd co cp cc cl cn:Int)(x x1 x2:WL)(x3:List Ze)(x4:WA)(i:Int):Rs:=Zy5 [.ptr 0 0,.ptr 1 0,.ptr 2 0,I i] [Ad b.c,.box [I cd,I co,I cp,.t .nil,.t .nil,.t .nil,.t .nil,.t .nil],.box [I cc,I cl,I cn,.own 3,.own 4,.own 5,.own 6,.own 7],Zm x,Zm x1,Zm x2,.arr 75 1 true (x3.map Ze.c),ZZ x4]
def Z83:Af (Zj 37 Tryz.f37):={ m:=_ }
def Z84:Za:=Aa Z83 37
def Z85:Ab:=Ql Z83 37 Z84
def gY(x:Zo)(a:Zu):Rs:=C 37 [.ptr 0 0,Am a.c] [Ad x.c]
def Z86:Ab:=AD (Zj 14 Tryz.f14)
def Zpf(x:Zo):Rs:=C 14 [.ptr 0 0] [Ad x.c]
def Z87:Ab:=AD (Zj 5 Tryz.f5)
def L1(a:WL):Rs:=C 5 [L 1 (a.map (kc .u8))] []
def Z88:Ab:=AD (Zj 83 Tryz.f83)
def Xj(a a1 a2:Int):Rs:=C 83 [I a,I a1,I a2] []
def Z89:Ab:=AD (Zj 168 Tryz.f168)
def Zpg(a:V6):Rs:=C 168 [.t (.str a)] []
def Zy7:Af (Zj 209 Tryz.f209):={ m:=_ }
def Zy8:Za:=Aa Zy7 7
def Zy9:Za:=Aa Zy7 25
def Z8A:Ab:=Zn Zy7 7 Zy8 25 Zy9
def Zph(a:WL)(a1:Int):Rs:=C 209 [Zr a,I a1] []
def gZ(s:WL)(v x x1:Int):Rs:=lp C [.blk 0,.seq Zy9,.fin 0 [.tmp 4]] [0,1,7,8] Zy8 [Zr s,I v,I x,I x1] []
def Z8B:Ab:=AD (Zj 169 Tryz.f169)
def J4(a:WL)(a1:Int):Rs:=C 169 [Zr a,I a1] []
def ZyA:Af (Zj 210 Tryz.f210):={ m:=_ }
def ZyB:Za:=Aa ZyA 7
def ZyC:Za:=Aa ZyA 25
def Z8C:Ab:=Zn ZyA 7 ZyB 25 ZyC
def Zpi(a:List Bool)(a1:Bool):Rs:=C 210 [L 1 (a.map bc),Bo a1] []
def g9(s:List Bool)(v:Bool)(x x1:Int):Rs:=lp C [.blk 0,.seq ZyC,.fin 0 [.tmp 4]] [0,1,7,8] ZyB [L 1 (s.map bc),Bo v,I x,I x1] []
def Z8D:Ab:=AD (Zj 170 Tryz.f170)
def Zpj(a:List Bool)(a1:Bool):Rs:=C 170 [L 1 (a.map bc),Bo a1] []
def hH:Af (Zj 127 Tryz.f127):={ m:=_ }
def ZyD:Za:=Aa hH 39
def ZyE:Za:=Aa hH 59
def Zpk:Za:=AG hH 17 22 ZyD 42 ZyE
def ZyF:Za:=Aa hH 60
def Zpl:Ab:=Zn hH 17 Zpk 60 ZyF
def KL(a:Zc):Rs:=C 127 [Am a.c] []
def Zpm:List Fr:=[.blk 0,.seq ZyF,.fin 0 [.tmp 2]]
def L2(q:Zc)(cc:List Bool)(x:List Zg)(x1 x2:Int):Rs:=lp C Zpm [1,3,23,24,25] Zpk [.ptr 0 0,.own 1,L 2 (x.map Zg.c),I x1,I x2] [Ad q.c,.arr 4 1 true (cc.map bc)]
def hU(q:Zc)(cc:List Bool)(a:Zg)(x:List Zg)(x1 x2:Int)(x3:WL)(x4 x5:Int):Rs:=lp C (.blk 2::.blk 1::.seq ZyE::.loop [1,3,23,24,25] Zpk::Zpm) [1,3,5,23,24,25,41,42,43] ZyD [.ptr 0 0,.own 1,.ptr 2 0,L 2 (x.map Zg.c),I x1,I x2,Zr x3,I x4,I x5] [Ad q.c,.arr 4 1 true (cc.map bc),Ad a.c]
def ZyG:Af (Zj 90 Tryz.f90):={ m:=_ }
def ZyH:Za:=Aa ZyG 7
def ZyI:Za:=Aa ZyG 25
def Z8E:Ab:=Zn ZyG 7 ZyH 25 ZyI
def HD(a:WL):Rs:=C 90 [Zr a] []
def hY(c x:WL)(x1 x2:Int):Rs:=lp C [.blk 0,.seq ZyI,.fin 0 [.tmp 2]] [0,5,6,7] ZyH [Zr c,Zr x,I x1,I x2] []
def ZyJ:Af (Zj 135 Tryz.f135):={ m:=_ }
def ZyK:Za:=Aa ZyJ 15
def ZyL:Za:=Aa ZyJ 33
def Z8F:Ab:=Zn ZyJ 15 ZyK 33 ZyL
def Zpn(a a1:WL):Rs:=C 135 [Zr a,Zr a1] []
def hZ(a b:WL)(x x1:Int):Rs:=lp C [.blk 0,.seq ZyL,.fin 0 [.tmp 4]] [0,1,12,13] ZyK [Zr a,Zr b,I x,I x1] []
def Z8G:Ab:=AD (Zj 85 Tryz.f85)
def R3(a:Box):Rs:=C 85 [Am a.c] []
def ZyM:Af (Zj 86 Tryz.f86):={ m:=_ }
def ZyN:Za:=Aa ZyM 9
def ZyO:Za:=Aa ZyM 21
def Z8H:Ab:=Zn ZyM 9 ZyN 21 ZyO
def L3(a:Box):Rs:=C 86 [Am a.c] []
def iA(b:Box)(n x x1:Int):Rs:=lp C [.blk 0,.seq ZyO,.fin 0 [.tmp 2]] [1,3,7,8] ZyN [.ptr 0 0,I n,I x,I x1] [Ad b.c]
def Z8I:Ab:=AD (Zj 44 Tryz.f44)
def L4(a:Box):Rs:=C 44 [Am a.c] []
def Z8J:Ab:=AD (Zj 79 Tryz.f79)
def UP(a:Zc):Rs:=C 79 [Am a.c] []
def iB:Af (Zj 212 Tryz.f212):={ m:=_ }
def ZyP:Za:=Aa iB 21
def ZyQ:Za:=Aa iB 39
def Zpo:Za:=AG iB 9 12 ZyP 30 ZyQ
def ZyR:Za:=Aa iB 40
def Z8K:Ab:=Zn iB 9 Zpo 40 ZyR
def J5(a:Zc)(a1:Int):Rs:=C 212 [Am a.c,I a1] []
def ZyS:List Fr:=[.blk 0,.seq ZyR,.fin 0 [.tmp 4]]
def L5(q:Zc)(cd:WL)(cc v:Int):Rs:=lp C ZyS [1,2,5,6] Zpo [I cc,.ptr 0 0,.own 1,I v] [Ad q.c,Zm cd]
def iC(q:Zc)(cd:WL)(cc v:Int)(x:List Zg)(x1 x2:Int):Rs:=lp C (.blk 2::.blk 1::.seq ZyQ::.loop [1,2,5,6] Zpo::ZyS) [1,2,5,6,17,18,19] ZyP [I cc,.ptr 0 0,.own 1,I v,L 2 (x.map Zg.c),I x1,I x2] [Ad q.c,Zm cd]
def Zpp:Af (Zj 213 Tryz.f213):={ m:=_ }
def Z8L:Za:=Aa Zpp 24
def ZyT:Za:=As Zpp 9 15 Z8L
def ZyU:Za:=Aa Zpp 25
def Z8M:Ab:=Zn Zpp 9 ZyT 25 ZyU
def HE(a a1:WL):Rs:=C 213 [Zr a,Zr a1] []
def R4(c b x:WL)(x1 x2:Int):Rs:=lp C [.blk 0,.seq ZyU,.fin 0 [.tmp 4]] [1,5,9,10,11] ZyT [Zr b,.own 0,Zr x,I x1,I x2] [Zm c]
def Z8N:Ab:=AD (Zj 211 Tryz.f211)
def R5(a:Zc)(a1:Zk)(a2:List Zp)(a3:WL):Rs:=C 211 [Am a.c,Am a1.c,L 4 (a2.map Zp.c),Zr a3] []
def Zpq:Af (Zj 171 Tryz.f171):={ m:=_ }
def Z8O:Za:=Aa Zpq 52
def ZyV:Za:=As Zpq 19 33 Z8O
def ZyW:Za:=Aa Zpq 54
def Z8P:Ab:=Zn Zpq 19 ZyV 54 ZyW
def HF(a:Zc)(a1:Ze):Rs:=C 171 [Am a.c,Am a1.c] []
def iD(q:Zc)(cd:List Zp)(cc:WL)(x:List Zk)(x1 x2:Int):Rs:=lp C [.blk 0,.seq ZyW,.fin 0 [.tmp 4,.tmp 5]] [2,6,7,25,26,27] ZyV [.ptr 0 0,.own 1,.own 2,L 3 (x.map Zk.c),I x1,I x2] [Ad q.c,I7 cd,Zm cc]
def Z8Q:Ab:=AD (Zj 128 Tryz.f128)
def iE(a:Zc)(a1:Ze):Rs:=C 128 [Am a.c,Am a1.c] []
def ZyX:Af (Zj 129 Tryz.f129):={ m:=_ }
def ZyY:Za:=Aa ZyX 7
def ZyZ:Za:=Aa ZyX 25
def Z8R:Ab:=Zn ZyX 7 ZyY 25 ZyZ
def iF(a:WL)(a1:Int):Rs:=C 129 [Zr a,I a1] []
def iG(l:WL)(n:Int)(x:WL)(x1 x2:Int):Rs:=lp C [.blk 0,.seq ZyZ,.fin 0 [.tmp 4]] [0,1,7,8,9] ZyY [Zr l,I n,Zr x,I x1,I x2] []
def L6:Af (Zj 77 Tryz.f77):={ m:=_ }
def Zza:Za:=Aa L6 15
def Zzb:Za:=Aa L6 38
def Zzc:Za:=Aa L6 61
def Zzd:Za:=Aa L6 79
def Zze:Za:=AG L6 56 5 Zzc 23 Zzd
def Zzf:Za:=AG L6 33 5 Zzb 23 Zze
def Z8S:Ab:=Zn L6 15 Zza 33 Zzf
def iH(a:Zc)(a1:Zu):Rs:=C 77 [Am a.c,Am a1.c] []
def iI(q:Zc)(b:Zu)(x:List Ze)(x1 x2:Int):Rs:=lp C [.blk 0,.seq Zzf,.fin 0 [.tmp 4]] [2,3,50,51,52] Zza [.ptr 0 0,.ptr 1 0,L 1 (x.map Ze.c),I x1,I x2] [Ad q.c,Ad b.c]
def R6(b:Zu)(x:WL)(x1 x2:Int):Rs:=lp C [.blk 2,.seq Zze,.fin 0 [.tmp 4]] [3,64,65,66] Zzb [.ptr 0 0,Zr x,I x1,I x2] [Ad b.c]
def R7(b:Zu)(x:WA)(x1 x2:Int):Rs:=lp C [.blk 4,.seq Zzd,.fin 0 [.tmp 4]] [3,93,94,95] Zzc [.ptr 0 0,L 1 (x.map AF),I x1,I x2] [Ad b.c]
def Z8T:Ab:=AD (Zj 130 Tryz.f130)
def L7(a:Zc)(a1:Int):Rs:=C 130 [Am a.c,I a1] []
def Zpr:Af (Zj 172 Tryz.f172):={ m:=_ }
def Z8U:Za:=Aa Zpr 26
def Zzg:Za:=As Zpr 11 15 Z8U
def Zzh:Za:=Aa Zpr 27
def Z8V:Ab:=Zn Zpr 11 Zzg 27 Zzh
def Zps(a:Zc)(a1:Int):Rs:=C 172 [Am a.c,I a1] []
def R8(cd:WL)(cc cl:Int)(x:List Zg)(x1 x2:Int):Rs:=lp C [.blk 0,.seq Zzh,.fin 0 [.tmp 4]] [1,5,6,13,14,15] Zzg [I cc,.own 0,I cl,L 2 (x.map Zg.c),I x1,I x2] [Zm cd]
def Z8W:Af (Zj 131 Tryz.f131):={ m:=_ }
def Zzi:Za:=Aa Z8W 14
def Z8X:Ab:=Ql Z8W 14 Zzi
def F3(a:Zc)(a1:Int):Rs:=C 131 [Am a.c,I a1] []
def iJ(q:Zc)(cc cd:Int):Rs:=lp C [.blk 0,.fin 0 [.tmp 4]] [1,2,5] Zzi [I cc,.ptr 0 0,I cd] [Ad q.c]
def Z8Y:Ab:=AD (Zj 78 Tryz.f78)
def L8(a:Zc)(a1:Int):Rs:=C 78 [Am a.c,I a1] []
def Z8Z:Ab:=AD (Zj 173 Tryz.f173)
def J6(x:Zf):Rs:=C 173 [.ptr 0 0] [Ad x.c]
def Z9a:Ab:=AD (Zj 214 Tryz.f214)
def Zpt(x:Zz):Rs:=C 214 [.ptr 0 0] [Ad x.c]
def iK:Af (Zj 174 Tryz.f174):={ m:=_ }
def Zzj:Za:=Aa iK 7
def Zzk:Za:=Aa iK 30
def Zzl:Za:=Aa iK 48
def Zzm:Za:=AG iK 25 5 Zzk 23 Zzl
def Z9b:Ab:=Zn iK 7 Zzj 25 Zzm
def WX(a:Zz):Rs:=C 174 [Am a.c] []
def J7(o:Zz)(x x1:Int):Rs:=lp C [.blk 0,.seq Zzm,.fin 0 [.tmp 2]] [1,7,8,9] Zzj [.ptr 0 0,.bsl 1 5,I x,I x1] [Ad o.c,.box [.ptr 0 0,.ptr 0 1,.ptr 0 2,.ptr 0 3,.ptr 0 4]]
def L9(o:Zz)(x:List Zw)(x1 x2:Int):Rs:=lp C [.blk 2,.seq Zzl,.fin 0 [.tmp 2]] [1,20,21,22] Zzk [.ptr 0 0,L 2 (x.map Zw.c),I x1,I x2] [Ad o.c]
def Ma:Af (Zj 176 Tryz.f176):={ m:=_ }
def Zzn:Za:=Aa Ma 33
def Zzo:Za:=Aa Ma 43
def Zpu:Za:=AG Ma 21 12 Zzn 22 Zzo
def Zzp:Za:=Aa Ma 44
def Zpv:Za:=AG Ma 9 12 Zpu 35 Zzp
def Zzq:Za:=Aa Ma 45
def Z9c:Ab:=Zn Ma 9 Zpv 45 Zzq
def UQ:Rs:=C 176 [] []
def Zzr:List Fr:=[.blk 0,.seq Zzq,.fin 0 [.tmp 0]]
def R9(c:WA)(a:Int):Rs:=lp C Zzr [1,2] Zpv [.own 0,I a] [ZZ c]
def Zzs:List Fr:=.blk 2::.blk 1::.seq Zzp::.loop [1,2] Zpv::Zzr
def Mb(c:WA)(a b:Int):Rs:=lp C Zzs [1,2,3] Zpu [.own 0,I a,I b] [ZZ c]
def Sa(cc:WA)(a b c:Int):Rs:=lp C (.blk 4::.blk 3::.seq Zzo::.loop [1,2,3] Zpu::Zzs) [1,2,3,4] Zzn [.own 0,I a,I b,I c] [ZZ cc]
def Z9d:Ab:=AD (Zj 87 Tryz.f87)
def Mc(a:WL):Rs:=C 87 [Zr a] []
def Z9e:Ab:=AD (Zj 89 Tryz.f89)
def HG(a:Int):Rs:=C 89 [I a] []
end
