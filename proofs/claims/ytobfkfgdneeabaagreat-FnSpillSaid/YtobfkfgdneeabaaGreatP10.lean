/-
  Parts of the proofs for this seat: D2.
-/
import Derived.Test.YtobfkfgdneeabaaGreatP8
set_option linter.all false
set_option maxRecDepth 100000
set_option maxHeartbeats 4000000
set_option cbv.maxSteps 9999999
namespace Go.Proofs.YtobfkfgdneeabaaGreat
open Go.AM
noncomputable section
def Z7Q:Ab:=AG (Zg 212 Tryz.f212)
def S8(a:Zs)(a1:Zc)(a2 a3:Int):Rs:=C 212 [Ap a.c,Ap a1.c,I a2,I a3] []
def Zvm:Af (Zg 290 Tryz.f290):={ m:=_ }
def Zvn:Za:=Aa Zvm 9
def Zvo:Za:=Aa Zvm 19
def Z7R:Ab:=Zp Zvm 9 Zvn 19 Zvo
def Zop(a:KI)(a1:Int)(a2:XS):Rs:=C 290 [.t (.str a),I a1,Wl a2] []
def Zvp:=lp C [.blk 0,.seq Zvo,.fin 0 [.cellO 6 (some 3) [none,none,some (38,1)],.tmpO 7 [none]]] [2,6,8,9] Zvn
def Zvq(cl:KI)(cc:Int)(cd:KI)(c:Int)(cn:XS)(i:Int):Rs:=Zvp [Wl cn,.ptr 0 0,.ptr 1 0,I i] [.box [.t (.str cl),I cc,.t .nil],.box [.t (.str cd),I c,.t .nil]]
def jO(cl:KI)(cc:Int)(cd:KI)(c:Int)(x cn:XS)(i:Int):Rs:=Zvp [Wl cn,.ptr 0 0,.ptr 1 0,I i] [.box [.t (.str cl),I cc,.t .nil],.box [.t (.str cd),I c,.own 2],Z3 x]
def Z7S:Ab:=AG (Zg 279 Tryz.f279)
def Zoq(a:Z1):Rs:=C 279 [Ap a.c] []
def Z7T:Ab:=AG (Zg 261 Tryz.f261)
def Gx(a:Z1):Rs:=C 261 [Ap a.c] []
def S9:Af (Zg 262 Tryz.f262):={ m:=_ }
def Zvr:Za:=Aa S9 24
def Zvs:Za:=Aa S9 34
def Zvt:Za:=Aa S9 35
def Zor:Za:=BR S9 9 15 Zvr 25 Zvs 26 Zvt
def Zvu:Za:=Aa S9 36
def Z7U:Ab:=Zp S9 9 Zor 36 Zvu
def Zos(a:Z1):Rs:=C 262 [Ap a.c] []
def Zvv:List Fr:=[.blk 0,.seq Zvu,.fin 0 [.cellO 2 (some 4) [none,none,none,some (261,3)]]]
def Zvw:=lp C Zvv [1,2,3,4] Zor
def Zvx(s:Z1)(cp:KI)(cn cd:Int)(co:KI)(cl cc i:Int):Rs:=Zvw [.ptr 0 0,.ptr 1 0,.ptr 2 0,I i] [Ag s.c,.box [.t (.str cp),I cn,I cd,.t .nil],.box [.t (.str co),I cl,I cc,.t .nil]]
def jP:=lp C (.blk 2::.seq Zvs::.blk 1::.seq Zvt::.loop [1,2,3,4] Zor::Zvv) [1,2,3,4,5,6] Zvr
def Zvy(s:Z1)(cp:KI)(cn cd:Int)(co:KI)(cl cc:Int)(x x1:V2)(i k:Int):Rs:=jP [.ptr 0 0,.ptr 1 0,.ptr 2 0,I i,.ptr 3 0,I k] [Ag s.c,.box [.t (.str cp),I cn,I cd,.t .nil],.box [.t (.str co),I cl,I cc,.t .nil],.box [.own 4,.t .nil,.own 5],Zm x,Zm x1]
def jQ(s:Z1)(cp:KI)(cn cd:Int)(co:KI)(cl cc:Int)(x:V2)(x1:XS)(x2:V2)(i k:Int):Rs:=jP [.ptr 0 0,.ptr 1 0,.ptr 2 0,I i,.ptr 3 0,I k] [Ag s.c,.box [.t (.str cp),I cn,I cd,.t .nil],.box [.t (.str co),I cl,I cc,.t .nil],.box [.own 4,.own 5,.own 6],Zm x,Z3 x1,Zm x2]
def Gy(s:Z1)(cp:KI)(cn cd:Int)(co:KI)(cl cc:Int)(x:List ZA)(i:Int):Rs:=Zvw [.ptr 0 0,.ptr 1 0,.ptr 2 0,I i] [Ag s.c,.box [.t (.str cp),I cn,I cd,.t .nil],.box [.t (.str co),I cl,I cc,.own 3],.arr 261 3 true (x.map ZA.c)]
def Zvz(s:Z1)(cp:KI)(cn cd:Int)(co:KI)(cl cc:Int)(x:List ZA)(x1 x2:V2)(i k:Int):Rs:=jP [.ptr 0 0,.ptr 1 0,.ptr 2 0,I i,.ptr 4 0,I k] [Ag s.c,.box [.t (.str cp),I cn,I cd,.t .nil],.box [.t (.str co),I cl,I cc,.own 3],.arr 261 3 true (x.map ZA.c),.box [.own 5,.t .nil,.own 6],Zm x1,Zm x2]
def jS(s:Z1)(cp:KI)(cn cd:Int)(co:KI)(cl cc:Int)(x:List ZA)(x1:V2)(x2:XS)(x3:V2)(i k:Int):Rs:=jP [.ptr 0 0,.ptr 1 0,.ptr 2 0,I i,.ptr 4 0,I k] [Ag s.c,.box [.t (.str cp),I cn,I cd,.t .nil],.box [.t (.str co),I cl,I cc,.own 3],.arr 261 3 true (x.map ZA.c),.box [.own 5,.own 6,.own 7],Zm x1,Z3 x2,Zm x3]
def Zv0:Af (Zg 232 Tryz.f232):={ m:=_ }
def Zv1:Za:=Aa Zv0 7
def Zv2:Za:=Aa Zv0 23
def Z7V:Ab:=Zp Zv0 7 Zv1 23 Zv2
def Zot(a:ZM)(a1:KI):Rs:=C 232 [Ap a.c,.t (.str a1)] []
def jT(c:ZM)(cl:KI)(cd cc:Int)(cn:KI)(i:Int):Rs:=lp C [.blk 0,.seq Zv2,.fin 0 [.cellO 4 (some 4) [none,none,none,some (261,3)],.tmpO 5 [none]]] [1,2,4,6] Zv1 [.t (.str cn),.ptr 0 0,.ptr 1 0,I i] [Ag c.c,.box [.t (.str cl),I cd,I cc,.t .nil]]
def Z7W:Ab:=AG (Zg 213 Tryz.f213)
def QB(a:Zs)(a1:Zc)(a2:Int):Rs:=C 213 [Ap a.c,Ap a1.c,I a2] []
def Zou:Af (Zg 174 Tryz.f174):={ m:=_ }
def Z7X:Za:=Aa Zou 30
def Zv3:Za:=Aw Zou 17 13 Z7X
def Zv4:Za:=Aa Zou 31
def Z7Y:Ab:=Zp Zou 17 Zv3 31 Zv4
def Zov(a:Zs)(a1:Zc)(a2:Int):Rs:=C 174 [Ap a.c,Ap a1.c,I a2] []
def Ta(s:Zs)(q:Zc)(cc n i:Int):Rs:=lp C [.blk 0,.seq Zv4,.fin 0 [.tmp 6]] [2,3,4,7,8] Zv3 [I cc,.ptr 0 0,.ptr 1 0,I n,I i] [Ag s.c,Ag q.c]
def Zow:Af (Zg 107 Tryz.f107):={ m:=_ }
def Z7Z:Za:=Aa Zow 33
def Zv5:Za:=Aw Zow 17 16 Z7Z
def Zv6:Za:=Aa Zow 35
def Z8a:Ab:=Zp Zow 17 Zv5 35 Zv6
def jU(a:Zs)(a1:Zc):Rs:=C 107 [Ap a.c,Ap a1.c] []
def Tb(s:Zs)(q:Zc)(cc:V2)(m:Int):Rs:=lp C [.blk 0,.seq Zv6,.fin 0 [.tmp 4]] [2,3,5,6] Zv5 [.ptr 0 0,.ptr 1 0,.own 2,I m] [Ag s.c,Ag q.c,Zm cc]
def Zox:Af (Zg 233 Tryz.f233):={ m:=_ }
def Z8b:Za:=Aa Zox 30
def Zv7:Za:=Aw Zox 17 13 Z8b
def Zv8:Za:=Aa Zox 31
def Z8c:Ab:=Zp Zox 17 Zv7 31 Zv8
def jV(a:Zs)(a1:Zc)(a2:Int):Rs:=C 233 [Ap a.c,Ap a1.c,I a2] []
def Tc(s:Zs)(q:Zc)(cc n i:Int):Rs:=lp C [.blk 0,.seq Zv8,.fin 0 [.tmp 6]] [2,3,4,7,8] Zv7 [I cc,.ptr 0 0,.ptr 1 0,I n,I i] [Ag s.c,Ag q.c]
def Zoy:Af (Zg 266 Tryz.f266):={ m:=_ }
def Z8d:Za:=Aa Zoy 22
def Zv9:Za:=Aw Zoy 9 13 Z8d
def ZvA:Za:=Aa Zoy 23
def Z8e:Ab:=Zp Zoy 9 Zv9 23 ZvA
def ML(a:Zd)(a1:V2):Rs:=C 266 [Ap a.c,Zq a1] []
def Td(a:Zd)(cd cc:V2)(i:Int):Rs:=lp C [.blk 0,.seq ZvA,.fin 0 [.tmp 4]] [1,2,5,6] Zv9 [Zq cc,.ptr 0 0,.own 1,I i] [Ag a.c,Zm cd]
def Te:Af (Zg 291 Tryz.f291):={ m:=_ }
def ZvB:Za:=Aa Te 22
def Zoz:Za:=Aa Te 30
def Zo0:Za:=Aa Te 31
def Zo1:Za:=BR Te 9 13 ZvB 21 Zoz 22 Zo0
def ZvC:Za:=Aa Te 32
def Z8f:Ab:=Zp Te 9 Zo1 32 ZvC
def Zo2(a:V2):Rs:=C 291 [Zq a] []
def ZvD:List Fr:=[.blk 0,.seq ZvC,.fin 0 [.tmp 2]]
def Gz(c l:V2)(i:Int):Rs:=lp C ZvD [0,3,4] Zo1 [Zq l,.own 0,I i] [Zm c]
def MM(c l:V2)(i k:Int):Rs:=lp C (.blk 2::.seq Zoz::.blk 1::.seq Zo0::.loop [0,3,4] Zo1::ZvD) [0,3,4,5] ZvB [Zq l,.own 0,I i,I k] [Zm c]
def ZvE:Af (Zg 280 Tryz.f280):={ m:=_ }
def ZvF:Za:=Aa ZvE 23
def ZvG:Za:=Aa ZvE 39
def Z8g:Ab:=Zp ZvE 23 ZvF 39 ZvG
def Tf(a:Z1)(a1:V2):Rs:=C 280 [Ap a.c,Zq a1] []
def jW(s:Z1)(cc:V2)(i:Int):Rs:=lp C [.blk 0,.seq ZvG,.fin 0 [.tmp 4]] [1,2,5] ZvF [Zq cc,.ptr 0 0,I i] [Ag s.c]
def Zo3:Af (Zg 263 Tryz.f263):={ m:=_ }
def Z8h:Za:=Aa Zo3 38
def ZvH:Za:=Aw Zo3 17 21 Z8h
def ZvI:Za:=Aa Zo3 39
def Z8i:Ab:=Zp Zo3 17 ZvH 39 ZvI
def Tg(a:List Z1)(a1:Zc)(a2 a3:Int):Rs:=C 263 [L 4 (a.map Z1.c),Ap a1.c,I a2,I a3] []
def Th(q:Zc)(s:List Z1)(cd cl cc i:Int):Rs:=lp C [.blk 0,.seq ZvI,.fin 0 [.tmp 8]] [0,2,3,5,9,10] ZvH [L 4 (s.map Z1.c),I cd,I cl,.ptr 0 0,I cc,I i] [Ag q.c]
def ZvJ:Af (Zg 234 Tryz.f234):={ m:=_ }
def ZvK:Za:=Aa ZvJ 17
def ZvL:Za:=Aa ZvJ 29
def Z8j:Ab:=Zp ZvJ 17 ZvK 29 ZvL
def jX(a:Zs)(a1:Zc)(a2:Int):Rs:=C 234 [Ap a.c,Ap a1.c,I a2] []
def jY(s:Zs)(q:Zc)(l:List Z1)(cc i:Int):Rs:=lp C [.blk 0,.seq ZvL,.fin 0 [.tmp 6]] [2,3,4,7,8] ZvK [I cc,.ptr 0 0,.ptr 1 0,.own 2,I i] [Ag s.c,Ag q.c,.arr 240 4 true (l.map Z1.c)]
def Z8k:Ab:=AG (Zg 265 Tryz.f265)
def Ti(a:Z1)(a1:V2):Rs:=C 265 [Ap a.c,Zq a1] []
def ZvM:Af (Zg 281 Tryz.f281):={ m:=_ }
def ZvN:Za:=Aa ZvM 9
def ZvO:Za:=Aa ZvM 27
def Z8l:Ab:=Zp ZvM 9 ZvN 27 ZvO
def jZ(a:V2):Rs:=C 281 [Zq a] []
def j4(l:V2)(n i:Int):Rs:=lp C [.blk 0,.seq ZvO,.fin 0 [.tmp 2]] [0,3,4] ZvN [Zq l,I n,I i] []
def ZvP:Af (Zg 264 Tryz.f264):={ m:=_ }
def ZvQ:Za:=Aa ZvP 9
def ZvR:Za:=Aa ZvP 19
def Z8m:Ab:=Zp ZvP 9 ZvQ 19 ZvR
def Zo4(a a1:V2):Rs:=C 264 [Zq a,Zq a1] []
def j5(a b:V2)(n i:Int):Rs:=lp C [.blk 0,.seq ZvR,.fin 0 [.tmp 4]] [0,1,5,6] ZvQ [Zq a,Zq b,I n,I i] []
def Z8n:Ab:=AG (Zg 235 Tryz.f235)
def Tj(a:Zs)(a1:Zc)(a2 a3:Int):Rs:=C 235 [Ap a.c,Ap a1.c,I a2,I a3] []
def Zo5:Af (Zg 315 Tryz.f315):={ m:=_ }
def Z8o:Za:=Aa Zo5 22
def ZvS:Za:=Aw Zo5 9 13 Z8o
def ZvT:Za:=Aa Zo5 23
def Z8p:Ab:=Zp Zo5 9 ZvS 23 ZvT
def Zo6(a:Zd)(a1:Int):Rs:=C 315 [Ap a.c,I a1] []
def Tk(a:Zd)(m x k:Int):Rs:=lp C [.blk 0,.seq ZvT,.fin 0 [.tmp 4]] [1,2,5,6] ZvS [I m,.ptr 0 0,I x,I k] [Ag a.c]
def Zo7:Af (Zg 316 Tryz.f316):={ m:=_ }
def Z8q:Za:=Aa Zo7 22
def ZvU:Za:=Aw Zo7 9 13 Z8q
def ZvV:Za:=Aa Zo7 23
def Z8r:Ab:=Zp Zo7 9 ZvU 23 ZvV
def Zo8(a:V2):Rs:=C 316 [Zq a] []
def Tl(l:V2)(m i:Int):Rs:=lp C [.blk 0,.seq ZvV,.fin 0 [.tmp 2]] [0,3,4] ZvU [Zq l,I m,I i] []
def Z8s:Ab:=AG (Zg 318 Tryz.f318)
def Zo9(a:Z1)(a1:V2):Rs:=C 318 [Ap a.c,Zq a1] []
def ZvW:Af (Zg 317 Tryz.f317):={ m:=_ }
def ZvX:Za:=Aa ZvW 15
def ZvY:Za:=Aa ZvW 23
def Z8t:Ab:=Zp ZvW 15 ZvX 23 ZvY
def ZoA(a:Int):Rs:=C 317 [I a] []
def j6(n b:Int):Rs:=lp C [.blk 0,.seq ZvY,.fin 0 [.tmp 2]] [0,3] ZvX [I n,I b] []
def ZvZ:Af (Zg 304 Tryz.f304):={ m:=_ }
def Zwa:Za:=Aa ZvZ 17
def Zwb:Za:=Aa ZvZ 27
def Z8u:Ab:=Zp ZvZ 17 Zwa 27 Zwb
def j7(a:Z1)(a1:Zd):Rs:=C 304 [Ap a.c,Ap a1.c] []
def Tm(s:Z1)(a:Zd)(cc:List ZD)(m:Int):Rs:=lp C [.blk 0,.seq Zwb,.fin 0 [.tmpO 4 [some (336,3)]]] [2,3,5,6] Zwa [.ptr 0 0,.ptr 1 0,.own 2,I m] [Ag s.c,Ag a.c,.arr 336 3 true (cc.map ZD.c)]
def ZoB:Af (Zg 296 Tryz.f296):={ m:=_ }
def Z8v:Za:=Aa ZoB 42
def Zwc:Za:=Aw ZoB 17 25 Z8v
def Zwd:Za:=Aa ZoB 43
def Z8w:Ab:=Zp ZoB 17 Zwc 43 Zwd
def j8(a:Zs)(a1:Zc)(a2:Int):Rs:=C 296 [Ap a.c,Ap a1.c,I a2] []
def Tn(s:Zs)(q:Zc)(cd:List ZD)(cc i:Int):Rs:=lp C [.blk 0,.seq Zwd,.fin 0 [.tmpO 6 [some (336,3)]]] [2,3,4,7,8] Zwc [I cc,.ptr 0 0,.ptr 1 0,.own 2,I i] [Ag s.c,Ag q.c,.arr 336 3 true (cd.map ZD.c)]
def ZoC:Af (Zg 308 Tryz.f308):={ m:=_ }
def Z8x:Za:=Aa ZoC 22
def Zwe:Za:=Aw ZoC 9 13 Z8x
def Zwf:Za:=Aa ZoC 23
def Z8y:Ab:=Zp ZoC 9 Zwe 23 Zwf
def j9(a:Int)(a1:V2):Rs:=C 308 [I a,Zq a1] []
def Tp(m:Int)(c:V2)(x i:Int):Rs:=lp C [.blk 0,.seq Zwf,.fin 0 [.tmp 4]] [0,1,5,6] Zwe [I m,Zq c,I x,I i] []
def Zwg:Af (Zg 298 Tryz.f298):={ m:=_ }
def Zwh:Za:=Aa Zwg 9
def Zwi:Za:=Aa Zwg 19
def Z8z:Ab:=Zp Zwg 9 Zwh 19 Zwi
def kG(a:List ZD)(a1:V2):Rs:=C 298 [L 3 (a.map ZD.c),Zq a1] []
def kH(cd l:List ZD)(cc:V2)(i:Int):Rs:=lp C [.blk 0,.seq Zwi,.fin 0 [.tmp 4]] [0,1,5,6] Zwh [L 3 (l.map ZD.c),Zq cc,.own 0,I i] [.arr 336 3 true (cd.map ZD.c)]
def MN:Af (Zg 305 Tryz.f305):={ m:=_ }
def Z80:Za:=Aa MN 22
def Zwj:Za:=Aw MN 9 13 Z80
def Z81:Za:=Aa MN 41
def Zwk:Za:=Aw MN 28 13 Z81
def Zwl:Za:=Aa MN 42
def Zwm:Za:=AJ MN 23 5 Zwk 19 Zwl
def Z82:Ab:=Zp MN 9 Zwj 23 Zwm
def GB(a:Int)(a1 a2:V2):Rs:=C 305 [I a,Zq a1,Zq a2] []
def MP(cd cc c:V2)(i:Int):Rs:=lp C [.blk 0,.seq Zwm,.fin 0 [.tmp 6]] [1,2,7,8] Zwj [Zq cc,Zq c,.own 0,I i] [Zm cd]
def Tq(cc c:V2)(i:Int):Rs:=lp C [.blk 2,.seq Zwl,.fin 0 [.tmp 6]] [2,7,9] Zwk [Zq c,.own 0,I i] [Zm cc]
def Jy:Af (Zg 306 Tryz.f306):={ m:=_ }
def Zwn:Za:=Aa Jy 19
def Z83:Za:=Aa Jy 71
def Zwo:Za:=Aw Jy 58 13 Z83
def Zwp:Za:=Aa Jy 72
def ZoD:Za:=AJ Jy 46 12 Zwo 26 Zwp
def Zwq:Za:=Aa Jy 73
def ZoE:Za:=AJ Jy 34 12 ZoD 39 Zwq
def Zwr:Za:=Aa Jy 74
def Zws:Za:=AJ Jy 29 5 ZoE 45 Zwr
def Z84:Ab:=Zp Jy 19 Zwn 29 Zws
def kI(a:Int):Rs:=C 306 [I a] []
def kJ(cc:XS)(n c i:Int):Rs:=lp C [.blk 0,.seq Zws,.fin 0 [.tmp 2]] [0,3,4,5] Zwn [I n,.own 0,I c,I i] [Z3 cc]
def Zwt:List Fr:=[.blk 2,.seq Zwr,.fin 0 [.tmp 2]]
def Ts(cc:XS)(n c i:Int):Rs:=lp C Zwt [0,3,4,6] ZoE [I n,.own 0,I c,I i] [Z3 cc]
def Zwu:List Fr:=.blk 4::.blk 3::.seq Zwq::.loop [0,3,4,6] ZoE::Zwt
def Tt(cc:XS)(n c i j:Int):Rs:=lp C Zwu [0,3,4,6,7] ZoD [I n,.own 0,I c,I i,I j] [Z3 cc]
def Tu(cc:XS)(n c i j s:Int):Rs:=lp C (.blk 6::.blk 5::.seq Zwp::.loop [0,3,4,6,7] ZoD::Zwu) [0,3,4,6,7,8] Zwo [I n,.own 0,I c,I i,I j,I s] [Z3 cc]
def MR:Af (Zg 307 Tryz.f307):={ m:=_ }
def Zwv:Za:=Aa MR 17
def Zww:Za:=Aa MR 58
def Zwx:Za:=Aa MR 74
def ZoF:Za:=AJ MR 38 20 Zww 36 Zwx
def Zwy:Za:=Aa MR 75
def Zwz:Za:=AJ MR 33 5 ZoF 42 Zwy
def Z85:Ab:=Zp MR 17 Zwv 33 Zwz
def Tv(a:Program):Rs:=C 307 [Ap a.c] []
def kK(p:Program)(n k:Int):Rs:=lp C [.blk 0,.seq Zwz,.fin 0 [.tmp 2]] [1,3,4] Zwv [.ptr 0 0,I n,I k] [Ag p.c]
def Zw0:List Fr:=[.blk 2,.seq Zwy,.fin 0 [.tmp 2]]
def Tw(p:Program)(n i:Int):Rs:=lp C Zw0 [1,3,5] ZoF [.ptr 0 0,I n,I i] [Ag p.c]
def kL(p:Program)(n i k:Int):Rs:=lp C (.blk 4::.blk 3::.seq Zwx::.loop [1,3,5] ZoF::Zw0) [1,3,5,6] Zww [.ptr 0 0,I n,I i,I k] [Ag p.c]
def Zw1:Af (Zg 297 Tryz.f297):={ m:=_ }
def Zw2:Za:=Aa Zw1 21
def Zw3:Za:=Aa Zw1 41
def Zw4:Ab:=Zp Zw1 21 Zw2 41 Zw3
def MS(a:List ZD)(a1:Int):Rs:=C 297 [L 3 (a.map ZD.c),I a1] []
def Tx(x:V2)(x1:XS)(x2:V2)(l:List ZD)(n cc i:Int):Rs:=lp C [.blk 0,.seq Zw3,.fin 0 [.cellO 4 (some 3) [some (3,1),some (38,1),some (3,1)],.tmpO 5 [none]]] [0,1,4,6,7,8] Zw2 [L 3 (l.map ZD.c),I n,.ptr 0 0,I cc,.ptr 1 0,I i] [.box [.t .nil,.t .nil,.t .nil],.box [.own 2,.own 3,.own 4],Zm x,Z3 x1,Zm x2]
def Z86:Ab:=AG (Zg 292 Tryz.f292)
def ZoG(a:Zs)(a1:Zc)(a2:Int):Rs:=C 292 [Ap a.c,Ap a1.c,I a2] []
def Z87:Ab:=AG (Zg 301 Tryz.f301)
def W7(a:Int):Rs:=C 301 [I a] []
def Ie:Af (Zg 299 Tryz.f299):={ m:=_ }
def Zw5:Za:=Aa Ie 19
def Zw6:Za:=Aa Ie 51
def Zw7:Za:=Aa Ie 61
def Zw8:Za:=Aa Ie 66
def ZoH:Za:=BR Ie 36 15 Zw6 25 Zw7 30 Zw8
def Zw9:Za:=Aa Ie 67
def ZwA:Za:=AJ Ie 31 5 ZoH 36 Zw9
def Z88:Ab:=Zp Ie 19 Zw5 31 ZwA
def kM(a:Program):Rs:=C 299 [Ap a.c] []
def ZwB:=lp C [.blk 0,.seq ZwA,.fin 0 [.cellO 2 (some 7) [some (3,1),some (3,1),some (305,1),some (293,2),some (293,2),none,none],.tmpO 3 [none]]] [1,2,4,5,6] Zw5
def ZwC(p:Program)(cd cc:Zb)(n k:Int):Rs:=ZwB [.ptr 0 0,.ptr 1 0,I n,.ptr 2 0,I k] [Ag p.c,.box [.t .nil,.t .nil,.t .nil,.t .nil,.t .nil,I cd.Num,I cd.Den],.box [.t .nil,.t .nil,.t .nil,.t .nil,.t .nil,I cc.Num,I cc.Den]]
def kN(p:Program)(cd cc:Zb)(x:V2)(x1:List Zb)(n k:Int):Rs:=ZwB [.ptr 0 0,.ptr 1 0,I n,.ptr 2 0,I k] [Ag p.c,.box [.t .nil,.t .nil,.t .nil,.t .nil,.t .nil,I cd.Num,I cd.Den],.box [.t .nil,.own 3,.t .nil,.t .nil,.own 4,I cc.Num,I cc.Den],Zm x,ZW x1]
def ZwD:List Fr:=[.blk 2,.seq Zw9,.fin 0 [.cellO 2 (some 7) [some (3,1),some (3,1),some (305,1),some (293,2),some (293,2),none,none],.tmpO 3 [none]]]
def ZoI:=lp C ZwD [1,2,4,5,7] ZoH
def Z89(p:Program)(cd cc:Zb)(n i:Int):Rs:=ZoI [.ptr 0 0,.ptr 1 0,I n,.ptr 2 0,I i] [Ag p.c,.box [.t .nil,.t .nil,.t .nil,.t .nil,.t .nil,I cd.Num,I cd.Den],.box [.t .nil,.t .nil,.t .nil,.t .nil,.t .nil,I cc.Num,I cc.Den]]
def ZwE(p:Program)(cd cc:Zb)(x:V2)(x1:List Zb)(n i:Int):Rs:=ZoI [.ptr 0 0,.ptr 1 0,I n,.ptr 2 0,I i] [Ag p.c,.box [.t .nil,.t .nil,.t .nil,.t .nil,.t .nil,I cd.Num,I cd.Den],.box [.t .nil,.own 3,.t .nil,.t .nil,.own 4,I cc.Num,I cc.Den],Zm x,ZW x1]
def ZwF:=lp C (.blk 4::.seq Zw7::.blk 3::.seq Zw8::.loop [1,2,4,5,7] ZoH::ZwD) [1,2,4,5,7,8,9] Zw6
def kO(p:Program)(cd cc:Zb)(x:V2)(x1 cl:List Zb)(n i k:Int):Rs:=ZwF [.ptr 0 0,.ptr 1 0,I n,.ptr 2 0,I i,.own 5,I k] [Ag p.c,.box [.t .nil,.t .nil,.t .nil,.t .nil,.t .nil,I cd.Num,I cd.Den],.box [.t .nil,.own 3,.t .nil,.t .nil,.own 4,I cc.Num,I cc.Den],Zm x,ZW x1,ZW cl]
def MT(p:Program)(cd cc:Zb)(x x1:V2)(x2:List (List Zb))(x3 x4:List Zb)(n i:Int):Rs:=ZoI [.ptr 0 0,.ptr 1 0,I n,.ptr 2 0,I i] [Ag p.c,.box [.t .nil,.t .nil,.t .nil,.t .nil,.t .nil,I cd.Num,I cd.Den],.box [.own 3,.own 4,.own 5,.own 6,.own 7,I cc.Num,I cc.Den],Zm x,Zm x1,.arr 305 1 true (x2.map (lc 2 Zb.c)),ZW x3,ZW x4]
def kP(p:Program)(cd cc:Zb)(x x1:V2)(x2:List (List Zb))(x3 x4 cl:List Zb)(n i k:Int):Rs:=ZwF [.ptr 0 0,.ptr 1 0,I n,.ptr 2 0,I i,.own 8,I k] [Ag p.c,.box [.t .nil,.t .nil,.t .nil,.t .nil,.t .nil,I cd.Num,I cd.Den],.box [.own 3,.own 4,.own 5,.own 6,.own 7,I cc.Num,I cc.Den],Zm x,Zm x1,.arr 305 1 true (x2.map (lc 2 Zb.c)),ZW x3,ZW x4,ZW cl]
def Z8A:Ab:=AG (Zg 295 Tryz.f295)
def MU(a:Int):Rs:=C 295 [I a] []
def ZwG:Af (Zg 294 Tryz.f294):={ m:=_ }
def ZwH:Za:=Aa ZwG 5
def ZwI:Za:=Aa ZwG 17
def Z8B:Ab:=Zp ZwG 5 ZwH 17 ZwI
def MV(a a1:Int):Rs:=C 294 [I a,I a1] []
def kQ(a b:Int):Rs:=lp C [.blk 0,.seq ZwI,.fin 0 [.tmp 4]] [0,1] ZwH [I a,I b] []
def Z8C:Ab:=AG (Zg 283 Tryz.f283)
def WL(a:Zb):Rs:=C 283 [Ap a.c] []
def ZwJ:Af (Zg 319 Tryz.f319):={ m:=_ }
def ZwK:Za:=Aa ZwJ 7
def ZwL:Za:=Aa ZwJ 23
def Z8D:Ab:=Zp ZwJ 7 ZwK 23 ZwL
def Ty(a:List Zb):Rs:=C 319 [JX a] []
def kR(l:List Zb)(i:Int):Rs:=lp C [.blk 0,.seq ZwL,.fin 0 [.tmp 2]] [0,3] ZwK [JX l,I i] []
def kS:Af (Zg 309 Tryz.f309):={ m:=_ }
def ZwM:Za:=Aa kS 21
def ZwN:Za:=Aa kS 42
def ZwO:Za:=Aa kS 58
def ZwP:Za:=AJ kS 37 5 ZwN 21 ZwO
def Z8E:Ab:=Zp kS 21 ZwM 37 ZwP
def Ig(a:Zv):Rs:=C 309 [Ap a.c] []
def kT(d:Zv)(all:V2)(m n i:Int):Rs:=lp C [.blk 0,.seq ZwP,.fin 0 [.tmp 2]] [1,3,4,5,6] ZwM [.ptr 0 0,I m,I n,.own 1,I i] [Ag d.c,Zm all]
def kU(d:Zv)(m n i:Int):Rs:=lp C [.blk 2,.seq ZwO,.fin 0 [.tmp 2]] [1,3,4,7] ZwN [.ptr 0 0,I m,I n,I i] [Ag d.c]
def ZoJ:Af (Zg 300 Tryz.f300):={ m:=_ }
def Z8F:Za:=Aa ZoJ 30
def ZwQ:Za:=Aw ZoJ 17 13 Z8F
def ZwR:Za:=Aa ZoJ 31
def Z8G:Ab:=Zp ZoJ 17 ZwQ 31 ZwR
def kV(a:Zv):Rs:=C 300 [Ap a.c] []
def Ih(d:Zv)(cc j:Int):Rs:=lp C [.blk 0,.seq ZwR,.fin 0 [.tmp 2]] [1,3,4] ZwQ [.ptr 0 0,I cc,I j] [Ag d.c]
def Z8H:Af (Zg 320 Tryz.f320):={ m:=_ }
def Z8I:Za:=Aa Z8H 18
def Z8J:Ab:=Vu Z8H 18 Z8I
def GE(a a1:Int):Rs:=C 320 [I a,I a1] []
def Z8K:Ab:=AG (Zg 310 Tryz.f310)
def GF(a a1:Zb):Rs:=C 310 [Ap a.c,Ap a1.c] []
def Z8L:Ab:=AG (Zg 311 Tryz.f311)
def ZoK(a a1:Zb):Rs:=C 311 [Ap a.c,Ap a1.c] []
def ZoL:Af (Zg 302 Tryz.f302):={ m:=_ }
def Z8M:Za:=Aa ZoL 52
def ZwS:Za:=Aw ZoL 19 33 Z8M
def ZwT:Za:=Aa ZoL 53
def Z8N:Ab:=Zp ZoL 19 ZwS 53 ZwT
def kW(a:Zv)(a1:Int):Rs:=C 302 [Ap a.c,I a1] []
def Tz(d:Zv)(least:Zb)(j cc i:Int):Rs:=lp C [.blk 0,.seq ZwT,.fin 0 [.tmp 4]] [1,2,5,6,7] ZwS [I j,.ptr 0 0,I cc,.ptr 1 0,I i] [Ag d.c,Ag least.c]
def Z8O:Ab:=AG (Zg 313 Tryz.f313)
def GG(a a1:Zb):Rs:=C 313 [Ap a.c,Ap a1.c] []
def Z8P:Ab:=AG (Zg 321 Tryz.f321)
def ZoM(a a1:Zb):Rs:=C 321 [Ap a.c,Ap a1.c] []
def Z8Q:Ab:=AG (Zg 312 Tryz.f312)
def Vd(a a1 a2:Zb):Rs:=C 312 [Ap a.c,Ap a1.c,Ap a2.c] []
def Z8R:Ab:=AG (Zg 314 Tryz.f314)
def Ii(a a1:Zb):Rs:=C 314 [Ap a.c,Ap a1.c] []
def QC:Af (Zg 303 Tryz.f303):={ m:=_ }
def Z8S:Za:=Aa QC 37
def ZwU:Za:=Aw QC 21 16 Z8S
def Z8T:Za:=Aa QC 97
def ZwV:Za:=Aw QC 81 16 Z8T
def ZwW:Za:=Aa QC 103
def ZwX:Za:=Aa QC 110
def ZoN:Za:=BR QC 56 25 ZwV 47 ZwW 54 ZwX
def Z8U:Za:=Aa QC 132
def ZwY:Za:=Aw QC 116 16 Z8U
def MW:Za:=Aa QC 138
def ZwZ:Za:=AJ QC 111 5 ZwY 27 MW
def Zxa:Za:=AJ QC 41 15 ZoN 70 ZwZ
def Z8V:Ab:=Zp QC 21 ZwU 41 Zxa
def TC(a:Zv)(a1 a2:Int):Rs:=C 303 [Ap a.c,I a1,I a2] []
def kX(d:Zv)(cc a:Zb)(cd:List Zb)(i j:Int)(cl:Bool)(k:Int):Rs:=lp C [.blk 0,.seq Zxa,.fin 0 [.cellO 6 (some 7) [some (3,1),some (3,1),some (305,1),some (293,2),some (293,2),none,none],.tmpO 7 [none]]] [1,2,3,6,8,9,10,11] ZwU [I i,I j,.ptr 0 0,.ptr 1 0,Bo cl,.ptr 2 0,.own 3,I k] [Ag d.c,.box [.t .nil,.t .nil,.t .nil,.t .nil,.t .nil,I cc.Num,I cc.Den],Ag a.c,ZW cd]
def Zxb:List Fr:=[.blk 2,.seq ZwZ,.fin 0 [.cellO 6 (some 7) [some (3,1),some (3,1),some (305,1),some (293,2),some (293,2),none,none],.tmpO 7 [none]]]
def ZoO:=lp C Zxb [1,2,3,6,8,10,14,16,17] ZoN
def ZoP(d:Zv)(cd:Zb)(cl:List Zb)(limit cc:Zb)(x x1:V2)(i j:Int)(cn:Bool)(co:Int):Rs:=ZoO [I i,I j,.ptr 0 0,.ptr 1 0,Bo cn,.own 2,.ptr 3 0,.ptr 4 0,I co] [Ag d.c,.box [.t .nil,.t .nil,.t .nil,.t .nil,.t .nil,I cd.Num,I cd.Den],ZW cl,Ag limit.c,.box [.own 5,.own 6,.t .nil,.t .nil,.t .nil,I cc.Num,I cc.Den],Zm x,Zm x1]
def Ij(d:Zv)(cd limit cc:Zb)(x x1:V2)(fr:Bool)(x2:List (List Zb))(x3:List Zb)(i j:Int)(cn:Bool)(cl:List Zb)(co:Int):Rs:=ZoO [I i,I j,.ptr 0 0,.ptr 1 0,Bo cn,JX cl,.ptr 2 0,.ptr 3 0,I co] [Ag d.c,.box [.t .nil,.t .nil,.t .nil,.t .nil,.t .nil,I cd.Num,I cd.Den],Ag limit.c,.box [.own 4,.own 5,.own 6,.own 7,.t .nil,I cc.Num,I cc.Den],Zm x,Zm x1,.arr 305 1 fr (x2.map (lc 2 Zb.c)),ZW x3]
def ZoQ:=lp C (.blk 4::.seq ZwW::.blk 3::.seq ZwX::.loop [1,2,3,6,8,10,14,16,17] ZoN::Zxb) [1,2,3,6,8,10,14,16,17,18,19] ZwV
def kY(d:Zv)(cd:Zb)(cl:List Zb)(limit cc:Zb)(x x1:V2)(cp:List Zb)(i j:Int)(cn:Bool)(co k:Int):Rs:=ZoQ [I i,I j,.ptr 0 0,.ptr 1 0,Bo cn,.own 2,.ptr 3 0,.ptr 4 0,I co,.own 7,I k] [Ag d.c,.box [.t .nil,.t .nil,.t .nil,.t .nil,.t .nil,I cd.Num,I cd.Den],ZW cl,Ag limit.c,.box [.own 5,.own 6,.t .nil,.t .nil,.t .nil,I cc.Num,I cc.Den],Zm x,Zm x1,ZW cp]
def MX:=lp C [.blk 6,.seq MW,.fin 0 [.cellO 6 (some 7) [some (3,1),some (3,1),some (305,1),some (293,2),some (293,2),none,none],.tmpO 7 [none]]] [2,3,6,8,10,14,16,25] ZwY
def ZoR(d:Zv)(cd:Zb)(cl:List Zb)(limit cc:Zb)(x x1:V2)(j:Int)(cn:Bool)(k:Int):Rs:=MX [I j,.ptr 0 0,.ptr 1 0,Bo cn,.own 2,.ptr 3 0,.ptr 4 0,I k] [Ag d.c,.box [.t .nil,.t .nil,.t .nil,.t .nil,.t .nil,I cd.Num,I cd.Den],ZW cl,Ag limit.c,.box [.own 5,.own 6,.t .nil,.t .nil,.t .nil,I cc.Num,I cc.Den],Zm x,Zm x1]
def kZ(d:Zv)(cd limit cc:Zb)(x x1:V2)(fr:Bool)(x2:List (List Zb))(x3 cp:List Zb)(i j:Int)(cn:Bool)(cl:List Zb)(co k:Int):Rs:=ZoQ [I i,I j,.ptr 0 0,.ptr 1 0,Bo cn,JX cl,.ptr 2 0,.ptr 3 0,I co,.own 8,I k] [Ag d.c,.box [.t .nil,.t .nil,.t .nil,.t .nil,.t .nil,I cd.Num,I cd.Den],Ag limit.c,.box [.own 4,.own 5,.own 6,.own 7,.t .nil,I cc.Num,I cc.Den],Zm x,Zm x1,.arr 305 1 fr (x2.map (lc 2 Zb.c)),ZW x3,ZW cp]
def lA(d:Zv)(cd limit cc:Zb)(x x1:V2)(fr:Bool)(x2:List (List Zb))(x3:List Zb)(j:Int)(cn:Bool)(cl:List Zb)(k:Int):Rs:=MX [I j,.ptr 0 0,.ptr 1 0,Bo cn,JX cl,.ptr 2 0,.ptr 3 0,I k] [Ag d.c,.box [.t .nil,.t .nil,.t .nil,.t .nil,.t .nil,I cd.Num,I cd.Den],Ag limit.c,.box [.own 4,.own 5,.own 6,.own 7,.t .nil,I cc.Num,I cc.Den],Zm x,Zm x1,.arr 305 1 fr (x2.map (lc 2 Zb.c)),ZW x3]
def MY(d:Zv)(cd:Zb)(cl:List Zb)(limit cc:Zb)(x x1:V2)(fr:Bool)(x2:List (List Zb))(x3:List Zb)(i j:Int)(cn:Bool)(co:Int):Rs:=ZoO [I i,I j,.ptr 0 0,.ptr 1 0,Bo cn,.own 2,.ptr 3 0,.ptr 4 0,I co] [Ag d.c,.box [.t .nil,.t .nil,.t .nil,.t .nil,.t .nil,I cd.Num,I cd.Den],ZW cl,Ag limit.c,.box [.own 5,.own 6,.own 7,.own 8,.t .nil,I cc.Num,I cc.Den],Zm x,Zm x1,.arr 305 1 fr (x2.map (lc 2 Zb.c)),ZW x3]
def Z8W(d:Zv)(cd:Zb)(cl:List Zb)(limit cc:Zb)(x x1:V2)(x2:List Zb)(j:Int)(cn:Bool)(k:Int):Rs:=MX [I j,.ptr 0 0,.ptr 1 0,Bo cn,.own 2,.ptr 3 0,.ptr 4 0,I k] [Ag d.c,.box [.t .nil,.t .nil,.t .nil,.t .nil,.t .nil,I cd.Num,I cd.Den],ZW cl,Ag limit.c,.box [.own 5,.own 6,.t .nil,.t .nil,.own 7,I cc.Num,I cc.Den],Zm x,Zm x1,ZW x2]
def Zxc(d:Zv)(cd:Zb)(cl:List Zb)(limit cc:Zb)(x x1:V2)(j:Int)(cn:Bool)(k:Int)(x2:Bool):Rs:=Ev C [.fin 0 [.cellO 6 (some 7) [some (3,1),some (3,1),some (305,1),some (293,2),some (293,2),none,none],.tmpO 7 [none]]] MW ⟨[(2,I j),(3,.ptr 0 0),(6,.ptr 1 0),(8,Bo cn),(10,.own 2),(14,.ptr 3 0),(16,.ptr 4 0),(25,I k),(265,Bo x2)],[[]],[Ag d.c,.box [.t .nil,.t .nil,.t .nil,.t .nil,.t .nil,I cd.Num,I cd.Den],ZW cl,Ag limit.c,.box [.own 5,.own 6,.t .nil,.t .nil,.t .nil,I cc.Num,I cc.Den],Zm x,Zm x1]⟩
def lB(d:Zv)(cd limit cc:Zb)(x x1:V2)(fr:Bool)(x2:List (List Zb))(x3 x4:List Zb)(j:Int)(cn:Bool)(cl:List Zb)(k:Int):Rs:=MX [I j,.ptr 0 0,.ptr 1 0,Bo cn,JX cl,.ptr 2 0,.ptr 3 0,I k] [Ag d.c,.box [.t .nil,.t .nil,.t .nil,.t .nil,.t .nil,I cd.Num,I cd.Den],Ag limit.c,.box [.own 4,.own 5,.own 6,.own 7,.own 8,I cc.Num,I cc.Den],Zm x,Zm x1,.arr 305 1 fr (x2.map (lc 2 Zb.c)),ZW x3,ZW x4]
def Zxd(d:Zv)(cd limit cc:Zb)(x x1:V2)(fr:Bool)(x2:List (List Zb))(x3:List Zb)(j:Int)(cn:Bool)(cl:List Zb)(k:Int)(x4:Bool):Rs:=Ev C [.fin 0 [.cellO 6 (some 7) [some (3,1),some (3,1),some (305,1),some (293,2),some (293,2),none,none],.tmpO 7 [none]]] MW ⟨[(2,I j),(3,.ptr 0 0),(6,.ptr 1 0),(8,Bo cn),(10,JX cl),(14,.ptr 2 0),(16,.ptr 3 0),(25,I k),(265,Bo x4)],[[]],[Ag d.c,.box [.t .nil,.t .nil,.t .nil,.t .nil,.t .nil,I cd.Num,I cd.Den],Ag limit.c,.box [.own 4,.own 5,.own 6,.own 7,.t .nil,I cc.Num,I cc.Den],Zm x,Zm x1,.arr 305 1 fr (x2.map (lc 2 Zb.c)),ZW x3]⟩
def lC(d:Zv)(cd:Zb)(cl:List Zb)(limit cc:Zb)(x x1:V2)(fr:Bool)(x2:List (List Zb))(x3 cp:List Zb)(i j:Int)(cn:Bool)(co k:Int):Rs:=ZoQ [I i,I j,.ptr 0 0,.ptr 1 0,Bo cn,.own 2,.ptr 3 0,.ptr 4 0,I co,.own 9,I k] [Ag d.c,.box [.t .nil,.t .nil,.t .nil,.t .nil,.t .nil,I cd.Num,I cd.Den],ZW cl,Ag limit.c,.box [.own 5,.own 6,.own 7,.own 8,.t .nil,I cc.Num,I cc.Den],Zm x,Zm x1,.arr 305 1 fr (x2.map (lc 2 Zb.c)),ZW x3,ZW cp]
def ZoS(d:Zv)(cd:Zb)(cl:List Zb)(limit cc:Zb)(x x1:V2)(fr:Bool)(x2:List (List Zb))(x3:List Zb)(j:Int)(cn:Bool)(k:Int):Rs:=MX [I j,.ptr 0 0,.ptr 1 0,Bo cn,.own 2,.ptr 3 0,.ptr 4 0,I k] [Ag d.c,.box [.t .nil,.t .nil,.t .nil,.t .nil,.t .nil,I cd.Num,I cd.Den],ZW cl,Ag limit.c,.box [.own 5,.own 6,.own 7,.own 8,.t .nil,I cc.Num,I cc.Den],Zm x,Zm x1,.arr 305 1 fr (x2.map (lc 2 Zb.c)),ZW x3]
def lD(d:Zv)(cd limit cc:Zb)(x x1:V2)(fr:Bool)(x2:List (List Zb))(x3 x4:List Zb)(j:Int)(cn:Bool)(cl:List Zb)(k:Int)(x5:Bool):Rs:=Ev C [.fin 0 [.cellO 6 (some 7) [some (3,1),some (3,1),some (305,1),some (293,2),some (293,2),none,none],.tmpO 7 [none]]] MW ⟨[(2,I j),(3,.ptr 0 0),(6,.ptr 1 0),(8,Bo cn),(10,JX cl),(14,.ptr 2 0),(16,.ptr 3 0),(25,I k),(265,Bo x5)],[[]],[Ag d.c,.box [.t .nil,.t .nil,.t .nil,.t .nil,.t .nil,I cd.Num,I cd.Den],Ag limit.c,.box [.own 4,.own 5,.own 6,.own 7,.own 8,I cc.Num,I cc.Den],Zm x,Zm x1,.arr 305 1 fr (x2.map (lc 2 Zb.c)),ZW x3,ZW x4]⟩
def Z8X(d:Zv)(cd:Zb)(cl:List Zb)(limit cc:Zb)(x x1:V2)(fr:Bool)(x2:List (List Zb))(x3 x4:List Zb)(j:Int)(cn:Bool)(k:Int):Rs:=MX [I j,.ptr 0 0,.ptr 1 0,Bo cn,.own 2,.ptr 3 0,.ptr 4 0,I k] [Ag d.c,.box [.t .nil,.t .nil,.t .nil,.t .nil,.t .nil,I cd.Num,I cd.Den],ZW cl,Ag limit.c,.box [.own 5,.own 6,.own 7,.own 8,.own 9,I cc.Num,I cc.Den],Zm x,Zm x1,.arr 305 1 fr (x2.map (lc 2 Zb.c)),ZW x3,ZW x4]
def Zxe(d:Zv)(cd:Zb)(cl:List Zb)(limit cc:Zb)(x x1:V2)(fr:Bool)(x2:List (List Zb))(x3:List Zb)(j:Int)(cn:Bool)(k:Int)(x4:Bool):Rs:=Ev C [.fin 0 [.cellO 6 (some 7) [some (3,1),some (3,1),some (305,1),some (293,2),some (293,2),none,none],.tmpO 7 [none]]] MW ⟨[(2,I j),(3,.ptr 0 0),(6,.ptr 1 0),(8,Bo cn),(10,.own 2),(14,.ptr 3 0),(16,.ptr 4 0),(25,I k),(265,Bo x4)],[[]],[Ag d.c,.box [.t .nil,.t .nil,.t .nil,.t .nil,.t .nil,I cd.Num,I cd.Den],ZW cl,Ag limit.c,.box [.own 5,.own 6,.own 7,.own 8,.t .nil,I cc.Num,I cc.Den],Zm x,Zm x1,.arr 305 1 fr (x2.map (lc 2 Zb.c)),ZW x3]⟩
def UE:Af (Zg 293 Tryz.f293):={ m:=_ }
def Zxf:Za:=Aa UE 38
def Zxg:Za:=Aa UE 53
def Z8Y:Za:=Aa UE 81
def Zxh:Za:=Aw UE 68 13 Z8Y
def Z8Z:Za:=Aa UE 100
def Zxi:Za:=Aw UE 87 13 Z8Z
def Zxj:Za:=Aa UE 101
def Zxk:Za:=AJ UE 82 5 Zxi 19 Zxj
def Zxl:Za:=AJ UE 63 5 Zxh 19 Zxk
def Zxm:Za:=AJ UE 48 5 Zxg 15 Zxl
def TD:Za:=Aa UE 105
def TE:Za:=Aa UE 126
def MZ:Za:=fH UE 17 21 Zxf 31 Zxm 88 TD 109 TE
def Zxn:Za:=Aa UE 127
def Z9a:Ab:=Zp UE 17 MZ 127 Zxn
def lE(a:Program):Rs:=C 293 [Ap a.c] []
def TF:List Fr:=[.blk 0,.seq Zxn,.fin 0 [.cellO 2 (some 4) [none,none,some (293,2),some (293,2)],.tmpO 3 [none]]]
def GH(p:Program)(cc:Zb)(d:Zv)(n:Int):Rs:=lp C TF [1,2,4,6] MZ [.ptr 0 0,.ptr 1 0,.ptr 2 0,I n] [Ag p.c,.box [I cc.Num,I cc.Den,.t .nil,.t .nil],Ag d.c]
def Zxo:=lp C (.blk 2::.seq Zxm::.seq TD::.blk 1::.seq TE::.loop [1,2,4,6] MZ::TF) [1,2,4,8,9] Zxf
def ZoT(p:Program)(cd:Zb)(d:Zv)(cc:Zb)(k:Int):Rs:=Zxo [.ptr 0 0,.ptr 1 0,.ptr 2 0,.ptr 3 0,I k] [Ag p.c,.box [I cd.Num,I cd.Den,.t .nil,.t .nil],Ag d.c,.box [I cc.Num,I cc.Den,.t .nil,.t .nil]]
def lF(p:Program)(cd:Zb)(d:Zv)(cc:Zb)(x:List Zb)(k:Int):Rs:=Zxo [.ptr 0 0,.ptr 1 0,.ptr 2 0,.ptr 3 0,I k] [Ag p.c,.box [I cd.Num,I cd.Den,.t .nil,.t .nil],Ag d.c,.box [I cc.Num,I cc.Den,.own 4,.t .nil],ZW x]
def ZoU:=lp C (.blk 4::.seq Zxl::.seq TD::.blk 1::.seq TE::.loop [1,2,4,6] MZ::TF) [1,2,4,8,10] Zxg
def Z9b(p:Program)(cd:Zb)(d:Zv)(cc:Zb)(i:Int):Rs:=ZoU [.ptr 0 0,.ptr 1 0,.ptr 2 0,.ptr 3 0,I i] [Ag p.c,.box [I cd.Num,I cd.Den,.t .nil,.t .nil],Ag d.c,.box [I cc.Num,I cc.Den,.t .nil,.t .nil]]
def Zxp(p:Program)(cd:Zb)(d:Zv)(cc:Zb)(x:List Zb)(i:Int):Rs:=ZoU [.ptr 0 0,.ptr 1 0,.ptr 2 0,.ptr 3 0,I i] [Ag p.c,.box [I cd.Num,I cd.Den,.t .nil,.t .nil],Ag d.c,.box [I cc.Num,I cc.Den,.own 4,.t .nil],ZW x]
def lG(p:Program)(cd:Zb)(d:Zv)(cc:Zb)(x x1:List Zb)(i:Int):Rs:=ZoU [.ptr 0 0,.ptr 1 0,.ptr 2 0,.ptr 3 0,I i] [Ag p.c,.box [I cd.Num,I cd.Den,.t .nil,.t .nil],Ag d.c,.box [I cc.Num,I cc.Den,.own 4,.own 5],ZW x,ZW x1]
def Zxq:=lp C (.blk 6::.seq Zxk::.seq TD::.blk 1::.seq TE::.loop [1,2,4,6] MZ::TF) [1,2,4,8,11] Zxh
def Z9c(p:Program)(cd:Zb)(d:Zv)(cc:Zb)(x:List Zb)(i:Int):Rs:=Zxq [.ptr 0 0,.ptr 1 0,.ptr 2 0,.ptr 3 0,I i] [Ag p.c,.box [I cd.Num,I cd.Den,.t .nil,.t .nil],Ag d.c,.box [I cc.Num,I cc.Den,.own 4,.t .nil],ZW x]
def TG(p:Program)(cd:Zb)(d:Zv)(cc:Zb)(x x1:List Zb)(i:Int):Rs:=Zxq [.ptr 0 0,.ptr 1 0,.ptr 2 0,.ptr 3 0,I i] [Ag p.c,.box [I cd.Num,I cd.Den,.t .nil,.t .nil],Ag d.c,.box [I cc.Num,I cc.Den,.own 4,.own 5],ZW x,ZW x1]
def TH(p:Program)(cd:Zb)(d:Zv)(cc:Zb)(x x1:List Zb)(k:Int):Rs:=lp C (.blk 8::.seq Zxj::.seq TD::.blk 1::.seq TE::.loop [1,2,4,6] MZ::TF) [1,2,4,8,12] Zxi [.ptr 0 0,.ptr 1 0,.ptr 2 0,.ptr 3 0,I k] [Ag p.c,.box [I cd.Num,I cd.Den,.t .nil,.t .nil],Ag d.c,.box [I cc.Num,I cc.Den,.own 4,.own 5],ZW x,ZW x1]
def Z9d:Ab:=AG (Zg 282 Tryz.f282)
def ZoV(a:Zs)(a1:Zc)(a2:Int):Rs:=C 282 [Ap a.c,Ap a1.c,I a2] []
def Z9e:Ab:=AG (Zg 267 Tryz.f267)
def lH(a:Zs)(a1:Zc)(a2:Int):Rs:=C 267 [Ap a.c,Ap a1.c,I a2] []
def Z9f:Af (Zg 285 Tryz.f285):={ m:=_ }
def Z9g:Za:=Aa Z9f 18
def Z9h:Ab:=Vu Z9f 18 Z9g
def ZoW(a:Zb):Rs:=C 285 [Ap a.c] []
def Z9i:Ab:=AG (Zg 284 Tryz.f284)
def Zxr(a:Int):Rs:=C 284 [I a] []
def Zxs:Af (Zg 286 Tryz.f286):={ m:=_ }
def Zxt:Za:=Aa Zxs 9
def Zxu:Za:=Aa Zxs 27
def Z9j:Ab:=Zp Zxs 9 Zxt 27 Zxu
def ZoX(a a1 a2:Int):Rs:=C 286 [I a,I a1,I a2] []
def lI(n c cc x i:Int):Rs:=lp C [.blk 0,.seq Zxu,.fin 0 [.tmp 6]] [0,1,2,7,8] Zxt [I n,I c,I cc,I x,I i] []
def Zxv:Af (Zg 268 Tryz.f268):={ m:=_ }
def Zxw:Za:=Aa Zxv 23
def Zxx:Za:=Aa Zxv 31
def Z9k:Ab:=Zp Zxv 23 Zxw 31 Zxx
def lJ(a:Zb):Rs:=C 268 [Ap a.c] []
def lK(Bd:Zb)(n:Int):Rs:=lp C [.blk 0,.seq Zxx,.fin 0 [.tmp 2]] [1,3] Zxw [.ptr 0 0,I n] [Ag Bd.c]
def Zxy:Af (Zg 236 Tryz.f236):={ m:=_ }
def Zxz:Za:=Aa Zxy 15
def Zx0:Za:=Aa Zxy 31
def Z9l:Ab:=Zp Zxy 15 Zxz 31 Zx0
def TI(a:Zs)(a1:Zc)(a2:Int):Rs:=C 236 [Ap a.c,Ap a1.c,I a2] []
def lL(s:Zs)(q:Zc)(cc i:Int):Rs:=lp C [.blk 0,.seq Zx0,.fin 0 [.tmp 6]] [2,3,4,7] Zxz [I cc,.ptr 0 0,.ptr 1 0,I i] [Ag s.c,Ag q.c]
def ZoY:Af (Zg 214 Tryz.f214):={ m:=_ }
def Z9m:Za:=Aa ZoY 54
def lM:Za:=Aw ZoY 40 14 Z9m
def Z9n:Za:=Aw ZoY 24 16 lM
def Z9o:Ab:=Vu ZoY 24 Z9n
def lN(a:Zs)(a1:Zc)(a2:Int):Rs:=C 214 [Ap a.c,Ap a1.c,I a2] []
def lO(s:Zs)(q:Zc)(l:V2)(cc n cd:Int):Rs:=Ev C [.fin 0 [.tmp 6,.tmp 7]] lM ⟨[(2,I cc),(3,.ptr 0 0),(4,.ptr 1 0),(8,I n),(9,I cd),(11,.own 2)],[[]],[Ag s.c,Ag q.c,Zm l]⟩
def lP(s:Zs)(q:Zc)(l:V2)(cc n cd x:Int)(x1:Bool):Rs:=Ev C [.fin 0 [.tmp 6,.tmp 7]] lM ⟨[(2,I cc),(3,.ptr 0 0),(4,.ptr 1 0),(8,I n),(9,I cd),(10,I x),(11,.own 2),(45,Bo x1)],[[]],[Ag s.c,Ag q.c,Zm l]⟩
def lQ(s:Zs)(q:Zc)(l:V2)(cc n cd:Int)(x:Bool):Rs:=Ev C [.fin 0 [.tmp 6,.tmp 7]] lM ⟨[(2,I cc),(3,.ptr 0 0),(4,.ptr 1 0),(8,I n),(9,I cd),(11,.own 2),(33,Bo x)],[[]],[Ag s.c,Ag q.c,Zm l]⟩
def Z9p:Ab:=AG (Zg 175 Tryz.f175)
def ZoZ(a:Zs)(a1:Zc)(a2:Int):Rs:=C 175 [Ap a.c,Ap a1.c,I a2] []
def Zpa:Af (Zg 108 Tryz.f108):={ m:=_ }
def Z9q:Za:=Aa Zpa 33
def Zx1:Za:=Aw Zpa 17 16 Z9q
def Zx2:Za:=Aa Zpa 35
def Z9r:Ab:=Zp Zpa 17 Zx1 35 Zx2
def Zpb(a:Zs)(a1:Zc):Rs:=C 108 [Ap a.c,Ap a1.c] []
def TJ(s:Zs)(q:Zc)(cc:V2)(m:Int):Rs:=lp C [.blk 0,.seq Zx2,.fin 0 [.tmp 4]] [2,3,5,6] Zx1 [.ptr 0 0,.ptr 1 0,.own 2,I m] [Ag s.c,Ag q.c,Zm cc]
def Zx3:Af (Zg 89 Tryz.f89):={ m:=_ }
def Zx4:Za:=Aa Zx3 17
def Zx5:Za:=Aa Zx3 27
def Z9s:Ab:=Zp Zx3 17 Zx4 27 Zx5
def Kn(a:Int):Rs:=C 89 [I a] []
def TK(k n i:Int):Rs:=lp C [.blk 0,.seq Zx5,.fin 0 [.tmp 2]] [0,3,4] Zx4 [I k,I n,I i] []
def Zx6:Af (Zg 45 Tryz.f45):={ m:=_ }
def Zx7:Za:=Aa Zx6 15
def Zx8:Za:=Aa Zx6 31
def Z9t:Ab:=Zp Zx6 15 Zx7 31 Zx8
def Uo(a:Int):Rs:=C 45 [I a] []
def lR(n k:Int):Rs:=lp C [.blk 0,.seq Zx8,.fin 0 [.tmp 2]] [0,3] Zx7 [I n,I k] []
def Zx9:Af (Zg 52 Tryz.f52):={ m:=_ }
def ZxA:Za:=Aa Zx9 21
def ZxB:Za:=Aa Zx9 33
def Z9u:Ab:=Zp Zx9 21 ZxA 33 ZxB
def lS(a:Zs)(a1:Zc):Rs:=C 52 [Ap a.c,Ap a1.c] []
def ZxC:=lp C [.blk 0,.seq ZxB,.fin 0 [.cellO 4 (some 2) [some (1,0),some (1,0)],.tmpO 5 [none]]] [4,6,7,8,9] ZxA
def Zpc(cc c:V2)(m:Int):Rs:=ZxC [.ptr 0 0,.own 1,.own 2,.ptr 3 0,I m] [.box [.t .nil,.t .nil],Zm cc,Zm c,.box [.t .nil,.t .nil]]
def lT(cc c x x1:V2)(m:Int):Rs:=ZxC [.ptr 0 0,.own 1,.own 2,.ptr 3 0,I m] [.box [.t .nil,.t .nil],Zm cc,Zm c,.box [.own 4,.own 5],Zm x,Zm x1]
def lU:Af (Zg 54 Tryz.f54):={ m:=_ }
def Z9v:Za:=Aa lU 45
def Zpd:Za:=Aw lU 11 34 Z9v
def Z9w:Za:=Aa lU 55
def Zpe:Za:=Aw lU 49 6 Z9w
def Z9x:Ab:=Zp lU 11 Zpd 49 Zpe
def Zpf(x:Zo)(a:Zc):Rs:=C 54 [.ptr 0 0,Ap a.c] [Ag x.c]
def lV(c:Zo)(q:Zc)(x i:Int):Rs:=EvL C [.blk 0,.seq Zpe,.fin 1 [.cellO 4 (some 2) [some (1,0),some (1,0)]]] [0,3,4,5,6,7] Zpd ⟨[(0,.ptr 0 0),(3,.ptr 1 0),(4,.ptr 2 0),(5,.ptr 3 0),(6,I x),(7,I i)],[[(0,.ptr 0 0)]],[Ag c.c,Ag q.c,.box [.t .nil,.t .nil],.box [.t .nil,.t .nil]]⟩
def Qi(c:Zo)(q:Zc)(x x1:V2)(x2 i:Int):Rs:=EvL C [.blk 0,.seq Zpe,.fin 1 [.cellO 4 (some 2) [some (1,0),some (1,0)]]] [0,3,4,5,6,7] Zpd ⟨[(0,.ptr 0 0),(3,.ptr 1 0),(4,.ptr 2 0),(5,.ptr 3 0),(6,I x2),(7,I i)],[[(0,.ptr 0 0)]],[Ag c.c,Ag q.c,.box [.t .nil,.t .nil],.box [.own 4,.own 5],Zm x,Zm x1]⟩
end
