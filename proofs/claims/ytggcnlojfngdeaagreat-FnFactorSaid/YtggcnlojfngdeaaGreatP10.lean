/-
  Parts of the proofs for this seat: D2.
-/
import Derived.Test.YtggcnlojfngdeaaGreatP8
set_option linter.all false
set_option maxRecDepth 100000
set_option maxHeartbeats 4000000
set_option cbv.maxSteps 9999999
namespace Go.Proofs.YtggcnlojfngdeaaGreat
open Go.AM
noncomputable section
def Ra:Ag (Zi 199 Tryz.f199):={ m:=_ }
def xD:Za:=Aa Ra 24
def xE:Za:=Aa Ra 34
def xF:Za:=Aa Ra 35
def xG:Za:=BM Ra 9 15 xD 25 xE 26 xF
def Zt4:Za:=Aa Ra 36
def Z4s:Ab:=Zs Ra 9 xG 36 Zt4
def xH(a:Zu):Rs:=C 199 [Am a.c] []
def xI:List Fr:=[.blk 0,.seq Zt4,.fin 0 [.cellO 2 (some 4) [none,none,none,some (251,3)]]]
def xJ:=lp C xI [1,2,3,4] xG
def xK(s:Zu)(cp:V5)(cn cd:Int)(co:V5)(cl cc i:Int):Rs:=xJ [.ptr 0 0,.ptr 1 0,.ptr 2 0,I i] [Ae s.c,.box [.t (.str cp),I cn,I cd,.t .nil],.box [.t (.str co),I cl,I cc,.t .nil]]
def Rb:=lp C (.blk 2::.seq xE::.blk 1::.seq xF::.loop [1,2,3,4] xG::xI) [1,2,3,4,5,6] xD
def Zt5(s:Zu)(cp:V5)(cn cd:Int)(co:V5)(cl cc:Int)(x x1:WL)(i k:Int):Rs:=Rb [.ptr 0 0,.ptr 1 0,.ptr 2 0,I i,.ptr 3 0,I k] [Ae s.c,.box [.t (.str cp),I cn,I cd,.t .nil],.box [.t (.str co),I cl,I cc,.t .nil],.box [.own 4,.t .nil,.own 5],Zo x,Zo x1]
def dL(s:Zu)(cp:V5)(cn cd:Int)(co:V5)(cl cc:Int)(x:WL)(x1:XV)(x2:WL)(i k:Int):Rs:=Rb [.ptr 0 0,.ptr 1 0,.ptr 2 0,I i,.ptr 3 0,I k] [Ae s.c,.box [.t (.str cp),I cn,I cd,.t .nil],.box [.t (.str co),I cl,I cc,.t .nil],.box [.own 4,.own 5,.own 6],Zo x,Xc x1,Zo x2]
def Jf(s:Zu)(cp:V5)(cn cd:Int)(co:V5)(cl cc:Int)(x:List ZC)(i:Int):Rs:=xJ [.ptr 0 0,.ptr 1 0,.ptr 2 0,I i] [Ae s.c,.box [.t (.str cp),I cn,I cd,.t .nil],.box [.t (.str co),I cl,I cc,.own 3],.arr 251 3 true (x.map ZC.c)]
def xL(s:Zu)(cp:V5)(cn cd:Int)(co:V5)(cl cc:Int)(x:List ZC)(x1 x2:WL)(i k:Int):Rs:=Rb [.ptr 0 0,.ptr 1 0,.ptr 2 0,I i,.ptr 4 0,I k] [Ae s.c,.box [.t (.str cp),I cn,I cd,.t .nil],.box [.t (.str co),I cl,I cc,.own 3],.arr 251 3 true (x.map ZC.c),.box [.own 5,.t .nil,.own 6],Zo x1,Zo x2]
def dM(s:Zu)(cp:V5)(cn cd:Int)(co:V5)(cl cc:Int)(x:List ZC)(x1:WL)(x2:XV)(x3:WL)(i k:Int):Rs:=Rb [.ptr 0 0,.ptr 1 0,.ptr 2 0,I i,.ptr 4 0,I k] [Ae s.c,.box [.t (.str cp),I cn,I cd,.t .nil],.box [.t (.str co),I cl,I cc,.own 3],.arr 251 3 true (x.map ZC.c),.box [.own 5,.own 6,.own 7],Zo x1,Xc x2,Zo x3]
def Zt6:Ag (Zi 175 Tryz.f175):={ m:=_ }
def Zt7:Za:=Aa Zt6 7
def Zt8:Za:=Aa Zt6 23
def Z4t:Ab:=Zs Zt6 7 Zt7 23 Zt8
def xM(a:Z2)(a1:V5):Rs:=C 175 [Am a.c,.t (.str a1)] []
def dN(c:Z2)(cl:V5)(cd cc:Int)(cn:V5)(i:Int):Rs:=lp C [.blk 0,.seq Zt8,.fin 0 [.cellO 4 (some 4) [none,none,none,some (251,3)],.tmpO 5 [none]]] [1,2,4,6] Zt7 [.t (.str cn),.ptr 0 0,.ptr 1 0,I i] [Ae c.c,.box [.t (.str cl),I cd,I cc,.t .nil]]
def Z4u:Ab:=AB (Zi 141 Tryz.f141)
def Q5(a:Zr)(a1:Zc)(a2:Int):Rs:=C 141 [Am a.c,Am a1.c,I a2] []
def xN:Ag (Zi 92 Tryz.f92):={ m:=_ }
def Z4v:Za:=Aa xN 30
def Zt9:Za:=Av xN 17 13 Z4v
def ZtA:Za:=Aa xN 31
def Z4w:Ab:=Zs xN 17 Zt9 31 ZtA
def xO(a:Zr)(a1:Zc)(a2:Int):Rs:=C 92 [Am a.c,Am a1.c,I a2] []
def Rd(s:Zr)(q:Zc)(cc n i:Int):Rs:=lp C [.blk 0,.seq ZtA,.fin 0 [.tmp 6]] [2,3,4,7,8] Zt9 [I cc,.ptr 0 0,.ptr 1 0,I n,I i] [Ae s.c,Ae q.c]
def xP:Ag (Zi 44 Tryz.f44):={ m:=_ }
def Z4x:Za:=Aa xP 33
def ZtB:Za:=Av xP 17 16 Z4x
def ZtC:Za:=Aa xP 35
def Z4y:Ab:=Zs xP 17 ZtB 35 ZtC
def dO(a:Zr)(a1:Zc):Rs:=C 44 [Am a.c,Am a1.c] []
def Re(s:Zr)(q:Zc)(cc:WL)(m:Int):Rs:=lp C [.blk 0,.seq ZtC,.fin 0 [.tmp 4]] [2,3,5,6] ZtB [.ptr 0 0,.ptr 1 0,.own 2,I m] [Ae s.c,Ae q.c,Zo cc]
def xQ:Ag (Zi 176 Tryz.f176):={ m:=_ }
def Z4z:Za:=Aa xQ 30
def ZtD:Za:=Av xQ 17 13 Z4z
def ZtE:Za:=Aa xQ 31
def Z40:Ab:=Zs xQ 17 ZtD 31 ZtE
def dP(a:Zr)(a1:Zc)(a2:Int):Rs:=C 176 [Am a.c,Am a1.c,I a2] []
def Rf(s:Zr)(q:Zc)(cc n i:Int):Rs:=lp C [.blk 0,.seq ZtE,.fin 0 [.tmp 6]] [2,3,4,7,8] ZtD [I cc,.ptr 0 0,.ptr 1 0,I n,I i] [Ae s.c,Ae q.c]
def xS:Ag (Zi 203 Tryz.f203):={ m:=_ }
def Z41:Za:=Aa xS 22
def ZtF:Za:=Av xS 9 13 Z41
def ZtG:Za:=Aa xS 23
def Z42:Ab:=Zs xS 9 ZtF 23 ZtG
def LI(a:Zd)(a1:WL):Rs:=C 203 [Am a.c,Zt a1] []
def Rg(a:Zd)(cd cc:WL)(i:Int):Rs:=lp C [.blk 0,.seq ZtG,.fin 0 [.tmp 4]] [1,2,5,6] ZtF [Zt cc,.ptr 0 0,.own 1,I i] [Ae a.c,Zo cd]
def Rh:Ag (Zi 221 Tryz.f221):={ m:=_ }
def ZtH:Za:=Aa Rh 22
def xT:Za:=Aa Rh 30
def xU:Za:=Aa Rh 31
def xV:Za:=BM Rh 9 13 ZtH 21 xT 22 xU
def ZtI:Za:=Aa Rh 32
def Z43:Ab:=Zs Rh 9 xV 32 ZtI
def xW(a:WL):Rs:=C 221 [Zt a] []
def LJ:List Fr:=[.blk 0,.seq ZtI,.fin 0 [.tmp 2]]
def FS(c l:WL)(i:Int):Rs:=lp C LJ [0,3,4] xV [Zt l,.own 0,I i] [Zo c]
def LK(c l:WL)(i k:Int):Rs:=lp C (.blk 2::.seq xT::.blk 1::.seq xU::.loop [0,3,4] xV::LJ) [0,3,4,5] ZtH [Zt l,.own 0,I i,I k] [Zo c]
def ZtJ:Ag (Zi 212 Tryz.f212):={ m:=_ }
def ZtK:Za:=Aa ZtJ 23
def ZtL:Za:=Aa ZtJ 39
def Z44:Ab:=Zs ZtJ 23 ZtK 39 ZtL
def Ri(a:Zu)(a1:WL):Rs:=C 212 [Am a.c,Zt a1] []
def dQ(s:Zu)(cc:WL)(i:Int):Rs:=lp C [.blk 0,.seq ZtL,.fin 0 [.tmp 4]] [1,2,5] ZtK [Zt cc,.ptr 0 0,I i] [Ae s.c]
def xX:Ag (Zi 200 Tryz.f200):={ m:=_ }
def Z45:Za:=Aa xX 38
def ZtM:Za:=Av xX 17 21 Z45
def ZtN:Za:=Aa xX 39
def Z46:Ab:=Zs xX 17 ZtM 39 ZtN
def Rj(a:List Zu)(a1:Zc)(a2 a3:Int):Rs:=C 200 [L 4 (a.map Zu.c),Am a1.c,I a2,I a3] []
def Rk(q:Zc)(s:List Zu)(cd cl cc i:Int):Rs:=lp C [.blk 0,.seq ZtN,.fin 0 [.tmp 8]] [0,2,3,5,9,10] ZtM [L 4 (s.map Zu.c),I cd,I cl,.ptr 0 0,I cc,I i] [Ae q.c]
def ZtO:Ag (Zi 177 Tryz.f177):={ m:=_ }
def ZtP:Za:=Aa ZtO 17
def ZtQ:Za:=Aa ZtO 29
def Z47:Ab:=Zs ZtO 17 ZtP 29 ZtQ
def dR(a:Zr)(a1:Zc)(a2:Int):Rs:=C 177 [Am a.c,Am a1.c,I a2] []
def dS(s:Zr)(q:Zc)(l:List Zu)(cc i:Int):Rs:=lp C [.blk 0,.seq ZtQ,.fin 0 [.tmp 6]] [2,3,4,7,8] ZtP [I cc,.ptr 0 0,.ptr 1 0,.own 2,I i] [Ae s.c,Ae q.c,.arr 100 4 true (l.map Zu.c)]
def xY:Ag (Zi 101 Tryz.f101):={ m:=_ }
def Z48:Za:=Aa xY 22
def ZtR:Za:=Av xY 9 13 Z48
def ZtS:Za:=Aa xY 23
def Z49:Ab:=Zs xY 9 ZtR 23 ZtS
def Hh(a:Int):Rs:=C 101 [I a] []
def Rl(cc:WL)(c i:Int):Rs:=lp C [.blk 0,.seq ZtS,.fin 0 [.tmp 2]] [0,3,4] ZtR [I c,.own 0,I i] [Zo cc]
def Z4A:Ab:=AB (Zi 202 Tryz.f202)
def LL(a:Zu)(a1:WL):Rs:=C 202 [Am a.c,Zt a1] []
def ZtT:Ag (Zi 213 Tryz.f213):={ m:=_ }
def ZtU:Za:=Aa ZtT 9
def ZtV:Za:=Aa ZtT 27
def Z4B:Ab:=Zs ZtT 9 ZtU 27 ZtV
def dT(a:WL):Rs:=C 213 [Zt a] []
def dU(l:WL)(n i:Int):Rs:=lp C [.blk 0,.seq ZtV,.fin 0 [.tmp 2]] [0,3,4] ZtU [Zt l,I n,I i] []
def ZtW:Ag (Zi 201 Tryz.f201):={ m:=_ }
def ZtX:Za:=Aa ZtW 9
def ZtY:Za:=Aa ZtW 19
def Z4C:Ab:=Zs ZtW 9 ZtX 19 ZtY
def dV(a a1:WL):Rs:=C 201 [Zt a,Zt a1] []
def dW(a b:WL)(n i:Int):Rs:=lp C [.blk 0,.seq ZtY,.fin 0 [.tmp 4]] [0,1,5,6] ZtX [Zt a,Zt b,I n,I i] []
def Z4D:Ab:=AB (Zi 178 Tryz.f178)
def Rm(a:Zr)(a1:Zc)(a2 a3:Int):Rs:=C 178 [Am a.c,Am a1.c,I a2,I a3] []
def xZ:Ag (Zi 246 Tryz.f246):={ m:=_ }
def Z4E:Za:=Aa xZ 22
def ZtZ:Za:=Av xZ 9 13 Z4E
def Zua:Za:=Aa xZ 23
def Z4F:Ab:=Zs xZ 9 ZtZ 23 Zua
def x6(a:Zd)(a1:Int):Rs:=C 246 [Am a.c,I a1] []
def Rn(a:Zd)(m x k:Int):Rs:=lp C [.blk 0,.seq Zua,.fin 0 [.tmp 4]] [1,2,5,6] ZtZ [I m,.ptr 0 0,I x,I k] [Ae a.c]
def x8:Ag (Zi 247 Tryz.f247):={ m:=_ }
def Z4G:Za:=Aa x8 22
def Zub:Za:=Av x8 9 13 Z4G
def Zuc:Za:=Aa x8 23
def Z4H:Ab:=Zs x8 9 Zub 23 Zuc
def x9(a:WL):Rs:=C 247 [Zt a] []
def Ro(l:WL)(m i:Int):Rs:=lp C [.blk 0,.seq Zuc,.fin 0 [.tmp 2]] [0,3,4] Zub [Zt l,I m,I i] []
def Z4I:Ab:=AB (Zi 249 Tryz.f249)
def yA(a:Zu)(a1:WL):Rs:=C 249 [Am a.c,Zt a1] []
def Zud:Ag (Zi 248 Tryz.f248):={ m:=_ }
def Zue:Za:=Aa Zud 15
def Zuf:Za:=Aa Zud 23
def Z4J:Ab:=Zs Zud 15 Zue 23 Zuf
def yB(a:Int):Rs:=C 248 [I a] []
def dX(n b:Int):Rs:=lp C [.blk 0,.seq Zuf,.fin 0 [.tmp 2]] [0,3] Zue [I n,I b] []
def Zug:Ag (Zi 235 Tryz.f235):={ m:=_ }
def Zuh:Za:=Aa Zug 17
def Zui:Za:=Aa Zug 27
def Z4K:Ab:=Zs Zug 17 Zuh 27 Zui
def dY(a:Zu)(a1:Zd):Rs:=C 235 [Am a.c,Am a1.c] []
def dZ(s:Zu)(a:Zd)(cc:List ZG)(m:Int):Rs:=lp C [.blk 0,.seq Zui,.fin 0 [.tmpO 4 [some (292,3)]]] [2,3,5,6] Zuh [.ptr 0 0,.ptr 1 0,.own 2,I m] [Ae s.c,Ae a.c,.arr 292 3 true (cc.map ZG.c)]
def yC:Ag (Zi 227 Tryz.f227):={ m:=_ }
def Z4L:Za:=Aa yC 42
def Zuj:Za:=Av yC 17 25 Z4L
def Zuk:Za:=Aa yC 43
def Z4M:Ab:=Zs yC 17 Zuj 43 Zuk
def d6(a:Zr)(a1:Zc)(a2:Int):Rs:=C 227 [Am a.c,Am a1.c,I a2] []
def Rp(s:Zr)(q:Zc)(cd:List ZG)(cc i:Int):Rs:=lp C [.blk 0,.seq Zuk,.fin 0 [.tmpO 6 [some (292,3)]]] [2,3,4,7,8] Zuj [I cc,.ptr 0 0,.ptr 1 0,.own 2,I i] [Ae s.c,Ae q.c,.arr 292 3 true (cd.map ZG.c)]
def yD:Ag (Zi 239 Tryz.f239):={ m:=_ }
def Z4N:Za:=Aa yD 22
def Zul:Za:=Av yD 9 13 Z4N
def Zum:Za:=Aa yD 23
def Z4O:Ab:=Zs yD 9 Zul 23 Zum
def d7(a:Int)(a1:WL):Rs:=C 239 [I a,Zt a1] []
def Rq(m:Int)(c:WL)(x i:Int):Rs:=lp C [.blk 0,.seq Zum,.fin 0 [.tmp 4]] [0,1,5,6] Zul [I m,Zt c,I x,I i] []
def Zun:Ag (Zi 229 Tryz.f229):={ m:=_ }
def Zuo:Za:=Aa Zun 9
def Zup:Za:=Aa Zun 19
def Z4P:Ab:=Zs Zun 9 Zuo 19 Zup
def d8(a:List ZG)(a1:WL):Rs:=C 229 [L 3 (a.map ZG.c),Zt a1] []
def d9(cd l:List ZG)(cc:WL)(i:Int):Rs:=lp C [.blk 0,.seq Zup,.fin 0 [.tmp 4]] [0,1,5,6] Zuo [L 3 (l.map ZG.c),Zt cc,.own 0,I i] [.arr 292 3 true (cd.map ZG.c)]
def LM:Ag (Zi 236 Tryz.f236):={ m:=_ }
def Z4Q:Za:=Aa LM 22
def Zuq:Za:=Av LM 9 13 Z4Q
def Z4R:Za:=Aa LM 41
def Zur:Za:=Av LM 28 13 Z4R
def Zus:Za:=Aa LM 42
def Zut:Za:=AD LM 23 5 Zur 19 Zus
def Z4S:Ab:=Zs LM 9 Zuq 23 Zut
def Jg(a:Int)(a1 a2:WL):Rs:=C 236 [I a,Zt a1,Zt a2] []
def LN(cd cc c:WL)(i:Int):Rs:=lp C [.blk 0,.seq Zut,.fin 0 [.tmp 6]] [1,2,7,8] Zuq [Zt cc,Zt c,.own 0,I i] [Zo cd]
def Rr(cc c:WL)(i:Int):Rs:=lp C [.blk 2,.seq Zus,.fin 0 [.tmp 6]] [2,7,9] Zur [Zt c,.own 0,I i] [Zo cc]
def Jh:Ag (Zi 237 Tryz.f237):={ m:=_ }
def Zuu:Za:=Aa Jh 19
def Z4T:Za:=Aa Jh 71
def Zuv:Za:=Av Jh 58 13 Z4T
def Zuw:Za:=Aa Jh 72
def yE:Za:=AD Jh 46 12 Zuv 26 Zuw
def Zux:Za:=Aa Jh 73
def yF:Za:=AD Jh 34 12 yE 39 Zux
def Zuy:Za:=Aa Jh 74
def Zuz:Za:=AD Jh 29 5 yF 45 Zuy
def Z4U:Ab:=Zs Jh 19 Zuu 29 Zuz
def eC(a:Int):Rs:=C 237 [I a] []
def eD(cc:XV)(n c i:Int):Rs:=lp C [.blk 0,.seq Zuz,.fin 0 [.tmp 2]] [0,3,4,5] Zuu [I n,.own 0,I c,I i] [Xc cc]
def Zu0:List Fr:=[.blk 2,.seq Zuy,.fin 0 [.tmp 2]]
def Rt(cc:XV)(n c i:Int):Rs:=lp C Zu0 [0,3,4,6] yF [I n,.own 0,I c,I i] [Xc cc]
def Zu1:List Fr:=.blk 4::.blk 3::.seq Zux::.loop [0,3,4,6] yF::Zu0
def Ru(cc:XV)(n c i j:Int):Rs:=lp C Zu1 [0,3,4,6,7] yE [I n,.own 0,I c,I i,I j] [Xc cc]
def Rv(cc:XV)(n c i j s:Int):Rs:=lp C (.blk 6::.blk 5::.seq Zuw::.loop [0,3,4,6,7] yE::Zu1) [0,3,4,6,7,8] Zuv [I n,.own 0,I c,I i,I j,I s] [Xc cc]
def LO:Ag (Zi 238 Tryz.f238):={ m:=_ }
def Zu2:Za:=Aa LO 17
def Zu3:Za:=Aa LO 58
def Zu4:Za:=Aa LO 74
def yG:Za:=AD LO 38 20 Zu3 36 Zu4
def Zu5:Za:=Aa LO 75
def Zu6:Za:=AD LO 33 5 yG 42 Zu5
def Z4V:Ab:=Zs LO 17 Zu2 33 Zu6
def eE(a:Program):Rs:=C 238 [Am a.c] []
def eF(p:Program)(n k:Int):Rs:=lp C [.blk 0,.seq Zu6,.fin 0 [.tmp 2]] [1,3,4] Zu2 [.ptr 0 0,I n,I k] [Ae p.c]
def Zu7:List Fr:=[.blk 2,.seq Zu5,.fin 0 [.tmp 2]]
def Rw(p:Program)(n i:Int):Rs:=lp C Zu7 [1,3,5] yG [.ptr 0 0,I n,I i] [Ae p.c]
def eG(p:Program)(n i k:Int):Rs:=lp C (.blk 4::.blk 3::.seq Zu4::.loop [1,3,5] yG::Zu7) [1,3,5,6] Zu3 [.ptr 0 0,I n,I i,I k] [Ae p.c]
def Zu8:Ag (Zi 228 Tryz.f228):={ m:=_ }
def Zu9:Za:=Aa Zu8 21
def ZuA:Za:=Aa Zu8 41
def ZuB:Ab:=Zs Zu8 21 Zu9 41 ZuA
def LP(a:List ZG)(a1:Int):Rs:=C 228 [L 3 (a.map ZG.c),I a1] []
def Rx(x:WL)(x1:XV)(x2:WL)(l:List ZG)(n cc i:Int):Rs:=lp C [.blk 0,.seq ZuA,.fin 0 [.cellO 4 (some 3) [some (3,1),some (44,1),some (3,1)],.tmpO 5 [none]]] [0,1,4,6,7,8] Zu9 [L 3 (l.map ZG.c),I n,.ptr 0 0,I cc,.ptr 1 0,I i] [.box [.t .nil,.t .nil,.t .nil],.box [.own 2,.own 3,.own 4],Zo x,Xc x1,Zo x2]
def Z4W:Ab:=AB (Zi 222 Tryz.f222)
def yH(a:Zr)(a1:Zc)(a2:Int):Rs:=C 222 [Am a.c,Am a1.c,I a2] []
def Z4X:Ab:=AB (Zi 232 Tryz.f232)
def WB(a:Int):Rs:=C 232 [I a] []
def Hi:Ag (Zi 230 Tryz.f230):={ m:=_ }
def ZuC:Za:=Aa Hi 19
def ZuD:Za:=Aa Hi 51
def ZuE:Za:=Aa Hi 61
def ZuF:Za:=Aa Hi 66
def yI:Za:=BM Hi 36 15 ZuD 25 ZuE 30 ZuF
def ZuG:Za:=Aa Hi 67
def ZuH:Za:=AD Hi 31 5 yI 36 ZuG
def Z4Y:Ab:=Zs Hi 19 ZuC 31 ZuH
def eH(a:Program):Rs:=C 230 [Am a.c] []
def ZuI:=lp C [.blk 0,.seq ZuH,.fin 0 [.cellO 2 (some 7) [some (3,1),some (3,1),some (264,1),some (54,2),some (54,2),none,none],.tmpO 3 [none]]] [1,2,4,5,6] ZuC
def ZuJ(p:Program)(cd cc:Zb)(n k:Int):Rs:=ZuI [.ptr 0 0,.ptr 1 0,I n,.ptr 2 0,I k] [Ae p.c,.box [.t .nil,.t .nil,.t .nil,.t .nil,.t .nil,I cd.Num,I cd.Den],.box [.t .nil,.t .nil,.t .nil,.t .nil,.t .nil,I cc.Num,I cc.Den]]
def eI(p:Program)(cd cc:Zb)(x:WL)(x1:List Zb)(n k:Int):Rs:=ZuI [.ptr 0 0,.ptr 1 0,I n,.ptr 2 0,I k] [Ae p.c,.box [.t .nil,.t .nil,.t .nil,.t .nil,.t .nil,I cd.Num,I cd.Den],.box [.t .nil,.own 3,.t .nil,.t .nil,.own 4,I cc.Num,I cc.Den],Zo x,ZZ x1]
def ZuK:List Fr:=[.blk 2,.seq ZuG,.fin 0 [.cellO 2 (some 7) [some (3,1),some (3,1),some (264,1),some (54,2),some (54,2),none,none],.tmpO 3 [none]]]
def yJ:=lp C ZuK [1,2,4,5,7] yI
def Z4Z(p:Program)(cd cc:Zb)(n i:Int):Rs:=yJ [.ptr 0 0,.ptr 1 0,I n,.ptr 2 0,I i] [Ae p.c,.box [.t .nil,.t .nil,.t .nil,.t .nil,.t .nil,I cd.Num,I cd.Den],.box [.t .nil,.t .nil,.t .nil,.t .nil,.t .nil,I cc.Num,I cc.Den]]
def ZuL(p:Program)(cd cc:Zb)(x:WL)(x1:List Zb)(n i:Int):Rs:=yJ [.ptr 0 0,.ptr 1 0,I n,.ptr 2 0,I i] [Ae p.c,.box [.t .nil,.t .nil,.t .nil,.t .nil,.t .nil,I cd.Num,I cd.Den],.box [.t .nil,.own 3,.t .nil,.t .nil,.own 4,I cc.Num,I cc.Den],Zo x,ZZ x1]
def ZuM:=lp C (.blk 4::.seq ZuE::.blk 3::.seq ZuF::.loop [1,2,4,5,7] yI::ZuK) [1,2,4,5,7,8,9] ZuD
def eJ(p:Program)(cd cc:Zb)(x:WL)(x1 cl:List Zb)(n i k:Int):Rs:=ZuM [.ptr 0 0,.ptr 1 0,I n,.ptr 2 0,I i,.own 5,I k] [Ae p.c,.box [.t .nil,.t .nil,.t .nil,.t .nil,.t .nil,I cd.Num,I cd.Den],.box [.t .nil,.own 3,.t .nil,.t .nil,.own 4,I cc.Num,I cc.Den],Zo x,ZZ x1,ZZ cl]
def LQ(p:Program)(cd cc:Zb)(x x1:WL)(x2:List (List Zb))(x3 x4:List Zb)(n i:Int):Rs:=yJ [.ptr 0 0,.ptr 1 0,I n,.ptr 2 0,I i] [Ae p.c,.box [.t .nil,.t .nil,.t .nil,.t .nil,.t .nil,I cd.Num,I cd.Den],.box [.own 3,.own 4,.own 5,.own 6,.own 7,I cc.Num,I cc.Den],Zo x,Zo x1,.arr 264 1 true (x2.map (lc 2 Zb.c)),ZZ x3,ZZ x4]
def eK(p:Program)(cd cc:Zb)(x x1:WL)(x2:List (List Zb))(x3 x4 cl:List Zb)(n i k:Int):Rs:=ZuM [.ptr 0 0,.ptr 1 0,I n,.ptr 2 0,I i,.own 8,I k] [Ae p.c,.box [.t .nil,.t .nil,.t .nil,.t .nil,.t .nil,I cd.Num,I cd.Den],.box [.own 3,.own 4,.own 5,.own 6,.own 7,I cc.Num,I cc.Den],Zo x,Zo x1,.arr 264 1 true (x2.map (lc 2 Zb.c)),ZZ x3,ZZ x4,ZZ cl]
def Z5a:Ab:=AB (Zi 225 Tryz.f225)
def Hj(a:Int):Rs:=C 225 [I a] []
def ZuN:Ag (Zi 224 Tryz.f224):={ m:=_ }
def ZuO:Za:=Aa ZuN 5
def ZuP:Za:=Aa ZuN 17
def Z5b:Ab:=Zs ZuN 5 ZuO 17 ZuP
def Hk(a a1:Int):Rs:=C 224 [I a,I a1] []
def eN(a b:Int):Rs:=lp C [.blk 0,.seq ZuP,.fin 0 [.tmp 4]] [0,1] ZuO [I a,I b] []
def Z5c:Ab:=AB (Zi 215 Tryz.f215)
def Va(a:Zb):Rs:=C 215 [Am a.c] []
def ZuQ:Ag (Zi 250 Tryz.f250):={ m:=_ }
def ZuR:Za:=Aa ZuQ 7
def ZuS:Za:=Aa ZuQ 23
def Z5d:Ab:=Zs ZuQ 7 ZuR 23 ZuS
def Ry(a:List Zb):Rs:=C 250 [JJ a] []
def eO(l:List Zb)(i:Int):Rs:=lp C [.blk 0,.seq ZuS,.fin 0 [.tmp 2]] [0,3] ZuR [JJ l,I i] []
def eQ:Ag (Zi 240 Tryz.f240):={ m:=_ }
def ZuT:Za:=Aa eQ 21
def ZuU:Za:=Aa eQ 42
def ZuV:Za:=Aa eQ 58
def ZuW:Za:=AD eQ 37 5 ZuU 21 ZuV
def Z5e:Ab:=Zs eQ 21 ZuT 37 ZuW
def LR(a:Zv):Rs:=C 240 [Am a.c] []
def eR(d:Zv)(all:WL)(m n i:Int):Rs:=lp C [.blk 0,.seq ZuW,.fin 0 [.tmp 2]] [1,3,4,5,6] ZuT [.ptr 0 0,I m,I n,.own 1,I i] [Ae d.c,Zo all]
def eS(d:Zv)(m n i:Int):Rs:=lp C [.blk 2,.seq ZuV,.fin 0 [.tmp 2]] [1,3,4,7] ZuU [.ptr 0 0,I m,I n,I i] [Ae d.c]
def yK:Ag (Zi 231 Tryz.f231):={ m:=_ }
def Z5f:Za:=Aa yK 30
def ZuX:Za:=Av yK 17 13 Z5f
def ZuY:Za:=Aa yK 31
def Z5g:Ab:=Zs yK 17 ZuX 31 ZuY
def eT(a:Zv):Rs:=C 231 [Am a.c] []
def Hl(d:Zv)(cc j:Int):Rs:=lp C [.blk 0,.seq ZuY,.fin 0 [.tmp 2]] [1,3,4] ZuX [.ptr 0 0,I cc,I j] [Ae d.c]
def Z5h:Ag (Zi 251 Tryz.f251):={ m:=_ }
def Z5i:Za:=Aa Z5h 18
def Z5j:Ab:=VY Z5h 18 Z5i
def Hm(a a1:Int):Rs:=C 251 [I a,I a1] []
def Z5k:Ab:=AB (Zi 241 Tryz.f241)
def Hn(a a1:Zb):Rs:=C 241 [Am a.c,Am a1.c] []
def Z5l:Ab:=AB (Zi 242 Tryz.f242)
def yL(a a1:Zb):Rs:=C 242 [Am a.c,Am a1.c] []
def yM:Ag (Zi 233 Tryz.f233):={ m:=_ }
def Z5m:Za:=Aa yM 52
def ZuZ:Za:=Av yM 19 33 Z5m
def Zva:Za:=Aa yM 53
def Z5n:Ab:=Zs yM 19 ZuZ 53 Zva
def eU(a:Zv)(a1:Int):Rs:=C 233 [Am a.c,I a1] []
def Rz(d:Zv)(least:Zb)(j cc i:Int):Rs:=lp C [.blk 0,.seq Zva,.fin 0 [.tmp 4]] [1,2,5,6,7] ZuZ [I j,.ptr 0 0,I cc,.ptr 1 0,I i] [Ae d.c,Ae least.c]
def Z5o:Ab:=AB (Zi 244 Tryz.f244)
def FT(a a1:Zb):Rs:=C 244 [Am a.c,Am a1.c] []
def Z5p:Ab:=AB (Zi 252 Tryz.f252)
def yN(a a1:Zb):Rs:=C 252 [Am a.c,Am a1.c] []
def Z5q:Ab:=AB (Zi 243 Tryz.f243)
def Vb(a a1 a2:Zb):Rs:=C 243 [Am a.c,Am a1.c,Am a2.c] []
def Z5r:Ab:=AB (Zi 245 Tryz.f245)
def Ho(a a1:Zb):Rs:=C 245 [Am a.c,Am a1.c] []
def Q6:Ag (Zi 234 Tryz.f234):={ m:=_ }
def Z5s:Za:=Aa Q6 37
def Zvb:Za:=Av Q6 21 16 Z5s
def Z5t:Za:=Aa Q6 97
def Zvc:Za:=Av Q6 81 16 Z5t
def Zvd:Za:=Aa Q6 103
def Zve:Za:=Aa Q6 110
def yO:Za:=BM Q6 56 25 Zvc 47 Zvd 54 Zve
def Z5u:Za:=Aa Q6 132
def Zvf:Za:=Av Q6 116 16 Z5u
def LS:Za:=Aa Q6 138
def Zvg:Za:=AD Q6 111 5 Zvf 27 LS
def Zvh:Za:=AD Q6 41 15 yO 70 Zvg
def Z5v:Ab:=Zs Q6 21 Zvb 41 Zvh
def RA(a:Zv)(a1 a2:Int):Rs:=C 234 [Am a.c,I a1,I a2] []
def eW(d:Zv)(cc a:Zb)(cd:List Zb)(i j:Int)(cl:Bool)(k:Int):Rs:=lp C [.blk 0,.seq Zvh,.fin 0 [.cellO 6 (some 7) [some (3,1),some (3,1),some (264,1),some (54,2),some (54,2),none,none],.tmpO 7 [none]]] [1,2,3,6,8,9,10,11] Zvb [I i,I j,.ptr 0 0,.ptr 1 0,Bo cl,.ptr 2 0,.own 3,I k] [Ae d.c,.box [.t .nil,.t .nil,.t .nil,.t .nil,.t .nil,I cc.Num,I cc.Den],Ae a.c,ZZ cd]
def Zvi:List Fr:=[.blk 2,.seq Zvg,.fin 0 [.cellO 6 (some 7) [some (3,1),some (3,1),some (264,1),some (54,2),some (54,2),none,none],.tmpO 7 [none]]]
def yP:=lp C Zvi [1,2,3,6,8,10,14,16,17] yO
def yQ(d:Zv)(cd:Zb)(cl:List Zb)(limit cc:Zb)(x x1:WL)(i j:Int)(cn:Bool)(co:Int):Rs:=yP [I i,I j,.ptr 0 0,.ptr 1 0,Bo cn,.own 2,.ptr 3 0,.ptr 4 0,I co] [Ae d.c,.box [.t .nil,.t .nil,.t .nil,.t .nil,.t .nil,I cd.Num,I cd.Den],ZZ cl,Ae limit.c,.box [.own 5,.own 6,.t .nil,.t .nil,.t .nil,I cc.Num,I cc.Den],Zo x,Zo x1]
def Hp(d:Zv)(cd limit cc:Zb)(x x1:WL)(fr:Bool)(x2:List (List Zb))(x3:List Zb)(i j:Int)(cn:Bool)(cl:List Zb)(co:Int):Rs:=yP [I i,I j,.ptr 0 0,.ptr 1 0,Bo cn,JJ cl,.ptr 2 0,.ptr 3 0,I co] [Ae d.c,.box [.t .nil,.t .nil,.t .nil,.t .nil,.t .nil,I cd.Num,I cd.Den],Ae limit.c,.box [.own 4,.own 5,.own 6,.own 7,.t .nil,I cc.Num,I cc.Den],Zo x,Zo x1,.arr 264 1 fr (x2.map (lc 2 Zb.c)),ZZ x3]
def yR:=lp C (.blk 4::.seq Zvd::.blk 3::.seq Zve::.loop [1,2,3,6,8,10,14,16,17] yO::Zvi) [1,2,3,6,8,10,14,16,17,18,19] Zvc
def eX(d:Zv)(cd:Zb)(cl:List Zb)(limit cc:Zb)(x x1:WL)(cp:List Zb)(i j:Int)(cn:Bool)(co k:Int):Rs:=yR [I i,I j,.ptr 0 0,.ptr 1 0,Bo cn,.own 2,.ptr 3 0,.ptr 4 0,I co,.own 7,I k] [Ae d.c,.box [.t .nil,.t .nil,.t .nil,.t .nil,.t .nil,I cd.Num,I cd.Den],ZZ cl,Ae limit.c,.box [.own 5,.own 6,.t .nil,.t .nil,.t .nil,I cc.Num,I cc.Den],Zo x,Zo x1,ZZ cp]
def LT:=lp C [.blk 6,.seq LS,.fin 0 [.cellO 6 (some 7) [some (3,1),some (3,1),some (264,1),some (54,2),some (54,2),none,none],.tmpO 7 [none]]] [2,3,6,8,10,14,16,25] Zvf
def yS(d:Zv)(cd:Zb)(cl:List Zb)(limit cc:Zb)(x x1:WL)(j:Int)(cn:Bool)(k:Int):Rs:=LT [I j,.ptr 0 0,.ptr 1 0,Bo cn,.own 2,.ptr 3 0,.ptr 4 0,I k] [Ae d.c,.box [.t .nil,.t .nil,.t .nil,.t .nil,.t .nil,I cd.Num,I cd.Den],ZZ cl,Ae limit.c,.box [.own 5,.own 6,.t .nil,.t .nil,.t .nil,I cc.Num,I cc.Den],Zo x,Zo x1]
def eY(d:Zv)(cd limit cc:Zb)(x x1:WL)(fr:Bool)(x2:List (List Zb))(x3 cp:List Zb)(i j:Int)(cn:Bool)(cl:List Zb)(co k:Int):Rs:=yR [I i,I j,.ptr 0 0,.ptr 1 0,Bo cn,JJ cl,.ptr 2 0,.ptr 3 0,I co,.own 8,I k] [Ae d.c,.box [.t .nil,.t .nil,.t .nil,.t .nil,.t .nil,I cd.Num,I cd.Den],Ae limit.c,.box [.own 4,.own 5,.own 6,.own 7,.t .nil,I cc.Num,I cc.Den],Zo x,Zo x1,.arr 264 1 fr (x2.map (lc 2 Zb.c)),ZZ x3,ZZ cp]
def eZ(d:Zv)(cd limit cc:Zb)(x x1:WL)(fr:Bool)(x2:List (List Zb))(x3:List Zb)(j:Int)(cn:Bool)(cl:List Zb)(k:Int):Rs:=LT [I j,.ptr 0 0,.ptr 1 0,Bo cn,JJ cl,.ptr 2 0,.ptr 3 0,I k] [Ae d.c,.box [.t .nil,.t .nil,.t .nil,.t .nil,.t .nil,I cd.Num,I cd.Den],Ae limit.c,.box [.own 4,.own 5,.own 6,.own 7,.t .nil,I cc.Num,I cc.Den],Zo x,Zo x1,.arr 264 1 fr (x2.map (lc 2 Zb.c)),ZZ x3]
def LU(d:Zv)(cd:Zb)(cl:List Zb)(limit cc:Zb)(x x1:WL)(fr:Bool)(x2:List (List Zb))(x3:List Zb)(i j:Int)(cn:Bool)(co:Int):Rs:=yP [I i,I j,.ptr 0 0,.ptr 1 0,Bo cn,.own 2,.ptr 3 0,.ptr 4 0,I co] [Ae d.c,.box [.t .nil,.t .nil,.t .nil,.t .nil,.t .nil,I cd.Num,I cd.Den],ZZ cl,Ae limit.c,.box [.own 5,.own 6,.own 7,.own 8,.t .nil,I cc.Num,I cc.Den],Zo x,Zo x1,.arr 264 1 fr (x2.map (lc 2 Zb.c)),ZZ x3]
def Z5w(d:Zv)(cd:Zb)(cl:List Zb)(limit cc:Zb)(x x1:WL)(x2:List Zb)(j:Int)(cn:Bool)(k:Int):Rs:=LT [I j,.ptr 0 0,.ptr 1 0,Bo cn,.own 2,.ptr 3 0,.ptr 4 0,I k] [Ae d.c,.box [.t .nil,.t .nil,.t .nil,.t .nil,.t .nil,I cd.Num,I cd.Den],ZZ cl,Ae limit.c,.box [.own 5,.own 6,.t .nil,.t .nil,.own 7,I cc.Num,I cc.Den],Zo x,Zo x1,ZZ x2]
def Zvj(d:Zv)(cd:Zb)(cl:List Zb)(limit cc:Zb)(x x1:WL)(j:Int)(cn:Bool)(k:Int)(x2:Bool):Rs:=Ev C [.fin 0 [.cellO 6 (some 7) [some (3,1),some (3,1),some (264,1),some (54,2),some (54,2),none,none],.tmpO 7 [none]]] LS ⟨[(2,I j),(3,.ptr 0 0),(6,.ptr 1 0),(8,Bo cn),(10,.own 2),(14,.ptr 3 0),(16,.ptr 4 0),(25,I k),(265,Bo x2)],[[]],[Ae d.c,.box [.t .nil,.t .nil,.t .nil,.t .nil,.t .nil,I cd.Num,I cd.Den],ZZ cl,Ae limit.c,.box [.own 5,.own 6,.t .nil,.t .nil,.t .nil,I cc.Num,I cc.Den],Zo x,Zo x1]⟩
def fA(d:Zv)(cd limit cc:Zb)(x x1:WL)(fr:Bool)(x2:List (List Zb))(x3 x4:List Zb)(j:Int)(cn:Bool)(cl:List Zb)(k:Int):Rs:=LT [I j,.ptr 0 0,.ptr 1 0,Bo cn,JJ cl,.ptr 2 0,.ptr 3 0,I k] [Ae d.c,.box [.t .nil,.t .nil,.t .nil,.t .nil,.t .nil,I cd.Num,I cd.Den],Ae limit.c,.box [.own 4,.own 5,.own 6,.own 7,.own 8,I cc.Num,I cc.Den],Zo x,Zo x1,.arr 264 1 fr (x2.map (lc 2 Zb.c)),ZZ x3,ZZ x4]
def Zvk(d:Zv)(cd limit cc:Zb)(x x1:WL)(fr:Bool)(x2:List (List Zb))(x3:List Zb)(j:Int)(cn:Bool)(cl:List Zb)(k:Int)(x4:Bool):Rs:=Ev C [.fin 0 [.cellO 6 (some 7) [some (3,1),some (3,1),some (264,1),some (54,2),some (54,2),none,none],.tmpO 7 [none]]] LS ⟨[(2,I j),(3,.ptr 0 0),(6,.ptr 1 0),(8,Bo cn),(10,JJ cl),(14,.ptr 2 0),(16,.ptr 3 0),(25,I k),(265,Bo x4)],[[]],[Ae d.c,.box [.t .nil,.t .nil,.t .nil,.t .nil,.t .nil,I cd.Num,I cd.Den],Ae limit.c,.box [.own 4,.own 5,.own 6,.own 7,.t .nil,I cc.Num,I cc.Den],Zo x,Zo x1,.arr 264 1 fr (x2.map (lc 2 Zb.c)),ZZ x3]⟩
def fB(d:Zv)(cd:Zb)(cl:List Zb)(limit cc:Zb)(x x1:WL)(fr:Bool)(x2:List (List Zb))(x3 cp:List Zb)(i j:Int)(cn:Bool)(co k:Int):Rs:=yR [I i,I j,.ptr 0 0,.ptr 1 0,Bo cn,.own 2,.ptr 3 0,.ptr 4 0,I co,.own 9,I k] [Ae d.c,.box [.t .nil,.t .nil,.t .nil,.t .nil,.t .nil,I cd.Num,I cd.Den],ZZ cl,Ae limit.c,.box [.own 5,.own 6,.own 7,.own 8,.t .nil,I cc.Num,I cc.Den],Zo x,Zo x1,.arr 264 1 fr (x2.map (lc 2 Zb.c)),ZZ x3,ZZ cp]
def yT(d:Zv)(cd:Zb)(cl:List Zb)(limit cc:Zb)(x x1:WL)(fr:Bool)(x2:List (List Zb))(x3:List Zb)(j:Int)(cn:Bool)(k:Int):Rs:=LT [I j,.ptr 0 0,.ptr 1 0,Bo cn,.own 2,.ptr 3 0,.ptr 4 0,I k] [Ae d.c,.box [.t .nil,.t .nil,.t .nil,.t .nil,.t .nil,I cd.Num,I cd.Den],ZZ cl,Ae limit.c,.box [.own 5,.own 6,.own 7,.own 8,.t .nil,I cc.Num,I cc.Den],Zo x,Zo x1,.arr 264 1 fr (x2.map (lc 2 Zb.c)),ZZ x3]
def fC(d:Zv)(cd limit cc:Zb)(x x1:WL)(fr:Bool)(x2:List (List Zb))(x3 x4:List Zb)(j:Int)(cn:Bool)(cl:List Zb)(k:Int)(x5:Bool):Rs:=Ev C [.fin 0 [.cellO 6 (some 7) [some (3,1),some (3,1),some (264,1),some (54,2),some (54,2),none,none],.tmpO 7 [none]]] LS ⟨[(2,I j),(3,.ptr 0 0),(6,.ptr 1 0),(8,Bo cn),(10,JJ cl),(14,.ptr 2 0),(16,.ptr 3 0),(25,I k),(265,Bo x5)],[[]],[Ae d.c,.box [.t .nil,.t .nil,.t .nil,.t .nil,.t .nil,I cd.Num,I cd.Den],Ae limit.c,.box [.own 4,.own 5,.own 6,.own 7,.own 8,I cc.Num,I cc.Den],Zo x,Zo x1,.arr 264 1 fr (x2.map (lc 2 Zb.c)),ZZ x3,ZZ x4]⟩
def Z5x(d:Zv)(cd:Zb)(cl:List Zb)(limit cc:Zb)(x x1:WL)(fr:Bool)(x2:List (List Zb))(x3 x4:List Zb)(j:Int)(cn:Bool)(k:Int):Rs:=LT [I j,.ptr 0 0,.ptr 1 0,Bo cn,.own 2,.ptr 3 0,.ptr 4 0,I k] [Ae d.c,.box [.t .nil,.t .nil,.t .nil,.t .nil,.t .nil,I cd.Num,I cd.Den],ZZ cl,Ae limit.c,.box [.own 5,.own 6,.own 7,.own 8,.own 9,I cc.Num,I cc.Den],Zo x,Zo x1,.arr 264 1 fr (x2.map (lc 2 Zb.c)),ZZ x3,ZZ x4]
def Zvl(d:Zv)(cd:Zb)(cl:List Zb)(limit cc:Zb)(x x1:WL)(fr:Bool)(x2:List (List Zb))(x3:List Zb)(j:Int)(cn:Bool)(k:Int)(x4:Bool):Rs:=Ev C [.fin 0 [.cellO 6 (some 7) [some (3,1),some (3,1),some (264,1),some (54,2),some (54,2),none,none],.tmpO 7 [none]]] LS ⟨[(2,I j),(3,.ptr 0 0),(6,.ptr 1 0),(8,Bo cn),(10,.own 2),(14,.ptr 3 0),(16,.ptr 4 0),(25,I k),(265,Bo x4)],[[]],[Ae d.c,.box [.t .nil,.t .nil,.t .nil,.t .nil,.t .nil,I cd.Num,I cd.Den],ZZ cl,Ae limit.c,.box [.own 5,.own 6,.own 7,.own 8,.t .nil,I cc.Num,I cc.Den],Zo x,Zo x1,.arr 264 1 fr (x2.map (lc 2 Zb.c)),ZZ x3]⟩
def UQ:Ag (Zi 223 Tryz.f223):={ m:=_ }
def Zvm:Za:=Aa UQ 38
def Zvn:Za:=Aa UQ 53
def Z5y:Za:=Aa UQ 81
def Zvo:Za:=Av UQ 68 13 Z5y
def Z5z:Za:=Aa UQ 100
def Zvp:Za:=Av UQ 87 13 Z5z
def Zvq:Za:=Aa UQ 101
def Zvr:Za:=AD UQ 82 5 Zvp 19 Zvq
def Zvs:Za:=AD UQ 63 5 Zvo 19 Zvr
def Zvt:Za:=AD UQ 48 5 Zvn 15 Zvs
def RB:Za:=Aa UQ 105
def RC:Za:=Aa UQ 126
def LV:Za:=aA UQ 17 21 Zvm 31 Zvt 88 RB 109 RC
def Zvu:Za:=Aa UQ 127
def Z50:Ab:=Zs UQ 17 LV 127 Zvu
def fD(a:Program):Rs:=C 223 [Am a.c] []
def RD:List Fr:=[.blk 0,.seq Zvu,.fin 0 [.cellO 2 (some 4) [none,none,some (54,2),some (54,2)],.tmpO 3 [none]]]
def FU(p:Program)(cc:Zb)(d:Zv)(n:Int):Rs:=lp C RD [1,2,4,6] LV [.ptr 0 0,.ptr 1 0,.ptr 2 0,I n] [Ae p.c,.box [I cc.Num,I cc.Den,.t .nil,.t .nil],Ae d.c]
def Zvv:=lp C (.blk 2::.seq Zvt::.seq RB::.blk 1::.seq RC::.loop [1,2,4,6] LV::RD) [1,2,4,8,9] Zvm
def yU(p:Program)(cd:Zb)(d:Zv)(cc:Zb)(k:Int):Rs:=Zvv [.ptr 0 0,.ptr 1 0,.ptr 2 0,.ptr 3 0,I k] [Ae p.c,.box [I cd.Num,I cd.Den,.t .nil,.t .nil],Ae d.c,.box [I cc.Num,I cc.Den,.t .nil,.t .nil]]
def fE(p:Program)(cd:Zb)(d:Zv)(cc:Zb)(x:List Zb)(k:Int):Rs:=Zvv [.ptr 0 0,.ptr 1 0,.ptr 2 0,.ptr 3 0,I k] [Ae p.c,.box [I cd.Num,I cd.Den,.t .nil,.t .nil],Ae d.c,.box [I cc.Num,I cc.Den,.own 4,.t .nil],ZZ x]
def yV:=lp C (.blk 4::.seq Zvs::.seq RB::.blk 1::.seq RC::.loop [1,2,4,6] LV::RD) [1,2,4,8,10] Zvn
def Z51(p:Program)(cd:Zb)(d:Zv)(cc:Zb)(i:Int):Rs:=yV [.ptr 0 0,.ptr 1 0,.ptr 2 0,.ptr 3 0,I i] [Ae p.c,.box [I cd.Num,I cd.Den,.t .nil,.t .nil],Ae d.c,.box [I cc.Num,I cc.Den,.t .nil,.t .nil]]
def Zvw(p:Program)(cd:Zb)(d:Zv)(cc:Zb)(x:List Zb)(i:Int):Rs:=yV [.ptr 0 0,.ptr 1 0,.ptr 2 0,.ptr 3 0,I i] [Ae p.c,.box [I cd.Num,I cd.Den,.t .nil,.t .nil],Ae d.c,.box [I cc.Num,I cc.Den,.own 4,.t .nil],ZZ x]
def fF(p:Program)(cd:Zb)(d:Zv)(cc:Zb)(x x1:List Zb)(i:Int):Rs:=yV [.ptr 0 0,.ptr 1 0,.ptr 2 0,.ptr 3 0,I i] [Ae p.c,.box [I cd.Num,I cd.Den,.t .nil,.t .nil],Ae d.c,.box [I cc.Num,I cc.Den,.own 4,.own 5],ZZ x,ZZ x1]
def Zvx:=lp C (.blk 6::.seq Zvr::.seq RB::.blk 1::.seq RC::.loop [1,2,4,6] LV::RD) [1,2,4,8,11] Zvo
def Z52(p:Program)(cd:Zb)(d:Zv)(cc:Zb)(x:List Zb)(i:Int):Rs:=Zvx [.ptr 0 0,.ptr 1 0,.ptr 2 0,.ptr 3 0,I i] [Ae p.c,.box [I cd.Num,I cd.Den,.t .nil,.t .nil],Ae d.c,.box [I cc.Num,I cc.Den,.own 4,.t .nil],ZZ x]
def RE(p:Program)(cd:Zb)(d:Zv)(cc:Zb)(x x1:List Zb)(i:Int):Rs:=Zvx [.ptr 0 0,.ptr 1 0,.ptr 2 0,.ptr 3 0,I i] [Ae p.c,.box [I cd.Num,I cd.Den,.t .nil,.t .nil],Ae d.c,.box [I cc.Num,I cc.Den,.own 4,.own 5],ZZ x,ZZ x1]
def RF(p:Program)(cd:Zb)(d:Zv)(cc:Zb)(x x1:List Zb)(k:Int):Rs:=lp C (.blk 8::.seq Zvq::.seq RB::.blk 1::.seq RC::.loop [1,2,4,6] LV::RD) [1,2,4,8,12] Zvp [.ptr 0 0,.ptr 1 0,.ptr 2 0,.ptr 3 0,I k] [Ae p.c,.box [I cd.Num,I cd.Den,.t .nil,.t .nil],Ae d.c,.box [I cc.Num,I cc.Den,.own 4,.own 5],ZZ x,ZZ x1]
def Z53:Ab:=AB (Zi 214 Tryz.f214)
def yW(a:Zr)(a1:Zc)(a2:Int):Rs:=C 214 [Am a.c,Am a1.c,I a2] []
def Z54:Ab:=AB (Zi 204 Tryz.f204)
def fG(a:Zr)(a1:Zc)(a2:Int):Rs:=C 204 [Am a.c,Am a1.c,I a2] []
def Z55:Ag (Zi 217 Tryz.f217):={ m:=_ }
def Z56:Za:=Aa Z55 18
def Z57:Ab:=VY Z55 18 Z56
def yX(a:Zb):Rs:=C 217 [Am a.c] []
def Z58:Ab:=AB (Zi 216 Tryz.f216)
def Zvy(a:Int):Rs:=C 216 [I a] []
def Zvz:Ag (Zi 218 Tryz.f218):={ m:=_ }
def Zv0:Za:=Aa Zvz 9
def Zv1:Za:=Aa Zvz 27
def Z59:Ab:=Zs Zvz 9 Zv0 27 Zv1
def yY(a a1 a2:Int):Rs:=C 218 [I a,I a1,I a2] []
def fH(n c cc x i:Int):Rs:=lp C [.blk 0,.seq Zv1,.fin 0 [.tmp 6]] [0,1,2,7,8] Zv0 [I n,I c,I cc,I x,I i] []
def Zv2:Ag (Zi 205 Tryz.f205):={ m:=_ }
def Zv3:Za:=Aa Zv2 23
def Zv4:Za:=Aa Zv2 31
def Z5A:Ab:=Zs Zv2 23 Zv3 31 Zv4
def fI(a:Zb):Rs:=C 205 [Am a.c] []
def fJ(A8:Zb)(n:Int):Rs:=lp C [.blk 0,.seq Zv4,.fin 0 [.tmp 2]] [1,3] Zv3 [.ptr 0 0,I n] [Ae A8.c]
def Zv5:Ag (Zi 179 Tryz.f179):={ m:=_ }
def Zv6:Za:=Aa Zv5 15
def Zv7:Za:=Aa Zv5 31
def Z5B:Ab:=Zs Zv5 15 Zv6 31 Zv7
def RG(a:Zr)(a1:Zc)(a2:Int):Rs:=C 179 [Am a.c,Am a1.c,I a2] []
def fK(s:Zr)(q:Zc)(cc i:Int):Rs:=lp C [.blk 0,.seq Zv7,.fin 0 [.tmp 6]] [2,3,4,7] Zv6 [I cc,.ptr 0 0,.ptr 1 0,I i] [Ae s.c,Ae q.c]
def yZ:Ag (Zi 142 Tryz.f142):={ m:=_ }
def Z5C:Za:=Aa yZ 54
def fL:Za:=Av yZ 40 14 Z5C
def Z5D:Za:=Av yZ 24 16 fL
def Z5E:Ab:=VY yZ 24 Z5D
def fN(a:Zr)(a1:Zc)(a2:Int):Rs:=C 142 [Am a.c,Am a1.c,I a2] []
def fO(s:Zr)(q:Zc)(l:WL)(cc n cd:Int):Rs:=Ev C [.fin 0 [.tmp 6,.tmp 7]] fL ⟨[(2,I cc),(3,.ptr 0 0),(4,.ptr 1 0),(8,I n),(9,I cd),(11,.own 2)],[[]],[Ae s.c,Ae q.c,Zo l]⟩
def fP(s:Zr)(q:Zc)(l:WL)(cc n cd x:Int)(x1:Bool):Rs:=Ev C [.fin 0 [.tmp 6,.tmp 7]] fL ⟨[(2,I cc),(3,.ptr 0 0),(4,.ptr 1 0),(8,I n),(9,I cd),(10,I x),(11,.own 2),(45,Bo x1)],[[]],[Ae s.c,Ae q.c,Zo l]⟩
def fQ(s:Zr)(q:Zc)(l:WL)(cc n cd:Int)(x:Bool):Rs:=Ev C [.fin 0 [.tmp 6,.tmp 7]] fL ⟨[(2,I cc),(3,.ptr 0 0),(4,.ptr 1 0),(8,I n),(9,I cd),(11,.own 2),(33,Bo x)],[[]],[Ae s.c,Ae q.c,Zo l]⟩
def Z5F:Ab:=AB (Zi 93 Tryz.f93)
def y6(a:Zr)(a1:Zc)(a2:Int):Rs:=C 93 [Am a.c,Am a1.c,I a2] []
def y7:Ag (Zi 45 Tryz.f45):={ m:=_ }
def Z5G:Za:=Aa y7 33
def Zv8:Za:=Av y7 17 16 Z5G
def Zv9:Za:=Aa y7 35
def Z5H:Ab:=Zs y7 17 Zv8 35 Zv9
def y8(a:Zr)(a1:Zc):Rs:=C 45 [Am a.c,Am a1.c] []
def RH(s:Zr)(q:Zc)(cc:WL)(m:Int):Rs:=lp C [.blk 0,.seq Zv9,.fin 0 [.tmp 4]] [2,3,5,6] Zv8 [.ptr 0 0,.ptr 1 0,.own 2,I m] [Ae s.c,Ae q.c,Zo cc]
def ZvA:Ag (Zi 78 Tryz.f78):={ m:=_ }
def ZvB:Za:=Aa ZvA 17
def ZvC:Za:=Aa ZvA 27
def Z5I:Ab:=Zs ZvA 17 ZvB 27 ZvC
def Ji(a:Int):Rs:=C 78 [I a] []
def RI(k n i:Int):Rs:=lp C [.blk 0,.seq ZvC,.fin 0 [.tmp 2]] [0,3,4] ZvB [I k,I n,I i] []
def ZvD:Ag (Zi 48 Tryz.f48):={ m:=_ }
def ZvE:Za:=Aa ZvD 15
def ZvF:Za:=Aa ZvD 31
def Z5J:Ab:=Zs ZvD 15 ZvE 31 ZvF
def LW(a:Int):Rs:=C 48 [I a] []
def y9(n k:Int):Rs:=lp C [.blk 0,.seq ZvF,.fin 0 [.tmp 2]] [0,3] ZvE [I n,I k] []
def ZvG:Ag (Zi 21 Tryz.f21):={ m:=_ }
def ZvH:Za:=Aa ZvG 21
def ZvI:Za:=Aa ZvG 33
def Z5K:Ab:=Zs ZvG 21 ZvH 33 ZvI
def fR(a:Zr)(a1:Zc):Rs:=C 21 [Am a.c,Am a1.c] []
def ZvJ:=lp C [.blk 0,.seq ZvI,.fin 0 [.cellO 4 (some 2) [some (1,0),some (1,0)],.tmpO 5 [none]]] [4,6,7,8,9] ZvH
def zC(cc c:WL)(m:Int):Rs:=ZvJ [.ptr 0 0,.own 1,.own 2,.ptr 3 0,I m] [.box [.t .nil,.t .nil],Zo cc,Zo c,.box [.t .nil,.t .nil]]
def fS(cc c x x1:WL)(m:Int):Rs:=ZvJ [.ptr 0 0,.own 1,.own 2,.ptr 3 0,I m] [.box [.t .nil,.t .nil],Zo cc,Zo c,.box [.own 4,.own 5],Zo x,Zo x1]
def ZvK:Ag (Zi 65 Tryz.f65):={ m:=_ }
def ZvL:Za:=Aa ZvK 7
def ZvM:Za:=Aa ZvK 23
def Z5L:Ab:=Zs ZvK 7 ZvL 23 ZvM
def Hq(a:WL):Rs:=C 65 [Zt a] []
def fT(l:WL)(i:Int):Rs:=lp C [.blk 0,.seq ZvM,.fin 0 [.tmp 2]] [0,3] ZvL [Zt l,I i] []
def ZvN:Ag (Zi 66 Tryz.f66):={ m:=_ }
def ZvO:Za:=Aa ZvN 15
def ZvP:Za:=Aa ZvN 31
def Z5M:Ab:=Zs ZvN 15 ZvO 31 ZvP
def LX(a a1:WL):Rs:=C 66 [Zt a,Zt a1] []
def fU(a b:WL)(i:Int):Rs:=lp C [.blk 0,.seq ZvP,.fin 0 [.tmp 4]] [0,1,5] ZvO [Zt a,Zt b,I i] []
def Z5N:Ab:=AB (Zi 26 Tryz.f26)
def Hr(a:Box):Rs:=C 26 [Am a.c] []
def ZvQ:Ag (Zi 10 Tryz.f10):={ m:=_ }
def ZvR:Za:=Aa ZvQ 17
def ZvS:Za:=Aa ZvQ 27
def Z5O:Ab:=Zs ZvQ 17 ZvR 27 ZvS
def Jj(a:Box):Rs:=C 10 [Am a.c] []
def fV(b:Box)(n i:Int):Rs:=lp C [.blk 0,.seq ZvS,.fin 0 [.tmp 2]] [1,3,4] ZvR [.ptr 0 0,I n,I i] [Ae b.c]
def Z5P:Ab:=AB (Zi 144 Tryz.f144)
def Kb(a:Zf)(a1:Int):Rs:=C 144 [Am a.c,I a1] []
def Z5Q:Ab:=AB (Zi 181 Tryz.f181)
def FV(a:Int):Rs:=C 181 [I a] []
def ZvT:Ag (Zi 145 Tryz.f145):={ m:=_ }
def ZvU:Za:=Aa ZvT 15
def ZvV:Za:=Aa ZvT 31
def Z5R:Ab:=Zs ZvT 15 ZvU 31 ZvV
def Hs(a:Zz):Rs:=C 145 [Am a.c] []
def LY(o:Zz)(i:Int):Rs:=lp C [.blk 0,.seq ZvV,.fin 0 [.tmp 2]] [1,3] ZvU [.ptr 0 0,I i] [Ae o.c]
end
