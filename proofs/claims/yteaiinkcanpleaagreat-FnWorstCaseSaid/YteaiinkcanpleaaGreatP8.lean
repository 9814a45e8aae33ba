/-
  Parts of the proofs for this seat: D2.
-/
import Derived.Test.YteaiinkcanpleaaGreatP6
set_option linter.all false
set_option maxRecDepth 100000
set_option maxHeartbeats 4000000
set_option cbv.maxSteps 9999999
namespace Go.Proofs.YteaiinkcanpleaaGreat
open Go.AM
noncomputable section
def xH:Af (Zj 237 Tryz.f237):={ m:=_ }
def Z5W:Za:=Aa xH 22
def Zuw:Za:=As xH 9 13 Z5W
def Zux:Za:=Aa xH 23
def Z5X:Ab:=Zn xH 9 Zuw 23 Zux
def Lw(a:Zg)(a1:WL):Rs:=C 237 [Am a.c,Zr a1] []
def P2(a:Zg)(cd cc:WL)(i:Int):Rs:=lp C [.blk 0,.seq Zux,.fin 0 [.tmp 4]] [1,2,5,6] Zuw [Zr cc,.ptr 0 0,.own 1,I i] [Ad a.c,Zm cd]
def P3:Af (Zj 250 Tryz.f250):={ m:=_ }
def Zuy:Za:=Aa P3 22
def xI:Za:=Aa P3 30
def xJ:Za:=Aa P3 31
def xK:Za:=BL P3 9 13 Zuy 21 xI 22 xJ
def Zuz:Za:=Aa P3 32
def Z5Y:Ab:=Zn P3 9 xK 32 Zuz
def xL(a:WL):Rs:=C 250 [Zr a] []
def Lx:List Fr:=[.blk 0,.seq Zuz,.fin 0 [.tmp 2]]
def FS(c l:WL)(i:Int):Rs:=lp C Lx [0,3,4] xK [Zr l,.own 0,I i] [Zm c]
def Ly(c l:WL)(i k:Int):Rs:=lp C (.blk 2::.seq xI::.blk 1::.seq xJ::.loop [0,3,4] xK::Lx) [0,3,4,5] Zuy [Zr l,.own 0,I i,I k] [Zm c]
def Zu0:Af (Zj 242 Tryz.f242):={ m:=_ }
def Zu1:Za:=Aa Zu0 23
def Zu2:Za:=Aa Zu0 39
def Z5Z:Ab:=Zn Zu0 23 Zu1 39 Zu2
def P4(a:Z5)(a1:WL):Rs:=C 242 [Am a.c,Zr a1] []
def dC(s:Z5)(cc:WL)(i:Int):Rs:=lp C [.blk 0,.seq Zu2,.fin 0 [.tmp 4]] [1,2,5] Zu1 [Zr cc,.ptr 0 0,I i] [Ad s.c]
def xM:Af (Zj 234 Tryz.f234):={ m:=_ }
def Z6a:Za:=Aa xM 38
def Zu3:Za:=As xM 17 21 Z6a
def Zu4:Za:=Aa xM 39
def Z6b:Ab:=Zn xM 17 Zu3 39 Zu4
def P5(a:List Z5)(a1:Zc)(a2 a3:Int):Rs:=C 234 [L 4 (a.map Z5.c),Am a1.c,I a2,I a3] []
def P6(q:Zc)(s:List Z5)(cd cl cc i:Int):Rs:=lp C [.blk 0,.seq Zu4,.fin 0 [.tmp 8]] [0,2,3,5,9,10] Zu3 [L 4 (s.map Z5.c),I cd,I cl,.ptr 0 0,I cc,I i] [Ad q.c]
def Zu5:Af (Zj 225 Tryz.f225):={ m:=_ }
def Zu6:Za:=Aa Zu5 17
def Zu7:Za:=Aa Zu5 29
def Z6c:Ab:=Zn Zu5 17 Zu6 29 Zu7
def dD(a:Zq)(a1:Zc)(a2:Int):Rs:=C 225 [Am a.c,Am a1.c,I a2] []
def dE(s:Zq)(q:Zc)(l:List Z5)(cc i:Int):Rs:=lp C [.blk 0,.seq Zu7,.fin 0 [.tmp 6]] [2,3,4,7,8] Zu6 [I cc,.ptr 0 0,.ptr 1 0,.own 2,I i] [Ad s.c,Ad q.c,.arr 240 4 true (l.map Z5.c)]
def xN:Af (Zj 59 Tryz.f59):={ m:=_ }
def Z6d:Za:=Aa xN 22
def Zu8:Za:=As xN 9 13 Z6d
def Zu9:Za:=Aa xN 23
def Z6e:Ab:=Zn xN 9 Zu8 23 Zu9
def Hm(a:Int):Rs:=C 59 [I a] []
def P7(cc:WL)(c i:Int):Rs:=lp C [.blk 0,.seq Zu9,.fin 0 [.tmp 2]] [0,3,4] Zu8 [I c,.own 0,I i] [Zm cc]
def Z6f:Ab:=AD (Zj 236 Tryz.f236)
def P8(a:Z5)(a1:WL):Rs:=C 236 [Am a.c,Zr a1] []
def ZuA:Af (Zj 243 Tryz.f243):={ m:=_ }
def ZuB:Za:=Aa ZuA 9
def ZuC:Za:=Aa ZuA 27
def Z6g:Ab:=Zn ZuA 9 ZuB 27 ZuC
def dF(a:WL):Rs:=C 243 [Zr a] []
def dG(l:WL)(n i:Int):Rs:=lp C [.blk 0,.seq ZuC,.fin 0 [.tmp 2]] [0,3,4] ZuB [Zr l,I n,I i] []
def ZuD:Af (Zj 235 Tryz.f235):={ m:=_ }
def ZuE:Za:=Aa ZuD 9
def ZuF:Za:=Aa ZuD 19
def Z6h:Ab:=Zn ZuD 9 ZuE 19 ZuF
def xO(a a1:WL):Rs:=C 235 [Zr a,Zr a1] []
def dH(a b:WL)(n i:Int):Rs:=lp C [.blk 0,.seq ZuF,.fin 0 [.tmp 4]] [0,1,5,6] ZuE [Zr a,Zr b,I n,I i] []
def Z6i:Ab:=AD (Zj 226 Tryz.f226)
def P9(a:Zq)(a1:Zc)(a2 a3:Int):Rs:=C 226 [Am a.c,Am a1.c,I a2,I a3] []
def xP:Af (Zj 274 Tryz.f274):={ m:=_ }
def Z6j:Za:=Aa xP 22
def ZuG:Za:=As xP 9 13 Z6j
def ZuH:Za:=Aa xP 23
def Z6k:Ab:=Zn xP 9 ZuG 23 ZuH
def dI(a:Zg)(a1:Int):Rs:=C 274 [Am a.c,I a1] []
def Ra(a:Zg)(m x k:Int):Rs:=lp C [.blk 0,.seq ZuH,.fin 0 [.tmp 4]] [1,2,5,6] ZuG [I m,.ptr 0 0,I x,I k] [Ad a.c]
def xQ:Af (Zj 275 Tryz.f275):={ m:=_ }
def Z6l:Za:=Aa xQ 22
def ZuI:Za:=As xQ 9 13 Z6l
def ZuJ:Za:=Aa xQ 23
def Z6m:Ab:=Zn xQ 9 ZuI 23 ZuJ
def dJ(a:WL):Rs:=C 275 [Zr a] []
def Rb(l:WL)(m i:Int):Rs:=lp C [.blk 0,.seq ZuJ,.fin 0 [.tmp 2]] [0,3,4] ZuI [Zr l,I m,I i] []
def Z6n:Ab:=AD (Zj 277 Tryz.f277)
def dK(a:Z5)(a1:WL):Rs:=C 277 [Am a.c,Zr a1] []
def ZuK:Af (Zj 276 Tryz.f276):={ m:=_ }
def ZuL:Za:=Aa ZuK 15
def ZuM:Za:=Aa ZuK 23
def Z6o:Ab:=Zn ZuK 15 ZuL 23 ZuM
def xR(a:Int):Rs:=C 276 [I a] []
def Rd(n b:Int):Rs:=lp C [.blk 0,.seq ZuM,.fin 0 [.tmp 2]] [0,3] ZuL [I n,I b] []
def ZuN:Af (Zj 263 Tryz.f263):={ m:=_ }
def ZuO:Za:=Aa ZuN 17
def ZuP:Za:=Aa ZuN 27
def Z6p:Ab:=Zn ZuN 17 ZuO 27 ZuP
def dL(a:Z5)(a1:Zg):Rs:=C 263 [Am a.c,Am a1.c] []
def dM(s:Z5)(a:Zg)(cc:List ZJ)(m:Int):Rs:=lp C [.blk 0,.seq ZuP,.fin 0 [.tmpO 4 [some (311,3)]]] [2,3,5,6] ZuO [.ptr 0 0,.ptr 1 0,.own 2,I m] [Ad s.c,Ad a.c,.arr 311 3 true (cc.map ZJ.c)]
def xS:Af (Zj 255 Tryz.f255):={ m:=_ }
def Z6q:Za:=Aa xS 42
def ZuQ:Za:=As xS 17 25 Z6q
def ZuR:Za:=Aa xS 43
def Z6r:Ab:=Zn xS 17 ZuQ 43 ZuR
def dN(a:Zq)(a1:Zc)(a2:Int):Rs:=C 255 [Am a.c,Am a1.c,I a2] []
def Re(s:Zq)(q:Zc)(cd:List ZJ)(cc i:Int):Rs:=lp C [.blk 0,.seq ZuR,.fin 0 [.tmpO 6 [some (311,3)]]] [2,3,4,7,8] ZuQ [I cc,.ptr 0 0,.ptr 1 0,.own 2,I i] [Ad s.c,Ad q.c,.arr 311 3 true (cd.map ZJ.c)]
def xT:Af (Zj 267 Tryz.f267):={ m:=_ }
def Z6s:Za:=Aa xT 22
def ZuS:Za:=As xT 9 13 Z6s
def ZuT:Za:=Aa xT 23
def Z6t:Ab:=Zn xT 9 ZuS 23 ZuT
def dO(a:Int)(a1:WL):Rs:=C 267 [I a,Zr a1] []
def Rf(m:Int)(c:WL)(x i:Int):Rs:=lp C [.blk 0,.seq ZuT,.fin 0 [.tmp 4]] [0,1,5,6] ZuS [I m,Zr c,I x,I i] []
def ZuU:Af (Zj 257 Tryz.f257):={ m:=_ }
def ZuV:Za:=Aa ZuU 9
def ZuW:Za:=Aa ZuU 19
def Z6u:Ab:=Zn ZuU 9 ZuV 19 ZuW
def dP(a:List ZJ)(a1:WL):Rs:=C 257 [L 3 (a.map ZJ.c),Zr a1] []
def dQ(cd l:List ZJ)(cc:WL)(i:Int):Rs:=lp C [.blk 0,.seq ZuW,.fin 0 [.tmp 4]] [0,1,5,6] ZuV [L 3 (l.map ZJ.c),Zr cc,.own 0,I i] [.arr 311 3 true (cd.map ZJ.c)]
def Lz:Af (Zj 264 Tryz.f264):={ m:=_ }
def Z6v:Za:=Aa Lz 22
def ZuX:Za:=As Lz 9 13 Z6v
def Z6w:Za:=Aa Lz 41
def ZuY:Za:=As Lz 28 13 Z6w
def ZuZ:Za:=Aa Lz 42
def Zva:Za:=AG Lz 23 5 ZuY 19 ZuZ
def Z6x:Ab:=Zn Lz 9 ZuX 23 Zva
def FT(a:Int)(a1 a2:WL):Rs:=C 264 [I a,Zr a1,Zr a2] []
def LA(cd cc c:WL)(i:Int):Rs:=lp C [.blk 0,.seq Zva,.fin 0 [.tmp 6]] [1,2,7,8] ZuX [Zr cc,Zr c,.own 0,I i] [Zm cd]
def Rg(cc c:WL)(i:Int):Rs:=lp C [.blk 2,.seq ZuZ,.fin 0 [.tmp 6]] [2,7,9] ZuY [Zr c,.own 0,I i] [Zm cc]
def J0:Af (Zj 265 Tryz.f265):={ m:=_ }
def Zvb:Za:=Aa J0 19
def Z6y:Za:=Aa J0 71
def Zvc:Za:=As J0 58 13 Z6y
def Zvd:Za:=Aa J0 72
def xU:Za:=AG J0 46 12 Zvc 26 Zvd
def Zve:Za:=Aa J0 73
def xV:Za:=AG J0 34 12 xU 39 Zve
def Zvf:Za:=Aa J0 74
def Zvg:Za:=AG J0 29 5 xV 45 Zvf
def Z6z:Ab:=Zn J0 19 Zvb 29 Zvg
def dR(a:Int):Rs:=C 265 [I a] []
def dS(cc:WA)(n c i:Int):Rs:=lp C [.blk 0,.seq Zvg,.fin 0 [.tmp 2]] [0,3,4,5] Zvb [I n,.own 0,I c,I i] [ZZ cc]
def Zvh:List Fr:=[.blk 2,.seq Zvf,.fin 0 [.tmp 2]]
def Rh(cc:WA)(n c i:Int):Rs:=lp C Zvh [0,3,4,6] xV [I n,.own 0,I c,I i] [ZZ cc]
def Zvi:List Fr:=.blk 4::.blk 3::.seq Zve::.loop [0,3,4,6] xV::Zvh
def Ri(cc:WA)(n c i j:Int):Rs:=lp C Zvi [0,3,4,6,7] xU [I n,.own 0,I c,I i,I j] [ZZ cc]
def Rj(cc:WA)(n c i j s:Int):Rs:=lp C (.blk 6::.blk 5::.seq Zvd::.loop [0,3,4,6,7] xU::Zvi) [0,3,4,6,7,8] Zvc [I n,.own 0,I c,I i,I j,I s] [ZZ cc]
def LB:Af (Zj 266 Tryz.f266):={ m:=_ }
def Zvj:Za:=Aa LB 17
def Zvk:Za:=Aa LB 58
def Zvl:Za:=Aa LB 74
def xW:Za:=AG LB 38 20 Zvk 36 Zvl
def Zvm:Za:=Aa LB 75
def Zvn:Za:=AG LB 33 5 xW 42 Zvm
def Z60:Ab:=Zn LB 17 Zvj 33 Zvn
def Rk(a:Program):Rs:=C 266 [Am a.c] []
def dT(p:Program)(n k:Int):Rs:=lp C [.blk 0,.seq Zvn,.fin 0 [.tmp 2]] [1,3,4] Zvj [.ptr 0 0,I n,I k] [Ad p.c]
def Zvo:List Fr:=[.blk 2,.seq Zvm,.fin 0 [.tmp 2]]
def Rl(p:Program)(n i:Int):Rs:=lp C Zvo [1,3,5] xW [.ptr 0 0,I n,I i] [Ad p.c]
def dU(p:Program)(n i k:Int):Rs:=lp C (.blk 4::.blk 3::.seq Zvl::.loop [1,3,5] xW::Zvo) [1,3,5,6] Zvk [.ptr 0 0,I n,I i,I k] [Ad p.c]
def Zvp:Af (Zj 256 Tryz.f256):={ m:=_ }
def Zvq:Za:=Aa Zvp 21
def Zvr:Za:=Aa Zvp 41
def Zvs:Ab:=Zn Zvp 21 Zvq 41 Zvr
def LC(a:List ZJ)(a1:Int):Rs:=C 256 [L 3 (a.map ZJ.c),I a1] []
def Rm(x:WL)(x1:WA)(x2:WL)(l:List ZJ)(n cc i:Int):Rs:=lp C [.blk 0,.seq Zvr,.fin 0 [.cellO 4 (some 3) [some (3,1),some (32,1),some (3,1)],.tmpO 5 [none]]] [0,1,4,6,7,8] Zvq [L 3 (l.map ZJ.c),I n,.ptr 0 0,I cc,.ptr 1 0,I i] [.box [.t .nil,.t .nil,.t .nil],.box [.own 2,.own 3,.own 4],Zm x,ZZ x1,Zm x2]
def Z61:Ab:=AD (Zj 251 Tryz.f251)
def xX(a:Zq)(a1:Zc)(a2:Int):Rs:=C 251 [Am a.c,Am a1.c,I a2] []
def Z62:Ab:=AD (Zj 260 Tryz.f260)
def W6(a:Int):Rs:=C 260 [I a] []
def Hn:Af (Zj 258 Tryz.f258):={ m:=_ }
def Zvt:Za:=Aa Hn 19
def Zvu:Za:=Aa Hn 51
def Zvv:Za:=Aa Hn 61
def Zvw:Za:=Aa Hn 66
def xY:Za:=BL Hn 36 15 Zvu 25 Zvv 30 Zvw
def Zvx:Za:=Aa Hn 67
def Zvy:Za:=AG Hn 31 5 xY 36 Zvx
def Z63:Ab:=Zn Hn 19 Zvt 31 Zvy
def dV(a:Program):Rs:=C 258 [Am a.c] []
def Zvz:=lp C [.blk 0,.seq Zvy,.fin 0 [.cellO 2 (some 7) [some (3,1),some (3,1),some (283,1),some (277,2),some (277,2),none,none],.tmpO 3 [none]]] [1,2,4,5,6] Zvt
def Zv0(p:Program)(cd cc:Zb)(n k:Int):Rs:=Zvz [.ptr 0 0,.ptr 1 0,I n,.ptr 2 0,I k] [Ad p.c,.box [.t .nil,.t .nil,.t .nil,.t .nil,.t .nil,I cd.Num,I cd.Den],.box [.t .nil,.t .nil,.t .nil,.t .nil,.t .nil,I cc.Num,I cc.Den]]
def dW(p:Program)(cd cc:Zb)(x:WL)(x1:List Zb)(n k:Int):Rs:=Zvz [.ptr 0 0,.ptr 1 0,I n,.ptr 2 0,I k] [Ad p.c,.box [.t .nil,.t .nil,.t .nil,.t .nil,.t .nil,I cd.Num,I cd.Den],.box [.t .nil,.own 3,.t .nil,.t .nil,.own 4,I cc.Num,I cc.Den],Zm x,Xc x1]
def Zv1:List Fr:=[.blk 2,.seq Zvx,.fin 0 [.cellO 2 (some 7) [some (3,1),some (3,1),some (283,1),some (277,2),some (277,2),none,none],.tmpO 3 [none]]]
def xZ:=lp C Zv1 [1,2,4,5,7] xY
def Z64(p:Program)(cd cc:Zb)(n i:Int):Rs:=xZ [.ptr 0 0,.ptr 1 0,I n,.ptr 2 0,I i] [Ad p.c,.box [.t .nil,.t .nil,.t .nil,.t .nil,.t .nil,I cd.Num,I cd.Den],.box [.t .nil,.t .nil,.t .nil,.t .nil,.t .nil,I cc.Num,I cc.Den]]
def Zv2(p:Program)(cd cc:Zb)(x:WL)(x1:List Zb)(n i:Int):Rs:=xZ [.ptr 0 0,.ptr 1 0,I n,.ptr 2 0,I i] [Ad p.c,.box [.t .nil,.t .nil,.t .nil,.t .nil,.t .nil,I cd.Num,I cd.Den],.box [.t .nil,.own 3,.t .nil,.t .nil,.own 4,I cc.Num,I cc.Den],Zm x,Xc x1]
def Zv3:=lp C (.blk 4::.seq Zvv::.blk 3::.seq Zvw::.loop [1,2,4,5,7] xY::Zv1) [1,2,4,5,7,8,9] Zvu
def dX(p:Program)(cd cc:Zb)(x:WL)(x1 cl:List Zb)(n i k:Int):Rs:=Zv3 [.ptr 0 0,.ptr 1 0,I n,.ptr 2 0,I i,.own 5,I k] [Ad p.c,.box [.t .nil,.t .nil,.t .nil,.t .nil,.t .nil,I cd.Num,I cd.Den],.box [.t .nil,.own 3,.t .nil,.t .nil,.own 4,I cc.Num,I cc.Den],Zm x,Xc x1,Xc cl]
def LD(p:Program)(cd cc:Zb)(x x1:WL)(x2:List (List Zb))(x3 x4:List Zb)(n i:Int):Rs:=xZ [.ptr 0 0,.ptr 1 0,I n,.ptr 2 0,I i] [Ad p.c,.box [.t .nil,.t .nil,.t .nil,.t .nil,.t .nil,I cd.Num,I cd.Den],.box [.own 3,.own 4,.own 5,.own 6,.own 7,I cc.Num,I cc.Den],Zm x,Zm x1,.arr 283 1 true (x2.map (lc 2 Zb.c)),Xc x3,Xc x4]
def dY(p:Program)(cd cc:Zb)(x x1:WL)(x2:List (List Zb))(x3 x4 cl:List Zb)(n i k:Int):Rs:=Zv3 [.ptr 0 0,.ptr 1 0,I n,.ptr 2 0,I i,.own 8,I k] [Ad p.c,.box [.t .nil,.t .nil,.t .nil,.t .nil,.t .nil,I cd.Num,I cd.Den],.box [.own 3,.own 4,.own 5,.own 6,.own 7,I cc.Num,I cc.Den],Zm x,Zm x1,.arr 283 1 true (x2.map (lc 2 Zb.c)),Xc x3,Xc x4,Xc cl]
def Z65:Ab:=AD (Zj 254 Tryz.f254)
def LE(a:Int):Rs:=C 254 [I a] []
def Zv4:Af (Zj 253 Tryz.f253):={ m:=_ }
def Zv5:Za:=Aa Zv4 5
def Zv6:Za:=Aa Zv4 17
def Z66:Ab:=Zn Zv4 5 Zv5 17 Zv6
def LF(a a1:Int):Rs:=C 253 [I a,I a1] []
def dZ(a b:Int):Rs:=lp C [.blk 0,.seq Zv6,.fin 0 [.tmp 4]] [0,1] Zv5 [I a,I b] []
def Z67:Ab:=AD (Zj 245 Tryz.f245)
def WJ(a:Zb):Rs:=C 245 [Am a.c] []
def Zv7:Af (Zj 278 Tryz.f278):={ m:=_ }
def Zv8:Za:=Aa Zv7 7
def Zv9:Za:=Aa Zv7 23
def Z68:Ab:=Zn Zv7 7 Zv8 23 Zv9
def Rn(a:List Zb):Rs:=C 278 [FE a] []
def d6(l:List Zb)(i:Int):Rs:=lp C [.blk 0,.seq Zv9,.fin 0 [.tmp 2]] [0,3] Zv8 [FE l,I i] []
def d7:Af (Zj 268 Tryz.f268):={ m:=_ }
def ZvA:Za:=Aa d7 21
def ZvB:Za:=Aa d7 42
def ZvC:Za:=Aa d7 58
def ZvD:Za:=AG d7 37 5 ZvB 21 ZvC
def Z69:Ab:=Zn d7 21 ZvA 37 ZvD
def Ho(a:Zv):Rs:=C 268 [Am a.c] []
def d8(d:Zv)(all:WL)(m n i:Int):Rs:=lp C [.blk 0,.seq ZvD,.fin 0 [.tmp 2]] [1,3,4,5,6] ZvA [.ptr 0 0,I m,I n,.own 1,I i] [Ad d.c,Zm all]
def d9(d:Zv)(m n i:Int):Rs:=lp C [.blk 2,.seq ZvC,.fin 0 [.tmp 2]] [1,3,4,7] ZvB [.ptr 0 0,I m,I n,I i] [Ad d.c]
def yA:Af (Zj 259 Tryz.f259):={ m:=_ }
def Z6A:Za:=Aa yA 30
def ZvE:Za:=As yA 17 13 Z6A
def ZvF:Za:=Aa yA 31
def Z6B:Ab:=Zn yA 17 ZvE 31 ZvF
def eC(a:Zv):Rs:=C 259 [Am a.c] []
def Hp(d:Zv)(cc j:Int):Rs:=lp C [.blk 0,.seq ZvF,.fin 0 [.tmp 2]] [1,3,4] ZvE [.ptr 0 0,I cc,I j] [Ad d.c]
def Z6C:Af (Zj 279 Tryz.f279):={ m:=_ }
def Z6D:Za:=Aa Z6C 18
def Z6E:Ab:=Ql Z6C 18 Z6D
def FU(a a1:Int):Rs:=C 279 [I a,I a1] []
def Z6F:Ab:=AD (Zj 269 Tryz.f269)
def FV(a a1:Zb):Rs:=C 269 [Am a.c,Am a1.c] []
def Z6G:Ab:=AD (Zj 270 Tryz.f270)
def yB(a a1:Zb):Rs:=C 270 [Am a.c,Am a1.c] []
def yC:Af (Zj 261 Tryz.f261):={ m:=_ }
def Z6H:Za:=Aa yC 52
def ZvG:Za:=As yC 19 33 Z6H
def ZvH:Za:=Aa yC 53
def Z6I:Ab:=Zn yC 19 ZvG 53 ZvH
def eD(a:Zv)(a1:Int):Rs:=C 261 [Am a.c,I a1] []
def Ro(d:Zv)(least:Zb)(j cc i:Int):Rs:=lp C [.blk 0,.seq ZvH,.fin 0 [.tmp 4]] [1,2,5,6,7] ZvG [I j,.ptr 0 0,I cc,.ptr 1 0,I i] [Ad d.c,Ad least.c]
def Z6J:Ab:=AD (Zj 272 Tryz.f272)
def FX(a a1:Zb):Rs:=C 272 [Am a.c,Am a1.c] []
def Z6K:Ab:=AD (Zj 280 Tryz.f280)
def yD(a a1:Zb):Rs:=C 280 [Am a.c,Am a1.c] []
def Z6L:Ab:=AD (Zj 271 Tryz.f271)
def Vi(a a1 a2:Zb):Rs:=C 271 [Am a.c,Am a1.c,Am a2.c] []
def Z6M:Ab:=AD (Zj 273 Tryz.f273)
def Hq(a a1:Zb):Rs:=C 273 [Am a.c,Am a1.c] []
def QB:Af (Zj 262 Tryz.f262):={ m:=_ }
def Z6N:Za:=Aa QB 37
def ZvI:Za:=As QB 21 16 Z6N
def Z6O:Za:=Aa QB 97
def ZvJ:Za:=As QB 81 16 Z6O
def ZvK:Za:=Aa QB 103
def ZvL:Za:=Aa QB 110
def yE:Za:=BL QB 56 25 ZvJ 47 ZvK 54 ZvL
def Z6P:Za:=Aa QB 132
def ZvM:Za:=As QB 116 16 Z6P
def LG:Za:=Aa QB 138
def ZvN:Za:=AG QB 111 5 ZvM 27 LG
def ZvO:Za:=AG QB 41 15 yE 70 ZvN
def Z6Q:Ab:=Zn QB 21 ZvI 41 ZvO
def Rp(a:Zv)(a1 a2:Int):Rs:=C 262 [Am a.c,I a1,I a2] []
def eE(d:Zv)(cc a:Zb)(cd:List Zb)(i j:Int)(cl:Bool)(k:Int):Rs:=lp C [.blk 0,.seq ZvO,.fin 0 [.cellO 6 (some 7) [some (3,1),some (3,1),some (283,1),some (277,2),some (277,2),none,none],.tmpO 7 [none]]] [1,2,3,6,8,9,10,11] ZvI [I i,I j,.ptr 0 0,.ptr 1 0,Bo cl,.ptr 2 0,.own 3,I k] [Ad d.c,.box [.t .nil,.t .nil,.t .nil,.t .nil,.t .nil,I cc.Num,I cc.Den],Ad a.c,Xc cd]
def ZvP:List Fr:=[.blk 2,.seq ZvN,.fin 0 [.cellO 6 (some 7) [some (3,1),some (3,1),some (283,1),some (277,2),some (277,2),none,none],.tmpO 7 [none]]]
def yF:=lp C ZvP [1,2,3,6,8,10,14,16,17] yE
def yG(d:Zv)(cd:Zb)(cl:List Zb)(limit cc:Zb)(x x1:WL)(i j:Int)(cn:Bool)(co:Int):Rs:=yF [I i,I j,.ptr 0 0,.ptr 1 0,Bo cn,.own 2,.ptr 3 0,.ptr 4 0,I co] [Ad d.c,.box [.t .nil,.t .nil,.t .nil,.t .nil,.t .nil,I cd.Num,I cd.Den],Xc cl,Ad limit.c,.box [.own 5,.own 6,.t .nil,.t .nil,.t .nil,I cc.Num,I cc.Den],Zm x,Zm x1]
def Hr(d:Zv)(cd limit cc:Zb)(x x1:WL)(fr:Bool)(x2:List (List Zb))(x3:List Zb)(i j:Int)(cn:Bool)(cl:List Zb)(co:Int):Rs:=yF [I i,I j,.ptr 0 0,.ptr 1 0,Bo cn,FE cl,.ptr 2 0,.ptr 3 0,I co] [Ad d.c,.box [.t .nil,.t .nil,.t .nil,.t .nil,.t .nil,I cd.Num,I cd.Den],Ad limit.c,.box [.own 4,.own 5,.own 6,.own 7,.t .nil,I cc.Num,I cc.Den],Zm x,Zm x1,.arr 283 1 fr (x2.map (lc 2 Zb.c)),Xc x3]
def yH:=lp C (.blk 4::.seq ZvK::.blk 3::.seq ZvL::.loop [1,2,3,6,8,10,14,16,17] yE::ZvP) [1,2,3,6,8,10,14,16,17,18,19] ZvJ
def eF(d:Zv)(cd:Zb)(cl:List Zb)(limit cc:Zb)(x x1:WL)(cp:List Zb)(i j:Int)(cn:Bool)(co k:Int):Rs:=yH [I i,I j,.ptr 0 0,.ptr 1 0,Bo cn,.own 2,.ptr 3 0,.ptr 4 0,I co,.own 7,I k] [Ad d.c,.box [.t .nil,.t .nil,.t .nil,.t .nil,.t .nil,I cd.Num,I cd.Den],Xc cl,Ad limit.c,.box [.own 5,.own 6,.t .nil,.t .nil,.t .nil,I cc.Num,I cc.Den],Zm x,Zm x1,Xc cp]
def LH:=lp C [.blk 6,.seq LG,.fin 0 [.cellO 6 (some 7) [some (3,1),some (3,1),some (283,1),some (277,2),some (277,2),none,none],.tmpO 7 [none]]] [2,3,6,8,10,14,16,25] ZvM
def yI(d:Zv)(cd:Zb)(cl:List Zb)(limit cc:Zb)(x x1:WL)(j:Int)(cn:Bool)(k:Int):Rs:=LH [I j,.ptr 0 0,.ptr 1 0,Bo cn,.own 2,.ptr 3 0,.ptr 4 0,I k] [Ad d.c,.box [.t .nil,.t .nil,.t .nil,.t .nil,.t .nil,I cd.Num,I cd.Den],Xc cl,Ad limit.c,.box [.own 5,.own 6,.t .nil,.t .nil,.t .nil,I cc.Num,I cc.Den],Zm x,Zm x1]
def eG(d:Zv)(cd limit cc:Zb)(x x1:WL)(fr:Bool)(x2:List (List Zb))(x3 cp:List Zb)(i j:Int)(cn:Bool)(cl:List Zb)(co k:Int):Rs:=yH [I i,I j,.ptr 0 0,.ptr 1 0,Bo cn,FE cl,.ptr 2 0,.ptr 3 0,I co,.own 8,I k] [Ad d.c,.box [.t .nil,.t .nil,.t .nil,.t .nil,.t .nil,I cd.Num,I cd.Den],Ad limit.c,.box [.own 4,.own 5,.own 6,.own 7,.t .nil,I cc.Num,I cc.Den],Zm x,Zm x1,.arr 283 1 fr (x2.map (lc 2 Zb.c)),Xc x3,Xc cp]
def eH(d:Zv)(cd limit cc:Zb)(x x1:WL)(fr:Bool)(x2:List (List Zb))(x3:List Zb)(j:Int)(cn:Bool)(cl:List Zb)(k:Int):Rs:=LH [I j,.ptr 0 0,.ptr 1 0,Bo cn,FE cl,.ptr 2 0,.ptr 3 0,I k] [Ad d.c,.box [.t .nil,.t .nil,.t .nil,.t .nil,.t .nil,I cd.Num,I cd.Den],Ad limit.c,.box [.own 4,.own 5,.own 6,.own 7,.t .nil,I cc.Num,I cc.Den],Zm x,Zm x1,.arr 283 1 fr (x2.map (lc 2 Zb.c)),Xc x3]
def LI(d:Zv)(cd:Zb)(cl:List Zb)(limit cc:Zb)(x x1:WL)(fr:Bool)(x2:List (List Zb))(x3:List Zb)(i j:Int)(cn:Bool)(co:Int):Rs:=yF [I i,I j,.ptr 0 0,.ptr 1 0,Bo cn,.own 2,.ptr 3 0,.ptr 4 0,I co] [Ad d.c,.box [.t .nil,.t .nil,.t .nil,.t .nil,.t .nil,I cd.Num,I cd.Den],Xc cl,Ad limit.c,.box [.own 5,.own 6,.own 7,.own 8,.t .nil,I cc.Num,I cc.Den],Zm x,Zm x1,.arr 283 1 fr (x2.map (lc 2 Zb.c)),Xc x3]
def Z6R(d:Zv)(cd:Zb)(cl:List Zb)(limit cc:Zb)(x x1:WL)(x2:List Zb)(j:Int)(cn:Bool)(k:Int):Rs:=LH [I j,.ptr 0 0,.ptr 1 0,Bo cn,.own 2,.ptr 3 0,.ptr 4 0,I k] [Ad d.c,.box [.t .nil,.t .nil,.t .nil,.t .nil,.t .nil,I cd.Num,I cd.Den],Xc cl,Ad limit.c,.box [.own 5,.own 6,.t .nil,.t .nil,.own 7,I cc.Num,I cc.Den],Zm x,Zm x1,Xc x2]
def ZvQ(d:Zv)(cd:Zb)(cl:List Zb)(limit cc:Zb)(x x1:WL)(j:Int)(cn:Bool)(k:Int)(x2:Bool):Rs:=Ev C [.fin 0 [.cellO 6 (some 7) [some (3,1),some (3,1),some (283,1),some (277,2),some (277,2),none,none],.tmpO 7 [none]]] LG ⟨[(2,I j),(3,.ptr 0 0),(6,.ptr 1 0),(8,Bo cn),(10,.own 2),(14,.ptr 3 0),(16,.ptr 4 0),(25,I k),(265,Bo x2)],[[]],[Ad d.c,.box [.t .nil,.t .nil,.t .nil,.t .nil,.t .nil,I cd.Num,I cd.Den],Xc cl,Ad limit.c,.box [.own 5,.own 6,.t .nil,.t .nil,.t .nil,I cc.Num,I cc.Den],Zm x,Zm x1]⟩
def eI(d:Zv)(cd limit cc:Zb)(x x1:WL)(fr:Bool)(x2:List (List Zb))(x3 x4:List Zb)(j:Int)(cn:Bool)(cl:List Zb)(k:Int):Rs:=LH [I j,.ptr 0 0,.ptr 1 0,Bo cn,FE cl,.ptr 2 0,.ptr 3 0,I k] [Ad d.c,.box [.t .nil,.t .nil,.t .nil,.t .nil,.t .nil,I cd.Num,I cd.Den],Ad limit.c,.box [.own 4,.own 5,.own 6,.own 7,.own 8,I cc.Num,I cc.Den],Zm x,Zm x1,.arr 283 1 fr (x2.map (lc 2 Zb.c)),Xc x3,Xc x4]
def ZvR(d:Zv)(cd limit cc:Zb)(x x1:WL)(fr:Bool)(x2:List (List Zb))(x3:List Zb)(j:Int)(cn:Bool)(cl:List Zb)(k:Int)(x4:Bool):Rs:=Ev C [.fin 0 [.cellO 6 (some 7) [some (3,1),some (3,1),some (283,1),some (277,2),some (277,2),none,none],.tmpO 7 [none]]] LG ⟨[(2,I j),(3,.ptr 0 0),(6,.ptr 1 0),(8,Bo cn),(10,FE cl),(14,.ptr 2 0),(16,.ptr 3 0),(25,I k),(265,Bo x4)],[[]],[Ad d.c,.box [.t .nil,.t .nil,.t .nil,.t .nil,.t .nil,I cd.Num,I cd.Den],Ad limit.c,.box [.own 4,.own 5,.own 6,.own 7,.t .nil,I cc.Num,I cc.Den],Zm x,Zm x1,.arr 283 1 fr (x2.map (lc 2 Zb.c)),Xc x3]⟩
def eJ(d:Zv)(cd:Zb)(cl:List Zb)(limit cc:Zb)(x x1:WL)(fr:Bool)(x2:List (List Zb))(x3 cp:List Zb)(i j:Int)(cn:Bool)(co k:Int):Rs:=yH [I i,I j,.ptr 0 0,.ptr 1 0,Bo cn,.own 2,.ptr 3 0,.ptr 4 0,I co,.own 9,I k] [Ad d.c,.box [.t .nil,.t .nil,.t .nil,.t .nil,.t .nil,I cd.Num,I cd.Den],Xc cl,Ad limit.c,.box [.own 5,.own 6,.own 7,.own 8,.t .nil,I cc.Num,I cc.Den],Zm x,Zm x1,.arr 283 1 fr (x2.map (lc 2 Zb.c)),Xc x3,Xc cp]
def yJ(d:Zv)(cd:Zb)(cl:List Zb)(limit cc:Zb)(x x1:WL)(fr:Bool)(x2:List (List Zb))(x3:List Zb)(j:Int)(cn:Bool)(k:Int):Rs:=LH [I j,.ptr 0 0,.ptr 1 0,Bo cn,.own 2,.ptr 3 0,.ptr 4 0,I k] [Ad d.c,.box [.t .nil,.t .nil,.t .nil,.t .nil,.t .nil,I cd.Num,I cd.Den],Xc cl,Ad limit.c,.box [.own 5,.own 6,.own 7,.own 8,.t .nil,I cc.Num,I cc.Den],Zm x,Zm x1,.arr 283 1 fr (x2.map (lc 2 Zb.c)),Xc x3]
def eK(d:Zv)(cd limit cc:Zb)(x x1:WL)(fr:Bool)(x2:List (List Zb))(x3 x4:List Zb)(j:Int)(cn:Bool)(cl:List Zb)(k:Int)(x5:Bool):Rs:=Ev C [.fin 0 [.cellO 6 (some 7) [some (3,1),some (3,1),some (283,1),some (277,2),some (277,2),none,none],.tmpO 7 [none]]] LG ⟨[(2,I j),(3,.ptr 0 0),(6,.ptr 1 0),(8,Bo cn),(10,FE cl),(14,.ptr 2 0),(16,.ptr 3 0),(25,I k),(265,Bo x5)],[[]],[Ad d.c,.box [.t .nil,.t .nil,.t .nil,.t .nil,.t .nil,I cd.Num,I cd.Den],Ad limit.c,.box [.own 4,.own 5,.own 6,.own 7,.own 8,I cc.Num,I cc.Den],Zm x,Zm x1,.arr 283 1 fr (x2.map (lc 2 Zb.c)),Xc x3,Xc x4]⟩
def Z6S(d:Zv)(cd:Zb)(cl:List Zb)(limit cc:Zb)(x x1:WL)(fr:Bool)(x2:List (List Zb))(x3 x4:List Zb)(j:Int)(cn:Bool)(k:Int):Rs:=LH [I j,.ptr 0 0,.ptr 1 0,Bo cn,.own 2,.ptr 3 0,.ptr 4 0,I k] [Ad d.c,.box [.t .nil,.t .nil,.t .nil,.t .nil,.t .nil,I cd.Num,I cd.Den],Xc cl,Ad limit.c,.box [.own 5,.own 6,.own 7,.own 8,.own 9,I cc.Num,I cc.Den],Zm x,Zm x1,.arr 283 1 fr (x2.map (lc 2 Zb.c)),Xc x3,Xc x4]
def ZvS(d:Zv)(cd:Zb)(cl:List Zb)(limit cc:Zb)(x x1:WL)(fr:Bool)(x2:List (List Zb))(x3:List Zb)(j:Int)(cn:Bool)(k:Int)(x4:Bool):Rs:=Ev C [.fin 0 [.cellO 6 (some 7) [some (3,1),some (3,1),some (283,1),some (277,2),some (277,2),none,none],.tmpO 7 [none]]] LG ⟨[(2,I j),(3,.ptr 0 0),(6,.ptr 1 0),(8,Bo cn),(10,.own 2),(14,.ptr 3 0),(16,.ptr 4 0),(25,I k),(265,Bo x4)],[[]],[Ad d.c,.box [.t .nil,.t .nil,.t .nil,.t .nil,.t .nil,I cd.Num,I cd.Den],Xc cl,Ad limit.c,.box [.own 5,.own 6,.own 7,.own 8,.t .nil,I cc.Num,I cc.Den],Zm x,Zm x1,.arr 283 1 fr (x2.map (lc 2 Zb.c)),Xc x3]⟩
def UO:Af (Zj 252 Tryz.f252):={ m:=_ }
def ZvT:Za:=Aa UO 38
def ZvU:Za:=Aa UO 53
def Z6T:Za:=Aa UO 81
def ZvV:Za:=As UO 68 13 Z6T
def Z6U:Za:=Aa UO 100
def ZvW:Za:=As UO 87 13 Z6U
def ZvX:Za:=Aa UO 101
def ZvY:Za:=AG UO 82 5 ZvW 19 ZvX
def ZvZ:Za:=AG UO 63 5 ZvV 19 ZvY
def Zwa:Za:=AG UO 48 5 ZvU 15 ZvZ
def Rq:Za:=Aa UO 105
def Rr:Za:=Aa UO 126
def LJ:Za:=YW UO 17 21 ZvT 31 Zwa 88 Rq 109 Rr
def Zwb:Za:=Aa UO 127
def Z6V:Ab:=Zn UO 17 LJ 127 Zwb
def eN(a:Program):Rs:=C 252 [Am a.c] []
def Rt:List Fr:=[.blk 0,.seq Zwb,.fin 0 [.cellO 2 (some 4) [none,none,some (277,2),some (277,2)],.tmpO 3 [none]]]
def FY(p:Program)(cc:Zb)(d:Zv)(n:Int):Rs:=lp C Rt [1,2,4,6] LJ [.ptr 0 0,.ptr 1 0,.ptr 2 0,I n] [Ad p.c,.box [I cc.Num,I cc.Den,.t .nil,.t .nil],Ad d.c]
def Zwc:=lp C (.blk 2::.seq Zwa::.seq Rq::.blk 1::.seq Rr::.loop [1,2,4,6] LJ::Rt) [1,2,4,8,9] ZvT
def yK(p:Program)(cd:Zb)(d:Zv)(cc:Zb)(k:Int):Rs:=Zwc [.ptr 0 0,.ptr 1 0,.ptr 2 0,.ptr 3 0,I k] [Ad p.c,.box [I cd.Num,I cd.Den,.t .nil,.t .nil],Ad d.c,.box [I cc.Num,I cc.Den,.t .nil,.t .nil]]
def eO(p:Program)(cd:Zb)(d:Zv)(cc:Zb)(x:List Zb)(k:Int):Rs:=Zwc [.ptr 0 0,.ptr 1 0,.ptr 2 0,.ptr 3 0,I k] [Ad p.c,.box [I cd.Num,I cd.Den,.t .nil,.t .nil],Ad d.c,.box [I cc.Num,I cc.Den,.own 4,.t .nil],Xc x]
def yL:=lp C (.blk 4::.seq ZvZ::.seq Rq::.blk 1::.seq Rr::.loop [1,2,4,6] LJ::Rt) [1,2,4,8,10] ZvU
def Z6W(p:Program)(cd:Zb)(d:Zv)(cc:Zb)(i:Int):Rs:=yL [.ptr 0 0,.ptr 1 0,.ptr 2 0,.ptr 3 0,I i] [Ad p.c,.box [I cd.Num,I cd.Den,.t .nil,.t .nil],Ad d.c,.box [I cc.Num,I cc.Den,.t .nil,.t .nil]]
def Zwd(p:Program)(cd:Zb)(d:Zv)(cc:Zb)(x:List Zb)(i:Int):Rs:=yL [.ptr 0 0,.ptr 1 0,.ptr 2 0,.ptr 3 0,I i] [Ad p.c,.box [I cd.Num,I cd.Den,.t .nil,.t .nil],Ad d.c,.box [I cc.Num,I cc.Den,.own 4,.t .nil],Xc x]
def eQ(p:Program)(cd:Zb)(d:Zv)(cc:Zb)(x x1:List Zb)(i:Int):Rs:=yL [.ptr 0 0,.ptr 1 0,.ptr 2 0,.ptr 3 0,I i] [Ad p.c,.box [I cd.Num,I cd.Den,.t .nil,.t .nil],Ad d.c,.box [I cc.Num,I cc.Den,.own 4,.own 5],Xc x,Xc x1]
def Zwe:=lp C (.blk 6::.seq ZvY::.seq Rq::.blk 1::.seq Rr::.loop [1,2,4,6] LJ::Rt) [1,2,4,8,11] ZvV
def Z6X(p:Program)(cd:Zb)(d:Zv)(cc:Zb)(x:List Zb)(i:Int):Rs:=Zwe [.ptr 0 0,.ptr 1 0,.ptr 2 0,.ptr 3 0,I i] [Ad p.c,.box [I cd.Num,I cd.Den,.t .nil,.t .nil],Ad d.c,.box [I cc.Num,I cc.Den,.own 4,.t .nil],Xc x]
def Ru(p:Program)(cd:Zb)(d:Zv)(cc:Zb)(x x1:List Zb)(i:Int):Rs:=Zwe [.ptr 0 0,.ptr 1 0,.ptr 2 0,.ptr 3 0,I i] [Ad p.c,.box [I cd.Num,I cd.Den,.t .nil,.t .nil],Ad d.c,.box [I cc.Num,I cc.Den,.own 4,.own 5],Xc x,Xc x1]
def Rv(p:Program)(cd:Zb)(d:Zv)(cc:Zb)(x x1:List Zb)(k:Int):Rs:=lp C (.blk 8::.seq ZvX::.seq Rq::.blk 1::.seq Rr::.loop [1,2,4,6] LJ::Rt) [1,2,4,8,12] ZvW [.ptr 0 0,.ptr 1 0,.ptr 2 0,.ptr 3 0,I k] [Ad p.c,.box [I cd.Num,I cd.Den,.t .nil,.t .nil],Ad d.c,.box [I cc.Num,I cc.Den,.own 4,.own 5],Xc x,Xc x1]
def Z6Y:Ab:=AD (Zj 244 Tryz.f244)
def yM(a:Zq)(a1:Zc)(a2:Int):Rs:=C 244 [Am a.c,Am a1.c,I a2] []
def Z6Z:Ab:=AD (Zj 238 Tryz.f238)
def eR(a:Zq)(a1:Zc)(a2:Int):Rs:=C 238 [Am a.c,Am a1.c,I a2] []
def Z7a:Af (Zj 247 Tryz.f247):={ m:=_ }
def Z7b:Za:=Aa Z7a 18
def Z7c:Ab:=Ql Z7a 18 Z7b
def yN(a:Zb):Rs:=C 247 [Am a.c] []
def Z7d:Ab:=AD (Zj 246 Tryz.f246)
def Zwf(a:Int):Rs:=C 246 [I a] []
def Zwg:Af (Zj 248 Tryz.f248):={ m:=_ }
def Zwh:Za:=Aa Zwg 9
def Zwi:Za:=Aa Zwg 27
def Z7e:Ab:=Zn Zwg 9 Zwh 27 Zwi
def yO(a a1 a2:Int):Rs:=C 248 [I a,I a1,I a2] []
def eS(n c cc x i:Int):Rs:=lp C [.blk 0,.seq Zwi,.fin 0 [.tmp 6]] [0,1,2,7,8] Zwh [I n,I c,I cc,I x,I i] []
def Zwj:Af (Zj 239 Tryz.f239):={ m:=_ }
def Zwk:Za:=Aa Zwj 23
def Zwl:Za:=Aa Zwj 31
def Z7f:Ab:=Zn Zwj 23 Zwk 31 Zwl
def eT(a:Zb):Rs:=C 239 [Am a.c] []
def eU(Bh:Zb)(n:Int):Rs:=lp C [.blk 0,.seq Zwl,.fin 0 [.tmp 2]] [1,3] Zwk [.ptr 0 0,I n] [Ad Bh.c]
def Zwm:Af (Zj 227 Tryz.f227):={ m:=_ }
def Zwn:Za:=Aa Zwm 15
def Zwo:Za:=Aa Zwm 31
def Z7g:Ab:=Zn Zwm 15 Zwn 31 Zwo
def Rw(a:Zq)(a1:Zc)(a2:Int):Rs:=C 227 [Am a.c,Am a1.c,I a2] []
def eW(s:Zq)(q:Zc)(cc i:Int):Rs:=lp C [.blk 0,.seq Zwo,.fin 0 [.tmp 6]] [2,3,4,7] Zwn [I cc,.ptr 0 0,.ptr 1 0,I i] [Ad s.c,Ad q.c]
def yP:Af (Zj 206 Tryz.f206):={ m:=_ }
def Z7h:Za:=Aa yP 54
def eX:Za:=As yP 40 14 Z7h
def Z7i:Za:=As yP 24 16 eX
def Z7j:Ab:=Ql yP 24 Z7i
def eY(a:Zq)(a1:Zc)(a2:Int):Rs:=C 206 [Am a.c,Am a1.c,I a2] []
def eZ(s:Zq)(q:Zc)(l:WL)(cc n cd:Int):Rs:=Ev C [.fin 0 [.tmp 6,.tmp 7]] eX ⟨[(2,I cc),(3,.ptr 0 0),(4,.ptr 1 0),(8,I n),(9,I cd),(11,.own 2)],[[]],[Ad s.c,Ad q.c,Zm l]⟩
def fA(s:Zq)(q:Zc)(l:WL)(cc n cd x:Int)(x1:Bool):Rs:=Ev C [.fin 0 [.tmp 6,.tmp 7]] eX ⟨[(2,I cc),(3,.ptr 0 0),(4,.ptr 1 0),(8,I n),(9,I cd),(10,I x),(11,.own 2),(45,Bo x1)],[[]],[Ad s.c,Ad q.c,Zm l]⟩
def fB(s:Zq)(q:Zc)(l:WL)(cc n cd:Int)(x:Bool):Rs:=Ev C [.fin 0 [.tmp 6,.tmp 7]] eX ⟨[(2,I cc),(3,.ptr 0 0),(4,.ptr 1 0),(8,I n),(9,I cd),(11,.own 2),(33,Bo x)],[[]],[Ad s.c,Ad q.c,Zm l]⟩
def Z7k:Ab:=AD (Zj 163 Tryz.f163)
def yQ(a:Zq)(a1:Zc)(a2:Int):Rs:=C 163 [Am a.c,Am a1.c,I a2] []
def yR:Af (Zj 116 Tryz.f116):={ m:=_ }
def Z7l:Za:=Aa yR 33
def Zwp:Za:=As yR 17 16 Z7l
def Zwq:Za:=Aa yR 35
def Z7m:Ab:=Zn yR 17 Zwp 35 Zwq
def yS(a:Zq)(a1:Zc):Rs:=C 116 [Am a.c,Am a1.c] []
def Rx(s:Zq)(q:Zc)(cc:WL)(m:Int):Rs:=lp C [.blk 0,.seq Zwq,.fin 0 [.tmp 4]] [2,3,5,6] Zwp [.ptr 0 0,.ptr 1 0,.own 2,I m] [Ad s.c,Ad q.c,Zm cc]
def Zwr:Af (Zj 64 Tryz.f64):={ m:=_ }
def Zws:Za:=Aa Zwr 17
def Zwt:Za:=Aa Zwr 27
def Z7n:Ab:=Zn Zwr 17 Zws 27 Zwt
def J1(a:Int):Rs:=C 64 [I a] []
def Ry(k n i:Int):Rs:=lp C [.blk 0,.seq Zwt,.fin 0 [.tmp 2]] [0,3,4] Zws [I k,I n,I i] []
def Zwu:Af (Zj 117 Tryz.f117):={ m:=_ }
def Zwv:Za:=Aa Zwu 15
def Zww:Za:=Aa Zwu 31
def Z7o:Ab:=Zn Zwu 15 Zwv 31 Zww
def LK(a:Int):Rs:=C 117 [I a] []
def yT(n k:Int):Rs:=lp C [.blk 0,.seq Zww,.fin 0 [.tmp 2]] [0,3] Zwv [I n,I k] []
def Zwx:Af (Zj 72 Tryz.f72):={ m:=_ }
def Zwy:Za:=Aa Zwx 21
def Zwz:Za:=Aa Zwx 33
def Z7p:Ab:=Zn Zwx 21 Zwy 33 Zwz
def fC(a:Zq)(a1:Zc):Rs:=C 72 [Am a.c,Am a1.c] []
def Zw0:=lp C [.blk 0,.seq Zwz,.fin 0 [.cellO 4 (some 2) [some (1,0),some (1,0)],.tmpO 5 [none]]] [4,6,7,8,9] Zwy
def yU(cc c:WL)(m:Int):Rs:=Zw0 [.ptr 0 0,.own 1,.own 2,.ptr 3 0,I m] [.box [.t .nil,.t .nil],Zm cc,Zm c,.box [.t .nil,.t .nil]]
def fD(cc c x x1:WL)(m:Int):Rs:=Zw0 [.ptr 0 0,.own 1,.own 2,.ptr 3 0,I m] [.box [.t .nil,.t .nil],Zm cc,Zm c,.box [.own 4,.own 5],Zm x,Zm x1]
def Zw1:Af (Zj 63 Tryz.f63):={ m:=_ }
def Zw2:Za:=Aa Zw1 7
def Zw3:Za:=Aa Zw1 23
def Z7q:Ab:=Zn Zw1 7 Zw2 23 Zw3
def Hs(a:WL):Rs:=C 63 [Zr a] []
def fE(l:WL)(i:Int):Rs:=lp C [.blk 0,.seq Zw3,.fin 0 [.tmp 2]] [0,3] Zw2 [Zr l,I i] []
def Zw4:Af (Zj 34 Tryz.f34):={ m:=_ }
def Zw5:Za:=Aa Zw4 15
def Zw6:Za:=Aa Zw4 31
def Z7r:Ab:=Zn Zw4 15 Zw5 31 Zw6
def LL(a a1:WL):Rs:=C 34 [Zr a,Zr a1] []
def fF(a b:WL)(i:Int):Rs:=lp C [.blk 0,.seq Zw6,.fin 0 [.tmp 4]] [0,1,5] Zw5 [Zr a,Zr b,I i] []
def Z7s:Ab:=AD (Zj 33 Tryz.f33)
def Ht(a:Box):Rs:=C 33 [Am a.c] []
def Zw7:Af (Zj 12 Tryz.f12):={ m:=_ }
def Zw8:Za:=Aa Zw7 17
def Zw9:Za:=Aa Zw7 27
def Z7t:Ab:=Zn Zw7 17 Zw8 27 Zw9
def Kh(a:Box):Rs:=C 12 [Am a.c] []
def fG(b:Box)(n i:Int):Rs:=lp C [.blk 0,.seq Zw9,.fin 0 [.tmp 2]] [1,3,4] Zw8 [.ptr 0 0,I n,I i] [Ad b.c]
def Z7u:Ab:=AD (Zj 91 Tryz.f91)
def Ki(a:Zf)(a1:Int):Rs:=C 91 [Am a.c,I a1] []
def Z7v:Ab:=AD (Zj 138 Tryz.f138)
def FZ(a:Int):Rs:=C 138 [I a] []
def ZwA:Af (Zj 92 Tryz.f92):={ m:=_ }
def ZwB:Za:=Aa ZwA 15
def ZwC:Za:=Aa ZwA 31
def Z7w:Ab:=Zn ZwA 15 ZwB 31 ZwC
def Hu(a:Zz):Rs:=C 92 [Am a.c] []
def LM(o:Zz)(i:Int):Rs:=lp C [.blk 0,.seq ZwC,.fin 0 [.tmp 2]] [1,3] ZwB [.ptr 0 0,I i] [Ad o.c]
def yV:Af (Zj 60 Tryz.f60):={ m:=_ }
def Z7x:Za:=Aa yV 30
def ZwD:Za:=As yV 17 13 Z7x
def ZwE:Za:=Aa yV 31
def Z7y:Ab:=Zn yV 17 ZwD 31 ZwE
def Ur(a:Zz)(a1 a2 a3:Int):Rs:=C 60 [Am a.c,I a1,I a2,I a3] []
def LN(o:Zz)(l cc n i:Int):Rs:=lp C [.blk 0,.seq ZwE,.fin 0 [.tmp 8]] [1,2,4,9,10] ZwD [I l,I cc,.ptr 0 0,I n,I i] [Ad o.c]
def Z7z:Ab:=AD (Zj 139 Tryz.f139)
def Rz(a:Zz)(a1:WL):Rs:=C 139 [Am a.c,Zr a1] []
def F0:Af (Zj 93 Tryz.f93):={ m:=_ }
def ZwF:Za:=Aa F0 53
def ZwG:Za:=Aa F0 73
def yW:Za:=AG F0 39 14 ZwF 34 ZwG
def ZwH:Za:=Aa F0 74
def yX:Za:=AG F0 27 12 yW 47 ZwH
def ZwI:Za:=Aa F0 75
def yY:Za:=AG F0 15 12 yX 60 ZwI
def ZwJ:Za:=Aa F0 76
def Z70:Ab:=Zn F0 15 yY 76 ZwJ
def yZ(a:Zz):Rs:=C 93 [Am a.c] []
def ZwK:List Fr:=[.blk 0,.seq ZwJ,.fin 0 [.tmp 2,.tmp 3,.tmp 4]]
def RA(o:Zz)(a:Int):Rs:=lp C ZwK [1,5] yY [.ptr 0 0,I a] [Ad o.c]
def ZwL:List Fr:=.blk 2::.blk 1::.seq ZwI::.loop [1,5] yY::ZwK
def RB(o:Zz)(a b:Int):Rs:=lp C ZwL [1,5,6] yX [.ptr 0 0,I a,I b] [Ad o.c]
def ZwM:List Fr:=.blk 4::.blk 3::.seq ZwH::.loop [1,5,6] yX::ZwL
def RC(o:Zz)(a b e:Int):Rs:=lp C ZwM [1,5,6,7] yW [.ptr 0 0,I a,I b,I e] [Ad o.c]
def Hv(o:Zz)(x:WL)(a b e k:Int):Rs:=lp C (.blk 6::.blk 5::.seq ZwG::.loop [1,5,6,7] yW::ZwM) [1,5,6,7,8,9] ZwF [.ptr 0 0,I a,I b,I e,.own 1,I k] [Ad o.c,Zm x]
def LO:Af (Zj 94 Tryz.f94):={ m:=_ }
def ZwN:Za:=Aa LO 31
def ZwO:Za:=Aa LO 47
def y6:Za:=AG LO 19 12 ZwN 28 ZwO
def ZwP:Za:=Aa LO 48
def y7:Za:=AG LO 7 12 y6 41 ZwP
def ZwQ:Za:=Aa LO 49
def Z71:Ab:=Zn LO 7 y7 49 ZwQ
def y8(a:Zz):Rs:=C 94 [Am a.c] []
def ZwR:List Fr:=[.blk 0,.seq ZwQ,.fin 0 [.tmp 2]]
def RD(o:Zz)(a:Int):Rs:=lp C ZwR [1,3] y7 [.ptr 0 0,I a] [Ad o.c]
def ZwS:List Fr:=.blk 2::.blk 1::.seq ZwP::.loop [1,3] y7::ZwR
def RE(o:Zz)(a b:Int):Rs:=lp C ZwS [1,3,4] y6 [.ptr 0 0,I a,I b] [Ad o.c]
def fH(o:Zz)(a b e:Int):Rs:=lp C (.blk 4::.blk 3::.seq ZwO::.loop [1,3,4] y6::ZwS) [1,3,4,5] ZwN [.ptr 0 0,I a,I b,I e] [Ad o.c]
def ZwT:Af (Zj 48 Tryz.f48):={ m:=_ }
def ZwU:Za:=Aa ZwT 7
def ZwV:Za:=Aa ZwT 45
def Z72:Ab:=Zn ZwT 7 ZwU 45 ZwV
def ZwW(a:Zf):Rs:=C 48 [Am a.c] []
def RF(m:Zf)(k:Int):Rs:=lp C [.blk 0,.seq ZwV,.fin 0 [.tmp 2,.tmp 3,.tmp 4]] [1,5] ZwU [.ptr 0 0,I k] [Ad m.c]
def Z73:Ab:=AD (Zj 21 Tryz.f21)
def Kj(a:Zf):Rs:=C 21 [Am a.c] []
def Z74:Ab:=AD (Zj 118 Tryz.f118)
def KI(a:Box):Rs:=C 118 [Am a.c] []
def y9:Af (Zj 55 Tryz.f55):={ m:=_ }
def Z75:Za:=Aa y9 24
def ZwX:Za:=As y9 11 13 Z75
def ZwY:Za:=Aa y9 25
def Z76:Ab:=Zn y9 11 ZwX 25 ZwY
def fI(a:Zc):Rs:=C 55 [Am a.c] []
def RG(q:Zc)(cd:WL)(cc m:Int):Rs:=lp C [.blk 0,.seq ZwY,.fin 0 [.tmp 2]] [1,3,4,5] ZwX [.ptr 0 0,.own 1,I cc,I m] [Ad q.c,Zm cd]
end
