/-
  Parts of the proofs for this seat: D4.
-/
import Derived.Test.YteaiinkcanpleaaGreatP6
set_option linter.all false
set_option maxRecDepth 100000
set_option maxHeartbeats 4000000
set_option cbv.maxSteps 9999999
namespace Go.Proofs.YteaiinkcanpleaaGreat
open Go.AM
noncomputable section
def Zpw:Af (Zj 215 Tryz.f215):={ m:=_ }
def Z9f:Za:=Aa Zpw 24
def Zzt:Za:=As Zpw 9 15 Z9f
def Zzu:Za:=Aa Zpw 25
def Z9g:Ab:=Zn Zpw 9 Zzt 25 Zzu
def Sb(a:Zz)(a1 a2 a3:Int):Rs:=C 215 [Am a.c,I a1,I a2,I a3] []
def Sc(cd cc n:Int)(x:List Zw)(x1 x2:Int):Rs:=lp C [.blk 0,.seq Zzu,.fin 0 [.tmp 8]] [1,2,9,37,38,39] Zzt [I cd,I cc,I n,L 2 (x.map Zw.c),I x1,I x2] []
def Z9h:Ab:=AD (Zj 177 Tryz.f177)
def Km(a:Zz)(a1:WL):Rs:=C 177 [Am a.c,Zr a1] []
def Sd:Af (Zj 175 Tryz.f175):={ m:=_ }
def Z9i:Za:=Aa Sd 56
def Zzv:Za:=As Sd 29 27 Z9i
def Zzw:Za:=Aa Sd 57
def Zpx:Za:=AG Sd 15 14 Zzv 42 Zzw
def Zzx:Za:=Aa Sd 58
def Z9j:Ab:=Zn Sd 15 Zpx 58 Zzx
def WE(a:Zz):Rs:=C 175 [Am a.c] []
def Zzy:List Fr:=[.blk 0,.seq Zzx,.fin 0 [.tmp 2,.tmp 3,.tmp 4]]
def HH(o:Zz)(x:WA)(x1 x2:Int):Rs:=lp C Zzy [1,12,13,14] Zpx [.ptr 0 0,.own 1,I x1,I x2] [Ad o.c,ZZ x]
def F4(o:Zz)(x:WA)(t:WL)(x1 x2 x3 x4:Int):Rs:=lp C (.blk 2::.blk 1::.seq Zzw::.loop [1,12,13,14] Zpx::Zzy) [1,6,12,13,14,19,20] Zzv [.ptr 0 0,Zr t,.own 1,I x1,I x2,I x3,I x4] [Ad o.c,ZZ x]
def iL:Af (Zj 132 Tryz.f132):={ m:=_ }
def Zzz:Za:=Aa iL 41
def Zz0:Za:=Aa iL 59
def Zpy:Za:=AG iL 7 34 Zzz 52 Zz0
def Zz1:Za:=Aa iL 60
def Z9k:Ab:=Zn iL 7 Zpy 60 Zz1
def Se(a:Zf):Rs:=C 132 [Am a.c] []
def F5:List Fr:=[.blk 0,.seq Zz1,.fin 0 [.tmp 2,.tmp 3,.tmp 4]]
def XW(x:Zf)(x1 x2:Int):Rs:=lp C F5 [13,14,15] Zpy [.bsl 0 5,I x1,I x2] [.box [.ptr 1 0,.ptr 1 6,.ptr 1 12,.ptr 1 18,.ptr 1 24],Ad x.c]
def KM:=lp C (.blk 2::.blk 1::.seq Zz0::.loop [13,14,15] Zpy::F5) [6,7,13,14,15,40,41,42] Zzz
def HI(o:Zf)(x:WA)(cc x1 x2 x3 x4:Int):Rs:=KM [.ptr 0 0,I cc,.bsl 1 5,I x1,I x2,.own 2,I x3,I x4] [Ad o.c,.box [.ptr 0 0,.ptr 0 6,.ptr 0 12,.ptr 0 18,.ptr 0 24],ZZ x]
def HJ(o:Zf)(x:WA)(cc x1 x2 x3 x4:Int):Rs:=KM [.ptr 0 6,I cc,.bsl 1 5,I x1,I x2,.own 2,I x3,I x4] [Ad o.c,.box [.ptr 0 0,.ptr 0 6,.ptr 0 12,.ptr 0 18,.ptr 0 24],ZZ x]
def HK(o:Zf)(x:WA)(cc x1 x2 x3 x4:Int):Rs:=KM [.ptr 0 12,I cc,.bsl 1 5,I x1,I x2,.own 2,I x3,I x4] [Ad o.c,.box [.ptr 0 0,.ptr 0 6,.ptr 0 12,.ptr 0 18,.ptr 0 24],ZZ x]
def HL(o:Zf)(x:WA)(cc x1 x2 x3 x4:Int):Rs:=KM [.ptr 0 18,I cc,.bsl 1 5,I x1,I x2,.own 2,I x3,I x4] [Ad o.c,.box [.ptr 0 0,.ptr 0 6,.ptr 0 12,.ptr 0 18,.ptr 0 24],ZZ x]
def HM(o:Zf)(x:WA)(cc x1 x2 x3 x4:Int):Rs:=KM [.ptr 0 24,I cc,.bsl 1 5,I x1,I x2,.own 2,I x3,I x4] [Ad o.c,.box [.ptr 0 0,.ptr 0 6,.ptr 0 12,.ptr 0 18,.ptr 0 24],ZZ x]
def Z9l:Ab:=AD (Zj 80 Tryz.f80)
def Sf(a:Zf):Rs:=C 80 [Am a.c] []
def Z9m:Ab:=AD (Zj 38 Tryz.f38)
def iN(a:Zf)(a1:Zc)(a2:Zu):Rs:=C 38 [Am a.c,Am a1.c,Am a2.c] []
def Zz2:Af (Zj 47 Tryz.f47):={ m:=_ }
def Zz3:Za:=Aa Zz2 9
def Zz4:Za:=Aa Zz2 21
def Z9n:Ab:=Zn Zz2 9 Zz3 21 Zz4
def HN(a:WL):Rs:=C 47 [Zr a] []
def Md(cc c x:WL)(x1 x2:Int):Rs:=lp C [.blk 0,.seq Zz4,.fin 0 [.tmp 2]] [0,3,7,8,9] Zz3 [Zr c,.own 0,Zr x,I x1,I x2] [Zm cc]
def Zz5:Af (Zj 178 Tryz.f178):={ m:=_ }
def Zz6:Za:=Aa Zz5 7
def Zz7:Za:=Aa Zz5 25
def Z9o:Ab:=Zn Zz5 7 Zz6 25 Zz7
def Me(a:Zc)(a1:WL):Rs:=C 178 [Am a.c,Zr a1] []
def iO(q:Zc)(cc x:WL)(x1 x2:Int):Rs:=lp C [.blk 0,.seq Zz7,.fin 0 [.tmp 4]] [1,2,7,8,9] Zz6 [Zr cc,.ptr 0 0,Zr x,I x1,I x2] [Ad q.c]
def Zpz:Af (Zj 182 Tryz.f182):={ m:=_ }
def Z9p:Za:=Aa Zpz 22
def Zz8:Za:=As Zpz 9 13 Z9p
def Zz9:Za:=Aa Zpz 23
def Z9q:Ab:=Zn Zpz 9 Zz8 23 Zz9
def iP(a:Zc):Rs:=C 182 [Am a.c] []
def Sg(q:Zc)(cd:WL)(cc:Int):Rs:=lp C [.blk 0,.seq Zz9,.fin 0 [.tmp 2]] [1,3,4] Zz8 [.ptr 0 0,.own 1,I cc] [Ad q.c,Zm cd]
def Zp0:Af (Zj 183 Tryz.f183):={ m:=_ }
def Z9r:Za:=Aa Zp0 30
def ZzA:Za:=As Zp0 17 13 Z9r
def ZzB:Za:=Aa Zp0 31
def Z9s:Ab:=Zn Zp0 17 ZzA 31 ZzB
def Sh(a:Int):Rs:=C 183 [I a] []
def Si(cc:WL)(c i:Int):Rs:=lp C [.blk 0,.seq ZzB,.fin 0 [.tmp 2]] [0,3,4] ZzA [I c,.own 0,I i] [Zm cc]
def Z9t:Ab:=AD (Zj 185 Tryz.f185)
def iQ(a:Int):Rs:=C 185 [I a] []
def Z9u:Ab:=AD (Zj 179 Tryz.f179)
def WK(a:Zz)(a1 a2 a3:Int):Rs:=C 179 [Am a.c,I a1,I a2,I a3] []
def iR:Af (Zj 133 Tryz.f133):={ m:=_ }
def iS:Za:=Aa iR 43
def Z9v:Za:=As iR 37 6 iS
def iT:Za:=As iR 19 18 Z9v
def iU:Za:=Aa iR 45
def Z9w:Ab:=Zn iR 19 iT 45 iU
def Mf(a:Zf)(a1:Zc)(a2:Ze)(a3:WL):Rs:=C 133 [Am a.c,Am a1.c,Am a2.c,Zr a3] []
def VL(m:Zf)(cd:List Zp)(cl cc:WL)(x:List Zk)(x1 x2:Int):Rs:=lp C [.blk 0,.seq iU,.fin 0 [.tmp 8]] [3,4,9,11,32,33,34] iT [Zr cc,.ptr 0 0,.own 1,.own 2,L 3 (x.map Zk.c),I x1,I x2] [Ad m.c,I7 cd,Zm cl]
def iV(m:Zf)(cl:List Zp)(co:WL)(x:Zk)(cd:WL)(i cn cc:Int)(x1:List Zk)(x2 x3:Int):Rs:=Ev C [.blk 1,.seq (.reg [.o 105 (.bin .add (.s 34) (.k 1)),.m 34 105] [3,4,9,11,32,33,34]),.loop [3,4,9,11,32,33,34] iT,.blk 0,.seq iU,.fin 0 [.tmp 8]] iS ⟨[(3,Zr cd),(4,.ptr 0 0),(9,.own 1),(11,.own 2),(12,I i),(13,.ptr 3 0),(14,I cn),(15,I cc),(32,L 3 (x1.map Zk.c)),(33,I x2),(34,I x3)],[[]],[Ad m.c,I7 cl,Zm co,Ad x.c]⟩
def iW(m:Zf)(cl:List Zp)(co:WL)(x:Zk)(cd:WL)(i cn cc:Int)(x1:List Zk)(x2 x3:Int)(x4:Bool):Rs:=Ev C [.blk 1,.seq (.reg [.o 105 (.bin .add (.s 34) (.k 1)),.m 34 105] [3,4,9,11,32,33,34]),.loop [3,4,9,11,32,33,34] iT,.blk 0,.seq iU,.fin 0 [.tmp 8]] iS ⟨[(3,Zr cd),(4,.ptr 0 0),(9,.own 1),(11,.own 2),(12,I i),(13,.ptr 3 0),(14,I cn),(15,I cc),(32,L 3 (x1.map Zk.c)),(33,I x2),(34,I x3),(70,Bo x4)],[[]],[Ad m.c,I7 cl,Zm co,Ad x.c]⟩
def ZzC:Af (Zj 134 Tryz.f134):={ m:=_ }
def ZzD:Za:=Aa ZzC 9
def ZzE:Za:=Aa ZzC 21
def Z9x:Ab:=Zn ZzC 9 ZzD 21 ZzE
def iX(a:WL):Rs:=C 134 [Zr a] []
def iY(n:Int)(x:WL)(x1 x2:Int):Rs:=lp C [.blk 0,.seq ZzE,.fin 0 [.tmp 2]] [3,6,7,8] ZzD [I n,Zr x,I x1,I x2] []
def ZzF:Ab:=AD (Zj 84 Tryz.f84)
def F6(a:Zf)(a1:Zc)(a2:Ze)(a3:WL):Rs:=C 84 [Am a.c,Am a1.c,Am a2.c,Zr a3] []
def Ut:Ab:=AD (Zj 184 Tryz.f184)
def F7(m:Zf)(q:Zc)(co:WL)(d:Int)(c cc cd cl cn:Zd)(cp cu cv cy cz:Bool)(x:List Zk)(a:Int):Rs:=C 184 [.ptr 0 0,.agg [.own 1],I a] [WW m q co d c cc cd cl cn cp cu cv cy cz,I6 x]
def Zp1:Af (Zj 186 Tryz.f186):={ m:=_ }
def Z9y:Za:=Aa Zp1 30
def ZzG:Za:=As Zp1 17 13 Z9y
def ZzH:Za:=Aa Zp1 31
def Z9z:Ab:=Zn Zp1 17 ZzG 31 ZzH
def iZ(a:Zc)(a1:Int):Rs:=C 186 [Am a.c,I a1] []
def Mg(q:Zc)(cd:WL)(cc x:Int):Rs:=lp C [.blk 0,.seq ZzH,.fin 0 [.tmp 4]] [1,2,5,6] ZzG [I cc,.ptr 0 0,.own 1,I x] [Ad q.c,Zm cd]
def Zp2:Af (Zj 180 Tryz.f180):={ m:=_ }
def ZzI:Za:=Aa Zp2 24
def i5:Za:=As Zp2 9 15 ZzI
def i6:Za:=Aa Zp2 25
def ZzJ:Ab:=Zn Zp2 9 i5 25 i6
def Mh(a:List Zd):Rs:=C 180 [Ub a] []
def Sj(cl cc cd:Int)(best:Zd)(x:List Zd)(x1 x2:Int):Rs:=lp C [.blk 0,.seq i6,.fin 0 [.cell 2 (some 4)]] [2,3,9,10,11] i5 [.ptr 0 0,.ptr 1 0,Ub x,I x1,I x2] [.box [I cl,I cc,I cd,.t .nil],Ad best.c]
def Z90:Ab:=AD (Zj 181 Tryz.f181)
def F8(a:Ze):Rs:=C 181 [Am a.c] []
def Z91:Ab:=AD (Zj 187 Tryz.f187)
def J8(a a1:Ze)(a2 a3:Int):Rs:=C 187 [Am a.c,Am a1.c,I a2,I a3] []
def Zp3:Af (Zj 190 Tryz.f190):={ m:=_ }
def KN:Za:=Aa Zp3 24
def ZzK:Za:=As Zp3 9 15 KN
def ZzL:Za:=Aa Zp3 25
def Z92:Ab:=Zn Zp3 9 ZzK 25 ZzL
def i7(m:Zf)(q:Zc)(co:WL)(d:Int)(c cc cd cl cn:Zd)(cp cu cv cy cz:Bool):Rs:=C 190 [.ptr 0 0] [WW m q co d c cc cd cl cn cp cu cv cy cz]
def Vj(m:Zf)(q:Zc)(cp:WL)(dc:Int)(cc cd cl cn co:Zd)(cu cv cy cz d fr:Bool)(dd:List Zd)(x0 x1 x2 x3 x4:Bool)(x:Int):Rs:=EvL C [.blk 0,.seq ZzL,.fin 1 [.tmp 2]] [0,3,10,11] ZzK ⟨[(0,.ptr 0 0),(3,.own 1),(10,.agg [Bo x0,Bo x1,Bo x2,Bo x3,Bo x4]),(11,I x)],[[(0,.ptr 0 0)]],[WW m q cp dc cc cd cl cn co cu cv cy cz d,.arr 77 4 fr (dd.map Zd.c)]⟩
def Z93:Ab:=AD (Zj 216 Tryz.f216)
def F9(a:Zc)(a1:Int):Rs:=C 216 [Am a.c,I a1] []
def Z94(a:WL):Rs:=C 213 [Zr a,.t .nil] []
def Z95(a:WL):Rs:=C 213 [.t .nil,Zr a] []
def Z96:Rs:=C 213 [.t .nil,.t .nil] []
def Z97:Ab:=AD (Zj 188 Tryz.f188)
def Mi(a:Zc)(a1 a2:Int):Rs:=C 188 [Am a.c,I a1,I a2] []
def Z98:Ab:=AD (Zj 217 Tryz.f217)
def Zp4(a:Ze)(a1:Int):Rs:=C 217 [Am a.c,I a1] []
def ZzM:Af (Zj 189 Tryz.f189):={ m:=_ }
def ZzN:Za:=Aa ZzM 19
def ZzO:Za:=Aa ZzM 37
def Z99:Ab:=Zn ZzM 19 ZzN 37 ZzO
def Mj(a:Zf)(a1:Zc)(a2:WL)(a3:List Zd)(a4:Int):Rs:=C 189 [Am a.c,Am a1.c,Zr a2,Ub a3,I a4] []
def i8(m:Zf)(q:Zc)(x:List Zk)(cc:WL)(v:Int)(x1:List Zd)(x2 x3:Int):Rs:=lp C [.blk 0,.seq ZzO,.fin 0 [.cell 10 (some 1)]] [2,4,5,6,10,12,27,28,29] ZzN [Zr cc,I v,.ptr 0 0,.ptr 1 0,.ptr 2 0,.ptr 3 0,Ub x1,I x2,I x3] [Ad m.c,Ad q.c,.box [.t .nil],.box [.own 4],I6 x]
def QC:Af (Zj 137 Tryz.f137):={ m:=_ }
def ZzP:Za:=Aa QC 65
def ZzQ:Za:=Aa QC 81
def ZzR:Za:=As QC 77 4 ZzQ
def Zp5:Za:=Aa QC 93
def i9:Za:=BL QC 44 21 ZzP 33 ZzR 49 Zp5
def ZzS:Za:=Aa QC 94
def Z9A:Za:=AG QC 39 5 i9 55 ZzS
def ZzT:Za:=Aa QC 97
def Zp6:Za:=AG QC 19 20 Z9A 78 ZzT
def ZzU:Za:=Aa QC 103
def ZzV:Za:=Aa QC 115
def ZzW:Za:=AG QC 98 5 ZzU 17 ZzV
def Zp7:Ab:=Zn QC 19 Zp6 98 ZzW
def Sk(a:Zf)(a1:Zc)(a2:WL):Rs:=C 137 [Am a.c,Am a1.c,Zr a2] []
def Zp8:List Fr:=[.blk 0,.seq ZzW,.fin 0 [.tmp 6]]
def HO(m:Zf)(q:Zc)(fr:Bool)(cd:List (List Zd))(cl:Bool)(cn:List Zd)(x cc:WL)(x1 x2:Int):Rs:=lp C Zp8 [2,3,4,7,8,38,39,40] Zp6 [Zr cc,.ptr 0 0,.ptr 1 0,.own 2,.own 3,.own 4,I x1,I x2] [Ad m.c,Ad q.c,.arr 80 1 fr (cd.map (lc 4 Zd.c)),.arr 77 4 cl (cn.map Zd.c),Zm x]
def Zp9:List Fr:=.blk 2::.seq ZzS::.blk 1::.seq ZzT::.loop [2,3,4,7,8,38,39,40] Zp6::Zp8
def ZzX:=lp C Zp9 [2,3,4,7,8,10,11,38,39,40,73,74,75] i9
def Z9B(m:Zf)(q:Zc)(fr:Bool)(dl:List (List Zd))(dp:Bool)(dv:List Zd)(du:Zf)(dy:Zc)(cv:WL)(dn:Int)(cd cl cn co cp:Zd)(cy cz d dc dd:Bool)(x cc:WL)(cu x1 x2 x3 x4:Int):Rs:=ZzX [Zr cc,.ptr 0 0,.ptr 1 0,.own 2,.own 3,I cu,.ptr 4 0,.own 5,I x1,I x2,.t .nil,I x3,I x4] [Ad m.c,Ad q.c,.arr 80 1 fr (dl.map (lc 4 Zd.c)),.arr 77 4 dp (dv.map Zd.c),WW du dy cv dn cd cl cn co cp cy cz d dc dd,Zm x]
def Mk(m:Zf)(q:Zc)(fr:Bool)(dl:List (List Zd))(dp:Bool)(dv:List Zd)(du:Zf)(dy:Zc)(cv:WL)(dn:Int)(cd cl cn co cp:Zd)(cy cz d dc dd:Bool)(x x1 cc:WL)(cu x2 x3 x4 x5:Int):Rs:=ZzX [Zr cc,.ptr 0 0,.ptr 1 0,.own 2,.own 3,I cu,.ptr 4 0,.own 5,I x2,I x3,.own 6,I x4,I x5] [Ad m.c,Ad q.c,.arr 80 1 fr (dl.map (lc 4 Zd.c)),.arr 77 4 dp (dv.map Zd.c),WW du dy cv dn cd cl cn co cp cy cz d dc dd,Zm x,Zm x1]
def jA(fr:Bool)(cc:List Zd)(x x1:Int):Rs:=lp C [.blk 8,.seq ZzV,.fin 0 [.tmp 6]] [8,157,158] ZzU [.own 0,I x,I x1] [.arr 77 4 fr (cc.map Zd.c)]
def Sl(m:Zf)(q:Zc)(fr:Bool)(dn:List (List Zd))(dv:Bool)(dz:List Zd)(dy:Zf)(l:Zc)(cy:WL)(du:Int)(cd cl cn co cp:Zd)(cz d dc dd dl:Bool)(y:Ze)(x x1 cc:WL)(cu x2:Int)(dp cv:List Zd)(x3 x4 x5 x6:Int)(x7:List Zd)(x8 x9:Int):Rs:=lp C (.blk 4::.seq ZzR::.blk 3::.seq Zp5::.loop [2,3,4,7,8,10,11,38,39,40,73,74,75] i9::Zp9) [2,3,4,7,8,10,11,14,15,16,17,38,39,40,73,74,75,99,100,101] ZzP [Zr cc,.ptr 0 0,.ptr 1 0,.own 2,.own 3,I cu,.ptr 4 0,I x2,Ub dp,Ub cv,.ptr 5 0,.own 6,I x3,I x4,.own 7,I x5,I x6,Ub x7,I x8,I x9] [Ad m.c,Ad q.c,.arr 80 1 fr (dn.map (lc 4 Zd.c)),.arr 77 4 dv (dz.map Zd.c),WW dy l cy du cd cl cn co cp cz d dc dd dl,Ad y.c,Zm x,Zm x1]
def Sn(m:Zf)(q:Zc)(fr:Bool)(dn:List (List Zd))(dv:Bool)(dz:List Zd)(dy:Zf)(l:Zc)(cy:WL)(du:Int)(cd cl cn co cp:Zd)(cz d dc dd dl:Bool)(x x1 x2 cc:WL)(cu:Int)(dp cv:List Zd)(x3 x4 x5 x6 x7 x8:Int):Rs:=lp C (.blk 6::.blk 3::.seq Zp5::.loop [2,3,4,7,8,10,11,38,39,40,73,74,75] i9::Zp9) [2,3,4,7,8,10,11,15,16,38,39,40,73,74,75,119,120,121] ZzQ [Zr cc,.ptr 0 0,.ptr 1 0,.own 2,.own 3,I cu,.ptr 4 0,Ub dp,Ub cv,.own 5,I x3,I x4,.own 6,I x5,I x6,.own 7,I x7,I x8] [Ad m.c,Ad q.c,.arr 80 1 fr (dn.map (lc 4 Zd.c)),.arr 77 4 dv (dz.map Zd.c),WW dy l cy du cd cl cn co cp cz d dc dd dl,Zm x,Zm x1,Zm x2]
def ZpA:Af (Zj 136 Tryz.f136):={ m:=_ }
def Z9C:Za:=Aa ZpA 24
def ZzY:Za:=As ZpA 9 15 Z9C
def ZzZ:Za:=Aa ZpA 25
def Z9D:Ab:=Zn ZpA 9 ZzY 25 ZzZ
def Z0a(a:Int):Rs:=C 136 [.t .nil,I a] []
def ZpB(fr:Bool)(x:List Zd):Rs:=C 180 [.own 0] [.arr 77 4 fr (x.map Zd.c)]
def So(cl cc cd:Int)(best:Zd)(fr:Bool)(x:List Zd)(x1 x2:Int):Rs:=EvL C [.blk 0,.seq i6,.fin 1 [.cell 2 (some 4)]] [2,3,9,10,11] i5 ⟨[(2,.ptr 0 0),(3,.ptr 1 0),(9,.own 2),(10,I x1),(11,I x2)],[[(0,.own 2)]],[.box [I cl,I cc,I cd,.t .nil],Ad best.c,.arr 77 4 fr (x.map Zd.c)]⟩
def jB(a:List Zd)(a1:Int):Rs:=C 136 [Ub a,I a1] []
def Sp(cl cc cd:Int)(fr:Bool)(x:List Zd)(cn:Int)(x1:List Zd)(x2 x3:Int):Rs:=lp C [.blk 0,.seq ZzZ,.fin 0 [.cell 4 (some 4),.tmp 5]] [1,4,6,11,12,13] ZzY [I cn,.ptr 0 0,.own 1,Ub x1,I x2,I x3] [.box [I cl,I cc,I cd,.t .nil],.arr 77 4 fr (x.map Zd.c)]
def Z9E:Ab:=AD (Zj 88 Tryz.f88)
def jC(a:Zf)(a1:Zc)(a2:WL):Rs:=C 88 [Am a.c,Am a1.c,Zr a2] []
def Z9F:Ab:=AD (Zj 46 Tryz.f46)
def jD(a:Zf)(a1:Zc)(a2:WL):Rs:=C 46 [Am a.c,Am a1.c,Zr a2] []
def Z9G(a:Zf)(a1:Zc)(a2:Ze):Rs:=C 84 [Am a.c,Am a1.c,Am a2.c,.t .nil] []
def Z9H(a:Zf)(a1:Zc):Rs:=C 46 [Am a.c,Am a1.c,.t .nil] []
def Z9I:Ab:=AD (Zj 19 Tryz.f19)
def J9(a:Zf)(a1:Zc)(a2:WL):Rs:=C 19 [Am a.c,Am a1.c,Zr a2] []
def Z0b:Af (Zj 45 Tryz.f45):={ m:=_ }
def Z0c:Za:=Aa Z0b 17
def Z0d:Za:=Aa Z0b 31
def Z9J:Ab:=Zn Z0b 17 Z0c 31 Z0d
def jE(a:Box)(a1:Int):Rs:=C 45 [Am a.c,I a1] []
def jF(b:Box)(cd:WL)(cc i:Int):Rs:=lp C [.blk 0,.seq Z0d,.fin 0 [.tmp 4,.tmp 5]] [1,2,6,7] Z0c [I cc,.ptr 0 0,.own 1,I i] [Ad b.c,Zm cd]
def Z0e:Af (Zj 17 Tryz.f17):={ m:=_ }
def Z0f:Za:=Aa Z0e 19
def Z0g:Za:=Aa Z0e 31
def Z9K:Ab:=Zn Z0e 19 Z0f 31 Z0g
def HP(a:Box):Rs:=C 17 [Am a.c] []
def Sq(b:Box)(cc:WA)(n i:Int):Rs:=lp C [.blk 0,.seq Z0g,.fin 0 [.tmp 2]] [1,3,4,5] Z0f [.ptr 0 0,I n,.own 1,I i] [Ad b.c,ZZ cc]
def Z9L:Ab:=AD (Zj 82 Tryz.f82)
def Z0h(a a1:Int):Rs:=C 82 [I a,.iptr [.int .i64 a1] 0] []
def Z0i:Af (Zj 81 Tryz.f81):={ m:=_ }
def Z0j:Za:=Aa Z0i 7
def Z0k:Za:=Aa Z0i 25
def Z9M:Ab:=Zn Z0i 7 Z0j 25 Z0k
def Z0l(a:WL)(a1:Int):Rs:=C 81 [Zr a,.fn 82 [.iptr [.int .i64 a1] 0]] []
def Z0m:=lp C [.blk 0,.seq Z0k,.fin 0 [.tmp 4]] [0,1,7,8] Z0j
def jG(s:WL)(f x x1:Int):Rs:=Z0m [Zr s,.fn 82 [.iptr [.int .i64 f] 0],I x,I x1] []
def Z9N:Ab:=AD (Zj 39 Tryz.f39)
def ZpC(a:WL)(a1:Int):Rs:=C 39 [Zr a,I a1] []
def Z9O:Ab:=AD (Zj 40 Tryz.f40)
def jH(a a1:Int):Rs:=C 40 [I a,I a1] []
def Z9P:Ab:=AD (Zj 43 Tryz.f43)
def Sr(a:Zf)(a1:Zc)(a2:Ze)(a3:WL):Rs:=C 43 [Am a.c,Am a1.c,Am a2.c,Zr a3] []
def Z9Q:Ab:=AD (Zj 42 Tryz.f42)
def ZpD(a:Int)(a1:Zf)(a2:Zc)(a3:Zu)(a4:WL)(a5:Int):Rs:=C 42 [I a,.iptr (a1.c) 0,.iptr (a2.c) 0,.iptr (a3.c) 0,.iptr [.lst 1 (a4.map ic)] 0,.iptr [.int .i64 a5] 0] []
def Z0n(a:WL)(a1:Zf)(a2:Zc)(a3:Zu)(a4:WL)(a5:Int):Rs:=C 81 [Zr a,.fn 42 [.iptr (a1.c) 0,.iptr (a2.c) 0,.iptr (a3.c) 0,.iptr [.lst 1 (a4.map ic)] 0,.iptr [.int .i64 a5] 0]] []
def jI(s:WL)(f:Zf)(f1:Zc)(f2:Zu)(f3:WL)(f4 x x1:Int):Rs:=Z0m [Zr s,.fn 42 [.iptr (f.c) 0,.iptr (f1.c) 0,.iptr (f2.c) 0,.iptr [.lst 1 (f3.map ic)] 0,.iptr [.int .i64 f4] 0],I x,I x1] []
def Z9R:Ab:=AD (Zj 41 Tryz.f41)
def ZpE(a:WL)(a1:Zf)(a2:Zc)(a3:Zu)(a4:WL)(a5:Int):Rs:=C 41 [Zr a,.fn 42 [.iptr (a1.c) 0,.iptr (a2.c) 0,.iptr (a3.c) 0,.iptr [.lst 1 (a4.map ic)] 0,.iptr [.int .i64 a5] 0]] []
def Z0o:Af (Zj 16 Tryz.f16):={ m:=_ }
def Z0p:Za:=Aa Z0o 15
def Z0q:Za:=Aa Z0o 45
def Z9S:Ab:=Zn Z0o 15 Z0p 45 Z0q
def jJ(a:Zf)(a1:Zc)(a2:Zu):Rs:=C 16 [Am a.c,Am a1.c,Am a2.c] []
def Z0r:=lp C [.blk 0,.seq Z0q,.fin 0 [.tmp 6]] [3,4,5,31,32,33] Z0p
def Z9T(m:Zf)(q:Zc)(b:Zu)(x x1:Int):Rs:=Z0r [.ptr 0 0,.ptr 1 0,.ptr 2 0,.t .nil,I x,I x1] [Ad m.c,Ad q.c,Ad b.c]
def jK(m:Zf)(q:Zc)(b:Zu)(x:WA)(x1 x2:Int):Rs:=Z0r [.ptr 0 0,.ptr 1 0,.ptr 2 0,.own 3,I x1,I x2] [Ad m.c,Ad q.c,Ad b.c,ZZ x]
def jL:Af (Zj 18 Tryz.f18):={ m:=_ }
def Z0s:Za:=Aa jL 25
def Z0t:Za:=Aa jL 47
def ZpF:Za:=AG jL 9 16 Z0s 38 Z0t
def Z0u:Za:=Aa jL 48
def Z9U:Ab:=Zn jL 9 ZpF 48 Z0u
def HQ(a:Zf)(a1:Zc)(a2:Zu)(a3:WL):Rs:=C 18 [Am a.c,Am a1.c,Am a2.c,Zr a3] []
def ZpG:List Fr:=[.blk 0,.seq Z0u,.fin 0 [.tmp 8,.tmp 9]]
def Ml(m:Zf)(q:Zc)(b:Zu)(cc:WL)(cd:Int)(x:WA)(x1 x2:Int):Rs:=lp C ZpG [3,4,5,6,10,18,19,20] ZpF [Zr cc,.ptr 0 0,.ptr 1 0,.ptr 2 0,I cd,L 1 (x.map AF),I x1,I x2] [Ad m.c,Ad q.c,Ad b.c]
def Ss(m:Zf)(q:Zc)(b:Zu)(cc:WL)(cl cd:Int)(x:WA)(x1 x2:Int)(x3:WL)(x4 x5:Int):Rs:=lp C (.blk 2::.blk 1::.seq Z0t::.loop [3,4,5,6,10,18,19,20] ZpF::ZpG) [3,4,5,6,10,13,18,19,20,33,34,35] Z0s [Zr cc,.ptr 0 0,.ptr 1 0,.ptr 2 0,I cl,I cd,L 1 (x.map AF),I x1,I x2,Zr x3,I x4,I x5] [Ad m.c,Ad q.c,Ad b.c]
def Z9V:Af (Zj 20 Tryz.f20):={ m:=_ }
def Z0v:Za:=Aa Z9V 4
def Z9W:Ab:=Ql Z9V 4 Z0v
def jM(a a1 a2 a3:Int):Rs:=C 20 [I a,I a1,I a2,I a3] []
def jN(a b c d:Int):Rs:=lp C [.blk 0,.fin 0 [.tmp 8]] [0,1,2,3] Z0v [I a,I b,I c,I d] []
def ZpH:Af (Zj 6 Tryz.f6):={ m:=_ }
def ZpI:Za:=Aa ZpH 38
def ZpJ:Za:=As ZpH 19 19 ZpI
def ZpK:Za:=Aa ZpH 39
def Z9X:Ab:=Zn ZpH 19 ZpJ 39 ZpK
def Mm(a:Zf)(a1:Zc)(a2:Zu):Rs:=C 6 [.agg (a.c.map .t),.agg (a1.c.map .t),.agg (a2.c.map .t)] []
def Mn:=lp C [.blk 0,.seq ZpK,.fin 0 [.tmp 6,.tmp 7]] [3,4,5,8,9,10,23,24,25] ZpJ
def Z9Y(m:Zf)(q:Zc)(b:Zu)(cd cc x x1:Int):Rs:=Mn [.ptr 0 0,.ptr 1 0,.ptr 2 0,.t .nil,I cd,I cc,.t .nil,I x,I x1] [Ad m.c,Ad q.c,Ad b.c]
def Z0w(m:Zf)(q:Zc)(b:Zu)(x:WA)(cd cc x1 x2:Int):Rs:=Mn [.ptr 0 0,.ptr 1 0,.ptr 2 0,.t .nil,I cd,I cc,.own 3,I x1,I x2] [Ad m.c,Ad q.c,Ad b.c,ZZ x]
def Ga(m:Zf)(q:Zc)(b:Zu)(x:WA)(cl:WL)(cd cc x1 x2:Int):Rs:=Mn [.ptr 0 0,.ptr 1 0,.ptr 2 0,Zr cl,I cd,I cc,.own 3,I x1,I x2] [Ad m.c,Ad q.c,Ad b.c,ZZ x]
def Z9Z:Ab:=AD (Zj 103 Tryz.f103)
def ZpL(x:WL)(a:Zf)(a1:Zc):Rs:=C 103 [Am a.c,Am a1.c,.own 0] [Zm x]
def ZAa:Ab:=AD (Zj 67 Tryz.f67)
def ZpM(x:WL)(a:Zf)(a1:Zc):Rs:=C 67 [Am a.c,Am a1.c,.own 0] [Zm x]
def ZAb:Ab:=AD (Zj 32 Tryz.f32)
def Z0x(x:WL)(a:Zf)(a1:Zc):Rs:=C 32 [Am a.c,Am a1.c,.own 0] [Zm x]
def ZAc:Ab:=AD (Zj 9 Tryz.f9)
def Gb(a:Zf)(a1:Zc)(a2:WL):Rs:=C 9 [.agg (a.c.map .t),.agg (a1.c.map .t),L 1 (a2.map ic)] []
def Z0y:Af (Zj 29 Tryz.f29):={ m:=_ }
def Z0z:Za:=Aa Z0y 7
def Z00:Za:=Aa Z0y 23
def ZAd:Ab:=Zn Z0y 7 Z0z 23 Z00
def jO(a:WL)(a1:Int):Rs:=C 29 [Zr a,I a1] []
def jP(l:WL)(c i:Int):Rs:=lp C [.blk 0,.seq Z00,.fin 0 [.tmp 4]] [0,1,5] Z0z [Zr l,I c,I i] []
def Z01:Af (Zj 30 Tryz.f30):={ m:=_ }
def Z02:Za:=Aa Z01 7
def Z03:Za:=Aa Z01 23
def ZAe:Ab:=Zn Z01 7 Z02 23 Z03
def jQ(a:Zf)(a1:Zc)(a2:Zu)(a3:Int)(a4:WL):Rs:=C 30 [Am a.c,Am a1.c,Am a2.c,I a3,Zr a4] []
def jR(m:Zf)(q:Zc)(b:Zu)(k:Int)(l:WL)(i:Int):Rs:=lp C [.blk 0,.seq Z03,.fin 0 [.tmp 10]] [3,4,5,6,7,11] Z02 [I k,Zr l,.ptr 0 0,.ptr 1 0,.ptr 2 0,I i] [Ad m.c,Ad q.c,Ad b.c]
def Z04:Af (Zj 7 Tryz.f7):={ m:=_ }
def Z05:Za:=Aa Z04 19
def Z06:Za:=Aa Z04 41
def ZAf:Ab:=Zn Z04 19 Z05 41 Z06
def Mo(a:Zf)(a1:Zc)(a2:Zu):Rs:=C 7 [.agg (a.c.map .t),.agg (a1.c.map .t),.agg (a2.c.map .t)] []
def jS(m:Zf)(q:Zc)(b:Zu)(cc:List ZX)(cd i:Int):Rs:=lp C [.blk 0,.seq Z06,.fin 0 [.tmp 6]] [3,4,5,7,8,9] Z05 [.ptr 0 0,.ptr 1 0,.ptr 2 0,.own 3,I cd,I i] [Ad m.c,Ad q.c,Ad b.c,Js cc]
def jT:Af (Zj 31 Tryz.f31):={ m:=_ }
def Z07:Za:=Aa jT 23
def Z08:Za:=Aa jT 43
def ZpN:Za:=AG jT 9 14 Z07 34 Z08
def Z09:Za:=Aa jT 44
def ZAg:Ab:=Zn jT 9 ZpN 44 Z09
def ZAh:Ab:=AD (Zj 8 Tryz.f8)
def ZpO(a:Zf)(a1:Zc)(a2:Zu)(a3:WL):Rs:=C 31 [Am a.c,Am a1.c,Am a2.c,Zr a3] []
def Z0A:List Fr:=[.blk 0,.seq Z09,.fin 0 [.tmp 8]]
def St(m:Zf)(q:Zc)(b:Zu)(l:WL)(n k:Int):Rs:=lp C Z0A [3,4,5,6,9,10] ZpN [Zr l,.ptr 0 0,.ptr 1 0,.ptr 2 0,I n,I k] [Ad m.c,Ad q.c,Ad b.c]
def jU(m:Zf)(q:Zc)(b:Zu)(l:WL)(n k cc i:Int):Rs:=lp C (.blk 2::.blk 1::.seq Z08::.loop [3,4,5,6,9,10] ZpN::Z0A) [3,4,5,6,9,10,11,12] Z07 [Zr l,.ptr 0 0,.ptr 1 0,.ptr 2 0,I n,I k,I cc,I i] [Ad m.c,Ad q.c,Ad b.c]
def Su(a:Zf)(a1:Zc)(a2:Zu)(a3:WL):Rs:=C 8 [.agg (a.c.map .t),.agg (a1.c.map .t),.agg (a2.c.map .t),L 1 (a3.map ic)] []
def ZAi:Ab:=AD (Zj 11 Tryz.f11)
def ZpP(a:WL)(a1:Int):Rs:=C 11 [L 1 (a.map (kc .u8)),I a1] []
def ZAj:Af (Zj 3 Tryz.f3):={ m:=_ }
def Z0B:Za:=Aa ZAj 39
def ZAk:Za:=.seq (.regF [.m 91 9,.m 92 91,.g 93 92 (.faddr 3 (.s 5)),.g 94 92 (.load (some 2) (.s 93)),.g 95 92 (.mov (.s 6)),.g 96 92 (.call 13 [.s 94,.s 95]),.o 97 (.pick (.s 92) (.s 96) (.c (.t (.bool false)))),.m 2 97] [2]) (.ret)
def ZpQ:Ab:=Ql ZAj 39 Z0B
def Mp(a:WL):Rs:=C 3 [L 1 (a.map (kc .u8))] []
def Sv(m:Zf)(q:Zc)(b:Zu)(cd w1:WL)(t:Int)(cl:Bool)(cc k:Int):Rs:=EvL C [.blk 0,.seq ZAk,.fin 0 [.tmp 2]] [0,3,4,5,6,8,9,10,11] Z0B ⟨[(0,L 1 (cd.map (kc .u8))),(3,.ptr 0 0),(4,.ptr 1 0),(5,.ptr 2 0),(6,L 1 (w1.map ic)),(8,I t),(9,Bo cl),(10,I cc),(11,I k)],[[]],[.box (m.c.map .t),.box (q.c.map .t),.box (b.c.map .t)]⟩
end
