/-
  Parts of the proofs for this seat: D3.
-/
import Derived.Test.YtobfkfgdneeabaaGreatP8
set_option linter.all false
set_option maxRecDepth 100000
set_option maxHeartbeats 4000000
set_option cbv.maxSteps 9999999
namespace Go.Proofs.YtobfkfgdneeabaaGreat
open Go.AM
noncomputable section
def ZxD:Af (Zg 18 Tryz.f18):={ m:=_ }
def Z9y:Za:=Aa ZxD 26
def Z9z:Za:=Aw ZxD 20 6 Z9y
def Z90:Ab:=Vu ZxD 20 Z9z
def TL(a:V2):Rs:=C 18 [L 1 (a.map (kc .u8))] []
def Z91:Ab:=AG (Zg 19 Tryz.f19)
def Zpg(x:Zo):Rs:=C 19 [.ptr 0 0] [Ag x.c]
def Z92:Ab:=AG (Zg 5 Tryz.f5)
def lW(a:V2):Rs:=C 5 [L 1 (a.map (kc .u8))] []
def Z93:Ab:=AG (Zg 57 Tryz.f57)
def VX(a:V2):Rs:=C 57 [Zq a] []
def Z94:Ab:=AG (Zg 20 Tryz.f20)
def M0(a:Box):Rs:=C 20 [Ap a.c] []
def Z95:Ab:=AG (Zg 75 Tryz.f75)
def Ko(x:Zt):Rs:=C 75 [.ptr 0 0] [Ag x.c]
def Z96:Ab:=AG (Zg 176 Tryz.f176)
def Zph(x:Zy):Rs:=C 176 [.ptr 0 0] [Ag x.c]
def Z97:Ab:=AG (Zg 25 Tryz.f25)
def Xd(a a1 a2:Int):Rs:=C 25 [I a,I a1,I a2] []
def lX:Af (Zg 110 Tryz.f110):={ m:=_ }
def ZxE:Za:=Aa lX 7
def ZxF:Za:=Aa lX 30
def ZxG:Za:=Aa lX 48
def ZxH:Za:=AJ lX 25 5 ZxF 23 ZxG
def Z98:Ab:=Zp lX 7 ZxE 25 ZxH
def WS(a:Zy):Rs:=C 110 [Ap a.c] []
def Jz(o:Zy)(x x1:Int):Rs:=lp C [.blk 0,.seq ZxH,.fin 0 [.tmp 2]] [1,7,8,9] ZxE [.ptr 0 0,.bsl 1 5,I x,I x1] [Ag o.c,.box [.ptr 0 0,.ptr 0 1,.ptr 0 2,.ptr 0 3,.ptr 0 4]]
def M1(o:Zy)(x:List Z4)(x1 x2:Int):Rs:=lp C [.blk 2,.seq ZxG,.fin 0 [.tmp 2]] [1,20,21,22] ZxF [.ptr 0 0,L 2 (x.map Z4.c),I x1,I x2] [Ag o.c]
def M2:Af (Zg 112 Tryz.f112):={ m:=_ }
def ZxI:Za:=Aa M2 33
def ZxJ:Za:=Aa M2 43
def Zpi:Za:=AJ M2 21 12 ZxI 22 ZxJ
def ZxK:Za:=Aa M2 44
def Zpj:Za:=AJ M2 9 12 Zpi 35 ZxK
def ZxL:Za:=Aa M2 45
def Z99:Ab:=Zp M2 9 Zpj 45 ZxL
def UF:Rs:=C 112 [] []
def ZxM:List Fr:=[.blk 0,.seq ZxL,.fin 0 [.tmp 0]]
def TM(c:XS)(a:Int):Rs:=lp C ZxM [1,2] Zpj [.own 0,I a] [Z3 c]
def ZxN:List Fr:=.blk 2::.blk 1::.seq ZxK::.loop [1,2] Zpj::ZxM
def M3(c:XS)(a b:Int):Rs:=lp C ZxN [1,2,3] Zpi [.own 0,I a,I b] [Z3 c]
def TN(cc:XS)(a b c:Int):Rs:=lp C (.blk 4::.blk 3::.seq ZxJ::.loop [1,2,3] Zpi::ZxN) [1,2,3,4] ZxI [.own 0,I a,I b,I c] [Z3 cc]
def Z9A:Ab:=AG (Zg 143 Tryz.f143)
def KL(a:Int):Rs:=C 143 [I a] []
def Zpk:Af (Zg 142 Tryz.f142):={ m:=_ }
def Z9B:Za:=Aa Zpk 24
def ZxO:Za:=Aw Zpk 9 15 Z9B
def ZxP:Za:=Aa Zpk 25
def Z9C:Ab:=Zp Zpk 9 ZxO 25 ZxP
def Ik(a:Zy)(a1 a2 a3:Int):Rs:=C 142 [Ap a.c,I a1,I a2,I a3] []
def TO(cd cc n:Int)(x:List Z4)(x1 x2:Int):Rs:=lp C [.blk 0,.seq ZxP,.fin 0 [.tmp 8]] [1,2,9,37,38,39] ZxO [I cd,I cc,I n,L 2 (x.map Z4.c),I x1,I x2] []
def Z9D:Ab:=AG (Zg 113 Tryz.f113)
def Kp(a:Zy)(a1:V2):Rs:=C 113 [Ap a.c,Zq a1] []
def TP:Af (Zg 111 Tryz.f111):={ m:=_ }
def Z9E:Za:=Aa TP 56
def ZxQ:Za:=Aw TP 29 27 Z9E
def ZxR:Za:=Aa TP 57
def Zpl:Za:=AJ TP 15 14 ZxQ 42 ZxR
def ZxS:Za:=Aa TP 58
def Z9F:Ab:=Zp TP 15 Zpl 58 ZxS
def WH(a:Zy):Rs:=C 111 [Ap a.c] []
def Zpm:List Fr:=[.blk 0,.seq ZxS,.fin 0 [.tmp 2,.tmp 3,.tmp 4]]
def GI(o:Zy)(x:XS)(x1 x2:Int):Rs:=lp C Zpm [1,12,13,14] Zpl [.ptr 0 0,.own 1,I x1,I x2] [Ag o.c,Z3 x]
def J0(o:Zy)(x:XS)(t:V2)(x1 x2 x3 x4:Int):Rs:=lp C (.blk 2::.blk 1::.seq ZxR::.loop [1,12,13,14] Zpl::Zpm) [1,6,12,13,14,19,20] ZxQ [.ptr 0 0,Zq t,.own 1,I x1,I x2,I x3,I x4] [Ag o.c,Z3 x]
def lY:Af (Zg 58 Tryz.f58):={ m:=_ }
def ZxT:Za:=Aa lY 41
def ZxU:Za:=Aa lY 59
def Zpn:Za:=AJ lY 7 34 ZxT 52 ZxU
def ZxV:Za:=Aa lY 60
def Z9G:Ab:=Zp lY 7 Zpn 60 ZxV
def TQ(a:Zt):Rs:=C 58 [Ap a.c] []
def ZxW:List Fr:=[.blk 0,.seq ZxV,.fin 0 [.tmp 2,.tmp 3,.tmp 4]]
def XO(x:Zt)(x1 x2:Int):Rs:=lp C ZxW [13,14,15] Zpn [.bsl 0 5,I x1,I x2] [.box [.ptr 1 0,.ptr 1 6,.ptr 1 12,.ptr 1 18,.ptr 1 24],Ag x.c]
def TS:=lp C (.blk 2::.blk 1::.seq ZxU::.loop [13,14,15] Zpn::ZxW) [6,7,13,14,15,40,41,42] ZxT
def Il(o:Zt)(x:XS)(cc x1 x2 x3 x4:Int):Rs:=TS [.ptr 0 0,I cc,.bsl 1 5,I x1,I x2,.own 2,I x3,I x4] [Ag o.c,.box [.ptr 0 0,.ptr 0 6,.ptr 0 12,.ptr 0 18,.ptr 0 24],Z3 x]
def In(o:Zt)(x:XS)(cc x1 x2 x3 x4:Int):Rs:=TS [.ptr 0 6,I cc,.bsl 1 5,I x1,I x2,.own 2,I x3,I x4] [Ag o.c,.box [.ptr 0 0,.ptr 0 6,.ptr 0 12,.ptr 0 18,.ptr 0 24],Z3 x]
def Io(o:Zt)(x:XS)(cc x1 x2 x3 x4:Int):Rs:=TS [.ptr 0 12,I cc,.bsl 1 5,I x1,I x2,.own 2,I x3,I x4] [Ag o.c,.box [.ptr 0 0,.ptr 0 6,.ptr 0 12,.ptr 0 18,.ptr 0 24],Z3 x]
def Ip(o:Zt)(x:XS)(cc x1 x2 x3 x4:Int):Rs:=TS [.ptr 0 18,I cc,.bsl 1 5,I x1,I x2,.own 2,I x3,I x4] [Ag o.c,.box [.ptr 0 0,.ptr 0 6,.ptr 0 12,.ptr 0 18,.ptr 0 24],Z3 x]
def Iq(o:Zt)(x:XS)(cc x1 x2 x3 x4:Int):Rs:=TS [.ptr 0 24,I cc,.bsl 1 5,I x1,I x2,.own 2,I x3,I x4] [Ag o.c,.box [.ptr 0 0,.ptr 0 6,.ptr 0 12,.ptr 0 18,.ptr 0 24],Z3 x]
def Z9H:Ab:=AG (Zg 21 Tryz.f21)
def M4(a:Zt):Rs:=C 21 [Ap a.c] []
def Z9I:Ab:=AG (Zg 114 Tryz.f114)
def TT(a:KI):Rs:=C 114 [.t (.str a)] []
def ZxX:Af (Zg 177 Tryz.f177):={ m:=_ }
def ZxY:Za:=Aa ZxX 7
def ZxZ:Za:=Aa ZxX 25
def Z9J:Ab:=Zp ZxX 7 ZxY 25 ZxZ
def UG(a:V2)(a1:Int):Rs:=C 177 [Zq a,I a1] []
def lZ(s:V2)(v x x1:Int):Rs:=lp C [.blk 0,.seq ZxZ,.fin 0 [.tmp 4]] [0,1,7,8] ZxY [Zq s,I v,I x,I x1] []
def Z9K:Ab:=AG (Zg 115 Tryz.f115)
def GJ(a:V2)(a1:Int):Rs:=C 115 [Zq a,I a1] []
def Zya:Af (Zg 178 Tryz.f178):={ m:=_ }
def Zyb:Za:=Aa Zya 7
def Zyc:Za:=Aa Zya 25
def Z9L:Ab:=Zp Zya 7 Zyb 25 Zyc
def Zpo(a:List Bool)(a1:Bool):Rs:=C 178 [L 1 (a.map bc),Bo a1] []
def l0(s:List Bool)(v:Bool)(x x1:Int):Rs:=lp C [.blk 0,.seq Zyc,.fin 0 [.tmp 4]] [0,1,7,8] Zyb [L 1 (s.map bc),Bo v,I x,I x1] []
def Z9M:Ab:=AG (Zg 116 Tryz.f116)
def Zpp(a:List Bool)(a1:Bool):Rs:=C 116 [L 1 (a.map bc),Bo a1] []
def l7:Af (Zg 59 Tryz.f59):={ m:=_ }
def Zyd:Za:=Aa l7 39
def Zye:Za:=Aa l7 59
def Zpq:Za:=AJ l7 17 22 Zyd 42 Zye
def Zyf:Za:=Aa l7 60
def Zpr:Ab:=Zp l7 17 Zpq 60 Zyf
def Ir(a:Zc):Rs:=C 59 [Ap a.c] []
def Zyg:List Fr:=[.blk 0,.seq Zyf,.fin 0 [.tmp 2]]
def M5(q:Zc)(cc:List Bool)(x:List Zd)(x1 x2:Int):Rs:=lp C Zyg [1,3,23,24,25] Zpq [.ptr 0 0,.own 1,L 2 (x.map Zd.c),I x1,I x2] [Ag q.c,.arr 4 1 true (cc.map bc)]
def l8(q:Zc)(cc:List Bool)(a:Zd)(x:List Zd)(x1 x2:Int)(x3:V2)(x4 x5:Int):Rs:=lp C (.blk 2::.blk 1::.seq Zye::.loop [1,3,23,24,25] Zpq::Zyg) [1,3,5,23,24,25,41,42,43] Zyd [.ptr 0 0,.own 1,.ptr 2 0,L 2 (x.map Zd.c),I x1,I x2,Zq x3,I x4,I x5] [Ag q.c,.arr 4 1 true (cc.map bc),Ag a.c]
def Z9N:Ab:=AG (Zg 118 Tryz.f118)
def Zps(a:Zl)(a1:KI):Rs:=C 118 [Ap a.c,.iptr [.str a1] 0] []
def Zyh:Af (Zg 117 Tryz.f117):={ m:=_ }
def Zyi:Za:=Aa Zyh 7
def Zyj:Za:=Aa Zyh 25
def Z9O:Ab:=Zp Zyh 7 Zyi 25 Zyj
def Zpt(a:List Zl)(a1:KI):Rs:=C 117 [L 3 (a.map Zl.c),.fn 118 [.iptr [.str a1] 0]] []
def l9(s:List Zl)(f:KI)(x x1:Int):Rs:=lp C [.blk 0,.seq Zyj,.fin 0 [.tmp 4]] [0,1,7,8] Zyi [L 3 (s.map Zl.c),.fn 118 [.iptr [.str f] 0],I x,I x1] []
def Zyk:Af (Zg 191 Tryz.f191):={ m:=_ }
def Zyl:Za:=Aa Zyk 7
def Zym:Za:=Aa Zyk 25
def Z9P:Ab:=Zp Zyk 7 Zyl 25 Zym
def TU(a:V2)(a1:Int):Rs:=C 191 [Zq a,I a1] []
def mA(cc:V2)(c:Int)(x:V2)(x1 x2:Int):Rs:=lp C [.blk 0,.seq Zym,.fin 0 [.tmp 4]] [0,1,7,8,9] Zyl [Zq cc,I c,Zq x,I x1,I x2] []
def Z9Q:Ab:=AG (Zg 274 Tryz.f274)
def Zpu(a:Int):Rs:=C 274 [I a] []
def Z9R:Ab:=AG (Zg 257 Tryz.f257)
def Zpv(a a1:Int):Rs:=C 257 [I a,I a1] []
def Zyn:Af (Zg 224 Tryz.f224):={ m:=_ }
def Zyo:Za:=Aa Zyn 7
def Zyp:Za:=Aa Zyn 37
def Z9S:Ab:=Zp Zyn 7 Zyo 37 Zyp
def Zyq(a a1:V2):Rs:=C 224 [Zq a,Zq a1] []
def mB(s1 s2 x:V2)(x1 x2:Int):Rs:=lp C [.blk 0,.seq Zyp,.fin 0 [.tmp 4]] [0,1,9,10,11] Zyo [Zq s1,Zq s2,Zq x,I x1,I x2] []
def Z9T:Ab:=AG (Zg 194 Tryz.f194)
def Zpw(a a1:V2):Rs:=C 194 [Zq a,Zq a1] []
def Zyr:Af (Zg 215 Tryz.f215):={ m:=_ }
def Zys:Za:=Aa Zyr 7
def Zyt:Za:=Aa Zyr 23
def Z9U:Ab:=Zp Zyr 7 Zys 23 Zyt
def Zpx(a:XS):Rs:=C 215 [Wl a] []
def mC(c:XS)(i:Int):Rs:=lp C [.blk 0,.seq Zyt,.fin 0 [.tmp 2]] [0,3] Zys [Wl c,I i] []
def Zyu:Af (Zg 179 Tryz.f179):={ m:=_ }
def Zyv:Za:=Aa Zyu 7
def Zyw:Za:=Aa Zyu 25
def Z9V:Ab:=Zp Zyu 7 Zyv 25 Zyw
def Zpy(a:Zl):Rs:=C 179 [Ap a.c] []
def mD(t:Zl)(x:XS)(x1 x2:Int):Rs:=lp C [.blk 0,.seq Zyw,.fin 0 [.tmp 2]] [1,6,7,8] Zyv [.ptr 0 0,Wl x,I x1,I x2] [Ag t.c]
def Zyx:Af (Zg 119 Tryz.f119):={ m:=_ }
def Zyy:Za:=Aa Zyx 7
def Zyz:Za:=Aa Zyx 25
def Z9W:Ab:=Zp Zyx 7 Zyy 25 Zyz
def mE(a:Zj):Rs:=C 119 [Ap a.c] []
def mF(db:Zj)(x:List Zl)(x1 x2:Int):Rs:=lp C [.blk 0,.seq Zyz,.fin 0 [.tmp 2]] [1,6,7,8] Zyy [.ptr 0 0,L 3 (x.map Zl.c),I x1,I x2] [Ag db.c]
def Zy0:Af (Zg 180 Tryz.f180):={ m:=_ }
def Zy1:Za:=Aa Zy0 9
def Zy2:Za:=Aa Zy0 21
def Z9X:Ab:=Zp Zy0 9 Zy1 21 Zy2
def Is(a:XS):Rs:=C 180 [Wl a] []
def mG(c x:XS)(x1 x2:Int):Rs:=lp C [.blk 0,.seq Zy2,.fin 0 [.tmp 2]] [3,7,8,9] Zy1 [.own 0,Wl x,I x1,I x2] [Z3 c]
def Z9Y:Ab:=AG (Zg 120 Tryz.f120)
def Zpz(a:Zl):Rs:=C 120 [Ap a.c] []
def Z9Z:Ab:=AG (Zg 60 Tryz.f60)
def It(a:Zj)(a1:KI):Rs:=C 60 [Ap a.c,.t (.str a1)] []
def Zy3:Af (Zg 22 Tryz.f22):={ m:=_ }
def Zy4:Za:=Aa Zy3 15
def Zy5:Za:=Aa Zy3 35
def ZAa:Ab:=Zp Zy3 15 Zy4 35 Zy5
def GK(a:Zj)(a1:Zc):Rs:=C 22 [Ap a.c,Ap a1.c] []
def mH(db:Zj)(x:List Zd)(x1 x2:Int):Rs:=lp C [.blk 0,.seq Zy5,.fin 0 [.tmp 4]] [2,13,14,15] Zy4 [.ptr 0 0,L 2 (x.map Zd.c),I x1,I x2] [Ag db.c]
def mI:Af (Zg 131 Tryz.f131):={ m:=_ }
def Zy6:Za:=Aa mI 21
def Zy7:Za:=Aa mI 39
def Zp0:Za:=AJ mI 9 12 Zy6 30 Zy7
def Zy8:Za:=Aa mI 40
def ZAb:Ab:=Zp mI 9 Zp0 40 Zy8
def TV(a:Zc)(a1:Int):Rs:=C 131 [Ap a.c,I a1] []
def Zy9:List Fr:=[.blk 0,.seq Zy8,.fin 0 [.tmp 4]]
def M6(q:Zc)(cd:V2)(cc v:Int):Rs:=lp C Zy9 [1,2,5,6] Zp0 [I cc,.ptr 0 0,.own 1,I v] [Ag q.c,Zm cd]
def mJ(q:Zc)(cd:V2)(cc v:Int)(x:List Zd)(x1 x2:Int):Rs:=lp C (.blk 2::.blk 1::.seq Zy7::.loop [1,2,5,6] Zp0::Zy9) [1,2,5,6,17,18,19] Zy6 [I cc,.ptr 0 0,.own 1,I v,L 2 (x.map Zd.c),I x1,I x2] [Ag q.c,Zm cd]
def Zp1:Af (Zg 132 Tryz.f132):={ m:=_ }
def ZAc:Za:=Aa Zp1 24
def ZyA:Za:=Aw Zp1 9 15 ZAc
def ZyB:Za:=Aa Zp1 25
def ZAd:Ab:=Zp Zp1 9 ZyA 25 ZyB
def Zp2(a a1:V2):Rs:=C 132 [Zq a,Zq a1] []
def TW(c b x:V2)(x1 x2:Int):Rs:=lp C [.blk 0,.seq ZyB,.fin 0 [.tmp 4]] [1,5,9,10,11] ZyA [Zq b,.own 0,Zq x,I x1,I x2] [Zm c]
def ZAe:Ab:=AG (Zg 69 Tryz.f69)
def M7(a:Zc)(a1:Zn)(a2:List Zf)(a3:V2):Rs:=C 69 [Ap a.c,Ap a1.c,KC a2,Zq a3] []
def Zp3:Af (Zg 36 Tryz.f36):={ m:=_ }
def ZAf:Za:=Aa Zp3 52
def ZyC:Za:=Aw Zp3 19 33 ZAf
def ZyD:Za:=Aa Zp3 54
def ZAg:Ab:=Zp Zp3 19 ZyC 54 ZyD
def UH(a:Zc)(a1:Zr):Rs:=C 36 [Ap a.c,Ap a1.c] []
def mK(q:Zc)(cd:List Zf)(cc:V2)(x:List Zn)(x1 x2:Int):Rs:=lp C [.blk 0,.seq ZyD,.fin 0 [.tmp 4,.tmp 5]] [2,6,7,25,26,27] ZyC [.ptr 0 0,.own 1,.own 2,L 3 (x.map Zn.c),I x1,I x2] [Ag q.c,Q5 cd,Zm cc]
def ZAh:Ab:=AG (Zg 23 Tryz.f23)
def mL(a:Zc)(a1:Zr):Rs:=C 23 [Ap a.c,Ap a1.c] []
def ZyE:Af (Zg 121 Tryz.f121):={ m:=_ }
def ZyF:Za:=Aa ZyE 7
def ZyG:Za:=Aa ZyE 25
def ZAi:Ab:=Zp ZyE 7 ZyF 25 ZyG
def mM(a:V2):Rs:=C 121 [Zq a] []
def mN(c x:V2)(x1 x2:Int):Rs:=lp C [.blk 0,.seq ZyG,.fin 0 [.tmp 2]] [0,5,6,7] ZyF [Zq c,Zq x,I x1,I x2] []
def ZyH:Af (Zg 122 Tryz.f122):={ m:=_ }
def ZyI:Za:=Aa ZyH 15
def ZyJ:Za:=Aa ZyH 33
def ZAj:Ab:=Zp ZyH 15 ZyI 33 ZyJ
def Zp4(a a1:V2):Rs:=C 122 [Zq a,Zq a1] []
def mO(a b:V2)(x x1:Int):Rs:=lp C [.blk 0,.seq ZyJ,.fin 0 [.tmp 4]] [0,1,12,13] ZyI [Zq a,Zq b,I x,I x1] []
def ZAk:Ab:=AG (Zg 61 Tryz.f61)
def Iu(a:Box):Rs:=C 61 [Ap a.c] []
def ZAl:Ab:=AG (Zg 62 Tryz.f62)
def Zp5(a:Zc):Rs:=C 62 [Ap a.c] []
def ZAm:Ab:=AG (Zg 24 Tryz.f24)
def TX(a:Zc)(a1:Box):Rs:=C 24 [Ap a.c,Ap a1.c] []
def Zp6:Af (Zg 37 Tryz.f37):={ m:=_ }
def ZAn:Za:=Aa Zp6 24
def ZyK:Za:=Aw Zp6 9 15 ZAn
def ZyL:Za:=Aa Zp6 25
def ZAo:Ab:=Zp Zp6 9 ZyK 25 ZyL
def TY(a:Zr):Rs:=C 37 [Ap a.c] []
def TZ(cc:V2)(x:List Zn)(x1 x2:Int):Rs:=lp C [.blk 0,.seq ZyL,.fin 0 [.tmp 2]] [3,8,9,10] ZyK [.own 0,L 3 (x.map Zn.c),I x1,I x2] [Zm cc]
def ZyM:Af (Zg 9 Tryz.f9):={ m:=_ }
def ZyN:Za:=Aa ZyM 17
def ZyO:Za:=Aa ZyM 37
def ZAp:Ab:=Zp ZyM 17 ZyN 37 ZyO
def M8(a:Zc)(a1:Zr)(a2:Box):Rs:=C 9 [.agg (a.c.map .t),.agg (a1.c.map .t),.agg (a2.c.map .t)] []
def mP(b:Box)(cc:List Zf)(x:V2)(x1 x2:Int):Rs:=lp C [.blk 0,.seq ZyO,.fin 0 [.tmp 6]] [5,7,27,28,29] ZyN [.ptr 0 0,.own 1,.own 2,I x1,I x2] [Ag b.c,Q5 cc,Zm x]
def ZyP:Af (Zg 85 Tryz.f85):={ m:=_ }
def ZyQ:Za:=Aa ZyP 5
def ZyR:Za:=Aa ZyP 13
def ZAq:Ab:=Zp ZyP 5 ZyQ 13 ZyR
def Zp7(a:List Zf)(a1:Int):Rs:=C 85 [KC a,I a1] []
def mQ(c:List Zf)(cc:Int):Rs:=lp C [.blk 0,.seq ZyR,.fin 0 [.tmp 4]] [0,1] ZyQ [KC c,I cc] []
def ZAr:Ab:=AG (Zg 84 Tryz.f84)
def Zp8(a:Zr):Rs:=C 84 [Ap a.c] []
def ZAs:Ab:=AG (Zg 42 Tryz.f42)
def T0(a:Zc)(a1:Zr)(a2:Int):Rs:=C 42 [Ap a.c,Ap a1.c,I a2] []
def ZyS:Af (Zg 13 Tryz.f13):={ m:=_ }
def ZyT:Za:=Aa ZyS 17
def ZyU:Za:=Aa ZyS 35
def ZAt:Ab:=Zp ZyS 17 ZyT 35 ZyU
def Iv(a:Zc)(a1:Zr)(a2:Int):Rs:=C 13 [.agg (a.c.map .t),.agg (a1.c.map .t),I a2] []
def mR(q:Zc)(p:Zr)(cc:List Zf)(x:V2)(cd x1 x2:Int):Rs:=lp C [.blk 0,.seq ZyU,.fin 0 [.cellO 6 (some 1) [some (3,0)],.tmpO 7 [none]]] [2,3,4,6,8,22,23,24] ZyT [I cd,.ptr 0 0,.ptr 1 0,.ptr 2 0,.own 3,.own 4,I x1,I x2] [Ag q.c,Ag p.c,.box [.t .nil],Q5 cc,Zm x]
def M9(x:V2):Rs:=C 184 [.own 0] [.arr 3 1 true (x.map ic)]
def T1:Af (Zg 135 Tryz.f135):={ m:=_ }
def ZyV:Za:=Aa T1 40
def ZyW:Za:=Aa T1 52
def ZyX:Za:=Aa T1 53
def Zp9:Za:=BR T1 23 17 ZyV 29 ZyW 30 ZyX
def ZyY:Za:=Aa T1 54
def ZAu:Ab:=Zp T1 23 Zp9 54 ZyY
def mS(a:Zj)(a1:Zc)(a2:Int):Rs:=C 135 [Ap a.c,Ap a1.c,I a2] []
def ZyZ:List Fr:=[.blk 0,.seq ZyY,.fin 0 [.cell 6 (some 2),.tmp 7]]
def ZpA:=lp C ZyZ [6,8,11,51,52,53] Zp9
def ZAv(a:Zd)(x:V2)(x1 x2:Int):Rs:=ZpA [.ptr 0 0,.ptr 1 0,.ptr 2 0,.t .nil,I x1,I x2] [.box [.t .nil,.t .nil],Ag a.c,.box [.own 3,.t .nil],Zm x]
def Zza(a:Zd)(x:V2)(x1:XS)(x2 x3:Int):Rs:=ZpA [.ptr 0 0,.ptr 1 0,.ptr 2 0,.own 4,I x2,I x3] [.box [.t .nil,.t .nil],Ag a.c,.box [.own 3,.t .nil],Zm x,Z3 x1]
def Zzb:=lp C (.blk 2::.seq ZyW::.blk 1::.seq ZyX::.loop [6,8,11,51,52,53] Zp9::ZyZ) [6,8,11,13,14,51,52,53,59,60,61] ZyV
def mT(a:Zd)(x x1:V2)(x2:XS)(cc:V2)(x3 x4 x5 x6:Int):Rs:=Zzb [.ptr 0 0,.ptr 1 0,.ptr 2 0,Zq cc,.own 4,.own 5,I x3,I x4,.own 3,I x5,I x6] [.box [.t .nil,.t .nil],Ag a.c,.box [.own 3,.t .nil],Zm x,Zm x1,Z3 x2]
def Na(a:Zd)(x:V2)(x1 x2:XS)(x3 x4:Int):Rs:=ZpA [.ptr 0 0,.ptr 1 0,.ptr 2 0,.own 5,I x3,I x4] [.box [.t .nil,.t .nil],Ag a.c,.box [.own 3,.own 4],Zm x,Z3 x1,Z3 x2]
def mU(a:Zd)(x:V2)(x1:XS)(x2:V2)(x3:XS)(cc:V2)(x4 x5 x6 x7:Int):Rs:=Zzb [.ptr 0 0,.ptr 1 0,.ptr 2 0,Zq cc,.own 5,.own 6,I x4,I x5,.own 3,I x6,I x7] [.box [.t .nil,.t .nil],Ag a.c,.box [.own 3,.own 4],Zm x,Z3 x1,Zm x2,Z3 x3]
def Zzc:Af (Zg 222 Tryz.f222):={ m:=_ }
def Zzd:Za:=Aa Zzc 7
def Zze:Za:=Aa Zzc 25
def ZAw:Ab:=Zp Zzc 7 Zzd 25 Zze
def Zzf(a:V2)(a1:Int):Rs:=C 222 [Zq a,I a1] []
def mV(c:V2)(cc:Int)(x:V2)(x1 x2:Int):Rs:=lp C [.blk 0,.seq Zze,.fin 0 [.tmp 4]] [0,1,7,8,9] Zzd [Zq c,I cc,Zq x,I x1,I x2] []
def ZAx:Ab:=AG (Zg 192 Tryz.f192)
def ZpB(a:V2):Rs:=C 192 [Zq a] []
def Zzg:Af (Zg 144 Tryz.f144):={ m:=_ }
def Zzh:Za:=Aa Zzg 7
def Zzi:Za:=Aa Zzg 25
def ZAy:Ab:=Zp Zzg 7 Zzh 25 Zzi
def QD(a:Ze):Rs:=C 144 [Ap a.c] []
def mW(s:Ze)(x:XS)(x1 x2:Int):Rs:=lp C [.blk 0,.seq Zzi,.fin 0 [.tmp 2]] [1,6,7,8] Zzh [.ptr 0 0,Wl x,I x1,I x2] [Ag s.c]
def ZAz:Ab:=AG (Zg 186 Tryz.f186)
def KM(x:Int)(a a1:V2):Rs:=C 186 [Zq a,Zq a1,.ptr 0 0] [.box [I x]]
def ZpC:Af (Zg 248 Tryz.f248):={ m:=_ }
def Zzj:Za:=Aa ZpC 16
def Zzk:Za:=Aa ZpC 26
def ZpD:Za:=AJ ZpC 4 12 Zzj 22 Zzk
def ZA0:Ab:=Vu ZpC 4 ZpD
def T2(fr:Bool)(x:XS)(x1 a a1:Int):Rs:=C 248 [.own 0,I a,I a1,.fn 186 [.ptr 1 0]] [.arr 38 1 fr (x.map Ae),.box [I x1]]
def GL(fr:Bool)(c:XS)(x a b i:Int):Rs:=EvL C [.blk 0,.fin 2 []] [0,1,2,3,8] ZpD ⟨[(0,.own 0),(1,I a),(2,I b),(3,.fn 186 [.ptr 1 0]),(8,I i)],[[(0,.own 0),(1,.ptr 1 0)]],[.arr 38 1 fr (c.map Ae),.box [I x]]⟩
def Nb(fr:Bool)(c:XS)(x a b i j:Int):Rs:=EvL C [.blk 2,.blk 1,.seq Zzk,.loop [0,1,2,3,8] ZpD,.blk 0,.fin 2 []] [0,1,2,3,8,9] Zzj ⟨[(0,.own 0),(1,I a),(2,I b),(3,.fn 186 [.ptr 1 0]),(8,I i),(9,I j)],[[(0,.own 0),(1,.ptr 1 0)]],[.arr 38 1 fr (c.map Ae),.box [I x]]⟩
def ZA1:Af (Zg 288 Tryz.f288):={ m:=_ }
def Zzl:Za:=Aa ZA1 4
def ZA2:Ab:=Vu ZA1 4 Zzl
def mX(fr:Bool)(x:XS)(x1 a a1 a2:Int):Rs:=C 288 [.own 0,I a,I a1,I a2,.fn 186 [.ptr 1 0]] [.arr 38 1 fr (x.map Ae),.box [I x1]]
def Nc(fr:Bool)(c:XS)(x a b n i:Int):Rs:=EvL C [.blk 0,.fin 2 []] [0,1,2,3,10] Zzl ⟨[(0,.own 0),(1,I a),(2,I b),(3,I n),(10,I i)],[[(0,.own 0),(1,.ptr 1 0)]],[.arr 38 1 fr (c.map Ae),.box [I x]]⟩
def Zzm:Af (Zg 275 Tryz.f275):={ m:=_ }
def Zzn:Za:=Aa Zzm 7
def Zzo:Za:=Aa Zzm 23
def ZA3:Ab:=Zp Zzm 7 Zzn 23 Zzo
def mY(fr:Bool)(x:XS)(x1 a a1 a2:Int):Rs:=C 275 [.own 0,I a,I a1,I a2,.fn 186 [.ptr 1 0]] [.arr 38 1 fr (x.map Ae),.box [I x1]]
def Iw(fr:Bool)(c:XS)(x m i j:Int):Rs:=EvL C [.blk 0,.seq Zzo,.fin 2 []] [0,2,4,10,11] Zzn ⟨[(0,.own 0),(2,I m),(4,.fn 186 [.ptr 1 0]),(10,I i),(11,I j)],[[(0,.own 0),(1,.ptr 1 0)]],[.arr 38 1 fr (c.map Ae),.box [I x]]⟩
def Up:Af (Zg 249 Tryz.f249):={ m:=_ }
def Zzp:Za:=Aa Up 11
def Zzq:Za:=Aa Up 30
def Zzr:Za:=Aa Up 40
def Zzs:Za:=AJ Up 25 5 Zzq 15 Zzr
def Zzt:Za:=Aa Up 53
def Zzu:Za:=Aa Up 72
def Zzv:Za:=Aa Up 82
def Zzw:Za:=AJ Up 67 5 Zzu 15 Zzv
def Zzx:Za:=Aa Up 105
def mZ:Za:=Aa Up 133
def ZpE:Za:=Aw Up 127 6 mZ
def Zzy:Za:=Aw Up 119 8 ZpE
def ZA4:Za:=AJ Up 100 5 Zzx 19 Zzy
def ZpF:Za:=Aw Up 84 16 ZA4
def ZpG:Za:=BR Up 42 11 Zzt 25 Zzw 42 ZpF
def ZA5:Ab:=HX Up 11 Zzp 25 Zzs 42 ZpG
def Uq(fr:Bool)(x:XS)(x1 a a1 a2:Int):Rs:=C 249 [.own 0,I a,I a1,I a2,.fn 186 [.ptr 1 0]] [.arr 38 1 fr (x.map Ae),.box [I x1]]
def Ix(fr:Bool)(c:XS)(x a i j:Int):Rs:=EvL C [.blk 0,.seq Zzs,.seq ZpG,.fin 2 []] [0,1,4,10,11] Zzp ⟨[(0,.own 0),(1,I a),(4,.fn 186 [.ptr 1 0]),(10,I i),(11,I j)],[[(0,.own 0),(1,.ptr 1 0)]],[.arr 38 1 fr (c.map Ae),.box [I x]]⟩
def Iy(fr:Bool)(c:XS)(x m i j:Int):Rs:=EvL C [.blk 4,.seq Zzw,.seq ZpF,.fin 2 []] [0,2,4,14,15] Zzt ⟨[(0,.own 0),(2,I m),(4,.fn 186 [.ptr 1 0]),(14,I i),(15,I j)],[[(0,.own 0),(1,.ptr 1 0)]],[.arr 38 1 fr (c.map Ae),.box [I x]]⟩
def Nd(fr:Bool)(cc:XS)(x a m b cd n c cl p:Int):Rs:=EvL C [.blk 8,.seq Zzy,.fin 2 []] [0,1,2,3,4,18,19,20,21,22] Zzx ⟨[(0,.own 0),(1,I a),(2,I m),(3,I b),(4,.fn 186 [.ptr 1 0]),(18,I cd),(19,I n),(20,I c),(21,I cl),(22,I p)],[[(0,.own 0),(1,.ptr 1 0)]],[.arr 38 1 fr (cc.map Ae),.box [I x]]⟩
def Nf(fr:Bool)(c:XS)(x i k:Int):Rs:=EvL C [.blk 2,.seq Zzr,.seq ZpG,.fin 2 []] [0,10,13] Zzq ⟨[(0,.own 0),(10,I i),(13,I k)],[[(0,.own 0),(1,.ptr 1 0)]],[.arr 38 1 fr (c.map Ae),.box [I x]]⟩
def Ng(fr:Bool)(c:XS)(x i k:Int):Rs:=EvL C [.blk 6,.seq Zzv,.seq ZpF,.fin 2 []] [0,14,17] Zzu ⟨[(0,.own 0),(14,I i),(17,I k)],[[(0,.own 0),(1,.ptr 1 0)]],[.arr 38 1 fr (c.map Ae),.box [I x]]⟩
def GM(fr:Bool)(c:XS)(x b cc x1:Int):Rs:=Ev C [.fin 2 []] mZ ⟨[(0,.own 0),(3,I b),(4,.fn 186 [.ptr 1 0]),(18,I cc),(24,I x1)],[[(0,.own 0),(1,.ptr 1 0)]],[.arr 38 1 fr (c.map Ae),.box [I x]]⟩
def GN(fr:Bool)(cc:XS)(x a b cd c x1:Int)(x2:Bool):Rs:=Ev C [.fin 2 []] mZ ⟨[(0,.own 0),(1,I a),(3,I b),(4,.fn 186 [.ptr 1 0]),(18,I cd),(20,I c),(24,I x1),(199,Bo x2)],[[(0,.own 0),(1,.ptr 1 0)]],[.arr 38 1 fr (cc.map Ae),.box [I x]]⟩
def m5(fr:Bool)(cc:XS)(x a m b cd c x1:Int)(x2:Bool):Rs:=Ev C [.fin 2 []] ZpE ⟨[(0,.own 0),(1,I a),(2,I m),(3,I b),(4,.fn 186 [.ptr 1 0]),(18,I cd),(20,I c),(24,I x1),(185,Bo x2)],[[(0,.own 0),(1,.ptr 1 0)]],[.arr 38 1 fr (cc.map Ae),.box [I x]]⟩
def Nh:Af (Zg 218 Tryz.f218):={ m:=_ }
def Zzz:Za:=Aa Nh 7
def Zz0:Za:=Aa Nh 35
def ZA6:Za:=Aa Nh 55
def Zz1:Za:=Aw Nh 47 8 ZA6
def ZpH:Za:=AJ Nh 23 12 Zz0 24 Zz1
def Zz2:Za:=Aw Nh 19 4 ZpH
def ZA7:Ab:=Zp Nh 7 Zzz 19 Zz2
def ZpI(x:XS)(x1 a:Int):Rs:=C 218 [.own 0,I a,.fn 186 [.ptr 1 0]] [Z3 x,.box [I x1]]
def Ni(fr:Bool)(cc:XS)(x n c a b:Int):Rs:=EvL C [.blk 0,.seq Zz2,.fin 2 []] [0,1,2,6,7,8] Zzz ⟨[(0,.own 0),(1,I n),(2,.fn 186 [.ptr 1 0]),(6,I c),(7,I a),(8,I b)],[[(0,.own 0),(1,.ptr 1 0)]],[.arr 38 1 fr (cc.map Ae),.box [I x]]⟩
def GO(fr:Bool)(cc:XS)(x n c:Int):Rs:=EvL C [.blk 2,.fin 2 []] [0,1,2,6] ZpH ⟨[(0,.own 0),(1,I n),(2,.fn 186 [.ptr 1 0]),(6,I c)],[[(0,.own 0),(1,.ptr 1 0)]],[.arr 38 1 fr (cc.map Ae),.box [I x]]⟩
def Nj(fr:Bool)(cc:XS)(x n c a b:Int):Rs:=EvL C [.blk 4,.seq Zz1,.blk 3,.loop [0,1,2,6] ZpH,.blk 2,.fin 2 []] [0,1,2,6,7,8] Zz0 ⟨[(0,.own 0),(1,I n),(2,.fn 186 [.ptr 1 0]),(6,I c),(7,I a),(8,I b)],[[(0,.own 0),(1,.ptr 1 0)]],[.arr 38 1 fr (cc.map Ae),.box [I x]]⟩
def ZA8:Ab:=AG (Zg 185 Tryz.f185)
def ZpJ(x:XS)(x1:Int):Rs:=C 185 [.own 0,.fn 186 [.ptr 1 0]] [Z3 x,.box [I x1]]
def ZA9:Ab:=AG (Zg 136 Tryz.f136)
def T3(a:Ze)(a1:Int):Rs:=C 136 [Ap a.c,I a1] []
def ZpK(x:V2):Rs:=C 219 [.own 0] [.arr 3 1 true (x.map ic)]
def ZAA:Ab:=AG (Zg 187 Tryz.f187)
def T4(a a1:Ze):Rs:=C 187 [Ap a.c,Ap a1.c] []
def ZpL:Af (Zg 188 Tryz.f188):={ m:=_ }
def ZAB:Za:=Aa ZpL 29
def ZpM:Za:=Aw ZpL 7 22 ZAB
def ZpN:Za:=Aa ZpL 30
def ZAC:Ab:=Zp ZpL 7 ZpM 30 ZpN
def Iz(a b:Ze)(x a1 a2:V2):Rs:=C 188 [.ptr 0 0,Zq a1,Zq a2] [.box [L 1 (a.Vars.map ic),L 1 (a.Rows.map Ae),L 1 (b.Vars.map ic),L 1 (b.Rows.map Ae),.own 1,.t .nil],Zm x]
def Nk(a b:Ze)(x c x1 y:V2)(x2 x3:Int):Rs:=EvL C [.blk 0,.seq ZpN,.fin 2 []] [0,1,2,6,16,17,18] ZpM ⟨[(0,.ptr 0 0),(1,Zq x1),(2,Zq y),(6,.own 2),(16,.own 1),(17,I x2),(18,I x3)],[[(0,.ptr 0 0),(1,.own 1)]],[.box [L 1 (a.Vars.map ic),L 1 (a.Rows.map Ae),L 1 (b.Vars.map ic),L 1 (b.Rows.map Ae),.own 1,.t .nil],Zm x,Zm c]⟩
def ZAD:Ab:=AG (Zg 189 Tryz.f189)
def m6(a b:Ze)(x:V2):Rs:=C 189 [.ptr 0 0] [.box [L 1 (a.Vars.map ic),L 1 (a.Rows.map Ae),L 1 (b.Vars.map ic),L 1 (b.Rows.map Ae),.own 1,.t .nil],Zm x]
def IA(a b:Ze)(x:V2)(x1:XS)(a1 a2:V2):Rs:=C 188 [.ptr 0 0,Zq a1,Zq a2] [.box [L 1 (a.Vars.map ic),L 1 (a.Rows.map Ae),L 1 (b.Vars.map ic),L 1 (b.Rows.map Ae),.own 1,.own 2],Zm x,Z3 x1]
def Nl(a b:Ze)(x:V2)(x1:XS)(c x2 y:V2)(x3 x4:Int):Rs:=EvL C [.blk 0,.seq ZpN,.fin 3 []] [0,1,2,6,16,17,18] ZpM ⟨[(0,.ptr 0 0),(1,Zq x2),(2,Zq y),(6,.own 3),(16,.own 1),(17,I x3),(18,I x4)],[[(0,.ptr 0 0),(1,.own 1),(2,.own 2)]],[.box [L 1 (a.Vars.map ic),L 1 (a.Rows.map Ae),L 1 (b.Vars.map ic),L 1 (b.Rows.map Ae),.own 1,.own 2],Zm x,Z3 x1,Zm c]⟩
def KN(a b:Ze)(x:V2)(x1:XS):Rs:=C 189 [.ptr 0 0] [.box [L 1 (a.Vars.map ic),L 1 (a.Rows.map Ae),L 1 (b.Vars.map ic),L 1 (b.Rows.map Ae),.own 1,.own 2],Zm x,Z3 x1]
def T5:Af (Zg 137 Tryz.f137):={ m:=_ }
def Zz3:Za:=Aa T5 32
def Zz4:Za:=Aa T5 44
def Zz5:Za:=Aa T5 49
def ZpO:Za:=BR T5 17 15 Zz3 27 Zz4 32 Zz5
def Zz6:Za:=Aa T5 50
def ZAE:Ab:=Zp T5 17 ZpO 50 Zz6
def Nm(a a1:Ze):Rs:=C 137 [Ap a.c,Ap a1.c] []
def Zz7:List Fr:=[.blk 0,.seq Zz6,.fin 0 [.cell 4 (some 2),.tmp 5]]
def Zz8:=lp C Zz7 [2,4,6,24,25,26] ZpO
def m7(a a1 b:Ze)(x:V2)(x1:XS)(x2 x3:Int):Rs:=Zz8 [.ptr 0 0,.ptr 1 0,.ptr 2 0,Wl x1,I x2,I x3] [Ag a.c,.box [.t .nil,.t .nil],.box [L 1 (a1.Vars.map ic),L 1 (a1.Rows.map Ae),L 1 (b.Vars.map ic),L 1 (b.Rows.map Ae),.own 3,.t .nil],Zm x]
def Zz9:=lp C (.blk 2::.seq Zz4::.blk 1::.seq Zz5::.loop [2,4,6,24,25,26] ZpO::Zz7) [2,4,6,8,24,25,26,31,32,33] Zz3
def m8(a a1 b:Ze)(x y:V2)(x1:XS)(x2 x3:Int)(x4:XS)(x5 x6:Int):Rs:=Zz9 [.ptr 0 0,.ptr 1 0,.ptr 2 0,Zq y,Wl x1,I x2,I x3,Wl x4,I x5,I x6] [Ag a.c,.box [.t .nil,.t .nil],.box [L 1 (a1.Vars.map ic),L 1 (a1.Rows.map Ae),L 1 (b.Vars.map ic),L 1 (b.Rows.map Ae),.own 3,.t .nil],Zm x]
def Nn(a a1 b:Ze)(x:V2)(x1:XS)(y:V2)(x2:XS)(x3 x4:Int)(x5:XS)(x6 x7:Int):Rs:=Zz9 [.ptr 0 0,.ptr 1 0,.ptr 2 0,Zq y,Wl x2,I x3,I x4,Wl x5,I x6,I x7] [Ag a.c,.box [.t .nil,.t .nil],.box [L 1 (a1.Vars.map ic),L 1 (a1.Rows.map Ae),L 1 (b.Vars.map ic),L 1 (b.Rows.map Ae),.own 3,.own 4],Zm x,Z3 x1]
def m9(a a1 b:Ze)(x:V2)(x1 x2:XS)(x3 x4:Int):Rs:=Zz8 [.ptr 0 0,.ptr 1 0,.ptr 2 0,Wl x2,I x3,I x4] [Ag a.c,.box [.t .nil,.t .nil],.box [L 1 (a1.Vars.map ic),L 1 (a1.Rows.map Ae),L 1 (b.Vars.map ic),L 1 (b.Rows.map Ae),.own 3,.own 4],Zm x,Z3 x1]
def ZAF:Ab:=AG (Zg 221 Tryz.f221)
def ZzA(a a1:V2)(a2:Int):Rs:=C 221 [Zq a,Zq a1,.iptr [.int .i64 a2] 0] []
def ZzB:Af (Zg 220 Tryz.f220):={ m:=_ }
def ZzC:Za:=Aa ZzB 7
def ZzD:Za:=Aa ZzB 23
def ZAG:Ab:=Zp ZzB 7 ZzC 23 ZzD
def ZzE(a:XS)(a1:Int):Rs:=C 220 [Wl a,.fn 221 [.iptr [.int .i64 a1] 0]] []
def nA(x:XS)(c i:Int):Rs:=lp C [.blk 0,.seq ZzD,.fin 0 [.tmp 4]] [0,1,5] ZzC [Wl x,.fn 221 [.iptr [.int .i64 c] 0],I i] []
def ZAH:Ab:=AG (Zg 190 Tryz.f190)
def T6(a:Ze)(a1:Int):Rs:=C 190 [Ap a.c,I a1] []
def T7:Af (Zg 139 Tryz.f139):={ m:=_ }
def ZzF:Za:=Aa T7 32
def ZzG:Za:=Aa T7 44
def ZzH:Za:=Aa T7 49
def ZpP:Za:=BR T7 17 15 ZzF 27 ZzG 32 ZzH
def ZzI:Za:=Aa T7 50
def ZAI:Ab:=Zp T7 17 ZpP 50 ZzI
def GR(a a1:Ze):Rs:=C 139 [Ap a.c,Ap a1.c] []
def ZzJ:List Fr:=[.blk 0,.seq ZzI,.fin 0 [.cell 4 (some 2),.tmp 5]]
def ZzK:=lp C ZzJ [3,4,6,24,25,26] ZpP
def nB(b a b1:Ze)(x:V2)(x1:XS)(x2 x3:Int):Rs:=ZzK [.ptr 0 0,.ptr 1 0,.ptr 2 0,Wl x1,I x2,I x3] [Ag b.c,.box [.t .nil,.t .nil],.box [L 1 (a.Vars.map ic),L 1 (a.Rows.map Ae),L 1 (b1.Vars.map ic),L 1 (b1.Rows.map Ae),.own 3,.t .nil],Zm x]
def ZzL:=lp C (.blk 2::.seq ZzG::.blk 1::.seq ZzH::.loop [3,4,6,24,25,26] ZpP::ZzJ) [3,4,6,8,24,25,26,31,32,33] ZzF
def nC(b a b1:Ze)(x x1:V2)(x2:XS)(x3 x4:Int)(x5:XS)(x6 x7:Int):Rs:=ZzL [.ptr 0 0,.ptr 1 0,.ptr 2 0,Zq x1,Wl x2,I x3,I x4,Wl x5,I x6,I x7] [Ag b.c,.box [.t .nil,.t .nil],.box [L 1 (a.Vars.map ic),L 1 (a.Rows.map Ae),L 1 (b1.Vars.map ic),L 1 (b1.Rows.map Ae),.own 3,.t .nil],Zm x]
def Np(b a b1:Ze)(x:V2)(x1:XS)(x2:V2)(x3:XS)(x4 x5:Int)(x6:XS)(x7 x8:Int):Rs:=ZzL [.ptr 0 0,.ptr 1 0,.ptr 2 0,Zq x2,Wl x3,I x4,I x5,Wl x6,I x7,I x8] [Ag b.c,.box [.t .nil,.t .nil],.box [L 1 (a.Vars.map ic),L 1 (a.Rows.map Ae),L 1 (b1.Vars.map ic),L 1 (b1.Rows.map Ae),.own 3,.own 4],Zm x,Z3 x1]
def nD(b a b1:Ze)(x:V2)(x1 x2:XS)(x3 x4:Int):Rs:=ZzK [.ptr 0 0,.ptr 1 0,.ptr 2 0,Wl x2,I x3,I x4] [Ag b.c,.box [.t .nil,.t .nil],.box [L 1 (a.Vars.map ic),L 1 (a.Rows.map Ae),L 1 (b1.Vars.map ic),L 1 (b1.Rows.map Ae),.own 3,.own 4],Zm x,Z3 x1]
def ZAJ:Ab:=AG (Zg 138 Tryz.f138)
def ZpQ(a a1:Ze)(a2:Int):Rs:=C 138 [Ap a.c,Ap a1.c,I a2] []
def ZpR:Af (Zg 71 Tryz.f71):={ m:=_ }
def ZAK:Za:=Aa ZpR 52
def ZzM:Za:=Aw ZpR 19 33 ZAK
def ZzN:Za:=Aa ZpR 62
def ZAL:Ab:=Zp ZpR 19 ZzM 62 ZzN
def Nq(a:Zj)(a1:Zc)(a2:Zr):Rs:=C 71 [Ap a.c,Ap a1.c,Ap a2.c] []
def Nr(db:Zj)(q:Zc)(cc:List Zf)(fr:Bool)(cd:List Ze)(x:List Zn)(x1 x2:Int):Rs:=lp C [.blk 0,.seq ZzN,.fin 0 [.tmp 6,.tmp 7,.tmp 8]] [3,4,9,11,32,33,34] ZzM [.ptr 0 0,.ptr 1 0,.own 2,.own 3,L 3 (x.map Zn.c),I x1,I x2] [Ag db.c,Ag q.c,Q5 cc,.arr 134 2 fr (cd.map Ze.c)]
def ZAM:Af (Zg 76 Tryz.f76):={ m:=_ }
def ZzO:Za:=Aa ZAM 14
def ZAN:Ab:=Vu ZAM 14 ZzO
def IB(a:Int):Rs:=C 76 [I a] []
def nE(n c:Int):Rs:=lp C [.blk 0,.fin 0 [.tmp 2]] [0,3] ZzO [I n,I c] []
def ZAO:Ab:=AG (Zg 140 Tryz.f140)
def Ns(a:Int):Rs:=C 140 [I a] []
def ZzP:Af (Zg 72 Tryz.f72):={ m:=_ }
def ZAP:Za:=Aa ZzP 18
def ZAQ:Za:=Aw ZzP 12 6 ZAP
def ZAR:Ab:=Vu ZzP 12 ZAQ
def GU(a:List Zf)(a1:List Ze)(a2:Int):Rs:=C 72 [KC a,L 2 (a1.map Ze.c),I a2] []
def ZAS:Ab:=AG (Zg 141 Tryz.f141)
def QE(a:Zy)(a1 a2 a3:Int):Rs:=C 141 [Ap a.c,I a1,I a2,I a3] []
def T8:Ab:=AG (Zg 73 Tryz.f73)
def Nt(a:Zt)(a1:Zr)(a2:List Zf)(a3:List Ze)(a4:Int):Rs:=C 73 [Ap a.c,Ap a1.c,KC a2,L 2 (a3.map Ze.c),I a4] []
def ZzQ:Af (Zg 74 Tryz.f74):={ m:=_ }
def ZzR:Za:=Aa ZzQ 7
def ZzS:Za:=Aa ZzQ 15
def ZAT:Ab:=Zp ZzQ 7 ZzR 15 ZzS
def W8(a:Zy)(a1 a2 a3:Int):Rs:=C 74 [Ap a.c,I a1,I a2,I a3] []
def nF(o:Zy)(cl cd cc k:Int):Rs:=lp C [.blk 0,.seq ZzS,.fin 0 [.tmp 8]] [1,2,3,4,9] ZzR [I cl,I cd,I cc,.ptr 0 0,I k] [Ag o.c]
def ZzT(x:XS):Rs:=C 193 [.own 0,.fn 194 []] [.arr 38 1 true (x.map Ae)]
def ZzU(x:XS):Rs:=C 195 [.own 0,.fn 196 []] [.arr 38 1 true (x.map Ae)]
def ZAU:Ab:=AG (Zg 145 Tryz.f145)
def ZpS(a:XS):Rs:=C 145 [Wl a] []
def ZAV:Ab:=AG (Zg 77 Tryz.f77)
def KO(a:Ze):Rs:=C 77 [Ap a.c] []
def nG:Af (Zg 39 Tryz.f39):={ m:=_ }
def QF:Za:=Aa nG 47
def nH:Za:=Aa nG 62
def ZpT:Za:=AJ nG 19 28 QF 43 nH
def T9:Za:=Aa nG 63
def ZAW:Ab:=Zp nG 19 ZpT 63 T9
def nI(a:Zt)(a1:Zj)(a2:Zc)(a3:Zr)(a4:Int):Rs:=C 39 [Ap a.c,Ap a1.c,Ap a2.c,Ap a3.c,I a4] []
def ZzV:=lp C [.blk 0,.seq T9,.fin 0 [.cellO 10 (some 6) [none,none,none,some (3,0),some (1,0),some (1,0)],.tmpO 11 [none]]] [4,5,8,10,12,13,15,47,48,49] ZpT
def Nu(m:Zt)(p:Zr)(cu:Bool)(cp co:Int)(cv:List Zf)(fr:Bool)(l:List Ze)(cn:Bool)(cl cc cd:Int)(x:List Zn)(x1 x2:Int):Rs:=ZzV [I cd,.ptr 0 0,.ptr 1 0,.ptr 2 0,.own 3,.own 4,.ptr 5 0,L 3 (x.map Zn.c),I x1,I x2] [Ag m.c,Ag p.c,.box [Bo cu,I cp,I co,.t .nil,.t .nil,.t .nil],Q5 cv,.arr 134 2 fr (l.map Ze.c),.box [Bo cn,I cl,I cc,.t .nil,.t .nil,.t .nil]]
def IC(m:Zt)(p:Zr)(cu:Bool)(cp co:Int)(cv:List Zf)(fr:Bool)(l:List Ze)(cn:Bool)(cl cc:Int)(x:List Zu)(cd:Int)(x1:List Zn)(x2 x3:Int):Rs:=ZzV [I cd,.ptr 0 0,.ptr 1 0,.ptr 2 0,.own 3,.own 4,.ptr 5 0,L 3 (x1.map Zn.c),I x2,I x3] [Ag m.c,Ag p.c,.box [Bo cu,I cp,I co,.t .nil,.t .nil,.t .nil],Q5 cv,.arr 134 2 fr (l.map Ze.c),.box [Bo cn,I cl,I cc,.own 6,.t .nil,.t .nil],.arr 85 3 true (x.map Zu.c)]
def ZAX:Ab:=AG (Zg 11 Tryz.f11)
def YA(a:Zt)(a1:Zj)(a2:Zc)(a3:Zr)(a4 a5:Int):Rs:=C 11 [.agg (a.c.map .t),.agg (a1.c.map .t),.agg (a2.c.map .t),.agg (a3.c.map .t),I a4,I a5] []
def ZAY:Af (Zg 63 Tryz.f63):={ m:=_ }
def ZAZ:Za:=Aa ZAY 20
def ZBa:Ab:=Vu ZAY 20 ZAZ
def ZpU(a:Box)(a1:Zu):Rs:=C 63 [Ap a.c,Ap a1.c] []
def ZpV:Af (Zg 26 Tryz.f26):={ m:=_ }
def ZBb:Za:=Aa ZpV 30
def ZzW:Za:=Aw ZpV 11 19 ZBb
def ZzX:Za:=Aa ZpV 31
def ZBc:Ab:=Zp ZpV 11 ZzW 31 ZzX
def ZpW(a:Box)(a1:List Zu):Rs:=C 26 [Ap a.c,L 3 (a1.map Zu.c)] []
def YB(x x1:V2)(n:Int)(x2:List Zu)(x3 x4:Int):Rs:=lp C [.blk 0,.seq ZzX,.fin 0 [.cell 4 (some 2),.tmp 5]] [4,6,7,14,15,16] ZzW [.ptr 0 0,.ptr 1 0,I n,L 3 (x2.map Zu.c),I x3,I x4] [.box [.t .nil,.t .nil],.box [.own 2,.own 3],Zm x,Zm x1]
def ZzY:Af (Zg 6 Tryz.f6):={ m:=_ }
def ZzZ:Za:=Aa ZzY 19
def Z0a:Za:=Aa ZzY 47
def ZBd:Ab:=Zp ZzY 19 ZzZ 47 Z0a
def nJ(a:Zt)(a1:Zj)(a2:Zc)(a3:Zr)(a4:Box)(a5:Int):Rs:=C 6 [.agg (a.c.map .t),.agg (a1.c.map .t),.agg (a2.c.map .t),.agg (a3.c.map .t),.agg (a4.c.map .t),I a5] []
def YC(m:Zt)(db:Zj)(q:Zc)(p:Zr)(x x1:V2)(cc cd i:Int):Rs:=lp C [.blk 0,.seq Z0a,.fin 0 [.cellO 12 (some 2) [some (1,0),some (1,0)],.tmpO 13 [none],.tmpO 14 [none]]] [5,6,7,8,9,12,15,16,17] ZzZ [I cc,.ptr 0 0,.ptr 1 0,.ptr 2 0,.ptr 3 0,.ptr 4 0,.ptr 5 0,I cd,I i] [Ag m.c,Ag db.c,Ag q.c,Ag p.c,.box [.t .nil,.t .nil],.box [.own 6,.own 7],Zm x,Zm x1]
def ZBe:Ab:=AG (Zg 123 Tryz.f123)
def ID(a:Zt)(a1:Int):Rs:=C 123 [Ap a.c,I a1] []
def ZBf:Ab:=AG (Zg 181 Tryz.f181)
def GV(a:Int):Rs:=C 181 [I a] []
def Z0b:Af (Zg 124 Tryz.f124):={ m:=_ }
def Z0c:Za:=Aa Z0b 15
def Z0d:Za:=Aa Z0b 31
def ZBg:Ab:=Zp Z0b 15 Z0c 31 Z0d
def IE(a:Zy):Rs:=C 124 [Ap a.c] []
def Nv(o:Zy)(i:Int):Rs:=lp C [.blk 0,.seq Z0d,.fin 0 [.tmp 2]] [1,3] Z0c [.ptr 0 0,I i] [Ag o.c]
def ZpX:Af (Zg 152 Tryz.f152):={ m:=_ }
def ZBh:Za:=Aa ZpX 30
def Z0e:Za:=Aw ZpX 17 13 ZBh
def Z0f:Za:=Aa ZpX 31
def ZBi:Ab:=Zp ZpX 17 Z0e 31 Z0f
def GX(a:Zy)(a1 a2 a3:Int):Rs:=C 152 [Ap a.c,I a1,I a2,I a3] []
def Nw(o:Zy)(l cc n i:Int):Rs:=lp C [.blk 0,.seq Z0f,.fin 0 [.tmp 8]] [1,2,4,9,10] Z0e [I l,I cc,.ptr 0 0,I n,I i] [Ag o.c]
def ZBj:Ab:=AG (Zg 182 Tryz.f182)
def Nx(a:Zy)(a1:V2):Rs:=C 182 [Ap a.c,Zq a1] []
end
