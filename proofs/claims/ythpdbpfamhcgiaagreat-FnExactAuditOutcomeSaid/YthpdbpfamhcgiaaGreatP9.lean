/-
  Parts of the proofs for this seat: D1.
-/
import Derived.Test.YthpdbpfamhcgiaaGreatP8
set_option linter.all false
set_option maxRecDepth 100000
set_option maxHeartbeats 4000000
set_option cbv.maxSteps 9999999
namespace Go.Proofs.YthpdbpfamhcgiaaGreat
open Go.AM
noncomputable section
def Z35:MFun:=mkF (Zi 162 Tryz.f162)
def ZT(a a1 a2:Int):Rs:=C 162 [I a,I a1,I a2] []
def Z36:MFun:=mkF (Zi 251 Tryz.f251)
def ZeR(a:YA):Rs:=C 251 [.t (.str a)] []
def Zrn:RawF (Zi 261 Tryz.f261):={ m:=_ }
def Zro:Zc:=cut0 Zrn 7
def Zrp:Zc:=cut0 Zrn 25
def Z37:MFun:=Z0 Zrn 7 Zro 25 Zrp
def VZ(a:V6)(a1:Int):Rs:=C 261 [Zw a,I a1] []
def Zij(s:V6)(v x x1:Int):Rs:=lp C [.blk 0,.seq Zrp,.fin 0 [.tmp 4]] [0,1,7,8] Zro [Zw s,I v,I x,I x1] []
def Z38:MFun:=mkF (Zi 200 Tryz.f200)
def UU(a:V6)(a1:Int):Rs:=C 200 [Zw a,I a1] []
def Zrq:RawF (Zi 331 Tryz.f331):={ m:=_ }
def Zrr:Zc:=cut0 Zrq 7
def Zrs:Zc:=cut0 Zrq 25
def Z39:MFun:=Z0 Zrq 7 Zrr 25 Zrs
def ZmN(a:List Bool)(a1:Bool):Rs:=C 331 [L 1 (a.map bc),Bo a1] []
def Zik(s:List Bool)(v:Bool)(x x1:Int):Rs:=lp C [.blk 0,.seq Zrs,.fin 0 [.tmp 4]] [0,1,7,8] Zrr [L 1 (s.map bc),Bo v,I x,I x1] []
def Z3A:MFun:=mkF (Zi 252 Tryz.f252)
def ZmO(a:List Bool)(a1:Bool):Rs:=C 252 [L 1 (a.map bc),Bo a1] []
def Zil:RawF (Zi 158 Tryz.f158):={ m:=_ }
def Zrt:Zc:=cut0 Zil 39
def Zru:Zc:=cut0 Zil 59
def ZmP:Zc:=cut2 Zil 17 22 Zrt 42 Zru
def Zrv:Zc:=cut0 Zil 60
def ZmQ:MFun:=Z0 Zil 17 ZmP 60 Zrv
def QF(a:Zf):Rs:=C 158 [gaO a.c] []
def ZmR:List Fr:=[.blk 0,.seq Zrv,.fin 0 [.tmp 2]]
def ZcE(q:Zf)(cc:List Bool)(x:List Ze)(x1 x2:Int):Rs:=lp C ZmR [1,3,23,24,25] ZmP [.ptr 0 0,.own 1,L 2 (x.map Ze.c),I x1,I x2] [gbO q.c,.arr 4 1 true (cc.map bc)]
def Zim(q:Zf)(cc:List Bool)(a:Ze)(x:List Ze)(x1 x2:Int)(x3:V6)(x4 x5:Int):Rs:=lp C (.blk 2::.blk 1::.seq Zru::.loop [1,3,23,24,25] ZmP::ZmR) [1,3,5,23,24,25,41,42,43] Zrt [.ptr 0 0,.own 1,.ptr 2 0,L 2 (x.map Ze.c),I x1,I x2,Zw x3,I x4,I x5] [gbO q.c,.arr 4 1 true (cc.map bc),gbO a.c]
def Zrw:RawF (Zi 283 Tryz.f283):={ m:=_ }
def Zrx:Zc:=cut0 Zrw 7
def Zry:Zc:=cut0 Zrw 25
def Z3B:MFun:=Z0 Zrw 7 Zrx 25 Zry
def ZcF(a:V6):Rs:=C 283 [Zw a] []
def Zin(c x:V6)(x1 x2:Int):Rs:=lp C [.blk 0,.seq Zry,.fin 0 [.tmp 2]] [0,5,6,7] Zrx [Zw c,Zw x,I x1,I x2] []
def Zrz:RawF (Zi 364 Tryz.f364):={ m:=_ }
def Zr0:Zc:=cut0 Zrz 15
def Zr1:Zc:=cut0 Zrz 33
def Z3C:MFun:=Z0 Zrz 15 Zr0 33 Zr1
def ZmS(a a1:V6):Rs:=C 364 [Zw a,Zw a1] []
def Zio(a b:V6)(x x1:Int):Rs:=lp C [.blk 0,.seq Zr1,.fin 0 [.tmp 4]] [0,1,12,13] Zr0 [Zw a,Zw b,I x,I x1] []
def Z3D:MFun:=mkF (Zi 302 Tryz.f302)
def ZmT(a:Box):Rs:=C 302 [gaO a.c] []
def Zr2:RawF (Zi 320 Tryz.f320):={ m:=_ }
def Zr3:Zc:=cut0 Zr2 9
def Zr4:Zc:=cut0 Zr2 21
def Z3E:MFun:=Z0 Zr2 9 Zr3 21 Zr4
def ZmU(a:Box):Rs:=C 320 [gaO a.c] []
def Zip(b:Box)(n x x1:Int):Rs:=lp C [.blk 0,.seq Zr4,.fin 0 [.tmp 2]] [1,3,7,8] Zr3 [.ptr 0 0,I n,I x,I x1] [gbO b.c]
def Z3F:MFun:=mkF (Zi 242 Tryz.f242)
def Ziq(a:Box):Rs:=C 242 [gaO a.c] []
def Z3G:MFun:=mkF (Zi 155 Tryz.f155)
def Vd(a:Zf):Rs:=C 155 [gaO a.c] []
def Zir:RawF (Zi 334 Tryz.f334):={ m:=_ }
def Zr5:Zc:=cut0 Zir 21
def Zr6:Zc:=cut0 Zir 39
def ZmV:Zc:=cut2 Zir 9 12 Zr5 30 Zr6
def Zr7:Zc:=cut0 Zir 40
def Z3H:MFun:=Z0 Zir 9 ZmV 40 Zr7
def Ki(a:Zf)(a1:Int):Rs:=C 334 [gaO a.c,I a1] []
def Zr8:List Fr:=[.blk 0,.seq Zr7,.fin 0 [.tmp 4]]
def ZcG(q:Zf)(cd:V6)(cc v:Int):Rs:=lp C Zr8 [1,2,5,6] ZmV [I cc,.ptr 0 0,.own 1,I v] [gbO q.c,Zy cd]
def Zis(q:Zf)(cd:V6)(cc v:Int)(x:List Ze)(x1 x2:Int):Rs:=lp C (.blk 2::.blk 1::.seq Zr6::.loop [1,2,5,6] ZmV::Zr8) [1,2,5,6,17,18,19] Zr5 [I cc,.ptr 0 0,.own 1,I v,L 2 (x.map Ze.c),I x1,I x2] [gbO q.c,Zy cd]
def ZmW:RawF (Zi 374 Tryz.f374):={ m:=_ }
def Z3I:Zc:=cut0 ZmW 24
def Zr9:Zc:=cut1 ZmW 9 15 Z3I
def ZrA:Zc:=cut0 ZmW 25
def Z3J:MFun:=Z0 ZmW 9 Zr9 25 ZrA
def Zbo(a a1:V6):Rs:=C 374 [Zw a,Zw a1] []
def ZeS(c b x:V6)(x1 x2:Int):Rs:=lp C [.blk 0,.seq ZrA,.fin 0 [.tmp 4]] [1,5,9,10,11] Zr9 [Zw b,.own 0,Zw x,I x1,I x2] [Zy c]
def Z3K:MFun:=mkF (Zi 350 Tryz.f350)
def ZcH(a:Zf)(a1:Zj)(a2:List Zo)(a3:V6):Rs:=C 350 [gaO a.c,gaO a1.c,L 4 (a2.map Zo.c),Zw a3] []
def ZmX:RawF (Zi 284 Tryz.f284):={ m:=_ }
def Z3L:Zc:=cut0 ZmX 52
def ZrB:Zc:=cut1 ZmX 19 33 Z3L
def ZrC:Zc:=cut0 ZmX 54
def Z3M:MFun:=Z0 ZmX 19 ZrB 54 ZrC
def KK(a:Zf)(a1:Zg):Rs:=C 284 [gaO a.c,gaO a1.c] []
def Zit(q:Zf)(cd:List Zo)(cc:V6)(x:List Zj)(x1 x2:Int):Rs:=lp C [.blk 0,.seq ZrC,.fin 0 [.tmp 4,.tmp 5]] [2,6,7,25,26,27] ZrB [.ptr 0 0,.own 1,.own 2,L 3 (x.map Zj.c),I x1,I x2] [gbO q.c,Kf cd,Zy cc]
def Z3N:MFun:=mkF (Zi 243 Tryz.f243)
def ZmY(a:Zf)(a1:Zg):Rs:=C 243 [gaO a.c,gaO a1.c] []
def ZrD:RawF (Zi 244 Tryz.f244):={ m:=_ }
def ZrE:Zc:=cut0 ZrD 7
def ZrF:Zc:=cut0 ZrD 25
def Z3O:MFun:=Z0 ZrD 7 ZrE 25 ZrF
def ZmZ(a:V6)(a1:Int):Rs:=C 244 [Zw a,I a1] []
def Ziu(l:V6)(n:Int)(x:V6)(x1 x2:Int):Rs:=lp C [.blk 0,.seq ZrF,.fin 0 [.tmp 4]] [0,1,7,8,9] ZrE [Zw l,I n,Zw x,I x1,I x2] []
def ZcI:RawF (Zi 153 Tryz.f153):={ m:=_ }
def ZrG:Zc:=cut0 ZcI 15
def ZrH:Zc:=cut0 ZcI 38
def ZrI:Zc:=cut0 ZcI 61
def ZrJ:Zc:=cut0 ZcI 79
def ZrK:Zc:=cut2 ZcI 56 5 ZrI 23 ZrJ
def ZrL:Zc:=cut2 ZcI 33 5 ZrH 23 ZrK
def Z3P:MFun:=Z0 ZcI 15 ZrG 33 ZrL
def ZcJ(a:Zf)(a1:ZM):Rs:=C 153 [gaO a.c,gaO a1.c] []
def Ziv(q:Zf)(b:ZM)(x:List Zg)(x1 x2:Int):Rs:=lp C [.blk 0,.seq ZrL,.fin 0 [.tmp 4]] [2,3,50,51,52] ZrG [.ptr 0 0,.ptr 1 0,L 1 (x.map Zg.c),I x1,I x2] [gbO q.c,gbO b.c]
def ZeT(b:ZM)(x:V6)(x1 x2:Int):Rs:=lp C [.blk 2,.seq ZrK,.fin 0 [.tmp 4]] [3,64,65,66] ZrH [.ptr 0 0,Zw x,I x1,I x2] [gbO b.c]
def ZeU(b:ZM)(x:V4)(x1 x2:Int):Rs:=lp C [.blk 4,.seq ZrJ,.fin 0 [.tmp 4]] [3,93,94,95] ZrI [.ptr 0 0,XT x,I x1,I x2] [gbO b.c]
def Z3Q:MFun:=mkF (Zi 245 Tryz.f245)
def ZeV(a:Zf)(a1:Int):Rs:=C 245 [gaO a.c,I a1] []
def Zna:RawF (Zi 321 Tryz.f321):={ m:=_ }
def Z3R:Zc:=cut0 Zna 26
def ZrM:Zc:=cut1 Zna 11 15 Z3R
def ZrN:Zc:=cut0 Zna 27
def Z3S:MFun:=Z0 Zna 11 ZrM 27 ZrN
def Znb(a:Zf)(a1:Int):Rs:=C 321 [gaO a.c,I a1] []
def ZeW(cd:V6)(cc cl:Int)(x:List Ze)(x1 x2:Int):Rs:=lp C [.blk 0,.seq ZrN,.fin 0 [.tmp 4]] [1,5,6,13,14,15] ZrM [I cc,.own 0,I cl,L 2 (x.map Ze.c),I x1,I x2] [Zy cd]
def Z3T:RawF (Zi 246 Tryz.f246):={ m:=_ }
def ZrO:Zc:=cut0 Z3T 14
def Z3U:MFun:=Kd Z3T 14 ZrO
def Zak(a:Zf)(a1:Int):Rs:=C 246 [gaO a.c,I a1] []
def Ziw(q:Zf)(cc cd:Int):Rs:=lp C [.blk 0,.fin 0 [.tmp 4]] [1,2,5] ZrO [I cc,.ptr 0 0,I cd] [gbO q.c]
def Z3V:MFun:=mkF (Zi 154 Tryz.f154)
def Zal(a:Zf)(a1:Int):Rs:=C 154 [gaO a.c,I a1] []
def Z3W:MFun:=mkF (Zi 205 Tryz.f205)
def Un(x:Zn):Rs:=C 205 [.ptr 0 0] [gbO x.c]
def Z3X:MFun:=mkF (Zi 375 Tryz.f375)
def Zix(x:Z8):Rs:=C 375 [.ptr 0 0] [gbO x.c]
def Ziy:RawF (Zi 322 Tryz.f322):={ m:=_ }
def ZrP:Zc:=cut0 Ziy 7
def ZrQ:Zc:=cut0 Ziy 30
def ZrR:Zc:=cut0 Ziy 48
def ZrS:Zc:=cut2 Ziy 25 5 ZrQ 23 ZrR
def Z3Y:MFun:=Z0 Ziy 7 ZrP 25 ZrS
def Vl(a:Z8):Rs:=C 322 [gaO a.c] []
def Qq(o:Z8)(x x1:Int):Rs:=lp C [.blk 0,.seq ZrS,.fin 0 [.tmp 2]] [1,7,8,9] ZrP [.ptr 0 0,.bsl 1 5,I x,I x1] [gbO o.c,.box [.ptr 0 0,.ptr 0 1,.ptr 0 2,.ptr 0 3,.ptr 0 4]]
def ZcK(o:Z8)(x:List Zx)(x1 x2:Int):Rs:=lp C [.blk 2,.seq ZrR,.fin 0 [.tmp 2]] [1,20,21,22] ZrQ [.ptr 0 0,L 2 (x.map Zx.c),I x1,I x2] [gbO o.c]
def ZcL:RawF (Zi 324 Tryz.f324):={ m:=_ }
def ZrT:Zc:=cut0 ZcL 33
def ZrU:Zc:=cut0 ZcL 43
def Znc:Zc:=cut2 ZcL 21 12 ZrT 22 ZrU
def ZrV:Zc:=cut0 ZcL 44
def Znd:Zc:=cut2 ZcL 9 12 Znc 35 ZrV
def ZrW:Zc:=cut0 ZcL 45
def Z3Z:MFun:=Z0 ZcL 9 Znd 45 ZrW
def UV:Rs:=C 324 [] []
def ZrX:List Fr:=[.blk 0,.seq ZrW,.fin 0 [.tmp 0]]
def ZeX(c:V4)(a:Int):Rs:=lp C ZrX [1,2] Znd [.own 0,I a] [ZI c]
def ZrY:List Fr:=.blk 2::.blk 1::.seq ZrV::.loop [1,2] Znd::ZrX
def ZcM(c:V4)(a b:Int):Rs:=lp C ZrY [1,2,3] Znc [.own 0,I a,I b] [ZI c]
def ZeY(cc:V4)(a b c:Int):Rs:=lp C (.blk 4::.blk 3::.seq ZrU::.loop [1,2,3] Znc::ZrY) [1,2,3,4] ZrT [.own 0,I a,I b,I c] [ZI cc]
def Z4a:MFun:=mkF (Zi 192 Tryz.f192)
def Uo(a:V6):Rs:=C 192 [Zw a] []
def Z4b:MFun:=mkF (Zi 282 Tryz.f282)
def QG(a:Int):Rs:=C 282 [I a] []
def Zne:RawF (Zi 299 Tryz.f299):={ m:=_ }
def Z4c:Zc:=cut0 Zne 24
def ZrZ:Zc:=cut1 Zne 9 15 Z4c
def Zsa:Zc:=cut0 Zne 25
def Z4d:MFun:=Z0 Zne 9 ZrZ 25 Zsa
def ZcN(a:Z8)(a1 a2 a3:Int):Rs:=C 299 [gaO a.c,I a1,I a2,I a3] []
def ZeZ(cd cc n:Int)(x:List Zx)(x1 x2:Int):Rs:=lp C [.blk 0,.seq Zsa,.fin 0 [.tmp 8]] [1,2,9,37,38,39] ZrZ [I cd,I cc,I n,L 2 (x.map Zx.c),I x1,I x2] []
def Z4e:MFun:=mkF (Zi 325 Tryz.f325)
def J7(a:Z8)(a1:V6):Rs:=C 325 [gaO a.c,Zw a1] []
def Zfa:RawF (Zi 323 Tryz.f323):={ m:=_ }
def Z4f:Zc:=cut0 Zfa 56
def Zsb:Zc:=cut1 Zfa 29 27 Z4f
def Zsc:Zc:=cut0 Zfa 57
def Znf:Zc:=cut2 Zfa 15 14 Zsb 42 Zsc
def Zsd:Zc:=cut0 Zfa 58
def Z4g:MFun:=Z0 Zfa 15 Znf 58 Zsd
def WW(a:Z8):Rs:=C 323 [gaO a.c] []
def Zse:List Fr:=[.blk 0,.seq Zsd,.fin 0 [.tmp 2,.tmp 3,.tmp 4]]
def Zbp(o:Z8)(x:V4)(x1 x2:Int):Rs:=lp C Zse [1,12,13,14] Znf [.ptr 0 0,.own 1,I x1,I x2] [gbO o.c,ZI x]
def Zam(o:Z8)(x:V4)(t:V6)(x1 x2 x3 x4:Int):Rs:=lp C (.blk 2::.blk 1::.seq Zsc::.loop [1,12,13,14] Znf::Zse) [1,6,12,13,14,19,20] Zsb [.ptr 0 0,Zw t,.own 1,I x1,I x2,I x3,I x4] [gbO o.c,ZI x]
def Ziz:RawF (Zi 247 Tryz.f247):={ m:=_ }
def Zsf:Zc:=cut0 Ziz 41
def Zsg:Zc:=cut0 Ziz 59
def Zng:Zc:=cut2 Ziz 7 34 Zsf 52 Zsg
def Zsh:Zc:=cut0 Ziz 60
def Z4h:MFun:=Z0 Ziz 7 Zng 60 Zsh
def Zfb(a:Zn):Rs:=C 247 [gaO a.c] []
def Zan:List Fr:=[.blk 0,.seq Zsh,.fin 0 [.tmp 2,.tmp 3,.tmp 4]]
def Ww(x:Zn)(x1 x2:Int):Rs:=lp C Zan [13,14,15] Zng [.bsl 0 5,I x1,I x2] [.box [.ptr 1 0,.ptr 1 6,.ptr 1 12,.ptr 1 18,.ptr 1 24],gbO x.c]
def KL:=lp C (.blk 2::.blk 1::.seq Zsg::.loop [13,14,15] Zng::Zan) [6,7,13,14,15,40,41,42] Zsf
def Zbq(o:Zn)(x:V4)(cc x1 x2 x3 x4:Int):Rs:=KL [.ptr 0 0,I cc,.bsl 1 5,I x1,I x2,.own 2,I x3,I x4] [gbO o.c,.box [.ptr 0 0,.ptr 0 6,.ptr 0 12,.ptr 0 18,.ptr 0 24],ZI x]
def Zbr(o:Zn)(x:V4)(cc x1 x2 x3 x4:Int):Rs:=KL [.ptr 0 6,I cc,.bsl 1 5,I x1,I x2,.own 2,I x3,I x4] [gbO o.c,.box [.ptr 0 0,.ptr 0 6,.ptr 0 12,.ptr 0 18,.ptr 0 24],ZI x]
def Zbs(o:Zn)(x:V4)(cc x1 x2 x3 x4:Int):Rs:=KL [.ptr 0 12,I cc,.bsl 1 5,I x1,I x2,.own 2,I x3,I x4] [gbO o.c,.box [.ptr 0 0,.ptr 0 6,.ptr 0 12,.ptr 0 18,.ptr 0 24],ZI x]
def Zbt(o:Zn)(x:V4)(cc x1 x2 x3 x4:Int):Rs:=KL [.ptr 0 18,I cc,.bsl 1 5,I x1,I x2,.own 2,I x3,I x4] [gbO o.c,.box [.ptr 0 0,.ptr 0 6,.ptr 0 12,.ptr 0 18,.ptr 0 24],ZI x]
def Zbu(o:Zn)(x:V4)(cc x1 x2 x3 x4:Int):Rs:=KL [.ptr 0 24,I cc,.bsl 1 5,I x1,I x2,.own 2,I x3,I x4] [gbO o.c,.box [.ptr 0 0,.ptr 0 6,.ptr 0 12,.ptr 0 18,.ptr 0 24],ZI x]
def Z4i:MFun:=mkF (Zi 156 Tryz.f156)
def Zao(a:Zn):Rs:=C 156 [gaO a.c] []
def Z4j:MFun:=mkF (Zi 71 Tryz.f71)
def Zi0(a:Zn)(a1:Zf)(a2:ZM):Rs:=C 71 [gaO a.c,gaO a1.c,gaO a2.c] []
def Zsi:RawF (Zi 358 Tryz.f358):={ m:=_ }
def Zsj:Zc:=cut0 Zsi 7
def Zsk:Zc:=cut0 Zsi 25
def Z4k:MFun:=Z0 Zsi 7 Zsj 25 Zsk
def ZcO(a:V6)(a1:Int):Rs:=C 358 [Zw a,I a1] []
def Zi1(cc:V6)(c:Int)(x:V6)(x1 x2:Int):Rs:=lp C [.blk 0,.seq Zsk,.fin 0 [.tmp 4]] [0,1,7,8,9] Zsj [Zw cc,I c,Zw x,I x1,I x2] []
def Z4l:MFun:=mkF (Zi 459 Tryz.f459)
def Znh(a:Int):Rs:=C 459 [I a] []
def Z4m:MFun:=mkF (Zi 448 Tryz.f448)
def Zi2(a a1:Int):Rs:=C 448 [I a,I a1] []
def Zsl:RawF (Zi 412 Tryz.f412):={ m:=_ }
def Zsm:Zc:=cut0 Zsl 7
def Zsn:Zc:=cut0 Zsl 37
def Z4n:MFun:=Z0 Zsl 7 Zsm 37 Zsn
def Zso(a a1:V6):Rs:=C 412 [Zw a,Zw a1] []
def Zi3(s1 s2 x:V6)(x1 x2:Int):Rs:=lp C [.blk 0,.seq Zsn,.fin 0 [.tmp 4]] [0,1,9,10,11] Zsm [Zw s1,Zw s2,Zw x,I x1,I x2] []
def Z4o:MFun:=mkF (Zi 361 Tryz.f361)
def Zni(a a1:V6):Rs:=C 361 [Zw a,Zw a1] []
def Zsp:RawF (Zi 384 Tryz.f384):={ m:=_ }
def Zsq:Zc:=cut0 Zsp 7
def Zsr:Zc:=cut0 Zsp 23
def Z4p:MFun:=Z0 Zsp 7 Zsq 23 Zsr
def Znj(a:V4):Rs:=C 384 [XT a] []
def Zi4(c:V4)(i:Int):Rs:=lp C [.blk 0,.seq Zsr,.fin 0 [.tmp 2]] [0,3] Zsq [XT c,I i] []
def Zss:RawF (Zi 332 Tryz.f332):={ m:=_ }
def Zst:Zc:=cut0 Zss 7
def Zsu:Zc:=cut0 Zss 25
def Z4q:MFun:=Z0 Zss 7 Zst 25 Zsu
def Zbv(a:Zt):Rs:=C 332 [gaO a.c] []
def Zi5(t:Zt)(x:V4)(x1 x2:Int):Rs:=lp C [.blk 0,.seq Zsu,.fin 0 [.tmp 2]] [1,6,7,8] Zst [.ptr 0 0,XT x,I x1,I x2] [gbO t.c]
def Zsv:RawF (Zi 255 Tryz.f255):={ m:=_ }
def Zsw:Zc:=cut0 Zsv 7
def Zsx:Zc:=cut0 Zsv 25
def Z4r:MFun:=Z0 Zsv 7 Zsw 25 Zsx
def ZcP(a:Zp):Rs:=C 255 [gaO a.c] []
def Zi6(db:Zp)(x:List Zt)(x1 x2:Int):Rs:=lp C [.blk 0,.seq Zsx,.fin 0 [.tmp 2]] [1,6,7,8] Zsw [.ptr 0 0,L 3 (x.map Zt.c),I x1,I x2] [gbO db.c]
def Znk:RawF (Zi 416 Tryz.f416):={ m:=_ }
def Z4s:Zc:=cut0 Znk 22
def Zsy:Zc:=cut1 Znk 9 13 Z4s
def Zsz:Zc:=cut0 Znk 23
def Z4t:MFun:=Z0 Znk 9 Zsy 23 Zsz
def KM(a:Int):Rs:=C 416 [I a] []
def Zi7(c:V6)(cc i:Int):Rs:=lp C [.blk 0,.seq Zsz,.fin 0 [.tmp 2]] [0,3,4] Zsy [I cc,.own 0,I i] [Zy c]
def Zs0:RawF (Zi 376 Tryz.f376):={ m:=_ }
def Zs1:Zc:=cut0 Zs0 17
def Zs2:Zc:=cut0 Zs0 27
def Z4u:MFun:=Z0 Zs0 17 Zs1 27 Zs2
def Zfc(a:Int):Rs:=C 376 [I a] []
def ZcQ(cc:V4)(c cd:Int):Rs:=lp C [.blk 0,.seq Zs2,.fin 0 [.tmp 2]] [0,3,4] Zs1 [I c,.own 0,I cd] [ZI cc]
def Zs3:RawF (Zi 410 Tryz.f410):={ m:=_ }
def Zs4:Zc:=cut0 Zs3 7
def Zs5:Zc:=cut0 Zs3 25
def Z4v:MFun:=Z0 Zs3 7 Zs4 25 Zs5
def Zap(a:V6)(a1:Int):Rs:=C 410 [Zw a,I a1] []
def Zfd(c:V6)(cc:Int)(x:V6)(x1 x2:Int):Rs:=lp C [.blk 0,.seq Zs5,.fin 0 [.tmp 4]] [0,1,7,8,9] Zs4 [Zw c,I cc,Zw x,I x1,I x2] []
def Zs6:RawF (Zi 336 Tryz.f336):={ m:=_ }
def Zs7:Zc:=cut0 Zs6 9
def Zs8:Zc:=cut0 Zs6 29
def Z4w:MFun:=Z0 Zs6 9 Zs7 29 Zs8
def Up(a a1:V6):Rs:=C 336 [Zw a,Zw a1] []
def Zi8(c cc x:V6)(x1 x2:Int):Rs:=lp C [.blk 0,.seq Zs8,.fin 0 [.tmp 4,.tmp 5]] [0,6,10,11,12] Zs7 [Zw cc,.own 0,Zw x,I x1,I x2] [Zy c]
def Zs9:RawF (Zi 333 Tryz.f333):={ m:=_ }
def Znl:Zc:=cut0 Zs9 9
def Znm:Zc:=cut0 Zs9 21
def ZsA:MFun:=Z0 Zs9 9 Znl 21 Znm
def Zbw(a:V4):Rs:=C 333 [XT a] []
def Zi9:=lp C [.blk 0,.seq Znm,.fin 0 [.tmp 2]] [3,7,8,9] Znl
def Zfe(c x:V4)(x1 x2:Int):Rs:=Zi9 [.own 0,XT x,I x1,I x2] [ZI c]
def ZiA(x:V4):Rs:=C 360 [.own 0,.fn 361 []] [.arr 40 1 true (x.map isc)]
def ZiB(x:V4):Rs:=C 362 [.own 0,.fn 363 []] [.arr 40 1 true (x.map isc)]
def ZsB:MFun:=mkF (Zi 301 Tryz.f301)
def J8(a:V4):Rs:=C 301 [XT a] []
def ZsC:RawF (Zi 164 Tryz.f164):={ m:=_ }
def ZsD:Zc:=cut0 ZsC 15
def ZsE:Zc:=cut0 ZsC 33
def Z4x:MFun:=Z0 ZsC 15 ZsD 33 ZsE
def Kj(a a1:V6):Rs:=C 164 [Zw a,Zw a1] []
def ZiC(s1 s2:V6)(x x1:Int):Rs:=lp C [.blk 0,.seq ZsE,.fin 0 [.tmp 4]] [0,1,12,13] ZsD [Zw s1,Zw s2,I x,I x1] []
def Zbx:RawF (Zi 377 Tryz.f377):={ m:=_ }
def ZsF:Zc:=cut0 Zbx 17
def Z4y:Zc:=cut0 Zbx 69
def ZsG:Zc:=cut1 Zbx 54 15 Z4y
def ZsH:Zc:=cut0 Zbx 70
def Znn:Zc:=cut2 Zbx 40 14 ZsG 30 ZsH
def ZsI:Zc:=cut0 Zbx 71
def ZsJ:Zc:=cut2 Zbx 31 9 Znn 40 ZsI
def Z4z:MFun:=Z0 Zbx 17 ZsF 31 ZsJ
def Zby(a:Zt)(a1:V6):Rs:=C 377 [gaO a.c,Zw a1] []
def Zaq(all:V4)(c:V6)(x:V4)(x1 x2:Int):Rs:=lp C [.blk 0,.seq ZsJ,.fin 0 [.tmp 4,.tmp 5]] [1,6,29,30,31] ZsF [Zw c,.own 0,XT x,I x1,I x2] [ZI all]
def Zno:List Fr:=[.blk 2,.seq ZsI,.fin 0 [.tmp 4,.tmp 5]]
def ZcR(all cc:V4)(c:V6)(x x1:Int):Rs:=lp C Zno [6,11,12,51,52,53] Znn [.own 0,.own 1,.own 2,.own 1,I x,I x1] [ZI all,ZI cc,Zy c]
def Zff(all cc:V4)(c:V6)(i:Int)(g:V6)(x x1 x2 x3:Int):Rs:=lp C (.blk 4::.blk 3::.seq ZsH::.loop [6,11,12,51,52,53] Znn::Zno) [6,11,12,13,14,51,52,53,58,59,60] ZsG [.own 0,.own 1,.own 2,I i,Zw g,.own 1,I x,I x1,.own 0,I x2,I x3] [ZI all,ZI cc,Zy c]
def ZsK:RawF (Zi 326 Tryz.f326):={ m:=_ }
def ZsL:Zc:=cut0 ZsK 17
def ZsM:Zc:=cut0 ZsK 31
def Z40:MFun:=Z0 ZsK 17 ZsL 31 ZsM
def ZcS(a:Zt):Rs:=C 326 [gaO a.c] []
def Znp:=lp C [.blk 0,.seq ZsM,.fin 0 [.cell 2 (some 4)]] [1,2,3,22,23,24] ZsL
def Z41(t:Zt)(cp:YA)(cn cd:Int)(co:YA)(cl cc x x1:Int):Rs:=Znp [.ptr 0 0,.ptr 1 0,.ptr 2 0,.t .nil,I x,I x1] [gbO t.c,.box [.t (.str cp),I cn,I cd,.t .nil],.box [.t (.str co),I cl,I cc,.t .nil]]
def ZsN(t:Zt)(cp:YA)(cn cd:Int)(co:YA)(cl cc:Int)(x:V4)(x1 x2:Int):Rs:=Znp [.ptr 0 0,.ptr 1 0,.ptr 2 0,.own 3,I x1,I x2] [gbO t.c,.box [.t (.str cp),I cn,I cd,.t .nil],.box [.t (.str co),I cl,I cc,.t .nil],ZI x]
def ZiD(t:Zt)(cp:YA)(cn cd:Int)(co:YA)(cl cc:Int)(fr:Bool)(x:List ZC)(x1:V4)(x2 x3:Int):Rs:=Znp [.ptr 0 0,.ptr 1 0,.ptr 2 0,.own 4,I x2,I x3] [gbO t.c,.box [.t (.str cp),I cn,I cd,.t .nil],.box [.t (.str co),I cl,I cc,.own 3],.arr 389 3 fr (x.map ZC.c),ZI x1]
def ZsO:RawF (Zi 248 Tryz.f248):={ m:=_ }
def ZsP:Zc:=cut0 ZsO 17
def ZsQ:Zc:=cut0 ZsO 29
def Z42:MFun:=Z0 ZsO 17 ZsP 29 ZsQ
def ZiE(a:Zp)(a1:Int):Rs:=C 248 [gaO a.c,I a1] []
def ZsR:=lp C [.blk 0,.seq ZsQ,.fin 0 [.cellO 4 (some 2) [none,some (4,0)],.tmpO 5 [none]]] [4,6,21,22,23] ZsP
def ZsS(cd cc:Int)(x:List Zt)(x1 x2:Int):Rs:=ZsR [.ptr 0 0,.ptr 1 0,L 3 (x.map Zt.c),I x1,I x2] [.box [I cd,.t .nil],.box [I cc,.t .nil]]
def ZcT(cd cc:Int)(fr:Bool)(x:List Z5)(x1:List Zt)(x2 x3:Int):Rs:=ZsR [.ptr 0 0,.ptr 1 0,L 3 (x1.map Zt.c),I x2,I x3] [.box [I cd,.t .nil],.box [I cc,.own 2],.arr 314 4 fr (x.map Z5.c)]
def Z43:MFun:=mkF (Zi 260 Tryz.f260)
def ZsT(a a1:V6):Rs:=C 260 [Zw a,Zw a1] []
def ZsU:RawF (Zi 259 Tryz.f259):={ m:=_ }
def ZsV:Zc:=cut0 ZsU 15
def ZsW:Zc:=cut0 ZsU 35
def Z44:MFun:=Z0 ZsU 15 ZsV 35 ZsW
def ZsX(a a1:V4):Rs:=C 259 [XT a,XT a1,.fn 260 []] []
def ZiF(s2 x:V4)(x1 x2:Int):Rs:=lp C [.blk 0,.seq ZsW,.fin 0 [.tmp 6]] [1,2,15,16,17] ZsV [XT s2,.fn 260 [],XT x,I x1,I x2] []
def Z45:MFun:=mkF (Zi 165 Tryz.f165)
def Zfg(a a1:V4):Rs:=C 165 [XT a,XT a1] []
def Z46:MFun:=mkF (Zi 379 Tryz.f379)
def Znq(a a1:ZC):Rs:=C 379 [gaO a.c,gaO a1.c] []
def ZsY:RawF (Zi 378 Tryz.f378):={ m:=_ }
def ZsZ:Zc:=cut0 ZsY 15
def Zta:Zc:=cut0 ZsY 35
def Z47:MFun:=Z0 ZsY 15 ZsZ 35 Zta
def Ztb(a a1:List ZC):Rs:=C 378 [L 3 (a.map ZC.c),L 3 (a1.map ZC.c),.fn 379 []] []
def ZiG(s2 x:List ZC)(x1 x2:Int):Rs:=lp C [.blk 0,.seq Zta,.fin 0 [.tmp 6]] [1,2,15,16,17] ZsZ [L 3 (s2.map ZC.c),.fn 379 [],L 3 (x.map ZC.c),I x1,I x2] []
def Z48:MFun:=mkF (Zi 328 Tryz.f328)
def Znr(a a1:Z5):Rs:=C 328 [gaO a.c,gaO a1.c] []
def Ztc:RawF (Zi 327 Tryz.f327):={ m:=_ }
def Ztd:Zc:=cut0 Ztc 15
def Zte:Zc:=cut0 Ztc 35
def Z49:MFun:=Z0 Ztc 15 Ztd 35 Zte
def Ztf(a a1:List Z5):Rs:=C 327 [L 4 (a.map Z5.c),L 4 (a1.map Z5.c),.fn 328 []] []
def ZiH(s2 x:List Z5)(x1 x2:Int):Rs:=lp C [.blk 0,.seq Zte,.fin 0 [.tmp 6]] [1,2,15,16,17] Ztd [L 4 (s2.map Z5.c),.fn 328 [],L 4 (x.map Z5.c),I x1,I x2] []
def Z4A:MFun:=mkF (Zi 249 Tryz.f249)
def ZiI(a a1:ZN):Rs:=C 249 [gaO a.c,gaO a1.c] []
def Z4B:MFun:=mkF (Zi 254 Tryz.f254)
def Zns(a:Zt)(a1:YA):Rs:=C 254 [gaO a.c,.iptr [.str a1] 0] []
def Ztg:RawF (Zi 253 Tryz.f253):={ m:=_ }
def Zth:Zc:=cut0 Ztg 7
def Zti:Zc:=cut0 Ztg 25
def Z4C:MFun:=Z0 Ztg 7 Zth 25 Zti
def Ztj(a:List Zt)(a1:YA):Rs:=C 253 [L 3 (a.map Zt.c),.fn 254 [.iptr [.str a1] 0]] []
def ZiJ(s:List Zt)(f:YA)(x x1:Int):Rs:=lp C [.blk 0,.seq Zti,.fin 0 [.tmp 4]] [0,1,7,8] Zth [L 3 (s.map Zt.c),.fn 254 [.iptr [.str f] 0],I x,I x1] []
def Z4D:MFun:=mkF (Zi 256 Tryz.f256)
def Ztk(a:Zt):Rs:=C 256 [gaO a.c] []
def Z4E:MFun:=mkF (Zi 159 Tryz.f159)
def Vm(a:Zp)(a1:YA):Rs:=C 159 [gaO a.c,.t (.str a1)] []
def Z4F:MFun:=mkF (Zi 380 Tryz.f380)
def Zfh(a:Zp)(a1:ZA):Rs:=C 380 [gaO a.c,gaO a1.c] []
def Z4G:Rs:=C 164 [.t .nil,.t .nil] []
def Z4H(a:V6):Rs:=C 164 [.t .nil,Zw a] []
def Z4I(a:V6):Rs:=C 164 [Zw a,.t .nil] []
def ZiK:RawF (Zi 381 Tryz.f381):={ m:=_ }
def Ztl:Zc:=cut0 ZiK 31
def Ztm:Zc:=cut0 ZiK 53
def Znt:Zc:=cut2 ZiK 17 14 Ztl 36 Ztm
def Ztn:Zc:=cut0 ZiK 54
def Z4J:MFun:=Z0 ZiK 17 Znt 54 Ztn
def ZiL(a:Zp)(a1:ZA):Rs:=C 381 [gaO a.c,gaO a1.c] []
def Zto:List Fr:=[.blk 0,.seq Ztn,.fin 0 [.tmp 4]]
def Ztp:=lp C Zto [3,5,27,28,29] Znt
def Z4K(f:ZA)(cd:YA)(cc x x1:Int):Rs:=Ztp [.ptr 0 0,.ptr 1 0,.t .nil,I x,I x1] [gbO f.c,.box [.t (.str cd),I cc,.t .nil]]
def Zfi(f:ZA)(t:Zt)(x:V4)(x1 x2:Int):Rs:=Ztp [.ptr 0 0,.ptr 1 0,XT x,I x1,I x2] [gbO f.c,gbO t.c]
def Zbz(f:ZA)(t:Zt)(k:Int)(y:V6)(x:V4)(x1 x2:Int)(x3:V4)(x4 x5:Int):Rs:=lp C (.blk 2::.blk 1::.seq Ztm::.loop [3,5,27,28,29] Znt::Zto) [3,5,7,8,27,28,29,37,38,39] Ztl [.ptr 0 0,.ptr 1 0,I k,Zw y,XT x,I x1,I x2,XT x3,I x4,I x5] [gbO f.c,gbO t.c]
def Z4L:MFun:=mkF (Zi 329 Tryz.f329)
def Znu(a:Zp)(a1:ZA):Rs:=C 329 [gaO a.c,gaO a1.c] []
def Z4M:MFun:=mkF (Zi 382 Tryz.f382)
def ZiM(a:Zp)(a1:Z7):Rs:=C 382 [gaO a.c,gaO a1.c] []
def KN(x:V6):Rs:=C 351 [.own 0] [.arr 3 1 true (x.map ic)]
def Zb0(x:V6):Rs:=C 407 [.own 0] [.arr 3 1 true (x.map ic)]
def Zfj:RawF (Zi 383 Tryz.f383):={ m:=_ }
def Ztq:Zc:=cut0 Zfj 21
def Z4N:Zc:=cut0 Zfj 57
def Ztr:Zc:=cut1 Zfj 40 17 Z4N
def Zts:Zc:=cut0 Zfj 58
def Ztt:Zc:=cut2 Zfj 33 7 Ztr 25 Zts
def Z4O:MFun:=Z0 Zfj 21 Ztq 33 Ztt
def ZiN(a:Zp)(a1:Z7):Rs:=C 383 [gaO a.c,gaO a1.c] []
def ZiO:=lp C [.blk 0,.seq Ztt,.fin 0 [.tmp 4]] [3,5,9,36,37,38] Ztq
def Z4P(x:Z7)(cl:YA)(cc:Int)(cd:V6)(x1 x2:Int):Rs:=ZiO [.ptr 0 0,.ptr 1 0,.own 2,.t .nil,I x1,I x2] [gbO x.c,.box [.t (.str cl),I cc,.t .nil],Zy cd]
def Z4Q(x:Z7)(cl:YA)(cc:Int)(cd:V6)(x1:V4)(x2 x3:Int):Rs:=ZiO [.ptr 0 0,.ptr 1 0,.own 2,.own 3,I x2,I x3] [gbO x.c,.box [.t (.str cl),I cc,.t .nil],Zy cd,ZI x1]
def Z4R(x:Z7)(cl:YA)(cc:Int)(x1:V4)(cd:V6)(x2 x3:Int):Rs:=ZiO [.ptr 0 0,.ptr 1 0,.own 3,.t .nil,I x2,I x3] [gbO x.c,.box [.t (.str cl),I cc,.own 2],ZI x1,Zy cd]
def ZiP(x:Z7)(cl:YA)(cc:Int)(x1:V4)(cd:V6)(x2:V4)(x3 x4:Int):Rs:=ZiO [.ptr 0 0,.ptr 1 0,.own 3,.own 4,I x3,I x4] [gbO x.c,.box [.t (.str cl),I cc,.own 2],ZI x1,Zy cd,ZI x2]
def Zfk(x:Z7)(cc cd:V6)(x1:V4)(x2 x3:Int):Rs:=lp C [.blk 2,.seq Zts,.fin 0 [.tmp 4]] [3,9,12,53,54,55] Ztr [.ptr 0 0,.own 1,.own 2,.own 3,I x2,I x3] [gbO x.c,Zy cc,Zy cd,ZI x1]
def Z4S:MFun:=mkF (Zi 330 Tryz.f330)
def Znv(a:Zp)(a1:Z7):Rs:=C 330 [gaO a.c,gaO a1.c] []
def ZiQ:RawF (Zi 250 Tryz.f250):={ m:=_ }
def Ztu:Zc:=cut0 ZiQ 7
def Ztv:Zc:=cut0 ZiQ 30
def Ztw:Zc:=cut0 ZiQ 48
def Ztx:Zc:=cut2 ZiQ 25 5 Ztv 23 Ztw
def Z4T:MFun:=Z0 ZiQ 7 Ztu 25 Ztx
def ZiR(a:Zp)(a1:List ZA)(a2:List Z7):Rs:=C 250 [gaO a.c,L 3 (a1.map ZA.c),Zbi a2] []
def ZiS(db:Zp)(cc:List ZA)(cd:List Z7)(x:List ZA)(x1 x2:Int):Rs:=lp C [.blk 0,.seq Ztx,.fin 0 [.tmp 6]] [1,2,3,11,12,13] Ztu [L 3 (cc.map ZA.c),Zbi cd,.ptr 0 0,L 3 (x.map ZA.c),I x1,I x2] [gbO db.c]
def ZiT(db:Zp)(cc:List ZA)(cd x:List Z7)(x1 x2:Int):Rs:=lp C [.blk 2,.seq Ztw,.fin 0 [.tmp 6]] [1,2,3,22,23,24] Ztv [L 3 (cc.map ZA.c),Zbi cd,.ptr 0 0,Zbi x,I x1,I x2] [gbO db.c]
def Z4U:MFun:=mkF (Zi 157 Tryz.f157)
def Znw(a:Xr):Rs:=C 157 [gaO a.c] []
def Z4V:MFun:=mkF (Zi 72 Tryz.f72)
def ZiU(a:Xr)(a1:Int):Rs:=C 72 [gaO a.c,I a1] []
def Zty:RawF (Zi 73 Tryz.f73):={ m:=_ }
def Ztz:Zc:=cut0 Zty 15
def Zt0:Zc:=cut0 Zty 35
def Z4W:MFun:=Z0 Zty 15 Ztz 35 Zt0
def Qr(a:Zp)(a1:Zf):Rs:=C 73 [gaO a.c,gaO a1.c] []
def ZiV(db:Zp)(x:List Ze)(x1 x2:Int):Rs:=lp C [.blk 0,.seq Zt0,.fin 0 [.tmp 4]] [2,13,14,15] Ztz [.ptr 0 0,L 2 (x.map Ze.c),I x1,I x2] [gbO db.c]
def Zt1(a:V6)(a1:Int):Rs:=C 335 [Zw a,I a1] []
def Zt2:Rs:=C 333 [.t .nil] []
def Zt3(c:V4)(x x1:Int):Rs:=Zi9 [.own 0,.t .nil,I x,I x1] [ZI c]
def Znx:Rs:=C 301 [.t .nil] []
def QH:RawF (Zi 257 Tryz.f257):={ m:=_ }
def Zt4:Zc:=cut0 QH 69
def Zt5:Zc:=cut0 QH 83
def Zt6:Zc:=cut0 QH 88
def Zny:Zc:=cut3 QH 50 19 Zt4 33 Zt5 38 Zt6
def Zt7:Zc:=cut0 QH 89
def Znz:Zc:=cut2 QH 36 14 Zny 53 Zt7
def Zt8:Zc:=cut0 QH 90
def Zt9:Zc:=cut0 QH 91
def Zn0:Zc:=cut3 QH 11 25 Znz 79 Zt8 80 Zt9
def ZtA:Zc:=cut0 QH 99
def ZtB:Zc:=cut0 QH 113
def ZtC:Zc:=cut2 QH 92 7 ZtA 21 ZtB
def Z4X:MFun:=Z0 QH 11 Zn0 92 ZtC
def Zfl(a:Zp)(a1:Zf)(a2:Int):Rs:=C 257 [gaO a.c,gaO a1.c,I a2] []
def ZtD:List Fr:=[.blk 0,.seq ZtC,.fin 0 [.cell 6 (some 2)]]
def ZcU(db:Zp)(cd:V6)(x:V4)(cc:Int)(x1:List Ze)(x2 x3:Int):Rs:=lp C ZtD [2,3,6,7,8,36,37,38] Zn0 [I cc,.ptr 0 0,.ptr 1 0,.own 2,.own 3,L 2 (x1.map Ze.c),I x2,I x3] [gbO db.c,.box [.t .nil,.t .nil],Zy cd,ZI x]
def ZtE:List Fr:=.blk 2::.seq Zt8::.blk 1::.seq Zt9::.loop [2,3,6,7,8,36,37,38] Zn0::ZtD
def ZtF:=lp C ZtE [2,3,6,7,10,11,13,36,37,38,56,57,58] Znz
def Z4Y(db:Zp)(co:V6)(a:Ze)(cd:YA)(cc:Int)(cn x:V4)(cl:Int)(x1:List Ze)(x2 x3 x4 x5:Int):Rs:=ZtF [I cl,.ptr 0 0,.ptr 1 0,.own 2,.ptr 3 0,.ptr 4 0,.own 5,L 2 (x1.map Ze.c),I x2,I x3,.own 6,I x4,I x5] [gbO db.c,.box [.t .nil,.t .nil],Zy co,gbO a.c,.box [.t (.str cd),I cc,.t .nil],ZI cn,ZI x]
def Zfm(db:Zp)(co:V6)(a:Ze)(cd:YA)(cc:Int)(x cn x1:V4)(cl:Int)(x2:List Ze)(x3 x4 x5 x6:Int):Rs:=ZtF [I cl,.ptr 0 0,.ptr 1 0,.own 2,.ptr 3 0,.ptr 4 0,.own 6,L 2 (x2.map Ze.c),I x3,I x4,.own 7,I x5,I x6] [gbO db.c,.box [.t .nil,.t .nil],Zy co,gbO a.c,.box [.t (.str cd),I cc,.own 5],ZI x,ZI cn,ZI x1]
def ZtG:=lp C [.blk 8,.seq ZtB,.fin 0 [.cell 6 (some 2)]] [6,7,22,117,118,119] ZtA
def ZiW(c:V6)(x:V4)(x1 x2:Int):Rs:=ZtG [.ptr 0 0,.own 1,.ptr 2 0,.own 3,I x1,I x2] [.box [.t .nil,.t .nil],Zy c,.box [.own 1,.t .nil],ZI x]
def ZtH:List Fr:=.blk 4::.blk 3::.seq Zt7::.loop [2,3,6,7,10,11,13,36,37,38,56,57,58] Znz::ZtE
def Zfn(db:Zp)(cp:V6)(a:Ze)(cl:YA)(cd:Int)(x co x1:V4)(cn:Int)(cc:V6)(x2:List Ze)(x3 x4 x5 x6 x7 x8:Int):Rs:=lp C ZtH [2,3,6,7,10,11,13,15,36,37,38,56,57,58,63,64,65] Zny [I cn,.ptr 0 0,.ptr 1 0,.own 2,.ptr 3 0,.ptr 4 0,.own 6,Zw cc,L 2 (x2.map Ze.c),I x3,I x4,.own 7,I x5,I x6,.own 5,I x7,I x8] [gbO db.c,.box [.t .nil,.t .nil],Zy cp,gbO a.c,.box [.t (.str cl),I cd,.own 5],ZI x,ZI co,ZI x1]
def ZcV(c:V6)(x x1:V4)(x2 x3:Int):Rs:=ZtG [.ptr 0 0,.own 1,.ptr 2 0,.own 4,I x2,I x3] [.box [.t .nil,.t .nil],Zy c,.box [.own 1,.own 3],ZI x,ZI x1]
def ZiX(db:Zp)(cp:V6)(a:Ze)(cl:YA)(cd:Int)(x co:V4)(x1:V6)(x2:V4)(cn:Int)(cc cu:V6)(ok:Bool)(x3:List Ze)(x4 x5 x6 x7 x8 x9:Int)(cv:V6)(cy cz:Int):Rs:=lp C (.blk 6::.seq Zt5::.blk 5::.seq Zt6::.loop [2,3,6,7,10,11,13,15,36,37,38,56,57,58,63,64,65] Zny::ZtH) [2,3,6,7,10,11,13,15,17,18,19,36,37,38,56,57,58,63,64,65,72,73,74] Zt4 [I cn,.ptr 0 0,.ptr 1 0,.own 2,.ptr 3 0,.ptr 4 0,.own 6,Zw cc,Zw cu,.own 7,Bo ok,L 2 (x3.map Ze.c),I x4,I x5,.own 8,I x6,I x7,.own 5,I x8,I x9,Zw cv,I cy,I cz] [gbO db.c,.box [.t .nil,.t .nil],Zy cp,gbO a.c,.box [.t (.str cl),I cd,.own 5],ZI x,ZI co,Zy x1,ZI x2]
def Z4Z:MFun:=mkF (Zi 160 Tryz.f160)
def Zn1(a:Zp)(a1:Zf)(a2:Int):Rs:=C 160 [gaO a.c,gaO a1.c,I a2] []
def Z5a:MFun:=mkF (Zi 74 Tryz.f74)
def ZiY(a:Zp)(a1:Zf):Rs:=C 74 [gaO a.c,gaO a1.c] []
def ZtI:RawF (Zi 161 Tryz.f161):={ m:=_ }
def ZtJ:Zc:=cut0 ZtI 9
def ZtK:Zc:=cut0 ZtI 21
def Z5b:MFun:=Z0 ZtI 9 ZtJ 21 ZtK
def Zn2(a:ZM):Rs:=C 161 [gaO a.c] []
def ZiZ(n:Int)(x:V4)(x1 x2:Int):Rs:=lp C [.blk 0,.seq ZtK,.fin 0 [.tmp 2]] [3,7,8,9] ZtJ [I n,XT x,I x1,I x2] []
def ZtL:RawF (Zi 258 Tryz.f258):={ m:=_ }
def ZtM:Zc:=cut0 ZtL 5
def ZtN:Zc:=cut0 ZtL 13
def Z5c:MFun:=Z0 ZtL 5 ZtM 13 ZtN
def Zar(a a1:Int):Rs:=C 258 [I a,I a1] []
def Zfo(a b:Int):Rs:=lp C [.blk 0,.seq ZtN,.fin 0 [.tmp 4]] [0,1] ZtM [I a,I b] []
def Z5d:MFun:=mkF (Zi 168 Tryz.f168)
def J9(a:XO):Rs:=C 168 [gaO a.c] []
def Z5e:RawF (Zi 163 Tryz.f163):={ m:=_ }
def Z5f:Zc:=cut0 Z5e 16
def Z5g:MFun:=Kd Z5e 16 Z5f
def Zfp(a a1:Int):Rs:=C 163 [I a,I a1] []
def Z5h:MFun:=mkF (Zi 75 Tryz.f75)
def Zja(a:ZM):Rs:=C 75 [gaO a.c] []
def Z5i:MFun:=mkF (Zi 76 Tryz.f76)
def Zjb(a a1:ZW):Rs:=C 76 [gaO a.c,gaO a1.c] []
def ZtO:RawF (Zi 77 Tryz.f77):={ m:=_ }
def ZtP:Zc:=cut0 ZtO 9
def ZtQ:Zc:=cut0 ZtO 29
def Z5j:MFun:=Z0 ZtO 9 ZtP 29 ZtQ
def Zfq(a:List ZR):Rs:=C 77 [UQ a] []
def Zfr(c:List ZR)(n:Int)(x:List ZR)(x1 x2:Int):Rs:=lp C [.blk 0,.seq ZtQ,.fin 0 [.tmp 2]] [0,3,6,7,8] ZtP [UQ c,I n,UQ x,I x1,I x2] []
def Z5k:MFun:=mkF (Zi 100 Tryz.f100)
def Zn3(a a1:Int):Rs:=C 100 [I a,I a1] []
def Z5l:MFun:=mkF (Zi 166 Tryz.f166)
def Zn4(a:ZM)(a1:List ZR)(a2:Int):Rs:=C 166 [gaO a.c,UQ a1,I a2] []
def ZtR:RawF (Zi 78 Tryz.f78):={ m:=_ }
def ZtS:Zc:=cut0 ZtR 15
def ZtT:Zc:=cut0 ZtR 33
def Z5m:MFun:=Z0 ZtR 15 ZtS 33 ZtT
def Zfs(a:Zf)(a1:ZM)(a2:List ZR):Rs:=C 78 [gaO a.c,gaO a1.c,UQ a2] []
def Zjc(b:ZM)(cc:List ZR)(x x1:Int):Rs:=lp C [.blk 0,.seq ZtT,.fin 0 [.tmp 6]] [2,4,18,19] ZtS [UQ cc,.ptr 0 0,I x,I x1] [gbO b.c]
def Zft:RawF (Zi 285 Tryz.f285):={ m:=_ }
def ZtU:Zc:=cut0 Zft 40
def ZtV:Zc:=cut0 Zft 52
def ZtW:Zc:=cut0 Zft 53
def Zn5:Zc:=cut3 Zft 23 17 ZtU 29 ZtV 30 ZtW
def ZtX:Zc:=cut0 Zft 54
def Z5n:MFun:=Z0 Zft 23 Zn5 54 ZtX
def Zjd(a:Zp)(a1:Zf)(a2:Int):Rs:=C 285 [gaO a.c,gaO a1.c,I a2] []
def ZtY:List Fr:=[.blk 0,.seq ZtX,.fin 0 [.cell 6 (some 2),.tmp 7]]
def Zn6:=lp C ZtY [6,8,11,51,52,53] Zn5
def Z5o(a:Ze)(x:V6)(x1 x2:Int):Rs:=Zn6 [.ptr 0 0,.ptr 1 0,.ptr 2 0,.t .nil,I x1,I x2] [.box [.t .nil,.t .nil],gbO a.c,.box [.own 3,.t .nil],Zy x]
def ZtZ(a:Ze)(x:V6)(x1:V4)(x2 x3:Int):Rs:=Zn6 [.ptr 0 0,.ptr 1 0,.ptr 2 0,.own 4,I x2,I x3] [.box [.t .nil,.t .nil],gbO a.c,.box [.own 3,.t .nil],Zy x,ZI x1]
def Zua:=lp C (.blk 2::.seq ZtV::.blk 1::.seq ZtW::.loop [6,8,11,51,52,53] Zn5::ZtY) [6,8,11,13,14,51,52,53,59,60,61] ZtU
def Zje(a:Ze)(x x1:V6)(x2:V4)(cc:V6)(x3 x4 x5 x6:Int):Rs:=Zua [.ptr 0 0,.ptr 1 0,.ptr 2 0,Zw cc,.own 4,.own 5,I x3,I x4,.own 3,I x5,I x6] [.box [.t .nil,.t .nil],gbO a.c,.box [.own 3,.t .nil],Zy x,Zy x1,ZI x2]
def ZcW(a:Ze)(x:V6)(x1 x2:V4)(x3 x4:Int):Rs:=Zn6 [.ptr 0 0,.ptr 1 0,.ptr 2 0,.own 5,I x3,I x4] [.box [.t .nil,.t .nil],gbO a.c,.box [.own 3,.own 4],Zy x,ZI x1,ZI x2]
def Zjf(a:Ze)(x:V6)(x1:V4)(x2:V6)(x3:V4)(cc:V6)(x4 x5 x6 x7:Int):Rs:=Zua [.ptr 0 0,.ptr 1 0,.ptr 2 0,Zw cc,.own 5,.own 6,I x4,I x5,.own 3,I x6,I x7] [.box [.t .nil,.t .nil],gbO a.c,.box [.own 3,.own 4],Zy x,ZI x1,Zy x2,ZI x3]
def Z5p:MFun:=mkF (Zi 359 Tryz.f359)
def Zub(a:V6):Rs:=C 359 [Zw a] []
def Zuc:RawF (Zi 300 Tryz.f300):={ m:=_ }
def Zud:Zc:=cut0 Zuc 7
def Zue:Zc:=cut0 Zuc 25
def Z5q:MFun:=Z0 Zuc 7 Zud 25 Zue
def QI(a:Zm):Rs:=C 300 [gaO a.c] []
def Zjg(s:Zm)(x:V4)(x1 x2:Int):Rs:=lp C [.blk 0,.seq Zue,.fin 0 [.tmp 2]] [1,6,7,8] Zud [.ptr 0 0,XT x,I x1,I x2] [gbO s.c]
def Z5r:MFun:=mkF (Zi 353 Tryz.f353)
def KO(x:Int)(a a1:V6):Rs:=C 353 [Zw a,Zw a1,.ptr 0 0] [.box [I x]]
def Zn7:RawF (Zi 439 Tryz.f439):={ m:=_ }
def Zuf:Zc:=cut0 Zn7 16
def Zug:Zc:=cut0 Zn7 26
def Zn8:Zc:=cut2 Zn7 4 12 Zuf 22 Zug
def Z5s:MFun:=Kd Zn7 4 Zn8
def Zfu(fr:Bool)(x:V4)(x1 a a1:Int):Rs:=C 439 [.own 0,I a,I a1,.fn 353 [.ptr 1 0]] [.arr 40 1 fr (x.map isc),.box [I x1]]
def Zas(fr:Bool)(c:V4)(x a b i:Int):Rs:=EvL C [.blk 0,.fin 2 []] [0,1,2,3,8] Zn8 ⟨[(0,.own 0),(1,I a),(2,I b),(3,.fn 353 [.ptr 1 0]),(8,I i)],[[(0,.own 0),(1,.ptr 1 0)]],[.arr 40 1 fr (c.map isc),.box [I x]]⟩
def ZcX(fr:Bool)(c:V4)(x a b i j:Int):Rs:=EvL C [.blk 2,.blk 1,.seq Zug,.loop [0,1,2,3,8] Zn8,.blk 0,.fin 2 []] [0,1,2,3,8,9] Zuf ⟨[(0,.own 0),(1,I a),(2,I b),(3,.fn 353 [.ptr 1 0]),(8,I i),(9,I j)],[[(0,.own 0),(1,.ptr 1 0)]],[.arr 40 1 fr (c.map isc),.box [I x]]⟩
def Z5t:RawF (Zi 467 Tryz.f467):={ m:=_ }
def Zuh:Zc:=cut0 Z5t 4
def Z5u:MFun:=Kd Z5t 4 Zuh
def ZcY(fr:Bool)(x:V4)(x1 a a1 a2:Int):Rs:=C 467 [.own 0,I a,I a1,I a2,.fn 353 [.ptr 1 0]] [.arr 40 1 fr (x.map isc),.box [I x1]]
def ZcZ(fr:Bool)(c:V4)(x a b n i:Int):Rs:=EvL C [.blk 0,.fin 2 []] [0,1,2,3,10] Zuh ⟨[(0,.own 0),(1,I a),(2,I b),(3,I n),(10,I i)],[[(0,.own 0),(1,.ptr 1 0)]],[.arr 40 1 fr (c.map isc),.box [I x]]⟩
def Zui:RawF (Zi 460 Tryz.f460):={ m:=_ }
def Zuj:Zc:=cut0 Zui 7
def Zuk:Zc:=cut0 Zui 23
def Z5v:MFun:=Z0 Zui 7 Zuj 23 Zuk
def Zjh(fr:Bool)(x:V4)(x1 a a1 a2:Int):Rs:=C 460 [.own 0,I a,I a1,I a2,.fn 353 [.ptr 1 0]] [.arr 40 1 fr (x.map isc),.box [I x1]]
def Zb1(fr:Bool)(c:V4)(x m i j:Int):Rs:=EvL C [.blk 0,.seq Zuk,.fin 2 []] [0,2,4,10,11] Zuj ⟨[(0,.own 0),(2,I m),(4,.fn 353 [.ptr 1 0]),(10,I i),(11,I j)],[[(0,.own 0),(1,.ptr 1 0)]],[.arr 40 1 fr (c.map isc),.box [I x]]⟩
end
