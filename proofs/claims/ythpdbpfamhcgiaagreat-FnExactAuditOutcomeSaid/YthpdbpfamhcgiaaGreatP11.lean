/-
  Parts of the proofs for this seat: D3.
-/
import Derived.Test.YthpdbpfamhcgiaaGreatP8
set_option linter.all false
set_option maxRecDepth 100000
set_option maxHeartbeats 4000000
set_option cbv.maxSteps 9999999
namespace Go.Proofs.YthpdbpfamhcgiaaGreat
open Go.AM
noncomputable section
def ZfU:RawF (Zi 280 Tryz.f280):={ m:=_ }
def Z6H:Zc:=cut0 ZfU 35
def Z6I:Zc:=cut1 ZfU 27 8 Z6H
def Zoi:Zc:=cut1 ZfU 11 16 Z6I
def Zwv:Zc:=cut0 ZfU 43
def Zoj:Zc:=cut1 ZfU 37 6 Zwv
def Zww:MFun:=Z0 ZfU 11 Zoi 37 Zoj
def ZfV(a:V4)(a1:V6):Rs:=C 280 [XT a,Zw a1] []
def Zok:=lp C [.blk 0,.seq Zoj,.fin 0 [.tmp 4]] [0,1,5,6,7] Zoi
def ZfW(cc c:V4)(cl:V6)(cd:Bool)(i:Int):Rs:=Zok [XT c,Zw cl,.own 0,Bo cd,I i] [ZI cc]
def Za6:RawF (Zi 367 Tryz.f367):={ m:=_ }
def Zwx:Zc:=cut0 Za6 19
def Z6J:Zc:=cut0 Za6 66
def Zwy:Zc:=cut1 Za6 51 15 Z6J
def Zwz:Zc:=cut0 Za6 67
def Zw0:Zc:=cut0 Za6 68
def Zol:Zc:=cut3 Za6 36 15 Zwy 31 Zwz 32 Zw0
def Zw1:Zc:=cut0 Za6 69
def Zw2:Zc:=cut2 Za6 31 5 Zol 38 Zw1
def Z6K:MFun:=Z0 Za6 19 Zwx 31 Zw2
def Zka(a:Zt)(a1:V6):Rs:=C 367 [gaO a.c,Zw a1] []
def Zkb(t:Zt)(cd:V4)(cc cl:V6)(i:Int):Rs:=lp C [.blk 0,.seq Zw2,.fin 0 [.tmp 4,.tmp 5]] [1,2,6,7,8] Zwx [Zw cl,.ptr 0 0,.own 1,.own 2,I i] [gbO t.c,ZI cd,Zy cc]
def Zw3:List Fr:=[.blk 2,.seq Zw1,.fin 0 [.tmp 4,.tmp 5]]
def ZfX(t:Zt)(cd:V4)(cc cl:V6)(k:Int):Rs:=lp C Zw3 [1,2,6,7,11] Zol [Zw cl,.ptr 0 0,.own 1,.own 2,I k] [gbO t.c,ZI cd,Zy cc]
def Zkc(t:Zt)(cd:V4)(cc cl:V6)(k n i:Int):Rs:=lp C (.blk 4::.seq Zwz::.blk 3::.seq Zw0::.loop [1,2,6,7,11] Zol::Zw3) [1,2,6,7,11,12,13] Zwy [Zw cl,.ptr 0 0,.own 1,.own 2,I k,I n,I i] [gbO t.c,ZI cd,Zy cc]
def Zw4:RawF (Zi 307 Tryz.f307):={ m:=_ }
def Zw5:Zc:=cut0 Zw4 19
def Zw6:Zc:=cut0 Zw4 31
def Z6L:MFun:=Z0 Zw4 19 Zw5 31 Zw6
def Zb9(a:Zt):Rs:=C 307 [gaO a.c] []
def Zw7:=lp C [.blk 0,.seq Zw6,.fin 0 [.cell 2 (some 4)]] [1,2,3,4,5] Zw5
def Zw8(t:Zt)(cp:YA)(cn cd:Int)(co:YA)(cl cc:Int)(l:V4)(i:Int):Rs:=Zw7 [.ptr 0 0,.ptr 1 0,.ptr 2 0,.own 3,I i] [gbO t.c,.box [.t (.str cp),I cn,I cd,.t .nil],.box [.t (.str co),I cl,I cc,.t .nil],ZI l]
def Zkd(t:Zt)(cp:YA)(cn cd:Int)(co:YA)(cl cc:Int)(fr:Bool)(x:List ZC)(l:V4)(i:Int):Rs:=Zw7 [.ptr 0 0,.ptr 1 0,.ptr 2 0,.own 4,I i] [gbO t.c,.box [.t (.str cp),I cn,I cd,.t .nil],.box [.t (.str co),I cl,I cc,.own 3],.arr 389 3 fr (x.map ZC.c),ZI l]
def Zw9:RawF (Zi 224 Tryz.f224):={ m:=_ }
def ZwA:Zc:=cut0 Zw9 17
def ZwB:Zc:=cut0 Zw9 29
def Z6M:MFun:=Z0 Zw9 17 ZwA 29 ZwB
def Zke(a:Zp)(a1:Int):Rs:=C 224 [gaO a.c,I a1] []
def ZwC:=lp C [.blk 0,.seq ZwB,.fin 0 [.cellO 4 (some 2) [none,some (4,0)],.tmpO 5 [none]]] [2,4,6,7] ZwA
def ZwD(d:Zp)(cd cc i:Int):Rs:=ZwC [.ptr 0 0,.ptr 1 0,.ptr 2 0,I i] [gbO d.c,.box [I cd,.t .nil],.box [I cc,.t .nil]]
def Zd7(d:Zp)(cd cc:Int)(fr:Bool)(x:List Z5)(i:Int):Rs:=ZwC [.ptr 0 0,.ptr 1 0,.ptr 2 0,I i] [gbO d.c,.box [I cd,.t .nil],.box [I cc,.own 3],.arr 314 4 fr (x.map Z5.c)]
def Zkf:RawF (Zi 308 Tryz.f308):={ m:=_ }
def ZwE:Zc:=cut0 Zkf 39
def ZwF:Zc:=cut0 Zkf 55
def Zom:Zc:=cut2 Zkf 15 24 ZwE 40 ZwF
def ZwG:Zc:=cut0 Zkf 56
def Z6N:MFun:=Z0 Zkf 15 Zom 56 ZwG
def Zon(a a1:Z5):Rs:=C 308 [gaO a.c,gaO a1.c] []
def ZwH:List Fr:=[.blk 0,.seq ZwG,.fin 0 [.tmp 4]]
def ZfY(a b:Z5)(i:Int):Rs:=lp C ZwH [2,3,5] Zom [.ptr 0 0,.ptr 1 0,I i] [gbO a.c,gbO b.c]
def Zkg(a b:Z5)(x y:ZC)(i k:Int):Rs:=lp C (.blk 2::.blk 1::.seq ZwF::.loop [2,3,5] Zom::ZwH) [2,3,5,6,7,8] ZwE [.ptr 0 0,.ptr 1 0,I i,.ptr 2 0,.ptr 3 0,I k] [gbO a.c,gbO b.c,gbO x.c,gbO y.c]
def ZwI:RawF (Zi 225 Tryz.f225):={ m:=_ }
def ZwJ:Zc:=cut0 ZwI 15
def ZwK:Zc:=cut0 ZwI 31
def Z6O:MFun:=Z0 ZwI 15 ZwJ 31 ZwK
def Zkh(a a1:ZN):Rs:=C 225 [gaO a.c,gaO a1.c] []
def Zki(a b:ZN)(i:Int):Rs:=lp C [.blk 0,.seq ZwK,.fin 0 [.tmp 4]] [2,3,5] ZwJ [.ptr 0 0,.ptr 1 0,I i] [gbO a.c,gbO b.c]
def ZwL:RawF (Zi 229 Tryz.f229):={ m:=_ }
def ZwM:Zc:=cut0 ZwL 9
def ZwN:Zc:=cut0 ZwL 19
def Z6P:MFun:=Z0 ZwL 9 ZwM 19 ZwN
def Zkj(a:Zt):Rs:=C 229 [gaO a.c] []
def ZwO:=lp C [.blk 0,.seq ZwN,.fin 0 [.cell 2 (some 3)]] [1,2,3,4] ZwM
def ZwP(t:Zt)(cn:YA)(cd:Int)(cl:YA)(cc i:Int):Rs:=ZwO [.ptr 0 0,.ptr 1 0,.ptr 2 0,I i] [gbO t.c,.box [.t (.str cn),I cd,.t .nil],.box [.t (.str cl),I cc,.t .nil]]
def Zkk(t:Zt)(cn:YA)(cd:Int)(cl:YA)(cc:Int)(x:V4)(i:Int):Rs:=ZwO [.ptr 0 0,.ptr 1 0,.ptr 2 0,I i] [gbO t.c,.box [.t (.str cn),I cd,.t .nil],.box [.t (.str cl),I cc,.own 3],ZI x]
def ZwQ:RawF (Zi 130 Tryz.f130):={ m:=_ }
def ZwR:Zc:=cut0 ZwQ 7
def ZwS:Zc:=cut0 ZwQ 23
def Z6Q:MFun:=Z0 ZwQ 7 ZwR 23 ZwS
def WX(a:Zp)(a1:YA):Rs:=C 130 [gaO a.c,.t (.str a1)] []
def Zkl(d:Zp)(cd:YA)(cc:Int)(cl:YA)(i:Int):Rs:=lp C [.blk 0,.seq ZwS,.fin 0 [.cell 4 (some 3),.tmp 5]] [1,2,4,6] ZwR [.t (.str cl),.ptr 0 0,.ptr 1 0,I i] [gbO d.c,.box [.t (.str cd),I cc,.t .nil]]
def Zoo(cc:YA)(c:Int):Rs:=C 311 [.agg [.t (.str cc),I c,.t .nil]] []
def Zkm(cc:YA)(c:Int)(a:V6):Rs:=C 414 [.agg [.t (.str cc),I c,.t .nil],Zw a] []
def ZwT:RawF (Zi 136 Tryz.f136):={ m:=_ }
def ZwU:Zc:=cut0 ZwT 7
def ZwV:Zc:=cut0 ZwT 23
def Z6R:MFun:=Z0 ZwT 7 ZwU 23 ZwV
def QM(a:V6)(a1:Int):Rs:=C 136 [Zw a,I a1] []
def ZfZ(l:V6)(x i:Int):Rs:=lp C [.blk 0,.seq ZwV,.fin 0 [.tmp 4]] [0,1,5] ZwU [Zw l,I x,I i] []
def Z6S:MFun:=mkF (Zi 368 Tryz.f368)
def Zga(a:Zp)(a1:ZA):Rs:=C 368 [gaO a.c,gaO a1.c] []
def Zkn:RawF (Zi 369 Tryz.f369):={ m:=_ }
def ZwW:Zc:=cut0 Zkn 23
def ZwX:Zc:=cut0 Zkn 41
def Zop:Zc:=cut2 Zkn 9 14 ZwW 32 ZwX
def ZwY:Zc:=cut0 Zkn 42
def Z6T:MFun:=Z0 Zkn 9 Zop 42 ZwY
def Zoq(a:Zp)(a1:ZA):Rs:=C 369 [gaO a.c,gaO a1.c] []
def ZwZ:List Fr:=[.blk 0,.seq ZwY,.fin 0 [.tmp 4]]
def Zxa:=lp C ZwZ [2,3,5,7] Zop
def Zxb(d:Zp)(f:ZA)(cd:YA)(cc k:Int):Rs:=Zxa [.ptr 0 0,.ptr 1 0,.ptr 2 0,I k] [gbO d.c,gbO f.c,.box [.t (.str cd),I cc,.t .nil]]
def Zgb(d:Zp)(f:ZA)(cd:YA)(cc:Int)(x:V4)(k:Int):Rs:=Zxa [.ptr 0 0,.ptr 1 0,.ptr 2 0,I k] [gbO d.c,gbO f.c,.box [.t (.str cd),I cc,.own 3],ZI x]
def ZbA(d:Zp)(f:ZA)(cd:YA)(cc:Int)(x:V4)(y:V6)(k i:Int):Rs:=lp C (.blk 2::.blk 1::.seq ZwX::.loop [2,3,5,7] Zop::ZwZ) [2,3,5,7,8,10] ZwW [.ptr 0 0,.ptr 1 0,.ptr 2 0,I k,.own 4,I i] [gbO d.c,gbO f.c,.box [.t (.str cd),I cc,.own 3],ZI x,Zy y]
def Z6U:MFun:=mkF (Zi 309 Tryz.f309)
def Zko(a:Zp)(a1:ZA):Rs:=C 309 [gaO a.c,gaO a1.c] []
def Z6V:MFun:=mkF (Zi 370 Tryz.f370)
def Zkp(a:Zp)(a1:Z7):Rs:=C 370 [gaO a.c,gaO a1.c] []
def ZbB:RawF (Zi 371 Tryz.f371):={ m:=_ }
def Zxc:Zc:=cut0 ZbB 38
def Zxd:Zc:=cut0 ZbB 53
def Zxe:Zc:=cut0 ZbB 63
def Zxf:Zc:=cut2 ZbB 48 5 Zxd 15 Zxe
def Zor:Zc:=cut0 ZbB 68
def Zkq:Zc:=cut3 ZbB 21 17 Zxc 27 Zxf 47 Zor
def Zxg:Zc:=cut0 ZbB 69
def Z6W:MFun:=Z0 ZbB 21 Zkq 69 Zxg
def Zxh(a:Zp)(a1:Z7):Rs:=C 371 [gaO a.c,gaO a1.c] []
def Zos:List Fr:=[.blk 0,.seq Zxg,.fin 0 [.tmp 4]]
def Zkr:=lp C Zos [3,5,6,8,10] Zkq
def KT(x:Z7)(co:V6)(cn:YA)(cd:Int)(cl:YA)(cc v:Int):Rs:=Zkr [.ptr 0 0,.own 1,.ptr 2 0,.ptr 3 0,I v] [gbO x.c,Zy co,.box [.t (.str cn),I cd,.t .nil],.box [.t (.str cl),I cc,.t .nil]]
def KU(x:Z7)(co:V6)(cn:YA)(cd:Int)(cl:YA)(cc:Int)(x1:V4)(v:Int):Rs:=Zkr [.ptr 0 0,.own 1,.ptr 2 0,.ptr 3 0,I v] [gbO x.c,Zy co,.box [.t (.str cn),I cd,.t .nil],.box [.t (.str cl),I cc,.own 4],ZI x1]
def KV(x:Z7)(co:V6)(cn:YA)(cd:Int)(x1:V4)(cl:YA)(cc v:Int):Rs:=Zkr [.ptr 0 0,.own 1,.ptr 2 0,.ptr 4 0,I v] [gbO x.c,Zy co,.box [.t (.str cn),I cd,.own 3],ZI x1,.box [.t (.str cl),I cc,.t .nil]]
def KW(x:Z7)(co:V6)(cn:YA)(cd:Int)(x1:V4)(cl:YA)(cc:Int)(x2:V4)(v:Int):Rs:=Zkr [.ptr 0 0,.own 1,.ptr 2 0,.ptr 4 0,I v] [gbO x.c,Zy co,.box [.t (.str cn),I cd,.own 3],ZI x1,.box [.t (.str cl),I cc,.own 5],ZI x2]
def Zks:=lp C (.blk 2::.seq Zxf::.blk 1::.seq Zor::.loop [3,5,6,8,10] Zkq::Zos) [3,5,6,8,10,11,12,13] Zxc
def Zkt(x:Z7)(cp:V6)(cn:YA)(cd:Int)(cl:YA)(cc v:Int)(co cu:Bool)(i:Int):Rs:=Zks [.ptr 0 0,.own 1,.ptr 2 0,.ptr 3 0,I v,Bo co,Bo cu,I i] [gbO x.c,Zy cp,.box [.t (.str cn),I cd,.t .nil],.box [.t (.str cl),I cc,.t .nil]]
def Zku(x:Z7)(cp:V6)(cn:YA)(cd:Int)(cl:YA)(cc:Int)(x1:V4)(v:Int)(co cu:Bool)(i:Int):Rs:=Zks [.ptr 0 0,.own 1,.ptr 2 0,.ptr 3 0,I v,Bo co,Bo cu,I i] [gbO x.c,Zy cp,.box [.t (.str cn),I cd,.t .nil],.box [.t (.str cl),I cc,.own 4],ZI x1]
def Zkv(x:Z7)(cp:V6)(cn:YA)(cd:Int)(x1:V4)(cl:YA)(cc v:Int)(co cu:Bool)(i:Int):Rs:=Zks [.ptr 0 0,.own 1,.ptr 2 0,.ptr 4 0,I v,Bo co,Bo cu,I i] [gbO x.c,Zy cp,.box [.t (.str cn),I cd,.own 3],ZI x1,.box [.t (.str cl),I cc,.t .nil]]
def Zkw(x:Z7)(cp:V6)(cn:YA)(cd:Int)(x1:V4)(cl:YA)(cc:Int)(x2:V4)(v:Int)(co cu:Bool)(i:Int):Rs:=Zks [.ptr 0 0,.own 1,.ptr 2 0,.ptr 4 0,I v,Bo co,Bo cu,I i] [gbO x.c,Zy cp,.box [.t (.str cn),I cd,.own 3],ZI x1,.box [.t (.str cl),I cc,.own 5],ZI x2]
def Zkx:=lp C (.blk 4::.seq Zxe::.blk 1::.seq Zor::.loop [3,5,6,8,10] Zkq::Zos) [3,5,6,8,10,11,12,14] Zxd
def Zgc(x:Z7)(cp:V6)(cn:YA)(cd:Int)(cl:YA)(cc v:Int)(co cu:Bool)(i:Int):Rs:=Zkx [.ptr 0 0,.own 1,.ptr 2 0,.ptr 3 0,I v,Bo co,Bo cu,I i] [gbO x.c,Zy cp,.box [.t (.str cn),I cd,.t .nil],.box [.t (.str cl),I cc,.t .nil]]
def Zgd(x:Z7)(cp:V6)(cn:YA)(cd:Int)(cl:YA)(cc:Int)(x1:V4)(v:Int)(co cu:Bool)(i:Int):Rs:=Zkx [.ptr 0 0,.own 1,.ptr 2 0,.ptr 3 0,I v,Bo co,Bo cu,I i] [gbO x.c,Zy cp,.box [.t (.str cn),I cd,.t .nil],.box [.t (.str cl),I cc,.own 4],ZI x1]
def Zge(x:Z7)(cp:V6)(cn:YA)(cd:Int)(x1:V4)(cl:YA)(cc v:Int)(co cu:Bool)(i:Int):Rs:=Zkx [.ptr 0 0,.own 1,.ptr 2 0,.ptr 4 0,I v,Bo co,Bo cu,I i] [gbO x.c,Zy cp,.box [.t (.str cn),I cd,.own 3],ZI x1,.box [.t (.str cl),I cc,.t .nil]]
def Zgf(x:Z7)(cp:V6)(cn:YA)(cd:Int)(x1:V4)(cl:YA)(cc:Int)(x2:V4)(v:Int)(co cu:Bool)(i:Int):Rs:=Zkx [.ptr 0 0,.own 1,.ptr 2 0,.ptr 4 0,I v,Bo co,Bo cu,I i] [gbO x.c,Zy cp,.box [.t (.str cn),I cd,.own 3],ZI x1,.box [.t (.str cl),I cc,.own 5],ZI x2]
def Z6X:MFun:=mkF (Zi 310 Tryz.f310)
def Zot(a:Zp)(a1:Z7):Rs:=C 310 [gaO a.c,gaO a1.c] []
def Zky:RawF (Zi 226 Tryz.f226):={ m:=_ }
def Zxi:Zc:=cut0 Zky 15
def Zxj:Zc:=cut0 Zky 36
def Zxk:Zc:=cut0 Zky 52
def Zxl:Zc:=cut2 Zky 31 5 Zxj 21 Zxk
def Z6Y:MFun:=Z0 Zky 15 Zxi 31 Zxl
def Zkz(a:Zp)(a1:List ZA)(a2:List Z7):Rs:=C 226 [gaO a.c,L 3 (a1.map ZA.c),Zbi a2] []
def Zk0(d:Zp)(cc:List ZA)(cd:List Z7)(i:Int):Rs:=lp C [.blk 0,.seq Zxl,.fin 0 [.tmp 6]] [1,2,3,7] Zxi [L 3 (cc.map ZA.c),Zbi cd,.ptr 0 0,I i] [gbO d.c]
def Zk1(d:Zp)(cc:List Z7)(i:Int):Rs:=lp C [.blk 2,.seq Zxk,.fin 0 [.tmp 6]] [2,3,8] Zxj [Zbi cc,.ptr 0 0,I i] [gbO d.c]
def Z6Z:MFun:=mkF (Zi 128 Tryz.f128)
def Zou(a:Xr):Rs:=C 128 [gaO a.c] []
def Z7a:MFun:=mkF (Zi 46 Tryz.f46)
def Zk2(a:Xr)(a1:Int):Rs:=C 46 [gaO a.c,I a1] []
def Zk3:RawF (Zi 129 Tryz.f129):={ m:=_ }
def Zxm:Zc:=cut0 Zk3 39
def Zxn:Zc:=cut0 Zk3 57
def Zov:Zc:=cut2 Zk3 17 22 Zxm 40 Zxn
def Zxo:Zc:=cut0 Zk3 58
def Z7b:MFun:=Z0 Zk3 17 Zov 58 Zxo
def JE(a:Zf):Rs:=C 129 [gaO a.c] []
def Zxp:List Fr:=[.blk 0,.seq Zxo,.fin 0 [.tmp 2]]
def Zgg(q:Zf)(cc i:Int):Rs:=lp C Zxp [1,3,4] Zov [.ptr 0 0,I cc,I i] [gbO q.c]
def Zk4(q:Zf)(a:Ze)(cc i k:Int):Rs:=lp C (.blk 2::.blk 1::.seq Zxn::.loop [1,3,4] Zov::Zxp) [1,3,4,5,6] Zxm [.ptr 0 0,I cc,I i,.ptr 1 0,I k] [gbO q.c,gbO a.c]
def Zxq:RawF (Zi 47 Tryz.f47):={ m:=_ }
def Zxr:Zc:=cut0 Zxq 15
def Zxs:Zc:=cut0 Zxq 33
def Z7c:MFun:=Z0 Zxq 15 Zxr 33 Zxs
def QN(a:Zp)(a1:Zf):Rs:=C 47 [gaO a.c,gaO a1.c] []
def Zgh(d:Zp)(q:Zf)(i:Int):Rs:=lp C [.blk 0,.seq Zxs,.fin 0 [.tmp 4]] [2,3,5] Zxr [.ptr 0 0,.ptr 1 0,I i] [gbO d.c,gbO q.c]
def Z7d:MFun:=mkF (Zi 49 Tryz.f49)
def Ub(a:Zf):Rs:=C 49 [gaO a.c] []
def Z7e:MFun:=mkF (Zi 131 Tryz.f131)
def Zgi(a:Zf)(a1:Int):Rs:=C 131 [gaO a.c,I a1] []
def Zk5:RawF (Zi 312 Tryz.f312):={ m:=_ }
def Zxt:Zc:=cut0 Zk5 21
def Zxu:Zc:=cut0 Zk5 31
def Zow:Zc:=cut2 Zk5 9 12 Zxt 22 Zxu
def Zxv:Zc:=cut0 Zk5 32
def Z7f:MFun:=Z0 Zk5 9 Zow 32 Zxv
def Qt(a:Zf)(a1:Int):Rs:=C 312 [gaO a.c,I a1] []
def Zxw:List Fr:=[.blk 0,.seq Zxv,.fin 0 [.tmp 4]]
def Zgj(q:Zf)(cc x i:Int):Rs:=lp C Zxw [1,2,5,6] Zow [I cc,.ptr 0 0,I x,I i] [gbO q.c]
def Zk6(q:Zf)(cc x i k:Int):Rs:=lp C (.blk 2::.blk 1::.seq Zxu::.loop [1,2,5,6] Zow::Zxw) [1,2,5,6,7] Zxt [I cc,.ptr 0 0,I x,I i,I k] [gbO q.c]
def Zox:RawF (Zi 230 Tryz.f230):={ m:=_ }
def Z7g:Zc:=cut0 Zox 24
def Zxx:Zc:=cut1 Zox 11 13 Z7g
def Zxy:Zc:=cut0 Zox 25
def Z7h:MFun:=Z0 Zox 11 Zxx 25 Zxy
def Zoy(a:Zf)(a1:Int):Rs:=C 230 [gaO a.c,I a1] []
def Zgk(q:Zf)(cd cl cc i:Int):Rs:=lp C [.blk 0,.seq Zxy,.fin 0 [.tmp 4]] [1,2,5,6,7] Zxx [I cd,.ptr 0 0,I cl,I cc,I i] [gbO q.c]
def Zxz:RawF (Zi 132 Tryz.f132):={ m:=_ }
def Zx0:Zc:=cut0 Zxz 9
def Zx1:Zc:=cut0 Zxz 19
def Z7i:MFun:=Z0 Zxz 9 Zx0 19 Zx1
def ZbC(a:Zf)(a1:Int):Rs:=C 132 [gaO a.c,I a1] []
def Zk7(q:Zf)(cc x n:Int):Rs:=lp C [.blk 0,.seq Zx1,.fin 0 [.tmp 4]] [1,2,5,6] Zx0 [I cc,.ptr 0 0,I x,I n] [gbO q.c]
def Z7j:MFun:=mkF (Zi 48 Tryz.f48)
def Za7(a:Zf)(a1:Int):Rs:=C 48 [gaO a.c,I a1] []
def Zx2:RawF (Zi 269 Tryz.f269):={ m:=_ }
def Zx3:Zc:=cut0 Zx2 7
def Zx4:Zc:=cut0 Zx2 23
def Z7k:MFun:=Z0 Zx2 7 Zx3 23 Zx4
def ZbD(a:V6):Rs:=C 269 [Zw a] []
def Zk8(l:V6)(i:Int):Rs:=lp C [.blk 0,.seq Zx4,.fin 0 [.tmp 2]] [0,3] Zx3 [Zw l,I i] []
def Zx5:RawF (Zi 313 Tryz.f313):={ m:=_ }
def Zx6:Zc:=cut0 Zx5 15
def Zx7:Zc:=cut0 Zx5 31
def Z7l:MFun:=Z0 Zx5 15 Zx6 31 Zx7
def Zoz(a a1:V6):Rs:=C 313 [Zw a,Zw a1] []
def Zgl(a b:V6)(i:Int):Rs:=lp C [.blk 0,.seq Zx7,.fin 0 [.tmp 4]] [0,1,5] Zx6 [Zw a,Zw b,I i] []
def Z7m:MFun:=mkF (Zi 231 Tryz.f231)
def Zo0(a:Box):Rs:=C 231 [gaO a.c] []
def Zx8:RawF (Zi 134 Tryz.f134):={ m:=_ }
def Zx9:Zc:=cut0 Zx8 17
def ZxA:Zc:=cut0 Zx8 27
def Z7n:MFun:=Z0 Zx8 17 Zx9 27 ZxA
def Zk9(a:Box):Rs:=C 134 [gaO a.c] []
def ZkA(b:Box)(n i:Int):Rs:=lp C [.blk 0,.seq ZxA,.fin 0 [.tmp 2]] [1,3,4] Zx9 [.ptr 0 0,I n,I i] [gbO b.c]
def Z7o:MFun:=mkF (Zi 372 Tryz.f372)
def Zd8(a a1:Int):Rs:=C 372 [I a,I a1] []
def Zo1:RawF (Zi 314 Tryz.f314):={ m:=_ }
def Z7p:Zc:=cut0 Zo1 91
def Zo2:Zc:=cut1 Zo1 77 14 Z7p
def Zo3:Zc:=cut1 Zo1 46 31 Zo2
def Z7q:MFun:=Kd Zo1 46 Zo3
def Zd9(a:Zf)(a1:Zj)(a2:List Zo)(a3:V6):Rs:=C 314 [gaO a.c,gaO a1.c,L 4 (a2.map Zo.c),Zw a3] []
def Zgm(q:Zf)(x:Zj)(x1:Zo)(cd:List Zo)(cc:V6)(n x2:Int)(x3:Bool):Rs:=Ev C [.blk 0,.seq (.seq (.reg [.o 213 (.build [.t (.int .i64 0),.t (.int .i64 0),.t (.int .i64 0),.t (.int .i64 0)] []),.n (.store 4 (.s 8) (.s 213)),.o 9 (.mov (.k (-1)))] [8,9]) (.ret)),.fin 0 [.cell 8 (some 4),.tmp 9]] Zo3 ⟨[(2,L 4 (cd.map Zo.c)),(3,Zw cc),(4,.ptr 0 0),(5,.ptr 1 0),(8,.ptr 2 0),(10,I n),(18,I x2),(106,Bo x3)],[[]],[gbO q.c,gbO x.c,gbO x1.c]⟩
def Zgn(x:Zf)(x1:Zj)(x2 a b y:Zo)(v:Int):Rs:=Ev C [.blk 0,.seq (.seq (.reg [.o 213 (.build [.t (.int .i64 0),.t (.int .i64 0),.t (.int .i64 0),.t (.int .i64 0)] []),.n (.store 4 (.s 8) (.s 213)),.o 9 (.mov (.k (-1)))] [8,9]) (.ret)),.fin 0 [.cell 8 (some 4),.tmp 9]] Zo2 ⟨[(5,.ptr 1 0),(8,.ptr 2 0),(11,.ptr 3 0),(12,.ptr 4 0),(13,I v),(14,.ptr 5 0)],[[]],[gbO x.c,gbO x1.c,gbO x2.c,gbO a.c,gbO b.c,gbO y.c]⟩
def ZbE(x:Zf)(x1:Zj)(x2 a b y:Zo)(v:Int)(x3:Bool):Rs:=Ev C [.blk 0,.seq (.seq (.reg [.o 213 (.build [.t (.int .i64 0),.t (.int .i64 0),.t (.int .i64 0),.t (.int .i64 0)] []),.n (.store 4 (.s 8) (.s 213)),.o 9 (.mov (.k (-1)))] [8,9]) (.ret)),.fin 0 [.cell 8 (some 4),.tmp 9]] Zo2 ⟨[(5,.ptr 1 0),(8,.ptr 2 0),(11,.ptr 3 0),(12,.ptr 4 0),(13,I v),(14,.ptr 5 0),(182,Bo x3)],[[]],[gbO x.c,gbO x1.c,gbO x2.c,gbO a.c,gbO b.c,gbO y.c]⟩
def ZxB:RawF (Zi 232 Tryz.f232):={ m:=_ }
def ZxC:Zc:=cut0 ZxB 19
def ZxD:Zc:=cut0 ZxB 41
def Z7r:MFun:=Z0 ZxB 19 ZxC 41 ZxD
def Zgo(a:Zf)(a1:Zg):Rs:=C 232 [gaO a.c,gaO a1.c] []
def ZkB(q:Zf)(p:Zg)(cd:List Zo)(cc:V6)(i:Int):Rs:=lp C [.blk 0,.seq ZxD,.fin 0 [.tmp 4,.tmp 5]] [2,3,6,7,8] ZxC [.ptr 0 0,.ptr 1 0,.own 2,.own 3,I i] [gbO q.c,gbO p.c,Kf cd,Zy cc]
def Z7s:MFun:=mkF (Zi 135 Tryz.f135)
def Zo4(a:Zf)(a1:Zg):Rs:=C 135 [gaO a.c,gaO a1.c] []
def ZdA:RawF (Zi 50 Tryz.f50):={ m:=_ }
def ZxE:Zc:=cut0 ZdA 23
def ZxF:Zc:=cut0 ZdA 64
def ZxG:Zc:=cut0 ZdA 80
def Zo5:Zc:=cut2 ZdA 44 20 ZxF 36 ZxG
def ZxH:Zc:=cut0 ZdA 81
def ZxI:Zc:=cut2 ZdA 39 5 Zo5 42 ZxH
def Z7t:MFun:=Z0 ZdA 23 ZxE 39 ZxI
def ZdB(a:Zf)(a1:ZM):Rs:=C 50 [gaO a.c,gaO a1.c] []
def Zgp(q:Zf)(b:ZM)(i:Int):Rs:=lp C [.blk 0,.seq ZxI,.fin 0 [.tmp 4]] [2,3,5] ZxE [.ptr 0 0,.ptr 1 0,I i] [gbO q.c,gbO b.c]
def ZxJ:List Fr:=[.blk 2,.seq ZxH,.fin 0 [.tmp 4]]
def ZdC(b:ZM)(k:Int):Rs:=lp C ZxJ [3,6] Zo5 [.ptr 0 0,I k] [gbO b.c]
def ZdD(b:ZM)(k i:Int):Rs:=lp C (.blk 4::.blk 3::.seq ZxG::.loop [3,6] Zo5::ZxJ) [3,6,7] ZxF [.ptr 0 0,I k,I i] [gbO b.c]
def Zo6:RawF (Zi 315 Tryz.f315):={ m:=_ }
def Z7u:Zc:=cut0 Zo6 22
def ZxK:Zc:=cut1 Zo6 9 13 Z7u
def ZxL:Zc:=cut0 Zo6 23
def Z7v:MFun:=Z0 Zo6 9 ZxK 23 ZxL
def ZxM(a:Int):Rs:=C 315 [I a] []
def ZdE(cc:V6)(c v:Int):Rs:=lp C [.blk 0,.seq ZxL,.fin 0 [.tmp 2]] [0,3,4] ZxK [I c,.own 0,I v] [Zy cc]
def Z7w:MFun:=mkF (Zi 233 Tryz.f233)
def Kl(a:Zf)(a1:Int):Rs:=C 233 [gaO a.c,I a1] []
def ZbF:RawF (Zi 316 Tryz.f316):={ m:=_ }
def ZxN:Zc:=cut0 ZbF 34
def ZxO:Zc:=cut0 ZbF 44
def Zo7:Zc:=cut2 ZbF 22 12 ZxN 22 ZxO
def ZxP:Zc:=cut0 ZbF 45
def ZxQ:Zc:=cut0 ZbF 52
def Zo8:Zc:=cut3 ZbF 7 15 Zo7 38 ZxP 45 ZxQ
def ZxR:Zc:=cut0 ZbF 53
def Z7x:MFun:=Z0 ZbF 7 Zo8 53 ZxR
def ZkC(a:Zt)(a1:Ze)(a2 a3:V6):Rs:=C 316 [gaO a.c,gaO a1.c,Zw a2,Zw a3] []
def ZxS:List Fr:=[.blk 0,.seq ZxR,.fin 0 [.tmp 8]]
def Zgq(t:Zt)(a:Ze)(cc cd:V6)(i:Int):Rs:=lp C ZxS [2,3,4,5,9] Zo8 [Zw cc,Zw cd,.ptr 0 0,.ptr 1 0,I i] [gbO t.c,gbO a.c]
def ZxT:List Fr:=.blk 2::.seq ZxP::.blk 1::.seq ZxQ::.loop [2,3,4,5,9] Zo8::ZxS
def Zgr(t:Zt)(a:Ze)(cc cd:V6)(i:Int)(is:Bool)(k:Int):Rs:=lp C ZxT [2,3,4,5,9,10,11] Zo7 [Zw cc,Zw cd,.ptr 0 0,.ptr 1 0,I i,Bo is,I k] [gbO t.c,gbO a.c]
def ZkD(t:Zt)(a:Ze)(cc cd:V6)(i:Int)(is:Bool)(k j:Int):Rs:=lp C (.blk 4::.blk 3::.seq ZxO::.loop [2,3,4,5,9,10,11] Zo7::ZxT) [2,3,4,5,9,10,11,12] ZxN [Zw cc,Zw cd,.ptr 0 0,.ptr 1 0,I i,Bo is,I k,I j] [gbO t.c,gbO a.c]
def ZkE:RawF (Zi 234 Tryz.f234):={ m:=_ }
def ZxU:Zc:=cut0 ZkE 7
def ZxV:Zc:=cut0 ZkE 38
def ZxW:Zc:=cut0 ZkE 48
def ZxX:Zc:=cut2 ZkE 23 15 ZxV 25 ZxW
def Z7y:MFun:=Z0 ZkE 7 ZxU 23 ZxX
def ZkF(x:List Zt)(fr:Bool)(x1:List Ze)(x2 x3:V6):Rs:=C 234 [.own 0,.own 1,.own 2,.own 3] [.arr 209 3 true (x.map Zt.c),.arr 212 2 fr (x1.map Ze.c),Zy x2,Zy x3]
def Zgs(l:List Zt)(fr:Bool)(cc:List Ze)(cd cl:V6)(i:Int):Rs:=EvL C [.blk 0,.seq ZxX,.fin 4 [.tmp 8]] [0,1,2,3,9] ZxU ⟨[(0,.own 0),(1,.own 1),(2,.own 2),(3,.own 3),(9,I i)],[[(0,.own 0),(1,.own 1),(2,.own 2),(3,.own 3)]],[.arr 209 3 true (l.map Zt.c),.arr 212 2 fr (cc.map Ze.c),Zy cd,Zy cl]⟩
def Zgt(l:List Zt)(fr:Bool)(cc:List Ze)(cd co:V6)(cl:Bool)(cn:V4)(v:Int):Rs:=EvL C [.blk 2,.seq ZxW,.fin 4 [.tmp 8]] [0,1,2,3,10,11] ZxV ⟨[(0,.own 0),(1,.own 1),(2,.own 2),(3,.own 3),(10,.own 4),(11,I v)],[[(0,.own 0),(1,.own 1),(2,.own 2),(3,.own 3)]],[.arr 209 3 true (l.map Zt.c),.arr 212 2 fr (cc.map Ze.c),Zy cd,Zy co,.arr 40 1 cl (cn.map isc)]⟩
def Zo9:RawF (Zi 137 Tryz.f137):={ m:=_ }
def Z7z:Zc:=cut0 Zo9 36
def ZxY:Zc:=cut1 Zo9 19 17 Z7z
def ZxZ:Zc:=cut0 Zo9 37
def Z70:MFun:=Z0 Zo9 19 ZxY 37 ZxZ
def JF(a:Zp)(a1:Zf)(a2:Int):Rs:=C 137 [gaO a.c,gaO a1.c,I a2] []
def ZdF(d:Zp)(q:Zf)(l:List Zt)(fr:Bool)(cc:List Ze)(cd i:Int):Rs:=lp C [.blk 0,.seq ZxZ,.fin 0 [.cell 6 (some 2),.tmp 7]] [2,3,4,6,8,9,10] ZxY [I cd,.ptr 0 0,.ptr 1 0,.ptr 2 0,.own 3,.own 4,I i] [gbO d.c,gbO q.c,.box [.t .nil,.t .nil],.arr 209 3 true (l.map Zt.c),.arr 212 2 fr (cc.map Ze.c)]
def Z71:MFun:=mkF (Zi 51 Tryz.f51)
def ZkG(a:Zp)(a1:Zf):Rs:=C 51 [gaO a.c,gaO a1.c] []
def Zya:RawF (Zi 52 Tryz.f52):={ m:=_ }
def Zyb:Zc:=cut0 Zya 15
def Zyc:Zc:=cut0 Zya 31
def Z72:MFun:=Z0 Zya 15 Zyb 31 Zyc
def ZkH(a a1:ZW):Rs:=C 52 [gaO a.c,gaO a1.c] []
def ZkI(a b:ZW)(i:Int):Rs:=lp C [.blk 0,.seq Zyc,.fin 0 [.tmp 4]] [2,3,5] Zyb [.ptr 0 0,.ptr 1 0,I i] [gbO a.c,gbO b.c]
def Zyd:RawF (Zi 53 Tryz.f53):={ m:=_ }
def Zye:Zc:=cut0 Zyd 9
def Zyf:Zc:=cut0 Zyd 27
def Z73:MFun:=Z0 Zyd 9 Zye 27 Zyf
def Zgu(a:List ZR):Rs:=C 53 [UQ a] []
def ZkJ(l:List ZR)(n i:Int):Rs:=lp C [.blk 0,.seq Zyf,.fin 0 [.tmp 2]] [0,3,4] Zye [UQ l,I n,I i] []
def Z74:MFun:=mkF (Zi 95 Tryz.f95)
def ZoA(a a1:Int):Rs:=C 95 [I a,I a1] []
def Zyg:RawF (Zi 139 Tryz.f139):={ m:=_ }
def Zyh:Zc:=cut0 Zyg 7
def Zyi:Zc:=cut0 Zyg 23
def Z75:MFun:=Z0 Zyg 7 Zyh 23 Zyi
def U7(a:V6)(a1:Int):Rs:=C 139 [Zw a,I a1] []
def ZkK(l:V6)(v i:Int):Rs:=lp C [.blk 0,.seq Zyi,.fin 0 [.tmp 4]] [0,1,5] Zyh [Zw l,I v,I i] []
def Zyj:RawF (Zi 54 Tryz.f54):={ m:=_ }
def Zyk:Zc:=cut0 Zyj 19
def Zyl:Zc:=cut0 Zyj 49
def Z76:MFun:=Z0 Zyj 19 Zyk 49 Zyl
def Zgv(a:Zf)(a1:ZM)(a2:List ZR):Rs:=C 54 [gaO a.c,gaO a1.c,UQ a2] []
def ZkL(b:ZM)(l:List ZR)(cc x i:Int):Rs:=lp C [.blk 0,.seq Zyl,.fin 0 [.tmp 6]] [2,4,7,8,9] Zyk [UQ l,.ptr 0 0,I cc,I x,I i] [gbO b.c]
def Zym:RawF (Zi 342 Tryz.f342):={ m:=_ }
def Zyn:Zc:=cut0 Zym 7
def Zyo:Zc:=cut0 Zym 23
def Z77:MFun:=Z0 Zym 7 Zyn 23 Zyo
def Zgw(a:Ze)(a1:Int):Rs:=C 342 [gaO a.c,I a1] []
def ZkM(a:Ze)(v k:Int):Rs:=lp C [.blk 0,.seq Zyo,.fin 0 [.tmp 4]] [1,2,5] Zyn [I v,.ptr 0 0,I k] [gbO a.c]
def Zgx:RawF (Zi 271 Tryz.f271):={ m:=_ }
def Zyp:Zc:=cut0 Zgx 34
def Zyq:Zc:=cut0 Zgx 44
def Zyr:Zc:=cut0 Zgx 45
def ZoB:Zc:=cut3 Zgx 19 15 Zyp 25 Zyq 26 Zyr
def Zys:Zc:=cut0 Zgx 46
def Z78:MFun:=Z0 Zgx 19 ZoB 46 Zys
def ZkN(a:Zp)(a1:Zf)(a2:Int):Rs:=C 271 [gaO a.c,gaO a1.c,I a2] []
def Zyt:List Fr:=[.blk 0,.seq Zys,.fin 0 [.cell 6 (some 2),.tmp 7]]
def ZoC:=lp C Zyt [2,4,6,8,10,11] ZoB
def Zyu(q:Zf)(cd:YA)(cc:Int)(x:V6)(i k:Int):Rs:=ZoC [I i,.ptr 0 0,.ptr 1 0,.ptr 2 0,.ptr 3 0,I k] [gbO q.c,.box [.t .nil,.t .nil],.box [.t (.str cd),I cc,.t .nil],.box [.own 4,.t .nil],Zy x]
def Zyv(q:Zf)(cd:YA)(cc:Int)(x:V4)(x1:V6)(i k:Int):Rs:=ZoC [I i,.ptr 0 0,.ptr 1 0,.ptr 2 0,.ptr 4 0,I k] [gbO q.c,.box [.t .nil,.t .nil],.box [.t (.str cd),I cc,.own 3],ZI x,.box [.own 5,.t .nil],Zy x1]
def ZoD:=lp C (.blk 2::.seq Zyq::.blk 1::.seq Zyr::.loop [2,4,6,8,10,11] ZoB::Zyt) [2,4,6,8,10,11,12,13] Zyp
def Z79(q:Zf)(cd:YA)(cc:Int)(x cl:V6)(i k j:Int):Rs:=ZoD [I i,.ptr 0 0,.ptr 1 0,.ptr 2 0,.ptr 3 0,I k,.own 5,I j] [gbO q.c,.box [.t .nil,.t .nil],.box [.t (.str cd),I cc,.t .nil],.box [.own 4,.t .nil],Zy x,Zy cl]
def ZkO(q:Zf)(cd:YA)(cc:Int)(x:V4)(x1 cl:V6)(i k j:Int):Rs:=ZoD [I i,.ptr 0 0,.ptr 1 0,.ptr 2 0,.ptr 4 0,I k,.own 6,I j] [gbO q.c,.box [.t .nil,.t .nil],.box [.t (.str cd),I cc,.own 3],ZI x,.box [.own 5,.t .nil],Zy x1,Zy cl]
def ZdG(q:Zf)(cd:YA)(cc:Int)(x:V4)(x1:V6)(x2:V4)(i k:Int):Rs:=ZoC [I i,.ptr 0 0,.ptr 1 0,.ptr 2 0,.ptr 4 0,I k] [gbO q.c,.box [.t .nil,.t .nil],.box [.t (.str cd),I cc,.own 3],ZI x,.box [.own 5,.own 6],Zy x1,ZI x2]
def ZkP(q:Zf)(cd:YA)(cc:Int)(x:V4)(x1:V6)(x2:V4)(cl:V6)(i k j:Int):Rs:=ZoD [I i,.ptr 0 0,.ptr 1 0,.ptr 2 0,.ptr 4 0,I k,.own 7,I j] [gbO q.c,.box [.t .nil,.t .nil],.box [.t (.str cd),I cc,.own 3],ZI x,.box [.own 5,.own 6],Zy x1,ZI x2,Zy cl]
def ZkQ:RawF (Zi 279 Tryz.f279):={ m:=_ }
def Zyw:Zc:=cut0 ZkQ 7
def Zyx:Zc:=cut0 ZkQ 28
def Zyy:Zc:=cut0 ZkQ 44
def Zyz:Zc:=cut2 ZkQ 23 5 Zyx 21 Zyy
def Z7A:MFun:=Z0 ZkQ 7 Zyw 23 Zyz
def Km(a:Zm):Rs:=C 279 [gaO a.c] []
def Zgy(s:Zm)(i:Int):Rs:=lp C [.blk 0,.seq Zyz,.fin 0 [.tmp 2]] [1,3] Zyw [.ptr 0 0,I i] [gbO s.c]
def ZkR(s:Zm)(i:Int):Rs:=lp C [.blk 2,.seq Zyy,.fin 0 [.tmp 2]] [1,4] Zyx [.ptr 0 0,I i] [gbO s.c]
def Zgz:RawF (Zi 272 Tryz.f272):={ m:=_ }
def Z7B:Zc:=cut0 Zgz 44
def Zy0:Zc:=cut1 Zgz 31 13 Z7B
def Zy1:Zc:=cut0 Zgz 45
def ZoE:Zc:=cut2 Zgz 19 12 Zy0 26 Zy1
def Zy2:Zc:=cut0 Zgz 46
def Z7C:MFun:=Z0 Zgz 19 ZoE 46 Zy2
def ZkS(a:Zm)(a1:Int):Rs:=C 272 [gaO a.c,I a1] []
def Zy3:List Fr:=[.blk 0,.seq Zy2,.fin 0 [.cell 4 (some 2),.tmp 5]]
def Zy4:=lp C Zy3 [2,4,6,7,8] ZoE
def ZkT(s:Zm)(x:V6)(x1 cc:Int):Rs:=Zy4 [.ptr 0 0,.ptr 1 0,I x1,.ptr 2 0,I cc] [gbO s.c,.box [.t .nil,.t .nil],.box [.own 3,.t .nil],Zy x]
def Zy5:=lp C (.blk 2::.blk 1::.seq Zy1::.loop [2,4,6,7,8] ZoE::Zy3) [2,4,6,7,8,9] Zy0
def ZkU(s:Zm)(x:V6)(x1 cc i:Int):Rs:=Zy5 [.ptr 0 0,.ptr 1 0,I x1,.ptr 2 0,I cc,I i] [gbO s.c,.box [.t .nil,.t .nil],.box [.own 3,.t .nil],Zy x]
def ZbG(s:Zm)(x:V6)(x1:V4)(x2 cc i:Int):Rs:=Zy5 [.ptr 0 0,.ptr 1 0,I x2,.ptr 2 0,I cc,I i] [gbO s.c,.box [.t .nil,.t .nil],.box [.own 3,.own 4],Zy x,ZI x1]
def ZoF(s:Zm)(x:V6)(x1:V4)(x2 cc:Int):Rs:=Zy4 [.ptr 0 0,.ptr 1 0,I x2,.ptr 2 0,I cc] [gbO s.c,.box [.t .nil,.t .nil],.box [.own 3,.own 4],Zy x,ZI x1]
def ZoG:RawF (Zi 345 Tryz.f345):={ m:=_ }
def Z7D:Zc:=cut0 ZoG 22
def Zy6:Zc:=cut1 ZoG 9 13 Z7D
def Zy7:Zc:=cut0 ZoG 23
def Z7E:MFun:=Z0 ZoG 9 Zy6 23 Zy7
def ZbH(a a1:V6):Rs:=C 345 [Zw a,Zw a1] []
def Zg0(c a b:V6)(v:Int):Rs:=lp C [.blk 0,.seq Zy7,.fin 0 [.tmp 4]] [0,1,5,6] Zy6 [Zw a,Zw b,.own 0,I v] [Zy c]
def Zy8:RawF (Zi 391 Tryz.f391):={ m:=_ }
def Zy9:Zc:=cut0 Zy8 7
def ZyA:Zc:=cut0 Zy8 25
def Z7F:MFun:=Z0 Zy8 7 Zy9 25 ZyA
def VG(a a1 a2 a3:V6):Rs:=C 391 [Zw a,Zw a1,Zw a2,Zw a3] []
def ZkV(a x b y:V6)(i:Int):Rs:=lp C [.blk 0,.seq ZyA,.fin 0 [.tmp 8]] [0,1,2,3,9] Zy9 [Zw a,Zw x,Zw b,Zw y,I i] []
def ZoH:RawF (Zi 392 Tryz.f392):={ m:=_ }
def Z7G:Zc:=cut0 ZoH 24
def ZyB:Zc:=cut1 ZoH 9 15 Z7G
def ZyC:Zc:=cut0 ZoH 25
def Z7H:MFun:=Z0 ZoH 9 ZyB 25 ZyC
def UW(a a1 a2 a3 a4:V6):Rs:=C 392 [Zw a,Zw a1,Zw a2,Zw a3,Zw a4] []
def Zg1(cc c a x b y:V6)(i:Int):Rs:=lp C [.blk 0,.seq ZyC,.fin 0 [.tmp 10]] [0,1,2,3,4,11,12] ZyB [Zw c,Zw a,Zw x,Zw b,Zw y,.own 0,I i] [Zy cc]
def ZdH:RawF (Zi 344 Tryz.f344):={ m:=_ }
def ZyD:Zc:=cut0 ZdH 53
def ZdI:Zc:=cut1 ZdH 33 20 ZyD
def ZdJ:Zc:=cut0 ZdH 59
def KX:Zc:=cut2 ZdH 21 12 ZdI 38 ZdJ
def KY:Zc:=cut0 ZdH 60
def ZyE:Zc:=cut2 ZdH 16 5 KX 44 KY
def ZyF:MFun:=Kd ZdH 16 ZyE
def JG(x:V6)(a a1:Zm)(a2:Bool)(a3 a4:Int):Rs:=C 344 [gaO a.c,gaO a1.c,Bo a2,I a3,I a4,.agg [.own 0,.t .nil]] [Zy x]
def Zg2(a b:Zm)(x:V6)(cl:Bool)(only x1 cd cc i:Int):Rs:=EvL C [.blk 0,.seq KY,.fin 1 [.cell 12 (some 2)]] [2,4,6,7,11,12,13,14,15,16] KX ⟨[(2,Bo cl),(4,I only),(6,.ptr 0 0),(7,.ptr 1 0),(11,.ptr 2 0),(12,.ptr 4 0),(13,I x1),(14,I cd),(15,I cc),(16,I i)],[[(0,.own 3)]],[gbO a.c,gbO b.c,.box [.own 3,.t .nil],Zy x,.box [.t .nil,.t .nil]]⟩
def ZdK(a b:Zm)(x:V6)(cl:Bool)(only x1 cd cc i k:Int):Rs:=EvL C [.blk 2,.blk 1,.seq ZdJ,.loop [2,4,6,7,11,12,13,14,15,16] KX,.blk 0,.seq KY,.fin 1 [.cell 12 (some 2)]] [2,4,6,7,11,12,13,14,15,16,17] ZdI ⟨[(2,Bo cl),(4,I only),(6,.ptr 0 0),(7,.ptr 1 0),(11,.ptr 2 0),(12,.ptr 4 0),(13,I x1),(14,I cd),(15,I cc),(16,I i),(17,I k)],[[(0,.own 3)]],[gbO a.c,gbO b.c,.box [.own 3,.t .nil],Zy x,.box [.t .nil,.t .nil]]⟩
def Kn(a b:Zm)(x:V6)(x1:V4)(cl:Bool)(only x2 cd cc i k:Int):Rs:=EvL C [.blk 2,.blk 1,.seq ZdJ,.loop [2,4,6,7,11,12,13,14,15,16] KX,.blk 0,.seq KY,.fin 1 [.cell 12 (some 2)]] [2,4,6,7,11,12,13,14,15,16,17] ZdI ⟨[(2,Bo cl),(4,I only),(6,.ptr 0 0),(7,.ptr 1 0),(11,.ptr 2 0),(12,.ptr 5 0),(13,I x2),(14,I cd),(15,I cc),(16,I i),(17,I k)],[[(0,.own 3)]],[gbO a.c,gbO b.c,.box [.own 3,.own 4],Zy x,ZI x1,.box [.t .nil,.t .nil]]⟩
def ZkW(a b:Zm)(x:V6)(x1:V4)(cl:Bool)(only x2 cd cc i:Int):Rs:=EvL C [.blk 0,.seq KY,.fin 1 [.cell 12 (some 2)]] [2,4,6,7,11,12,13,14,15,16] KX ⟨[(2,Bo cl),(4,I only),(6,.ptr 0 0),(7,.ptr 1 0),(11,.ptr 2 0),(12,.ptr 5 0),(13,I x2),(14,I cd),(15,I cc),(16,I i)],[[(0,.own 3)]],[gbO a.c,gbO b.c,.box [.own 3,.own 4],Zy x,ZI x1,.box [.t .nil,.t .nil]]⟩
def Z7I:MFun:=mkF (Zi 343 Tryz.f343)
def Zg3(x:V6):Rs:=C 343 [.agg [.own 0,.t .nil]] [Zy x]
def JH(x:V6)(x1:V4):Rs:=C 343 [.agg [.own 0,.own 1]] [Zy x,ZI x1]
def Z7J:MFun:=mkF (Zi 273 Tryz.f273)
def ZdL(a a1:Zm):Rs:=C 273 [gaO a.c,gaO a1.c] []
def Z7K:MFun:=mkF (Zi 274 Tryz.f274)
def ZdM(a a1:Zm):Rs:=C 274 [gaO a.c,gaO a1.c] []
def ZyG:RawF (Zi 346 Tryz.f346):={ m:=_ }
def ZyH:Zc:=cut0 ZyG 17
def ZyI:Zc:=cut0 ZyG 33
def Z7L:MFun:=Z0 ZyG 17 ZyH 33 ZyI
def Zg4(a:Zm)(a1:Int):Rs:=C 346 [gaO a.c,I a1] []
def ZkX(s:Zm)(x i:Int):Rs:=lp C [.blk 0,.seq ZyI,.fin 0 [.tmp 4]] [2,5,6] ZyH [.ptr 0 0,I x,I i] [gbO s.c]
def ZoI(x:V6)(x1:V4)(a a1:Zm)(a2:Bool)(a3 a4:Int):Rs:=C 344 [gaO a.c,gaO a1.c,Bo a2,I a3,I a4,.agg [.own 0,.own 1]] [Zy x,ZI x1]
def Zg5(a b:Zm)(x:V6)(x1:V4)(cl:Bool)(only x2 cd cc i:Int):Rs:=EvL C [.blk 0,.seq KY,.fin 2 [.cell 12 (some 2)]] [2,4,6,7,11,12,13,14,15,16] KX ⟨[(2,Bo cl),(4,I only),(6,.ptr 0 0),(7,.ptr 1 0),(11,.ptr 2 0),(12,.ptr 5 0),(13,I x2),(14,I cd),(15,I cc),(16,I i)],[[(0,.own 3),(1,.own 4)]],[gbO a.c,gbO b.c,.box [.own 3,.own 4],Zy x,ZI x1,.box [.t .nil,.t .nil]]⟩
def ZdN(a b:Zm)(x:V6)(x1:V4)(cl:Bool)(only x2 cd cc i k:Int):Rs:=EvL C [.blk 2,.blk 1,.seq ZdJ,.loop [2,4,6,7,11,12,13,14,15,16] KX,.blk 0,.seq KY,.fin 2 [.cell 12 (some 2)]] [2,4,6,7,11,12,13,14,15,16,17] ZdI ⟨[(2,Bo cl),(4,I only),(6,.ptr 0 0),(7,.ptr 1 0),(11,.ptr 2 0),(12,.ptr 5 0),(13,I x2),(14,I cd),(15,I cc),(16,I i),(17,I k)],[[(0,.own 3),(1,.own 4)]],[gbO a.c,gbO b.c,.box [.own 3,.own 4],Zy x,ZI x1,.box [.t .nil,.t .nil]]⟩
def Ko(a b:Zm)(x:V6)(x1:V4)(cl:Bool)(only x2 cd cc i k:Int):Rs:=EvL C [.blk 2,.blk 1,.seq ZdJ,.loop [2,4,6,7,11,12,13,14,15,16] KX,.blk 0,.seq KY,.fin 2 [.cell 12 (some 2)]] [2,4,6,7,11,12,13,14,15,16,17] ZdI ⟨[(2,Bo cl),(4,I only),(6,.ptr 0 0),(7,.ptr 1 0),(11,.ptr 2 0),(12,.ptr 5 0),(13,I x2),(14,I cd),(15,I cc),(16,I i),(17,I k)],[[(0,.own 3),(1,.own 6)]],[gbO a.c,gbO b.c,.box [.own 3,.own 4],Zy x,ZI x1,.box [.t .nil,.t .nil],.dead]⟩
def ZkY(a b:Zm)(x:V6)(x1:V4)(cl:Bool)(only x2 cd cc i:Int):Rs:=EvL C [.blk 0,.seq KY,.fin 2 [.cell 12 (some 2)]] [2,4,6,7,11,12,13,14,15,16] KX ⟨[(2,Bo cl),(4,I only),(6,.ptr 0 0),(7,.ptr 1 0),(11,.ptr 2 0),(12,.ptr 5 0),(13,I x2),(14,I cd),(15,I cc),(16,I i)],[[(0,.own 3),(1,.own 6)]],[gbO a.c,gbO b.c,.box [.own 3,.own 4],Zy x,ZI x1,.box [.t .nil,.t .nil],.dead]⟩
def ZyJ:RawF (Zi 275 Tryz.f275):={ m:=_ }
def ZyK:Zc:=cut0 ZyJ 17
def ZyL:Zc:=cut0 ZyJ 27
def Z7M:MFun:=Z0 ZyJ 17 ZyK 27 ZyL
def ZoJ(a a1:Zm)(a2:Int):Rs:=C 275 [gaO a.c,gaO a1.c,I a2] []
def ZyM:=lp C [.blk 0,.seq ZyL,.fin 0 [.cell 6 (some 2),.tmp 7]] [2,3,4,6,8,9] ZyK
def ZkZ(a b:Zm)(x:V6)(v cc:Int):Rs:=ZyM [I v,.ptr 0 0,.ptr 1 0,.ptr 2 0,.ptr 3 0,I cc] [gbO a.c,gbO b.c,.box [.t .nil,.t .nil],.box [.own 4,.t .nil],Zy x]
def Zg6(a b:Zm)(x:V6)(x1:V4)(v cc:Int):Rs:=ZyM [I v,.ptr 0 0,.ptr 1 0,.ptr 2 0,.ptr 3 0,I cc] [gbO a.c,gbO b.c,.box [.t .nil,.t .nil],.box [.own 4,.own 5],Zy x,ZI x1]
def ZoK:RawF (Zi 181 Tryz.f181):={ m:=_ }
def Z7N:Zc:=cut0 ZoK 50
def ZyN:Zc:=cut1 ZoK 19 31 Z7N
def ZyO:Zc:=cut0 ZoK 52
def Z7O:MFun:=Z0 ZoK 19 ZyN 52 ZyO
def Zg7(a:Zp)(a1:Zf)(a2:Zg):Rs:=C 181 [gaO a.c,gaO a1.c,gaO a2.c] []
def Zg8(d:Zp)(q:Zf)(p:Zg)(cc:List Zo)(cd:List Zm)(i:Int):Rs:=lp C [.blk 0,.seq ZyO,.fin 0 [.tmp 6,.tmp 7,.tmp 8]] [3,4,5,9,11,12] ZyN [.ptr 0 0,.ptr 1 0,.ptr 2 0,.own 3,.own 4,I i] [gbO d.c,gbO q.c,gbO p.c,Kf cc,.arr 251 2 true (cd.map Zm.c)]
def ZyP:RawF (Zi 188 Tryz.f188):={ m:=_ }
def ZyQ:Zc:=cut0 ZyP 15
def ZyR:Zc:=cut0 ZyP 31
def Z7P:MFun:=Z0 ZyP 15 ZyQ 31 ZyR
def KZ(a:Int):Rs:=C 188 [I a] []
def Zla(n k:Int):Rs:=lp C [.blk 0,.seq ZyR,.fin 0 [.tmp 2]] [0,3] ZyQ [I n,I k] []
def Z7Q:MFun:=mkF (Zi 187 Tryz.f187)
def VH(a:Int):Rs:=C 187 [I a] []
def Z7R:MFun:=mkF (Zi 184 Tryz.f184)
def ZdO(a:Zn)(a1:Zg)(a2:List Zo)(a3:V6)(a4:Int):Rs:=C 184 [gaO a.c,gaO a1.c,L 4 (a2.map Zo.c),Zw a3,I a4] []
def ZyS:RawF (Zi 186 Tryz.f186):={ m:=_ }
def ZyT:Zc:=cut0 ZyS 15
def ZyU:Zc:=cut0 ZyS 23
def Z7S:MFun:=Z0 ZyS 15 ZyT 23 ZyU
def ZdP(a:Zn)(a1 a2 a3 a4:Int):Rs:=C 186 [gaO a.c,I a1,I a2,I a3,I a4] []
def Zlb(m:Zn)(cd l cl cc n:Int):Rs:=lp C [.blk 0,.seq ZyU,.fin 0 [.tmp 10]] [1,2,3,4,5,11] ZyT [I cd,I l,I cl,I cc,.ptr 0 0,I n] [gbO m.c]
def ZoL(a:V6):Rs:=C 280 [.t .nil,Zw a] []
def ZyV(c:V4)(cd:V6)(cc:Bool)(i:Int):Rs:=Zok [.t .nil,Zw cd,.own 0,Bo cc,I i] [ZI c]
def ZyW:RawF (Zi 190 Tryz.f190):={ m:=_ }
def ZyX:Zc:=cut0 ZyW 17
def ZyY:Zc:=cut0 ZyW 27
def Z7T:MFun:=Z0 ZyW 17 ZyX 27 ZyY
def Ja(a:Zm):Rs:=C 190 [gaO a.c] []
def ZyZ:=lp C [.blk 0,.seq ZyY,.fin 0 [.cell 2 (some 2),.tmp 3]] [1,2,4,5] ZyX
def Zza(s:Zm)(x:V6)(i:Int):Rs:=ZyZ [.ptr 0 0,.ptr 1 0,.ptr 2 0,I i] [gbO s.c,.box [.t .nil,.t .nil],.box [.own 3,.t .nil],Zy x]
def Zlc(s:Zm)(x:V6)(x1:V4)(i:Int):Rs:=ZyZ [.ptr 0 0,.ptr 1 0,.ptr 2 0,I i] [gbO s.c,.box [.t .nil,.t .nil],.box [.own 3,.own 4],Zy x,ZI x1]
def Zld:RawF (Zi 140 Tryz.f140):={ m:=_ }
def Zzb:Zc:=cut0 Zld 45
def Zzc:Zc:=cut0 Zld 60
def ZoM:Zc:=cut2 Zld 21 24 Zzb 39 Zzc
def ZoN:Zc:=cut0 Zld 61
def Z7U:MFun:=Z0 Zld 21 ZoM 61 ZoN
def ZoO(a:Zn)(a1:Zp)(a2:Zf)(a3:Zg)(a4:Int):Rs:=C 140 [gaO a.c,gaO a1.c,gaO a2.c,gaO a3.c,I a4] []
def ZdQ:=lp C [.blk 0,.seq ZoN,.fin 0 [.cellO 10 (some 6) [none,none,none,some (3,0),some (1,0),some (1,0)],.tmpO 11 [none]]] [4,5,8,10,12,13,15,16,17] ZoM
def ZdR(m:Zn)(p:Zg)(cu:Bool)(cp co:Int)(l:List Zm)(cv:List Zo)(n:V6)(cn:Bool)(cl cc cd i:Int):Rs:=ZdQ [I cd,.ptr 0 0,.ptr 1 0,.ptr 2 0,.own 3,.own 4,.own 5,.ptr 6 0,I i] [gbO m.c,gbO p.c,.box [Bo cu,I cp,I co,.t .nil,.t .nil,.t .nil],.arr 251 2 true (l.map Zm.c),Kf cv,Zy n,.box [Bo cn,I cl,I cc,.t .nil,.t .nil,.t .nil]]
def ZbI(m:Zn)(p:Zg)(cu:Bool)(cp co:Int)(l:List Zm)(cv:List Zo)(n:V6)(cn:Bool)(cl cc:Int)(x:List ZB)(cd i:Int):Rs:=ZdQ [I cd,.ptr 0 0,.ptr 1 0,.ptr 2 0,.own 3,.own 4,.own 5,.ptr 6 0,I i] [gbO m.c,gbO p.c,.box [Bo cu,I cp,I co,.t .nil,.t .nil,.t .nil],.arr 251 2 true (l.map Zm.c),Kf cv,Zy n,.box [Bo cn,I cl,I cc,.own 7,.t .nil,.t .nil],.arr 261 3 true (x.map ZB.c)]
end
