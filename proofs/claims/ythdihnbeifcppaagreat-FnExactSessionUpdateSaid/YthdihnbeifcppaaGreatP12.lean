/-
  Parts of the proofs for this seat: D3.
-/
import Derived.Test.YthdihnbeifcppaaGreatP9
set_option linter.all false
set_option maxRecDepth 100000
set_option maxHeartbeats 4000000
set_option cbv.maxSteps 9999999
namespace Go.Proofs.YthdihnbeifcppaaGreat
open Go.AM
noncomputable section
def Z1s:MFun:=mkF (Zi 175 Tryz.f175)
def Kh(a:Zj):Rs:=C 175 [gaO a.c] []
def Z1t:MFun:=mkF (Zi 238 Tryz.f238)
def ZdK(a:Zj)(a1:Int):Rs:=C 238 [gaO a.c,I a1] []
def Zhq:RawF (Zi 326 Tryz.f326):={ m:=_ }
def ZsZ:MCode:=cut0 Zhq 21
def Zta:MCode:=cut0 Zhq 31
def Zlg:MCode:=cut2 Zhq 9 12 ZsZ 22 Zta
def Ztb:MCode:=cut0 Zhq 32
def Z1u:MFun:=Z3 Zhq 9 Zlg 32 Ztb
def Uy(a:Zj)(a1:Int):Rs:=C 326 [gaO a.c,I a1] []
def Ztc:List Fr:=[.blk 0,.seq Ztb,.fin 0 [.tmp 4]]
def ZdL(q:Zj)(mask x i:Int):Rs:=lp C Ztc [1,2,5,6] Zlg [I mask,.ptr 0 0,I x,I i] [gbO q.c]
def ZdM(q:Zj)(mask x i k:Int):Rs:=lp C (.blk 2::.blk 1::.seq Zta::.loop [1,2,5,6] Zlg::Ztc) [1,2,5,6,7] ZsZ [I mask,.ptr 0 0,I x,I i,I k] [gbO q.c]
def Zlh:RawF (Zi 294 Tryz.f294):={ m:=_ }
def Z1v:MCode:=cut0 Zlh 24
def Ztd:MCode:=cut1 Zlh 11 13 Z1v
def Zte:MCode:=cut0 Zlh 25
def Z1w:MFun:=Z3 Zlh 11 Ztd 25 Zte
def Zli(a:Zj)(a1:Int):Rs:=C 294 [gaO a.c,I a1] []
def ZdN(q:Zj)(mask out bits i:Int):Rs:=lp C [.blk 0,.seq Zte,.fin 0 [.tmp 4]] [1,2,5,6,7] Ztd [I mask,.ptr 0 0,I out,I bits,I i] [gbO q.c]
def Ztf:RawF (Zi 239 Tryz.f239):={ m:=_ }
def Ztg:MCode:=cut0 Ztf 9
def Zth:MCode:=cut0 Ztf 19
def Z1x:MFun:=Z3 Ztf 9 Ztg 19 Zth
def Zax(a:Zj)(a1:Int):Rs:=C 239 [gaO a.c,I a1] []
def Zhr(q:Zj)(mask x n:Int):Rs:=lp C [.blk 0,.seq Zth,.fin 0 [.tmp 4]] [1,2,5,6] Ztg [I mask,.ptr 0 0,I x,I n] [gbO q.c]
def Z1y:MFun:=mkF (Zi 174 Tryz.f174)
def ZbQ(a:Zj)(a1:Int):Rs:=C 174 [gaO a.c,I a1] []
def Zti:RawF (Zi 295 Tryz.f295):={ m:=_ }
def Ztj:MCode:=cut0 Zti 7
def Ztk:MCode:=cut0 Zti 23
def Z1z:MFun:=Z3 Zti 7 Ztj 23 Ztk
def ZbR(a:V6):Rs:=C 295 [Z2 a] []
def Zhs(l:V6)(i:Int):Rs:=lp C [.blk 0,.seq Ztk,.fin 0 [.tmp 2]] [0,3] Ztj [Z2 l,I i] []
def Ztl:RawF (Zi 296 Tryz.f296):={ m:=_ }
def Ztm:MCode:=cut0 Ztl 15
def Ztn:MCode:=cut0 Ztl 31
def Z10:MFun:=Z3 Ztl 15 Ztm 31 Ztn
def Zlj(a a1:V6):Rs:=C 296 [Z2 a,Z2 a1] []
def Zht(a b:V6)(i:Int):Rs:=lp C [.blk 0,.seq Ztn,.fin 0 [.tmp 4]] [0,1,5] Ztm [Z2 a,Z2 b,I i] []
def Z11:MFun:=mkF (Zi 241 Tryz.f241)
def Zhu(a:Box):Rs:=C 241 [gaO a.c] []
def Z12:MFun:=mkF (Zi 365 Tryz.f365)
def ZdO(a a1:Int):Rs:=C 365 [I a,I a1] []
def Zlk:RawF (Zi 327 Tryz.f327):={ m:=_ }
def Z13:MCode:=cut0 Zlk 91
def Zll:MCode:=cut1 Zlk 77 14 Z13
def Zlm:MCode:=cut1 Zlk 46 31 Zll
def Z14:MFun:=XH Zlk 46 Zlm
def ZbS(a:Zj)(a1:Zh)(a2:List Zt)(a3:V6):Rs:=C 327 [gaO a.c,gaO a1.c,L 4 (a2.map Zt.c),Z2 a3] []
def ZdP(q:Zj)(x:Zh)(x1:Zt)(cd:List Zt)(cc:V6)(n x2:Int)(x3:Bool):Rs:=Ev C [.blk 0,.seq (.seq (.reg [.o 213 (.build [.t (.int .i64 0),.t (.int .i64 0),.t (.int .i64 0),.t (.int .i64 0)] []),.n (.store 4 (.s 8) (.s 213)),.o 9 (.mov (.k (-1)))] [8,9]) (.ret)),.fin 0 [.cell 8 (some 4),.tmp 9]] Zlm ⟨[(2,L 4 (cd.map Zt.c)),(3,Z2 cc),(4,.ptr 0 0),(5,.ptr 1 0),(8,.ptr 2 0),(10,I n),(18,I x2),(106,Bo x3)],[[]],[gbO q.c,gbO x.c,gbO x1.c]⟩
def ZdQ(x:Zj)(x1:Zh)(x2 a b y:Zt)(v:Int):Rs:=Ev C [.blk 0,.seq (.seq (.reg [.o 213 (.build [.t (.int .i64 0),.t (.int .i64 0),.t (.int .i64 0),.t (.int .i64 0)] []),.n (.store 4 (.s 8) (.s 213)),.o 9 (.mov (.k (-1)))] [8,9]) (.ret)),.fin 0 [.cell 8 (some 4),.tmp 9]] Zll ⟨[(5,.ptr 1 0),(8,.ptr 2 0),(11,.ptr 3 0),(12,.ptr 4 0),(13,I v),(14,.ptr 5 0)],[[]],[gbO x.c,gbO x1.c,gbO x2.c,gbO a.c,gbO b.c,gbO y.c]⟩
def Zay(x:Zj)(x1:Zh)(x2 a b y:Zt)(v:Int)(x3:Bool):Rs:=Ev C [.blk 0,.seq (.seq (.reg [.o 213 (.build [.t (.int .i64 0),.t (.int .i64 0),.t (.int .i64 0),.t (.int .i64 0)] []),.n (.store 4 (.s 8) (.s 213)),.o 9 (.mov (.k (-1)))] [8,9]) (.ret)),.fin 0 [.cell 8 (some 4),.tmp 9]] Zll ⟨[(5,.ptr 1 0),(8,.ptr 2 0),(11,.ptr 3 0),(12,.ptr 4 0),(13,I v),(14,.ptr 5 0),(182,Bo x3)],[[]],[gbO x.c,gbO x1.c,gbO x2.c,gbO a.c,gbO b.c,gbO y.c]⟩
def Zto:RawF (Zi 297 Tryz.f297):={ m:=_ }
def Ztp:MCode:=cut0 Zto 19
def Ztq:MCode:=cut0 Zto 41
def Z15:MFun:=Z3 Zto 19 Ztp 41 Ztq
def ZdR(a:Zj)(a1:Zg):Rs:=C 297 [gaO a.c,gaO a1.c] []
def Zhv(q:Zj)(p:Zg)(cd:List Zt)(cc:V6)(i:Int):Rs:=lp C [.blk 0,.seq Ztq,.fin 0 [.tmp 4,.tmp 5]] [2,3,6,7,8] Ztp [.ptr 0 0,.ptr 1 0,.own 2,.own 3,I i] [gbO q.c,gbO p.c,Zbi cd,ZB cc]
def Z16:MFun:=mkF (Zi 242 Tryz.f242)
def Zln(a:Zj)(a1:Zg):Rs:=C 242 [gaO a.c,gaO a1.c] []
def Z17:MFun:=mkF (Zi 176 Tryz.f176)
def Zhw(a:Zj)(a1:Region):Rs:=C 176 [gaO a.c,gaO a1.c] []
def Zlo:RawF (Zi 302 Tryz.f302):={ m:=_ }
def Z18:MCode:=cut0 Zlo 24
def Ztr:MCode:=cut1 Zlo 11 13 Z18
def Zts:MCode:=cut0 Zlo 25
def Z19:MFun:=Z3 Zlo 11 Ztr 25 Zts
def Zhx(a:Zj):Rs:=C 302 [gaO a.c] []
def ZdS(q:Zj)(cc:V6)(full m:Int):Rs:=lp C [.blk 0,.seq Zts,.fin 0 [.tmp 2]] [1,3,4,5] Ztr [.ptr 0 0,.own 1,I full,I m] [gbO q.c,ZB cc]
def Zlp:RawF (Zi 303 Tryz.f303):={ m:=_ }
def Z1A:MCode:=cut0 Zlp 30
def Ztt:MCode:=cut1 Zlp 17 13 Z1A
def Ztu:MCode:=cut0 Zlp 31
def Z1B:MFun:=Z3 Zlp 17 Ztt 31 Ztu
def Zhy(a:Zj)(a1:Int):Rs:=C 303 [gaO a.c,I a1] []
def ZbT(q:Zj)(cc:V6)(mask m:Int):Rs:=lp C [.blk 0,.seq Ztu,.fin 0 [.tmp 4]] [1,2,5,6] Ztt [I mask,.ptr 0 0,.own 1,I m] [gbO q.c,ZB cc]
def Zlq:RawF (Zi 368 Tryz.f368):={ m:=_ }
def Z1C:MCode:=cut0 Zlq 22
def Ztv:MCode:=cut1 Zlq 9 13 Z1C
def Ztw:MCode:=cut0 Zlq 23
def Z1D:MFun:=Z3 Zlq 9 Ztv 23 Ztw
def Ztx(a:Int):Rs:=C 368 [I a] []
def ZdT(c:V6)(bits v:Int):Rs:=lp C [.blk 0,.seq Ztw,.fin 0 [.tmp 2]] [0,3,4] Ztv [I bits,.own 0,I v] [ZB c]
def Z1E:MFun:=mkF (Zi 331 Tryz.f331)
def Zhz(a:Zj)(a1:Int):Rs:=C 331 [gaO a.c,I a1] []
def Zlr:RawF (Zi 304 Tryz.f304):={ m:=_ }
def Z1F:MCode:=cut0 Zlr 26
def Zty:MCode:=cut1 Zlr 13 13 Z1F
def Ztz:MCode:=cut0 Zlr 27
def Z1G:MFun:=Z3 Zlr 13 Zty 27 Ztz
def ZbU(a:Zj)(a1 a2:Int):Rs:=C 304 [gaO a.c,I a1,I a2] []
def ZdU(c x y:V6)(i:Int):Rs:=lp C [.blk 0,.seq Ztz,.fin 0 [.tmp 6]] [7,8,9,10] Zty [.own 0,.own 1,.own 2,I i] [ZB c,ZB x,ZB y]
def ZdV:RawF (Zi 245 Tryz.f245):={ m:=_ }
def Zt0:MCode:=cut0 ZdV 26
def Zt1:MCode:=cut0 ZdV 36
def Zt2:MCode:=cut0 ZdV 37
def Zls:MCode:=cut3 ZdV 11 15 Zt0 25 Zt1 26 Zt2
def Zt3:MCode:=cut0 ZdV 38
def Z1H:MFun:=Z3 ZdV 11 Zls 38 Zt3
def Zh0(a:Zj):Rs:=C 245 [gaO a.c] []
def Zt4:List Fr:=[.blk 0,.seq Zt3,.fin 0 [.tmp 2]]
def Zaz(q:Zj)(cd:List Xk)(cc:V6)(i:Int):Rs:=lp C Zt4 [1,3,4,5] Zls [.ptr 0 0,.own 1,.own 2,I i] [gbO q.c,.arr 335 3 true (cd.map Xk.c),ZB cc]
def Zt5:=lp C (.blk 2::.seq Zt1::.blk 1::.seq Zt2::.loop [1,3,4,5] Zls::Zt4) [1,3,4,5,6,7] Zt0
def Zlt(q:Zj)(cd:List Xk)(cc:V6)(mask:Int)(x:V6)(i k:Int):Rs:=Zt5 [.ptr 0 0,.own 1,.own 2,I i,.ptr 3 0,I k] [gbO q.c,.arr 335 3 true (cd.map Xk.c),ZB cc,.box [I mask,.own 4,.t .nil],ZB x]
def Zh1(q:Zj)(cd:List Xk)(cc:V6)(mask:Int)(x:V6)(x1:V4)(i k:Int):Rs:=Zt5 [.ptr 0 0,.own 1,.own 2,I i,.ptr 3 0,I k] [gbO q.c,.arr 335 3 true (cd.map Xk.c),ZB cc,.box [I mask,.own 4,.own 5],ZB x,Xl x1]
def Zt6:RawF (Zi 246 Tryz.f246):={ m:=_ }
def Zt7:MCode:=cut0 Zt6 9
def Zt8:MCode:=cut0 Zt6 19
def Z1I:MFun:=Z3 Zt6 9 Zt7 19 Zt8
def ZdW(a:V6):Rs:=C 246 [Z2 a] []
def Zh2(c l:V6)(i:Int):Rs:=lp C [.blk 0,.seq Zt8,.fin 0 [.tmp 2]] [0,3,4] Zt7 [Z2 l,.own 0,I i] [ZB c]
def Zlu:RawF (Zi 299 Tryz.f299):={ m:=_ }
def Z1J:MCode:=cut0 Zlu 22
def Zt9:MCode:=cut1 Zlu 9 13 Z1J
def ZtA:MCode:=cut0 Zlu 23
def Z1K:MFun:=Z3 Zlu 9 Zt9 23 ZtA
def Zh3(a:Int):Rs:=C 299 [I a] []
def ZdX(c:V6)(mask i:Int):Rs:=lp C [.blk 0,.seq ZtA,.fin 0 [.tmp 2]] [0,3,4] Zt9 [I mask,.own 0,I i] [ZB c]
def Z1L:MFun:=mkF (Zi 300 Tryz.f300)
def Zh4(a:Int):Rs:=C 300 [I a] []
def Zlv:RawF (Zi 298 Tryz.f298):={ m:=_ }
def Z1M:MCode:=cut0 Zlv 22
def ZtB:MCode:=cut1 Zlv 9 13 Z1M
def ZtC:MCode:=cut0 Zlv 23
def Z1N:MFun:=Z3 Zlv 9 ZtB 23 ZtC
def Za0(a:List Zb)(a1:Int):Rs:=C 298 [Vy a,I a1] []
def ZdY(l:List Zb)(mask best i:Int):Rs:=lp C [.blk 0,.seq ZtC,.fin 0 [.tmp 4]] [0,1,5,6] ZtB [Vy l,I mask,I best,I i] []
def Z1O:MFun:=mkF (Zi 366 Tryz.f366)
def Za1(a a1:Zg)(a2 a3:Int):Rs:=C 366 [gaO a.c,gaO a1.c,I a2,I a3] []
def ZtD:MFun:=mkF (Zi 328 Tryz.f328)
def ZbV(x:V6)(x1:List Zb)(a:Za)(a1 a2:Zb)(a3 a4 a5:Int):Rs:=C 328 [gaO a.c,.own 0,.own 1,gaO a1.c,gaO a2.c,I a3,I a4,I a5] [ZB x,Jl x1]
def ZtE:RawF (Zi 329 Tryz.f329):={ m:=_ }
def ZtF:MCode:=cut0 ZtE 7
def ZtG:MCode:=cut0 ZtE 23
def Z1P:MFun:=Z3 ZtE 7 ZtF 23 ZtG
def ZdZ(a:List Zb)(a1 a2:Int):Rs:=C 329 [Vy a,I a1,I a2] []
def Zh5(l:List Zb)(mask order i:Int):Rs:=lp C [.blk 0,.seq ZtG,.fin 0 [.tmp 6]] [0,1,2,7] ZtF [Vy l,I mask,I order,I i] []
def Z1Q:MFun:=mkF (Zi 367 Tryz.f367)
def Zea(a:Zg)(a1:Int):Rs:=C 367 [gaO a.c,I a1] []
def Z1R:MFun:=mkF (Zi 330 Tryz.f330)
def Zh6(x:V6)(x1:List Zb)(x2:List Zh)(a:Za)(a1:Zb)(Mask Order Cost a2 a3 a4:Int):Rs:=C 328 [gaO a.c,.own 0,.own 1,gaO a1.c,.agg [I Mask,I Order,I Cost,.own 2],I a2,I a3,I a4] [ZB x,Jl x1,Zbj x2]
def Zh7(x:V6)(x1:List Zb)(x2:List Zh)(a:Za)(Mask Order Cost:Int)(a1:Zb)(a2 a3 a4:Int):Rs:=C 328 [gaO a.c,.own 0,.own 1,.agg [I Mask,I Order,I Cost,.own 2],gaO a1.c,I a2,I a3,I a4] [ZB x,Jl x1,Zbj x2]
def Zh8(x:V6)(x1:List Zb)(x2 x3:List Zh)(a:Za)(Mask Order Cost Mask1 Order1 Cost1 a1 a2 a3:Int):Rs:=C 328 [gaO a.c,.own 0,.own 1,.agg [I Mask,I Order,I Cost,.own 2],.agg [I Mask1,I Order1,I Cost1,.own 3],I a1,I a2,I a3] [ZB x,Jl x1,Zbj x2,Zbj x3]
def Ki:RawF (Zi 301 Tryz.f301):={ m:=_ }
def Z1S:MCode:=cut0 Ki 47
def ZtH:MCode:=cut1 Ki 32 15 Z1S
def ZtI:MCode:=cut0 Ki 52
def ZtJ:MCode:=cut1 Ki 48 4 ZtI
def Zlw:MCode:=cut0 Ki 64
def Zh9:MCode:=cut3 Ki 9 23 ZtH 39 ZtJ 55 Zlw
def Z1T:MCode:=cut0 Ki 85
def ZtK:MCode:=cut1 Ki 72 13 Z1T
def ZtL:MCode:=cut0 Ki 86
def ZhA:MCode:=cut2 Ki 65 7 ZtK 21 ZtL
def Z1U:MFun:=Z3 Ki 9 Zh9 65 ZhA
def ZhB(x:V6)(fr:Bool)(x1:List Zb)(a:Za)(a1 a2:Int):Rs:=C 330 [gaO a.c,.own 0,.own 1,I a1,I a2] [ZB x,.arr 287 4 fr (x1.map Zb.c)]
def Zlx(x:V6)(fr:Bool)(x1:List Zb)(a:Za)(a1:Xk):Rs:=C 301 [gaO a.c,.own 0,.own 1,gaO a1.c] [ZB x,.arr 287 4 fr (x1.map Zb.c)]
def Zeb(cc:V6)(fr:Bool)(l:List Zb)(m:Za)(x:Xk)(cd:List Zb)(k:Int):Rs:=EvL C [.blk 0,.seq ZhA,.fin 2 [.tmp 8]] [1,2,4,7,9,10] Zh9 ⟨[(1,.own 0),(2,.own 1),(4,.ptr 2 0),(7,.ptr 3 0),(9,.own 4),(10,I k)],[[(0,.own 0),(1,.own 1)]],[ZB cc,.arr 287 4 fr (l.map Zb.c),gbO m.c,gbO x.c,Jl cd]⟩
def Zec(cc:V6)(fr:Bool)(l:List Zb)(m:Za)(x:Xk)(cd:List Zb)(b:Zb)(k left right o:Int):Rs:=EvL C [.blk 2,.seq ZtJ,.blk 1,.seq Zlw,.loop [1,2,4,7,9,10] Zh9,.blk 0,.seq ZhA,.fin 2 [.tmp 8]] [1,2,4,7,9,10,11,12,14,15] ZtH ⟨[(1,.own 0),(2,.own 1),(4,.ptr 2 0),(7,.ptr 3 0),(9,.own 4),(10,I k),(11,I left),(12,I right),(14,.ptr 5 0),(15,I o)],[[(0,.own 0),(1,.own 1)]],[ZB cc,.arr 287 4 fr (l.map Zb.c),gbO m.c,gbO x.c,Jl cd,gbO b.c]⟩
def ZbW(cc:List Zb)(fr:Bool)(cl:List Zb)(x:V6)(cd:Bool)(x1:List Zb)(o:Int):Rs:=EvL C [.blk 6,.seq ZtL,.fin 2 [.tmp 8]] [9,19,20] ZtK ⟨[(9,.own 0),(19,.own 1),(20,I o)],[[(0,.own 2),(1,.own 3)]],[Jl cc,.arr 287 4 fr (cl.map Zb.c),ZB x,.arr 287 4 cd (x1.map Zb.c)]⟩
def J7(cc:V6)(fr:Bool)(l:List Zb)(m:Za)(x:Xk)(cd:List Zb)(k left right e:Int):Rs:=EvL C [.blk 4,.blk 1,.seq Zlw,.loop [1,2,4,7,9,10] Zh9,.blk 0,.seq ZhA,.fin 2 [.tmp 8]] [1,2,4,7,9,10,11,12,17] ZtI ⟨[(1,.own 0),(2,.own 1),(4,.ptr 2 0),(7,.ptr 3 0),(9,.own 4),(10,I k),(11,I left),(12,I right),(17,I e)],[[(0,.own 0),(1,.own 1)]],[ZB cc,.arr 287 4 fr (l.map Zb.c),gbO m.c,gbO x.c,Jl cd]⟩
def Zly:RawF (Zi 244 Tryz.f244):={ m:=_ }
def Z1V:MCode:=cut0 Zly 30
def ZtM:MCode:=cut1 Zly 9 21 Z1V
def ZtN:MCode:=cut0 Zly 31
def Z1W:MFun:=Z3 Zly 9 ZtM 31 ZtN
def ZhC(x:List Xk)(x1:V6)(a:Za)(a1:Zj):Rs:=C 244 [gaO a.c,gaO a1.c,.own 0,.own 1] [.arr 335 3 true (x.map Xk.c),ZB x1]
def Zed(cc:List Xk)(cd:V6)(m:Za)(q:Zj)(fr:Bool)(cl:List Zb)(i:Int):Rs:=EvL C [.blk 0,.seq ZtN,.fin 2 [.tmp 8]] [2,3,4,5,9,10] ZtM ⟨[(2,.own 0),(3,.own 1),(4,.ptr 2 0),(5,.ptr 3 0),(9,.own 4),(10,I i)],[[(0,.own 0),(1,.own 1)]],[.arr 335 3 true (cc.map Xk.c),ZB cd,gbO m.c,gbO q.c,.arr 287 4 fr (cl.map Zb.c)]⟩
def Z1X:MFun:=mkF (Zi 243 Tryz.f243)
def Zee(a:List Zb)(a1:Int):Rs:=C 243 [Vy a,I a1] []
def ZtO:RawF (Zi 369 Tryz.f369):={ m:=_ }
def ZtP:MCode:=cut0 ZtO 15
def ZtQ:MCode:=cut0 ZtO 31
def Z1Y:MFun:=Z3 ZtO 15 ZtP 31 ZtQ
def ZhD(a:Zj)(a1:V6):Rs:=C 369 [gaO a.c,Z2 a1] []
def ZhE(c:V6)(i:Int):Rs:=lp C [.blk 0,.seq ZtQ,.fin 0 [.tmp 4]] [1,5] ZtP [Z2 c,I i] []
def Z1Z:MFun:=mkF (Zi 370 Tryz.f370)
def Zlz(a:Za)(a1:Int)(a2:List Zt)(a3:Int)(a4:V6):Rs:=C 370 [gaO a.c,I a1,L 4 (a2.map Zt.c),I a3,Z2 a4] []
def ZtR:RawF (Zi 332 Tryz.f332):={ m:=_ }
def ZtS:MCode:=cut0 ZtR 19
def ZtT:MCode:=cut0 ZtR 29
def Z2a:MFun:=Z3 ZtR 19 ZtS 29 ZtT
def Zl0(a:Za)(a1:Zj)(a2:Zg)(a3:V6):Rs:=C 332 [gaO a.c,gaO a1.c,gaO a2.c,Z2 a3] []
def ZhF(m:Za)(p:Zg)(cl:V6)(cd:List Zt)(cc:V6)(i:Int):Rs:=lp C [.blk 0,.seq ZtT,.fin 0 [.tmp 8]] [3,4,6,9,10,12] ZtS [Z2 cc,.ptr 0 0,.ptr 1 0,.own 2,.own 3,I i] [gbO m.c,gbO p.c,ZB cl,Zbi cd]
def ZtU:RawF (Zi 305 Tryz.f305):={ m:=_ }
def ZtV:MCode:=cut0 ZtU 19
def ZtW:MCode:=cut0 ZtU 29
def Z2b:MFun:=Z3 ZtU 19 ZtV 29 ZtW
def Zl1(a:Za)(a1:Zj)(a2:Zg)(a3:V6):Rs:=C 305 [gaO a.c,gaO a1.c,gaO a2.c,Z2 a3] []
def ZhG(l:V6)(n i:Int):Rs:=lp C [.blk 0,.seq ZtW,.fin 0 [.tmp 8]] [9,10,11] ZtV [.own 0,I n,I i] [ZB l]
def Z2c:MFun:=mkF (Zi 247 Tryz.f247)
def Zl2(a:Za)(a1:Zj)(a2:Zg)(a3:V6):Rs:=C 247 [gaO a.c,gaO a1.c,gaO a2.c,Z2 a3] []
def Z2d:MFun:=mkF (Zi 177 Tryz.f177)
def Zl3(a:Za)(a1:Zj)(a2:Region):Rs:=C 177 [gaO a.c,gaO a1.c,gaO a2.c] []
def Z2e:MFun:=mkF (Zi 107 Tryz.f107)
def Zl4(a:Za)(a1:Zj)(a2:Region):Rs:=C 107 [gaO a.c,gaO a1.c,gaO a2.c] []
def ZhH:RawF (Zi 53 Tryz.f53):={ m:=_ }
def ZtX:MCode:=cut0 ZhH 29
def ZtY:MCode:=cut0 ZhH 45
def Zl5:MCode:=cut2 ZhH 7 22 ZtX 38 ZtY
def ZtZ:MCode:=cut0 ZhH 46
def Z2f:MFun:=Z3 ZhH 7 Zl5 46 ZtZ
def Zef(a:Za)(a1:ZH):Rs:=C 53 [gaO a.c,gaO a1.c] []
def Zua:List Fr:=[.blk 0,.seq ZtZ,.fin 0 [.tmp 4]]
def Zeg(m:Za)(c:ZH)(i:Int):Rs:=lp C Zua [2,3,5] Zl5 [.ptr 0 0,.ptr 1 0,I i] [gbO m.c,gbO c.c]
def ZhI(m:Za)(c:ZH)(e:Zo)(i k:Int):Rs:=lp C (.blk 2::.blk 1::.seq ZtY::.loop [2,3,5] Zl5::Zua) [2,3,5,6,7] ZtX [.ptr 0 0,.ptr 1 0,I i,.ptr 2 0,I k] [gbO m.c,gbO c.c,gbO e.c]
def Z2g:MFun:=mkF (Zi 20 Tryz.f20)
def ZhJ(a:ZJ):Rs:=C 20 [gaO a.c] []
def Zub:RawF (Zi 180 Tryz.f180):={ m:=_ }
def Zuc:MCode:=cut0 Zub 7
def Zud:MCode:=cut0 Zub 23
def Z2h:MFun:=Z3 Zub 7 Zuc 23 Zud
def ZhK(a:Zc)(a1:V6):Rs:=C 180 [gaO a.c,Z2 a1] []
def ZhL(t:Zc)(cc:V6)(i:Int):Rs:=lp C [.blk 0,.seq Zud,.fin 0 [.tmp 4]] [1,2,5] Zuc [Z2 cc,.ptr 0 0,I i] [gbO t.c]
def Z2i:MFun:=mkF (Zi 109 Tryz.f109)
def ZhM(a:Zc)(a1:V6):Rs:=C 109 [gaO a.c,Z2 a1] []
def Zl6:RawF (Zi 110 Tryz.f110):={ m:=_ }
def Z2j:MCode:=cut0 Zl6 32
def Zue:MCode:=cut1 Zl6 19 13 Z2j
def Zuf:MCode:=cut0 Zl6 33
def Z2k:MFun:=Z3 Zl6 19 Zue 33 Zuf
def ZhN(a:Zc)(a1:V6):Rs:=C 110 [gaO a.c,Z2 a1] []
def ZhO(t:Zc)(cd:UP)(Arity:Int)(cc:UP)(Arity1:Int)(x:V4)(cl:V6)(i:Int):Rs:=lp C [.blk 0,.seq Zuf,.fin 0 [.cellO 4 (some 3) [none,none,some (42,1)],.tmpO 5 [none]]] [1,2,4,6,7] Zue [Z2 cl,.ptr 0 0,.ptr 1 0,.ptr 2 0,I i] [gbO t.c,.box [.t (.str cd),I Arity,.t .nil],.box [.t (.str cc),I Arity1,.own 3],Xl x]
def ZhP:Rs:=C 114 [.agg [.t .nil]] []
def ZhQ:RawF (Zi 111 Tryz.f111):={ m:=_ }
def Z2l:MCode:=cut0 ZhQ 37
def Zug:MCode:=cut1 ZhQ 19 18 Z2l
def Z2m:MCode:=cut0 ZhQ 53
def Zuh:MCode:=cut1 ZhQ 45 8 Z2m
def Z2n:MFun:=Z3 ZhQ 19 Zug 45 Zuh
def ZhR(a:Zl)(a1:Zc):Rs:=C 111 [gaO a.c,gaO a1.c] []
def Zui:=lp C [.blk 0,.seq Zuh,.fin 0 [.cellO 4 (some 1) [some (179,3)],.tmpO 5 [none]]] [2,3,4,6,7,8] Zug
def Zeh(d:Zl)(t:Zc)(cc:Bool)(i:Int):Rs:=Zui [.ptr 0 0,.ptr 1 0,.ptr 2 0,.ptr 3 0,Bo cc,I i] [gbO d.c,gbO t.c,.box [.t .nil],.box [.t .nil]]
def Qg(d:Zl)(t:Zc)(x:List Zc)(cc:Bool)(i:Int):Rs:=Zui [.ptr 0 0,.ptr 1 0,.ptr 2 0,.ptr 3 0,Bo cc,I i] [gbO d.c,gbO t.c,.box [.t .nil],.box [.own 4],.arr 179 3 true (x.map Zc.c)]
def Z2o:RawF (Zi 55 Tryz.f55):={ m:=_ }
def Z2p:MCode:=cut0 Z2o 22
def Z2q:MFun:=XH Z2o 22 Z2p
def Zl8(a:Zl)(a1:ZR):Rs:=C 55 [gaO a.c,gaO a1.c] []
def Z2r:MFun:=mkF (Zi 21 Tryz.f21)
def Zl9(a:Zs)(a1:ZR):Rs:=C 21 [gaO a.c,gaO a1.c] []
def ZlA:RawF (Zi 22 Tryz.f22):={ m:=_ }
def Z2s:MCode:=cut0 ZlA 32
def Zuj:MCode:=cut1 ZlA 17 15 Z2s
def Zuk:MCode:=cut0 ZlA 33
def Z2t:MFun:=Z3 ZlA 17 Zuj 33 Zuk
def ZlB(a:Za)(a1:ZH)(a2:Int):Rs:=C 22 [gaO a.c,gaO a1.c,I a2] []
def Zul:=lp C [.blk 0,.seq Zuk,.fin 0 [.cellO 6 (some 2) [none,some (8,0)],.tmpO 7 [none]]] [2,4,6,8,9] Zuj
def ZhS(c:ZH)(Clock Clock1 version i:Int):Rs:=Zul [I version,.ptr 0 0,.ptr 1 0,.ptr 2 0,I i] [gbO c.c,.box [I Clock,.t .nil],.box [I Clock1,.t .nil]]
def Zei(c:ZH)(Clock Clock1:Int)(fr:Bool)(x:List Zo)(version i:Int):Rs:=Zul [I version,.ptr 0 0,.ptr 1 0,.ptr 2 0,I i] [gbO c.c,.box [I Clock,.t .nil],.box [I Clock1,.own 3],.arr 128 8 fr (x.map Zo.c)]
def Z2u:MFun:=mkF (Zi 6 Tryz.f6)
def ZlC(a:ZJ)(a1:ZR):Rs:=C 6 [.agg (a.c.map .t),.agg (a1.c.map .t)] []
def Za2:RawF (Zi 221 Tryz.f221):={ m:=_ }
def Zum:MCode:=cut0 Za2 17
def Z2v:MCode:=cut0 Za2 69
def Zun:MCode:=cut1 Za2 54 15 Z2v
def Zuo:MCode:=cut0 Za2 70
def ZlD:MCode:=cut2 Za2 40 14 Zun 30 Zuo
def Zup:MCode:=cut0 Za2 71
def Zuq:MCode:=cut2 Za2 31 9 ZlD 40 Zup
def Z2w:MFun:=Z3 Za2 17 Zum 31 Zuq
def ZlE(a:Zc)(a1:V6):Rs:=C 221 [.agg (a.c.map .t),L 1 (a1.map ic)] []
def J8(all:V4)(c:V6)(x:V4)(x1 x2:Int):Rs:=lp C [.blk 0,.seq Zuq,.fin 0 [.tmp 4,.tmp 5]] [1,6,29,30,31] Zum [Z2 c,.own 0,WG x,I x1,I x2] [Xl all]
def ZlF:List Fr:=[.blk 2,.seq Zup,.fin 0 [.tmp 4,.tmp 5]]
def ZbX(all cc:V4)(c:V6)(x x1:Int):Rs:=lp C ZlF [6,11,12,51,52,53] ZlD [.own 0,.own 1,.own 2,.own 1,I x,I x1] [Xl all,Xl cc,ZB c]
def Zej(all cc:V4)(c:V6)(i:Int)(g:V6)(x x1 x2 x3:Int):Rs:=lp C (.blk 4::.blk 3::.seq Zuo::.loop [6,11,12,51,52,53] ZlD::ZlF) [6,11,12,13,14,51,52,53,58,59,60] Zun [.own 0,.own 1,.own 2,I i,Z2 g,.own 1,I x,I x1,.own 0,I x2,I x3] [Xl all,Xl cc,ZB c]
def ZlG:RawF (Zi 283 Tryz.f283):={ m:=_ }
def Z2x:MCode:=cut0 ZlG 22
def Zur:MCode:=cut1 ZlG 9 13 Z2x
def Zus:MCode:=cut0 ZlG 23
def Z2y:MFun:=Z3 ZlG 9 Zur 23 Zus
def Kj(a:Int):Rs:=C 283 [I a] []
def ZhT(c:V6)(set i:Int):Rs:=lp C [.blk 0,.seq Zus,.fin 0 [.tmp 2]] [0,3,4] Zur [I set,.own 0,I i] [ZB c]
def Zut:RawF (Zi 220 Tryz.f220):={ m:=_ }
def Zuu:MCode:=cut0 Zut 17
def Zuv:MCode:=cut0 Zut 27
def Z2z:MFun:=Z3 Zut 17 Zuu 27 Zuv
def ZlH(a:Int):Rs:=C 220 [I a] []
def ZbY(c:V4)(arity set:Int):Rs:=lp C [.blk 0,.seq Zuv,.fin 0 [.tmp 2]] [0,3,4] Zuu [I arity,.own 0,I set] [Xl c]
def Z20:MFun:=mkF (Zi 128 Tryz.f128)
def Zuw(a:Z0):Rs:=C 128 [.agg (a.c.map .t)] []
end
