/-
  Parts of the proofs for this seat: D4.
-/
import Derived.Test.YthpdbpfamhcgiaaGreatP8
set_option linter.all false
set_option maxRecDepth 100000
set_option maxHeartbeats 4000000
set_option cbv.maxSteps 9999999
namespace Go.Proofs.YthpdbpfamhcgiaaGreat
open Go.AM
noncomputable section
def Zzd:RawF (Zi 55 Tryz.f55):={ m:=_ }
def Zze:Zc:=cut0 Zzd 7
def Zzf:Zc:=cut0 Zzd 33
def Z7V:MFun:=Z0 Zzd 7 Zze 33 Zzf
def Zg9(a:Zn)(a1:Zp)(a2:Zf)(a3:ZM)(a4:List ZR):Rs:=C 55 [gaO a.c,gaO a1.c,gaO a2.c,gaO a3.c,UQ a4] []
def ZgA(m:Zn)(d:Zp)(q:Zf)(b:ZM)(l:List ZR)(i:Int):Rs:=lp C [.blk 0,.seq Zzf,.fin 0 [.tmp 10]] [4,5,6,7,8,11] Zze [UQ l,.ptr 0 0,.ptr 1 0,.ptr 2 0,.ptr 3 0,I i] [gbO m.c,gbO d.c,gbO q.c,gbO b.c]
def Zzg:RawF (Zi 141 Tryz.f141):={ m:=_ }
def Zzh:Zc:=cut0 Zzg 9
def Zzi:Zc:=cut0 Zzg 19
def Z7W:MFun:=Z0 Zzg 9 Zzh 19 Zzi
def ZoP(a:ZM):Rs:=C 141 [gaO a.c] []
def Zle(b:ZM)(n i:Int):Rs:=lp C [.blk 0,.seq Zzi,.fin 0 [.tmp 2]] [1,3,4] Zzh [.ptr 0 0,I n,I i] [gbO b.c]
def Z7X:MFun:=mkF (Zi 236 Tryz.f236)
def ZdS(a:Int):Rs:=C 236 [I a] []
def Zzj:RawF (Zi 235 Tryz.f235):={ m:=_ }
def Zzk:Zc:=cut0 Zzj 5
def Zzl:Zc:=cut0 Zzj 17
def Z7Y:MFun:=Z0 Zzj 5 Zzk 17 Zzl
def ZdT(a a1:Int):Rs:=C 235 [I a,I a1] []
def ZgB(a b:Int):Rs:=lp C [.blk 0,.seq Zzl,.fin 0 [.tmp 4]] [0,1] Zzk [I a,I b] []
def Z7Z:MFun:=mkF (Zi 143 Tryz.f143)
def ZbJ(a:XO):Rs:=C 143 [gaO a.c] []
def Z8a:RawF (Zi 142 Tryz.f142):={ m:=_ }
def Z8b:Zc:=cut0 Z8a 18
def Z8c:MFun:=Kd Z8a 18 Z8b
def ZgC(a a1:Int):Rs:=C 142 [I a,I a1] []
def Z8d:MFun:=mkF (Zi 56 Tryz.f56)
def ZgD(a:ZM):Rs:=C 56 [gaO a.c] []
def Z8e:MFun:=mkF (Zi 317 Tryz.f317)
def ZoQ(a:Zp)(a1:Zf)(a2:Int):Rs:=C 317 [gaO a.c,gaO a1.c,I a2] []
def ZoR:RawF (Zi 237 Tryz.f237):={ m:=_ }
def Z8f:Zc:=cut0 ZoR 25
def Zzm:Zc:=cut1 ZoR 9 16 Z8f
def Zzn:Zc:=cut0 ZoR 27
def Z8g:MFun:=Z0 ZoR 9 Zzm 27 Zzn
def Zlf(a:Zp)(a1:Zf):Rs:=C 237 [gaO a.c,gaO a1.c] []
def ZgE(d:Zp)(q:Zf)(cc:V6)(m:Int):Rs:=lp C [.blk 0,.seq Zzn,.fin 0 [.tmp 4]] [2,3,5,6] Zzm [.ptr 0 0,.ptr 1 0,.own 2,I m] [gbO d.c,gbO q.c,Zy cc]
def Zzo:RawF (Zi 144 Tryz.f144):={ m:=_ }
def Zzp:Zc:=cut0 Zzo 11
def Zzq:Zc:=cut0 Zzo 21
def Z8h:MFun:=Z0 Zzo 11 Zzp 21 Zzq
def Zlg(a:Zp)(a1:Zf):Rs:=C 144 [gaO a.c,gaO a1.c] []
def Zlh(c l:V6)(i:Int):Rs:=lp C [.blk 0,.seq Zzq,.fin 0 [.tmp 4]] [5,6,7] Zzp [.own 0,.own 1,I i] [Zy c,Zy l]
def Zzr:RawF (Zi 180 Tryz.f180):={ m:=_ }
def Zzs:Zc:=cut0 Zzr 9
def Zzt:Zc:=cut0 Zzr 19
def Z8i:MFun:=Z0 Zzr 9 Zzs 19 Zzt
def Zli(a:V6):Rs:=C 180 [Zw a] []
def Zlj(c l:V6)(i:Int):Rs:=lp C [.blk 0,.seq Zzt,.fin 0 [.tmp 2]] [0,3,4] Zzs [Zw l,.own 0,I i] [Zy c]
def Zzu:RawF (Zi 388 Tryz.f388):={ m:=_ }
def Zzv:Zc:=cut0 Zzu 15
def Zzw:Zc:=cut0 Zzu 31
def Z8j:MFun:=Z0 Zzu 15 Zzv 31 Zzw
def Zlk(a:Zf)(a1:V6):Rs:=C 388 [gaO a.c,Zw a1] []
def Zll(c:V6)(i:Int):Rs:=lp C [.blk 0,.seq Zzw,.fin 0 [.tmp 4]] [1,5] Zzv [Zw c,I i] []
def ZoS:RawF (Zi 422 Tryz.f422):={ m:=_ }
def Z8k:Zc:=cut0 ZoS 24
def Zzx:Zc:=cut1 ZoS 11 13 Z8k
def Zzy:Zc:=cut0 ZoS 25
def Z8l:MFun:=Z0 ZoS 11 Zzx 25 Zzy
def Zlm(a:Zf):Rs:=C 422 [gaO a.c] []
def ZgF(q:Zf)(cd:V6)(cc m:Int):Rs:=lp C [.blk 0,.seq Zzy,.fin 0 [.tmp 2]] [1,3,4,5] Zzx [.ptr 0 0,.own 1,I cc,I m] [gbO q.c,Zy cd]
def ZoT:RawF (Zi 423 Tryz.f423):={ m:=_ }
def Z8m:Zc:=cut0 ZoT 30
def Zzz:Zc:=cut1 ZoT 17 13 Z8m
def Zz0:Zc:=cut0 ZoT 31
def Z8n:MFun:=Z0 ZoT 17 Zzz 31 Zz0
def ZoU(a:Zf)(a1:Int):Rs:=C 423 [gaO a.c,I a1] []
def ZdU(q:Zf)(cd:V6)(cc m:Int):Rs:=lp C [.blk 0,.seq Zz0,.fin 0 [.tmp 4]] [1,2,5,6] Zzz [I cc,.ptr 0 0,.own 1,I m] [gbO q.c,Zy cd]
def ZoV:RawF (Zi 424 Tryz.f424):={ m:=_ }
def Z8o:Zc:=cut0 ZoV 26
def Zz1:Zc:=cut1 ZoV 13 13 Z8o
def Zz2:Zc:=cut0 ZoV 27
def Z8p:MFun:=Z0 ZoV 13 Zz1 27 Zz2
def ZdV(a:Zf)(a1 a2:Int):Rs:=C 424 [gaO a.c,I a1,I a2] []
def ZgG(c x y:V6)(i:Int):Rs:=lp C [.blk 0,.seq Zz2,.fin 0 [.tmp 6]] [7,8,9,10] Zz1 [.own 0,.own 1,.own 2,I i] [Zy c,Zy x,Zy y]
def ZgH:RawF (Zi 390 Tryz.f390):={ m:=_ }
def ZoW:Zc:=cut0 ZgH 26
def ZoX:Zc:=cut0 ZgH 36
def ZoY:Zc:=cut0 ZgH 37
def ZoZ:Zc:=cut3 ZgH 11 15 ZoW 25 ZoX 26 ZoY
def Zz3:Zc:=cut0 ZgH 38
def Z8q:MFun:=Z0 ZgH 11 ZoZ 38 Zz3
def Zln(a:Zf):Rs:=C 390 [gaO a.c] []
def Zpa:List Fr:=[.blk 0,.seq Zz3,.fin 0 [.tmp 2]]
def Za8(q:Zf)(cd:List X5)(cc:V6)(i:Int):Rs:=lp C Zpa [1,3,4,5] ZoZ [.ptr 0 0,.own 1,.own 2,I i] [gbO q.c,.arr 442 3 true (cd.map X5.c),Zy cc]
def Zpb:=lp C (.blk 2::.seq ZoX::.blk 1::.seq ZoY::.loop [1,3,4,5] ZoZ::Zpa) [1,3,4,5,6,7] ZoW
def Zpc(q:Zf)(cl:List X5)(cc:V6)(cd:Int)(x:V6)(i k:Int):Rs:=Zpb [.ptr 0 0,.own 1,.own 2,I i,.ptr 3 0,I k] [gbO q.c,.arr 442 3 true (cl.map X5.c),Zy cc,.box [I cd,.own 4,.t .nil],Zy x]
def ZgI(q:Zf)(cl:List X5)(cc:V6)(cd:Int)(x:V6)(x1:V4)(i k:Int):Rs:=Zpb [.ptr 0 0,.own 1,.own 2,I i,.ptr 3 0,I k] [gbO q.c,.arr 442 3 true (cl.map X5.c),Zy cc,.box [I cd,.own 4,.own 5],Zy x,ZI x1]
def Zpd:RawF (Zi 419 Tryz.f419):={ m:=_ }
def Z8r:Zc:=cut0 Zpd 22
def Zz4:Zc:=cut1 Zpd 9 13 Z8r
def Zz5:Zc:=cut0 Zpd 23
def Z8s:MFun:=Z0 Zpd 9 Zz4 23 Zz5
def Zlo(a:Int):Rs:=C 419 [I a] []
def ZgJ(cc:V6)(c i:Int):Rs:=lp C [.blk 0,.seq Zz5,.fin 0 [.tmp 2]] [0,3,4] Zz4 [I c,.own 0,I i] [Zy cc]
def Z8t:MFun:=mkF (Zi 420 Tryz.f420)
def Zlp(a:Int):Rs:=C 420 [I a] []
def Zpe:RawF (Zi 387 Tryz.f387):={ m:=_ }
def Z8u:Zc:=cut0 Zpe 22
def Zz6:Zc:=cut1 Zpe 9 13 Z8u
def Zz7:Zc:=cut0 Zpe 23
def Z8v:MFun:=Z0 Zpe 9 Zz6 23 Zz7
def Za9(a:List Zd)(a1:Int):Rs:=C 387 [Ul a,I a1] []
def ZgK(l:List Zd)(cc c i:Int):Rs:=lp C [.blk 0,.seq Zz7,.fin 0 [.tmp 4]] [0,1,5,6] Zz6 [Ul l,I cc,I c,I i] []
def Z8w:MFun:=mkF (Zi 464 Tryz.f464)
def ZbK(a a1:Zg)(a2 a3:Int):Rs:=C 464 [gaO a.c,gaO a1.c,I a2,I a3] []
def Zz8:MFun:=mkF (Zi 449 Tryz.f449)
def ZdW(x:V6)(x1:List Zd)(a:Zn)(a1 a2:Zd)(a3 a4 a5:Int):Rs:=C 449 [gaO a.c,.own 0,.own 1,gaO a1.c,gaO a2.c,I a3,I a4,I a5] [Zy x,Zab x1]
def Zz9:RawF (Zi 450 Tryz.f450):={ m:=_ }
def ZzA:Zc:=cut0 Zz9 7
def ZzB:Zc:=cut0 Zz9 23
def Z8x:MFun:=Z0 Zz9 7 ZzA 23 ZzB
def ZdX(a:List Zd)(a1 a2:Int):Rs:=C 450 [Ul a,I a1,I a2] []
def Zlq(l:List Zd)(cc c i:Int):Rs:=lp C [.blk 0,.seq ZzB,.fin 0 [.tmp 6]] [0,1,2,7] ZzA [Ul l,I cc,I c,I i] []
def Z8y:MFun:=mkF (Zi 465 Tryz.f465)
def ZgL(a:Zg)(a1:Int):Rs:=C 465 [gaO a.c,I a1] []
def Z8z:MFun:=mkF (Zi 451 Tryz.f451)
def Zlr(x:V6)(x1:List Zd)(x2:List Zj)(a:Zn)(a1:Zd)(cl cc cd a2 a3 a4:Int):Rs:=C 449 [gaO a.c,.own 0,.own 1,gaO a1.c,.agg [I cl,I cc,I cd,.own 2],I a2,I a3,I a4] [Zy x,Zab x1,Zcw x2]
def Zls(x:V6)(x1:List Zd)(x2:List Zj)(a:Zn)(cl cc cd:Int)(a1:Zd)(a2 a3 a4:Int):Rs:=C 449 [gaO a.c,.own 0,.own 1,.agg [I cl,I cc,I cd,.own 2],gaO a1.c,I a2,I a3,I a4] [Zy x,Zab x1,Zcw x2]
def Zlt(x:V6)(x1:List Zd)(x2 x3:List Zj)(a:Zn)(cp cn co cl cc cd a1 a2 a3:Int):Rs:=C 449 [gaO a.c,.own 0,.own 1,.agg [I cp,I cn,I co,.own 2],.agg [I cl,I cc,I cd,.own 3],I a1,I a2,I a3] [Zy x,Zab x1,Zcw x2,Zcw x3]
def Jb:RawF (Zi 421 Tryz.f421):={ m:=_ }
def Z80:Zc:=cut0 Jb 47
def ZzC:Zc:=cut1 Jb 32 15 Z80
def ZzD:Zc:=cut0 Jb 52
def ZzE:Zc:=cut1 Jb 48 4 ZzD
def Zpf:Zc:=cut0 Jb 64
def Zlu:Zc:=cut3 Jb 9 23 ZzC 39 ZzE 55 Zpf
def Z81:Zc:=cut0 Jb 85
def ZzF:Zc:=cut1 Jb 72 13 Z81
def ZzG:Zc:=cut0 Jb 86
def Zlv:Zc:=cut2 Jb 65 7 ZzF 21 ZzG
def Z82:MFun:=Z0 Jb 9 Zlu 65 Zlv
def ZgM(x:V6)(fr:Bool)(x1:List Zd)(a:Zn)(a1 a2:Int):Rs:=C 451 [gaO a.c,.own 0,.own 1,I a1,I a2] [Zy x,.arr 328 4 fr (x1.map Zd.c)]
def Zpg(x:V6)(fr:Bool)(x1:List Zd)(a:Zn)(a1:X5):Rs:=C 421 [gaO a.c,.own 0,.own 1,gaO a1.c] [Zy x,.arr 328 4 fr (x1.map Zd.c)]
def ZgN(cc:V6)(fr:Bool)(l:List Zd)(m:Zn)(x:X5)(cd:List Zd)(k:Int):Rs:=EvL C [.blk 0,.seq Zlv,.fin 2 [.tmp 8]] [1,2,4,7,9,10] Zlu ⟨[(1,.own 0),(2,.own 1),(4,.ptr 2 0),(7,.ptr 3 0),(9,.own 4),(10,I k)],[[(0,.own 0),(1,.own 1)]],[Zy cc,.arr 328 4 fr (l.map Zd.c),gbO m.c,gbO x.c,Zab cd]⟩
def ZgO(cd:V6)(fr:Bool)(l:List Zd)(m:Zn)(x:X5)(cn:List Zd)(b:Zd)(k cl cc o:Int):Rs:=EvL C [.blk 2,.seq ZzE,.blk 1,.seq Zpf,.loop [1,2,4,7,9,10] Zlu,.blk 0,.seq Zlv,.fin 2 [.tmp 8]] [1,2,4,7,9,10,11,12,14,15] ZzC ⟨[(1,.own 0),(2,.own 1),(4,.ptr 2 0),(7,.ptr 3 0),(9,.own 4),(10,I k),(11,I cl),(12,I cc),(14,.ptr 5 0),(15,I o)],[[(0,.own 0),(1,.own 1)]],[Zy cd,.arr 328 4 fr (l.map Zd.c),gbO m.c,gbO x.c,Zab cn,gbO b.c]⟩
def ZdY(cc:List Zd)(fr:Bool)(cl:List Zd)(x:V6)(cd:Bool)(x1:List Zd)(o:Int):Rs:=EvL C [.blk 6,.seq ZzG,.fin 2 [.tmp 8]] [9,19,20] ZzF ⟨[(9,.own 0),(19,.own 1),(20,I o)],[[(0,.own 2),(1,.own 3)]],[Zab cc,.arr 328 4 fr (cl.map Zd.c),Zy x,.arr 328 4 cd (x1.map Zd.c)]⟩
def ZaA(cd:V6)(fr:Bool)(l:List Zd)(m:Zn)(x:X5)(cn:List Zd)(k cl cc e:Int):Rs:=EvL C [.blk 4,.blk 1,.seq Zpf,.loop [1,2,4,7,9,10] Zlu,.blk 0,.seq Zlv,.fin 2 [.tmp 8]] [1,2,4,7,9,10,11,12,17] ZzD ⟨[(1,.own 0),(2,.own 1),(4,.ptr 2 0),(7,.ptr 3 0),(9,.own 4),(10,I k),(11,I cl),(12,I cc),(17,I e)],[[(0,.own 0),(1,.own 1)]],[Zy cd,.arr 328 4 fr (l.map Zd.c),gbO m.c,gbO x.c,Zab cn]⟩
def Zph:RawF (Zi 389 Tryz.f389):={ m:=_ }
def Z83:Zc:=cut0 Zph 30
def ZzH:Zc:=cut1 Zph 9 21 Z83
def ZzI:Zc:=cut0 Zph 31
def Z84:MFun:=Z0 Zph 9 ZzH 31 ZzI
def Zpi(x:List X5)(x1:V6)(a:Zn)(a1:Zf):Rs:=C 389 [gaO a.c,gaO a1.c,.own 0,.own 1] [.arr 442 3 true (x.map X5.c),Zy x1]
def ZgP(cc:List X5)(cd:V6)(m:Zn)(q:Zf)(fr:Bool)(cl:List Zd)(i:Int):Rs:=EvL C [.blk 0,.seq ZzI,.fin 2 [.tmp 8]] [2,3,4,5,9,10] ZzH ⟨[(2,.own 0),(3,.own 1),(4,.ptr 2 0),(5,.ptr 3 0),(9,.own 4),(10,I i)],[[(0,.own 0),(1,.own 1)]],[.arr 442 3 true (cc.map X5.c),Zy cd,gbO m.c,gbO q.c,.arr 328 4 fr (cl.map Zd.c)]⟩
def Z85:MFun:=mkF (Zi 341 Tryz.f341)
def Zpj(x:V6)(a:Zn)(a1:Zf):Rs:=C 341 [gaO a.c,gaO a1.c,.own 0] [Zy x]
def Z86:MFun:=mkF (Zi 340 Tryz.f340)
def ZbL(a:List Zd)(a1:Int):Rs:=C 340 [Ul a,I a1] []
def Z87:MFun:=mkF (Zi 268 Tryz.f268)
def Zpk(x:V6)(a:Zn)(a1:Zf):Rs:=C 268 [gaO a.c,gaO a1.c,.own 0] [Zy x]
def Z88:MFun:=mkF (Zi 179 Tryz.f179)
def ZzJ(x:V6)(a:Zn)(a1:Zf):Rs:=C 179 [gaO a.c,gaO a1.c,.own 0] [Zy x]
def Z89:MFun:=mkF (Zi 96 Tryz.f96)
def Zlw(a:Zn)(a1:Zf)(a2:V6):Rs:=C 96 [gaO a.c,gaO a1.c,Zw a2] []
def Z8A:MFun:=mkF (Zi 58 Tryz.f58)
def Zlx(a:Zn)(a1:Zp)(a2:Zf):Rs:=C 58 [gaO a.c,gaO a1.c,gaO a2.c] []
def Z8B:MFun:=mkF (Zi 57 Tryz.f57)
def Zly(a:Int)(a1:XO)(a2:Int):Rs:=C 57 [I a,gaO a1.c,I a2] []
def Z8C:MFun:=mkF (Zi 10 Tryz.f10)
def ZgQ(a:Zn)(a1:Xr)(a2:Zf)(a3:ZM)(a4:Wj):Rs:=C 10 [.agg (a.c.map .t),.agg (a1.c.map .t),.agg (a2.c.map .t),.agg (a3.c.map .t),.agg (a4.c.map .t)] []
end
