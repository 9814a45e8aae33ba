/-
  Parts of the proofs for this seat: D3.
-/
import Derived.Test.YtnnjbejcffjgfaaGreatP7
set_option linter.unusedSimpArgs false
set_option linter.unusedVariables false
set_option maxRecDepth 100000
set_option maxHeartbeats 4000000
set_option cbv.maxSteps 9999999
namespace Go.Proofs.YtnnjbejcffjgfaaGreat
open Go.AM
noncomputable section
def Zi7:RawF (rawF 238 Tryz.f238):={ m:=_ }
def Zze:MCode:=cut0 Zi7 19
def Zzf:MCode:=cut0 Zi7 51
def Zzg:MCode:=cut0 Zi7 61
def Zzh:MCode:=cut0 Zi7 66
def Zli:MCode:=cut3 Zi7 36 15 Zzf 25 Zzg 30 Zzh
def Zlj:MCode:=cut0 Zi7 67
def Zzi:MCode:=cut2 Zi7 31 5 Zli 36 Zlj
def Zbmi:MFun:=Zev Zi7 19 Zze 31 Zzi
def Ztz(a:Program):Rs:=C 238 [.agg (a.c.map .t)] []
def Z9l(p:Program)(cd cc:Za)(n k:Int):Rs:=EvL C [.blk 0,.seq Zzi,.fin 0 [.cellO 2 (some 7) [some (3,1),some (3,1),some (179,1),some (149,2),some (149,2),none,none],.tmpO 3 [none]]] [1,2,4,5,6] Zze ⟨[(1,.ptr 0 0),(2,.ptr 1 0),(4,I n),(5,.ptr 2 0),(6,I k)],[[]],[.box (p.c.map .t),.box [.t .nil,.t .nil,.t .nil,.t .nil,.t .nil,I cd.Num,I cd.Den],.box [.t .nil,.t .nil,.t .nil,.t .nil,.t .nil,I cc.Num,I cc.Den]]⟩
def Zt0(p:Program)(cd cc:Za)(x:List Int)(x1:List Za)(n k:Int):Rs:=EvL C [.blk 0,.seq Zzi,.fin 0 [.cellO 2 (some 7) [some (3,1),some (3,1),some (179,1),some (149,2),some (149,2),none,none],.tmpO 3 [none]]] [1,2,4,5,6] Zze ⟨[(1,.ptr 0 0),(2,.ptr 1 0),(4,I n),(5,.ptr 2 0),(6,I k)],[[]],[.box (p.c.map .t),.box [.t .nil,.t .nil,.t .nil,.t .nil,.t .nil,I cd.Num,I cd.Den],.box [.t .nil,.own 3,.t .nil,.t .nil,.own 4,I cc.Num,I cc.Den],.arr 3 1 true (x.map ic),.arr 149 2 true (x1.map Za.c)]⟩
def Zbmj(p:Program)(cd cc:Za)(n i:Int):Rs:=EvL C [.blk 2,.seq Zlj,.fin 0 [.cellO 2 (some 7) [some (3,1),some (3,1),some (179,1),some (149,2),some (149,2),none,none],.tmpO 3 [none]]] [1,2,4,5,7] Zli ⟨[(1,.ptr 0 0),(2,.ptr 1 0),(4,I n),(5,.ptr 2 0),(7,I i)],[[]],[.box (p.c.map .t),.box [.t .nil,.t .nil,.t .nil,.t .nil,.t .nil,I cd.Num,I cd.Den],.box [.t .nil,.t .nil,.t .nil,.t .nil,.t .nil,I cc.Num,I cc.Den]]⟩
def Z9m(p:Program)(cd cc:Za)(x:List Int)(x1:List Za)(n i:Int):Rs:=EvL C [.blk 2,.seq Zlj,.fin 0 [.cellO 2 (some 7) [some (3,1),some (3,1),some (179,1),some (149,2),some (149,2),none,none],.tmpO 3 [none]]] [1,2,4,5,7] Zli ⟨[(1,.ptr 0 0),(2,.ptr 1 0),(4,I n),(5,.ptr 2 0),(7,I i)],[[]],[.box (p.c.map .t),.box [.t .nil,.t .nil,.t .nil,.t .nil,.t .nil,I cd.Num,I cd.Den],.box [.t .nil,.own 3,.t .nil,.t .nil,.own 4,I cc.Num,I cc.Den],.arr 3 1 true (x.map ic),.arr 149 2 true (x1.map Za.c)]⟩
def Zt1(p:Program)(cd cc:Za)(x:List Int)(x1 cl:List Za)(n i k:Int):Rs:=EvL C [.blk 4,.seq Zzg,.blk 3,.seq Zzh,.loop [1,2,4,5,7] Zli,.blk 2,.seq Zlj,.fin 0 [.cellO 2 (some 7) [some (3,1),some (3,1),some (179,1),some (149,2),some (149,2),none,none],.tmpO 3 [none]]] [1,2,4,5,7,8,9] Zzf ⟨[(1,.ptr 0 0),(2,.ptr 1 0),(4,I n),(5,.ptr 2 0),(7,I i),(8,.own 5),(9,I k)],[[]],[.box (p.c.map .t),.box [.t .nil,.t .nil,.t .nil,.t .nil,.t .nil,I cd.Num,I cd.Den],.box [.t .nil,.own 3,.t .nil,.t .nil,.own 4,I cc.Num,I cc.Den],.arr 3 1 true (x.map ic),.arr 149 2 true (x1.map Za.c),.arr 149 2 true (cl.map Za.c)]⟩
def Zlk(p:Program)(cd cc:Za)(x x1:List Int)(x2:List (List Za))(x3 x4:List Za)(n i:Int):Rs:=EvL C [.blk 2,.seq Zlj,.fin 0 [.cellO 2 (some 7) [some (3,1),some (3,1),some (179,1),some (149,2),some (149,2),none,none],.tmpO 3 [none]]] [1,2,4,5,7] Zli ⟨[(1,.ptr 0 0),(2,.ptr 1 0),(4,I n),(5,.ptr 2 0),(7,I i)],[[]],[.box (p.c.map .t),.box [.t .nil,.t .nil,.t .nil,.t .nil,.t .nil,I cd.Num,I cd.Den],.box [.own 3,.own 4,.own 5,.own 6,.own 7,I cc.Num,I cc.Den],.arr 3 1 true (x.map ic),.arr 3 1 true (x1.map ic),.arr 179 1 true (x2.map (lc 2 Za.c)),.arr 149 2 true (x3.map Za.c),.arr 149 2 true (x4.map Za.c)]⟩
def Zt2(p:Program)(cd cc:Za)(x x1:List Int)(x2:List (List Za))(x3 x4 cl:List Za)(n i k:Int):Rs:=EvL C [.blk 4,.seq Zzg,.blk 3,.seq Zzh,.loop [1,2,4,5,7] Zli,.blk 2,.seq Zlj,.fin 0 [.cellO 2 (some 7) [some (3,1),some (3,1),some (179,1),some (149,2),some (149,2),none,none],.tmpO 3 [none]]] [1,2,4,5,7,8,9] Zzf ⟨[(1,.ptr 0 0),(2,.ptr 1 0),(4,I n),(5,.ptr 2 0),(7,I i),(8,.own 8),(9,I k)],[[]],[.box (p.c.map .t),.box [.t .nil,.t .nil,.t .nil,.t .nil,.t .nil,I cd.Num,I cd.Den],.box [.own 3,.own 4,.own 5,.own 6,.own 7,I cc.Num,I cc.Den],.arr 3 1 true (x.map ic),.arr 3 1 true (x1.map ic),.arr 179 1 true (x2.map (lc 2 Za.c)),.arr 149 2 true (x3.map Za.c),.arr 149 2 true (x4.map Za.c),.arr 149 2 true (cl.map Za.c)]⟩
def Zbmk:MFun:=mkF (rawF 201 Tryz.f201)
def Zll(a:Int):Rs:=C 201 [I a] []
def Z9n:RawF (rawF 200 Tryz.f200):={ m:=_ }
def Z9o:MCode:=cut0 Z9n 5
def Z9p:MCode:=cut0 Z9n 17
def Zbml:MFun:=Zev Z9n 5 Z9o 17 Z9p
def Zlm(a a1:Int):Rs:=C 200 [I a,I a1] []
def Zt3(a b:Int):Rs:=EvL C [.blk 0,.seq Z9p,.fin 0 [.tmp 4]] [0,1] Z9o ⟨[(0,I a),(1,I b)],[[]],[]⟩
def Zbmm:MFun:=mkF (rawF 154 Tryz.f154)
def Zck(a:Za):Rs:=C 154 [.agg (a.c.map .t)] []
def Z9q:RawF (rawF 297 Tryz.f297):={ m:=_ }
def Z9r:MCode:=cut0 Z9q 7
def Z9s:MCode:=cut0 Z9q 23
def Zbmn:MFun:=Zev Z9q 7 Z9r 23 Z9s
def Zo3(a:List Za):Rs:=C 297 [L 2 (a.map Za.c)] []
def Zt4(l:List Za)(i:Int):Rs:=EvL C [.blk 0,.seq Z9s,.fin 0 [.tmp 2]] [0,3] Z9r ⟨[(0,L 2 (l.map Za.c)),(3,I i)],[[]],[]⟩
def Zt5:RawF (rawF 270 Tryz.f270):={ m:=_ }
def Z9t:MCode:=cut0 Zt5 21
def Z9u:MCode:=cut0 Zt5 42
def Z9v:MCode:=cut0 Zt5 58
def Z9w:MCode:=cut2 Zt5 37 5 Z9u 21 Z9v
def Zbmo:MFun:=Zev Zt5 21 Z9t 37 Z9w
def Zln(a:Zl):Rs:=C 270 [.agg (a.c.map .t)] []
def Zt6(d:Zl)(all:List Int)(m n i:Int):Rs:=EvL C [.blk 0,.seq Z9w,.fin 0 [.tmp 2]] [1,3,4,5,6] Z9t ⟨[(1,.ptr 0 0),(3,I m),(4,I n),(5,.own 1),(6,I i)],[[]],[.box (d.c.map .t),.arr 3 1 true (all.map ic)]⟩
def Zt7(d:Zl)(m n i:Int):Rs:=EvL C [.blk 2,.seq Z9v,.fin 0 [.tmp 2]] [1,3,4,7] Z9u ⟨[(1,.ptr 0 0),(3,I m),(4,I n),(7,I i)],[[]],[.box (d.c.map .t)]⟩
def Zzj:RawF (rawF 239 Tryz.f239):={ m:=_ }
def Zbmp:MCode:=cut0 Zzj 30
def Z9x:MCode:=cut1 Zzj 17 13 Zbmp
def Z9y:MCode:=cut0 Zzj 31
def Zbmq:MFun:=Zev Zzj 17 Z9x 31 Z9y
def Zt8(a:Zl):Rs:=C 239 [.agg (a.c.map .t)] []
def Zi8(d:Zl)(cc j:Int):Rs:=EvL C [.blk 0,.seq Z9y,.fin 0 [.tmp 2]] [1,3,4] Z9x ⟨[(1,.ptr 0 0),(3,I cc),(4,I j)],[[]],[.box (d.c.map .t)]⟩
def Zbmr:RawF (rawF 298 Tryz.f298):={ m:=_ }
def Zbms:MCode:=cut0 Zbmr 18
def Zbmt:MFun:=Zbt Zbmr 18 Zbms
def Zlo(a a1:Int):Rs:=C 298 [I a,I a1] []
def Zbmu:MFun:=mkF (rawF 271 Tryz.f271)
def Zi9(a a1:Za):Rs:=C 271 [.agg (a.c.map .t),.agg (a1.c.map .t)] []
def Zbmv:MFun:=mkF (rawF 272 Tryz.f272)
def Zzk(a a1:Za):Rs:=C 272 [.agg (a.c.map .t),.agg (a1.c.map .t)] []
def Zzl:RawF (rawF 241 Tryz.f241):={ m:=_ }
def Zbmw:MCode:=cut0 Zzl 52
def Z9z:MCode:=cut1 Zzl 19 33 Zbmw
def Z90:MCode:=cut0 Zzl 53
def Zbmx:MFun:=Zev Zzl 19 Z9z 53 Z90
def Zt9(a:Zl)(a1:Int):Rs:=C 241 [.agg (a.c.map .t),I a1] []
def Zgx(d:Zl)(least:Za)(j cc i:Int):Rs:=EvL C [.blk 0,.seq Z90,.fin 0 [.tmp 4]] [1,2,5,6,7] Z9z ⟨[(1,I j),(2,.ptr 0 0),(5,I cc),(6,.ptr 1 0),(7,I i)],[[]],[.box (d.c.map .t),.box (least.c.map .t)]⟩
def Zbmy:MFun:=mkF (rawF 274 Tryz.f274)
def Zhq(a a1:Za):Rs:=C 274 [.agg (a.c.map .t),.agg (a1.c.map .t)] []
def Zbmz:MFun:=mkF (rawF 299 Tryz.f299)
def Zzm(a a1:Za):Rs:=C 299 [.agg (a.c.map .t),.agg (a1.c.map .t)] []
def Zbm0:MFun:=mkF (rawF 273 Tryz.f273)
def Zce(a a1 a2:Za):Rs:=C 273 [.agg (a.c.map .t),.agg (a1.c.map .t),.agg (a2.c.map .t)] []
def Zbm1:MFun:=mkF (rawF 275 Tryz.f275)
def Zja(a a1:Za):Rs:=C 275 [.agg (a.c.map .t),.agg (a1.c.map .t)] []
def Ze2:RawF (rawF 242 Tryz.f242):={ m:=_ }
def Zbm2:MCode:=cut0 Ze2 37
def Z91:MCode:=cut1 Ze2 21 16 Zbm2
def Zbm3:MCode:=cut0 Ze2 97
def Zua:MCode:=cut1 Ze2 81 16 Zbm3
def Zub:MCode:=cut0 Ze2 103
def Zuc:MCode:=cut0 Ze2 110
def Zjb:MCode:=cut3 Ze2 56 25 Zua 47 Zub 54 Zuc
def Zbm4:MCode:=cut0 Ze2 132
def Zjc:MCode:=cut1 Ze2 116 16 Zbm4
def Zfs:MCode:=cut0 Ze2 138
def Zjd:MCode:=cut2 Ze2 111 5 Zjc 27 Zfs
def Z92:MCode:=cut2 Ze2 41 15 Zjb 70 Zjd
def Zbm5:MFun:=Zev Ze2 21 Z91 41 Z92
def Zo4(a:Zl)(a1 a2:Int):Rs:=C 242 [.agg (a.c.map .t),I a1,I a2] []
def Zje(d:Zl)(cc a:Za)(cd:List Za)(i j:Int)(cl:Bool)(k:Int):Rs:=EvL C [.blk 0,.seq Z92,.fin 0 [.cellO 6 (some 7) [some (3,1),some (3,1),some (179,1),some (149,2),some (149,2),none,none],.tmpO 7 [none]]] [1,2,3,6,8,9,10,11] Z91 ⟨[(1,I i),(2,I j),(3,.ptr 0 0),(6,.ptr 1 0),(8,Bo cl),(9,.ptr 2 0),(10,.own 3),(11,I k)],[[]],[.box (d.c.map .t),.box [.t .nil,.t .nil,.t .nil,.t .nil,.t .nil,I cc.Num,I cc.Den],.box (a.c.map .t),.arr 149 2 true (cd.map Za.c)]⟩
def Zud(d:Zl)(cd:Za)(cl:List Za)(limit cc:Za)(x x1:List Int)(i j:Int)(cn:Bool)(co:Int):Rs:=EvL C [.blk 2,.seq Zjd,.fin 0 [.cellO 6 (some 7) [some (3,1),some (3,1),some (179,1),some (149,2),some (149,2),none,none],.tmpO 7 [none]]] [1,2,3,6,8,10,14,16,17] Zjb ⟨[(1,I i),(2,I j),(3,.ptr 0 0),(6,.ptr 1 0),(8,Bo cn),(10,.own 2),(14,.ptr 3 0),(16,.ptr 4 0),(17,I co)],[[]],[.box (d.c.map .t),.box [.t .nil,.t .nil,.t .nil,.t .nil,.t .nil,I cd.Num,I cd.Den],.arr 149 2 true (cl.map Za.c),.box (limit.c.map .t),.box [.own 5,.own 6,.t .nil,.t .nil,.t .nil,I cc.Num,I cc.Den],.arr 3 1 true (x.map ic),.arr 3 1 true (x1.map ic)]⟩
def Zhr(d:Zl)(cd limit cc:Za)(x x1:List Int)(fr:Bool)(x2:List (List Za))(x3:List Za)(i j:Int)(cn:Bool)(cl:List Za)(co:Int):Rs:=EvL C [.blk 2,.seq Zjd,.fin 0 [.cellO 6 (some 7) [some (3,1),some (3,1),some (179,1),some (149,2),some (149,2),none,none],.tmpO 7 [none]]] [1,2,3,6,8,10,14,16,17] Zjb ⟨[(1,I i),(2,I j),(3,.ptr 0 0),(6,.ptr 1 0),(8,Bo cn),(10,L 2 (cl.map Za.c)),(14,.ptr 2 0),(16,.ptr 3 0),(17,I co)],[[]],[.box (d.c.map .t),.box [.t .nil,.t .nil,.t .nil,.t .nil,.t .nil,I cd.Num,I cd.Den],.box (limit.c.map .t),.box [.own 4,.own 5,.own 6,.own 7,.t .nil,I cc.Num,I cc.Den],.arr 3 1 true (x.map ic),.arr 3 1 true (x1.map ic),.arr 179 1 fr (x2.map (lc 2 Za.c)),.arr 149 2 true (x3.map Za.c)]⟩
def Zjf(d:Zl)(cd:Za)(cl:List Za)(limit cc:Za)(x x1:List Int)(cp:List Za)(i j:Int)(cn:Bool)(co k:Int):Rs:=EvL C [.blk 4,.seq Zub,.blk 3,.seq Zuc,.loop [1,2,3,6,8,10,14,16,17] Zjb,.blk 2,.seq Zjd,.fin 0 [.cellO 6 (some 7) [some (3,1),some (3,1),some (179,1),some (149,2),some (149,2),none,none],.tmpO 7 [none]]] [1,2,3,6,8,10,14,16,17,18,19] Zua ⟨[(1,I i),(2,I j),(3,.ptr 0 0),(6,.ptr 1 0),(8,Bo cn),(10,.own 2),(14,.ptr 3 0),(16,.ptr 4 0),(17,I co),(18,.own 7),(19,I k)],[[]],[.box (d.c.map .t),.box [.t .nil,.t .nil,.t .nil,.t .nil,.t .nil,I cd.Num,I cd.Den],.arr 149 2 true (cl.map Za.c),.box (limit.c.map .t),.box [.own 5,.own 6,.t .nil,.t .nil,.t .nil,I cc.Num,I cc.Den],.arr 3 1 true (x.map ic),.arr 3 1 true (x1.map ic),.arr 149 2 true (cp.map Za.c)]⟩
def Zue(d:Zl)(cd:Za)(cl:List Za)(limit cc:Za)(x x1:List Int)(j:Int)(cn:Bool)(k:Int):Rs:=EvL C [.blk 6,.seq Zfs,.fin 0 [.cellO 6 (some 7) [some (3,1),some (3,1),some (179,1),some (149,2),some (149,2),none,none],.tmpO 7 [none]]] [2,3,6,8,10,14,16,25] Zjc ⟨[(2,I j),(3,.ptr 0 0),(6,.ptr 1 0),(8,Bo cn),(10,.own 2),(14,.ptr 3 0),(16,.ptr 4 0),(25,I k)],[[]],[.box (d.c.map .t),.box [.t .nil,.t .nil,.t .nil,.t .nil,.t .nil,I cd.Num,I cd.Den],.arr 149 2 true (cl.map Za.c),.box (limit.c.map .t),.box [.own 5,.own 6,.t .nil,.t .nil,.t .nil,I cc.Num,I cc.Den],.arr 3 1 true (x.map ic),.arr 3 1 true (x1.map ic)]⟩
def Zjg(d:Zl)(cd limit cc:Za)(x x1:List Int)(fr:Bool)(x2:List (List Za))(x3 cp:List Za)(i j:Int)(cn:Bool)(cl:List Za)(co k:Int):Rs:=EvL C [.blk 4,.seq Zub,.blk 3,.seq Zuc,.loop [1,2,3,6,8,10,14,16,17] Zjb,.blk 2,.seq Zjd,.fin 0 [.cellO 6 (some 7) [some (3,1),some (3,1),some (179,1),some (149,2),some (149,2),none,none],.tmpO 7 [none]]] [1,2,3,6,8,10,14,16,17,18,19] Zua ⟨[(1,I i),(2,I j),(3,.ptr 0 0),(6,.ptr 1 0),(8,Bo cn),(10,L 2 (cl.map Za.c)),(14,.ptr 2 0),(16,.ptr 3 0),(17,I co),(18,.own 8),(19,I k)],[[]],[.box (d.c.map .t),.box [.t .nil,.t .nil,.t .nil,.t .nil,.t .nil,I cd.Num,I cd.Den],.box (limit.c.map .t),.box [.own 4,.own 5,.own 6,.own 7,.t .nil,I cc.Num,I cc.Den],.arr 3 1 true (x.map ic),.arr 3 1 true (x1.map ic),.arr 179 1 fr (x2.map (lc 2 Za.c)),.arr 149 2 true (x3.map Za.c),.arr 149 2 true (cp.map Za.c)]⟩
def Zo5(d:Zl)(cd limit cc:Za)(x x1:List Int)(fr:Bool)(x2:List (List Za))(x3:List Za)(j:Int)(cn:Bool)(cl:List Za)(k:Int):Rs:=EvL C [.blk 6,.seq Zfs,.fin 0 [.cellO 6 (some 7) [some (3,1),some (3,1),some (179,1),some (149,2),some (149,2),none,none],.tmpO 7 [none]]] [2,3,6,8,10,14,16,25] Zjc ⟨[(2,I j),(3,.ptr 0 0),(6,.ptr 1 0),(8,Bo cn),(10,L 2 (cl.map Za.c)),(14,.ptr 2 0),(16,.ptr 3 0),(25,I k)],[[]],[.box (d.c.map .t),.box [.t .nil,.t .nil,.t .nil,.t .nil,.t .nil,I cd.Num,I cd.Den],.box (limit.c.map .t),.box [.own 4,.own 5,.own 6,.own 7,.t .nil,I cc.Num,I cc.Den],.arr 3 1 true (x.map ic),.arr 3 1 true (x1.map ic),.arr 179 1 fr (x2.map (lc 2 Za.c)),.arr 149 2 true (x3.map Za.c)]⟩
def Zhs(d:Zl)(cd:Za)(cl:List Za)(limit cc:Za)(x x1:List Int)(fr:Bool)(x2:List (List Za))(x3:List Za)(i j:Int)(cn:Bool)(co:Int):Rs:=EvL C [.blk 2,.seq Zjd,.fin 0 [.cellO 6 (some 7) [some (3,1),some (3,1),some (179,1),some (149,2),some (149,2),none,none],.tmpO 7 [none]]] [1,2,3,6,8,10,14,16,17] Zjb ⟨[(1,I i),(2,I j),(3,.ptr 0 0),(6,.ptr 1 0),(8,Bo cn),(10,.own 2),(14,.ptr 3 0),(16,.ptr 4 0),(17,I co)],[[]],[.box (d.c.map .t),.box [.t .nil,.t .nil,.t .nil,.t .nil,.t .nil,I cd.Num,I cd.Den],.arr 149 2 true (cl.map Za.c),.box (limit.c.map .t),.box [.own 5,.own 6,.own 7,.own 8,.t .nil,I cc.Num,I cc.Den],.arr 3 1 true (x.map ic),.arr 3 1 true (x1.map ic),.arr 179 1 fr (x2.map (lc 2 Za.c)),.arr 149 2 true (x3.map Za.c)]⟩
def Z93(d:Zl)(cd:Za)(cl:List Za)(limit cc:Za)(x x1:List Int)(x2:List Za)(j:Int)(cn:Bool)(k:Int):Rs:=EvL C [.blk 6,.seq Zfs,.fin 0 [.cellO 6 (some 7) [some (3,1),some (3,1),some (179,1),some (149,2),some (149,2),none,none],.tmpO 7 [none]]] [2,3,6,8,10,14,16,25] Zjc ⟨[(2,I j),(3,.ptr 0 0),(6,.ptr 1 0),(8,Bo cn),(10,.own 2),(14,.ptr 3 0),(16,.ptr 4 0),(25,I k)],[[]],[.box (d.c.map .t),.box [.t .nil,.t .nil,.t .nil,.t .nil,.t .nil,I cd.Num,I cd.Den],.arr 149 2 true (cl.map Za.c),.box (limit.c.map .t),.box [.own 5,.own 6,.t .nil,.t .nil,.own 7,I cc.Num,I cc.Den],.arr 3 1 true (x.map ic),.arr 3 1 true (x1.map ic),.arr 149 2 true (x2.map Za.c)]⟩
def Zzn(d:Zl)(cd:Za)(cl:List Za)(limit cc:Za)(x x1:List Int)(j:Int)(cn:Bool)(k:Int)(x2:Bool):Rs:=Ev C [.fin 0 [.cellO 6 (some 7) [some (3,1),some (3,1),some (179,1),some (149,2),some (149,2),none,none],.tmpO 7 [none]]] Zfs ⟨[(2,I j),(3,.ptr 0 0),(6,.ptr 1 0),(8,Bo cn),(10,.own 2),(14,.ptr 3 0),(16,.ptr 4 0),(25,I k),(265,Bo x2)],[[]],[.box (d.c.map .t),.box [.t .nil,.t .nil,.t .nil,.t .nil,.t .nil,I cd.Num,I cd.Den],.arr 149 2 true (cl.map Za.c),.box (limit.c.map .t),.box [.own 5,.own 6,.t .nil,.t .nil,.t .nil,I cc.Num,I cc.Den],.arr 3 1 true (x.map ic),.arr 3 1 true (x1.map ic)]⟩
def Zlp(d:Zl)(cd limit cc:Za)(x x1:List Int)(fr:Bool)(x2:List (List Za))(x3 x4:List Za)(j:Int)(cn:Bool)(cl:List Za)(k:Int):Rs:=EvL C [.blk 6,.seq Zfs,.fin 0 [.cellO 6 (some 7) [some (3,1),some (3,1),some (179,1),some (149,2),some (149,2),none,none],.tmpO 7 [none]]] [2,3,6,8,10,14,16,25] Zjc ⟨[(2,I j),(3,.ptr 0 0),(6,.ptr 1 0),(8,Bo cn),(10,L 2 (cl.map Za.c)),(14,.ptr 2 0),(16,.ptr 3 0),(25,I k)],[[]],[.box (d.c.map .t),.box [.t .nil,.t .nil,.t .nil,.t .nil,.t .nil,I cd.Num,I cd.Den],.box (limit.c.map .t),.box [.own 4,.own 5,.own 6,.own 7,.own 8,I cc.Num,I cc.Den],.arr 3 1 true (x.map ic),.arr 3 1 true (x1.map ic),.arr 179 1 fr (x2.map (lc 2 Za.c)),.arr 149 2 true (x3.map Za.c),.arr 149 2 true (x4.map Za.c)]⟩
def Zzo(d:Zl)(cd limit cc:Za)(x x1:List Int)(fr:Bool)(x2:List (List Za))(x3:List Za)(j:Int)(cn:Bool)(cl:List Za)(k:Int)(x4:Bool):Rs:=Ev C [.fin 0 [.cellO 6 (some 7) [some (3,1),some (3,1),some (179,1),some (149,2),some (149,2),none,none],.tmpO 7 [none]]] Zfs ⟨[(2,I j),(3,.ptr 0 0),(6,.ptr 1 0),(8,Bo cn),(10,L 2 (cl.map Za.c)),(14,.ptr 2 0),(16,.ptr 3 0),(25,I k),(265,Bo x4)],[[]],[.box (d.c.map .t),.box [.t .nil,.t .nil,.t .nil,.t .nil,.t .nil,I cd.Num,I cd.Den],.box (limit.c.map .t),.box [.own 4,.own 5,.own 6,.own 7,.t .nil,I cc.Num,I cc.Den],.arr 3 1 true (x.map ic),.arr 3 1 true (x1.map ic),.arr 179 1 fr (x2.map (lc 2 Za.c)),.arr 149 2 true (x3.map Za.c)]⟩
def Zjh(d:Zl)(cd:Za)(cl:List Za)(limit cc:Za)(x x1:List Int)(fr:Bool)(x2:List (List Za))(x3 cp:List Za)(i j:Int)(cn:Bool)(co k:Int):Rs:=EvL C [.blk 4,.seq Zub,.blk 3,.seq Zuc,.loop [1,2,3,6,8,10,14,16,17] Zjb,.blk 2,.seq Zjd,.fin 0 [.cellO 6 (some 7) [some (3,1),some (3,1),some (179,1),some (149,2),some (149,2),none,none],.tmpO 7 [none]]] [1,2,3,6,8,10,14,16,17,18,19] Zua ⟨[(1,I i),(2,I j),(3,.ptr 0 0),(6,.ptr 1 0),(8,Bo cn),(10,.own 2),(14,.ptr 3 0),(16,.ptr 4 0),(17,I co),(18,.own 9),(19,I k)],[[]],[.box (d.c.map .t),.box [.t .nil,.t .nil,.t .nil,.t .nil,.t .nil,I cd.Num,I cd.Den],.arr 149 2 true (cl.map Za.c),.box (limit.c.map .t),.box [.own 5,.own 6,.own 7,.own 8,.t .nil,I cc.Num,I cc.Den],.arr 3 1 true (x.map ic),.arr 3 1 true (x1.map ic),.arr 179 1 fr (x2.map (lc 2 Za.c)),.arr 149 2 true (x3.map Za.c),.arr 149 2 true (cp.map Za.c)]⟩
def Zuf(d:Zl)(cd:Za)(cl:List Za)(limit cc:Za)(x x1:List Int)(fr:Bool)(x2:List (List Za))(x3:List Za)(j:Int)(cn:Bool)(k:Int):Rs:=EvL C [.blk 6,.seq Zfs,.fin 0 [.cellO 6 (some 7) [some (3,1),some (3,1),some (179,1),some (149,2),some (149,2),none,none],.tmpO 7 [none]]] [2,3,6,8,10,14,16,25] Zjc ⟨[(2,I j),(3,.ptr 0 0),(6,.ptr 1 0),(8,Bo cn),(10,.own 2),(14,.ptr 3 0),(16,.ptr 4 0),(25,I k)],[[]],[.box (d.c.map .t),.box [.t .nil,.t .nil,.t .nil,.t .nil,.t .nil,I cd.Num,I cd.Den],.arr 149 2 true (cl.map Za.c),.box (limit.c.map .t),.box [.own 5,.own 6,.own 7,.own 8,.t .nil,I cc.Num,I cc.Den],.arr 3 1 true (x.map ic),.arr 3 1 true (x1.map ic),.arr 179 1 fr (x2.map (lc 2 Za.c)),.arr 149 2 true (x3.map Za.c)]⟩
def Zo6(d:Zl)(cd limit cc:Za)(x x1:List Int)(fr:Bool)(x2:List (List Za))(x3 x4:List Za)(j:Int)(cn:Bool)(cl:List Za)(k:Int)(x5:Bool):Rs:=Ev C [.fin 0 [.cellO 6 (some 7) [some (3,1),some (3,1),some (179,1),some (149,2),some (149,2),none,none],.tmpO 7 [none]]] Zfs ⟨[(2,I j),(3,.ptr 0 0),(6,.ptr 1 0),(8,Bo cn),(10,L 2 (cl.map Za.c)),(14,.ptr 2 0),(16,.ptr 3 0),(25,I k),(265,Bo x5)],[[]],[.box (d.c.map .t),.box [.t .nil,.t .nil,.t .nil,.t .nil,.t .nil,I cd.Num,I cd.Den],.box (limit.c.map .t),.box [.own 4,.own 5,.own 6,.own 7,.own 8,I cc.Num,I cc.Den],.arr 3 1 true (x.map ic),.arr 3 1 true (x1.map ic),.arr 179 1 fr (x2.map (lc 2 Za.c)),.arr 149 2 true (x3.map Za.c),.arr 149 2 true (x4.map Za.c)]⟩
def Z94(d:Zl)(cd:Za)(cl:List Za)(limit cc:Za)(x x1:List Int)(fr:Bool)(x2:List (List Za))(x3 x4:List Za)(j:Int)(cn:Bool)(k:Int):Rs:=EvL C [.blk 6,.seq Zfs,.fin 0 [.cellO 6 (some 7) [some (3,1),some (3,1),some (179,1),some (149,2),some (149,2),none,none],.tmpO 7 [none]]] [2,3,6,8,10,14,16,25] Zjc ⟨[(2,I j),(3,.ptr 0 0),(6,.ptr 1 0),(8,Bo cn),(10,.own 2),(14,.ptr 3 0),(16,.ptr 4 0),(25,I k)],[[]],[.box (d.c.map .t),.box [.t .nil,.t .nil,.t .nil,.t .nil,.t .nil,I cd.Num,I cd.Den],.arr 149 2 true (cl.map Za.c),.box (limit.c.map .t),.box [.own 5,.own 6,.own 7,.own 8,.own 9,I cc.Num,I cc.Den],.arr 3 1 true (x.map ic),.arr 3 1 true (x1.map ic),.arr 179 1 fr (x2.map (lc 2 Za.c)),.arr 149 2 true (x3.map Za.c),.arr 149 2 true (x4.map Za.c)]⟩
def Zzp(d:Zl)(cd:Za)(cl:List Za)(limit cc:Za)(x x1:List Int)(fr:Bool)(x2:List (List Za))(x3:List Za)(j:Int)(cn:Bool)(k:Int)(x4:Bool):Rs:=Ev C [.fin 0 [.cellO 6 (some 7) [some (3,1),some (3,1),some (179,1),some (149,2),some (149,2),none,none],.tmpO 7 [none]]] Zfs ⟨[(2,I j),(3,.ptr 0 0),(6,.ptr 1 0),(8,Bo cn),(10,.own 2),(14,.ptr 3 0),(16,.ptr 4 0),(25,I k),(265,Bo x4)],[[]],[.box (d.c.map .t),.box [.t .nil,.t .nil,.t .nil,.t .nil,.t .nil,I cd.Num,I cd.Den],.arr 149 2 true (cl.map Za.c),.box (limit.c.map .t),.box [.own 5,.own 6,.own 7,.own 8,.t .nil,I cc.Num,I cc.Den],.arr 3 1 true (x.map ic),.arr 3 1 true (x1.map ic),.arr 179 1 fr (x2.map (lc 2 Za.c)),.arr 149 2 true (x3.map Za.c)]⟩
def Zd6:RawF (rawF 199 Tryz.f199):={ m:=_ }
def Zzq:MCode:=cut0 Zd6 38
def Zug:MCode:=cut0 Zd6 53
def Zbm6:MCode:=cut0 Zd6 81
def Zzr:MCode:=cut1 Zd6 68 13 Zbm6
def Zbm7:MCode:=cut0 Zd6 100
def Z95:MCode:=cut1 Zd6 87 13 Zbm7
def Z96:MCode:=cut0 Zd6 101
def Zzs:MCode:=cut2 Zd6 82 5 Z95 19 Z96
def Zuh:MCode:=cut2 Zd6 63 5 Zzr 19 Zzs
def Zzt:MCode:=cut2 Zd6 48 5 Zug 15 Zuh
def Zgy:MCode:=cut0 Zd6 105
def Zgz:MCode:=cut0 Zd6 126
def Zf4:MCode:=cut4 Zd6 17 21 Zzq 31 Zzt 88 Zgy 109 Zgz
def Zf5:MCode:=cut0 Zd6 127
def Zbm8:MFun:=Zev Zd6 17 Zf4 127 Zf5
def Zui(a:Program):Rs:=C 199 [.agg (a.c.map .t)] []
def Zht(p:Program)(cc:Za)(d:Zl)(n:Int):Rs:=EvL C [.blk 0,.seq Zf5,.fin 0 [.cellO 2 (some 4) [none,none,some (149,2),some (149,2)],.tmpO 3 [none]]] [1,2,4,6] Zf4 ⟨[(1,.ptr 0 0),(2,.ptr 1 0),(4,.ptr 2 0),(6,I n)],[[]],[.box (p.c.map .t),.box [I cc.Num,I cc.Den,.t .nil,.t .nil],.box (d.c.map .t)]⟩
def Zzu(p:Program)(cd:Za)(d:Zl)(cc:Za)(k:Int):Rs:=EvL C [.blk 2,.seq Zzt,.seq Zgy,.blk 1,.seq Zgz,.loop [1,2,4,6] Zf4,.blk 0,.seq Zf5,.fin 0 [.cellO 2 (some 4) [none,none,some (149,2),some (149,2)],.tmpO 3 [none]]] [1,2,4,8,9] Zzq ⟨[(1,.ptr 0 0),(2,.ptr 1 0),(4,.ptr 2 0),(8,.ptr 3 0),(9,I k)],[[]],[.box (p.c.map .t),.box [I cd.Num,I cd.Den,.t .nil,.t .nil],.box (d.c.map .t),.box [I cc.Num,I cc.Den,.t .nil,.t .nil]]⟩
def Zuj(p:Program)(cd:Za)(d:Zl)(cc:Za)(x:List Za)(k:Int):Rs:=EvL C [.blk 2,.seq Zzt,.seq Zgy,.blk 1,.seq Zgz,.loop [1,2,4,6] Zf4,.blk 0,.seq Zf5,.fin 0 [.cellO 2 (some 4) [none,none,some (149,2),some (149,2)],.tmpO 3 [none]]] [1,2,4,8,9] Zzq ⟨[(1,.ptr 0 0),(2,.ptr 1 0),(4,.ptr 2 0),(8,.ptr 3 0),(9,I k)],[[]],[.box (p.c.map .t),.box [I cd.Num,I cd.Den,.t .nil,.t .nil],.box (d.c.map .t),.box [I cc.Num,I cc.Den,.own 4,.t .nil],.arr 149 2 true (x.map Za.c)]⟩
def Zbm9(p:Program)(cd:Za)(d:Zl)(cc:Za)(i:Int):Rs:=EvL C [.blk 4,.seq Zuh,.seq Zgy,.blk 1,.seq Zgz,.loop [1,2,4,6] Zf4,.blk 0,.seq Zf5,.fin 0 [.cellO 2 (some 4) [none,none,some (149,2),some (149,2)],.tmpO 3 [none]]] [1,2,4,8,10] Zug ⟨[(1,.ptr 0 0),(2,.ptr 1 0),(4,.ptr 2 0),(8,.ptr 3 0),(10,I i)],[[]],[.box (p.c.map .t),.box [I cd.Num,I cd.Den,.t .nil,.t .nil],.box (d.c.map .t),.box [I cc.Num,I cc.Den,.t .nil,.t .nil]]⟩
def Z97(p:Program)(cd:Za)(d:Zl)(cc:Za)(x:List Za)(i:Int):Rs:=EvL C [.blk 4,.seq Zuh,.seq Zgy,.blk 1,.seq Zgz,.loop [1,2,4,6] Zf4,.blk 0,.seq Zf5,.fin 0 [.cellO 2 (some 4) [none,none,some (149,2),some (149,2)],.tmpO 3 [none]]] [1,2,4,8,10] Zug ⟨[(1,.ptr 0 0),(2,.ptr 1 0),(4,.ptr 2 0),(8,.ptr 3 0),(10,I i)],[[]],[.box (p.c.map .t),.box [I cd.Num,I cd.Den,.t .nil,.t .nil],.box (d.c.map .t),.box [I cc.Num,I cc.Den,.own 4,.t .nil],.arr 149 2 true (x.map Za.c)]⟩
def Zuk(p:Program)(cd:Za)(d:Zl)(cc:Za)(x x1:List Za)(i:Int):Rs:=EvL C [.blk 4,.seq Zuh,.seq Zgy,.blk 1,.seq Zgz,.loop [1,2,4,6] Zf4,.blk 0,.seq Zf5,.fin 0 [.cellO 2 (some 4) [none,none,some (149,2),some (149,2)],.tmpO 3 [none]]] [1,2,4,8,10] Zug ⟨[(1,.ptr 0 0),(2,.ptr 1 0),(4,.ptr 2 0),(8,.ptr 3 0),(10,I i)],[[]],[.box (p.c.map .t),.box [I cd.Num,I cd.Den,.t .nil,.t .nil],.box (d.c.map .t),.box [I cc.Num,I cc.Den,.own 4,.own 5],.arr 149 2 true (x.map Za.c),.arr 149 2 true (x1.map Za.c)]⟩
def Zbna(p:Program)(cd:Za)(d:Zl)(cc:Za)(x:List Za)(i:Int):Rs:=EvL C [.blk 6,.seq Zzs,.seq Zgy,.blk 1,.seq Zgz,.loop [1,2,4,6] Zf4,.blk 0,.seq Zf5,.fin 0 [.cellO 2 (some 4) [none,none,some (149,2),some (149,2)],.tmpO 3 [none]]] [1,2,4,8,11] Zzr ⟨[(1,.ptr 0 0),(2,.ptr 1 0),(4,.ptr 2 0),(8,.ptr 3 0),(11,I i)],[[]],[.box (p.c.map .t),.box [I cd.Num,I cd.Den,.t .nil,.t .nil],.box (d.c.map .t),.box [I cc.Num,I cc.Den,.own 4,.t .nil],.arr 149 2 true (x.map Za.c)]⟩
def Zo7(p:Program)(cd:Za)(d:Zl)(cc:Za)(x x1:List Za)(i:Int):Rs:=EvL C [.blk 6,.seq Zzs,.seq Zgy,.blk 1,.seq Zgz,.loop [1,2,4,6] Zf4,.blk 0,.seq Zf5,.fin 0 [.cellO 2 (some 4) [none,none,some (149,2),some (149,2)],.tmpO 3 [none]]] [1,2,4,8,11] Zzr ⟨[(1,.ptr 0 0),(2,.ptr 1 0),(4,.ptr 2 0),(8,.ptr 3 0),(11,I i)],[[]],[.box (p.c.map .t),.box [I cd.Num,I cd.Den,.t .nil,.t .nil],.box (d.c.map .t),.box [I cc.Num,I cc.Den,.own 4,.own 5],.arr 149 2 true (x.map Za.c),.arr 149 2 true (x1.map Za.c)]⟩
def Zo8(p:Program)(cd:Za)(d:Zl)(cc:Za)(x x1:List Za)(k:Int):Rs:=EvL C [.blk 8,.seq Z96,.seq Zgy,.blk 1,.seq Zgz,.loop [1,2,4,6] Zf4,.blk 0,.seq Zf5,.fin 0 [.cellO 2 (some 4) [none,none,some (149,2),some (149,2)],.tmpO 3 [none]]] [1,2,4,8,12] Z95 ⟨[(1,.ptr 0 0),(2,.ptr 1 0),(4,.ptr 2 0),(8,.ptr 3 0),(12,I k)],[[]],[.box (p.c.map .t),.box [I cd.Num,I cd.Den,.t .nil,.t .nil],.box (d.c.map .t),.box [I cc.Num,I cc.Den,.own 4,.own 5],.arr 149 2 true (x.map Za.c),.arr 149 2 true (x1.map Za.c)]⟩
def Zbnb:MFun:=mkF (rawF 153 Tryz.f153)
def Zzv(a:Zj)(a1:Zg)(a2:Int):Rs:=C 153 [.agg (a.c.map .t),.agg (a1.c.map .t),I a2] []
def Zbnc:MFun:=mkF (rawF 111 Tryz.f111)
def Zul(a:Zj)(a1:Zg)(a2:Int):Rs:=C 111 [.agg (a.c.map .t),.agg (a1.c.map .t),I a2] []
def Zbnd:RawF (rawF 156 Tryz.f156):={ m:=_ }
def Zbne:MCode:=cut0 Zbnd 18
def Zbnf:MFun:=Zbt Zbnd 18 Zbne
def Zzw(a:Za):Rs:=C 156 [.agg (a.c.map .t)] []
def Zbng:MFun:=mkF (rawF 155 Tryz.f155)
def Z98(a:Int):Rs:=C 155 [I a] []
def Z99:RawF (rawF 157 Tryz.f157):={ m:=_ }
def Zbaa:MCode:=cut0 Z99 9
def Zbab:MCode:=cut0 Z99 27
def Zbnh:MFun:=Zev Z99 9 Zbaa 27 Zbab
def Zzx(a a1 a2:Int):Rs:=C 157 [I a,I a1,I a2] []
def Zum(n c cc x i:Int):Rs:=EvL C [.blk 0,.seq Zbab,.fin 0 [.tmp 6]] [0,1,2,7,8] Zbaa ⟨[(0,I n),(1,I c),(2,I cc),(7,I x),(8,I i)],[[]],[]⟩
def Zbac:RawF (rawF 112 Tryz.f112):={ m:=_ }
def Zbad:MCode:=cut0 Zbac 23
def Zbae:MCode:=cut0 Zbac 31
def Zbni:MFun:=Zev Zbac 23 Zbad 31 Zbae
def Zun(a:Za):Rs:=C 112 [.agg (a.c.map .t)] []
def Zuo(r_1:Za)(n:Int):Rs:=EvL C [.blk 0,.seq Zbae,.fin 0 [.tmp 2]] [1,3] Zbad ⟨[(1,.ptr 0 0),(3,I n)],[[]],[.box (r_1.c.map .t)]⟩
def Zbaf:RawF (rawF 71 Tryz.f71):={ m:=_ }
def Zbag:MCode:=cut0 Zbaf 15
def Zbah:MCode:=cut0 Zbaf 31
def Zbnj:MFun:=Zev Zbaf 15 Zbag 31 Zbah
def Zo9(a:Zj)(a1:Zg)(a2:Int):Rs:=C 71 [.agg (a.c.map .t),.agg (a1.c.map .t),I a2] []
def Zpa(s:Zj)(q:Zg)(cc i:Int):Rs:=EvL C [.blk 0,.seq Zbah,.fin 0 [.tmp 6]] [2,3,4,7] Zbag ⟨[(2,I cc),(3,.ptr 0 0),(4,.ptr 1 0),(7,I i)],[[]],[.box (s.c.map .t),.box (q.c.map .t)]⟩
def Zzy:RawF (rawF 34 Tryz.f34):={ m:=_ }
def Zbnk:MCode:=cut0 Zzy 54
def Zup:MCode:=cut1 Zzy 40 14 Zbnk
def Zbnl:MCode:=cut1 Zzy 24 16 Zup
def Zbnm:MFun:=Zbt Zzy 24 Zbnl
def Zuq(a:Zj)(a1:Zg)(a2:Int):Rs:=C 34 [.agg (a.c.map .t),.agg (a1.c.map .t),I a2] []
def Zur(s:Zj)(q:Zg)(l:List Int)(cc n cd:Int):Rs:=Ev C [.fin 0 [.tmp 6,.tmp 7]] Zup ⟨[(2,I cc),(3,.ptr 0 0),(4,.ptr 1 0),(8,I n),(9,I cd),(11,.own 2)],[[]],[.box (s.c.map .t),.box (q.c.map .t),.arr 3 1 true (l.map ic)]⟩
def Zus(s:Zj)(q:Zg)(l:List Int)(cc n cd x:Int)(x1:Bool):Rs:=Ev C [.fin 0 [.tmp 6,.tmp 7]] Zup ⟨[(2,I cc),(3,.ptr 0 0),(4,.ptr 1 0),(8,I n),(9,I cd),(10,I x),(11,.own 2),(45,Bo x1)],[[]],[.box (s.c.map .t),.box (q.c.map .t),.arr 3 1 true (l.map ic)]⟩
def Zut(s:Zj)(q:Zg)(l:List Int)(cc n cd:Int)(x:Bool):Rs:=Ev C [.fin 0 [.tmp 6,.tmp 7]] Zup ⟨[(2,I cc),(3,.ptr 0 0),(4,.ptr 1 0),(8,I n),(9,I cd),(11,.own 2),(33,Bo x)],[[]],[.box (s.c.map .t),.box (q.c.map .t),.arr 3 1 true (l.map ic)]⟩
def Zbnn:MFun:=mkF (rawF 9 Tryz.f9)
def Zzz(a:Zj)(a1:Zg)(a2:Int):Rs:=C 9 [.agg (a.c.map .t),.agg (a1.c.map .t),I a2] []
def Zbno:MFun:=mkF (rawF 141 Tryz.f141)
def Zbai(a:Int):Rs:=C 141 [I a] []
def Zbaj:RawF (rawF 98 Tryz.f98):={ m:=_ }
def Zbak:MCode:=cut0 Zbaj 17
def Zbal:MCode:=cut0 Zbaj 27
def Zbnp:MFun:=Zev Zbaj 17 Zbak 27 Zbal
def Zbam(a:Int):Rs:=C 98 [I a] []
def Zpb(k n i:Int):Rs:=EvL C [.blk 0,.seq Zbal,.fin 0 [.tmp 2]] [0,3,4] Zbak ⟨[(0,I k),(3,I n),(4,I i)],[[]],[]⟩
end
end Go.Proofs.YtnnjbejcffjgfaaGreat
