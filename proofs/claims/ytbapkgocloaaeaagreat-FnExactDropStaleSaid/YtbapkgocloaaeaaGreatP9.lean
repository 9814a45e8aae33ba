/-
  Parts of the proofs for this seat: D2 T1 T2 T3 T4 G1 G2 G3.
-/
import Derived.Test.YtbapkgocloaaeaaGreatP8
set_option linter.unusedSimpArgs false
set_option linter.unusedVariables false
set_option maxRecDepth 100000
set_option maxHeartbeats 4000000
namespace Go.Proofs.YtbapkgocloaaeaaGreat
open Go.AM
def Zly:MCode:=.we [.m 28 7,.fa 29 1 6,.l 30 29,.ll 31 30,.b 32 .lss 28 31] [1,3,4,5,6,7,32] 32 2 (.seq (.block 3 (.drw [.fa 35 2 6,.l 36 35,.ln 37 2 1,.fa 38 1 6,.l 39 38,.m 40 7,.ia 41 1 39 40,.l 42 41,.m 43 4,.m 44 5,.ia 45 1 43 44,.l 46 45,.fa 47 1 6,.l 48 47,.m 49 7,.ia 50 1 48 49,.l 51 50,.b 52 .sub 46 51,.cl 53 207 [37,42,52],.o 54 (.bslice 38 1 1 [.lst 1 []] [(0,.s 53)]),.o 55 (.append 38 1 24 true (.s 36) (.s 54)),.fa 56 2 6,.st 1 56 55] [[],[0],[],[],[3],[],[4,5],[6],[],[],[8,9],[10],[],[12],[],[13,14],[15],[11,16],[2,7,17],[18],[1,19,18],[0,1,2,3,4,5,6,7,8,9,10,11,12,13,14,15,16,17,18,19,20],[21,20,20,0,1,2,3,4,5,6,7,8,9,10,11,12,13,14,15,16,17,18,19,20]] [1,3,4,5,6,7])) (.reg [.m 33 7,.bk 34 .add 33 1,.m 7 34] [1,3,4,5,6,7]))
def Zlz:MCode:=.reg [.m 57 3,.ln 58 3 6,.o 59 (.bslice 242 3 1 [.z,.lst 1 [],.lst 1 []] [(0,.s 58)]),.o 60 (.append 242 3 56 true (.s 57) (.s 59)),.m 3 60] [1,3,4,5]
def Zl0:MCode:=.reg [.m 15 5,.bk 16 .add 15 1,.m 5 16] [1,3,4,5]
def Zl1:MCode:=.we [.m 11 5,.m 12 4,.ll 13 12,.b 14 .lss 11 13] [1,3,4,5,14] 14 0 (.seq (.block 1 (.seq (.drw [.m 17 4,.m 18 5,.ia 19 1 17 18,.l 20 19,.ln 21 2 1,.m 22 4,.m 23 5,.ia 24 1 22 23,.l 25 24,.cl 26 206 [21,25],.o 27 (.build [.t .z,.t .nil,.t .nil] [(0,1,.s 20),(1,1,.s 26)]),.o 6 (.alloc [.t .z,.t .nil,.t .nil]),.st 3 6 27] [[],[],[0,1],[2],[],[],[],[5,6],[7],[4,8],[3,9],[],[11,10,9,0,1,2,3,4,5,6,7,8,9,10,11]] [1,3,4,5,6]) (.seq (.r [.mk' 7 0] [1,3,4,5,6,7] (.block 2 (.loop [1,3,4,5,6,7] Zly))) Zlz))) Zl0)
def Zl2:MCode:=.r [.m 61 3,.m 2 61] [2] .ret
def Z0h:MFun:=⟨1,62,[.tmp 2],.r [.bx 1 0,.o 2 (.mov (.c (.t .nil)))] [1] (.r [.o 8 (.bslice 242 3 0 [.z,.lst 1 [],.lst 1 []] []),.m 3 8] [1,3] (.r [.ln 9 2 1,.cl 10 205 [9],.m 4 10] [1,3,4] (.seq (.r [.mk' 5 0] [1,3,4,5] (.block 0 (.loop [1,3,4,5] Zl1))) Zl2)))⟩
noncomputable def Zl3 (a:Zc):Rs:=C 121 [.agg (a.c.map .t)] []
noncomputable def Zd4 (q:Zc) (out:List Zv) (masks:List Int) (i:Int):Rs:=EvL C [.blk 0,.seq Zl2,.fin 0 [.tmp 2]] [1,3,4,5] Zl1 ⟨[(1,.ptr 0 0),(3,.own 1),(4,.own 2),(5,I i)],[[]],[.box (q.c.map .t),.arr 242 3 true (out.map Zv.c),.arr 3 1 true (masks.map ic)]⟩
noncomputable def Zl4 (q:Zc) (out:List Zv) (masks:List Int) (mask:Int) (x:List Int) (i:Int) (k:Int):Rs:=EvL C [.blk 2,.seq Zlz,.blk 1,.seq Zl0,.loop [1,3,4,5] Zl1,.blk 0,.seq Zl2,.fin 0 [.tmp 2]] [1,3,4,5,6,7] Zly ⟨[(1,.ptr 0 0),(3,.own 1),(4,.own 2),(5,I i),(6,.ptr 3 0),(7,I k)],[[]],[.box (q.c.map .t),.arr 242 3 true (out.map Zv.c),.arr 3 1 true (masks.map ic),.box [I mask,.own 4,.t .nil],.arr 3 1 true (x.map ic)]⟩
noncomputable def Zim (q:Zc) (out:List Zv) (masks:List Int) (mask:Int) (x:List Int) (x1:List (List Int)) (i:Int) (k:Int):Rs:=EvL C [.blk 2,.seq Zlz,.blk 1,.seq Zl0,.loop [1,3,4,5] Zl1,.blk 0,.seq Zl2,.fin 0 [.tmp 2]] [1,3,4,5,6,7] Zly ⟨[(1,.ptr 0 0),(3,.own 1),(4,.own 2),(5,I i),(6,.ptr 3 0),(7,I k)],[[]],[.box (q.c.map .t),.arr 242 3 true (out.map Zv.c),.arr 3 1 true (masks.map ic),.box [I mask,.own 4,.own 5],.arr 3 1 true (x.map ic),.arr 38 1 true (x1.map isc)]⟩
def Zth:MCode:=.we [.m 6 4,.m 7 0,.ll 8 7,.b 9 .lss 6 8,.m 10 9,.g 11 10 (.mov (.s 0)),.g 12 10 (.cl 212 [11]),.o 13 (.pick (.s 10) (.s 12) (.q false))] [0,3,4,13] 13 0 (.seq (.block 1 (.reg [.m 16 3,.m 17 0,.m 18 4,.ia 19 1 17 18,.l 20 19,.cl 21 184 [20],.o 22 (.bslice 3 1 1 [.z] [(0,.s 21)]),.o 23 (.append 3 1 8 true (.s 16) (.s 22)),.m 3 23] [0,3,4])) (.reg [.m 14 4,.bk 15 .add 14 1,.m 4 15] [0,3,4]))
def Zti:MCode:=.r [.m 24 3,.m 2 24] [2] .ret
def Z0i:MFun:=⟨1,25,[.tmp 2],.r [.o 2 (.mov (.c (.t .nil)))] [0] (.r [.o 5 (.bslice 3 1 0 [.z] []),.m 3 5] [0,3] (.seq (.r [.mk' 4 0] [0,3,4] (.block 0 (.loop [0,3,4] Zth))) Zti))⟩
noncomputable def Zin (a:List Int):Rs:=C 125 [L 1 (a.map ic)] []
noncomputable def Zio (out:List Int) (l:List Int) (i:Int):Rs:=EvL C [.blk 0,.seq Zti,.fin 0 [.tmp 2]] [0,3,4] Zth ⟨[(0,L 1 (l.map ic)),(3,.own 0),(4,I i)],[[]],[.arr 3 1 true (out.map ic)]⟩
def Z0j:MCode:=.reg [.m 12 4,.bk 13 .add 12 1,.m 4 13] [0,3,4]
def Ztj:MCode:=.we [.m 6 4,.bk 7 .lss 6 4,.m 8 7,.g 9 8 (.mov (.s 0)),.g 10 8 (.call 137 [.s 9,.c (.t .z),.c (.t (.int .i64 15))]),.o 11 (.pick (.s 8) (.s 10) (.q false))] [0,3,4,11] 11 0 (.seq (.block 1 (.r [.m 14 0,.m 15 4,.b 16 .shr 14 15,.bk 17 .and 16 1,.bk 18 .eql 17 1] [0,3,4,18] (.cond (.s 18) (.reg [.m 19 3,.m 20 4,.o 21 (.bslice 3 1 1 [.z] [(0,.s 20)]),.o 22 (.append 3 1 8 true (.s 19) (.s 21)),.m 3 22] [0,3,4]) .skip))) Z0j)
def Ztk:MCode:=.r [.m 23 3,.m 2 23] [2] .ret
def Z0k:MFun:=⟨1,24,[.tmp 2],.r [.o 2 (.mov (.c (.t .nil)))] [0] (.r [.o 5 (.bslice 3 1 0 [.z] []),.m 3 5] [0,3] (.seq (.r [.mk' 4 0] [0,3,4] (.block 0 (.loop [0,3,4] Ztj))) Ztk))⟩
noncomputable def Zl5 (a:Int):Rs:=C 209 [I a] []
noncomputable def Zg1 (out:List Int) (mask:Int) (i:Int):Rs:=EvL C [.blk 0,.seq Ztk,.fin 0 [.tmp 2]] [0,3,4] Ztj ⟨[(0,I mask),(3,.own 0),(4,I i)],[[]],[.arr 3 1 true (out.map ic)]⟩
def Z0l:MFun:=⟨1,7,[.cell 2 (some 1)],.r [.o 2 (.alloc [.t .nil])] [0,2] (.r [.m 3 0,.o 4 (.build [.t .z,.t .z,.t .z] [(0,1,.c (.t (.int .i64 1))),(1,1,.s 3)]),.o 5 (.bslice 142 3 1 [.z,.z,.z] [(0,.s 4)]),.o 6 (.build [.t .nil] [(0,1,.s 5)]),.st 1 2 6] [2] .ret)⟩
noncomputable def Zl6 (a:Int):Rs:=C 210 [I a] []
def Z0m:MCode:=.reg [.m 11 6,.bk 12 .add 11 1,.m 6 12] [0,1,5,6]
def Ztl:MCode:=.we [.m 7 6,.m 8 0,.ll 9 8,.b 10 .lss 7 9] [0,1,5,6,10] 10 0 (.seq (.block 1 (.seq (.drw [.m 13 0,.m 14 6,.ia 15 4 13 14,.fa 16 0 15,.l 17 16,.m 18 1,.b 19 .eql 17 18,.m 20 19,.g 21 20 (.mov (.s 5)),.g 22 20 (.bk .lss 21 0),.g 23 20 (.mov (.s 22)),.h 24 23 (.mov (.s 0)),.h 25 23 (.mov (.s 6)),.h 26 23 (.ia 4 24 25),.h 27 23 (.fa 2 26),.h 28 23 (.l 27),.h 29 23 (.mov (.s 0)),.h 30 23 (.mov (.s 5)),.h 31 23 (.ia 4 29 30),.h 32 23 (.fa 2 31),.h 33 23 (.l 32),.h 34 23 (.b .lss 28 33),.g 35 20 (.pick (.s 23) (.q true) (.s 34)),.o 36 (.pick (.s 20) (.s 35) (.q false))] [[],[],[0,1],[2],[3],[],[4,5],[6],[7],[8,7],[9,7,7],[10],[10],[11,12,10],[13,10],[14,10],[10],[10],[16,17,10],[18,10],[19,10],[15,20,10],[10,21,7],[7,22]] [0,1,5,6,36]) (.cond (.s 36) (.reg [.m 37 6,.m 5 37] [0,1,5,6]) .skip))) Z0m)
def Ztm:MCode:=.r [.m 38 5,.m 4 38] [4] .ret
def Z0n:MFun:=⟨2,39,[.tmp 4],.r [.mk' 4 0] [0,1] (.r [.mk' 5 (-1)] [0,1,5] (.seq (.r [.mk' 6 0] [0,1,5,6] (.block 0 (.loop [0,1,5,6] Ztl))) Ztm))⟩
noncomputable def Zep (a:List Za) (a1:Int):Rs:=C 208 [L 4 (a.map Za.c),I a1] []
noncomputable def Zeq (l:List Za) (mask:Int) (best:Int) (i:Int):Rs:=EvL C [.blk 0,.seq Ztm,.fin 0 [.tmp 4]] [0,1,5,6] Ztl ⟨[(0,L 4 (l.map Za.c)),(1,I mask),(5,I best),(6,I i)],[[]],[]⟩
def Z0o:MFun:=⟨4,30,[.cell 8 (some 1)],.r [.bx 4 0,.bx 5 1,.o 8 (.alloc [.t .nil])] [2,3,4,5,8] (.r [.o 10 (.bslice 142 3 0 [.z,.z,.z] []),.fa 11 0 4,.l 12 11,.o 13 (.append 142 3 24 false (.s 10) (.s 12)),.o 14 (.build [.t .nil] [(0,1,.s 13)]),.o 9 (.alloc [.t .nil]),.st 1 9 14] [2,3,5,8,9] (.r [.fa 15 0 9,.l 16 15,.fa 17 0 5,.l 18 17,.o 19 (.append 142 3 24 false (.s 16) (.s 18)),.fa 20 0 9,.st 1 20 19] [2,3,8,9] (.r [.fa 21 0 9,.l 22 21,.m 23 2,.m 24 3,.o 25 (.build [.t .z,.t .z,.t .z] [(0,1,.s 23),(2,1,.s 24)]),.o 26 (.bslice 142 3 1 [.z,.z,.z] [(0,.s 25)]),.o 27 (.append 142 3 24 true (.s 22) (.s 26)),.fa 28 0 9,.st 1 28 27] [8,9] (.r [.ln 29 1 9,.st 1 8 29] [8] .ret))))⟩
noncomputable def Zcp (a:Plan) (a1:Plan) (a2:Int) (a3:Int):Rs:=C 229 [.agg (a.c.map .t),.agg (a1.c.map .t),I a2,I a3] []
def Zl7:MFun:=⟨8,81,[],.r [.bx 8 0,.bx 11 3,.bx 12 4] [1,2,5,6,7,8,11,12] (.seq (.drw [.fa 17 2 11,.l 18 17,.fa 19 2 12,.l 20 19,.b 21 .add 18 20,.ln 22 30 8,.m 23 5,.cl 24 92 [22,23],.m 25 1,.fa 26 0 11,.l 27 26,.ia 28 1 25 27,.l 29 28,.m 30 1,.fa 31 0 12,.l 32 31,.ia 33 1 30 32,.l 34 33,.m 35 1,.fa 36 0 11,.l 37 36,.fa 38 0 12,.l 39 38,.b 40 .or 37 39,.ia 41 1 35 40,.l 42 41,.cl 43 91 [24,29,34,42],.b 44 .add 21 43,.m 16 44] [[],[0],[],[2],[1,3],[],[],[5,6],[],[],[9],[8,10],[11],[],[],[14],[13,15],[16],[],[],[19],[],[21],[20,22],[18,23],[24],[7,12,17,25,7],[4,26],[27,26,0,1,2,3,4,5,6,7,8,9,10,11,12,13,14,15,16,17,18,19,20,21,22,23,24,25,26,27]] [2,5,6,7,11,12,16]) (.r [.m 45 2,.m 46 7,.bk 47 .add 46 1,.ia 48 4 45 47,.fa 49 0 48,.l 50 49,.bk 51 .eql 50 0,.m 52 51,.h 53 52 (.mov (.s 16)),.h 54 52 (.mov (.s 2)),.h 55 52 (.mov (.s 7)),.h 56 52 (.bk .add 55 1),.h 57 52 (.ia 4 54 56),.h 58 52 (.fa 2 57),.h 59 52 (.l 58),.h 60 52 (.b .lss 53 59),.o 61 (.pick (.s 52) (.q true) (.s 60))] [2,5,6,7,11,12,16,61] (.cond (.s 61) (.drw [.m 62 2,.m 63 7,.bk 64 .add 63 1,.fa 65 0 11,.l 66 65,.fa 67 0 12,.l 68 67,.b 69 .or 66 68,.m 70 7,.m 71 16,.fa 72 3 11,.ln 73 1 72,.fa 74 3 12,.ln 75 1 74,.m 76 5,.m 77 6,.cl 78 229 [73,75,76,77],.o 79 (.build [.t .z,.t .z,.t .z,.t .nil] [(0,1,.s 69),(1,1,.s 70),(2,1,.s 71),(3,1,.s 78)]),.ia 80 4 62 64,.st 4 80 79] [[],[],[1],[],[3],[],[5],[4,6],[],[],[],[10],[],[12],[],[],[11,13,14,15],[7,8,9,16],[0,2,0,1,2,3,4,5,6,7,8,9,10,11,12,13,14,15,16,17],[18,17,16,0,1,2,3,4,5,6,7,8,9,10,11,12,13,14,15,16,17]] []) .skip)))⟩
noncomputable def Zfp (x:List Int) (x1:List Za) (a:Zd) (a1:Za) (a2:Za) (a3:Int) (a4:Int) (a5:Int):Rs:=C 271 [.agg (a.c.map .t),.own 0,.own 1,.agg (a1.c.map .t),.agg (a2.c.map .t),I a3,I a4,I a5] [.arr 3 1 true (x.map ic),.arr 174 4 true (x1.map Za.c)]
def Ztn:MCode:=.we [.m 8 7,.m 9 0,.ll 10 9,.b 11 .lss 8 10] [0,1,2,7,11] 11 0 (.seq (.block 1 (.r [.m 14 0,.m 15 7,.ia 16 4 14 15,.fa 17 0 16,.l 18 17,.m 19 1,.b 20 .eql 18 19,.m 21 20,.g 22 21 (.mov (.s 0)),.g 23 21 (.mov (.s 7)),.g 24 21 (.ia 4 22 23),.g 25 21 (.fa 1 24),.g 26 21 (.l 25),.g 27 21 (.mov (.s 2)),.g 28 21 (.b .eql 26 27),.o 29 (.pick (.s 21) (.s 28) (.q false))] [0,1,2,7,29] (.cond (.s 29) (.r [.m 30 7,.m 6 30] [6] .ret) .skip))) (.reg [.m 12 7,.bk 13 .add 12 1,.m 7 13] [0,1,2,7]))
def Zto:MCode:=.r [.mk' 6 (-1)] [6] .ret
def Z0p:MFun:=⟨3,31,[.tmp 6],.r [.mk' 6 0] [0,1,2] (.seq (.r [.mk' 7 0] [0,1,2,7] (.block 0 (.loop [0,1,2,7] Ztn))) Zto)⟩
noncomputable def Zip (a:List Za) (a1:Int) (a2:Int):Rs:=C 272 [L 4 (a.map Za.c),I a1,I a2] []
noncomputable def Zg2 (l:List Za) (mask:Int) (order:Int) (i:Int):Rs:=EvL C [.blk 0,.seq Zto,.fin 0 [.tmp 6]] [0,1,2,7] Ztn ⟨[(0,L 4 (l.map Za.c)),(1,I mask),(2,I order),(7,I i)],[[]],[]⟩
def Z0q:MFun:=⟨2,19,[.cell 4 (some 1)],.r [.bx 2 0,.o 4 (.alloc [.t .nil])] [1,2,4] (.r [.o 6 (.bslice 142 3 0 [.z,.z,.z] []),.fa 7 0 2,.l 8 7,.o 9 (.append 142 3 24 false (.s 6) (.s 8)),.o 10 (.build [.t .nil] [(0,1,.s 9)]),.o 5 (.alloc [.t .nil]),.st 1 5 10] [1,4,5] (.r [.fa 11 0 5,.l 12 11,.m 13 1,.o 14 (.build [.t .z,.t .z,.t .z] [(0,1,.c (.t (.int .i64 2))),(2,1,.s 13)]),.o 15 (.bslice 142 3 1 [.z,.z,.z] [(0,.s 14)]),.o 16 (.append 142 3 24 true (.s 12) (.s 15)),.fa 17 0 5,.st 1 17 16] [4,5] (.r [.ln 18 1 5,.st 1 4 18] [4] .ret)))⟩
noncomputable def Zjv (a:Plan) (a1:Int):Rs:=C 231 [.agg (a.c.map .t),I a1] []
noncomputable def Zl8 (x:List Int) (x1:List Za) (x2:List Zb) (a:Zd) (a1:Za) (Mask:Int) (Order:Int) (Cost:Int) (a2:Int) (a3:Int) (a4:Int):Rs:=C 271 [.agg (a.c.map .t),.own 0,.own 1,.agg (a1.c.map .t),.agg [I Mask,I Order,I Cost,.own 2],I a2,I a3,I a4] [.arr 3 1 true (x.map ic),.arr 174 4 true (x1.map Za.c),.arr 142 3 true (x2.map Zb.c)]
noncomputable def Zl9 (x:List Int) (x1:List Za) (x2:List Zb) (a:Zd) (Mask:Int) (Order:Int) (Cost:Int) (a1:Za) (a2:Int) (a3:Int) (a4:Int):Rs:=C 271 [.agg (a.c.map .t),.own 0,.own 1,.agg [I Mask,I Order,I Cost,.own 2],.agg (a1.c.map .t),I a2,I a3,I a4] [.arr 3 1 true (x.map ic),.arr 174 4 true (x1.map Za.c),.arr 142 3 true (x2.map Zb.c)]
noncomputable def Zma (x:List Int) (x1:List Za) (x2:List Zb) (x3:List Zb) (a:Zd) (Mask:Int) (Order:Int) (Cost:Int) (Mask1:Int) (Order1:Int) (Cost1:Int) (a1:Int) (a2:Int) (a3:Int):Rs:=C 271 [.agg (a.c.map .t),.own 0,.own 1,.agg [I Mask,I Order,I Cost,.own 2],.agg [I Mask1,I Order1,I Cost1,.own 3],I a1,I a2,I a3] [.arr 3 1 true (x.map ic),.arr 174 4 true (x1.map Za.c),.arr 142 3 true (x2.map Zb.c),.arr 142 3 true (x3.map Zb.c)]
def Z0r:MFun:=⟨5,61,[.cell 10 (some 4)],.r [.bx 5 0,.o 10 (.alloc [.t .z,.t .z,.t .z,.t .nil])] [1,2,3,4,5,10] (.r [.m 14 2,.m 15 2,.m 16 3,.cl 17 208 [15,16],.ia 18 4 14 17,.ln 19 4 18,.o 11 (.alloc [.t .z,.t .z,.t .z,.t .nil]),.st 4 11 19] [1,2,3,4,5,10,11] (.seq (.drw [.fa 20 2 11,.l 21 20,.fa 22 6 5,.ln 23 6 22,.m 24 1,.m 25 3,.ia 26 1 24 25,.l 27 26,.m 28 1,.m 29 3,.ia 30 1 28 29,.l 31 30,.o 32 (.call 91 [.s 23,.s 27,.c (.t .z),.s 31]),.b 33 .add 21 32,.m 12 33] [[],[0],[],[2],[],[],[4,5],[6],[],[],[8,9],[10],[3,7,11],[1,12],[13,12,0,1,2,3,4,5,6,7,8,9,10,11,12,13]] [2,3,4,10,11,12]) (.r [.m 34 2,.m 35 3,.m 36 4,.cl 37 272 [34,35,36],.m 13 37] [2,3,4,10,11,12,13] (.wc [.m 38 13,.bk 39 .geq 38 0,.m 40 39,.g 41 40 (.mov (.s 2)),.g 42 40 (.mov (.s 13)),.g 43 40 (.ia 4 41 42),.g 44 40 (.fa 2 43),.g 45 40 (.l 44),.g 46 40 (.mov (.s 12)),.g 47 40 (.b .leq 45 46),.o 48 (.pick (.s 40) (.s 47) (.q false))] [2,3,4,10,11,12,13,48] 48 (.r [.m 49 2,.m 50 13,.ia 51 4 49 50,.ln 52 4 51,.st 4 10 52] [10] .ret) (.r [.m 53 3,.m 54 4,.m 55 12,.fa 56 3 11,.ln 57 1 56,.m 58 4,.cl 59 231 [57,58],.o 60 (.build [.t .z,.t .z,.t .z,.t .nil] [(0,1,.s 53),(1,1,.s 54),(2,1,.s 55),(3,1,.s 59)]),.st 4 10 60] [10] .ret)))))⟩
noncomputable def Zd5 (x:List Int) (fr:Bool) (x1:List Za) (a:Zd) (a1:Int) (a2:Int):Rs:=C 273 [.agg (a.c.map .t),.own 0,.own 1,I a1,I a2] [.arr 3 1 true (x.map ic),.arr 174 4 fr (x1.map Za.c)]
def Z0s:MCode:=.reg [.m 58 15,.bk 59 .add 58 1,.m 15 59] [1,2,4,7,9,10,11,12,14,15]
def Ztp:MCode:=.we [.m 56 15,.bk 57 .lss 56 4] [1,2,4,7,9,10,11,12,14,15,57] 57 2 (.seq (.block 3 (.r [.m 60 2,.m 61 11,.m 62 15,.cl 63 272 [60,61,62],.m 16 63] [1,2,4,7,9,10,11,12,14,15,16] (.r [.m 64 16,.bk 65 .geq 64 0] [1,2,4,7,9,10,11,12,14,15,16,65] (.cond (.s 65) (.drw [.ln 66 30 4,.m 67 1,.m 68 9,.m 69 2,.m 70 16,.ia 71 4 69 70,.ln 72 4 71,.ln 73 4 14,.m 74 15,.o 75 (.icall 271 [.s 66,.s 67,.s 68,.s 72,.s 73,.c (.t (.int .i64 5)),.c (.t .z),.s 74])] [[],[],[],[],[],[3,4],[5],[],[],[0,1,2,6,7,8]] [1,2,4,7,9,10,11,12,14,15]) .skip)))) Z0s)
def Ztq:MCode:=.we [.m 76 17,.fa 77 2 7,.l 78 77,.m 79 10,.ia 80 1 78 79,.l 81 80,.ll 82 81,.b 83 .lss 76 82] [1,2,4,7,9,10,11,12,17,83] 83 4 (.seq (.block 5 (.r [.fa 86 2 7,.l 87 86,.m 88 10,.ia 89 1 87 88,.l 90 89,.m 91 17,.ia 92 1 90 91,.l 93 92,.m 18 93] [1,2,4,7,9,10,11,12,17,18] (.drw [.ln 94 30 4,.m 95 1,.m 96 9,.ln 97 30 4,.m 98 1,.m 99 2,.m 100 11,.m 101 18,.o 102 (.pcall 273 [.s 97,.s 98,.s 99,.s 100,.s 101]),.ln 103 30 4,.m 104 1,.m 105 2,.m 106 12,.m 107 18,.o 108 (.pcall 273 [.s 103,.s 104,.s 105,.s 106,.s 107]),.m 109 18,.m 110 18,.o 111 (.icall 271 [.s 94,.s 95,.s 96,.s 102,.s 108,.c (.t (.int .i64 4)),.s 109,.s 110])] [[],[],[],[],[],[],[],[],[3,4,5,6,7],[],[],[],[],[],[9,10,11,12,13,8],[],[],[0,1,2,8,14,15,16,14]] [1,2,4,7,9,10,11,12,17]))) (.reg [.m 84 17,.bk 85 .add 84 1,.m 17 85] [1,2,4,7,9,10,11,12,17]))
def Ztr:MCode:=.r [.mk' 17 0] [1,2,4,7,9,10,11,12,17] (.block 4 (.loop [1,2,4,7,9,10,11,12,17] Ztq))
def Zos:MCode:=.reg [.m 27 10,.bk 28 .add 27 1,.m 10 28] [1,2,4,7,9,10]
def Zmb:MCode:=.we [.m 22 10,.fa 23 1 7,.l 24 23,.ll 25 24,.b 26 .lss 22 25] [1,2,4,7,9,10,26] 26 0 (.seq (.block 1 (.r [.fa 29 1 7,.l 30 29,.m 31 10,.ia 32 1 30 31,.l 33 32,.m 11 33] [1,2,4,7,9,10,11] (.r [.fa 34 0 7,.l 35 34,.m 36 11,.b 37 .sub 35 36,.m 12 37] [1,2,4,7,9,10,11,12] (.r [.m 38 2,.m 39 2,.m 40 11,.cl 41 208 [39,40],.ia 42 4 38 41,.ln 43 4 42,.o 13 (.alloc [.t .z,.t .z,.t .z,.t .nil]),.st 4 13 43] [1,2,4,7,9,10,11,12,13] (.r [.m 44 2,.m 45 2,.m 46 12,.cl 47 208 [45,46],.ia 48 4 44 47,.ln 49 4 48,.o 14 (.alloc [.t .z,.t .z,.t .z,.t .nil]),.st 4 14 49] [1,2,4,7,9,10,11,12,13,14] (.r [.ln 50 30 4,.m 51 1,.m 52 9,.ln 53 4 13,.ln 54 4 14,.o 55 (.icall 271 [.s 50,.s 51,.s 52,.s 53,.s 54,.c (.t (.int .i64 3)),.c (.t .z),.c (.t (.int .i64 (-1)))])] [1,2,4,7,9,10,11,12,14] (.seq (.r [.mk' 15 (-1)] [1,2,4,7,9,10,11,12,14,15] (.block 2 (.loop [1,2,4,7,9,10,11,12,14,15] Ztp))) Ztr))))))) Zos)
def Z0t:MCode:=.reg [.m 115 20,.bk 116 .add 115 1,.m 20 116] [9,19,20]
def Zts:MCode:=.we [.m 113 20,.bk 114 .leq 113 4] [9,19,20,114] 114 6 (.seq (.block 7 (.r [.m 117 9,.m 118 20,.ia 119 4 117 118,.fa 120 0 119,.l 121 120,.bk 122 .gtr 121 0] [9,19,20,122] (.cond (.s 122) (.reg [.m 123 19,.m 124 9,.m 125 20,.ia 126 4 124 125,.ln 127 4 126,.o 128 (.bslice 174 4 1 [.z,.z,.z,.lst 3 []] [(0,.s 127)]),.o 129 (.append 174 4 48 true (.s 123) (.s 128)),.m 19 129] [9,19,20]) .skip))) Z0t)
def Ztt:MCode:=.r [.m 130 19,.m 8 130] [8] .ret
def Zmc:MCode:=.r [.o 112 (.bslice 174 4 0 [.z,.z,.z,.lst 3 []] []),.m 19 112] [9,19] (.seq (.r [.mk' 20 0] [9,19,20] (.block 6 (.loop [9,19,20] Zts))) Ztt)
def Z0u:MFun:=⟨4,131,[.tmp 8],.r [.bx 4 0,.bx 7 3,.o 8 (.mov (.c (.t .nil)))] [1,2,4,7] (.r [.o 21 (.mkslice 174 4 48 [.z,.z,.z,.lst 3 []] (.k 5) (.k 5)),.m 9 21] [1,2,4,7,9] (.seq (.r [.mk' 10 0] [1,2,4,7,9,10] (.block 0 (.loop [1,2,4,7,9,10] Zmb))) Zmc))⟩
noncomputable def Zmd (x:List Int) (fr:Bool) (x1:List Za) (a:Zd) (a1:Zv):Rs:=C 211 [.agg (a.c.map .t),.own 0,.own 1,.agg (a1.c.map .t)] [.arr 3 1 true (x.map ic),.arr 174 4 fr (x1.map Za.c)]
noncomputable def Zg3 (sizes:List Int) (fr:Bool) (l:List Za) (m:Zd) (x:Zv) (mine:List Za) (k:Int):Rs:=EvL C [.blk 0,.seq Zmc,.fin 2 [.tmp 8]] [1,2,4,7,9,10] Zmb ⟨[(1,.own 0),(2,.own 1),(4,.ptr 2 0),(7,.ptr 3 0),(9,.own 4),(10,I k)],[[(0,.own 0),(1,.own 1)]],[.arr 3 1 true (sizes.map ic),.arr 174 4 fr (l.map Za.c),.box (m.c.map .t),.box (x.c.map .t),.arr 174 4 true (mine.map Za.c)]⟩
noncomputable def Zg4 (sizes:List Int) (fr:Bool) (l:List Za) (m:Zd) (x:Zv) (mine:List Za) (b:Za) (k:Int) (left:Int) (right:Int) (o:Int):Rs:=EvL C [.blk 2,.seq Ztr,.blk 1,.seq Zos,.loop [1,2,4,7,9,10] Zmb,.blk 0,.seq Zmc,.fin 2 [.tmp 8]] [1,2,4,7,9,10,11,12,14,15] Ztp ⟨[(1,.own 0),(2,.own 1),(4,.ptr 2 0),(7,.ptr 3 0),(9,.own 4),(10,I k),(11,I left),(12,I right),(14,.ptr 5 0),(15,I o)],[[(0,.own 0),(1,.own 1)]],[.arr 3 1 true (sizes.map ic),.arr 174 4 fr (l.map Za.c),.box (m.c.map .t),.box (x.c.map .t),.arr 174 4 true (mine.map Za.c),.box (b.c.map .t)]⟩
noncomputable def Zfq (mine:List Za) (fr:Bool) (out:List Za) (x:List Int) (fr1:Bool) (x1:List Za) (o:Int):Rs:=EvL C [.blk 6,.seq Ztt,.fin 2 [.tmp 8]] [9,19,20] Zts ⟨[(9,.own 0),(19,.own 1),(20,I o)],[[(0,.own 2),(1,.own 3)]],[.arr 174 4 true (mine.map Za.c),.arr 174 4 fr (out.map Za.c),.arr 3 1 true (x.map ic),.arr 174 4 fr1 (x1.map Za.c)]⟩
noncomputable def Zd6 (sizes:List Int) (fr:Bool) (l:List Za) (m:Zd) (x:Zv) (mine:List Za) (k:Int) (left:Int) (right:Int) (e:Int):Rs:=EvL C [.blk 4,.blk 1,.seq Zos,.loop [1,2,4,7,9,10] Zmb,.blk 0,.seq Zmc,.fin 2 [.tmp 8]] [1,2,4,7,9,10,11,12,17] Ztq ⟨[(1,.own 0),(2,.own 1),(4,.ptr 2 0),(7,.ptr 3 0),(9,.own 4),(10,I k),(11,I left),(12,I right),(17,I e)],[[(0,.own 0),(1,.own 1)]],[.arr 3 1 true (sizes.map ic),.arr 174 4 fr (l.map Za.c),.box (m.c.map .t),.box (x.c.map .t),.arr 174 4 true (mine.map Za.c)]⟩
def Z0v:MCode:=.reg [.m 18 10,.bk 19 .add 18 1,.m 10 19] [2,3,4,5,9,10]
def Ztu:MCode:=.we [.m 14 10,.m 15 2,.ll 16 15,.b 17 .lss 14 16] [2,3,4,5,9,10,17] 17 0 (.seq (.block 1 (.r [.m 20 2,.m 21 10,.ia 22 3 20 21,.fa 23 0 22,.l 24 23,.m 11 24] [2,3,4,5,9,10,11] (.wc [.m 25 11,.m 26 11,.bk 27 .sub 26 1,.b 28 .and 25 27,.bk 29 .eql 28 0] [2,3,4,5,9,10,11,29] 29 (.r [.m 30 11,.cl 31 209 [30],.o 32 (.iaddr 1 (.s 31) (.k 0)),.l 33 32,.m 12 33] [2,3,4,5,9,10,11,12] (.seq (.drw [.m 34 9,.m 35 11,.fa 36 1 5,.l 37 36,.m 38 12,.ia 39 2 37 38,.fa 40 1 39,.l 41 40,.o 42 (.iaddr 1 (.s 41) (.k 0)),.l 43 42,.fa 44 0 4,.ln 45 6 44,.m 46 3,.m 47 11,.ia 48 1 46 47,.l 49 48,.m 50 3,.m 51 11,.ia 52 1 50 51,.l 53 52,.o 54 (.call 91 [.s 45,.s 49,.c (.t .z),.s 53]),.m 55 12,.cl 56 210 [55],.o 57 (.build [.t .z,.t .z,.t .z,.t .nil] [(0,1,.s 35),(1,1,.s 43),(2,1,.s 54),(3,1,.s 56)]),.o 58 (.bslice 174 4 1 [.z,.z,.z,.lst 3 []] [(0,.s 57)]),.o 59 (.append 174 4 48 true (.s 34) (.s 58)),.m 9 59] [[],[],[],[2],[],[3,4],[5],[6],[7],[8],[],[10],[],[],[12,13],[14],[],[],[16,17],[18],[11,15,19],[],[21,20],[1,9,20,22],[23],[0,24,22],[25,25,0,1,2,3,4,5,6,7,8,9,10,11,12,13,14,15,16,17,18,19,20,21,22,23,24,25]] [2,3,4,5,9,10]) (.exit 1))) (.drw [.m 60 9,.ln 61 30 4,.m 62 3,.m 63 9,.m 64 2,.m 65 10,.ia 66 3 64 65,.ln 67 3 66,.o 68 (.pcall 211 [.s 61,.s 62,.s 63,.s 67]),.o 69 (.append 174 4 48 false (.s 60) (.s 68)),.m 9 69] [[],[],[],[],[],[],[4,5],[6],[1,2,3,7],[0,8,8],[9,9,0,1,2,3,4,5,6,7,8,9]] [2,3,4,5,9,10])))) Z0v)
def Ztv:MCode:=.r [.m 70 9,.m 8 70] [8] .ret
def Z0w:MFun:=⟨4,71,[.tmp 8],.r [.bx 4 0,.bx 5 1,.o 8 (.mov (.c (.t .nil)))] [2,3,4,5] (.r [.o 13 (.bslice 174 4 0 [.z,.z,.z,.lst 3 []] []),.m 9 13] [2,3,4,5,9] (.seq (.r [.mk' 10 0] [2,3,4,5,9,10] (.block 0 (.loop [2,3,4,5,9,10] Ztu))) Ztv))⟩
noncomputable def Zme (x:List Zv) (x1:List Int) (a:Zd) (a1:Zc):Rs:=C 124 [.agg (a.c.map .t),.agg (a1.c.map .t),.own 0,.own 1] [.arr 242 3 true (x.map Zv.c),.arr 3 1 true (x1.map ic)]
noncomputable def Zg5 (shapes:List Zv) (sizes:List Int) (m:Zd) (q:Zc) (fr:Bool) (out:List Za) (i:Int):Rs:=EvL C [.blk 0,.seq Ztv,.fin 2 [.tmp 8]] [2,3,4,5,9,10] Ztu ⟨[(2,.own 0),(3,.own 1),(4,.ptr 2 0),(5,.ptr 3 0),(9,.own 4),(10,I i)],[[(0,.own 0),(1,.own 1)]],[.arr 242 3 true (shapes.map Zv.c),.arr 3 1 true (sizes.map ic),.box (m.c.map .t),.box (q.c.map .t),.arr 174 4 fr (out.map Za.c)]⟩
def Z0x:MFun:=⟨2,38,[.cell 4 (some 4),.tmp 5],.r [.o 4 (.alloc [.t .z,.t .z,.t .z,.t .nil]),.o 5 (.mov (.q false))] [0,1,4] (.r [.m 7 0,.m 8 1,.cl 9 208 [7,8],.m 6 9] [0,4,6] (.wc [.m 10 6,.bk 11 .lss 10 0] [0,4,6,11] 11 (.r [.o 12 (.build [.t .z,.t .z,.t .z,.t .nil] []),.st 4 4 12,.o 5 (.mov (.q false))] [4,5] .ret) (.seq (.drw [.m 13 0,.m 14 6,.ia 15 4 13 14,.fa 16 0 15,.l 17 16,.m 18 0,.m 19 6,.ia 20 4 18 19,.fa 21 1 20,.l 22 21,.m 23 0,.m 24 6,.ia 25 4 23 24,.fa 26 2 25,.l 27 26,.o 28 (.bslice 142 3 0 [.z,.z,.z] []),.m 29 0,.m 30 6,.ia 31 4 29 30,.fa 32 3 31,.fa 33 0 32,.l 34 33,.o 35 (.append 142 3 24 false (.s 28) (.s 34)),.o 36 (.build [.t .nil] [(0,1,.s 35)]),.o 37 (.build [.t .z,.t .z,.t .z,.t .nil] [(0,1,.s 17),(1,1,.s 22),(2,1,.s 27),(3,1,.s 36)]),.st 4 4 37,.o 5 (.mov (.q true))] [[],[],[0,1],[2],[3],[],[],[5,6],[7],[8],[],[],[10,11],[12],[13],[],[],[],[16,17],[18],[19],[20],[15,21],[22],[4,9,14,23],[24,22,0,1,2,3,4,5,6,7,8,9,10,11,12,13,14,15,16,17,18,19,20,21,22,23,24],[25,0,1,2,3,4,5,6,7,8,9,10,11,12,13,14,15,16,17,18,19,20,21,22,23,24,25]] [4,5]) .ret)))⟩
noncomputable def Zjw (a:List Za) (a1:Int):Rs:=C 123 [L 4 (a.map Za.c),I a1] []
def Ztw:MCode:=.we [.m 17 5,.m 18 1,.ll 19 18,.b 20 .lss 17 19] [1,5,20] 20 0 (.seq (.block 1 (.r [.m 23 1,.m 24 5,.ia 25 1 23 24,.l 26 25,.o 27 (.call 137 [.s 26,.c (.t .z),.c (.t (.int .i64 4096))]),.o 28 (.un .not (.s 27))] [1,5,28] (.cond (.s 28) (.r [.o 4 (.mov (.q false))] [4] .ret) .skip))) (.reg [.m 21 5,.bk 22 .add 21 1,.m 5 22] [1,5]))
def Ztx:MCode:=.r [.o 4 (.mov (.q true))] [4] .ret
def Z0y:MFun:=⟨2,29,[.tmp 4],.r [.bx 2 0,.o 4 (.mov (.q false))] [1,2] (.wc [.ln 6 2 2,.cl 7 180 [6],.o 8 (.un .not (.s 7)),.m 9 8,.h 10 9 (.mov (.s 1)),.h 11 9 (.ll 10),.h 12 9 (.ln 2 2),.h 13 9 (.cl 117 [12]),.h 14 9 (.bk .add 13 1),.h 15 9 (.b .neq 11 14),.o 16 (.pick (.s 9) (.q true) (.s 15))] [1,16] 16 (.r [.o 4 (.mov (.q false))] [4] .ret) (.seq (.r [.mk' 5 0] [1,5] (.block 0 (.loop [1,5] Ztw))) Ztx))⟩
noncomputable def Zmf (a:Zc) (a1:List Int):Rs:=C 285 [.agg (a.c.map .t),L 1 (a1.map ic)] []
noncomputable def Ziq (sizes:List Int) (i:Int):Rs:=EvL C [.blk 0,.seq Ztx,.fin 0 [.tmp 4]] [1,5] Ztw ⟨[(1,L 1 (sizes.map ic)),(5,I i)],[[]],[]⟩
def Z0z:MFun:=⟨5,79,[.tmp 10],.r [.bx 5 0,.mk' 10 0] [1,2,3,4,5] (.r [.m 13 2,.m 14 3,.ia 15 4 13 14,.ln 16 4 15,.o 11 (.alloc [.t .z,.t .z,.t .z,.t .z]),.st 4 11 16] [1,2,4,5,11] (.r [.ln 17 30 5,.m 18 1,.cl 19 92 [17,18],.o 12 (.alloc [.t .z,.t .z,.t .z,.t .z,.t .z,.t .nil]),.st 6 12 19] [2,4,11,12] (.wc [.fa 20 2 11,.l 21 20,.bk 22 .lss 21 0] [2,4,11,12,22] 22 (.seq (.drw [.ln 23 6 12,.m 24 4,.fa 25 0 11,.l 26 25,.ia 27 1 24 26,.l 28 27,.m 29 4,.fa 30 0 11,.l 31 30,.ia 32 1 29 31,.l 33 32,.o 34 (.call 91 [.s 23,.s 28,.c (.t .z),.s 33]),.m 10 34] [[],[],[],[2],[1,3],[4],[],[],[7],[6,8],[9],[0,5,10],[11,11,0,1,2,3,4,5,6,7,8,9,10,11]] [10]) .ret) (.wc [.fa 35 3 11,.l 36 35,.bk 37 .lss 36 0] [2,4,11,12,37] 37 (.seq (.drw [.ln 38 6 12,.m 39 4,.m 40 2,.fa 41 2 11,.l 42 41,.ia 43 4 40 42,.fa 44 0 43,.l 45 44,.ia 46 1 39 45,.l 47 46,.m 48 4,.fa 49 0 11,.l 50 49,.ia 51 1 48 50,.l 52 51,.o 53 (.call 91 [.s 38,.s 47,.c (.t .z),.s 52]),.m 10 53] [[],[],[],[],[3],[2,4],[5],[6],[1,7],[8],[],[],[11],[10,12],[13],[0,9,14],[15,15,0,1,2,3,4,5,6,7,8,9,10,11,12,13,14,15]] [10]) .ret) (.seq (.drw [.ln 54 6 12,.m 55 4,.m 56 2,.fa 57 2 11,.l 58 57,.ia 59 4 56 58,.fa 60 0 59,.l 61 60,.ia 62 1 55 61,.l 63 62,.m 64 4,.m 65 2,.fa 66 3 11,.l 67 66,.ia 68 4 65 67,.fa 69 0 68,.l 70 69,.ia 71 1 64 70,.l 72 71,.m 73 4,.fa 74 0 11,.l 75 74,.ia 76 1 73 75,.l 77 76,.cl 78 91 [54,63,72,77],.m 10 78] [[],[],[],[],[3],[2,4],[5],[6],[1,7],[8],[],[],[],[12],[11,13],[14],[15],[10,16],[17],[],[],[20],[19,21],[22],[0,9,18,23],[24,24,0,1,2,3,4,5,6,7,8,9,10,11,12,13,14,15,16,17,18,19,20,21,22,23,24]] [10]) .ret)))))⟩
noncomputable def Zmg (a:Zd) (a1:Int) (a2:List Zh) (a3:Int) (a4:List Int):Rs:=C 286 [.agg (a.c.map .t),I a1,L 4 (a2.map Zh.c),I a3,L 1 (a4.map ic)] []
def Zty:MCode:=.we [.m 29 12,.m 30 10,.ll 31 30,.b 32 .lss 29 31] [3,4,6,9,10,12,32] 32 0 (.seq (.block 1 (.drw [.m 35 9,.ln 36 30 4,.fa 37 0 6,.l 38 37,.m 39 12,.ia 40 3 38 39,.fa 41 0 40,.l 42 41,.m 43 10,.m 44 12,.m 45 3,.cl 46 286 [36,42,43,44,45],.o 47 (.bslice 3 1 1 [.z] [(0,.s 46)]),.o 48 (.append 3 1 8 true (.s 35) (.s 47)),.m 9 48] [[],[],[],[2],[],[3,4],[5],[6],[],[],[],[1,7,8,9,10],[11],[0,12,11],[13,13,0,1,2,3,4,5,6,7,8,9,10,11,12,13]] [3,4,6,9,10,12])) (.reg [.m 33 12,.bk 34 .add 33 1,.m 12 34] [3,4,6,9,10,12]))
def Ztz:MCode:=.r [.m 49 9,.m 8 49] [8] .ret
def Z00:MFun:=⟨4,50,[.tmp 8],.r [.bx 4 0,.bx 5 1,.bx 6 2,.o 8 (.mov (.c (.t .nil)))] [3,4,5,6] (.r [.o 13 (.bslice 3 1 0 [.z] []),.m 9 13] [3,4,5,6,9] (.r [.ln 15 2 5,.ln 16 1 6,.cl 17 87 [15,16],.m 14 17,.o 18 (.ext (.s 14) 0),.o 19 (.ext (.s 14) 1),.m 10 18,.m 11 19] [3,4,5,6,9,10,11] (.wc [.m 20 11,.o 21 (.un .not (.s 20)),.m 22 21,.h 23 22 (.ln 2 5),.h 24 22 (.mov (.s 3)),.h 25 22 (.cl 285 [23,24]),.h 26 22 (.un .not (.s 25)),.o 27 (.pick (.s 22) (.q true) (.s 26))] [3,4,6,9,10,27] 27 (.r [.m 28 9,.m 8 28] [8] .ret) (.seq (.r [.mk' 12 0] [3,4,6,9,10,12] (.block 0 (.loop [3,4,6,9,10,12] Zty))) Ztz))))⟩
noncomputable def Zmh (a:Zd) (a1:Zc) (a2:Plan) (a3:List Int):Rs:=C 241 [.agg (a.c.map .t),.agg (a1.c.map .t),.agg (a2.c.map .t),L 1 (a3.map ic)] []
noncomputable def Zir (m:Zd) (p:Plan) (out:List Int) (info:List Zh) (sizes:List Int) (i:Int):Rs:=EvL C [.blk 0,.seq Ztz,.fin 0 [.tmp 8]] [3,4,6,9,10,12] Zty ⟨[(3,L 1 (sizes.map ic)),(4,.ptr 0 0),(6,.ptr 1 0),(9,.own 2),(10,.own 3),(12,I i)],[[]],[.box (m.c.map .t),.box (p.c.map .t),.arr 3 1 true (out.map ic),.arr 138 4 true (info.map Zh.c)]⟩
def Zt0:MCode:=.we [.m 20 11,.m 21 9,.ll 22 21,.b 23 .lss 20 22] [9,10,11,23] 23 0 (.seq (.block 1 (.reg [.m 26 10,.m 27 9,.m 28 11,.ia 29 1 27 28,.l 30 29,.b 31 .add 26 30,.m 10 31] [9,10,11])) (.reg [.m 24 11,.bk 25 .add 24 1,.m 11 25] [9,10,11]))
def Zt1:MCode:=.r [.m 32 10,.m 8 32] [8] .ret
def Z01:MFun:=⟨4,33,[.tmp 8],.r [.bx 4 0,.bx 5 1,.bx 6 2,.mk' 8 0] [3,4,5,6] (.r [.ln 12 30 4,.ln 13 2 5,.ln 14 1 6,.m 15 3,.cl 16 241 [12,13,14,15],.m 9 16] [9] (.wc [.m 17 9,.ll 18 17,.bk 19 .eql 18 0] [9,19] 19 (.r [.mk' 8 (-1)] [8] .ret) (.r [.mk' 10 0] [9,10] (.seq (.r [.mk' 11 0] [9,10,11] (.block 0 (.loop [9,10,11] Zt0))) Zt1))))⟩
noncomputable def Zmi (a:Zd) (a1:Zc) (a2:Plan) (a3:List Int):Rs:=C 162 [.agg (a.c.map .t),.agg (a1.c.map .t),.agg (a2.c.map .t),L 1 (a3.map ic)] []
noncomputable def Zis (l:List Int) (n:Int) (i:Int):Rs:=EvL C [.blk 0,.seq Zt1,.fin 0 [.tmp 8]] [9,10,11] Zt0 ⟨[(9,.own 0),(10,I n),(11,I i)],[[]],[.arr 3 1 true (l.map ic)]⟩
def Z02:MFun:=⟨4,15,[.tmp 8],.r [.bx 4 0,.bx 5 1,.bx 6 2,.mk' 8 0] [3,4,5,6] (.seq (.drw [.ln 9 30 4,.ln 10 2 5,.ln 11 1 6,.m 12 3,.cl 13 125 [12],.cl 14 162 [9,10,11,13],.m 8 14] [[],[],[],[],[3],[0,1,2,4,4],[5,5,0,1,2,3,4,5]] [8]) .ret)⟩
noncomputable def Zmj (a:Zd) (a1:Zc) (a2:Plan) (a3:List Int):Rs:=C 70 [.agg (a.c.map .t),.agg (a1.c.map .t),.agg (a2.c.map .t),L 1 (a3.map ic)] []
def Z03:MFun:=⟨3,42,[.tmp 6],.r [.bx 3 0,.bx 4 1,.bx 5 2,.o 6 (.mov (.q false))] [3,4,5] (.seq (.drw [.ln 10 30 3,.ln 11 2 4,.ln 12 2 4,.cl 13 121 [12],.fa 14 1 5,.fa 15 0 14,.l 16 15,.cl 17 125 [16],.o 18 (.pcall 124 [.s 10,.s 11,.s 13,.s 17]),.ln 19 2 4,.cl 20 117 [19],.cl 21 123 [18,20],.m 9 21,.o 22 (.ext (.s 9) 0),.o 23 (.ext (.s 9) 1),.o 7 (.alloc [.t .z,.t .z,.t .z,.t .nil]),.st 4 7 22,.m 8 23] [[],[],[],[2],[],[4],[5],[6,3],[0,1,3,7,7],[],[9,8],[8,10,10],[11],[12],[12],[],[15,13,11,0,1,2,3,4,5,6,7,8,9,10,11,12,13,15],[14,16,0,1,2,3,4,5,6,7,8,9,10,11,12,13,14,15,16]] [3,4,5,7,8]) (.seq (.drw [.m 24 8,.m 25 24,.g 26 25 (.ln 30 3),.g 27 25 (.ln 2 4),.g 28 25 (.fa 0 5),.g 29 25 (.ln 1 28),.g 30 25 (.fa 1 5),.g 31 25 (.fa 1 30),.g 32 25 (.l 31),.g 33 25 (.cl 70 [26,27,29,32]),.g 34 25 (.bk .mul 33 100),.g 35 25 (.fa 3 5),.g 36 25 (.l 35),.g 37 25 (.fa 2 7),.g 38 25 (.l 37),.g 39 25 (.b .mul 36 38),.g 40 25 (.b .leq 34 39),.o 41 (.pick (.s 25) (.s 40) (.q false)),.m 6 41] [[],[0],[1],[1],[1],[4,1],[1],[6,1],[7,1],[2,3,5,8,1,1],[9,1],[1],[11,1],[1],[13,1],[12,14,1],[10,15,1],[1,16],[17,9,0,1,2,3,4,5,6,7,8,9,10,11,12,13,14,15,16,17]] [6]) .ret))⟩
noncomputable def Zd7 (a:Zd) (a1:Zc) (a2:Region):Rs:=C 118 [.agg (a.c.map .t),.agg (a1.c.map .t),.agg (a2.c.map .t)] []
def Z04:MFun:=⟨3,26,[.tmp 6],.r [.bx 3 0,.bx 4 1,.bx 5 2,.o 6 (.mov (.q false))] [3,4,5] (.seq (.drw [.ln 7 30 3,.cl 8 88 [7],.m 9 8,.g 10 9 (.ln 2 4),.g 11 9 (.ln 2 4),.g 12 9 (.cl 117 [11]),.g 13 9 (.cl 116 [10,12]),.o 14 (.pick (.s 9) (.s 13) (.q false)),.m 15 14,.g 16 15 (.ln 2 4),.g 17 15 (.ln 4 5),.g 18 15 (.cl 44 [16,17]),.o 19 (.pick (.s 15) (.s 18) (.q false)),.m 20 19,.g 21 20 (.ln 30 3),.g 22 20 (.ln 2 4),.g 23 20 (.ln 4 5),.g 24 20 (.cl 118 [21,22,23]),.o 25 (.pick (.s 20) (.s 24) (.q false)),.m 6 25] [[],[0],[1,1],[2],[2],[4,2,2],[3,5,5,2],[2,6],[7,6],[8],[8],[9,10,8,8],[8,11],[12,11],[13],[13],[13],[14,15,16,13,13],[13,17],[18,17,0,1,2,3,4,5,6,7,8,9,10,11,12,13,14,15,16,17,18]] [6]) .ret)⟩
noncomputable def Zmk (a:Zd) (a1:Zc) (a2:Region):Rs:=C 35 [.agg (a.c.map .t),.agg (a1.c.map .t),.agg (a2.c.map .t)] []
def Zt2:MCode:=.r [.b 9 .lss 8 7] [1,3,7,8,9] (.seq (.cond (.s 9) .skip (.exit 0)) (.seq (.block 1 (.r [.m 10 8,.m 4 10] [1,3,4,7,8] (.drw [.m 11 3,.fa 12 1 1,.l 13 12,.m 14 4,.ia 15 1 13 14,.l 16 15,.fa 17 0 1,.l 18 17,.m 19 4,.ia 20 1 18 19,.l 21 20,.b 22 .sub 16 21,.bk 23 .add 22 1,.b 24 .mul 11 23,.m 3 24] [[],[],[1],[],[2,3],[4],[],[6],[],[7,8],[9],[5,10],[11],[0,12],[13,0,1,2,3,4,5,6,7,8,9,10,11,12,13]] [1,3,7,8]))) (.reg [.bk 25 .add 8 1,.m 8 25] [1,3,7,8])))
def Zt3:MCode:=.r [.m 26 3,.m 2 26] [2] .ret
def Z05:MFun:=⟨1,27,[.tmp 2],.r [.bx 1 0,.mk' 2 0] [1] (.r [.mk' 3 1] [1,3] (.seq (.r [.fa 5 0 1,.l 6 5,.ll 7 6,.mk' 8 0] [1,3,7,8] (.block 0 (.loop [1,3,7,8] Zt2))) Zt3))⟩
noncomputable def Zml (a:Box):Rs:=C 274 [.agg (a.c.map .t)] []
noncomputable def Zit (b:Box) (n:Int) (x:Int) (x1:Int):Rs:=EvL C [.blk 0,.seq Zt3,.fin 0 [.tmp 2]] [1,3,7,8] Zt2 ⟨[(1,.ptr 0 0),(3,I n),(7,I x),(8,I x1)],[[]],[.box (b.c.map .t)]⟩
def Z06:MFun:=⟨1,9,[.tmp 2],.r [.bx 1 0,.mk' 2 0] [1] (.wc [.ln 3 2 1,.cl 4 222 [3],.o 5 (.un .not (.s 4))] [1,5] 5 (.r [.mk' 2 0] [2] .ret) (.r [.ln 6 2 1,.cl 7 274 [6],.o 8 (.mm false (.s 7) (.k 401)),.m 2 8] [2] .ret))⟩
noncomputable def Zt4 (a:Box):Rs:=C 213 [.agg (a.c.map .t)] []
def Zt5:MCode:=.we [.m 8 4,.fa 9 0 1,.l 10 9,.ll 11 10,.b 12 .lss 8 11] [1,3,4,12] 12 0 (.seq (.block 1 (.drw [.m 15 3,.fa 16 1 1,.l 17 16,.m 18 4,.ia 19 1 17 18,.l 20 19,.fa 21 0 1,.l 22 21,.m 23 4,.ia 24 1 22 23,.l 25 24,.b 26 .sub 20 25,.bk 27 .add 26 1,.b 28 .mul 15 27,.o 29 (.mm false (.k 401) (.s 28)),.m 3 29] [[],[],[1],[],[2,3],[4],[],[6],[],[7,8],[9],[5,10],[11],[0,12],[13],[14,0,1,2,3,4,5,6,7,8,9,10,11,12,13,14]] [1,3,4])) (.reg [.m 13 4,.bk 14 .add 13 1,.m 4 14] [1,3,4]))
def Zt6:MCode:=.r [.m 30 3,.m 2 30] [2] .ret
def Z07:MFun:=⟨1,31,[.tmp 2],.r [.bx 1 0,.mk' 2 0] [1] (.wc [.ln 5 2 1,.cl 6 135 [5],.o 7 (.un .not (.s 6))] [1,7] 7 (.r [.mk' 2 0] [2] .ret) (.r [.mk' 3 1] [1,3] (.seq (.r [.mk' 4 0] [1,3,4] (.block 0 (.loop [1,3,4] Zt5))) Zt6)))⟩
noncomputable def Zt7 (a:Box):Rs:=C 45 [.agg (a.c.map .t)] []
noncomputable def Ziu (b:Box) (n:Int) (i:Int):Rs:=EvL C [.blk 0,.seq Zt6,.fin 0 [.tmp 2]] [1,3,4] Zt5 ⟨[(1,.ptr 0 0),(3,I n),(4,I i)],[[]],[.box (b.c.map .t)]⟩
def Z08:MFun:=⟨2,9,[.tmp 3],.r [.bx 2 0,.o 3 (.mov (.q false))] [1,2] (.r [.fa 4 7 2,.l 5 4,.fa 6 7 1,.l 7 6,.b 8 .eql 5 7,.m 3 8] [3] .ret)⟩
noncomputable def Zot (a:Zf) (a1:Zf):Rs:=C 149 [.agg (a.c.map .t),.iptr (a1.c) 0] []
def Zt8:MCode:=.r [.b 9 .lss 8 7] [0,1,7,8,9] (.seq (.cond (.s 9) .skip (.exit 0)) (.seq (.block 1 (.r [.m 10 8,.m 5 10] [0,1,5,7,8] (.r [.m 11 1,.m 12 0,.m 13 5,.ia 14 8 12 13,.ln 15 8 14,.o 16 (.dcall (.s 11) [.s 15])] [0,1,5,7,8,16] (.cond (.s 16) (.r [.m 17 5,.m 4 17] [4] .ret) .skip)))) (.reg [.bk 18 .add 8 1,.m 8 18] [0,1,7,8])))
def Zt9:MCode:=.r [.mk' 4 (-1)] [4] .ret
def Z09:MFun:=⟨2,19,[.tmp 4],.r [.mk' 4 0] [0,1] (.seq (.r [.m 6 0,.ll 7 6,.mk' 8 0] [0,1,7,8] (.block 0 (.loop [0,1,7,8] Zt8))) Zt9)⟩
noncomputable def Zou (a:List Zf) (a1:Zf):Rs:=C 158 [L 8 (a.map Zf.c),.fn 149 [.iptr (a1.c) 0]] []
noncomputable def Ziv (s:List Zf) (f:Zf) (x:Int) (x1:Int):Rs:=EvL C [.blk 0,.seq Zt9,.fin 0 [.tmp 4]] [0,1,7,8] Zt8 ⟨[(0,L 8 (s.map Zf.c)),(1,.fn 149 [.iptr (f.c) 0]),(7,I x),(8,I x1)],[[]],[]⟩
def Z1a:MFun:=⟨2,9,[.tmp 4],.r [.o 4 (.mov (.q false))] [0,1] (.r [.m 5 0,.m 6 1,.cl 7 158 [5,6],.bk 8 .geq 7 0,.m 4 8] [4] .ret)⟩
noncomputable def Zmm (a:List Zf) (a1:Zf):Rs:=C 148 [L 8 (a.map Zf.c),.fn 149 [.iptr (a1.c) 0]] []
def Zua:MCode:=.r [.b 21 .lss 20 19] [2,3,18,19,20,21] (.seq (.cond (.s 21) .skip (.exit 0)) (.seq (.block 1 (.r [.m 22 20,.ia 23 8 18 20,.ln 24 8 23,.o 6 (.alloc [.t .z,.t .nil,.t .nil,.t .nil,.t .nil,.t .z,.t .z,.t .z]),.m 5 22,.st 8 6 24] [2,3,5,6,18,19,20] (.wc [.fa 25 6 6,.l 26 25,.o 27 (.call 104 [.s 26,.c (.t (.int .i64 1)),.c (.t (.int .i64 999))]),.o 28 (.un .not (.s 27)),.m 29 28,.h 30 29 (.fa 7 6),.h 31 29 (.l 30),.h 32 29 (.fa 0 3),.h 33 29 (.l 32),.h 34 29 (.call 104 [.s 31,.c (.t (.int .i64 1)),.s 33]),.h 35 29 (.un .not (.s 34)),.o 36 (.pick (.s 29) (.q true) (.s 35)),.m 37 36,.h 38 37 (.ln 30 2),.h 39 37 (.fa 0 6),.h 40 37 (.ln 2 39),.h 41 37 (.fa 2 6),.h 42 37 (.ln 4 41),.h 43 37 (.cl 37 [38,40,42]),.h 44 37 (.un .not (.s 43)),.o 45 (.pick (.s 37) (.q true) (.s 44))] [2,3,5,6,18,19,20,45] 45 (.r [.o 4 (.mov (.q false))] [4] .ret) (.r [.fa 46 1 3,.l 47 46,.m 48 5,.o 49 (.slice (some 8) (.s 47) none (some (.s 48))),.o 50 (.mkfn 149 [.s 6]),.cl 51 148 [49,50]] [2,3,18,19,20,51] (.cond (.s 51) (.r [.o 4 (.mov (.q false))] [4] .ret) .skip))))) (.reg [.bk 52 .add 20 1,.m 20 52] [2,3,18,19,20])))
def Zub:MCode:=.r [.o 4 (.mov (.q true))] [4] .ret
def Z1b:MFun:=⟨2,53,[.tmp 4],.r [.bx 2 0,.bx 3 1,.o 4 (.mov (.q false))] [2,3] (.wc [.fa 7 0 3,.l 8 7,.o 9 (.call 104 [.s 8,.c (.t .z),.c (.t (.int .i64 1000000))]),.o 10 (.un .not (.s 9)),.m 11 10,.h 12 11 (.fa 1 3),.h 13 11 (.l 12),.h 14 11 (.ll 13),.h 15 11 (.bk .gtr 14 4),.o 16 (.pick (.s 11) (.q true) (.s 15))] [2,3,16] 16 (.r [.o 4 (.mov (.q false))] [4] .ret) (.seq (.r [.fa 17 1 3,.l 18 17,.ll 19 18,.mk' 20 0] [2,3,18,19,20] (.block 0 (.loop [2,3,18,19,20] Zua))) Zub))⟩
noncomputable def Zjx (a:Zd) (a1:Zp):Rs:=C 55 [.agg (a.c.map .t),.agg (a1.c.map .t)] []
noncomputable def Ziw (m:Zd) (c:Zp) (x:List Zf) (x1:Int) (x2:Int):Rs:=EvL C [.blk 0,.seq Zub,.fin 0 [.tmp 4]] [2,3,18,19,20] Zua ⟨[(2,.ptr 0 0),(3,.ptr 1 0),(18,L 8 (x.map Zf.c)),(19,I x1),(20,I x2)],[[]],[.box (m.c.map .t),.box (c.c.map .t)]⟩
def Zuc:MCode:=.we [.m 41 7,.m 42 5,.b 43 .lss 41 42] [2,3,5,6,7,43] 43 2 (.seq (.block 3 (.seq (.drw [.fa 46 1 3,.l 47 46,.m 48 7,.ia 49 8 47 48,.fa 50 7 49,.l 51 50,.fa 52 7 6,.l 53 52,.b 54 .eql 51 53] [[],[0],[],[1,2],[3],[4],[],[6],[5,7]] [2,3,5,6,7,54]) (.cond (.s 54) (.r [.o 4 (.mov (.q false))] [4] .ret) .skip))) (.reg [.m 44 7,.bk 45 .add 44 1,.m 7 45] [2,3,5,6,7]))
def Zud:MCode:=.reg [.m 13 5,.bk 14 .add 13 1,.m 5 14] [2,3,5]
def Zov:MCode:=.we [.m 8 5,.fa 9 1 3,.l 10 9,.ll 11 10,.b 12 .lss 8 11] [2,3,5,12] 12 0 (.seq (.block 1 (.r [.fa 15 1 3,.l 16 15,.m 17 5,.ia 18 8 16 17,.ln 19 8 18,.o 6 (.alloc [.t .z,.t .nil,.t .nil,.t .nil,.t .nil,.t .z,.t .z,.t .z]),.st 8 6 19] [2,3,5,6] (.wc [.fa 20 6 6,.l 21 20,.o 22 (.call 137 [.s 21,.c (.t (.int .i64 1)),.c (.t (.int .i64 999))]),.o 23 (.un .not (.s 22)),.m 24 23,.h 25 24 (.fa 7 6),.h 26 24 (.l 25),.h 27 24 (.fa 0 3),.h 28 24 (.l 27),.h 29 24 (.call 137 [.s 26,.c (.t (.int .i64 1)),.s 28]),.h 30 24 (.un .not (.s 29)),.o 31 (.pick (.s 24) (.q true) (.s 30)),.m 32 31,.h 33 32 (.ln 30 2),.h 34 32 (.fa 0 6),.h 35 32 (.ln 2 34),.h 36 32 (.fa 2 6),.h 37 32 (.ln 4 36),.h 38 32 (.cl 35 [33,35,37]),.h 39 32 (.un .not (.s 38)),.o 40 (.pick (.s 32) (.q true) (.s 39))] [2,3,5,6,40] 40 (.r [.o 4 (.mov (.q false))] [4] .ret) (.r [.mk' 7 0] [2,3,5,6,7] (.block 2 (.loop [2,3,5,6,7] Zuc)))))) Zud)
def Zow:MCode:=.r [.fa 55 0 3,.l 56 55,.o 57 (.call 137 [.s 56,.c (.t .z),.c (.t (.int .i64 1000000))]),.m 58 57,.g 59 58 (.fa 1 3),.g 60 58 (.l 59),.g 61 58 (.ll 60),.g 62 58 (.bk .leq 61 4),.o 63 (.pick (.s 58) (.s 62) (.q false)),.m 4 63] [4] .ret
def Z1c:MFun:=⟨2,64,[.tmp 4],.r [.bx 2 0,.bx 3 1,.o 4 (.mov (.q false))] [2,3] (.seq (.r [.mk' 5 0] [2,3,5] (.block 0 (.loop [2,3,5] Zov))) Zow)⟩
noncomputable def Zmn (a:Zd) (a1:Zp):Rs:=C 53 [.agg (a.c.map .t),.agg (a1.c.map .t)] []
noncomputable def Zg6 (m:Zd) (c:Zp) (i:Int):Rs:=EvL C [.blk 0,.seq Zow,.fin 0 [.tmp 4]] [2,3,5] Zov ⟨[(2,.ptr 0 0),(3,.ptr 1 0),(5,I i)],[[]],[.box (m.c.map .t),.box (c.c.map .t)]⟩
noncomputable def Zix (m:Zd) (c:Zp) (e:Zf) (i:Int) (k:Int):Rs:=EvL C [.blk 2,.blk 1,.seq Zud,.loop [2,3,5] Zov,.blk 0,.seq Zow,.fin 0 [.tmp 4]] [2,3,5,6,7] Zuc ⟨[(2,.ptr 0 0),(3,.ptr 1 0),(5,I i),(6,.ptr 2 0),(7,I k)],[[]],[.box (m.c.map .t),.box (c.c.map .t),.box (e.c.map .t)]⟩
def Z1d:MFun:=⟨2,19,[.tmp 4],.r [.bx 2 0,.o 4 (.mov (.q false))] [1,2] (.r [.ln 5 2 2,.cl 6 222 [5],.m 7 6,.g 8 7 (.mov (.s 1)),.g 9 7 (.fa 0 2),.g 10 7 (.l 9),.g 11 7 (.cl 232 [8,10]),.o 12 (.pick (.s 7) (.s 11) (.q false)),.m 13 12,.g 14 13 (.fa 1 2),.g 15 13 (.l 14),.g 16 13 (.mov (.s 1)),.g 17 13 (.cl 232 [15,16]),.o 18 (.pick (.s 13) (.s 17) (.q false)),.m 4 18] [4] .ret)⟩
noncomputable def Zue (a:Box) (a1:List Int):Rs:=C 143 [.agg (a.c.map .t),L 1 (a1.map ic)] []
def Zox:MCode:=.seq (.drw [.fa 76 1 14,.fa 77 0 76,.l 78 77,.m 79 16,.ia 80 1 78 79,.l 81 80,.fa 82 0 9,.l 83 82,.m 84 16,.ia 85 1 83 84,.l 86 85,.b 87 .gtr 81 86] [[],[0],[1],[],[2,3],[4],[],[6],[],[7,8],[9],[5,10]] [4,6,7,9,12,14,15,16,40,41,87]) (.cond (.s 87) (.r [.fa 88 1 14,.fa 89 0 88,.l 90 89,.m 91 16,.ia 92 1 90 91,.l 93 92,.bk 94 .sub 93 1,.ia 95 1 90 91,.st 1 95 94] [4,6,7,9,12,14,15,16,40,41] (.r [.ln 96 30 6,.ln 97 2 7,.ln 98 4 14,.cl 99 120 [96,97,98]] [4,6,7,9,12,14,15,16,40,41,99] (.cond (.s 99) (.reg [.o 15 (.mov (.q true))] [4,6,7,9,12,14,15,40,41]) (.reg [.fa 100 1 14,.fa 101 0 100,.l 102 101,.m 103 16,.ia 104 1 102 103,.l 105 104,.bk 106 .add 105 1,.ia 107 1 102 103,.st 1 107 106] [4,6,7,9,12,14,15,40,41])))) .skip)
def Zoy:MCode:=.r [.b 42 .lss 41 40] [4,6,7,9,12,14,15,40,41,42] (.seq (.cond (.s 42) .skip (.exit 2)) (.seq (.block 3 (.r [.m 43 41,.m 16 43] [4,6,7,9,12,14,15,16,40,41] (.seq (.seq (.drw [.fa 44 1 14,.fa 45 1 44,.l 46 45,.m 47 16,.ia 48 1 46 47,.l 49 48,.fa 50 1 9,.l 51 50,.m 52 16,.ia 53 1 51 52,.l 54 53,.b 55 .lss 49 54] [[],[0],[1],[],[2,3],[4],[],[6],[],[7,8],[9],[5,10]] [4,6,7,9,12,14,15,16,40,41,55]) (.cond (.s 55) (.r [.fa 56 1 14,.fa 57 1 56,.l 58 57,.m 59 16,.ia 60 1 58 59,.l 61 60,.bk 62 .add 61 1,.ia 63 1 58 59,.st 1 63 62] [4,6,7,9,12,14,15,16,40,41] (.r [.ln 64 30 6,.ln 65 2 7,.ln 66 4 14,.cl 67 120 [64,65,66]] [4,6,7,9,12,14,15,16,40,41,67] (.cond (.s 67) (.reg [.o 15 (.mov (.q true))] [4,6,7,9,12,14,15,16,40,41]) (.reg [.fa 68 1 14,.fa 69 1 68,.l 70 69,.m 71 16,.ia 72 1 70 71,.l 73 72,.bk 74 .sub 73 1,.ia 75 1 70 71,.st 1 75 74] [4,6,7,9,12,14,15,16,40,41])))) .skip)) Zox))) (.reg [.bk 108 .add 41 1,.m 41 108] [4,6,7,9,12,14,15,40,41])))
def Zoz:MCode:=.we [.m 38 15] [4,6,7,9,12,14,38] 38 0 (.block 1 (.r [.o 15 (.mov (.q false))] [4,6,7,9,12,14,15] (.r [.m 39 4,.ll 40 39,.mk' 41 0] [4,6,7,9,12,14,15,40,41] (.block 2 (.loop [4,6,7,9,12,14,15,40,41] Zoy)))))
def Zo0:MCode:=.r [.ln 109 4 14,.st 4 12 109,.o 13 (.mov (.q true))] [12,13] .ret
noncomputable def Ziy (m:Zd) (q:Zc) (limit:Box) (Percent:Int) (Percent1:Int) (x:List Zb) (x1:List Int) (x2:List Int) (location:List Int) (again:Bool):Rs:=EvL C [.blk 0,.seq Zo0,.fin 0 [.cell 12 (some 4),.tmp 13]] [4,6,7,9,12,14,15] Zoz ⟨[(4,L 1 (location.map ic)),(6,.ptr 0 0),(7,.ptr 1 0),(9,.ptr 2 0),(12,.ptr 3 0),(14,.ptr 4 0),(15,Bo again)],[[]],[.box (m.c.map .t),.box (q.c.map .t),.box (limit.c.map .t),.box [.t .nil,.t .nil,.t .nil,I Percent],.box [.own 5,.own 6,.own 7,I Percent1],.arr 142 3 true (x.map Zb.c),.arr 3 1 true (x1.map ic),.arr 3 1 true (x2.map ic)]⟩
noncomputable def Zbz (m:Zd) (q:Zc) (limit:Box) (Percent:Int) (Percent1:Int) (x:List Zb) (x1:List Int) (x2:List Int) (location:List Int) (again:Bool) (x3:Int) (x4:Int):Rs:=EvL C [.blk 2,.blk 1,.loop [4,6,7,9,12,14,15] Zoz,.blk 0,.seq Zo0,.fin 0 [.cell 12 (some 4),.tmp 13]] [4,6,7,9,12,14,15,40,41] Zoy ⟨[(4,L 1 (location.map ic)),(6,.ptr 0 0),(7,.ptr 1 0),(9,.ptr 2 0),(12,.ptr 3 0),(14,.ptr 4 0),(15,Bo again),(40,I x3),(41,I x4)],[[]],[.box (m.c.map .t),.box (q.c.map .t),.box (limit.c.map .t),.box [.t .nil,.t .nil,.t .nil,I Percent],.box [.own 5,.own 6,.own 7,I Percent1],.arr 142 3 true (x.map Zb.c),.arr 3 1 true (x1.map ic),.arr 3 1 true (x2.map ic)]⟩
noncomputable def Zmo (m:Zd) (q:Zc) (limit:Box) (Percent:Int) (Percent1:Int) (x:List Zb) (x1:List Int) (x2:List Int) (location:List Int) (again:Bool) (i:Int) (x3:Int) (x4:Int):Rs:=Ev C [.blk 3,.seq (.reg [.o 108 (.bin .add (.s 41) (.k 1)),.m 41 108] [4,6,7,9,12,14,15,40,41]),.loop [4,6,7,9,12,14,15,40,41] Zoy,.blk 2,.blk 1,.loop [4,6,7,9,12,14,15] Zoz,.blk 0,.seq Zo0,.fin 0 [.cell 12 (some 4),.tmp 13]] Zox ⟨[(4,L 1 (location.map ic)),(6,.ptr 0 0),(7,.ptr 1 0),(9,.ptr 2 0),(12,.ptr 3 0),(14,.ptr 4 0),(15,Bo again),(16,I i),(40,I x3),(41,I x4)],[[]],[.box (m.c.map .t),.box (q.c.map .t),.box (limit.c.map .t),.box [.t .nil,.t .nil,.t .nil,I Percent],.box [.own 5,.own 6,.own 7,I Percent1],.arr 142 3 true (x.map Zb.c),.arr 3 1 true (x1.map ic),.arr 3 1 true (x2.map ic)]⟩
def Z1e:MFun:=⟨2,19,[.tmp 4],.r [.bx 2 0,.o 4 (.mov (.q false))] [1,2] (.r [.ln 5 2 2,.cl 6 135 [5],.m 7 6,.g 8 7 (.mov (.s 1)),.g 9 7 (.fa 0 2),.g 10 7 (.l 9),.g 11 7 (.cl 51 [8,10]),.o 12 (.pick (.s 7) (.s 11) (.q false)),.m 13 12,.g 14 13 (.fa 1 2),.g 15 13 (.l 14),.g 16 13 (.mov (.s 1)),.g 17 13 (.cl 51 [15,16]),.o 18 (.pick (.s 13) (.s 17) (.q false)),.m 4 18] [4] .ret)⟩
noncomputable def Zuf (a:Box) (a1:List Int):Rs:=C 50 [.agg (a.c.map .t),L 1 (a1.map ic)] []
def Zo1:MCode:=.seq (.drw [.fa 90 1 14,.fa 91 0 90,.l 92 91,.m 93 16,.ia 94 1 92 93,.l 95 94,.fa 96 0 9,.l 97 96,.m 98 16,.ia 99 1 97 98,.l 100 99,.b 101 .gtr 95 100] [[],[0],[1],[],[2,3],[4],[],[6],[],[7,8],[9],[5,10]] [4,6,7,9,12,14,15,16,101]) (.cond (.s 101) (.seq (.drw [.fa 102 1 14,.fa 103 0 102,.l 104 103,.m 105 16,.fa 106 1 14,.fa 107 0 106,.l 108 107,.m 109 16,.ia 110 1 108 109,.l 111 110,.bk 112 .sub 111 1,.ia 113 1 104 105,.st 1 113 112] [[],[0],[1],[],[],[4],[5],[],[6,7],[8],[9],[2,3,0,1,2,3,4,5,6,7,8,9,10],[11,10,0,1,2,3,4,5,6,7,8,9,10]] [4,6,7,9,12,14,15,16]) (.r [.ln 114 30 6,.ln 115 2 7,.ln 116 4 14,.cl 117 118 [114,115,116]] [4,6,7,9,12,14,15,16,117] (.cond (.s 117) (.reg [.o 15 (.mov (.q true))] [4,6,7,9,12,14,15,16]) (.drw [.fa 118 1 14,.fa 119 0 118,.l 120 119,.m 121 16,.fa 122 1 14,.fa 123 0 122,.l 124 123,.m 125 16,.ia 126 1 124 125,.l 127 126,.bk 128 .add 127 1,.ia 129 1 120 121,.st 1 129 128] [[],[0],[1],[],[],[4],[5],[],[6,7],[8],[9],[2,3,0,1,2,3,4,5,6,7,8,9,10],[11,10,0,1,2,3,4,5,6,7,8,9,10]] [4,6,7,9,12,14,15,16])))) .skip)
def Zo2:MCode:=.we [.m 44 16,.m 45 4,.ll 46 45,.b 47 .lss 44 46] [4,6,7,9,12,14,15,16,47] 47 2 (.seq (.block 3 (.seq (.seq (.drw [.fa 50 1 14,.fa 51 1 50,.l 52 51,.m 53 16,.ia 54 1 52 53,.l 55 54,.fa 56 1 9,.l 57 56,.m 58 16,.ia 59 1 57 58,.l 60 59,.b 61 .lss 55 60] [[],[0],[1],[],[2,3],[4],[],[6],[],[7,8],[9],[5,10]] [4,6,7,9,12,14,15,16,61]) (.cond (.s 61) (.seq (.drw [.fa 62 1 14,.fa 63 1 62,.l 64 63,.m 65 16,.fa 66 1 14,.fa 67 1 66,.l 68 67,.m 69 16,.ia 70 1 68 69,.l 71 70,.bk 72 .add 71 1,.ia 73 1 64 65,.st 1 73 72] [[],[0],[1],[],[],[4],[5],[],[6,7],[8],[9],[2,3,0,1,2,3,4,5,6,7,8,9,10],[11,10,0,1,2,3,4,5,6,7,8,9,10]] [4,6,7,9,12,14,15,16]) (.r [.ln 74 30 6,.ln 75 2 7,.ln 76 4 14,.cl 77 118 [74,75,76]] [4,6,7,9,12,14,15,16,77] (.cond (.s 77) (.reg [.o 15 (.mov (.q true))] [4,6,7,9,12,14,15,16]) (.drw [.fa 78 1 14,.fa 79 1 78,.l 80 79,.m 81 16,.fa 82 1 14,.fa 83 1 82,.l 84 83,.m 85 16,.ia 86 1 84 85,.l 87 86,.bk 88 .sub 87 1,.ia 89 1 80 81,.st 1 89 88] [[],[0],[1],[],[],[4],[5],[],[6,7],[8],[9],[2,3,0,1,2,3,4,5,6,7,8,9,10],[11,10,0,1,2,3,4,5,6,7,8,9,10]] [4,6,7,9,12,14,15,16])))) .skip)) Zo1)) (.reg [.m 48 16,.bk 49 .add 48 1,.m 16 49] [4,6,7,9,12,14,15,16]))
def Zo3:MCode:=.we [.m 43 15] [4,6,7,9,12,14,43] 43 0 (.block 1 (.r [.o 15 (.mov (.q false))] [4,6,7,9,12,14,15] (.r [.mk' 16 0] [4,6,7,9,12,14,15,16] (.block 2 (.loop [4,6,7,9,12,14,15,16] Zo2)))))
def Zo4:MCode:=.r [.ln 130 4 14,.st 4 12 130,.o 13 (.mov (.q true))] [12,13] .ret
noncomputable def Ziz (m:Zd) (q:Zc) (limit:Box) (Percent:Int) (Percent1:Int) (x:List Zb) (x1:List Int) (x2:List Int) (l:List Int) (grown:Bool):Rs:=EvL C [.blk 0,.seq Zo4,.fin 0 [.cell 12 (some 4),.tmp 13]] [4,6,7,9,12,14,15] Zo3 ⟨[(4,L 1 (l.map ic)),(6,.ptr 0 0),(7,.ptr 1 0),(9,.ptr 2 0),(12,.ptr 3 0),(14,.ptr 4 0),(15,Bo grown)],[[]],[.box (m.c.map .t),.box (q.c.map .t),.box (limit.c.map .t),.box [.t .nil,.t .nil,.t .nil,I Percent],.box [.own 5,.own 6,.own 7,I Percent1],.arr 142 3 true (x.map Zb.c),.arr 3 1 true (x1.map ic),.arr 3 1 true (x2.map ic)]⟩
noncomputable def Zb0 (m:Zd) (q:Zc) (limit:Box) (Percent:Int) (Percent1:Int) (x:List Zb) (x1:List Int) (x2:List Int) (l:List Int) (grown:Bool) (k:Int):Rs:=EvL C [.blk 2,.blk 1,.loop [4,6,7,9,12,14,15] Zo3,.blk 0,.seq Zo4,.fin 0 [.cell 12 (some 4),.tmp 13]] [4,6,7,9,12,14,15,16] Zo2 ⟨[(4,L 1 (l.map ic)),(6,.ptr 0 0),(7,.ptr 1 0),(9,.ptr 2 0),(12,.ptr 3 0),(14,.ptr 4 0),(15,Bo grown),(16,I k)],[[]],[.box (m.c.map .t),.box (q.c.map .t),.box (limit.c.map .t),.box [.t .nil,.t .nil,.t .nil,I Percent],.box [.own 5,.own 6,.own 7,I Percent1],.arr 142 3 true (x.map Zb.c),.arr 3 1 true (x1.map ic),.arr 3 1 true (x2.map ic)]⟩
noncomputable def Zmp (m:Zd) (q:Zc) (limit:Box) (Percent:Int) (Percent1:Int) (x:List Zb) (x1:List Int) (x2:List Int) (l:List Int) (grown:Bool) (k:Int):Rs:=Ev C [.blk 3,.seq (.reg [.m 48 16,.o 49 (.bin .add (.s 48) (.k 1)),.m 16 49] [4,6,7,9,12,14,15,16]),.loop [4,6,7,9,12,14,15,16] Zo2,.blk 2,.blk 1,.loop [4,6,7,9,12,14,15] Zo3,.blk 0,.seq Zo4,.fin 0 [.cell 12 (some 4),.tmp 13]] Zo1 ⟨[(4,L 1 (l.map ic)),(6,.ptr 0 0),(7,.ptr 1 0),(9,.ptr 2 0),(12,.ptr 3 0),(14,.ptr 4 0),(15,Bo grown),(16,I k)],[[]],[.box (m.c.map .t),.box (q.c.map .t),.box (limit.c.map .t),.box [.t .nil,.t .nil,.t .nil,I Percent],.box [.own 5,.own 6,.own 7,I Percent1],.arr 142 3 true (x.map Zb.c),.arr 3 1 true (x1.map ic),.arr 3 1 true (x2.map ic)]⟩
def Zmq:MCode:=.r [.b 13 .lss 12 11] [2,3,10,11,12,13] (.seq (.cond (.s 13) .skip (.exit 0)) (.seq (.block 1 (.r [.ia 14 2 10 12,.ln 15 2 14,.o 5 (.alloc [.t (.str ⟨#[]⟩),.t .nil]),.st 2 5 15] [2,3,5,10,11,12] (.drw [.fa 16 1 3,.l 17 16,.fa 18 0 5,.l 19 18,.fa 20 1 5,.l 21 20,.cl 22 142 [21],.o 23 (.build [.t (.str ⟨#[]⟩),.t .nil] [(0,1,.s 19),(1,1,.s 22)]),.o 24 (.bslice 223 2 1 [.str ⟨#[]⟩,.lst 1 []] [(0,.s 23)]),.o 25 (.append 223 2 40 true (.s 17) (.s 24)),.fa 26 1 3,.st 1 26 25] [[],[0],[],[2],[],[4],[5],[3,6],[7],[1,8,6],[0,1,2,3,4,5,6,7,8,9],[10,9,9,0,1,2,3,4,5,6,7,8,9]] [2,3,10,11,12]))) (.reg [.bk 27 .add 12 1,.m 12 27] [2,3,10,11,12])))
def Zmr:MCode:=.r [.ln 28 2 3,.st 2 2 28] [2] .ret
def Z1f:MFun:=⟨1,29,[.cell 2 (some 2)],.r [.bx 1 0,.o 2 (.alloc [.t .z,.t .nil])] [1,2] (.r [.fa 6 0 1,.l 7 6,.o 8 (.build [.t .z,.t .nil] [(0,1,.s 7)]),.o 3 (.alloc [.t .z,.t .nil]),.st 2 3 8] [1,2,3] (.seq (.r [.fa 9 1 1,.l 10 9,.ll 11 10,.mk' 12 0] [2,3,10,11,12] (.block 0 (.loop [2,3,10,11,12] Zmq))) Zmr))⟩
noncomputable def Zfr (a:Zc):Rs:=C 166 [.agg (a.c.map .t)] []
noncomputable def Zo5 (Ze:Int) (VariableCount1:Int) (x:List Atom) (x1:Int) (x2:Int):Rs:=EvL C [.blk 0,.seq Zmr,.fin 0 [.cell 2 (some 2)]] [2,3,10,11,12] Zmq ⟨[(2,.ptr 0 0),(3,.ptr 1 0),(10,L 2 (x.map Atom.c)),(11,I x1),(12,I x2)],[[]],[.box [I Ze,.t .nil],.box [I VariableCount1,.t .nil]]⟩
noncomputable def Zi0 (Ze:Int) (VariableCount1:Int) (x:List Atom) (x1:List Atom) (x2:Int) (x3:Int):Rs:=EvL C [.blk 0,.seq Zmr,.fin 0 [.cell 2 (some 2)]] [2,3,10,11,12] Zmq ⟨[(2,.ptr 0 0),(3,.ptr 1 0),(10,L 2 (x1.map Atom.c)),(11,I x2),(12,I x3)],[[]],[.box [I Ze,.t .nil],.box [I VariableCount1,.own 2],.arr 223 2 true (x.map Atom.c)]⟩
def Z1g:MFun:=⟨1,10,[.cell 2 (some 2)],.r [.bx 1 0,.o 2 (.alloc [.t .nil,.t .nil])] [1,2] (.seq (.drw [.fa 3 0 1,.l 4 3,.cl 5 142 [4],.fa 6 1 1,.l 7 6,.cl 8 142 [7],.o 9 (.build [.t .nil,.t .nil] [(0,1,.s 5),(1,1,.s 8)]),.st 2 2 9] [[],[0],[1],[],[3],[4,2],[2,5],[6,5,0,1,2,3,4,5,6]] [2]) .ret)⟩
noncomputable def Zms (a:Box):Rs:=C 244 [.agg (a.c.map .t)] []
def Z1h:MFun:=⟨1,12,[.cell 2 (some 4)],.r [.bx 1 0,.o 2 (.alloc [.t .nil,.t .nil,.t .nil,.t .z])] [1,2] (.seq (.drw [.fa 3 0 1,.ln 4 1 3,.cl 5 141 [4],.fa 6 1 1,.ln 7 2 6,.cl 8 244 [7],.fa 9 3 1,.l 10 9,.o 11 (.build [.t .nil,.t .nil,.t .nil,.t .z] [(0,1,.s 5),(1,2,.s 8),(3,1,.s 10)]),.st 4 2 11] [[],[0],[1],[],[3],[4,2],[],[6],[2,5,7],[8,5,0,1,2,3,4,5,6,7,8]] [2]) .ret)⟩
noncomputable def Zfs (a:Region):Rs:=C 167 [.agg (a.c.map .t)] []
def Zmt:MCode:=.r [.b 13 .lss 12 11] [2,3,10,11,12,13] (.seq (.cond (.s 13) .skip (.exit 0)) (.seq (.block 1 (.r [.ia 14 8 10 12,.ln 15 8 14,.o 5 (.alloc [.t .z,.t .nil,.t .nil,.t .nil,.t .nil,.t .z,.t .z,.t .z]),.st 8 5 15] [2,3,5,10,11,12] (.drw [.fa 16 1 3,.l 17 16,.fa 18 0 5,.ln 19 2 18,.cl 20 166 [19],.fa 21 2 5,.ln 22 4 21,.cl 23 167 [22],.fa 24 6 5,.l 25 24,.fa 26 7 5,.l 27 26,.o 28 (.build [.t .z,.t .nil,.t .nil,.t .nil,.t .nil,.t .z,.t .z,.t .z] [(0,2,.s 20),(2,4,.s 23),(6,1,.s 25),(7,1,.s 27)]),.o 29 (.bslice 114 8 1 [.z,.lst 2 [],.lst 3 [],.lst 1 [],.lst 1 [],.z,.z,.z] [(0,.s 28)]),.o 30 (.append 114 8 128 true (.s 17) (.s 29)),.fa 31 1 3,.st 1 31 30] [[],[0],[],[2],[3],[],[5],[6,4],[],[8],[],[10],[4,7,9,11],[12],[1,13,7],[0,1,2,3,4,5,6,7,8,9,10,11,12,13,14],[15,14,14,0,1,2,3,4,5,6,7,8,9,10,11,12,13,14]] [2,3,10,11,12]))) (.reg [.bk 32 .add 12 1,.m 12 32] [2,3,10,11,12])))
def Zmu:MCode:=.r [.ln 33 2 3,.st 2 2 33] [2] .ret
def Z1i:MFun:=⟨1,34,[.cell 2 (some 2)],.r [.bx 1 0,.o 2 (.alloc [.t .z,.t .nil])] [1,2] (.r [.fa 6 0 1,.l 7 6,.o 8 (.build [.t .z,.t .nil] [(0,1,.s 7)]),.o 3 (.alloc [.t .z,.t .nil]),.st 2 3 8] [1,2,3] (.seq (.r [.fa 9 1 1,.l 10 9,.ll 11 10,.mk' 12 0] [2,3,10,11,12] (.block 0 (.loop [2,3,10,11,12] Zmt))) Zmu))⟩
noncomputable def Zjy (a:Zp):Rs:=C 154 [.agg (a.c.map .t)] []
noncomputable def Zo6 (Clock:Int) (Clock1:Int) (x:List Zf) (x1:Int) (x2:Int):Rs:=EvL C [.blk 0,.seq Zmu,.fin 0 [.cell 2 (some 2)]] [2,3,10,11,12] Zmt ⟨[(2,.ptr 0 0),(3,.ptr 1 0),(10,L 8 (x.map Zf.c)),(11,I x1),(12,I x2)],[[]],[.box [I Clock,.t .nil],.box [I Clock1,.t .nil]]⟩
noncomputable def Zft (Clock:Int) (Clock1:Int) (x:List Zf) (x1:List Zf) (x2:Int) (x3:Int):Rs:=EvL C [.blk 0,.seq Zmu,.fin 0 [.cell 2 (some 2)]] [2,3,10,11,12] Zmt ⟨[(2,.ptr 0 0),(3,.ptr 1 0),(10,L 8 (x1.map Zf.c)),(11,I x2),(12,I x3)],[[]],[.box [I Clock,.t .nil],.box [I Clock1,.own 2],.arr 114 8 true (x.map Zf.c)]⟩
def Zmv:MCode:=.we [.m 8 4,.fa 9 1 1,.l 10 9,.ll 11 10,.b 12 .lss 8 11] [1,2,3,4,12] 12 0 (.seq (.block 1 (.drw [.fa 15 1 3,.l 16 15,.fa 17 1 1,.l 18 17,.m 19 4,.ia 20 2 18 19,.fa 21 0 20,.l 22 21,.o 23 (.bslice 3 1 0 [.z] []),.fa 24 1 1,.l 25 24,.m 26 4,.ia 27 2 25 26,.fa 28 1 27,.l 29 28,.o 30 (.append 3 1 8 false (.s 23) (.s 29)),.o 31 (.build [.t (.str ⟨#[]⟩),.t .nil] [(0,1,.s 22),(1,1,.s 30)]),.o 32 (.bslice 223 2 1 [.str ⟨#[]⟩,.lst 1 []] [(0,.s 31)]),.o 33 (.append 223 2 40 true (.s 16) (.s 32)),.fa 34 1 3,.st 1 34 33] [[],[0],[],[2],[],[3,4],[5],[6],[],[],[9],[],[10,11],[12],[13],[8,14],[7,15],[16],[1,17,15],[0,1,2,3,4,5,6,7,8,9,10,11,12,13,14,15,16,17,18],[19,18,18,0,1,2,3,4,5,6,7,8,9,10,11,12,13,14,15,16,17,18]] [1,2,3,4])) (.reg [.m 13 4,.bk 14 .add 13 1,.m 4 14] [1,2,3,4]))
def Zmw:MCode:=.r [.ln 35 2 3,.st 2 2 35] [2] .ret
def Z1j:MFun:=⟨1,36,[.cell 2 (some 2)],.r [.bx 1 0,.o 2 (.alloc [.t .z,.t .nil])] [1,2] (.r [.fa 5 0 1,.l 6 5,.o 7 (.build [.t .z,.t .nil] [(0,1,.s 6)]),.o 3 (.alloc [.t .z,.t .nil]),.st 2 3 7] [1,2,3] (.seq (.r [.mk' 4 0] [1,2,3,4] (.block 0 (.loop [1,2,3,4] Zmv))) Zmw))⟩
noncomputable def Zjz (a:Zc):Rs:=C 168 [.agg (a.c.map .t)] []
noncomputable def Zo7 (q:Zc) (Ze:Int) (VariableCount1:Int) (i:Int):Rs:=EvL C [.blk 0,.seq Zmw,.fin 0 [.cell 2 (some 2)]] [1,2,3,4] Zmv ⟨[(1,.ptr 0 0),(2,.ptr 1 0),(3,.ptr 2 0),(4,I i)],[[]],[.box (q.c.map .t),.box [I Ze,.t .nil],.box [I VariableCount1,.t .nil]]⟩
noncomputable def Zi1 (q:Zc) (Ze:Int) (VariableCount1:Int) (x:List Atom) (i:Int):Rs:=EvL C [.blk 0,.seq Zmw,.fin 0 [.cell 2 (some 2)]] [1,2,3,4] Zmv ⟨[(1,.ptr 0 0),(2,.ptr 1 0),(3,.ptr 2 0),(4,I i)],[[]],[.box (q.c.map .t),.box [I Ze,.t .nil],.box [I VariableCount1,.own 3],.arr 223 2 true (x.map Atom.c)]⟩
def Z1k:MFun:=⟨1,12,[.cell 2 (some 2)],.r [.bx 1 0,.o 2 (.alloc [.t .nil,.t .nil])] [1,2] (.seq (.drw [.o 3 (.bslice 3 1 0 [.z] []),.fa 4 0 1,.l 5 4,.o 6 (.append 3 1 8 false (.s 3) (.s 5)),.o 7 (.bslice 3 1 0 [.z] []),.fa 8 1 1,.l 9 8,.o 10 (.append 3 1 8 false (.s 7) (.s 9)),.o 11 (.build [.t .nil,.t .nil] [(0,1,.s 6),(1,1,.s 10)]),.st 2 2 11] [[],[],[1],[0,2],[],[],[5],[4,6,3],[3,7],[8,7,0,1,2,3,4,5,6,7,8]] [2]) .ret)⟩
noncomputable def Zmx (a:Box):Rs:=C 218 [.agg (a.c.map .t)] []
def Z1l:MFun:=⟨1,15,[.cell 2 (some 4)],.r [.bx 1 0,.o 2 (.alloc [.t .nil,.t .nil,.t .nil,.t .z])] [1,2] (.seq (.drw [.o 3 (.bslice 142 3 0 [.z,.z,.z] []),.fa 4 0 1,.fa 5 0 4,.l 6 5,.o 7 (.append 142 3 24 false (.s 3) (.s 6)),.o 8 (.build [.t .nil] [(0,1,.s 7)]),.fa 9 1 1,.ln 10 2 9,.cl 11 218 [10],.fa 12 3 1,.l 13 12,.o 14 (.build [.t .nil,.t .nil,.t .nil,.t .z] [(0,1,.s 8),(1,2,.s 11),(3,1,.s 13)]),.st 4 2 14] [[],[],[1],[2],[0,3],[4],[],[6],[7,4],[],[9],[5,8,10],[11,8,0,1,2,3,4,5,6,7,8,9,10,11]] [2]) .ret)⟩
noncomputable def Zj0 (a:Region):Rs:=C 169 [.agg (a.c.map .t)] []
def Z1m:MFun:=⟨1,14,[.cell 2 (some 8)],.r [.bx 1 0,.o 2 (.alloc [.t .z,.t .nil,.t .nil,.t .nil,.t .nil,.t .z,.t .z,.t .z])] [1,2] (.seq (.drw [.fa 3 0 1,.ln 4 2 3,.cl 5 168 [4],.fa 6 2 1,.ln 7 4 6,.cl 8 169 [7],.fa 9 6 1,.l 10 9,.fa 11 7 1,.l 12 11,.o 13 (.build [.t .z,.t .nil,.t .nil,.t .nil,.t .nil,.t .z,.t .z,.t .z] [(0,2,.s 5),(2,4,.s 8),(6,1,.s 10),(7,1,.s 12)]),.st 8 2 13] [[],[0],[1],[],[3],[4,2],[],[6],[],[8],[2,5,7,9],[10,5,0,1,2,3,4,5,6,7,8,9,10]] [2]) .ret)⟩
noncomputable def Zcf (a:Zf):Rs:=C 174 [.agg (a.c.map .t)] []
def Zmy:MCode:=.we [.m 9 4,.fa 10 1 1,.l 11 10,.ll 12 11,.b 13 .lss 9 12] [1,2,3,4,13] 13 0 (.seq (.block 1 (.r [.fa 16 1 1,.l 17 16,.m 18 4,.ia 19 8 17 18,.ln 20 8 19,.cl 21 174 [20],.o 5 (.alloc [.t .z,.t .nil,.t .nil,.t .nil,.t .nil,.t .z,.t .z,.t .z]),.st 8 5 21] [1,2,3,4,5] (.reg [.fa 22 1 3,.l 23 22,.ln 24 8 5,.o 25 (.bslice 114 8 1 [.z,.lst 2 [],.lst 3 [],.lst 1 [],.lst 1 [],.z,.z,.z] [(0,.s 24)]),.o 26 (.append 114 8 128 true (.s 23) (.s 25)),.fa 27 1 3,.st 1 27 26] [1,2,3,4]))) (.reg [.m 14 4,.bk 15 .add 14 1,.m 4 15] [1,2,3,4]))
def Zmz:MCode:=.r [.ln 28 2 3,.st 2 2 28] [2] .ret
def Z1n:MFun:=⟨1,29,[.cell 2 (some 2)],.r [.bx 1 0,.o 2 (.alloc [.t .z,.t .nil])] [1,2] (.r [.fa 6 0 1,.l 7 6,.o 8 (.build [.t .z,.t .nil] [(0,1,.s 7)]),.o 3 (.alloc [.t .z,.t .nil]),.st 2 3 8] [1,2,3] (.seq (.r [.mk' 4 0] [1,2,3,4] (.block 0 (.loop [1,2,3,4] Zmy))) Zmz))⟩
noncomputable def Zj1 (a:Zp):Rs:=C 155 [.agg (a.c.map .t)] []
noncomputable def Zo8 (c:Zp) (Clock:Int) (Clock1:Int) (i:Int):Rs:=EvL C [.blk 0,.seq Zmz,.fin 0 [.cell 2 (some 2)]] [1,2,3,4] Zmy ⟨[(1,.ptr 0 0),(2,.ptr 1 0),(3,.ptr 2 0),(4,I i)],[[]],[.box (c.c.map .t),.box [I Clock,.t .nil],.box [I Clock1,.t .nil]]⟩
noncomputable def Zfu (c:Zp) (Clock:Int) (Clock1:Int) (x:List Zf) (i:Int):Rs:=EvL C [.blk 0,.seq Zmz,.fin 0 [.cell 2 (some 2)]] [1,2,3,4] Zmy ⟨[(1,.ptr 0 0),(2,.ptr 1 0),(3,.ptr 2 0),(4,I i)],[[]],[.box (c.c.map .t),.box [I Clock,.t .nil],.box [I Clock1,.own 3],.arr 114 8 true (x.map Zf.c)]⟩
noncomputable def Zo9 (x:Int):Rs:=C 172 [.t .nil,.fn 173 [.ptr 0 0]] [.box [I x]]
noncomputable def Zpa (x:List Zf) (x1:Int):Rs:=C 172 [.own 0,.fn 173 [.ptr 1 0]] [.arr 114 8 true (x.map Zf.c),.box [I x1]]
def Z1o:MFun:=⟨3,29,[.cell 6 (some 2),.tmp 7],.r [.bx 3 0,.bx 4 1,.bx 5 2,.o 6 (.alloc [.t .z,.t .nil]),.mk' 7 0] [3,4,5,6] (.r [.ln 9 2 4,.cl 10 154 [9],.o 8 (.alloc [.t .z,.t .nil]),.st 2 8 10] [3,4,5,6,8] (.wc [.ln 11 30 3,.ln 12 2 4,.cl 13 55 [11,12],.o 14 (.un .not (.s 13))] [4,5,6,8,14] 14 (.r [.ln 15 2 8,.st 2 6 15,.mk' 7 0] [6,7] .ret) (.r [.fa 16 1 8,.l 17 16,.o 18 (.mkfn 173 [.s 5]),.o 19 (.icall 172 [.s 17,.s 18]),.fa 20 1 8,.st 1 20 19] [4,6,8] (.seq (.drw [.ln 21 2 8,.fa 22 1 4,.l 23 22,.ll 24 23,.fa 25 1 8,.l 26 25,.ll 27 26,.b 28 .sub 24 27,.st 2 6 21,.m 7 28] [[],[],[1],[2],[],[4],[5],[3,6],[0,0],[7,8,0,1,2,3,4,5,6,7,8]] [6,7]) .ret))))⟩
noncomputable def Zpb (a:Zd) (a1:Zp) (a2:Int):Rs:=C 79 [.agg (a.c.map .t),.agg (a1.c.map .t),I a2] []
def Zug:MCode:=.reg [.m 25 9,.bk 26 .add 25 1,.m 9 26] [2,4,6,8,9]
def Zm0:MCode:=.we [.m 20 9,.fa 21 1 4,.l 22 21,.ll 23 22,.b 24 .lss 20 23] [2,4,6,8,9,24] 24 0 (.seq (.block 1 (.r [.fa 27 1 4,.l 28 27,.m 29 9,.ia 30 8 28 29,.fa 31 6 30,.l 32 31,.m 33 2,.b 34 .eql 32 33] [2,4,6,8,9,34] (.cond (.s 34) (.r [.fa 35 1 4,.l 36 35,.m 37 9,.ia 38 8 36 37,.ln 39 8 38,.cl 40 174 [39],.o 10 (.alloc [.t .z,.t .nil,.t .nil,.t .nil,.t .nil,.t .z,.t .z,.t .z]),.st 8 10 40] [2,4,6,8,9,10] (.reg [.fa 41 1 8,.l 42 41,.ln 43 8 10,.o 44 (.bslice 114 8 1 [.z,.lst 2 [],.lst 3 [],.lst 1 [],.lst 1 [],.z,.z,.z] [(0,.s 43)]),.o 45 (.append 114 8 128 true (.s 42) (.s 44)),.fa 46 1 8,.st 1 46 45] [2,4,6,8,9])) .skip))) Zug)
def Zm1:MCode:=.seq (.drw [.ln 47 2 8,.fa 48 1 4,.l 49 48,.ll 50 49,.fa 51 1 8,.l 52 51,.ll 53 52,.b 54 .sub 50 53,.st 2 6 47,.m 7 54] [[],[],[1],[2],[],[4],[5],[3,6],[0,0],[7,8,0,1,2,3,4,5,6,7,8]] [6,7]) .ret
def Z1p:MFun:=⟨3,55,[.cell 6 (some 2),.tmp 7],.r [.bx 3 0,.bx 4 1,.o 6 (.alloc [.t .z,.t .nil]),.mk' 7 0] [2,3,4,6] (.wc [.ln 11 30 3,.ln 12 2 4,.cl 13 53 [11,12],.o 14 (.un .not (.s 13))] [2,4,6,14] 14 (.r [.ln 15 2 4,.cl 16 155 [15],.st 2 6 16,.mk' 7 0] [6,7] .ret) (.r [.fa 17 0 4,.l 18 17,.o 19 (.build [.t .z,.t .nil] [(0,1,.s 18)]),.o 8 (.alloc [.t .z,.t .nil]),.st 2 8 19] [2,4,6,8] (.seq (.r [.mk' 9 0] [2,4,6,8,9] (.block 0 (.loop [2,4,6,8,9] Zm0))) Zm1)))⟩
noncomputable def Zpc (a:Zd) (a1:Zp) (a2:Int):Rs:=C 80 [.agg (a.c.map .t),.agg (a1.c.map .t),I a2] []
noncomputable def Zi2 (c:Zp) (Clock:Int) (Clock1:Int) (version:Int) (i:Int):Rs:=EvL C [.blk 0,.seq Zm1,.fin 0 [.cell 6 (some 2),.tmp 7]] [2,4,6,8,9] Zm0 ⟨[(2,I version),(4,.ptr 0 0),(6,.ptr 1 0),(8,.ptr 2 0),(9,I i)],[[]],[.box (c.c.map .t),.box [I Clock,.t .nil],.box [I Clock1,.t .nil]]⟩
noncomputable def Zer (c:Zp) (Clock:Int) (Clock1:Int) (x:List Zf) (version:Int) (i:Int):Rs:=EvL C [.blk 0,.seq Zm1,.fin 0 [.cell 6 (some 2),.tmp 7]] [2,4,6,8,9] Zm0 ⟨[(2,I version),(4,.ptr 0 0),(6,.ptr 1 0),(8,.ptr 2 0),(9,I i)],[[]],[.box (c.c.map .t),.box [I Clock,.t .nil],.box [I Clock1,.own 3],.arr 114 8 true (x.map Zf.c)]⟩
theorem Z9z:tbl 104=some Zxe:=tblOf_eq Tryz.func104 (by kernel_rfl) (by kernel_rfl)
theorem Z90:tbl 219=some Zxf:=tblOf_eq Tryz.func219 (by kernel_rfl) (by kernel_rfl)
theorem Z91:tbl 279=some Zxg:=tblOf_eq Tryz.func279 (by kernel_rfl) (by kernel_rfl)
theorem Z92:tbl 220=some Zxh:=tblOf_eq Tryz.func220 (by kernel_rfl) (by kernel_rfl)
theorem Z93:tbl 280=some Zxi:=tblOf_eq Tryz.func280 (by kernel_rfl) (by kernel_rfl)
theorem Z94:tbl 221=some Zxj:=tblOf_eq Tryz.func221 (by kernel_rfl) (by kernel_rfl)
theorem Z95:tbl 131=some Zn8:=tblOf_eq Tryz.func131 (by kernel_rfl) (by kernel_rfl)
theorem Z96:tbl 277=some Zxk:=tblOf_eq Tryz.func277 (by kernel_rfl) (by kernel_rfl)
theorem Z97:tbl 232=some Zxl:=tblOf_eq Tryz.func232 (by kernel_rfl) (by kernel_rfl)
theorem Z98:tbl 222=some Zxm:=tblOf_eq Tryz.func222 (by kernel_rfl) (by kernel_rfl)
theorem Z99:tbl 134=some Zxn:=tblOf_eq Tryz.func134 (by kernel_rfl) (by kernel_rfl)
theorem Zbaa:tbl 132=some Zxo:=tblOf_eq Tryz.func132 (by kernel_rfl) (by kernel_rfl)
theorem Zbab:tbl 257=some Zxp:=tblOf_eq Tryz.func257 (by kernel_rfl) (by kernel_rfl)
theorem Zbac:tbl 258=some Zxr:=tblOf_eq Tryz.func258 (by kernel_rfl) (by kernel_rfl)
theorem Zbad:tbl 189=some Zxs:=tblOf_eq Tryz.func189 (by kernel_rfl) (by kernel_rfl)
theorem Zbae:tbl 99=some Zxu:=tblOf_eq Tryz.func99 (by kernel_rfl) (by kernel_rfl)
theorem Zbaf:tbl 133=some Zxv:=tblOf_eq Tryz.func133 (by kernel_rfl) (by kernel_rfl)
theorem Zbag:tbl 43=some Zxw:=tblOf_eq Tryz.func43 (by kernel_rfl) (by kernel_rfl)
theorem Zbah:tbl 268=some Zxx:=tblOf_eq Tryz.func268 (by kernel_rfl) (by kernel_rfl)
theorem Zbai:tbl 290=some Zxz:=tblOf_eq Tryz.func290 (by kernel_rfl) (by kernel_rfl)
theorem Zbaj:tbl 269=some Zx0:=tblOf_eq Tryz.func269 (by kernel_rfl) (by kernel_rfl)
theorem Zbak:tbl 204=some Zx1:=tblOf_eq Tryz.func204 (by kernel_rfl) (by kernel_rfl)
theorem Zbal:tbl 193=some Zx2:=tblOf_eq Tryz.func193 (by kernel_rfl) (by kernel_rfl)
theorem Zbam:tbl 289=some Zx3:=tblOf_eq Tryz.func289 (by kernel_rfl) (by kernel_rfl)
theorem Zban:tbl 259=some Zx4:=tblOf_eq Tryz.func259 (by kernel_rfl) (by kernel_rfl)
theorem Zbao:tbl 261=some Zx5:=tblOf_eq Tryz.func261 (by kernel_rfl) (by kernel_rfl)
theorem Zbap:tbl 142=some Zx6:=tblOf_eq Tryz.func142 (by kernel_rfl) (by kernel_rfl)
theorem Zbaq:tbl 264=some Zx7:=tblOf_eq Tryz.func264 (by kernel_rfl) (by kernel_rfl)
theorem Zbar:tbl 263=some Zx9:=tblOf_eq Tryz.func263 (by kernel_rfl) (by kernel_rfl)
theorem Zbas:tbl 262=some Zya:=tblOf_eq Tryz.func262 (by kernel_rfl) (by kernel_rfl)
theorem Zbat:tbl 260=some Zyc:=tblOf_eq Tryz.func260 (by kernel_rfl) (by kernel_rfl)
theorem Zbau:tbl 190=some Zyd:=tblOf_eq Tryz.func190 (by kernel_rfl) (by kernel_rfl)
theorem Zbav:tbl 100=some Zye:=tblOf_eq Tryz.func100 (by kernel_rfl) (by kernel_rfl)
theorem Zbaw:tbl 119=some Zyf:=tblOf_eq Tryz.func119 (by kernel_rfl) (by kernel_rfl)
theorem Zbax:tbl 216=some Zyg:=tblOf_eq Tryz.func216 (by kernel_rfl) (by kernel_rfl)
theorem Zbay:tbl 292=some Zyh:=tblOf_eq Tryz.func292 (by kernel_rfl) (by kernel_rfl)
theorem Zbaz:tbl 192=some Zyi:=tblOf_eq Tryz.func192 (by kernel_rfl) (by kernel_rfl)
theorem Zba0:tbl 275=some Zyk:=tblOf_eq Tryz.func275 (by kernel_rfl) (by kernel_rfl)
theorem Zba1:tbl 276=some Zyl:=tblOf_eq Tryz.func276 (by kernel_rfl) (by kernel_rfl)
theorem Zba2:tbl 215=some Zrv:=tblOf_eq Tryz.func215 (by kernel_rfl) (by kernel_rfl)
theorem Zba3:tbl 127=some Zyn:=tblOf_eq Tryz.func127 (by kernel_rfl) (by kernel_rfl)
theorem Zba4:tbl 301=some Zyp:=tblOf_eq Tryz.func301 (by kernel_rfl) (by kernel_rfl)
theorem Zba5:tbl 302=some Zyr:=tblOf_eq Tryz.func302 (by kernel_rfl) (by kernel_rfl)
theorem Zba6:tbl 304=some Zys:=tblOf_eq Tryz.func304 (by kernel_rfl) (by kernel_rfl)
theorem Zba7:tbl 303=some Zce:=tblOf_eq Tryz.func303 (by kernel_rfl) (by kernel_rfl)
theorem Zba8:tbl 305=some Zyu:=tblOf_eq Tryz.func305 (by kernel_rfl) (by kernel_rfl)
theorem Z1q:tbl 300=some Zr3:=tblOf_eq Tryz.func300 (by kernel_rfl) (by kernel_rfl)
theorem Zba9:tbl 141=some Zyv:=tblOf_eq Tryz.func141 (by kernel_rfl) (by kernel_rfl)
theorem Zbba:tbl 306=some Zyw:=tblOf_eq Tryz.func306 (by kernel_rfl) (by kernel_rfl)
theorem Zbbb:tbl 309=some Zyx:=tblOf_eq Tryz.func309 (by kernel_rfl) (by kernel_rfl)
theorem Zbbc:tbl 311=some Zyy:=tblOf_eq Tryz.func311 (by kernel_rfl) (by kernel_rfl)
theorem Zbbd:tbl 307=some Zy2:=tblOf_eq Tryz.func307 (by kernel_rfl) (by kernel_rfl)
theorem Zbbe:tbl 312=some Zy3:=tblOf_eq Tryz.func312 (by kernel_rfl) (by kernel_rfl)
theorem Zbbf:tbl 308=some Zy4:=tblOf_eq Tryz.func308 (by kernel_rfl) (by kernel_rfl)
theorem Zbbg:tbl 294=some Zog:=tblOf_eq Tryz.func294 (by kernel_rfl) (by kernel_rfl)
theorem Zbbh:tbl 293=some Zy7:=tblOf_eq Tryz.func293 (by kernel_rfl) (by kernel_rfl)
theorem Zbbi:tbl 278=some Zy8:=tblOf_eq Tryz.func278 (by kernel_rfl) (by kernel_rfl)
theorem Zbbj:tbl 217=some Zy9:=tblOf_eq Tryz.func217 (by kernel_rfl) (by kernel_rfl)
theorem Zbbk:tbl 128=some Zzb:=tblOf_eq Tryz.func128 (by kernel_rfl) (by kernel_rfl)
theorem Zbbl:tbl 120=some Zzc:=tblOf_eq Tryz.func120 (by kernel_rfl) (by kernel_rfl)
theorem Zbbm:tbl 37=some Zzd:=tblOf_eq Tryz.func37 (by kernel_rfl) (by kernel_rfl)
theorem Zbbn:tbl 92=some Zze:=tblOf_eq Tryz.func92 (by kernel_rfl) (by kernel_rfl)
theorem Zbbo:tbl 137=some Zzf:=tblOf_eq Tryz.func137 (by kernel_rfl) (by kernel_rfl)
theorem Zbbp:tbl 255=some Zzg:=tblOf_eq Tryz.func255 (by kernel_rfl) (by kernel_rfl)
theorem Zbbq:tbl 183=some Zzh:=tblOf_eq Tryz.func183 (by kernel_rfl) (by kernel_rfl)
theorem Zbbr:tbl 184=some Zzi:=tblOf_eq Tryz.func184 (by kernel_rfl) (by kernel_rfl)
theorem Zbbs:tbl 91=some Zzk:=tblOf_eq Tryz.func91 (by kernel_rfl) (by kernel_rfl)
theorem Zbbt:tbl 288=some Zzl:=tblOf_eq Tryz.func288 (by kernel_rfl) (by kernel_rfl)
theorem Zbbu:tbl 253=some Zzm:=tblOf_eq Tryz.func253 (by kernel_rfl) (by kernel_rfl)
theorem Zbbv:tbl 254=some Zzn:=tblOf_eq Tryz.func254 (by kernel_rfl) (by kernel_rfl)
theorem Zbbw:tbl 182=some Zzo:=tblOf_eq Tryz.func182 (by kernel_rfl) (by kernel_rfl)
theorem Zbbx:tbl 88=some Zzp:=tblOf_eq Tryz.func88 (by kernel_rfl) (by kernel_rfl)
theorem Zbby:tbl 249=some Zzq:=tblOf_eq Tryz.func249 (by kernel_rfl) (by kernel_rfl)
theorem Zbbz:tbl 250=some Zzr:=tblOf_eq Tryz.func250 (by kernel_rfl) (by kernel_rfl)
theorem Zbb0:tbl 180=some Zzs:=tblOf_eq Tryz.func180 (by kernel_rfl) (by kernel_rfl)
theorem Zbb1:tbl 117=some Zzt:=tblOf_eq Tryz.func117 (by kernel_rfl) (by kernel_rfl)
theorem Zbb2:tbl 202=some Zzu:=tblOf_eq Tryz.func202 (by kernel_rfl) (by kernel_rfl)
theorem Zbb3:tbl 252=some Zzv:=tblOf_eq Tryz.func252 (by kernel_rfl) (by kernel_rfl)
theorem Zbb4:tbl 267=some Zzx:=tblOf_eq Tryz.func267 (by kernel_rfl) (by kernel_rfl)
theorem Zbb5:tbl 203=some Zzy:=tblOf_eq Tryz.func203 (by kernel_rfl) (by kernel_rfl)
theorem Zbb6:tbl 116=some Zzz:=tblOf_eq Tryz.func116 (by kernel_rfl) (by kernel_rfl)
theorem Zbb7:tbl 212=some Zz0:=tblOf_eq Tryz.func212 (by kernel_rfl) (by kernel_rfl)
theorem Zbb8:tbl 51=some Zz1:=tblOf_eq Tryz.func51 (by kernel_rfl) (by kernel_rfl)
theorem Zbb9:tbl 135=some Zz2:=tblOf_eq Tryz.func135 (by kernel_rfl) (by kernel_rfl)
theorem Zbca:tbl 251=some Zz3:=tblOf_eq Tryz.func251 (by kernel_rfl) (by kernel_rfl)
theorem Zbcb:tbl 181=some Zz4:=tblOf_eq Tryz.func181 (by kernel_rfl) (by kernel_rfl)
theorem Zbcc:tbl 87=some Zz5:=tblOf_eq Tryz.func87 (by kernel_rfl) (by kernel_rfl)
theorem Zbcd:tbl 136=some Zz6:=tblOf_eq Tryz.func136 (by kernel_rfl) (by kernel_rfl)
theorem Zbce:tbl 44=some Zz7:=tblOf_eq Tryz.func44 (by kernel_rfl) (by kernel_rfl)
theorem Zbcf:tbl 205=some Zz9:=tblOf_eq Tryz.func205 (by kernel_rfl) (by kernel_rfl)
theorem Zbcg:tbl 206=some Z0b:=tblOf_eq Tryz.func206 (by kernel_rfl) (by kernel_rfl)
theorem Zbch:tbl 291=some Z0d:=tblOf_eq Tryz.func291 (by kernel_rfl) (by kernel_rfl)
theorem Zbci:tbl 270=some Z0e:=tblOf_eq Tryz.func270 (by kernel_rfl) (by kernel_rfl)
theorem Zbcj:tbl 207=some Z0g:=tblOf_eq Tryz.func207 (by kernel_rfl) (by kernel_rfl)
theorem Zbck:tbl 121=some Z0h:=tblOf_eq Tryz.func121 (by kernel_rfl) (by kernel_rfl)
theorem Zbcl:tbl 125=some Z0i:=tblOf_eq Tryz.func125 (by kernel_rfl) (by kernel_rfl)
theorem Zbcm:tbl 209=some Z0k:=tblOf_eq Tryz.func209 (by kernel_rfl) (by kernel_rfl)
theorem Zbcn:tbl 210=some Z0l:=tblOf_eq Tryz.func210 (by kernel_rfl) (by kernel_rfl)
theorem Zbco:tbl 208=some Z0n:=tblOf_eq Tryz.func208 (by kernel_rfl) (by kernel_rfl)
theorem Zbcp:tbl 229=some Z0o:=tblOf_eq Tryz.func229 (by kernel_rfl) (by kernel_rfl)
theorem Zpd:tbl 271=some Zl7:=tblOf_eq Tryz.func271 (by kernel_rfl) (by kernel_rfl)
theorem Zbcq:tbl 272=some Z0p:=tblOf_eq Tryz.func272 (by kernel_rfl) (by kernel_rfl)
theorem Zbcr:tbl 231=some Z0q:=tblOf_eq Tryz.func231 (by kernel_rfl) (by kernel_rfl)
theorem Zbcs:tbl 273=some Z0r:=tblOf_eq Tryz.func273 (by kernel_rfl) (by kernel_rfl)
theorem Zbct:tbl 211=some Z0u:=tblOf_eq Tryz.func211 (by kernel_rfl) (by kernel_rfl)
theorem Zbcu:tbl 124=some Z0w:=tblOf_eq Tryz.func124 (by kernel_rfl) (by kernel_rfl)
theorem Zbcv:tbl 123=some Z0x:=tblOf_eq Tryz.func123 (by kernel_rfl) (by kernel_rfl)
theorem Zbcw:tbl 285=some Z0y:=tblOf_eq Tryz.func285 (by kernel_rfl) (by kernel_rfl)
theorem Zbcx:tbl 286=some Z0z:=tblOf_eq Tryz.func286 (by kernel_rfl) (by kernel_rfl)
theorem Zbcy:tbl 241=some Z00:=tblOf_eq Tryz.func241 (by kernel_rfl) (by kernel_rfl)
theorem Zbcz:tbl 162=some Z01:=tblOf_eq Tryz.func162 (by kernel_rfl) (by kernel_rfl)
theorem Zbc0:tbl 70=some Z02:=tblOf_eq Tryz.func70 (by kernel_rfl) (by kernel_rfl)
theorem Zbc1:tbl 118=some Z03:=tblOf_eq Tryz.func118 (by kernel_rfl) (by kernel_rfl)
theorem Zbc2:tbl 35=some Z04:=tblOf_eq Tryz.func35 (by kernel_rfl) (by kernel_rfl)
theorem Zbc3:tbl 274=some Z05:=tblOf_eq Tryz.func274 (by kernel_rfl) (by kernel_rfl)
theorem Zbc4:tbl 213=some Z06:=tblOf_eq Tryz.func213 (by kernel_rfl) (by kernel_rfl)
theorem Zbc5:tbl 45=some Z07:=tblOf_eq Tryz.func45 (by kernel_rfl) (by kernel_rfl)
theorem Zbc6:tbl 149=some Z08:=tblOf_eq Tryz.func149 (by kernel_rfl) (by kernel_rfl)
theorem Zbc7:tbl 158=some Z09:=tblOf_eq Tryz.func158 (by kernel_rfl) (by kernel_rfl)
theorem Zbc8:tbl 148=some Z1a:=tblOf_eq Tryz.func148 (by kernel_rfl) (by kernel_rfl)
theorem Zbc9:tbl 55=some Z1b:=tblOf_eq Tryz.func55 (by kernel_rfl) (by kernel_rfl)
theorem Zbda:tbl 53=some Z1c:=tblOf_eq Tryz.func53 (by kernel_rfl) (by kernel_rfl)
theorem Zbdb:tbl 143=some Z1d:=tblOf_eq Tryz.func143 (by kernel_rfl) (by kernel_rfl)
theorem Zbdc:tbl 50=some Z1e:=tblOf_eq Tryz.func50 (by kernel_rfl) (by kernel_rfl)
theorem Zbdd:tbl 166=some Z1f:=tblOf_eq Tryz.func166 (by kernel_rfl) (by kernel_rfl)
theorem Zbde:tbl 244=some Z1g:=tblOf_eq Tryz.func244 (by kernel_rfl) (by kernel_rfl)
theorem Zbdf:tbl 167=some Z1h:=tblOf_eq Tryz.func167 (by kernel_rfl) (by kernel_rfl)
theorem Zbdg:tbl 154=some Z1i:=tblOf_eq Tryz.func154 (by kernel_rfl) (by kernel_rfl)
theorem Zbdh:tbl 168=some Z1j:=tblOf_eq Tryz.func168 (by kernel_rfl) (by kernel_rfl)
theorem Zbdi:tbl 218=some Z1k:=tblOf_eq Tryz.func218 (by kernel_rfl) (by kernel_rfl)
theorem Zbdj:tbl 169=some Z1l:=tblOf_eq Tryz.func169 (by kernel_rfl) (by kernel_rfl)
theorem Zbdk:tbl 174=some Z1m:=tblOf_eq Tryz.func174 (by kernel_rfl) (by kernel_rfl)
theorem Zbdl:tbl 155=some Z1n:=tblOf_eq Tryz.func155 (by kernel_rfl) (by kernel_rfl)
theorem Zbdm:tbl 79=some Z1o:=tblOf_eq Tryz.func79 (by kernel_rfl) (by kernel_rfl)
theorem Zbdn:tbl 80=some Z1p:=tblOf_eq Tryz.func80 (by kernel_rfl) (by kernel_rfl)
theorem Zbdo (a:Int) (a1:Int) (a2:Int) (r:AV×List Blk) (h:(if a1≤a then (some (Bo (decide (a≤a2)),[])=some r) else (some (Bo false,[])=some r))):Zy a a1 a2=some r:=by
 unfold Zy
 refine run Z9z rfl ?_
 try simp only [itb] at h
 try simp only [itf,gS,kk] at h
 rcases h with ⟨q1,h⟩ | ⟨q1,h⟩
 all_goals (refine Eq.trans ?_ h;clear h;simp +decide [*,kk,Zxe])
theorem Zbdp (a:ByteArray) (r:AV×List Blk) (h:(if (a.size:Int)=1 then (∃ (b1:UInt8),a[0]?=some b1∧(if 97≤(b1.toNat:Int) then (some (Bo (decide ((b1.toNat:Int)≤122)),[])=some r) else (some (Bo false,[])=some r))) else (some (Bo false,[])=some r))):Zks a=some r:=by
 unfold Zks
 refine run Z90 rfl ?_
 try simp only [itb] at h
 try simp only [itf,gS,kk] at h
 rcases h with ⟨q1,b1,q2,(⟨q3,h⟩ | ⟨q3,h⟩)⟩ | ⟨q1,h⟩
 all_goals (refine Eq.trans ?_ h;clear h;simp +decide [*,kk,Zxf])
theorem Z1r (s:List Int) (v:Int) (x:Int) (x1:Int) (r:AV×List Blk) (h:(if x1<x then (0≤x1∧(∃ (e1:Int),s[x1.toNat]?=some e1∧(if v=e1 then (some (I x1,[])=some r) else (Zhp s v x (w (x1+1))=some r)))) else (some (I (-1),[])=some r))):Zhp s v x x1=some r:=by
 unfold Zhp
 rw [EvL_eq Zqw.eq_1]
 try simp only [itb] at h
 try simp only [itf,gS,kk] at h
 rcases h with ⟨q1,q2,e1,⟨g3,q3⟩,(⟨q4,h⟩ | ⟨q4,h⟩)⟩ | ⟨q1,h⟩
 all_goals (refine Eq.trans ?_ h;clear h;simp +decide [*,kk,Zhp,Zqx])
theorem Zbdq (a:List Int) (a1:Int) (r:AV×List Blk) (h:(Zhp a a1 (a.length:Int) 0=some r)):Zkt a a1=some r:=by
 unfold Zkt
 refine run Z91 rfl ?_
 refine Eq.trans ?_ h;clear h;simp +decide [*,kk,Zxg,Zhp]
theorem Zbdr (a:List Int) (a1:Int) (r:AV×List Blk) (h:(∃ (v1_0:Int),Zkt a a1=some (I v1_0,[])∧(some (Bo (decide (0≤v1_0)),[])=some r))):Zdf a a1=some r:=by
 unfold Zdf
 refine run Z92 rfl ?_
 simp only [Zkt,mpl,dfs] at h
 rcases h with ⟨v1_0,q1,h⟩
 all_goals (refine Eq.trans ?_ h;clear h;simp +decide [*,kk,Zxh])
theorem Z1s (s:List Bool) (v:Bool) (x:Int) (x1:Int) (r:AV×List Blk) (h:(if x1<x then (0≤x1∧(∃ (e1:Bool),s[x1.toNat]?=some e1∧(if v=e1 then (some (I x1,[])=some r) else (Zhq s v x (w (x1+1))=some r)))) else (some (I (-1),[])=some r))):Zhq s v x x1=some r:=by
 unfold Zhq
 rw [EvL_eq Zqy.eq_1]
 try simp only [itb] at h
 try simp only [itf,gS,kk] at h
 rcases h with ⟨q1,q2,e1,⟨g3,q3⟩,(⟨q4,h⟩ | ⟨q4,h⟩)⟩ | ⟨q1,h⟩
 all_goals (refine Eq.trans ?_ h;clear h;simp +decide [*,kk,Zhq,Zqz])
theorem Zbds (a:List Bool) (a1:Bool) (r:AV×List Blk) (h:(Zhq a a1 (a.length:Int) 0=some r)):Zku a a1=some r:=by
 unfold Zku
 refine run Z93 rfl ?_
 refine Eq.trans ?_ h;clear h;simp +decide [*,kk,Zxi,Zhq]
theorem Zbdt (a:List Bool) (a1:Bool) (r:AV×List Blk) (h:(∃ (v1_0:Int),Zku a a1=some (I v1_0,[])∧(some (Bo (decide (0≤v1_0)),[])=some r))):Zkv a a1=some r:=by
 unfold Zkv
 refine run Z94 rfl ?_
 simp only [Zku,mpl,dfs] at h
 rcases h with ⟨v1_0,q1,h⟩
 all_goals (refine Eq.trans ?_ h;clear h;simp +decide [*,kk,Zxj])
theorem Z1t (q:Zc) (seen:List Bool) (x:List Atom) (x1:Int) (x2:Int) (r:AV×List Blk) (h:(if x2<x1 then (0≤x2∧(∃ (e1:Atom),x[x2.toNat]?=some e1∧(∃ (v2_0:Bool),Zks e1.Name=some (Bo v2_0,[])∧(if v2_0=true then (∃ (v3_0:Bool),Zy (e1.Vars.length:Int) 1 3=some (Bo v3_0,[])∧(if v3_0=true then (Zhr q seen e1 x x1 x2 e1.Vars (e1.Vars.length:Int) 0=some r) else (some (Bo false,[])=some r))) else (some (Bo false,[])=some r))))) else (∃ (v4_0:Bool),Zkv seen false=some (Bo v4_0,[])∧(some (Bo (!v4_0),[])=some r)))):Zf2 q seen x x1 x2=some r:=by
 unfold Zf2
 rw [EvL_eq Zn6.eq_1]
 simp only [Zks,Zy,Zkv,mpl,dfs] at h
 try simp only [itb] at h
 try simp only [itf,gS,kk] at h
 rcases h with ⟨q1,q2,e1,⟨g3,q3⟩,v2_0,q4,(⟨q5,v3_0,q6,(⟨q7,h⟩ | ⟨q7,h⟩)⟩ | ⟨q5,h⟩)⟩ | ⟨q1,v4_0,q8,h⟩
 all_goals (refine Eq.trans ?_ h;clear h;simp +decide [*,kk,Zhr,Zn7])
theorem Z1u (q:Zc) (seen:List Bool) (a:Atom) (x:List Atom) (x1:Int) (x2:Int) (x3:List Int) (x4:Int) (x5:Int) (r:AV×List Blk) (h:(if x5<x4 then (0≤x5∧(∃ (e1:Int),x3[x5.toNat]?=some e1∧(∃ (v2_0:Bool),Zy e1 0 (w (q.Ze - 1))=some (Bo v2_0,[])∧(if v2_0=true then (x5.toNat≤a.Vars.length∧(∃ (v3_0:Bool),Zdf (a.Vars.take x5.toNat) e1=some (Bo v3_0,[])∧(if v3_0=true then (some (Bo false,[])=some r) else (0≤e1∧(∃ (e4:Bool),seen[e1.toNat]?=some e4∧(Zhr q (seen.set e1.toNat true) a x x1 x2 x3 x4 (w (x5+1))=some r)))))) else (some (Bo false,[])=some r))))) else (Zf2 q seen x x1 (w (x2+1))=some r))):Zhr q seen a x x1 x2 x3 x4 x5=some r:=by
 unfold Zhr
 rw [EvL_eq Zq0.eq_1]
 simp only [Zy,Zdf,mpl,dfs] at h
 try simp only [itb] at h
 try simp only [itf,gS,kk] at h
 rcases h with ⟨q1,q2,e1,⟨g3,q3⟩,v2_0,q4,(⟨q5,q6,v3_0,q7,(⟨q8,h⟩ | ⟨q8,q9,e4,⟨g10,q10⟩,h⟩)⟩ | ⟨q5,h⟩)⟩ | ⟨q1,h⟩
 all_goals (refine Eq.trans ?_ h;clear h;simp +decide [*,kk,Zhr,Zf2,Zq1])
theorem Zbdu (a:Zc) (r:AV×List Blk) (h:(∃ (v1_0:Bool),Zy a.Ze 1 4=some (Bo v1_0,[])∧(if v1_0=true then (∃ (v2_0:Bool),Zy (a.Atoms.length:Int) 1 4=some (Bo v2_0,[])∧(if v2_0=true then (0≤a.Ze∧(a.Ze.toNat*1≤room∧(a.Ze≤140737488355328∧(Zf2 a (List.replicate (a.Ze).toNat false) a.Atoms (a.Atoms.length:Int) 0=some r)))) else (some (Bo false,[])=some r))) else (some (Bo false,[])=some r)))):Zc8 a=some r:=by
 unfold Zc8
 refine run Z95 rfl ?_
 obtain ⟨v1_0,q1,h⟩:=h
 unfold Zy at q1
 try simp at q1
 by_cases q2:v1_0=true
 ·rw [if_pos q2] at h
  obtain ⟨v2_0,q3,h⟩:=h
  unfold Zy at q3
  try simp at q3
  by_cases q4:v2_0=true
  ·rw [if_pos q4] at h
   obtain ⟨q5,h⟩:=h
   obtain ⟨q6,h⟩:=h
   have zq6:=q6;try simp at zq6
   obtain ⟨q7,h⟩:=h
   refine Eq.trans ?_ h
   clear h
   simp +decide [*,Zn8,Zf2]
  ·rw [if_neg q4] at h
   refine Eq.trans ?_ h
   clear h
   simp +decide [*,Zn8]
 ·rw [if_neg q2] at h
  refine Eq.trans ?_ h
  clear h
  simp +decide [*,Zn8]
theorem Z1v (location:List Int) (x:List Int) (x1:Int) (x2:Int) (r:AV×List Blk) (h:(if x2<x1 then (0≤x2∧(∃ (e1:Int),x[x2.toNat]?=some e1∧(∃ (v2_0:Bool),Zy e1 0 7=some (Bo v2_0,[])∧(if v2_0=true then (Zhs location x x1 (w (x2+1))=some r) else (some (Bo false,[])=some r))))) else (some (Bo (decide ((location.length:Int)≤16)),[])=some r))):Zhs location x x1 x2=some r:=by
 unfold Zhs
 rw [EvL_eq Zq2.eq_1]
 simp only [Zy,mpl,dfs] at h
 try simp only [itb] at h
 try simp only [itf,gS,kk] at h
 rcases h with ⟨q1,q2,e1,⟨g3,q3⟩,v2_0,q4,(⟨q5,h⟩ | ⟨q5,h⟩)⟩ | ⟨q1,h⟩
 all_goals (refine Eq.trans ?_ h;clear h;simp +decide [*,kk,Zhs,Zq3])
theorem Zbdv (a:List Int) (r:AV×List Blk) (h:(Zhs a a (a.length:Int) 0=some r)):Zf3 a=some r:=by
 unfold Zf3
 refine run Z96 rfl ?_
 refine Eq.trans ?_ h;clear h;simp +decide [*,kk,Zxk,Zhs]
theorem Z1w (a:List Int) (b:List Int) (x:Int) (x1:Int) (r:AV×List Blk) (h:(if x1<x then (0≤x1∧(∃ (e1:Int),a[x1.toNat]?=some e1∧(∃ (e2:Int),b[x1.toNat]?=some e2∧(if e1<e2 then (some (Bo false,[])=some r) else (Zht a b x (w (x1+1))=some r))))) else (some (Bo true,[])=some r))):Zht a b x x1=some r:=by
 unfold Zht
 rw [EvL_eq Zq4.eq_1]
 try simp only [itb] at h
 try simp only [itf,gS,kk] at h
 rcases h with ⟨q1,q2,e1,⟨g3,q3⟩,e2,⟨g4,q4⟩,(⟨q5,h⟩ | ⟨q5,h⟩)⟩ | ⟨q1,h⟩
 all_goals (refine Eq.trans ?_ h;clear h;simp +decide [*,kk,Zht,Zq5])
theorem Zbdw (a:List Int) (a1:List Int) (r:AV×List Blk) (h:(if (a.length:Int)=(a1.length:Int) then (Zht a a1 (a.length:Int) 0=some r) else (some (Bo false,[])=some r))):Zf4 a a1=some r:=by
 unfold Zf4
 refine run Z97 rfl ?_
 try simp only [itb] at h
 try simp only [itf,gS,kk] at h
 rcases h with ⟨q1,h⟩ | ⟨q1,h⟩
 all_goals (refine Eq.trans ?_ h;clear h;simp +decide [*,kk,Zxl,Zht])
theorem Zbdx (a:Box) (r:AV×List Blk) (h:(∃ (v1_0:Bool),Zf3 a.Low=some (Bo v1_0,[])∧(if v1_0=true then (∃ (v2_0:Bool),Zf3 a.High=some (Bo v2_0,[])∧(if v2_0=true then (if 0<(a.Low.length:Int) then (∃ (v3_0:Bool),Zf4 a.High a.Low=some (Bo v3_0,[])∧(some (Bo v3_0,[])=some r)) else (some (Bo false,[])=some r)) else (some (Bo false,[])=some r))) else (some (Bo false,[])=some r)))):Ze0 a=some r:=by
 unfold Ze0
 refine run Z98 rfl ?_
 simp only [Zf3,Zf4,mpl,dfs] at h
 try simp only [itb] at h
 try simp only [itf,gS,kk] at h
 rcases h with ⟨v1_0,q1,(⟨q2,v2_0,q3,(⟨q4,(⟨q5,v3_0,q6,h⟩ | ⟨q5,h⟩)⟩ | ⟨q4,h⟩)⟩ | ⟨q2,h⟩)⟩
 all_goals (refine Eq.trans ?_ h;clear h;simp +decide [*,kk,Zxm])
theorem Zbdy (a:Zc) (r:AV×List Blk) (h:(∃ (v1_0:Bool),Zc8 a=some (Bo v1_0,[])∧(if v1_0=true then (¬ (a.Atoms.length:Int)<0∧(some (I (w ((shlI 1 (a.Atoms.length:Int)) - 1)),[])=some r)) else (some (I 0,[])=some r)))):Zb5 a=some r:=by
 unfold Zb5
 refine run Z99 rfl ?_
 simp only [Zc8,Zc.c_def,mpl,dfs] at h
 try simp only [itb] at h
 try simp only [itf,gS,kk] at h
 rcases h with ⟨v1_0,q1,(⟨q2,q3,h⟩ | ⟨q2,h⟩)⟩
 all_goals (refine Eq.trans ?_ h;clear h;simp +decide [*,kk,Zxn])
theorem Zbdz (a:Zc) (a1:Box) (r:AV×List Blk) (h:(∃ (v1_0:Bool),Ze0 a1=some (Bo v1_0,[])∧(if v1_0=true then (∃ (v2_0:Int),Zb5 a=some (I v2_0,[])∧(some (Bo (decide ((a1.Low.length:Int)=(w (v2_0+1)))),[])=some r)) else (some (Bo false,[])=some r)))):Zkw a a1=some r:=by
 unfold Zkw
 refine run Zbaa rfl ?_
 simp only [Ze0,Zb5,Box.c_def,Zc.c_def,mpl,dfs] at h
 try simp only [itb] at h
 try simp only [itf,gS,kk] at h
 rcases h with ⟨v1_0,q1,(⟨q2,v2_0,q3,h⟩ | ⟨q2,h⟩)⟩
 all_goals (refine Eq.trans ?_ h;clear h;simp +decide [*,kk,Zxo])
theorem Z1x (q:Zc) (out:List Int) (mask:Int) (v:Int) (r:AV×List Blk) (h:(if v<q.Ze then (Zf5 q out mask v q.Atoms (q.Atoms.length:Int) 0=some r) else (some (.own 0,[.arr 3 1 true (out.map ic)])=some r))):Ze1 q out mask v=some r:=by
 unfold Ze1
 rw [EvL_eq Zn9.eq_1]
 try simp only [itb] at h
 try simp only [itf,gS,kk] at h
 rcases h with ⟨q1,h⟩ | ⟨q1,h⟩
 all_goals (refine Eq.trans ?_ h;clear h;simp +decide [*,kk,Zf5,Zoa])
theorem Z1y (q:Zc) (out:List Int) (mask:Int) (v:Int) (x:List Atom) (x1:Int) (x2:Int) (r:AV×List Blk) (h:(if x2<x1 then (0≤x2∧(∃ (e1:Atom),x[x2.toNat]?=some e1∧(¬ x2<0∧(if (andI (shrI mask x2) 1)=1 then (∃ (v2_0:Bool),Zdf e1.Vars v=some (Bo v2_0,[])∧(if v2_0=true then (out.length+1≤68719476736∧(Ze1 q (out++[v]) mask (w (v+1))=some r)) else (Zf5 q out mask v x x1 (w (x2+1))=some r))) else (Zf5 q out mask v x x1 (w (x2+1))=some r))))) else (Ze1 q out mask (w (v+1))=some r))):Zf5 q out mask v x x1 x2=some r:=by
 unfold Zf5
 rw [EvL_eq Zq6.eq_1]
 simp only [Zdf,mpl,dfs] at h
 try simp only [itb] at h
 try simp only [itf,gS,kk] at h
 rcases h with ⟨q1,q2,e1,⟨g3,q3⟩,q4,(⟨q5,v2_0,q6,(⟨q7,q8,h⟩ | ⟨q7,h⟩)⟩ | ⟨q5,h⟩)⟩ | ⟨q1,h⟩
 all_goals (refine Eq.trans ?_ h;clear h;simp +decide [*,kk,Ze1,Zq7,Zf5])
theorem Zbd0 (a:Zc) (a1:Int) (r:AV×List Blk) (h:(Ze1 a ([]:List Int) a1 0=some r)):Zdu a a1=some r:=by
 unfold Zdu
 refine run Zbab rfl ?_
 refine Eq.trans ?_ h;clear h;simp +decide [*,kk,Zxp,Ze1]
theorem Z1z (out:List Int) (b:List Int) (x:List Int) (x1:Int) (x2:Int) (r:AV×List Blk) (h:(if x2<x1 then (0≤x2∧(∃ (e1:Int),x[x2.toNat]?=some e1∧(∃ (v2_0:Bool),Zdf b e1=some (Bo v2_0,[])∧(if v2_0=true then (out.length+1≤68719476736∧(Zf6 (out++[e1]) b x x1 (w (x2+1))=some r)) else (Zf6 out b x x1 (w (x2+1))=some r))))) else (some (.own 0,[.arr 3 1 true (out.map ic)])=some r))):Zf6 out b x x1 x2=some r:=by
 unfold Zf6
 rw [EvL_eq Zq8.eq_1]
 simp only [Zdf,mpl,dfs] at h
 try simp only [itb] at h
 try simp only [itf,gS,kk] at h
 rcases h with ⟨q1,q2,e1,⟨g3,q3⟩,v2_0,q4,(⟨q5,q6,h⟩ | ⟨q5,h⟩)⟩ | ⟨q1,h⟩
 all_goals (refine Eq.trans ?_ h;clear h;simp +decide [*,kk,Zf6,Zxq,Zq9])
theorem Zbd1 (a:List Int) (a1:List Int) (r:AV×List Blk) (h:(Zf6 ([]:List Int) a1 a (a.length:Int) 0=some r)):Ze2 a a1=some r:=by
 unfold Ze2
 refine run Zbac rfl ?_
 refine Eq.trans ?_ h;clear h;simp +decide [*,kk,Zxr,Zf6]
theorem Zg7 (a:Zc) (a1:Zb) (a2:List Zh) (a3:List Int) (r:AV×List Blk) (h:(if a1.Kind=1 then (∃ (v1_0:Bool),Zy a1.Atom 0 (w ((a.Atoms.length:Int) - 1))=some (Bo v1_0,[])∧(if v1_0=true then (if a1.Order=0 then (¬ a1.Atom<0∧(0≤a1.Atom∧(∃ (e2:Atom),a.Atoms[a1.Atom.toNat]?=some e2∧(∃ (e3:Int),e2.Vars[0]?=some e3∧(some (.tup [.agg [I (shlI 1 a1.Atom),I e3,I (-1),I (-1)],Bo true],[])=some r))))) else (some (.tup [.agg [I 0,I (-1),I (-1),I (-1)],Bo false],[])=some r)) else (some (.tup [.agg [I 0,I (-1),I (-1),I (-1)],Bo false],[])=some r))) else (if a1.Atom=0 then (if a1.Kind=2 then (if (a3.length:Int)<1 then (some (.tup [.agg [I 0,I (-1),I (-1),I (-1)],Bo false],[])=some r) else (0≤(w ((a3.length:Int) - 1))∧(∃ (e4:Int),a3[(w ((a3.length:Int) - 1)).toNat]?=some e4∧(0≤e4∧(∃ (e5:Zh),a2[e4.toNat]?=some e5∧(∃ (v6_0:List Int),Zdu a e5.Mask=some (.own 0,[.arr 3 1 true (v6_0.map ic)])∧(∃ (v7_0:Bool),Zdf v6_0 a1.Order=some (Bo v7_0,[])∧(if v7_0=true then (if e5.Order=a1.Order then (some (.tup [.agg [I 0,I (-1),I (-1),I (-1)],Bo false],[])=some r) else (some (.tup [.agg [I e5.Mask,I a1.Order,I e4,I (-1)],Bo true],[])=some r)) else (some (.tup [.agg [I 0,I (-1),I (-1),I (-1)],Bo false],[])=some r))))))))) else (if (a3.length:Int)<2 then (some (.tup [.agg [I 0,I (-1),I (-1),I (-1)],Bo false],[])=some r) else (0≤(w ((a3.length:Int) - 2))∧(∃ (e8:Int),a3[(w ((a3.length:Int) - 2)).toNat]?=some e8∧(0≤(w ((a3.length:Int) - 1))∧(∃ (e9:Int),a3[(w ((a3.length:Int) - 1)).toNat]?=some e9∧(0≤e8∧(∃ (e10:Zh),a2[e8.toNat]?=some e10∧(0≤e9∧(∃ (e11:Zh),a2[e9.toNat]?=some e11∧(∃ (v12_0:List Int),Zdu a e10.Mask=some (.own 0,[.arr 3 1 true (v12_0.map ic)])∧(∃ (v13_0:List Int),Zdu a e11.Mask=some (.own 0,[.arr 3 1 true (v13_0.map ic)])∧(∃ (v14_0:List Int),Ze2 v12_0 v13_0=some (.own 0,[.arr 3 1 true (v14_0.map ic)])∧(if (andI e10.Mask e11.Mask)=0 then (if (v14_0.length:Int)=0 then (some (.tup [.agg [I (orI e10.Mask e11.Mask),I (-1),I e8,I e9],Bo false],[])=some r) else (if a1.Kind=3 then (some (.tup [.agg [I (orI e10.Mask e11.Mask),I (-1),I e8,I e9],Bo (decide (a1.Order=0))],[])=some r) else (if a1.Kind=5 then (some (.tup [.agg [I (orI e10.Mask e11.Mask),I e10.Order,I e8,I e9],Bo (decide (a1.Order=0))],[])=some r) else (if a1.Kind=4 then (∃ (v15_0:Bool),Zdf v14_0 a1.Order=some (Bo v15_0,[])∧(if v15_0=true then (if e10.Order=a1.Order then (some (.tup [.agg [I (orI e10.Mask e11.Mask),I a1.Order,I e8,I e9],Bo (decide (e11.Order=a1.Order))],[])=some r) else (some (.tup [.agg [I (orI e10.Mask e11.Mask),I a1.Order,I e8,I e9],Bo false],[])=some r)) else (some (.tup [.agg [I (orI e10.Mask e11.Mask),I a1.Order,I e8,I e9],Bo false],[])=some r))) else (some (.tup [.agg [I (orI e10.Mask e11.Mask),I (-1),I e8,I e9],Bo false],[])=some r))))) else (some (.tup [.agg [I (orI e10.Mask e11.Mask),I (-1),I e8,I e9],Bo false],[])=some r))))))))))))))) else (some (.tup [.agg [I 0,I (-1),I (-1),I (-1)],Bo false],[])=some r)))):Zhu a a1 a2 a3=some r:=by
 unfold Zhu
 refine run Zbad rfl ?_
 simp only [Zy,Zdu,Zdf,Ze2,Zc.c_def,mpl,dfs] at h
 try simp only [itb] at h
 try simp only [itf,gS,kk] at h
 rcases h with ⟨q1,v1_0,q2,(⟨q3,(⟨q4,q5,q6,e2,⟨g7,q7⟩,e3,⟨g8,q8⟩,h⟩ | ⟨q4,h⟩)⟩ | ⟨q3,h⟩)⟩ | ⟨q1,(⟨q9,(⟨q10,(⟨q11,h⟩ | ⟨q11,q12,e4,⟨g13,q13⟩,q14,e5,⟨g15,q15⟩,v6_0,q16,v7_0,q17,(⟨q18,(⟨q19,h⟩ | ⟨q19,h⟩)⟩ | ⟨q18,h⟩)⟩)⟩ | ⟨q10,(⟨q20,h⟩ | ⟨q20,q21,e8,⟨g22,q22⟩,q23,e9,⟨g24,q24⟩,q25,e10,⟨g26,q26⟩,q27,e11,⟨g28,q28⟩,v12_0,q29,v13_0,q30,v14_0,q31,(⟨q32,(⟨q33,h⟩ | ⟨q33,(⟨q34,h⟩ | ⟨q34,(⟨q35,h⟩ | ⟨q35,(⟨q36,v15_0,q37,(⟨q38,(⟨q39,h⟩ | ⟨q39,h⟩)⟩ | ⟨q38,h⟩)⟩ | ⟨q36,h⟩)⟩)⟩)⟩)⟩ | ⟨q32,h⟩)⟩)⟩)⟩ | ⟨q9,h⟩)⟩
 all_goals (refine Eq.trans ?_ h;clear h;simp +decide [*,kk,Zxs])
theorem Z10 (q:Zc) (info:List Zh) (stack:List Int) (x:List Zb) (x1:Int) (x2:Int) (r:AV×List Blk) (h:(if x2<x1 then (0≤x2∧(∃ (e1:Zb),x[x2.toNat]?=some e1∧(∃ (v2_0:Zh) (v2_1:Bool),Zhu q e1 info stack=some (.tup [.agg (v2_0.c.map .t),Bo v2_1],[])∧(if v2_1=true then (info.length+1≤68719476736∧(if 0≤v2_0.Right then (0≤(w ((stack.length:Int) - 2))∧((w ((stack.length:Int) - 2)).toNat≤stack.length∧((w ((stack.length:Int) - 2)).toNat+1≤68719476736∧(Ze4 q (info++[v2_0]) ((stack.take ((w ((stack.length:Int) - 2)).toNat))++[x2]) x x1 (w (x2+1))=some r)))) else (if 0≤v2_0.Left then (0≤(w ((stack.length:Int) - 1))∧((w ((stack.length:Int) - 1)).toNat≤stack.length∧((w ((stack.length:Int) - 1)).toNat+1≤68719476736∧(Ze4 q (info++[v2_0]) ((stack.take ((w ((stack.length:Int) - 1)).toNat))++[x2]) x x1 (w (x2+1))=some r)))) else (stack.length+1≤68719476736∧(Ze4 q (info++[v2_0]) (stack++[x2]) x x1 (w (x2+1))=some r))))) else (some (.tup [.t .nil,Bo false],[])=some r))))) else (if (stack.length:Int)=1 then (some (.tup [.own 0,Bo true],[.arr 138 4 true (info.map Zh.c)])=some r) else (some (.tup [.t .nil,Bo false],[])=some r)))):Ze4 q info stack x x1 x2=some r:=by
 unfold Ze4
 rw [EvL_eq Zra.eq_1]
 simp only [Zhu,Zb.c_def,Zc.c_def,Zh.c_def,mpl,dfs] at h
 try simp only [itb] at h
 try simp only [itf,gS,kk] at h
 rcases h with ⟨q1,q2,e1,⟨g3,q3⟩,v2_0,v2_1,q4,(⟨q5,q6,(⟨q7,q8,q9,q10,h⟩ | ⟨q7,(⟨q11,q12,q13,q14,h⟩ | ⟨q11,q15,h⟩)⟩)⟩ | ⟨q5,h⟩)⟩ | ⟨q1,(⟨q16,h⟩ | ⟨q16,h⟩)⟩
 all_goals (refine Eq.trans ?_ h;clear h;simp +decide [*,kk,Ze4,Zxt,Zrb])
theorem Zbd2 (a:Zc) (a1:Plan) (r:AV×List Blk) (h:(∃ (v1_0:Bool),Zc8 a=some (Bo v1_0,[])∧(if v1_0=true then (∃ (v2_0:Bool),Zy (a1.Steps.length:Int) 1 14=some (Bo v2_0,[])∧(if v2_0=true then (Ze4 a ([]:List Zh) ([]:List Int) a1.Steps (a1.Steps.length:Int) 0=some r) else (some (.tup [.t .nil,Bo false],[])=some r))) else (some (.tup [.t .nil,Bo false],[])=some r)))):Ze3 a a1=some r:=by
 unfold Ze3
 refine run Zbae rfl ?_
 simp only [Zc8,Zy,Zc.c_def,mpl,dfs] at h
 try simp only [itb] at h
 try simp only [itf,gS,kk] at h
 rcases h with ⟨v1_0,q1,(⟨q2,v2_0,q3,(⟨q4,h⟩ | ⟨q4,h⟩)⟩ | ⟨q2,h⟩)⟩
 all_goals (refine Eq.trans ?_ h;clear h;simp +decide [*,kk,Zxu,Ze4])
theorem Zbd3 (a:Zc) (a1:Plan) (r:AV×List Blk) (h:((Ze3 a a1=some (.tup [.t .nil,Bo false],[])∧(some (I 0,[])=some r))∨(∃ (v2_0:List Zh),Ze3 a a1=some (.tup [.own 0,Bo true],[.arr 138 4 true (v2_0.map Zh.c)])∧(0≤(w ((v2_0.length:Int) - 1))∧(∃ (e3:Zh),v2_0[(w ((v2_0.length:Int) - 1)).toNat]?=some e3∧(some (I e3.Mask,[])=some r)))))):Zkx a a1=some r:=by
 unfold Zkx
 refine run Zbaf rfl ?_
 simp only [Ze3,Plan.c_def,Zc.c_def,mpl,dfs] at h
 try simp only [itb] at h
 try simp only [itf,gS,kk] at h
 rcases h with ⟨q2,h⟩ | ⟨v2_0,q3,q4,e3,⟨g5,q5⟩,h⟩
 all_goals (refine Eq.trans ?_ h;clear h;simp +decide [*,kk,Zxv])
theorem Zbd4 (a:Zc) (a1:Region) (r:AV×List Blk) (h:(∃ (v1_0:Bool),Zc8 a=some (Bo v1_0,[])∧(if v1_0=true then (∃ (v2_0:Bool),Zkw a a1.Box=some (Bo v2_0,[])∧(if v2_0=true then (∃ (v3_0:Int),Zkx a a1.Plan=some (I v3_0,[])∧(∃ (v4_0:Int),Zb5 a=some (I v4_0,[])∧(if v3_0=v4_0 then (∃ (v5_0:Bool),Zy a1.Percent 100 1000=some (Bo v5_0,[])∧(some (Bo v5_0,[])=some r)) else (some (Bo false,[])=some r)))) else (some (Bo false,[])=some r))) else (some (Bo false,[])=some r)))):Zky a a1=some r:=by
 unfold Zky
 refine run Zbag rfl ?_
 simp only [Zc8,Zkw,Zkx,Zb5,Zy,Box.c_def,Plan.c_def,Zc.c_def,mpl,dfs] at h
 try simp only [itb] at h
 try simp only [itf,gS,kk] at h
 rcases h with ⟨v1_0,q1,(⟨q2,v2_0,q3,(⟨q4,v3_0,q5,v4_0,q6,(⟨q7,v5_0,q8,h⟩ | ⟨q7,h⟩)⟩ | ⟨q4,h⟩)⟩ | ⟨q2,h⟩)⟩
 all_goals (refine Eq.trans ?_ h;clear h;simp +decide [*,kk,Zxw])
theorem Zbd5 (a:Zc) (a1:Int) (r:AV×List Blk) (h:(∃ (v1_0:Bool),Zc8 a=some (Bo v1_0,[])∧(if v1_0=true then (¬ (a.Atoms.length:Int)<0∧(∃ (v2_0:Bool),Zy a1 0 (w ((shlI 1 (a.Atoms.length:Int)) - 1))=some (Bo v2_0,[])∧(some (Bo v2_0,[])=some r))) else (some (Bo false,[])=some r)))):Zhv a a1=some r:=by
 unfold Zhv
 refine run Zbah rfl ?_
 simp only [Zc8,Zy,Zc.c_def,mpl,dfs] at h
 try simp only [itb] at h
 try simp only [itf,gS,kk] at h
 rcases h with ⟨v1_0,q1,(⟨q2,q3,v2_0,q4,h⟩ | ⟨q2,h⟩)⟩
 all_goals (refine Eq.trans ?_ h;clear h;simp +decide [*,kk,Zxx])
theorem Z11 (vars:List Int) (mask:Int) (out:Int) (x:List Atom) (x1:Int) (x2:Int) (r:AV×List Blk) (h:(if x2<x1 then (0≤x2∧(∃ (e1:Atom),x[x2.toNat]?=some e1∧(¬ x2<0∧(if (andI (shrI mask x2) 1)=0 then (∃ (v2_0:List Int),Ze2 e1.Vars vars=some (.own 0,[.arr 3 1 true (v2_0.map ic)])∧(if 0<(v2_0.length:Int) then (Ze5 vars mask (orI out (shlI 1 x2)) x x1 (w (x2+1))=some r) else (Ze5 vars mask out x x1 (w (x2+1))=some r))) else (Ze5 vars mask out x x1 (w (x2+1))=some r))))) else (some (I out,[])=some r))):Ze5 vars mask out x x1 x2=some r:=by
 unfold Ze5
 rw [EvL_eq Zrc.eq_1]
 simp only [Ze2,mpl,dfs] at h
 try simp only [itb] at h
 try simp only [itf,gS,kk] at h
 rcases h with ⟨q1,q2,e1,⟨g3,q3⟩,q4,(⟨q5,v2_0,q6,(⟨q7,h⟩ | ⟨q7,h⟩)⟩ | ⟨q5,h⟩)⟩ | ⟨q1,h⟩
 all_goals (refine Eq.trans ?_ h;clear h;simp +decide [*,kk,Ze5,Zxy,Zrd])
theorem Zbd6 (a:Zc) (a1:Int) (r:AV×List Blk) (h:(∃ (v1_0:List Int),Zdu a a1=some (.own 0,[.arr 3 1 true (v1_0.map ic)])∧(Ze5 v1_0 a1 0 a.Atoms (a.Atoms.length:Int) 0=some r))):Zkz a a1=some r:=by
 unfold Zkz
 refine run Zbai rfl ?_
 simp only [Zdu,Zc.c_def,mpl,dfs] at h
 rcases h with ⟨v1_0,q1,h⟩
 all_goals (refine Eq.trans ?_ h;clear h;simp +decide [*,kk,Zxz,Ze5])
theorem Z12 (q:Zc) (mask:Int) (got:Int) (r:AV×List Blk) (h:(∃ (v1_0:Int),Zkz q got=some (I v1_0,[])∧(if (orI got (andI v1_0 mask))=got then (some (Bo (decide (got=mask)),[])=some r) else (Zhw q mask (orI got (andI v1_0 mask))=some r)))):Zhw q mask got=some r:=by
 unfold Zhw
 rw [EvL_eq Zre.eq_1]
 simp only [Zkz,Zc.c_def,mpl,dfs] at h
 try simp only [itb] at h
 try simp only [itf,gS,kk] at h
 rcases h with ⟨v1_0,q1,(⟨q2,h⟩ | ⟨q2,h⟩)⟩
 all_goals (refine Eq.trans ?_ h;clear h;simp +decide [*,kk,Zhw])
theorem Z13 (a:Zc) (a1:Int) (r:AV×List Blk) (h:(if a1=0 then (some (Bo false,[])=some r) else (Zhw a a1 (andI a1 (w (0 - a1)))=some r))):Zei a a1=some r:=by
 unfold Zei
 refine run Zbaj rfl ?_
 try simp only [itb] at h
 try simp only [itf,gS,kk] at h
 rcases h with ⟨q1,h⟩ | ⟨q1,h⟩
 all_goals (refine Eq.trans ?_ h;clear h;simp +decide [*,kk,Zx0,Zhw])
theorem Zbd7 (a:Zc) (a1:Int) (r:AV×List Blk) (h:(∃ (v1_0:Bool),Zhv a a1=some (Bo v1_0,[])∧(if v1_0=true then (∃ (v2_0:Bool),Zei a a1=some (Bo v2_0,[])∧(some (Bo v2_0,[])=some r)) else (some (Bo false,[])=some r)))):Zhx a a1=some r:=by
 unfold Zhx
 refine run Zbak rfl ?_
 simp only [Zhv,Zei,Zc.c_def,mpl,dfs] at h
 try simp only [itb] at h
 try simp only [itf,gS,kk] at h
 rcases h with ⟨v1_0,q1,(⟨q2,v2_0,q3,h⟩ | ⟨q2,h⟩)⟩
 all_goals (refine Eq.trans ?_ h;clear h;simp +decide [*,kk,Zx1])
theorem Z14 (x:Zd) (r:AV×List Blk) (h:(some (.bsl 1 5,[.box (x.c.map .t),.box [.ptr 0 0,.ptr 0 6,.ptr 0 12,.ptr 0 18,.ptr 0 24]])=some r)):Zej x=some r:=by
 unfold Zej
 refine runM Zbal rfl ?_
 refine Eq.trans ?_ h;clear h;simp +decide [*,kk,Zx2]
theorem Zbd8 (x:Zi) (r:AV×List Blk) (h:(some (.bsl 1 5,[.box (x.c.map .t),.box [.ptr 0 0,.ptr 0 1,.ptr 0 2,.ptr 0 3,.ptr 0 4]])=some r)):Zk0 x=some r:=by
 unfold Zk0
 refine runM Zbam rfl ?_
 refine Eq.trans ?_ h;clear h;simp +decide [*,kk,Zx3]
theorem Zj2 (o:Zi) (x:Int) (x1:Int) (r:AV×List Blk) (h:(if x1<x then (if x1=0 then (∃ (v1_0:Bool),Zy o.Fixed (-99) 99=some (Bo v1_0,[])∧(if v1_0=true then (Zcw o x (w (x1+1))=some r) else (some (Bo false,[])=some r))) else (if x1=1 then (∃ (v2_0:Bool),Zy o.Zj (-99) 99=some (Bo v2_0,[])∧(if v2_0=true then (Zcw o x (w (x1+1))=some r) else (some (Bo false,[])=some r))) else (if x1=2 then (∃ (v3_0:Bool),Zy o.Zk (-99) 99=some (Bo v3_0,[])∧(if v3_0=true then (Zcw o x (w (x1+1))=some r) else (some (Bo false,[])=some r))) else (if x1=3 then (∃ (v4_0:Bool),Zy o.Zm (-99) 99=some (Bo v4_0,[])∧(if v4_0=true then (Zcw o x (w (x1+1))=some r) else (some (Bo false,[])=some r))) else (if x1=4 then (∃ (v5_0:Bool),Zy o.Zl (-99) 99=some (Bo v5_0,[])∧(if v5_0=true then (Zcw o x (w (x1+1))=some r) else (some (Bo false,[])=some r))) else False))))) else (Ze6 o o.Steps (o.Steps.length:Int) 0=some r))):Zcw o x x1=some r:=by
 unfold Zcw
 rw [EvL_eq Zrf.eq_1]
 by_cases q1:x1<x
 ·rw [if_pos q1] at h
  by_cases q2:x1=0
  ·rw [if_pos q2] at h
   subst q2
   obtain ⟨v1_0,q3,h⟩:=h
   unfold Zy at q3
   try simp at q3
   by_cases q4:v1_0=true
   ·rw [if_pos q4] at h
    refine Eq.trans ?_ h
    clear h
    simp +decide [*,Zcw]
   ·rw [if_neg q4] at h
    refine Eq.trans ?_ h
    clear h
    simp +decide [*]
  ·rw [if_neg q2] at h
   replace q2:=eq_false q2
   by_cases q5:x1=1
   ·rw [if_pos q5] at h
    subst q5
    obtain ⟨v2_0,q6,h⟩:=h
    unfold Zy at q6
    try simp at q6
    by_cases q7:v2_0=true
    ·rw [if_pos q7] at h
     refine Eq.trans ?_ h
     clear h
     simp +decide [*,Zcw]
    ·rw [if_neg q7] at h
     refine Eq.trans ?_ h
     clear h
     simp +decide [*]
   ·rw [if_neg q5] at h
    replace q5:=eq_false q5
    by_cases q8:x1=2
    ·rw [if_pos q8] at h
     subst q8
     obtain ⟨v3_0,q9,h⟩:=h
     unfold Zy at q9
     try simp at q9
     by_cases q10:v3_0=true
     ·rw [if_pos q10] at h
      refine Eq.trans ?_ h
      clear h
      simp +decide [*,Zcw]
     ·rw [if_neg q10] at h
      refine Eq.trans ?_ h
      clear h
      simp +decide [*]
    ·rw [if_neg q8] at h
     replace q8:=eq_false q8
     by_cases q11:x1=3
     ·rw [if_pos q11] at h
      subst q11
      obtain ⟨v4_0,q12,h⟩:=h
      unfold Zy at q12
      try simp at q12
      by_cases q13:v4_0=true
      ·rw [if_pos q13] at h
       refine Eq.trans ?_ h
       clear h
       simp +decide [*,Zcw]
      ·rw [if_neg q13] at h
       refine Eq.trans ?_ h
       clear h
       simp +decide [*]
     ·rw [if_neg q11] at h
      replace q11:=eq_false q11
      by_cases q14:x1=4
      ·rw [if_pos q14] at h
       subst q14
       obtain ⟨v5_0,q15,h⟩:=h
       unfold Zy at q15
       try simp at q15
       by_cases q16:v5_0=true
       ·rw [if_pos q16] at h
        refine Eq.trans ?_ h
        clear h
        simp +decide [*,Zcw]
       ·rw [if_neg q16] at h
        refine Eq.trans ?_ h
        clear h
        simp +decide [*]
      ·rw [if_neg q14] at h
       replace q14:=eq_false q14
       cases h
 ·rw [if_neg q1] at h
  refine Eq.trans ?_ h
  clear h
  simp +decide [*,Ze6,Zri]
theorem Z15 (o:Zi) (x:List Zg) (x1:Int) (x2:Int) (r:AV×List Blk) (h:(if x2<x1 then (0≤x2∧(∃ (e1:Zg),x[x2.toNat]?=some e1∧(∃ (v2_0:Bool),Zy e1.Add (-99) 99=some (Bo v2_0,[])∧(if v2_0=true then (∃ (v3_0:Bool),Zy e1.From 1 8192=some (Bo v3_0,[])∧(if v3_0=true then (if 0<x2 then (0≤(w (x2 - 1))∧(∃ (e4:Zg),o.Steps[(w (x2 - 1)).toNat]?=some e4∧(if e1.From≤e4.From then (some (Bo false,[])=some r) else (Ze6 o x x1 (w (x2+1))=some r)))) else (Ze6 o x x1 (w (x2+1))=some r)) else (some (Bo false,[])=some r))) else (some (Bo false,[])=some r))))) else (some (Bo (decide ((o.Steps.length:Int)≤4)),[])=some r))):Ze6 o x x1 x2=some r:=by
 unfold Ze6
 rw [EvL_eq Zrg.eq_1]
 simp only [Zy,mpl,dfs] at h
 try simp only [itb] at h
 try simp only [itf,gS,kk] at h
 rcases h with ⟨q1,q2,e1,⟨g3,q3⟩,v2_0,q4,(⟨q5,v3_0,q6,(⟨q7,(⟨q8,q9,e4,⟨g10,q10⟩,(⟨q11,h⟩ | ⟨q11,h⟩)⟩ | ⟨q8,h⟩)⟩ | ⟨q7,h⟩)⟩ | ⟨q5,h⟩)⟩ | ⟨q1,h⟩
 all_goals (refine Eq.trans ?_ h;clear h;simp +decide [*,kk,Ze6,Zrh])
theorem Zbd9 (a:Zi) (r:AV×List Blk) (h:(Zk0 a=some (.bsl 1 5,[.box (a.c.map .t),.box [.ptr 0 0,.ptr 0 1,.ptr 0 2,.ptr 0 3,.ptr 0 4]])∧(Zcw a 5 0=some r))):Zbp a=some r:=by
 unfold Zbp
 refine run Zban rfl ?_
 simp only [Zk0,Zi.c_def,mpl,dfs] at h
 rcases h with ⟨q1,h⟩
 all_goals (refine Eq.trans ?_ h;clear h;simp +decide [*,kk,Zx4,Zcw])
theorem Z16 (out:List (List Int)) (a:Int) (r:AV×List Blk) (h:(if a≤7 then (Ze7 out a 0=some r) else (some (.own 0,[.arr 38 1 true (out.map isc)])=some r))):Zf7 out a=some r:=by
 unfold Zf7
 rw [EvL_eq Zk1.eq_1]
 try simp only [itb] at h
 try simp only [itf,gS,kk] at h
 rcases h with ⟨q1,h⟩ | ⟨q1,h⟩
 all_goals (refine Eq.trans ?_ h;clear h;simp +decide [*,kk,Ze7,Zk2])
theorem Z17 (out:List (List Int)) (a:Int) (b:Int) (r:AV×List Blk) (h:(if b≤7 then (Zf8 out a b 0=some r) else (Zf7 out (w (a+1))=some r))):Ze7 out a b=some r:=by
 unfold Ze7
 rw [EvL_eq Zob.eq_1]
 try simp only [itb] at h
 try simp only [itf,gS,kk] at h
 rcases h with ⟨q1,h⟩ | ⟨q1,h⟩
 all_goals (refine Eq.trans ?_ h;clear h;simp +decide [*,kk,Zf8,Zf7,Zoc])
theorem Z18 (out:List (List Int)) (a:Int) (b:Int) (c:Int) (r:AV×List Blk) (h:(if c≤7 then (out.length+1≤68719476736∧(Zf8 (out++[[a,b,c]]) a b (w (c+1))=some r)) else (Ze7 out a (w (b+1))=some r))):Zf8 out a b c=some r:=by
 unfold Zf8
 rw [EvL_eq Zrj.eq_1]
 try simp only [itb] at h
 try simp only [itf,gS,kk] at h
 rcases h with ⟨q1,q2,h⟩ | ⟨q1,h⟩
 all_goals (refine Eq.trans ?_ h;clear h;simp +decide [*,kk,Zf8,Ze7,Zrk])
theorem Zbea (r:AV×List Blk) (h:(Zf7 ([]:List (List Int)) 0=some r)):Zcm=some r:=by
 unfold Zcm
 refine run Zbao rfl ?_
 refine Eq.trans ?_ h;clear h;simp +decide [*,kk,Zx5,Zf7]
theorem Zbeb (a:List Int) (r:AV×List Blk) (h:(a.length≤68719476736∧(some (.own 0,[.arr 3 1 true (a.map ic)])=some r))):Zdg a=some r:=by
 unfold Zdg
 refine run Zbap rfl ?_
 rcases h with ⟨q1,h⟩
 all_goals (refine Eq.trans ?_ h;clear h;simp +decide [*,kk,Zx6])
theorem Zbec (a:Int) (r:AV×List Blk) (h:(∃ (v1_0:Bool),Zy a 0 7=some (Bo v1_0,[])∧(if v1_0=true then (if a=0 then (some (I 0,[])=some r) else (¬ (w (2*(w (a - 1))))<0∧(some (I (shlI 1 (w (2*(w (a - 1))))),[])=some r))) else (some (I (-1),[])=some r)))):Ze8 a=some r:=by
 unfold Ze8
 refine run Zbaq rfl ?_
 simp only [Zy,mpl,dfs] at h
 try simp only [itb] at h
 try simp only [itf,gS,kk] at h
 rcases h with ⟨v1_0,q1,(⟨q2,(⟨q3,h⟩ | ⟨q3,q4,h⟩)⟩ | ⟨q2,h⟩)⟩
 all_goals (refine Eq.trans ?_ h;clear h;simp +decide [*,kk,Zx7])
theorem Z19 (left:Int) (right:Int) (n:Int) (x:List Zg) (x1:Int) (x2:Int) (r:AV×List Blk) (h:(if x2<x1 then (0≤x2∧(∃ (e1:Zg),x[x2.toNat]?=some e1∧(if e1.From≤(w (left+right)) then (Zf9 left right (w (n+e1.Add)) x x1 (w (x2+1))=some r) else (Zf9 left right n x x1 (w (x2+1))=some r)))) else (some (I n,[])=some r))):Zf9 left right n x x1 x2=some r:=by
 unfold Zf9
 rw [EvL_eq Zrl.eq_1]
 try simp only [itb] at h
 try simp only [itf,gS,kk] at h
 rcases h with ⟨q1,q2,e1,⟨g3,q3⟩,(⟨q4,h⟩ | ⟨q4,h⟩)⟩ | ⟨q1,h⟩
 all_goals (refine Eq.trans ?_ h;clear h;simp +decide [*,kk,Zf9,Zx8,Zrm])
theorem Zbed (a:Zi) (a1:Int) (a2:Int) (a3:Int) (r:AV×List Blk) (h:(Zf9 a1 a2 (w ((w ((w ((w (a.Fixed+(w (a.Zj*a1))))+(w (a.Zk*a2))))+(w (a.Zm*a3))))+(w ((w (a.Zl*a1))*a2)))) a.Steps (a.Steps.length:Int) 0=some r)):Zhy a a1 a2 a3=some r:=by
 unfold Zhy
 refine run Zbar rfl ?_
 refine Eq.trans ?_ h;clear h;simp +decide [*,kk,Zx9,Zf9]
theorem Zbee (a:Zi) (a1:List Int) (r:AV×List Blk) (h:(∃ (e1:Int),a1[0]?=some e1∧(∃ (v2_0:Int),Ze8 e1=some (I v2_0,[])∧(∃ (e3:Int),a1[1]?=some e3∧(∃ (v4_0:Int),Ze8 e3=some (I v4_0,[])∧(∃ (e5:Int),a1[2]?=some e5∧(∃ (v6_0:Int),Ze8 e5=some (I v6_0,[])∧(∃ (v7_0:Int),Zhy a v2_0 v4_0 v6_0=some (I v7_0,[])∧(some (I v7_0,[])=some r))))))))):Zcd a a1=some r:=by
 unfold Zcd
 refine run Zbas rfl ?_
 simp only [Ze8,Zhy,Zi.c_def,mpl,dfs] at h
 try simp only [itb] at h
 try simp only [itf,gS,kk] at h
 rcases h with ⟨e1,⟨g1,q1⟩,v2_0,q2,e3,⟨g3,q3⟩,v4_0,q4,e5,⟨g5,q5⟩,v6_0,q6,v7_0,q7,h⟩
 all_goals (refine Eq.trans ?_ h;clear h;simp +decide [*,kk,Zya])
theorem Z2a (o:Zi) (x:List (List Int)) (x1:Int) (x2:Int) (r:AV×List Blk) (h:(if x2<x1 then (0≤x2∧(∃ (e1:List Int),x[x2.toNat]?=some e1∧(Zcx o x e1 x1 x2 (e1.length:Int) 0=some r))) else (some (.tup [.t .nil,.t .nil,Bo false],[])=some r))):Zek o x x1 x2=some r:=by
 unfold Zek
 rw [EvL_eq Zod.eq_1]
 try simp only [itb] at h
 try simp only [itf,gS,kk] at h
 rcases h with ⟨q1,q2,e1,⟨g3,q3⟩,h⟩ | ⟨q1,h⟩
 all_goals (refine Eq.trans ?_ h;clear h;simp +decide [*,kk,Zcx,Zoe])
theorem Zuh (o:Zi) (x:List (List Int)) (t:List Int) (x1:Int) (x2:Int) (x3:Int) (x4:Int) (r:AV×List Blk) (h:(if x4<x3 then (0≤x4∧(∃ (e1:Int),t[x4.toNat]?=some e1∧(if e1=7 then (Zcx o x t x1 x2 x3 (w (x4+1))=some r) else (∃ (v2_0:List Int),Zdg t=some (.own 0,[.arr 3 1 true (v2_0.map ic)])∧(∃ (e3:Int),v2_0[x4.toNat]?=some e3∧(∃ (v4_0:Int),Zcd o (v2_0.set x4.toNat (w (e3+1)))=some (I v4_0,[])∧(∃ (v5_0:Int),Zcd o t=some (I v5_0,[])∧(if v4_0<v5_0 then (some (.tup [L 1 (t.map ic),.own 0,Bo true],[.arr 3 1 true ((v2_0.set x4.toNat (w (e3+1))).map ic)])=some r) else (Zcx o x t x1 x2 x3 (w (x4+1))=some r))))))))) else (Zek o x x1 (w (x2+1))=some r))):Zcx o x t x1 x2 x3 x4=some r:=by
 unfold Zcx
 rw [EvL_eq Zrn.eq_1]
 simp only [Zdg,Zcd,Zi.c_def,mpl,dfs] at h
 try simp only [itb] at h
 try simp only [itf,gS,kk] at h
 rcases h with ⟨q1,q2,e1,⟨g3,q3⟩,(⟨q4,h⟩ | ⟨q4,v2_0,q5,e3,⟨g6,q6⟩,v4_0,q7,v5_0,q8,(⟨q9,h⟩ | ⟨q9,h⟩)⟩)⟩ | ⟨q1,h⟩
 all_goals (refine Eq.trans ?_ h;clear h;simp +decide [*,kk,Zcx,Zyb,Zek,Zro])
theorem Zbef (a:Zi) (r:AV×List Blk) (h:(∃ (v1_0:Bool),Zbp a=some (Bo v1_0,[])∧(if v1_0=true then (∃ (v2_0:List (List Int)),Zcm=some (.own 0,[.arr 38 1 true (v2_0.map isc)])∧(Zek a v2_0 (v2_0.length:Int) 0=some r)) else (some (.tup [.t .nil,.t .nil,Bo false],[])=some r)))):Zbk a=some r:=by
 unfold Zbk
 refine run Zbat rfl ?_
 simp only [Zbp,Zcm,Zi.c_def,mpl,dfs] at h
 try simp only [itb] at h
 try simp only [itf,gS,kk] at h
 rcases h with ⟨v1_0,q1,(⟨q2,v2_0,q3,h⟩ | ⟨q2,h⟩)⟩
 all_goals (refine Eq.trans ?_ h;clear h;simp +decide [*,kk,Zyc,Zek])
theorem Zj3 (x:Zd) (x1:Int) (x2:Int) (r:AV×List Blk) (h:(if x2<x1 then (if x2=0 then (∃ (v1_0:Bool),Zbp x.Scan=some (Bo v1_0,[])∧(if v1_0=true then ((Zbk x.Scan=some (.tup [.t .nil,.t .nil,Bo false],[])∧(∃ (v3_0:List (List Int)),Zcm=some (.own 0,[.arr 38 1 true (v3_0.map isc)])∧(Ze9 x v3_0 (w (1+x2)) x1 x2 (v3_0.length:Int) 0=some r)))∨(∃ (v4_0:List Int) (v4_1:List Int),Zbk x.Scan=some (.tup [L 1 (v4_1.map ic),.own 0,Bo true],[.arr 3 1 true (v4_0.map ic)])∧(some (.tup [I (w (1+x2)),L 1 (v4_1.map ic),.own 0],[.arr 3 1 true (v4_0.map ic)])=some r))) else (some (.tup [I (w (1+x2)),.t .nil,.t .nil],[])=some r))) else (if x2=1 then (∃ (v5_0:Bool),Zbp x.Sort_=some (Bo v5_0,[])∧(if v5_0=true then ((Zbk x.Sort_=some (.tup [.t .nil,.t .nil,Bo false],[])∧(∃ (v7_0:List (List Int)),Zcm=some (.own 0,[.arr 38 1 true (v7_0.map isc)])∧(Zfa x v7_0 (w (1+x2)) x1 x2 (v7_0.length:Int) 0=some r)))∨(∃ (v8_0:List Int) (v8_1:List Int),Zbk x.Sort_=some (.tup [L 1 (v8_1.map ic),.own 0,Bo true],[.arr 3 1 true (v8_0.map ic)])∧(some (.tup [I (w (1+x2)),L 1 (v8_1.map ic),.own 0],[.arr 3 1 true (v8_0.map ic)])=some r))) else (some (.tup [I (w (1+x2)),.t .nil,.t .nil],[])=some r))) else (if x2=2 then (∃ (v9_0:Bool),Zbp x.Hash=some (Bo v9_0,[])∧(if v9_0=true then ((Zbk x.Hash=some (.tup [.t .nil,.t .nil,Bo false],[])∧(∃ (v11_0:List (List Int)),Zcm=some (.own 0,[.arr 38 1 true (v11_0.map isc)])∧(Zfb x v11_0 (w (1+x2)) x1 x2 (v11_0.length:Int) 0=some r)))∨(∃ (v12_0:List Int) (v12_1:List Int),Zbk x.Hash=some (.tup [L 1 (v12_1.map ic),.own 0,Bo true],[.arr 3 1 true (v12_0.map ic)])∧(some (.tup [I (w (1+x2)),L 1 (v12_1.map ic),.own 0],[.arr 3 1 true (v12_0.map ic)])=some r))) else (some (.tup [I (w (1+x2)),.t .nil,.t .nil],[])=some r))) else (if x2=3 then (∃ (v13_0:Bool),Zbp x.Merge=some (Bo v13_0,[])∧(if v13_0=true then ((Zbk x.Merge=some (.tup [.t .nil,.t .nil,Bo false],[])∧(∃ (v15_0:List (List Int)),Zcm=some (.own 0,[.arr 38 1 true (v15_0.map isc)])∧(Zfc x v15_0 (w (1+x2)) x1 x2 (v15_0.length:Int) 0=some r)))∨(∃ (v16_0:List Int) (v16_1:List Int),Zbk x.Merge=some (.tup [L 1 (v16_1.map ic),.own 0,Bo true],[.arr 3 1 true (v16_0.map ic)])∧(some (.tup [I (w (1+x2)),L 1 (v16_1.map ic),.own 0],[.arr 3 1 true (v16_0.map ic)])=some r))) else (some (.tup [I (w (1+x2)),.t .nil,.t .nil],[])=some r))) else (if x2=4 then (∃ (v17_0:Bool),Zbp x.Nested=some (Bo v17_0,[])∧(if v17_0=true then ((Zbk x.Nested=some (.tup [.t .nil,.t .nil,Bo false],[])∧(∃ (v19_0:List (List Int)),Zcm=some (.own 0,[.arr 38 1 true (v19_0.map isc)])∧(Zfd x v19_0 (w (1+x2)) x1 x2 (v19_0.length:Int) 0=some r)))∨(∃ (v20_0:List Int) (v20_1:List Int),Zbk x.Nested=some (.tup [L 1 (v20_1.map ic),.own 0,Bo true],[.arr 3 1 true (v20_0.map ic)])∧(some (.tup [I (w (1+x2)),L 1 (v20_1.map ic),.own 0],[.arr 3 1 true (v20_0.map ic)])=some r))) else (some (.tup [I (w (1+x2)),.t .nil,.t .nil],[])=some r))) else False))))) else (some (.tup [I 0,.t .nil,.t .nil],[])=some r))):Z4 x x1 x2=some r:=by
 unfold Z4
 rw [EvL_eq Zga.eq_1]
 by_cases q1:x2<x1
 ·rw [if_pos q1] at h
  by_cases q2:x2=0
  ·rw [if_pos q2] at h
   subst q2
   obtain ⟨v1_0,q3,h⟩:=h
   unfold Zbp at q3
   try simp at q3
   by_cases q4:v1_0=true
   ·rw [if_pos q4] at h
    rcases h with h | h
    ·
     obtain ⟨q5,h⟩:=h
     unfold Zbk at q5
     try simp at q5
     obtain ⟨v3_0,q6,h⟩:=h
     unfold Zcm at q6
     try simp at q6
     refine Eq.trans ?_ h
     clear h
     simp +decide [*,Ze9]
    ·
     obtain ⟨v4_0,v4_1,q7,h⟩:=h
     unfold Zbk at q7
     try simp at q7
     refine Eq.trans ?_ h
     clear h
     simp +decide [*]
   ·rw [if_neg q4] at h
    refine Eq.trans ?_ h
    clear h
    simp +decide [*]
  ·rw [if_neg q2] at h
   replace q2:=eq_false q2
   by_cases q8:x2=1
   ·rw [if_pos q8] at h
    subst q8
    obtain ⟨v5_0,q9,h⟩:=h
    unfold Zbp at q9
    try simp at q9
    by_cases q10:v5_0=true
    ·rw [if_pos q10] at h
     rcases h with h | h
     ·
      obtain ⟨q11,h⟩:=h
      unfold Zbk at q11
      try simp at q11
      obtain ⟨v7_0,q12,h⟩:=h
      unfold Zcm at q12
      try simp at q12
      refine Eq.trans ?_ h
      clear h
      simp +decide [*,Zfa]
     ·
      obtain ⟨v8_0,v8_1,q13,h⟩:=h
      unfold Zbk at q13
      try simp at q13
      refine Eq.trans ?_ h
      clear h
      simp +decide [*]
    ·rw [if_neg q10] at h
     refine Eq.trans ?_ h
     clear h
     simp +decide [*]
   ·rw [if_neg q8] at h
    replace q8:=eq_false q8
    by_cases q14:x2=2
    ·rw [if_pos q14] at h
     subst q14
     obtain ⟨v9_0,q15,h⟩:=h
     unfold Zbp at q15
     try simp at q15
     by_cases q16:v9_0=true
     ·rw [if_pos q16] at h
      rcases h with h | h
      ·
       obtain ⟨q17,h⟩:=h
       unfold Zbk at q17
       try simp at q17
       obtain ⟨v11_0,q18,h⟩:=h
       unfold Zcm at q18
       try simp at q18
       refine Eq.trans ?_ h
       clear h
       simp +decide [*,Zfb]
      ·
       obtain ⟨v12_0,v12_1,q19,h⟩:=h
       unfold Zbk at q19
       try simp at q19
       refine Eq.trans ?_ h
       clear h
       simp +decide [*]
     ·rw [if_neg q16] at h
      refine Eq.trans ?_ h
      clear h
      simp +decide [*]
    ·rw [if_neg q14] at h
     replace q14:=eq_false q14
     by_cases q20:x2=3
     ·rw [if_pos q20] at h
      subst q20
      obtain ⟨v13_0,q21,h⟩:=h
      unfold Zbp at q21
      try simp at q21
      by_cases q22:v13_0=true
      ·rw [if_pos q22] at h
       rcases h with h | h
       ·
        obtain ⟨q23,h⟩:=h
        unfold Zbk at q23
        try simp at q23
        obtain ⟨v15_0,q24,h⟩:=h
        unfold Zcm at q24
        try simp at q24
        refine Eq.trans ?_ h
        clear h
        simp +decide [*,Zfc]
       ·
        obtain ⟨v16_0,v16_1,q25,h⟩:=h
        unfold Zbk at q25
        try simp at q25
        refine Eq.trans ?_ h
        clear h
        simp +decide [*]
      ·rw [if_neg q22] at h
       refine Eq.trans ?_ h
       clear h
       simp +decide [*]
     ·rw [if_neg q20] at h
      replace q20:=eq_false q20
      by_cases q26:x2=4
      ·rw [if_pos q26] at h
       subst q26
       obtain ⟨v17_0,q27,h⟩:=h
       unfold Zbp at q27
       try simp at q27
       by_cases q28:v17_0=true
       ·rw [if_pos q28] at h
        rcases h with h | h
        ·
         obtain ⟨q29,h⟩:=h
         unfold Zbk at q29
         try simp at q29
         obtain ⟨v19_0,q30,h⟩:=h
         unfold Zcm at q30
         try simp at q30
         refine Eq.trans ?_ h
         clear h
         simp +decide [*,Zfd]
        ·
         obtain ⟨v20_0,v20_1,q31,h⟩:=h
         unfold Zbk at q31
         try simp at q31
         refine Eq.trans ?_ h
         clear h
         simp +decide [*]
       ·rw [if_neg q28] at h
        refine Eq.trans ?_ h
        clear h
        simp +decide [*]
      ·rw [if_neg q26] at h
       replace q26:=eq_false q26
       cases h
 ·rw [if_neg q1] at h
  refine Eq.trans ?_ h
  clear h
  simp +decide [*,Zgb]
theorem Z2b (o:Zd) (x:List (List Int)) (kind:Int) (x1:Int) (x2:Int) (x3:Int) (x4:Int) (r:AV×List Blk) (h:(if x4<x3 then (0≤x4∧(∃ (e1:List Int),x[x4.toNat]?=some e1∧(∃ (v2_0:Int),Zcd o.Scan e1=some (I v2_0,[])∧(if v2_0<1 then (some (.tup [I kind,L 1 (e1.map ic),.t .nil],[])=some r) else (Ze9 o x kind x1 x2 x3 (w (x4+1))=some r))))) else (Z4 o x1 (w (x2+1))=some r))):Ze9 o x kind x1 x2 x3 x4=some r:=by
 unfold Ze9
 rw [EvL_eq Zdv.eq_1]
 simp only [Zcd,Zi.c_def,mpl,dfs] at h
 try simp only [itb] at h
 try simp only [itf,gS,kk] at h
 rcases h with ⟨q1,q2,e1,⟨g3,q3⟩,v2_0,q4,(⟨q5,h⟩ | ⟨q5,h⟩)⟩ | ⟨q1,h⟩
 all_goals (refine Eq.trans ?_ h;clear h;simp +decide [*,kk,Ze9,Z4,Zdw])
theorem Z2c (o:Zd) (x:List (List Int)) (kind:Int) (x1:Int) (x2:Int) (x3:Int) (x4:Int) (r:AV×List Blk) (h:(if x4<x3 then (0≤x4∧(∃ (e1:List Int),x[x4.toNat]?=some e1∧(∃ (v2_0:Int),Zcd o.Sort_ e1=some (I v2_0,[])∧(if v2_0<1 then (some (.tup [I kind,L 1 (e1.map ic),.t .nil],[])=some r) else (Zfa o x kind x1 x2 x3 (w (x4+1))=some r))))) else (Z4 o x1 (w (x2+1))=some r))):Zfa o x kind x1 x2 x3 x4=some r:=by
 unfold Zfa
 rw [EvL_eq Zdv.eq_1]
 simp only [Zcd,Zi.c_def,mpl,dfs] at h
 try simp only [itb] at h
 try simp only [itf,gS,kk] at h
 rcases h with ⟨q1,q2,e1,⟨g3,q3⟩,v2_0,q4,(⟨q5,h⟩ | ⟨q5,h⟩)⟩ | ⟨q1,h⟩
 all_goals (refine Eq.trans ?_ h;clear h;simp +decide [*,kk,Zfa,Z4,Zdw])
theorem Z2d (o:Zd) (x:List (List Int)) (kind:Int) (x1:Int) (x2:Int) (x3:Int) (x4:Int) (r:AV×List Blk) (h:(if x4<x3 then (0≤x4∧(∃ (e1:List Int),x[x4.toNat]?=some e1∧(∃ (v2_0:Int),Zcd o.Hash e1=some (I v2_0,[])∧(if v2_0<1 then (some (.tup [I kind,L 1 (e1.map ic),.t .nil],[])=some r) else (Zfb o x kind x1 x2 x3 (w (x4+1))=some r))))) else (Z4 o x1 (w (x2+1))=some r))):Zfb o x kind x1 x2 x3 x4=some r:=by
 unfold Zfb
 rw [EvL_eq Zdv.eq_1]
 simp only [Zcd,Zi.c_def,mpl,dfs] at h
 try simp only [itb] at h
 try simp only [itf,gS,kk] at h
 rcases h with ⟨q1,q2,e1,⟨g3,q3⟩,v2_0,q4,(⟨q5,h⟩ | ⟨q5,h⟩)⟩ | ⟨q1,h⟩
 all_goals (refine Eq.trans ?_ h;clear h;simp +decide [*,kk,Zfb,Z4,Zdw])
theorem Z2e (o:Zd) (x:List (List Int)) (kind:Int) (x1:Int) (x2:Int) (x3:Int) (x4:Int) (r:AV×List Blk) (h:(if x4<x3 then (0≤x4∧(∃ (e1:List Int),x[x4.toNat]?=some e1∧(∃ (v2_0:Int),Zcd o.Merge e1=some (I v2_0,[])∧(if v2_0<1 then (some (.tup [I kind,L 1 (e1.map ic),.t .nil],[])=some r) else (Zfc o x kind x1 x2 x3 (w (x4+1))=some r))))) else (Z4 o x1 (w (x2+1))=some r))):Zfc o x kind x1 x2 x3 x4=some r:=by
 unfold Zfc
 rw [EvL_eq Zdv.eq_1]
 simp only [Zcd,Zi.c_def,mpl,dfs] at h
 try simp only [itb] at h
 try simp only [itf,gS,kk] at h
 rcases h with ⟨q1,q2,e1,⟨g3,q3⟩,v2_0,q4,(⟨q5,h⟩ | ⟨q5,h⟩)⟩ | ⟨q1,h⟩
 all_goals (refine Eq.trans ?_ h;clear h;simp +decide [*,kk,Zfc,Z4,Zdw])
theorem Z2f (o:Zd) (x:List (List Int)) (kind:Int) (x1:Int) (x2:Int) (x3:Int) (x4:Int) (r:AV×List Blk) (h:(if x4<x3 then (0≤x4∧(∃ (e1:List Int),x[x4.toNat]?=some e1∧(∃ (v2_0:Int),Zcd o.Nested e1=some (I v2_0,[])∧(if v2_0<1 then (some (.tup [I kind,L 1 (e1.map ic),.t .nil],[])=some r) else (Zfd o x kind x1 x2 x3 (w (x4+1))=some r))))) else (Z4 o x1 (w (x2+1))=some r))):Zfd o x kind x1 x2 x3 x4=some r:=by
 unfold Zfd
 rw [EvL_eq Zdv.eq_1]
 simp only [Zcd,Zi.c_def,mpl,dfs] at h
 try simp only [itb] at h
 try simp only [itf,gS,kk] at h
 rcases h with ⟨q1,q2,e1,⟨g3,q3⟩,v2_0,q4,(⟨q5,h⟩ | ⟨q5,h⟩)⟩ | ⟨q1,h⟩
 all_goals (refine Eq.trans ?_ h;clear h;simp +decide [*,kk,Zfd,Z4,Zdw])
theorem Zbeg (a:Zd) (r:AV×List Blk) (h:(Zej a=some (.bsl 1 5,[.box (a.c.map .t),.box [.ptr 0 0,.ptr 0 6,.ptr 0 12,.ptr 0 18,.ptr 0 24]])∧(Z4 a 5 0=some r))):Zhz a=some r:=by
 unfold Zhz
 refine run Zbau rfl ?_
 simp only [Zej,Zd.c_def,Zi.c_def,mpl,dfs] at h
 rcases h with ⟨q1,h⟩
 all_goals (refine Eq.trans ?_ h;clear h;simp +decide [*,kk,Zyd,Z4])
theorem Zbeh (a:Zd) (r:AV×List Blk) (h:((∃ (v1_0:List Int) (v1_1:Int) (v1_2:List Int),Zhz a=some (.tup [I v1_1,L 1 (v1_2.map ic),.own 0],[.arr 3 1 true (v1_0.map ic)])∧(some (Bo (decide (v1_1=0)),[])=some r))∨(∃ (v2_0:Int),Zhz a=some (.tup [I v2_0,.t .nil,.t .nil],[])∧(some (Bo (decide (v2_0=0)),[])=some r))∨(∃ (v3_0:Int) (v3_1:List Int),Zhz a=some (.tup [I v3_0,L 1 (v3_1.map ic),.t .nil],[])∧(some (Bo (decide (v3_0=0)),[])=some r)))):Zh0 a=some r:=by
 unfold Zh0
 refine run Zbav rfl ?_
 simp only [Zhz,Zd.c_def,Zi.c_def,mpl,dfs] at h
 rcases h with ⟨v1_0,v1_1,v1_2,q2,h⟩ | ⟨v2_0,q3,h⟩ | ⟨v3_0,v3_1,q4,h⟩
 all_goals (refine Eq.trans ?_ h;clear h;simp +decide [*,kk,Zye])
theorem Zbei (a:Zd) (a1:Zc) (a2:Region) (r:AV×List Blk) (h:(∃ (v1_0:Bool),Zky a1 a2=some (Bo v1_0,[])∧(if v1_0=true then (∃ (v2_0:Int),Zb5 a1=some (I v2_0,[])∧(∃ (v3_0:Bool),Zhx a1 v2_0=some (Bo v3_0,[])∧(if v3_0=true then (∃ (v4_0:Bool),Zh0 a=some (Bo v4_0,[])∧(some (Bo v4_0,[])=some r)) else (some (Bo false,[])=some r)))) else (some (Bo false,[])=some r)))):Zk3 a a1 a2=some r:=by
 unfold Zk3
 refine run Zbaw rfl ?_
 simp only [Zky,Zb5,Zhx,Zh0,Box.c_def,Zd.c_def,Zi.c_def,Plan.c_def,Zc.c_def,Region.c_def,mpl,dfs] at h
 try simp only [itb] at h
 try simp only [itf,gS,kk] at h
 rcases h with ⟨v1_0,q1,(⟨q2,v2_0,q3,v3_0,q4,(⟨q5,v4_0,q6,h⟩ | ⟨q5,h⟩)⟩ | ⟨q2,h⟩)⟩
 all_goals (refine Eq.trans ?_ h;clear h;simp +decide [*,kk,Zyf])
theorem Zui (out:List Int) (location:List Int) (x:List Int) (x1:Int) (x2:Int) (r:AV×List Blk) (h:(if x2<x1 then (0≤x2∧(∃ (e1:Int),x[x2.toNat]?=some e1∧(∃ (v2_0:Int),Ze8 e1=some (I v2_0,[])∧(out.length+1≤68719476736∧(Zff (out++[v2_0]) location x x1 (w (x2+1))=some r))))) else (∃ (v3_0:Bool),Zf3 location=some (Bo v3_0,[])∧(if v3_0=true then (some (.own 0,[.arr 3 1 true (out.map ic)])=some r) else (some (.t .nil,[])=some r))))):Zff out location x x1 x2=some r:=by
 unfold Zff
 rw [EvL_eq Zrp.eq_1]
 simp only [Ze8,Zf3,mpl,dfs] at h
 try simp only [itb] at h
 try simp only [itf,gS,kk] at h
 rcases h with ⟨q1,q2,e1,⟨g3,q3⟩,v2_0,q4,q5,h⟩ | ⟨q1,v3_0,q6,(⟨q7,h⟩ | ⟨q7,h⟩)⟩
 all_goals (refine Eq.trans ?_ h;clear h;simp +decide [*,kk,Zff,Zrq])
theorem Z2g (a:List Int) (r:AV×List Blk) (h:(Zff ([]:List Int) a a (a.length:Int) 0=some r)):Zfe a=some r:=by
 unfold Zfe
 refine run Zbax rfl ?_
 refine Eq.trans ?_ h;clear h;simp +decide [*,kk,Zyg,Zff]
theorem Z2h (q:Zc) (sizes:List Int) (x:List Int) (x1:Int) (x2:Int) (r:AV×List Blk) (h:(if x2<x1 then (0≤x2∧(∃ (e1:Int),x[x2.toNat]?=some e1∧(∃ (v2_0:Bool),Zy e1 0 4096=some (Bo v2_0,[])∧(if v2_0=true then (Zh2 q sizes x x1 (w (x2+1))=some r) else (some (Bo false,[])=some r))))) else (∃ (v3_0:Bool),Zc8 q=some (Bo v3_0,[])∧(if v3_0=true then (∃ (v4_0:Int),Zb5 q=some (I v4_0,[])∧(some (Bo (decide ((sizes.length:Int)=(w (v4_0+1)))),[])=some r)) else (some (Bo false,[])=some r))))):Zh2 q sizes x x1 x2=some r:=by
 unfold Zh2
 rw [EvL_eq Zrr.eq_1]
 simp only [Zy,Zc8,Zb5,Zc.c_def,mpl,dfs] at h
 try simp only [itb] at h
 try simp only [itf,gS,kk] at h
 rcases h with ⟨q1,q2,e1,⟨g3,q3⟩,v2_0,q4,(⟨q5,h⟩ | ⟨q5,h⟩)⟩ | ⟨q1,v3_0,q6,(⟨q7,v4_0,q8,h⟩ | ⟨q7,h⟩)⟩
 all_goals (refine Eq.trans ?_ h;clear h;simp +decide [*,kk,Zh2,Zrs])
theorem Zbej (a:Zc) (a1:List Int) (r:AV×List Blk) (h:(Zh2 a a1 a1 (a1.length:Int) 0=some r)):Zh1 a a1=some r:=by
 unfold Zh1
 refine run Zbay rfl ?_
 refine Eq.trans ?_ h;clear h;simp +decide [*,kk,Zyh,Zh2]
theorem Zbek (a:Zi) (a1:Int) (a2:Int) (a3:Int) (r:AV×List Blk) (h:(∃ (v1_0:Bool),Zbp a=some (Bo v1_0,[])∧(if v1_0=true then (∃ (v2_0:Bool),Zy a1 0 4096=some (Bo v2_0,[])∧(if v2_0=true then (∃ (v3_0:Bool),Zy a2 0 4096=some (Bo v3_0,[])∧(if v3_0=true then (∃ (v4_0:Bool),Zy a3 0 4096=some (Bo v4_0,[])∧(if v4_0=true then (∃ (v5_0:Int),Zhy a a1 a2 a3=some (I v5_0,[])∧(some (I v5_0,[])=some r)) else (some (I 0,[])=some r))) else (some (I 0,[])=some r))) else (some (I 0,[])=some r))) else (some (I 0,[])=some r)))):Zbl a a1 a2 a3=some r:=by
 unfold Zbl
 refine run Zbaz rfl ?_
 simp only [Zbp,Zy,Zhy,Zi.c_def,mpl,dfs] at h
 try simp only [itb] at h
 try simp only [itf,gS,kk] at h
 rcases h with ⟨v1_0,q1,(⟨q2,v2_0,q3,(⟨q4,v3_0,q5,(⟨q6,v4_0,q7,(⟨q8,v5_0,q9,h⟩ | ⟨q8,h⟩)⟩ | ⟨q6,h⟩)⟩ | ⟨q4,h⟩)⟩ | ⟨q2,h⟩)⟩
 all_goals (refine Eq.trans ?_ h;clear h;simp +decide [*,kk,Zyi])
end Go.Proofs.YtbapkgocloaaeaaGreat
