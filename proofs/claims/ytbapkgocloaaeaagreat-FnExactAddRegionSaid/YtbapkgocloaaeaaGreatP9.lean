/-
  Parts of the proofs for this seat: D2 T1 T2 T3 T4 G1 G2.
-/
import Derived.Test.YtbapkgocloaaeaaGreatP8
set_option linter.unusedSimpArgs false
set_option linter.unusedVariables false
set_option maxRecDepth 100000
set_option maxHeartbeats 4000000
namespace Go.Proofs.YtbapkgocloaaeaaGreat
open Go.AM
def Zl3:MCode:=.we [.m 28 7,.fa 29 1 6,.l 30 29,.ll 31 30,.b 32 .lss 28 31] [1,3,4,5,6,7,32] 32 2 (.seq (.block 3 (.drw [.fa 35 2 6,.l 36 35,.ln 37 2 1,.fa 38 1 6,.l 39 38,.m 40 7,.ia 41 1 39 40,.l 42 41,.m 43 4,.m 44 5,.ia 45 1 43 44,.l 46 45,.fa 47 1 6,.l 48 47,.m 49 7,.ia 50 1 48 49,.l 51 50,.b 52 .sub 46 51,.cl 53 207 [37,42,52],.o 54 (.bslice 38 1 1 [.lst 1 []] [(0,.s 53)]),.o 55 (.append 38 1 24 true (.s 36) (.s 54)),.fa 56 2 6,.st 1 56 55] [[],[0],[],[],[3],[],[4,5],[6],[],[],[8,9],[10],[],[12],[],[13,14],[15],[11,16],[2,7,17],[18],[1,19,18],[0,1,2,3,4,5,6,7,8,9,10,11,12,13,14,15,16,17,18,19,20],[21,20,20,0,1,2,3,4,5,6,7,8,9,10,11,12,13,14,15,16,17,18,19,20]] [1,3,4,5,6,7])) (.reg [.m 33 7,.bk 34 .add 33 1,.m 7 34] [1,3,4,5,6,7]))
def Zl4:MCode:=.reg [.m 57 3,.ln 58 3 6,.o 59 (.bslice 242 3 1 [.z,.lst 1 [],.lst 1 []] [(0,.s 58)]),.o 60 (.append 242 3 56 true (.s 57) (.s 59)),.m 3 60] [1,3,4,5]
def Zl5:MCode:=.reg [.m 15 5,.bk 16 .add 15 1,.m 5 16] [1,3,4,5]
def Zl6:MCode:=.we [.m 11 5,.m 12 4,.ll 13 12,.b 14 .lss 11 13] [1,3,4,5,14] 14 0 (.seq (.block 1 (.seq (.drw [.m 17 4,.m 18 5,.ia 19 1 17 18,.l 20 19,.ln 21 2 1,.m 22 4,.m 23 5,.ia 24 1 22 23,.l 25 24,.cl 26 206 [21,25],.o 27 (.build [.t .z,.t .nil,.t .nil] [(0,1,.s 20),(1,1,.s 26)]),.o 6 (.alloc [.t .z,.t .nil,.t .nil]),.st 3 6 27] [[],[],[0,1],[2],[],[],[],[5,6],[7],[4,8],[3,9],[],[11,10,9,0,1,2,3,4,5,6,7,8,9,10,11]] [1,3,4,5,6]) (.seq (.r [.mk' 7 0] [1,3,4,5,6,7] (.block 2 (.loop [1,3,4,5,6,7] Zl3))) Zl4))) Zl5)
def Zl7:MCode:=.r [.m 61 3,.m 2 61] [2] .ret
def Z0w:MFun:=⟨1,62,[.tmp 2],.r [.bx 1 0,.o 2 (.mov (.c (.t .nil)))] [1] (.r [.o 8 (.bslice 242 3 0 [.z,.lst 1 [],.lst 1 []] []),.m 3 8] [1,3] (.r [.ln 9 2 1,.cl 10 205 [9],.m 4 10] [1,3,4] (.seq (.r [.mk' 5 0] [1,3,4,5] (.block 0 (.loop [1,3,4,5] Zl6))) Zl7)))⟩
noncomputable def Zl8 (a:Zb):Rs:=C 121 [.agg (a.c.map .t)] []
noncomputable def Zec (q:Zb) (out:List Zv) (masks:List Int) (i:Int):Rs:=EvL C [.blk 0,.seq Zl7,.fin 0 [.tmp 2]] [1,3,4,5] Zl6 ⟨[(1,.ptr 0 0),(3,.own 1),(4,.own 2),(5,I i)],[[]],[.box (q.c.map .t),.arr 242 3 true (out.map Zv.c),.arr 3 1 true (masks.map ic)]⟩
noncomputable def Zl9 (q:Zb) (out:List Zv) (masks:List Int) (mask:Int) (x:List Int) (i:Int) (k:Int):Rs:=EvL C [.blk 2,.seq Zl4,.blk 1,.seq Zl5,.loop [1,3,4,5] Zl6,.blk 0,.seq Zl7,.fin 0 [.tmp 2]] [1,3,4,5,6,7] Zl3 ⟨[(1,.ptr 0 0),(3,.own 1),(4,.own 2),(5,I i),(6,.ptr 3 0),(7,I k)],[[]],[.box (q.c.map .t),.arr 242 3 true (out.map Zv.c),.arr 3 1 true (masks.map ic),.box [I mask,.own 4,.t .nil],.arr 3 1 true (x.map ic)]⟩
noncomputable def Ziw (q:Zb) (out:List Zv) (masks:List Int) (mask:Int) (x:List Int) (x1:List (List Int)) (i:Int) (k:Int):Rs:=EvL C [.blk 2,.seq Zl4,.blk 1,.seq Zl5,.loop [1,3,4,5] Zl6,.blk 0,.seq Zl7,.fin 0 [.tmp 2]] [1,3,4,5,6,7] Zl3 ⟨[(1,.ptr 0 0),(3,.own 1),(4,.own 2),(5,I i),(6,.ptr 3 0),(7,I k)],[[]],[.box (q.c.map .t),.arr 242 3 true (out.map Zv.c),.arr 3 1 true (masks.map ic),.box [I mask,.own 4,.own 5],.arr 3 1 true (x.map ic),.arr 38 1 true (x1.map isc)]⟩
def Ztl:MCode:=.we [.m 6 4,.m 7 0,.ll 8 7,.b 9 .lss 6 8,.m 10 9,.g 11 10 (.mov (.s 0)),.g 12 10 (.cl 212 [11]),.o 13 (.pick (.s 10) (.s 12) (.q false))] [0,3,4,13] 13 0 (.seq (.block 1 (.reg [.m 16 3,.m 17 0,.m 18 4,.ia 19 1 17 18,.l 20 19,.cl 21 184 [20],.o 22 (.bslice 3 1 1 [.z] [(0,.s 21)]),.o 23 (.append 3 1 8 true (.s 16) (.s 22)),.m 3 23] [0,3,4])) (.reg [.m 14 4,.bk 15 .add 14 1,.m 4 15] [0,3,4]))
def Ztm:MCode:=.r [.m 24 3,.m 2 24] [2] .ret
def Z0x:MFun:=⟨1,25,[.tmp 2],.r [.o 2 (.mov (.c (.t .nil)))] [0] (.r [.o 5 (.bslice 3 1 0 [.z] []),.m 3 5] [0,3] (.seq (.r [.mk' 4 0] [0,3,4] (.block 0 (.loop [0,3,4] Ztl))) Ztm))⟩
noncomputable def Zix (a:List Int):Rs:=C 125 [L 1 (a.map ic)] []
noncomputable def Ziy (out:List Int) (l:List Int) (i:Int):Rs:=EvL C [.blk 0,.seq Ztm,.fin 0 [.tmp 2]] [0,3,4] Ztl ⟨[(0,L 1 (l.map ic)),(3,.own 0),(4,I i)],[[]],[.arr 3 1 true (out.map ic)]⟩
def Z0y:MCode:=.reg [.m 12 4,.bk 13 .add 12 1,.m 4 13] [0,3,4]
def Ztn:MCode:=.we [.m 6 4,.bk 7 .lss 6 4,.m 8 7,.g 9 8 (.mov (.s 0)),.g 10 8 (.call 137 [.s 9,.c (.t .z),.c (.t (.int .i64 15))]),.o 11 (.pick (.s 8) (.s 10) (.q false))] [0,3,4,11] 11 0 (.seq (.block 1 (.r [.m 14 0,.m 15 4,.b 16 .shr 14 15,.bk 17 .and 16 1,.bk 18 .eql 17 1] [0,3,4,18] (.cond (.s 18) (.reg [.m 19 3,.m 20 4,.o 21 (.bslice 3 1 1 [.z] [(0,.s 20)]),.o 22 (.append 3 1 8 true (.s 19) (.s 21)),.m 3 22] [0,3,4]) .skip))) Z0y)
def Zto:MCode:=.r [.m 23 3,.m 2 23] [2] .ret
def Z0z:MFun:=⟨1,24,[.tmp 2],.r [.o 2 (.mov (.c (.t .nil)))] [0] (.r [.o 5 (.bslice 3 1 0 [.z] []),.m 3 5] [0,3] (.seq (.r [.mk' 4 0] [0,3,4] (.block 0 (.loop [0,3,4] Ztn))) Zto))⟩
noncomputable def Zma (a:Int):Rs:=C 209 [I a] []
noncomputable def Zg9 (out:List Int) (mask:Int) (i:Int):Rs:=EvL C [.blk 0,.seq Zto,.fin 0 [.tmp 2]] [0,3,4] Ztn ⟨[(0,I mask),(3,.own 0),(4,I i)],[[]],[.arr 3 1 true (out.map ic)]⟩
def Z00:MFun:=⟨1,7,[.cell 2 (some 1)],.r [.o 2 (.alloc [.t .nil])] [0,2] (.r [.m 3 0,.o 4 (.build [.t .z,.t .z,.t .z] [(0,1,.c (.t (.int .i64 1))),(1,1,.s 3)]),.o 5 (.bslice 142 3 1 [.z,.z,.z] [(0,.s 4)]),.o 6 (.build [.t .nil] [(0,1,.s 5)]),.st 1 2 6] [2] .ret)⟩
noncomputable def Zmb (a:Int):Rs:=C 210 [I a] []
def Z01:MCode:=.reg [.m 11 6,.bk 12 .add 11 1,.m 6 12] [0,1,5,6]
def Ztp:MCode:=.we [.m 7 6,.m 8 0,.ll 9 8,.b 10 .lss 7 9] [0,1,5,6,10] 10 0 (.seq (.block 1 (.seq (.drw [.m 13 0,.m 14 6,.ia 15 4 13 14,.fa 16 0 15,.l 17 16,.m 18 1,.b 19 .eql 17 18,.m 20 19,.g 21 20 (.mov (.s 5)),.g 22 20 (.bk .lss 21 0),.g 23 20 (.mov (.s 22)),.h 24 23 (.mov (.s 0)),.h 25 23 (.mov (.s 6)),.h 26 23 (.ia 4 24 25),.h 27 23 (.fa 2 26),.h 28 23 (.l 27),.h 29 23 (.mov (.s 0)),.h 30 23 (.mov (.s 5)),.h 31 23 (.ia 4 29 30),.h 32 23 (.fa 2 31),.h 33 23 (.l 32),.h 34 23 (.b .lss 28 33),.g 35 20 (.pick (.s 23) (.q true) (.s 34)),.o 36 (.pick (.s 20) (.s 35) (.q false))] [[],[],[0,1],[2],[3],[],[4,5],[6],[7],[8,7],[9,7,7],[10],[10],[11,12,10],[13,10],[14,10],[10],[10],[16,17,10],[18,10],[19,10],[15,20,10],[10,21,7],[7,22]] [0,1,5,6,36]) (.cond (.s 36) (.reg [.m 37 6,.m 5 37] [0,1,5,6]) .skip))) Z01)
def Ztq:MCode:=.r [.m 38 5,.m 4 38] [4] .ret
def Z02:MFun:=⟨2,39,[.tmp 4],.r [.mk' 4 0] [0,1] (.r [.mk' 5 (-1)] [0,1,5] (.seq (.r [.mk' 6 0] [0,1,5,6] (.block 0 (.loop [0,1,5,6] Ztp))) Ztq))⟩
noncomputable def Zew (a:List Za) (a1:Int):Rs:=C 208 [L 4 (a.map Za.c),I a1] []
noncomputable def Zex (l:List Za) (mask:Int) (best:Int) (i:Int):Rs:=EvL C [.blk 0,.seq Ztq,.fin 0 [.tmp 4]] [0,1,5,6] Ztp ⟨[(0,L 4 (l.map Za.c)),(1,I mask),(5,I best),(6,I i)],[[]],[]⟩
def Z03:MFun:=⟨4,30,[.cell 8 (some 1)],.r [.bx 4 0,.bx 5 1,.o 8 (.alloc [.t .nil])] [2,3,4,5,8] (.r [.o 10 (.bslice 142 3 0 [.z,.z,.z] []),.fa 11 0 4,.l 12 11,.o 13 (.append 142 3 24 false (.s 10) (.s 12)),.o 14 (.build [.t .nil] [(0,1,.s 13)]),.o 9 (.alloc [.t .nil]),.st 1 9 14] [2,3,5,8,9] (.r [.fa 15 0 9,.l 16 15,.fa 17 0 5,.l 18 17,.o 19 (.append 142 3 24 false (.s 16) (.s 18)),.fa 20 0 9,.st 1 20 19] [2,3,8,9] (.r [.fa 21 0 9,.l 22 21,.m 23 2,.m 24 3,.o 25 (.build [.t .z,.t .z,.t .z] [(0,1,.s 23),(2,1,.s 24)]),.o 26 (.bslice 142 3 1 [.z,.z,.z] [(0,.s 25)]),.o 27 (.append 142 3 24 true (.s 22) (.s 26)),.fa 28 0 9,.st 1 28 27] [8,9] (.r [.ln 29 1 9,.st 1 8 29] [8] .ret))))⟩
noncomputable def Zcv (a:Plan) (a1:Plan) (a2:Int) (a3:Int):Rs:=C 229 [.agg (a.c.map .t),.agg (a1.c.map .t),I a2,I a3] []
def Zmc:MFun:=⟨8,81,[],.r [.bx 8 0,.bx 11 3,.bx 12 4] [1,2,5,6,7,8,11,12] (.seq (.drw [.fa 17 2 11,.l 18 17,.fa 19 2 12,.l 20 19,.b 21 .add 18 20,.ln 22 30 8,.m 23 5,.cl 24 92 [22,23],.m 25 1,.fa 26 0 11,.l 27 26,.ia 28 1 25 27,.l 29 28,.m 30 1,.fa 31 0 12,.l 32 31,.ia 33 1 30 32,.l 34 33,.m 35 1,.fa 36 0 11,.l 37 36,.fa 38 0 12,.l 39 38,.b 40 .or 37 39,.ia 41 1 35 40,.l 42 41,.cl 43 91 [24,29,34,42],.b 44 .add 21 43,.m 16 44] [[],[0],[],[2],[1,3],[],[],[5,6],[],[],[9],[8,10],[11],[],[],[14],[13,15],[16],[],[],[19],[],[21],[20,22],[18,23],[24],[7,12,17,25,7],[4,26],[27,26,0,1,2,3,4,5,6,7,8,9,10,11,12,13,14,15,16,17,18,19,20,21,22,23,24,25,26,27]] [2,5,6,7,11,12,16]) (.r [.m 45 2,.m 46 7,.bk 47 .add 46 1,.ia 48 4 45 47,.fa 49 0 48,.l 50 49,.bk 51 .eql 50 0,.m 52 51,.h 53 52 (.mov (.s 16)),.h 54 52 (.mov (.s 2)),.h 55 52 (.mov (.s 7)),.h 56 52 (.bk .add 55 1),.h 57 52 (.ia 4 54 56),.h 58 52 (.fa 2 57),.h 59 52 (.l 58),.h 60 52 (.b .lss 53 59),.o 61 (.pick (.s 52) (.q true) (.s 60))] [2,5,6,7,11,12,16,61] (.cond (.s 61) (.drw [.m 62 2,.m 63 7,.bk 64 .add 63 1,.fa 65 0 11,.l 66 65,.fa 67 0 12,.l 68 67,.b 69 .or 66 68,.m 70 7,.m 71 16,.fa 72 3 11,.ln 73 1 72,.fa 74 3 12,.ln 75 1 74,.m 76 5,.m 77 6,.cl 78 229 [73,75,76,77],.o 79 (.build [.t .z,.t .z,.t .z,.t .nil] [(0,1,.s 69),(1,1,.s 70),(2,1,.s 71),(3,1,.s 78)]),.ia 80 4 62 64,.st 4 80 79] [[],[],[1],[],[3],[],[5],[4,6],[],[],[],[10],[],[12],[],[],[11,13,14,15],[7,8,9,16],[0,2,0,1,2,3,4,5,6,7,8,9,10,11,12,13,14,15,16,17],[18,17,16,0,1,2,3,4,5,6,7,8,9,10,11,12,13,14,15,16,17]] []) .skip)))⟩
noncomputable def Zfv (x:List Int) (x1:List Za) (a:Zd) (a1:Za) (a2:Za) (a3:Int) (a4:Int) (a5:Int):Rs:=C 271 [.agg (a.c.map .t),.own 0,.own 1,.agg (a1.c.map .t),.agg (a2.c.map .t),I a3,I a4,I a5] [.arr 3 1 true (x.map ic),.arr 174 4 true (x1.map Za.c)]
def Ztr:MCode:=.we [.m 8 7,.m 9 0,.ll 10 9,.b 11 .lss 8 10] [0,1,2,7,11] 11 0 (.seq (.block 1 (.r [.m 14 0,.m 15 7,.ia 16 4 14 15,.fa 17 0 16,.l 18 17,.m 19 1,.b 20 .eql 18 19,.m 21 20,.g 22 21 (.mov (.s 0)),.g 23 21 (.mov (.s 7)),.g 24 21 (.ia 4 22 23),.g 25 21 (.fa 1 24),.g 26 21 (.l 25),.g 27 21 (.mov (.s 2)),.g 28 21 (.b .eql 26 27),.o 29 (.pick (.s 21) (.s 28) (.q false))] [0,1,2,7,29] (.cond (.s 29) (.r [.m 30 7,.m 6 30] [6] .ret) .skip))) (.reg [.m 12 7,.bk 13 .add 12 1,.m 7 13] [0,1,2,7]))
def Zts:MCode:=.r [.mk' 6 (-1)] [6] .ret
def Z04:MFun:=⟨3,31,[.tmp 6],.r [.mk' 6 0] [0,1,2] (.seq (.r [.mk' 7 0] [0,1,2,7] (.block 0 (.loop [0,1,2,7] Ztr))) Zts)⟩
noncomputable def Ziz (a:List Za) (a1:Int) (a2:Int):Rs:=C 272 [L 4 (a.map Za.c),I a1,I a2] []
noncomputable def Zha (l:List Za) (mask:Int) (order:Int) (i:Int):Rs:=EvL C [.blk 0,.seq Zts,.fin 0 [.tmp 6]] [0,1,2,7] Ztr ⟨[(0,L 4 (l.map Za.c)),(1,I mask),(2,I order),(7,I i)],[[]],[]⟩
def Z05:MFun:=⟨2,19,[.cell 4 (some 1)],.r [.bx 2 0,.o 4 (.alloc [.t .nil])] [1,2,4] (.r [.o 6 (.bslice 142 3 0 [.z,.z,.z] []),.fa 7 0 2,.l 8 7,.o 9 (.append 142 3 24 false (.s 6) (.s 8)),.o 10 (.build [.t .nil] [(0,1,.s 9)]),.o 5 (.alloc [.t .nil]),.st 1 5 10] [1,4,5] (.r [.fa 11 0 5,.l 12 11,.m 13 1,.o 14 (.build [.t .z,.t .z,.t .z] [(0,1,.c (.t (.int .i64 2))),(2,1,.s 13)]),.o 15 (.bslice 142 3 1 [.z,.z,.z] [(0,.s 14)]),.o 16 (.append 142 3 24 true (.s 12) (.s 15)),.fa 17 0 5,.st 1 17 16] [4,5] (.r [.ln 18 1 5,.st 1 4 18] [4] .ret)))⟩
noncomputable def Zj2 (a:Plan) (a1:Int):Rs:=C 231 [.agg (a.c.map .t),I a1] []
noncomputable def Zmd (x:List Int) (x1:List Za) (x2:List Zc) (a:Zd) (a1:Za) (Mask:Int) (Order:Int) (Cost:Int) (a2:Int) (a3:Int) (a4:Int):Rs:=C 271 [.agg (a.c.map .t),.own 0,.own 1,.agg (a1.c.map .t),.agg [I Mask,I Order,I Cost,.own 2],I a2,I a3,I a4] [.arr 3 1 true (x.map ic),.arr 174 4 true (x1.map Za.c),.arr 142 3 true (x2.map Zc.c)]
noncomputable def Zme (x:List Int) (x1:List Za) (x2:List Zc) (a:Zd) (Mask:Int) (Order:Int) (Cost:Int) (a1:Za) (a2:Int) (a3:Int) (a4:Int):Rs:=C 271 [.agg (a.c.map .t),.own 0,.own 1,.agg [I Mask,I Order,I Cost,.own 2],.agg (a1.c.map .t),I a2,I a3,I a4] [.arr 3 1 true (x.map ic),.arr 174 4 true (x1.map Za.c),.arr 142 3 true (x2.map Zc.c)]
noncomputable def Zmf (x:List Int) (x1:List Za) (x2:List Zc) (x3:List Zc) (a:Zd) (Mask:Int) (Order:Int) (Cost:Int) (Mask1:Int) (Order1:Int) (Cost1:Int) (a1:Int) (a2:Int) (a3:Int):Rs:=C 271 [.agg (a.c.map .t),.own 0,.own 1,.agg [I Mask,I Order,I Cost,.own 2],.agg [I Mask1,I Order1,I Cost1,.own 3],I a1,I a2,I a3] [.arr 3 1 true (x.map ic),.arr 174 4 true (x1.map Za.c),.arr 142 3 true (x2.map Zc.c),.arr 142 3 true (x3.map Zc.c)]
def Z06:MFun:=⟨5,61,[.cell 10 (some 4)],.r [.bx 5 0,.o 10 (.alloc [.t .z,.t .z,.t .z,.t .nil])] [1,2,3,4,5,10] (.r [.m 14 2,.m 15 2,.m 16 3,.cl 17 208 [15,16],.ia 18 4 14 17,.ln 19 4 18,.o 11 (.alloc [.t .z,.t .z,.t .z,.t .nil]),.st 4 11 19] [1,2,3,4,5,10,11] (.seq (.drw [.fa 20 2 11,.l 21 20,.fa 22 6 5,.ln 23 6 22,.m 24 1,.m 25 3,.ia 26 1 24 25,.l 27 26,.m 28 1,.m 29 3,.ia 30 1 28 29,.l 31 30,.o 32 (.call 91 [.s 23,.s 27,.c (.t .z),.s 31]),.b 33 .add 21 32,.m 12 33] [[],[0],[],[2],[],[],[4,5],[6],[],[],[8,9],[10],[3,7,11],[1,12],[13,12,0,1,2,3,4,5,6,7,8,9,10,11,12,13]] [2,3,4,10,11,12]) (.r [.m 34 2,.m 35 3,.m 36 4,.cl 37 272 [34,35,36],.m 13 37] [2,3,4,10,11,12,13] (.wc [.m 38 13,.bk 39 .geq 38 0,.m 40 39,.g 41 40 (.mov (.s 2)),.g 42 40 (.mov (.s 13)),.g 43 40 (.ia 4 41 42),.g 44 40 (.fa 2 43),.g 45 40 (.l 44),.g 46 40 (.mov (.s 12)),.g 47 40 (.b .leq 45 46),.o 48 (.pick (.s 40) (.s 47) (.q false))] [2,3,4,10,11,12,13,48] 48 (.r [.m 49 2,.m 50 13,.ia 51 4 49 50,.ln 52 4 51,.st 4 10 52] [10] .ret) (.r [.m 53 3,.m 54 4,.m 55 12,.fa 56 3 11,.ln 57 1 56,.m 58 4,.cl 59 231 [57,58],.o 60 (.build [.t .z,.t .z,.t .z,.t .nil] [(0,1,.s 53),(1,1,.s 54),(2,1,.s 55),(3,1,.s 59)]),.st 4 10 60] [10] .ret)))))⟩
noncomputable def Zed (x:List Int) (fr:Bool) (x1:List Za) (a:Zd) (a1:Int) (a2:Int):Rs:=C 273 [.agg (a.c.map .t),.own 0,.own 1,I a1,I a2] [.arr 3 1 true (x.map ic),.arr 174 4 fr (x1.map Za.c)]
def Z07:MCode:=.reg [.m 58 15,.bk 59 .add 58 1,.m 15 59] [1,2,4,7,9,10,11,12,14,15]
def Ztt:MCode:=.we [.m 56 15,.bk 57 .lss 56 4] [1,2,4,7,9,10,11,12,14,15,57] 57 2 (.seq (.block 3 (.r [.m 60 2,.m 61 11,.m 62 15,.cl 63 272 [60,61,62],.m 16 63] [1,2,4,7,9,10,11,12,14,15,16] (.r [.m 64 16,.bk 65 .geq 64 0] [1,2,4,7,9,10,11,12,14,15,16,65] (.cond (.s 65) (.drw [.ln 66 30 4,.m 67 1,.m 68 9,.m 69 2,.m 70 16,.ia 71 4 69 70,.ln 72 4 71,.ln 73 4 14,.m 74 15,.o 75 (.icall 271 [.s 66,.s 67,.s 68,.s 72,.s 73,.c (.t (.int .i64 5)),.c (.t .z),.s 74])] [[],[],[],[],[],[3,4],[5],[],[],[0,1,2,6,7,8]] [1,2,4,7,9,10,11,12,14,15]) .skip)))) Z07)
def Ztu:MCode:=.we [.m 76 17,.fa 77 2 7,.l 78 77,.m 79 10,.ia 80 1 78 79,.l 81 80,.ll 82 81,.b 83 .lss 76 82] [1,2,4,7,9,10,11,12,17,83] 83 4 (.seq (.block 5 (.r [.fa 86 2 7,.l 87 86,.m 88 10,.ia 89 1 87 88,.l 90 89,.m 91 17,.ia 92 1 90 91,.l 93 92,.m 18 93] [1,2,4,7,9,10,11,12,17,18] (.drw [.ln 94 30 4,.m 95 1,.m 96 9,.ln 97 30 4,.m 98 1,.m 99 2,.m 100 11,.m 101 18,.o 102 (.pcall 273 [.s 97,.s 98,.s 99,.s 100,.s 101]),.ln 103 30 4,.m 104 1,.m 105 2,.m 106 12,.m 107 18,.o 108 (.pcall 273 [.s 103,.s 104,.s 105,.s 106,.s 107]),.m 109 18,.m 110 18,.o 111 (.icall 271 [.s 94,.s 95,.s 96,.s 102,.s 108,.c (.t (.int .i64 4)),.s 109,.s 110])] [[],[],[],[],[],[],[],[],[3,4,5,6,7],[],[],[],[],[],[9,10,11,12,13,8],[],[],[0,1,2,8,14,15,16,14]] [1,2,4,7,9,10,11,12,17]))) (.reg [.m 84 17,.bk 85 .add 84 1,.m 17 85] [1,2,4,7,9,10,11,12,17]))
def Ztv:MCode:=.r [.mk' 17 0] [1,2,4,7,9,10,11,12,17] (.block 4 (.loop [1,2,4,7,9,10,11,12,17] Ztu))
def Zow:MCode:=.reg [.m 27 10,.bk 28 .add 27 1,.m 10 28] [1,2,4,7,9,10]
def Zmg:MCode:=.we [.m 22 10,.fa 23 1 7,.l 24 23,.ll 25 24,.b 26 .lss 22 25] [1,2,4,7,9,10,26] 26 0 (.seq (.block 1 (.r [.fa 29 1 7,.l 30 29,.m 31 10,.ia 32 1 30 31,.l 33 32,.m 11 33] [1,2,4,7,9,10,11] (.r [.fa 34 0 7,.l 35 34,.m 36 11,.b 37 .sub 35 36,.m 12 37] [1,2,4,7,9,10,11,12] (.r [.m 38 2,.m 39 2,.m 40 11,.cl 41 208 [39,40],.ia 42 4 38 41,.ln 43 4 42,.o 13 (.alloc [.t .z,.t .z,.t .z,.t .nil]),.st 4 13 43] [1,2,4,7,9,10,11,12,13] (.r [.m 44 2,.m 45 2,.m 46 12,.cl 47 208 [45,46],.ia 48 4 44 47,.ln 49 4 48,.o 14 (.alloc [.t .z,.t .z,.t .z,.t .nil]),.st 4 14 49] [1,2,4,7,9,10,11,12,13,14] (.r [.ln 50 30 4,.m 51 1,.m 52 9,.ln 53 4 13,.ln 54 4 14,.o 55 (.icall 271 [.s 50,.s 51,.s 52,.s 53,.s 54,.c (.t (.int .i64 3)),.c (.t .z),.c (.t (.int .i64 (-1)))])] [1,2,4,7,9,10,11,12,14] (.seq (.r [.mk' 15 (-1)] [1,2,4,7,9,10,11,12,14,15] (.block 2 (.loop [1,2,4,7,9,10,11,12,14,15] Ztt))) Ztv))))))) Zow)
def Z08:MCode:=.reg [.m 115 20,.bk 116 .add 115 1,.m 20 116] [9,19,20]
def Ztw:MCode:=.we [.m 113 20,.bk 114 .leq 113 4] [9,19,20,114] 114 6 (.seq (.block 7 (.r [.m 117 9,.m 118 20,.ia 119 4 117 118,.fa 120 0 119,.l 121 120,.bk 122 .gtr 121 0] [9,19,20,122] (.cond (.s 122) (.reg [.m 123 19,.m 124 9,.m 125 20,.ia 126 4 124 125,.ln 127 4 126,.o 128 (.bslice 174 4 1 [.z,.z,.z,.lst 3 []] [(0,.s 127)]),.o 129 (.append 174 4 48 true (.s 123) (.s 128)),.m 19 129] [9,19,20]) .skip))) Z08)
def Ztx:MCode:=.r [.m 130 19,.m 8 130] [8] .ret
def Zmh:MCode:=.r [.o 112 (.bslice 174 4 0 [.z,.z,.z,.lst 3 []] []),.m 19 112] [9,19] (.seq (.r [.mk' 20 0] [9,19,20] (.block 6 (.loop [9,19,20] Ztw))) Ztx)
def Z09:MFun:=⟨4,131,[.tmp 8],.r [.bx 4 0,.bx 7 3,.o 8 (.mov (.c (.t .nil)))] [1,2,4,7] (.r [.o 21 (.mkslice 174 4 48 [.z,.z,.z,.lst 3 []] (.k 5) (.k 5)),.m 9 21] [1,2,4,7,9] (.seq (.r [.mk' 10 0] [1,2,4,7,9,10] (.block 0 (.loop [1,2,4,7,9,10] Zmg))) Zmh))⟩
noncomputable def Zmi (x:List Int) (fr:Bool) (x1:List Za) (a:Zd) (a1:Zv):Rs:=C 211 [.agg (a.c.map .t),.own 0,.own 1,.agg (a1.c.map .t)] [.arr 3 1 true (x.map ic),.arr 174 4 fr (x1.map Za.c)]
noncomputable def Zhb (sizes:List Int) (fr:Bool) (l:List Za) (m:Zd) (x:Zv) (mine:List Za) (k:Int):Rs:=EvL C [.blk 0,.seq Zmh,.fin 2 [.tmp 8]] [1,2,4,7,9,10] Zmg ⟨[(1,.own 0),(2,.own 1),(4,.ptr 2 0),(7,.ptr 3 0),(9,.own 4),(10,I k)],[[(0,.own 0),(1,.own 1)]],[.arr 3 1 true (sizes.map ic),.arr 174 4 fr (l.map Za.c),.box (m.c.map .t),.box (x.c.map .t),.arr 174 4 true (mine.map Za.c)]⟩
noncomputable def Zhc (sizes:List Int) (fr:Bool) (l:List Za) (m:Zd) (x:Zv) (mine:List Za) (b:Za) (k:Int) (left:Int) (right:Int) (o:Int):Rs:=EvL C [.blk 2,.seq Ztv,.blk 1,.seq Zow,.loop [1,2,4,7,9,10] Zmg,.blk 0,.seq Zmh,.fin 2 [.tmp 8]] [1,2,4,7,9,10,11,12,14,15] Ztt ⟨[(1,.own 0),(2,.own 1),(4,.ptr 2 0),(7,.ptr 3 0),(9,.own 4),(10,I k),(11,I left),(12,I right),(14,.ptr 5 0),(15,I o)],[[(0,.own 0),(1,.own 1)]],[.arr 3 1 true (sizes.map ic),.arr 174 4 fr (l.map Za.c),.box (m.c.map .t),.box (x.c.map .t),.arr 174 4 true (mine.map Za.c),.box (b.c.map .t)]⟩
noncomputable def Zfw (mine:List Za) (fr:Bool) (out:List Za) (x:List Int) (fr1:Bool) (x1:List Za) (o:Int):Rs:=EvL C [.blk 6,.seq Ztx,.fin 2 [.tmp 8]] [9,19,20] Ztw ⟨[(9,.own 0),(19,.own 1),(20,I o)],[[(0,.own 2),(1,.own 3)]],[.arr 174 4 true (mine.map Za.c),.arr 174 4 fr (out.map Za.c),.arr 3 1 true (x.map ic),.arr 174 4 fr1 (x1.map Za.c)]⟩
noncomputable def Zee (sizes:List Int) (fr:Bool) (l:List Za) (m:Zd) (x:Zv) (mine:List Za) (k:Int) (left:Int) (right:Int) (e:Int):Rs:=EvL C [.blk 4,.blk 1,.seq Zow,.loop [1,2,4,7,9,10] Zmg,.blk 0,.seq Zmh,.fin 2 [.tmp 8]] [1,2,4,7,9,10,11,12,17] Ztu ⟨[(1,.own 0),(2,.own 1),(4,.ptr 2 0),(7,.ptr 3 0),(9,.own 4),(10,I k),(11,I left),(12,I right),(17,I e)],[[(0,.own 0),(1,.own 1)]],[.arr 3 1 true (sizes.map ic),.arr 174 4 fr (l.map Za.c),.box (m.c.map .t),.box (x.c.map .t),.arr 174 4 true (mine.map Za.c)]⟩
def Z1a:MCode:=.reg [.m 18 10,.bk 19 .add 18 1,.m 10 19] [2,3,4,5,9,10]
def Zty:MCode:=.we [.m 14 10,.m 15 2,.ll 16 15,.b 17 .lss 14 16] [2,3,4,5,9,10,17] 17 0 (.seq (.block 1 (.r [.m 20 2,.m 21 10,.ia 22 3 20 21,.fa 23 0 22,.l 24 23,.m 11 24] [2,3,4,5,9,10,11] (.wc [.m 25 11,.m 26 11,.bk 27 .sub 26 1,.b 28 .and 25 27,.bk 29 .eql 28 0] [2,3,4,5,9,10,11,29] 29 (.r [.m 30 11,.cl 31 209 [30],.o 32 (.iaddr 1 (.s 31) (.k 0)),.l 33 32,.m 12 33] [2,3,4,5,9,10,11,12] (.seq (.drw [.m 34 9,.m 35 11,.fa 36 1 5,.l 37 36,.m 38 12,.ia 39 2 37 38,.fa 40 1 39,.l 41 40,.o 42 (.iaddr 1 (.s 41) (.k 0)),.l 43 42,.fa 44 0 4,.ln 45 6 44,.m 46 3,.m 47 11,.ia 48 1 46 47,.l 49 48,.m 50 3,.m 51 11,.ia 52 1 50 51,.l 53 52,.o 54 (.call 91 [.s 45,.s 49,.c (.t .z),.s 53]),.m 55 12,.cl 56 210 [55],.o 57 (.build [.t .z,.t .z,.t .z,.t .nil] [(0,1,.s 35),(1,1,.s 43),(2,1,.s 54),(3,1,.s 56)]),.o 58 (.bslice 174 4 1 [.z,.z,.z,.lst 3 []] [(0,.s 57)]),.o 59 (.append 174 4 48 true (.s 34) (.s 58)),.m 9 59] [[],[],[],[2],[],[3,4],[5],[6],[7],[8],[],[10],[],[],[12,13],[14],[],[],[16,17],[18],[11,15,19],[],[21,20],[1,9,20,22],[23],[0,24,22],[25,25,0,1,2,3,4,5,6,7,8,9,10,11,12,13,14,15,16,17,18,19,20,21,22,23,24,25]] [2,3,4,5,9,10]) (.exit 1))) (.drw [.m 60 9,.ln 61 30 4,.m 62 3,.m 63 9,.m 64 2,.m 65 10,.ia 66 3 64 65,.ln 67 3 66,.o 68 (.pcall 211 [.s 61,.s 62,.s 63,.s 67]),.o 69 (.append 174 4 48 false (.s 60) (.s 68)),.m 9 69] [[],[],[],[],[],[],[4,5],[6],[1,2,3,7],[0,8,8],[9,9,0,1,2,3,4,5,6,7,8,9]] [2,3,4,5,9,10])))) Z1a)
def Ztz:MCode:=.r [.m 70 9,.m 8 70] [8] .ret
def Z1b:MFun:=⟨4,71,[.tmp 8],.r [.bx 4 0,.bx 5 1,.o 8 (.mov (.c (.t .nil)))] [2,3,4,5] (.r [.o 13 (.bslice 174 4 0 [.z,.z,.z,.lst 3 []] []),.m 9 13] [2,3,4,5,9] (.seq (.r [.mk' 10 0] [2,3,4,5,9,10] (.block 0 (.loop [2,3,4,5,9,10] Zty))) Ztz))⟩
noncomputable def Zmj (x:List Zv) (x1:List Int) (a:Zd) (a1:Zb):Rs:=C 124 [.agg (a.c.map .t),.agg (a1.c.map .t),.own 0,.own 1] [.arr 242 3 true (x.map Zv.c),.arr 3 1 true (x1.map ic)]
noncomputable def Zhd (shapes:List Zv) (sizes:List Int) (m:Zd) (q:Zb) (fr:Bool) (out:List Za) (i:Int):Rs:=EvL C [.blk 0,.seq Ztz,.fin 2 [.tmp 8]] [2,3,4,5,9,10] Zty ⟨[(2,.own 0),(3,.own 1),(4,.ptr 2 0),(5,.ptr 3 0),(9,.own 4),(10,I i)],[[(0,.own 0),(1,.own 1)]],[.arr 242 3 true (shapes.map Zv.c),.arr 3 1 true (sizes.map ic),.box (m.c.map .t),.box (q.c.map .t),.arr 174 4 fr (out.map Za.c)]⟩
def Z1c:MFun:=⟨2,38,[.cell 4 (some 4),.tmp 5],.r [.o 4 (.alloc [.t .z,.t .z,.t .z,.t .nil]),.o 5 (.mov (.q false))] [0,1,4] (.r [.m 7 0,.m 8 1,.cl 9 208 [7,8],.m 6 9] [0,4,6] (.wc [.m 10 6,.bk 11 .lss 10 0] [0,4,6,11] 11 (.r [.o 12 (.build [.t .z,.t .z,.t .z,.t .nil] []),.st 4 4 12,.o 5 (.mov (.q false))] [4,5] .ret) (.seq (.drw [.m 13 0,.m 14 6,.ia 15 4 13 14,.fa 16 0 15,.l 17 16,.m 18 0,.m 19 6,.ia 20 4 18 19,.fa 21 1 20,.l 22 21,.m 23 0,.m 24 6,.ia 25 4 23 24,.fa 26 2 25,.l 27 26,.o 28 (.bslice 142 3 0 [.z,.z,.z] []),.m 29 0,.m 30 6,.ia 31 4 29 30,.fa 32 3 31,.fa 33 0 32,.l 34 33,.o 35 (.append 142 3 24 false (.s 28) (.s 34)),.o 36 (.build [.t .nil] [(0,1,.s 35)]),.o 37 (.build [.t .z,.t .z,.t .z,.t .nil] [(0,1,.s 17),(1,1,.s 22),(2,1,.s 27),(3,1,.s 36)]),.st 4 4 37,.o 5 (.mov (.q true))] [[],[],[0,1],[2],[3],[],[],[5,6],[7],[8],[],[],[10,11],[12],[13],[],[],[],[16,17],[18],[19],[20],[15,21],[22],[4,9,14,23],[24,22,0,1,2,3,4,5,6,7,8,9,10,11,12,13,14,15,16,17,18,19,20,21,22,23,24],[25,0,1,2,3,4,5,6,7,8,9,10,11,12,13,14,15,16,17,18,19,20,21,22,23,24,25]] [4,5]) .ret)))⟩
noncomputable def Zj3 (a:List Za) (a1:Int):Rs:=C 123 [L 4 (a.map Za.c),I a1] []
def Zt0:MCode:=.we [.m 17 5,.m 18 1,.ll 19 18,.b 20 .lss 17 19] [1,5,20] 20 0 (.seq (.block 1 (.r [.m 23 1,.m 24 5,.ia 25 1 23 24,.l 26 25,.o 27 (.call 137 [.s 26,.c (.t .z),.c (.t (.int .i64 4096))]),.o 28 (.un .not (.s 27))] [1,5,28] (.cond (.s 28) (.r [.o 4 (.mov (.q false))] [4] .ret) .skip))) (.reg [.m 21 5,.bk 22 .add 21 1,.m 5 22] [1,5]))
def Zt1:MCode:=.r [.o 4 (.mov (.q true))] [4] .ret
def Z1d:MFun:=⟨2,29,[.tmp 4],.r [.bx 2 0,.o 4 (.mov (.q false))] [1,2] (.wc [.ln 6 2 2,.cl 7 180 [6],.o 8 (.un .not (.s 7)),.m 9 8,.h 10 9 (.mov (.s 1)),.h 11 9 (.ll 10),.h 12 9 (.ln 2 2),.h 13 9 (.cl 117 [12]),.h 14 9 (.bk .add 13 1),.h 15 9 (.b .neq 11 14),.o 16 (.pick (.s 9) (.q true) (.s 15))] [1,16] 16 (.r [.o 4 (.mov (.q false))] [4] .ret) (.seq (.r [.mk' 5 0] [1,5] (.block 0 (.loop [1,5] Zt0))) Zt1))⟩
noncomputable def Zmk (a:Zb) (a1:List Int):Rs:=C 285 [.agg (a.c.map .t),L 1 (a1.map ic)] []
noncomputable def Zi0 (sizes:List Int) (i:Int):Rs:=EvL C [.blk 0,.seq Zt1,.fin 0 [.tmp 4]] [1,5] Zt0 ⟨[(1,L 1 (sizes.map ic)),(5,I i)],[[]],[]⟩
def Z1e:MFun:=⟨5,79,[.tmp 10],.r [.bx 5 0,.mk' 10 0] [1,2,3,4,5] (.r [.m 13 2,.m 14 3,.ia 15 4 13 14,.ln 16 4 15,.o 11 (.alloc [.t .z,.t .z,.t .z,.t .z]),.st 4 11 16] [1,2,4,5,11] (.r [.ln 17 30 5,.m 18 1,.cl 19 92 [17,18],.o 12 (.alloc [.t .z,.t .z,.t .z,.t .z,.t .z,.t .nil]),.st 6 12 19] [2,4,11,12] (.wc [.fa 20 2 11,.l 21 20,.bk 22 .lss 21 0] [2,4,11,12,22] 22 (.seq (.drw [.ln 23 6 12,.m 24 4,.fa 25 0 11,.l 26 25,.ia 27 1 24 26,.l 28 27,.m 29 4,.fa 30 0 11,.l 31 30,.ia 32 1 29 31,.l 33 32,.o 34 (.call 91 [.s 23,.s 28,.c (.t .z),.s 33]),.m 10 34] [[],[],[],[2],[1,3],[4],[],[],[7],[6,8],[9],[0,5,10],[11,11,0,1,2,3,4,5,6,7,8,9,10,11]] [10]) .ret) (.wc [.fa 35 3 11,.l 36 35,.bk 37 .lss 36 0] [2,4,11,12,37] 37 (.seq (.drw [.ln 38 6 12,.m 39 4,.m 40 2,.fa 41 2 11,.l 42 41,.ia 43 4 40 42,.fa 44 0 43,.l 45 44,.ia 46 1 39 45,.l 47 46,.m 48 4,.fa 49 0 11,.l 50 49,.ia 51 1 48 50,.l 52 51,.o 53 (.call 91 [.s 38,.s 47,.c (.t .z),.s 52]),.m 10 53] [[],[],[],[],[3],[2,4],[5],[6],[1,7],[8],[],[],[11],[10,12],[13],[0,9,14],[15,15,0,1,2,3,4,5,6,7,8,9,10,11,12,13,14,15]] [10]) .ret) (.seq (.drw [.ln 54 6 12,.m 55 4,.m 56 2,.fa 57 2 11,.l 58 57,.ia 59 4 56 58,.fa 60 0 59,.l 61 60,.ia 62 1 55 61,.l 63 62,.m 64 4,.m 65 2,.fa 66 3 11,.l 67 66,.ia 68 4 65 67,.fa 69 0 68,.l 70 69,.ia 71 1 64 70,.l 72 71,.m 73 4,.fa 74 0 11,.l 75 74,.ia 76 1 73 75,.l 77 76,.cl 78 91 [54,63,72,77],.m 10 78] [[],[],[],[],[3],[2,4],[5],[6],[1,7],[8],[],[],[],[12],[11,13],[14],[15],[10,16],[17],[],[],[20],[19,21],[22],[0,9,18,23],[24,24,0,1,2,3,4,5,6,7,8,9,10,11,12,13,14,15,16,17,18,19,20,21,22,23,24]] [10]) .ret)))))⟩
noncomputable def Zml (a:Zd) (a1:Int) (a2:List Zh) (a3:Int) (a4:List Int):Rs:=C 286 [.agg (a.c.map .t),I a1,L 4 (a2.map Zh.c),I a3,L 1 (a4.map ic)] []
def Zt2:MCode:=.we [.m 29 12,.m 30 10,.ll 31 30,.b 32 .lss 29 31] [3,4,6,9,10,12,32] 32 0 (.seq (.block 1 (.drw [.m 35 9,.ln 36 30 4,.fa 37 0 6,.l 38 37,.m 39 12,.ia 40 3 38 39,.fa 41 0 40,.l 42 41,.m 43 10,.m 44 12,.m 45 3,.cl 46 286 [36,42,43,44,45],.o 47 (.bslice 3 1 1 [.z] [(0,.s 46)]),.o 48 (.append 3 1 8 true (.s 35) (.s 47)),.m 9 48] [[],[],[],[2],[],[3,4],[5],[6],[],[],[],[1,7,8,9,10],[11],[0,12,11],[13,13,0,1,2,3,4,5,6,7,8,9,10,11,12,13]] [3,4,6,9,10,12])) (.reg [.m 33 12,.bk 34 .add 33 1,.m 12 34] [3,4,6,9,10,12]))
def Zt3:MCode:=.r [.m 49 9,.m 8 49] [8] .ret
def Z1f:MFun:=⟨4,50,[.tmp 8],.r [.bx 4 0,.bx 5 1,.bx 6 2,.o 8 (.mov (.c (.t .nil)))] [3,4,5,6] (.r [.o 13 (.bslice 3 1 0 [.z] []),.m 9 13] [3,4,5,6,9] (.r [.ln 15 2 5,.ln 16 1 6,.cl 17 87 [15,16],.m 14 17,.o 18 (.ext (.s 14) 0),.o 19 (.ext (.s 14) 1),.m 10 18,.m 11 19] [3,4,5,6,9,10,11] (.wc [.m 20 11,.o 21 (.un .not (.s 20)),.m 22 21,.h 23 22 (.ln 2 5),.h 24 22 (.mov (.s 3)),.h 25 22 (.cl 285 [23,24]),.h 26 22 (.un .not (.s 25)),.o 27 (.pick (.s 22) (.q true) (.s 26))] [3,4,6,9,10,27] 27 (.r [.m 28 9,.m 8 28] [8] .ret) (.seq (.r [.mk' 12 0] [3,4,6,9,10,12] (.block 0 (.loop [3,4,6,9,10,12] Zt2))) Zt3))))⟩
noncomputable def Zmm (a:Zd) (a1:Zb) (a2:Plan) (a3:List Int):Rs:=C 241 [.agg (a.c.map .t),.agg (a1.c.map .t),.agg (a2.c.map .t),L 1 (a3.map ic)] []
noncomputable def Zi1 (m:Zd) (p:Plan) (out:List Int) (info:List Zh) (sizes:List Int) (i:Int):Rs:=EvL C [.blk 0,.seq Zt3,.fin 0 [.tmp 8]] [3,4,6,9,10,12] Zt2 ⟨[(3,L 1 (sizes.map ic)),(4,.ptr 0 0),(6,.ptr 1 0),(9,.own 2),(10,.own 3),(12,I i)],[[]],[.box (m.c.map .t),.box (p.c.map .t),.arr 3 1 true (out.map ic),.arr 138 4 true (info.map Zh.c)]⟩
def Zt4:MCode:=.we [.m 20 11,.m 21 9,.ll 22 21,.b 23 .lss 20 22] [9,10,11,23] 23 0 (.seq (.block 1 (.reg [.m 26 10,.m 27 9,.m 28 11,.ia 29 1 27 28,.l 30 29,.b 31 .add 26 30,.m 10 31] [9,10,11])) (.reg [.m 24 11,.bk 25 .add 24 1,.m 11 25] [9,10,11]))
def Zt5:MCode:=.r [.m 32 10,.m 8 32] [8] .ret
def Z1g:MFun:=⟨4,33,[.tmp 8],.r [.bx 4 0,.bx 5 1,.bx 6 2,.mk' 8 0] [3,4,5,6] (.r [.ln 12 30 4,.ln 13 2 5,.ln 14 1 6,.m 15 3,.cl 16 241 [12,13,14,15],.m 9 16] [9] (.wc [.m 17 9,.ll 18 17,.bk 19 .eql 18 0] [9,19] 19 (.r [.mk' 8 (-1)] [8] .ret) (.r [.mk' 10 0] [9,10] (.seq (.r [.mk' 11 0] [9,10,11] (.block 0 (.loop [9,10,11] Zt4))) Zt5))))⟩
noncomputable def Zmn (a:Zd) (a1:Zb) (a2:Plan) (a3:List Int):Rs:=C 162 [.agg (a.c.map .t),.agg (a1.c.map .t),.agg (a2.c.map .t),L 1 (a3.map ic)] []
noncomputable def Zi2 (l:List Int) (n:Int) (i:Int):Rs:=EvL C [.blk 0,.seq Zt5,.fin 0 [.tmp 8]] [9,10,11] Zt4 ⟨[(9,.own 0),(10,I n),(11,I i)],[[]],[.arr 3 1 true (l.map ic)]⟩
def Z1h:MFun:=⟨4,15,[.tmp 8],.r [.bx 4 0,.bx 5 1,.bx 6 2,.mk' 8 0] [3,4,5,6] (.seq (.drw [.ln 9 30 4,.ln 10 2 5,.ln 11 1 6,.m 12 3,.cl 13 125 [12],.cl 14 162 [9,10,11,13],.m 8 14] [[],[],[],[],[3],[0,1,2,4,4],[5,5,0,1,2,3,4,5]] [8]) .ret)⟩
noncomputable def Zmo (a:Zd) (a1:Zb) (a2:Plan) (a3:List Int):Rs:=C 70 [.agg (a.c.map .t),.agg (a1.c.map .t),.agg (a2.c.map .t),L 1 (a3.map ic)] []
def Z1i:MFun:=⟨3,42,[.tmp 6],.r [.bx 3 0,.bx 4 1,.bx 5 2,.o 6 (.mov (.q false))] [3,4,5] (.seq (.drw [.ln 10 30 3,.ln 11 2 4,.ln 12 2 4,.cl 13 121 [12],.fa 14 1 5,.fa 15 0 14,.l 16 15,.cl 17 125 [16],.o 18 (.pcall 124 [.s 10,.s 11,.s 13,.s 17]),.ln 19 2 4,.cl 20 117 [19],.cl 21 123 [18,20],.m 9 21,.o 22 (.ext (.s 9) 0),.o 23 (.ext (.s 9) 1),.o 7 (.alloc [.t .z,.t .z,.t .z,.t .nil]),.st 4 7 22,.m 8 23] [[],[],[],[2],[],[4],[5],[6,3],[0,1,3,7,7],[],[9,8],[8,10,10],[11],[12],[12],[],[15,13,11,0,1,2,3,4,5,6,7,8,9,10,11,12,13,15],[14,16,0,1,2,3,4,5,6,7,8,9,10,11,12,13,14,15,16]] [3,4,5,7,8]) (.seq (.drw [.m 24 8,.m 25 24,.g 26 25 (.ln 30 3),.g 27 25 (.ln 2 4),.g 28 25 (.fa 0 5),.g 29 25 (.ln 1 28),.g 30 25 (.fa 1 5),.g 31 25 (.fa 1 30),.g 32 25 (.l 31),.g 33 25 (.cl 70 [26,27,29,32]),.g 34 25 (.bk .mul 33 100),.g 35 25 (.fa 3 5),.g 36 25 (.l 35),.g 37 25 (.fa 2 7),.g 38 25 (.l 37),.g 39 25 (.b .mul 36 38),.g 40 25 (.b .leq 34 39),.o 41 (.pick (.s 25) (.s 40) (.q false)),.m 6 41] [[],[0],[1],[1],[1],[4,1],[1],[6,1],[7,1],[2,3,5,8,1,1],[9,1],[1],[11,1],[1],[13,1],[12,14,1],[10,15,1],[1,16],[17,9,0,1,2,3,4,5,6,7,8,9,10,11,12,13,14,15,16,17]] [6]) .ret))⟩
noncomputable def Zef (a:Zd) (a1:Zb) (a2:Region):Rs:=C 118 [.agg (a.c.map .t),.agg (a1.c.map .t),.agg (a2.c.map .t)] []
def Z1j:MFun:=⟨3,26,[.tmp 6],.r [.bx 3 0,.bx 4 1,.bx 5 2,.o 6 (.mov (.q false))] [3,4,5] (.seq (.drw [.ln 7 30 3,.cl 8 88 [7],.m 9 8,.g 10 9 (.ln 2 4),.g 11 9 (.ln 2 4),.g 12 9 (.cl 117 [11]),.g 13 9 (.cl 116 [10,12]),.o 14 (.pick (.s 9) (.s 13) (.q false)),.m 15 14,.g 16 15 (.ln 2 4),.g 17 15 (.ln 4 5),.g 18 15 (.cl 44 [16,17]),.o 19 (.pick (.s 15) (.s 18) (.q false)),.m 20 19,.g 21 20 (.ln 30 3),.g 22 20 (.ln 2 4),.g 23 20 (.ln 4 5),.g 24 20 (.cl 118 [21,22,23]),.o 25 (.pick (.s 20) (.s 24) (.q false)),.m 6 25] [[],[0],[1,1],[2],[2],[4,2,2],[3,5,5,2],[2,6],[7,6],[8],[8],[9,10,8,8],[8,11],[12,11],[13],[13],[13],[14,15,16,13,13],[13,17],[18,17,0,1,2,3,4,5,6,7,8,9,10,11,12,13,14,15,16,17,18]] [6]) .ret)⟩
noncomputable def Zhe (a:Zd) (a1:Zb) (a2:Region):Rs:=C 35 [.agg (a.c.map .t),.agg (a1.c.map .t),.agg (a2.c.map .t)] []
def Zt6:MCode:=.r [.b 9 .lss 8 7] [1,3,7,8,9] (.seq (.cond (.s 9) .skip (.exit 0)) (.seq (.block 1 (.r [.m 10 8,.m 4 10] [1,3,4,7,8] (.drw [.m 11 3,.fa 12 1 1,.l 13 12,.m 14 4,.ia 15 1 13 14,.l 16 15,.fa 17 0 1,.l 18 17,.m 19 4,.ia 20 1 18 19,.l 21 20,.b 22 .sub 16 21,.bk 23 .add 22 1,.b 24 .mul 11 23,.m 3 24] [[],[],[1],[],[2,3],[4],[],[6],[],[7,8],[9],[5,10],[11],[0,12],[13,0,1,2,3,4,5,6,7,8,9,10,11,12,13]] [1,3,7,8]))) (.reg [.bk 25 .add 8 1,.m 8 25] [1,3,7,8])))
def Zt7:MCode:=.r [.m 26 3,.m 2 26] [2] .ret
def Z1k:MFun:=⟨1,27,[.tmp 2],.r [.bx 1 0,.mk' 2 0] [1] (.r [.mk' 3 1] [1,3] (.seq (.r [.fa 5 0 1,.l 6 5,.ll 7 6,.mk' 8 0] [1,3,7,8] (.block 0 (.loop [1,3,7,8] Zt6))) Zt7))⟩
noncomputable def Zmp (a:Box):Rs:=C 274 [.agg (a.c.map .t)] []
noncomputable def Zi3 (b:Box) (n:Int) (x:Int) (x1:Int):Rs:=EvL C [.blk 0,.seq Zt7,.fin 0 [.tmp 2]] [1,3,7,8] Zt6 ⟨[(1,.ptr 0 0),(3,I n),(7,I x),(8,I x1)],[[]],[.box (b.c.map .t)]⟩
def Z1l:MFun:=⟨1,9,[.tmp 2],.r [.bx 1 0,.mk' 2 0] [1] (.wc [.ln 3 2 1,.cl 4 222 [3],.o 5 (.un .not (.s 4))] [1,5] 5 (.r [.mk' 2 0] [2] .ret) (.r [.ln 6 2 1,.cl 7 274 [6],.o 8 (.mm false (.s 7) (.k 401)),.m 2 8] [2] .ret))⟩
noncomputable def Zt8 (a:Box):Rs:=C 213 [.agg (a.c.map .t)] []
def Zt9:MCode:=.we [.m 8 4,.fa 9 0 1,.l 10 9,.ll 11 10,.b 12 .lss 8 11] [1,3,4,12] 12 0 (.seq (.block 1 (.drw [.m 15 3,.fa 16 1 1,.l 17 16,.m 18 4,.ia 19 1 17 18,.l 20 19,.fa 21 0 1,.l 22 21,.m 23 4,.ia 24 1 22 23,.l 25 24,.b 26 .sub 20 25,.bk 27 .add 26 1,.b 28 .mul 15 27,.o 29 (.mm false (.k 401) (.s 28)),.m 3 29] [[],[],[1],[],[2,3],[4],[],[6],[],[7,8],[9],[5,10],[11],[0,12],[13],[14,0,1,2,3,4,5,6,7,8,9,10,11,12,13,14]] [1,3,4])) (.reg [.m 13 4,.bk 14 .add 13 1,.m 4 14] [1,3,4]))
def Zua:MCode:=.r [.m 30 3,.m 2 30] [2] .ret
def Z1m:MFun:=⟨1,31,[.tmp 2],.r [.bx 1 0,.mk' 2 0] [1] (.wc [.ln 5 2 1,.cl 6 135 [5],.o 7 (.un .not (.s 6))] [1,7] 7 (.r [.mk' 2 0] [2] .ret) (.r [.mk' 3 1] [1,3] (.seq (.r [.mk' 4 0] [1,3,4] (.block 0 (.loop [1,3,4] Zt9))) Zua)))⟩
noncomputable def Zub (a:Box):Rs:=C 45 [.agg (a.c.map .t)] []
noncomputable def Zi4 (b:Box) (n:Int) (i:Int):Rs:=EvL C [.blk 0,.seq Zua,.fin 0 [.tmp 2]] [1,3,4] Zt9 ⟨[(1,.ptr 0 0),(3,I n),(4,I i)],[[]],[.box (b.c.map .t)]⟩
def Z1n:MFun:=⟨2,9,[.tmp 3],.r [.bx 2 0,.o 3 (.mov (.q false))] [1,2] (.r [.fa 4 7 2,.l 5 4,.fa 6 7 1,.l 7 6,.b 8 .eql 5 7,.m 3 8] [3] .ret)⟩
noncomputable def Zox (a:Ze) (a1:Ze):Rs:=C 149 [.agg (a.c.map .t),.iptr (a1.c) 0] []
def Zuc:MCode:=.r [.b 9 .lss 8 7] [0,1,7,8,9] (.seq (.cond (.s 9) .skip (.exit 0)) (.seq (.block 1 (.r [.m 10 8,.m 5 10] [0,1,5,7,8] (.r [.m 11 1,.m 12 0,.m 13 5,.ia 14 8 12 13,.ln 15 8 14,.o 16 (.dcall (.s 11) [.s 15])] [0,1,5,7,8,16] (.cond (.s 16) (.r [.m 17 5,.m 4 17] [4] .ret) .skip)))) (.reg [.bk 18 .add 8 1,.m 8 18] [0,1,7,8])))
def Zud:MCode:=.r [.mk' 4 (-1)] [4] .ret
def Z1o:MFun:=⟨2,19,[.tmp 4],.r [.mk' 4 0] [0,1] (.seq (.r [.m 6 0,.ll 7 6,.mk' 8 0] [0,1,7,8] (.block 0 (.loop [0,1,7,8] Zuc))) Zud)⟩
noncomputable def Zoy (a:List Ze) (a1:Ze):Rs:=C 158 [L 8 (a.map Ze.c),.fn 149 [.iptr (a1.c) 0]] []
noncomputable def Zi5 (s:List Ze) (f:Ze) (x:Int) (x1:Int):Rs:=EvL C [.blk 0,.seq Zud,.fin 0 [.tmp 4]] [0,1,7,8] Zuc ⟨[(0,L 8 (s.map Ze.c)),(1,.fn 149 [.iptr (f.c) 0]),(7,I x),(8,I x1)],[[]],[]⟩
def Z1p:MFun:=⟨2,9,[.tmp 4],.r [.o 4 (.mov (.q false))] [0,1] (.r [.m 5 0,.m 6 1,.cl 7 158 [5,6],.bk 8 .geq 7 0,.m 4 8] [4] .ret)⟩
noncomputable def Zmq (a:List Ze) (a1:Ze):Rs:=C 148 [L 8 (a.map Ze.c),.fn 149 [.iptr (a1.c) 0]] []
def Zue:MCode:=.r [.b 21 .lss 20 19] [2,3,18,19,20,21] (.seq (.cond (.s 21) .skip (.exit 0)) (.seq (.block 1 (.r [.m 22 20,.ia 23 8 18 20,.ln 24 8 23,.o 6 (.alloc [.t .z,.t .nil,.t .nil,.t .nil,.t .nil,.t .z,.t .z,.t .z]),.m 5 22,.st 8 6 24] [2,3,5,6,18,19,20] (.wc [.fa 25 6 6,.l 26 25,.o 27 (.call 104 [.s 26,.c (.t (.int .i64 1)),.c (.t (.int .i64 999))]),.o 28 (.un .not (.s 27)),.m 29 28,.h 30 29 (.fa 7 6),.h 31 29 (.l 30),.h 32 29 (.fa 0 3),.h 33 29 (.l 32),.h 34 29 (.call 104 [.s 31,.c (.t (.int .i64 1)),.s 33]),.h 35 29 (.un .not (.s 34)),.o 36 (.pick (.s 29) (.q true) (.s 35)),.m 37 36,.h 38 37 (.ln 30 2),.h 39 37 (.fa 0 6),.h 40 37 (.ln 2 39),.h 41 37 (.fa 2 6),.h 42 37 (.ln 4 41),.h 43 37 (.cl 37 [38,40,42]),.h 44 37 (.un .not (.s 43)),.o 45 (.pick (.s 37) (.q true) (.s 44))] [2,3,5,6,18,19,20,45] 45 (.r [.o 4 (.mov (.q false))] [4] .ret) (.r [.fa 46 1 3,.l 47 46,.m 48 5,.o 49 (.slice (some 8) (.s 47) none (some (.s 48))),.o 50 (.mkfn 149 [.s 6]),.cl 51 148 [49,50]] [2,3,18,19,20,51] (.cond (.s 51) (.r [.o 4 (.mov (.q false))] [4] .ret) .skip))))) (.reg [.bk 52 .add 20 1,.m 20 52] [2,3,18,19,20])))
def Zuf:MCode:=.r [.o 4 (.mov (.q true))] [4] .ret
def Z1q:MFun:=⟨2,53,[.tmp 4],.r [.bx 2 0,.bx 3 1,.o 4 (.mov (.q false))] [2,3] (.wc [.fa 7 0 3,.l 8 7,.o 9 (.call 104 [.s 8,.c (.t .z),.c (.t (.int .i64 1000000))]),.o 10 (.un .not (.s 9)),.m 11 10,.h 12 11 (.fa 1 3),.h 13 11 (.l 12),.h 14 11 (.ll 13),.h 15 11 (.bk .gtr 14 4),.o 16 (.pick (.s 11) (.q true) (.s 15))] [2,3,16] 16 (.r [.o 4 (.mov (.q false))] [4] .ret) (.seq (.r [.fa 17 1 3,.l 18 17,.ll 19 18,.mk' 20 0] [2,3,18,19,20] (.block 0 (.loop [2,3,18,19,20] Zue))) Zuf))⟩
noncomputable def Zj4 (a:Zd) (a1:Zn):Rs:=C 55 [.agg (a.c.map .t),.agg (a1.c.map .t)] []
noncomputable def Zi6 (m:Zd) (c:Zn) (x:List Ze) (x1:Int) (x2:Int):Rs:=EvL C [.blk 0,.seq Zuf,.fin 0 [.tmp 4]] [2,3,18,19,20] Zue ⟨[(2,.ptr 0 0),(3,.ptr 1 0),(18,L 8 (x.map Ze.c)),(19,I x1),(20,I x2)],[[]],[.box (m.c.map .t),.box (c.c.map .t)]⟩
def Zug:MCode:=.we [.m 41 7,.m 42 5,.b 43 .lss 41 42] [2,3,5,6,7,43] 43 2 (.seq (.block 3 (.seq (.drw [.fa 46 1 3,.l 47 46,.m 48 7,.ia 49 8 47 48,.fa 50 7 49,.l 51 50,.fa 52 7 6,.l 53 52,.b 54 .eql 51 53] [[],[0],[],[1,2],[3],[4],[],[6],[5,7]] [2,3,5,6,7,54]) (.cond (.s 54) (.r [.o 4 (.mov (.q false))] [4] .ret) .skip))) (.reg [.m 44 7,.bk 45 .add 44 1,.m 7 45] [2,3,5,6,7]))
def Zuh:MCode:=.reg [.m 13 5,.bk 14 .add 13 1,.m 5 14] [2,3,5]
def Zoz:MCode:=.we [.m 8 5,.fa 9 1 3,.l 10 9,.ll 11 10,.b 12 .lss 8 11] [2,3,5,12] 12 0 (.seq (.block 1 (.r [.fa 15 1 3,.l 16 15,.m 17 5,.ia 18 8 16 17,.ln 19 8 18,.o 6 (.alloc [.t .z,.t .nil,.t .nil,.t .nil,.t .nil,.t .z,.t .z,.t .z]),.st 8 6 19] [2,3,5,6] (.wc [.fa 20 6 6,.l 21 20,.o 22 (.call 137 [.s 21,.c (.t (.int .i64 1)),.c (.t (.int .i64 999))]),.o 23 (.un .not (.s 22)),.m 24 23,.h 25 24 (.fa 7 6),.h 26 24 (.l 25),.h 27 24 (.fa 0 3),.h 28 24 (.l 27),.h 29 24 (.call 137 [.s 26,.c (.t (.int .i64 1)),.s 28]),.h 30 24 (.un .not (.s 29)),.o 31 (.pick (.s 24) (.q true) (.s 30)),.m 32 31,.h 33 32 (.ln 30 2),.h 34 32 (.fa 0 6),.h 35 32 (.ln 2 34),.h 36 32 (.fa 2 6),.h 37 32 (.ln 4 36),.h 38 32 (.cl 35 [33,35,37]),.h 39 32 (.un .not (.s 38)),.o 40 (.pick (.s 32) (.q true) (.s 39))] [2,3,5,6,40] 40 (.r [.o 4 (.mov (.q false))] [4] .ret) (.r [.mk' 7 0] [2,3,5,6,7] (.block 2 (.loop [2,3,5,6,7] Zug)))))) Zuh)
def Zo0:MCode:=.r [.fa 55 0 3,.l 56 55,.o 57 (.call 137 [.s 56,.c (.t .z),.c (.t (.int .i64 1000000))]),.m 58 57,.g 59 58 (.fa 1 3),.g 60 58 (.l 59),.g 61 58 (.ll 60),.g 62 58 (.bk .leq 61 4),.o 63 (.pick (.s 58) (.s 62) (.q false)),.m 4 63] [4] .ret
def Z1r:MFun:=⟨2,64,[.tmp 4],.r [.bx 2 0,.bx 3 1,.o 4 (.mov (.q false))] [2,3] (.seq (.r [.mk' 5 0] [2,3,5] (.block 0 (.loop [2,3,5] Zoz))) Zo0)⟩
noncomputable def Zj5 (a:Zd) (a1:Zn):Rs:=C 53 [.agg (a.c.map .t),.agg (a1.c.map .t)] []
noncomputable def Zhf (m:Zd) (c:Zn) (i:Int):Rs:=EvL C [.blk 0,.seq Zo0,.fin 0 [.tmp 4]] [2,3,5] Zoz ⟨[(2,.ptr 0 0),(3,.ptr 1 0),(5,I i)],[[]],[.box (m.c.map .t),.box (c.c.map .t)]⟩
noncomputable def Zi7 (m:Zd) (c:Zn) (e:Ze) (i:Int) (k:Int):Rs:=EvL C [.blk 2,.blk 1,.seq Zuh,.loop [2,3,5] Zoz,.blk 0,.seq Zo0,.fin 0 [.tmp 4]] [2,3,5,6,7] Zug ⟨[(2,.ptr 0 0),(3,.ptr 1 0),(5,I i),(6,.ptr 2 0),(7,I k)],[[]],[.box (m.c.map .t),.box (c.c.map .t),.box (e.c.map .t)]⟩
def Z1s:MFun:=⟨2,19,[.tmp 4],.r [.bx 2 0,.o 4 (.mov (.q false))] [1,2] (.r [.ln 5 2 2,.cl 6 222 [5],.m 7 6,.g 8 7 (.mov (.s 1)),.g 9 7 (.fa 0 2),.g 10 7 (.l 9),.g 11 7 (.cl 232 [8,10]),.o 12 (.pick (.s 7) (.s 11) (.q false)),.m 13 12,.g 14 13 (.fa 1 2),.g 15 13 (.l 14),.g 16 13 (.mov (.s 1)),.g 17 13 (.cl 232 [15,16]),.o 18 (.pick (.s 13) (.s 17) (.q false)),.m 4 18] [4] .ret)⟩
noncomputable def Zui (a:Box) (a1:List Int):Rs:=C 143 [.agg (a.c.map .t),L 1 (a1.map ic)] []
def Zo1:MCode:=.seq (.drw [.fa 76 1 14,.fa 77 0 76,.l 78 77,.m 79 16,.ia 80 1 78 79,.l 81 80,.fa 82 0 9,.l 83 82,.m 84 16,.ia 85 1 83 84,.l 86 85,.b 87 .gtr 81 86] [[],[0],[1],[],[2,3],[4],[],[6],[],[7,8],[9],[5,10]] [4,6,7,9,12,14,15,16,40,41,87]) (.cond (.s 87) (.r [.fa 88 1 14,.fa 89 0 88,.l 90 89,.m 91 16,.ia 92 1 90 91,.l 93 92,.bk 94 .sub 93 1,.ia 95 1 90 91,.st 1 95 94] [4,6,7,9,12,14,15,16,40,41] (.r [.ln 96 30 6,.ln 97 2 7,.ln 98 4 14,.cl 99 120 [96,97,98]] [4,6,7,9,12,14,15,16,40,41,99] (.cond (.s 99) (.reg [.o 15 (.mov (.q true))] [4,6,7,9,12,14,15,40,41]) (.reg [.fa 100 1 14,.fa 101 0 100,.l 102 101,.m 103 16,.ia 104 1 102 103,.l 105 104,.bk 106 .add 105 1,.ia 107 1 102 103,.st 1 107 106] [4,6,7,9,12,14,15,40,41])))) .skip)
def Zo2:MCode:=.r [.b 42 .lss 41 40] [4,6,7,9,12,14,15,40,41,42] (.seq (.cond (.s 42) .skip (.exit 2)) (.seq (.block 3 (.r [.m 43 41,.m 16 43] [4,6,7,9,12,14,15,16,40,41] (.seq (.seq (.drw [.fa 44 1 14,.fa 45 1 44,.l 46 45,.m 47 16,.ia 48 1 46 47,.l 49 48,.fa 50 1 9,.l 51 50,.m 52 16,.ia 53 1 51 52,.l 54 53,.b 55 .lss 49 54] [[],[0],[1],[],[2,3],[4],[],[6],[],[7,8],[9],[5,10]] [4,6,7,9,12,14,15,16,40,41,55]) (.cond (.s 55) (.r [.fa 56 1 14,.fa 57 1 56,.l 58 57,.m 59 16,.ia 60 1 58 59,.l 61 60,.bk 62 .add 61 1,.ia 63 1 58 59,.st 1 63 62] [4,6,7,9,12,14,15,16,40,41] (.r [.ln 64 30 6,.ln 65 2 7,.ln 66 4 14,.cl 67 120 [64,65,66]] [4,6,7,9,12,14,15,16,40,41,67] (.cond (.s 67) (.reg [.o 15 (.mov (.q true))] [4,6,7,9,12,14,15,16,40,41]) (.reg [.fa 68 1 14,.fa 69 1 68,.l 70 69,.m 71 16,.ia 72 1 70 71,.l 73 72,.bk 74 .sub 73 1,.ia 75 1 70 71,.st 1 75 74] [4,6,7,9,12,14,15,16,40,41])))) .skip)) Zo1))) (.reg [.bk 108 .add 41 1,.m 41 108] [4,6,7,9,12,14,15,40,41])))
def Zo3:MCode:=.we [.m 38 15] [4,6,7,9,12,14,38] 38 0 (.block 1 (.r [.o 15 (.mov (.q false))] [4,6,7,9,12,14,15] (.r [.m 39 4,.ll 40 39,.mk' 41 0] [4,6,7,9,12,14,15,40,41] (.block 2 (.loop [4,6,7,9,12,14,15,40,41] Zo2)))))
def Zo4:MCode:=.r [.ln 109 4 14,.st 4 12 109,.o 13 (.mov (.q true))] [12,13] .ret
noncomputable def Zi8 (m:Zd) (q:Zb) (limit:Box) (Percent:Int) (Percent1:Int) (x:List Zc) (x1:List Int) (x2:List Int) (location:List Int) (again:Bool):Rs:=EvL C [.blk 0,.seq Zo4,.fin 0 [.cell 12 (some 4),.tmp 13]] [4,6,7,9,12,14,15] Zo3 ⟨[(4,L 1 (location.map ic)),(6,.ptr 0 0),(7,.ptr 1 0),(9,.ptr 2 0),(12,.ptr 3 0),(14,.ptr 4 0),(15,Bo again)],[[]],[.box (m.c.map .t),.box (q.c.map .t),.box (limit.c.map .t),.box [.t .nil,.t .nil,.t .nil,I Percent],.box [.own 5,.own 6,.own 7,I Percent1],.arr 142 3 true (x.map Zc.c),.arr 3 1 true (x1.map ic),.arr 3 1 true (x2.map ic)]⟩
noncomputable def Zb1 (m:Zd) (q:Zb) (limit:Box) (Percent:Int) (Percent1:Int) (x:List Zc) (x1:List Int) (x2:List Int) (location:List Int) (again:Bool) (x3:Int) (x4:Int):Rs:=EvL C [.blk 2,.blk 1,.loop [4,6,7,9,12,14,15] Zo3,.blk 0,.seq Zo4,.fin 0 [.cell 12 (some 4),.tmp 13]] [4,6,7,9,12,14,15,40,41] Zo2 ⟨[(4,L 1 (location.map ic)),(6,.ptr 0 0),(7,.ptr 1 0),(9,.ptr 2 0),(12,.ptr 3 0),(14,.ptr 4 0),(15,Bo again),(40,I x3),(41,I x4)],[[]],[.box (m.c.map .t),.box (q.c.map .t),.box (limit.c.map .t),.box [.t .nil,.t .nil,.t .nil,I Percent],.box [.own 5,.own 6,.own 7,I Percent1],.arr 142 3 true (x.map Zc.c),.arr 3 1 true (x1.map ic),.arr 3 1 true (x2.map ic)]⟩
noncomputable def Zmr (m:Zd) (q:Zb) (limit:Box) (Percent:Int) (Percent1:Int) (x:List Zc) (x1:List Int) (x2:List Int) (location:List Int) (again:Bool) (i:Int) (x3:Int) (x4:Int):Rs:=Ev C [.blk 3,.seq (.reg [.o 108 (.bin .add (.s 41) (.k 1)),.m 41 108] [4,6,7,9,12,14,15,40,41]),.loop [4,6,7,9,12,14,15,40,41] Zo2,.blk 2,.blk 1,.loop [4,6,7,9,12,14,15] Zo3,.blk 0,.seq Zo4,.fin 0 [.cell 12 (some 4),.tmp 13]] Zo1 ⟨[(4,L 1 (location.map ic)),(6,.ptr 0 0),(7,.ptr 1 0),(9,.ptr 2 0),(12,.ptr 3 0),(14,.ptr 4 0),(15,Bo again),(16,I i),(40,I x3),(41,I x4)],[[]],[.box (m.c.map .t),.box (q.c.map .t),.box (limit.c.map .t),.box [.t .nil,.t .nil,.t .nil,I Percent],.box [.own 5,.own 6,.own 7,I Percent1],.arr 142 3 true (x.map Zc.c),.arr 3 1 true (x1.map ic),.arr 3 1 true (x2.map ic)]⟩
def Z1t:MFun:=⟨2,19,[.tmp 4],.r [.bx 2 0,.o 4 (.mov (.q false))] [1,2] (.r [.ln 5 2 2,.cl 6 135 [5],.m 7 6,.g 8 7 (.mov (.s 1)),.g 9 7 (.fa 0 2),.g 10 7 (.l 9),.g 11 7 (.cl 51 [8,10]),.o 12 (.pick (.s 7) (.s 11) (.q false)),.m 13 12,.g 14 13 (.fa 1 2),.g 15 13 (.l 14),.g 16 13 (.mov (.s 1)),.g 17 13 (.cl 51 [15,16]),.o 18 (.pick (.s 13) (.s 17) (.q false)),.m 4 18] [4] .ret)⟩
noncomputable def Zuj (a:Box) (a1:List Int):Rs:=C 50 [.agg (a.c.map .t),L 1 (a1.map ic)] []
def Zo5:MCode:=.seq (.drw [.fa 90 1 14,.fa 91 0 90,.l 92 91,.m 93 16,.ia 94 1 92 93,.l 95 94,.fa 96 0 9,.l 97 96,.m 98 16,.ia 99 1 97 98,.l 100 99,.b 101 .gtr 95 100] [[],[0],[1],[],[2,3],[4],[],[6],[],[7,8],[9],[5,10]] [4,6,7,9,12,14,15,16,101]) (.cond (.s 101) (.seq (.drw [.fa 102 1 14,.fa 103 0 102,.l 104 103,.m 105 16,.fa 106 1 14,.fa 107 0 106,.l 108 107,.m 109 16,.ia 110 1 108 109,.l 111 110,.bk 112 .sub 111 1,.ia 113 1 104 105,.st 1 113 112] [[],[0],[1],[],[],[4],[5],[],[6,7],[8],[9],[2,3,0,1,2,3,4,5,6,7,8,9,10],[11,10,0,1,2,3,4,5,6,7,8,9,10]] [4,6,7,9,12,14,15,16]) (.r [.ln 114 30 6,.ln 115 2 7,.ln 116 4 14,.cl 117 118 [114,115,116]] [4,6,7,9,12,14,15,16,117] (.cond (.s 117) (.reg [.o 15 (.mov (.q true))] [4,6,7,9,12,14,15,16]) (.drw [.fa 118 1 14,.fa 119 0 118,.l 120 119,.m 121 16,.fa 122 1 14,.fa 123 0 122,.l 124 123,.m 125 16,.ia 126 1 124 125,.l 127 126,.bk 128 .add 127 1,.ia 129 1 120 121,.st 1 129 128] [[],[0],[1],[],[],[4],[5],[],[6,7],[8],[9],[2,3,0,1,2,3,4,5,6,7,8,9,10],[11,10,0,1,2,3,4,5,6,7,8,9,10]] [4,6,7,9,12,14,15,16])))) .skip)
def Zo6:MCode:=.we [.m 44 16,.m 45 4,.ll 46 45,.b 47 .lss 44 46] [4,6,7,9,12,14,15,16,47] 47 2 (.seq (.block 3 (.seq (.seq (.drw [.fa 50 1 14,.fa 51 1 50,.l 52 51,.m 53 16,.ia 54 1 52 53,.l 55 54,.fa 56 1 9,.l 57 56,.m 58 16,.ia 59 1 57 58,.l 60 59,.b 61 .lss 55 60] [[],[0],[1],[],[2,3],[4],[],[6],[],[7,8],[9],[5,10]] [4,6,7,9,12,14,15,16,61]) (.cond (.s 61) (.seq (.drw [.fa 62 1 14,.fa 63 1 62,.l 64 63,.m 65 16,.fa 66 1 14,.fa 67 1 66,.l 68 67,.m 69 16,.ia 70 1 68 69,.l 71 70,.bk 72 .add 71 1,.ia 73 1 64 65,.st 1 73 72] [[],[0],[1],[],[],[4],[5],[],[6,7],[8],[9],[2,3,0,1,2,3,4,5,6,7,8,9,10],[11,10,0,1,2,3,4,5,6,7,8,9,10]] [4,6,7,9,12,14,15,16]) (.r [.ln 74 30 6,.ln 75 2 7,.ln 76 4 14,.cl 77 118 [74,75,76]] [4,6,7,9,12,14,15,16,77] (.cond (.s 77) (.reg [.o 15 (.mov (.q true))] [4,6,7,9,12,14,15,16]) (.drw [.fa 78 1 14,.fa 79 1 78,.l 80 79,.m 81 16,.fa 82 1 14,.fa 83 1 82,.l 84 83,.m 85 16,.ia 86 1 84 85,.l 87 86,.bk 88 .sub 87 1,.ia 89 1 80 81,.st 1 89 88] [[],[0],[1],[],[],[4],[5],[],[6,7],[8],[9],[2,3,0,1,2,3,4,5,6,7,8,9,10],[11,10,0,1,2,3,4,5,6,7,8,9,10]] [4,6,7,9,12,14,15,16])))) .skip)) Zo5)) (.reg [.m 48 16,.bk 49 .add 48 1,.m 16 49] [4,6,7,9,12,14,15,16]))
def Zo7:MCode:=.we [.m 43 15] [4,6,7,9,12,14,43] 43 0 (.block 1 (.r [.o 15 (.mov (.q false))] [4,6,7,9,12,14,15] (.r [.mk' 16 0] [4,6,7,9,12,14,15,16] (.block 2 (.loop [4,6,7,9,12,14,15,16] Zo6)))))
def Zo8:MCode:=.r [.ln 130 4 14,.st 4 12 130,.o 13 (.mov (.q true))] [12,13] .ret
noncomputable def Zi9 (m:Zd) (q:Zb) (limit:Box) (Percent:Int) (Percent1:Int) (x:List Zc) (x1:List Int) (x2:List Int) (l:List Int) (grown:Bool):Rs:=EvL C [.blk 0,.seq Zo8,.fin 0 [.cell 12 (some 4),.tmp 13]] [4,6,7,9,12,14,15] Zo7 ⟨[(4,L 1 (l.map ic)),(6,.ptr 0 0),(7,.ptr 1 0),(9,.ptr 2 0),(12,.ptr 3 0),(14,.ptr 4 0),(15,Bo grown)],[[]],[.box (m.c.map .t),.box (q.c.map .t),.box (limit.c.map .t),.box [.t .nil,.t .nil,.t .nil,I Percent],.box [.own 5,.own 6,.own 7,I Percent1],.arr 142 3 true (x.map Zc.c),.arr 3 1 true (x1.map ic),.arr 3 1 true (x2.map ic)]⟩
noncomputable def Zb2 (m:Zd) (q:Zb) (limit:Box) (Percent:Int) (Percent1:Int) (x:List Zc) (x1:List Int) (x2:List Int) (l:List Int) (grown:Bool) (k:Int):Rs:=EvL C [.blk 2,.blk 1,.loop [4,6,7,9,12,14,15] Zo7,.blk 0,.seq Zo8,.fin 0 [.cell 12 (some 4),.tmp 13]] [4,6,7,9,12,14,15,16] Zo6 ⟨[(4,L 1 (l.map ic)),(6,.ptr 0 0),(7,.ptr 1 0),(9,.ptr 2 0),(12,.ptr 3 0),(14,.ptr 4 0),(15,Bo grown),(16,I k)],[[]],[.box (m.c.map .t),.box (q.c.map .t),.box (limit.c.map .t),.box [.t .nil,.t .nil,.t .nil,I Percent],.box [.own 5,.own 6,.own 7,I Percent1],.arr 142 3 true (x.map Zc.c),.arr 3 1 true (x1.map ic),.arr 3 1 true (x2.map ic)]⟩
noncomputable def Zms (m:Zd) (q:Zb) (limit:Box) (Percent:Int) (Percent1:Int) (x:List Zc) (x1:List Int) (x2:List Int) (l:List Int) (grown:Bool) (k:Int):Rs:=Ev C [.blk 3,.seq (.reg [.m 48 16,.o 49 (.bin .add (.s 48) (.k 1)),.m 16 49] [4,6,7,9,12,14,15,16]),.loop [4,6,7,9,12,14,15,16] Zo6,.blk 2,.blk 1,.loop [4,6,7,9,12,14,15] Zo7,.blk 0,.seq Zo8,.fin 0 [.cell 12 (some 4),.tmp 13]] Zo5 ⟨[(4,L 1 (l.map ic)),(6,.ptr 0 0),(7,.ptr 1 0),(9,.ptr 2 0),(12,.ptr 3 0),(14,.ptr 4 0),(15,Bo grown),(16,I k)],[[]],[.box (m.c.map .t),.box (q.c.map .t),.box (limit.c.map .t),.box [.t .nil,.t .nil,.t .nil,I Percent],.box [.own 5,.own 6,.own 7,I Percent1],.arr 142 3 true (x.map Zc.c),.arr 3 1 true (x1.map ic),.arr 3 1 true (x2.map ic)]⟩
def Zmt:MCode:=.r [.b 13 .lss 12 11] [2,3,10,11,12,13] (.seq (.cond (.s 13) .skip (.exit 0)) (.seq (.block 1 (.r [.ia 14 2 10 12,.ln 15 2 14,.o 5 (.alloc [.t (.str ⟨#[]⟩),.t .nil]),.st 2 5 15] [2,3,5,10,11,12] (.drw [.fa 16 1 3,.l 17 16,.fa 18 0 5,.l 19 18,.fa 20 1 5,.l 21 20,.cl 22 142 [21],.o 23 (.build [.t (.str ⟨#[]⟩),.t .nil] [(0,1,.s 19),(1,1,.s 22)]),.o 24 (.bslice 223 2 1 [.str ⟨#[]⟩,.lst 1 []] [(0,.s 23)]),.o 25 (.append 223 2 40 true (.s 17) (.s 24)),.fa 26 1 3,.st 1 26 25] [[],[0],[],[2],[],[4],[5],[3,6],[7],[1,8,6],[0,1,2,3,4,5,6,7,8,9],[10,9,9,0,1,2,3,4,5,6,7,8,9]] [2,3,10,11,12]))) (.reg [.bk 27 .add 12 1,.m 12 27] [2,3,10,11,12])))
def Zmu:MCode:=.r [.ln 28 2 3,.st 2 2 28] [2] .ret
def Z1u:MFun:=⟨1,29,[.cell 2 (some 2)],.r [.bx 1 0,.o 2 (.alloc [.t .z,.t .nil])] [1,2] (.r [.fa 6 0 1,.l 7 6,.o 8 (.build [.t .z,.t .nil] [(0,1,.s 7)]),.o 3 (.alloc [.t .z,.t .nil]),.st 2 3 8] [1,2,3] (.seq (.r [.fa 9 1 1,.l 10 9,.ll 11 10,.mk' 12 0] [2,3,10,11,12] (.block 0 (.loop [2,3,10,11,12] Zmt))) Zmu))⟩
noncomputable def Zci (a:Zb):Rs:=C 166 [.agg (a.c.map .t)] []
noncomputable def Zo9 (Zf:Int) (VariableCount1:Int) (x:List Atom) (x1:Int) (x2:Int):Rs:=EvL C [.blk 0,.seq Zmu,.fin 0 [.cell 2 (some 2)]] [2,3,10,11,12] Zmt ⟨[(2,.ptr 0 0),(3,.ptr 1 0),(10,L 2 (x.map Atom.c)),(11,I x1),(12,I x2)],[[]],[.box [I Zf,.t .nil],.box [I VariableCount1,.t .nil]]⟩
noncomputable def Zja (Zf:Int) (VariableCount1:Int) (x:List Atom) (x1:List Atom) (x2:Int) (x3:Int):Rs:=EvL C [.blk 0,.seq Zmu,.fin 0 [.cell 2 (some 2)]] [2,3,10,11,12] Zmt ⟨[(2,.ptr 0 0),(3,.ptr 1 0),(10,L 2 (x1.map Atom.c)),(11,I x2),(12,I x3)],[[]],[.box [I Zf,.t .nil],.box [I VariableCount1,.own 2],.arr 223 2 true (x.map Atom.c)]⟩
def Z1v:MFun:=⟨1,10,[.cell 2 (some 2)],.r [.bx 1 0,.o 2 (.alloc [.t .nil,.t .nil])] [1,2] (.seq (.drw [.fa 3 0 1,.l 4 3,.cl 5 142 [4],.fa 6 1 1,.l 7 6,.cl 8 142 [7],.o 9 (.build [.t .nil,.t .nil] [(0,1,.s 5),(1,1,.s 8)]),.st 2 2 9] [[],[0],[1],[],[3],[4,2],[2,5],[6,5,0,1,2,3,4,5,6]] [2]) .ret)⟩
noncomputable def Zmv (a:Box):Rs:=C 244 [.agg (a.c.map .t)] []
def Z1w:MFun:=⟨1,12,[.cell 2 (some 4)],.r [.bx 1 0,.o 2 (.alloc [.t .nil,.t .nil,.t .nil,.t .z])] [1,2] (.seq (.drw [.fa 3 0 1,.ln 4 1 3,.cl 5 141 [4],.fa 6 1 1,.ln 7 2 6,.cl 8 244 [7],.fa 9 3 1,.l 10 9,.o 11 (.build [.t .nil,.t .nil,.t .nil,.t .z] [(0,1,.s 5),(1,2,.s 8),(3,1,.s 10)]),.st 4 2 11] [[],[0],[1],[],[3],[4,2],[],[6],[2,5,7],[8,5,0,1,2,3,4,5,6,7,8]] [2]) .ret)⟩
noncomputable def Zcj (a:Region):Rs:=C 167 [.agg (a.c.map .t)] []
def Zmw:MCode:=.r [.b 13 .lss 12 11] [2,3,10,11,12,13] (.seq (.cond (.s 13) .skip (.exit 0)) (.seq (.block 1 (.r [.ia 14 8 10 12,.ln 15 8 14,.o 5 (.alloc [.t .z,.t .nil,.t .nil,.t .nil,.t .nil,.t .z,.t .z,.t .z]),.st 8 5 15] [2,3,5,10,11,12] (.drw [.fa 16 1 3,.l 17 16,.fa 18 0 5,.ln 19 2 18,.cl 20 166 [19],.fa 21 2 5,.ln 22 4 21,.cl 23 167 [22],.fa 24 6 5,.l 25 24,.fa 26 7 5,.l 27 26,.o 28 (.build [.t .z,.t .nil,.t .nil,.t .nil,.t .nil,.t .z,.t .z,.t .z] [(0,2,.s 20),(2,4,.s 23),(6,1,.s 25),(7,1,.s 27)]),.o 29 (.bslice 114 8 1 [.z,.lst 2 [],.lst 3 [],.lst 1 [],.lst 1 [],.z,.z,.z] [(0,.s 28)]),.o 30 (.append 114 8 128 true (.s 17) (.s 29)),.fa 31 1 3,.st 1 31 30] [[],[0],[],[2],[3],[],[5],[6,4],[],[8],[],[10],[4,7,9,11],[12],[1,13,7],[0,1,2,3,4,5,6,7,8,9,10,11,12,13,14],[15,14,14,0,1,2,3,4,5,6,7,8,9,10,11,12,13,14]] [2,3,10,11,12]))) (.reg [.bk 32 .add 12 1,.m 12 32] [2,3,10,11,12])))
def Zmx:MCode:=.r [.ln 33 2 3,.st 2 2 33] [2] .ret
def Z1x:MFun:=⟨1,34,[.cell 2 (some 2)],.r [.bx 1 0,.o 2 (.alloc [.t .z,.t .nil])] [1,2] (.r [.fa 6 0 1,.l 7 6,.o 8 (.build [.t .z,.t .nil] [(0,1,.s 7)]),.o 3 (.alloc [.t .z,.t .nil]),.st 2 3 8] [1,2,3] (.seq (.r [.fa 9 1 1,.l 10 9,.ll 11 10,.mk' 12 0] [2,3,10,11,12] (.block 0 (.loop [2,3,10,11,12] Zmw))) Zmx))⟩
noncomputable def Zj6 (a:Zn):Rs:=C 154 [.agg (a.c.map .t)] []
noncomputable def Zpa (Clock:Int) (Clock1:Int) (x:List Ze) (x1:Int) (x2:Int):Rs:=EvL C [.blk 0,.seq Zmx,.fin 0 [.cell 2 (some 2)]] [2,3,10,11,12] Zmw ⟨[(2,.ptr 0 0),(3,.ptr 1 0),(10,L 8 (x.map Ze.c)),(11,I x1),(12,I x2)],[[]],[.box [I Clock,.t .nil],.box [I Clock1,.t .nil]]⟩
noncomputable def Zfx (Clock:Int) (Clock1:Int) (x:List Ze) (x1:List Ze) (x2:Int) (x3:Int):Rs:=EvL C [.blk 0,.seq Zmx,.fin 0 [.cell 2 (some 2)]] [2,3,10,11,12] Zmw ⟨[(2,.ptr 0 0),(3,.ptr 1 0),(10,L 8 (x1.map Ze.c)),(11,I x2),(12,I x3)],[[]],[.box [I Clock,.t .nil],.box [I Clock1,.own 2],.arr 114 8 true (x.map Ze.c)]⟩
def Z1y:MCode:=.reg [.bk 28 .add 9 1,.m 9 28] [1,3,7,8,9]
def Zuk:MCode:=.r [.b 10 .lss 9 8] [1,3,7,8,9,10] (.seq (.cond (.s 10) .skip (.exit 0)) (.seq (.block 1 (.r [.m 11 9,.ia 12 8 7 9,.ln 13 8 12,.o 5 (.alloc [.t .z,.t .nil,.t .nil,.t .nil,.t .nil,.t .z,.t .z,.t .z]),.m 4 11,.st 8 5 13] [1,3,4,5,7,8,9] (.seq (.drw [.m 14 3,.bk 15 .lss 14 0,.m 16 15,.h 17 16 (.fa 7 5),.h 18 16 (.l 17),.h 19 16 (.fa 1 1),.h 20 16 (.l 19),.h 21 16 (.mov (.s 3)),.h 22 16 (.ia 8 20 21),.h 23 16 (.fa 7 22),.h 24 16 (.l 23),.h 25 16 (.b .lss 18 24),.o 26 (.pick (.s 16) (.q true) (.s 25))] [[],[0],[1],[2],[3,2],[2],[5,2],[2],[6,7,2],[8,2],[9,2],[4,10,2],[2,11]] [1,3,4,7,8,9,26]) (.cond (.s 26) (.reg [.m 27 4,.m 3 27] [1,3,7,8,9]) .skip)))) Z1y))
def Zul:MCode:=.r [.m 29 3,.m 2 29] [2] .ret
def Z1z:MFun:=⟨1,30,[.tmp 2],.r [.bx 1 0,.mk' 2 0] [1] (.r [.mk' 3 (-1)] [1,3] (.seq (.r [.fa 6 1 1,.l 7 6,.ll 8 7,.mk' 9 0] [1,3,7,8,9] (.block 0 (.loop [1,3,7,8,9] Zuk))) Zul))⟩
noncomputable def Zmy (a:Zn):Rs:=C 76 [.agg (a.c.map .t)] []
noncomputable def Zfy (c:Zn) (best:Int) (x:List Ze) (x1:Int) (x2:Int):Rs:=EvL C [.blk 0,.seq Zul,.fin 0 [.tmp 2]] [1,3,7,8,9] Zuk ⟨[(1,.ptr 0 0),(3,I best),(7,L 8 (x.map Ze.c)),(8,I x1),(9,I x2)],[[]],[.box (c.c.map .t)]⟩
noncomputable def Zpb (x:List Ze) (a:Int) (a1:Int):Rs:=C 165 [.own 0,I a,I a1] [.arr 114 8 true (x.map Ze.c)]
def Z10:MCode:=.seq (.drw [.fa 55 1 12,.l 56 55,.ln 57 2 7,.cl 58 166 [57],.ln 59 4 9,.cl 60 167 [59],.m 61 3,.fa 62 0 12,.l 63 62,.o 64 (.build [.t .z,.t .nil,.t .nil,.t .nil,.t .nil,.t .z,.t .z,.t .z] [(0,2,.s 58),(2,4,.s 60),(6,1,.s 61),(7,1,.s 63)]),.o 65 (.bslice 114 8 1 [.z,.lst 2 [],.lst 3 [],.lst 1 [],.lst 1 [],.z,.z,.z] [(0,.s 64)]),.o 66 (.append 114 8 128 true (.s 56) (.s 65)),.fa 67 1 12,.st 1 67 66] [[],[0],[],[2],[],[4,3],[],[],[7],[3,5,6,8],[9],[1,10,5],[0,1,2,3,4,5,6,7,8,9,10,11],[12,11,11,0,1,2,3,4,5,6,7,8,9,10,11]] [10,12]) (.r [.ln 68 2 12,.st 2 10 68,.o 11 (.mov (.q true))] [10,11] .ret)
def Z11:MFun:=⟨5,69,[.cell 10 (some 2),.tmp 11],.r [.bx 5 0,.bx 6 1,.bx 7 2,.bx 9 4,.o 10 (.alloc [.t .z,.t .nil]),.o 11 (.mov (.q false))] [3,5,6,7,9,10] (.r [.ln 14 2 6,.cl 15 154 [14],.o 12 (.alloc [.t .z,.t .nil]),.st 2 12 15] [3,5,6,7,9,10,12] (.wc [.ln 16 30 5,.ln 17 2 6,.cl 18 55 [16,17],.o 19 (.un .not (.s 18)),.m 20 19,.h 21 20 (.ln 30 5),.h 22 20 (.ln 2 7),.h 23 20 (.ln 4 9),.h 24 20 (.cl 37 [21,22,23]),.h 25 20 (.un .not (.s 24)),.o 26 (.pick (.s 20) (.q true) (.s 25)),.m 27 26,.h 28 27 (.mov (.s 3)),.h 29 27 (.call 104 [.s 28,.c (.t (.int .i64 1)),.c (.t (.int .i64 999))]),.h 30 27 (.un .not (.s 29)),.o 31 (.pick (.s 27) (.q true) (.s 30)),.m 32 31,.h 33 32 (.fa 0 6),.h 34 32 (.l 33),.h 35 32 (.bk .eql 34 1000000),.o 36 (.pick (.s 32) (.q true) (.s 35))] [3,7,9,10,12,36] 36 (.r [.ln 37 2 12,.st 2 10 37,.o 11 (.mov (.q false))] [10,11] .ret) (.r [.fa 38 0 12,.l 39 38,.bk 40 .add 39 1,.fa 41 0 12,.st 1 41 40] [3,7,9,10,12] (.wc [.fa 42 1 12,.l 43 42,.ll 44 43,.bk 45 .eql 44 4] [3,7,9,10,12,45] 45 (.r [.ln 46 2 12,.cl 47 76 [46],.m 13 47] [3,7,9,10,12,13] (.reg [.fa 48 1 12,.l 49 48,.m 50 13,.m 51 13,.bk 52 .add 51 1,.o 53 (.icall 165 [.s 49,.s 50,.s 52]),.fa 54 1 12,.st 1 54 53] [3,7,9,10,12])) Z10))))⟩
noncomputable def Zpc (a:Zd) (a1:Zn) (a2:Zb) (a3:Int) (a4:Region):Rs:=C 73 [.agg (a.c.map .t),.agg (a1.c.map .t),.agg (a2.c.map .t),I a3,.agg (a4.c.map .t)] []
def Zmz:MCode:=.we [.m 8 4,.fa 9 1 1,.l 10 9,.ll 11 10,.b 12 .lss 8 11] [1,2,3,4,12] 12 0 (.seq (.block 1 (.drw [.fa 15 1 3,.l 16 15,.fa 17 1 1,.l 18 17,.m 19 4,.ia 20 2 18 19,.fa 21 0 20,.l 22 21,.o 23 (.bslice 3 1 0 [.z] []),.fa 24 1 1,.l 25 24,.m 26 4,.ia 27 2 25 26,.fa 28 1 27,.l 29 28,.o 30 (.append 3 1 8 false (.s 23) (.s 29)),.o 31 (.build [.t (.str ⟨#[]⟩),.t .nil] [(0,1,.s 22),(1,1,.s 30)]),.o 32 (.bslice 223 2 1 [.str ⟨#[]⟩,.lst 1 []] [(0,.s 31)]),.o 33 (.append 223 2 40 true (.s 16) (.s 32)),.fa 34 1 3,.st 1 34 33] [[],[0],[],[2],[],[3,4],[5],[6],[],[],[9],[],[10,11],[12],[13],[8,14],[7,15],[16],[1,17,15],[0,1,2,3,4,5,6,7,8,9,10,11,12,13,14,15,16,17,18],[19,18,18,0,1,2,3,4,5,6,7,8,9,10,11,12,13,14,15,16,17,18]] [1,2,3,4])) (.reg [.m 13 4,.bk 14 .add 13 1,.m 4 14] [1,2,3,4]))
def Zm0:MCode:=.r [.ln 35 2 3,.st 2 2 35] [2] .ret
def Z12:MFun:=⟨1,36,[.cell 2 (some 2)],.r [.bx 1 0,.o 2 (.alloc [.t .z,.t .nil])] [1,2] (.r [.fa 5 0 1,.l 6 5,.o 7 (.build [.t .z,.t .nil] [(0,1,.s 6)]),.o 3 (.alloc [.t .z,.t .nil]),.st 2 3 7] [1,2,3] (.seq (.r [.mk' 4 0] [1,2,3,4] (.block 0 (.loop [1,2,3,4] Zmz))) Zm0))⟩
noncomputable def Zdr (a:Zb):Rs:=C 168 [.agg (a.c.map .t)] []
noncomputable def Zpd (q:Zb) (Zf:Int) (VariableCount1:Int) (i:Int):Rs:=EvL C [.blk 0,.seq Zm0,.fin 0 [.cell 2 (some 2)]] [1,2,3,4] Zmz ⟨[(1,.ptr 0 0),(2,.ptr 1 0),(3,.ptr 2 0),(4,I i)],[[]],[.box (q.c.map .t),.box [I Zf,.t .nil],.box [I VariableCount1,.t .nil]]⟩
noncomputable def Zjb (q:Zb) (Zf:Int) (VariableCount1:Int) (x:List Atom) (i:Int):Rs:=EvL C [.blk 0,.seq Zm0,.fin 0 [.cell 2 (some 2)]] [1,2,3,4] Zmz ⟨[(1,.ptr 0 0),(2,.ptr 1 0),(3,.ptr 2 0),(4,I i)],[[]],[.box (q.c.map .t),.box [I Zf,.t .nil],.box [I VariableCount1,.own 3],.arr 223 2 true (x.map Atom.c)]⟩
def Z13:MFun:=⟨1,12,[.cell 2 (some 2)],.r [.bx 1 0,.o 2 (.alloc [.t .nil,.t .nil])] [1,2] (.seq (.drw [.o 3 (.bslice 3 1 0 [.z] []),.fa 4 0 1,.l 5 4,.o 6 (.append 3 1 8 false (.s 3) (.s 5)),.o 7 (.bslice 3 1 0 [.z] []),.fa 8 1 1,.l 9 8,.o 10 (.append 3 1 8 false (.s 7) (.s 9)),.o 11 (.build [.t .nil,.t .nil] [(0,1,.s 6),(1,1,.s 10)]),.st 2 2 11] [[],[],[1],[0,2],[],[],[5],[4,6,3],[3,7],[8,7,0,1,2,3,4,5,6,7,8]] [2]) .ret)⟩
noncomputable def Zm1 (a:Box):Rs:=C 218 [.agg (a.c.map .t)] []
def Z14:MFun:=⟨1,15,[.cell 2 (some 4)],.r [.bx 1 0,.o 2 (.alloc [.t .nil,.t .nil,.t .nil,.t .z])] [1,2] (.seq (.drw [.o 3 (.bslice 142 3 0 [.z,.z,.z] []),.fa 4 0 1,.fa 5 0 4,.l 6 5,.o 7 (.append 142 3 24 false (.s 3) (.s 6)),.o 8 (.build [.t .nil] [(0,1,.s 7)]),.fa 9 1 1,.ln 10 2 9,.cl 11 218 [10],.fa 12 3 1,.l 13 12,.o 14 (.build [.t .nil,.t .nil,.t .nil,.t .z] [(0,1,.s 8),(1,2,.s 11),(3,1,.s 13)]),.st 4 2 14] [[],[],[1],[2],[0,3],[4],[],[6],[7,4],[],[9],[5,8,10],[11,8,0,1,2,3,4,5,6,7,8,9,10,11]] [2]) .ret)⟩
noncomputable def Zds (a:Region):Rs:=C 169 [.agg (a.c.map .t)] []
def Z15:MFun:=⟨1,14,[.cell 2 (some 8)],.r [.bx 1 0,.o 2 (.alloc [.t .z,.t .nil,.t .nil,.t .nil,.t .nil,.t .z,.t .z,.t .z])] [1,2] (.seq (.drw [.fa 3 0 1,.ln 4 2 3,.cl 5 168 [4],.fa 6 2 1,.ln 7 4 6,.cl 8 169 [7],.fa 9 6 1,.l 10 9,.fa 11 7 1,.l 12 11,.o 13 (.build [.t .z,.t .nil,.t .nil,.t .nil,.t .nil,.t .z,.t .z,.t .z] [(0,2,.s 5),(2,4,.s 8),(6,1,.s 10),(7,1,.s 12)]),.st 8 2 13] [[],[0],[1],[],[3],[4,2],[],[6],[],[8],[2,5,7,9],[10,5,0,1,2,3,4,5,6,7,8,9,10]] [2]) .ret)⟩
noncomputable def Zey (a:Ze):Rs:=C 174 [.agg (a.c.map .t)] []
def Zm2:MCode:=.we [.m 9 4,.fa 10 1 1,.l 11 10,.ll 12 11,.b 13 .lss 9 12] [1,2,3,4,13] 13 0 (.seq (.block 1 (.r [.fa 16 1 1,.l 17 16,.m 18 4,.ia 19 8 17 18,.ln 20 8 19,.cl 21 174 [20],.o 5 (.alloc [.t .z,.t .nil,.t .nil,.t .nil,.t .nil,.t .z,.t .z,.t .z]),.st 8 5 21] [1,2,3,4,5] (.reg [.fa 22 1 3,.l 23 22,.ln 24 8 5,.o 25 (.bslice 114 8 1 [.z,.lst 2 [],.lst 3 [],.lst 1 [],.lst 1 [],.z,.z,.z] [(0,.s 24)]),.o 26 (.append 114 8 128 true (.s 23) (.s 25)),.fa 27 1 3,.st 1 27 26] [1,2,3,4]))) (.reg [.m 14 4,.bk 15 .add 14 1,.m 4 15] [1,2,3,4]))
def Zm3:MCode:=.r [.ln 28 2 3,.st 2 2 28] [2] .ret
def Z16:MFun:=⟨1,29,[.cell 2 (some 2)],.r [.bx 1 0,.o 2 (.alloc [.t .z,.t .nil])] [1,2] (.r [.fa 6 0 1,.l 7 6,.o 8 (.build [.t .z,.t .nil] [(0,1,.s 7)]),.o 3 (.alloc [.t .z,.t .nil]),.st 2 3 8] [1,2,3] (.seq (.r [.mk' 4 0] [1,2,3,4] (.block 0 (.loop [1,2,3,4] Zm2))) Zm3))⟩
noncomputable def Zj7 (a:Zn):Rs:=C 155 [.agg (a.c.map .t)] []
noncomputable def Zpe (c:Zn) (Clock:Int) (Clock1:Int) (i:Int):Rs:=EvL C [.blk 0,.seq Zm3,.fin 0 [.cell 2 (some 2)]] [1,2,3,4] Zm2 ⟨[(1,.ptr 0 0),(2,.ptr 1 0),(3,.ptr 2 0),(4,I i)],[[]],[.box (c.c.map .t),.box [I Clock,.t .nil],.box [I Clock1,.t .nil]]⟩
noncomputable def Zfz (c:Zn) (Clock:Int) (Clock1:Int) (x:List Ze) (i:Int):Rs:=EvL C [.blk 0,.seq Zm3,.fin 0 [.cell 2 (some 2)]] [1,2,3,4] Zm2 ⟨[(1,.ptr 0 0),(2,.ptr 1 0),(3,.ptr 2 0),(4,I i)],[[]],[.box (c.c.map .t),.box [I Clock,.t .nil],.box [I Clock1,.own 3],.arr 114 8 true (x.map Ze.c)]⟩
def Z17:MCode:=.reg [.m 10 4,.bk 11 .add 10 1,.m 4 11] [1,3,4]
def Zum:MCode:=.we [.m 5 4,.fa 6 1 1,.l 7 6,.ll 8 7,.b 9 .lss 5 8] [1,3,4,9] 9 0 (.seq (.block 1 (.seq (.drw [.m 12 3,.bk 13 .lss 12 0,.m 14 13,.h 15 14 (.fa 1 1),.h 16 14 (.l 15),.h 17 14 (.mov (.s 4)),.h 18 14 (.ia 8 16 17),.h 19 14 (.fa 7 18),.h 20 14 (.l 19),.h 21 14 (.fa 1 1),.h 22 14 (.l 21),.h 23 14 (.mov (.s 3)),.h 24 14 (.ia 8 22 23),.h 25 14 (.fa 7 24),.h 26 14 (.l 25),.h 27 14 (.b .lss 20 26),.o 28 (.pick (.s 14) (.q true) (.s 27))] [[],[0],[1],[2],[3,2],[2],[4,5,2],[6,2],[7,2],[2],[9,2],[2],[10,11,2],[12,2],[13,2],[8,14,2],[2,15]] [1,3,4,28]) (.cond (.s 28) (.reg [.m 29 4,.m 3 29] [1,3,4]) .skip))) Z17)
def Zun:MCode:=.r [.m 30 3,.m 2 30] [2] .ret
def Z18:MFun:=⟨1,31,[.tmp 2],.r [.bx 1 0,.mk' 2 0] [1] (.r [.mk' 3 (-1)] [1,3] (.seq (.r [.mk' 4 0] [1,3,4] (.block 0 (.loop [1,3,4] Zum))) Zun))⟩
noncomputable def Zm4 (a:Zn):Rs:=C 77 [.agg (a.c.map .t)] []
noncomputable def Zf0 (c:Zn) (best:Int) (i:Int):Rs:=EvL C [.blk 0,.seq Zun,.fin 0 [.tmp 2]] [1,3,4] Zum ⟨[(1,.ptr 0 0),(3,I best),(4,I i)],[[]],[.box (c.c.map .t)]⟩
def Zuo:MCode:=.reg [.m 56 15,.bk 57 .add 56 1,.m 15 57] [3,7,9,10,12,13,14,15]
def Zm5:MCode:=.we [.m 51 15,.fa 52 1 12,.l 53 52,.ll 54 53,.b 55 .lss 51 54] [3,7,9,10,12,13,14,15,55] 55 0 (.seq (.block 1 (.r [.m 58 15,.m 59 13,.b 60 .neq 58 59] [3,7,9,10,12,13,14,15,60] (.cond (.s 60) (.reg [.m 61 14,.fa 62 1 12,.l 63 62,.m 64 15,.ia 65 8 63 64,.ln 66 8 65,.o 67 (.bslice 114 8 1 [.z,.lst 2 [],.lst 3 [],.lst 1 [],.lst 1 [],.z,.z,.z] [(0,.s 66)]),.o 68 (.append 114 8 128 true (.s 61) (.s 67)),.m 14 68] [3,7,9,10,12,13,14,15]) .skip))) Zuo)
def Zm6:MCode:=.seq (.drw [.m 69 14,.ln 70 2 7,.cl 71 168 [70],.ln 72 4 9,.cl 73 169 [72],.m 74 3,.fa 75 0 12,.l 76 75,.o 77 (.build [.t .z,.t .nil,.t .nil,.t .nil,.t .nil,.t .z,.t .z,.t .z] [(0,2,.s 71),(2,4,.s 73),(6,1,.s 74),(7,1,.s 76)]),.o 78 (.bslice 114 8 1 [.z,.lst 2 [],.lst 3 [],.lst 1 [],.lst 1 [],.z,.z,.z] [(0,.s 77)]),.o 79 (.append 114 8 128 true (.s 69) (.s 78)),.fa 80 1 12,.st 1 80 79] [[],[],[1],[],[3,2],[],[],[6],[2,4,5,7],[8],[0,9,4],[0,1,2,3,4,5,6,7,8,9,10],[11,10,10,0,1,2,3,4,5,6,7,8,9,10]] [10,12]) (.r [.ln 81 2 12,.st 2 10 81,.o 11 (.mov (.q true))] [10,11] .ret)
def Z19:MCode:=.r [.o 50 (.bslice 114 8 0 [.z,.lst 2 [],.lst 3 [],.lst 1 [],.lst 1 [],.z,.z,.z] []),.m 14 50] [3,7,9,10,12,13,14] (.seq (.r [.mk' 15 0] [3,7,9,10,12,13,14,15] (.block 0 (.loop [3,7,9,10,12,13,14,15] Zm5))) Zm6)
def Z2a:MFun:=⟨5,82,[.cell 10 (some 2),.tmp 11],.r [.bx 5 0,.bx 6 1,.bx 7 2,.bx 9 4,.o 10 (.alloc [.t .z,.t .nil]),.o 11 (.mov (.q false))] [3,5,6,7,9,10] (.r [.ln 16 2 6,.cl 17 155 [16],.o 12 (.alloc [.t .z,.t .nil]),.st 2 12 17] [3,5,6,7,9,10,12] (.wc [.ln 18 30 5,.ln 19 2 6,.cl 20 53 [18,19],.o 21 (.un .not (.s 20)),.m 22 21,.h 23 22 (.ln 30 5),.h 24 22 (.ln 2 7),.h 25 22 (.ln 4 9),.h 26 22 (.cl 35 [23,24,25]),.h 27 22 (.un .not (.s 26)),.o 28 (.pick (.s 22) (.q true) (.s 27)),.m 29 28,.h 30 29 (.mov (.s 3)),.h 31 29 (.call 137 [.s 30,.c (.t (.int .i64 1)),.c (.t (.int .i64 999))]),.h 32 29 (.un .not (.s 31)),.o 33 (.pick (.s 29) (.q true) (.s 32)),.m 34 33,.h 35 34 (.fa 0 6),.h 36 34 (.l 35),.h 37 34 (.bk .eql 36 1000000),.o 38 (.pick (.s 34) (.q true) (.s 37))] [3,7,9,10,12,38] 38 (.r [.ln 39 2 12,.st 2 10 39,.o 11 (.mov (.q false))] [10,11] .ret) (.r [.fa 40 0 12,.l 41 40,.bk 42 .add 41 1,.fa 43 0 12,.st 1 43 42] [3,7,9,10,12] (.r [.mk' 13 (-1)] [3,7,9,10,12,13] (.wc [.fa 44 1 12,.l 45 44,.ll 46 45,.bk 47 .eql 46 4] [3,7,9,10,12,13,47] 47 (.reg [.ln 48 2 12,.cl 49 77 [48],.m 13 49] [3,7,9,10,12,13]) Z19)))))⟩
noncomputable def Zpf (a:Zd) (a1:Zn) (a2:Zb) (a3:Int) (a4:Region):Rs:=C 74 [.agg (a.c.map .t),.agg (a1.c.map .t),.agg (a2.c.map .t),I a3,.agg (a4.c.map .t)] []
noncomputable def Zj8 (q:Zb) (r_1:Region) (Clock:Int) (Clock1:Int) (l:List Ze) (version:Int) (old:Int) (i:Int):Rs:=EvL C [.blk 0,.seq Zm6,.fin 0 [.cell 10 (some 2),.tmp 11]] [3,7,9,10,12,13,14,15] Zm5 ⟨[(3,I version),(7,.ptr 0 0),(9,.ptr 1 0),(10,.ptr 2 0),(12,.ptr 3 0),(13,I old),(14,.own 4),(15,I i)],[[]],[.box (q.c.map .t),.box (r_1.c.map .t),.box [I Clock,.t .nil],.box [I Clock1,.t .nil],.arr 114 8 true (l.map Ze.c)]⟩
noncomputable def Zf1 (q:Zb) (r_1:Region) (Clock:Int) (Clock1:Int) (x:List Ze) (fr:Bool) (l:List Ze) (version:Int) (old:Int) (i:Int):Rs:=EvL C [.blk 0,.seq Zm6,.fin 0 [.cell 10 (some 2),.tmp 11]] [3,7,9,10,12,13,14,15] Zm5 ⟨[(3,I version),(7,.ptr 0 0),(9,.ptr 1 0),(10,.ptr 2 0),(12,.ptr 3 0),(13,I old),(14,.own 5),(15,I i)],[[]],[.box (q.c.map .t),.box (r_1.c.map .t),.box [I Clock,.t .nil],.box [I Clock1,.own 4],.arr 114 8 true (x.map Ze.c),.arr 114 8 fr (l.map Ze.c)]⟩
theorem Zbav:tbl 104=some Zxt:=tblOf_eq Tryz.func104 (by kernel_rfl) (by kernel_rfl)
theorem Zbaw:tbl 219=some Zxu:=tblOf_eq Tryz.func219 (by kernel_rfl) (by kernel_rfl)
theorem Zbax:tbl 279=some Zxv:=tblOf_eq Tryz.func279 (by kernel_rfl) (by kernel_rfl)
theorem Zbay:tbl 220=some Zxw:=tblOf_eq Tryz.func220 (by kernel_rfl) (by kernel_rfl)
theorem Zbaz:tbl 280=some Zxx:=tblOf_eq Tryz.func280 (by kernel_rfl) (by kernel_rfl)
theorem Zba0:tbl 221=some Zxy:=tblOf_eq Tryz.func221 (by kernel_rfl) (by kernel_rfl)
theorem Zba1:tbl 131=some Zoc:=tblOf_eq Tryz.func131 (by kernel_rfl) (by kernel_rfl)
theorem Zba2:tbl 277=some Zxz:=tblOf_eq Tryz.func277 (by kernel_rfl) (by kernel_rfl)
theorem Zba3:tbl 232=some Zx0:=tblOf_eq Tryz.func232 (by kernel_rfl) (by kernel_rfl)
theorem Zba4:tbl 222=some Zx1:=tblOf_eq Tryz.func222 (by kernel_rfl) (by kernel_rfl)
theorem Zba5:tbl 134=some Zx2:=tblOf_eq Tryz.func134 (by kernel_rfl) (by kernel_rfl)
theorem Zba6:tbl 132=some Zx3:=tblOf_eq Tryz.func132 (by kernel_rfl) (by kernel_rfl)
theorem Zba7:tbl 257=some Zx4:=tblOf_eq Tryz.func257 (by kernel_rfl) (by kernel_rfl)
theorem Zba8:tbl 258=some Zx6:=tblOf_eq Tryz.func258 (by kernel_rfl) (by kernel_rfl)
theorem Zba9:tbl 189=some Zx7:=tblOf_eq Tryz.func189 (by kernel_rfl) (by kernel_rfl)
theorem Zbba:tbl 99=some Zx9:=tblOf_eq Tryz.func99 (by kernel_rfl) (by kernel_rfl)
theorem Zbbb:tbl 133=some Zya:=tblOf_eq Tryz.func133 (by kernel_rfl) (by kernel_rfl)
theorem Zbbc:tbl 43=some Zyb:=tblOf_eq Tryz.func43 (by kernel_rfl) (by kernel_rfl)
theorem Zbbd:tbl 268=some Zyc:=tblOf_eq Tryz.func268 (by kernel_rfl) (by kernel_rfl)
theorem Zbbe:tbl 290=some Zye:=tblOf_eq Tryz.func290 (by kernel_rfl) (by kernel_rfl)
theorem Zbbf:tbl 269=some Zyf:=tblOf_eq Tryz.func269 (by kernel_rfl) (by kernel_rfl)
theorem Zbbg:tbl 204=some Zyg:=tblOf_eq Tryz.func204 (by kernel_rfl) (by kernel_rfl)
theorem Zbbh:tbl 193=some Zyh:=tblOf_eq Tryz.func193 (by kernel_rfl) (by kernel_rfl)
theorem Zbbi:tbl 289=some Zyi:=tblOf_eq Tryz.func289 (by kernel_rfl) (by kernel_rfl)
theorem Zbbj:tbl 259=some Zyj:=tblOf_eq Tryz.func259 (by kernel_rfl) (by kernel_rfl)
theorem Zbbk:tbl 261=some Zyk:=tblOf_eq Tryz.func261 (by kernel_rfl) (by kernel_rfl)
theorem Zbbl:tbl 142=some Zyl:=tblOf_eq Tryz.func142 (by kernel_rfl) (by kernel_rfl)
theorem Zbbm:tbl 264=some Zym:=tblOf_eq Tryz.func264 (by kernel_rfl) (by kernel_rfl)
theorem Zbbn:tbl 263=some Zyo:=tblOf_eq Tryz.func263 (by kernel_rfl) (by kernel_rfl)
theorem Zbbo:tbl 262=some Zyp:=tblOf_eq Tryz.func262 (by kernel_rfl) (by kernel_rfl)
theorem Zbbp:tbl 260=some Zyr:=tblOf_eq Tryz.func260 (by kernel_rfl) (by kernel_rfl)
theorem Zbbq:tbl 190=some Zys:=tblOf_eq Tryz.func190 (by kernel_rfl) (by kernel_rfl)
theorem Zbbr:tbl 100=some Zyt:=tblOf_eq Tryz.func100 (by kernel_rfl) (by kernel_rfl)
theorem Zbbs:tbl 119=some Zyu:=tblOf_eq Tryz.func119 (by kernel_rfl) (by kernel_rfl)
theorem Zbbt:tbl 216=some Zyv:=tblOf_eq Tryz.func216 (by kernel_rfl) (by kernel_rfl)
theorem Zbbu:tbl 292=some Zyw:=tblOf_eq Tryz.func292 (by kernel_rfl) (by kernel_rfl)
theorem Zbbv:tbl 192=some Zyx:=tblOf_eq Tryz.func192 (by kernel_rfl) (by kernel_rfl)
theorem Zbbw:tbl 275=some Zyz:=tblOf_eq Tryz.func275 (by kernel_rfl) (by kernel_rfl)
theorem Zbbx:tbl 276=some Zy0:=tblOf_eq Tryz.func276 (by kernel_rfl) (by kernel_rfl)
theorem Zbby:tbl 215=some Zrz:=tblOf_eq Tryz.func215 (by kernel_rfl) (by kernel_rfl)
theorem Zbbz:tbl 127=some Zy2:=tblOf_eq Tryz.func127 (by kernel_rfl) (by kernel_rfl)
theorem Zbb0:tbl 301=some Zy4:=tblOf_eq Tryz.func301 (by kernel_rfl) (by kernel_rfl)
theorem Zbb1:tbl 302=some Zy6:=tblOf_eq Tryz.func302 (by kernel_rfl) (by kernel_rfl)
theorem Zbb2:tbl 304=some Zy7:=tblOf_eq Tryz.func304 (by kernel_rfl) (by kernel_rfl)
theorem Zbb3:tbl 303=some Zch:=tblOf_eq Tryz.func303 (by kernel_rfl) (by kernel_rfl)
theorem Zbb4:tbl 305=some Zy9:=tblOf_eq Tryz.func305 (by kernel_rfl) (by kernel_rfl)
theorem Z2b:tbl 300=some Zr7:=tblOf_eq Tryz.func300 (by kernel_rfl) (by kernel_rfl)
theorem Zbb5:tbl 141=some Zza:=tblOf_eq Tryz.func141 (by kernel_rfl) (by kernel_rfl)
theorem Zbb6:tbl 306=some Zzb:=tblOf_eq Tryz.func306 (by kernel_rfl) (by kernel_rfl)
theorem Zbb7:tbl 309=some Zzc:=tblOf_eq Tryz.func309 (by kernel_rfl) (by kernel_rfl)
theorem Zbb8:tbl 311=some Zzd:=tblOf_eq Tryz.func311 (by kernel_rfl) (by kernel_rfl)
theorem Zbb9:tbl 307=some Zzh:=tblOf_eq Tryz.func307 (by kernel_rfl) (by kernel_rfl)
theorem Zbca:tbl 312=some Zzi:=tblOf_eq Tryz.func312 (by kernel_rfl) (by kernel_rfl)
theorem Zbcb:tbl 308=some Zzj:=tblOf_eq Tryz.func308 (by kernel_rfl) (by kernel_rfl)
theorem Zbcc:tbl 294=some Zok:=tblOf_eq Tryz.func294 (by kernel_rfl) (by kernel_rfl)
theorem Zbcd:tbl 293=some Zzm:=tblOf_eq Tryz.func293 (by kernel_rfl) (by kernel_rfl)
theorem Zbce:tbl 278=some Zzn:=tblOf_eq Tryz.func278 (by kernel_rfl) (by kernel_rfl)
theorem Zbcf:tbl 217=some Zzo:=tblOf_eq Tryz.func217 (by kernel_rfl) (by kernel_rfl)
theorem Zbcg:tbl 128=some Zzq:=tblOf_eq Tryz.func128 (by kernel_rfl) (by kernel_rfl)
theorem Zbch:tbl 120=some Zzr:=tblOf_eq Tryz.func120 (by kernel_rfl) (by kernel_rfl)
theorem Zbci:tbl 37=some Zzs:=tblOf_eq Tryz.func37 (by kernel_rfl) (by kernel_rfl)
theorem Zbcj:tbl 92=some Zzt:=tblOf_eq Tryz.func92 (by kernel_rfl) (by kernel_rfl)
theorem Zbck:tbl 137=some Zzu:=tblOf_eq Tryz.func137 (by kernel_rfl) (by kernel_rfl)
theorem Zbcl:tbl 255=some Zzv:=tblOf_eq Tryz.func255 (by kernel_rfl) (by kernel_rfl)
theorem Zbcm:tbl 183=some Zzw:=tblOf_eq Tryz.func183 (by kernel_rfl) (by kernel_rfl)
theorem Zbcn:tbl 184=some Zzx:=tblOf_eq Tryz.func184 (by kernel_rfl) (by kernel_rfl)
theorem Zbco:tbl 91=some Zzz:=tblOf_eq Tryz.func91 (by kernel_rfl) (by kernel_rfl)
theorem Zbcp:tbl 288=some Zz0:=tblOf_eq Tryz.func288 (by kernel_rfl) (by kernel_rfl)
theorem Zbcq:tbl 253=some Zz1:=tblOf_eq Tryz.func253 (by kernel_rfl) (by kernel_rfl)
theorem Zbcr:tbl 254=some Zz2:=tblOf_eq Tryz.func254 (by kernel_rfl) (by kernel_rfl)
theorem Zbcs:tbl 182=some Zz3:=tblOf_eq Tryz.func182 (by kernel_rfl) (by kernel_rfl)
theorem Zbct:tbl 88=some Zz4:=tblOf_eq Tryz.func88 (by kernel_rfl) (by kernel_rfl)
theorem Zbcu:tbl 249=some Zz5:=tblOf_eq Tryz.func249 (by kernel_rfl) (by kernel_rfl)
theorem Zbcv:tbl 250=some Zz6:=tblOf_eq Tryz.func250 (by kernel_rfl) (by kernel_rfl)
theorem Zbcw:tbl 180=some Zz7:=tblOf_eq Tryz.func180 (by kernel_rfl) (by kernel_rfl)
theorem Zbcx:tbl 117=some Zz8:=tblOf_eq Tryz.func117 (by kernel_rfl) (by kernel_rfl)
theorem Zbcy:tbl 202=some Zz9:=tblOf_eq Tryz.func202 (by kernel_rfl) (by kernel_rfl)
theorem Zbcz:tbl 252=some Z0a:=tblOf_eq Tryz.func252 (by kernel_rfl) (by kernel_rfl)
theorem Zbc0:tbl 267=some Z0c:=tblOf_eq Tryz.func267 (by kernel_rfl) (by kernel_rfl)
theorem Zbc1:tbl 203=some Z0d:=tblOf_eq Tryz.func203 (by kernel_rfl) (by kernel_rfl)
theorem Zbc2:tbl 116=some Z0e:=tblOf_eq Tryz.func116 (by kernel_rfl) (by kernel_rfl)
theorem Zbc3:tbl 212=some Z0f:=tblOf_eq Tryz.func212 (by kernel_rfl) (by kernel_rfl)
theorem Zbc4:tbl 51=some Z0g:=tblOf_eq Tryz.func51 (by kernel_rfl) (by kernel_rfl)
theorem Zbc5:tbl 135=some Z0h:=tblOf_eq Tryz.func135 (by kernel_rfl) (by kernel_rfl)
theorem Zbc6:tbl 251=some Z0i:=tblOf_eq Tryz.func251 (by kernel_rfl) (by kernel_rfl)
theorem Zbc7:tbl 181=some Z0j:=tblOf_eq Tryz.func181 (by kernel_rfl) (by kernel_rfl)
theorem Zbc8:tbl 87=some Z0k:=tblOf_eq Tryz.func87 (by kernel_rfl) (by kernel_rfl)
theorem Zbc9:tbl 136=some Z0l:=tblOf_eq Tryz.func136 (by kernel_rfl) (by kernel_rfl)
theorem Zbda:tbl 44=some Z0m:=tblOf_eq Tryz.func44 (by kernel_rfl) (by kernel_rfl)
theorem Zbdb:tbl 205=some Z0o:=tblOf_eq Tryz.func205 (by kernel_rfl) (by kernel_rfl)
theorem Zbdc:tbl 206=some Z0q:=tblOf_eq Tryz.func206 (by kernel_rfl) (by kernel_rfl)
theorem Zbdd:tbl 291=some Z0s:=tblOf_eq Tryz.func291 (by kernel_rfl) (by kernel_rfl)
theorem Zbde:tbl 270=some Z0t:=tblOf_eq Tryz.func270 (by kernel_rfl) (by kernel_rfl)
theorem Zbdf:tbl 207=some Z0v:=tblOf_eq Tryz.func207 (by kernel_rfl) (by kernel_rfl)
theorem Zbdg:tbl 121=some Z0w:=tblOf_eq Tryz.func121 (by kernel_rfl) (by kernel_rfl)
theorem Zbdh:tbl 125=some Z0x:=tblOf_eq Tryz.func125 (by kernel_rfl) (by kernel_rfl)
theorem Zbdi:tbl 209=some Z0z:=tblOf_eq Tryz.func209 (by kernel_rfl) (by kernel_rfl)
theorem Zbdj:tbl 210=some Z00:=tblOf_eq Tryz.func210 (by kernel_rfl) (by kernel_rfl)
theorem Zbdk:tbl 208=some Z02:=tblOf_eq Tryz.func208 (by kernel_rfl) (by kernel_rfl)
theorem Zbdl:tbl 229=some Z03:=tblOf_eq Tryz.func229 (by kernel_rfl) (by kernel_rfl)
theorem Zpg:tbl 271=some Zmc:=tblOf_eq Tryz.func271 (by kernel_rfl) (by kernel_rfl)
theorem Zbdm:tbl 272=some Z04:=tblOf_eq Tryz.func272 (by kernel_rfl) (by kernel_rfl)
theorem Zbdn:tbl 231=some Z05:=tblOf_eq Tryz.func231 (by kernel_rfl) (by kernel_rfl)
theorem Zbdo:tbl 273=some Z06:=tblOf_eq Tryz.func273 (by kernel_rfl) (by kernel_rfl)
theorem Zbdp:tbl 211=some Z09:=tblOf_eq Tryz.func211 (by kernel_rfl) (by kernel_rfl)
theorem Zbdq:tbl 124=some Z1b:=tblOf_eq Tryz.func124 (by kernel_rfl) (by kernel_rfl)
theorem Zbdr:tbl 123=some Z1c:=tblOf_eq Tryz.func123 (by kernel_rfl) (by kernel_rfl)
theorem Zbds:tbl 285=some Z1d:=tblOf_eq Tryz.func285 (by kernel_rfl) (by kernel_rfl)
theorem Zbdt:tbl 286=some Z1e:=tblOf_eq Tryz.func286 (by kernel_rfl) (by kernel_rfl)
theorem Zbdu:tbl 241=some Z1f:=tblOf_eq Tryz.func241 (by kernel_rfl) (by kernel_rfl)
theorem Zbdv:tbl 162=some Z1g:=tblOf_eq Tryz.func162 (by kernel_rfl) (by kernel_rfl)
theorem Zbdw:tbl 70=some Z1h:=tblOf_eq Tryz.func70 (by kernel_rfl) (by kernel_rfl)
theorem Zbdx:tbl 118=some Z1i:=tblOf_eq Tryz.func118 (by kernel_rfl) (by kernel_rfl)
theorem Zbdy:tbl 35=some Z1j:=tblOf_eq Tryz.func35 (by kernel_rfl) (by kernel_rfl)
theorem Zbdz:tbl 274=some Z1k:=tblOf_eq Tryz.func274 (by kernel_rfl) (by kernel_rfl)
theorem Zbd0:tbl 213=some Z1l:=tblOf_eq Tryz.func213 (by kernel_rfl) (by kernel_rfl)
theorem Zbd1:tbl 45=some Z1m:=tblOf_eq Tryz.func45 (by kernel_rfl) (by kernel_rfl)
theorem Zbd2:tbl 149=some Z1n:=tblOf_eq Tryz.func149 (by kernel_rfl) (by kernel_rfl)
theorem Zbd3:tbl 158=some Z1o:=tblOf_eq Tryz.func158 (by kernel_rfl) (by kernel_rfl)
theorem Zbd4:tbl 148=some Z1p:=tblOf_eq Tryz.func148 (by kernel_rfl) (by kernel_rfl)
theorem Zbd5:tbl 55=some Z1q:=tblOf_eq Tryz.func55 (by kernel_rfl) (by kernel_rfl)
theorem Zbd6:tbl 53=some Z1r:=tblOf_eq Tryz.func53 (by kernel_rfl) (by kernel_rfl)
theorem Zbd7:tbl 143=some Z1s:=tblOf_eq Tryz.func143 (by kernel_rfl) (by kernel_rfl)
theorem Zbd8:tbl 50=some Z1t:=tblOf_eq Tryz.func50 (by kernel_rfl) (by kernel_rfl)
theorem Zbd9:tbl 166=some Z1u:=tblOf_eq Tryz.func166 (by kernel_rfl) (by kernel_rfl)
theorem Zbea:tbl 244=some Z1v:=tblOf_eq Tryz.func244 (by kernel_rfl) (by kernel_rfl)
theorem Zbeb:tbl 167=some Z1w:=tblOf_eq Tryz.func167 (by kernel_rfl) (by kernel_rfl)
theorem Zbec:tbl 154=some Z1x:=tblOf_eq Tryz.func154 (by kernel_rfl) (by kernel_rfl)
theorem Zbed:tbl 76=some Z1z:=tblOf_eq Tryz.func76 (by kernel_rfl) (by kernel_rfl)
theorem Zbee:tbl 73=some Z11:=tblOf_eq Tryz.func73 (by kernel_rfl) (by kernel_rfl)
theorem Zbef:tbl 168=some Z12:=tblOf_eq Tryz.func168 (by kernel_rfl) (by kernel_rfl)
theorem Zbeg:tbl 218=some Z13:=tblOf_eq Tryz.func218 (by kernel_rfl) (by kernel_rfl)
theorem Zbeh:tbl 169=some Z14:=tblOf_eq Tryz.func169 (by kernel_rfl) (by kernel_rfl)
theorem Zbei:tbl 174=some Z15:=tblOf_eq Tryz.func174 (by kernel_rfl) (by kernel_rfl)
theorem Zbej:tbl 155=some Z16:=tblOf_eq Tryz.func155 (by kernel_rfl) (by kernel_rfl)
theorem Zbek:tbl 77=some Z18:=tblOf_eq Tryz.func77 (by kernel_rfl) (by kernel_rfl)
theorem Zbel:tbl 74=some Z2a:=tblOf_eq Tryz.func74 (by kernel_rfl) (by kernel_rfl)
theorem Zbem (a:Int) (a1:Int) (a2:Int) (r:AV×List Blk) (h:(if a1≤a then (some (Bo (decide (a≤a2)),[])=some r) else (some (Bo false,[])=some r))):Zy a a1 a2=some r:=by
 unfold Zy
 refine run Zbav rfl ?_
 try simp only [itb] at h
 try simp only [itf,gS,kk] at h
 rcases h with ⟨q1,h⟩ | ⟨q1,h⟩
 all_goals (refine Eq.trans ?_ h;clear h;simp +decide [*,kk,Zxt])
theorem Zben (a:ByteArray) (r:AV×List Blk) (h:(if (a.size:Int)=1 then (∃ (b1:UInt8),a[0]?=some b1∧(if 97≤(b1.toNat:Int) then (some (Bo (decide ((b1.toNat:Int)≤122)),[])=some r) else (some (Bo false,[])=some r))) else (some (Bo false,[])=some r))):Zky a=some r:=by
 unfold Zky
 refine run Zbaw rfl ?_
 try simp only [itb] at h
 try simp only [itf,gS,kk] at h
 rcases h with ⟨q1,b1,q2,(⟨q3,h⟩ | ⟨q3,h⟩)⟩ | ⟨q1,h⟩
 all_goals (refine Eq.trans ?_ h;clear h;simp +decide [*,kk,Zxu])
theorem Z2c (s:List Int) (v:Int) (x:Int) (x1:Int) (r:AV×List Blk) (h:(if x1<x then (0≤x1∧(∃ (e1:Int),s[x1.toNat]?=some e1∧(if v=e1 then (some (I x1,[])=some r) else (Zhz s v x (w (x1+1))=some r)))) else (some (I (-1),[])=some r))):Zhz s v x x1=some r:=by
 unfold Zhz
 rw [EvL_eq Zq0.eq_1]
 try simp only [itb] at h
 try simp only [itf,gS,kk] at h
 rcases h with ⟨q1,q2,e1,⟨g3,q3⟩,(⟨q4,h⟩ | ⟨q4,h⟩)⟩ | ⟨q1,h⟩
 all_goals (refine Eq.trans ?_ h;clear h;simp +decide [*,kk,Zhz,Zq1])
theorem Zbeo (a:List Int) (a1:Int) (r:AV×List Blk) (h:(Zhz a a1 (a.length:Int) 0=some r)):Zkz a a1=some r:=by
 unfold Zkz
 refine run Zbax rfl ?_
 refine Eq.trans ?_ h;clear h;simp +decide [*,kk,Zxv,Zhz]
theorem Zbep (a:List Int) (a1:Int) (r:AV×List Blk) (h:(∃ (v1_0:Int),Zkz a a1=some (I v1_0,[])∧(some (Bo (decide (0≤v1_0)),[])=some r))):Zdl a a1=some r:=by
 unfold Zdl
 refine run Zbay rfl ?_
 simp only [Zkz,mpl,dfs] at h
 rcases h with ⟨v1_0,q1,h⟩
 all_goals (refine Eq.trans ?_ h;clear h;simp +decide [*,kk,Zxw])
theorem Z2d (s:List Bool) (v:Bool) (x:Int) (x1:Int) (r:AV×List Blk) (h:(if x1<x then (0≤x1∧(∃ (e1:Bool),s[x1.toNat]?=some e1∧(if v=e1 then (some (I x1,[])=some r) else (Zh0 s v x (w (x1+1))=some r)))) else (some (I (-1),[])=some r))):Zh0 s v x x1=some r:=by
 unfold Zh0
 rw [EvL_eq Zq2.eq_1]
 try simp only [itb] at h
 try simp only [itf,gS,kk] at h
 rcases h with ⟨q1,q2,e1,⟨g3,q3⟩,(⟨q4,h⟩ | ⟨q4,h⟩)⟩ | ⟨q1,h⟩
 all_goals (refine Eq.trans ?_ h;clear h;simp +decide [*,kk,Zh0,Zq3])
theorem Zbeq (a:List Bool) (a1:Bool) (r:AV×List Blk) (h:(Zh0 a a1 (a.length:Int) 0=some r)):Zk0 a a1=some r:=by
 unfold Zk0
 refine run Zbaz rfl ?_
 refine Eq.trans ?_ h;clear h;simp +decide [*,kk,Zxx,Zh0]
theorem Zber (a:List Bool) (a1:Bool) (r:AV×List Blk) (h:(∃ (v1_0:Int),Zk0 a a1=some (I v1_0,[])∧(some (Bo (decide (0≤v1_0)),[])=some r))):Zk1 a a1=some r:=by
 unfold Zk1
 refine run Zba0 rfl ?_
 simp only [Zk0,mpl,dfs] at h
 rcases h with ⟨v1_0,q1,h⟩
 all_goals (refine Eq.trans ?_ h;clear h;simp +decide [*,kk,Zxy])
theorem Z2e (q:Zb) (seen:List Bool) (x:List Atom) (x1:Int) (x2:Int) (r:AV×List Blk) (h:(if x2<x1 then (0≤x2∧(∃ (e1:Atom),x[x2.toNat]?=some e1∧(∃ (v2_0:Bool),Zky e1.Name=some (Bo v2_0,[])∧(if v2_0=true then (∃ (v3_0:Bool),Zy (e1.Vars.length:Int) 1 3=some (Bo v3_0,[])∧(if v3_0=true then (Zh1 q seen e1 x x1 x2 e1.Vars (e1.Vars.length:Int) 0=some r) else (some (Bo false,[])=some r))) else (some (Bo false,[])=some r))))) else (∃ (v4_0:Bool),Zk1 seen false=some (Bo v4_0,[])∧(some (Bo (!v4_0),[])=some r)))):Zf9 q seen x x1 x2=some r:=by
 unfold Zf9
 rw [EvL_eq Zoa.eq_1]
 simp only [Zky,Zy,Zk1,mpl,dfs] at h
 try simp only [itb] at h
 try simp only [itf,gS,kk] at h
 rcases h with ⟨q1,q2,e1,⟨g3,q3⟩,v2_0,q4,(⟨q5,v3_0,q6,(⟨q7,h⟩ | ⟨q7,h⟩)⟩ | ⟨q5,h⟩)⟩ | ⟨q1,v4_0,q8,h⟩
 all_goals (refine Eq.trans ?_ h;clear h;simp +decide [*,kk,Zh1,Zob])
theorem Z2f (q:Zb) (seen:List Bool) (a:Atom) (x:List Atom) (x1:Int) (x2:Int) (x3:List Int) (x4:Int) (x5:Int) (r:AV×List Blk) (h:(if x5<x4 then (0≤x5∧(∃ (e1:Int),x3[x5.toNat]?=some e1∧(∃ (v2_0:Bool),Zy e1 0 (w (q.Zf - 1))=some (Bo v2_0,[])∧(if v2_0=true then (x5.toNat≤a.Vars.length∧(∃ (v3_0:Bool),Zdl (a.Vars.take x5.toNat) e1=some (Bo v3_0,[])∧(if v3_0=true then (some (Bo false,[])=some r) else (0≤e1∧(∃ (e4:Bool),seen[e1.toNat]?=some e4∧(Zh1 q (seen.set e1.toNat true) a x x1 x2 x3 x4 (w (x5+1))=some r)))))) else (some (Bo false,[])=some r))))) else (Zf9 q seen x x1 (w (x2+1))=some r))):Zh1 q seen a x x1 x2 x3 x4 x5=some r:=by
 unfold Zh1
 rw [EvL_eq Zq4.eq_1]
 simp only [Zy,Zdl,mpl,dfs] at h
 try simp only [itb] at h
 try simp only [itf,gS,kk] at h
 rcases h with ⟨q1,q2,e1,⟨g3,q3⟩,v2_0,q4,(⟨q5,q6,v3_0,q7,(⟨q8,h⟩ | ⟨q8,q9,e4,⟨g10,q10⟩,h⟩)⟩ | ⟨q5,h⟩)⟩ | ⟨q1,h⟩
 all_goals (refine Eq.trans ?_ h;clear h;simp +decide [*,kk,Zh1,Zf9,Zq5])
theorem Zbes (a:Zb) (r:AV×List Blk) (h:(∃ (v1_0:Bool),Zy a.Zf 1 4=some (Bo v1_0,[])∧(if v1_0=true then (∃ (v2_0:Bool),Zy (a.Atoms.length:Int) 1 4=some (Bo v2_0,[])∧(if v2_0=true then (0≤a.Zf∧(a.Zf.toNat*1≤room∧(a.Zf≤140737488355328∧(Zf9 a (List.replicate (a.Zf).toNat false) a.Atoms (a.Atoms.length:Int) 0=some r)))) else (some (Bo false,[])=some r))) else (some (Bo false,[])=some r)))):Zdd a=some r:=by
 unfold Zdd
 refine run Zba1 rfl ?_
 obtain ⟨v1_0,q1,h⟩:=h
 unfold Zy at q1
 try simp at q1
 by_cases q2:v1_0=true
 ·rw [if_pos q2] at h
  obtain ⟨v2_0,q3,h⟩:=h
  unfold Zy at q3
  try simp at q3
  by_cases q4:v2_0=true
  ·rw [if_pos q4] at h
   obtain ⟨q5,h⟩:=h
   obtain ⟨q6,h⟩:=h
   have zq6:=q6;try simp at zq6
   obtain ⟨q7,h⟩:=h
   refine Eq.trans ?_ h
   clear h
   simp +decide [*,Zoc,Zf9]
  ·rw [if_neg q4] at h
   refine Eq.trans ?_ h
   clear h
   simp +decide [*,Zoc]
 ·rw [if_neg q2] at h
  refine Eq.trans ?_ h
  clear h
  simp +decide [*,Zoc]
theorem Z2g (location:List Int) (x:List Int) (x1:Int) (x2:Int) (r:AV×List Blk) (h:(if x2<x1 then (0≤x2∧(∃ (e1:Int),x[x2.toNat]?=some e1∧(∃ (v2_0:Bool),Zy e1 0 7=some (Bo v2_0,[])∧(if v2_0=true then (Zh2 location x x1 (w (x2+1))=some r) else (some (Bo false,[])=some r))))) else (some (Bo (decide ((location.length:Int)≤16)),[])=some r))):Zh2 location x x1 x2=some r:=by
 unfold Zh2
 rw [EvL_eq Zq6.eq_1]
 simp only [Zy,mpl,dfs] at h
 try simp only [itb] at h
 try simp only [itf,gS,kk] at h
 rcases h with ⟨q1,q2,e1,⟨g3,q3⟩,v2_0,q4,(⟨q5,h⟩ | ⟨q5,h⟩)⟩ | ⟨q1,h⟩
 all_goals (refine Eq.trans ?_ h;clear h;simp +decide [*,kk,Zh2,Zq7])
theorem Zbet (a:List Int) (r:AV×List Blk) (h:(Zh2 a a (a.length:Int) 0=some r)):Zga a=some r:=by
 unfold Zga
 refine run Zba2 rfl ?_
 refine Eq.trans ?_ h;clear h;simp +decide [*,kk,Zxz,Zh2]
theorem Z2h (a:List Int) (b:List Int) (x:Int) (x1:Int) (r:AV×List Blk) (h:(if x1<x then (0≤x1∧(∃ (e1:Int),a[x1.toNat]?=some e1∧(∃ (e2:Int),b[x1.toNat]?=some e2∧(if e1<e2 then (some (Bo false,[])=some r) else (Zh3 a b x (w (x1+1))=some r))))) else (some (Bo true,[])=some r))):Zh3 a b x x1=some r:=by
 unfold Zh3
 rw [EvL_eq Zq8.eq_1]
 try simp only [itb] at h
 try simp only [itf,gS,kk] at h
 rcases h with ⟨q1,q2,e1,⟨g3,q3⟩,e2,⟨g4,q4⟩,(⟨q5,h⟩ | ⟨q5,h⟩)⟩ | ⟨q1,h⟩
 all_goals (refine Eq.trans ?_ h;clear h;simp +decide [*,kk,Zh3,Zq9])
theorem Zbeu (a:List Int) (a1:List Int) (r:AV×List Blk) (h:(if (a.length:Int)=(a1.length:Int) then (Zh3 a a1 (a.length:Int) 0=some r) else (some (Bo false,[])=some r))):Zgb a a1=some r:=by
 unfold Zgb
 refine run Zba3 rfl ?_
 try simp only [itb] at h
 try simp only [itf,gS,kk] at h
 rcases h with ⟨q1,h⟩ | ⟨q1,h⟩
 all_goals (refine Eq.trans ?_ h;clear h;simp +decide [*,kk,Zx0,Zh3])
theorem Zbev (a:Box) (r:AV×List Blk) (h:(∃ (v1_0:Bool),Zga a.Low=some (Bo v1_0,[])∧(if v1_0=true then (∃ (v2_0:Bool),Zga a.High=some (Bo v2_0,[])∧(if v2_0=true then (if 0<(a.Low.length:Int) then (∃ (v3_0:Bool),Zgb a.High a.Low=some (Bo v3_0,[])∧(some (Bo v3_0,[])=some r)) else (some (Bo false,[])=some r)) else (some (Bo false,[])=some r))) else (some (Bo false,[])=some r)))):Ze6 a=some r:=by
 unfold Ze6
 refine run Zba4 rfl ?_
 simp only [Zga,Zgb,mpl,dfs] at h
 try simp only [itb] at h
 try simp only [itf,gS,kk] at h
 rcases h with ⟨v1_0,q1,(⟨q2,v2_0,q3,(⟨q4,(⟨q5,v3_0,q6,h⟩ | ⟨q5,h⟩)⟩ | ⟨q4,h⟩)⟩ | ⟨q2,h⟩)⟩
 all_goals (refine Eq.trans ?_ h;clear h;simp +decide [*,kk,Zx1])
theorem Zbew (a:Zb) (r:AV×List Blk) (h:(∃ (v1_0:Bool),Zdd a=some (Bo v1_0,[])∧(if v1_0=true then (¬ (a.Atoms.length:Int)<0∧(some (I (w ((shlI 1 (a.Atoms.length:Int)) - 1)),[])=some r)) else (some (I 0,[])=some r)))):Zb7 a=some r:=by
 unfold Zb7
 refine run Zba5 rfl ?_
 simp only [Zdd,Zb.c_def,mpl,dfs] at h
 try simp only [itb] at h
 try simp only [itf,gS,kk] at h
 rcases h with ⟨v1_0,q1,(⟨q2,q3,h⟩ | ⟨q2,h⟩)⟩
 all_goals (refine Eq.trans ?_ h;clear h;simp +decide [*,kk,Zx2])
theorem Zbex (a:Zb) (a1:Box) (r:AV×List Blk) (h:(∃ (v1_0:Bool),Ze6 a1=some (Bo v1_0,[])∧(if v1_0=true then (∃ (v2_0:Int),Zb7 a=some (I v2_0,[])∧(some (Bo (decide ((a1.Low.length:Int)=(w (v2_0+1)))),[])=some r)) else (some (Bo false,[])=some r)))):Zk2 a a1=some r:=by
 unfold Zk2
 refine run Zba6 rfl ?_
 simp only [Ze6,Zb7,Box.c_def,Zb.c_def,mpl,dfs] at h
 try simp only [itb] at h
 try simp only [itf,gS,kk] at h
 rcases h with ⟨v1_0,q1,(⟨q2,v2_0,q3,h⟩ | ⟨q2,h⟩)⟩
 all_goals (refine Eq.trans ?_ h;clear h;simp +decide [*,kk,Zx3])
theorem Z2i (q:Zb) (out:List Int) (mask:Int) (v:Int) (r:AV×List Blk) (h:(if v<q.Zf then (Zgc q out mask v q.Atoms (q.Atoms.length:Int) 0=some r) else (some (.own 0,[.arr 3 1 true (out.map ic)])=some r))):Ze7 q out mask v=some r:=by
 unfold Ze7
 rw [EvL_eq Zod.eq_1]
 try simp only [itb] at h
 try simp only [itf,gS,kk] at h
 rcases h with ⟨q1,h⟩ | ⟨q1,h⟩
 all_goals (refine Eq.trans ?_ h;clear h;simp +decide [*,kk,Zgc,Zoe])
theorem Z2j (q:Zb) (out:List Int) (mask:Int) (v:Int) (x:List Atom) (x1:Int) (x2:Int) (r:AV×List Blk) (h:(if x2<x1 then (0≤x2∧(∃ (e1:Atom),x[x2.toNat]?=some e1∧(¬ x2<0∧(if (andI (shrI mask x2) 1)=1 then (∃ (v2_0:Bool),Zdl e1.Vars v=some (Bo v2_0,[])∧(if v2_0=true then (out.length+1≤68719476736∧(Ze7 q (out++[v]) mask (w (v+1))=some r)) else (Zgc q out mask v x x1 (w (x2+1))=some r))) else (Zgc q out mask v x x1 (w (x2+1))=some r))))) else (Ze7 q out mask (w (v+1))=some r))):Zgc q out mask v x x1 x2=some r:=by
 unfold Zgc
 rw [EvL_eq Zra.eq_1]
 simp only [Zdl,mpl,dfs] at h
 try simp only [itb] at h
 try simp only [itf,gS,kk] at h
 rcases h with ⟨q1,q2,e1,⟨g3,q3⟩,q4,(⟨q5,v2_0,q6,(⟨q7,q8,h⟩ | ⟨q7,h⟩)⟩ | ⟨q5,h⟩)⟩ | ⟨q1,h⟩
 all_goals (refine Eq.trans ?_ h;clear h;simp +decide [*,kk,Ze7,Zrb,Zgc])
theorem Zbey (a:Zb) (a1:Int) (r:AV×List Blk) (h:(Ze7 a ([]:List Int) a1 0=some r)):Zd2 a a1=some r:=by
 unfold Zd2
 refine run Zba7 rfl ?_
 refine Eq.trans ?_ h;clear h;simp +decide [*,kk,Zx4,Ze7]
theorem Z2k (out:List Int) (b:List Int) (x:List Int) (x1:Int) (x2:Int) (r:AV×List Blk) (h:(if x2<x1 then (0≤x2∧(∃ (e1:Int),x[x2.toNat]?=some e1∧(∃ (v2_0:Bool),Zdl b e1=some (Bo v2_0,[])∧(if v2_0=true then (out.length+1≤68719476736∧(Zgd (out++[e1]) b x x1 (w (x2+1))=some r)) else (Zgd out b x x1 (w (x2+1))=some r))))) else (some (.own 0,[.arr 3 1 true (out.map ic)])=some r))):Zgd out b x x1 x2=some r:=by
 unfold Zgd
 rw [EvL_eq Zrc.eq_1]
 simp only [Zdl,mpl,dfs] at h
 try simp only [itb] at h
 try simp only [itf,gS,kk] at h
 rcases h with ⟨q1,q2,e1,⟨g3,q3⟩,v2_0,q4,(⟨q5,q6,h⟩ | ⟨q5,h⟩)⟩ | ⟨q1,h⟩
 all_goals (refine Eq.trans ?_ h;clear h;simp +decide [*,kk,Zgd,Zx5,Zrd])
theorem Zbez (a:List Int) (a1:List Int) (r:AV×List Blk) (h:(Zgd ([]:List Int) a1 a (a.length:Int) 0=some r)):Ze8 a a1=some r:=by
 unfold Ze8
 refine run Zba8 rfl ?_
 refine Eq.trans ?_ h;clear h;simp +decide [*,kk,Zx6,Zgd]
theorem Zhg (a:Zb) (a1:Zc) (a2:List Zh) (a3:List Int) (r:AV×List Blk) (h:(if a1.Kind=1 then (∃ (v1_0:Bool),Zy a1.Atom 0 (w ((a.Atoms.length:Int) - 1))=some (Bo v1_0,[])∧(if v1_0=true then (if a1.Order=0 then (¬ a1.Atom<0∧(0≤a1.Atom∧(∃ (e2:Atom),a.Atoms[a1.Atom.toNat]?=some e2∧(∃ (e3:Int),e2.Vars[0]?=some e3∧(some (.tup [.agg [I (shlI 1 a1.Atom),I e3,I (-1),I (-1)],Bo true],[])=some r))))) else (some (.tup [.agg [I 0,I (-1),I (-1),I (-1)],Bo false],[])=some r)) else (some (.tup [.agg [I 0,I (-1),I (-1),I (-1)],Bo false],[])=some r))) else (if a1.Atom=0 then (if a1.Kind=2 then (if (a3.length:Int)<1 then (some (.tup [.agg [I 0,I (-1),I (-1),I (-1)],Bo false],[])=some r) else (0≤(w ((a3.length:Int) - 1))∧(∃ (e4:Int),a3[(w ((a3.length:Int) - 1)).toNat]?=some e4∧(0≤e4∧(∃ (e5:Zh),a2[e4.toNat]?=some e5∧(∃ (v6_0:List Int),Zd2 a e5.Mask=some (.own 0,[.arr 3 1 true (v6_0.map ic)])∧(∃ (v7_0:Bool),Zdl v6_0 a1.Order=some (Bo v7_0,[])∧(if v7_0=true then (if e5.Order=a1.Order then (some (.tup [.agg [I 0,I (-1),I (-1),I (-1)],Bo false],[])=some r) else (some (.tup [.agg [I e5.Mask,I a1.Order,I e4,I (-1)],Bo true],[])=some r)) else (some (.tup [.agg [I 0,I (-1),I (-1),I (-1)],Bo false],[])=some r))))))))) else (if (a3.length:Int)<2 then (some (.tup [.agg [I 0,I (-1),I (-1),I (-1)],Bo false],[])=some r) else (0≤(w ((a3.length:Int) - 2))∧(∃ (e8:Int),a3[(w ((a3.length:Int) - 2)).toNat]?=some e8∧(0≤(w ((a3.length:Int) - 1))∧(∃ (e9:Int),a3[(w ((a3.length:Int) - 1)).toNat]?=some e9∧(0≤e8∧(∃ (e10:Zh),a2[e8.toNat]?=some e10∧(0≤e9∧(∃ (e11:Zh),a2[e9.toNat]?=some e11∧(∃ (v12_0:List Int),Zd2 a e10.Mask=some (.own 0,[.arr 3 1 true (v12_0.map ic)])∧(∃ (v13_0:List Int),Zd2 a e11.Mask=some (.own 0,[.arr 3 1 true (v13_0.map ic)])∧(∃ (v14_0:List Int),Ze8 v12_0 v13_0=some (.own 0,[.arr 3 1 true (v14_0.map ic)])∧(if (andI e10.Mask e11.Mask)=0 then (if (v14_0.length:Int)=0 then (some (.tup [.agg [I (orI e10.Mask e11.Mask),I (-1),I e8,I e9],Bo false],[])=some r) else (if a1.Kind=3 then (some (.tup [.agg [I (orI e10.Mask e11.Mask),I (-1),I e8,I e9],Bo (decide (a1.Order=0))],[])=some r) else (if a1.Kind=5 then (some (.tup [.agg [I (orI e10.Mask e11.Mask),I e10.Order,I e8,I e9],Bo (decide (a1.Order=0))],[])=some r) else (if a1.Kind=4 then (∃ (v15_0:Bool),Zdl v14_0 a1.Order=some (Bo v15_0,[])∧(if v15_0=true then (if e10.Order=a1.Order then (some (.tup [.agg [I (orI e10.Mask e11.Mask),I a1.Order,I e8,I e9],Bo (decide (e11.Order=a1.Order))],[])=some r) else (some (.tup [.agg [I (orI e10.Mask e11.Mask),I a1.Order,I e8,I e9],Bo false],[])=some r)) else (some (.tup [.agg [I (orI e10.Mask e11.Mask),I a1.Order,I e8,I e9],Bo false],[])=some r))) else (some (.tup [.agg [I (orI e10.Mask e11.Mask),I (-1),I e8,I e9],Bo false],[])=some r))))) else (some (.tup [.agg [I (orI e10.Mask e11.Mask),I (-1),I e8,I e9],Bo false],[])=some r))))))))))))))) else (some (.tup [.agg [I 0,I (-1),I (-1),I (-1)],Bo false],[])=some r)))):Zh4 a a1 a2 a3=some r:=by
 unfold Zh4
 refine run Zba9 rfl ?_
 simp only [Zy,Zd2,Zdl,Ze8,Zb.c_def,mpl,dfs] at h
 try simp only [itb] at h
 try simp only [itf,gS,kk] at h
 rcases h with ⟨q1,v1_0,q2,(⟨q3,(⟨q4,q5,q6,e2,⟨g7,q7⟩,e3,⟨g8,q8⟩,h⟩ | ⟨q4,h⟩)⟩ | ⟨q3,h⟩)⟩ | ⟨q1,(⟨q9,(⟨q10,(⟨q11,h⟩ | ⟨q11,q12,e4,⟨g13,q13⟩,q14,e5,⟨g15,q15⟩,v6_0,q16,v7_0,q17,(⟨q18,(⟨q19,h⟩ | ⟨q19,h⟩)⟩ | ⟨q18,h⟩)⟩)⟩ | ⟨q10,(⟨q20,h⟩ | ⟨q20,q21,e8,⟨g22,q22⟩,q23,e9,⟨g24,q24⟩,q25,e10,⟨g26,q26⟩,q27,e11,⟨g28,q28⟩,v12_0,q29,v13_0,q30,v14_0,q31,(⟨q32,(⟨q33,h⟩ | ⟨q33,(⟨q34,h⟩ | ⟨q34,(⟨q35,h⟩ | ⟨q35,(⟨q36,v15_0,q37,(⟨q38,(⟨q39,h⟩ | ⟨q39,h⟩)⟩ | ⟨q38,h⟩)⟩ | ⟨q36,h⟩)⟩)⟩)⟩)⟩ | ⟨q32,h⟩)⟩)⟩)⟩ | ⟨q9,h⟩)⟩
 all_goals (refine Eq.trans ?_ h;clear h;simp +decide [*,kk,Zx7])
theorem Z2l (q:Zb) (info:List Zh) (stack:List Int) (x:List Zc) (x1:Int) (x2:Int) (r:AV×List Blk) (h:(if x2<x1 then (0≤x2∧(∃ (e1:Zc),x[x2.toNat]?=some e1∧(∃ (v2_0:Zh) (v2_1:Bool),Zh4 q e1 info stack=some (.tup [.agg (v2_0.c.map .t),Bo v2_1],[])∧(if v2_1=true then (info.length+1≤68719476736∧(if 0≤v2_0.Right then (0≤(w ((stack.length:Int) - 2))∧((w ((stack.length:Int) - 2)).toNat≤stack.length∧((w ((stack.length:Int) - 2)).toNat+1≤68719476736∧(Zfa q (info++[v2_0]) ((stack.take ((w ((stack.length:Int) - 2)).toNat))++[x2]) x x1 (w (x2+1))=some r)))) else (if 0≤v2_0.Left then (0≤(w ((stack.length:Int) - 1))∧((w ((stack.length:Int) - 1)).toNat≤stack.length∧((w ((stack.length:Int) - 1)).toNat+1≤68719476736∧(Zfa q (info++[v2_0]) ((stack.take ((w ((stack.length:Int) - 1)).toNat))++[x2]) x x1 (w (x2+1))=some r)))) else (stack.length+1≤68719476736∧(Zfa q (info++[v2_0]) (stack++[x2]) x x1 (w (x2+1))=some r))))) else (some (.tup [.t .nil,Bo false],[])=some r))))) else (if (stack.length:Int)=1 then (some (.tup [.own 0,Bo true],[.arr 138 4 true (info.map Zh.c)])=some r) else (some (.tup [.t .nil,Bo false],[])=some r)))):Zfa q info stack x x1 x2=some r:=by
 unfold Zfa
 rw [EvL_eq Zre.eq_1]
 simp only [Zh4,Zc.c_def,Zb.c_def,Zh.c_def,mpl,dfs] at h
 try simp only [itb] at h
 try simp only [itf,gS,kk] at h
 rcases h with ⟨q1,q2,e1,⟨g3,q3⟩,v2_0,v2_1,q4,(⟨q5,q6,(⟨q7,q8,q9,q10,h⟩ | ⟨q7,(⟨q11,q12,q13,q14,h⟩ | ⟨q11,q15,h⟩)⟩)⟩ | ⟨q5,h⟩)⟩ | ⟨q1,(⟨q16,h⟩ | ⟨q16,h⟩)⟩
 all_goals (refine Eq.trans ?_ h;clear h;simp +decide [*,kk,Zfa,Zx8,Zrf])
theorem Zbe0 (a:Zb) (a1:Plan) (r:AV×List Blk) (h:(∃ (v1_0:Bool),Zdd a=some (Bo v1_0,[])∧(if v1_0=true then (∃ (v2_0:Bool),Zy (a1.Steps.length:Int) 1 14=some (Bo v2_0,[])∧(if v2_0=true then (Zfa a ([]:List Zh) ([]:List Int) a1.Steps (a1.Steps.length:Int) 0=some r) else (some (.tup [.t .nil,Bo false],[])=some r))) else (some (.tup [.t .nil,Bo false],[])=some r)))):Ze9 a a1=some r:=by
 unfold Ze9
 refine run Zbba rfl ?_
 simp only [Zdd,Zy,Zb.c_def,mpl,dfs] at h
 try simp only [itb] at h
 try simp only [itf,gS,kk] at h
 rcases h with ⟨v1_0,q1,(⟨q2,v2_0,q3,(⟨q4,h⟩ | ⟨q4,h⟩)⟩ | ⟨q2,h⟩)⟩
 all_goals (refine Eq.trans ?_ h;clear h;simp +decide [*,kk,Zx9,Zfa])
theorem Zbe1 (a:Zb) (a1:Plan) (r:AV×List Blk) (h:((Ze9 a a1=some (.tup [.t .nil,Bo false],[])∧(some (I 0,[])=some r))∨(∃ (v2_0:List Zh),Ze9 a a1=some (.tup [.own 0,Bo true],[.arr 138 4 true (v2_0.map Zh.c)])∧(0≤(w ((v2_0.length:Int) - 1))∧(∃ (e3:Zh),v2_0[(w ((v2_0.length:Int) - 1)).toNat]?=some e3∧(some (I e3.Mask,[])=some r)))))):Zk3 a a1=some r:=by
 unfold Zk3
 refine run Zbbb rfl ?_
 simp only [Ze9,Plan.c_def,Zb.c_def,mpl,dfs] at h
 try simp only [itb] at h
 try simp only [itf,gS,kk] at h
 rcases h with ⟨q2,h⟩ | ⟨v2_0,q3,q4,e3,⟨g5,q5⟩,h⟩
 all_goals (refine Eq.trans ?_ h;clear h;simp +decide [*,kk,Zya])
theorem Zbe2 (a:Zb) (a1:Region) (r:AV×List Blk) (h:(∃ (v1_0:Bool),Zdd a=some (Bo v1_0,[])∧(if v1_0=true then (∃ (v2_0:Bool),Zk2 a a1.Box=some (Bo v2_0,[])∧(if v2_0=true then (∃ (v3_0:Int),Zk3 a a1.Plan=some (I v3_0,[])∧(∃ (v4_0:Int),Zb7 a=some (I v4_0,[])∧(if v3_0=v4_0 then (∃ (v5_0:Bool),Zy a1.Percent 100 1000=some (Bo v5_0,[])∧(some (Bo v5_0,[])=some r)) else (some (Bo false,[])=some r)))) else (some (Bo false,[])=some r))) else (some (Bo false,[])=some r)))):Zk4 a a1=some r:=by
 unfold Zk4
 refine run Zbbc rfl ?_
 simp only [Zdd,Zk2,Zk3,Zb7,Zy,Box.c_def,Plan.c_def,Zb.c_def,mpl,dfs] at h
 try simp only [itb] at h
 try simp only [itf,gS,kk] at h
 rcases h with ⟨v1_0,q1,(⟨q2,v2_0,q3,(⟨q4,v3_0,q5,v4_0,q6,(⟨q7,v5_0,q8,h⟩ | ⟨q7,h⟩)⟩ | ⟨q4,h⟩)⟩ | ⟨q2,h⟩)⟩
 all_goals (refine Eq.trans ?_ h;clear h;simp +decide [*,kk,Zyb])
theorem Zbe3 (a:Zb) (a1:Int) (r:AV×List Blk) (h:(∃ (v1_0:Bool),Zdd a=some (Bo v1_0,[])∧(if v1_0=true then (¬ (a.Atoms.length:Int)<0∧(∃ (v2_0:Bool),Zy a1 0 (w ((shlI 1 (a.Atoms.length:Int)) - 1))=some (Bo v2_0,[])∧(some (Bo v2_0,[])=some r))) else (some (Bo false,[])=some r)))):Zh5 a a1=some r:=by
 unfold Zh5
 refine run Zbbd rfl ?_
 simp only [Zdd,Zy,Zb.c_def,mpl,dfs] at h
 try simp only [itb] at h
 try simp only [itf,gS,kk] at h
 rcases h with ⟨v1_0,q1,(⟨q2,q3,v2_0,q4,h⟩ | ⟨q2,h⟩)⟩
 all_goals (refine Eq.trans ?_ h;clear h;simp +decide [*,kk,Zyc])
theorem Z2m (vars:List Int) (mask:Int) (out:Int) (x:List Atom) (x1:Int) (x2:Int) (r:AV×List Blk) (h:(if x2<x1 then (0≤x2∧(∃ (e1:Atom),x[x2.toNat]?=some e1∧(¬ x2<0∧(if (andI (shrI mask x2) 1)=0 then (∃ (v2_0:List Int),Ze8 e1.Vars vars=some (.own 0,[.arr 3 1 true (v2_0.map ic)])∧(if 0<(v2_0.length:Int) then (Zfb vars mask (orI out (shlI 1 x2)) x x1 (w (x2+1))=some r) else (Zfb vars mask out x x1 (w (x2+1))=some r))) else (Zfb vars mask out x x1 (w (x2+1))=some r))))) else (some (I out,[])=some r))):Zfb vars mask out x x1 x2=some r:=by
 unfold Zfb
 rw [EvL_eq Zrg.eq_1]
 simp only [Ze8,mpl,dfs] at h
 try simp only [itb] at h
 try simp only [itf,gS,kk] at h
 rcases h with ⟨q1,q2,e1,⟨g3,q3⟩,q4,(⟨q5,v2_0,q6,(⟨q7,h⟩ | ⟨q7,h⟩)⟩ | ⟨q5,h⟩)⟩ | ⟨q1,h⟩
 all_goals (refine Eq.trans ?_ h;clear h;simp +decide [*,kk,Zfb,Zyd,Zrh])
theorem Zbe4 (a:Zb) (a1:Int) (r:AV×List Blk) (h:(∃ (v1_0:List Int),Zd2 a a1=some (.own 0,[.arr 3 1 true (v1_0.map ic)])∧(Zfb v1_0 a1 0 a.Atoms (a.Atoms.length:Int) 0=some r))):Zk5 a a1=some r:=by
 unfold Zk5
 refine run Zbbe rfl ?_
 simp only [Zd2,Zb.c_def,mpl,dfs] at h
 rcases h with ⟨v1_0,q1,h⟩
 all_goals (refine Eq.trans ?_ h;clear h;simp +decide [*,kk,Zye,Zfb])
theorem Z2n (q:Zb) (mask:Int) (got:Int) (r:AV×List Blk) (h:(∃ (v1_0:Int),Zk5 q got=some (I v1_0,[])∧(if (orI got (andI v1_0 mask))=got then (some (Bo (decide (got=mask)),[])=some r) else (Zh6 q mask (orI got (andI v1_0 mask))=some r)))):Zh6 q mask got=some r:=by
 unfold Zh6
 rw [EvL_eq Zri.eq_1]
 simp only [Zk5,Zb.c_def,mpl,dfs] at h
 try simp only [itb] at h
 try simp only [itf,gS,kk] at h
 rcases h with ⟨v1_0,q1,(⟨q2,h⟩ | ⟨q2,h⟩)⟩
 all_goals (refine Eq.trans ?_ h;clear h;simp +decide [*,kk,Zh6])
theorem Z2o (a:Zb) (a1:Int) (r:AV×List Blk) (h:(if a1=0 then (some (Bo false,[])=some r) else (Zh6 a a1 (andI a1 (w (0 - a1)))=some r))):Zep a a1=some r:=by
 unfold Zep
 refine run Zbbf rfl ?_
 try simp only [itb] at h
 try simp only [itf,gS,kk] at h
 rcases h with ⟨q1,h⟩ | ⟨q1,h⟩
 all_goals (refine Eq.trans ?_ h;clear h;simp +decide [*,kk,Zyf,Zh6])
theorem Zbe5 (a:Zb) (a1:Int) (r:AV×List Blk) (h:(∃ (v1_0:Bool),Zh5 a a1=some (Bo v1_0,[])∧(if v1_0=true then (∃ (v2_0:Bool),Zep a a1=some (Bo v2_0,[])∧(some (Bo v2_0,[])=some r)) else (some (Bo false,[])=some r)))):Zh7 a a1=some r:=by
 unfold Zh7
 refine run Zbbg rfl ?_
 simp only [Zh5,Zep,Zb.c_def,mpl,dfs] at h
 try simp only [itb] at h
 try simp only [itf,gS,kk] at h
 rcases h with ⟨v1_0,q1,(⟨q2,v2_0,q3,h⟩ | ⟨q2,h⟩)⟩
 all_goals (refine Eq.trans ?_ h;clear h;simp +decide [*,kk,Zyg])
theorem Z2p (x:Zd) (r:AV×List Blk) (h:(some (.bsl 1 5,[.box (x.c.map .t),.box [.ptr 0 0,.ptr 0 6,.ptr 0 12,.ptr 0 18,.ptr 0 24]])=some r)):Zeq x=some r:=by
 unfold Zeq
 refine runM Zbbh rfl ?_
 refine Eq.trans ?_ h;clear h;simp +decide [*,kk,Zyh]
theorem Zbe6 (x:Zi) (r:AV×List Blk) (h:(some (.bsl 1 5,[.box (x.c.map .t),.box [.ptr 0 0,.ptr 0 1,.ptr 0 2,.ptr 0 3,.ptr 0 4]])=some r)):Zk6 x=some r:=by
 unfold Zk6
 refine runM Zbbi rfl ?_
 refine Eq.trans ?_ h;clear h;simp +decide [*,kk,Zyi]
theorem Zj9 (o:Zi) (x:Int) (x1:Int) (r:AV×List Blk) (h:(if x1<x then (if x1=0 then (∃ (v1_0:Bool),Zy o.Fixed (-99) 99=some (Bo v1_0,[])∧(if v1_0=true then (Zc2 o x (w (x1+1))=some r) else (some (Bo false,[])=some r))) else (if x1=1 then (∃ (v2_0:Bool),Zy o.Zj (-99) 99=some (Bo v2_0,[])∧(if v2_0=true then (Zc2 o x (w (x1+1))=some r) else (some (Bo false,[])=some r))) else (if x1=2 then (∃ (v3_0:Bool),Zy o.Zk (-99) 99=some (Bo v3_0,[])∧(if v3_0=true then (Zc2 o x (w (x1+1))=some r) else (some (Bo false,[])=some r))) else (if x1=3 then (∃ (v4_0:Bool),Zy o.Zm (-99) 99=some (Bo v4_0,[])∧(if v4_0=true then (Zc2 o x (w (x1+1))=some r) else (some (Bo false,[])=some r))) else (if x1=4 then (∃ (v5_0:Bool),Zy o.Zl (-99) 99=some (Bo v5_0,[])∧(if v5_0=true then (Zc2 o x (w (x1+1))=some r) else (some (Bo false,[])=some r))) else False))))) else (Zfc o o.Steps (o.Steps.length:Int) 0=some r))):Zc2 o x x1=some r:=by
 unfold Zc2
 rw [EvL_eq Zrj.eq_1]
 by_cases q1:x1<x
 ·rw [if_pos q1] at h
  by_cases q2:x1=0
  ·rw [if_pos q2] at h
   subst q2
   obtain ⟨v1_0,q3,h⟩:=h
   unfold Zy at q3
   try simp at q3
   by_cases q4:v1_0=true
   ·rw [if_pos q4] at h
    refine Eq.trans ?_ h
    clear h
    simp +decide [*,Zc2]
   ·rw [if_neg q4] at h
    refine Eq.trans ?_ h
    clear h
    simp +decide [*]
  ·rw [if_neg q2] at h
   replace q2:=eq_false q2
   by_cases q5:x1=1
   ·rw [if_pos q5] at h
    subst q5
    obtain ⟨v2_0,q6,h⟩:=h
    unfold Zy at q6
    try simp at q6
    by_cases q7:v2_0=true
    ·rw [if_pos q7] at h
     refine Eq.trans ?_ h
     clear h
     simp +decide [*,Zc2]
    ·rw [if_neg q7] at h
     refine Eq.trans ?_ h
     clear h
     simp +decide [*]
   ·rw [if_neg q5] at h
    replace q5:=eq_false q5
    by_cases q8:x1=2
    ·rw [if_pos q8] at h
     subst q8
     obtain ⟨v3_0,q9,h⟩:=h
     unfold Zy at q9
     try simp at q9
     by_cases q10:v3_0=true
     ·rw [if_pos q10] at h
      refine Eq.trans ?_ h
      clear h
      simp +decide [*,Zc2]
     ·rw [if_neg q10] at h
      refine Eq.trans ?_ h
      clear h
      simp +decide [*]
    ·rw [if_neg q8] at h
     replace q8:=eq_false q8
     by_cases q11:x1=3
     ·rw [if_pos q11] at h
      subst q11
      obtain ⟨v4_0,q12,h⟩:=h
      unfold Zy at q12
      try simp at q12
      by_cases q13:v4_0=true
      ·rw [if_pos q13] at h
       refine Eq.trans ?_ h
       clear h
       simp +decide [*,Zc2]
      ·rw [if_neg q13] at h
       refine Eq.trans ?_ h
       clear h
       simp +decide [*]
     ·rw [if_neg q11] at h
      replace q11:=eq_false q11
      by_cases q14:x1=4
      ·rw [if_pos q14] at h
       subst q14
       obtain ⟨v5_0,q15,h⟩:=h
       unfold Zy at q15
       try simp at q15
       by_cases q16:v5_0=true
       ·rw [if_pos q16] at h
        refine Eq.trans ?_ h
        clear h
        simp +decide [*,Zc2]
       ·rw [if_neg q16] at h
        refine Eq.trans ?_ h
        clear h
        simp +decide [*]
      ·rw [if_neg q14] at h
       replace q14:=eq_false q14
       cases h
 ·rw [if_neg q1] at h
  refine Eq.trans ?_ h
  clear h
  simp +decide [*,Zfc,Zrm]
theorem Z2q (o:Zi) (x:List Zg) (x1:Int) (x2:Int) (r:AV×List Blk) (h:(if x2<x1 then (0≤x2∧(∃ (e1:Zg),x[x2.toNat]?=some e1∧(∃ (v2_0:Bool),Zy e1.Add (-99) 99=some (Bo v2_0,[])∧(if v2_0=true then (∃ (v3_0:Bool),Zy e1.From 1 8192=some (Bo v3_0,[])∧(if v3_0=true then (if 0<x2 then (0≤(w (x2 - 1))∧(∃ (e4:Zg),o.Steps[(w (x2 - 1)).toNat]?=some e4∧(if e1.From≤e4.From then (some (Bo false,[])=some r) else (Zfc o x x1 (w (x2+1))=some r)))) else (Zfc o x x1 (w (x2+1))=some r)) else (some (Bo false,[])=some r))) else (some (Bo false,[])=some r))))) else (some (Bo (decide ((o.Steps.length:Int)≤4)),[])=some r))):Zfc o x x1 x2=some r:=by
 unfold Zfc
 rw [EvL_eq Zrk.eq_1]
 simp only [Zy,mpl,dfs] at h
 try simp only [itb] at h
 try simp only [itf,gS,kk] at h
 rcases h with ⟨q1,q2,e1,⟨g3,q3⟩,v2_0,q4,(⟨q5,v3_0,q6,(⟨q7,(⟨q8,q9,e4,⟨g10,q10⟩,(⟨q11,h⟩ | ⟨q11,h⟩)⟩ | ⟨q8,h⟩)⟩ | ⟨q7,h⟩)⟩ | ⟨q5,h⟩)⟩ | ⟨q1,h⟩
 all_goals (refine Eq.trans ?_ h;clear h;simp +decide [*,kk,Zfc,Zrl])
theorem Zbe7 (a:Zi) (r:AV×List Blk) (h:(Zk6 a=some (.bsl 1 5,[.box (a.c.map .t),.box [.ptr 0 0,.ptr 0 1,.ptr 0 2,.ptr 0 3,.ptr 0 4]])∧(Zc2 a 5 0=some r))):Zbq a=some r:=by
 unfold Zbq
 refine run Zbbj rfl ?_
 simp only [Zk6,Zi.c_def,mpl,dfs] at h
 rcases h with ⟨q1,h⟩
 all_goals (refine Eq.trans ?_ h;clear h;simp +decide [*,kk,Zyj,Zc2])
theorem Z2r (out:List (List Int)) (a:Int) (r:AV×List Blk) (h:(if a≤7 then (Zfd out a 0=some r) else (some (.own 0,[.arr 38 1 true (out.map isc)])=some r))):Zge out a=some r:=by
 unfold Zge
 rw [EvL_eq Zk7.eq_1]
 try simp only [itb] at h
 try simp only [itf,gS,kk] at h
 rcases h with ⟨q1,h⟩ | ⟨q1,h⟩
 all_goals (refine Eq.trans ?_ h;clear h;simp +decide [*,kk,Zfd,Zk8])
theorem Z2s (out:List (List Int)) (a:Int) (b:Int) (r:AV×List Blk) (h:(if b≤7 then (Zgf out a b 0=some r) else (Zge out (w (a+1))=some r))):Zfd out a b=some r:=by
 unfold Zfd
 rw [EvL_eq Zof.eq_1]
 try simp only [itb] at h
 try simp only [itf,gS,kk] at h
 rcases h with ⟨q1,h⟩ | ⟨q1,h⟩
 all_goals (refine Eq.trans ?_ h;clear h;simp +decide [*,kk,Zgf,Zge,Zog])
theorem Z2t (out:List (List Int)) (a:Int) (b:Int) (c:Int) (r:AV×List Blk) (h:(if c≤7 then (out.length+1≤68719476736∧(Zgf (out++[[a,b,c]]) a b (w (c+1))=some r)) else (Zfd out a (w (b+1))=some r))):Zgf out a b c=some r:=by
 unfold Zgf
 rw [EvL_eq Zrn.eq_1]
 try simp only [itb] at h
 try simp only [itf,gS,kk] at h
 rcases h with ⟨q1,q2,h⟩ | ⟨q1,h⟩
 all_goals (refine Eq.trans ?_ h;clear h;simp +decide [*,kk,Zgf,Zfd,Zro])
theorem Zbe8 (r:AV×List Blk) (h:(Zge ([]:List (List Int)) 0=some r)):Zcs=some r:=by
 unfold Zcs
 refine run Zbbk rfl ?_
 refine Eq.trans ?_ h;clear h;simp +decide [*,kk,Zyk,Zge]
theorem Zbe9 (a:List Int) (r:AV×List Blk) (h:(a.length≤68719476736∧(some (.own 0,[.arr 3 1 true (a.map ic)])=some r))):Zdm a=some r:=by
 unfold Zdm
 refine run Zbbl rfl ?_
 rcases h with ⟨q1,h⟩
 all_goals (refine Eq.trans ?_ h;clear h;simp +decide [*,kk,Zyl])
theorem Zbfa (a:Int) (r:AV×List Blk) (h:(∃ (v1_0:Bool),Zy a 0 7=some (Bo v1_0,[])∧(if v1_0=true then (if a=0 then (some (I 0,[])=some r) else (¬ (w (2*(w (a - 1))))<0∧(some (I (shlI 1 (w (2*(w (a - 1))))),[])=some r))) else (some (I (-1),[])=some r)))):Zfe a=some r:=by
 unfold Zfe
 refine run Zbbm rfl ?_
 simp only [Zy,mpl,dfs] at h
 try simp only [itb] at h
 try simp only [itf,gS,kk] at h
 rcases h with ⟨v1_0,q1,(⟨q2,(⟨q3,h⟩ | ⟨q3,q4,h⟩)⟩ | ⟨q2,h⟩)⟩
 all_goals (refine Eq.trans ?_ h;clear h;simp +decide [*,kk,Zym])
theorem Z2u (left:Int) (right:Int) (n:Int) (x:List Zg) (x1:Int) (x2:Int) (r:AV×List Blk) (h:(if x2<x1 then (0≤x2∧(∃ (e1:Zg),x[x2.toNat]?=some e1∧(if e1.From≤(w (left+right)) then (Zgg left right (w (n+e1.Add)) x x1 (w (x2+1))=some r) else (Zgg left right n x x1 (w (x2+1))=some r)))) else (some (I n,[])=some r))):Zgg left right n x x1 x2=some r:=by
 unfold Zgg
 rw [EvL_eq Zrp.eq_1]
 try simp only [itb] at h
 try simp only [itf,gS,kk] at h
 rcases h with ⟨q1,q2,e1,⟨g3,q3⟩,(⟨q4,h⟩ | ⟨q4,h⟩)⟩ | ⟨q1,h⟩
 all_goals (refine Eq.trans ?_ h;clear h;simp +decide [*,kk,Zgg,Zyn,Zrq])
theorem Zbfb (a:Zi) (a1:Int) (a2:Int) (a3:Int) (r:AV×List Blk) (h:(Zgg a1 a2 (w ((w ((w ((w (a.Fixed+(w (a.Zj*a1))))+(w (a.Zk*a2))))+(w (a.Zm*a3))))+(w ((w (a.Zl*a1))*a2)))) a.Steps (a.Steps.length:Int) 0=some r)):Zh8 a a1 a2 a3=some r:=by
 unfold Zh8
 refine run Zbbn rfl ?_
 refine Eq.trans ?_ h;clear h;simp +decide [*,kk,Zyo,Zgg]
theorem Zbfc (a:Zi) (a1:List Int) (r:AV×List Blk) (h:(∃ (e1:Int),a1[0]?=some e1∧(∃ (v2_0:Int),Zfe e1=some (I v2_0,[])∧(∃ (e3:Int),a1[1]?=some e3∧(∃ (v4_0:Int),Zfe e3=some (I v4_0,[])∧(∃ (e5:Int),a1[2]?=some e5∧(∃ (v6_0:Int),Zfe e5=some (I v6_0,[])∧(∃ (v7_0:Int),Zh8 a v2_0 v4_0 v6_0=some (I v7_0,[])∧(some (I v7_0,[])=some r))))))))):Zcg a a1=some r:=by
 unfold Zcg
 refine run Zbbo rfl ?_
 simp only [Zfe,Zh8,Zi.c_def,mpl,dfs] at h
 try simp only [itb] at h
 try simp only [itf,gS,kk] at h
 rcases h with ⟨e1,⟨g1,q1⟩,v2_0,q2,e3,⟨g3,q3⟩,v4_0,q4,e5,⟨g5,q5⟩,v6_0,q6,v7_0,q7,h⟩
 all_goals (refine Eq.trans ?_ h;clear h;simp +decide [*,kk,Zyp])
theorem Z2v (o:Zi) (x:List (List Int)) (x1:Int) (x2:Int) (r:AV×List Blk) (h:(if x2<x1 then (0≤x2∧(∃ (e1:List Int),x[x2.toNat]?=some e1∧(Zc3 o x e1 x1 x2 (e1.length:Int) 0=some r))) else (some (.tup [.t .nil,.t .nil,Bo false],[])=some r))):Zer o x x1 x2=some r:=by
 unfold Zer
 rw [EvL_eq Zoh.eq_1]
 try simp only [itb] at h
 try simp only [itf,gS,kk] at h
 rcases h with ⟨q1,q2,e1,⟨g3,q3⟩,h⟩ | ⟨q1,h⟩
 all_goals (refine Eq.trans ?_ h;clear h;simp +decide [*,kk,Zc3,Zoi])
theorem Zup (o:Zi) (x:List (List Int)) (t:List Int) (x1:Int) (x2:Int) (x3:Int) (x4:Int) (r:AV×List Blk) (h:(if x4<x3 then (0≤x4∧(∃ (e1:Int),t[x4.toNat]?=some e1∧(if e1=7 then (Zc3 o x t x1 x2 x3 (w (x4+1))=some r) else (∃ (v2_0:List Int),Zdm t=some (.own 0,[.arr 3 1 true (v2_0.map ic)])∧(∃ (e3:Int),v2_0[x4.toNat]?=some e3∧(∃ (v4_0:Int),Zcg o (v2_0.set x4.toNat (w (e3+1)))=some (I v4_0,[])∧(∃ (v5_0:Int),Zcg o t=some (I v5_0,[])∧(if v4_0<v5_0 then (some (.tup [L 1 (t.map ic),.own 0,Bo true],[.arr 3 1 true ((v2_0.set x4.toNat (w (e3+1))).map ic)])=some r) else (Zc3 o x t x1 x2 x3 (w (x4+1))=some r))))))))) else (Zer o x x1 (w (x2+1))=some r))):Zc3 o x t x1 x2 x3 x4=some r:=by
 unfold Zc3
 rw [EvL_eq Zrr.eq_1]
 simp only [Zdm,Zcg,Zi.c_def,mpl,dfs] at h
 try simp only [itb] at h
 try simp only [itf,gS,kk] at h
 rcases h with ⟨q1,q2,e1,⟨g3,q3⟩,(⟨q4,h⟩ | ⟨q4,v2_0,q5,e3,⟨g6,q6⟩,v4_0,q7,v5_0,q8,(⟨q9,h⟩ | ⟨q9,h⟩)⟩)⟩ | ⟨q1,h⟩
 all_goals (refine Eq.trans ?_ h;clear h;simp +decide [*,kk,Zc3,Zyq,Zer,Zrs])
theorem Zbfd (a:Zi) (r:AV×List Blk) (h:(∃ (v1_0:Bool),Zbq a=some (Bo v1_0,[])∧(if v1_0=true then (∃ (v2_0:List (List Int)),Zcs=some (.own 0,[.arr 38 1 true (v2_0.map isc)])∧(Zer a v2_0 (v2_0.length:Int) 0=some r)) else (some (.tup [.t .nil,.t .nil,Bo false],[])=some r)))):Zbl a=some r:=by
 unfold Zbl
 refine run Zbbp rfl ?_
 simp only [Zbq,Zcs,Zi.c_def,mpl,dfs] at h
 try simp only [itb] at h
 try simp only [itf,gS,kk] at h
 rcases h with ⟨v1_0,q1,(⟨q2,v2_0,q3,h⟩ | ⟨q2,h⟩)⟩
 all_goals (refine Eq.trans ?_ h;clear h;simp +decide [*,kk,Zyr,Zer])
end Go.Proofs.YtbapkgocloaaeaaGreat
