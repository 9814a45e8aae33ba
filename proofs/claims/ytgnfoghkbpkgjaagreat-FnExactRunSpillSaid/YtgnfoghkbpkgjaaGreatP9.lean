/-
  Parts of the proofs for this seat: D2 D3 T1 T2 T3 T4 G1 G2 SN G3.
-/
import Derived.Test.YtgnfoghkbpkgjaaGreatP6
import Derived.Test.YtgnfoghkbpkgjaaGreatP8
set_option linter.unusedSimpArgs false
set_option linter.unusedVariables false
set_option maxRecDepth 100000
set_option maxHeartbeats 4000000
namespace Go.Proofs.YtgnfoghkbpkgjaaGreat
open Go.AM
def Zut:MCode:=.we [.m 20 3,.fa 21 2 1,.l 22 21,.ll 23 22,.b 24 .lss 20 23] [1,3,24] 24 0 (.seq (.block 1 (.seq (.drw [.fa 27 2 1,.l 28 27,.m 29 3,.ia 30 1 28 29,.l 31 30,.fa 32 1 1,.l 33 32,.cl 34 343 [31,33],.o 35 (.un .not (.s 34)),.m 36 35,.h 37 36 (.mov (.s 3)),.h 38 36 (.bk .gtr 37 0),.h 39 36 (.mov (.s 38)),.g 40 39 (.fa 2 1),.g 41 39 (.l 40),.g 42 39 (.mov (.s 3)),.g 43 39 (.bk .sub 42 1),.g 44 39 (.ia 1 41 43),.g 45 39 (.l 44),.g 46 39 (.fa 2 1),.g 47 39 (.l 46),.g 48 39 (.mov (.s 3)),.g 49 39 (.ia 1 47 48),.g 50 39 (.l 49),.g 51 39 (.cl 167 [45,50]),.g 52 39 (.bk .geq 51 0),.h 53 36 (.pick (.s 39) (.s 52) (.q false)),.o 54 (.pick (.s 36) (.q true) (.s 53))] [[],[0],[],[1,2],[3],[],[5],[4,6],[7],[8,7],[9],[10,9],[11,9,9],[12],[13,12],[12],[15,12],[14,16,12],[17,12],[12],[19,12],[12],[20,21,12],[22,12],[18,23,12,12],[24,12],[12,25,9],[9,26]] [1,3,54]) (.cond (.s 54) (.r [.o 2 (.mov (.q false))] [2] .ret) .skip))) (.reg [.m 25 3,.bk 26 .add 25 1,.m 3 26] [1,3]))
def Zuu:MCode:=.r [.o 2 (.mov (.q true))] [2] .ret
def Z14:MFun:=⟨1,55,[.tmp 2],.r [.bx 1 0,.o 2 (.mov (.q false))] [1] (.wc [.fa 4 0 1,.l 5 4,.cl 6 289 [5],.o 7 (.un .not (.s 6)),.m 8 7,.h 9 8 (.fa 1 1),.h 10 8 (.l 9),.h 11 8 (.call 122 [.s 10,.c (.t (.int .i64 1)),.c (.t (.int .i64 3))]),.h 12 8 (.un .not (.s 11)),.o 13 (.pick (.s 8) (.q true) (.s 12)),.m 14 13,.h 15 14 (.fa 2 1),.h 16 14 (.l 15),.h 17 14 (.ll 16),.h 18 14 (.bk .gtr 17 8),.o 19 (.pick (.s 14) (.q true) (.s 18))] [1,19] 19 (.r [.o 2 (.mov (.q false))] [2] .ret) (.seq (.r [.mk' 3 0] [1,3] (.block 0 (.loop [1,3] Zut))) Zuu))⟩
noncomputable def Zpd (a:Zh):Rs:=C 399 [.agg (a.c.map .t)] []
noncomputable def Zis (t:Zh) (i:Int):Rs:=EvL C [.blk 0,.seq Zuu,.fin 0 [.tmp 2]] [1,3] Zut ⟨[(1,.ptr 0 0),(3,I i)],[[]],[.box (t.c.map .t)]⟩
def Zuv:MCode:=.we [.m 4 3,.fa 5 0 1,.l 6 5,.ll 7 6,.b 8 .lss 4 7] [1,3,8] 8 0 (.seq (.block 1 (.seq (.drw [.fa 11 0 1,.l 12 11,.m 13 3,.ia 14 3 12 13,.ln 15 3 14,.cl 16 399 [15],.o 17 (.un .not (.s 16)),.m 18 17,.h 19 18 (.mov (.s 3)),.h 20 18 (.bk .gtr 19 0),.h 21 18 (.mov (.s 20)),.g 22 21 (.fa 0 1),.g 23 21 (.l 22),.g 24 21 (.mov (.s 3)),.g 25 21 (.bk .sub 24 1),.g 26 21 (.ia 3 23 25),.g 27 21 (.fa 0 26),.g 28 21 (.l 27),.g 29 21 (.fa 0 1),.g 30 21 (.l 29),.g 31 21 (.mov (.s 3)),.g 32 21 (.ia 3 30 31),.g 33 21 (.fa 0 32),.g 34 21 (.l 33),.g 35 21 (.b .geq 28 34),.h 36 18 (.pick (.s 21) (.s 35) (.q false)),.o 37 (.pick (.s 18) (.q true) (.s 36))] [[],[0],[],[1,2],[3],[4],[5],[6,5],[7],[8,7],[9,7,7],[10],[11,10],[10],[13,10],[12,14,10],[15,10],[16,10],[10],[18,10],[10],[19,20,10],[21,10],[22,10],[17,23,10],[10,24,7],[7,25]] [1,3,37]) (.cond (.s 37) (.r [.o 2 (.mov (.q false))] [2] .ret) .skip))) (.reg [.m 9 3,.bk 10 .add 9 1,.m 3 10] [1,3]))
def Zuw:MCode:=.r [.fa 38 0 1,.l 39 38,.ll 40 39,.bk 41 .leq 40 6,.m 2 41] [2] .ret
def Z15:MFun:=⟨1,42,[.tmp 2],.r [.bx 1 0,.o 2 (.mov (.q false))] [1] (.seq (.r [.mk' 3 0] [1,3] (.block 0 (.loop [1,3] Zuv))) Zuw)⟩
noncomputable def Zl2 (a:Zk):Rs:=C 351 [.agg (a.c.map .t)] []
noncomputable def Zit (d:Zk) (i:Int):Rs:=EvL C [.blk 0,.seq Zuw,.fin 0 [.tmp 2]] [1,3] Zuv ⟨[(1,.ptr 0 0),(3,I i)],[[]],[.box (d.c.map .t)]⟩
def Zl3:MCode:=.we [.m 10 4,.fa 11 2 1,.l 12 11,.ll 13 12,.b 14 .lss 10 13] [1,2,3,4,14] 14 0 (.seq (.block 1 (.drw [.fa 17 2 3,.l 18 17,.o 19 (.bslice 3 1 0 [.z] []),.fa 20 2 1,.l 21 20,.m 22 4,.ia 23 1 21 22,.l 24 23,.o 25 (.append 3 1 8 false (.s 19) (.s 24)),.o 26 (.bslice 30 1 1 [.lst 1 []] [(0,.s 25)]),.o 27 (.append 30 1 24 true (.s 18) (.s 26)),.fa 28 2 3,.st 1 28 27] [[],[0],[],[],[3],[],[4,5],[6],[2,7],[8],[1,9,8],[0,1,2,3,4,5,6,7,8,9,10],[11,10,10,0,1,2,3,4,5,6,7,8,9,10]] [1,2,3,4])) (.reg [.m 15 4,.bk 16 .add 15 1,.m 4 16] [1,2,3,4]))
def Zl4:MCode:=.r [.ln 29 3 3,.st 3 2 29] [2] .ret
def Z16:MFun:=⟨1,30,[.cell 2 (some 3)],.r [.bx 1 0,.o 2 (.alloc [.t (.str ⟨#[]⟩),.t .z,.t .nil])] [1,2] (.r [.fa 5 0 1,.l 6 5,.fa 7 1 1,.l 8 7,.o 9 (.build [.t (.str ⟨#[]⟩),.t .z,.t .nil] [(0,1,.s 6),(1,1,.s 8)]),.o 3 (.alloc [.t (.str ⟨#[]⟩),.t .z,.t .nil]),.st 3 3 9] [1,2,3] (.seq (.r [.mk' 4 0] [1,2,3,4] (.block 0 (.loop [1,2,3,4] Zl3))) Zl4))⟩
noncomputable def Zl5 (a:Zh):Rs:=C 352 [.agg (a.c.map .t)] []
noncomputable def Zpe (t:Zh) (Name:ByteArray) (Arity:Int) (Name1:ByteArray) (Arity1 i:Int):Rs:=EvL C [.blk 0,.seq Zl4,.fin 0 [.cell 2 (some 3)]] [1,2,3,4] Zl3 ⟨[(1,.ptr 0 0),(2,.ptr 1 0),(3,.ptr 2 0),(4,I i)],[[]],[.box (t.c.map .t),.box [.t (.str Name),I Arity,.t .nil],.box [.t (.str Name1),I Arity1,.t .nil]]⟩
noncomputable def Ziu (t:Zh) (Name:ByteArray) (Arity:Int) (Name1:ByteArray) (Arity1:Int) (x:List (List Int)) (i:Int):Rs:=EvL C [.blk 0,.seq Zl4,.fin 0 [.cell 2 (some 3)]] [1,2,3,4] Zl3 ⟨[(1,.ptr 0 0),(2,.ptr 1 0),(3,.ptr 2 0),(4,I i)],[[]],[.box (t.c.map .t),.box [.t (.str Name),I Arity,.t .nil],.box [.t (.str Name1),I Arity1,.own 3],.arr 30 1 true (x.map isc)]⟩
def Zux:MCode:=.we [.m 7 6,.fa 8 0 2,.l 9 8,.ll 10 9,.b 11 .lss 7 10,.m 12 11,.g 13 12 (.ln 1 2),.g 14 12 (.cl 351 [13]),.o 15 (.pick (.s 12) (.s 14) (.q false))] [1,2,4,6,15] 15 0 (.seq (.block 1 (.r [.fa 18 0 2,.l 19 18,.m 20 6,.ia 21 3 19 20,.fa 22 0 21,.l 23 22,.m 24 1,.b 25 .eql 23 24] [1,2,4,6,25] (.cond (.s 25) (.r [.fa 26 0 2,.l 27 26,.m 28 6,.ia 29 3 27 28,.ln 30 3 29,.cl 31 352 [30],.st 3 4 31,.o 5 (.mov (.q true))] [4,5] .ret) .skip))) (.reg [.m 16 6,.bk 17 .add 16 1,.m 6 17] [1,2,4,6]))
def Zuy:MCode:=.r [.o 32 (.build [.t (.str ⟨#[]⟩),.t .z,.t .nil] []),.st 3 4 32,.o 5 (.mov (.q false))] [4,5] .ret
def Z17:MFun:=⟨2,33,[.cell 4 (some 3),.tmp 5],.r [.bx 2 0,.o 4 (.alloc [.t (.str ⟨#[]⟩),.t .z,.t .nil]),.o 5 (.mov (.q false))] [1,2,4] (.seq (.r [.mk' 6 0] [1,2,4,6] (.block 0 (.loop [1,2,4,6] Zux))) Zuy)⟩
noncomputable def Ze8 (a:Zk) (a1:ByteArray):Rs:=C 275 [.agg (a.c.map .t),.t (.str a1)] []
noncomputable def Zl6 (d:Zk) (Name:ByteArray) (Arity:Int) (name:ByteArray) (i:Int):Rs:=EvL C [.blk 0,.seq Zuy,.fin 0 [.cell 4 (some 3),.tmp 5]] [1,2,4,6] Zux ⟨[(1,.t (.str name)),(2,.ptr 0 0),(4,.ptr 1 0),(6,I i)],[[]],[.box (d.c.map .t),.box [.t (.str Name),I Arity,.t .nil]]⟩
def Zuz:MCode:=.we [.m 11 5,.fa 12 1 3,.l 13 12,.ll 14 13,.b 15 .lss 11 14] [2,3,5,15] 15 0 (.seq (.block 1 (.seq (.drw [.ln 19 1 2,.fa 20 1 3,.l 21 20,.m 22 5,.ia 23 2 21 22,.fa 24 0 23,.l 25 24,.cl 26 275 [19,25],.m 18 26,.o 27 (.ext (.s 18) 0),.o 28 (.ext (.s 18) 1),.o 6 (.alloc [.t (.str ⟨#[]⟩),.t .z,.t .nil]),.st 3 6 27,.m 7 28] [[],[],[1],[],[2,3],[4],[5],[0,6],[7],[8],[8],[],[11,9,7,0,1,2,3,4,5,6,7,8,9,11],[10,12,0,1,2,3,4,5,6,7,8,9,10,11,12]] [2,3,5,6,7]) (.seq (.drw [.m 29 7,.o 30 (.un .not (.s 29)),.m 31 30,.h 32 31 (.fa 1 6),.h 33 31 (.l 32),.h 34 31 (.fa 1 3),.h 35 31 (.l 34),.h 36 31 (.mov (.s 5)),.h 37 31 (.ia 2 35 36),.h 38 31 (.fa 1 37),.h 39 31 (.l 38),.h 40 31 (.ll 39),.h 41 31 (.b .neq 33 40),.o 42 (.pick (.s 31) (.q true) (.s 41))] [[],[0],[1],[2],[3,2],[2],[5,2],[2],[6,7,2],[8,2],[9,2],[10,2],[4,11,2],[2,12]] [2,3,5,42]) (.cond (.s 42) (.r [.o 4 (.mov (.q false))] [4] .ret) .skip)))) (.reg [.m 16 5,.bk 17 .add 16 1,.m 5 17] [2,3,5]))
def Zu0:MCode:=.r [.o 4 (.mov (.q true))] [4] .ret
def Z18:MFun:=⟨2,43,[.tmp 4],.r [.bx 2 0,.bx 3 1,.o 4 (.mov (.q false))] [2,3] (.wc [.ln 8 2 3,.cl 9 200 [8],.o 10 (.un .not (.s 9))] [2,3,10] 10 (.r [.o 4 (.mov (.q false))] [4] .ret) (.seq (.r [.mk' 5 0] [2,3,5] (.block 0 (.loop [2,3,5] Zuz))) Zu0))⟩
noncomputable def Zgv (a:Zk) (a1:Zd):Rs:=C 178 [.agg (a.c.map .t),.agg (a1.c.map .t)] []
noncomputable def Ziv (d:Zk) (q:Zd) (i:Int):Rs:=EvL C [.blk 0,.seq Zu0,.fin 0 [.tmp 4]] [2,3,5] Zuz ⟨[(2,.ptr 0 0),(3,.ptr 1 0),(5,I i)],[[]],[.box (d.c.map .t),.box (q.c.map .t)]⟩
def Z19:MFun:=⟨2,16,[.tmp 4],.r [.bx 2 0,.o 4 (.mov (.q false))] [1,2] (.r [.ln 5 2 2,.cl 6 200 [5],.m 7 6,.g 8 7 (.mov (.s 1)),.g 9 7 (.fa 1 2),.g 10 7 (.l 9),.g 11 7 (.ll 10),.g 12 7 (.bin .shl (.k 1) (.s 11)),.g 13 7 (.bk .sub 12 1),.g 14 7 (.call 122 [.s 8,.c (.t .z),.s 13]),.o 15 (.pick (.s 7) (.s 14) (.q false)),.m 4 15] [4] .ret)⟩
noncomputable def Zu1 (a:Zd) (a1:Int):Rs:=C 225 [.agg (a.c.map .t),I a1] []
def Z2a:MCode:=.reg [.m 8 4,.bk 9 .add 8 1,.m 4 9] [0,3,4]
def Zu2:MCode:=.we [.m 6 4,.bk 7 .lss 6 4] [0,3,4,7] 7 0 (.seq (.block 1 (.r [.m 10 0,.m 11 4,.b 12 .shr 10 11,.bk 13 .and 12 1,.bk 14 .eql 13 1] [0,3,4,14] (.cond (.s 14) (.reg [.m 15 3,.m 16 4,.o 17 (.bslice 3 1 1 [.z] [(0,.s 16)]),.o 18 (.append 3 1 8 true (.s 15) (.s 17)),.m 3 18] [0,3,4]) .skip))) Z2a)
def Zu3:MCode:=.r [.m 19 3,.m 2 19] [2] .ret
def Z2b:MFun:=⟨1,20,[.tmp 2],.r [.o 2 (.mov (.c (.t .nil)))] [0] (.r [.o 5 (.bslice 3 1 0 [.z] []),.m 3 5] [0,3] (.seq (.r [.mk' 4 0] [0,3,4] (.block 0 (.loop [0,3,4] Zu2))) Zu3))⟩
noncomputable def Zu4 (a:Int):Rs:=C 353 [I a] []
noncomputable def Ziw (out:List Int) (bits v:Int):Rs:=EvL C [.blk 0,.seq Zu3,.fin 0 [.tmp 2]] [0,3,4] Zu2 ⟨[(0,I bits),(3,.own 0),(4,I v)],[[]],[.arr 3 1 true (out.map ic)]⟩
def Z2c:MFun:=⟨2,14,[.tmp 4],.r [.bx 2 0,.o 4 (.mov (.c (.t .nil)))] [1,2] (.wc [.ln 5 2 2,.m 6 1,.cl 7 225 [5,6],.o 8 (.un .not (.s 7))] [1,2,8] 8 (.r [.o 9 (.bslice 3 1 0 [.z] []),.m 4 9] [4] .ret) (.r [.ln 10 2 2,.m 11 1,.cl 12 349 [10,11],.cl 13 353 [12],.m 4 13] [4] .ret))⟩
noncomputable def Zix (a:Zd) (a1:Int):Rs:=C 276 [.agg (a.c.map .t),I a1] []
def Zu5:MCode:=.we [.m 6 5,.fa 7 1 2,.l 8 7,.ll 9 8,.b 10 .lss 6 9] [1,2,5,10] 10 0 (.seq (.block 1 (.r [.fa 13 1 2,.l 14 13,.m 15 5,.ia 16 1 14 15,.l 17 16,.m 18 1,.b 19 .eql 17 18] [1,2,5,19] (.cond (.s 19) (.r [.m 20 5,.m 4 20] [4] .ret) .skip))) (.reg [.m 11 5,.bk 12 .add 11 1,.m 5 12] [1,2,5]))
def Zu6:MCode:=.r [.mk' 4 (-1)] [4] .ret
def Z2d:MFun:=⟨2,21,[.tmp 4],.r [.bx 2 0,.mk' 4 0] [1,2] (.seq (.r [.mk' 5 0] [1,2,5] (.block 0 (.loop [1,2,5] Zu5))) Zu6)⟩
noncomputable def Ziy (a:Atom) (a1:Int):Rs:=C 335 [.agg (a.c.map .t),I a1] []
noncomputable def Zl7 (a:Atom) (v k:Int):Rs:=EvL C [.blk 0,.seq Zu6,.fin 0 [.tmp 4]] [1,2,5] Zu5 ⟨[(1,I v),(2,.ptr 0 0),(5,I k)],[[]],[.box (a.c.map .t)]⟩
def Zl8:MCode:=.we [.m 52 13,.fa 53 0 10,.l 54 53,.ll 55 54,.b 56 .lss 52 55] [2,4,6,8,10,11,12,13,56] 56 2 (.seq (.block 3 (.drw [.m 59 12,.fa 60 2 8,.l 61 60,.m 62 11,.ia 63 1 61 62,.l 64 63,.fa 65 1 4,.l 66 65,.m 67 2,.ia 68 2 66 67,.ln 69 2 68,.fa 70 0 10,.l 71 70,.m 72 13,.ia 73 1 71 72,.l 74 73,.cl 75 335 [69,74],.ia 76 1 64 75,.l 77 76,.o 78 (.bslice 3 1 1 [.z] [(0,.s 77)]),.o 79 (.append 3 1 8 true (.s 59) (.s 78)),.m 12 79] [[],[],[1],[],[2,3],[4],[],[6],[],[7,8],[9],[],[11],[],[12,13],[14],[10,15],[5,16],[17],[18],[0,19,16],[20,20,0,1,2,3,4,5,6,7,8,9,10,11,12,13,14,15,16,17,18,19,20]] [2,4,6,8,10,11,12,13])) (.reg [.m 57 13,.bk 58 .add 57 1,.m 13 58] [2,4,6,8,10,11,12,13]))
def Zl9:MCode:=.reg [.fa 80 1 10,.l 81 80,.m 82 12,.o 83 (.bslice 30 1 1 [.lst 1 []] [(0,.s 82)]),.o 84 (.append 30 1 24 true (.s 81) (.s 83)),.fa 85 1 10,.st 1 85 84] [2,4,6,8,10,11]
def Zma:MCode:=.reg [.m 49 11,.bk 50 .add 49 1,.m 11 50] [2,4,6,8,10,11]
def Ze9:MCode:=.we [.m 44 11,.fa 45 2 8,.l 46 45,.ll 47 46,.b 48 .lss 44 47] [2,4,6,8,10,11,48] 48 0 (.seq (.block 1 (.r [.o 51 (.bslice 3 1 0 [.z] []),.m 12 51] [2,4,6,8,10,11,12] (.seq (.r [.mk' 13 0] [2,4,6,8,10,11,12,13] (.block 2 (.loop [2,4,6,8,10,11,12,13] Zl8))) Zl9))) Zma)
def Zfa:MCode:=.r [.ln 86 2 10,.st 2 6 86,.o 7 (.mov (.q true))] [6,7] .ret
def Z2e:MFun:=⟨3,87,[.cell 6 (some 2),.tmp 7],.r [.bx 3 0,.bx 4 1,.o 6 (.alloc [.t .nil,.t .nil]),.o 7 (.mov (.q false))] [2,3,4,6] (.wc [.ln 14 1 3,.ln 15 2 4,.cl 16 178 [14,15],.o 17 (.un .not (.s 16)),.m 18 17,.h 19 18 (.mov (.s 2)),.h 20 18 (.fa 1 4),.h 21 18 (.l 20),.h 22 18 (.ll 21),.h 23 18 (.bk .sub 22 1),.h 24 18 (.call 122 [.s 19,.c (.t .z),.s 23]),.h 25 18 (.un .not (.s 24)),.o 26 (.pick (.s 18) (.q true) (.s 25))] [2,3,4,6,26] 26 (.r [.o 27 (.build [.t .nil,.t .nil] []),.st 2 6 27,.o 7 (.mov (.q false))] [6,7] .ret) (.seq (.drw [.ln 29 1 3,.fa 30 1 4,.l 31 30,.m 32 2,.ia 33 2 31 32,.fa 34 0 33,.l 35 34,.cl 36 275 [29,35],.m 28 36,.o 37 (.ext (.s 28) 0),.o 38 (.ext (.s 28) 1),.o 8 (.alloc [.t (.str ⟨#[]⟩),.t .z,.t .nil]),.st 3 8 37,.m 9 38] [[],[],[1],[],[2,3],[4],[5],[0,6],[7],[8],[8],[],[11,9,7,0,1,2,3,4,5,6,7,8,9,11],[10,12,0,1,2,3,4,5,6,7,8,9,10,11,12]] [2,4,6,8]) (.seq (.drw [.ln 39 2 4,.m 40 2,.o 41 (.bin .shl (.k 1) (.s 40)),.cl 42 276 [39,41],.o 43 (.build [.t .nil,.t .nil] [(0,1,.s 42)]),.o 10 (.alloc [.t .nil,.t .nil]),.st 2 10 43] [[],[],[1],[0,2],[3],[],[5,4,3,0,1,2,3,4,5]] [2,4,6,8,10]) (.seq (.r [.mk' 11 0] [2,4,6,8,10,11] (.block 0 (.loop [2,4,6,8,10,11] Ze9))) Zfa))))⟩
noncomputable def Zgw (a:Zk) (a1:Zd) (a2:Int):Rs:=C 263 [.agg (a.c.map .t),.agg (a1.c.map .t),I a2] []
noncomputable def Zu7 (q:Zd) (Name:ByteArray) (Arity:Int) (x:List Int) (i k:Int):Rs:=EvL C [.blk 0,.seq Zfa,.fin 0 [.cell 6 (some 2),.tmp 7]] [2,4,6,8,10,11] Ze9 ⟨[(2,I i),(4,.ptr 0 0),(6,.ptr 1 0),(8,.ptr 2 0),(10,.ptr 3 0),(11,I k)],[[]],[.box (q.c.map .t),.box [.t .nil,.t .nil],.box [.t (.str Name),I Arity,.t .nil],.box [.own 4,.t .nil],.arr 3 1 true (x.map ic)]⟩
noncomputable def Zu8 (q:Zd) (Name:ByteArray) (Arity:Int) (x:List (List Int)) (x1:List Int) (i k:Int):Rs:=EvL C [.blk 0,.seq Zfa,.fin 0 [.cell 6 (some 2),.tmp 7]] [2,4,6,8,10,11] Ze9 ⟨[(2,I i),(4,.ptr 0 0),(6,.ptr 1 0),(8,.ptr 2 0),(10,.ptr 4 0),(11,I k)],[[]],[.box (q.c.map .t),.box [.t .nil,.t .nil],.box [.t (.str Name),I Arity,.own 3],.arr 30 1 true (x.map isc),.box [.own 5,.t .nil],.arr 3 1 true (x1.map ic)]⟩
noncomputable def Z2f (q:Zd) (Name:ByteArray) (Arity:Int) (x row:List Int) (i k j:Int):Rs:=EvL C [.blk 2,.seq Zl9,.blk 1,.seq Zma,.loop [2,4,6,8,10,11] Ze9,.blk 0,.seq Zfa,.fin 0 [.cell 6 (some 2),.tmp 7]] [2,4,6,8,10,11,12,13] Zl8 ⟨[(2,I i),(4,.ptr 0 0),(6,.ptr 1 0),(8,.ptr 2 0),(10,.ptr 3 0),(11,I k),(12,.own 5),(13,I j)],[[]],[.box (q.c.map .t),.box [.t .nil,.t .nil],.box [.t (.str Name),I Arity,.t .nil],.box [.own 4,.t .nil],.arr 3 1 true (x.map ic),.arr 3 1 true (row.map ic)]⟩
noncomputable def Zmb (q:Zd) (Name:ByteArray) (Arity:Int) (x:List (List Int)) (x1 row:List Int) (i k j:Int):Rs:=EvL C [.blk 2,.seq Zl9,.blk 1,.seq Zma,.loop [2,4,6,8,10,11] Ze9,.blk 0,.seq Zfa,.fin 0 [.cell 6 (some 2),.tmp 7]] [2,4,6,8,10,11,12,13] Zl8 ⟨[(2,I i),(4,.ptr 0 0),(6,.ptr 1 0),(8,.ptr 2 0),(10,.ptr 4 0),(11,I k),(12,.own 6),(13,I j)],[[]],[.box (q.c.map .t),.box [.t .nil,.t .nil],.box [.t (.str Name),I Arity,.own 3],.arr 30 1 true (x.map isc),.box [.own 5,.t .nil],.arr 3 1 true (x1.map ic),.arr 3 1 true (row.map ic)]⟩
noncomputable def Zgx (q:Zd) (Name:ByteArray) (Arity:Int) (x:List (List Int)) (x1:List Int) (x2:List (List Int)) (i k:Int):Rs:=EvL C [.blk 0,.seq Zfa,.fin 0 [.cell 6 (some 2),.tmp 7]] [2,4,6,8,10,11] Ze9 ⟨[(2,I i),(4,.ptr 0 0),(6,.ptr 1 0),(8,.ptr 2 0),(10,.ptr 4 0),(11,I k)],[[]],[.box (q.c.map .t),.box [.t .nil,.t .nil],.box [.t (.str Name),I Arity,.own 3],.arr 30 1 true (x.map isc),.box [.own 5,.own 6],.arr 3 1 true (x1.map ic),.arr 30 1 true (x2.map isc)]⟩
noncomputable def Zmc (q:Zd) (Name:ByteArray) (Arity:Int) (x:List (List Int)) (x1:List Int) (x2:List (List Int)) (row:List Int) (i k j:Int):Rs:=EvL C [.blk 2,.seq Zl9,.blk 1,.seq Zma,.loop [2,4,6,8,10,11] Ze9,.blk 0,.seq Zfa,.fin 0 [.cell 6 (some 2),.tmp 7]] [2,4,6,8,10,11,12,13] Zl8 ⟨[(2,I i),(4,.ptr 0 0),(6,.ptr 1 0),(8,.ptr 2 0),(10,.ptr 4 0),(11,I k),(12,.own 7),(13,I j)],[[]],[.box (q.c.map .t),.box [.t .nil,.t .nil],.box [.t (.str Name),I Arity,.own 3],.arr 30 1 true (x.map isc),.box [.own 5,.own 6],.arr 3 1 true (x1.map ic),.arr 30 1 true (x2.map isc),.arr 3 1 true (row.map ic)]⟩
def Zu9:MCode:=.we [.m 6 5,.m 7 0,.ll 8 7,.b 9 .lss 6 8] [0,1,5,9] 9 0 (.seq (.block 1 (.r [.m 12 0,.m 13 5,.ia 14 1 12 13,.l 15 14,.m 16 1,.b 17 .eql 15 16] [0,1,5,17] (.cond (.s 17) (.r [.m 18 5,.m 4 18] [4] .ret) .skip))) (.reg [.m 10 5,.bk 11 .add 10 1,.m 5 11] [0,1,5]))
def Zva:MCode:=.r [.mk' 4 (-1)] [4] .ret
def Z2g:MFun:=⟨2,19,[.tmp 4],.r [.mk' 4 0] [0,1] (.seq (.r [.mk' 5 0] [0,1,5] (.block 0 (.loop [0,1,5] Zu9))) Zva)⟩
noncomputable def Zb6 (a:List Int) (a1:Int):Rs:=C 336 [L 1 (a.map ic),I a1] []
noncomputable def Zmd (l:List Int) (v i:Int):Rs:=EvL C [.blk 0,.seq Zva,.fin 0 [.tmp 4]] [0,1,5] Zu9 ⟨[(0,L 1 (l.map ic)),(1,I v),(5,I i)],[[]],[]⟩
def Zvb:MCode:=.we [.m 5 3,.fa 6 0 1,.l 7 6,.ll 8 7,.b 9 .lss 5 8] [1,3,9] 9 0 (.seq (.block 1 (.seq (.drw [.fa 12 0 1,.l 13 12,.m 14 3,.ia 15 1 13 14,.l 16 15,.o 17 (.call 122 [.s 16,.c (.t .z),.c (.t (.int .i64 3))]),.o 18 (.un .not (.s 17)),.m 19 18,.h 20 19 (.mov (.s 3)),.h 21 19 (.bk .gtr 20 0),.h 22 19 (.mov (.s 21)),.g 23 22 (.fa 0 1),.g 24 22 (.l 23),.g 25 22 (.mov (.s 3)),.g 26 22 (.bk .sub 25 1),.g 27 22 (.ia 1 24 26),.g 28 22 (.l 27),.g 29 22 (.fa 0 1),.g 30 22 (.l 29),.g 31 22 (.mov (.s 3)),.g 32 22 (.ia 1 30 31),.g 33 22 (.l 32),.g 34 22 (.b .geq 28 33),.h 35 19 (.pick (.s 22) (.s 34) (.q false)),.o 36 (.pick (.s 19) (.q true) (.s 35))] [[],[0],[],[1,2],[3],[4],[5],[6,5],[7],[8,7],[9,7,7],[10],[11,10],[10],[13,10],[12,14,10],[15,10],[10],[17,10],[10],[18,19,10],[20,10],[16,21,10],[10,22,7],[7,23]] [1,3,36]) (.cond (.s 36) (.r [.o 2 (.mov (.q false))] [2] .ret) .skip))) (.reg [.m 10 3,.bk 11 .add 10 1,.m 3 11] [1,3]))
def Zvc:MCode:=.we [.m 37 4,.fa 38 1 1,.l 39 38,.ll 40 39,.b 41 .lss 37 40] [1,4,41] 41 2 (.seq (.block 3 (.seq (.drw [.fa 44 1 1,.l 45 44,.m 46 4,.ia 47 1 45 46,.l 48 47,.fa 49 0 1,.l 50 49,.ll 51 50,.cl 52 343 [48,51],.o 53 (.un .not (.s 52))] [[],[0],[],[1,2],[3],[],[5],[6],[4,7],[8]] [1,4,53]) (.cond (.s 53) (.r [.o 2 (.mov (.q false))] [2] .ret) .skip))) (.reg [.m 42 4,.bk 43 .add 42 1,.m 4 43] [1,4]))
def Zvd:MCode:=.r [.fa 54 1 1,.l 55 54,.ll 56 55,.bk 57 .leq 56 4096,.m 2 57] [2] .ret
def Zve:MCode:=.seq (.r [.mk' 4 0] [1,4] (.block 2 (.loop [1,4] Zvc))) Zvd
def Z2h:MFun:=⟨1,58,[.tmp 2],.r [.bx 1 0,.o 2 (.mov (.q false))] [1] (.seq (.r [.mk' 3 0] [1,3] (.block 0 (.loop [1,3] Zvb))) Zve)⟩
noncomputable def Zch (a:Za):Rs:=C 269 [.agg (a.c.map .t)] []
noncomputable def Ziz (s:Za) (i:Int):Rs:=EvL C [.blk 0,.seq Zve,.fin 0 [.tmp 2]] [1,3] Zvb ⟨[(1,.ptr 0 0),(3,I i)],[[]],[.box (s.c.map .t)]⟩
noncomputable def Zme (s:Za) (i:Int):Rs:=EvL C [.blk 2,.seq Zvd,.fin 0 [.tmp 2]] [1,4] Zvc ⟨[(1,.ptr 0 0),(4,I i)],[[]],[.box (s.c.map .t)]⟩
def Z2i:MCode:=.reg [.m 36 9,.bk 37 .add 36 1,.m 9 37] [2,4,6,7,8,9]
def Zpf:MCode:=.we [.m 31 9,.fa 32 1 2,.l 33 32,.ll 34 33,.b 35 .lss 31 34] [2,4,6,7,8,9,35] 35 2 (.seq (.block 3 (.r [.fa 38 1 2,.l 39 38,.m 40 9,.ia 41 1 39 40,.l 42 41,.m 43 6,.ia 44 1 42 43,.l 45 44,.m 46 8,.b 47 .eql 45 46] [2,4,6,7,8,9,47] (.cond (.s 47) (.drw [.fa 48 1 7,.l 49 48,.o 50 (.bslice 3 1 0 [.z] []),.fa 51 1 2,.l 52 51,.m 53 9,.ia 54 1 52 53,.l 55 54,.o 56 (.append 3 1 8 false (.s 50) (.s 55)),.o 57 (.bslice 30 1 1 [.lst 1 []] [(0,.s 56)]),.o 58 (.append 30 1 24 true (.s 49) (.s 57)),.fa 59 1 7,.st 1 59 58] [[],[0],[],[],[3],[],[4,5],[6],[2,7],[8],[1,9,8],[0,1,2,3,4,5,6,7,8,9,10],[11,10,10,0,1,2,3,4,5,6,7,8,9,10]] [2,4,6,7,8,9]) .skip))) Z2i)
def Zpg:MCode:=.reg [.m 29 8,.bk 30 .add 29 1,.m 8 30] [2,4,6,7,8]
def Zgy:MCode:=.we [.m 27 8,.bk 28 .leq 27 9] [2,4,6,7,8,28] 28 0 (.seq (.block 1 (.r [.mk' 9 0] [2,4,6,7,8,9] (.block 2 (.loop [2,4,6,7,8,9] Zpf)))) Zpg)
def Zgz:MCode:=.r [.ln 60 2 7,.st 2 4 60,.o 5 (.mov (.q true))] [4,5] .ret
def Z2j:MFun:=⟨2,61,[.cell 4 (some 2),.tmp 5],.r [.bx 2 0,.o 4 (.alloc [.t .nil,.t .nil]),.o 5 (.mov (.q false))] [1,2,4] (.r [.fa 10 0 2,.l 11 10,.m 12 1,.cl 13 336 [11,12],.m 6 13] [2,4,6] (.wc [.ln 14 2 2,.cl 15 269 [14],.o 16 (.un .not (.s 15)),.m 17 16,.h 18 17 (.mov (.s 6)),.h 19 17 (.bk .lss 18 0),.o 20 (.pick (.s 17) (.q true) (.s 19))] [2,4,6,20] 20 (.r [.o 21 (.build [.t .nil,.t .nil] []),.st 2 4 21,.o 5 (.mov (.q false))] [4,5] .ret) (.r [.o 22 (.bslice 3 1 0 [.z] []),.fa 23 0 2,.l 24 23,.o 25 (.append 3 1 8 false (.s 22) (.s 24)),.o 26 (.build [.t .nil,.t .nil] [(0,1,.s 25)]),.o 7 (.alloc [.t .nil,.t .nil]),.st 2 7 26] [2,4,6,7] (.seq (.r [.mk' 8 0] [2,4,6,7,8] (.block 0 (.loop [2,4,6,7,8] Zgy))) Zgz))))⟩
noncomputable def Zg0 (a:Za) (a1:Int):Rs:=C 264 [.agg (a.c.map .t),I a1] []
noncomputable def Zi0 (s:Za) (x:List Int) (x1 val:Int):Rs:=EvL C [.blk 0,.seq Zgz,.fin 0 [.cell 4 (some 2),.tmp 5]] [2,4,6,7,8] Zgy ⟨[(2,.ptr 0 0),(4,.ptr 1 0),(6,I x1),(7,.ptr 2 0),(8,I val)],[[]],[.box (s.c.map .t),.box [.t .nil,.t .nil],.box [.own 3,.t .nil],.arr 3 1 true (x.map ic)]⟩
noncomputable def Zi1 (s:Za) (x:List Int) (x1 val i:Int):Rs:=EvL C [.blk 2,.blk 1,.seq Zpg,.loop [2,4,6,7,8] Zgy,.blk 0,.seq Zgz,.fin 0 [.cell 4 (some 2),.tmp 5]] [2,4,6,7,8,9] Zpf ⟨[(2,.ptr 0 0),(4,.ptr 1 0),(6,I x1),(7,.ptr 2 0),(8,I val),(9,I i)],[[]],[.box (s.c.map .t),.box [.t .nil,.t .nil],.box [.own 3,.t .nil],.arr 3 1 true (x.map ic)]⟩
noncomputable def Zfb (s:Za) (x:List Int) (x1:List (List Int)) (x2 val i:Int):Rs:=EvL C [.blk 2,.blk 1,.seq Zpg,.loop [2,4,6,7,8] Zgy,.blk 0,.seq Zgz,.fin 0 [.cell 4 (some 2),.tmp 5]] [2,4,6,7,8,9] Zpf ⟨[(2,.ptr 0 0),(4,.ptr 1 0),(6,I x2),(7,.ptr 2 0),(8,I val),(9,I i)],[[]],[.box (s.c.map .t),.box [.t .nil,.t .nil],.box [.own 3,.own 4],.arr 3 1 true (x.map ic),.arr 30 1 true (x1.map isc)]⟩
noncomputable def Zph (s:Za) (x:List Int) (x1:List (List Int)) (x2 val:Int):Rs:=EvL C [.blk 0,.seq Zgz,.fin 0 [.cell 4 (some 2),.tmp 5]] [2,4,6,7,8] Zgy ⟨[(2,.ptr 0 0),(4,.ptr 1 0),(6,I x2),(7,.ptr 2 0),(8,I val)],[[]],[.box (s.c.map .t),.box [.t .nil,.t .nil],.box [.own 3,.own 4],.arr 3 1 true (x.map ic),.arr 30 1 true (x1.map isc)]⟩
def Z2k:MCode:=.reg [.m 10 6,.bk 11 .add 10 1,.m 6 11] [0,1,5,6]
def Zvf:MCode:=.we [.m 8 6,.bk 9 .lss 8 4] [0,1,5,6,9] 9 0 (.seq (.block 1 (.r [.m 12 0,.m 13 6,.cl 14 148 [12,13],.m 15 14,.h 16 15 (.mov (.s 1)),.h 17 15 (.mov (.s 6)),.h 18 15 (.cl 148 [16,17]),.o 19 (.pick (.s 15) (.q true) (.s 18))] [0,1,5,6,19] (.cond (.s 19) (.reg [.m 20 5,.m 21 6,.o 22 (.bslice 3 1 1 [.z] [(0,.s 21)]),.o 23 (.append 3 1 8 true (.s 20) (.s 22)),.m 5 23] [0,1,5,6]) .skip))) Z2k)
def Zvg:MCode:=.r [.m 24 5,.m 4 24] [4] .ret
def Z2l:MFun:=⟨2,25,[.tmp 4],.r [.o 4 (.mov (.c (.t .nil)))] [0,1] (.r [.o 7 (.bslice 3 1 0 [.z] []),.m 5 7] [0,1,5] (.seq (.r [.mk' 6 0] [0,1,5,6] (.block 0 (.loop [0,1,5,6] Zvf))) Zvg))⟩
noncomputable def Zfc (a a1:List Int):Rs:=C 339 [L 1 (a.map ic),L 1 (a1.map ic)] []
noncomputable def Zg1 (out a b:List Int) (v:Int):Rs:=EvL C [.blk 0,.seq Zvg,.fin 0 [.tmp 4]] [0,1,5,6] Zvf ⟨[(0,L 1 (a.map ic)),(1,L 1 (b.map ic)),(5,.own 0),(6,I v)],[[]],[.arr 3 1 true (out.map ic)]⟩
def Zvh:MCode:=.we [.m 11 9,.m 12 0,.ll 13 12,.b 14 .lss 11 13] [0,1,2,3,9,14] 14 0 (.seq (.block 1 (.r [.m 17 2,.m 18 0,.m 19 9,.ia 20 1 18 19,.l 21 20,.cl 22 336 [17,21],.m 10 22] [0,1,2,3,9,10] (.seq (.drw [.m 23 10,.bk 24 .geq 23 0,.m 25 24,.g 26 25 (.mov (.s 1)),.g 27 25 (.mov (.s 9)),.g 28 25 (.ia 1 26 27),.g 29 25 (.l 28),.g 30 25 (.mov (.s 3)),.g 31 25 (.mov (.s 10)),.g 32 25 (.ia 1 30 31),.g 33 25 (.l 32),.g 34 25 (.b .neq 29 33),.o 35 (.pick (.s 25) (.s 34) (.q false))] [[],[0],[1],[2],[2],[3,4,2],[5,2],[2],[2],[7,8,2],[9,2],[6,10,2],[2,11]] [0,1,2,3,9,35]) (.cond (.s 35) (.r [.o 8 (.mov (.q false))] [8] .ret) .skip)))) (.reg [.m 15 9,.bk 16 .add 15 1,.m 9 16] [0,1,2,3,9]))
def Zvi:MCode:=.r [.o 8 (.mov (.q true))] [8] .ret
def Z2m:MFun:=⟨4,36,[.tmp 8],.r [.o 8 (.mov (.q false))] [0,1,2,3] (.seq (.r [.mk' 9 0] [0,1,2,3,9] (.block 0 (.loop [0,1,2,3,9] Zvh))) Zvi)⟩
noncomputable def Z6 (a a1 a2 a3:List Int):Rs:=C 395 [L 1 (a.map ic),L 1 (a1.map ic),L 1 (a2.map ic),L 1 (a3.map ic)] []
noncomputable def Zi2 (a x b y:List Int) (i:Int):Rs:=EvL C [.blk 0,.seq Zvi,.fin 0 [.tmp 8]] [0,1,2,3,9] Zvh ⟨[(0,L 1 (a.map ic)),(1,L 1 (x.map ic)),(2,L 1 (b.map ic)),(3,L 1 (y.map ic)),(9,I i)],[[]],[]⟩
def Z2n:MCode:=.reg [.m 19 12,.bk 20 .add 19 1,.m 12 20] [0,1,2,3,4,11,12]
def Zvj:MCode:=.we [.m 15 12,.m 16 0,.ll 17 16,.b 18 .lss 15 17] [0,1,2,3,4,11,12,18] 18 0 (.seq (.block 1 (.r [.m 21 1,.m 22 0,.m 23 12,.ia 24 1 22 23,.l 25 24,.cl 26 336 [21,25],.m 13 26] [0,1,2,3,4,11,12,13] (.r [.m 27 13,.bk 28 .geq 27 0] [0,1,2,3,4,11,12,13,28] (.cond (.s 28) (.reg [.m 29 11,.m 30 2,.m 31 13,.ia 32 1 30 31,.l 33 32,.o 34 (.bslice 3 1 1 [.z] [(0,.s 33)]),.o 35 (.append 3 1 8 true (.s 29) (.s 34)),.m 11 35] [0,1,2,3,4,11,12]) (.reg [.m 36 11,.m 37 4,.m 38 3,.m 39 0,.m 40 12,.ia 41 1 39 40,.l 42 41,.cl 43 336 [38,42],.ia 44 1 37 43,.l 45 44,.o 46 (.bslice 3 1 1 [.z] [(0,.s 45)]),.o 47 (.append 3 1 8 true (.s 36) (.s 46)),.m 11 47] [0,1,2,3,4,11,12]))))) Z2n)
def Zvk:MCode:=.r [.m 48 11,.m 10 48] [10] .ret
def Z2o:MFun:=⟨5,49,[.tmp 10],.r [.o 10 (.mov (.c (.t .nil)))] [0,1,2,3,4] (.r [.o 14 (.bslice 3 1 0 [.z] []),.m 11 14] [0,1,2,3,4,11] (.seq (.r [.mk' 12 0] [0,1,2,3,4,11,12] (.block 0 (.loop [0,1,2,3,4,11,12] Zvj))) Zvk))⟩
noncomputable def Z7 (a a1 a2 a3 a4:List Int):Rs:=C 396 [L 1 (a.map ic),L 1 (a1.map ic),L 1 (a2.map ic),L 1 (a3.map ic),L 1 (a4.map ic)] []
noncomputable def Zi3 (row vars a x b y:List Int) (i:Int):Rs:=EvL C [.blk 0,.seq Zvk,.fin 0 [.tmp 10]] [0,1,2,3,4,11,12] Zvj ⟨[(0,L 1 (vars.map ic)),(1,L 1 (a.map ic)),(2,L 1 (x.map ic)),(3,L 1 (b.map ic)),(4,L 1 (y.map ic)),(11,.own 0),(12,I i)],[[]],[.arr 3 1 true (row.map ic)]⟩
def Zvl:MCode:=.r [.m 84 4,.bk 85 .lss 84 0,.m 86 85,.h 87 86 (.mov (.s 18)),.h 88 86 (.mov (.s 13)),.h 89 86 (.ia 1 87 88),.h 90 86 (.l 89),.h 91 86 (.mov (.s 4)),.h 92 86 (.b .eql 90 91),.o 93 (.pick (.s 86) (.q true) (.s 92)),.m 94 93,.g 95 94 (.fa 0 6),.g 96 94 (.l 95),.g 97 94 (.mov (.s 18)),.g 98 94 (.fa 0 7),.g 99 94 (.l 98),.g 100 94 (.mov (.s 19)),.g 101 94 (.cl 395 [96,97,99,100]),.o 102 (.pick (.s 94) (.s 101) (.q false))] [2,4,6,7,11,12,13,14,15,16,17,18,19,102] (.cond (.s 102) (.drw [.fa 103 1 11,.l 104 103,.fa 105 0 11,.l 106 105,.fa 107 0 6,.l 108 107,.m 109 18,.fa 110 0 7,.l 111 110,.m 112 19,.cl 113 396 [106,108,109,111,112],.o 114 (.bslice 30 1 1 [.lst 1 []] [(0,.s 113)]),.o 115 (.append 30 1 24 true (.s 104) (.s 114)),.fa 116 1 11,.st 1 116 115] [[],[0],[],[2],[],[4],[],[],[7],[],[3,5,6,8,9],[10],[1,11,10],[0,1,2,3,4,5,6,7,8,9,10,11,12],[13,12,12,0,1,2,3,4,5,6,7,8,9,10,11,12]] [2,4,6,7,11,12,13,14,15,16,17]) .skip)
def Zg2:MCode:=.we [.m 42 17,.m 43 15,.b 44 .lss 42 43,.m 45 44,.g 46 45 (.fa 1 11),.g 47 45 (.l 46),.g 48 45 (.ll 47),.g 49 45 (.bk .leq 48 4096),.o 50 (.pick (.s 45) (.s 49) (.q false))] [2,4,6,7,11,12,13,14,15,16,17,50] 50 2 (.seq (.block 3 (.r [.fa 53 1 6,.l 54 53,.m 55 16,.fa 56 1 6,.l 57 56,.ll 58 57,.bk 59 .sub 58 1,.o 60 (.mm false (.s 55) (.s 59)),.ia 61 1 54 60,.l 62 61,.m 18 62] [2,4,6,7,11,12,13,14,15,16,17,18] (.r [.fa 63 1 7,.l 64 63,.m 65 17,.fa 66 1 7,.l 67 66,.ll 68 67,.bk 69 .sub 68 1,.o 70 (.mm false (.s 65) (.s 69)),.ia 71 1 64 70,.l 72 71,.m 19 72] [2,4,6,7,11,12,13,14,15,16,17,18,19] (.wc [.m 73 2] [2,4,6,7,11,12,13,14,15,16,17,18,19,73] 73 (.r [.fa 74 1 6,.l 75 74,.m 76 17,.ia 77 1 75 76,.l 78 77,.m 18 78] [2,4,6,7,11,12,13,14,15,16,17,18] (.reg [.fa 79 1 7,.l 80 79,.m 81 16,.ia 82 1 80 81,.l 83 82,.m 19 83] [2,4,6,7,11,12,13,14,15,16,17,18,19])) Zvl)))) (.reg [.m 51 17,.bk 52 .add 51 1,.m 17 52] [2,4,6,7,11,12,13,14,15,16,17]))
def Zg3:MCode:=.reg [.m 40 16,.bk 41 .add 40 1,.m 16 41] [2,4,6,7,11,12,13,14,15,16]
def Zdi:MCode:=.we [.m 37 16,.m 38 14,.b 39 .lss 37 38] [2,4,6,7,11,12,13,14,15,16,39] 39 0 (.seq (.block 1 (.r [.mk' 17 0] [2,4,6,7,11,12,13,14,15,16,17] (.block 2 (.loop [2,4,6,7,11,12,13,14,15,16,17] Zg2)))) Zg3)
def Zdj:MCode:=.r [.ln 117 2 11,.st 2 12 117] [12] .ret
def Zvm:MCode:=.seq (.r [.mk' 16 0] [2,4,6,7,11,12,13,14,15,16] (.block 0 (.loop [2,4,6,7,11,12,13,14,15,16] Zdi))) Zdj
def Zvn:MFun:=⟨6,118,[.cell 12 (some 2)],.r [.bx 6 0,.bx 7 1,.bx 11 5,.o 12 (.alloc [.t .nil,.t .nil])] [2,3,4,6,7,11,12] (.r [.fa 20 0 6,.l 21 20,.m 22 3,.cl 23 336 [21,22],.m 13 23] [2,4,6,7,11,12,13] (.r [.fa 24 1 6,.l 25 24,.ll 26 25,.m 14 26] [2,4,6,7,11,12,13,14] (.r [.fa 27 1 7,.l 28 27,.ll 29 28,.m 15 29] [2,4,6,7,11,12,13,14,15] (.wc [.m 30 2] [2,4,6,7,11,12,13,14,15,30] 30 (.r [.fa 31 1 7,.l 32 31,.ll 33 32,.m 14 33] [2,4,6,7,11,12,13,14] (.reg [.fa 34 1 6,.l 35 34,.ll 36 35,.m 15 36] [2,4,6,7,11,12,13,14,15])) Zvm))))⟩
noncomputable def Zco (x:List Int) (a a1:Za) (a2:Bool) (a3 a4:Int):Rs:=C 338 [.agg (a.c.map .t),.agg (a1.c.map .t),Bo a2,I a3,I a4,.agg [.own 0,.t .nil]] [.arr 3 1 true (x.map ic)]
noncomputable def Zi4 (a b:Za) (x:List Int) (flip:Bool) (only x1 outer inner i:Int):Rs:=EvL C [.blk 0,.seq Zdj,.fin 1 [.cell 12 (some 2)]] [2,4,6,7,11,12,13,14,15,16] Zdi ⟨[(2,Bo flip),(4,I only),(6,.ptr 0 0),(7,.ptr 1 0),(11,.ptr 2 0),(12,.ptr 4 0),(13,I x1),(14,I outer),(15,I inner),(16,I i)],[[(0,.own 3)]],[.box (a.c.map .t),.box (b.c.map .t),.box [.own 3,.t .nil],.arr 3 1 true (x.map ic),.box [.t .nil,.t .nil]]⟩
noncomputable def Zdk (a b:Za) (x:List Int) (flip:Bool) (only x1 outer inner i k:Int):Rs:=EvL C [.blk 2,.blk 1,.seq Zg3,.loop [2,4,6,7,11,12,13,14,15,16] Zdi,.blk 0,.seq Zdj,.fin 1 [.cell 12 (some 2)]] [2,4,6,7,11,12,13,14,15,16,17] Zg2 ⟨[(2,Bo flip),(4,I only),(6,.ptr 0 0),(7,.ptr 1 0),(11,.ptr 2 0),(12,.ptr 4 0),(13,I x1),(14,I outer),(15,I inner),(16,I i),(17,I k)],[[(0,.own 3)]],[.box (a.c.map .t),.box (b.c.map .t),.box [.own 3,.t .nil],.arr 3 1 true (x.map ic),.box [.t .nil,.t .nil]]⟩
noncomputable def Zbh (a b:Za) (x:List Int) (x1:List (List Int)) (flip:Bool) (only x2 outer inner i k:Int):Rs:=EvL C [.blk 2,.blk 1,.seq Zg3,.loop [2,4,6,7,11,12,13,14,15,16] Zdi,.blk 0,.seq Zdj,.fin 1 [.cell 12 (some 2)]] [2,4,6,7,11,12,13,14,15,16,17] Zg2 ⟨[(2,Bo flip),(4,I only),(6,.ptr 0 0),(7,.ptr 1 0),(11,.ptr 2 0),(12,.ptr 5 0),(13,I x2),(14,I outer),(15,I inner),(16,I i),(17,I k)],[[(0,.own 3)]],[.box (a.c.map .t),.box (b.c.map .t),.box [.own 3,.own 4],.arr 3 1 true (x.map ic),.arr 30 1 true (x1.map isc),.box [.t .nil,.t .nil]]⟩
noncomputable def Zi5 (a b:Za) (x:List Int) (x1:List (List Int)) (flip:Bool) (only x2 outer inner i:Int):Rs:=EvL C [.blk 0,.seq Zdj,.fin 1 [.cell 12 (some 2)]] [2,4,6,7,11,12,13,14,15,16] Zdi ⟨[(2,Bo flip),(4,I only),(6,.ptr 0 0),(7,.ptr 1 0),(11,.ptr 2 0),(12,.ptr 5 0),(13,I x2),(14,I outer),(15,I inner),(16,I i)],[[(0,.own 3)]],[.box (a.c.map .t),.box (b.c.map .t),.box [.own 3,.own 4],.arr 3 1 true (x.map ic),.arr 30 1 true (x1.map isc),.box [.t .nil,.t .nil]]⟩
def Z2p:MFun:=⟨1,10,[.cell 2 (some 2),.tmp 3],.r [.bx 1 0,.o 2 (.alloc [.t .nil,.t .nil]),.o 3 (.mov (.q false))] [1,2] (.wc [.fa 4 1 1,.l 5 4,.ll 6 5,.bk 7 .gtr 6 4096] [1,2,7] 7 (.r [.o 8 (.build [.t .nil,.t .nil] []),.st 2 2 8,.o 3 (.mov (.q false))] [2,3] .ret) (.r [.ln 9 2 1,.st 2 2 9,.o 3 (.mov (.q true))] [2,3] .ret))⟩
noncomputable def Zi6 (x:List Int):Rs:=C 337 [.agg [.own 0,.t .nil]] [.arr 3 1 true (x.map ic)]
noncomputable def Zdw (x:List Int) (x1:List (List Int)):Rs:=C 337 [.agg [.own 0,.own 1]] [.arr 3 1 true (x.map ic),.arr 30 1 true (x1.map isc)]
def Z2q:MFun:=⟨2,32,[.cell 4 (some 2),.tmp 5],.r [.bx 2 0,.bx 3 1,.o 4 (.alloc [.t .nil,.t .nil]),.o 5 (.mov (.q false))] [2,3,4] (.wc [.ln 8 2 2,.cl 9 269 [8],.o 10 (.un .not (.s 9)),.m 11 10,.h 12 11 (.ln 2 3),.h 13 11 (.cl 269 [12]),.h 14 11 (.un .not (.s 13)),.o 15 (.pick (.s 11) (.q true) (.s 14))] [2,3,4,15] 15 (.r [.o 16 (.build [.t .nil,.t .nil] []),.st 2 4 16,.o 5 (.mov (.q false))] [4,5] .ret) (.seq (.drw [.ln 18 2 2,.ln 19 2 3,.fa 20 0 2,.l 21 20,.fa 22 0 3,.l 23 22,.cl 24 339 [21,23],.o 25 (.build [.t .nil,.t .nil] [(0,1,.s 24)]),.o 26 (.icall 338 [.s 18,.s 19,.q true,.c (.t .z),.c (.t (.int .i64 (-1))),.s 25]),.o 27 (.icall 337 [.s 26]),.m 17 27,.o 28 (.ext (.s 17) 0),.o 29 (.ext (.s 17) 1),.o 6 (.alloc [.t .nil,.t .nil]),.st 2 6 28,.m 7 29] [[],[],[],[2],[],[4],[3,5],[6],[0,1,7,6],[8,8],[9],[10],[10],[],[13,11,9,0,1,2,3,4,5,6,7,8,9,10,11,13],[12,14,0,1,2,3,4,5,6,7,8,9,10,11,12,13,14]] [4,6,7]) (.r [.ln 30 2 6,.m 31 7,.st 2 4 30,.m 5 31] [4,5] .ret)))⟩
noncomputable def Zg4 (a a1:Za):Rs:=C 265 [.agg (a.c.map .t),.agg (a1.c.map .t)] []
def Z2r:MFun:=⟨2,32,[.cell 4 (some 2),.tmp 5],.r [.bx 2 0,.bx 3 1,.o 4 (.alloc [.t .nil,.t .nil]),.o 5 (.mov (.q false))] [2,3,4] (.wc [.ln 8 2 2,.cl 9 269 [8],.o 10 (.un .not (.s 9)),.m 11 10,.h 12 11 (.ln 2 3),.h 13 11 (.cl 269 [12]),.h 14 11 (.un .not (.s 13)),.o 15 (.pick (.s 11) (.q true) (.s 14))] [2,3,4,15] 15 (.r [.o 16 (.build [.t .nil,.t .nil] []),.st 2 4 16,.o 5 (.mov (.q false))] [4,5] .ret) (.seq (.drw [.ln 18 2 2,.ln 19 2 3,.fa 20 0 2,.l 21 20,.fa 22 0 3,.l 23 22,.cl 24 339 [21,23],.o 25 (.build [.t .nil,.t .nil] [(0,1,.s 24)]),.o 26 (.icall 338 [.s 18,.s 19,.q false,.c (.t .z),.c (.t (.int .i64 (-1))),.s 25]),.o 27 (.icall 337 [.s 26]),.m 17 27,.o 28 (.ext (.s 17) 0),.o 29 (.ext (.s 17) 1),.o 6 (.alloc [.t .nil,.t .nil]),.st 2 6 28,.m 7 29] [[],[],[],[2],[],[4],[3,5],[6],[0,1,7,6],[8,8],[9],[10],[10],[],[13,11,9,0,1,2,3,4,5,6,7,8,9,10,11,13],[12,14,0,1,2,3,4,5,6,7,8,9,10,11,12,13,14]] [4,6,7]) (.r [.ln 30 2 6,.m 31 7,.st 2 4 30,.m 5 31] [4,5] .ret)))⟩
noncomputable def Zg5 (a a1:Za):Rs:=C 266 [.agg (a.c.map .t),.agg (a1.c.map .t)] []
def Zvo:MCode:=.we [.m 18 6,.fa 19 1 2,.l 20 19,.ll 21 20,.b 22 .lss 18 21] [2,5,6,22] 22 0 (.seq (.block 1 (.seq (.drw [.fa 25 1 2,.l 26 25,.m 27 6,.bk 28 .sub 27 1,.ia 29 1 26 28,.l 30 29,.m 31 5,.ia 32 1 30 31,.l 33 32,.fa 34 1 2,.l 35 34,.m 36 6,.ia 37 1 35 36,.l 38 37,.m 39 5,.ia 40 1 38 39,.l 41 40,.b 42 .gtr 33 41] [[],[0],[],[2],[1,3],[4],[],[5,6],[7],[],[9],[],[10,11],[12],[],[13,14],[15],[8,16]] [2,5,6,42]) (.cond (.s 42) (.r [.o 4 (.mov (.q false))] [4] .ret) .skip))) (.reg [.m 23 6,.bk 24 .add 23 1,.m 6 24] [2,5,6]))
def Zvp:MCode:=.r [.o 4 (.mov (.q true))] [4] .ret
def Z2s:MFun:=⟨2,43,[.tmp 4],.r [.bx 2 0,.o 4 (.mov (.q false))] [1,2] (.r [.fa 7 0 2,.l 8 7,.m 9 1,.cl 10 336 [8,9],.m 5 10] [2,5] (.wc [.ln 11 2 2,.cl 12 269 [11],.o 13 (.un .not (.s 12)),.m 14 13,.h 15 14 (.mov (.s 5)),.h 16 14 (.bk .lss 15 0),.o 17 (.pick (.s 14) (.q true) (.s 16))] [2,5,17] 17 (.r [.o 4 (.mov (.q false))] [4] .ret) (.seq (.r [.mk' 6 1] [2,5,6] (.block 0 (.loop [2,5,6] Zvo))) Zvp)))⟩
noncomputable def Zi7 (a:Za) (a1:Int):Rs:=C 340 [.agg (a.c.map .t),I a1] []
noncomputable def Zmf (s:Za) (x i:Int):Rs:=EvL C [.blk 0,.seq Zvp,.fin 0 [.tmp 4]] [2,5,6] Zvo ⟨[(2,.ptr 0 0),(5,I x),(6,I i)],[[]],[.box (s.c.map .t)]⟩
noncomputable def Zmg (x:List Int) (x1:List (List Int)) (a a1:Za) (a2:Bool) (a3 a4:Int):Rs:=C 338 [.agg (a.c.map .t),.agg (a1.c.map .t),Bo a2,I a3,I a4,.agg [.own 0,.own 1]] [.arr 3 1 true (x.map ic),.arr 30 1 true (x1.map isc)]
noncomputable def Zg6 (a b:Za) (x:List Int) (x1:List (List Int)) (flip:Bool) (only x2 outer inner i:Int):Rs:=EvL C [.blk 0,.seq Zdj,.fin 2 [.cell 12 (some 2)]] [2,4,6,7,11,12,13,14,15,16] Zdi ⟨[(2,Bo flip),(4,I only),(6,.ptr 0 0),(7,.ptr 1 0),(11,.ptr 2 0),(12,.ptr 5 0),(13,I x2),(14,I outer),(15,I inner),(16,I i)],[[(0,.own 3),(1,.own 4)]],[.box (a.c.map .t),.box (b.c.map .t),.box [.own 3,.own 4],.arr 3 1 true (x.map ic),.arr 30 1 true (x1.map isc),.box [.t .nil,.t .nil]]⟩
noncomputable def Zdl (a b:Za) (x:List Int) (x1:List (List Int)) (flip:Bool) (only x2 outer inner i k:Int):Rs:=EvL C [.blk 2,.blk 1,.seq Zg3,.loop [2,4,6,7,11,12,13,14,15,16] Zdi,.blk 0,.seq Zdj,.fin 2 [.cell 12 (some 2)]] [2,4,6,7,11,12,13,14,15,16,17] Zg2 ⟨[(2,Bo flip),(4,I only),(6,.ptr 0 0),(7,.ptr 1 0),(11,.ptr 2 0),(12,.ptr 5 0),(13,I x2),(14,I outer),(15,I inner),(16,I i),(17,I k)],[[(0,.own 3),(1,.own 4)]],[.box (a.c.map .t),.box (b.c.map .t),.box [.own 3,.own 4],.arr 3 1 true (x.map ic),.arr 30 1 true (x1.map isc),.box [.t .nil,.t .nil]]⟩
noncomputable def Zbi (a b:Za) (x:List Int) (x1:List (List Int)) (flip:Bool) (only x2 outer inner i k:Int):Rs:=EvL C [.blk 2,.blk 1,.seq Zg3,.loop [2,4,6,7,11,12,13,14,15,16] Zdi,.blk 0,.seq Zdj,.fin 2 [.cell 12 (some 2)]] [2,4,6,7,11,12,13,14,15,16,17] Zg2 ⟨[(2,Bo flip),(4,I only),(6,.ptr 0 0),(7,.ptr 1 0),(11,.ptr 2 0),(12,.ptr 5 0),(13,I x2),(14,I outer),(15,I inner),(16,I i),(17,I k)],[[(0,.own 3),(1,.own 6)]],[.box (a.c.map .t),.box (b.c.map .t),.box [.own 3,.own 4],.arr 3 1 true (x.map ic),.arr 30 1 true (x1.map isc),.box [.t .nil,.t .nil],.dead]⟩
noncomputable def Zi8 (a b:Za) (x:List Int) (x1:List (List Int)) (flip:Bool) (only x2 outer inner i:Int):Rs:=EvL C [.blk 0,.seq Zdj,.fin 2 [.cell 12 (some 2)]] [2,4,6,7,11,12,13,14,15,16] Zdi ⟨[(2,Bo flip),(4,I only),(6,.ptr 0 0),(7,.ptr 1 0),(11,.ptr 2 0),(12,.ptr 5 0),(13,I x2),(14,I outer),(15,I inner),(16,I i)],[[(0,.own 3),(1,.own 6)]],[.box (a.c.map .t),.box (b.c.map .t),.box [.own 3,.own 4],.arr 3 1 true (x.map ic),.arr 30 1 true (x1.map isc),.box [.t .nil,.t .nil],.dead]⟩
def Zpi:MCode:=.we [.m 29 9,.bk 30 .leq 29 9] [2,3,4,6,8,9,30] 30 0 (.seq (.block 1 (.reg [.ln 33 2 3,.ln 34 2 4,.m 35 2,.m 36 9,.ln 37 2 8,.o 38 (.icall 338 [.s 33,.s 34,.q false,.s 35,.s 36,.s 37]),.st 2 8 38] [2,3,4,6,8,9])) (.reg [.m 31 9,.bk 32 .add 31 1,.m 9 32] [2,3,4,6,8,9]))
def Zpj:MCode:=.r [.ln 40 2 8,.o 41 (.icall 337 [.s 40]),.m 39 41,.o 42 (.ext (.s 39) 0),.o 43 (.ext (.s 39) 1),.o 10 (.alloc [.t .nil,.t .nil]),.st 2 10 42,.m 11 43] [6,10,11] (.r [.ln 44 2 10,.m 45 11,.st 2 6 44,.m 7 45] [6,7] .ret)
def Z2t:MFun:=⟨3,46,[.cell 6 (some 2),.tmp 7],.r [.bx 3 0,.bx 4 1,.o 6 (.alloc [.t .nil,.t .nil]),.o 7 (.mov (.q false))] [2,3,4,6] (.wc [.ln 12 2 3,.m 13 2,.cl 14 340 [12,13],.o 15 (.un .not (.s 14)),.m 16 15,.h 17 16 (.ln 2 4),.h 18 16 (.mov (.s 2)),.h 19 16 (.cl 340 [17,18]),.h 20 16 (.un .not (.s 19)),.o 21 (.pick (.s 16) (.q true) (.s 20))] [2,3,4,6,21] 21 (.r [.o 22 (.build [.t .nil,.t .nil] []),.st 2 6 22,.o 7 (.mov (.q false))] [6,7] .ret) (.r [.fa 23 0 3,.l 24 23,.fa 25 0 4,.l 26 25,.cl 27 339 [24,26],.o 28 (.build [.t .nil,.t .nil] [(0,1,.s 27)]),.o 8 (.alloc [.t .nil,.t .nil]),.st 2 8 28] [2,3,4,6,8] (.seq (.r [.mk' 9 0] [2,3,4,6,8,9] (.block 0 (.loop [2,3,4,6,8,9] Zpi))) Zpj)))⟩
noncomputable def Zi9 (a a1:Za) (a2:Int):Rs:=C 267 [.agg (a.c.map .t),.agg (a1.c.map .t),I a2] []
noncomputable def Zmh (a b:Za) (x:List Int) (v val:Int):Rs:=EvL C [.blk 0,.seq Zpj,.fin 0 [.cell 6 (some 2),.tmp 7]] [2,3,4,6,8,9] Zpi ⟨[(2,I v),(3,.ptr 0 0),(4,.ptr 1 0),(6,.ptr 2 0),(8,.ptr 3 0),(9,I val)],[[]],[.box (a.c.map .t),.box (b.c.map .t),.box [.t .nil,.t .nil],.box [.own 4,.t .nil],.arr 3 1 true (x.map ic)]⟩
noncomputable def Zja (a b:Za) (x:List Int) (x1:List (List Int)) (v val:Int):Rs:=EvL C [.blk 0,.seq Zpj,.fin 0 [.cell 6 (some 2),.tmp 7]] [2,3,4,6,8,9] Zpi ⟨[(2,I v),(3,.ptr 0 0),(4,.ptr 1 0),(6,.ptr 2 0),(8,.ptr 3 0),(9,I val)],[[]],[.box (a.c.map .t),.box (b.c.map .t),.box [.t .nil,.t .nil],.box [.own 4,.own 5],.arr 3 1 true (x.map ic),.arr 30 1 true (x1.map isc)]⟩
def Z2u:MCode:=.reg [.m 148 11,.ln 149 2 13,.o 150 (.bslice 199 2 1 [.lst 1 [],.lst 1 []] [(0,.s 149)]),.o 151 (.append 199 2 48 true (.s 148) (.s 150)),.m 11 151] [3,4,5,9,11,12]
def Zvq:MCode:=.we [.m 31 12,.m 32 9,.ll 33 32,.b 34 .lss 31 33] [3,4,5,9,11,12,34] 34 0 (.seq (.block 1 (.r [.o 37 (.build [.t .nil,.t .nil] []),.o 13 (.alloc [.t .nil,.t .nil]),.st 2 13 37] [3,4,5,9,11,12,13] (.seq (.r [.fa 38 0 5,.l 39 38,.m 40 12,.ia 41 3 39 40,.fa 42 0 41,.l 43 42] [3,4,5,9,11,12,13,43] (.block 2 (.r [.bk 71 .eql 43 1,.m 70 71] [3,4,5,9,11,12,13,43,70] (.cond (.s 70) (.drw [.ln 73 1 3,.ln 74 2 4,.fa 75 0 5,.l 76 75,.m 77 12,.ia 78 3 76 77,.fa 79 1 78,.l 80 79,.cl 81 263 [73,74,80],.m 72 81,.o 82 (.ext (.s 72) 0),.o 83 (.ext (.s 72) 1),.st 2 13 82] [[],[],[],[2],[],[3,4],[5],[6],[0,1,7],[8],[9],[9],[10,8,0,1,2,3,4,5,6,7,8,9,10]] [3,4,5,9,11,12,13]) (.r [.bk 85 .eql 43 2,.m 84 85] [3,4,5,9,11,12,13,43,84] (.cond (.s 84) (.drw [.m 87 11,.m 88 9,.m 89 12,.ia 90 4 88 89,.fa 91 2 90,.l 92 91,.ia 93 2 87 92,.ln 94 2 93,.fa 95 0 5,.l 96 95,.m 97 12,.ia 98 3 96 97,.fa 99 2 98,.l 100 99,.cl 101 264 [94,100],.m 86 101,.o 102 (.ext (.s 86) 0),.o 103 (.ext (.s 86) 1),.st 2 13 102] [[],[],[],[1,2],[3],[4],[0,5],[6],[],[8],[],[9,10],[11],[12],[7,13],[14],[15],[15],[16,14,0,1,2,3,4,5,6,7,8,9,10,11,12,13,14,15,16]] [3,4,5,9,11,12,13]) (.r [.bk 105 .eql 43 3,.m 104 105] [3,4,5,9,11,12,13,43,104] (.cond (.s 104) (.drw [.m 107 11,.m 108 9,.m 109 12,.ia 110 4 108 109,.fa 111 2 110,.l 112 111,.ia 113 2 107 112,.ln 114 2 113,.m 115 11,.m 116 9,.m 117 12,.ia 118 4 116 117,.fa 119 3 118,.l 120 119,.ia 121 2 115 120,.ln 122 2 121,.cl 123 265 [114,122],.m 106 123,.o 124 (.ext (.s 106) 0),.o 125 (.ext (.s 106) 1),.st 2 13 124] [[],[],[],[1,2],[3],[4],[0,5],[6],[],[],[],[9,10],[11],[12],[8,13],[14],[7,15],[16],[17],[17],[18,16,0,1,2,3,4,5,6,7,8,9,10,11,12,13,14,15,16,17,18]] [3,4,5,9,11,12,13]) (.r [.bk 127 .eql 43 5,.m 126 127] [3,4,5,9,11,12,13,126] (.cond (.s 126) (.drw [.m 129 11,.m 130 9,.m 131 12,.ia 132 4 130 131,.fa 133 2 132,.l 134 133,.ia 135 2 129 134,.ln 136 2 135,.m 137 11,.m 138 9,.m 139 12,.ia 140 4 138 139,.fa 141 3 140,.l 142 141,.ia 143 2 137 142,.ln 144 2 143,.cl 145 266 [136,144],.m 128 145,.o 146 (.ext (.s 128) 0),.o 147 (.ext (.s 128) 1),.st 2 13 146] [[],[],[],[1,2],[3],[4],[0,5],[6],[],[],[],[9,10],[11],[12],[8,13],[14],[7,15],[16],[17],[17],[18,16,0,1,2,3,4,5,6,7,8,9,10,11,12,13,14,15,16,17,18]] [3,4,5,9,11,12,13]) (.drw [.m 45 11,.m 46 9,.m 47 12,.ia 48 4 46 47,.fa 49 2 48,.l 50 49,.ia 51 2 45 50,.ln 52 2 51,.m 53 11,.m 54 9,.m 55 12,.ia 56 4 54 55,.fa 57 3 56,.l 58 57,.ia 59 2 53 58,.ln 60 2 59,.fa 61 0 5,.l 62 61,.m 63 12,.ia 64 3 62 63,.fa 65 2 64,.l 66 65,.cl 67 267 [52,60,66],.m 44 67,.o 68 (.ext (.s 44) 0),.o 69 (.ext (.s 44) 1),.st 2 13 68] [[],[],[],[1,2],[3],[4],[0,5],[6],[],[],[],[9,10],[11],[12],[8,13],[14],[],[16],[],[17,18],[19],[20],[7,15,21],[22],[23],[23],[24,22,0,1,2,3,4,5,6,7,8,9,10,11,12,13,14,15,16,17,18,19,20,21,22,23,24]] [3,4,5,9,11,12,13]))))))))))) Z2u))) (.reg [.m 35 12,.bk 36 .add 35 1,.m 12 36] [3,4,5,9,11,12]))
def Zvr:MCode:=.r [.m 152 11,.m 153 9,.m 6 152,.m 7 153,.o 8 (.mov (.q true))] [6,7,8] .ret
def Z2v:MFun:=⟨3,154,[.tmp 6,.tmp 7,.tmp 8],.r [.bx 3 0,.bx 4 1,.bx 5 2,.o 6 (.mov (.c (.t .nil))),.o 7 (.mov (.c (.t .nil))),.o 8 (.mov (.q false))] [3,4,5] (.r [.ln 15 2 4,.ln 16 1 5,.cl 17 161 [15,16],.m 14 17,.o 18 (.ext (.s 14) 0),.o 19 (.ext (.s 14) 1),.m 9 18,.m 10 19] [3,4,5,9,10] (.r [.o 20 (.bslice 199 2 0 [.lst 1 [],.lst 1 []] []),.m 11 20] [3,4,5,9,10,11] (.wc [.m 21 10,.o 22 (.un .not (.s 21)),.m 23 22,.h 24 23 (.ln 1 3),.h 25 23 (.ln 2 4),.h 26 23 (.cl 178 [24,25]),.h 27 23 (.un .not (.s 26)),.o 28 (.pick (.s 23) (.q true) (.s 27))] [3,4,5,9,11,28] 28 (.r [.m 29 11,.m 30 9,.m 6 29,.m 7 30,.o 8 (.mov (.q false))] [6,7,8] .ret) (.seq (.r [.mk' 12 0] [3,4,5,9,11,12] (.block 0 (.loop [3,4,5,9,11,12] Zvq))) Zvr))))⟩
noncomputable def Zjb (a:Zk) (a1:Zd) (a2:Plan):Rs:=C 144 [.agg (a.c.map .t),.agg (a1.c.map .t),.agg (a2.c.map .t)] []
noncomputable def Zbj (d:Zk) (q:Zd) (p:Plan) (info:List Zb) (out:List Za) (i:Int):Rs:=EvL C [.blk 0,.seq Zvr,.fin 0 [.tmp 6,.tmp 7,.tmp 8]] [3,4,5,9,11,12] Zvq ⟨[(3,.ptr 0 0),(4,.ptr 1 0),(5,.ptr 2 0),(9,.own 3),(11,.own 4),(12,I i)],[[]],[.box (d.c.map .t),.box (q.c.map .t),.box (p.c.map .t),.arr 209 4 true (info.map Zb.c),.arr 199 2 true (out.map Za.c)]⟩
def Z2w:MFun:=⟨2,24,[.cell 4 (some 6)],.r [.bx 2 0,.o 4 (.alloc [.t .z,.t .z,.t .z,.t .z,.t .z,.t .nil])] [1,2,4] (.seq (.r [.m 5 1] [2,4,5] (.block 0 (.r [.bk 7 .eql 5 1,.m 6 7] [2,4,5,6] (.cond (.s 6) (.r [.fa 8 0 2,.ln 9 6 8,.st 6 4 9] [4] .ret) (.r [.bk 11 .eql 5 2,.m 10 11] [2,4,5,10] (.cond (.s 10) (.r [.fa 12 6 2,.ln 13 6 12,.st 6 4 13] [4] .ret) (.r [.bk 15 .eql 5 3,.m 14 15] [2,4,5,14] (.cond (.s 14) (.r [.fa 16 12 2,.ln 17 6 16,.st 6 4 17] [4] .ret) (.r [.bk 19 .eql 5 4,.m 18 19] [2,4,18] (.cond (.s 18) (.r [.fa 20 18 2,.ln 21 6 20,.st 6 4 21] [4] .ret) .skip)))))))))) (.r [.fa 22 24 2,.ln 23 6 22,.st 6 4 23] [4] .ret))⟩
noncomputable def Zg7 (a:Zj) (a1:Int):Rs:=C 164 [.agg (a.c.map .t),I a1] []
def Z2x:MFun:=⟨1,5,[.tmp 2],.r [.o 2 (.mov (.q false))] [0] (.r [.m 3 0,.o 4 (.call 122 [.s 3,.c (.t (.int .i64 (-99))),.c (.t (.int .i64 99))]),.m 2 4] [2] .ret)⟩
noncomputable def Zdx (a:Int):Rs:=C 350 [I a] []
def Zvs:MCode:=.we [.m 38 3,.fa 39 5 1,.l 40 39,.ll 41 40,.b 42 .lss 38 41] [1,3,42] 42 0 (.seq (.block 1 (.seq (.drw [.fa 45 5 1,.l 46 45,.m 47 3,.ia 48 2 46 47,.fa 49 0 48,.l 50 49,.o 51 (.call 122 [.s 50,.c (.t (.int .i64 1)),.c (.t (.int .i64 8192))]),.o 52 (.un .not (.s 51)),.m 53 52,.h 54 53 (.fa 5 1),.h 55 53 (.l 54),.h 56 53 (.mov (.s 3)),.h 57 53 (.ia 2 55 56),.h 58 53 (.fa 1 57),.h 59 53 (.l 58),.h 60 53 (.cl 350 [59]),.h 61 53 (.un .not (.s 60)),.o 62 (.pick (.s 53) (.q true) (.s 61)),.m 63 62,.h 64 63 (.mov (.s 3)),.h 65 63 (.bk .gtr 64 0),.h 66 63 (.mov (.s 65)),.g 67 66 (.fa 5 1),.g 68 66 (.l 67),.g 69 66 (.mov (.s 3)),.g 70 66 (.bk .sub 69 1),.g 71 66 (.ia 2 68 70),.g 72 66 (.fa 0 71),.g 73 66 (.l 72),.g 74 66 (.fa 5 1),.g 75 66 (.l 74),.g 76 66 (.mov (.s 3)),.g 77 66 (.ia 2 75 76),.g 78 66 (.fa 0 77),.g 79 66 (.l 78),.g 80 66 (.b .geq 73 79),.h 81 63 (.pick (.s 66) (.s 80) (.q false)),.o 82 (.pick (.s 63) (.q true) (.s 81))] [[],[0],[],[1,2],[3],[4],[5],[6],[7,6],[8],[9,8],[8],[10,11,8],[12,8],[13,8],[14,8,8],[15,8],[8,16],[17,15],[18],[19,18],[20,18,18],[21],[22,21],[21],[24,21],[23,25,21],[26,21],[27,21],[21],[29,21],[21],[30,31,21],[32,21],[33,21],[28,34,21],[21,35,18],[18,36]] [1,3,82]) (.cond (.s 82) (.r [.o 2 (.mov (.q false))] [2] .ret) .skip))) (.reg [.m 43 3,.bk 44 .add 43 1,.m 3 44] [1,3]))
def Zvt:MCode:=.r [.o 2 (.mov (.q true))] [2] .ret
def Z2y:MFun:=⟨1,83,[.tmp 2],.r [.bx 1 0,.o 2 (.mov (.q false))] [1] (.wc [.fa 4 0 1,.l 5 4,.cl 6 350 [5],.o 7 (.un .not (.s 6)),.m 8 7,.h 9 8 (.fa 1 1),.h 10 8 (.l 9),.h 11 8 (.cl 350 [10]),.h 12 8 (.un .not (.s 11)),.o 13 (.pick (.s 8) (.q true) (.s 12)),.m 14 13,.h 15 14 (.fa 2 1),.h 16 14 (.l 15),.h 17 14 (.cl 350 [16]),.h 18 14 (.un .not (.s 17)),.o 19 (.pick (.s 14) (.q true) (.s 18)),.m 20 19,.h 21 20 (.fa 3 1),.h 22 20 (.l 21),.h 23 20 (.cl 350 [22]),.h 24 20 (.un .not (.s 23)),.o 25 (.pick (.s 20) (.q true) (.s 24)),.m 26 25,.h 27 26 (.fa 4 1),.h 28 26 (.l 27),.h 29 26 (.cl 350 [28]),.h 30 26 (.un .not (.s 29)),.o 31 (.pick (.s 26) (.q true) (.s 30)),.m 32 31,.h 33 32 (.fa 5 1),.h 34 32 (.l 33),.h 35 32 (.ll 34),.h 36 32 (.bk .gtr 35 4),.o 37 (.pick (.s 32) (.q true) (.s 36))] [1,37] 37 (.r [.o 2 (.mov (.q false))] [2] .ret) (.seq (.r [.mk' 3 0] [1,3] (.block 0 (.loop [1,3] Zvs))) Zvt))⟩
noncomputable def Zfd (a:Zi):Rs:=C 274 [.agg (a.c.map .t)] []
noncomputable def Zg8 (o:Zi) (i:Int):Rs:=EvL C [.blk 0,.seq Zvt,.fin 0 [.tmp 2]] [1,3] Zvs ⟨[(1,.ptr 0 0),(3,I i)],[[]],[.box (o.c.map .t)]⟩
def Zvu:MCode:=.we [.m 8 4,.m 9 0,.b 10 .lss 8 9] [0,3,4,10] 10 0 (.seq (.block 1 (.reg [.m 13 3,.bk 14 .mul 13 4,.o 15 (.mm true (.k 1) (.s 14)),.m 3 15] [0,3,4])) (.reg [.m 11 4,.bk 12 .add 11 1,.m 4 12] [0,3,4]))
def Zvv:MCode:=.r [.m 16 3,.m 2 16] [2] .ret
def Z2z:MFun:=⟨1,17,[.tmp 2],.r [.mk' 2 0] [0] (.wc [.m 5 0,.o 6 (.call 122 [.s 5,.c (.t .z),.c (.t (.int .i64 7))]),.o 7 (.un .not (.s 6))] [0,7] 7 (.r [.mk' 2 (-1)] [2] .ret) (.r [.mk' 3 0] [0,3] (.seq (.r [.mk' 4 0] [0,3,4] (.block 0 (.loop [0,3,4] Zvu))) Zvv)))⟩
noncomputable def Zdy (a:Int):Rs:=C 208 [I a] []
noncomputable def Zjc (k n i:Int):Rs:=EvL C [.blk 0,.seq Zvv,.fin 0 [.tmp 2]] [0,3,4] Zvu ⟨[(0,I k),(3,I n),(4,I i)],[[]],[]⟩
def Z20:MCode:=.reg [.m 58 10,.bk 59 .add 58 1,.m 10 59] [1,2,4,9,10]
def Zvw:MCode:=.we [.m 53 10,.fa 54 5 4,.l 55 54,.ll 56 55,.b 57 .lss 53 56] [1,2,4,9,10,57] 57 0 (.seq (.block 1 (.r [.m 60 1,.m 61 2,.b 62 .add 60 61,.fa 63 5 4,.l 64 63,.m 65 10,.ia 66 2 64 65,.fa 67 0 66,.l 68 67,.b 69 .geq 62 68] [1,2,4,9,10,69] (.cond (.s 69) (.reg [.m 70 9,.fa 71 5 4,.l 72 71,.m 73 10,.ia 74 2 72 73,.fa 75 1 74,.l 76 75,.b 77 .add 70 76,.m 9 77] [1,2,4,9,10]) .skip))) Z20)
def Zvx:MCode:=.r [.m 78 9,.m 8 78] [8] .ret
def Z21:MFun:=⟨4,79,[.tmp 8],.r [.bx 4 0,.mk' 8 0] [1,2,3,4] (.wc [.ln 11 6 4,.cl 12 274 [11],.o 13 (.un .not (.s 12)),.m 14 13,.h 15 14 (.mov (.s 1)),.h 16 14 (.call 122 [.s 15,.c (.t .z),.c (.t (.int .i64 4096))]),.h 17 14 (.un .not (.s 16)),.o 18 (.pick (.s 14) (.q true) (.s 17)),.m 19 18,.h 20 19 (.mov (.s 2)),.h 21 19 (.call 122 [.s 20,.c (.t .z),.c (.t (.int .i64 4096))]),.h 22 19 (.un .not (.s 21)),.o 23 (.pick (.s 19) (.q true) (.s 22)),.m 24 23,.h 25 24 (.mov (.s 3)),.h 26 24 (.call 122 [.s 25,.c (.t .z),.c (.t (.int .i64 4096))]),.h 27 24 (.un .not (.s 26)),.o 28 (.pick (.s 24) (.q true) (.s 27))] [1,2,3,4,28] 28 (.r [.mk' 8 0] [8] .ret) (.r [.fa 29 0 4,.l 30 29,.fa 31 1 4,.l 32 31,.m 33 1,.b 34 .mul 32 33,.b 35 .add 30 34,.fa 36 2 4,.l 37 36,.m 38 2,.b 39 .mul 37 38,.b 40 .add 35 39,.fa 41 3 4,.l 42 41,.m 43 3,.b 44 .mul 42 43,.b 45 .add 40 44,.fa 46 4 4,.l 47 46,.m 48 1,.b 49 .mul 47 48,.m 50 2,.b 51 .mul 49 50,.b 52 .add 45 51,.m 9 52] [1,2,4,9] (.seq (.r [.mk' 10 0] [1,2,4,9,10] (.block 0 (.loop [1,2,4,9,10] Zvw))) Zvx)))⟩
noncomputable def Zek (a:Zi) (a1 a2 a3:Int):Rs:=C 163 [.agg (a.c.map .t),I a1,I a2,I a3] []
noncomputable def Zg9 (o:Zi) (l r_1 n i:Int):Rs:=EvL C [.blk 0,.seq Zvx,.fin 0 [.tmp 8]] [1,2,4,9,10] Zvw ⟨[(1,I l),(2,I r_1),(4,.ptr 0 0),(9,I n),(10,I i)],[[]],[.box (o.c.map .t)]⟩
def Z22:MFun:=⟨2,19,[.tmp 4],.r [.bx 2 0,.mk' 4 0] [1,2] (.seq (.drw [.ln 5 6 2,.m 6 1,.o 7 (.iaddr 1 (.s 6) (.k 0)),.l 8 7,.cl 9 208 [8],.m 10 1,.o 11 (.iaddr 1 (.s 10) (.k 1)),.l 12 11,.cl 13 208 [12],.m 14 1,.o 15 (.iaddr 1 (.s 14) (.k 2)),.l 16 15,.cl 17 208 [16],.cl 18 163 [5,9,13,17],.m 4 18] [[],[],[1],[2],[3],[],[5],[6],[7,4],[],[9],[10],[11,8],[0,4,8,12,12],[13,13,0,1,2,3,4,5,6,7,8,9,10,11,12,13]] [4]) .ret)⟩
noncomputable def Zha (a:Zi) (a1:List Int):Rs:=C 397 [.agg (a.c.map .t),L 1 (a1.map ic)] []
def Zvy:MCode:=.we [.m 32 9,.bk 33 .lss 32 3] [1,5,6,7,8,9,33] 33 6 (.seq (.block 7 (.r [.o 36 (.bslice 3 1 0 [.z] []),.m 37 8,.o 38 (.append 3 1 8 false (.s 36) (.s 37)),.m 10 38] [1,5,6,7,8,9,10] (.r [.m 39 10,.m 40 9,.m 41 10,.m 42 9,.ia 43 1 41 42,.l 44 43,.bk 45 .add 44 1,.ia 46 1 39 40,.st 1 46 45] [1,5,6,7,8,9,10] (.seq (.drw [.m 47 10,.m 48 9,.ia 49 1 47 48,.l 50 49,.bk 51 .leq 50 7,.m 52 51,.g 53 52 (.ln 6 1),.g 54 52 (.mov (.s 10)),.g 55 52 (.cl 397 [53,54]),.g 56 52 (.ln 6 1),.g 57 52 (.mov (.s 8)),.g 58 52 (.cl 397 [56,57]),.g 59 52 (.b .lss 55 58),.o 60 (.pick (.s 52) (.s 59) (.q false))] [[],[],[0,1],[2],[3],[4],[5],[5],[6,7,5,5],[5],[5],[9,10,8,5],[8,11,5],[5,12]] [1,5,6,7,8,9,10,60]) (.cond (.s 60) (.r [.m 61 8,.m 62 10,.m 2 61,.m 3 62,.o 4 (.mov (.q true))] [2,3,4] .ret) .skip))))) (.reg [.m 34 9,.bk 35 .add 34 1,.m 9 35] [1,5,6,7,8,9]))
def Zvz:MCode:=.reg [.m 26 7,.bk 27 .add 26 1,.m 7 27] [1,5,6,7]
def Zpk:MCode:=.we [.m 24 7,.bk 25 .leq 24 7] [1,5,6,7,25] 25 4 (.seq (.block 5 (.r [.m 28 5,.m 29 6,.m 30 7,.o 31 (.bslice 3 1 3 [.z] [(0,.s 28),(1,.s 29),(2,.s 30)]),.m 8 31] [1,5,6,7,8] (.r [.mk' 9 0] [1,5,6,7,8,9] (.block 6 (.loop [1,5,6,7,8,9] Zvy))))) Zvz)
def Zpl:MCode:=.reg [.m 22 6,.bk 23 .add 22 1,.m 6 23] [1,5,6]
def Zmi:MCode:=.we [.m 20 6,.bk 21 .leq 20 7] [1,5,6,21] 21 2 (.seq (.block 3 (.r [.mk' 7 0] [1,5,6,7] (.block 4 (.loop [1,5,6,7] Zpk)))) Zpl)
def Zmj:MCode:=.reg [.m 18 5,.bk 19 .add 18 1,.m 5 19] [1,5]
def Zjd:MCode:=.we [.m 16 5,.bk 17 .leq 16 7] [1,5,17] 17 0 (.seq (.block 1 (.r [.mk' 6 0] [1,5,6] (.block 2 (.loop [1,5,6] Zmi)))) Zmj)
def Zje:MCode:=.r [.o 63 (.bslice 3 1 0 [.z] []),.o 64 (.bslice 3 1 0 [.z] []),.m 2 63,.m 3 64,.o 4 (.mov (.q false))] [2,3,4] .ret
def Z23:MFun:=⟨1,65,[.tmp 2,.tmp 3,.tmp 4],.r [.bx 1 0,.o 2 (.mov (.c (.t .nil))),.o 3 (.mov (.c (.t .nil))),.o 4 (.mov (.q false))] [1] (.wc [.ln 11 6 1,.cl 12 274 [11],.o 13 (.un .not (.s 12))] [1,13] 13 (.r [.o 14 (.bslice 3 1 0 [.z] []),.o 15 (.bslice 3 1 0 [.z] []),.m 2 14,.m 3 15,.o 4 (.mov (.q false))] [2,3,4] .ret) (.seq (.r [.mk' 5 0] [1,5] (.block 0 (.loop [1,5] Zjd))) Zje))⟩
noncomputable def Zmk (a:Zi):Rs:=C 341 [.agg (a.c.map .t)] []
noncomputable def Zjf (o:Zi) (a:Int):Rs:=EvL C [.blk 0,.seq Zje,.fin 0 [.tmp 2,.tmp 3,.tmp 4]] [1,5] Zjd ⟨[(1,.ptr 0 0),(5,I a)],[[]],[.box (o.c.map .t)]⟩
noncomputable def Zjg (o:Zi) (a b:Int):Rs:=EvL C [.blk 2,.blk 1,.seq Zmj,.loop [1,5] Zjd,.blk 0,.seq Zje,.fin 0 [.tmp 2,.tmp 3,.tmp 4]] [1,5,6] Zmi ⟨[(1,.ptr 0 0),(5,I a),(6,I b)],[[]],[.box (o.c.map .t)]⟩
noncomputable def Zjh (o:Zi) (a b e:Int):Rs:=EvL C [.blk 4,.blk 3,.seq Zpl,.loop [1,5,6] Zmi,.blk 2,.blk 1,.seq Zmj,.loop [1,5] Zjd,.blk 0,.seq Zje,.fin 0 [.tmp 2,.tmp 3,.tmp 4]] [1,5,6,7] Zpk ⟨[(1,.ptr 0 0),(5,I a),(6,I b),(7,I e)],[[]],[.box (o.c.map .t)]⟩
noncomputable def Zel (o:Zi) (x:List Int) (a b e k:Int):Rs:=EvL C [.blk 6,.blk 5,.seq Zvz,.loop [1,5,6,7] Zpk,.blk 4,.blk 3,.seq Zpl,.loop [1,5,6] Zmi,.blk 2,.blk 1,.seq Zmj,.loop [1,5] Zjd,.blk 0,.seq Zje,.fin 0 [.tmp 2,.tmp 3,.tmp 4]] [1,5,6,7,8,9] Zvy ⟨[(1,.ptr 0 0),(5,I a),(6,I b),(7,I e),(8,.own 1),(9,I k)],[[]],[.box (o.c.map .t),.arr 3 1 true (x.map ic)]⟩
def Zv0:MCode:=.we [.m 14 5,.bk 15 .leq 14 7] [1,3,4,5,15] 15 4 (.seq (.block 5 (.r [.ln 18 6 1,.m 19 3,.m 20 4,.m 21 5,.o 22 (.bslice 3 1 3 [.z] [(0,.s 19),(1,.s 20),(2,.s 21)]),.cl 23 397 [18,22],.bk 24 .lss 23 1] [1,3,4,5,24] (.cond (.s 24) (.r [.m 25 3,.m 26 4,.m 27 5,.o 28 (.bslice 3 1 3 [.z] [(0,.s 25),(1,.s 26),(2,.s 27)]),.m 2 28] [2] .ret) .skip))) (.reg [.m 16 5,.bk 17 .add 16 1,.m 5 17] [1,3,4,5]))
def Zv1:MCode:=.reg [.m 12 4,.bk 13 .add 12 1,.m 4 13] [1,3,4]
def Zpm:MCode:=.we [.m 10 4,.bk 11 .leq 10 7] [1,3,4,11] 11 2 (.seq (.block 3 (.r [.mk' 5 0] [1,3,4,5] (.block 4 (.loop [1,3,4,5] Zv0)))) Zv1)
def Zpn:MCode:=.reg [.m 8 3,.bk 9 .add 8 1,.m 3 9] [1,3]
def Zml:MCode:=.we [.m 6 3,.bk 7 .leq 6 7] [1,3,7] 7 0 (.seq (.block 1 (.r [.mk' 4 0] [1,3,4] (.block 2 (.loop [1,3,4] Zpm)))) Zpn)
def Zmm:MCode:=.r [.o 29 (.bslice 3 1 0 [.z] []),.m 2 29] [2] .ret
def Z24:MFun:=⟨1,30,[.tmp 2],.r [.bx 1 0,.o 2 (.mov (.c (.t .nil)))] [1] (.seq (.r [.mk' 3 0] [1,3] (.block 0 (.loop [1,3] Zml))) Zmm)⟩
noncomputable def Zpo (a:Zi):Rs:=C 342 [.agg (a.c.map .t)] []
noncomputable def Zji (o:Zi) (a:Int):Rs:=EvL C [.blk 0,.seq Zmm,.fin 0 [.tmp 2]] [1,3] Zml ⟨[(1,.ptr 0 0),(3,I a)],[[]],[.box (o.c.map .t)]⟩
noncomputable def Zjj (o:Zi) (a b:Int):Rs:=EvL C [.blk 2,.blk 1,.seq Zpn,.loop [1,3] Zml,.blk 0,.seq Zmm,.fin 0 [.tmp 2]] [1,3,4] Zpm ⟨[(1,.ptr 0 0),(3,I a),(4,I b)],[[]],[.box (o.c.map .t)]⟩
noncomputable def Zmn (o:Zi) (a b e:Int):Rs:=EvL C [.blk 4,.blk 3,.seq Zv1,.loop [1,3,4] Zpm,.blk 2,.blk 1,.seq Zpn,.loop [1,3] Zml,.blk 0,.seq Zmm,.fin 0 [.tmp 2]] [1,3,4,5] Zv0 ⟨[(1,.ptr 0 0),(3,I a),(4,I b),(5,I e)],[[]],[.box (o.c.map .t)]⟩
def Zv2:MCode:=.we [.m 11 5,.bk 12 .leq 11 5] [1,5,12] 12 0 (.seq (.block 1 (.r [.ln 15 30 1,.m 16 5,.cl 17 164 [15,16],.o 6 (.alloc [.t .z,.t .z,.t .z,.t .z,.t .z,.t .nil]),.st 6 6 17] [1,5,6] (.wc [.ln 18 6 6,.cl 19 274 [18],.o 20 (.un .not (.s 19))] [1,5,6,20] 20 (.r [.m 21 5,.o 22 (.bslice 3 1 0 [.z] []),.o 23 (.bslice 3 1 0 [.z] []),.m 2 21,.m 3 22,.m 4 23] [2,3,4] .ret) (.r [.ln 25 6 6,.cl 26 341 [25],.m 24 26,.o 27 (.ext (.s 24) 0),.o 28 (.ext (.s 24) 1),.o 29 (.ext (.s 24) 2),.m 7 27,.m 8 28,.m 9 29] [1,5,6,7,8,9] (.wc [.m 30 9] [1,5,6,7,8,30] 30 (.r [.m 31 5,.m 32 7,.m 33 8,.m 2 31,.m 3 32,.m 4 33] [2,3,4] .ret) (.r [.ln 34 6 6,.cl 35 342 [34],.m 10 35] [1,5,10] (.r [.m 36 10,.ll 37 36,.bk 38 .gtr 37 0] [1,5,10,38] (.cond (.s 38) (.r [.m 39 5,.m 40 10,.o 41 (.bslice 3 1 0 [.z] []),.m 2 39,.m 3 40,.m 4 41] [2,3,4] .ret) .skip)))))))) (.reg [.m 13 5,.bk 14 .add 13 1,.m 5 14] [1,5]))
def Zv3:MCode:=.r [.o 42 (.bslice 3 1 0 [.z] []),.o 43 (.bslice 3 1 0 [.z] []),.mk' 2 0,.m 3 42,.m 4 43] [2,3,4] .ret
def Z25:MFun:=⟨1,44,[.tmp 2,.tmp 3,.tmp 4],.r [.bx 1 0,.mk' 2 0,.o 3 (.mov (.c (.t .nil))),.o 4 (.mov (.c (.t .nil)))] [1] (.seq (.r [.mk' 5 1] [1,5] (.block 0 (.loop [1,5] Zv2))) Zv3)⟩
noncomputable def Zv4 (a:Zj):Rs:=C 268 [.agg (a.c.map .t)] []
noncomputable def Zjk (m:Zj) (k:Int):Rs:=EvL C [.blk 0,.seq Zv3,.fin 0 [.tmp 2,.tmp 3,.tmp 4]] [1,5] Zv2 ⟨[(1,.ptr 0 0),(5,I k)],[[]],[.box (m.c.map .t)]⟩
def Z26:MFun:=⟨1,14,[.tmp 2],.r [.bx 1 0,.o 2 (.mov (.q false))] [1] (.r [.ln 7 30 1,.cl 8 268 [7],.m 6 8,.o 9 (.ext (.s 6) 0),.o 10 (.ext (.s 6) 1),.o 11 (.ext (.s 6) 2),.m 3 9,.m 4 10,.m 5 11] [3] (.r [.m 12 3,.bk 13 .eql 12 0,.m 2 13] [2] .ret))⟩
noncomputable def Zhb (a:Zj):Rs:=C 145 [.agg (a.c.map .t)] []
def Zv5:MCode:=.we [.m 6 3,.bk 7 .leq 6 7] [0,3,7] 7 0 (.seq (.block 1 (.r [.m 10 3,.cl 11 208 [10],.m 12 0,.b 13 .geq 11 12] [0,3,13] (.cond (.s 13) (.r [.m 14 3,.m 2 14] [2] .ret) .skip))) (.reg [.m 8 3,.bk 9 .add 8 1,.m 3 9] [0,3]))
def Zv6:MCode:=.r [.mk' 2 (-1)] [2] .ret
def Z27:MFun:=⟨1,15,[.tmp 2],.r [.mk' 2 0] [0] (.wc [.m 4 0,.bk 5 .lss 4 0] [0,5] 5 (.r [.mk' 2 (-1)] [2] .ret) (.seq (.r [.mk' 3 0] [0,3] (.block 0 (.loop [0,3] Zv5))) Zv6))⟩
noncomputable def Zhc (a:Int):Rs:=C 152 [I a] []
noncomputable def Zmo (n k:Int):Rs:=EvL C [.blk 0,.seq Zv6,.fin 0 [.tmp 2]] [0,3] Zv5 ⟨[(0,I n),(3,I k)],[[]],[]⟩
def Z28:MFun:=⟨1,6,[.tmp 2],.r [.mk' 2 0] [0] (.r [.m 3 0,.cl 4 152 [3],.cl 5 208 [4],.m 2 5] [2] .ret)⟩
noncomputable def Zbm (a:Int):Rs:=C 151 [I a] []
def Z29:MFun:=⟨5,85,[.tmp 10],.r [.bx 5 0,.bx 6 1,.mk' 10 0] [2,3,4,5,6] (.seq (.drw [.ln 12 30 5,.fa 13 0 6,.l 14 13,.m 15 4,.ia 16 3 14 15,.fa 17 0 16,.l 18 17,.cl 19 164 [12,18],.o 11 (.alloc [.t .z,.t .z,.t .z,.t .z,.t .z,.t .nil]),.st 6 11 19] [[],[],[1],[],[2,3],[4],[5],[0,6],[],[8,7,7,0,1,2,3,4,5,6,7,8]] [2,3,4,11]) (.wc [.m 20 2,.m 21 4,.ia 22 4 20 21,.fa 23 2 22,.l 24 23,.bk 25 .lss 24 0] [2,3,4,11,25] 25 (.seq (.drw [.ln 26 6 11,.m 27 3,.m 28 4,.ia 29 1 27 28,.l 30 29,.cl 31 151 [30],.m 32 3,.m 33 4,.ia 34 1 32 33,.l 35 34,.cl 36 151 [35],.o 37 (.call 163 [.s 26,.s 31,.c (.t .z),.s 36]),.m 10 37] [[],[],[],[1,2],[3],[4],[],[],[6,7],[8],[9,5],[0,5,10,10],[11,11,0,1,2,3,4,5,6,7,8,9,10,11]] [10]) .ret) (.wc [.m 38 2,.m 39 4,.ia 40 4 38 39,.fa 41 3 40,.l 42 41,.bk 43 .lss 42 0] [2,3,4,11,43] 43 (.seq (.drw [.ln 44 6 11,.m 45 3,.m 46 2,.m 47 4,.ia 48 4 46 47,.fa 49 2 48,.l 50 49,.ia 51 1 45 50,.l 52 51,.cl 53 151 [52],.m 54 3,.m 55 4,.ia 56 1 54 55,.l 57 56,.cl 58 151 [57],.o 59 (.call 163 [.s 44,.s 53,.c (.t .z),.s 58]),.m 10 59] [[],[],[],[],[2,3],[4],[5],[1,6],[7],[8],[],[],[10,11],[12],[13,9],[0,9,14,14],[15,15,0,1,2,3,4,5,6,7,8,9,10,11,12,13,14,15]] [10]) .ret) (.seq (.drw [.ln 60 6 11,.m 61 3,.m 62 2,.m 63 4,.ia 64 4 62 63,.fa 65 2 64,.l 66 65,.ia 67 1 61 66,.l 68 67,.cl 69 151 [68],.m 70 3,.m 71 2,.m 72 4,.ia 73 4 71 72,.fa 74 3 73,.l 75 74,.ia 76 1 70 75,.l 77 76,.cl 78 151 [77],.m 79 3,.m 80 4,.ia 81 1 79 80,.l 82 81,.cl 83 151 [82],.cl 84 163 [60,69,78,83],.m 10 84] [[],[],[],[],[2,3],[4],[5],[1,6],[7],[8],[],[],[],[11,12],[13],[14],[10,15],[16],[17,9],[],[],[19,20],[21],[22,18],[0,9,18,23,23],[24,24,0,1,2,3,4,5,6,7,8,9,10,11,12,13,14,15,16,17,18,19,20,21,22,23,24]] [10]) .ret))))⟩
noncomputable def Zjl (a:Zj) (a1:Plan) (a2:List Zb) (a3:List Int) (a4:Int):Rs:=C 147 [.agg (a.c.map .t),.agg (a1.c.map .t),L 4 (a2.map Zb.c),L 1 (a3.map ic),I a4] []
def Zv7:MCode:=.we [.m 30 11,.bk 31 .leq 30 7,.m 32 31,.g 33 32 (.ln 30 5),.g 34 32 (.mov (.s 1)),.g 35 32 (.cl 164 [33,34]),.g 36 32 (.mov (.s 2)),.g 37 32 (.mov (.s 3)),.g 38 32 (.mov (.s 11)),.g 39 32 (.cl 208 [38]),.g 40 32 (.cl 163 [35,36,37,39]),.g 41 32 (.mov (.s 4)),.g 42 32 (.b .leq 40 41),.o 43 (.pick (.s 32) (.s 42) (.q false))] [1,2,3,4,5,11,43] 43 0 (.block 1 (.reg [.m 44 11,.bk 45 .add 44 1,.m 11 45] [1,2,3,4,5,11]))
def Zv8:MCode:=.r [.m 46 11,.m 10 46] [10] .ret
def Z3a:MFun:=⟨5,47,[.tmp 10],.r [.bx 5 0,.mk' 10 0] [1,2,3,4,5] (.wc [.ln 12 30 5,.cl 13 145 [12],.o 14 (.un .not (.s 13)),.m 15 14,.h 16 15 (.mov (.s 1)),.h 17 15 (.call 122 [.s 16,.c (.t (.int .i64 1)),.c (.t (.int .i64 5))]),.h 18 15 (.un .not (.s 17)),.o 19 (.pick (.s 15) (.q true) (.s 18)),.m 20 19,.h 21 20 (.mov (.s 2)),.h 22 20 (.call 122 [.s 21,.c (.t .z),.c (.t (.int .i64 4096))]),.h 23 20 (.un .not (.s 22)),.o 24 (.pick (.s 20) (.q true) (.s 23)),.m 25 24,.h 26 25 (.mov (.s 3)),.h 27 25 (.call 122 [.s 26,.c (.t .z),.c (.t (.int .i64 4096))]),.h 28 25 (.un .not (.s 27)),.o 29 (.pick (.s 25) (.q true) (.s 28))] [1,2,3,4,5,29] 29 (.r [.mk' 10 0] [10] .ret) (.r [.mk' 11 0] [1,2,3,4,5,11] (.seq (.block 0 (.loop [1,2,3,4,5,11] Zv7)) Zv8)))⟩
noncomputable def Zjm (a:Zj) (a1 a2 a3 a4:Int):Rs:=C 150 [.agg (a.c.map .t),I a1,I a2,I a3,I a4] []
noncomputable def Zjn (m:Zj) (kind l r_1 budget n:Int):Rs:=EvL C [.blk 0,.seq Zv8,.fin 0 [.tmp 10]] [1,2,3,4,5,11] Zv7 ⟨[(1,I kind),(2,I l),(3,I r_1),(4,I budget),(5,.ptr 0 0),(11,I n)],[[]],[.box (m.c.map .t)]⟩
def Z3b:MCode:=.reg [.m 36 5,.o 37 (.bslice 3 1 0 [.z] []),.m 38 0,.m 39 7,.ia 40 1 38 39,.l 41 40,.o 42 (.append 3 1 8 false (.s 37) (.s 41)),.o 43 (.bslice 30 1 1 [.lst 1 []] [(0,.s 42)]),.o 44 (.append 30 1 24 true (.s 36) (.s 43)),.m 5 44] [0,1,5,6,7]
def Z3c:MCode:=.wc [.m 24 8,.bk 25 .gtr 24 0,.m 26 25,.g 27 26 (.mov (.s 6)),.g 28 26 (.un .not (.s 27)),.o 29 (.pick (.s 26) (.s 28) (.q false))] [0,1,5,6,7,29] 29 (.r [.m 30 5,.o 31 (.bslice 3 1 0 [.z] []),.m 32 1,.o 33 (.append 3 1 8 false (.s 31) (.s 32)),.o 34 (.bslice 30 1 1 [.lst 1 []] [(0,.s 33)]),.o 35 (.append 30 1 24 true (.s 30) (.s 34)),.m 5 35] [0,1,5,7] (.reg [.o 6 (.mov (.q true))] [0,1,5,6,7])) Z3b
def Zpp:MCode:=.we [.m 10 7,.m 11 0,.ll 12 11,.b 13 .lss 10 12] [0,1,5,6,7,13] 13 0 (.seq (.block 1 (.r [.m 16 0,.m 17 7,.ia 18 1 16 17,.l 19 18,.m 20 1,.cl 21 167 [19,20],.m 8 21] [0,1,5,6,7,8] (.wc [.m 22 8,.bk 23 .eql 22 0] [0,1,5,6,7,8,23] 23 (.reg [.o 6 (.mov (.q true))] [0,1,5,6,7,8]) Z3c))) (.reg [.m 14 7,.bk 15 .add 14 1,.m 7 15] [0,1,5,6,7]))
def Z3d:MCode:=.r [.m 53 5,.m 4 53] [4] .ret
def Zpq:MCode:=.wc [.m 45 6,.o 46 (.un .not (.s 45))] [1,5,46] 46 (.reg [.m 47 5,.o 48 (.bslice 3 1 0 [.z] []),.m 49 1,.o 50 (.append 3 1 8 false (.s 48) (.s 49)),.o 51 (.bslice 30 1 1 [.lst 1 []] [(0,.s 50)]),.o 52 (.append 30 1 24 true (.s 47) (.s 51)),.m 5 52] [5]) Z3d
def Z3e:MFun:=⟨2,54,[.tmp 4],.r [.o 4 (.mov (.c (.t .nil)))] [0,1] (.r [.o 9 (.bslice 30 1 0 [.lst 1 []] []),.m 5 9] [0,1,5] (.r [.o 6 (.mov (.q false))] [0,1,5,6] (.seq (.r [.mk' 7 0] [0,1,5,6,7] (.block 0 (.loop [0,1,5,6,7] Zpp))) Zpq)))⟩
noncomputable def Zmp (a:List Int):Rs:=C 270 [.t .nil,L 1 (a.map ic)] []
noncomputable def Zv9 (out:List (List Int)) (row:List Int) (put:Bool) (i:Int):Rs:=EvL C [.blk 0,.seq Zpq,.fin 0 [.tmp 4]] [0,1,5,6,7] Zpp ⟨[(0,.t .nil),(1,L 1 (row.map ic)),(5,.own 0),(6,Bo put),(7,I i)],[[]],[.arr 30 1 true (out.map isc)]⟩
noncomputable def Zmq (a:List (List Int)) (a1:List Int):Rs:=C 270 [L 1 (a.map isc),L 1 (a1.map ic)] []
noncomputable def Zem (out rows:List (List Int)) (row:List Int) (put:Bool) (i:Int):Rs:=EvL C [.blk 0,.seq Zpq,.fin 0 [.tmp 4]] [0,1,5,6,7] Zpp ⟨[(0,L 1 (rows.map isc)),(1,L 1 (row.map ic)),(5,.own 0),(6,Bo put),(7,I i)],[[]],[.arr 30 1 true (out.map isc)]⟩
def Zpr:MCode:=.we [.m 15 5,.fa 16 1 1,.l 17 16,.ll 18 17,.b 19 .lss 15 18] [1,2,4,5,19] 19 0 (.seq (.block 1 (.drw [.fa 22 1 4,.l 23 22,.fa 24 1 1,.l 25 24,.m 26 5,.ia 27 1 25 26,.l 28 27,.cl 29 270 [23,28],.fa 30 1 4,.st 1 30 29] [[],[0],[],[2],[],[3,4],[5],[1,6],[0,1,2,3,4,5,6,7],[8,7,7,0,1,2,3,4,5,6,7]] [1,2,4,5])) (.reg [.m 20 5,.bk 21 .add 20 1,.m 5 21] [1,2,4,5]))
def Zps:MCode:=.r [.ln 31 2 4,.st 2 2 31,.o 3 (.mov (.q true))] [2,3] .ret
def Z3f:MFun:=⟨1,32,[.cell 2 (some 2),.tmp 3],.r [.bx 1 0,.o 2 (.alloc [.t .nil,.t .nil]),.o 3 (.mov (.q false))] [1,2] (.wc [.ln 6 2 1,.cl 7 269 [6],.o 8 (.un .not (.s 7))] [1,2,8] 8 (.r [.o 9 (.build [.t .nil,.t .nil] []),.st 2 2 9,.o 3 (.mov (.q false))] [2,3] .ret) (.r [.o 10 (.bslice 3 1 0 [.z] []),.fa 11 0 1,.l 12 11,.o 13 (.append 3 1 8 false (.s 10) (.s 12)),.o 14 (.build [.t .nil,.t .nil] [(0,1,.s 13)]),.o 4 (.alloc [.t .nil,.t .nil]),.st 2 4 14] [1,2,4] (.seq (.r [.mk' 5 0] [1,2,4,5] (.block 0 (.loop [1,2,4,5] Zpr))) Zps)))⟩
noncomputable def Zen (a:Za):Rs:=C 154 [.agg (a.c.map .t)] []
noncomputable def Zwa (s:Za) (x:List Int) (i:Int):Rs:=EvL C [.blk 0,.seq Zps,.fin 0 [.cell 2 (some 2),.tmp 3]] [1,2,4,5] Zpr ⟨[(1,.ptr 0 0),(2,.ptr 1 0),(4,.ptr 2 0),(5,I i)],[[]],[.box (s.c.map .t),.box [.t .nil,.t .nil],.box [.own 3,.t .nil],.arr 3 1 true (x.map ic)]⟩
noncomputable def Zmr (s:Za) (x:List Int) (x1:List (List Int)) (i:Int):Rs:=EvL C [.blk 0,.seq Zps,.fin 0 [.cell 2 (some 2),.tmp 3]] [1,2,4,5] Zpr ⟨[(1,.ptr 0 0),(2,.ptr 1 0),(4,.ptr 2 0),(5,I i)],[[]],[.box (s.c.map .t),.box [.t .nil,.t .nil],.box [.own 3,.own 4],.arr 3 1 true (x.map ic),.arr 30 1 true (x1.map isc)]⟩
def Z3g:MCode:=.r [.m 120 4,.fa 121 1 16,.st 1 121 120] [10,16] (.r [.ln 122 6 16,.st 6 10 122,.o 11 (.mov (.q true))] [10,11] .ret)
def Z3h:MCode:=.reg [.m 49 17,.bk 50 .add 49 1,.m 17 50] [4,5,8,10,12,13,15,16,17]
def Zpt:MCode:=.we [.m 45 17,.m 46 12,.ll 47 46,.b 48 .lss 45 47] [4,5,8,10,12,13,15,16,17,48] 48 0 (.seq (.block 1 (.r [.m 51 15,.m 52 12,.m 53 17,.ia 54 2 52 53,.fa 55 1 54,.l 56 55,.ll 57 56,.o 58 (.bslice 3 1 1 [.z] [(0,.s 57)]),.o 59 (.append 3 1 8 true (.s 51) (.s 58)),.m 15 59] [4,5,8,10,12,13,15,16,17] (.r [.ln 60 30 5,.ln 61 1 8,.m 62 13,.m 63 15,.m 64 17,.cl 65 147 [60,61,62,63,64],.m 18 65] [4,5,8,10,12,13,15,16,17,18] (.wc [.m 66 18,.m 67 4,.fa 68 1 16,.l 69 68,.b 70 .sub 67 69,.b 71 .gtr 66 70] [4,5,8,10,12,13,15,16,17,18,71] 71 (.wc [.m 72 13,.m 73 17,.ia 74 4 72 73,.fa 75 3 74,.l 76 75,.bk 77 .geq 76 0] [4,5,8,10,13,15,16,17,77] 77 (.seq (.drw [.ln 78 30 5,.fa 79 0 8,.l 80 79,.m 81 17,.ia 82 3 80 81,.fa 83 0 82,.l 84 83,.m 85 15,.m 86 13,.m 87 17,.ia 88 4 86 87,.fa 89 2 88,.l 90 89,.ia 91 1 85 90,.l 92 91,.cl 93 151 [92],.m 94 15,.m 95 13,.m 96 17,.ia 97 4 95 96,.fa 98 3 97,.l 99 98,.ia 100 1 94 99,.l 101 100,.cl 102 151 [101],.m 103 4,.fa 104 1 16,.l 105 104,.b 106 .sub 103 105,.cl 107 150 [78,84,93,102,106],.m 19 107] [[],[],[1],[],[2,3],[4],[5],[],[],[],[8,9],[10],[11],[7,12],[13],[14],[],[],[],[17,18],[19],[20],[16,21],[22],[23,15],[],[],[26],[25,27],[0,6,15,24,28,24],[29,29,0,1,2,3,4,5,6,7,8,9,10,11,12,13,14,15,16,17,18,19,20,21,22,23,24,25,26,27,28,29]] [4,10,13,16,17,19]) (.drw [.fa 108 3 16,.l 109 108,.m 110 13,.m 111 17,.ia 112 4 110 111,.fa 113 0 112,.l 114 113,.m 115 19,.o 116 (.build [.t .z,.t .z,.t (.bool false)] [(0,1,.s 114),(1,1,.s 115)]),.o 117 (.bslice 211 3 1 [.z,.z,.bool false] [(0,.s 116)]),.o 118 (.append 211 3 24 true (.s 109) (.s 117)),.fa 119 3 16,.st 1 119 118] [[],[0],[],[],[2,3],[4],[5],[],[6,7],[8],[1,9],[0,1,2,3,4,5,6,7,8,9,10],[11,10,10,0,1,2,3,4,5,6,7,8,9,10]] [4,10,16])) Z3g) (.r [.fa 123 1 16,.l 124 123,.m 125 18,.b 126 .add 124 125,.fa 127 1 16,.st 1 127 126] [4,5,8,10,12,13,15,16,17] (.r [.fa 128 2 16,.l 129 128,.bk 130 .add 129 1,.fa 131 2 16,.st 1 131 130] [4,5,8,10,12,13,15,16,17] (.r [.m 132 13,.m 133 17,.ia 134 4 132 133,.fa 135 3 134,.l 136 135,.bk 137 .geq 136 0] [4,5,8,10,12,13,15,16,17,137] (.cond (.s 137) (.drw [.fa 138 3 16,.l 139 138,.m 140 13,.m 141 17,.ia 142 4 140 141,.fa 143 0 142,.l 144 143,.m 145 15,.m 146 17,.ia 147 1 145 146,.l 148 147,.cl 149 152 [148],.o 150 (.build [.t .z,.t .z,.t (.bool false)] [(0,1,.s 144),(1,1,.s 149),(2,1,.q true)]),.o 151 (.bslice 211 3 1 [.z,.z,.bool false] [(0,.s 150)]),.o 152 (.append 211 3 24 true (.s 139) (.s 151)),.fa 153 3 16,.st 1 153 152] [[],[0],[],[],[2,3],[4],[5],[],[],[7,8],[9],[10],[6,11],[12],[1,13,11],[0,1,2,3,4,5,6,7,8,9,10,11,12,13,14],[15,14,14,0,1,2,3,4,5,6,7,8,9,10,11,12,13,14]] [4,5,8,10,12,13,15,16,17]) .skip)))))))) Z3h)
def Zpu:MCode:=.r [.fa 154 0 16,.n (.store 1 (.s 154) (.q true))] [10,12,16] (.r [.m 156 12,.m 157 12,.ll 158 157,.bk 159 .sub 158 1,.ia 160 2 156 159,.ln 161 2 160,.cl 162 154 [161],.m 155 162,.o 163 (.ext (.s 155) 0),.o 164 (.ext (.s 155) 1),.o 20 (.alloc [.t .nil,.t .nil]),.st 2 20 163,.m 21 164] [10,16,20] (.r [.ln 165 2 20,.fa 166 4 16,.st 2 166 165] [10,16] (.r [.ln 167 6 16,.st 6 10 167,.o 11 (.mov (.q true))] [10,11] .ret)))
def Z3i:MFun:=⟨5,168,[.cell 10 (some 6),.tmp 11],.r [.bx 5 0,.bx 6 1,.bx 7 2,.bx 8 3,.o 10 (.alloc [.t (.bool false),.t .z,.t .z,.t .nil,.t .nil,.t .nil]),.o 11 (.mov (.q false))] [4,5,6,7,8,10] (.r [.ln 23 1 6,.ln 24 2 7,.ln 25 1 8,.cl 26 144 [23,24,25],.m 22 26,.o 27 (.ext (.s 22) 0),.o 28 (.ext (.s 22) 1),.o 29 (.ext (.s 22) 2),.m 12 27,.m 13 28,.m 14 29] [4,5,8,10,12,13,14] (.wc [.m 30 14,.o 31 (.un .not (.s 30)),.m 32 31,.h 33 32 (.ln 30 5),.h 34 32 (.cl 145 [33]),.h 35 32 (.un .not (.s 34)),.o 36 (.pick (.s 32) (.q true) (.s 35)),.m 37 36,.h 38 37 (.mov (.s 4)),.h 39 37 (.call 122 [.s 38,.c (.t .z),.c (.t (.int .i64 1000000000000))]),.h 40 37 (.un .not (.s 39)),.o 41 (.pick (.s 37) (.q true) (.s 40))] [4,5,8,10,12,13,41] 41 (.r [.o 42 (.build [.t (.bool false),.t .z,.t .z,.t .nil,.t .nil,.t .nil] []),.st 6 10 42,.o 11 (.mov (.q false))] [10,11] .ret) (.r [.o 43 (.bslice 3 1 0 [.z] []),.m 15 43] [4,5,8,10,12,13,15] (.r [.o 44 (.build [.t (.bool false),.t .z,.t .z,.t .nil,.t .nil,.t .nil] []),.o 16 (.alloc [.t (.bool false),.t .z,.t .z,.t .nil,.t .nil,.t .nil]),.st 6 16 44] [4,5,8,10,12,13,15,16] (.seq (.r [.mk' 17 0] [4,5,8,10,12,13,15,16,17] (.block 0 (.loop [4,5,8,10,12,13,15,16,17] Zpt))) Zpu)))))⟩
noncomputable def Zeo (a:Zj) (a1:Zk) (a2:Zd) (a3:Plan) (a4:Int):Rs:=C 53 [.agg (a.c.map .t),.agg (a1.c.map .t),.agg (a2.c.map .t),.agg (a3.c.map .t),I a4] []
noncomputable def Zms (m:Zj) (p:Plan) (Done:Bool) (Cost Steps:Int) (l:List Za) (info:List Zb) (n:List Int) (Done1:Bool) (Cost1 Steps1 budget i:Int):Rs:=EvL C [.blk 0,.seq Zpu,.fin 0 [.cell 10 (some 6),.tmp 11]] [4,5,8,10,12,13,15,16,17] Zpt ⟨[(4,I budget),(5,.ptr 0 0),(8,.ptr 1 0),(10,.ptr 2 0),(12,.own 3),(13,.own 4),(15,.own 5),(16,.ptr 6 0),(17,I i)],[[]],[.box (m.c.map .t),.box (p.c.map .t),.box [Bo Done,I Cost,I Steps,.t .nil,.t .nil,.t .nil],.arr 199 2 true (l.map Za.c),.arr 209 4 true (info.map Zb.c),.arr 3 1 true (n.map ic),.box [Bo Done1,I Cost1,I Steps1,.t .nil,.t .nil,.t .nil]]⟩
noncomputable def Zjo (m:Zj) (p:Plan) (Done:Bool) (Cost Steps:Int) (l:List Za) (info:List Zb) (n:List Int) (Done1:Bool) (Cost1 Steps1:Int) (x:List Zf) (budget i:Int):Rs:=EvL C [.blk 0,.seq Zpu,.fin 0 [.cell 10 (some 6),.tmp 11]] [4,5,8,10,12,13,15,16,17] Zpt ⟨[(4,I budget),(5,.ptr 0 0),(8,.ptr 1 0),(10,.ptr 2 0),(12,.own 3),(13,.own 4),(15,.own 5),(16,.ptr 6 0),(17,I i)],[[]],[.box (m.c.map .t),.box (p.c.map .t),.box [Bo Done,I Cost,I Steps,.t .nil,.t .nil,.t .nil],.arr 199 2 true (l.map Za.c),.arr 209 4 true (info.map Zb.c),.arr 3 1 true (n.map ic),.box [Bo Done1,I Cost1,I Steps1,.own 7,.t .nil,.t .nil],.arr 211 3 true (x.map Zf.c)]⟩
def Z3j:MFun:=⟨6,39,[.cell 12 (some 6),.tmp 13],.r [.bx 6 0,.bx 7 1,.bx 8 2,.bx 9 3,.o 12 (.alloc [.t (.bool false),.t .z,.t .z,.t .nil,.t .nil,.t .nil]),.o 13 (.mov (.q false))] [4,5,6,7,8,9,12] (.r [.ln 19 2 8,.ln 20 1 9,.m 21 4,.cl 22 169 [19,20,21],.m 18 22,.o 23 (.ext (.s 18) 0),.o 24 (.ext (.s 18) 1),.o 14 (.alloc [.t .nil]),.st 1 14 23,.m 15 24] [5,6,7,8,12,14,15] (.wc [.m 25 15,.o 26 (.un .not (.s 25))] [5,6,7,8,12,14,26] 26 (.r [.o 27 (.build [.t (.bool false),.t .z,.t .z,.t .nil,.t .nil,.t .nil] []),.st 6 12 27,.o 13 (.mov (.q false))] [12,13] .ret) (.r [.ln 29 30 6,.ln 30 1 7,.ln 31 2 8,.ln 32 1 14,.m 33 5,.cl 34 53 [29,30,31,32,33],.m 28 34,.o 35 (.ext (.s 28) 0),.o 36 (.ext (.s 28) 1),.o 16 (.alloc [.t (.bool false),.t .z,.t .z,.t .nil,.t .nil,.t .nil]),.st 6 16 35,.m 17 36] [12,16,17] (.r [.ln 37 6 16,.m 38 17,.st 6 12 37,.m 13 38] [12,13] .ret))))⟩
noncomputable def Zpv (a:Zj) (a1:Zk) (a2:Zd) (a3:Plan) (a4 a5:Int):Rs:=C 56 [.agg (a.c.map .t),.agg (a1.c.map .t),.agg (a2.c.map .t),.agg (a3.c.map .t),I a4,I a5] []
def Zwb:MCode:=.r [.b 8 .lss 7 6] [0,5,6,7,8] (.seq (.cond (.s 8) .skip (.exit 0)) (.seq (.block 1 (.r [.ia 9 1 5 7,.l 10 9,.m 4 10] [0,4,5,6,7] (.r [.m 11 4,.o 12 (.call 124 [.s 11,.c (.t .z),.c (.t (.int .i64 7))]),.o 13 (.un .not (.s 12))] [0,5,6,7,13] (.cond (.s 13) (.r [.o 2 (.mov (.q false))] [2] .ret) .skip)))) (.reg [.bk 14 .add 7 1,.m 7 14] [0,5,6,7])))
def Zwc:MCode:=.r [.m 15 0,.ll 16 15,.bk 17 .leq 16 16,.m 2 17] [2] .ret
def Z3k:MFun:=⟨1,18,[.tmp 2],.r [.o 2 (.mov (.q false))] [0] (.seq (.r [.m 5 0,.ll 6 5,.mk' 7 0] [0,5,6,7] (.block 0 (.loop [0,5,6,7] Zwb))) Zwc)⟩
noncomputable def Zmt (a:List Int):Rs:=C 237 [L 1 (a.map ic)] []
noncomputable def Zmu (location x:List Int) (x1 x2:Int):Rs:=EvL C [.blk 0,.seq Zwc,.fin 0 [.tmp 2]] [0,5,6,7] Zwb ⟨[(0,L 1 (location.map ic)),(5,L 1 (x.map ic)),(6,I x1),(7,I x2)],[[]],[]⟩
def Zwd:MCode:=.r [.b 14 .lss 13 12] [0,1,12,13,14] (.seq (.cond (.s 14) .skip (.exit 0)) (.seq (.block 1 (.r [.m 15 13,.m 5 15] [0,1,5,12,13] (.seq (.drw [.m 16 0,.m 17 5,.ia 18 1 16 17,.l 19 18,.m 20 1,.m 21 5,.ia 22 1 20 21,.l 23 22,.b 24 .lss 19 23] [[],[],[0,1],[2],[],[],[4,5],[6],[3,7]] [0,1,12,13,24]) (.cond (.s 24) (.r [.o 4 (.mov (.q false))] [4] .ret) .skip)))) (.reg [.bk 25 .add 13 1,.m 13 25] [0,1,12,13])))
def Zwe:MCode:=.r [.o 4 (.mov (.q true))] [4] .ret
def Z3l:MFun:=⟨2,26,[.tmp 4],.r [.o 4 (.mov (.q false))] [0,1] (.wc [.m 6 0,.ll 7 6,.m 8 1,.ll 9 8,.b 10 .neq 7 9] [0,1,10] 10 (.r [.o 4 (.mov (.q false))] [4] .ret) (.seq (.r [.m 11 0,.ll 12 11,.mk' 13 0] [0,1,12,13] (.block 0 (.loop [0,1,12,13] Zwd))) Zwe))⟩
noncomputable def Zpw (a a1:List Int):Rs:=C 360 [L 1 (a.map ic),L 1 (a1.map ic)] []
noncomputable def Zmv (a b:List Int) (x x1:Int):Rs:=EvL C [.blk 0,.seq Zwe,.fin 0 [.tmp 4]] [0,1,12,13] Zwd ⟨[(0,L 1 (a.map ic)),(1,L 1 (b.map ic)),(12,I x),(13,I x1)],[[]],[]⟩
def Z3m:MFun:=⟨1,24,[.tmp 2],.r [.bx 1 0,.o 2 (.mov (.q false))] [1] (.r [.fa 3 0 1,.l 4 3,.cl 5 237 [4],.m 6 5,.g 7 6 (.fa 1 1),.g 8 6 (.l 7),.g 9 6 (.cl 237 [8]),.o 10 (.pick (.s 6) (.s 9) (.q false)),.m 11 10,.g 12 11 (.fa 0 1),.g 13 11 (.l 12),.g 14 11 (.ll 13),.g 15 11 (.bk .gtr 14 0),.o 16 (.pick (.s 11) (.s 15) (.q false)),.m 17 16,.g 18 17 (.fa 1 1),.g 19 17 (.l 18),.g 20 17 (.fa 0 1),.g 21 17 (.l 20),.g 22 17 (.cl 360 [19,21]),.o 23 (.pick (.s 17) (.s 22) (.q false)),.m 2 23] [2] .ret)⟩
noncomputable def Zwf (a:Box):Rs:=C 286 [.agg (a.c.map .t)] []
def Z3n:MFun:=⟨1,11,[.tmp 2],.r [.bx 1 0,.mk' 2 0] [1] (.wc [.ln 3 2 1,.cl 4 271 [3],.o 5 (.un .not (.s 4))] [1,5] 5 (.r [.mk' 2 0] [2] .ret) (.r [.fa 6 1 1,.l 7 6,.ll 8 7,.o 9 (.bin .shl (.k 1) (.s 8)),.bk 10 .sub 9 1,.m 2 10] [2] .ret))⟩
noncomputable def Zwg (a:Zd):Rs:=C 230 [.agg (a.c.map .t)] []
def Zwh:MCode:=.we [.m 4 3,.m 5 0,.ll 6 5,.b 7 .lss 4 6] [0,3,7] 7 0 (.seq (.block 1 (.r [.m 10 0,.m 11 3,.ia 12 1 10 11,.l 13 12,.o 14 (.call 122 [.s 13,.c (.t .z),.c (.t (.int .i64 7))]),.o 15 (.un .not (.s 14))] [0,3,15] (.cond (.s 15) (.r [.o 2 (.mov (.q false))] [2] .ret) .skip))) (.reg [.m 8 3,.bk 9 .add 8 1,.m 3 9] [0,3]))
def Zwi:MCode:=.r [.m 16 0,.ll 17 16,.bk 18 .leq 17 16,.m 2 18] [2] .ret
def Z3o:MFun:=⟨1,19,[.tmp 2],.r [.o 2 (.mov (.q false))] [0] (.seq (.r [.mk' 3 0] [0,3] (.block 0 (.loop [0,3] Zwh))) Zwi)⟩
noncomputable def Zmw (a:List Int):Rs:=C 207 [L 1 (a.map ic)] []
noncomputable def Zmx (l:List Int) (i:Int):Rs:=EvL C [.blk 0,.seq Zwi,.fin 0 [.tmp 2]] [0,3] Zwh ⟨[(0,L 1 (l.map ic)),(3,I i)],[[]],[]⟩
def Zwj:MCode:=.we [.m 11 5,.m 12 0,.ll 13 12,.b 14 .lss 11 13] [0,1,5,14] 14 0 (.seq (.block 1 (.seq (.drw [.m 17 0,.m 18 5,.ia 19 1 17 18,.l 20 19,.m 21 1,.m 22 5,.ia 23 1 21 22,.l 24 23,.b 25 .lss 20 24] [[],[],[0,1],[2],[],[],[4,5],[6],[3,7]] [0,1,5,25]) (.cond (.s 25) (.r [.o 4 (.mov (.q false))] [4] .ret) .skip))) (.reg [.m 15 5,.bk 16 .add 15 1,.m 5 16] [0,1,5]))
def Zwk:MCode:=.r [.o 4 (.mov (.q true))] [4] .ret
def Z3p:MFun:=⟨2,26,[.tmp 4],.r [.o 4 (.mov (.q false))] [0,1] (.wc [.m 6 0,.ll 7 6,.m 8 1,.ll 9 8,.b 10 .neq 7 9] [0,1,10] 10 (.r [.o 4 (.mov (.q false))] [4] .ret) (.seq (.r [.mk' 5 0] [0,1,5] (.block 0 (.loop [0,1,5] Zwj))) Zwk))⟩
noncomputable def Zpx (a a1:List Int):Rs:=C 283 [L 1 (a.map ic),L 1 (a1.map ic)] []
noncomputable def Zmy (a b:List Int) (i:Int):Rs:=EvL C [.blk 0,.seq Zwk,.fin 0 [.tmp 4]] [0,1,5] Zwj ⟨[(0,L 1 (a.map ic)),(1,L 1 (b.map ic)),(5,I i)],[[]],[]⟩
def Z3q:MFun:=⟨1,24,[.tmp 2],.r [.bx 1 0,.o 2 (.mov (.q false))] [1] (.r [.fa 3 0 1,.l 4 3,.ll 5 4,.bk 6 .gtr 5 0,.m 7 6,.g 8 7 (.fa 0 1),.g 9 7 (.l 8),.g 10 7 (.cl 207 [9]),.o 11 (.pick (.s 7) (.s 10) (.q false)),.m 12 11,.g 13 12 (.fa 1 1),.g 14 12 (.l 13),.g 15 12 (.cl 207 [14]),.o 16 (.pick (.s 12) (.s 15) (.q false)),.m 17 16,.g 18 17 (.fa 1 1),.g 19 17 (.l 18),.g 20 17 (.fa 0 1),.g 21 17 (.l 20),.g 22 17 (.cl 283 [19,21]),.o 23 (.pick (.s 17) (.s 22) (.q false)),.m 2 23] [2] .ret)⟩
noncomputable def Zwl (a:Box):Rs:=C 180 [.agg (a.c.map .t)] []
def Z3r:MFun:=⟨1,11,[.tmp 2],.r [.bx 1 0,.mk' 2 0] [1] (.wc [.ln 3 2 1,.cl 4 200 [3],.o 5 (.un .not (.s 4))] [1,5] 5 (.r [.mk' 2 0] [2] .ret) (.r [.fa 6 1 1,.l 7 6,.ll 8 7,.o 9 (.bin .shl (.k 1) (.s 8)),.bk 10 .sub 9 1,.m 2 10] [2] .ret))⟩
noncomputable def Zwm (a:Zd):Rs:=C 81 [.agg (a.c.map .t)] []
theorem Zbd4:tbl 124=some Zzk:=Zc Tryz.func124 (by kernel_rfl) (by kernel_rfl)
theorem Zbd5:tbl 344=some Zzl:=Zc Tryz.func344 (by kernel_rfl) (by kernel_rfl)
theorem Zbd6:tbl 256=some Zzm:=Zc Tryz.func256 (by kernel_rfl) (by kernel_rfl)
theorem Zbd7:tbl 135=some Zzn:=Zc Tryz.func135 (by kernel_rfl) (by kernel_rfl)
theorem Zbd8:tbl 398=some Zzo:=Zc Tryz.func398 (by kernel_rfl) (by kernel_rfl)
theorem Zbd9:tbl 345=some Zzp:=Zc Tryz.func345 (by kernel_rfl) (by kernel_rfl)
theorem Zbea:tbl 271=some Zn7:=Zc Tryz.func271 (by kernel_rfl) (by kernel_rfl)
theorem Zbeb:tbl 346=some Zzq:=Zc Tryz.func346 (by kernel_rfl) (by kernel_rfl)
theorem Zbec:tbl 347=some Zzs:=Zc Tryz.func347 (by kernel_rfl) (by kernel_rfl)
theorem Zbed:tbl 272=some Zzt:=Zc Tryz.func272 (by kernel_rfl) (by kernel_rfl)
theorem Zbee:tbl 155=some Zzv:=Zc Tryz.func155 (by kernel_rfl) (by kernel_rfl)
theorem Zbef:tbl 156=some Zzx:=Zc Tryz.func156 (by kernel_rfl) (by kernel_rfl)
theorem Zbeg:tbl 255=some Zzy:=Zc Tryz.func255 (by kernel_rfl) (by kernel_rfl)
theorem Zbeh:tbl 355=some Zzz:=Zc Tryz.func355 (by kernel_rfl) (by kernel_rfl)
theorem Zbei:tbl 280=some Zz0:=Zc Tryz.func280 (by kernel_rfl) (by kernel_rfl)
theorem Zbej:tbl 171=some Zz1:=Zc Tryz.func171 (by kernel_rfl) (by kernel_rfl)
theorem Zbek:tbl 357=some Zz2:=Zc Tryz.func357 (by kernel_rfl) (by kernel_rfl)
theorem Zbel:tbl 356=some Zz3:=Zc Tryz.func356 (by kernel_rfl) (by kernel_rfl)
theorem Zbem:tbl 328=some Zz4:=Zc Tryz.func328 (by kernel_rfl) (by kernel_rfl)
theorem Zben:tbl 438=some Zz5:=Zc Tryz.func438 (by kernel_rfl) (by kernel_rfl)
theorem Zbeo:tbl 428=some Zz6:=Zc Tryz.func428 (by kernel_rfl) (by kernel_rfl)
theorem Zbep:tbl 394=some Zz7:=Zc Tryz.func394 (by kernel_rfl) (by kernel_rfl)
theorem Zbeq:tbl 331=some Zz8:=Zc Tryz.func331 (by kernel_rfl) (by kernel_rfl)
theorem Zber:tbl 429=some Zz9:=Zc Tryz.func429 (by kernel_rfl) (by kernel_rfl)
theorem Zbes:tbl 400=some Z0a:=Zc Tryz.func400 (by kernel_rfl) (by kernel_rfl)
theorem Zbet:tbl 358=some Z0b:=Zc Tryz.func358 (by kernel_rfl) (by kernel_rfl)
theorem Zbeu:tbl 261=some Z0c:=Zc Tryz.func261 (by kernel_rfl) (by kernel_rfl)
theorem Zbev:tbl 317=some Z0d:=Zc Tryz.func317 (by kernel_rfl) (by kernel_rfl)
theorem Zbew:tbl 359=some Z0e:=Zc Tryz.func359 (by kernel_rfl) (by kernel_rfl)
theorem Zbex:tbl 285=some Z0f:=Zc Tryz.func285 (by kernel_rfl) (by kernel_rfl)
theorem Zbey:tbl 185=some Z0g:=Zc Tryz.func185 (by kernel_rfl) (by kernel_rfl)
theorem Zbez:tbl 248=some Z0h:=Zc Tryz.func248 (by kernel_rfl) (by kernel_rfl)
theorem Zbe0:tbl 392=some Z0j:=Zc Tryz.func392 (by kernel_rfl) (by kernel_rfl)
theorem Zbe1:tbl 329=some Z0k:=Zc Tryz.func329 (by kernel_rfl) (by kernel_rfl)
theorem Zbe2:tbl 260=some Z0l:=Zc Tryz.func260 (by kernel_rfl) (by kernel_rfl)
theorem Zbe3:tbl 319=some Z0m:=Zc Tryz.func319 (by kernel_rfl) (by kernel_rfl)
theorem Zbe4:tbl 419=some Z0n:=Zc Tryz.func419 (by kernel_rfl) (by kernel_rfl)
theorem Zbe5:tbl 444=some Z0o:=Zc Tryz.func444 (by kernel_rfl) (by kernel_rfl)
theorem Zbe6:tbl 439=some Z0p:=Zc Tryz.func439 (by kernel_rfl) (by kernel_rfl)
theorem Zbe7:tbl 420=some Z0r:=Zc Tryz.func420 (by kernel_rfl) (by kernel_rfl)
theorem Zbe8:tbl 387=some Z0t:=Zc Tryz.func387 (by kernel_rfl) (by kernel_rfl)
theorem Zbe9:tbl 318=some Z0u:=Zc Tryz.func318 (by kernel_rfl) (by kernel_rfl)
theorem Zbfa:tbl 249=some Z0v:=Zc Tryz.func249 (by kernel_rfl) (by kernel_rfl)
theorem Zbfb:tbl 320=some Z0w:=Zc Tryz.func320 (by kernel_rfl) (by kernel_rfl)
theorem Z3s:tbl 321=some Ztq:=Zc Tryz.func321 (by kernel_rfl) (by kernel_rfl)
theorem Z3t:tbl 322=some Ztr:=Zc Tryz.func322 (by kernel_rfl) (by kernel_rfl)
theorem Zbfc:tbl 250=some Z0x:=Zc Tryz.func250 (by kernel_rfl) (by kernel_rfl)
theorem Zbfd:tbl 390=some Z0y:=Zc Tryz.func390 (by kernel_rfl) (by kernel_rfl)
theorem Zbfe:tbl 389=some Z0z:=Zc Tryz.func389 (by kernel_rfl) (by kernel_rfl)
theorem Zbff:tbl 323=some Z00:=Zc Tryz.func323 (by kernel_rfl) (by kernel_rfl)
theorem Zbfg:tbl 252=some Z01:=Zc Tryz.func252 (by kernel_rfl) (by kernel_rfl)
theorem Zbfh:tbl 251=some Z02:=Zc Tryz.func251 (by kernel_rfl) (by kernel_rfl)
theorem Zbfi:tbl 130=some Z04:=Zc Tryz.func130 (by kernel_rfl) (by kernel_rfl)
theorem Zbfj:tbl 140=some Z05:=Zc Tryz.func140 (by kernel_rfl) (by kernel_rfl)
theorem Zbfk:tbl 391=some Z06:=Zc Tryz.func391 (by kernel_rfl) (by kernel_rfl)
theorem Zbfl:tbl 324=some Z07:=Zc Tryz.func324 (by kernel_rfl) (by kernel_rfl)
theorem Zbfm:tbl 326=some Z08:=Zc Tryz.func326 (by kernel_rfl) (by kernel_rfl)
theorem Zbfn:tbl 236=some Z09:=Zc Tryz.func236 (by kernel_rfl) (by kernel_rfl)
theorem Zbfo:tbl 259=some Z1b:=Zc Tryz.func259 (by kernel_rfl) (by kernel_rfl)
theorem Zbfp:tbl 327=some Z1c:=Zc Tryz.func327 (by kernel_rfl) (by kernel_rfl)
theorem Zbfq:tbl 325=some Z1e:=Zc Tryz.func325 (by kernel_rfl) (by kernel_rfl)
theorem Zbfr:tbl 253=some Z1f:=Zc Tryz.func253 (by kernel_rfl) (by kernel_rfl)
theorem Zbfs:tbl 131=some Z1g:=Zc Tryz.func131 (by kernel_rfl) (by kernel_rfl)
theorem Zbft:tbl 141=some Z1h:=Zc Tryz.func141 (by kernel_rfl) (by kernel_rfl)
theorem Zbfu:tbl 257=some Z1i:=Zc Tryz.func257 (by kernel_rfl) (by kernel_rfl)
theorem Zbfv:tbl 136=some Z1l:=Zc Tryz.func136 (by kernel_rfl) (by kernel_rfl)
theorem Zbfw:tbl 258=some Z1m:=Zc Tryz.func258 (by kernel_rfl) (by kernel_rfl)
theorem Zbfx:tbl 137=some Zij:=Zc Tryz.func137 (by kernel_rfl) (by kernel_rfl)
theorem Zbfy:tbl 139=some Z1n:=Zc Tryz.func139 (by kernel_rfl) (by kernel_rfl)
theorem Zbfz:tbl 262=some Z1o:=Zc Tryz.func262 (by kernel_rfl) (by kernel_rfl)
theorem Zbf0:tbl 143=some Z1p:=Zc Tryz.func143 (by kernel_rfl) (by kernel_rfl)
theorem Zbf1:tbl 125=some Z1q:=Zc Tryz.func125 (by kernel_rfl) (by kernel_rfl)
theorem Zbf2:tbl 58=some Z1r:=Zc Tryz.func58 (by kernel_rfl) (by kernel_rfl)
theorem Zbf3:tbl 122=some Z1s:=Zc Tryz.func122 (by kernel_rfl) (by kernel_rfl)
theorem Zbf4:tbl 289=some Z1t:=Zc Tryz.func289 (by kernel_rfl) (by kernel_rfl)
theorem Zbf5:tbl 148=some Z1u:=Zc Tryz.func148 (by kernel_rfl) (by kernel_rfl)
theorem Zbf6:tbl 200=some Z1v:=Zc Tryz.func200 (by kernel_rfl) (by kernel_rfl)
theorem Zbf7:tbl 349=some Z1w:=Zc Tryz.func349 (by kernel_rfl) (by kernel_rfl)
theorem Zbf8:tbl 348=some Z1x:=Zc Tryz.func348 (by kernel_rfl) (by kernel_rfl)
theorem Zbf9:tbl 273=some Z1y:=Zc Tryz.func273 (by kernel_rfl) (by kernel_rfl)
theorem Zbga:tbl 161=some Z1z:=Zc Tryz.func161 (by kernel_rfl) (by kernel_rfl)
theorem Zbgb:tbl 165=some Z10:=Zc Tryz.func165 (by kernel_rfl) (by kernel_rfl)
theorem Zbgc:tbl 278=some Zpb:=Zc Tryz.func278 (by kernel_rfl) (by kernel_rfl)
theorem Zbgd:tbl 169=some Z11:=Zc Tryz.func169 (by kernel_rfl) (by kernel_rfl)
theorem Zbge:tbl 343=some Z12:=Zc Tryz.func343 (by kernel_rfl) (by kernel_rfl)
theorem Zbgf:tbl 167=some Z13:=Zc Tryz.func167 (by kernel_rfl) (by kernel_rfl)
theorem Zbgg:tbl 399=some Z14:=Zc Tryz.func399 (by kernel_rfl) (by kernel_rfl)
theorem Zbgh:tbl 351=some Z15:=Zc Tryz.func351 (by kernel_rfl) (by kernel_rfl)
theorem Zbgi:tbl 352=some Z16:=Zc Tryz.func352 (by kernel_rfl) (by kernel_rfl)
theorem Zbgj:tbl 275=some Z17:=Zc Tryz.func275 (by kernel_rfl) (by kernel_rfl)
theorem Zbgk:tbl 178=some Z18:=Zc Tryz.func178 (by kernel_rfl) (by kernel_rfl)
theorem Zbgl:tbl 225=some Z19:=Zc Tryz.func225 (by kernel_rfl) (by kernel_rfl)
theorem Zbgm:tbl 353=some Z2b:=Zc Tryz.func353 (by kernel_rfl) (by kernel_rfl)
theorem Zbgn:tbl 276=some Z2c:=Zc Tryz.func276 (by kernel_rfl) (by kernel_rfl)
theorem Zbgo:tbl 335=some Z2d:=Zc Tryz.func335 (by kernel_rfl) (by kernel_rfl)
theorem Zbgp:tbl 263=some Z2e:=Zc Tryz.func263 (by kernel_rfl) (by kernel_rfl)
theorem Zbgq:tbl 336=some Z2g:=Zc Tryz.func336 (by kernel_rfl) (by kernel_rfl)
theorem Zbgr:tbl 269=some Z2h:=Zc Tryz.func269 (by kernel_rfl) (by kernel_rfl)
theorem Zbgs:tbl 264=some Z2j:=Zc Tryz.func264 (by kernel_rfl) (by kernel_rfl)
theorem Zbgt:tbl 339=some Z2l:=Zc Tryz.func339 (by kernel_rfl) (by kernel_rfl)
theorem Zbgu:tbl 395=some Z2m:=Zc Tryz.func395 (by kernel_rfl) (by kernel_rfl)
theorem Zbgv:tbl 396=some Z2o:=Zc Tryz.func396 (by kernel_rfl) (by kernel_rfl)
theorem Z3u:tbl 338=some Zvn:=Zc Tryz.func338 (by kernel_rfl) (by kernel_rfl)
theorem Zbgw:tbl 337=some Z2p:=Zc Tryz.func337 (by kernel_rfl) (by kernel_rfl)
theorem Zbgx:tbl 265=some Z2q:=Zc Tryz.func265 (by kernel_rfl) (by kernel_rfl)
theorem Zbgy:tbl 266=some Z2r:=Zc Tryz.func266 (by kernel_rfl) (by kernel_rfl)
theorem Zbgz:tbl 340=some Z2s:=Zc Tryz.func340 (by kernel_rfl) (by kernel_rfl)
theorem Zbg0:tbl 267=some Z2t:=Zc Tryz.func267 (by kernel_rfl) (by kernel_rfl)
theorem Zbg1:tbl 144=some Z2v:=Zc Tryz.func144 (by kernel_rfl) (by kernel_rfl)
theorem Zbg2:tbl 164=some Z2w:=Zc Tryz.func164 (by kernel_rfl) (by kernel_rfl)
theorem Zbg3:tbl 350=some Z2x:=Zc Tryz.func350 (by kernel_rfl) (by kernel_rfl)
theorem Zbg4:tbl 274=some Z2y:=Zc Tryz.func274 (by kernel_rfl) (by kernel_rfl)
theorem Zbg5:tbl 208=some Z2z:=Zc Tryz.func208 (by kernel_rfl) (by kernel_rfl)
theorem Zbg6:tbl 163=some Z21:=Zc Tryz.func163 (by kernel_rfl) (by kernel_rfl)
theorem Zbg7:tbl 397=some Z22:=Zc Tryz.func397 (by kernel_rfl) (by kernel_rfl)
theorem Zbg8:tbl 341=some Z23:=Zc Tryz.func341 (by kernel_rfl) (by kernel_rfl)
theorem Zbg9:tbl 342=some Z24:=Zc Tryz.func342 (by kernel_rfl) (by kernel_rfl)
theorem Zbha:tbl 268=some Z25:=Zc Tryz.func268 (by kernel_rfl) (by kernel_rfl)
theorem Zbhb:tbl 145=some Z26:=Zc Tryz.func145 (by kernel_rfl) (by kernel_rfl)
theorem Zbhc:tbl 152=some Z27:=Zc Tryz.func152 (by kernel_rfl) (by kernel_rfl)
theorem Zbhd:tbl 151=some Z28:=Zc Tryz.func151 (by kernel_rfl) (by kernel_rfl)
theorem Zbhe:tbl 147=some Z29:=Zc Tryz.func147 (by kernel_rfl) (by kernel_rfl)
theorem Zbhf:tbl 150=some Z3a:=Zc Tryz.func150 (by kernel_rfl) (by kernel_rfl)
theorem Zbhg:tbl 270=some Z3e:=Zc Tryz.func270 (by kernel_rfl) (by kernel_rfl)
theorem Zbhh:tbl 154=some Z3f:=Zc Tryz.func154 (by kernel_rfl) (by kernel_rfl)
theorem Zbhi:tbl 53=some Z3i:=Zc Tryz.func53 (by kernel_rfl) (by kernel_rfl)
theorem Zbhj:tbl 56=some Z3j:=Zc Tryz.func56 (by kernel_rfl) (by kernel_rfl)
theorem Zbhk:tbl 237=some Z3k:=Zc Tryz.func237 (by kernel_rfl) (by kernel_rfl)
theorem Zbhl:tbl 360=some Z3l:=Zc Tryz.func360 (by kernel_rfl) (by kernel_rfl)
theorem Zbhm:tbl 286=some Z3m:=Zc Tryz.func286 (by kernel_rfl) (by kernel_rfl)
theorem Zbhn:tbl 230=some Z3n:=Zc Tryz.func230 (by kernel_rfl) (by kernel_rfl)
theorem Zbho:tbl 207=some Z3o:=Zc Tryz.func207 (by kernel_rfl) (by kernel_rfl)
theorem Zbhp:tbl 283=some Z3p:=Zc Tryz.func283 (by kernel_rfl) (by kernel_rfl)
theorem Zbhq:tbl 180=some Z3q:=Zc Tryz.func180 (by kernel_rfl) (by kernel_rfl)
theorem Zbhr:tbl 81=some Z3r:=Zc Tryz.func81 (by kernel_rfl) (by kernel_rfl)
theorem Zcp:(∀ a a1 a2 r,Im (Zt a a1 a2=some r) (if a1≤a then (some (Bo (decide (a≤a2)),[])=some r) else (some (Bo false,[])=some r))) ∧
 (∀ a r,Im (Zhs a=some r) (if (a.size:Int)=1 then (∃ b1,a[0]?=some b1∧(if 97≤(b1.toNat:Int) then (some (Bo (decide ((b1.toNat:Int)≤122)),[])=some r) else (some (Bo false,[])=some r))) else (some (Bo false,[])=some r))) ∧
 (∀ s v x x1 r,Im (Zkq s v x x1=some r) (if x1<x then (0≤x1∧(∃ e1,s[x1.toNat]?=some e1∧(if v=e1 then (some (I x1,[])=some r) else (Zkq s v x (w (x1+1))=some r)))) else (some (I (-1),[])=some r))) ∧
 (∀ a a1 r,Im (Zbr a a1=some r) (Zkq a a1 (a.length:Int) 0=some r)) ∧
 (∀ a a1 r,Im (Zed a a1=some r) (∃ v1,Zbr a a1=some (I v1,[])∧(some (Bo (decide (0≤v1)),[])=some r))) ∧
 (∀ s v x x1 r,Im (Zkr s v x x1=some r) (if x1<x then (0≤x1∧(∃ e1,s[x1.toNat]?=some e1∧(if v=e1 then (some (I x1,[])=some r) else (Zkr s v x (w (x1+1))=some r)))) else (some (I (-1),[])=some r))) ∧
 (∀ a a1 r,Im (Zn3 a a1=some r) (Zkr a a1 (a.length:Int) 0=some r)) ∧
 (∀ a a1 r,Im (Zn4 a a1=some r) (∃ v1,Zn3 a a1=some (I v1,[])∧(some (Bo (decide (0≤v1)),[])=some r))) ∧
 (∀ q seen x x1 x2 r,Im (Zfv q seen x x1 x2=some r) (if x2<x1 then (0≤x2∧(∃ e1,x[x2.toNat]?=some e1∧(∃ v2,Zhs e1.Name=some (Bo v2,[])∧(if v2=true then (∃ v3,Zt (e1.Vars.length:Int) 1 3=some (Bo v3,[])∧(if v3=true then (Zks q seen e1 x x1 x2 e1.Vars (e1.Vars.length:Int) 0=some r) else (some (Bo false,[])=some r))) else (some (Bo false,[])=some r))))) else (∃ v4,Zn4 seen false=some (Bo v4,[])∧(some (Bo (!v4),[])=some r)))) ∧
 (∀ q seen a x x1 x2 x3 x4 x5 r,Im (Zks q seen a x x1 x2 x3 x4 x5=some r) (if x5<x4 then (0≤x5∧(∃ e1,x3[x5.toNat]?=some e1∧(∃ v2,Zt e1 0 (w (q.Zl - 1))=some (Bo v2,[])∧(if v2=true then (x5.toNat≤a.Vars.length∧(∃ v3,Zed (a.Vars.take x5.toNat) e1=some (Bo v3,[])∧(if v3=true then (some (Bo false,[])=some r) else (0≤e1∧(∃ e4,seen[e1.toNat]?=some e4∧(Zks q (seen.set e1.toNat true) a x x1 x2 x3 x4 (w (x5+1))=some r)))))) else (some (Bo false,[])=some r))))) else (Zfv q seen x x1 (w (x2+1))=some r))) ∧
 (∀ q out mask v r,Im (Zer q out mask v=some r) (if v<q.Zl then (Zhu q out mask v q.Atoms (q.Atoms.length:Int) 0=some r) else (some (.own 0,[.arr 3 1 true (out.map ic)])=some r))) ∧
 (∀ q out mask v x x1 x2 r,Im (Zhu q out mask v x x1 x2=some r) (if x2<x1 then (0≤x2∧(∃ e1,x[x2.toNat]?=some e1∧(¬ x2<0∧(if (andI (shrI mask x2) 1)=1 then (∃ v2,Zed e1.Vars v=some (Bo v2,[])∧(if v2=true then (out.length+1≤68719476736∧(Zer q (out++[v]) mask (w (v+1))=some r)) else (Zhu q out mask v x x1 (w (x2+1))=some r))) else (Zhu q out mask v x x1 (w (x2+1))=some r))))) else (Zer q out mask (w (v+1))=some r))):=by
 and_intros
 all_goals intros
 all_goals unfold Im
 all_goals try simp only [Zt,Zhs,Zkq,Zbr,Zed,Zkr,Zn3,Zn4,Zfv,Zks,Zer,Zhu,mpl,dfs]
 all_goals try simp only [itb]
 all_goals try simp only [itf,gS,kk]
 all_goals repeat' first | refine exI fun _=>?_ | refine anJ fun _ _=>?_ | refine anI fun _=>?_ | refine orE2 ?_ ?_ | exact False.elim
 all_goals (intro h;first | refine run Zbd4 rfl ?_ | refine run Zbd5 rfl ?_ | rw [EvL_eq Zrw.eq_1] | refine run Zbd6 rfl ?_ | refine run Zbd7 rfl ?_ | rw [EvL_eq Zry.eq_1] | refine run Zbd8 rfl ?_ | refine run Zbd9 rfl ?_ | rw [EvL_eq Zn5.eq_1] | rw [EvL_eq Zr0.eq_1] | rw [EvL_eq Zn8.eq_1] | rw [EvL_eq Zr2.eq_1])
 all_goals (refine Eq.trans ?_ h;clear h;simp +decide [*,kk,tI,tII,Zzk,Zzl,Zrx,Zzm,Zzn,Zrz,Zzo,Zzp,Zn6,Zr1,Zn9,Zr3])
abbrev Zbhs:=Zcp.1
abbrev Zbht:=Zcp.2.1
abbrev Z3v:=Zcp.2.2.1
abbrev Zbhu:=Zcp.2.2.2.1
abbrev Zbhv:=Zcp.2.2.2.2.1
abbrev Z3w:=Zcp.2.2.2.2.2.1
abbrev Zbhw:=Zcp.2.2.2.2.2.2.1
abbrev Zbhx:=Zcp.2.2.2.2.2.2.2.1
abbrev Z3x:=Zcp.2.2.2.2.2.2.2.2.1
abbrev Z3y:=Zcp.2.2.2.2.2.2.2.2.2.1
abbrev Z3z:=Zcp.2.2.2.2.2.2.2.2.2.2.1
abbrev Z30:=Zcp.2.2.2.2.2.2.2.2.2.2.2
theorem Zcq:(∀ a a1 r,Im (Zht a a1=some r) (Zer a ([]:List Int) a1 0=some r)) ∧
 (∀ out b x x1 x2 r,Im (Zhv out b x x1 x2=some r) (if x2<x1 then (0≤x2∧(∃ e1,x[x2.toNat]?=some e1∧(∃ v1,Zed b e1=some (Bo v1,[])∧(if v1=true then (out.length+1≤68719476736∧(Zhv (out++[e1]) b x x1 (w (x2+1))=some r)) else (Zhv out b x x1 (w (x2+1))=some r))))) else (some (.own 0,[.arr 3 1 true (out.map ic)])=some r))) ∧
 (∀ a a1 r,Im (Zoa a a1=some r) (Zhv ([]:List Int) a1 a (a.length:Int) 0=some r)) ∧
 (∀ a a1 a2 a3 r,Im (Zhw a a1 a2 a3=some r) (if a1.Kind=1 then (∃ v,Zt a1.Atom 0 (w ((a.Atoms.length:Int) - 1))=some (Bo v,[])∧(if v=true then (if a1.Order=0 then (¬ a1.Atom<0∧(0≤a1.Atom∧(∃ e2,a.Atoms[a1.Atom.toNat]?=some e2∧(∃ e3,e2.Vars[0]?=some e3∧(some (.tup [.agg [I (shlI 1 a1.Atom),I e3,I (-1),I (-1)],Bo true],[])=some r))))) else (some (.tup [.agg [I 0,I (-1),I (-1),I (-1)],Bo false],[])=some r)) else (some (.tup [.agg [I 0,I (-1),I (-1),I (-1)],Bo false],[])=some r))) else (if a1.Atom=0 then (if a1.Kind=2 then (if (a3.length:Int)<1 then (some (.tup [.agg [I 0,I (-1),I (-1),I (-1)],Bo false],[])=some r) else (0≤(w ((a3.length:Int) - 1))∧(∃ e4,a3[(w ((a3.length:Int) - 1)).toNat]?=some e4∧(0≤e4∧(∃ e5,a2[e4.toNat]?=some e5∧(∃ (v6:List Int),Zht a e5.Mask=some (.own 0,[.arr 3 1 true (v6.map ic)])∧(∃ v7,Zed v6 a1.Order=some (Bo v7,[])∧(if v7=true then (if e5.Order=a1.Order then (some (.tup [.agg [I 0,I (-1),I (-1),I (-1)],Bo false],[])=some r) else (some (.tup [.agg [I e5.Mask,I a1.Order,I e4,I (-1)],Bo true],[])=some r)) else (some (.tup [.agg [I 0,I (-1),I (-1),I (-1)],Bo false],[])=some r))))))))) else (if (a3.length:Int)<2 then (some (.tup [.agg [I 0,I (-1),I (-1),I (-1)],Bo false],[])=some r) else (0≤(w ((a3.length:Int) - 2))∧(∃ e8,a3[(w ((a3.length:Int) - 2)).toNat]?=some e8∧(0≤(w ((a3.length:Int) - 1))∧(∃ e9,a3[(w ((a3.length:Int) - 1)).toNat]?=some e9∧(0≤e8∧(∃ e10,a2[e8.toNat]?=some e10∧(0≤e9∧(∃ e11,a2[e9.toNat]?=some e11∧(∃ (v8:List Int),Zht a e10.Mask=some (.own 0,[.arr 3 1 true (v8.map ic)])∧(∃ (v9:List Int),Zht a e11.Mask=some (.own 0,[.arr 3 1 true (v9.map ic)])∧(∃ (v10:List Int),Zoa v8 v9=some (.own 0,[.arr 3 1 true (v10.map ic)])∧(if (andI e10.Mask e11.Mask)=0 then (if (v10.length:Int)=0 then (some (.tup [.agg [I (orI e10.Mask e11.Mask),I (-1),I e8,I e9],Bo false],[])=some r) else (if a1.Kind=3 then (some (.tup [.agg [I (orI e10.Mask e11.Mask),I (-1),I e8,I e9],Bo (decide (a1.Order=0))],[])=some r) else (if a1.Kind=5 then (some (.tup [.agg [I (orI e10.Mask e11.Mask),I e10.Order,I e8,I e9],Bo (decide (a1.Order=0))],[])=some r) else (if a1.Kind=4 then (∃ v11,Zed v10 a1.Order=some (Bo v11,[])∧(if v11=true then (if e10.Order=a1.Order then (some (.tup [.agg [I (orI e10.Mask e11.Mask),I a1.Order,I e8,I e9],Bo (decide (e11.Order=a1.Order))],[])=some r) else (some (.tup [.agg [I (orI e10.Mask e11.Mask),I a1.Order,I e8,I e9],Bo false],[])=some r)) else (some (.tup [.agg [I (orI e10.Mask e11.Mask),I a1.Order,I e8,I e9],Bo false],[])=some r))) else (some (.tup [.agg [I (orI e10.Mask e11.Mask),I (-1),I e8,I e9],Bo false],[])=some r))))) else (some (.tup [.agg [I (orI e10.Mask e11.Mask),I (-1),I e8,I e9],Bo false],[])=some r))))))))))))))) else (some (.tup [.agg [I 0,I (-1),I (-1),I (-1)],Bo false],[])=some r)))) ∧
 (∀ q info stack x x1 x2 r,Im (Zfw q info stack x x1 x2=some r) (if x2<x1 then (0≤x2∧(∃ e1,x[x2.toNat]?=some e1∧(∃ (v1:Zb),∃ v2,Zhw q e1 info stack=some (.tup [.agg (v1.c.map .t),Bo v2],[])∧(if v2=true then (info.length+1≤68719476736∧(if 0≤v1.Right then (0≤(w ((stack.length:Int) - 2))∧((w ((stack.length:Int) - 2)).toNat≤stack.length∧((w ((stack.length:Int) - 2)).toNat+1≤68719476736∧(Zfw q (info++[v1]) ((stack.take ((w ((stack.length:Int) - 2)).toNat))++[x2]) x x1 (w (x2+1))=some r)))) else (if 0≤v1.Left then (0≤(w ((stack.length:Int) - 1))∧((w ((stack.length:Int) - 1)).toNat≤stack.length∧((w ((stack.length:Int) - 1)).toNat+1≤68719476736∧(Zfw q (info++[v1]) ((stack.take ((w ((stack.length:Int) - 1)).toNat))++[x2]) x x1 (w (x2+1))=some r)))) else (stack.length+1≤68719476736∧(Zfw q (info++[v1]) (stack++[x2]) x x1 (w (x2+1))=some r))))) else (some (.tup [.t .nil,Bo false],[])=some r))))) else (if (stack.length:Int)=1 then (some (.tup [.own 0,Bo true],[.arr 209 4 true (info.map Zb.c)])=some r) else (some (.tup [.t .nil,Bo false],[])=some r)))) ∧
 (∀ a a1 r,Im (Zdd a a1=some r) (∃ v,Zee a=some (Bo v,[])∧(if v=true then (∃ v1,Zt (a1.Steps.length:Int) 1 14=some (Bo v1,[])∧(if v1=true then (Zfw a ([]:List Zb) ([]:List Int) a1.Steps (a1.Steps.length:Int) 0=some r) else (some (.tup [.t .nil,Bo false],[])=some r))) else (some (.tup [.t .nil,Bo false],[])=some r)))) ∧
 (∀ out x x1 x2 r,Im (Zhx out x x1 x2=some r) (if x2<x1 then (0≤x2∧(∃ e1,x[x2.toNat]?=some e1∧(if 3≤e1.Kind then (out.length+1≤68719476736∧(Zhx (out++[x2]) x x1 (w (x2+1))=some r)) else (Zhx out x x1 (w (x2+1))=some r)))) else (some (.own 0,[.arr 3 1 true (out.map ic)])=some r))) ∧
 (∀ a r,Im (Zkt a=some r) (Zhx ([]:List Int) a.Steps (a.Steps.length:Int) 0=some r)) ∧
 (∀ info step r,Im (Zku info step=some r) (0≤step∧(∃ e1,info[step.toNat]?=some e1∧(if 0≤e1.Left then (Zku info e1.Left=some r) else (some (I step,[])=some r))))) ∧
 (∀ a a1 r,Im (Zob a a1=some r) (Zku a a1=some r)) ∧
 (∀ a r,Im (Zsc a=some r) (a.Steps.length≤68719476736∧(some (.agg [.own 0],[.arr 194 3 true (a.Steps.map Ze.c)])=some r))) ∧
 (∀ a a1 a2 r,Im (Zhy a a1 a2=some r) ((Zdd a a1=some (.tup [.t .nil,Bo false],[])∧(some (.tup [.agg [.t .nil],Bo false],[])=some r))∨(∃ (v1:List Zb),Zdd a a1=some (.tup [.own 0,Bo true],[.arr 209 4 true (v1.map Zb.c)])∧(∃ v3,Zt a2 0 (w ((v1.length:Int) - 1))=some (Bo v3,[])∧(if v3=true then (∃ v4,Zob v1 a2=some (I v4,[])∧(0≤v4∧(0≤(w (a2+1))∧(v4.toNat≤(w (a2+1)).toNat∧((w (a2+1)).toNat≤a1.Steps.length∧(∃ (v5:List Ze),Zsc (⟨((a1.Steps.take ((w (a2+1)).toNat)).drop v4.toNat)⟩:Plan)=some (.agg [.own 0],[.arr 194 3 true (v5.map Ze.c)])∧(some (.tup [.agg [.own 0],Bo true],[.arr 194 3 true (v5.map Ze.c)])=some r))))))) else (some (.tup [.agg [.t .nil],Bo false],[])=some r)))))):=by
 and_intros
 all_goals intros
 all_goals unfold Im
 all_goals try simp only [Zht,Zhv,Zoa,Zhw,Zfw,Zdd,Zhx,Zkt,Zku,Zob,Zsc,Zhy,Zed,Zt,Zd.c_def,Ze.c_def,Zb.c_def,Zee,Plan.c_def,Zer,mpl,dfs]
 all_goals try simp only [itb]
 all_goals try simp only [itf,gS,kk]
 all_goals repeat' first | refine exI fun _=>?_ | refine anJ fun _ _=>?_ | refine anI fun _=>?_ | refine orE2 ?_ ?_ | exact False.elim
 all_goals (intro h;first | refine run Zbeb rfl ?_ | rw [EvL_eq Zr4.eq_1] | refine run Zbec rfl ?_ | refine run Zbed rfl ?_ | rw [EvL_eq Zr6.eq_1] | refine run Zbee rfl ?_ | rw [EvL_eq Zr8.eq_1] | refine run Zbef rfl ?_ | rw [EvL_eq Zsa.eq_1] | refine run Zbeg rfl ?_ | refine run Zbeh rfl ?_ | refine run Zbei rfl ?_)
 all_goals (refine Eq.trans ?_ h;clear h;simp +decide [*,kk,tI,tII,Zzq,Zzr,Zr5,Zzs,Zzt,Zzu,Zr7,Zzv,Zzw,Zr9,Zzx,Zsb,Zzy,Zzz,Zz0])
abbrev Zbhy:=Zcq.1
abbrev Z31:=Zcq.2.1
abbrev Zbhz:=Zcq.2.2.1
abbrev Zfe:=Zcq.2.2.2.1
abbrev Z32:=Zcq.2.2.2.2.1
abbrev Zbh0:=Zcq.2.2.2.2.2.1
abbrev Z33:=Zcq.2.2.2.2.2.2.1
abbrev Zbh1:=Zcq.2.2.2.2.2.2.2.1
abbrev Zbh2:=Zcq.2.2.2.2.2.2.2.2.1
abbrev Zbh3:=Zcq.2.2.2.2.2.2.2.2.2.1
abbrev Zbh4:=Zcq.2.2.2.2.2.2.2.2.2.2.1
abbrev Zbh5:=Zcq.2.2.2.2.2.2.2.2.2.2.2
theorem Zbh6 (a:Zd) (r:AV×List Blk) (h:(∃ (v:Bool),Zt a.Zl 1 4=some (Bo v,[])∧(if v=true then (∃ (v1:Bool),Zt (a.Atoms.length:Int) 1 4=some (Bo v1,[])∧(if v1=true then (0≤a.Zl∧(a.Zl.toNat*1≤room∧(a.Zl≤140737488355328∧(Zfv a (List.replicate (a.Zl).toNat false) a.Atoms (a.Atoms.length:Int) 0=some r)))) else (some (Bo false,[])=some r))) else (some (Bo false,[])=some r)))):Zee a=some r:=by
 unfold Zee;refine run Zbea rfl ?_;obtain ⟨v,q1,h⟩:=h;unfold Zt at q1
 try simp at q1
 by_cases q2:v=true
 ·rw [if_pos q2] at h;obtain ⟨v1,q3,h⟩:=h;unfold Zt at q3
  try simp at q3
  by_cases q4:v1=true
  ·rw [if_pos q4] at h;obtain ⟨q5,h⟩:=h;obtain ⟨q6,h⟩:=h;have zq6:=q6;try simp at zq6
   obtain ⟨q7,h⟩:=h;refine Eq.trans ?_ h;clear h;simp +decide [*,Zn7,tI,tII,Zfv]
  ·rw [if_neg q4] at h;refine Eq.trans ?_ h;clear h;simp +decide [*,Zn7,tI,tII]
 ·rw [if_neg q2] at h;refine Eq.trans ?_ h;clear h;simp +decide [*,Zn7,tI,tII]
theorem Zcr:(∀ q p info x mask x1 x2 r,Im (Zkv q p info x mask x1 x2=some r) (if x2<x1 then (0≤x2∧(∃ e1,x[x2.toNat]?=some e1∧(0≤e1∧(∃ e2,info[e1.toNat]?=some e2∧(if e2.Mask=mask then ((Zhy q p e1=some (.tup [.agg [.t .nil],Bo false],[])∧(some (.tup [.agg [.t .nil],Bo false],[])=some r))∨(∃ (v3:List Ze),Zhy q p e1=some (.tup [.agg [.own 0],Bo true],[.arr 194 3 true (v3.map Ze.c)])∧(some (.tup [.agg [.own 0],Bo true],[.arr 194 3 true (v3.map Ze.c)])=some r))) else (Zkv q p info x mask x1 (w (x2+1))=some r)))))) else (some (.tup [.agg [.t .nil],Bo false],[])=some r))) ∧
 (∀ a a1 a2 r,Im (Zhz a a1 a2=some r) ((Zdd a a1=some (.tup [.t .nil,Bo false],[])∧(some (.tup [.agg [.t .nil],Bo false],[])=some r))∨(∃ (v1:List Zb),Zdd a a1=some (.tup [.own 0,Bo true],[.arr 209 4 true (v1.map Zb.c)])∧(∃ (v2:List Int),Zkt a1=some (.own 0,[.arr 3 1 true (v2.map ic)])∧(Zkv a a1 v1 v2 a2 (v2.length:Int) 0=some r))))) ∧
 (∀ a a1 r,Im (Zsf a a1=some r) (some (Bo (decide (a.Name=a1)),[])=some r)) ∧
 (∀ s f x x1 r,Im (Zkw s f x x1=some r) (if x1<x then (0≤x1∧(∃ e1,s[x1.toNat]?=some e1∧(∃ v1,Zsf e1 f=some (Bo v1,[])∧(if v1=true then (some (I x1,[])=some r) else (Zkw s f x (w (x1+1))=some r))))) else (some (I (-1),[])=some r))) ∧
 (∀ a a1 r,Im (Zoc a a1=some r) (Zkw a a1 (a.length:Int) 0=some r)) ∧
 (∀ row arity x x1 x2 r,Im (Zkx row arity x x1 x2=some r) (if x2<x1 then (0≤x2∧(∃ e1,x[x2.toNat]?=some e1∧(∃ v1,Zt e1 0 9=some (Bo v1,[])∧(if v1=true then (Zkx row arity x x1 (w (x2+1))=some r) else (some (Bo false,[])=some r))))) else (some (Bo (decide ((row.length:Int)=arity)),[])=some r))) ∧
 (∀ a a1 r,Im (Zfx a a1=some r) (Zkx a a1 a (a.length:Int) 0=some r)) ∧
 (∀ a r,Im (Zod a=some r) (some (Bo (!(decide (a=a))),[])=some r)) ∧
 (∀ a a1 r,Im (Zoe a a1=some r) (∃ v,Zod a=some (Bo v,[])∧(∃ v1,Zod a1=some (Bo v1,[])∧(if v=true then (if v1=true then (some (I 0,[])=some r) else (some (I (-1),[])=some r)) else (if v1=true then (some (I 1,[])=some r) else (if a<a1 then (some (I (-1),[])=some r) else (if a1<a then (some (I 1,[])=some r) else (some (I 0,[])=some r)))))))) ∧
 (∀ s1 s2 x x1 x2 r,Im (Zky s1 s2 x x1 x2=some r) (if x2<x1 then (0≤x2∧(∃ e1,x[x2.toNat]?=some e1∧(if (s2.length:Int)≤x2 then (some (I 1,[])=some r) else (∃ e2,s2[x2.toNat]?=some e2∧(∃ v2,Zoe e1 e2=some (I v2,[])∧(if v2=0 then (Zky s1 s2 x x1 (w (x2+1))=some r) else (some (I v2,[])=some r))))))) else (if (s1.length:Int)<(s2.length:Int) then (some (I (-1),[])=some r) else (some (I 0,[])=some r)))) ∧
 (∀ a a1 r,Im (Zsm a a1=some r) (Zky a a1 a (a.length:Int) 0=some r)) ∧
 (∀ a a1 r,Im (Zkz a a1=some r) (∃ v,Zsm a a1=some (I v,[])∧(some (I v,[])=some r))):=by
 and_intros
 all_goals intros
 all_goals unfold Im
 all_goals try simp only [Zkv,Zhz,Zsf,Zkw,Zoc,Zkx,Zfx,Zod,Zoe,Zky,Zsm,Zkz,Zhy,Plan.c_def,Zd.c_def,Zdd,Zkt,Zh.c_def,Zt,mpl,dfs]
 all_goals try simp only [itb]
 all_goals try simp only [itf,gS,kk]
 all_goals repeat' first | refine exI fun _=>?_ | refine anJ fun _ _=>?_ | refine anI fun _=>?_ | refine orE2 ?_ ?_ | exact False.elim
 all_goals (intro h;first | rw [EvL_eq Zsd.eq_1] | refine run Zbej rfl ?_ | refine run Zbek rfl ?_ | rw [EvL_eq Zsg.eq_1] | refine run Zbel rfl ?_ | rw [EvL_eq Zsi.eq_1] | refine run Zbem rfl ?_ | refine run Zben rfl ?_ | refine run Zbeo rfl ?_ | rw [EvL_eq Zsk.eq_1] | refine run Zbep rfl ?_ | refine run Zbeq rfl ?_)
 all_goals (refine Eq.trans ?_ h;clear h;simp +decide [*,kk,tI,tII,Zse,Zz1,Zz2,Zsh,Zz3,Zsj,Zz4,Zz5,Zz6,Zsl,Zz7,Zz8])
abbrev Z34:=Zcr.1
abbrev Zbh7:=Zcr.2.1
abbrev Zbh8:=Zcr.2.2.1
abbrev Z35:=Zcr.2.2.2.1
abbrev Zbh9:=Zcr.2.2.2.2.1
abbrev Z36:=Zcr.2.2.2.2.2.1
abbrev Zbia:=Zcr.2.2.2.2.2.2.1
abbrev Z37:=Zcr.2.2.2.2.2.2.2.1
abbrev Zbib:=Zcr.2.2.2.2.2.2.2.2.1
abbrev Z38:=Zcr.2.2.2.2.2.2.2.2.2.1
abbrev Zbic:=Zcr.2.2.2.2.2.2.2.2.2.2.1
abbrev Zbid:=Zcr.2.2.2.2.2.2.2.2.2.2.2
theorem Zcs:(∀ rows i r,Im (Zk0 rows i=some r) (if i<(rows.length:Int) then (0≤(w (i - 1))∧(∃ e1,rows[(w (i - 1)).toNat]?=some e1∧(0≤i∧(∃ e2,rows[i.toNat]?=some e2∧(∃ v3,Zkz e1 e2=some (I v3,[])∧(if 0≤v3 then (some (Bo false,[])=some r) else (Zk0 rows (w (i+1))=some r))))))) else (some (Bo true,[])=some r))) ∧
 (∀ a r,Im (Zof a=some r) (Zk0 a 1=some r)) ∧
 (∀ t x x1 x2 r,Im (Zk1 t x x1 x2=some r) (if x2<x1 then (0≤x2∧(∃ e1,x[x2.toNat]?=some e1∧(∃ v1,Zfx e1 t.Arity=some (Bo v1,[])∧(if v1=true then (Zk1 t x x1 (w (x2+1))=some r) else (some (Bo false,[])=some r))))) else (∃ v3,Zhs t.Name=some (Bo v3,[])∧(if v3=true then (∃ v6,Zt t.Arity 1 3=some (Bo v6,[])∧(if v6=true then (if (t.Rows.length:Int)≤8 then (∃ v9,Zof t.Rows=some (Bo v9,[])∧(some (Bo v9,[])=some r)) else (some (Bo false,[])=some r)) else (some (Bo false,[])=some r))) else (some (Bo false,[])=some r))))) ∧
 (∀ a r,Im (Zog a=some r) (Zk1 a a.Rows (a.Rows.length:Int) 0=some r)) ∧
 (∀ db x x1 x2 r,Im (Zh0 db x x1 x2=some r) (if x2<x1 then (0≤x2∧(∃ e1,x[x2.toNat]?=some e1∧(∃ v1,Zog e1=some (Bo v1,[])∧(if v1=true then (if 0<x2 then (0≤(w (x2 - 1))∧(∃ e3,db.Tables[(w (x2 - 1)).toNat]?=some e3∧(if (Op.bytesLess e3.Name.toList e1.Name.toList)=true then (Zh0 db x x1 (w (x2+1))=some r) else (some (Bo false,[])=some r)))) else (Zh0 db x x1 (w (x2+1))=some r)) else (some (Bo false,[])=some r))))) else (some (Bo (decide ((db.Tables.length:Int)≤6)),[])=some r))) ∧
 (∀ a r,Im (Zoh a=some r) (Zh0 a a.Tables (a.Tables.length:Int) 0=some r)) ∧
 (∀ a r,Im (Zb2 a=some r) (a.length≤68719476736∧(some (.own 0,[.arr 3 1 true (a.map ic)])=some r))) ∧
 (∀ out x x1 x2 r,Im (Zk2 out x x1 x2=some r) (if x2<x1 then (0≤x2∧(∃ e1,x[x2.toNat]?=some e1∧(∃ (v1:List Int),Zb2 e1=some (.own 0,[.arr 3 1 true (v1.map ic)])∧(out.length+1≤68719476736∧(Zk2 (out++[v1]) x x1 (w (x2+1))=some r))))) else (some (.own 0,[.arr 30 1 true (out.map isc)])=some r))) ∧
 (∀ a r,Im (Zes a=some r) (Zk2 ([]:List (List Int)) a (a.length:Int) 0=some r)) ∧
 (∀ a r,Im (Zsv a=some r) (∃ (v:List (List Int)),Zes a.Rows=some (.own 0,[.arr 30 1 true (v.map isc)])∧(some (.agg [.t (.str a.Name),I a.Arity,.own 0],[.arr 30 1 true (v.map isc)])=some r))) ∧
 (∀ a a1 r,Im (Zet a a1=some r) (∃ v,Zoc a.Tables a1=some (I v,[])∧(if v<0 then (some (.tup [.agg [.t (.str ⟨#[]⟩),I 0,.t .nil],Bo false],[])=some r) else (∃ v1,Zoh a=some (Bo v1,[])∧(if v1=true then (0≤v∧(∃ e3,a.Tables[v.toNat]?=some e3∧(∃ (v6:List (List Int)),∃ v7,∃ v8,Zsv e3=some (.agg [.t (.str v7),I v8,.own 0],[.arr 30 1 true (v6.map isc)])∧(some (.tup [.agg [.t (.str v7),I v8,.own 0],Bo true],[.arr 30 1 true (v6.map isc)])=some r)))) else (some (.tup [.agg [.t (.str ⟨#[]⟩),I 0,.t .nil],Bo false],[])=some r)))))) ∧
 (∀ db x x1 x2 r,Im (Zh2 db x x1 x2=some r) (if x2<x1 then (0≤x2∧(∃ e1,x[x2.toNat]?=some e1∧((∃ v1 v2,Zet db e1.Name=some (.tup [.agg [.t (.str v1),I v2,.t .nil],Bo false],[])∧(some (Bo false,[])=some r))∨(∃ (v3:List (List Int)),∃ v4,∃ v5,Zet db e1.Name=some (.tup [.agg [.t (.str v4),I v5,.own 0],Bo true],[.arr 30 1 true (v3.map isc)])∧(if v5=(e1.Vars.length:Int) then (Zh2 db x x1 (w (x2+1))=some r) else (some (Bo false,[])=some r)))))) else (some (Bo true,[])=some r))):=by
 and_intros
 all_goals intros
 all_goals unfold Im
 all_goals try simp only [Zk0,Zof,Zk1,Zog,Zh0,Zoh,Zb2,Zk2,Zes,Zsv,Zet,Zh2,Zkz,Zfx,Zhs,Zt,Zh.c_def,Zoc,Zk.c_def,mpl,dfs]
 all_goals try simp only [itb]
 all_goals try simp only [itf,gS,kk]
 all_goals repeat' first | refine exI fun _=>?_ | refine anJ fun _ _=>?_ | refine anI fun _=>?_ | refine orE2 ?_ ?_ | exact False.elim
 all_goals (intro h;first | rw [EvL_eq Zsn.eq_1] | refine run Zber rfl ?_ | rw [EvL_eq Zsp.eq_1] | refine run Zbes rfl ?_ | rw [EvL_eq Zsr.eq_1] | refine run Zbet rfl ?_ | refine run Zbeu rfl ?_ | rw [EvL_eq Zst.eq_1] | refine run Zbev rfl ?_ | refine run Zbew rfl ?_ | refine run Zbex rfl ?_ | rw [EvL_eq Zsw.eq_1])
 all_goals (refine Eq.trans ?_ h;clear h;simp +decide [*,kk,tI,tII,Zso,Zz9,Zsq,Z0a,Zss,Z0b,Z0c,Zsu,Z0d,Z0e,Z0f,Zsx])
abbrev Zwn:=Zcs.1
abbrev Zbie:=Zcs.2.1
abbrev Z39:=Zcs.2.2.1
abbrev Zbif:=Zcs.2.2.2.1
abbrev Z4a:=Zcs.2.2.2.2.1
abbrev Zbig:=Zcs.2.2.2.2.2.1
abbrev Zbih:=Zcs.2.2.2.2.2.2.1
abbrev Z4b:=Zcs.2.2.2.2.2.2.2.1
abbrev Zbii:=Zcs.2.2.2.2.2.2.2.2.1
abbrev Zbij:=Zcs.2.2.2.2.2.2.2.2.2.1
abbrev Zbik:=Zcs.2.2.2.2.2.2.2.2.2.2.1
abbrev Z4c:=Zcs.2.2.2.2.2.2.2.2.2.2.2
theorem Zjp:(∀ a a1 r,Im (Zh1 a a1=some r) (∃ v,Zee a1=some (Bo v,[])∧(if v=true then (Zh2 a a1.Atoms (a1.Atoms.length:Int) 0=some r) else (some (Bo false,[])=some r)))) ∧
 (∀ a x x1 x2 x3 r,Im (Zsy a x x1 x2 x3=some r) (if x3<x2 then (0≤x3∧(∃ e1,x1[x3.toNat]?=some e1∧(Zk3 a x ([]:List Int) x1 e1 x2 x3 (x.length:Int) 0=some r))) else (some (.tup [.agg [.own 0,.t .nil],Bo true],[.arr 3 1 true (x.map ic)])=some r))) ∧
 (∀ a x x1 x2 row x3 x4 x5 x6 r,Im (Zk3 a x x1 x2 row x3 x4 x5 x6=some r) (if x6<x5 then (0≤x6∧(∃ e1,x[x6.toNat]?=some e1∧(∃ v1,Zbr a.Vars e1=some (I v1,[])∧(0≤v1∧(∃ e3,row[v1.toNat]?=some e3∧(x1.length+1≤68719476736∧(Zk3 a x (x1++[e3]) x2 row x3 x4 x5 (w (x6+1))=some r))))))) else (Zf2 a x ([x1]) x2 x3 (w (x4+1))=some r))) ∧
 (∀ a x x1 x2 x3 x4 r,Im (Zf2 a x x1 x2 x3 x4=some r) (if x4<x3 then (0≤x4∧(∃ e1,x2[x4.toNat]?=some e1∧(Zk4 a x x1 ([]:List Int) x2 e1 x3 x4 (x.length:Int) 0=some r))) else (some (.tup [.agg [.own 0,.own 1],Bo true],[.arr 3 1 true (x.map ic),.arr 30 1 true (x1.map isc)])=some r))) ∧
 (∀ a x x1 x2 x3 row x4 x5 x6 x7 r,Im (Zk4 a x x1 x2 x3 row x4 x5 x6 x7=some r) (if x7<x6 then (0≤x7∧(∃ e1,x[x7.toNat]?=some e1∧(∃ v1,Zbr a.Vars e1=some (I v1,[])∧(0≤v1∧(∃ e3,row[v1.toNat]?=some e3∧(x2.length+1≤68719476736∧(Zk4 a x x1 (x2++[e3]) x3 row x4 x5 x6 (w (x7+1))=some r))))))) else (x1.length+1≤68719476736∧(Zf2 a x (x1++[x2]) x3 x4 (w (x5+1))=some r)))) ∧
 (∀ a a1 a2 r,Im (Zf1 a a1 a2=some r) (∃ v,Zh1 a a1=some (Bo v,[])∧(if v=true then (∃ v1,Zt a2 0 (w ((a1.Atoms.length:Int) - 1))=some (Bo v1,[])∧(if v1=true then (0≤a2∧(∃ e3,a1.Atoms[a2.toNat]?=some e3∧((∃ v2 v3,Zet a e3.Name=some (.tup [.agg [.t (.str v2),I v3,.t .nil],Bo false],[])∧(∃ (v4:List Int),Zb2 e3.Vars=some (.own 0,[.arr 3 1 true (v4.map ic)])∧(∃ (v5:List Int),Zfy v4=some (.tup [],[.arr 3 1 true (v5.map ic)])∧(Z0i e3 v5 0 0=some r))))∨(∃ (v6:List (List Int)),∃ v7,∃ v8,Zet a e3.Name=some (.tup [.agg [.t (.str v7),I v8,.own 0],Bo true],[.arr 30 1 true (v6.map isc)])∧(∃ (v9:List Int),Zb2 e3.Vars=some (.own 0,[.arr 3 1 true (v9.map ic)])∧(∃ (v10:List Int),Zfy v9=some (.tup [],[.arr 3 1 true (v10.map ic)])∧(Zsy e3 v10 v6 (v6.length:Int) 0=some r))))))) else (some (.tup [.agg [.t .nil,.t .nil],Bo false],[])=some r))) else (some (.tup [.agg [.t .nil,.t .nil],Bo false],[])=some r)))):=by
 and_intros
 all_goals intros
 all_goals unfold Im
 all_goals try simp only [Zh1,Zsy,Zk3,Zf2,Zk4,Zf1,Zee,Zd.c_def,Zbr,Zt,Zet,Zb2,Zfy,Zk.c_def,Zh2,Z0i,mpl,dfs]
 all_goals try simp only [itb]
 all_goals try simp only [itf,gS,kk]
 all_goals repeat' first | refine exI fun _=>?_ | refine anJ fun _ _=>?_ | refine anI fun _=>?_ | refine orE2 ?_ ?_ | exact False.elim
 all_goals (intro h;first | refine run Zbey rfl ?_ | rw [EvL_eq Zfz.eq_1] | rw [EvL_eq Zoi.eq_1] | refine run Zbez rfl ?_)
 all_goals (refine Eq.trans ?_ h;clear h;simp +decide [*,kk,tI,tII,Z0g,Zf0,Zok,Zoj,Z0h])
abbrev Zbil:=Zjp.1
abbrev Zbim:=Zjp.2.1
abbrev Z4d:=Zjp.2.2.1
abbrev Z4e:=Zjp.2.2.2.1
abbrev Z4f:=Zjp.2.2.2.2.1
abbrev Zbin:=Zjp.2.2.2.2.2
end Go.Proofs.YtgnfoghkbpkgjaaGreat
namespace Go.AM
theorem setI (l:List (List Int)) (i:Nat) (e:List Int):(l.map isc).set i [.lst 1 (e.map ic)]=(l.set i e).map isc:=by rw [List.map_set];rfl
theorem appI (l:List Int) (v:Int):l.map ic++[[.int .i64 v]]=(l++[v]).map ic:=by simp
theorem Zpy (a b:Int) (k:IntKind):binT .shr (.int .u64 a) (.int k b)=if b<0 then none else some (.int .u64 (shrI a b)):=by simp [binT,shrI,IntKind.bits]
end Go.AM
namespace Go.Proofs.YtgnfoghkbpkgjaaGreat
open Go.AM
theorem Zct:(∀ columns arity x x1 x2 r,Im (Zh3 columns arity x x1 x2=some r) (if x2<x1 then (0≤x2∧(∃ e1,x[x2.toNat]?=some e1∧(∃ v3,Zt e1 0 (w (arity - 1))=some (Bo v3,[])∧(if v3=true then (if 0<x2 then (0≤(w (x2 - 1))∧(∃ e3,columns[(w (x2 - 1)).toNat]?=some e3∧(if e1≤e3 then (some (Bo false,[])=some r) else (Zh3 columns arity x x1 (w (x2+1))=some r)))) else (Zh3 columns arity x x1 (w (x2+1))=some r)) else (some (Bo false,[])=some r))))) else (some (Bo true,[])=some r))) ∧
 (∀ a a1 r,Im (Zs1 a a1=some r) (Zh3 a a1 a (a.length:Int) 0=some r)) ∧
 (∀ a r,Im (Zs2 a=some r) (∃ v,Zs1 a 4=some (Bo v,[])∧(some (Bo v,[])=some r))) ∧
 (∀ s x x1 x2 r,Im (Zk5 s x x1 x2=some r) (if x2<x1 then (0≤x2∧(∃ e1,x[x2.toNat]?=some e1∧(∃ v3,Zfx e1 (s.Vars.length:Int)=some (Bo v3,[])∧(if v3=true then (Zk5 s x x1 (w (x2+1))=some r) else (some (Bo false,[])=some r))))) else (∃ v6,Zs2 s.Vars=some (Bo v6,[])∧(if v6=true then (some (Bo (decide ((s.Rows.length:Int)≤4096)),[])=some r) else (some (Bo false,[])=some r))))) ∧
 (∀ a r,Im (Zb3 a=some r) (Zk5 a a.Rows (a.Rows.length:Int) 0=some r)) ∧
 (∀ x a a1 r,Im (Zeu x a a1=some r) (0≤x∧(∃ e1,a[x.toNat]?=some e1∧(∃ e2,a1[x.toNat]?=some e2∧(some (I (w (e1 - e2)),[.box [I x]])=some r))))) ∧
 (∀ fr data x a b i r,Im (Zf3 fr data x a b i=some r) (if i<b then (Zk6 fr data x a b i i=some r) else (some (.tup [],[.arr 30 1 fr (data.map isc),.box [I x]])=some r))) ∧
 (∀ fr data x a b i j r,Im (Zk6 fr data x a b i j=some r) (if a<j then (0≤j∧(∃ e1,data[j.toNat]?=some e1∧(0≤(w (j - 1))∧(∃ e2,data[(w (j - 1)).toNat]?=some e2∧(∃ v6 v7,Zeu x e1 e2=some (I v7,[.box [I v6]])∧(if v7<0 then (∃ e4,(data.set j.toNat e2)[(w (j - 1)).toNat]?=some e4∧(Zk6 false ((data.set j.toNat e2).set ((w (j - 1)).toNat) e1) v6 a b i (w (j - 1))=some r)) else (Zf3 fr data v6 a b (w (i+1))=some r))))))) else (Zf3 fr data x a b (w (i+1))=some r))) ∧
 (∀ fr x x1 a a1 r,Im (Zh4 fr x x1 a a1=some r) (Zf3 fr x x1 a a1 (w (a+1))=some r)) ∧
 (∀ fr data x a b n i r,Im (Zk7 fr data x a b n i=some r) (if i<n then (0≤(w (b+i))∧(∃ e1,data[(w (b+i)).toNat]?=some e1∧(0≤(w (a+i))∧(∃ e2,data[(w (a+i)).toNat]?=some e2∧(∃ e3,(data.set ((w (a+i)).toNat) e1)[(w (b+i)).toNat]?=some e3∧(Zk7 false ((data.set ((w (a+i)).toNat) e1).set ((w (b+i)).toNat) e2) x a b n (w (i+1))=some r)))))) else (some (.tup [],[.arr 30 1 fr (data.map isc),.box [I x]])=some r))) ∧
 (∀ fr x x1 a a1 a2 r,Im (Zh5 fr x x1 a a1 a2=some r) (Zk7 fr x x1 a a1 a2 0=some r)) ∧
 (∀ fr data x m i j r,Im (Zf4 fr data x m i j=some r) (if i=j then (∃ v,∃ (v1:List (List Int)),∃ v2,Zh5 fr data x (w (m - i)) m i=some (.tup [],[.arr 30 1 v (v1.map isc),.box [I v2]])∧(some (.tup [],[.arr 30 1 v (v1.map isc),.box [I v2]])=some r)) else (if j<i then (∃ v3,∃ (v4:List (List Int)),∃ v5,Zh5 fr data x (w (m - i)) m j=some (.tup [],[.arr 30 1 v3 (v4.map isc),.box [I v5]])∧(Zf4 v3 v4 v5 m (w (i - j)) j=some r)) else (∃ v6,∃ (v7:List (List Int)),∃ v8,Zh5 fr data x (w (m - i)) (w ((w (m+j)) - i)) i=some (.tup [],[.arr 30 1 v6 (v7.map isc),.box [I v8]])∧(Zf4 v6 v7 v8 m i (w (j - i))=some r))))):=by
 and_intros
 all_goals intros
 all_goals unfold Im
 all_goals try simp only [Zh3,Zs1,Zs2,Zk5,Zb3,Zeu,Zf3,Zk6,Zh4,Zk7,Zh5,Zf4,Zt,Zfx,mpl,dfs]
 all_goals try simp only [itb]
 all_goals try simp only [itf,gS,kk]
 all_goals repeat' first | refine exI fun _=>?_ | refine anJ fun _ _=>?_ | refine anI fun _=>?_ | refine orE2 ?_ ?_ | exact False.elim
 all_goals (intro h;first | rw [EvL_eq Zsz.eq_1] | refine run Zbe0 rfl ?_ | refine run Zbe1 rfl ?_ | rw [EvL_eq Zs3.eq_1] | refine run Zbe2 rfl ?_ | refine runM Zbe3 rfl ?_ | rw [EvL_eq Zol.eq_1] | rw [EvL_eq Zs5.eq_1] | refine runM Zbe4 rfl ?_ | rw [EvL_eq Zs7.eq_1] | refine runM Zbe5 rfl ?_ | rw [EvL_eq Zs8.eq_1])
 all_goals (refine Eq.trans ?_ h;clear h;simp +decide [*,kk,tI,tII,Zs0,Z0j,Z0k,Zs4,Z0l,Z0m,-List.map_set,setI,Zpy,Zs6,Z0n,Z0o,Zs9])
abbrev Z4g:=Zct.1
abbrev Zbio:=Zct.2.1
abbrev Zbip:=Zct.2.2.1
abbrev Z4h:=Zct.2.2.2.1
abbrev Zbiq:=Zct.2.2.2.2.1
abbrev Zbir:=Zct.2.2.2.2.2.1
abbrev Z4i:=Zct.2.2.2.2.2.2.1
abbrev Zpz:=Zct.2.2.2.2.2.2.2.1
abbrev Zbis:=Zct.2.2.2.2.2.2.2.2.1
abbrev Z4j:=Zct.2.2.2.2.2.2.2.2.2.1
abbrev Zbit:=Zct.2.2.2.2.2.2.2.2.2.2.1
abbrev Zwo:=Zct.2.2.2.2.2.2.2.2.2.2.2
theorem Zbiu:∀ fr x x1 a a1 a2 r,Im (Zk8 fr x x1 a a1 a2=some r) (Zf4 fr x x1 a1 (w (a1 - a)) (w (a2 - a1))=some r):=by
 all_goals intros
 all_goals unfold Im
 all_goals try simp only [Zk8,Zf4,mpl,dfs]
 all_goals try simp only [itb]
 all_goals try simp only [itf,gS,kk]
 all_goals repeat' first | refine exI fun _=>?_ | refine anJ fun _ _=>?_ | refine anI fun _=>?_ | refine orE2 ?_ ?_ | exact False.elim
 all_goals (intro h;first | refine runM Zbe6 rfl ?_)
 all_goals (refine Eq.trans ?_ h;clear h;simp +decide [*,kk,tI,tII,-List.map_set,setI,Zpy,Z0p])
abbrev Zbiv:=Zbiu
end Go.Proofs.YtgnfoghkbpkgjaaGreat
