/-
  Parts of the proofs for this seat: D2 T1 T2 T3 G1 SN SN2 G2 G3 G4.
-/
import Derived.Test.YtgnfoghkbpkgjaaGreatP6
import Derived.Test.YtgnfoghkbpkgjaaGreatP7
import Derived.Test.YtgnfoghkbpkgjaaGreatP8
set_option linter.unusedSimpArgs false
set_option linter.unusedVariables false
set_option maxRecDepth 100000
set_option maxHeartbeats 4000000
namespace Go.Proofs.YtgnfoghkbpkgjaaGreat
open Go.AM
noncomputable section
def Z6r:MCode:=.reg [.m 8 4,.bk 9 .add 8 1,.m 4 9] [0,3,4]
def Zx6:MCode:=.we [.m 6 4,.bk 7 .lss 6 4] [0,3,4,7] 7 0 (.seq (.block 1 (.r [.m 10 0,.m 11 4,.b 12 .shr 10 11,.bk 13 .and 12 1,.bk 14 .eql 13 1] [0,3,4,14] (.cond (.s 14) (.reg [.m 15 3,.m 16 4,.o 17 (.bslice 3 1 1 [.z] [(0,.s 16)]),.o 18 (.append 3 1 8 true (.s 15) (.s 17)),.m 3 18] [0,3,4]) .skip))) Z6r)
def Zx7:MCode:=.r [.m 19 3,.m 2 19] [2] .ret
def Z6s:MFun:=⟨1,20,[.tmp 2],.r [.o 2 (.mov (.c (.t .nil)))] [0] (.r [.o 5 (.bslice 3 1 0 [.z] []),.m 3 5] [0,3] (.seq (.r [.mk' 4 0] [0,3,4] (.block 0 (.loop [0,3,4] Zx6))) Zx7))⟩
def Zsd(a:Int):Rs:=C 353 [I a] []
def Zln(cc:List Int)(c v:Int):Rs:=EvL C [.blk 0,.seq Zx7,.fin 0 [.tmp 2]] [0,3,4] Zx6 ⟨[(0,I c),(3,.own 0),(4,I v)],[[]],[.arr 3 1 true (cc.map ic)]⟩
def Z6t:MFun:=⟨2,14,[.tmp 4],.r [.bx 2 0,.o 4 (.mov (.c (.t .nil)))] [1,2] (.wc [.ln 5 2 2,.m 6 1,.cl 7 225 [5,6],.o 8 (.un .not (.s 7))] [1,2,8] 8 (.r [.o 9 (.bslice 3 1 0 [.z] []),.m 4 9] [4] .ret) (.r [.ln 10 2 2,.m 11 1,.cl 12 349 [10,11],.cl 13 353 [12],.m 4 13] [4] .ret))⟩
def Zoo(a:Zd)(a1:Int):Rs:=C 276 [.agg (a.c.map .t),I a1] []
def Zx8:MCode:=.we [.m 6 5,.fa 7 1 2,.l 8 7,.ll 9 8,.b 10 .lss 6 9] [1,2,5,10] 10 0 (.seq (.block 1 (.r [.fa 13 1 2,.l 14 13,.m 15 5,.ia 16 1 14 15,.l 17 16,.m 18 1,.b 19 .eql 17 18] [1,2,5,19] (.cond (.s 19) (.r [.m 20 5,.m 4 20] [4] .ret) .skip))) (.reg [.m 11 5,.bk 12 .add 11 1,.m 5 12] [1,2,5]))
def Zx9:MCode:=.r [.mk' 4 (-1)] [4] .ret
def Z6u:MFun:=⟨2,21,[.tmp 4],.r [.bx 2 0,.mk' 4 0] [1,2] (.seq (.r [.mk' 5 0] [1,2,5] (.block 0 (.loop [1,2,5] Zx8))) Zx9)⟩
def Zop(a:Atom)(a1:Int):Rs:=C 335 [.agg (a.c.map .t),I a1] []
def Zoq(a:Atom)(v k:Int):Rs:=EvL C [.blk 0,.seq Zx9,.fin 0 [.tmp 4]] [1,2,5] Zx8 ⟨[(1,I v),(2,.ptr 0 0),(5,I k)],[[]],[.box (a.c.map .t)]⟩
def Zor:MCode:=.we [.m 52 13,.fa 53 0 10,.l 54 53,.ll 55 54,.b 56 .lss 52 55] [2,4,6,8,10,11,12,13,56] 56 2 (.seq (.block 3 (.drw [.m 59 12,.fa 60 2 8,.l 61 60,.m 62 11,.ia 63 1 61 62,.l 64 63,.fa 65 1 4,.l 66 65,.m 67 2,.ia 68 2 66 67,.ln 69 2 68,.fa 70 0 10,.l 71 70,.m 72 13,.ia 73 1 71 72,.l 74 73,.cl 75 335 [69,74],.ia 76 1 64 75,.l 77 76,.o 78 (.bslice 3 1 1 [.z] [(0,.s 77)]),.o 79 (.append 3 1 8 true (.s 59) (.s 78)),.m 12 79] [[],[],[1],[],[2,3],[4],[],[6],[],[7,8],[9],[],[11],[],[12,13],[14],[10,15],[5,16],[17],[18],[0,19,16],[20,20,0,1,2,3,4,5,6,7,8,9,10,11,12,13,14,15,16,17,18,19,20]] [2,4,6,8,10,11,12,13])) (.reg [.m 57 13,.bk 58 .add 57 1,.m 13 58] [2,4,6,8,10,11,12,13]))
def Zos:MCode:=.reg [.fa 80 1 10,.l 81 80,.m 82 12,.o 83 (.bslice 30 1 1 [.lst 1 []] [(0,.s 82)]),.o 84 (.append 30 1 24 true (.s 81) (.s 83)),.fa 85 1 10,.st 1 85 84] [2,4,6,8,10,11]
def Zot:MCode:=.reg [.m 49 11,.bk 50 .add 49 1,.m 11 50] [2,4,6,8,10,11]
def Zhn:MCode:=.we [.m 44 11,.fa 45 2 8,.l 46 45,.ll 47 46,.b 48 .lss 44 47] [2,4,6,8,10,11,48] 48 0 (.seq (.block 1 (.r [.o 51 (.bslice 3 1 0 [.z] []),.m 12 51] [2,4,6,8,10,11,12] (.seq (.r [.mk' 13 0] [2,4,6,8,10,11,12,13] (.block 2 (.loop [2,4,6,8,10,11,12,13] Zor))) Zos))) Zot)
def Zho:MCode:=.r [.ln 86 2 10,.st 2 6 86,.o 7 (.mov (.q true))] [6,7] .ret
def Z6v:MFun:=⟨3,87,[.cell 6 (some 2),.tmp 7],.r [.bx 3 0,.bx 4 1,.o 6 (.alloc [.t .nil,.t .nil]),.o 7 (.mov (.q false))] [2,3,4,6] (.wc [.ln 14 1 3,.ln 15 2 4,.cl 16 178 [14,15],.o 17 (.un .not (.s 16)),.m 18 17,.h 19 18 (.mov (.s 2)),.h 20 18 (.fa 1 4),.h 21 18 (.l 20),.h 22 18 (.ll 21),.h 23 18 (.bk .sub 22 1),.h 24 18 (.call 122 [.s 19,.c (.t .z),.s 23]),.h 25 18 (.un .not (.s 24)),.o 26 (.pick (.s 18) (.q true) (.s 25))] [2,3,4,6,26] 26 (.r [.o 27 (.build [.t .nil,.t .nil] []),.st 2 6 27,.o 7 (.mov (.q false))] [6,7] .ret) (.seq (.drw [.ln 29 1 3,.fa 30 1 4,.l 31 30,.m 32 2,.ia 33 2 31 32,.fa 34 0 33,.l 35 34,.cl 36 275 [29,35],.m 28 36,.o 37 (.ext (.s 28) 0),.o 38 (.ext (.s 28) 1),.o 8 (.alloc [.t (.str ⟨#[]⟩),.t .z,.t .nil]),.st 3 8 37,.m 9 38] [[],[],[1],[],[2,3],[4],[5],[0,6],[7],[8],[8],[],[11,9,7,0,1,2,3,4,5,6,7,8,9,11],[10,12,0,1,2,3,4,5,6,7,8,9,10,11,12]] [2,4,6,8]) (.seq (.drw [.ln 39 2 4,.m 40 2,.o 41 (.bin .shl (.k 1) (.s 40)),.cl 42 276 [39,41],.o 43 (.build [.t .nil,.t .nil] [(0,1,.s 42)]),.o 10 (.alloc [.t .nil,.t .nil]),.st 2 10 43] [[],[],[1],[0,2],[3],[],[5,4,3,0,1,2,3,4,5]] [2,4,6,8,10]) (.seq (.r [.mk' 11 0] [2,4,6,8,10,11] (.block 0 (.loop [2,4,6,8,10,11] Zhn))) Zho))))⟩
def Zjf(a:Zk)(a1:Zd)(a2:Int):Rs:=C 263 [.agg (a.c.map .t),.agg (a1.c.map .t),I a2] []
def Zya(q:Zd)(cd:ByteArray)(cc:Int)(x:List Int)(i k:Int):Rs:=EvL C [.blk 0,.seq Zho,.fin 0 [.cell 6 (some 2),.tmp 7]] [2,4,6,8,10,11] Zhn ⟨[(2,I i),(4,.ptr 0 0),(6,.ptr 1 0),(8,.ptr 2 0),(10,.ptr 3 0),(11,I k)],[[]],[.box (q.c.map .t),.box [.t .nil,.t .nil],.box [.t (.str cd),I cc,.t .nil],.box [.own 4,.t .nil],.arr 3 1 true (x.map ic)]⟩
def Zyb(q:Zd)(cd:ByteArray)(cc:Int)(x:List (List Int))(x1:List Int)(i k:Int):Rs:=EvL C [.blk 0,.seq Zho,.fin 0 [.cell 6 (some 2),.tmp 7]] [2,4,6,8,10,11] Zhn ⟨[(2,I i),(4,.ptr 0 0),(6,.ptr 1 0),(8,.ptr 2 0),(10,.ptr 4 0),(11,I k)],[[]],[.box (q.c.map .t),.box [.t .nil,.t .nil],.box [.t (.str cd),I cc,.own 3],.arr 30 1 true (x.map isc),.box [.own 5,.t .nil],.arr 3 1 true (x1.map ic)]⟩
def Z6w(q:Zd)(cd:ByteArray)(cc:Int)(x cl:List Int)(i k j:Int):Rs:=EvL C [.blk 2,.seq Zos,.blk 1,.seq Zot,.loop [2,4,6,8,10,11] Zhn,.blk 0,.seq Zho,.fin 0 [.cell 6 (some 2),.tmp 7]] [2,4,6,8,10,11,12,13] Zor ⟨[(2,I i),(4,.ptr 0 0),(6,.ptr 1 0),(8,.ptr 2 0),(10,.ptr 3 0),(11,I k),(12,.own 5),(13,I j)],[[]],[.box (q.c.map .t),.box [.t .nil,.t .nil],.box [.t (.str cd),I cc,.t .nil],.box [.own 4,.t .nil],.arr 3 1 true (x.map ic),.arr 3 1 true (cl.map ic)]⟩
def Zou(q:Zd)(cd:ByteArray)(cc:Int)(x:List (List Int))(x1 cl:List Int)(i k j:Int):Rs:=EvL C [.blk 2,.seq Zos,.blk 1,.seq Zot,.loop [2,4,6,8,10,11] Zhn,.blk 0,.seq Zho,.fin 0 [.cell 6 (some 2),.tmp 7]] [2,4,6,8,10,11,12,13] Zor ⟨[(2,I i),(4,.ptr 0 0),(6,.ptr 1 0),(8,.ptr 2 0),(10,.ptr 4 0),(11,I k),(12,.own 6),(13,I j)],[[]],[.box (q.c.map .t),.box [.t .nil,.t .nil],.box [.t (.str cd),I cc,.own 3],.arr 30 1 true (x.map isc),.box [.own 5,.t .nil],.arr 3 1 true (x1.map ic),.arr 3 1 true (cl.map ic)]⟩
def Zjg(q:Zd)(cd:ByteArray)(cc:Int)(x:List (List Int))(x1:List Int)(x2:List (List Int))(i k:Int):Rs:=EvL C [.blk 0,.seq Zho,.fin 0 [.cell 6 (some 2),.tmp 7]] [2,4,6,8,10,11] Zhn ⟨[(2,I i),(4,.ptr 0 0),(6,.ptr 1 0),(8,.ptr 2 0),(10,.ptr 4 0),(11,I k)],[[]],[.box (q.c.map .t),.box [.t .nil,.t .nil],.box [.t (.str cd),I cc,.own 3],.arr 30 1 true (x.map isc),.box [.own 5,.own 6],.arr 3 1 true (x1.map ic),.arr 30 1 true (x2.map isc)]⟩
def Zov(q:Zd)(cd:ByteArray)(cc:Int)(x:List (List Int))(x1:List Int)(x2:List (List Int))(cl:List Int)(i k j:Int):Rs:=EvL C [.blk 2,.seq Zos,.blk 1,.seq Zot,.loop [2,4,6,8,10,11] Zhn,.blk 0,.seq Zho,.fin 0 [.cell 6 (some 2),.tmp 7]] [2,4,6,8,10,11,12,13] Zor ⟨[(2,I i),(4,.ptr 0 0),(6,.ptr 1 0),(8,.ptr 2 0),(10,.ptr 4 0),(11,I k),(12,.own 7),(13,I j)],[[]],[.box (q.c.map .t),.box [.t .nil,.t .nil],.box [.t (.str cd),I cc,.own 3],.arr 30 1 true (x.map isc),.box [.own 5,.own 6],.arr 3 1 true (x1.map ic),.arr 30 1 true (x2.map isc),.arr 3 1 true (cl.map ic)]⟩
def Zyc:MCode:=.we [.m 6 5,.m 7 0,.ll 8 7,.b 9 .lss 6 8] [0,1,5,9] 9 0 (.seq (.block 1 (.r [.m 12 0,.m 13 5,.ia 14 1 12 13,.l 15 14,.m 16 1,.b 17 .eql 15 16] [0,1,5,17] (.cond (.s 17) (.r [.m 18 5,.m 4 18] [4] .ret) .skip))) (.reg [.m 10 5,.bk 11 .add 10 1,.m 5 11] [0,1,5]))
def Zyd:MCode:=.r [.mk' 4 (-1)] [4] .ret
def Z6x:MFun:=⟨2,19,[.tmp 4],.r [.mk' 4 0] [0,1] (.seq (.r [.mk' 5 0] [0,1,5] (.block 0 (.loop [0,1,5] Zyc))) Zyd)⟩
def Zdh(a:List Int)(a1:Int):Rs:=C 336 [L 1 (a.map ic),I a1] []
def Zow(l:List Int)(v i:Int):Rs:=EvL C [.blk 0,.seq Zyd,.fin 0 [.tmp 4]] [0,1,5] Zyc ⟨[(0,L 1 (l.map ic)),(1,I v),(5,I i)],[[]],[]⟩
def Zye:MCode:=.we [.m 5 3,.fa 6 0 1,.l 7 6,.ll 8 7,.b 9 .lss 5 8] [1,3,9] 9 0 (.seq (.block 1 (.seq (.drw [.fa 12 0 1,.l 13 12,.m 14 3,.ia 15 1 13 14,.l 16 15,.o 17 (.call 122 [.s 16,.c (.t .z),.c (.t (.int .i64 3))]),.o 18 (.un .not (.s 17)),.m 19 18,.h 20 19 (.mov (.s 3)),.h 21 19 (.bk .gtr 20 0),.h 22 19 (.mov (.s 21)),.g 23 22 (.fa 0 1),.g 24 22 (.l 23),.g 25 22 (.mov (.s 3)),.g 26 22 (.bk .sub 25 1),.g 27 22 (.ia 1 24 26),.g 28 22 (.l 27),.g 29 22 (.fa 0 1),.g 30 22 (.l 29),.g 31 22 (.mov (.s 3)),.g 32 22 (.ia 1 30 31),.g 33 22 (.l 32),.g 34 22 (.b .geq 28 33),.h 35 19 (.pick (.s 22) (.s 34) (.q false)),.o 36 (.pick (.s 19) (.q true) (.s 35))] [[],[0],[],[1,2],[3],[4],[5],[6,5],[7],[8,7],[9,7,7],[10],[11,10],[10],[13,10],[12,14,10],[15,10],[10],[17,10],[10],[18,19,10],[20,10],[16,21,10],[10,22,7],[7,23]] [1,3,36]) (.cond (.s 36) (.r [.o 2 (.mov (.q false))] [2] .ret) .skip))) (.reg [.m 10 3,.bk 11 .add 10 1,.m 3 11] [1,3]))
def Zyf:MCode:=.we [.m 37 4,.fa 38 1 1,.l 39 38,.ll 40 39,.b 41 .lss 37 40] [1,4,41] 41 2 (.seq (.block 3 (.seq (.drw [.fa 44 1 1,.l 45 44,.m 46 4,.ia 47 1 45 46,.l 48 47,.fa 49 0 1,.l 50 49,.ll 51 50,.cl 52 343 [48,51],.o 53 (.un .not (.s 52))] [[],[0],[],[1,2],[3],[],[5],[6],[4,7],[8]] [1,4,53]) (.cond (.s 53) (.r [.o 2 (.mov (.q false))] [2] .ret) .skip))) (.reg [.m 42 4,.bk 43 .add 42 1,.m 4 43] [1,4]))
def Zyg:MCode:=.r [.fa 54 1 1,.l 55 54,.ll 56 55,.bk 57 .leq 56 4096,.m 2 57] [2] .ret
def Zyh:MCode:=.seq (.r [.mk' 4 0] [1,4] (.block 2 (.loop [1,4] Zyf))) Zyg
def Z6y:MFun:=⟨1,58,[.tmp 2],.r [.bx 1 0,.o 2 (.mov (.q false))] [1] (.seq (.r [.mk' 3 0] [1,3] (.block 0 (.loop [1,3] Zye))) Zyh)⟩
def Zdi(a:Za):Rs:=C 269 [.agg (a.c.map .t)] []
def Zjh(s:Za)(i:Int):Rs:=EvL C [.blk 0,.seq Zyh,.fin 0 [.tmp 2]] [1,3] Zye ⟨[(1,.ptr 0 0),(3,I i)],[[]],[.box (s.c.map .t)]⟩
def Zlo(s:Za)(i:Int):Rs:=EvL C [.blk 2,.seq Zyg,.fin 0 [.tmp 2]] [1,4] Zyf ⟨[(1,.ptr 0 0),(4,I i)],[[]],[.box (s.c.map .t)]⟩
def Z6z:MCode:=.reg [.m 36 9,.bk 37 .add 36 1,.m 9 37] [2,4,6,7,8,9]
def Zse:MCode:=.we [.m 31 9,.fa 32 1 2,.l 33 32,.ll 34 33,.b 35 .lss 31 34] [2,4,6,7,8,9,35] 35 2 (.seq (.block 3 (.r [.fa 38 1 2,.l 39 38,.m 40 9,.ia 41 1 39 40,.l 42 41,.m 43 6,.ia 44 1 42 43,.l 45 44,.m 46 8,.b 47 .eql 45 46] [2,4,6,7,8,9,47] (.cond (.s 47) (.drw [.fa 48 1 7,.l 49 48,.o 50 (.bslice 3 1 0 [.z] []),.fa 51 1 2,.l 52 51,.m 53 9,.ia 54 1 52 53,.l 55 54,.o 56 (.append 3 1 8 false (.s 50) (.s 55)),.o 57 (.bslice 30 1 1 [.lst 1 []] [(0,.s 56)]),.o 58 (.append 30 1 24 true (.s 49) (.s 57)),.fa 59 1 7,.st 1 59 58] [[],[0],[],[],[3],[],[4,5],[6],[2,7],[8],[1,9,8],[0,1,2,3,4,5,6,7,8,9,10],[11,10,10,0,1,2,3,4,5,6,7,8,9,10]] [2,4,6,7,8,9]) .skip))) Z6z)
def Zsf:MCode:=.reg [.m 29 8,.bk 30 .add 29 1,.m 8 30] [2,4,6,7,8]
def Zlp:MCode:=.we [.m 27 8,.bk 28 .leq 27 9] [2,4,6,7,8,28] 28 0 (.seq (.block 1 (.r [.mk' 9 0] [2,4,6,7,8,9] (.block 2 (.loop [2,4,6,7,8,9] Zse)))) Zsf)
def Zlq:MCode:=.r [.ln 60 2 7,.st 2 4 60,.o 5 (.mov (.q true))] [4,5] .ret
def Z60:MFun:=⟨2,61,[.cell 4 (some 2),.tmp 5],.r [.bx 2 0,.o 4 (.alloc [.t .nil,.t .nil]),.o 5 (.mov (.q false))] [1,2,4] (.r [.fa 10 0 2,.l 11 10,.m 12 1,.cl 13 336 [11,12],.m 6 13] [2,4,6] (.wc [.ln 14 2 2,.cl 15 269 [14],.o 16 (.un .not (.s 15)),.m 17 16,.h 18 17 (.mov (.s 6)),.h 19 17 (.bk .lss 18 0),.o 20 (.pick (.s 17) (.q true) (.s 19))] [2,4,6,20] 20 (.r [.o 21 (.build [.t .nil,.t .nil] []),.st 2 4 21,.o 5 (.mov (.q false))] [4,5] .ret) (.r [.o 22 (.bslice 3 1 0 [.z] []),.fa 23 0 2,.l 24 23,.o 25 (.append 3 1 8 false (.s 22) (.s 24)),.o 26 (.build [.t .nil,.t .nil] [(0,1,.s 25)]),.o 7 (.alloc [.t .nil,.t .nil]),.st 2 7 26] [2,4,6,7] (.seq (.r [.mk' 8 0] [2,4,6,7,8] (.block 0 (.loop [2,4,6,7,8] Zlp))) Zlq))))⟩
def Zji(a:Za)(a1:Int):Rs:=C 264 [.agg (a.c.map .t),I a1] []
def Zox(s:Za)(x:List Int)(x1 cc:Int):Rs:=EvL C [.blk 0,.seq Zlq,.fin 0 [.cell 4 (some 2),.tmp 5]] [2,4,6,7,8] Zlp ⟨[(2,.ptr 0 0),(4,.ptr 1 0),(6,I x1),(7,.ptr 2 0),(8,I cc)],[[]],[.box (s.c.map .t),.box [.t .nil,.t .nil],.box [.own 3,.t .nil],.arr 3 1 true (x.map ic)]⟩
def Zoy(s:Za)(x:List Int)(x1 cc i:Int):Rs:=EvL C [.blk 2,.blk 1,.seq Zsf,.loop [2,4,6,7,8] Zlp,.blk 0,.seq Zlq,.fin 0 [.cell 4 (some 2),.tmp 5]] [2,4,6,7,8,9] Zse ⟨[(2,.ptr 0 0),(4,.ptr 1 0),(6,I x1),(7,.ptr 2 0),(8,I cc),(9,I i)],[[]],[.box (s.c.map .t),.box [.t .nil,.t .nil],.box [.own 3,.t .nil],.arr 3 1 true (x.map ic)]⟩
def Zhp(s:Za)(x:List Int)(x1:List (List Int))(x2 cc i:Int):Rs:=EvL C [.blk 2,.blk 1,.seq Zsf,.loop [2,4,6,7,8] Zlp,.blk 0,.seq Zlq,.fin 0 [.cell 4 (some 2),.tmp 5]] [2,4,6,7,8,9] Zse ⟨[(2,.ptr 0 0),(4,.ptr 1 0),(6,I x2),(7,.ptr 2 0),(8,I cc),(9,I i)],[[]],[.box (s.c.map .t),.box [.t .nil,.t .nil],.box [.own 3,.own 4],.arr 3 1 true (x.map ic),.arr 30 1 true (x1.map isc)]⟩
def Zsg(s:Za)(x:List Int)(x1:List (List Int))(x2 cc:Int):Rs:=EvL C [.blk 0,.seq Zlq,.fin 0 [.cell 4 (some 2),.tmp 5]] [2,4,6,7,8] Zlp ⟨[(2,.ptr 0 0),(4,.ptr 1 0),(6,I x2),(7,.ptr 2 0),(8,I cc)],[[]],[.box (s.c.map .t),.box [.t .nil,.t .nil],.box [.own 3,.own 4],.arr 3 1 true (x.map ic),.arr 30 1 true (x1.map isc)]⟩
def Z61:MCode:=.reg [.m 10 6,.bk 11 .add 10 1,.m 6 11] [0,1,5,6]
def Zyi:MCode:=.we [.m 8 6,.bk 9 .lss 8 4] [0,1,5,6,9] 9 0 (.seq (.block 1 (.r [.m 12 0,.m 13 6,.cl 14 148 [12,13],.m 15 14,.h 16 15 (.mov (.s 1)),.h 17 15 (.mov (.s 6)),.h 18 15 (.cl 148 [16,17]),.o 19 (.pick (.s 15) (.q true) (.s 18))] [0,1,5,6,19] (.cond (.s 19) (.reg [.m 20 5,.m 21 6,.o 22 (.bslice 3 1 1 [.z] [(0,.s 21)]),.o 23 (.append 3 1 8 true (.s 20) (.s 22)),.m 5 23] [0,1,5,6]) .skip))) Z61)
def Zyj:MCode:=.r [.m 24 5,.m 4 24] [4] .ret
def Z62:MFun:=⟨2,25,[.tmp 4],.r [.o 4 (.mov (.c (.t .nil)))] [0,1] (.r [.o 7 (.bslice 3 1 0 [.z] []),.m 5 7] [0,1,5] (.seq (.r [.mk' 6 0] [0,1,5,6] (.block 0 (.loop [0,1,5,6] Zyi))) Zyj))⟩
def Zhq(a a1:List Int):Rs:=C 339 [L 1 (a.map ic),L 1 (a1.map ic)] []
def Zjj(c a b:List Int)(v:Int):Rs:=EvL C [.blk 0,.seq Zyj,.fin 0 [.tmp 4]] [0,1,5,6] Zyi ⟨[(0,L 1 (a.map ic)),(1,L 1 (b.map ic)),(5,.own 0),(6,I v)],[[]],[.arr 3 1 true (c.map ic)]⟩
def Zyk:MCode:=.we [.m 11 9,.m 12 0,.ll 13 12,.b 14 .lss 11 13] [0,1,2,3,9,14] 14 0 (.seq (.block 1 (.r [.m 17 2,.m 18 0,.m 19 9,.ia 20 1 18 19,.l 21 20,.cl 22 336 [17,21],.m 10 22] [0,1,2,3,9,10] (.seq (.drw [.m 23 10,.bk 24 .geq 23 0,.m 25 24,.g 26 25 (.mov (.s 1)),.g 27 25 (.mov (.s 9)),.g 28 25 (.ia 1 26 27),.g 29 25 (.l 28),.g 30 25 (.mov (.s 3)),.g 31 25 (.mov (.s 10)),.g 32 25 (.ia 1 30 31),.g 33 25 (.l 32),.g 34 25 (.b .neq 29 33),.o 35 (.pick (.s 25) (.s 34) (.q false))] [[],[0],[1],[2],[2],[3,4,2],[5,2],[2],[2],[7,8,2],[9,2],[6,10,2],[2,11]] [0,1,2,3,9,35]) (.cond (.s 35) (.r [.o 8 (.mov (.q false))] [8] .ret) .skip)))) (.reg [.m 15 9,.bk 16 .add 15 1,.m 9 16] [0,1,2,3,9]))
def Zyl:MCode:=.r [.o 8 (.mov (.q true))] [8] .ret
def Z63:MFun:=⟨4,36,[.tmp 8],.r [.o 8 (.mov (.q false))] [0,1,2,3] (.seq (.r [.mk' 9 0] [0,1,2,3,9] (.block 0 (.loop [0,1,2,3,9] Zyk))) Zyl)⟩
def Zbq(a a1 a2 a3:List Int):Rs:=C 395 [L 1 (a.map ic),L 1 (a1.map ic),L 1 (a2.map ic),L 1 (a3.map ic)] []
def Zlr(a x b y:List Int)(i:Int):Rs:=EvL C [.blk 0,.seq Zyl,.fin 0 [.tmp 8]] [0,1,2,3,9] Zyk ⟨[(0,L 1 (a.map ic)),(1,L 1 (x.map ic)),(2,L 1 (b.map ic)),(3,L 1 (y.map ic)),(9,I i)],[[]],[]⟩
def Z64:MCode:=.reg [.m 19 12,.bk 20 .add 19 1,.m 12 20] [0,1,2,3,4,11,12]
def Zym:MCode:=.we [.m 15 12,.m 16 0,.ll 17 16,.b 18 .lss 15 17] [0,1,2,3,4,11,12,18] 18 0 (.seq (.block 1 (.r [.m 21 1,.m 22 0,.m 23 12,.ia 24 1 22 23,.l 25 24,.cl 26 336 [21,25],.m 13 26] [0,1,2,3,4,11,12,13] (.r [.m 27 13,.bk 28 .geq 27 0] [0,1,2,3,4,11,12,13,28] (.cond (.s 28) (.reg [.m 29 11,.m 30 2,.m 31 13,.ia 32 1 30 31,.l 33 32,.o 34 (.bslice 3 1 1 [.z] [(0,.s 33)]),.o 35 (.append 3 1 8 true (.s 29) (.s 34)),.m 11 35] [0,1,2,3,4,11,12]) (.reg [.m 36 11,.m 37 4,.m 38 3,.m 39 0,.m 40 12,.ia 41 1 39 40,.l 42 41,.cl 43 336 [38,42],.ia 44 1 37 43,.l 45 44,.o 46 (.bslice 3 1 1 [.z] [(0,.s 45)]),.o 47 (.append 3 1 8 true (.s 36) (.s 46)),.m 11 47] [0,1,2,3,4,11,12]))))) Z64)
def Zyn:MCode:=.r [.m 48 11,.m 10 48] [10] .ret
def Z65:MFun:=⟨5,49,[.tmp 10],.r [.o 10 (.mov (.c (.t .nil)))] [0,1,2,3,4] (.r [.o 14 (.bslice 3 1 0 [.z] []),.m 11 14] [0,1,2,3,4,11] (.seq (.r [.mk' 12 0] [0,1,2,3,4,11,12] (.block 0 (.loop [0,1,2,3,4,11,12] Zym))) Zyn))⟩
def Zbr(a a1 a2 a3 a4:List Int):Rs:=C 396 [L 1 (a.map ic),L 1 (a1.map ic),L 1 (a2.map ic),L 1 (a3.map ic),L 1 (a4.map ic)] []
def Zls(cc c a x b y:List Int)(i:Int):Rs:=EvL C [.blk 0,.seq Zyn,.fin 0 [.tmp 10]] [0,1,2,3,4,11,12] Zym ⟨[(0,L 1 (c.map ic)),(1,L 1 (a.map ic)),(2,L 1 (x.map ic)),(3,L 1 (b.map ic)),(4,L 1 (y.map ic)),(11,.own 0),(12,I i)],[[]],[.arr 3 1 true (cc.map ic)]⟩
def Zyo:MCode:=.r [.m 84 4,.bk 85 .lss 84 0,.m 86 85,.h 87 86 (.mov (.s 18)),.h 88 86 (.mov (.s 13)),.h 89 86 (.ia 1 87 88),.h 90 86 (.l 89),.h 91 86 (.mov (.s 4)),.h 92 86 (.b .eql 90 91),.o 93 (.pick (.s 86) (.q true) (.s 92)),.m 94 93,.g 95 94 (.fa 0 6),.g 96 94 (.l 95),.g 97 94 (.mov (.s 18)),.g 98 94 (.fa 0 7),.g 99 94 (.l 98),.g 100 94 (.mov (.s 19)),.g 101 94 (.cl 395 [96,97,99,100]),.o 102 (.pick (.s 94) (.s 101) (.q false))] [2,4,6,7,11,12,13,14,15,16,17,18,19,102] (.cond (.s 102) (.drw [.fa 103 1 11,.l 104 103,.fa 105 0 11,.l 106 105,.fa 107 0 6,.l 108 107,.m 109 18,.fa 110 0 7,.l 111 110,.m 112 19,.cl 113 396 [106,108,109,111,112],.o 114 (.bslice 30 1 1 [.lst 1 []] [(0,.s 113)]),.o 115 (.append 30 1 24 true (.s 104) (.s 114)),.fa 116 1 11,.st 1 116 115] [[],[0],[],[2],[],[4],[],[],[7],[],[3,5,6,8,9],[10],[1,11,10],[0,1,2,3,4,5,6,7,8,9,10,11,12],[13,12,12,0,1,2,3,4,5,6,7,8,9,10,11,12]] [2,4,6,7,11,12,13,14,15,16,17]) .skip)
def Zjk:MCode:=.we [.m 42 17,.m 43 15,.b 44 .lss 42 43,.m 45 44,.g 46 45 (.fa 1 11),.g 47 45 (.l 46),.g 48 45 (.ll 47),.g 49 45 (.bk .leq 48 4096),.o 50 (.pick (.s 45) (.s 49) (.q false))] [2,4,6,7,11,12,13,14,15,16,17,50] 50 2 (.seq (.block 3 (.r [.fa 53 1 6,.l 54 53,.m 55 16,.fa 56 1 6,.l 57 56,.ll 58 57,.bk 59 .sub 58 1,.o 60 (.mm false (.s 55) (.s 59)),.ia 61 1 54 60,.l 62 61,.m 18 62] [2,4,6,7,11,12,13,14,15,16,17,18] (.r [.fa 63 1 7,.l 64 63,.m 65 17,.fa 66 1 7,.l 67 66,.ll 68 67,.bk 69 .sub 68 1,.o 70 (.mm false (.s 65) (.s 69)),.ia 71 1 64 70,.l 72 71,.m 19 72] [2,4,6,7,11,12,13,14,15,16,17,18,19] (.wc [.m 73 2] [2,4,6,7,11,12,13,14,15,16,17,18,19,73] 73 (.r [.fa 74 1 6,.l 75 74,.m 76 17,.ia 77 1 75 76,.l 78 77,.m 18 78] [2,4,6,7,11,12,13,14,15,16,17,18] (.reg [.fa 79 1 7,.l 80 79,.m 81 16,.ia 82 1 80 81,.l 83 82,.m 19 83] [2,4,6,7,11,12,13,14,15,16,17,18,19])) Zyo)))) (.reg [.m 51 17,.bk 52 .add 51 1,.m 17 52] [2,4,6,7,11,12,13,14,15,16,17]))
def Zjl:MCode:=.reg [.m 40 16,.bk 41 .add 40 1,.m 16 41] [2,4,6,7,11,12,13,14,15,16]
def Zd7:MCode:=.we [.m 37 16,.m 38 14,.b 39 .lss 37 38] [2,4,6,7,11,12,13,14,15,16,39] 39 0 (.seq (.block 1 (.r [.mk' 17 0] [2,4,6,7,11,12,13,14,15,16,17] (.block 2 (.loop [2,4,6,7,11,12,13,14,15,16,17] Zjk)))) Zjl)
def Zd8:MCode:=.r [.ln 117 2 11,.st 2 12 117] [12] .ret
def Zyp:MCode:=.seq (.r [.mk' 16 0] [2,4,6,7,11,12,13,14,15,16] (.block 0 (.loop [2,4,6,7,11,12,13,14,15,16] Zd7))) Zd8
def Zyq:MFun:=⟨6,118,[.cell 12 (some 2)],.r [.bx 6 0,.bx 7 1,.bx 11 5,.o 12 (.alloc [.t .nil,.t .nil])] [2,3,4,6,7,11,12] (.r [.fa 20 0 6,.l 21 20,.m 22 3,.cl 23 336 [21,22],.m 13 23] [2,4,6,7,11,12,13] (.r [.fa 24 1 6,.l 25 24,.ll 26 25,.m 14 26] [2,4,6,7,11,12,13,14] (.r [.fa 27 1 7,.l 28 27,.ll 29 28,.m 15 29] [2,4,6,7,11,12,13,14,15] (.wc [.m 30 2] [2,4,6,7,11,12,13,14,15,30] 30 (.r [.fa 31 1 7,.l 32 31,.ll 33 32,.m 14 33] [2,4,6,7,11,12,13,14] (.reg [.fa 34 1 6,.l 35 34,.ll 36 35,.m 15 36] [2,4,6,7,11,12,13,14,15])) Zyp))))⟩
def Zd9(x:List Int)(a a1:Za)(a2:Bool)(a3 a4:Int):Rs:=C 338 [.agg (a.c.map .t),.agg (a1.c.map .t),Bo a2,I a3,I a4,.agg [.own 0,.t .nil]] [.arr 3 1 true (x.map ic)]
def Zjm(a b:Za)(x:List Int)(cl:Bool)(only x1 cd cc i:Int):Rs:=EvL C [.blk 0,.seq Zd8,.fin 1 [.cell 12 (some 2)]] [2,4,6,7,11,12,13,14,15,16] Zd7 ⟨[(2,Bo cl),(4,I only),(6,.ptr 0 0),(7,.ptr 1 0),(11,.ptr 2 0),(12,.ptr 4 0),(13,I x1),(14,I cd),(15,I cc),(16,I i)],[[(0,.own 3)]],[.box (a.c.map .t),.box (b.c.map .t),.box [.own 3,.t .nil],.arr 3 1 true (x.map ic),.box [.t .nil,.t .nil]]⟩
def Zea(a b:Za)(x:List Int)(cl:Bool)(only x1 cd cc i k:Int):Rs:=EvL C [.blk 2,.blk 1,.seq Zjl,.loop [2,4,6,7,11,12,13,14,15,16] Zd7,.blk 0,.seq Zd8,.fin 1 [.cell 12 (some 2)]] [2,4,6,7,11,12,13,14,15,16,17] Zjk ⟨[(2,Bo cl),(4,I only),(6,.ptr 0 0),(7,.ptr 1 0),(11,.ptr 2 0),(12,.ptr 4 0),(13,I x1),(14,I cd),(15,I cc),(16,I i),(17,I k)],[[(0,.own 3)]],[.box (a.c.map .t),.box (b.c.map .t),.box [.own 3,.t .nil],.arr 3 1 true (x.map ic),.box [.t .nil,.t .nil]]⟩
def Zb9(a b:Za)(x:List Int)(x1:List (List Int))(cl:Bool)(only x2 cd cc i k:Int):Rs:=EvL C [.blk 2,.blk 1,.seq Zjl,.loop [2,4,6,7,11,12,13,14,15,16] Zd7,.blk 0,.seq Zd8,.fin 1 [.cell 12 (some 2)]] [2,4,6,7,11,12,13,14,15,16,17] Zjk ⟨[(2,Bo cl),(4,I only),(6,.ptr 0 0),(7,.ptr 1 0),(11,.ptr 2 0),(12,.ptr 5 0),(13,I x2),(14,I cd),(15,I cc),(16,I i),(17,I k)],[[(0,.own 3)]],[.box (a.c.map .t),.box (b.c.map .t),.box [.own 3,.own 4],.arr 3 1 true (x.map ic),.arr 30 1 true (x1.map isc),.box [.t .nil,.t .nil]]⟩
def Zlt(a b:Za)(x:List Int)(x1:List (List Int))(cl:Bool)(only x2 cd cc i:Int):Rs:=EvL C [.blk 0,.seq Zd8,.fin 1 [.cell 12 (some 2)]] [2,4,6,7,11,12,13,14,15,16] Zd7 ⟨[(2,Bo cl),(4,I only),(6,.ptr 0 0),(7,.ptr 1 0),(11,.ptr 2 0),(12,.ptr 5 0),(13,I x2),(14,I cd),(15,I cc),(16,I i)],[[(0,.own 3)]],[.box (a.c.map .t),.box (b.c.map .t),.box [.own 3,.own 4],.arr 3 1 true (x.map ic),.arr 30 1 true (x1.map isc),.box [.t .nil,.t .nil]]⟩
def Z66:MFun:=⟨1,10,[.cell 2 (some 2),.tmp 3],.r [.bx 1 0,.o 2 (.alloc [.t .nil,.t .nil]),.o 3 (.mov (.q false))] [1,2] (.wc [.fa 4 1 1,.l 5 4,.ll 6 5,.bk 7 .gtr 6 4096] [1,2,7] 7 (.r [.o 8 (.build [.t .nil,.t .nil] []),.st 2 2 8,.o 3 (.mov (.q false))] [2,3] .ret) (.r [.ln 9 2 1,.st 2 2 9,.o 3 (.mov (.q true))] [2,3] .ret))⟩
def Zlu(x:List Int):Rs:=C 337 [.agg [.own 0,.t .nil]] [.arr 3 1 true (x.map ic)]
def Zfj(x:List Int)(x1:List (List Int)):Rs:=C 337 [.agg [.own 0,.own 1]] [.arr 3 1 true (x.map ic),.arr 30 1 true (x1.map isc)]
def Z67:MFun:=⟨2,32,[.cell 4 (some 2),.tmp 5],.r [.bx 2 0,.bx 3 1,.o 4 (.alloc [.t .nil,.t .nil]),.o 5 (.mov (.q false))] [2,3,4] (.wc [.ln 8 2 2,.cl 9 269 [8],.o 10 (.un .not (.s 9)),.m 11 10,.h 12 11 (.ln 2 3),.h 13 11 (.cl 269 [12]),.h 14 11 (.un .not (.s 13)),.o 15 (.pick (.s 11) (.q true) (.s 14))] [2,3,4,15] 15 (.r [.o 16 (.build [.t .nil,.t .nil] []),.st 2 4 16,.o 5 (.mov (.q false))] [4,5] .ret) (.seq (.drw [.ln 18 2 2,.ln 19 2 3,.fa 20 0 2,.l 21 20,.fa 22 0 3,.l 23 22,.cl 24 339 [21,23],.o 25 (.build [.t .nil,.t .nil] [(0,1,.s 24)]),.o 26 (.icall 338 [.s 18,.s 19,.q true,.c (.t .z),.c (.t (.int .i64 (-1))),.s 25]),.o 27 (.icall 337 [.s 26]),.m 17 27,.o 28 (.ext (.s 17) 0),.o 29 (.ext (.s 17) 1),.o 6 (.alloc [.t .nil,.t .nil]),.st 2 6 28,.m 7 29] [[],[],[],[2],[],[4],[3,5],[6],[0,1,7,6],[8,8],[9],[10],[10],[],[13,11,9,0,1,2,3,4,5,6,7,8,9,10,11,13],[12,14,0,1,2,3,4,5,6,7,8,9,10,11,12,13,14]] [4,6,7]) (.r [.ln 30 2 6,.m 31 7,.st 2 4 30,.m 5 31] [4,5] .ret)))⟩
def Zjn(a a1:Za):Rs:=C 265 [.agg (a.c.map .t),.agg (a1.c.map .t)] []
def Z68:MFun:=⟨2,32,[.cell 4 (some 2),.tmp 5],.r [.bx 2 0,.bx 3 1,.o 4 (.alloc [.t .nil,.t .nil]),.o 5 (.mov (.q false))] [2,3,4] (.wc [.ln 8 2 2,.cl 9 269 [8],.o 10 (.un .not (.s 9)),.m 11 10,.h 12 11 (.ln 2 3),.h 13 11 (.cl 269 [12]),.h 14 11 (.un .not (.s 13)),.o 15 (.pick (.s 11) (.q true) (.s 14))] [2,3,4,15] 15 (.r [.o 16 (.build [.t .nil,.t .nil] []),.st 2 4 16,.o 5 (.mov (.q false))] [4,5] .ret) (.seq (.drw [.ln 18 2 2,.ln 19 2 3,.fa 20 0 2,.l 21 20,.fa 22 0 3,.l 23 22,.cl 24 339 [21,23],.o 25 (.build [.t .nil,.t .nil] [(0,1,.s 24)]),.o 26 (.icall 338 [.s 18,.s 19,.q false,.c (.t .z),.c (.t (.int .i64 (-1))),.s 25]),.o 27 (.icall 337 [.s 26]),.m 17 27,.o 28 (.ext (.s 17) 0),.o 29 (.ext (.s 17) 1),.o 6 (.alloc [.t .nil,.t .nil]),.st 2 6 28,.m 7 29] [[],[],[],[2],[],[4],[3,5],[6],[0,1,7,6],[8,8],[9],[10],[10],[],[13,11,9,0,1,2,3,4,5,6,7,8,9,10,11,13],[12,14,0,1,2,3,4,5,6,7,8,9,10,11,12,13,14]] [4,6,7]) (.r [.ln 30 2 6,.m 31 7,.st 2 4 30,.m 5 31] [4,5] .ret)))⟩
def Zjo(a a1:Za):Rs:=C 266 [.agg (a.c.map .t),.agg (a1.c.map .t)] []
def Zyr:MCode:=.we [.m 18 6,.fa 19 1 2,.l 20 19,.ll 21 20,.b 22 .lss 18 21] [2,5,6,22] 22 0 (.seq (.block 1 (.seq (.drw [.fa 25 1 2,.l 26 25,.m 27 6,.bk 28 .sub 27 1,.ia 29 1 26 28,.l 30 29,.m 31 5,.ia 32 1 30 31,.l 33 32,.fa 34 1 2,.l 35 34,.m 36 6,.ia 37 1 35 36,.l 38 37,.m 39 5,.ia 40 1 38 39,.l 41 40,.b 42 .gtr 33 41] [[],[0],[],[2],[1,3],[4],[],[5,6],[7],[],[9],[],[10,11],[12],[],[13,14],[15],[8,16]] [2,5,6,42]) (.cond (.s 42) (.r [.o 4 (.mov (.q false))] [4] .ret) .skip))) (.reg [.m 23 6,.bk 24 .add 23 1,.m 6 24] [2,5,6]))
def Zys:MCode:=.r [.o 4 (.mov (.q true))] [4] .ret
def Z69:MFun:=⟨2,43,[.tmp 4],.r [.bx 2 0,.o 4 (.mov (.q false))] [1,2] (.r [.fa 7 0 2,.l 8 7,.m 9 1,.cl 10 336 [8,9],.m 5 10] [2,5] (.wc [.ln 11 2 2,.cl 12 269 [11],.o 13 (.un .not (.s 12)),.m 14 13,.h 15 14 (.mov (.s 5)),.h 16 14 (.bk .lss 15 0),.o 17 (.pick (.s 14) (.q true) (.s 16))] [2,5,17] 17 (.r [.o 4 (.mov (.q false))] [4] .ret) (.seq (.r [.mk' 6 1] [2,5,6] (.block 0 (.loop [2,5,6] Zyr))) Zys)))⟩
def Zoz(a:Za)(a1:Int):Rs:=C 340 [.agg (a.c.map .t),I a1] []
def Zo0(s:Za)(x i:Int):Rs:=EvL C [.blk 0,.seq Zys,.fin 0 [.tmp 4]] [2,5,6] Zyr ⟨[(2,.ptr 0 0),(5,I x),(6,I i)],[[]],[.box (s.c.map .t)]⟩
def Zo1(x:List Int)(x1:List (List Int))(a a1:Za)(a2:Bool)(a3 a4:Int):Rs:=C 338 [.agg (a.c.map .t),.agg (a1.c.map .t),Bo a2,I a3,I a4,.agg [.own 0,.own 1]] [.arr 3 1 true (x.map ic),.arr 30 1 true (x1.map isc)]
def Zjp(a b:Za)(x:List Int)(x1:List (List Int))(cl:Bool)(only x2 cd cc i:Int):Rs:=EvL C [.blk 0,.seq Zd8,.fin 2 [.cell 12 (some 2)]] [2,4,6,7,11,12,13,14,15,16] Zd7 ⟨[(2,Bo cl),(4,I only),(6,.ptr 0 0),(7,.ptr 1 0),(11,.ptr 2 0),(12,.ptr 5 0),(13,I x2),(14,I cd),(15,I cc),(16,I i)],[[(0,.own 3),(1,.own 4)]],[.box (a.c.map .t),.box (b.c.map .t),.box [.own 3,.own 4],.arr 3 1 true (x.map ic),.arr 30 1 true (x1.map isc),.box [.t .nil,.t .nil]]⟩
def Ze4(a b:Za)(x:List Int)(x1:List (List Int))(cl:Bool)(only x2 cd cc i k:Int):Rs:=EvL C [.blk 2,.blk 1,.seq Zjl,.loop [2,4,6,7,11,12,13,14,15,16] Zd7,.blk 0,.seq Zd8,.fin 2 [.cell 12 (some 2)]] [2,4,6,7,11,12,13,14,15,16,17] Zjk ⟨[(2,Bo cl),(4,I only),(6,.ptr 0 0),(7,.ptr 1 0),(11,.ptr 2 0),(12,.ptr 5 0),(13,I x2),(14,I cd),(15,I cc),(16,I i),(17,I k)],[[(0,.own 3),(1,.own 4)]],[.box (a.c.map .t),.box (b.c.map .t),.box [.own 3,.own 4],.arr 3 1 true (x.map ic),.arr 30 1 true (x1.map isc),.box [.t .nil,.t .nil]]⟩
def Zca(a b:Za)(x:List Int)(x1:List (List Int))(cl:Bool)(only x2 cd cc i k:Int):Rs:=EvL C [.blk 2,.blk 1,.seq Zjl,.loop [2,4,6,7,11,12,13,14,15,16] Zd7,.blk 0,.seq Zd8,.fin 2 [.cell 12 (some 2)]] [2,4,6,7,11,12,13,14,15,16,17] Zjk ⟨[(2,Bo cl),(4,I only),(6,.ptr 0 0),(7,.ptr 1 0),(11,.ptr 2 0),(12,.ptr 5 0),(13,I x2),(14,I cd),(15,I cc),(16,I i),(17,I k)],[[(0,.own 3),(1,.own 6)]],[.box (a.c.map .t),.box (b.c.map .t),.box [.own 3,.own 4],.arr 3 1 true (x.map ic),.arr 30 1 true (x1.map isc),.box [.t .nil,.t .nil],.dead]⟩
def Zlv(a b:Za)(x:List Int)(x1:List (List Int))(cl:Bool)(only x2 cd cc i:Int):Rs:=EvL C [.blk 0,.seq Zd8,.fin 2 [.cell 12 (some 2)]] [2,4,6,7,11,12,13,14,15,16] Zd7 ⟨[(2,Bo cl),(4,I only),(6,.ptr 0 0),(7,.ptr 1 0),(11,.ptr 2 0),(12,.ptr 5 0),(13,I x2),(14,I cd),(15,I cc),(16,I i)],[[(0,.own 3),(1,.own 6)]],[.box (a.c.map .t),.box (b.c.map .t),.box [.own 3,.own 4],.arr 3 1 true (x.map ic),.arr 30 1 true (x1.map isc),.box [.t .nil,.t .nil],.dead]⟩
def Zsh:MCode:=.we [.m 29 9,.bk 30 .leq 29 9] [2,3,4,6,8,9,30] 30 0 (.seq (.block 1 (.reg [.ln 33 2 3,.ln 34 2 4,.m 35 2,.m 36 9,.ln 37 2 8,.o 38 (.icall 338 [.s 33,.s 34,.q false,.s 35,.s 36,.s 37]),.st 2 8 38] [2,3,4,6,8,9])) (.reg [.m 31 9,.bk 32 .add 31 1,.m 9 32] [2,3,4,6,8,9]))
def Zsi:MCode:=.r [.ln 40 2 8,.o 41 (.icall 337 [.s 40]),.m 39 41,.o 42 (.ext (.s 39) 0),.o 43 (.ext (.s 39) 1),.o 10 (.alloc [.t .nil,.t .nil]),.st 2 10 42,.m 11 43] [6,10,11] (.r [.ln 44 2 10,.m 45 11,.st 2 6 44,.m 7 45] [6,7] .ret)
def Z7a:MFun:=⟨3,46,[.cell 6 (some 2),.tmp 7],.r [.bx 3 0,.bx 4 1,.o 6 (.alloc [.t .nil,.t .nil]),.o 7 (.mov (.q false))] [2,3,4,6] (.wc [.ln 12 2 3,.m 13 2,.cl 14 340 [12,13],.o 15 (.un .not (.s 14)),.m 16 15,.h 17 16 (.ln 2 4),.h 18 16 (.mov (.s 2)),.h 19 16 (.cl 340 [17,18]),.h 20 16 (.un .not (.s 19)),.o 21 (.pick (.s 16) (.q true) (.s 20))] [2,3,4,6,21] 21 (.r [.o 22 (.build [.t .nil,.t .nil] []),.st 2 6 22,.o 7 (.mov (.q false))] [6,7] .ret) (.r [.fa 23 0 3,.l 24 23,.fa 25 0 4,.l 26 25,.cl 27 339 [24,26],.o 28 (.build [.t .nil,.t .nil] [(0,1,.s 27)]),.o 8 (.alloc [.t .nil,.t .nil]),.st 2 8 28] [2,3,4,6,8] (.seq (.r [.mk' 9 0] [2,3,4,6,8,9] (.block 0 (.loop [2,3,4,6,8,9] Zsh))) Zsi)))⟩
def Zlw(a a1:Za)(a2:Int):Rs:=C 267 [.agg (a.c.map .t),.agg (a1.c.map .t),I a2] []
def Zo2(a b:Za)(x:List Int)(v cc:Int):Rs:=EvL C [.blk 0,.seq Zsi,.fin 0 [.cell 6 (some 2),.tmp 7]] [2,3,4,6,8,9] Zsh ⟨[(2,I v),(3,.ptr 0 0),(4,.ptr 1 0),(6,.ptr 2 0),(8,.ptr 3 0),(9,I cc)],[[]],[.box (a.c.map .t),.box (b.c.map .t),.box [.t .nil,.t .nil],.box [.own 4,.t .nil],.arr 3 1 true (x.map ic)]⟩
def Zlx(a b:Za)(x:List Int)(x1:List (List Int))(v cc:Int):Rs:=EvL C [.blk 0,.seq Zsi,.fin 0 [.cell 6 (some 2),.tmp 7]] [2,3,4,6,8,9] Zsh ⟨[(2,I v),(3,.ptr 0 0),(4,.ptr 1 0),(6,.ptr 2 0),(8,.ptr 3 0),(9,I cc)],[[]],[.box (a.c.map .t),.box (b.c.map .t),.box [.t .nil,.t .nil],.box [.own 4,.own 5],.arr 3 1 true (x.map ic),.arr 30 1 true (x1.map isc)]⟩
def Z7b:MCode:=.reg [.m 148 11,.ln 149 2 13,.o 150 (.bslice 199 2 1 [.lst 1 [],.lst 1 []] [(0,.s 149)]),.o 151 (.append 199 2 48 true (.s 148) (.s 150)),.m 11 151] [3,4,5,9,11,12]
def Zyt:MCode:=.we [.m 31 12,.m 32 9,.ll 33 32,.b 34 .lss 31 33] [3,4,5,9,11,12,34] 34 0 (.seq (.block 1 (.r [.o 37 (.build [.t .nil,.t .nil] []),.o 13 (.alloc [.t .nil,.t .nil]),.st 2 13 37] [3,4,5,9,11,12,13] (.seq (.r [.fa 38 0 5,.l 39 38,.m 40 12,.ia 41 3 39 40,.fa 42 0 41,.l 43 42] [3,4,5,9,11,12,13,43] (.block 2 (.r [.bk 71 .eql 43 1,.m 70 71] [3,4,5,9,11,12,13,43,70] (.cond (.s 70) (.drw [.ln 73 1 3,.ln 74 2 4,.fa 75 0 5,.l 76 75,.m 77 12,.ia 78 3 76 77,.fa 79 1 78,.l 80 79,.cl 81 263 [73,74,80],.m 72 81,.o 82 (.ext (.s 72) 0),.o 83 (.ext (.s 72) 1),.st 2 13 82] [[],[],[],[2],[],[3,4],[5],[6],[0,1,7],[8],[9],[9],[10,8,0,1,2,3,4,5,6,7,8,9,10]] [3,4,5,9,11,12,13]) (.r [.bk 85 .eql 43 2,.m 84 85] [3,4,5,9,11,12,13,43,84] (.cond (.s 84) (.drw [.m 87 11,.m 88 9,.m 89 12,.ia 90 4 88 89,.fa 91 2 90,.l 92 91,.ia 93 2 87 92,.ln 94 2 93,.fa 95 0 5,.l 96 95,.m 97 12,.ia 98 3 96 97,.fa 99 2 98,.l 100 99,.cl 101 264 [94,100],.m 86 101,.o 102 (.ext (.s 86) 0),.o 103 (.ext (.s 86) 1),.st 2 13 102] [[],[],[],[1,2],[3],[4],[0,5],[6],[],[8],[],[9,10],[11],[12],[7,13],[14],[15],[15],[16,14,0,1,2,3,4,5,6,7,8,9,10,11,12,13,14,15,16]] [3,4,5,9,11,12,13]) (.r [.bk 105 .eql 43 3,.m 104 105] [3,4,5,9,11,12,13,43,104] (.cond (.s 104) (.drw [.m 107 11,.m 108 9,.m 109 12,.ia 110 4 108 109,.fa 111 2 110,.l 112 111,.ia 113 2 107 112,.ln 114 2 113,.m 115 11,.m 116 9,.m 117 12,.ia 118 4 116 117,.fa 119 3 118,.l 120 119,.ia 121 2 115 120,.ln 122 2 121,.cl 123 265 [114,122],.m 106 123,.o 124 (.ext (.s 106) 0),.o 125 (.ext (.s 106) 1),.st 2 13 124] [[],[],[],[1,2],[3],[4],[0,5],[6],[],[],[],[9,10],[11],[12],[8,13],[14],[7,15],[16],[17],[17],[18,16,0,1,2,3,4,5,6,7,8,9,10,11,12,13,14,15,16,17,18]] [3,4,5,9,11,12,13]) (.r [.bk 127 .eql 43 5,.m 126 127] [3,4,5,9,11,12,13,126] (.cond (.s 126) (.drw [.m 129 11,.m 130 9,.m 131 12,.ia 132 4 130 131,.fa 133 2 132,.l 134 133,.ia 135 2 129 134,.ln 136 2 135,.m 137 11,.m 138 9,.m 139 12,.ia 140 4 138 139,.fa 141 3 140,.l 142 141,.ia 143 2 137 142,.ln 144 2 143,.cl 145 266 [136,144],.m 128 145,.o 146 (.ext (.s 128) 0),.o 147 (.ext (.s 128) 1),.st 2 13 146] [[],[],[],[1,2],[3],[4],[0,5],[6],[],[],[],[9,10],[11],[12],[8,13],[14],[7,15],[16],[17],[17],[18,16,0,1,2,3,4,5,6,7,8,9,10,11,12,13,14,15,16,17,18]] [3,4,5,9,11,12,13]) (.drw [.m 45 11,.m 46 9,.m 47 12,.ia 48 4 46 47,.fa 49 2 48,.l 50 49,.ia 51 2 45 50,.ln 52 2 51,.m 53 11,.m 54 9,.m 55 12,.ia 56 4 54 55,.fa 57 3 56,.l 58 57,.ia 59 2 53 58,.ln 60 2 59,.fa 61 0 5,.l 62 61,.m 63 12,.ia 64 3 62 63,.fa 65 2 64,.l 66 65,.cl 67 267 [52,60,66],.m 44 67,.o 68 (.ext (.s 44) 0),.o 69 (.ext (.s 44) 1),.st 2 13 68] [[],[],[],[1,2],[3],[4],[0,5],[6],[],[],[],[9,10],[11],[12],[8,13],[14],[],[16],[],[17,18],[19],[20],[7,15,21],[22],[23],[23],[24,22,0,1,2,3,4,5,6,7,8,9,10,11,12,13,14,15,16,17,18,19,20,21,22,23,24]] [3,4,5,9,11,12,13]))))))))))) Z7b))) (.reg [.m 35 12,.bk 36 .add 35 1,.m 12 36] [3,4,5,9,11,12]))
def Zyu:MCode:=.r [.m 152 11,.m 153 9,.m 6 152,.m 7 153,.o 8 (.mov (.q true))] [6,7,8] .ret
def Z7c:MFun:=⟨3,154,[.tmp 6,.tmp 7,.tmp 8],.r [.bx 3 0,.bx 4 1,.bx 5 2,.o 6 (.mov (.c (.t .nil))),.o 7 (.mov (.c (.t .nil))),.o 8 (.mov (.q false))] [3,4,5] (.r [.ln 15 2 4,.ln 16 1 5,.cl 17 161 [15,16],.m 14 17,.o 18 (.ext (.s 14) 0),.o 19 (.ext (.s 14) 1),.m 9 18,.m 10 19] [3,4,5,9,10] (.r [.o 20 (.bslice 199 2 0 [.lst 1 [],.lst 1 []] []),.m 11 20] [3,4,5,9,10,11] (.wc [.m 21 10,.o 22 (.un .not (.s 21)),.m 23 22,.h 24 23 (.ln 1 3),.h 25 23 (.ln 2 4),.h 26 23 (.cl 178 [24,25]),.h 27 23 (.un .not (.s 26)),.o 28 (.pick (.s 23) (.q true) (.s 27))] [3,4,5,9,11,28] 28 (.r [.m 29 11,.m 30 9,.m 6 29,.m 7 30,.o 8 (.mov (.q false))] [6,7,8] .ret) (.seq (.r [.mk' 12 0] [3,4,5,9,11,12] (.block 0 (.loop [3,4,5,9,11,12] Zyt))) Zyu))))⟩
def Zly(a:Zk)(a1:Zd)(a2:Plan):Rs:=C 144 [.agg (a.c.map .t),.agg (a1.c.map .t),.agg (a2.c.map .t)] []
def Zcc(d:Zk)(q:Zd)(p:Plan)(cc:List Zb)(cd:List Za)(i:Int):Rs:=EvL C [.blk 0,.seq Zyu,.fin 0 [.tmp 6,.tmp 7,.tmp 8]] [3,4,5,9,11,12] Zyt ⟨[(3,.ptr 0 0),(4,.ptr 1 0),(5,.ptr 2 0),(9,.own 3),(11,.own 4),(12,I i)],[[]],[.box (d.c.map .t),.box (q.c.map .t),.box (p.c.map .t),.arr 209 4 true (cc.map Zb.c),.arr 199 2 true (cd.map Za.c)]⟩
def Z7d:MFun:=⟨2,24,[.cell 4 (some 6)],.r [.bx 2 0,.o 4 (.alloc [.t .z,.t .z,.t .z,.t .z,.t .z,.t .nil])] [1,2,4] (.seq (.r [.m 5 1] [2,4,5] (.block 0 (.r [.bk 7 .eql 5 1,.m 6 7] [2,4,5,6] (.cond (.s 6) (.r [.fa 8 0 2,.ln 9 6 8,.st 6 4 9] [4] .ret) (.r [.bk 11 .eql 5 2,.m 10 11] [2,4,5,10] (.cond (.s 10) (.r [.fa 12 6 2,.ln 13 6 12,.st 6 4 13] [4] .ret) (.r [.bk 15 .eql 5 3,.m 14 15] [2,4,5,14] (.cond (.s 14) (.r [.fa 16 12 2,.ln 17 6 16,.st 6 4 17] [4] .ret) (.r [.bk 19 .eql 5 4,.m 18 19] [2,4,18] (.cond (.s 18) (.r [.fa 20 18 2,.ln 21 6 20,.st 6 4 21] [4] .ret) .skip)))))))))) (.r [.fa 22 24 2,.ln 23 6 22,.st 6 4 23] [4] .ret))⟩
def Zjq(a:Zj)(a1:Int):Rs:=C 164 [.agg (a.c.map .t),I a1] []
def Z7e:MFun:=⟨1,5,[.tmp 2],.r [.o 2 (.mov (.q false))] [0] (.r [.m 3 0,.o 4 (.call 122 [.s 3,.c (.t (.int .i64 (-99))),.c (.t (.int .i64 99))]),.m 2 4] [2] .ret)⟩
def Zfk(a:Int):Rs:=C 350 [I a] []
def Zyv:MCode:=.we [.m 38 3,.fa 39 5 1,.l 40 39,.ll 41 40,.b 42 .lss 38 41] [1,3,42] 42 0 (.seq (.block 1 (.seq (.drw [.fa 45 5 1,.l 46 45,.m 47 3,.ia 48 2 46 47,.fa 49 0 48,.l 50 49,.o 51 (.call 122 [.s 50,.c (.t (.int .i64 1)),.c (.t (.int .i64 8192))]),.o 52 (.un .not (.s 51)),.m 53 52,.h 54 53 (.fa 5 1),.h 55 53 (.l 54),.h 56 53 (.mov (.s 3)),.h 57 53 (.ia 2 55 56),.h 58 53 (.fa 1 57),.h 59 53 (.l 58),.h 60 53 (.cl 350 [59]),.h 61 53 (.un .not (.s 60)),.o 62 (.pick (.s 53) (.q true) (.s 61)),.m 63 62,.h 64 63 (.mov (.s 3)),.h 65 63 (.bk .gtr 64 0),.h 66 63 (.mov (.s 65)),.g 67 66 (.fa 5 1),.g 68 66 (.l 67),.g 69 66 (.mov (.s 3)),.g 70 66 (.bk .sub 69 1),.g 71 66 (.ia 2 68 70),.g 72 66 (.fa 0 71),.g 73 66 (.l 72),.g 74 66 (.fa 5 1),.g 75 66 (.l 74),.g 76 66 (.mov (.s 3)),.g 77 66 (.ia 2 75 76),.g 78 66 (.fa 0 77),.g 79 66 (.l 78),.g 80 66 (.b .geq 73 79),.h 81 63 (.pick (.s 66) (.s 80) (.q false)),.o 82 (.pick (.s 63) (.q true) (.s 81))] [[],[0],[],[1,2],[3],[4],[5],[6],[7,6],[8],[9,8],[8],[10,11,8],[12,8],[13,8],[14,8,8],[15,8],[8,16],[17,15],[18],[19,18],[20,18,18],[21],[22,21],[21],[24,21],[23,25,21],[26,21],[27,21],[21],[29,21],[21],[30,31,21],[32,21],[33,21],[28,34,21],[21,35,18],[18,36]] [1,3,82]) (.cond (.s 82) (.r [.o 2 (.mov (.q false))] [2] .ret) .skip))) (.reg [.m 43 3,.bk 44 .add 43 1,.m 3 44] [1,3]))
def Zyw:MCode:=.r [.o 2 (.mov (.q true))] [2] .ret
def Z7f:MFun:=⟨1,83,[.tmp 2],.r [.bx 1 0,.o 2 (.mov (.q false))] [1] (.wc [.fa 4 0 1,.l 5 4,.cl 6 350 [5],.o 7 (.un .not (.s 6)),.m 8 7,.h 9 8 (.fa 1 1),.h 10 8 (.l 9),.h 11 8 (.cl 350 [10]),.h 12 8 (.un .not (.s 11)),.o 13 (.pick (.s 8) (.q true) (.s 12)),.m 14 13,.h 15 14 (.fa 2 1),.h 16 14 (.l 15),.h 17 14 (.cl 350 [16]),.h 18 14 (.un .not (.s 17)),.o 19 (.pick (.s 14) (.q true) (.s 18)),.m 20 19,.h 21 20 (.fa 3 1),.h 22 20 (.l 21),.h 23 20 (.cl 350 [22]),.h 24 20 (.un .not (.s 23)),.o 25 (.pick (.s 20) (.q true) (.s 24)),.m 26 25,.h 27 26 (.fa 4 1),.h 28 26 (.l 27),.h 29 26 (.cl 350 [28]),.h 30 26 (.un .not (.s 29)),.o 31 (.pick (.s 26) (.q true) (.s 30)),.m 32 31,.h 33 32 (.fa 5 1),.h 34 32 (.l 33),.h 35 32 (.ll 34),.h 36 32 (.bk .gtr 35 4),.o 37 (.pick (.s 32) (.q true) (.s 36))] [1,37] 37 (.r [.o 2 (.mov (.q false))] [2] .ret) (.seq (.r [.mk' 3 0] [1,3] (.block 0 (.loop [1,3] Zyv))) Zyw))⟩
def Zhr(a:Zh):Rs:=C 274 [.agg (a.c.map .t)] []
def Zjr(o:Zh)(i:Int):Rs:=EvL C [.blk 0,.seq Zyw,.fin 0 [.tmp 2]] [1,3] Zyv ⟨[(1,.ptr 0 0),(3,I i)],[[]],[.box (o.c.map .t)]⟩
def Zyx:MCode:=.we [.m 8 4,.m 9 0,.b 10 .lss 8 9] [0,3,4,10] 10 0 (.seq (.block 1 (.reg [.m 13 3,.bk 14 .mul 13 4,.o 15 (.mm true (.k 1) (.s 14)),.m 3 15] [0,3,4])) (.reg [.m 11 4,.bk 12 .add 11 1,.m 4 12] [0,3,4]))
def Zyy:MCode:=.r [.m 16 3,.m 2 16] [2] .ret
def Z7g:MFun:=⟨1,17,[.tmp 2],.r [.mk' 2 0] [0] (.wc [.m 5 0,.o 6 (.call 122 [.s 5,.c (.t .z),.c (.t (.int .i64 7))]),.o 7 (.un .not (.s 6))] [0,7] 7 (.r [.mk' 2 (-1)] [2] .ret) (.r [.mk' 3 0] [0,3] (.seq (.r [.mk' 4 0] [0,3,4] (.block 0 (.loop [0,3,4] Zyx))) Zyy)))⟩
def Zfl(a:Int):Rs:=C 208 [I a] []
def Zlz(k n i:Int):Rs:=EvL C [.blk 0,.seq Zyy,.fin 0 [.tmp 2]] [0,3,4] Zyx ⟨[(0,I k),(3,I n),(4,I i)],[[]],[]⟩
def Z7h:MCode:=.reg [.m 58 10,.bk 59 .add 58 1,.m 10 59] [1,2,4,9,10]
def Zyz:MCode:=.we [.m 53 10,.fa 54 5 4,.l 55 54,.ll 56 55,.b 57 .lss 53 56] [1,2,4,9,10,57] 57 0 (.seq (.block 1 (.r [.m 60 1,.m 61 2,.b 62 .add 60 61,.fa 63 5 4,.l 64 63,.m 65 10,.ia 66 2 64 65,.fa 67 0 66,.l 68 67,.b 69 .geq 62 68] [1,2,4,9,10,69] (.cond (.s 69) (.reg [.m 70 9,.fa 71 5 4,.l 72 71,.m 73 10,.ia 74 2 72 73,.fa 75 1 74,.l 76 75,.b 77 .add 70 76,.m 9 77] [1,2,4,9,10]) .skip))) Z7h)
def Zy0:MCode:=.r [.m 78 9,.m 8 78] [8] .ret
def Z7i:MFun:=⟨4,79,[.tmp 8],.r [.bx 4 0,.mk' 8 0] [1,2,3,4] (.wc [.ln 11 6 4,.cl 12 274 [11],.o 13 (.un .not (.s 12)),.m 14 13,.h 15 14 (.mov (.s 1)),.h 16 14 (.call 122 [.s 15,.c (.t .z),.c (.t (.int .i64 4096))]),.h 17 14 (.un .not (.s 16)),.o 18 (.pick (.s 14) (.q true) (.s 17)),.m 19 18,.h 20 19 (.mov (.s 2)),.h 21 19 (.call 122 [.s 20,.c (.t .z),.c (.t (.int .i64 4096))]),.h 22 19 (.un .not (.s 21)),.o 23 (.pick (.s 19) (.q true) (.s 22)),.m 24 23,.h 25 24 (.mov (.s 3)),.h 26 24 (.call 122 [.s 25,.c (.t .z),.c (.t (.int .i64 4096))]),.h 27 24 (.un .not (.s 26)),.o 28 (.pick (.s 24) (.q true) (.s 27))] [1,2,3,4,28] 28 (.r [.mk' 8 0] [8] .ret) (.r [.fa 29 0 4,.l 30 29,.fa 31 1 4,.l 32 31,.m 33 1,.b 34 .mul 32 33,.b 35 .add 30 34,.fa 36 2 4,.l 37 36,.m 38 2,.b 39 .mul 37 38,.b 40 .add 35 39,.fa 41 3 4,.l 42 41,.m 43 3,.b 44 .mul 42 43,.b 45 .add 40 44,.fa 46 4 4,.l 47 46,.m 48 1,.b 49 .mul 47 48,.m 50 2,.b 51 .mul 49 50,.b 52 .add 45 51,.m 9 52] [1,2,4,9] (.seq (.r [.mk' 10 0] [1,2,4,9,10] (.block 0 (.loop [1,2,4,9,10] Zyz))) Zy0)))⟩
def Zga(a:Zh)(a1 a2 a3:Int):Rs:=C 163 [.agg (a.c.map .t),I a1,I a2,I a3] []
def Zjs(o:Zh)(l cc n i:Int):Rs:=EvL C [.blk 0,.seq Zy0,.fin 0 [.tmp 8]] [1,2,4,9,10] Zyz ⟨[(1,I l),(2,I cc),(4,.ptr 0 0),(9,I n),(10,I i)],[[]],[.box (o.c.map .t)]⟩
def Z7j:MFun:=⟨2,19,[.tmp 4],.r [.bx 2 0,.mk' 4 0] [1,2] (.seq (.drw [.ln 5 6 2,.m 6 1,.o 7 (.iaddr 1 (.s 6) (.k 0)),.l 8 7,.cl 9 208 [8],.m 10 1,.o 11 (.iaddr 1 (.s 10) (.k 1)),.l 12 11,.cl 13 208 [12],.m 14 1,.o 15 (.iaddr 1 (.s 14) (.k 2)),.l 16 15,.cl 17 208 [16],.cl 18 163 [5,9,13,17],.m 4 18] [[],[],[1],[2],[3],[],[5],[6],[7,4],[],[9],[10],[11,8],[0,4,8,12,12],[13,13,0,1,2,3,4,5,6,7,8,9,10,11,12,13]] [4]) .ret)⟩
def Zjt(a:Zh)(a1:List Int):Rs:=C 397 [.agg (a.c.map .t),L 1 (a1.map ic)] []
def Zy1:MCode:=.we [.m 32 9,.bk 33 .lss 32 3] [1,5,6,7,8,9,33] 33 6 (.seq (.block 7 (.r [.o 36 (.bslice 3 1 0 [.z] []),.m 37 8,.o 38 (.append 3 1 8 false (.s 36) (.s 37)),.m 10 38] [1,5,6,7,8,9,10] (.r [.m 39 10,.m 40 9,.m 41 10,.m 42 9,.ia 43 1 41 42,.l 44 43,.bk 45 .add 44 1,.ia 46 1 39 40,.st 1 46 45] [1,5,6,7,8,9,10] (.seq (.drw [.m 47 10,.m 48 9,.ia 49 1 47 48,.l 50 49,.bk 51 .leq 50 7,.m 52 51,.g 53 52 (.ln 6 1),.g 54 52 (.mov (.s 10)),.g 55 52 (.cl 397 [53,54]),.g 56 52 (.ln 6 1),.g 57 52 (.mov (.s 8)),.g 58 52 (.cl 397 [56,57]),.g 59 52 (.b .lss 55 58),.o 60 (.pick (.s 52) (.s 59) (.q false))] [[],[],[0,1],[2],[3],[4],[5],[5],[6,7,5,5],[5],[5],[9,10,8,5],[8,11,5],[5,12]] [1,5,6,7,8,9,10,60]) (.cond (.s 60) (.r [.m 61 8,.m 62 10,.m 2 61,.m 3 62,.o 4 (.mov (.q true))] [2,3,4] .ret) .skip))))) (.reg [.m 34 9,.bk 35 .add 34 1,.m 9 35] [1,5,6,7,8,9]))
def Zy2:MCode:=.reg [.m 26 7,.bk 27 .add 26 1,.m 7 27] [1,5,6,7]
def Zsj:MCode:=.we [.m 24 7,.bk 25 .leq 24 7] [1,5,6,7,25] 25 4 (.seq (.block 5 (.r [.m 28 5,.m 29 6,.m 30 7,.o 31 (.bslice 3 1 3 [.z] [(0,.s 28),(1,.s 29),(2,.s 30)]),.m 8 31] [1,5,6,7,8] (.r [.mk' 9 0] [1,5,6,7,8,9] (.block 6 (.loop [1,5,6,7,8,9] Zy1))))) Zy2)
def Zsk:MCode:=.reg [.m 22 6,.bk 23 .add 22 1,.m 6 23] [1,5,6]
def Zo3:MCode:=.we [.m 20 6,.bk 21 .leq 20 7] [1,5,6,21] 21 2 (.seq (.block 3 (.r [.mk' 7 0] [1,5,6,7] (.block 4 (.loop [1,5,6,7] Zsj)))) Zsk)
def Zo4:MCode:=.reg [.m 18 5,.bk 19 .add 18 1,.m 5 19] [1,5]
def Zl0:MCode:=.we [.m 16 5,.bk 17 .leq 16 7] [1,5,17] 17 0 (.seq (.block 1 (.r [.mk' 6 0] [1,5,6] (.block 2 (.loop [1,5,6] Zo3)))) Zo4)
def Zl1:MCode:=.r [.o 63 (.bslice 3 1 0 [.z] []),.o 64 (.bslice 3 1 0 [.z] []),.m 2 63,.m 3 64,.o 4 (.mov (.q false))] [2,3,4] .ret
def Z7k:MFun:=⟨1,65,[.tmp 2,.tmp 3,.tmp 4],.r [.bx 1 0,.o 2 (.mov (.c (.t .nil))),.o 3 (.mov (.c (.t .nil))),.o 4 (.mov (.q false))] [1] (.wc [.ln 11 6 1,.cl 12 274 [11],.o 13 (.un .not (.s 12))] [1,13] 13 (.r [.o 14 (.bslice 3 1 0 [.z] []),.o 15 (.bslice 3 1 0 [.z] []),.m 2 14,.m 3 15,.o 4 (.mov (.q false))] [2,3,4] .ret) (.seq (.r [.mk' 5 0] [1,5] (.block 0 (.loop [1,5] Zl0))) Zl1))⟩
def Zo5(a:Zh):Rs:=C 341 [.agg (a.c.map .t)] []
def Zl2(o:Zh)(a:Int):Rs:=EvL C [.blk 0,.seq Zl1,.fin 0 [.tmp 2,.tmp 3,.tmp 4]] [1,5] Zl0 ⟨[(1,.ptr 0 0),(5,I a)],[[]],[.box (o.c.map .t)]⟩
def Zl3(o:Zh)(a b:Int):Rs:=EvL C [.blk 2,.blk 1,.seq Zo4,.loop [1,5] Zl0,.blk 0,.seq Zl1,.fin 0 [.tmp 2,.tmp 3,.tmp 4]] [1,5,6] Zo3 ⟨[(1,.ptr 0 0),(5,I a),(6,I b)],[[]],[.box (o.c.map .t)]⟩
def Zl4(o:Zh)(a b e:Int):Rs:=EvL C [.blk 4,.blk 3,.seq Zsk,.loop [1,5,6] Zo3,.blk 2,.blk 1,.seq Zo4,.loop [1,5] Zl0,.blk 0,.seq Zl1,.fin 0 [.tmp 2,.tmp 3,.tmp 4]] [1,5,6,7] Zsj ⟨[(1,.ptr 0 0),(5,I a),(6,I b),(7,I e)],[[]],[.box (o.c.map .t)]⟩
def Zgb(o:Zh)(x:List Int)(a b e k:Int):Rs:=EvL C [.blk 6,.blk 5,.seq Zy2,.loop [1,5,6,7] Zsj,.blk 4,.blk 3,.seq Zsk,.loop [1,5,6] Zo3,.blk 2,.blk 1,.seq Zo4,.loop [1,5] Zl0,.blk 0,.seq Zl1,.fin 0 [.tmp 2,.tmp 3,.tmp 4]] [1,5,6,7,8,9] Zy1 ⟨[(1,.ptr 0 0),(5,I a),(6,I b),(7,I e),(8,.own 1),(9,I k)],[[]],[.box (o.c.map .t),.arr 3 1 true (x.map ic)]⟩
def Zy3:MCode:=.we [.m 14 5,.bk 15 .leq 14 7] [1,3,4,5,15] 15 4 (.seq (.block 5 (.r [.ln 18 6 1,.m 19 3,.m 20 4,.m 21 5,.o 22 (.bslice 3 1 3 [.z] [(0,.s 19),(1,.s 20),(2,.s 21)]),.cl 23 397 [18,22],.bk 24 .lss 23 1] [1,3,4,5,24] (.cond (.s 24) (.r [.m 25 3,.m 26 4,.m 27 5,.o 28 (.bslice 3 1 3 [.z] [(0,.s 25),(1,.s 26),(2,.s 27)]),.m 2 28] [2] .ret) .skip))) (.reg [.m 16 5,.bk 17 .add 16 1,.m 5 17] [1,3,4,5]))
def Zy4:MCode:=.reg [.m 12 4,.bk 13 .add 12 1,.m 4 13] [1,3,4]
def Zsl:MCode:=.we [.m 10 4,.bk 11 .leq 10 7] [1,3,4,11] 11 2 (.seq (.block 3 (.r [.mk' 5 0] [1,3,4,5] (.block 4 (.loop [1,3,4,5] Zy3)))) Zy4)
def Zsm:MCode:=.reg [.m 8 3,.bk 9 .add 8 1,.m 3 9] [1,3]
def Zo6:MCode:=.we [.m 6 3,.bk 7 .leq 6 7] [1,3,7] 7 0 (.seq (.block 1 (.r [.mk' 4 0] [1,3,4] (.block 2 (.loop [1,3,4] Zsl)))) Zsm)
def Zo7:MCode:=.r [.o 29 (.bslice 3 1 0 [.z] []),.m 2 29] [2] .ret
def Z7l:MFun:=⟨1,30,[.tmp 2],.r [.bx 1 0,.o 2 (.mov (.c (.t .nil)))] [1] (.seq (.r [.mk' 3 0] [1,3] (.block 0 (.loop [1,3] Zo6))) Zo7)⟩
def Zsn(a:Zh):Rs:=C 342 [.agg (a.c.map .t)] []
def Zl5(o:Zh)(a:Int):Rs:=EvL C [.blk 0,.seq Zo7,.fin 0 [.tmp 2]] [1,3] Zo6 ⟨[(1,.ptr 0 0),(3,I a)],[[]],[.box (o.c.map .t)]⟩
def Zl6(o:Zh)(a b:Int):Rs:=EvL C [.blk 2,.blk 1,.seq Zsm,.loop [1,3] Zo6,.blk 0,.seq Zo7,.fin 0 [.tmp 2]] [1,3,4] Zsl ⟨[(1,.ptr 0 0),(3,I a),(4,I b)],[[]],[.box (o.c.map .t)]⟩
def Zo8(o:Zh)(a b e:Int):Rs:=EvL C [.blk 4,.blk 3,.seq Zy4,.loop [1,3,4] Zsl,.blk 2,.blk 1,.seq Zsm,.loop [1,3] Zo6,.blk 0,.seq Zo7,.fin 0 [.tmp 2]] [1,3,4,5] Zy3 ⟨[(1,.ptr 0 0),(3,I a),(4,I b),(5,I e)],[[]],[.box (o.c.map .t)]⟩
def Zy5:MCode:=.we [.m 11 5,.bk 12 .leq 11 5] [1,5,12] 12 0 (.seq (.block 1 (.r [.ln 15 30 1,.m 16 5,.cl 17 164 [15,16],.o 6 (.alloc [.t .z,.t .z,.t .z,.t .z,.t .z,.t .nil]),.st 6 6 17] [1,5,6] (.wc [.ln 18 6 6,.cl 19 274 [18],.o 20 (.un .not (.s 19))] [1,5,6,20] 20 (.r [.m 21 5,.o 22 (.bslice 3 1 0 [.z] []),.o 23 (.bslice 3 1 0 [.z] []),.m 2 21,.m 3 22,.m 4 23] [2,3,4] .ret) (.r [.ln 25 6 6,.cl 26 341 [25],.m 24 26,.o 27 (.ext (.s 24) 0),.o 28 (.ext (.s 24) 1),.o 29 (.ext (.s 24) 2),.m 7 27,.m 8 28,.m 9 29] [1,5,6,7,8,9] (.wc [.m 30 9] [1,5,6,7,8,30] 30 (.r [.m 31 5,.m 32 7,.m 33 8,.m 2 31,.m 3 32,.m 4 33] [2,3,4] .ret) (.r [.ln 34 6 6,.cl 35 342 [34],.m 10 35] [1,5,10] (.r [.m 36 10,.ll 37 36,.bk 38 .gtr 37 0] [1,5,10,38] (.cond (.s 38) (.r [.m 39 5,.m 40 10,.o 41 (.bslice 3 1 0 [.z] []),.m 2 39,.m 3 40,.m 4 41] [2,3,4] .ret) .skip)))))))) (.reg [.m 13 5,.bk 14 .add 13 1,.m 5 14] [1,5]))
def Zy6:MCode:=.r [.o 42 (.bslice 3 1 0 [.z] []),.o 43 (.bslice 3 1 0 [.z] []),.mk' 2 0,.m 3 42,.m 4 43] [2,3,4] .ret
def Z7m:MFun:=⟨1,44,[.tmp 2,.tmp 3,.tmp 4],.r [.bx 1 0,.mk' 2 0,.o 3 (.mov (.c (.t .nil))),.o 4 (.mov (.c (.t .nil)))] [1] (.seq (.r [.mk' 5 1] [1,5] (.block 0 (.loop [1,5] Zy5))) Zy6)⟩
def Zy7(a:Zj):Rs:=C 268 [.agg (a.c.map .t)] []
def Zl7(m:Zj)(k:Int):Rs:=EvL C [.blk 0,.seq Zy6,.fin 0 [.tmp 2,.tmp 3,.tmp 4]] [1,5] Zy5 ⟨[(1,.ptr 0 0),(5,I k)],[[]],[.box (m.c.map .t)]⟩
def Z7n:MFun:=⟨1,14,[.tmp 2],.r [.bx 1 0,.o 2 (.mov (.q false))] [1] (.r [.ln 7 30 1,.cl 8 268 [7],.m 6 8,.o 9 (.ext (.s 6) 0),.o 10 (.ext (.s 6) 1),.o 11 (.ext (.s 6) 2),.m 3 9,.m 4 10,.m 5 11] [3] (.r [.m 12 3,.bk 13 .eql 12 0,.m 2 13] [2] .ret))⟩
def Zju(a:Zj):Rs:=C 145 [.agg (a.c.map .t)] []
def Zy8:MCode:=.we [.m 6 3,.bk 7 .leq 6 7] [0,3,7] 7 0 (.seq (.block 1 (.r [.m 10 3,.cl 11 208 [10],.m 12 0,.b 13 .geq 11 12] [0,3,13] (.cond (.s 13) (.r [.m 14 3,.m 2 14] [2] .ret) .skip))) (.reg [.m 8 3,.bk 9 .add 8 1,.m 3 9] [0,3]))
def Zy9:MCode:=.r [.mk' 2 (-1)] [2] .ret
def Z7o:MFun:=⟨1,15,[.tmp 2],.r [.mk' 2 0] [0] (.wc [.m 4 0,.bk 5 .lss 4 0] [0,5] 5 (.r [.mk' 2 (-1)] [2] .ret) (.seq (.r [.mk' 3 0] [0,3] (.block 0 (.loop [0,3] Zy8))) Zy9))⟩
def Zhs(a:Int):Rs:=C 152 [I a] []
def Zo9(n k:Int):Rs:=EvL C [.blk 0,.seq Zy9,.fin 0 [.tmp 2]] [0,3] Zy8 ⟨[(0,I n),(3,I k)],[[]],[]⟩
def Z7p:MFun:=⟨1,6,[.tmp 2],.r [.mk' 2 0] [0] (.r [.m 3 0,.cl 4 152 [3],.cl 5 208 [4],.m 2 5] [2] .ret)⟩
def Zcj(a:Int):Rs:=C 151 [I a] []
def Z7q:MFun:=⟨5,85,[.tmp 10],.r [.bx 5 0,.bx 6 1,.mk' 10 0] [2,3,4,5,6] (.seq (.drw [.ln 12 30 5,.fa 13 0 6,.l 14 13,.m 15 4,.ia 16 3 14 15,.fa 17 0 16,.l 18 17,.cl 19 164 [12,18],.o 11 (.alloc [.t .z,.t .z,.t .z,.t .z,.t .z,.t .nil]),.st 6 11 19] [[],[],[1],[],[2,3],[4],[5],[0,6],[],[8,7,7,0,1,2,3,4,5,6,7,8]] [2,3,4,11]) (.wc [.m 20 2,.m 21 4,.ia 22 4 20 21,.fa 23 2 22,.l 24 23,.bk 25 .lss 24 0] [2,3,4,11,25] 25 (.seq (.drw [.ln 26 6 11,.m 27 3,.m 28 4,.ia 29 1 27 28,.l 30 29,.cl 31 151 [30],.m 32 3,.m 33 4,.ia 34 1 32 33,.l 35 34,.cl 36 151 [35],.o 37 (.call 163 [.s 26,.s 31,.c (.t .z),.s 36]),.m 10 37] [[],[],[],[1,2],[3],[4],[],[],[6,7],[8],[9,5],[0,5,10,10],[11,11,0,1,2,3,4,5,6,7,8,9,10,11]] [10]) .ret) (.wc [.m 38 2,.m 39 4,.ia 40 4 38 39,.fa 41 3 40,.l 42 41,.bk 43 .lss 42 0] [2,3,4,11,43] 43 (.seq (.drw [.ln 44 6 11,.m 45 3,.m 46 2,.m 47 4,.ia 48 4 46 47,.fa 49 2 48,.l 50 49,.ia 51 1 45 50,.l 52 51,.cl 53 151 [52],.m 54 3,.m 55 4,.ia 56 1 54 55,.l 57 56,.cl 58 151 [57],.o 59 (.call 163 [.s 44,.s 53,.c (.t .z),.s 58]),.m 10 59] [[],[],[],[],[2,3],[4],[5],[1,6],[7],[8],[],[],[10,11],[12],[13,9],[0,9,14,14],[15,15,0,1,2,3,4,5,6,7,8,9,10,11,12,13,14,15]] [10]) .ret) (.seq (.drw [.ln 60 6 11,.m 61 3,.m 62 2,.m 63 4,.ia 64 4 62 63,.fa 65 2 64,.l 66 65,.ia 67 1 61 66,.l 68 67,.cl 69 151 [68],.m 70 3,.m 71 2,.m 72 4,.ia 73 4 71 72,.fa 74 3 73,.l 75 74,.ia 76 1 70 75,.l 77 76,.cl 78 151 [77],.m 79 3,.m 80 4,.ia 81 1 79 80,.l 82 81,.cl 83 151 [82],.cl 84 163 [60,69,78,83],.m 10 84] [[],[],[],[],[2,3],[4],[5],[1,6],[7],[8],[],[],[],[11,12],[13],[14],[10,15],[16],[17,9],[],[],[19,20],[21],[22,18],[0,9,18,23,23],[24,24,0,1,2,3,4,5,6,7,8,9,10,11,12,13,14,15,16,17,18,19,20,21,22,23,24]] [10]) .ret))))⟩
def Zjv(a:Zj)(a1:Plan)(a2:List Zb)(a3:List Int)(a4:Int):Rs:=C 147 [.agg (a.c.map .t),.agg (a1.c.map .t),L 4 (a2.map Zb.c),L 1 (a3.map ic),I a4] []
def Zza:MCode:=.we [.m 30 11,.bk 31 .leq 30 7,.m 32 31,.g 33 32 (.ln 30 5),.g 34 32 (.mov (.s 1)),.g 35 32 (.cl 164 [33,34]),.g 36 32 (.mov (.s 2)),.g 37 32 (.mov (.s 3)),.g 38 32 (.mov (.s 11)),.g 39 32 (.cl 208 [38]),.g 40 32 (.cl 163 [35,36,37,39]),.g 41 32 (.mov (.s 4)),.g 42 32 (.b .leq 40 41),.o 43 (.pick (.s 32) (.s 42) (.q false))] [1,2,3,4,5,11,43] 43 0 (.block 1 (.reg [.m 44 11,.bk 45 .add 44 1,.m 11 45] [1,2,3,4,5,11]))
def Zzb:MCode:=.r [.m 46 11,.m 10 46] [10] .ret
def Z7r:MFun:=⟨5,47,[.tmp 10],.r [.bx 5 0,.mk' 10 0] [1,2,3,4,5] (.wc [.ln 12 30 5,.cl 13 145 [12],.o 14 (.un .not (.s 13)),.m 15 14,.h 16 15 (.mov (.s 1)),.h 17 15 (.call 122 [.s 16,.c (.t (.int .i64 1)),.c (.t (.int .i64 5))]),.h 18 15 (.un .not (.s 17)),.o 19 (.pick (.s 15) (.q true) (.s 18)),.m 20 19,.h 21 20 (.mov (.s 2)),.h 22 20 (.call 122 [.s 21,.c (.t .z),.c (.t (.int .i64 4096))]),.h 23 20 (.un .not (.s 22)),.o 24 (.pick (.s 20) (.q true) (.s 23)),.m 25 24,.h 26 25 (.mov (.s 3)),.h 27 25 (.call 122 [.s 26,.c (.t .z),.c (.t (.int .i64 4096))]),.h 28 25 (.un .not (.s 27)),.o 29 (.pick (.s 25) (.q true) (.s 28))] [1,2,3,4,5,29] 29 (.r [.mk' 10 0] [10] .ret) (.r [.mk' 11 0] [1,2,3,4,5,11] (.seq (.block 0 (.loop [1,2,3,4,5,11] Zza)) Zzb)))⟩
def Zjw(a:Zj)(a1 a2 a3 a4:Int):Rs:=C 150 [.agg (a.c.map .t),I a1,I a2,I a3,I a4] []
def Zl8(m:Zj)(cd l cl cc n:Int):Rs:=EvL C [.blk 0,.seq Zzb,.fin 0 [.tmp 10]] [1,2,3,4,5,11] Zza ⟨[(1,I cd),(2,I l),(3,I cl),(4,I cc),(5,.ptr 0 0),(11,I n)],[[]],[.box (m.c.map .t)]⟩
def Z7s:MCode:=.reg [.m 36 5,.o 37 (.bslice 3 1 0 [.z] []),.m 38 0,.m 39 7,.ia 40 1 38 39,.l 41 40,.o 42 (.append 3 1 8 false (.s 37) (.s 41)),.o 43 (.bslice 30 1 1 [.lst 1 []] [(0,.s 42)]),.o 44 (.append 30 1 24 true (.s 36) (.s 43)),.m 5 44] [0,1,5,6,7]
def Z7t:MCode:=.wc [.m 24 8,.bk 25 .gtr 24 0,.m 26 25,.g 27 26 (.mov (.s 6)),.g 28 26 (.un .not (.s 27)),.o 29 (.pick (.s 26) (.s 28) (.q false))] [0,1,5,6,7,29] 29 (.r [.m 30 5,.o 31 (.bslice 3 1 0 [.z] []),.m 32 1,.o 33 (.append 3 1 8 false (.s 31) (.s 32)),.o 34 (.bslice 30 1 1 [.lst 1 []] [(0,.s 33)]),.o 35 (.append 30 1 24 true (.s 30) (.s 34)),.m 5 35] [0,1,5,7] (.reg [.o 6 (.mov (.q true))] [0,1,5,6,7])) Z7s
def Zso:MCode:=.we [.m 10 7,.m 11 0,.ll 12 11,.b 13 .lss 10 12] [0,1,5,6,7,13] 13 0 (.seq (.block 1 (.r [.m 16 0,.m 17 7,.ia 18 1 16 17,.l 19 18,.m 20 1,.cl 21 167 [19,20],.m 8 21] [0,1,5,6,7,8] (.wc [.m 22 8,.bk 23 .eql 22 0] [0,1,5,6,7,8,23] 23 (.reg [.o 6 (.mov (.q true))] [0,1,5,6,7,8]) Z7t))) (.reg [.m 14 7,.bk 15 .add 14 1,.m 7 15] [0,1,5,6,7]))
def Z7u:MCode:=.r [.m 53 5,.m 4 53] [4] .ret
def Zsp:MCode:=.wc [.m 45 6,.o 46 (.un .not (.s 45))] [1,5,46] 46 (.reg [.m 47 5,.o 48 (.bslice 3 1 0 [.z] []),.m 49 1,.o 50 (.append 3 1 8 false (.s 48) (.s 49)),.o 51 (.bslice 30 1 1 [.lst 1 []] [(0,.s 50)]),.o 52 (.append 30 1 24 true (.s 47) (.s 51)),.m 5 52] [5]) Z7u
def Z7v:MFun:=⟨2,54,[.tmp 4],.r [.o 4 (.mov (.c (.t .nil)))] [0,1] (.r [.o 9 (.bslice 30 1 0 [.lst 1 []] []),.m 5 9] [0,1,5] (.r [.o 6 (.mov (.q false))] [0,1,5,6] (.seq (.r [.mk' 7 0] [0,1,5,6,7] (.block 0 (.loop [0,1,5,6,7] Zso))) Zsp)))⟩
def Zpa(a:List Int):Rs:=C 270 [.t .nil,L 1 (a.map ic)] []
def Zzc(c:List (List Int))(cd:List Int)(cc:Bool)(i:Int):Rs:=EvL C [.blk 0,.seq Zsp,.fin 0 [.tmp 4]] [0,1,5,6,7] Zso ⟨[(0,.t .nil),(1,L 1 (cd.map ic)),(5,.own 0),(6,Bo cc),(7,I i)],[[]],[.arr 30 1 true (c.map isc)]⟩
def Zpb(a:List (List Int))(a1:List Int):Rs:=C 270 [L 1 (a.map isc),L 1 (a1.map ic)] []
def Zgc(cc c:List (List Int))(cl:List Int)(cd:Bool)(i:Int):Rs:=EvL C [.blk 0,.seq Zsp,.fin 0 [.tmp 4]] [0,1,5,6,7] Zso ⟨[(0,L 1 (c.map isc)),(1,L 1 (cl.map ic)),(5,.own 0),(6,Bo cd),(7,I i)],[[]],[.arr 30 1 true (cc.map isc)]⟩
def Zsq:MCode:=.we [.m 15 5,.fa 16 1 1,.l 17 16,.ll 18 17,.b 19 .lss 15 18] [1,2,4,5,19] 19 0 (.seq (.block 1 (.drw [.fa 22 1 4,.l 23 22,.fa 24 1 1,.l 25 24,.m 26 5,.ia 27 1 25 26,.l 28 27,.cl 29 270 [23,28],.fa 30 1 4,.st 1 30 29] [[],[0],[],[2],[],[3,4],[5],[1,6],[0,1,2,3,4,5,6,7],[8,7,7,0,1,2,3,4,5,6,7]] [1,2,4,5])) (.reg [.m 20 5,.bk 21 .add 20 1,.m 5 21] [1,2,4,5]))
def Zsr:MCode:=.r [.ln 31 2 4,.st 2 2 31,.o 3 (.mov (.q true))] [2,3] .ret
def Z7w:MFun:=⟨1,32,[.cell 2 (some 2),.tmp 3],.r [.bx 1 0,.o 2 (.alloc [.t .nil,.t .nil]),.o 3 (.mov (.q false))] [1,2] (.wc [.ln 6 2 1,.cl 7 269 [6],.o 8 (.un .not (.s 7))] [1,2,8] 8 (.r [.o 9 (.build [.t .nil,.t .nil] []),.st 2 2 9,.o 3 (.mov (.q false))] [2,3] .ret) (.r [.o 10 (.bslice 3 1 0 [.z] []),.fa 11 0 1,.l 12 11,.o 13 (.append 3 1 8 false (.s 10) (.s 12)),.o 14 (.build [.t .nil,.t .nil] [(0,1,.s 13)]),.o 4 (.alloc [.t .nil,.t .nil]),.st 2 4 14] [1,2,4] (.seq (.r [.mk' 5 0] [1,2,4,5] (.block 0 (.loop [1,2,4,5] Zsq))) Zsr)))⟩
def Ze5(a:Za):Rs:=C 154 [.agg (a.c.map .t)] []
def Zzd(s:Za)(x:List Int)(i:Int):Rs:=EvL C [.blk 0,.seq Zsr,.fin 0 [.cell 2 (some 2),.tmp 3]] [1,2,4,5] Zsq ⟨[(1,.ptr 0 0),(2,.ptr 1 0),(4,.ptr 2 0),(5,I i)],[[]],[.box (s.c.map .t),.box [.t .nil,.t .nil],.box [.own 3,.t .nil],.arr 3 1 true (x.map ic)]⟩
def Zpc(s:Za)(x:List Int)(x1:List (List Int))(i:Int):Rs:=EvL C [.blk 0,.seq Zsr,.fin 0 [.cell 2 (some 2),.tmp 3]] [1,2,4,5] Zsq ⟨[(1,.ptr 0 0),(2,.ptr 1 0),(4,.ptr 2 0),(5,I i)],[[]],[.box (s.c.map .t),.box [.t .nil,.t .nil],.box [.own 3,.own 4],.arr 3 1 true (x.map ic),.arr 30 1 true (x1.map isc)]⟩
def Zze:MCode:=.r [.m 120 4,.fa 121 1 16,.st 1 121 120] [10,16] (.r [.ln 122 6 16,.st 6 10 122,.o 11 (.mov (.q true))] [10,11] .ret)
def Zzf:MCode:=.reg [.m 49 17,.bk 50 .add 49 1,.m 17 50] [4,5,8,10,12,13,15,16,17]
def Zpd:MCode:=.we [.m 45 17,.m 46 12,.ll 47 46,.b 48 .lss 45 47] [4,5,8,10,12,13,15,16,17,48] 48 0 (.seq (.block 1 (.r [.m 51 15,.m 52 12,.m 53 17,.ia 54 2 52 53,.fa 55 1 54,.l 56 55,.ll 57 56,.o 58 (.bslice 3 1 1 [.z] [(0,.s 57)]),.o 59 (.append 3 1 8 true (.s 51) (.s 58)),.m 15 59] [4,5,8,10,12,13,15,16,17] (.r [.ln 60 30 5,.ln 61 1 8,.m 62 13,.m 63 15,.m 64 17,.cl 65 147 [60,61,62,63,64],.m 18 65] [4,5,8,10,12,13,15,16,17,18] (.wc [.m 66 18,.m 67 4,.fa 68 1 16,.l 69 68,.b 70 .sub 67 69,.b 71 .gtr 66 70] [4,5,8,10,12,13,15,16,17,18,71] 71 (.wc [.m 72 13,.m 73 17,.ia 74 4 72 73,.fa 75 3 74,.l 76 75,.bk 77 .geq 76 0] [4,5,8,10,13,15,16,17,77] 77 (.seq (.drw [.ln 78 30 5,.fa 79 0 8,.l 80 79,.m 81 17,.ia 82 3 80 81,.fa 83 0 82,.l 84 83,.m 85 15,.m 86 13,.m 87 17,.ia 88 4 86 87,.fa 89 2 88,.l 90 89,.ia 91 1 85 90,.l 92 91,.cl 93 151 [92],.m 94 15,.m 95 13,.m 96 17,.ia 97 4 95 96,.fa 98 3 97,.l 99 98,.ia 100 1 94 99,.l 101 100,.cl 102 151 [101],.m 103 4,.fa 104 1 16,.l 105 104,.b 106 .sub 103 105,.cl 107 150 [78,84,93,102,106],.m 19 107] [[],[],[1],[],[2,3],[4],[5],[],[],[],[8,9],[10],[11],[7,12],[13],[14],[],[],[],[17,18],[19],[20],[16,21],[22],[23,15],[],[],[26],[25,27],[0,6,15,24,28,24],[29,29,0,1,2,3,4,5,6,7,8,9,10,11,12,13,14,15,16,17,18,19,20,21,22,23,24,25,26,27,28,29]] [4,10,13,16,17,19]) (.drw [.fa 108 3 16,.l 109 108,.m 110 13,.m 111 17,.ia 112 4 110 111,.fa 113 0 112,.l 114 113,.m 115 19,.o 116 (.build [.t .z,.t .z,.t (.bool false)] [(0,1,.s 114),(1,1,.s 115)]),.o 117 (.bslice 211 3 1 [.z,.z,.bool false] [(0,.s 116)]),.o 118 (.append 211 3 24 true (.s 109) (.s 117)),.fa 119 3 16,.st 1 119 118] [[],[0],[],[],[2,3],[4],[5],[],[6,7],[8],[1,9],[0,1,2,3,4,5,6,7,8,9,10],[11,10,10,0,1,2,3,4,5,6,7,8,9,10]] [4,10,16])) Zze) (.r [.fa 123 1 16,.l 124 123,.m 125 18,.b 126 .add 124 125,.fa 127 1 16,.st 1 127 126] [4,5,8,10,12,13,15,16,17] (.r [.fa 128 2 16,.l 129 128,.bk 130 .add 129 1,.fa 131 2 16,.st 1 131 130] [4,5,8,10,12,13,15,16,17] (.r [.m 132 13,.m 133 17,.ia 134 4 132 133,.fa 135 3 134,.l 136 135,.bk 137 .geq 136 0] [4,5,8,10,12,13,15,16,17,137] (.cond (.s 137) (.drw [.fa 138 3 16,.l 139 138,.m 140 13,.m 141 17,.ia 142 4 140 141,.fa 143 0 142,.l 144 143,.m 145 15,.m 146 17,.ia 147 1 145 146,.l 148 147,.cl 149 152 [148],.o 150 (.build [.t .z,.t .z,.t (.bool false)] [(0,1,.s 144),(1,1,.s 149),(2,1,.q true)]),.o 151 (.bslice 211 3 1 [.z,.z,.bool false] [(0,.s 150)]),.o 152 (.append 211 3 24 true (.s 139) (.s 151)),.fa 153 3 16,.st 1 153 152] [[],[0],[],[],[2,3],[4],[5],[],[],[7,8],[9],[10],[6,11],[12],[1,13,11],[0,1,2,3,4,5,6,7,8,9,10,11,12,13,14],[15,14,14,0,1,2,3,4,5,6,7,8,9,10,11,12,13,14]] [4,5,8,10,12,13,15,16,17]) .skip)))))))) Zzf)
def Zpe:MCode:=.r [.fa 154 0 16,.n (.store 1 (.s 154) (.q true))] [10,12,16] (.r [.m 156 12,.m 157 12,.ll 158 157,.bk 159 .sub 158 1,.ia 160 2 156 159,.ln 161 2 160,.cl 162 154 [161],.m 155 162,.o 163 (.ext (.s 155) 0),.o 164 (.ext (.s 155) 1),.o 20 (.alloc [.t .nil,.t .nil]),.st 2 20 163,.m 21 164] [10,16,20] (.r [.ln 165 2 20,.fa 166 4 16,.st 2 166 165] [10,16] (.r [.ln 167 6 16,.st 6 10 167,.o 11 (.mov (.q true))] [10,11] .ret)))
def Z7x:MFun:=⟨5,168,[.cell 10 (some 6),.tmp 11],.r [.bx 5 0,.bx 6 1,.bx 7 2,.bx 8 3,.o 10 (.alloc [.t (.bool false),.t .z,.t .z,.t .nil,.t .nil,.t .nil]),.o 11 (.mov (.q false))] [4,5,6,7,8,10] (.r [.ln 23 1 6,.ln 24 2 7,.ln 25 1 8,.cl 26 144 [23,24,25],.m 22 26,.o 27 (.ext (.s 22) 0),.o 28 (.ext (.s 22) 1),.o 29 (.ext (.s 22) 2),.m 12 27,.m 13 28,.m 14 29] [4,5,8,10,12,13,14] (.wc [.m 30 14,.o 31 (.un .not (.s 30)),.m 32 31,.h 33 32 (.ln 30 5),.h 34 32 (.cl 145 [33]),.h 35 32 (.un .not (.s 34)),.o 36 (.pick (.s 32) (.q true) (.s 35)),.m 37 36,.h 38 37 (.mov (.s 4)),.h 39 37 (.call 122 [.s 38,.c (.t .z),.c (.t (.int .i64 1000000000000))]),.h 40 37 (.un .not (.s 39)),.o 41 (.pick (.s 37) (.q true) (.s 40))] [4,5,8,10,12,13,41] 41 (.r [.o 42 (.build [.t (.bool false),.t .z,.t .z,.t .nil,.t .nil,.t .nil] []),.st 6 10 42,.o 11 (.mov (.q false))] [10,11] .ret) (.r [.o 43 (.bslice 3 1 0 [.z] []),.m 15 43] [4,5,8,10,12,13,15] (.r [.o 44 (.build [.t (.bool false),.t .z,.t .z,.t .nil,.t .nil,.t .nil] []),.o 16 (.alloc [.t (.bool false),.t .z,.t .z,.t .nil,.t .nil,.t .nil]),.st 6 16 44] [4,5,8,10,12,13,15,16] (.seq (.r [.mk' 17 0] [4,5,8,10,12,13,15,16,17] (.block 0 (.loop [4,5,8,10,12,13,15,16,17] Zpd))) Zpe)))))⟩
def Zgd(a:Zj)(a1:Zk)(a2:Zd)(a3:Plan)(a4:Int):Rs:=C 53 [.agg (a.c.map .t),.agg (a1.c.map .t),.agg (a2.c.map .t),.agg (a3.c.map .t),I a4] []
def Zjx(m:Zj)(p:Plan)(cu:Bool)(cp co:Int)(l:List Za)(cv:List Zb)(n:List Int)(cn:Bool)(cl cc cd i:Int):Rs:=EvL C [.blk 0,.seq Zpe,.fin 0 [.cell 10 (some 6),.tmp 11]] [4,5,8,10,12,13,15,16,17] Zpd ⟨[(4,I cd),(5,.ptr 0 0),(8,.ptr 1 0),(10,.ptr 2 0),(12,.own 3),(13,.own 4),(15,.own 5),(16,.ptr 6 0),(17,I i)],[[]],[.box (m.c.map .t),.box (p.c.map .t),.box [Bo cu,I cp,I co,.t .nil,.t .nil,.t .nil],.arr 199 2 true (l.map Za.c),.arr 209 4 true (cv.map Zb.c),.arr 3 1 true (n.map ic),.box [Bo cn,I cl,I cc,.t .nil,.t .nil,.t .nil]]⟩
def Zht(m:Zj)(p:Plan)(cu:Bool)(cp co:Int)(l:List Za)(cv:List Zb)(n:List Int)(cn:Bool)(cl cc:Int)(x:List Zl)(cd i:Int):Rs:=EvL C [.blk 0,.seq Zpe,.fin 0 [.cell 10 (some 6),.tmp 11]] [4,5,8,10,12,13,15,16,17] Zpd ⟨[(4,I cd),(5,.ptr 0 0),(8,.ptr 1 0),(10,.ptr 2 0),(12,.own 3),(13,.own 4),(15,.own 5),(16,.ptr 6 0),(17,I i)],[[]],[.box (m.c.map .t),.box (p.c.map .t),.box [Bo cu,I cp,I co,.t .nil,.t .nil,.t .nil],.arr 199 2 true (l.map Za.c),.arr 209 4 true (cv.map Zb.c),.arr 3 1 true (n.map ic),.box [Bo cn,I cl,I cc,.own 7,.t .nil,.t .nil],.arr 211 3 true (x.map Zl.c)]⟩
def Zzg:MCode:=.we [.m 14 11,.m 15 4,.ll 16 15,.b 17 .lss 14 16] [4,5,6,7,8,11,17] 17 0 (.seq (.block 1 (.seq (.seq (.drw [.m 20 4,.m 21 11,.ia 22 5 20 21,.fa 23 1 22,.l 24 23,.fa 25 6 8,.l 26 25,.ll 27 26,.bk 28 .sub 27 1,.o 29 (.call 122 [.s 24,.c (.t .z),.s 28]),.o 30 (.un .not (.s 29))] [[],[],[0,1],[2],[3],[],[5],[6],[7],[4,8],[9]] [4,5,6,7,8,11,30]) (.cond (.s 30) (.r [.m 31 11,.m 10 31] [10] .ret) .skip)) (.seq (.drw [.ln 33 30 5,.ln 34 1 6,.ln 35 2 7,.fa 36 6 8,.l 37 36,.m 38 4,.m 39 11,.ia 40 5 38 39,.fa 41 1 40,.l 42 41,.ia 43 1 37 42,.ln 44 1 43,.m 45 4,.m 46 11,.ia 47 5 45 46,.fa 48 2 47,.l 49 48,.cl 50 53 [33,34,35,44,49],.m 32 50,.o 51 (.ext (.s 32) 0),.o 52 (.ext (.s 32) 1),.o 12 (.alloc [.t (.bool false),.t .z,.t .z,.t .nil,.t .nil,.t .nil]),.st 6 12 51,.m 13 52] [[],[],[],[],[3],[],[],[5,6],[7],[8],[4,9],[10],[],[],[12,13],[14],[15],[0,1,2,11,16],[17],[18],[18],[],[21,19,17,0,1,2,3,4,5,6,7,8,9,10,11,12,13,14,15,16,17,18,19,21],[20,22,0,1,2,3,4,5,6,7,8,9,10,11,12,13,14,15,16,17,18,19,20,21,22]] [4,5,6,7,8,11,12,13]) (.seq (.drw [.m 53 13,.o 54 (.un .not (.s 53)),.m 55 54,.h 56 55 (.fa 1 12),.h 57 55 (.l 56),.h 58 55 (.mov (.s 4)),.h 59 55 (.mov (.s 11)),.h 60 55 (.ia 5 58 59),.h 61 55 (.fa 3 60),.h 62 55 (.l 61),.h 63 55 (.b .neq 57 62),.o 64 (.pick (.s 55) (.q true) (.s 63)),.m 65 64,.h 66 65 (.fa 0 12),.h 67 65 (.l 66),.h 68 65 (.mov (.s 4)),.h 69 65 (.mov (.s 11)),.h 70 65 (.ia 5 68 69),.h 71 65 (.fa 4 70),.h 72 65 (.l 71),.h 73 65 (.beq true (.s 67) (.s 72)),.o 74 (.pick (.s 65) (.q true) (.s 73))] [[],[0],[1],[2],[3,2],[2],[2],[5,6,2],[7,2],[8,2],[4,9,2],[2,10],[11,2],[12],[13,12],[12],[12],[15,16,12],[17,12],[18,12],[14,19,12],[12,20]] [4,5,6,7,8,11,74]) (.cond (.s 74) (.r [.m 75 11,.m 10 75] [10] .ret) .skip))))) (.reg [.m 18 11,.bk 19 .add 18 1,.m 11 19] [4,5,6,7,8,11]))
def Zzh:MCode:=.r [.mk' 10 (-1)] [10] .ret
def Z7y:MFun:=⟨5,76,[.tmp 10],.r [.bx 5 0,.bx 6 1,.bx 7 2,.bx 8 3,.mk' 10 0] [4,5,6,7,8] (.seq (.r [.mk' 11 0] [4,5,6,7,8,11] (.block 0 (.loop [4,5,6,7,8,11] Zzg))) Zzh)⟩
def Zss(a:Zj)(a1:Zk)(a2:Zd)(a3:Zbb)(a4:List Zu):Rs:=C 40 [.agg (a.c.map .t),.agg (a1.c.map .t),.agg (a2.c.map .t),.agg (a3.c.map .t),L 5 (a4.map Zu.c)] []
def Ze6(m:Zj)(d:Zk)(q:Zd)(b:Zbb)(l:List Zu)(i:Int):Rs:=EvL C [.blk 0,.seq Zzh,.fin 0 [.tmp 10]] [4,5,6,7,8,11] Zzg ⟨[(4,L 5 (l.map Zu.c)),(5,.ptr 0 0),(6,.ptr 1 0),(7,.ptr 2 0),(8,.ptr 3 0),(11,I i)],[[]],[.box (m.c.map .t),.box (d.c.map .t),.box (q.c.map .t),.box (b.c.map .t)]⟩
theorem Zbi3:tbl 124=some Z35:=Zc Tryz.func124 (by kernel_rfl) (by kernel_rfl)
theorem Zbi4:tbl 344=some Z36:=Zc Tryz.func344 (by kernel_rfl) (by kernel_rfl)
theorem Zbi5:tbl 256=some Z37:=Zc Tryz.func256 (by kernel_rfl) (by kernel_rfl)
theorem Zbi6:tbl 135=some Z38:=Zc Tryz.func135 (by kernel_rfl) (by kernel_rfl)
theorem Zbi7:tbl 398=some Z39:=Zc Tryz.func398 (by kernel_rfl) (by kernel_rfl)
theorem Zbi8:tbl 345=some Z4a:=Zc Tryz.func345 (by kernel_rfl) (by kernel_rfl)
theorem Zbi9:tbl 271=some Zq1:=Zc Tryz.func271 (by kernel_rfl) (by kernel_rfl)
theorem Zbja:tbl 346=some Z4b:=Zc Tryz.func346 (by kernel_rfl) (by kernel_rfl)
theorem Zbjb:tbl 347=some Z4d:=Zc Tryz.func347 (by kernel_rfl) (by kernel_rfl)
theorem Zbjc:tbl 272=some Z4e:=Zc Tryz.func272 (by kernel_rfl) (by kernel_rfl)
theorem Zbjd:tbl 155=some Z4g:=Zc Tryz.func155 (by kernel_rfl) (by kernel_rfl)
theorem Zbje:tbl 357=some Z4h:=Zc Tryz.func357 (by kernel_rfl) (by kernel_rfl)
theorem Zbjf:tbl 356=some Z4i:=Zc Tryz.func356 (by kernel_rfl) (by kernel_rfl)
theorem Zbjg:tbl 328=some Z4j:=Zc Tryz.func328 (by kernel_rfl) (by kernel_rfl)
theorem Zbjh:tbl 438=some Z4k:=Zc Tryz.func438 (by kernel_rfl) (by kernel_rfl)
theorem Zbji:tbl 428=some Z4l:=Zc Tryz.func428 (by kernel_rfl) (by kernel_rfl)
theorem Zbjj:tbl 394=some Z4m:=Zc Tryz.func394 (by kernel_rfl) (by kernel_rfl)
theorem Zbjk:tbl 331=some Z4n:=Zc Tryz.func331 (by kernel_rfl) (by kernel_rfl)
theorem Zbjl:tbl 429=some Z4o:=Zc Tryz.func429 (by kernel_rfl) (by kernel_rfl)
theorem Zbjm:tbl 400=some Z4p:=Zc Tryz.func400 (by kernel_rfl) (by kernel_rfl)
theorem Zbjn:tbl 358=some Z4q:=Zc Tryz.func358 (by kernel_rfl) (by kernel_rfl)
theorem Zbjo:tbl 261=some Z4r:=Zc Tryz.func261 (by kernel_rfl) (by kernel_rfl)
theorem Zbjp:tbl 317=some Z4s:=Zc Tryz.func317 (by kernel_rfl) (by kernel_rfl)
theorem Zbjq:tbl 359=some Z4t:=Zc Tryz.func359 (by kernel_rfl) (by kernel_rfl)
theorem Zbjr:tbl 285=some Z4u:=Zc Tryz.func285 (by kernel_rfl) (by kernel_rfl)
theorem Zbjs:tbl 185=some Z4v:=Zc Tryz.func185 (by kernel_rfl) (by kernel_rfl)
theorem Zbjt:tbl 248=some Z4w:=Zc Tryz.func248 (by kernel_rfl) (by kernel_rfl)
theorem Zbju:tbl 392=some Z4y:=Zc Tryz.func392 (by kernel_rfl) (by kernel_rfl)
theorem Zbjv:tbl 329=some Z4z:=Zc Tryz.func329 (by kernel_rfl) (by kernel_rfl)
theorem Zbjw:tbl 260=some Z40:=Zc Tryz.func260 (by kernel_rfl) (by kernel_rfl)
theorem Zbjx:tbl 319=some Z41:=Zc Tryz.func319 (by kernel_rfl) (by kernel_rfl)
theorem Zbjy:tbl 419=some Z42:=Zc Tryz.func419 (by kernel_rfl) (by kernel_rfl)
theorem Zbjz:tbl 444=some Z43:=Zc Tryz.func444 (by kernel_rfl) (by kernel_rfl)
theorem Zbj0:tbl 439=some Z44:=Zc Tryz.func439 (by kernel_rfl) (by kernel_rfl)
theorem Zbj1:tbl 420=some Z46:=Zc Tryz.func420 (by kernel_rfl) (by kernel_rfl)
theorem Zbj2:tbl 387=some Z48:=Zc Tryz.func387 (by kernel_rfl) (by kernel_rfl)
theorem Zbj3:tbl 318=some Z49:=Zc Tryz.func318 (by kernel_rfl) (by kernel_rfl)
theorem Zbj4:tbl 249=some Z5a:=Zc Tryz.func249 (by kernel_rfl) (by kernel_rfl)
theorem Zbj5:tbl 320=some Z5b:=Zc Tryz.func320 (by kernel_rfl) (by kernel_rfl)
theorem Zbj6:tbl 321=some Z5d:=Zc Tryz.func321 (by kernel_rfl) (by kernel_rfl)
theorem Zbj7:tbl 322=some Z5e:=Zc Tryz.func322 (by kernel_rfl) (by kernel_rfl)
theorem Zbj8:tbl 250=some Z5f:=Zc Tryz.func250 (by kernel_rfl) (by kernel_rfl)
theorem Zbj9:tbl 390=some Z5g:=Zc Tryz.func390 (by kernel_rfl) (by kernel_rfl)
theorem Zbka:tbl 389=some Z5h:=Zc Tryz.func389 (by kernel_rfl) (by kernel_rfl)
theorem Zbkb:tbl 323=some Z5i:=Zc Tryz.func323 (by kernel_rfl) (by kernel_rfl)
theorem Zbkc:tbl 252=some Z5j:=Zc Tryz.func252 (by kernel_rfl) (by kernel_rfl)
theorem Zbkd:tbl 251=some Z5k:=Zc Tryz.func251 (by kernel_rfl) (by kernel_rfl)
theorem Zbke:tbl 130=some Z5m:=Zc Tryz.func130 (by kernel_rfl) (by kernel_rfl)
theorem Zbkf:tbl 140=some Z5n:=Zc Tryz.func140 (by kernel_rfl) (by kernel_rfl)
theorem Zbkg:tbl 391=some Z5o:=Zc Tryz.func391 (by kernel_rfl) (by kernel_rfl)
theorem Zbkh:tbl 324=some Z5p:=Zc Tryz.func324 (by kernel_rfl) (by kernel_rfl)
theorem Zbki:tbl 326=some Z5q:=Zc Tryz.func326 (by kernel_rfl) (by kernel_rfl)
theorem Zbkj:tbl 236=some Z5r:=Zc Tryz.func236 (by kernel_rfl) (by kernel_rfl)
theorem Zbkk:tbl 259=some Z5t:=Zc Tryz.func259 (by kernel_rfl) (by kernel_rfl)
theorem Zbkl:tbl 327=some Z5u:=Zc Tryz.func327 (by kernel_rfl) (by kernel_rfl)
theorem Zbkm:tbl 325=some Z5w:=Zc Tryz.func325 (by kernel_rfl) (by kernel_rfl)
theorem Zbkn:tbl 253=some Z5x:=Zc Tryz.func253 (by kernel_rfl) (by kernel_rfl)
theorem Zbko:tbl 131=some Z5y:=Zc Tryz.func131 (by kernel_rfl) (by kernel_rfl)
theorem Zbkp:tbl 141=some Z5z:=Zc Tryz.func141 (by kernel_rfl) (by kernel_rfl)
theorem Zbkq:tbl 257=some Z50:=Zc Tryz.func257 (by kernel_rfl) (by kernel_rfl)
theorem Zbkr:tbl 136=some Z53:=Zc Tryz.func136 (by kernel_rfl) (by kernel_rfl)
theorem Zbks:tbl 258=some Z54:=Zc Tryz.func258 (by kernel_rfl) (by kernel_rfl)
theorem Zbkt:tbl 137=some Zld:=Zc Tryz.func137 (by kernel_rfl) (by kernel_rfl)
theorem Zbku:tbl 139=some Z55:=Zc Tryz.func139 (by kernel_rfl) (by kernel_rfl)
theorem Zbkv:tbl 262=some Z56:=Zc Tryz.func262 (by kernel_rfl) (by kernel_rfl)
theorem Zbkw:tbl 143=some Z57:=Zc Tryz.func143 (by kernel_rfl) (by kernel_rfl)
theorem Zbkx:tbl 125=some Z58:=Zc Tryz.func125 (by kernel_rfl) (by kernel_rfl)
theorem Zbky:tbl 42=some Z59:=Zc Tryz.func42 (by kernel_rfl) (by kernel_rfl)
theorem Zbkz:tbl 122=some Z6a:=Zc Tryz.func122 (by kernel_rfl) (by kernel_rfl)
theorem Zbk0:tbl 289=some Z6b:=Zc Tryz.func289 (by kernel_rfl) (by kernel_rfl)
theorem Zbk1:tbl 148=some Z6c:=Zc Tryz.func148 (by kernel_rfl) (by kernel_rfl)
theorem Zbk2:tbl 200=some Z6d:=Zc Tryz.func200 (by kernel_rfl) (by kernel_rfl)
theorem Zbk3:tbl 349=some Z6e:=Zc Tryz.func349 (by kernel_rfl) (by kernel_rfl)
theorem Zbk4:tbl 348=some Z6f:=Zc Tryz.func348 (by kernel_rfl) (by kernel_rfl)
theorem Zbk5:tbl 273=some Z6h:=Zc Tryz.func273 (by kernel_rfl) (by kernel_rfl)
theorem Zbk6:tbl 161=some Z6i:=Zc Tryz.func161 (by kernel_rfl) (by kernel_rfl)
theorem Zbk7:tbl 343=some Z6j:=Zc Tryz.func343 (by kernel_rfl) (by kernel_rfl)
theorem Zbk8:tbl 167=some Z6k:=Zc Tryz.func167 (by kernel_rfl) (by kernel_rfl)
theorem Zbk9:tbl 399=some Z6l:=Zc Tryz.func399 (by kernel_rfl) (by kernel_rfl)
theorem Zbla:tbl 351=some Z6m:=Zc Tryz.func351 (by kernel_rfl) (by kernel_rfl)
theorem Zblb:tbl 352=some Z6n:=Zc Tryz.func352 (by kernel_rfl) (by kernel_rfl)
theorem Zblc:tbl 275=some Z6o:=Zc Tryz.func275 (by kernel_rfl) (by kernel_rfl)
theorem Zbld:tbl 178=some Z6p:=Zc Tryz.func178 (by kernel_rfl) (by kernel_rfl)
theorem Zble:tbl 225=some Z6q:=Zc Tryz.func225 (by kernel_rfl) (by kernel_rfl)
theorem Zblf:tbl 353=some Z6s:=Zc Tryz.func353 (by kernel_rfl) (by kernel_rfl)
theorem Zblg:tbl 276=some Z6t:=Zc Tryz.func276 (by kernel_rfl) (by kernel_rfl)
theorem Zblh:tbl 335=some Z6u:=Zc Tryz.func335 (by kernel_rfl) (by kernel_rfl)
theorem Zbli:tbl 263=some Z6v:=Zc Tryz.func263 (by kernel_rfl) (by kernel_rfl)
theorem Zblj:tbl 336=some Z6x:=Zc Tryz.func336 (by kernel_rfl) (by kernel_rfl)
theorem Zblk:tbl 269=some Z6y:=Zc Tryz.func269 (by kernel_rfl) (by kernel_rfl)
theorem Zbll:tbl 264=some Z60:=Zc Tryz.func264 (by kernel_rfl) (by kernel_rfl)
theorem Zblm:tbl 339=some Z62:=Zc Tryz.func339 (by kernel_rfl) (by kernel_rfl)
theorem Zbln:tbl 395=some Z63:=Zc Tryz.func395 (by kernel_rfl) (by kernel_rfl)
theorem Zblo:tbl 396=some Z65:=Zc Tryz.func396 (by kernel_rfl) (by kernel_rfl)
theorem Z7z:tbl 338=some Zyq:=Zc Tryz.func338 (by kernel_rfl) (by kernel_rfl)
theorem Zblp:tbl 337=some Z66:=Zc Tryz.func337 (by kernel_rfl) (by kernel_rfl)
theorem Zblq:tbl 265=some Z67:=Zc Tryz.func265 (by kernel_rfl) (by kernel_rfl)
theorem Zblr:tbl 266=some Z68:=Zc Tryz.func266 (by kernel_rfl) (by kernel_rfl)
theorem Zbls:tbl 340=some Z69:=Zc Tryz.func340 (by kernel_rfl) (by kernel_rfl)
theorem Zblt:tbl 267=some Z7a:=Zc Tryz.func267 (by kernel_rfl) (by kernel_rfl)
theorem Zblu:tbl 144=some Z7c:=Zc Tryz.func144 (by kernel_rfl) (by kernel_rfl)
theorem Zblv:tbl 164=some Z7d:=Zc Tryz.func164 (by kernel_rfl) (by kernel_rfl)
theorem Zblw:tbl 350=some Z7e:=Zc Tryz.func350 (by kernel_rfl) (by kernel_rfl)
theorem Zblx:tbl 274=some Z7f:=Zc Tryz.func274 (by kernel_rfl) (by kernel_rfl)
theorem Zbly:tbl 208=some Z7g:=Zc Tryz.func208 (by kernel_rfl) (by kernel_rfl)
theorem Zblz:tbl 163=some Z7i:=Zc Tryz.func163 (by kernel_rfl) (by kernel_rfl)
theorem Zbl0:tbl 397=some Z7j:=Zc Tryz.func397 (by kernel_rfl) (by kernel_rfl)
theorem Zbl1:tbl 341=some Z7k:=Zc Tryz.func341 (by kernel_rfl) (by kernel_rfl)
theorem Zbl2:tbl 342=some Z7l:=Zc Tryz.func342 (by kernel_rfl) (by kernel_rfl)
theorem Zbl3:tbl 268=some Z7m:=Zc Tryz.func268 (by kernel_rfl) (by kernel_rfl)
theorem Zbl4:tbl 145=some Z7n:=Zc Tryz.func145 (by kernel_rfl) (by kernel_rfl)
theorem Zbl5:tbl 152=some Z7o:=Zc Tryz.func152 (by kernel_rfl) (by kernel_rfl)
theorem Zbl6:tbl 151=some Z7p:=Zc Tryz.func151 (by kernel_rfl) (by kernel_rfl)
theorem Zbl7:tbl 147=some Z7q:=Zc Tryz.func147 (by kernel_rfl) (by kernel_rfl)
theorem Zbl8:tbl 150=some Z7r:=Zc Tryz.func150 (by kernel_rfl) (by kernel_rfl)
theorem Zbl9:tbl 270=some Z7v:=Zc Tryz.func270 (by kernel_rfl) (by kernel_rfl)
theorem Zbma:tbl 154=some Z7w:=Zc Tryz.func154 (by kernel_rfl) (by kernel_rfl)
theorem Zbmb:tbl 53=some Z7x:=Zc Tryz.func53 (by kernel_rfl) (by kernel_rfl)
theorem Zbmc:tbl 40=some Z7y:=Zc Tryz.func40 (by kernel_rfl) (by kernel_rfl)
theorem Zeb:(∀⦃a a1 a2 r⦄,Im (Z6 a a1 a2=some r) (if a1≤a then(some (Bo (decide (a≤a2)),[])=some r)else(some (Bo false,[])=some r))) ∧
 (∀⦃a r⦄,Im (Zkq a=some r) (if(a.size:Int)=1 then(∃b1,a[0]?=some b1∧(if 97≤(b1.toNat:Int)then(some (Bo (decide ((b1.toNat:Int)≤122)),[])=some r)else(some (Bo false,[])=some r)))else(some (Bo false,[])=some r))) ∧
 (∀⦃s v x x1 r⦄,Im (Zni s v x x1=some r) (if x1<x then(0≤x1∧(∃e1,s[x1.toNat]?=some e1∧(if v=e1 then(some (I x1,[])=some r)else(Zni s v x (w (x1+1))=some r))))else(some (I (-1),[])=some r))) ∧
 (∀⦃a a1 r⦄,Im (Zcp a a1=some r) (Zni a a1 (a.length:Int) 0=some r)) ∧
 (∀⦃a a1 r⦄,Im (Zf1 a a1=some r) (∃v1,Zcp a a1=some (I v1,[])∧(some (Bo (decide (0≤v1)),[])=some r))) ∧
 (∀⦃s v x x1 r⦄,Im (Znj s v x x1=some r) (if x1<x then(0≤x1∧(∃e1,s[x1.toNat]?=some e1∧(if v=e1 then(some (I x1,[])=some r)else(Znj s v x (w (x1+1))=some r))))else(some (I (-1),[])=some r))) ∧
 (∀⦃a a1 r⦄,Im (Zqx a a1=some r) (Znj a a1 (a.length:Int) 0=some r)) ∧
 (∀⦃a a1 r⦄,Im (Zqy a a1=some r) (∃v1,Zqx a a1=some (I v1,[])∧(some (Bo (decide (0≤v1)),[])=some r))) ∧
 (∀⦃q cc x x1 x2 r⦄,Im (Zii q cc x x1 x2=some r) (if x2<x1 then(0≤x2∧(∃e1,x[x2.toNat]?=some e1∧(∃v2,Zkq e1.Name=some (Bo v2,[])∧(if v2=true then(∃v3,Z6 (e1.Vars.length:Int) 1 3=some (Bo v3,[])∧(if v3=true then(Znk q cc e1 x x1 x2 e1.Vars (e1.Vars.length:Int) 0=some r)else(some (Bo false,[])=some r)))else(some (Bo false,[])=some r)))))else(∃v4,Zqy cc false=some (Bo v4,[])∧(some (Bo (!v4),[])=some r)))) ∧
 (∀⦃q cc a x x1 x2 x3 x4 x5 r⦄,Im (Znk q cc a x x1 x2 x3 x4 x5=some r) (if x5<x4 then(0≤x5∧(∃e1,x3[x5.toNat]?=some e1∧(∃v2,Z6 e1 0 (w (q.Zn-1))=some (Bo v2,[])∧(if v2=true then(x5.toNat≤a.Vars.length∧(∃v3,Zf1 (a.Vars.take x5.toNat) e1=some (Bo v3,[])∧(if v3=true then(some (Bo false,[])=some r)else(0≤e1∧(∃e4,cc[e1.toNat]?=some e4∧(Znk q (cc.set e1.toNat true) a x x1 x2 x3 x4 (w (x5+1))=some r))))))else(some (Bo false,[])=some r)))))else(Zii q cc x x1 (w (x2+1))=some r))) ∧
 (∀⦃q cd c v r⦄,Im (Zgz q cd c v=some r) (if v<q.Zn then(Zks q cd c v q.Atoms (q.Atoms.length:Int) 0=some r)else(some (.own 0,[.arr 3 1 true (cd.map ic)])=some r))) ∧
 (∀⦃q cd c v x x1 x2 r⦄,Im (Zks q cd c v x x1 x2=some r) (if x2<x1 then(0≤x2∧(∃e1,x[x2.toNat]?=some e1∧(¬x2<0∧(if(andI (shrI c x2) 1)=1 then(∃v2,Zf1 e1.Vars v=some (Bo v2,[])∧(if v2=true then(cd.length+1≤68719476736∧(Zgz q (cd++[v]) c (w (v+1))=some r))else(Zks q cd c v x x1 (w (x2+1))=some r)))else(Zks q cd c v x x1 (w (x2+1))=some r)))))else(Zgz q cd c (w (v+1))=some r))):=by
 and_intros
 all_goals intros
 all_goals unfold Im
 all_goals try simp only[Z6,Zkq,Zni,Zcp,Zf1,Znj,Zqx,Zqy,Zii,Znk,Zgz,Zks,mpl,dfs]
 all_goals try simp only[itb]
 all_goals try simp only[itf,gS,kk]
 all_goals repeat' first|refine exI fun _=>?_|refine anJ fun _ _=>?_|refine anI fun _=>?_|refine orE2 ?_ ?_|exact False.elim
 all_goals (intro h;first|refine run Zbi3 rfl ?_|refine run Zbi4 rfl ?_|rw[Ze Zvf.eq_1]|refine run Zbi5 rfl ?_|refine run Zbi6 rfl ?_|rw[Ze Zvh.eq_1]|refine run Zbi7 rfl ?_|refine run Zbi8 rfl ?_|rw[Ze Zqz.eq_1]|rw[Ze Zvj.eq_1]|rw[Ze Zq2.eq_1]|rw[Ze Zvl.eq_1])
 all_goals (refine Yb ?_ h;clear h;simp +decide[*,kk,tI,tII,Z35,Z36,Zvg,Z37,Z38,Zvi,Z39,Z4a,Zq0,Zvk,Zq3,Zvm])
abbrev Zbmd:=Zeb.1
abbrev Zbme:=Zeb.2.1
abbrev Z70:=Zeb.2.2.1
abbrev Zbmf:=Zeb.2.2.2.1
abbrev Zbmg:=Zeb.2.2.2.2.1
abbrev Z71:=Zeb.2.2.2.2.2.1
abbrev Zbmh:=Zeb.2.2.2.2.2.2.1
abbrev Zbmi:=Zeb.2.2.2.2.2.2.2.1
abbrev Z72:=Zeb.2.2.2.2.2.2.2.2.1
abbrev Z73:=Zeb.2.2.2.2.2.2.2.2.2.1
abbrev Z74:=Zeb.2.2.2.2.2.2.2.2.2.2.1
abbrev Z75:=Zeb.2.2.2.2.2.2.2.2.2.2.2
theorem Zec:(∀⦃a a1 r⦄,Im (Zkr a a1=some r) (Zgz a ([]:List Int) a1 0=some r)) ∧
 (∀⦃cn b x x1 x2 r⦄,Im (Zkt cn b x x1 x2=some r) (if x2<x1 then(0≤x2∧(∃e1,x[x2.toNat]?=some e1∧(∃v1,Zf1 b e1=some (Bo v1,[])∧(if v1=true then(cn.length+1≤68719476736∧(Zkt (cn++[e1]) b x x1 (w (x2+1))=some r))else(Zkt cn b x x1 (w (x2+1))=some r)))))else(some (.own 0,[.arr 3 1 true (cn.map ic)])=some r))) ∧
 (∀⦃a a1 r⦄,Im (Zq4 a a1=some r) (Zkt ([]:List Int) a1 a (a.length:Int) 0=some r)) ∧
 (∀⦃a a1 a2 a3 r⦄,Im (Zku a a1 a2 a3=some r) (if a1.Kind=1 then(∃v,Z6 a1.Atom 0 (w ((a.Atoms.length:Int)-1))=some (Bo v,[])∧(if v=true then(if a1.Order=0 then(¬a1.Atom<0∧(0≤a1.Atom∧(∃e2,a.Atoms[a1.Atom.toNat]?=some e2∧(∃e3,e2.Vars[0]?=some e3∧(some (.tup [.agg [I (shlI 1 a1.Atom),I e3,I (-1),I (-1)],Bo true],[])=some r)))))else(some (.tup [.agg [I 0,I (-1),I (-1),I (-1)],Bo false],[])=some r))else(some (.tup [.agg [I 0,I (-1),I (-1),I (-1)],Bo false],[])=some r)))else(if a1.Atom=0 then(if a1.Kind=2 then(if(a3.length:Int)<1 then(some (.tup [.agg [I 0,I (-1),I (-1),I (-1)],Bo false],[])=some r)else(0≤(w ((a3.length:Int)-1))∧(∃e4,a3[(w ((a3.length:Int)-1)).toNat]?=some e4∧(0≤e4∧(∃e5,a2[e4.toNat]?=some e5∧(∃(v3:List Int),Zkr a e5.Mask=some (.own 0,[.arr 3 1 true (v3.map ic)])∧(∃v4,Zf1 v3 a1.Order=some (Bo v4,[])∧(if v4=true then(if e5.Order=a1.Order then(some (.tup [.agg [I 0,I (-1),I (-1),I (-1)],Bo false],[])=some r)else(some (.tup [.agg [I e5.Mask,I a1.Order,I e4,I (-1)],Bo true],[])=some r))else(some (.tup [.agg [I 0,I (-1),I (-1),I (-1)],Bo false],[])=some r)))))))))else(if(a3.length:Int)<2 then(some (.tup [.agg [I 0,I (-1),I (-1),I (-1)],Bo false],[])=some r)else(0≤(w ((a3.length:Int)-2))∧(∃e8,a3[(w ((a3.length:Int)-2)).toNat]?=some e8∧(0≤(w ((a3.length:Int)-1))∧(∃e9,a3[(w ((a3.length:Int)-1)).toNat]?=some e9∧(0≤e8∧(∃e10,a2[e8.toNat]?=some e10∧(0≤e9∧(∃e11,a2[e9.toNat]?=some e11∧(∃(v5:List Int),Zkr a e10.Mask=some (.own 0,[.arr 3 1 true (v5.map ic)])∧(∃(v6:List Int),Zkr a e11.Mask=some (.own 0,[.arr 3 1 true (v6.map ic)])∧(∃(v7:List Int),Zq4 v5 v6=some (.own 0,[.arr 3 1 true (v7.map ic)])∧(if(andI e10.Mask e11.Mask)=0 then(if(v7.length:Int)=0 then(some (.tup [.agg [I (orI e10.Mask e11.Mask),I (-1),I e8,I e9],Bo false],[])=some r)else(if a1.Kind=3 then(some (.tup [.agg [I (orI e10.Mask e11.Mask),I (-1),I e8,I e9],Bo (decide (a1.Order=0))],[])=some r)else(if a1.Kind=5 then(some (.tup [.agg [I (orI e10.Mask e11.Mask),I e10.Order,I e8,I e9],Bo (decide (a1.Order=0))],[])=some r)else(if a1.Kind=4 then(∃v8,Zf1 v7 a1.Order=some (Bo v8,[])∧(if v8=true then(if e10.Order=a1.Order then(some (.tup [.agg [I (orI e10.Mask e11.Mask),I a1.Order,I e8,I e9],Bo (decide (e11.Order=a1.Order))],[])=some r)else(some (.tup [.agg [I (orI e10.Mask e11.Mask),I a1.Order,I e8,I e9],Bo false],[])=some r))else(some (.tup [.agg [I (orI e10.Mask e11.Mask),I a1.Order,I e8,I e9],Bo false],[])=some r)))else(some (.tup [.agg [I (orI e10.Mask e11.Mask),I (-1),I e8,I e9],Bo false],[])=some r)))))else(some (.tup [.agg [I (orI e10.Mask e11.Mask),I (-1),I e8,I e9],Bo false],[])=some r)))))))))))))))else(some (.tup [.agg [I 0,I (-1),I (-1),I (-1)],Bo false],[])=some r)))) ∧
 (∀⦃q cd cc x x1 x2 r⦄,Im (Zij q cd cc x x1 x2=some r) (if x2<x1 then(0≤x2∧(∃e1,x[x2.toNat]?=some e1∧(∃(v1:Zb),∃v2,Zku q e1 cd cc=some (.tup [.agg (v1.c.map .t),Bo v2],[])∧(if v2=true then(cd.length+1≤68719476736∧(if 0≤v1.Right then(0≤(w ((cc.length:Int)-2))∧((w ((cc.length:Int)-2)).toNat≤cc.length∧((w ((cc.length:Int)-2)).toNat+1≤68719476736∧(Zij q (cd++[v1]) ((cc.take ((w ((cc.length:Int)-2)).toNat))++[x2]) x x1 (w (x2+1))=some r))))else(if 0≤v1.Left then(0≤(w ((cc.length:Int)-1))∧((w ((cc.length:Int)-1)).toNat≤cc.length∧((w ((cc.length:Int)-1)).toNat+1≤68719476736∧(Zij q (cd++[v1]) ((cc.take ((w ((cc.length:Int)-1)).toNat))++[x2]) x x1 (w (x2+1))=some r))))else(cc.length+1≤68719476736∧(Zij q (cd++[v1]) (cc++[x2]) x x1 (w (x2+1))=some r)))))else(some (.tup [.t .nil,Bo false],[])=some r)))))else(if(cc.length:Int)=1 then(some (.tup [.own 0,Bo true],[.arr 209 4 true (cd.map Zb.c)])=some r)else(some (.tup [.t .nil,Bo false],[])=some r)))) ∧
 (∀⦃a a1 r⦄,Im (Zkv a a1=some r) (∃v,Zih a=some (Bo v,[])∧(if v=true then(∃v1,Z6 (a1.Steps.length:Int) 1 14=some (Bo v1,[])∧(if v1=true then(Zij a ([]:List Zb) ([]:List Int) a1.Steps (a1.Steps.length:Int) 0=some r)else(some (.tup [.t .nil,Bo false],[])=some r)))else(some (.tup [.t .nil,Bo false],[])=some r)))) ∧
 (∀⦃a a1 r⦄,Im (Zvr a a1=some r) (some (Bo (decide (a.Name=a1)),[])=some r)) ∧
 (∀⦃s f x x1 r⦄,Im (Znl s f x x1=some r) (if x1<x then(0≤x1∧(∃e1,s[x1.toNat]?=some e1∧(∃v1,Zvr e1 f=some (Bo v1,[])∧(if v1=true then(some (I x1,[])=some r)else(Znl s f x (w (x1+1))=some r)))))else(some (I (-1),[])=some r))) ∧
 (∀⦃a a1 r⦄,Im (Zq5 a a1=some r) (Znl a a1 (a.length:Int) 0=some r)) ∧
 (∀⦃co cl x x1 x2 r⦄,Im (Znm co cl x x1 x2=some r) (if x2<x1 then(0≤x2∧(∃e1,x[x2.toNat]?=some e1∧(∃v1,Z6 e1 0 9=some (Bo v1,[])∧(if v1=true then(Znm co cl x x1 (w (x2+1))=some r)else(some (Bo false,[])=some r)))))else(some (Bo (decide ((co.length:Int)=cl)),[])=some r))) ∧
 (∀⦃a a1 r⦄,Im (Zik a a1=some r) (Znm a a1 a (a.length:Int) 0=some r)) ∧
 (∀⦃a r⦄,Im (Znn a=some r) (some (Bo (!(decide (a=a))),[])=some r)):=by
 and_intros
 all_goals intros
 all_goals unfold Im
 all_goals try simp only[Zkr,Zkt,Zq4,Zku,Zij,Zkv,Zvr,Znl,Zq5,Znm,Zik,Znn,Zf1,Z6,Zd.c_def,Zg.c_def,Zb.c_def,Zih,Zi.c_def,Zgz,mpl,dfs]
 all_goals try simp only[itb]
 all_goals try simp only[itf,gS,kk]
 all_goals repeat' first|refine exI fun _=>?_|refine anJ fun _ _=>?_|refine anI fun _=>?_|refine orE2 ?_ ?_|exact False.elim
 all_goals (intro h;first|refine run Zbja rfl ?_|rw[Ze Zvn.eq_1]|refine run Zbjb rfl ?_|refine run Zbjc rfl ?_|rw[Ze Zvp.eq_1]|refine run Zbjd rfl ?_|refine run Zbje rfl ?_|rw[Ze Zvs.eq_1]|refine run Zbjf rfl ?_|rw[Ze Zvu.eq_1]|refine run Zbjg rfl ?_|refine run Zbjh rfl ?_)
 all_goals (refine Yb ?_ h;clear h;simp +decide[*,kk,tI,tII,Z4b,Z4c,Zvo,Z4d,Z4e,Z4f,Zvq,Z4g,Z4h,Zvt,Z4i,Zvv,Z4j,Z4k])
abbrev Zbmj:=Zec.1
abbrev Z76:=Zec.2.1
abbrev Zbmk:=Zec.2.2.1
abbrev Zhu:=Zec.2.2.2.1
abbrev Z77:=Zec.2.2.2.2.1
abbrev Zbml:=Zec.2.2.2.2.2.1
abbrev Zbmm:=Zec.2.2.2.2.2.2.1
abbrev Z78:=Zec.2.2.2.2.2.2.2.1
abbrev Zbmn:=Zec.2.2.2.2.2.2.2.2.1
abbrev Z79:=Zec.2.2.2.2.2.2.2.2.2.1
abbrev Zbmo:=Zec.2.2.2.2.2.2.2.2.2.2.1
abbrev Z8a:=Zec.2.2.2.2.2.2.2.2.2.2.2
theorem Zzi:(∀⦃a a1 r⦄,Im (Zq6 a a1=some r) (∃v,Znn a=some (Bo v,[])∧(∃v1,Znn a1=some (Bo v1,[])∧(if v=true then(if v1=true then(some (I 0,[])=some r)else(some (I (-1),[])=some r))else(if v1=true then(some (I 1,[])=some r)else(if a<a1 then(some (I (-1),[])=some r)else(if a1<a then(some (I 1,[])=some r)else(some (I 0,[])=some r)))))))) ∧
 (∀⦃s1 s2 x x1 x2 r⦄,Im (Zno s1 s2 x x1 x2=some r) (if x2<x1 then(0≤x2∧(∃e1,x[x2.toNat]?=some e1∧(if(s2.length:Int)≤x2 then(some (I 1,[])=some r)else(∃e2,s2[x2.toNat]?=some e2∧(∃v2,Zq6 e1 e2=some (I v2,[])∧(if v2=0 then(Zno s1 s2 x x1 (w (x2+1))=some r)else(some (I v2,[])=some r)))))))else(if(s1.length:Int)<(s2.length:Int)then(some (I (-1),[])=some r)else(some (I 0,[])=some r)))) ∧
 (∀⦃a a1 r⦄,Im (Zq7 a a1=some r) (Zno a a1 a (a.length:Int) 0=some r)):=by
 and_intros
 all_goals intros
 all_goals unfold Im
 all_goals try simp only[Zq6,Zno,Zq7,Znn,mpl,dfs]
 all_goals try simp only[itb]
 all_goals try simp only[itf,gS,kk]
 all_goals repeat' first|refine exI fun _=>?_|refine anJ fun _ _=>?_|refine anI fun _=>?_|refine orE2 ?_ ?_|exact False.elim
 all_goals (intro h;first|refine run Zbji rfl ?_|rw[Ze Zvw.eq_1]|refine run Zbjj rfl ?_)
 all_goals (refine Yb ?_ h;clear h;simp +decide[*,kk,tI,tII,Z4l,Zvx,Z4m])
abbrev Zbmp:=Zzi.1
abbrev Z8b:=Zzi.2.1
abbrev Zbmq:=Zzi.2.2
theorem Zbmr{a:Zd}{r:AV×List Blk}(h:(∃(v:Bool),Z6 a.Zn 1 4=some (Bo v,[])∧(if v=true then(∃(v1:Bool),Z6 (a.Atoms.length:Int) 1 4=some (Bo v1,[])∧(if v1=true then(0≤a.Zn∧(a.Zn.toNat*1≤room∧(a.Zn≤140737488355328∧(Zii a (List.replicate (a.Zn).toNat false) a.Atoms (a.Atoms.length:Int) 0=some r))))else(some (Bo false,[])=some r)))else(some (Bo false,[])=some r)))):Zih a=some r:=by
 unfold Zih;refine run Zbi9 rfl ?_;obtain⟨v,q1,h⟩:=h;unfold Z6 at q1
 try simp at q1
 by_cases q2:v=true
 ·rw[if_pos q2]at h;obtain⟨v1,q3,h⟩:=h;unfold Z6 at q3
  try simp at q3
  by_cases q4:v1=true
  ·rw[if_pos q4]at h;obtain⟨q5,h⟩:=h;obtain⟨q6,h⟩:=h;have zq6:=q6;try simp at zq6
   obtain⟨q7,h⟩:=h;refine Yb ?_ h;clear h;simp +decide[*,Zq1,tI,tII,Zii]
  ·rw[if_neg q4]at h;refine Yb ?_ h;clear h;simp +decide[*,Zq1,tI,tII]
 ·rw[if_neg q2]at h;refine Yb ?_ h;clear h;simp +decide[*,Zq1,tI,tII]
end
end Go.Proofs.YtgnfoghkbpkgjaaGreat
namespace Go.AM
theorem setI(l:List (List Int))(i:Nat)(e:List Int):(l.map isc).set i [.lst 1 (e.map ic)]=(l.set i e).map isc:=by rw[List.map_set];rfl
theorem appI(l:List Int)(v:Int):l.map ic++[[.int .i64 v]]=(l++[v]).map ic:=by simp
theorem Zcd(a b:Int)(k:IntKind):binT .shr (.int .u64 a) (.int k b)=if b<0 then none else some (.int .u64 (shrI a b)):=by simp[binT,shrI,IntKind.bits]
end Go.AM
namespace Go.Proofs.YtgnfoghkbpkgjaaGreat
open Go.AM
noncomputable section
theorem appO(l:List Zl)(a b:Int)(c:Bool):l.map Zl.c++[[.int .i64 a,.int .i64 b,.bool c]]=(l++[(⟨a,b,c⟩:Zl)]).map Zl.c:=by simp
theorem Zed:(∀⦃a a1 r⦄,Im (Zq8 a a1=some r) (∃v,Zq7 a a1=some (I v,[])∧(some (I v,[])=some r))) ∧
 (∀⦃c i r⦄,Im (Znp c i=some r) (if i<(c.length:Int)then(0≤(w (i-1))∧(∃e1,c[(w (i-1)).toNat]?=some e1∧(0≤i∧(∃e2,c[i.toNat]?=some e2∧(∃v2,Zq8 e1 e2=some (I v2,[])∧(if 0≤v2 then(some (Bo false,[])=some r)else(Znp c (w (i+1))=some r)))))))else(some (Bo true,[])=some r))) ∧
 (∀⦃a r⦄,Im (Zq9 a=some r) (Znp a 1=some r)) ∧
 (∀⦃t x x1 x2 r⦄,Im (Znq t x x1 x2=some r) (if x2<x1 then(0≤x2∧(∃e1,x[x2.toNat]?=some e1∧(∃v1,Zik e1 t.Arity=some (Bo v1,[])∧(if v1=true then(Znq t x x1 (w (x2+1))=some r)else(some (Bo false,[])=some r)))))else(∃v2,Zkq t.Name=some (Bo v2,[])∧(if v2=true then(∃v3,Z6 t.Arity 1 3=some (Bo v3,[])∧(if v3=true then(if(t.Rows.length:Int)≤8 then(∃v6,Zq9 t.Rows=some (Bo v6,[])∧(some (Bo v6,[])=some r))else(some (Bo false,[])=some r))else(some (Bo false,[])=some r)))else(some (Bo false,[])=some r))))) ∧
 (∀⦃a r⦄,Im (Zra a=some r) (Znq a a.Rows (a.Rows.length:Int) 0=some r)) ∧
 (∀⦃db x x1 x2 r⦄,Im (Zkw db x x1 x2=some r) (if x2<x1 then(0≤x2∧(∃e1,x[x2.toNat]?=some e1∧(∃v1,Zra e1=some (Bo v1,[])∧(if v1=true then(if 0<x2 then(0≤(w (x2-1))∧(∃e3,db.Tables[(w (x2-1)).toNat]?=some e3∧(if(Op.bytesLess e3.Name.toList e1.Name.toList)=true then(Zkw db x x1 (w (x2+1))=some r)else(some (Bo false,[])=some r))))else(Zkw db x x1 (w (x2+1))=some r))else(some (Bo false,[])=some r)))))else(some (Bo (decide ((db.Tables.length:Int)≤6)),[])=some r))) ∧
 (∀⦃a r⦄,Im (Zrb a=some r) (Zkw a a.Tables (a.Tables.length:Int) 0=some r)) ∧
 (∀⦃a r⦄,Im (Zc4 a=some r) (a.length≤68719476736∧(some (.own 0,[.arr 3 1 true (a.map ic)])=some r))) ∧
 (∀⦃cc x x1 x2 r⦄,Im (Znr cc x x1 x2=some r) (if x2<x1 then(0≤x2∧(∃e1,x[x2.toNat]?=some e1∧(∃(v1:List Int),Zc4 e1=some (.own 0,[.arr 3 1 true (v1.map ic)])∧(cc.length+1≤68719476736∧(Znr (cc++[v1]) x x1 (w (x2+1))=some r)))))else(some (.own 0,[.arr 30 1 true (cc.map isc)])=some r))) ∧
 (∀⦃a r⦄,Im (Zg0 a=some r) (Znr ([]:List (List Int)) a (a.length:Int) 0=some r)) ∧
 (∀⦃a r⦄,Im (Zv6 a=some r) (∃(v:List (List Int)),Zg0 a.Rows=some (.own 0,[.arr 30 1 true (v.map isc)])∧(some (.agg [.t (.str a.Name),I a.Arity,.own 0],[.arr 30 1 true (v.map isc)])=some r))) ∧
 (∀⦃a a1 r⦄,Im (Zg1 a a1=some r) (∃v,Zq5 a.Tables a1=some (I v,[])∧(if v<0 then(some (.tup [.agg [.t (.str ⟨#[]⟩),I 0,.t .nil],Bo false],[])=some r)else(∃v1,Zrb a=some (Bo v1,[])∧(if v1=true then(0≤v∧(∃e3,a.Tables[v.toNat]?=some e3∧(∃(v3:List (List Int)),∃v4,∃v5,Zv6 e3=some (.agg [.t (.str v4),I v5,.own 0],[.arr 30 1 true (v3.map isc)])∧(some (.tup [.agg [.t (.str v4),I v5,.own 0],Bo true],[.arr 30 1 true (v3.map isc)])=some r))))else(some (.tup [.agg [.t (.str ⟨#[]⟩),I 0,.t .nil],Bo false],[])=some r)))))):=by
 and_intros
 all_goals intros
 all_goals unfold Im
 all_goals try simp only[Zq8,Znp,Zq9,Znq,Zra,Zkw,Zrb,Zc4,Znr,Zg0,Zv6,Zg1,Zq7,Zik,Zkq,Z6,Zi.c_def,Zq5,Zk.c_def,mpl,dfs]
 all_goals try simp only[itb]
 all_goals try simp only[itf,gS,kk]
 all_goals repeat' first|refine exI fun _=>?_|refine anJ fun _ _=>?_|refine anI fun _=>?_|refine orE2 ?_ ?_|exact False.elim
 all_goals (intro h;first|refine run Zbjk rfl ?_|rw[Ze Zvy.eq_1]|refine run Zbjl rfl ?_|rw[Ze Zv0.eq_1]|refine run Zbjm rfl ?_|rw[Ze Zv2.eq_1]|refine run Zbjn rfl ?_|refine run Zbjo rfl ?_|rw[Ze Zv4.eq_1]|refine run Zbjp rfl ?_|refine run Zbjq rfl ?_|refine run Zbjr rfl ?_)
 all_goals (refine Yb ?_ h;clear h;simp +decide[*,kk,tI,tII,Z4n,Zvz,Z4o,Zv1,Z4p,Zv3,Z4q,Z4r,Zv5,Z4s,Z4t,Z4u])
abbrev Zbms:=Zed.1
abbrev Zzj:=Zed.2.1
abbrev Zbmt:=Zed.2.2.1
abbrev Z8c:=Zed.2.2.2.1
abbrev Zbmu:=Zed.2.2.2.2.1
abbrev Z8d:=Zed.2.2.2.2.2.1
abbrev Zbmv:=Zed.2.2.2.2.2.2.1
abbrev Zbmw:=Zed.2.2.2.2.2.2.2.1
abbrev Z8e:=Zed.2.2.2.2.2.2.2.2.1
abbrev Zbmx:=Zed.2.2.2.2.2.2.2.2.2.1
abbrev Zbmy:=Zed.2.2.2.2.2.2.2.2.2.2.1
abbrev Zbmz:=Zed.2.2.2.2.2.2.2.2.2.2.2
theorem Zee:(∀⦃db x x1 x2 r⦄,Im (Zns db x x1 x2=some r) (if x2<x1 then(0≤x2∧(∃e1,x[x2.toNat]?=some e1∧((∃v1 v2,Zg1 db e1.Name=some (.tup [.agg [.t (.str v1),I v2,.t .nil],Bo false],[])∧(some (Bo false,[])=some r))∨(∃(v3:List (List Int)),∃v4,∃v5,Zg1 db e1.Name=some (.tup [.agg [.t (.str v4),I v5,.own 0],Bo true],[.arr 30 1 true (v3.map isc)])∧(if v5=(e1.Vars.length:Int)then(Zns db x x1 (w (x2+1))=some r)else(some (Bo false,[])=some r))))))else(some (Bo true,[])=some r))) ∧
 (∀⦃a a1 r⦄,Im (Zkx a a1=some r) (∃v,Zih a1=some (Bo v,[])∧(if v=true then(Zns a a1.Atoms (a1.Atoms.length:Int) 0=some r)else(some (Bo false,[])=some r)))) ∧
 (∀⦃a x x1 x2 x3 r⦄,Im (Zv9 a x x1 x2 x3=some r) (if x3<x2 then(0≤x3∧(∃e1,x1[x3.toNat]?=some e1∧(Znt a x ([]:List Int) x1 e1 x2 x3 (x.length:Int) 0=some r)))else(some (.tup [.agg [.own 0,.t .nil],Bo true],[.arr 3 1 true (x.map ic)])=some r))) ∧
 (∀⦃a x x1 x2 cd x3 x4 x5 x6 r⦄,Im (Znt a x x1 x2 cd x3 x4 x5 x6=some r) (if x6<x5 then(0≤x6∧(∃e1,x[x6.toNat]?=some e1∧(∃v1,Zcp a.Vars e1=some (I v1,[])∧(0≤v1∧(∃e3,cd[v1.toNat]?=some e3∧(x1.length+1≤68719476736∧(Znt a x (x1++[e3]) x2 cd x3 x4 x5 (w (x6+1))=some r)))))))else(Zip a x ([x1]) x2 x3 (w (x4+1))=some r))) ∧
 (∀⦃a x x1 x2 x3 x4 r⦄,Im (Zip a x x1 x2 x3 x4=some r) (if x4<x3 then(0≤x4∧(∃e1,x2[x4.toNat]?=some e1∧(Znu a x x1 ([]:List Int) x2 e1 x3 x4 (x.length:Int) 0=some r)))else(some (.tup [.agg [.own 0,.own 1],Bo true],[.arr 3 1 true (x.map ic),.arr 30 1 true (x1.map isc)])=some r))) ∧
 (∀⦃a x x1 x2 x3 cd x4 x5 x6 x7 r⦄,Im (Znu a x x1 x2 x3 cd x4 x5 x6 x7=some r) (if x7<x6 then(0≤x7∧(∃e1,x[x7.toNat]?=some e1∧(∃v1,Zcp a.Vars e1=some (I v1,[])∧(0≤v1∧(∃e3,cd[v1.toNat]?=some e3∧(x2.length+1≤68719476736∧(Znu a x x1 (x2++[e3]) x3 cd x4 x5 x6 (w (x7+1))=some r)))))))else(x1.length+1≤68719476736∧(Zip a x (x1++[x2]) x3 x4 (w (x5+1))=some r)))) ∧
 (∀⦃a a1 a2 r⦄,Im (Zio a a1 a2=some r) (∃v,Zkx a a1=some (Bo v,[])∧(if v=true then(∃v1,Z6 a2 0 (w ((a1.Atoms.length:Int)-1))=some (Bo v1,[])∧(if v1=true then(0≤a2∧(∃e3,a1.Atoms[a2.toNat]?=some e3∧((∃v6 v7,Zg1 a e3.Name=some (.tup [.agg [.t (.str v6),I v7,.t .nil],Bo false],[])∧(∃(v8:List Int),Zc4 e3.Vars=some (.own 0,[.arr 3 1 true (v8.map ic)])∧(∃(v9:List Int),Zil v8=some (.tup [],[.arr 3 1 true (v9.map ic)])∧(Z4x e3 v9 0 0=some r))))∨(∃(v10:List (List Int)),∃v11,∃v12,Zg1 a e3.Name=some (.tup [.agg [.t (.str v11),I v12,.own 0],Bo true],[.arr 30 1 true (v10.map isc)])∧(∃(v13:List Int),Zc4 e3.Vars=some (.own 0,[.arr 3 1 true (v13.map ic)])∧(∃(v14:List Int),Zil v13=some (.tup [],[.arr 3 1 true (v14.map ic)])∧(Zv9 e3 v14 v10 (v10.length:Int) 0=some r)))))))else(some (.tup [.agg [.t .nil,.t .nil],Bo false],[])=some r)))else(some (.tup [.agg [.t .nil,.t .nil],Bo false],[])=some r)))) ∧
 (∀⦃c cc x x1 x2 r⦄,Im (Zky c cc x x1 x2=some r) (if x2<x1 then(0≤x2∧(∃e1,x[x2.toNat]?=some e1∧(∃v1,Z6 e1 0 (w (cc-1))=some (Bo v1,[])∧(if v1=true then(if 0<x2 then(0≤(w (x2-1))∧(∃e3,c[(w (x2-1)).toNat]?=some e3∧(if e1≤e3 then(some (Bo false,[])=some r)else(Zky c cc x x1 (w (x2+1))=some r))))else(Zky c cc x x1 (w (x2+1))=some r))else(some (Bo false,[])=some r)))))else(some (Bo true,[])=some r))) ∧
 (∀⦃a a1 r⦄,Im (Zwc a a1=some r) (Zky a a1 a (a.length:Int) 0=some r)) ∧
 (∀⦃a r⦄,Im (Zwd a=some r) (∃v,Zwc a 4=some (Bo v,[])∧(some (Bo v,[])=some r))) ∧
 (∀⦃s x x1 x2 r⦄,Im (Znv s x x1 x2=some r) (if x2<x1 then(0≤x2∧(∃e1,x[x2.toNat]?=some e1∧(∃v1,Zik e1 (s.Vars.length:Int)=some (Bo v1,[])∧(if v1=true then(Znv s x x1 (w (x2+1))=some r)else(some (Bo false,[])=some r)))))else(∃v3,Zwd s.Vars=some (Bo v3,[])∧(if v3=true then(some (Bo (decide ((s.Rows.length:Int)≤4096)),[])=some r)else(some (Bo false,[])=some r))))) ∧
 (∀⦃a r⦄,Im (Zc5 a=some r) (Znv a a.Rows (a.Rows.length:Int) 0=some r)):=by
 and_intros
 all_goals intros
 all_goals unfold Im
 all_goals try simp only[Zns,Zkx,Zv9,Znt,Zip,Znu,Zio,Zky,Zwc,Zwd,Znv,Zc5,Zg1,Zk.c_def,Zih,Zd.c_def,Zcp,Z6,Zc4,Zil,Zik,Z4x,mpl,dfs]
 all_goals try simp only[itb]
 all_goals try simp only[itf,gS,kk]
 all_goals repeat' first|refine exI fun _=>?_|refine anJ fun _ _=>?_|refine anI fun _=>?_|refine orE2 ?_ ?_|exact False.elim
 all_goals (intro h;first|rw[Ze Zv7.eq_1]|refine run Zbjs rfl ?_|rw[Ze Zim.eq_1]|rw[Ze Zrc.eq_1]|refine run Zbjt rfl ?_|rw[Ze Zwa.eq_1]|refine run Zbju rfl ?_|refine run Zbjv rfl ?_|rw[Ze Zwe.eq_1]|refine run Zbjw rfl ?_)
 all_goals (refine Yb ?_ h;clear h;simp +decide[*,kk,tI,tII,Zv8,Z4v,Zin,Zre,Zrd,Z4w,Zwb,Z4y,Z4z,Zwf,Z40])
abbrev Z8f:=Zee.1
abbrev Zbm0:=Zee.2.1
abbrev Zbm1:=Zee.2.2.1
abbrev Z8g:=Zee.2.2.2.1
abbrev Z8h:=Zee.2.2.2.2.1
abbrev Z8i:=Zee.2.2.2.2.2.1
abbrev Zbm2:=Zee.2.2.2.2.2.2.1
abbrev Z8j:=Zee.2.2.2.2.2.2.2.1
abbrev Zbm3:=Zee.2.2.2.2.2.2.2.2.1
abbrev Zbm4:=Zee.2.2.2.2.2.2.2.2.2.1
abbrev Z8k:=Zee.2.2.2.2.2.2.2.2.2.2.1
abbrev Zbm5:=Zee.2.2.2.2.2.2.2.2.2.2.2
theorem Zbm6:∀⦃x a a1 r⦄,Im (Zez x a a1=some r) (0≤x∧(∃e1,a[x.toNat]?=some e1∧(∃e2,a1[x.toNat]?=some e2∧(some (I (w (e1-e2)),[.box [I x]])=some r)))):=by
 all_goals intros
 all_goals unfold Im
 all_goals try simp only[Zez,mpl,dfs]
 all_goals try simp only[itb]
 all_goals try simp only[itf,gS,kk]
 all_goals repeat' first|refine exI fun _=>?_|refine anJ fun _ _=>?_|refine anI fun _=>?_|refine orE2 ?_ ?_|exact False.elim
 all_goals (intro h;first|refine runM Zbjx rfl ?_)
 all_goals (refine Yb ?_ h;clear h;simp +decide[*,kk,tI,tII,Z41])
abbrev Zbm7:=Zbm6
theorem Z8l{fr:Bool}{c:List (List Int)}{x a b i:Int}{r:AV×List Blk}(h:(if i<b then(Ziq fr c x a b i i=some r)else(some (.tup [],[.arr 30 1 fr (c.map isc),.box [I x]])=some r))):Zf2 fr c x a b i=some r:=by
 unfold Zf2;rw[Ze Zrf.eq_1]
 try simp only[itb]at h
 try simp only[itf,gS,kk]at h
 rcases h with⟨q1,h⟩|⟨q1,h⟩
 all_goals (refine Yb ?_ h;clear h;simp +decide[*,-List.map_set,setI,Zcd,kk,tI,tII,Ziq])
theorem Zst{fr:Bool}{c:List (List Int)}{x a b i j:Int}{r:AV×List Blk}(h:(if a<j then(0≤j∧(∃(e1:List Int),c[j.toNat]?=some e1∧(0≤(w (j-1))∧(∃(e2:List Int),c[(w (j-1)).toNat]?=some e2∧(∃(v:Int) (v1:Int),Zez x e1 e2=some (I v1,[.box [I v]])∧(if v1<0 then(∃(e4:List Int),(c.set j.toNat e2)[(w (j-1)).toNat]?=some e4∧(Ziq false ((c.set j.toNat e2).set ((w (j-1)).toNat) e1) v a b i (w (j-1))=some r))else(Zf2 fr c v a b (w (i+1))=some r)))))))else(Zf2 fr c x a b (w (i+1))=some r))):Ziq fr c x a b i j=some r:=by
 unfold Ziq;rw[Ze Zwg.eq_1];simp only[Zez,mpl,dfs]at h
 try simp only[itb]at h
 try simp only[itf,gS,kk]at h
 rcases h with⟨q1,q2,e1,⟨g3,q3⟩,q4,e2,⟨g5,q5⟩,v,v1,q6,(⟨q7,e4,⟨g8,q8⟩,h⟩|⟨q7,h⟩)⟩|⟨q1,h⟩
 all_goals (refine Yb ?_ h;clear h;simp +decide[*,-List.map_set,setI,Zcd,kk,tI,tII,Ziq,Zf2,Zwh])
theorem Zbm8{fr:Bool}{x:List (List Int)}{x1 a a1:Int}{r:AV×List Blk}(h:(Zf2 fr x x1 a a1 (w (a+1))=some r)):Zkz fr x x1 a a1=some r:=by
 unfold Zkz;refine runM Zbjy rfl ?_;refine Yb ?_ h;clear h;simp +decide[*,-List.map_set,setI,Zcd,kk,tI,tII,Z42,Zf2]
theorem Z8m{fr:Bool}{c:List (List Int)}{x a b n i:Int}{r:AV×List Blk}(h:(if i<n then(0≤(w (b+i))∧(∃(e1:List Int),c[(w (b+i)).toNat]?=some e1∧(0≤(w (a+i))∧(∃(e2:List Int),c[(w (a+i)).toNat]?=some e2∧(∃(e3:List Int),(c.set ((w (a+i)).toNat) e1)[(w (b+i)).toNat]?=some e3∧(Zis false ((c.set ((w (a+i)).toNat) e1).set ((w (b+i)).toNat) e2) x a b n (w (i+1))=some r))))))else(some (.tup [],[.arr 30 1 fr (c.map isc),.box [I x]])=some r))):Zis fr c x a b n i=some r:=by
 unfold Zis;rw[Ze Zwi.eq_1]
 try simp only[itb]at h
 try simp only[itf,gS,kk]at h
 rcases h with⟨q1,q2,e1,⟨g3,q3⟩,q4,e2,⟨g5,q5⟩,e3,⟨g6,q6⟩,h⟩|⟨q1,h⟩
 all_goals (refine Yb ?_ h;clear h;simp +decide[*,-List.map_set,setI,Zcd,kk,tI,tII,Zis])
theorem Zbm9{fr:Bool}{x:List (List Int)}{x1 a a1 a2:Int}{r:AV×List Blk}(h:(Zis fr x x1 a a1 a2 0=some r)):Zir fr x x1 a a1 a2=some r:=by
 unfold Zir;refine runM Zbjz rfl ?_;refine Yb ?_ h;clear h;simp +decide[*,-List.map_set,setI,Zcd,kk,tI,tII,Z43,Zis]
theorem Zzk{fr:Bool}{c:List (List Int)}{x m i j:Int}{r:AV×List Blk}(h:(if i=j then(∃(v:Bool) (v1:List (List Int)) (v2:Int),Zir fr c x (w (m-i)) m i=some (.tup [],[.arr 30 1 v (v1.map isc),.box [I v2]])∧(some (.tup [],[.arr 30 1 v (v1.map isc),.box [I v2]])=some r))else(if j<i then(∃(v3:Bool) (v4:List (List Int)) (v5:Int),Zir fr c x (w (m-i)) m j=some (.tup [],[.arr 30 1 v3 (v4.map isc),.box [I v5]])∧(Zg2 v3 v4 v5 m (w (i-j)) j=some r))else(∃(v6:Bool) (v7:List (List Int)) (v8:Int),Zir fr c x (w (m-i)) (w ((w (m+j))-i)) i=some (.tup [],[.arr 30 1 v6 (v7.map isc),.box [I v8]])∧(Zg2 v6 v7 v8 m i (w (j-i))=some r))))):Zg2 fr c x m i j=some r:=by
 unfold Zg2;rw[Ze Zwj.eq_1];simp only[Zir,mpl,dfs]at h
 try simp only[itb]at h
 try simp only[itf,gS,kk]at h
 rcases h with⟨q1,v,v1,v2,q2,h⟩|⟨q1,(⟨q3,v3,v4,v5,q4,h⟩|⟨q3,v6,v7,v8,q5,h⟩)⟩
 all_goals (refine Yb ?_ h;clear h;simp +decide[*,-List.map_set,setI,Zcd,kk,tI,tII,Zwk,Zg2])
theorem Zbna{fr:Bool}{x:List (List Int)}{x1 a a1 a2:Int}{r:AV×List Blk}(h:(Zg2 fr x x1 a1 (w (a1-a)) (w (a2-a1))=some r)):Znw fr x x1 a a1 a2=some r:=by
 unfold Znw;refine runM Zbj0 rfl ?_;refine Yb ?_ h;clear h;simp +decide[*,-List.map_set,setI,Zcd,kk,tI,tII,Z44,Zg2]
theorem Zzl{fr:Bool}{c:List (List Int)}{x a i j:Int}{r:AV×List Blk}(h:(if i<j then(0≤(w (shrI (IntKind.wrap .u64 (w (i+j))) 1))∧(∃(e1:List Int),c[(w (shrI (IntKind.wrap .u64 (w (i+j))) 1)).toNat]?=some e1∧(0≤a∧(∃(e2:List Int),c[a.toNat]?=some e2∧(∃(v:Int) (v1:Int),Zez x e1 e2=some (I v1,[.box [I v]])∧(if v1<0 then(Zg3 fr c v a (w ((w (shrI (IntKind.wrap .u64 (w (i+j))) 1))+1)) j=some r)else(Zg3 fr c v a i (w (shrI (IntKind.wrap .u64 (w (i+j))) 1))=some r)))))))else(Zit fr c x i a=some r))):Zg3 fr c x a i j=some r:=by
 unfold Zg3;rw[Ze Zwl.eq_1];simp only[Zez,mpl,dfs]at h
 try simp only[itb]at h
 try simp only[itf,gS,kk]at h
 rcases h with⟨q1,q2,e1,⟨g3,q3⟩,q4,e2,⟨g5,q5⟩,v,v1,q6,(⟨q7,h⟩|⟨q7,h⟩)⟩|⟨q1,h⟩
 all_goals (refine Yb ?_ h;clear h;simp +decide[*,-List.map_set,setI,Zcd,kk,tI,tII,Zg3,Zit,Zwo])
theorem Zzm{fr:Bool}{c:List (List Int)}{x m i j:Int}{r:AV×List Blk}(h:(if i<j then(0≤m∧(∃(e1:List Int),c[m.toNat]?=some e1∧(0≤(w (shrI (IntKind.wrap .u64 (w (i+j))) 1))∧(∃(e2:List Int),c[(w (shrI (IntKind.wrap .u64 (w (i+j))) 1)).toNat]?=some e2∧(∃(v:Int) (v1:Int),Zez x e1 e2=some (I v1,[.box [I v]])∧(if v1<0 then(Zg4 fr c v m i (w (shrI (IntKind.wrap .u64 (w (i+j))) 1))=some r)else(Zg4 fr c v m (w ((w (shrI (IntKind.wrap .u64 (w (i+j))) 1))+1)) j=some r)))))))else(Ziu fr c x i m=some r))):Zg4 fr c x m i j=some r:=by
 unfold Zg4;rw[Ze Zwp.eq_1];simp only[Zez,mpl,dfs]at h
 try simp only[itb]at h
 try simp only[itf,gS,kk]at h
 rcases h with⟨q1,q2,e1,⟨g3,q3⟩,q4,e2,⟨g5,q5⟩,v,v1,q6,(⟨q7,h⟩|⟨q7,h⟩)⟩|⟨q1,h⟩
 all_goals (refine Yb ?_ h;clear h;simp +decide[*,-List.map_set,setI,Zcd,kk,tI,tII,Zg4,Ziu,Zws])
theorem Zpf{fr:Bool}{cc:List (List Int)}{x a m b cd n c cl p:Int}{r:AV×List Blk}(h:(if c<cl then(0≤(w (p-(w (shrI (IntKind.wrap .u64 (w (c+cl))) 1))))∧(∃(e1:List Int),cc[(w (p-(w (shrI (IntKind.wrap .u64 (w (c+cl))) 1)))).toNat]?=some e1∧(0≤(w (shrI (IntKind.wrap .u64 (w (c+cl))) 1))∧(∃(e2:List Int),cc[(w (shrI (IntKind.wrap .u64 (w (c+cl))) 1)).toNat]?=some e2∧(∃(v:Int) (v1:Int),Zez x e1 e2=some (I v1,[.box [I v]])∧(if v1<0 then(Zf3 fr cc v a m b cd n c (w (shrI (IntKind.wrap .u64 (w (c+cl))) 1)) p=some r)else(Zf3 fr cc v a m b cd n (w ((w (shrI (IntKind.wrap .u64 (w (c+cl))) 1))+1)) cl p=some r)))))))else(if c<m then(if m<(w (n-c))then(∃(v2:Bool) (v3:List (List Int)) (v4:Int),Znw fr cc x c m (w (n-c))=some (.tup [],[.arr 30 1 v2 (v3.map isc),.box [I v4]])∧(if a<c then(if c<cd then(∃(v5:Bool) (v6:List (List Int)) (v7:Int),Zct v2 v3 v4 a c cd=some (.tup [],[.arr 30 1 v5 (v6.map isc),.box [I v7]])∧(Zf4 v5 v6 v7 b cd (w (n-c))=some r))else(Ze0 v2 v3 v4 a b cd c (w (n-c)) false=some r))else(Ze0 v2 v3 v4 a b cd c (w (n-c)) false=some r)))else(Zk0 fr cc x a m b cd c (w (n-c)) false=some r))else(Zk0 fr cc x a m b cd c (w (n-c)) false=some r)))):Zf3 fr cc x a m b cd n c cl p=some r:=by
 unfold Zf3;rw[Ze Zwt.eq_1];simp only[Zez,Znw,Zct,mpl,dfs]at h
 try simp only[itb]at h
 try simp only[itf,gS,kk]at h
 rcases h with⟨q1,q2,e1,⟨g3,q3⟩,q4,e2,⟨g5,q5⟩,v,v1,q6,(⟨q7,h⟩|⟨q7,h⟩)⟩|⟨q1,(⟨q8,(⟨q9,v2,v3,v4,q10,(⟨q11,(⟨q12,v5,v6,v7,q13,h⟩|⟨q12,h⟩)⟩|⟨q11,h⟩)⟩|⟨q9,h⟩)⟩|⟨q8,h⟩)⟩
 all_goals (refine Yb ?_ h;clear h;simp +decide[*,-List.map_set,setI,Zcd,kk,tI,tII,Zf3,Zf4,Zrg,Zwu,Ze0,Zk0])
theorem Z8n{fr:Bool}{c:List (List Int)}{x i k:Int}{r:AV×List Blk}(h:(if k<(w (i-1))then(0≤(w (k+1))∧(∃(e1:List Int),c[(w (k+1)).toNat]?=some e1∧(0≤k∧(∃(e2:List Int),c[k.toNat]?=some e2∧(∃(e3:List Int),(c.set k.toNat e1)[(w (k+1)).toNat]?=some e3∧(Zit false ((c.set k.toNat e1).set ((w (k+1)).toNat) e2) x i (w (k+1))=some r))))))else(some (.tup [],[.arr 30 1 fr (c.map isc),.box [I x]])=some r))):Zit fr c x i k=some r:=by
 unfold Zit;rw[Ze Zwm.eq_1]
 try simp only[itb]at h
 try simp only[itf,gS,kk]at h
 rcases h with⟨q1,q2,e1,⟨g3,q3⟩,q4,e2,⟨g5,q5⟩,e3,⟨g6,q6⟩,h⟩|⟨q1,h⟩
 all_goals (refine Yb ?_ h;clear h;simp +decide[*,-List.map_set,setI,Zcd,kk,tI,tII,Zit,Zwn])
theorem Z8o{fr:Bool}{c:List (List Int)}{x i k:Int}{r:AV×List Blk}(h:(if i<k then(0≤(w (k-1))∧(∃(e1:List Int),c[(w (k-1)).toNat]?=some e1∧(0≤k∧(∃(e2:List Int),c[k.toNat]?=some e2∧(∃(e3:List Int),(c.set k.toNat e1)[(w (k-1)).toNat]?=some e3∧(Ziu false ((c.set k.toNat e1).set ((w (k-1)).toNat) e2) x i (w (k-1))=some r))))))else(some (.tup [],[.arr 30 1 fr (c.map isc),.box [I x]])=some r))):Ziu fr c x i k=some r:=by
 unfold Ziu;rw[Ze Zwq.eq_1]
 try simp only[itb]at h
 try simp only[itf,gS,kk]at h
 rcases h with⟨q1,q2,e1,⟨g3,q3⟩,q4,e2,⟨g5,q5⟩,e3,⟨g6,q6⟩,h⟩|⟨q1,h⟩
 all_goals (refine Yb ?_ h;clear h;simp +decide[*,-List.map_set,setI,Zcd,kk,tI,tII,Ziu,Zwr])
theorem Z8p{fr:Bool}{c:List (List Int)}{x b cc x1:Int}{r:AV×List Blk}(h:(if cc<x1 then(if x1<b then(∃(v:Bool) (v1:List (List Int)) (v2:Int),Zct fr c x cc x1 b=some (.tup [],[.arr 30 1 v (v1.map isc),.box [I v2]])∧(some (.tup [],[.arr 30 1 v (v1.map isc),.box [I v2]])=some r))else(some (.tup [],[.arr 30 1 fr (c.map isc),.box [I x]])=some r))else(some (.tup [],[.arr 30 1 fr (c.map isc),.box [I x]])=some r))):Zf4 fr c x b cc x1=some r:=by
 unfold Zf4;rw[Ev_eq Znx.eq_1];simp only[Zct,mpl,dfs]at h
 try simp only[itb]at h
 try simp only[itf,gS,kk]at h
 rcases h with⟨q1,(⟨q2,v,v1,v2,q3,h⟩|⟨q2,h⟩)⟩|⟨q1,h⟩
 all_goals (refine Yb ?_ h;clear h;simp +decide[*,-List.map_set,setI,Zcd,kk,tI,tII])
theorem Z8q{fr:Bool}{c:List (List Int)}{x a b cc cd x1:Int}{x2:Bool}{r:AV×List Blk}(h:(if cc<x1 then(if x1<b then(∃(v:Bool) (v1:List (List Int)) (v2:Int),Zct fr c x cc x1 b=some (.tup [],[.arr 30 1 v (v1.map isc),.box [I v2]])∧(some (.tup [],[.arr 30 1 v (v1.map isc),.box [I v2]])=some r))else(some (.tup [],[.arr 30 1 fr (c.map isc),.box [I x]])=some r))else(some (.tup [],[.arr 30 1 fr (c.map isc),.box [I x]])=some r))):Ze0 fr c x a b cc cd x1 x2=some r:=by
 unfold Ze0;rw[Ev_eq Znx.eq_1];simp only[Zct,mpl,dfs]at h
 try simp only[itb]at h
 try simp only[itf,gS,kk]at h
 rcases h with⟨q1,(⟨q2,v,v1,v2,q3,h⟩|⟨q2,h⟩)⟩|⟨q1,h⟩
 all_goals (refine Yb ?_ h;clear h;simp +decide[*,-List.map_set,setI,Zcd,kk,tI,tII])
theorem Z8r{fr:Bool}{cd:List (List Int)}{x a m b cc c x1:Int}{x2:Bool}{r:AV×List Blk}(h:(if a<c then(if c<cc then(∃(v:Bool) (v1:List (List Int)) (v2:Int),Zct fr cd x a c cc=some (.tup [],[.arr 30 1 v (v1.map isc),.box [I v2]])∧(Zf4 v v1 v2 b cc x1=some r))else(Ze0 fr cd x a b cc c x1 false=some r))else(Ze0 fr cd x a b cc c x1 false=some r))):Zk0 fr cd x a m b cc c x1 x2=some r:=by
 unfold Zk0;rw[Ev_eq Zrg.eq_1];simp only[Zct,mpl,dfs]at h
 try simp only[itb]at h
 try simp only[itf,gS,kk]at h
 rcases h with⟨q1,(⟨q2,v,v1,v2,q3,h⟩|⟨q2,h⟩)⟩|⟨q1,h⟩
 all_goals (refine Yb ?_ h;clear h;simp +decide[*,-List.map_set,setI,Zcd,kk,tI,tII,Zf4,Ze0])
theorem Zsu{fr:Bool}{x:List (List Int)}{x1 a a1 a2:Int}{r:AV×List Blk}(h:(if(w (a1-a))=1 then(Zg3 fr x x1 a a1 a2=some r)else(if(w (a2-a1))=1 then(Zg4 fr x x1 a1 a a1=some r)else(if(w (shrI (IntKind.wrap .u64 (w (a+a2))) 1))<a1 then(Zf3 fr x x1 a a1 a2 (w (shrI (IntKind.wrap .u64 (w (a+a2))) 1)) (w ((w (shrI (IntKind.wrap .u64 (w (a+a2))) 1))+a1)) (w ((w ((w (shrI (IntKind.wrap .u64 (w (a+a2))) 1))+a1))-a2)) (w (shrI (IntKind.wrap .u64 (w (a+a2))) 1)) (w ((w ((w (shrI (IntKind.wrap .u64 (w (a+a2))) 1))+a1))-1))=some r)else(Zf3 fr x x1 a a1 a2 (w (shrI (IntKind.wrap .u64 (w (a+a2))) 1)) (w ((w (shrI (IntKind.wrap .u64 (w (a+a2))) 1))+a1)) a a1 (w ((w ((w (shrI (IntKind.wrap .u64 (w (a+a2))) 1))+a1))-1))=some r))))):Zct fr x x1 a a1 a2=some r:=by
 unfold Zct;refine runM Zbj1 rfl ?_
 try simp only[itb]at h
 try simp only[itf,gS,kk]at h
 rcases h with⟨q1,h⟩|⟨q1,(⟨q2,h⟩|⟨q2,(⟨q3,h⟩|⟨q3,h⟩)⟩)⟩
 all_goals (refine Yb ?_ h;clear h;simp +decide[*,-List.map_set,setI,Zcd,kk,tI,tII,Z46,Zg3,Zg4,Zri,Zf3,Z45,Zrh])
theorem Z8s{fr:Bool}{cc:List (List Int)}{x n c a b:Int}{r:AV×List Blk}(h:(if b≤n then(∃(v:Bool) (v1:List (List Int)) (v2:Int),Zkz fr cc x a b=some (.tup [],[.arr 30 1 v (v1.map isc),.box [I v2]])∧(Ziv v v1 v2 n c b (w (b+c))=some r))else(∃(v3:Bool) (v4:List (List Int)) (v5:Int),Zkz fr cc x a n=some (.tup [],[.arr 30 1 v3 (v4.map isc),.box [I v5]])∧(Zf5 v3 v4 v5 n c=some r)))):Ziv fr cc x n c a b=some r:=by
 unfold Ziv;rw[Ze Zwv.eq_1];simp only[Zkz,mpl,dfs]at h
 try simp only[itb]at h
 try simp only[itf,gS,kk]at h
 rcases h with⟨q1,v,v1,v2,q2,h⟩|⟨q1,v3,v4,v5,q3,h⟩
 all_goals (refine Yb ?_ h;clear h;simp +decide[*,-List.map_set,setI,Zcd,kk,tI,tII,Ziv,Zf5,Zwy])
theorem Z8t{fr:Bool}{cc:List (List Int)}{x n c:Int}{r:AV×List Blk}(h:(if c<n then(Ziw fr cc x n c 0 (w (2*c))=some r)else(some (.tup [],[.arr 30 1 fr (cc.map isc),.box [I x]])=some r))):Zf5 fr cc x n c=some r:=by
 unfold Zf5;rw[Ze Zrj.eq_1]
 try simp only[itb]at h
 try simp only[itf,gS,kk]at h
 rcases h with⟨q1,h⟩|⟨q1,h⟩
 all_goals (refine Yb ?_ h;clear h;simp +decide[*,-List.map_set,setI,Zcd,kk,tI,tII,Ziw])
theorem Zzn{fr:Bool}{cc:List (List Int)}{x n c a b:Int}{r:AV×List Blk}(h:(if b≤n then(∃(v:Bool) (v1:List (List Int)) (v2:Int),Zct fr cc x a (w (a+c)) b=some (.tup [],[.arr 30 1 v (v1.map isc),.box [I v2]])∧(Ziw v v1 v2 n c b (w (b+(w (2*c))))=some r))else(if(w (a+c))<n then(∃(v3:Bool) (v4:List (List Int)) (v5:Int),Zct fr cc x a (w (a+c)) n=some (.tup [],[.arr 30 1 v3 (v4.map isc),.box [I v5]])∧(Zf5 v3 v4 v5 n (w (c*2))=some r))else(Zf5 fr cc x n (w (c*2))=some r)))):Ziw fr cc x n c a b=some r:=by
 unfold Ziw;rw[Ze Zww.eq_1];simp only[Zct,mpl,dfs]at h
 try simp only[itb]at h
 try simp only[itf,gS,kk]at h
 rcases h with⟨q1,v,v1,v2,q2,h⟩|⟨q1,(⟨q3,v3,v4,v5,q4,h⟩|⟨q3,h⟩)⟩
 all_goals (refine Yb ?_ h;clear h;simp +decide[*,-List.map_set,setI,Zcd,kk,tI,tII,Ziw,Zf5,Z47,Zwx])
theorem Zbnb{x:List (List Int)}{x1 a:Int}{r:AV×List Blk}(h:(Ziv true x x1 a 20 0 20=some r)):Zrk x x1 a=some r:=by
 unfold Zrk;refine runM Zbj2 rfl ?_;refine Yb ?_ h;clear h;simp +decide[*,-List.map_set,setI,Zcd,kk,tI,tII,Z48,Ziv]
theorem Z8u:(∀⦃x x1 r⦄,Im (Zrl x x1=some r) (∃v,∃(v1:List (List Int)),∃v2,Zrk x x1 (x.length:Int)=some (.tup [],[.arr 30 1 v (v1.map isc),.box [I v2]])∧(some (.tup [],[.arr 30 1 v (v1.map isc),.box [I v2]])=some r))) ∧
 (∀⦃a a1 r⦄,Im (Zk1 a a1=some r) (∃v,Zcp a.Vars a1=some (I v,[])∧(if v<0 then(some (.tup [.agg [.t .nil,.t .nil],Bo false],[])=some r)else(∃v3,Zc5 a=some (Bo v3,[])∧(if v3=true then(∃(v4:List Int),Zc4 a.Vars=some (.own 0,[.arr 3 1 true (v4.map ic)])∧(∃(v5:List (List Int)),Zg0 a.Rows=some (.own 0,[.arr 30 1 true (v5.map isc)])∧(∃v6,∃(v7:List (List Int)),∃v8,Zrl v5 v=some (.tup [],[.arr 30 1 v6 (v7.map isc),.box [I v8]])∧(some (.tup [.agg [.own 0,.own 1],Bo true],[.arr 3 1 true (v4.map ic),.arr 30 1 v6 (v7.map isc)])=some r))))else(some (.tup [.agg [.t .nil,.t .nil],Bo false],[])=some r)))))):=by
 and_intros
 all_goals intros
 all_goals unfold Im
 all_goals try simp only[Zrl,Zk1,Zrk,Zcp,Zc5,Zc4,Zg0,Za.c_def,mpl,dfs]
 all_goals try simp only[itb]
 all_goals try simp only[itf,gS,kk]
 all_goals repeat' first|refine exI fun _=>?_|refine anJ fun _ _=>?_|refine anI fun _=>?_|refine orE2 ?_ ?_|exact False.elim
 all_goals (intro h;first|refine runM Zbj3 rfl ?_|refine run Zbj4 rfl ?_)
 all_goals (refine Yb ?_ h;clear h;simp +decide[*,kk,tI,tII,Z49,Z5a])
abbrev Zbnc:=Z8u.1
abbrev Zbnd:=Z8u.2
theorem Zef:(∀⦃a a1 r⦄,Im (Zk2 a a1=some r) (∃(v:List Int),Zc4 a.Vars=some (.own 0,[.arr 3 1 true (v.map ic)])∧(v.length+a1.Vars.length≤68719476736∧(∃(v1:List Int),Zil (v++a1.Vars)=some (.tup [],[.arr 3 1 true (v1.map ic)])∧(∃(v5:List Int),Zrm v1=some (.own 1,[.dead,.arr 3 1 true (v5.map ic)])∧(some (.ptr 0 0,[.box [L 1 (a.Vars.map ic),L 1 (a.Rows.map isc),L 1 (a1.Vars.map ic),L 1 (a1.Rows.map isc),.own 1,.t .nil],.arr 3 1 true (v5.map ic)])=some r)))))) ∧
 (∀⦃a b x c x1 y x2 x3 r⦄,Im (Zix a b x c x1 y x2 x3=some r) (if x3<x2 then(0≤x3∧(∃e1,x[x3.toNat]?=some e1∧(∃v1,Zcp a.Vars e1=some (I v1,[])∧(∃v5,Zcp b.Vars e1=some (I v5,[])∧(if v1<0 then(0≤v5∧(∃e4,y[v5.toNat]?=some e4∧(c.length+1≤68719476736∧(Zix a b x (c++[e4]) x1 y x2 (w (x3+1))=some r))))else(if 0≤v5 then(0≤v1∧(∃e5,x1[v1.toNat]?=some e5∧(∃e6,y[v5.toNat]?=some e6∧(if e5=e6 then(c.length+1≤68719476736∧(Zix a b x (c++[e5]) x1 y x2 (w (x3+1))=some r))else(some (.tup [],[.box [L 1 (a.Vars.map ic),L 1 (a.Rows.map isc),L 1 (b.Vars.map ic),L 1 (b.Rows.map isc),.own 1,.t .nil],.arr 3 1 true (x.map ic)])=some r)))))else(0≤v1∧(∃e7,x1[v1.toNat]?=some e7∧(c.length+1≤68719476736∧(Zix a b x (c++[e7]) x1 y x2 (w (x3+1))=some r))))))))))else(some (.tup [],[.box [L 1 (a.Vars.map ic),L 1 (a.Rows.map isc),L 1 (b.Vars.map ic),L 1 (b.Rows.map isc),.own 1,.own 2],.arr 3 1 true (x.map ic),.arr 30 1 true (([c]).map isc)])=some r))) ∧
 (∀⦃a b x a1 a2 r⦄,Im (Zg5 a b x a1 a2=some r) (Zix a b x ([]:List Int) a1 a2 (x.length:Int) 0=some r)) ∧
 (∀⦃a b x r⦄,Im (Zny a b x=some r) (some (.tup [.agg [.own 1,.t .nil],Bo true],[.box [L 1 (a.Vars.map ic),L 1 (a.Rows.map isc),L 1 (b.Vars.map ic),L 1 (b.Rows.map isc),.own 1,.t .nil],.arr 3 1 true (x.map ic)])=some r)) ∧
 (∀⦃a b x x1 c x2 y x3 x4 r⦄,Im (Ziy a b x x1 c x2 y x3 x4=some r) (if x4<x3 then(0≤x4∧(∃e1,x[x4.toNat]?=some e1∧(∃v1,Zcp a.Vars e1=some (I v1,[])∧(∃v5,Zcp b.Vars e1=some (I v5,[])∧(if v1<0 then(0≤v5∧(∃e4,y[v5.toNat]?=some e4∧(c.length+1≤68719476736∧(Ziy a b x x1 (c++[e4]) x2 y x3 (w (x4+1))=some r))))else(if 0≤v5 then(0≤v1∧(∃e5,x2[v1.toNat]?=some e5∧(∃e6,y[v5.toNat]?=some e6∧(if e5=e6 then(c.length+1≤68719476736∧(Ziy a b x x1 (c++[e5]) x2 y x3 (w (x4+1))=some r))else(some (.tup [],[.box [L 1 (a.Vars.map ic),L 1 (a.Rows.map isc),L 1 (b.Vars.map ic),L 1 (b.Rows.map isc),.own 1,.own 2],.arr 3 1 true (x.map ic),.arr 30 1 true (x1.map isc)])=some r)))))else(0≤v1∧(∃e7,x2[v1.toNat]?=some e7∧(c.length+1≤68719476736∧(Ziy a b x x1 (c++[e7]) x2 y x3 (w (x4+1))=some r))))))))))else(x1.length+1≤68719476736∧(some (.tup [],[.box [L 1 (a.Vars.map ic),L 1 (a.Rows.map isc),L 1 (b.Vars.map ic),L 1 (b.Rows.map isc),.own 1,.own 3],.arr 3 1 true (x.map ic),.dead,.arr 30 1 true ((x1++[c]).map isc)])=some r)))) ∧
 (∀⦃a b x x1 a1 a2 r⦄,Im (Zg6 a b x x1 a1 a2=some r) (Ziy a b x x1 ([]:List Int) a1 a2 (x.length:Int) 0=some r)) ∧
 (∀⦃a b x x1 r⦄,Im (Ze1 a b x x1=some r) (if 4096<(x1.length:Int)then(some (.tup [.agg [.t .nil,.t .nil],Bo false],[.box [L 1 (a.Vars.map ic),L 1 (a.Rows.map isc),L 1 (b.Vars.map ic),L 1 (b.Rows.map isc),.own 1,.own 2],.arr 3 1 true (x.map ic),.arr 30 1 true (x1.map isc)])=some r)else(some (.tup [.agg [.own 1,.own 2],Bo true],[.box [L 1 (a.Vars.map ic),L 1 (a.Rows.map isc),L 1 (b.Vars.map ic),L 1 (b.Rows.map isc),.own 1,.own 2],.arr 3 1 true (x.map ic),.arr 30 1 true (x1.map isc)])=some r))) ∧
 (∀⦃a a1 b x x1 x2 x3 r⦄,Im (Znz a a1 b x x1 x2 x3=some r) (if x3<x2 then(0≤x3∧(∃e1,x1[x3.toNat]?=some e1∧(Zn0 a a1 b x e1 x1 x2 x3 a.Rows (a.Rows.length:Int) 0=some r)))else(Zny a1 b x=some (.tup [.agg [.own 1,.t .nil],Bo true],[.box [L 1 (a1.Vars.map ic),L 1 (a1.Rows.map isc),L 1 (b.Vars.map ic),L 1 (b.Rows.map isc),.own 1,.t .nil],.arr 3 1 true (x.map ic)])∧(some (.tup [.agg [.own 0,.t .nil],Bo true],[.arr 3 1 true (x.map ic)])=some r)))) ∧
 (∀⦃a a1 b x y x1 x2 x3 x4 x5 x6 r⦄,Im (Zn0 a a1 b x y x1 x2 x3 x4 x5 x6=some r) (if x6<x5 then(0≤x6∧(∃e1,x4[x6.toNat]?=some e1∧((∃(v1:Za) (v2:Za) (v3:List Int),Zg5 a1 b x e1 y=some (.tup [],[.box [L 1 (v1.Vars.map ic),L 1 (v1.Rows.map isc),L 1 (v2.Vars.map ic),L 1 (v2.Rows.map isc),.own 1,.t .nil],.arr 3 1 true (v3.map ic)])∧(Zn0 a v1 v2 v3 y x1 x2 x3 x4 x5 (w (x6+1))=some r))∨(∃(v5:Za) (v6:Za) (v7:List Int) (v8:List (List Int)),Zg5 a1 b x e1 y=some (.tup [],[.box [L 1 (v5.Vars.map ic),L 1 (v5.Rows.map isc),L 1 (v6.Vars.map ic),L 1 (v6.Rows.map isc),.own 1,.own 2],.arr 3 1 true (v7.map ic),.arr 30 1 true (v8.map isc)])∧(Zi0 a v5 v6 v7 v8 y x1 x2 x3 x4 x5 (w (x6+1))=some r)))))else(Znz a a1 b x x1 x2 (w (x3+1))=some r))) ∧
 (∀⦃a a1 b x x1 y x2 x3 x4 x5 x6 x7 r⦄,Im (Zi0 a a1 b x x1 y x2 x3 x4 x5 x6 x7=some r) (if x7<x6 then(0≤x7∧(∃e1,x5[x7.toNat]?=some e1∧((∃(v1:Za) (v2:Za) (v3:List Int) (v4:List (List Int)),Zg6 a1 b x x1 e1 y=some (.tup [],[.box [L 1 (v1.Vars.map ic),L 1 (v1.Rows.map isc),L 1 (v2.Vars.map ic),L 1 (v2.Rows.map isc),.own 1,.own 2],.arr 3 1 true (v3.map ic),.arr 30 1 true (v4.map isc)])∧(Zi0 a v1 v2 v3 v4 y x2 x3 x4 x5 x6 (w (x7+1))=some r))∨(∃(v5:Za) (v6:Za) (v7:List Int) (v8:List (List Int)),Zg6 a1 b x x1 e1 y=some (.tup [],[.box [L 1 (v5.Vars.map ic),L 1 (v5.Rows.map isc),L 1 (v6.Vars.map ic),L 1 (v6.Rows.map isc),.own 1,.own 3],.arr 3 1 true (v7.map ic),.dead,.arr 30 1 true (v8.map isc)])∧(Zi0 a v5 v6 v7 v8 y x2 x3 x4 x5 x6 (w (x7+1))=some r)))))else(if 4096<(x1.length:Int)then((Ze1 a1 b x x1=some (.tup [.agg [.t .nil,.t .nil],Bo false],[.box [L 1 (a1.Vars.map ic),L 1 (a1.Rows.map isc),L 1 (b.Vars.map ic),L 1 (b.Rows.map isc),.own 1,.own 2],.arr 3 1 true (x.map ic),.arr 30 1 true (x1.map isc)])∧(some (.tup [.agg [.t .nil,.t .nil],Bo false],[])=some r))∨(Ze1 a1 b x x1=some (.tup [.agg [.own 1,.own 2],Bo true],[.box [L 1 (a1.Vars.map ic),L 1 (a1.Rows.map isc),L 1 (b.Vars.map ic),L 1 (b.Rows.map isc),.own 1,.own 2],.arr 3 1 true (x.map ic),.arr 30 1 true (x1.map isc)])∧(some (.tup [.agg [.own 0,.own 1],Bo true],[.arr 3 1 true (x.map ic),.arr 30 1 true (x1.map isc)])=some r)))else(Zn1 a a1 b x x1 x2 x3 (w (x4+1))=some r)))) ∧
 (∀⦃a a1 b x x1 x2 x3 x4 r⦄,Im (Zn1 a a1 b x x1 x2 x3 x4=some r) (if x4<x3 then(0≤x4∧(∃e1,x2[x4.toNat]?=some e1∧(Zi0 a a1 b x x1 e1 x2 x3 x4 a.Rows (a.Rows.length:Int) 0=some r)))else((Ze1 a1 b x x1=some (.tup [.agg [.t .nil,.t .nil],Bo false],[.box [L 1 (a1.Vars.map ic),L 1 (a1.Rows.map isc),L 1 (b.Vars.map ic),L 1 (b.Rows.map isc),.own 1,.own 2],.arr 3 1 true (x.map ic),.arr 30 1 true (x1.map isc)])∧(some (.tup [.agg [.t .nil,.t .nil],Bo false],[])=some r))∨(Ze1 a1 b x x1=some (.tup [.agg [.own 1,.own 2],Bo true],[.box [L 1 (a1.Vars.map ic),L 1 (a1.Rows.map isc),L 1 (b.Vars.map ic),L 1 (b.Rows.map isc),.own 1,.own 2],.arr 3 1 true (x.map ic),.arr 30 1 true (x1.map isc)])∧(some (.tup [.agg [.own 0,.own 1],Bo true],[.arr 3 1 true (x.map ic),.arr 30 1 true (x1.map isc)])=some r))))) ∧
 (∀⦃a a1 r⦄,Im (Ziz a a1=some r) (∃v,Zc5 a=some (Bo v,[])∧(if v=true then(∃v1,Zc5 a1=some (Bo v1,[])∧(if v1=true then(∃(v5:Za) (v6:Za) (v7:List Int),Zk2 a a1=some (.ptr 0 0,[.box [L 1 (v5.Vars.map ic),L 1 (v5.Rows.map isc),L 1 (v6.Vars.map ic),L 1 (v6.Rows.map isc),.own 1,.t .nil],.arr 3 1 true (v7.map ic)])∧(Znz a v5 v6 v7 a1.Rows (a1.Rows.length:Int) 0=some r))else(some (.tup [.agg [.t .nil,.t .nil],Bo false],[])=some r)))else(some (.tup [.agg [.t .nil,.t .nil],Bo false],[])=some r)))):=by
 and_intros
 all_goals intros
 all_goals unfold Im
 all_goals try simp only[Zk2,Zix,Zg5,Zny,Ziy,Zg6,Ze1,Znz,Zn0,Zi0,Zn1,Ziz,Zc4,Zil,Zrm,Zcp,Za.c_def,Zc5,mpl,dfs]
 all_goals try simp only[itb]
 all_goals try simp only[itf,gS,kk]
 all_goals repeat' first|refine exI fun _=>?_|refine anJ fun _ _=>?_|refine anI fun _=>?_|refine orE2 ?_ ?_|exact False.elim
 all_goals (intro h;first|refine run Zbj5 rfl ?_|rw[Ze Zrn.eq_1]|refine runM Zbj6 rfl ?_|refine runM Zbj7 rfl ?_|rw[Ze Zk3.eq_1]|rw[Ze Zrp.eq_1]|refine run Zbj8 rfl ?_)
 all_goals (refine Yb ?_ h;clear h;simp +decide[*,kk,tI,tII,Z5b,Z5c,Zro,Z5d,Z5e,Zk4,Zrr,Zrq,Z5f])
abbrev Zbne:=Zef.1
abbrev Z8v:=Zef.2.1
abbrev Zbnf:=Zef.2.2.1
abbrev Z8w:=Zef.2.2.2.1
abbrev Z8x:=Zef.2.2.2.2.1
abbrev Zbng:=Zef.2.2.2.2.2.1
abbrev Z8y:=Zef.2.2.2.2.2.2.1
abbrev Z8z:=Zef.2.2.2.2.2.2.2.1
abbrev Z80:=Zef.2.2.2.2.2.2.2.2.1
abbrev Z81:=Zef.2.2.2.2.2.2.2.2.2.1
abbrev Z82:=Zef.2.2.2.2.2.2.2.2.2.2.1
abbrev Zbnh:=Zef.2.2.2.2.2.2.2.2.2.2.2
theorem Zsv:(∀⦃a a1 a2 r⦄,Im (Zwz a a1 a2=some r) (0≤a2∧(∃e1,a[a2.toNat]?=some e1∧(∃e2,a1[a2.toNat]?=some e2∧(some (I (w (e1-e2)),[])=some r))))) ∧
 (∀⦃x c i r⦄,Im (Zn2 x c i=some r) (if 0<i then(0≤i∧(∃e1,x[i.toNat]?=some e1∧(0≤(w (i-1))∧(∃e2,x[(w (i-1)).toNat]?=some e2∧(∃v2,Zwz e1 e2 c=some (I v2,[])∧(if v2<0 then(some (Bo false,[])=some r)else(Zn2 x c (w (i-1))=some r)))))))else(some (Bo true,[])=some r))) ∧
 (∀a a1 r,Im (Zw2 a a1=some r) (Zn2 a a1 (w ((a.length:Int)-1))=some r)) ∧
 (∀⦃a a1 r⦄,Im (Zk5 a a1=some r) (∃v,Zcp a.Vars a1=some (I v,[])∧(if v<0 then(some (Bo false,[])=some r)else(∃v1,Zc5 a=some (Bo v1,[])∧(if v1=true then(∃v2,Zw2 a.Rows v=some (Bo v2,[])∧(some (Bo v2,[])=some r))else(some (Bo false,[])=some r)))))):=by
 and_intros
 all_goals intros
 all_goals unfold Im
 all_goals try simp only[Zwz,Zn2,Zw2,Zk5,Zcp,Zc5,Za.c_def,mpl,dfs]
 all_goals try simp only[itb]
 all_goals try simp only[itf,gS,kk]
 all_goals repeat' first|refine exI fun _=>?_|refine anJ fun _ _=>?_|refine anI fun _=>?_|refine orE2 ?_ ?_|exact False.elim
 all_goals (intro h;first|refine run Zbj9 rfl ?_|rw[Ze Zw0.eq_1]|refine run Zbka rfl ?_|refine run Zbkb rfl ?_)
 all_goals (refine Yb ?_ h;clear h;simp +decide[*,kk,tI,tII,Z5g,Zw1,Z5h,Z5i])
abbrev Zbni:=Zsv.1
abbrev Zzo:=Zsv.2.1
abbrev Zbnj:=Zsv.2.2.1
abbrev Zbnk:=Zsv.2.2.2
end
end Go.Proofs.YtgnfoghkbpkgjaaGreat
