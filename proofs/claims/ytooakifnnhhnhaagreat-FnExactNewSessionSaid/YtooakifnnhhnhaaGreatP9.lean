/-
  Parts of the proofs for this seat: D2 T1 T2 T3 G1 G2 G3 G4 G5 G6 G7 G8.
-/
import Derived.Test.YtooakifnnhhnhaaGreatP8
set_option linter.unusedSimpArgs false
set_option linter.unusedVariables false
set_option maxRecDepth 100000
set_option maxHeartbeats 4000000
namespace Go.Proofs.YtooakifnnhhnhaaGreat
open Go.AM
noncomputable section
def Zki:MCode:=.we [.m 39 13,.fa 40 2 6,.l 41 40,.ll 42 41,.b 43 .lss 39 42] [3,5,6,8,10,11,12,13,43] 43 2 (.seq (.block 3 (.drw [.m 46 11,.m 47 46,.h 48 47 (.fa 2 6),.h 49 47 (.l 48),.h 50 47 (.m 13),.h 51 47 (.ia 1 49 50),.h 52 47 (.l 51),.h 53 47 (.fa 1 3),.h 54 47 (.l 53),.h 55 47 (.ia 1 52 54),.h 56 47 (.l 55),.h 57 47 (.m 10),.h 58 47 (.b .eql 56 57),.or 59 47 58,.m 11 59] [[],[0],[1],[2,1],[1],[3,4,1],[5,1],[1],[7,1],[6,8,1],[9,1],[1],[10,11,1],[1,12],[13,1,0,1,2,3,4,5,6,7,8,9,10,11,12,13]] [3,5,6,8,10,11,12,13])) (.ic 44 13 45 [3,5,6,8,10,11,12,13]))
def Zkj:MCode:=.we [.m 60 14,.fa 61 2 8,.l 62 61,.ll 63 62,.b 64 .lss 60 63] [3,5,6,8,10,11,12,14,64] 64 4 (.seq (.block 5 (.drw [.m 67 12,.m 68 67,.h 69 68 (.fa 2 8),.h 70 68 (.l 69),.h 71 68 (.m 14),.h 72 68 (.ia 1 70 71),.h 73 68 (.l 72),.h 74 68 (.fa 3 3),.h 75 68 (.l 74),.h 76 68 (.ia 1 73 75),.h 77 68 (.l 76),.h 78 68 (.m 10),.h 79 68 (.b .eql 77 78),.or 80 68 79,.m 12 80] [[],[0],[1],[2,1],[1],[3,4,1],[5,1],[1],[7,1],[6,8,1],[9,1],[1],[10,11,1],[1,12],[13,1,0,1,2,3,4,5,6,7,8,9,10,11,12,13]] [3,5,6,8,10,11,12,14])) (.ic 65 14 66 [3,5,6,8,10,11,12,14]))
def Zkk:MCode:=.r [.m 81 11,.m 82 81,.g 83 82 (.m 12),.g 84 82 (.nt 83),.an 85 82 84] [3,5,6,8,10,85] (.cond (.s 85) (.reg [.m 86 5,.m 87 10,.o 88 (.b1 3 87),.o 89 (.ap 3 1 8 86 88),.m 5 89] [3,5,6,8,10]) .skip)
def Zkl:MCode:=.seq (.r [.mk' 14 0] [3,5,6,8,10,11,12,14] (.block 4 (.loop [3,5,6,8,10,11,12,14] Zkj))) Zkk
def Zfi:MCode:=.ic 37 10 38 [3,5,6,8,10]
def Zdi:MCode:=.we [.m 35 10,.bk 36 .leq 35 9] [3,5,6,8,10,36] 36 0 (.seq (.block 1 (.r [.mq 11 false] [3,5,6,8,10,11] (.r [.mq 12 false] [3,5,6,8,10,11,12] (.seq (.r [.mk' 13 0] [3,5,6,8,10,11,12,13] (.block 2 (.loop [3,5,6,8,10,11,12,13] Zki))) Zkl)))) Zfi)
def Zdj:MCode:=.r [.m 90 5,.m 4 90] [4] .ret
def Z67:MFun:=⟨2,91,[.tmp 4],.r [.bx 2 0,.bx 3 1,.mn 4] [2,3] (.r [.o 15 (.bslice 3 1 0 [.z] []),.m 5 15] [2,3,5] (.wc [.ln 16 1 2,.ln 17 4 3,.cl 18 181 [16,17],.nt 19 18] [2,3,5,19] 19 (.r [.m 20 5,.m 4 20] [4] .ret) (.r [.ln 22 1 2,.fa 23 0 3,.l 24 23,.cl 25 224 [22,24],.m 21 25,.o 26 (.ext (.s 21) 0),.o 27 (.ext (.s 21) 1),.o 6 (.al [.str ⟨#[]⟩,.z,.nil]),.st 3 6 26,.m 7 27] [2,3,5,6] (.r [.ln 29 1 2,.fa 30 2 3,.l 31 30,.cl 32 224 [29,31],.m 28 32,.o 33 (.ext (.s 28) 0),.o 34 (.ext (.s 28) 1),.o 8 (.al [.str ⟨#[]⟩,.z,.nil]),.st 3 8 33,.m 9 34] [3,5,6,8] (.seq (.r [.mk' 10 0] [3,5,6,8,10] (.block 0 (.loop [3,5,6,8,10] Zdi))) Zdj)))))⟩
def Zx2(a:Zh)(a1:Zf):Rs:=C 182 [.agg (a.c.map .t),.agg (a1.c.map .t)] []
def Zdz(x:Zf)(co:List Int)(cn:ByteArray)(cd:Int)(cl:ByteArray)(cc v:Int):Rs:=EvL C [.blk 0,.seq Zdj,.fin 0 [.tmp 4]] [3,5,6,8,10] Zdi ⟨[(3,.ptr 0 0),(5,.own 1),(6,.ptr 2 0),(8,.ptr 3 0),(10,I v)],[[]],[.box (x.c.map .t),.arr 3 1 true (co.map ic),.box [.t (.str cn),I cd,.t .nil],.box [.t (.str cl),I cc,.t .nil]]⟩
def Zd0(x:Zf)(co:List Int)(cn:ByteArray)(cd:Int)(cl:ByteArray)(cc:Int)(x1:List (List Int))(v:Int):Rs:=EvL C [.blk 0,.seq Zdj,.fin 0 [.tmp 4]] [3,5,6,8,10] Zdi ⟨[(3,.ptr 0 0),(5,.own 1),(6,.ptr 2 0),(8,.ptr 3 0),(10,I v)],[[]],[.box (x.c.map .t),.arr 3 1 true (co.map ic),.box [.t (.str cn),I cd,.t .nil],.box [.t (.str cl),I cc,.own 4],.arr 99 1 true (x1.map isc)]⟩
def Zd1(x:Zf)(co:List Int)(cn:ByteArray)(cd:Int)(x1:List (List Int))(cl:ByteArray)(cc v:Int):Rs:=EvL C [.blk 0,.seq Zdj,.fin 0 [.tmp 4]] [3,5,6,8,10] Zdi ⟨[(3,.ptr 0 0),(5,.own 1),(6,.ptr 2 0),(8,.ptr 4 0),(10,I v)],[[]],[.box (x.c.map .t),.arr 3 1 true (co.map ic),.box [.t (.str cn),I cd,.own 3],.arr 99 1 true (x1.map isc),.box [.t (.str cl),I cc,.t .nil]]⟩
def Zd2(x:Zf)(co:List Int)(cn:ByteArray)(cd:Int)(x1:List (List Int))(cl:ByteArray)(cc:Int)(x2:List (List Int))(v:Int):Rs:=EvL C [.blk 0,.seq Zdj,.fin 0 [.tmp 4]] [3,5,6,8,10] Zdi ⟨[(3,.ptr 0 0),(5,.own 1),(6,.ptr 2 0),(8,.ptr 4 0),(10,I v)],[[]],[.box (x.c.map .t),.arr 3 1 true (co.map ic),.box [.t (.str cn),I cd,.own 3],.arr 99 1 true (x1.map isc),.box [.t (.str cl),I cc,.own 5],.arr 99 1 true (x2.map isc)]⟩
def Zn3(x:Zf)(cp:List Int)(cn:ByteArray)(cd:Int)(cl:ByteArray)(cc v:Int)(co cu:Bool)(i:Int):Rs:=EvL C [.blk 2,.seq Zkl,.blk 1,.seq Zfi,.loop [3,5,6,8,10] Zdi,.blk 0,.seq Zdj,.fin 0 [.tmp 4]] [3,5,6,8,10,11,12,13] Zki ⟨[(3,.ptr 0 0),(5,.own 1),(6,.ptr 2 0),(8,.ptr 3 0),(10,I v),(11,Bo co),(12,Bo cu),(13,I i)],[[]],[.box (x.c.map .t),.arr 3 1 true (cp.map ic),.box [.t (.str cn),I cd,.t .nil],.box [.t (.str cl),I cc,.t .nil]]⟩
def Zn4(x:Zf)(cp:List Int)(cn:ByteArray)(cd:Int)(cl:ByteArray)(cc:Int)(x1:List (List Int))(v:Int)(co cu:Bool)(i:Int):Rs:=EvL C [.blk 2,.seq Zkl,.blk 1,.seq Zfi,.loop [3,5,6,8,10] Zdi,.blk 0,.seq Zdj,.fin 0 [.tmp 4]] [3,5,6,8,10,11,12,13] Zki ⟨[(3,.ptr 0 0),(5,.own 1),(6,.ptr 2 0),(8,.ptr 3 0),(10,I v),(11,Bo co),(12,Bo cu),(13,I i)],[[]],[.box (x.c.map .t),.arr 3 1 true (cp.map ic),.box [.t (.str cn),I cd,.t .nil],.box [.t (.str cl),I cc,.own 4],.arr 99 1 true (x1.map isc)]⟩
def Zkm(x:Zf)(cp:List Int)(cn:ByteArray)(cd:Int)(x1:List (List Int))(cl:ByteArray)(cc v:Int)(co cu:Bool)(i:Int):Rs:=EvL C [.blk 2,.seq Zkl,.blk 1,.seq Zfi,.loop [3,5,6,8,10] Zdi,.blk 0,.seq Zdj,.fin 0 [.tmp 4]] [3,5,6,8,10,11,12,13] Zki ⟨[(3,.ptr 0 0),(5,.own 1),(6,.ptr 2 0),(8,.ptr 4 0),(10,I v),(11,Bo co),(12,Bo cu),(13,I i)],[[]],[.box (x.c.map .t),.arr 3 1 true (cp.map ic),.box [.t (.str cn),I cd,.own 3],.arr 99 1 true (x1.map isc),.box [.t (.str cl),I cc,.t .nil]]⟩
def Zkn(x:Zf)(cp:List Int)(cn:ByteArray)(cd:Int)(x1:List (List Int))(cl:ByteArray)(cc:Int)(x2:List (List Int))(v:Int)(co cu:Bool)(i:Int):Rs:=EvL C [.blk 2,.seq Zkl,.blk 1,.seq Zfi,.loop [3,5,6,8,10] Zdi,.blk 0,.seq Zdj,.fin 0 [.tmp 4]] [3,5,6,8,10,11,12,13] Zki ⟨[(3,.ptr 0 0),(5,.own 1),(6,.ptr 2 0),(8,.ptr 4 0),(10,I v),(11,Bo co),(12,Bo cu),(13,I i)],[[]],[.box (x.c.map .t),.arr 3 1 true (cp.map ic),.box [.t (.str cn),I cd,.own 3],.arr 99 1 true (x1.map isc),.box [.t (.str cl),I cc,.own 5],.arr 99 1 true (x2.map isc)]⟩
def Zko(x:Zf)(cp:List Int)(cn:ByteArray)(cd:Int)(cl:ByteArray)(cc v:Int)(co cu:Bool)(i:Int):Rs:=EvL C [.blk 4,.seq Zkk,.blk 1,.seq Zfi,.loop [3,5,6,8,10] Zdi,.blk 0,.seq Zdj,.fin 0 [.tmp 4]] [3,5,6,8,10,11,12,14] Zkj ⟨[(3,.ptr 0 0),(5,.own 1),(6,.ptr 2 0),(8,.ptr 3 0),(10,I v),(11,Bo co),(12,Bo cu),(14,I i)],[[]],[.box (x.c.map .t),.arr 3 1 true (cp.map ic),.box [.t (.str cn),I cd,.t .nil],.box [.t (.str cl),I cc,.t .nil]]⟩
def Zie(x:Zf)(cp:List Int)(cn:ByteArray)(cd:Int)(cl:ByteArray)(cc:Int)(x1:List (List Int))(v:Int)(co cu:Bool)(i:Int):Rs:=EvL C [.blk 4,.seq Zkk,.blk 1,.seq Zfi,.loop [3,5,6,8,10] Zdi,.blk 0,.seq Zdj,.fin 0 [.tmp 4]] [3,5,6,8,10,11,12,14] Zkj ⟨[(3,.ptr 0 0),(5,.own 1),(6,.ptr 2 0),(8,.ptr 3 0),(10,I v),(11,Bo co),(12,Bo cu),(14,I i)],[[]],[.box (x.c.map .t),.arr 3 1 true (cp.map ic),.box [.t (.str cn),I cd,.t .nil],.box [.t (.str cl),I cc,.own 4],.arr 99 1 true (x1.map isc)]⟩
def Zkp(x:Zf)(cp:List Int)(cn:ByteArray)(cd:Int)(x1:List (List Int))(cl:ByteArray)(cc v:Int)(co cu:Bool)(i:Int):Rs:=EvL C [.blk 4,.seq Zkk,.blk 1,.seq Zfi,.loop [3,5,6,8,10] Zdi,.blk 0,.seq Zdj,.fin 0 [.tmp 4]] [3,5,6,8,10,11,12,14] Zkj ⟨[(3,.ptr 0 0),(5,.own 1),(6,.ptr 2 0),(8,.ptr 4 0),(10,I v),(11,Bo co),(12,Bo cu),(14,I i)],[[]],[.box (x.c.map .t),.arr 3 1 true (cp.map ic),.box [.t (.str cn),I cd,.own 3],.arr 99 1 true (x1.map isc),.box [.t (.str cl),I cc,.t .nil]]⟩
def Zif(x:Zf)(cp:List Int)(cn:ByteArray)(cd:Int)(x1:List (List Int))(cl:ByteArray)(cc:Int)(x2:List (List Int))(v:Int)(co cu:Bool)(i:Int):Rs:=EvL C [.blk 4,.seq Zkk,.blk 1,.seq Zfi,.loop [3,5,6,8,10] Zdi,.blk 0,.seq Zdj,.fin 0 [.tmp 4]] [3,5,6,8,10,11,12,14] Zkj ⟨[(3,.ptr 0 0),(5,.own 1),(6,.ptr 2 0),(8,.ptr 4 0),(10,I v),(11,Bo co),(12,Bo cu),(14,I i)],[[]],[.box (x.c.map .t),.arr 3 1 true (cp.map ic),.box [.t (.str cn),I cd,.own 3],.arr 99 1 true (x1.map isc),.box [.t (.str cl),I cc,.own 5],.arr 99 1 true (x2.map isc)]⟩
def Z68:MFun:=⟨2,15,[.tmp 4],.r [.bx 2 0,.bx 3 1,.mq 4 false] [2,3] (.r [.ln 5 1 2,.ln 6 4 3,.cl 7 181 [5,6],.m 8 7,.g 9 8 (.ln 1 2),.g 10 8 (.ln 4 3),.g 11 8 (.cl 182 [9,10]),.g 12 8 (.ll 11),.g 13 8 (.bk .eql 12 0),.an 14 8 13,.m 4 14] [4] .ret)⟩
def Zr1(a:Zh)(a1:Zf):Rs:=C 139 [.agg (a.c.map .t),.agg (a1.c.map .t)] []
def Zx3:MCode:=.we [.m 17 7,.m 18 1,.ll 19 18,.b 20 .lss 17 19] [1,2,3,7,20] 20 0 (.seq (.block 1 (.seq (.drw [.ln 23 1 3,.m 24 1,.m 25 7,.ia 26 3 24 25,.ln 27 3 26,.cl 28 138 [23,27],.nt 29 28] [[],[],[],[1,2],[3],[0,4],[5]] [1,2,3,7,29]) (.cond (.s 29) (.r [.mq 6 false] [6] .ret) .skip))) (.ic 21 7 22 [1,2,3,7]))
def Zx4:MCode:=.we [.m 30 8,.m 31 2,.ll 32 31,.b 33 .lss 30 32] [2,3,8,33] 33 2 (.seq (.block 3 (.seq (.drw [.ln 36 1 3,.m 37 2,.m 38 8,.ia 39 4 37 38,.ln 40 4 39,.cl 41 139 [36,40],.nt 42 41] [[],[],[],[1,2],[3],[0,4],[5]] [2,3,8,42]) (.cond (.s 42) (.r [.mq 6 false] [6] .ret) .skip))) (.ic 34 8 35 [2,3,8]))
def Zx5:MCode:=.r [.mq 6 true] [6] .ret
def Zx6:MCode:=.seq (.r [.mk' 8 0] [2,3,8] (.block 2 (.loop [2,3,8] Zx4))) Zx5
def Z69:MFun:=⟨3,43,[.tmp 6],.r [.bx 3 0,.mq 6 false] [1,2,3] (.wc [.m 9 1,.ll 10 9,.bk 11 .gtr 10 8,.m 12 11,.h 13 12 (.m 2),.h 14 12 (.ll 13),.h 15 12 (.bk .gtr 14 8),.or 16 12 15] [1,2,3,16] 16 (.r [.mq 6 false] [6] .ret) (.seq (.r [.mk' 7 0] [1,2,3,7] (.block 0 (.loop [1,2,3,7] Zx3))) Zx6))⟩
def Zn5(a:Zh)(a1:List Ze)(a2:List Zf):Rs:=C 97 [.agg (a.c.map .t),L 3 (a1.map Ze.c),L 4 (a2.map Zf.c)] []
def Zn6(d:Zh)(cc:List Ze)(cd:List Zf)(i:Int):Rs:=EvL C [.blk 0,.seq Zx6,.fin 0 [.tmp 6]] [1,2,3,7] Zx3 ⟨[(1,L 3 (cc.map Ze.c)),(2,L 4 (cd.map Zf.c)),(3,.ptr 0 0),(7,I i)],[[]],[.box (d.c.map .t)]⟩
def Zn7(d:Zh)(cc:List Zf)(i:Int):Rs:=EvL C [.blk 2,.seq Zx5,.fin 0 [.tmp 6]] [2,3,8] Zx4 ⟨[(2,L 4 (cc.map Zf.c)),(3,.ptr 0 0),(8,I i)],[[]],[.box (d.c.map .t)]⟩
def Zx7:MCode:=.we [.m 77 8,.fa 78 1 6,.l 79 78,.ll 80 79,.b 81 .lss 77 80] [2,3,5,6,7,8,81] 81 2 (.seq (.block 3 (.seq (.drw [.fa 84 1 6,.l 85 84,.m 86 8,.ia 87 1 85 86,.l 88 87,.fa 89 1 7,.l 90 89,.m 91 8,.ia 92 1 90 91,.l 93 92,.cl 94 178 [88,93],.bk 95 .neq 94 0] [[],[0],[],[1,2],[3],[],[5],[],[6,7],[8],[4,9],[10]] [2,3,5,6,7,8,95]) (.cond (.s 95) (.r [.mq 4 false] [4] .ret) .skip))) (.ic 82 8 83 [2,3,5,6,7,8]))
def Zx8:MCode:=.ic 42 5 43 [2,3,5]
def Zr2:MCode:=.we [.m 37 5,.fa 38 3 2,.l 39 38,.ll 40 39,.b 41 .lss 37 40] [2,3,5,41] 41 0 (.seq (.block 1 (.r [.fa 44 3 2,.l 45 44,.m 46 5,.ia 47 3 45 46,.ln 48 3 47,.o 6 (.al [.nil,.nil,.nil]),.st 3 6 48] [2,3,5,6] (.r [.fa 49 3 3,.l 50 49,.m 51 5,.ia 52 3 50 51,.ln 53 3 52,.o 7 (.al [.nil,.nil,.nil]),.st 3 7 53] [2,3,5,6,7] (.wc [.fa 54 0 6,.l 55 54,.fa 56 0 7,.l 57 56,.cl 58 178 [55,57],.bk 59 .neq 58 0,.m 60 59,.h 61 60 (.fa 2 6),.h 62 60 (.l 61),.h 63 60 (.fa 2 7),.h 64 60 (.l 63),.h 65 60 (.cl 178 [62,64]),.h 66 60 (.bk .neq 65 0),.or 67 60 66,.m 68 67,.h 69 68 (.fa 1 6),.h 70 68 (.l 69),.h 71 68 (.ll 70),.h 72 68 (.fa 1 7),.h 73 68 (.l 72),.h 74 68 (.ll 73),.h 75 68 (.b .neq 71 74),.or 76 68 75] [2,3,5,6,7,76] 76 (.r [.mq 4 false] [4] .ret) (.r [.mk' 8 0] [2,3,5,6,7,8] (.block 2 (.loop [2,3,5,6,7,8] Zx7))))))) Zx8)
def Zr3:MCode:=.r [.mq 4 true] [4] .ret
def Z7a:MFun:=⟨2,96,[.tmp 4],.r [.bx 2 0,.bx 3 1,.mq 4 false] [2,3] (.wc [.fa 9 0 2,.l 10 9,.fa 11 0 3,.l 12 11,.b 13 .neq 10 12,.m 14 13,.h 15 14 (.fa 1 2),.h 16 14 (.l 15),.h 17 14 (.fa 1 3),.h 18 14 (.l 17),.h 19 14 (.b .neq 16 18),.or 20 14 19,.m 21 20,.h 22 21 (.fa 2 2),.h 23 21 (.l 22),.h 24 21 (.fa 2 3),.h 25 21 (.l 24),.h 26 21 (.b .neq 23 25),.or 27 21 26,.m 28 27,.h 29 28 (.fa 3 2),.h 30 28 (.l 29),.h 31 28 (.ll 30),.h 32 28 (.fa 3 3),.h 33 28 (.l 32),.h 34 28 (.ll 33),.h 35 28 (.b .neq 31 34),.or 36 28 35] [2,3,36] 36 (.r [.mq 4 false] [4] .ret) (.seq (.r [.mk' 5 0] [2,3,5] (.block 0 (.loop [2,3,5] Zr2))) Zr3))⟩
def Zr4(a a1:Zd):Rs:=C 137 [.agg (a.c.map .t),.agg (a1.c.map .t)] []
def Zkq(a b:Zd)(i:Int):Rs:=EvL C [.blk 0,.seq Zr3,.fin 0 [.tmp 4]] [2,3,5] Zr2 ⟨[(2,.ptr 0 0),(3,.ptr 1 0),(5,I i)],[[]],[.box (a.c.map .t),.box (b.c.map .t)]⟩
def Zn8(a b:Zd)(x y:Zj)(i k:Int):Rs:=EvL C [.blk 2,.blk 1,.seq Zx8,.loop [2,3,5] Zr2,.blk 0,.seq Zr3,.fin 0 [.tmp 4]] [2,3,5,6,7,8] Zx7 ⟨[(2,.ptr 0 0),(3,.ptr 1 0),(5,I i),(6,.ptr 2 0),(7,.ptr 3 0),(8,I k)],[[]],[.box (a.c.map .t),.box (b.c.map .t),.box (x.c.map .t),.box (y.c.map .t)]⟩
def Zr5(a a1:Zl):Rs:=C 96 [.agg (a.c.map .t),.agg (a1.c.map .t)] []
def Zn9(a b:Zl)(i:Int):Rs:=EvL C [.blk 0,.seq Znu,.fin 0 [.tmp 4]] [2,3,5] Znt ⟨[(2,.ptr 0 0),(3,.ptr 1 0),(5,I i)],[[]],[.box (a.c.map .t),.box (b.c.map .t)]⟩
def Z7b:MFun:=⟨1,30,[.tmp 2],.r [.bx 1 0,.mq 2 false] [1] (.r [.fa 6 0 1,.ln 7 1 6,.fa 8 1 1,.fa 9 0 8,.l 10 9,.cl 11 95 [7,10],.m 5 11,.o 12 (.ext (.s 5) 0),.o 13 (.ext (.s 5) 1),.o 3 (.al [.z,.nil]),.st 2 3 12,.m 4 13] [1,3,4] (.r [.m 14 4,.m 15 14,.g 16 15 (.ln 2 3),.g 17 15 (.fa 1 1),.g 18 15 (.ln 2 17),.g 19 15 (.cl 96 [16,18]),.an 20 15 19,.m 21 20,.g 22 21 (.fa 0 1),.g 23 21 (.ln 1 22),.g 24 21 (.fa 3 1),.g 25 21 (.l 24),.g 26 21 (.fa 4 1),.g 27 21 (.l 26),.g 28 21 (.cl 97 [23,25,27]),.an 29 21 28,.m 2 29] [2] .ret))⟩
def Zoa(a:Zm):Rs:=C 56 [.agg (a.c.map .t)] []
def Z7c:MFun:=⟨2,24,[.cell 4 (some 6)],.r [.bx 2 0,.o 4 (.al [.z,.z,.z,.z,.z,.nil])] [1,2,4] (.seq (.r [.m 5 1] [2,4,5] (.block 0 (.r [.bk 7 .eql 5 1,.m 6 7] [2,4,5,6] (.cond (.s 6) (.r [.fa 8 0 2,.ln 9 6 8,.st 6 4 9] [4] .ret) (.r [.bk 11 .eql 5 2,.m 10 11] [2,4,5,10] (.cond (.s 10) (.r [.fa 12 6 2,.ln 13 6 12,.st 6 4 13] [4] .ret) (.r [.bk 15 .eql 5 3,.m 14 15] [2,4,5,14] (.cond (.s 14) (.r [.fa 16 12 2,.ln 17 6 16,.st 6 4 17] [4] .ret) (.r [.bk 19 .eql 5 4,.m 18 19] [2,4,18] (.cond (.s 18) (.r [.fa 20 18 2,.ln 21 6 20,.st 6 4 21] [4] .ret) .skip)))))))))) (.r [.fa 22 24 2,.ln 23 6 22,.st 6 4 23] [4] .ret))⟩
def Zob(a:Za)(a1:Int):Rs:=C 140 [.agg (a.c.map .t),I a1] []
def Z7d:MFun:=⟨1,5,[.tmp 2],.r [.mq 2 false] [0] (.r [.m 3 0,.o 4 (.call 59 [.s 3,.k (-99),.k 99]),.m 2 4] [2] .ret)⟩
def Zfz(a:Int):Rs:=C 183 [I a] []
def Zx9:MCode:=.we [.m 38 3,.fa 39 5 1,.l 40 39,.ll 41 40,.b 42 .lss 38 41] [1,3,42] 42 0 (.seq (.block 1 (.seq (.drw [.fa 45 5 1,.l 46 45,.m 47 3,.ia 48 2 46 47,.fa 49 0 48,.l 50 49,.o 51 (.call 59 [.s 50,.k 1,.k 8192]),.nt 52 51,.m 53 52,.h 54 53 (.fa 5 1),.h 55 53 (.l 54),.h 56 53 (.m 3),.h 57 53 (.ia 2 55 56),.h 58 53 (.fa 1 57),.h 59 53 (.l 58),.h 60 53 (.cl 183 [59]),.h 61 53 (.nt 60),.or 62 53 61,.m 63 62,.h 64 63 (.m 3),.h 65 63 (.bk .gtr 64 0),.h 66 63 (.m 65),.g 67 66 (.fa 5 1),.g 68 66 (.l 67),.g 69 66 (.m 3),.g 70 66 (.bk .sub 69 1),.g 71 66 (.ia 2 68 70),.g 72 66 (.fa 0 71),.g 73 66 (.l 72),.g 74 66 (.fa 5 1),.g 75 66 (.l 74),.g 76 66 (.m 3),.g 77 66 (.ia 2 75 76),.g 78 66 (.fa 0 77),.g 79 66 (.l 78),.g 80 66 (.b .geq 73 79),.h 81 63 (.an 66 80),.or 82 63 81] [[],[0],[],[1,2],[3],[4],[5],[6],[7,6],[8],[9,8],[8],[10,11,8],[12,8],[13,8],[14,8,8],[15,8],[8,16],[17,15],[18],[19,18],[20,18,18],[21],[22,21],[21],[24,21],[23,25,21],[26,21],[27,21],[21],[29,21],[21],[30,31,21],[32,21],[33,21],[28,34,21],[21,35,18],[18,36]] [1,3,82]) (.cond (.s 82) (.r [.mq 2 false] [2] .ret) .skip))) (.ic 43 3 44 [1,3]))
def Zya:MCode:=.r [.mq 2 true] [2] .ret
def Z7e:MFun:=⟨1,83,[.tmp 2],.r [.bx 1 0,.mq 2 false] [1] (.wc [.fa 4 0 1,.l 5 4,.cl 6 183 [5],.nt 7 6,.m 8 7,.h 9 8 (.fa 1 1),.h 10 8 (.l 9),.h 11 8 (.cl 183 [10]),.h 12 8 (.nt 11),.or 13 8 12,.m 14 13,.h 15 14 (.fa 2 1),.h 16 14 (.l 15),.h 17 14 (.cl 183 [16]),.h 18 14 (.nt 17),.or 19 14 18,.m 20 19,.h 21 20 (.fa 3 1),.h 22 20 (.l 21),.h 23 20 (.cl 183 [22]),.h 24 20 (.nt 23),.or 25 20 24,.m 26 25,.h 27 26 (.fa 4 1),.h 28 26 (.l 27),.h 29 26 (.cl 183 [28]),.h 30 26 (.nt 29),.or 31 26 30,.m 32 31,.h 33 32 (.fa 5 1),.h 34 32 (.l 33),.h 35 32 (.ll 34),.h 36 32 (.bk .gtr 35 4),.or 37 32 36] [1,37] 37 (.r [.mq 2 false] [2] .ret) (.seq (.r [.mk' 3 0] [1,3] (.block 0 (.loop [1,3] Zx9))) Zya))⟩
def Zg4(a:Zn):Rs:=C 141 [.agg (a.c.map .t)] []
def Zig(o:Zn)(i:Int):Rs:=EvL C [.blk 0,.seq Zya,.fin 0 [.tmp 2]] [1,3] Zx9 ⟨[(1,.ptr 0 0),(3,I i)],[[]],[.box (o.c.map .t)]⟩
def Zyb:MCode:=.we [.m 8 4,.m 9 0,.b 10 .lss 8 9] [0,3,4,10] 10 0 (.seq (.block 1 (.reg [.m 13 3,.bk 14 .mul 13 4,.o 15 (.mm true (.k 1) (.s 14)),.m 3 15] [0,3,4])) (.ic 11 4 12 [0,3,4]))
def Zyc:MCode:=.r [.m 16 3,.m 2 16] [2] .ret
def Z7f:MFun:=⟨1,17,[.tmp 2],.r [.mk' 2 0] [0] (.wc [.m 5 0,.o 6 (.call 59 [.s 5,.k 0,.k 7]),.nt 7 6] [0,7] 7 (.r [.mk' 2 (-1)] [2] .ret) (.r [.mk' 3 0] [0,3] (.seq (.r [.mk' 4 0] [0,3,4] (.block 0 (.loop [0,3,4] Zyb))) Zyc)))⟩
def Zkr(a:Int):Rs:=C 227 [I a] []
def Zks(k n i:Int):Rs:=EvL C [.blk 0,.seq Zyc,.fin 0 [.tmp 2]] [0,3,4] Zyb ⟨[(0,I k),(3,I n),(4,I i)],[[]],[]⟩
def Z7g:MCode:=.ic 58 10 59 [1,2,4,9,10]
def Zyd:MCode:=.we [.m 53 10,.fa 54 5 4,.l 55 54,.ll 56 55,.b 57 .lss 53 56] [1,2,4,9,10,57] 57 0 (.seq (.block 1 (.r [.m 60 1,.m 61 2,.b 62 .add 60 61,.fa 63 5 4,.l 64 63,.m 65 10,.ia 66 2 64 65,.fa 67 0 66,.l 68 67,.b 69 .geq 62 68] [1,2,4,9,10,69] (.cond (.s 69) (.reg [.m 70 9,.fa 71 5 4,.l 72 71,.m 73 10,.ia 74 2 72 73,.fa 75 1 74,.l 76 75,.b 77 .add 70 76,.m 9 77] [1,2,4,9,10]) .skip))) Z7g)
def Zye:MCode:=.r [.m 78 9,.m 8 78] [8] .ret
def Z7h:MFun:=⟨4,79,[.tmp 8],.r [.bx 4 0,.mk' 8 0] [1,2,3,4] (.wc [.ln 11 6 4,.cl 12 141 [11],.nt 13 12,.m 14 13,.h 15 14 (.m 1),.h 16 14 (.call 59 [.s 15,.k 0,.k 4096]),.h 17 14 (.nt 16),.or 18 14 17,.m 19 18,.h 20 19 (.m 2),.h 21 19 (.call 59 [.s 20,.k 0,.k 4096]),.h 22 19 (.nt 21),.or 23 19 22,.m 24 23,.h 25 24 (.m 3),.h 26 24 (.call 59 [.s 25,.k 0,.k 4096]),.h 27 24 (.nt 26),.or 28 24 27] [1,2,3,4,28] 28 (.r [.mk' 8 0] [8] .ret) (.r [.fa 29 0 4,.l 30 29,.fa 31 1 4,.l 32 31,.m 33 1,.b 34 .mul 32 33,.b 35 .add 30 34,.fa 36 2 4,.l 37 36,.m 38 2,.b 39 .mul 37 38,.b 40 .add 35 39,.fa 41 3 4,.l 42 41,.m 43 3,.b 44 .mul 42 43,.b 45 .add 40 44,.fa 46 4 4,.l 47 46,.m 48 1,.b 49 .mul 47 48,.m 50 2,.b 51 .mul 49 50,.b 52 .add 45 51,.m 9 52] [1,2,4,9] (.seq (.r [.mk' 10 0] [1,2,4,9,10] (.block 0 (.loop [1,2,4,9,10] Zyd))) Zye)))⟩
def Zr6(a:Zn)(a1 a2 a3:Int):Rs:=C 226 [.agg (a.c.map .t),I a1,I a2,I a3] []
def Zih(o:Zn)(l cc n i:Int):Rs:=EvL C [.blk 0,.seq Zye,.fin 0 [.tmp 8]] [1,2,4,9,10] Zyd ⟨[(1,I l),(2,I cc),(4,.ptr 0 0),(9,I n),(10,I i)],[[]],[.box (o.c.map .t)]⟩
def Z7i:MFun:=⟨2,19,[.tmp 4],.r [.bx 2 0,.mk' 4 0] [1,2] (.seq (.drw [.ln 5 6 2,.m 6 1,.o 7 (.iaddr 1 (.s 6) (.k 0)),.l 8 7,.cl 9 227 [8],.m 10 1,.o 11 (.iaddr 1 (.s 10) (.k 1)),.l 12 11,.cl 13 227 [12],.m 14 1,.o 15 (.iaddr 1 (.s 14) (.k 2)),.l 16 15,.cl 17 227 [16],.cl 18 226 [5,9,13,17],.m 4 18] [[],[],[1],[2],[3],[],[5],[6],[7,4],[],[9],[10],[11,8],[0,4,8,12,12],[13,13,0,1,2,3,4,5,6,7,8,9,10,11,12,13]] [4]) .ret)⟩
def Zii(a:Zn)(a1:List Int):Rs:=C 184 [.agg (a.c.map .t),L 1 (a1.map ic)] []
def Zyf:MCode:=.we [.m 32 9,.bk 33 .lss 32 3] [1,5,6,7,8,9,33] 33 6 (.seq (.block 7 (.r [.o 36 (.bslice 3 1 0 [.z] []),.m 37 8,.o 38 (.append 3 1 8 false (.s 36) (.s 37)),.m 10 38] [1,5,6,7,8,9,10] (.r [.m 39 10,.m 40 9,.m 41 10,.m 42 9,.ia 43 1 41 42,.l 44 43,.bk 45 .add 44 1,.ia 46 1 39 40,.st 1 46 45] [1,5,6,7,8,9,10] (.seq (.drw [.m 47 10,.m 48 9,.ia 49 1 47 48,.l 50 49,.bk 51 .leq 50 7,.m 52 51,.g 53 52 (.ln 6 1),.g 54 52 (.m 10),.g 55 52 (.cl 184 [53,54]),.g 56 52 (.ln 6 1),.g 57 52 (.m 8),.g 58 52 (.cl 184 [56,57]),.g 59 52 (.b .lss 55 58),.an 60 52 59] [[],[],[0,1],[2],[3],[4],[5],[5],[6,7,5,5],[5],[5],[9,10,8,5],[8,11,5],[5,12]] [1,5,6,7,8,9,10,60]) (.cond (.s 60) (.r [.m 61 8,.m 62 10,.m 2 61,.m 3 62,.mq 4 true] [2,3,4] .ret) .skip))))) (.ic 34 9 35 [1,5,6,7,8,9]))
def Zyg:MCode:=.ic 26 7 27 [1,5,6,7]
def Zr7:MCode:=.we [.m 24 7,.bk 25 .leq 24 7] [1,5,6,7,25] 25 4 (.seq (.block 5 (.r [.m 28 5,.m 29 6,.m 30 7,.o 31 (.bslice 3 1 3 [.z] [(0,.s 28),(1,.s 29),(2,.s 30)]),.m 8 31] [1,5,6,7,8] (.r [.mk' 9 0] [1,5,6,7,8,9] (.block 6 (.loop [1,5,6,7,8,9] Zyf))))) Zyg)
def Zr8:MCode:=.ic 22 6 23 [1,5,6]
def Zoc:MCode:=.we [.m 20 6,.bk 21 .leq 20 7] [1,5,6,21] 21 2 (.seq (.block 3 (.r [.mk' 7 0] [1,5,6,7] (.block 4 (.loop [1,5,6,7] Zr7)))) Zr8)
def Zod:MCode:=.ic 18 5 19 [1,5]
def Zkt:MCode:=.we [.m 16 5,.bk 17 .leq 16 7] [1,5,17] 17 0 (.seq (.block 1 (.r [.mk' 6 0] [1,5,6] (.block 2 (.loop [1,5,6] Zoc)))) Zod)
def Zku:MCode:=.r [.o 63 (.bslice 3 1 0 [.z] []),.o 64 (.bslice 3 1 0 [.z] []),.m 2 63,.m 3 64,.mq 4 false] [2,3,4] .ret
def Z7j:MFun:=⟨1,65,[.tmp 2,.tmp 3,.tmp 4],.r [.bx 1 0,.mn 2,.mn 3,.mq 4 false] [1] (.wc [.ln 11 6 1,.cl 12 141 [11],.nt 13 12] [1,13] 13 (.r [.o 14 (.bslice 3 1 0 [.z] []),.o 15 (.bslice 3 1 0 [.z] []),.m 2 14,.m 3 15,.mq 4 false] [2,3,4] .ret) (.seq (.r [.mk' 5 0] [1,5] (.block 0 (.loop [1,5] Zkt))) Zku))⟩
def Zr9(a:Zn):Rs:=C 142 [.agg (a.c.map .t)] []
def Zij(o:Zn)(a:Int):Rs:=EvL C [.blk 0,.seq Zku,.fin 0 [.tmp 2,.tmp 3,.tmp 4]] [1,5] Zkt ⟨[(1,.ptr 0 0),(5,I a)],[[]],[.box (o.c.map .t)]⟩
def Zkv(o:Zn)(a b:Int):Rs:=EvL C [.blk 2,.blk 1,.seq Zod,.loop [1,5] Zkt,.blk 0,.seq Zku,.fin 0 [.tmp 2,.tmp 3,.tmp 4]] [1,5,6] Zoc ⟨[(1,.ptr 0 0),(5,I a),(6,I b)],[[]],[.box (o.c.map .t)]⟩
def Zik(o:Zn)(a b e:Int):Rs:=EvL C [.blk 4,.blk 3,.seq Zr8,.loop [1,5,6] Zoc,.blk 2,.blk 1,.seq Zod,.loop [1,5] Zkt,.blk 0,.seq Zku,.fin 0 [.tmp 2,.tmp 3,.tmp 4]] [1,5,6,7] Zr7 ⟨[(1,.ptr 0 0),(5,I a),(6,I b),(7,I e)],[[]],[.box (o.c.map .t)]⟩
def Zfj(o:Zn)(x:List Int)(a b e k:Int):Rs:=EvL C [.blk 6,.blk 5,.seq Zyg,.loop [1,5,6,7] Zr7,.blk 4,.blk 3,.seq Zr8,.loop [1,5,6] Zoc,.blk 2,.blk 1,.seq Zod,.loop [1,5] Zkt,.blk 0,.seq Zku,.fin 0 [.tmp 2,.tmp 3,.tmp 4]] [1,5,6,7,8,9] Zyf ⟨[(1,.ptr 0 0),(5,I a),(6,I b),(7,I e),(8,.own 1),(9,I k)],[[]],[.box (o.c.map .t),.arr 3 1 true (x.map ic)]⟩
def Zyh:MCode:=.we [.m 14 5,.bk 15 .leq 14 7] [1,3,4,5,15] 15 4 (.seq (.block 5 (.r [.ln 18 6 1,.m 19 3,.m 20 4,.m 21 5,.o 22 (.bslice 3 1 3 [.z] [(0,.s 19),(1,.s 20),(2,.s 21)]),.cl 23 184 [18,22],.bk 24 .lss 23 1] [1,3,4,5,24] (.cond (.s 24) (.r [.m 25 3,.m 26 4,.m 27 5,.o 28 (.bslice 3 1 3 [.z] [(0,.s 25),(1,.s 26),(2,.s 27)]),.m 2 28] [2] .ret) .skip))) (.ic 16 5 17 [1,3,4,5]))
def Zyi:MCode:=.ic 12 4 13 [1,3,4]
def Zsa:MCode:=.we [.m 10 4,.bk 11 .leq 10 7] [1,3,4,11] 11 2 (.seq (.block 3 (.r [.mk' 5 0] [1,3,4,5] (.block 4 (.loop [1,3,4,5] Zyh)))) Zyi)
def Zsb:MCode:=.ic 8 3 9 [1,3]
def Zoe:MCode:=.we [.m 6 3,.bk 7 .leq 6 7] [1,3,7] 7 0 (.seq (.block 1 (.r [.mk' 4 0] [1,3,4] (.block 2 (.loop [1,3,4] Zsa)))) Zsb)
def Zof:MCode:=.r [.o 29 (.bslice 3 1 0 [.z] []),.m 2 29] [2] .ret
def Z7k:MFun:=⟨1,30,[.tmp 2],.r [.bx 1 0,.mn 2] [1] (.seq (.r [.mk' 3 0] [1,3] (.block 0 (.loop [1,3] Zoe))) Zof)⟩
def Zsc(a:Zn):Rs:=C 143 [.agg (a.c.map .t)] []
def Zkw(o:Zn)(a:Int):Rs:=EvL C [.blk 0,.seq Zof,.fin 0 [.tmp 2]] [1,3] Zoe ⟨[(1,.ptr 0 0),(3,I a)],[[]],[.box (o.c.map .t)]⟩
def Zkx(o:Zn)(a b:Int):Rs:=EvL C [.blk 2,.blk 1,.seq Zsb,.loop [1,3] Zoe,.blk 0,.seq Zof,.fin 0 [.tmp 2]] [1,3,4] Zsa ⟨[(1,.ptr 0 0),(3,I a),(4,I b)],[[]],[.box (o.c.map .t)]⟩
def Zog(o:Zn)(a b e:Int):Rs:=EvL C [.blk 4,.blk 3,.seq Zyi,.loop [1,3,4] Zsa,.blk 2,.blk 1,.seq Zsb,.loop [1,3] Zoe,.blk 0,.seq Zof,.fin 0 [.tmp 2]] [1,3,4,5] Zyh ⟨[(1,.ptr 0 0),(3,I a),(4,I b),(5,I e)],[[]],[.box (o.c.map .t)]⟩
def Zyj:MCode:=.we [.m 11 5,.bk 12 .leq 11 5] [1,5,12] 12 0 (.seq (.block 1 (.r [.ln 15 30 1,.m 16 5,.cl 17 140 [15,16],.o 6 (.al [.z,.z,.z,.z,.z,.nil]),.st 6 6 17] [1,5,6] (.wc [.ln 18 6 6,.cl 19 141 [18],.nt 20 19] [1,5,6,20] 20 (.r [.m 21 5,.o 22 (.bslice 3 1 0 [.z] []),.o 23 (.bslice 3 1 0 [.z] []),.m 2 21,.m 3 22,.m 4 23] [2,3,4] .ret) (.r [.ln 25 6 6,.cl 26 142 [25],.m 24 26,.o 27 (.ext (.s 24) 0),.o 28 (.ext (.s 24) 1),.o 29 (.ext (.s 24) 2),.m 7 27,.m 8 28,.m 9 29] [1,5,6,7,8,9] (.wc [.m 30 9] [1,5,6,7,8,30] 30 (.r [.m 31 5,.m 32 7,.m 33 8,.m 2 31,.m 3 32,.m 4 33] [2,3,4] .ret) (.r [.ln 34 6 6,.cl 35 143 [34],.m 10 35] [1,5,10] (.r [.m 36 10,.ll 37 36,.bk 38 .gtr 37 0] [1,5,10,38] (.cond (.s 38) (.r [.m 39 5,.m 40 10,.o 41 (.bslice 3 1 0 [.z] []),.m 2 39,.m 3 40,.m 4 41] [2,3,4] .ret) .skip)))))))) (.ic 13 5 14 [1,5]))
def Zyk:MCode:=.r [.o 42 (.bslice 3 1 0 [.z] []),.o 43 (.bslice 3 1 0 [.z] []),.mk' 2 0,.m 3 42,.m 4 43] [2,3,4] .ret
def Z7l:MFun:=⟨1,44,[.tmp 2,.tmp 3,.tmp 4],.r [.bx 1 0,.mk' 2 0,.mn 3,.mn 4] [1] (.seq (.r [.mk' 5 1] [1,5] (.block 0 (.loop [1,5] Zyj))) Zyk)⟩
def Zyl(a:Za):Rs:=C 98 [.agg (a.c.map .t)] []
def Zky(m:Za)(k:Int):Rs:=EvL C [.blk 0,.seq Zyk,.fin 0 [.tmp 2,.tmp 3,.tmp 4]] [1,5] Zyj ⟨[(1,.ptr 0 0),(5,I k)],[[]],[.box (m.c.map .t)]⟩
def Z7m:MFun:=⟨1,14,[.tmp 2],.r [.bx 1 0,.mq 2 false] [1] (.r [.ln 7 30 1,.cl 8 98 [7],.m 6 8,.o 9 (.ext (.s 6) 0),.o 10 (.ext (.s 6) 1),.o 11 (.ext (.s 6) 2),.m 3 9,.m 4 10,.m 5 11] [3] (.r [.m 12 3,.bk 13 .eql 12 0,.m 2 13] [2] .ret))⟩
def Zsd(a:Za):Rs:=C 57 [.agg (a.c.map .t)] []
def Zbjb:MCode:=.we [.m 41 7,.m 42 5,.b 43 .lss 41 42] [2,3,5,6,7,43] 43 2 (.seq (.block 3 (.seq (.drw [.fa 46 1 3,.l 47 46,.m 48 7,.ia 49 8 47 48,.fa 50 7 49,.l 51 50,.fa 52 7 6,.l 53 52,.b 54 .eql 51 53] [[],[0],[],[1,2],[3],[4],[],[6],[5,7]] [2,3,5,6,7,54]) (.cond (.s 54) (.r [.mq 4 false] [4] .ret) .skip))) (.ic 44 7 45 [2,3,5,6,7]))
def Zbjc:MCode:=.ic 13 5 14 [2,3,5]
def Zym:MCode:=.we [.m 8 5,.fa 9 1 3,.l 10 9,.ll 11 10,.b 12 .lss 8 11] [2,3,5,12] 12 0 (.seq (.block 1 (.r [.fa 15 1 3,.l 16 15,.m 17 5,.ia 18 8 16 17,.ln 19 8 18,.o 6 (.al [.z,.nil,.nil,.nil,.nil,.z,.z,.z]),.st 8 6 19] [2,3,5,6] (.wc [.fa 20 6 6,.l 21 20,.o 22 (.call 59 [.s 21,.k 1,.k 999]),.nt 23 22,.m 24 23,.h 25 24 (.fa 7 6),.h 26 24 (.l 25),.h 27 24 (.fa 0 3),.h 28 24 (.l 27),.h 29 24 (.call 59 [.s 26,.k 1,.s 28]),.h 30 24 (.nt 29),.or 31 24 30,.m 32 31,.h 33 32 (.ln 30 2),.h 34 32 (.fa 0 6),.h 35 32 (.ln 2 34),.h 36 32 (.fa 2 6),.h 37 32 (.ln 4 36),.h 38 32 (.cl 99 [33,35,37]),.h 39 32 (.nt 38),.or 40 32 39] [2,3,5,6,40] 40 (.r [.mq 4 false] [4] .ret) (.r [.mk' 7 0] [2,3,5,6,7] (.block 2 (.loop [2,3,5,6,7] Zbjb)))))) Zbjc)
def Zyn:MCode:=.r [.fa 55 0 3,.l 56 55,.o 57 (.call 59 [.s 56,.k 0,.k 1000000]),.m 58 57,.g 59 58 (.fa 1 3),.g 60 58 (.l 59),.g 61 58 (.ll 60),.g 62 58 (.bk .leq 61 4),.an 63 58 62,.m 4 63] [4] .ret
def Z7n:MFun:=⟨2,64,[.tmp 4],.r [.bx 2 0,.bx 3 1,.mq 4 false] [2,3] (.seq (.r [.mk' 5 0] [2,3,5] (.block 0 (.loop [2,3,5] Zym))) Zyn)⟩
def Zse(a:Za)(cc:Int):Rs:=C 58 [.agg (a.c.map .t),.agg [I cc,.t .nil]] []
def Zyo(m:Za)(cc i:Int):Rs:=EvL C [.blk 0,.seq Zyn,.fin 0 [.tmp 4]] [2,3,5] Zym ⟨[(2,.ptr 0 0),(3,.ptr 1 0),(5,I i)],[[]],[.box (m.c.map .t),.box [I cc,.t .nil]]⟩
def Z7o:MFun:=⟨1,38,[.tmp 2],.r [.bx 1 0,.mq 2 false] [1] (.r [.fa 3 0 1,.ln 4 5 3,.cl 5 56 [4],.m 6 5,.g 7 6 (.fa 5 1),.g 8 6 (.ln 30 7),.g 9 6 (.cl 57 [8]),.an 10 6 9,.m 11 10,.g 12 11 (.fa 5 1),.g 13 11 (.ln 30 12),.g 14 11 (.fa 35 1),.g 15 11 (.ln 2 14),.g 16 11 (.cl 58 [13,15]),.an 17 11 16,.m 18 17,.g 19 18 (.fa 37 1),.g 20 18 (.l 19),.g 21 18 (.call 59 [.s 20,.k 2,.k 8]),.an 22 18 21,.m 23 22,.g 24 23 (.fa 38 1),.g 25 23 (.l 24),.g 26 23 (.call 59 [.s 25,.k 0,.k 100]),.an 27 23 26,.m 28 27,.g 29 28 (.fa 39 1),.g 30 28 (.l 29),.g 31 28 (.call 59 [.s 30,.k 0,.k 1000000]),.an 32 28 31,.m 33 32,.g 34 33 (.fa 40 1),.g 35 33 (.l 34),.g 36 33 (.call 59 [.s 35,.k 0,.k 1000000000000]),.an 37 33 36,.m 2 37] [2] .ret)⟩
def Zoh(Zm:Zm)(Za:Za)(cd cl cn cc co:Int):Rs:=C 24 [.agg [L 3 (Zm.Zh.Tables.map Zc.c),I Zm.Zl.Version,L 4 (Zm.Zl.Tables.map Zd.c),L 3 (Zm.Dependencies.map Ze.c),L 4 (Zm.Inclusions.map Zf.c),I Za.Scan.Fixed,I Za.Scan.Zo,I Za.Scan.Zp,I Za.Scan.Zq,I Za.Scan.Zr,L 2 (Za.Scan.Steps.map Zb.c),I Za.Sort_.Fixed,I Za.Sort_.Zo,I Za.Sort_.Zp,I Za.Sort_.Zq,I Za.Sort_.Zr,L 2 (Za.Sort_.Steps.map Zb.c),I Za.Hash.Fixed,I Za.Hash.Zo,I Za.Hash.Zp,I Za.Hash.Zq,I Za.Hash.Zr,L 2 (Za.Hash.Steps.map Zb.c),I Za.Merge.Fixed,I Za.Merge.Zo,I Za.Merge.Zp,I Za.Merge.Zq,I Za.Merge.Zr,L 2 (Za.Merge.Steps.map Zb.c),I Za.Nested.Fixed,I Za.Nested.Zo,I Za.Nested.Zp,I Za.Nested.Zq,I Za.Nested.Zr,L 2 (Za.Nested.Steps.map Zb.c),I cd,.t .nil,I cl,I cn,I cc,I co]] []
def Z7p:MFun:=⟨4,23,[.cell 8 (some 41),.tmp 9],.r [.bx 4 0,.bx 5 1,.o 8 (.al [.nil,.z,.nil,.nil,.nil,.z,.z,.z,.z,.z,.nil,.z,.z,.z,.z,.z,.nil,.z,.z,.z,.z,.z,.nil,.z,.z,.z,.z,.z,.nil,.z,.z,.z,.z,.z,.nil,.z,.nil,.z,.z,.z,.z]),.mq 9 false] [2,3,4,5,8] (.seq (.drw [.ln 11 5 4,.cl 12 22 [11],.ln 13 30 5,.cl 14 23 [13],.m 15 2,.m 16 3,.o 17 (.build [.t .nil,.t .z,.t .nil,.t .nil,.t .nil,.t .z,.t .z,.t .z,.t .z,.t .z,.t .nil,.t .z,.t .z,.t .z,.t .z,.t .z,.t .nil,.t .z,.t .z,.t .z,.t .z,.t .z,.t .nil,.t .z,.t .z,.t .z,.t .z,.t .z,.t .nil,.t .z,.t .z,.t .z,.t .z,.t .z,.t .nil,.t .z,.t .nil,.t .z,.t .z,.t .z,.t .z] [(0,5,.s 12),(5,30,.s 14),(37,1,.s 15),(38,1,.s 16)]),.o 10 (.al [.nil,.z,.nil,.nil,.nil,.z,.z,.z,.z,.z,.nil,.z,.z,.z,.z,.z,.nil,.z,.z,.z,.z,.z,.nil,.z,.z,.z,.z,.z,.nil,.z,.z,.z,.z,.z,.nil,.z,.nil,.z,.z,.z,.z]),.st 41 10 17] [[],[0],[],[2,1],[],[],[1,3,4,5],[],[7,6,3,0,1,2,3,4,5,6,7]] [8,10]) (.wc [.ln 18 41 10,.cl 19 24 [18],.nt 20 19] [8,10,20] 20 (.r [.o 21 (.build [.t .nil,.t .z,.t .nil,.t .nil,.t .nil,.t .z,.t .z,.t .z,.t .z,.t .z,.t .nil,.t .z,.t .z,.t .z,.t .z,.t .z,.t .nil,.t .z,.t .z,.t .z,.t .z,.t .z,.t .nil,.t .z,.t .z,.t .z,.t .z,.t .z,.t .nil,.t .z,.t .z,.t .z,.t .z,.t .z,.t .nil,.t .z,.t .nil,.t .z,.t .z,.t .z,.t .z] []),.st 41 8 21,.mq 9 false] [8,9] .ret) (.r [.ln 22 41 10,.st 41 8 22,.mq 9 true] [8,9] .ret)))⟩
def Zsf(a:Zm)(a1:Za)(a2 a3:Int):Rs:=C 6 [.agg (a.c.map .t),.agg (a1.c.map .t),I a2,I a3] []
def Z7q:MFun:=⟨1,9,[.cell 2 (some 6)],.r [.bx 1 0,.o 2 (.al [.z,.z,.z,.z,.z,.nil])] [1,2] (.r [.o 3 (.bslice 170 2 0 [.z,.z] []),.fa 4 5 1,.l 5 4,.o 6 (.append 170 2 16 false (.s 3) (.s 5)),.fa 7 5 1,.st 1 7 6] [1,2] (.r [.ln 8 6 1,.st 6 2 8] [2] .ret))⟩
def Zyp(a:Zn):Rs:=C 108 [.agg (a.c.map .t)] []
theorem Zbjd:tbl 152=some Z37:=Zg Tryz.func152
theorem Zbje:tbl 196=some Z38:=Zg Tryz.func196
theorem Zbjf:tbl 150=some Z39:=Zg Tryz.func150
theorem Zbjg:tbl 104=some Z4a:=Zg Tryz.func104
theorem Zbjh:tbl 151=some Z4b:=Zg Tryz.func151
theorem Zbji:tbl 105=some Z4c:=Zg Tryz.func105
theorem Zbjj:tbl 106=some Z4d:=Zg Tryz.func106
theorem Zbjk:tbl 65=some Z4e:=Zg Tryz.func65
theorem Zbjl:tbl 66=some Z4h:=Zg Tryz.func66
theorem Zbjm:tbl 67=some Z4i:=Zg Tryz.func67
theorem Zbjn:tbl 30=some Z4j:=Zg Tryz.func30
theorem Zbjo:tbl 68=some Z4k:=Zg Tryz.func68
theorem Zbjp:tbl 240=some Z4l:=Zg Tryz.func240
theorem Zbjq:tbl 241=some Z4m:=Zg Tryz.func241
theorem Zbjr:tbl 332=some Z4n:=Zg Tryz.func332
theorem Zbjs:tbl 318=some Z4o:=Zg Tryz.func318
theorem Zbjt:tbl 296=some Z4p:=Zg Tryz.func296
theorem Zbju:tbl 270=some Z4q:=Zg Tryz.func270
theorem Zbjv:tbl 242=some Z4r:=Zg Tryz.func242
theorem Zbjw:tbl 197=some Z4s:=Zg Tryz.func197
theorem Zbjx:tbl 155=some Z4t:=Zg Tryz.func155
theorem Zbjy:tbl 243=some Z4v:=Zg Tryz.func243
theorem Zbjz:tbl 198=some Z4w:=Zg Tryz.func198
theorem Zbj0:tbl 244=some Z4x:=Zg Tryz.func244
theorem Zbj1:tbl 245=some Z4y:=Zg Tryz.func245
theorem Zbj2:tbl 246=some Z4z:=Zg Tryz.func246
theorem Zbj3:tbl 247=some Z40:=Zg Tryz.func247
theorem Zbj4:tbl 199=some Z42:=Zg Tryz.func199
theorem Zbj5:tbl 156=some Z43:=Zg Tryz.func156
theorem Zbj6:tbl 111=some Z45:=Zg Tryz.func111
theorem Z7r:tbl 157=some Zvw:=Zg Tryz.func157
theorem Z7s:tbl 112=some Zvz:=Zg Tryz.func112
theorem Zbj7:tbl 277=some Z46:=Zg Tryz.func277
theorem Zbj8:tbl 276=some Z47:=Zg Tryz.func276
theorem Zbj9:tbl 249=some Z48:=Zg Tryz.func249
theorem Zbka:tbl 278=some Z49:=Zg Tryz.func278
theorem Zbkb:tbl 250=some Z5a:=Zg Tryz.func250
theorem Zbkc:tbl 202=some Z5b:=Zg Tryz.func202
theorem Zbkd:tbl 203=some Z5f:=Zg Tryz.func203
theorem Zbke:tbl 159=some Z5h:=Zg Tryz.func159
theorem Zbkf:tbl 204=some Z5i:=Zg Tryz.func204
theorem Zbkg:tbl 205=some Z5k:=Zg Tryz.func205
theorem Zbkh:tbl 160=some Z5o:=Zg Tryz.func160
theorem Zbki:tbl 113=some Z5p:=Zg Tryz.func113
theorem Zbkj:tbl 275=some Z5q:=Zg Tryz.func275
theorem Zbkk:tbl 274=some Z5r:=Zg Tryz.func274
theorem Zbkl:tbl 248=some Z5s:=Zg Tryz.func248
theorem Zbkm:tbl 201=some Z5t:=Zg Tryz.func201
theorem Zbkn:tbl 200=some Z5u:=Zg Tryz.func200
theorem Zbko:tbl 158=some Z5v:=Zg Tryz.func158
theorem Zbkp:tbl 69=some Z5w:=Zg Tryz.func69
theorem Zbkq:tbl 107=some Z5x:=Zg Tryz.func107
theorem Zbkr:tbl 206=some Z5y:=Zg Tryz.func206
theorem Zbks:tbl 161=some Z5z:=Zg Tryz.func161
theorem Zbkt:tbl 163=some Z50:=Zg Tryz.func163
theorem Zbku:tbl 208=some Z51:=Zg Tryz.func208
theorem Zbkv:tbl 207=some Z53:=Zg Tryz.func207
theorem Zbkw:tbl 164=some Z54:=Zg Tryz.func164
theorem Zbkx:tbl 162=some Z56:=Zg Tryz.func162
theorem Zbky:tbl 114=some Z57:=Zg Tryz.func114
theorem Zbkz:tbl 70=some Z58:=Zg Tryz.func70
theorem Zbk0:tbl 71=some Z59:=Zg Tryz.func71
theorem Zbk1:tbl 31=some Z6a:=Zg Tryz.func31
theorem Zbk2:tbl 9=some Z6b:=Zg Tryz.func9
theorem Zbk3:tbl 93=some Z6c:=Zg Tryz.func93
theorem Zbk4:tbl 52=some Z6d:=Zg Tryz.func52
theorem Zbk5:tbl 94=some Z6e:=Zg Tryz.func94
theorem Zbk6:tbl 53=some Z6f:=Zg Tryz.func53
theorem Zbk7:tbl 54=some Z6g:=Zg Tryz.func54
theorem Zbk8:tbl 22=some Z6h:=Zg Tryz.func22
theorem Zbk9:tbl 55=some Z6i:=Zg Tryz.func55
theorem Zbla:tbl 23=some Z6j:=Zg Tryz.func23
theorem Zblb:tbl 218=some Z6k:=Zg Tryz.func218
theorem Zblc:tbl 59=some Z6l:=Zg Tryz.func59
theorem Zbld:tbl 219=some Z6m:=Zg Tryz.func219
theorem Zble:tbl 178=some Z6n:=Zg Tryz.func178
theorem Z7t:tbl 175=some Zw9:=Zg Tryz.func175
theorem Zblf:tbl 135=some Z6o:=Zg Tryz.func135
theorem Zblg:tbl 220=some Z6q:=Zg Tryz.func220
theorem Zblh:tbl 176=some Z6r:=Zg Tryz.func176
theorem Z7u:tbl 221=some Zxg:=Zg Tryz.func221
theorem Zbli:tbl 222=some Z6s:=Zg Tryz.func222
theorem Zblj:tbl 223=some Z6w:=Zg Tryz.func223
theorem Zblk:tbl 177=some Z6y:=Zg Tryz.func177
theorem Zbll:tbl 136=some Z6z:=Zg Tryz.func136
theorem Zblm:tbl 95=some Z60:=Zg Tryz.func95
theorem Z7v:tbl 96=some Zxs:=Zg Tryz.func96
theorem Zbln:tbl 224=some Z61:=Zg Tryz.func224
theorem Zblo:tbl 225=some Z62:=Zg Tryz.func225
theorem Zblp:tbl 179=some Z63:=Zg Tryz.func179
theorem Zblq:tbl 180=some Z64:=Zg Tryz.func180
theorem Zblr:tbl 138=some Z65:=Zg Tryz.func138
theorem Zbls:tbl 181=some Z66:=Zg Tryz.func181
theorem Zblt:tbl 182=some Z67:=Zg Tryz.func182
theorem Zblu:tbl 139=some Z68:=Zg Tryz.func139
theorem Zblv:tbl 97=some Z69:=Zg Tryz.func97
theorem Zblw:tbl 137=some Z7a:=Zg Tryz.func137
theorem Zblx:tbl 56=some Z7b:=Zg Tryz.func56
theorem Zbly:tbl 140=some Z7c:=Zg Tryz.func140
theorem Zblz:tbl 183=some Z7d:=Zg Tryz.func183
theorem Zbl0:tbl 141=some Z7e:=Zg Tryz.func141
theorem Zbl1:tbl 227=some Z7f:=Zg Tryz.func227
theorem Zbl2:tbl 226=some Z7h:=Zg Tryz.func226
theorem Zbl3:tbl 184=some Z7i:=Zg Tryz.func184
theorem Zbl4:tbl 142=some Z7j:=Zg Tryz.func142
theorem Zbl5:tbl 143=some Z7k:=Zg Tryz.func143
theorem Zbl6:tbl 98=some Z7l:=Zg Tryz.func98
theorem Zbl7:tbl 57=some Z7m:=Zg Tryz.func57
theorem Zbl8:tbl 58=some Z7n:=Zg Tryz.func58
theorem Zbl9:tbl 24=some Z7o:=Zg Tryz.func24
theorem Zbma:tbl 6=some Z7p:=Zg Tryz.func6
theorem Zbmb:tbl 108=some Z7q:=Zg Tryz.func108
theorem Zeg:(((∀⦃a r⦄,Im (Zfg a=some r) (a.length<=68719476736/\(some (.own 0,[.arr 3 1 true (a.map ic)])=some r)))/\
 ((∀⦃cp x x1 x2 r⦄,Im (Zjk cp x x1 x2=some r) (if x2<x1 then(0<=x2/\(∃e1,x[x2.toNat]?=some e1/\(∃(v1:List Int),Zfg e1=some (.own 0,[.arr 3 1 true (v1.map ic)])/\(cp.length+1<=68719476736/\(Zjk (cp++[v1]) x x1 (w (x2+1))=some r)))))else(some (.own 0,[.arr 99 1 true (cp.map isc)])=some r)))/\
 (∀⦃a r⦄,Im (Zgr a=some r) (Zjk ([]:List (List Int)) a (a.length:Int) 0=some r))))/\
 ((∀⦃a r⦄,Im (Zhq a=some r) (∃(v:List (List Int)),Zgr a.Rows=some (.own 0,[.arr 99 1 true (v.map isc)])/\(some (.agg [.t (.str a.Name),I a.Arity,.own 0],[.arr 99 1 true (v.map isc)])=some r)))/\
 ((∀⦃x x1 x2 r⦄,Im (Zut x x1 x2=some r) (if x2<x1 then(0<=x2/\(∃e1,x[x2.toNat]?=some e1/\(∃(v1:List (List Int)),∃v2,∃v3,Zhq e1=some (.agg [.t (.str v2),I v3,.own 0],[.arr 99 1 true (v1.map isc)])/\(Zl4 ([(⟨v2,v3,v1⟩:Zc)]) x x1 (w (x2+1))=some r))))else(some (.agg [.own 0],[.arr 142 3 true (([]:List Zc).map Zc.c)])=some r)))/\
 (∀⦃x x1 x2 x3 r⦄,Im (Zl4 x x1 x2 x3=some r) (if x3<x2 then(0<=x3/\(∃e1,x1[x3.toNat]?=some e1/\(∃(v1:List (List Int)),∃v2,∃v3,Zhq e1=some (.agg [.t (.str v2),I v3,.own 0],[.arr 99 1 true (v1.map isc)])/\(x.length+1<=68719476736/\(Zl4 (x++[(⟨v2,v3,v1⟩:Zc)]) x1 x2 (w (x3+1))=some r)))))else(some (.agg [.own 0],[.arr 142 3 true (x.map Zc.c)])=some r))))))/\
 (((∀⦃a r⦄,Im (Zl3 a=some r) (Zut a.Tables (a.Tables.length:Int) 0=some r))/\
 ((∀⦃s cu co cn cl x x1 x2 r⦄,Im (Zl6 s cu co cn cl x x1 x2=some r) (if x2<x1 then(0<=x2/\(∃e1,x[x2.toNat]?=some e1/\(∃(v1:List Int),Zfg e1.Columns=some (.own 0,[.arr 3 1 true (v1.map ic)])/\(∃(v5:List (List Int)),Zgr e1.Values=some (.own 0,[.arr 99 1 true (v5.map isc)])/\(∃(v6:List Int),Zfg e1.Counts=some (.own 0,[.arr 3 1 true (v6.map ic)])/\(cl.length+1<=68719476736/\(Zl6 s cu co cn (cl++[(⟨v1,v5,v6⟩:Zj)]) x x1 (w (x2+1))=some r)))))))else(some (.agg [.t (.str s.Name),I s.Arity,I s.RowCount,.own 0],[.arr 193 3 true (cl.map Zj.c)])=some r)))/\
 (∀⦃a r⦄,Im (Zl5 a=some r) (Zl6 a (⟨#[]⟩:ByteArray) 0 0 ([]:List Zj) a.Groups (a.Groups.length:Int) 0=some r))))/\
 ((∀⦃cd cc x x1 x2 r⦄,Im (Zuw cd cc x x1 x2=some r) (if x2<x1 then(0<=x2/\(∃e1,x[x2.toNat]?=some e1/\(∃(v1:List Zj),∃v2,∃v3,∃v4,Zl5 e1=some (.agg [.t (.str v2),I v3,I v4,.own 0],[.arr 193 3 true (v1.map Zj.c)])/\(Zl8 cd cc ([(⟨v2,v3,v4,v1⟩:Zd)]) x x1 (w (x2+1))=some r))))else(some (.agg [I cc,.own 0],[.arr 146 4 true (([]:List Zd).map Zd.c)])=some r)))/\
 ((∀⦃cd cc x x1 x2 x3 r⦄,Im (Zl8 cd cc x x1 x2 x3=some r) (if x3<x2 then(0<=x3/\(∃e1,x1[x3.toNat]?=some e1/\(∃(v1:List Zj),∃v2,∃v3,∃v4,Zl5 e1=some (.agg [.t (.str v2),I v3,I v4,.own 0],[.arr 193 3 true (v1.map Zj.c)])/\(x.length+1<=68719476736/\(Zl8 cd cc (x++[(⟨v2,v3,v4,v1⟩:Zd)]) x1 x2 (w (x3+1))=some r)))))else(some (.agg [I cc,.own 0],[.arr 146 4 true (x.map Zd.c)])=some r)))/\
 (∀⦃a r⦄,Im (Zl7 a=some r) (Zuw 0 a.Version a.Tables (a.Tables.length:Int) 0=some r))))):=by
 and_intros
 all_goals intros
 all_goals unfold Im
 all_goals try simp only[Zfg,Zjk,Zgr,Zhq,Zut,Zl4,Zl3,Zl6,Zl5,Zuw,Zl8,Zl7,Zc.c_def,Zd.c_def,mpl,dfs]
 all_goals try simp only[itb]
 all_goals try simp only[itf,gS,kk]
 all_goals repeat' first|refine exI λ_=>?_|refine anJ λ_ _=>?_|refine anI λ_=>?_|refine orE2 ?_ ?_|exact False.elim
 all_goals (intro h;first|refine run Zbjd rfl ?_|rw[Zi Zur.eq_1]|refine run Zbje rfl ?_|refine run Zbjf rfl ?_|rw[Zi Zqq.eq_1]|refine run Zbjg rfl ?_|rw[Zi Zuu.eq_1]|refine run Zbjh rfl ?_|rw[Zi Zqs.eq_1]|refine run Zbji rfl ?_)
 all_goals (refine Yd ?_ h;clear h;simp +decide[*,kk,tI,tII,Z37,Zus,Z38,Z39,Zqr,Z4a,Zuv,Z4b,Zqt,Z4c])
abbrev Zbmc:=Zeg.1.1.1
abbrev Zsg:=Zeg.1.1.2.1
abbrev Z7w:=Zeg.1.1.2.2
abbrev Z7x:=Zeg.1.2.1
abbrev Zbmd:=Zeg.1.2.2.1
abbrev Z7y:=Zeg.1.2.2.2
abbrev Zbme:=Zeg.2.1.1
abbrev Z7z:=Zeg.2.1.2.1
abbrev Zbmf:=Zeg.2.1.2.2
abbrev Zbmg:=Zeg.2.2.1
abbrev Z70:=Zeg.2.2.2.1
abbrev Zbmh:=Zeg.2.2.2.2
theorem Zeh:(((∀⦃cv x x1 x2 r⦄,Im (Zl9 cv x x1 x2=some r) (if x2<x1 then(0<=x2/\(∃e1,x[x2.toNat]?=some e1/\(∃(v5:List Int),Zfg e1.From=some (.own 0,[.arr 3 1 true (v5.map ic)])/\(cv.length+1<=68719476736/\(Zl9 (cv++[(⟨e1.Name,v5,e1.To⟩:Ze)]) x x1 (w (x2+1))=some r)))))else(some (.own 0,[.arr 116 3 true (cv.map Ze.c)])=some r)))/\
 ((∀⦃a r⦄,Im (Zuz a=some r) (Zl9 ([]:List Ze) a (a.length:Int) 0=some r))/\
 (∀⦃a r⦄,Im (Zqu a=some r) (∃(v:List Zc),Zl3 a.Zh=some (.agg [.own 0],[.arr 142 3 true (v.map Zc.c)])/\(∃(v5:List Zd),∃v6,Zl7 a.Zl=some (.agg [I v6,.own 0],[.arr 146 4 true (v5.map Zd.c)])/\(∃(v35:List Ze),Zuz a.Dependencies=some (.own 0,[.arr 116 3 true (v35.map Ze.c)])/\(a.Inclusions.length<=68719476736/\(some (.agg [.own 0,I v6,.own 1,.own 2,.own 3],[.arr 142 3 true (v.map Zc.c),.arr 146 4 true (v5.map Zd.c),.arr 116 3 true (v35.map Ze.c),.arr 118 4 true (a.Inclusions.map Zf.c)])=some r))))))))/\
 ((∀⦃cc cn x x1 r⦄,Im (Zu2 cc cn x x1=some r) (if x1<x then False else(some (.agg [I cn,.t .nil],[])=some r)))/\
 ((∀⦃cc r⦄,Im (Zqw cc=some r) (Zu2 0 cc 0 0=some r))/\
 (∀⦃Zm Za cc co cp cd cu r⦄,Im (Zma Zm Za cc co cp cd cu=some r) (∃(v:List Zc),∃(v1:List Zd),∃(v2:List Ze),∃(v3:List Zf),∃v4,Zqu Zm=some (.agg [.own 0,I v4,.own 1,.own 2,.own 3],[.arr 142 3 true (v.map Zc.c),.arr 146 4 true (v1.map Zd.c),.arr 116 3 true (v2.map Ze.c),.arr 118 4 true (v3.map Zf.c)])/\(∃(v5:List Zb),∃(v6:List Zb),∃(v7:List Zb),∃(v8:List Zb),∃(v9:List Zb),∃v10,∃v11,∃v12,∃v13,∃v14,∃v15,∃v16,∃v17,∃v18,∃v19,∃v20,∃v21,∃v22,∃v23,∃v24,∃v25,∃v26,∃v27,∃v28,∃v29,∃v30,∃v31,∃v32,∃v33,∃v34,Zqv Za=some (.agg [I v10,I v11,I v12,I v13,I v14,.own 0,I v15,I v16,I v17,I v18,I v19,.own 1,I v20,I v21,I v22,I v23,I v24,.own 2,I v25,I v26,I v27,I v28,I v29,.own 3,I v30,I v31,I v32,I v33,I v34,.own 4],[.arr 170 2 true (v5.map Zb.c),.arr 170 2 true (v6.map Zb.c),.arr 170 2 true (v7.map Zb.c),.arr 170 2 true (v8.map Zb.c),.arr 170 2 true (v9.map Zb.c)])/\(∃v35,Zqw cc=some (.agg [I v35,.t .nil],[])/\(some (.agg [.own 0,I v4,.own 1,.own 2,.own 3,I v10,I v11,I v12,I v13,I v14,.own 4,I v15,I v16,I v17,I v18,I v19,.own 5,I v20,I v21,I v22,I v23,I v24,.own 6,I v25,I v26,I v27,I v28,I v29,.own 7,I v30,I v31,I v32,I v33,I v34,.own 8,I v35,.t .nil,I co,I cp,I cd,I cu],[.arr 142 3 true (v.map Zc.c),.arr 146 4 true (v1.map Zd.c),.arr 116 3 true (v2.map Ze.c),.arr 118 4 true (v3.map Zf.c),.arr 170 2 true (v5.map Zb.c),.arr 170 2 true (v6.map Zb.c),.arr 170 2 true (v7.map Zb.c),.arr 170 2 true (v8.map Zb.c),.arr 170 2 true (v9.map Zb.c)])=some r))))))))/\
 (((∀⦃a a1 a2 r⦄,Im (Zbe a a1 a2=some r) (if a1<=a then(some (Bo (decide (a<=a2)),[])=some r)else(some (Bo false,[])=some r)))/\
 ((∀⦃cy cl x x1 x2 r⦄,Im (Zmc cy cl x x1 x2=some r) (if x2<x1 then(0<=x2/\(∃e1,x[x2.toNat]?=some e1/\(∃v5,Zbe e1 0 9=some (Bo v5,[])/\(if v5=true then(Zmc cy cl x x1 (w (x2+1))=some r)else(some (Bo false,[])=some r)))))else(some (Bo (decide ((cy.length:Int)=cl)),[])=some r)))/\
 (∀⦃a a1 r⦄,Im (Zmb a a1=some r) (Zmc a a1 a (a.length:Int) 0=some r))))/\
 ((∀⦃a r⦄,Im (Zmd a=some r) (if(a.size:Int)=1 then(∃b1,a[0]?=some b1/\(if 97<=(b1.toNat:Int)then(some (Bo (decide ((b1.toNat:Int)<=122)),[])=some r)else(some (Bo false,[])=some r)))else(some (Bo false,[])=some r)))/\
 ((∀⦃a r⦄,Im (Zqx a=some r) (some (Bo (!(decide (a=a))),[])=some r))/\
 (∀⦃a a1 r⦄,Im (Zme a a1=some r) (∃v,Zqx a=some (Bo v,[])/\(∃v5,Zqx a1=some (Bo v5,[])/\(if v=true then(if v5=true then(some (I 0,[])=some r)else(some (I (-1),[])=some r))else(if v5=true then(some (I 1,[])=some r)else(if a<a1 then(some (I (-1),[])=some r)else(if a1<a then(some (I 1,[])=some r)else(some (I 0,[])=some r))))))))))):=by
 and_intros
 all_goals intros
 all_goals unfold Im
 all_goals try simp only[Zl9,Zuz,Zqu,Zu2,Zqw,Zma,Zbe,Zmc,Zmb,Zmd,Zqx,Zme,Zfg,Zl3,Zl7,Zl.c_def,Zh.c_def,Ze.c_def,Zqv,Za.c_def,Zn.c_def,Zm.c_def,mpl,dfs]
 all_goals try simp only[itb]
 all_goals try simp only[itf,gS,kk]
 all_goals repeat' first|refine exI λ_=>?_|refine anJ λ_ _=>?_|refine anI λ_=>?_|refine orE2 ?_ ?_|exact False.elim
 all_goals (intro h;first|rw[Zi Zux.eq_1]|refine run Zbjj rfl ?_|refine run Zbjk rfl ?_|rw[Zi Zu0.eq_1]|refine run Zbjm rfl ?_|refine run Zbjn rfl ?_|refine run Zbjo rfl ?_|rw[Zi Zu3.eq_1]|refine run Zbjp rfl ?_|refine run Zbjq rfl ?_|refine run Zbjr rfl ?_|refine run Zbjs rfl ?_)
 all_goals (refine Yd ?_ h;clear h;simp +decide[*,kk,tI,tII,Zuy,Z4d,Z4e,Zu1,Z4i,Z4j,Z4k,Zu4,Z4l,Z4m,Z4n,Z4o])
abbrev Z71:=Zeh.1.1.1
abbrev Zbmi:=Zeh.1.1.2.1
abbrev Zbmj:=Zeh.1.1.2.2
abbrev Zbmk:=Zeh.1.2.1
abbrev Zbml:=Zeh.1.2.2.1
abbrev Zbmm:=Zeh.1.2.2.2
abbrev Zbmn:=Zeh.2.1.1
abbrev Z72:=Zeh.2.1.2.1
abbrev Zbmo:=Zeh.2.1.2.2
abbrev Zbmp:=Zeh.2.2.1
abbrev Z73:=Zeh.2.2.2.1
abbrev Zbmq:=Zeh.2.2.2.2
theorem Zil:((∀⦃s1 s2 x x1 x2 r⦄,Im (Zmf s1 s2 x x1 x2=some r) (if x2<x1 then(0<=x2/\(∃e1,x[x2.toNat]?=some e1/\(if(s2.length:Int)<=x2 then(some (I 1,[])=some r)else(∃e2,s2[x2.toNat]?=some e2/\(∃v2,Zme e1 e2=some (I v2,[])/\(if v2=0 then(Zmf s1 s2 x x1 (w (x2+1))=some r)else(some (I v2,[])=some r)))))))else(if(s1.length:Int)<(s2.length:Int)then(some (I (-1),[])=some r)else(some (I 0,[])=some r))))/\
 ((∀⦃a a1 r⦄,Im (Zu7 a a1=some r) (Zmf a a1 a (a.length:Int) 0=some r))/\
 (∀⦃a a1 r⦄,Im (Zqy a a1=some r) (∃v,Zu7 a a1=some (I v,[])/\(some (I v,[])=some r)))))/\
 (((∀⦃c i r⦄,Im (Zmg c i=some r) (if i<(c.length:Int)then(0<=(w (i-1))/\(∃e1,c[(w (i-1)).toNat]?=some e1/\(0<=i/\(∃e2,c[i.toNat]?=some e2/\(∃v2,Zqy e1 e2=some (I v2,[])/\(if 0<=v2 then(some (Bo false,[])=some r)else(Zmg c (w (i+1))=some r)))))))else(some (Bo true,[])=some r)))/\
 (∀⦃a r⦄,Im (Zqz a=some r) (Zmg a 1=some r)))/\
 ((∀⦃t x x1 x2 r⦄,Im (Zmh t x x1 x2=some r) (if x2<x1 then(0<=x2/\(∃e1,x[x2.toNat]?=some e1/\(∃v1,Zmb e1 t.Arity=some (Bo v1,[])/\(if v1=true then(Zmh t x x1 (w (x2+1))=some r)else(some (Bo false,[])=some r)))))else(∃v2,Zmd t.Name=some (Bo v2,[])/\(if v2=true then(∃v3,Zbe t.Arity 1 3=some (Bo v3,[])/\(if v3=true then(if(t.Rows.length:Int)<=8 then(∃v4,Zqz t.Rows=some (Bo v4,[])/\(some (Bo v4,[])=some r))else(some (Bo false,[])=some r))else(some (Bo false,[])=some r)))else(some (Bo false,[])=some r)))))/\
 (∀⦃a r⦄,Im (Zgs a=some r) (Zmh a a.Rows (a.Rows.length:Int) 0=some r)))):=by
 and_intros
 all_goals intros
 all_goals unfold Im
 all_goals try simp only[Zmf,Zu7,Zqy,Zmg,Zqz,Zmh,Zgs,Zme,Zmb,Zmd,Zbe,mpl,dfs]
 all_goals try simp only[itb]
 all_goals try simp only[itf,gS,kk]
 all_goals repeat' first|refine exI λ_=>?_|refine anJ λ_ _=>?_|refine anI λ_=>?_|refine orE2 ?_ ?_|exact False.elim
 all_goals (intro h;first|rw[Zi Zu5.eq_1]|refine run Zbjt rfl ?_|refine run Zbju rfl ?_|rw[Zi Zu8.eq_1]|refine run Zbjv rfl ?_|rw[Zi Zva.eq_1]|refine run Zbjw rfl ?_)
 all_goals (refine Yd ?_ h;clear h;simp +decide[*,kk,tI,tII,Zu6,Z4p,Z4q,Zu9,Z4r,Zvb,Z4s])
abbrev Z74:=Zil.1.1
abbrev Zbmr:=Zil.1.2.1
abbrev Zbms:=Zil.1.2.2
abbrev Zyq:=Zil.2.1.1
abbrev Zbmt:=Zil.2.1.2
abbrev Z75:=Zil.2.2.1
abbrev Zbmu:=Zil.2.2.2
theorem Zei:(((∀⦃db x x1 x2 r⦄,Im (Zjl db x x1 x2=some r) (if x2<x1 then(0<=x2/\(∃e1,x[x2.toNat]?=some e1/\(∃v1,Zgs e1=some (Bo v1,[])/\(if v1=true then(if 0<x2 then(0<=(w (x2-1))/\(∃e3,db.Tables[(w (x2-1)).toNat]?=some e3/\(if(Op.bytesLess e3.Name.toList e1.Name.toList)=true then(Zjl db x x1 (w (x2+1))=some r)else(some (Bo false,[])=some r))))else(Zjl db x x1 (w (x2+1))=some r))else(some (Bo false,[])=some r)))))else(some (Bo (decide ((db.Tables.length:Int)<=6)),[])=some r)))/\
 ((∀⦃a r⦄,Im (Zhr a=some r) (Zjl a a.Tables (a.Tables.length:Int) 0=some r))/\
 (∀⦃cc cl i r⦄,Im (Zmi cc cl i=some r) (¬i<0/\(if(shrI cl i)=0 then(some (.own 0,[.arr 3 1 true (cc.map ic)])=some r)else(if(andI (shrI cl i) 1)=1 then(cc.length+1<=68719476736/\(Zmi (cc++[i]) cl (w (i+1))=some r))else(Zmi cc cl (w (i+1))=some r)))))))/\
 ((∀⦃a r⦄,Im (Ze2 a=some r) (Zmi ([]:List Int) a 0=some r))/\
 ((∀⦃cc c cl r⦄,Im (Zhs cc c cl=some r) (¬c<0/\(if cl<(shlI 1 c)then(∃(v:List Int),Ze2 cl=some (.own 0,[.arr 3 1 true (v.map ic)])/\(cc.length+1<=68719476736/\(Zhs (cc++[v]) c (w (cl+1))=some r)))else(some (.own 0,[.arr 99 1 true (cc.map isc)])=some r))))/\
 (∀⦃a r⦄,Im (Zjm a=some r) (∃v,Zbe a 1 3=some (Bo v,[])/\(if v=true then(Zhs ([]:List (List Int)) a 1=some r)else(some (.t .nil,[])=some r)))))))/\
 (((∀⦃cd c x x1 x2 r⦄,Im (Zjn cd c x x1 x2=some r) (if x2<x1 then(0<=x2/\(∃e1,x[x2.toNat]?=some e1/\(∃v1,Zbe e1 0 (w (c-1))=some (Bo v1,[])/\(if v1=true then(if 0<x2 then(0<=(w (x2-1))/\(∃e3,cd[(w (x2-1)).toNat]?=some e3/\(if e1<=e3 then(some (Bo false,[])=some r)else(Zjn cd c x x1 (w (x2+1))=some r))))else(Zjn cd c x x1 (w (x2+1))=some r))else(some (Bo false,[])=some r)))))else(some (Bo true,[])=some r)))/\
 ((∀⦃a a1 r⦄,Im (Zht a a1=some r) (Zjn a a1 a (a.length:Int) 0=some r))/\
 (∀⦃cc cn x x1 x2 r⦄,Im (Zmj cc cn x x1 x2=some r) (if x2<x1 then(0<=x2/\(∃e1,x[x2.toNat]?=some e1/\(∃v1,Zbe e1 0 (w ((cn.length:Int)-1))=some (Bo v1,[])/\(if v1=true then(0<=e1/\(∃e3,cn[e1.toNat]?=some e3/\(cc.length+1<=68719476736/\(Zmj (cc++[e3]) cn x x1 (w (x2+1))=some r))))else(some (.tup [.t .nil,Bo false],[])=some r)))))else(some (.tup [.own 0,Bo true],[.arr 3 1 true (cc.map ic)])=some r)))))/\
 ((∀⦃a a1 r⦄,Im (Zc4 a a1=some r) (Zmj ([]:List Int) a a1 (a1.length:Int) 0=some r))/\
 ((∀⦃a r⦄,Im (Zmk a=some r) (∃(v:List (List Int)),Zgr a=some (.own 0,[.arr 99 1 true (v.map isc)])/\(∃(v1:List (List Int)),Zvm v=some (.tup [],[.arr 99 1 true (v1.map isc)])/\(∃(v2:List (List Int)),Zvn v1=some (.own 1,[.dead,.arr 99 1 true (v2.map isc)])/\(some (.own 0,[.arr 99 1 true (v2.map isc)])=some r)))))/\
 (∀⦃s1 s2 x x1 r⦄,Im (Zjo s1 s2 x x1=some r) (if x1<x then(0<=x1/\(∃e1,s1[x1.toNat]?=some e1/\(∃e2,s2[x1.toNat]?=some e2/\(if e1=e2 then(Zjo s1 s2 x (w (x1+1))=some r)else(some (Bo false,[])=some r)))))else(some (Bo true,[])=some r)))))):=by
 and_intros
 all_goals intros
 all_goals unfold Im
 all_goals try simp only[Zjl,Zhr,Zmi,Ze2,Zhs,Zjm,Zjn,Zht,Zmj,Zc4,Zmk,Zjo,Zgs,Zc.c_def,Zbe,Zgr,Zvm,Zvn,mpl,dfs]
 all_goals try simp only[itb]
 all_goals try simp only[itf,gS,kk]
 all_goals repeat' first|refine exI λ_=>?_|refine anJ λ_ _=>?_|refine anI λ_=>?_|refine orE2 ?_ ?_|exact False.elim
 all_goals (intro h;first|rw[Zi Zvc.eq_1]|refine run Zbjx rfl ?_|rw[Zi Zve.eq_1]|refine run Zbjy rfl ?_|rw[Zi Zvg.eq_1]|refine run Zbjz rfl ?_|rw[Zi Zvi.eq_1]|refine run Zbj0 rfl ?_|rw[Zi Zvk.eq_1]|refine run Zbj1 rfl ?_|refine run Zbj2 rfl ?_|rw[Zi Zvo.eq_1])
 all_goals (refine Yd ?_ h;clear h;simp +decide[*,kk,tI,tII,Zvd,Z4t,Zvf,Z4u,Z4v,Zvh,Z4w,Zvj,Z4x,Zvl,Z4y,Z4z,Zvp])
abbrev Z76:=Zei.1.1.1
abbrev Zbmv:=Zei.1.1.2.1
abbrev Zim:=Zei.1.1.2.2
abbrev Zin:=Zei.1.2.1
abbrev Z77:=Zei.1.2.2.1
abbrev Zbmw:=Zei.1.2.2.2
abbrev Z78:=Zei.2.1.1
abbrev Zbmx:=Zei.2.1.2.1
abbrev Z79:=Zei.2.1.2.2
abbrev Zbmy:=Zei.2.2.1
abbrev Zbmz:=Zei.2.2.2.1
abbrev Z8a:=Zei.2.2.2.2
theorem Zfk:(((∀⦃a a1 r⦄,Im (Zfh a a1=some r) (if(a.length:Int)=(a1.length:Int)then(Zjo a a1 (a.length:Int) 0=some r)else(some (Bo false,[])=some r)))/\
 (∀⦃all cp co x x1 r⦄,Im (Zhv all cp co x x1=some r) (if x1<x then(0<=x1/\(∃e1,cp[x1.toNat]?=some e1/\(Zjp all cp co x1 e1 x x1 (all.length:Int) 0=some r)))else(some (.tup [.own 0,.own 1],[.arr 99 1 true (cp.map isc),.arr 3 1 true (co.map ic)])=some r))))/\
 ((∀⦃all cp co i g x x1 x2 x3 r⦄,Im (Zjp all cp co i g x x1 x2 x3=some r) (if x3<x2 then(0<=x3/\(∃e1,all[x3.toNat]?=some e1/\(∃v1,Zfh g e1=some (Bo v1,[])/\(if v1=true then(0<=i/\(∃e3,co[i.toNat]?=some e3/\(Zjp all cp (co.set i.toNat (w (e3+1))) i g x x1 x2 (w (x3+1))=some r)))else(Zjp all cp co i g x x1 x2 (w (x3+1))=some r)))))else(Zhv all cp co x (w (x1+1))=some r)))/\
 ((∀⦃a a1 r⦄,Im (Zhu a a1=some r) (∃v,Zgs a=some (Bo v,[])/\(if v=true then(∃v1,Zht a1 a.Arity=some (Bo v1,[])/\(if v1=true then(Zft ([]:List (List Int)) a1 a.Rows (a.Rows.length:Int) 0=some r)else(some (.tup [.t .nil,.t .nil],[])=some r)))else(some (.tup [.t .nil,.t .nil],[])=some r))))/\
 (∀⦃t cz cy cl cv cn cc x x1 x2 r⦄,Im (Zvu t cz cy cl cv cn cc x x1 x2=some r) (if x2<x1 then(0<=x2/\(∃e1,x[x2.toNat]?=some e1/\((Zhu t e1=some (.tup [.t .nil,.t .nil],[])/\(Zhx t cz cy cl cv cn cc false ([(⟨e1,[],[]⟩:Zj)]) x x1 (w (x2+1))=some r))\/(∃(v4:List (List Int)) (v5:List Int),Zhu t e1=some (.tup [.own 0,.own 1],[.arr 99 1 true (v4.map isc),.arr 3 1 true (v5.map ic)])/\(Zhx t cz cy cl cv cn cc false ([(⟨e1,v4,v5⟩:Zj)]) x x1 (w (x2+1))=some r)))))else(some (.agg [.t (.str cv),I cn,I cc,.t .nil],[])=some r))))))/\
 (((∀⦃t cz cy cl cv cn cc fr x x1 x2 x3 r⦄,Im (Zhx t cz cy cl cv cn cc fr x x1 x2 x3=some r) (if x3<x2 then(0<=x3/\(∃e1,x1[x3.toNat]?=some e1/\((Zhu t e1=some (.tup [.t .nil,.t .nil],[])/\(x.length+1<=68719476736/\(Zhx t cz cy cl cv cn cc false (x++[(⟨e1,[],[]⟩:Zj)]) x1 x2 (w (x3+1))=some r)))\/(∃(v4:List (List Int)) (v5:List Int),Zhu t e1=some (.tup [.own 0,.own 1],[.arr 99 1 true (v4.map isc),.arr 3 1 true (v5.map ic)])/\(x.length+1<=68719476736/\(Zhx t cz cy cl cv cn cc false (x++[(⟨e1,v4,v5⟩:Zj)]) x1 x2 (w (x3+1))=some r))))))else(some (.agg [.t (.str cv),I cn,I cc,.own 0],[.arr 193 3 fr (x.map Zj.c)])=some r)))/\
 (∀⦃a r⦄,Im (Zhw a=some r) (∃v,Zgs a=some (Bo v,[])/\(if v=true then((Zjm a.Arity=some (.t .nil,[])/\(Z44 a (⟨#[]⟩:ByteArray) 0 0 a.Name a.Arity (a.Rows.length:Int) 0 0=some r))\/(∃(v4:List (List Int)),Zjm a.Arity=some (.own 0,[.arr 99 1 true (v4.map isc)])/\(Zvu a (⟨#[]⟩:ByteArray) 0 0 a.Name a.Arity (a.Rows.length:Int) v4 (v4.length:Int) 0=some r)))else(some (.agg [.t (.str (⟨#[]⟩:ByteArray)),I 0,I 0,.t .nil],[])=some r)))))/\
 ((∀⦃cu cd x x1 x2 r⦄,Im (Zvv cu cd x x1 x2=some r) (if x2<x1 then(0<=x2/\(∃e1,x[x2.toNat]?=some e1/\((∃v1 v2 v3,Zhw e1=some (.agg [.t (.str v1),I v2,I v3,.t .nil],[])/\(Zhy cu cd true ([(⟨v1,v2,v3,[]⟩:Zd)]) x x1 (w (x2+1))=some r))\/(∃v4,∃(v5:List Zj),∃v6,∃v7,∃v8,Zhw e1=some (.agg [.t (.str v6),I v7,I v8,.own 0],[.arr 193 3 v4 (v5.map Zj.c)])/\(Zhy cu cd v4 ([(⟨v6,v7,v8,v5⟩:Zd)]) x x1 (w (x2+1))=some r)))))else(some (.tup [.agg [I cd,.t .nil],Bo true],[])=some r)))/\
 ((∀⦃cu cd fr x x1 x2 x3 r⦄,Im (Zhy cu cd fr x x1 x2 x3=some r) (if x3<x2 then(0<=x3/\(∃e1,x1[x3.toNat]?=some e1/\((∃v1 v2 v3,Zhw e1=some (.agg [.t (.str v1),I v2,I v3,.t .nil],[])/\(x.length+1<=68719476736/\(Zhy cu cd fr (x++[(⟨v1,v2,v3,[]⟩:Zd)]) x1 x2 (w (x3+1))=some r)))\/(∃v4,∃(v5:List Zj),∃v6,∃v7,∃v8,Zhw e1=some (.agg [.t (.str v6),I v7,I v8,.own 0],[.arr 193 3 v4 (v5.map Zj.c)])/\(x.length+1<=68719476736/\(Zhy cu cd (fr && v4) (x++[(⟨v6,v7,v8,v5⟩:Zd)]) x1 x2 (w (x3+1))=some r))))))else(some (.tup [.agg [I cd,.own 0],Bo true],[.arr 146 4 fr (x.map Zd.c)])=some r)))/\
 (∀⦃a a1 r⦄,Im (Zjq a a1=some r) (∃v,Zhr a=some (Bo v,[])/\(if v=true then(∃v1,Zbe a1 1 999=some (Bo v1,[])/\(if v1=true then(Zvv 0 a1 a.Tables (a.Tables.length:Int) 0=some r)else(some (.tup [.agg [I 0,.t .nil],Bo false],[])=some r)))else(some (.tup [.agg [I 0,.t .nil],Bo false],[])=some r))))))):=by
 and_intros
 all_goals intros
 all_goals unfold Im
 all_goals try simp only[Zfh,Zhv,Zjp,Zhu,Zvu,Zhx,Zhw,Zvv,Zhy,Zjq,Zgs,Zht,Zc.c_def,Zjm,Zhr,Zbe,Zh.c_def,Zjo,Zft,Z44,mpl,dfs]
 all_goals try simp only[itb]
 all_goals try simp only[itf,gS,kk]
 all_goals repeat' first|refine exI λ_=>?_|refine anJ λ_ _=>?_|refine anI λ_=>?_|refine orE2 ?_ ?_|exact False.elim
 all_goals (intro h;first|refine run Zbj3 rfl ?_|rw[Zi Zq0.eq_1]|rw[Zi Zvr.eq_1]|refine run Zbj4 rfl ?_|rw[Zi Zml.eq_1]|refine run Zbj5 rfl ?_|rw[Zi Zq2.eq_1]|refine run Zbj6 rfl ?_)
 all_goals (refine Yd ?_ h;clear h;simp +decide[*,kk,tI,tII,Z40,Zq1,Z41,Zvs,Z42,Zmm,Z43,Zq3,Z45])
abbrev Zbm0:=Zfk.1.1.1
abbrev Z8b:=Zfk.1.1.2
abbrev Z8c:=Zfk.1.2.1
abbrev Zbm1:=Zfk.1.2.2.1
abbrev Zbm2:=Zfk.1.2.2.2
abbrev Z8d:=Zfk.2.1.1
abbrev Zbm3:=Zfk.2.1.2
abbrev Zbm4:=Zfk.2.2.1
abbrev Z8e:=Zfk.2.2.2.1
abbrev Zbm5:=Zfk.2.2.2.2
theorem Z8f{all:List (List Int)}{c:List Int}{x:List (List Int)}{x1 x2:Int}{r:AV×List Blk}(h:(if x2<x1 then(0<=x2/\(∃(e1:List Int),x[x2.toNat]?=some e1/\((Zc4 e1 c=some (.tup [.t .nil,Bo false],[])/\(all.length+1<=68719476736/\(Zft (all++[[]]) c x x1 (w (x2+1))=some r)))\/(∃(v:List Int),Zc4 e1 c=some (.tup [.own 0,Bo true],[.arr 3 1 true (v.map ic)])/\(all.length+1<=68719476736/\(Zft (all++[v]) c x x1 (w (x2+1))=some r))))))else(∃(v1:List (List Int)),Zmk all=some (.own 0,[.arr 99 1 true (v1.map isc)])/\(0<=(v1.length:Int)/\((v1.length:Int)<=(v1.length:Int)/\((v1.length:Int).toNat*8<=room/\((v1.length:Int)<=140737488355328/\(Zhv all v1 (List.replicate ((v1.length:Int)).toNat 0) (v1.length:Int) 0=some r)))))))):Zft all c x x1 x2=some r:=by
 unfold Zft;rw[Zi Zvq.eq_1];by_cases q1:x2<x1
 .rw[if_pos q1]at h;obtain⟨q2,h⟩:=h;obtain⟨e1,q3,h⟩:=h;have gq3:=Z25 q3;have kq3:=getOf q3;rcases h with h|h
  .obtain⟨q4,h⟩:=h;unfold Zc4 at q4
   try simp at q4
   obtain⟨q5,h⟩:=h;have rq5:=roomA (b:=24) q5 (by omega);have sq5:=roomB q5
   try simp[*]at rq5
   try simp[*]at sq5
   refine Yd ?_ h;clear h;simp +decide[*,tI,tII,Zft]
  .obtain⟨v,q6,h⟩:=h;unfold Zc4 at q6
   try simp at q6
   obtain⟨q7,h⟩:=h;have rq7:=roomA (b:=24) q7 (by omega);have sq7:=roomB q7
   try simp[*]at rq7
   try simp[*]at sq7
   refine Yd ?_ h;clear h;simp +decide[*,tI,tII,Zft]
 .rw[if_neg q1]at h;obtain⟨v1,q8,h⟩:=h;unfold Zmk at q8
  try simp at q8
  obtain⟨q9,h⟩:=h;have zq9:=q9;try simp at zq9
  obtain⟨q10,h⟩:=h;have zq10:=q10;try simp at zq10
  obtain⟨q11,h⟩:=h;have zq11:=q11;try simp at zq11
  obtain⟨q12,h⟩:=h;have zq12:=q12;try simp at zq12
  refine Yd ?_ h;clear h;simp +decide[*,tI,tII,Zhv,Zvt]
theorem Zej:(((∀⦃s2 x x1 r⦄,Im (Zvy s2 x x1=some r) (if x1<x then False else(some (Bo true,[])=some r)))/\
 ((∀⦃a r⦄,Im (Zvx a=some r) (if 0=(a.length:Int)then(Zvy a 0 0=some r)else(some (Bo false,[])=some r)))/\
 (∀⦃c a r⦄,Im (Zmp c a=some r) (if c=a.Version then(∃v1,Zvx a.Tables=some (Bo v1,[])/\(some (Bo v1,[])=some r))else(some (Bo false,[])=some r)))))/\
 ((∀⦃a a1 r⦄,Im (Zv0 a a1=some r) (some (Bo (decide (a.Name=a1)),[])=some r))/\
 ((∀⦃s f x x1 r⦄,Im (Zmq s f x x1=some r) (if x1<x then(0<=x1/\(∃e1,s[x1.toNat]?=some e1/\(∃v3,Zv0 e1 f=some (Bo v3,[])/\(if v3=true then(some (I x1,[])=some r)else(Zmq s f x (w (x1+1))=some r)))))else(some (I (-1),[])=some r)))/\
 (∀⦃a a1 r⦄,Im (Zv3 a a1=some r) (Zmq a a1 (a.length:Int) 0=some r)))))/\
 (((∀⦃a a1 r⦄,Im (Zb4 a a1=some r) (∃v1,Zv3 a.Tables a1=some (I v1,[])/\(if v1<0 then(some (.tup [.agg [.t (.str (⟨#[]⟩:ByteArray)),I 0,.t .nil],Bo false],[])=some r)else(∃v3,Zhr a=some (Bo v3,[])/\(if v3=true then(0<=v1/\(∃e3,a.Tables[v1.toNat]?=some e3/\(∃(v7:List (List Int)),∃v8,∃v9,Zhq e3=some (.agg [.t (.str v8),I v9,.own 0],[.arr 99 1 true (v7.map isc)])/\(some (.tup [.agg [.t (.str v8),I v9,.own 0],Bo true],[.arr 99 1 true (v7.map isc)])=some r))))else(some (.tup [.agg [.t (.str (⟨#[]⟩:ByteArray)),I 0,.t .nil],Bo false],[])=some r))))))/\
 ((∀⦃s v x x1 r⦄,Im (Zmr s v x x1=some r) (if x1<x then(0<=x1/\(∃e1,s[x1.toNat]?=some e1/\(if v=e1 then(some (I x1,[])=some r)else(Zmr s v x (w (x1+1))=some r))))else(some (I (-1),[])=some r)))/\
 (∀⦃a a1 r⦄,Im (Zq4 a a1=some r) (Zmr a a1 (a.length:Int) 0=some r))))/\
 ((∀⦃a a1 r⦄,Im (Zjr a a1=some r) (∃v1,Zq4 a a1=some (I v1,[])/\(some (Bo (decide (0<=v1)),[])=some r)))/\
 ((∀⦃a a1 r⦄,Im (Zjs a a1=some r) ((∃v1 v2,Zb4 a a1.Name=some (.tup [.agg [.t (.str v1),I v2,.t .nil],Bo false],[])/\(some (Bo false,[])=some r))\/(∃(v3:List (List Int)),∃v4,∃v5,Zb4 a a1.Name=some (.tup [.agg [.t (.str v4),I v5,.own 0],Bo true],[.arr 99 1 true (v3.map isc)])/\(∃v6,Zht a1.From v5=some (Bo v6,[])/\(if v6=true then(∃v7,Zbe a1.To 0 (w (v5-1))=some (Bo v7,[])/\(if v7=true then(∃v10,Zjr a1.From a1.To=some (Bo v10,[])/\(some (Bo (!v10),[])=some r))else(some (Bo false,[])=some r)))else(some (Bo false,[])=some r))))))/\
 (∀⦃f t x x1 x2 r⦄,Im (Zhz f t x x1 x2=some r) (if x2<x1 then(0<=x2/\(∃e1,x[x2.toNat]?=some e1/\(x2.toNat<=t.Rows.length/\(Zco f t x2 e1 x x1 x2 (t.Rows.take x2.toNat) ((t.Rows.take x2.toNat).length:Int) 0=some r))))else(some (.t .nil,[])=some r)))))):=by
 and_intros
 all_goals intros
 all_goals unfold Im
 all_goals try simp only[Zvy,Zvx,Zmp,Zv0,Zmq,Zv3,Zb4,Zmr,Zq4,Zjr,Zjs,Zhz,Zd.c_def,Zc.c_def,Zhr,Zhq,Zh.c_def,Zht,Zbe,Zco,mpl,dfs]
 all_goals try simp only[itb]
 all_goals try simp only[itf,gS,kk]
 all_goals repeat' first|refine exI λ_=>?_|refine anJ λ_ _=>?_|refine anI λ_=>?_|refine orE2 ?_ ?_|exact False.elim
 all_goals (intro h;first|rw[Zi Zmn.eq_1]|refine run Z7r rfl ?_|refine run Z7s rfl ?_|refine run Zbj7 rfl ?_|rw[Zi Zv1.eq_1]|refine run Zbj8 rfl ?_|refine run Zbj9 rfl ?_|rw[Zi Zv4.eq_1]|refine run Zbka rfl ?_|refine run Zbkb rfl ?_|refine run Zbkc rfl ?_|rw[Zi Zms.eq_1])
 all_goals (refine Yd ?_ h;clear h;simp +decide[*,kk,tI,tII,Zmo,Zvw,Zvz,Z46,Zv2,Z47,Z48,Zv5,Z49,Z5a,Z5b,Zmt])
abbrev Zbm6:=Zej.1.1.1
abbrev Zbm7:=Zej.1.1.2.1
abbrev Zbm8:=Zej.1.1.2.2
abbrev Zbm9:=Zej.1.2.1
abbrev Z8g:=Zej.1.2.2.1
abbrev Zbna:=Zej.1.2.2.2
abbrev Zbnb:=Zej.2.1.1
abbrev Z8h:=Zej.2.1.2.1
abbrev Zbnc:=Zej.2.1.2.2
abbrev Zbnd:=Zej.2.2.1
abbrev Zbne:=Zej.2.2.2.1
abbrev Z8i:=Zej.2.2.2.2
theorem Zsh:((∀⦃f t k y x x1 x2 x3 x4 x5 r⦄,Im (Zco f t k y x x1 x2 x3 x4 x5=some r) (if x5<x4 then(0<=x5/\(∃e1,x3[x5.toNat]?=some e1/\((Zc4 e1 f.From=some (.tup [.t .nil,Bo false],[])/\((Zc4 y f.From=some (.tup [.t .nil,Bo false],[])/\(∃v7,Z5c=some (Bo v7,[])/\(if v7=true then(0<=f.To/\(∃e5,e1[f.To.toNat]?=some e5/\(∃e6,y[f.To.toNat]?=some e6/\(if e5=e6 then(Zco f t k y x x1 x2 x3 x4 (w (x5+1))=some r)else(some (.own 0,[.arr 3 1 true (([x5,k]).map ic)])=some r)))))else(Zco f t k y x x1 x2 x3 x4 (w (x5+1))=some r))))\/(∃(v15:List Int),Zc4 y f.From=some (.tup [.own 0,Bo true],[.arr 3 1 true (v15.map ic)])/\(∃v16,Z5d v15=some (Bo v16,[])/\(if v16=true then(0<=f.To/\(∃e9,e1[f.To.toNat]?=some e9/\(∃e10,y[f.To.toNat]?=some e10/\(if e9=e10 then(Zco f t k y x x1 x2 x3 x4 (w (x5+1))=some r)else(some (.own 0,[.arr 3 1 true (([x5,k]).map ic)])=some r)))))else(Zco f t k y x x1 x2 x3 x4 (w (x5+1))=some r))))))\/(∃(v17:List Int),Zc4 e1 f.From=some (.tup [.own 0,Bo true],[.arr 3 1 true (v17.map ic)])/\((Zc4 y f.From=some (.tup [.t .nil,Bo false],[])/\(∃v18,Z5e v17=some (Bo v18,[])/\(if v18=true then(0<=f.To/\(∃e14,e1[f.To.toNat]?=some e14/\(∃e15,y[f.To.toNat]?=some e15/\(if e14=e15 then(Zco f t k y x x1 x2 x3 x4 (w (x5+1))=some r)else(some (.own 0,[.arr 3 1 true (([x5,k]).map ic)])=some r)))))else(Zco f t k y x x1 x2 x3 x4 (w (x5+1))=some r))))\/(∃(v19:List Int),Zc4 y f.From=some (.tup [.own 0,Bo true],[.arr 3 1 true (v19.map ic)])/\(∃v20,Zfh v17 v19=some (Bo v20,[])/\(if v20=true then(0<=f.To/\(∃e18,e1[f.To.toNat]?=some e18/\(∃e19,y[f.To.toNat]?=some e19/\(if e18=e19 then(Zco f t k y x x1 x2 x3 x4 (w (x5+1))=some r)else(some (.own 0,[.arr 3 1 true (([x5,k]).map ic)])=some r)))))else(Zco f t k y x x1 x2 x3 x4 (w (x5+1))=some r)))))))))else(Zhz f t x x1 (w (x2+1))=some r)))/\
 (∀⦃a a1 r⦄,Im (Zmu a a1=some r) (∃v,Zjs a a1=some (Bo v,[])/\(if v=true then((∃v2 v3,Zb4 a a1.Name=some (.tup [.agg [.t (.str v2),I v3,.t .nil],Bo false],[])/\(Z5g a1 v2 v3 0 0=some r))\/(∃(v4:List (List Int)),∃v5,∃v6,Zb4 a a1.Name=some (.tup [.agg [.t (.str v5),I v6,.own 0],Bo true],[.arr 99 1 true (v4.map isc)])/\(Zhz a1 (⟨v5,v6,v4⟩:Zc) v4 (v4.length:Int) 0=some r)))else(some (.t .nil,[])=some r)))))/\
 ((∀⦃a a1 r⦄,Im (Zmv a a1=some r) (∃v,Zjs a a1=some (Bo v,[])/\(if v=true then((Zmu a a1=some (.t .nil,[])/\(some (Bo true,[])=some r))\/(∃(v4:List Int),Zmu a a1=some (.own 0,[.arr 3 1 true (v4.map ic)])/\(some (Bo (decide ((v4.length:Int)=0)),[])=some r)))else(some (Bo false,[])=some r))))/\
 (∀⦃a a1 r⦄,Im (Zjt a a1=some r) ((∃v v1,Zb4 a a1.Name=some (.tup [.agg [.t (.str v),I v1,.t .nil],Bo false],[])/\((∃v2 v3,Zb4 a a1.Into=some (.tup [.agg [.t (.str v2),I v3,.t .nil],Bo false],[])/\(some (Bo false,[])=some r))\/(∃(v4:List (List Int)),∃v5,∃v6,Zb4 a a1.Into=some (.tup [.agg [.t (.str v5),I v6,.own 0],Bo true],[.arr 99 1 true (v4.map isc)])/\(some (Bo false,[])=some r))))\/(∃(v7:List (List Int)),∃v8,∃v9,Zb4 a a1.Name=some (.tup [.agg [.t (.str v8),I v9,.own 0],Bo true],[.arr 99 1 true (v7.map isc)])/\((∃v10 v11,Zb4 a a1.Into=some (.tup [.agg [.t (.str v10),I v11,.t .nil],Bo false],[])/\(some (Bo false,[])=some r))\/(∃(v12:List (List Int)),∃v13,∃v14,Zb4 a a1.Into=some (.tup [.agg [.t (.str v13),I v14,.own 0],Bo true],[.arr 99 1 true (v12.map isc)])/\(∃v15,Zbe a1.Column 0 (w (v9-1))=some (Bo v15,[])/\(if v15=true then(∃v16,Zbe a1.IntoColumn 0 (w (v14-1))=some (Bo v16,[])/\(some (Bo v16,[])=some r))else(some (Bo false,[])=some r))))))))):=by
 and_intros
 all_goals intros
 all_goals unfold Im
 all_goals try simp only[Zco,Zmu,Zmv,Zjt,Zc4,Z5c,Z5d,Z5e,Zfh,Zjs,Zb4,Zh.c_def,Ze.c_def,Zbe,Zhz,Z5g,mpl,dfs]
 all_goals try simp only[itb]
 all_goals try simp only[itf,gS,kk]
 all_goals repeat' first|refine exI λ_=>?_|refine anJ λ_ _=>?_|refine anI λ_=>?_|refine orE2 ?_ ?_|exact False.elim
 all_goals (intro h;first|rw[Zi Zv6.eq_1]|refine run Zbkd rfl ?_|refine run Zbke rfl ?_|refine run Zbkf rfl ?_)
 all_goals (refine Yd ?_ h;clear h;simp +decide[*,kk,tI,tII,Zv7,Z5f,Z5h,Z5i])
abbrev Z8j:=Zsh.1.1
abbrev Zbnf:=Zsh.1.2
abbrev Zbng:=Zsh.2.1
abbrev Zbnh:=Zsh.2.2
theorem Zek:(((∀⦃x co cn x1 cd x2 x3 x4 r⦄,Im (Zmx x co cn x1 cd x2 x3 x4=some r) (if x4<x3 then(0<=x4/\(∃e1,x2[x4.toNat]?=some e1/\(0<=x.IntoColumn/\(∃e2,e1[x.IntoColumn.toNat]?=some e2/\(cd.length+1<=68719476736/\(Zmx x co cn x1 (cd++[e2]) x2 x3 (w (x4+1))=some r))))))else(Zjw x cd ([]:List Int) x1 (x1.length:Int) 0=some r)))/\
 ((∀⦃x cd cl x1 x2 x3 r⦄,Im (Zjw x cd cl x1 x2 x3=some r) (if x3<x2 then(0<=x3/\(∃e1,x1[x3.toNat]?=some e1/\(0<=x.Column/\(∃e2,e1[x.Column.toNat]?=some e2/\(∃v3,Zjr cd e2=some (Bo v3,[])/\(if v3=true then(Zjw x cd cl x1 x2 (w (x3+1))=some r)else(cl.length+1<=68719476736/\(Zjw x cd (cl++[e2]) x1 x2 (w (x3+1))=some r))))))))else(∃(v5:List Int),Zq5 cl=some (.tup [],[.arr 3 1 true (v5.map ic)])/\(∃(v8:List Int),Zq6 v5=some (.own 1,[.dead,.arr 3 1 true (v8.map ic)])/\(some (.own 0,[.arr 3 1 true (v8.map ic)])=some r)))))/\
 (∀⦃a a1 r⦄,Im (Zmw a a1=some r) (∃v,Zjt a a1=some (Bo v,[])/\(if v=true then((∃v1 v2,Zb4 a a1.Name=some (.tup [.agg [.t (.str v1),I v2,.t .nil],Bo false],[])/\((∃v3 v4,Zb4 a a1.Into=some (.tup [.agg [.t (.str v3),I v4,.t .nil],Bo false],[])/\(Z5l a1 v1 v2 ([]:List Int) 0 0=some r))\/(∃(v5:List (List Int)),∃v6,∃v7,Zb4 a a1.Into=some (.tup [.agg [.t (.str v6),I v7,.own 0],Bo true],[.arr 99 1 true (v5.map isc)])/\(Z5m a1 v1 v2 ([]:List Int) v5 (v5.length:Int) 0=some r))))\/(∃(v8:List (List Int)),∃v9,∃v10,Zb4 a a1.Name=some (.tup [.agg [.t (.str v9),I v10,.own 0],Bo true],[.arr 99 1 true (v8.map isc)])/\((∃v11 v12,Zb4 a a1.Into=some (.tup [.agg [.t (.str v11),I v12,.t .nil],Bo false],[])/\(Z5n a1 v9 v10 v8 ([]:List Int) 0 0=some r))\/(∃(v13:List (List Int)),∃v14,∃v15,Zb4 a a1.Into=some (.tup [.agg [.t (.str v14),I v15,.own 0],Bo true],[.arr 99 1 true (v13.map isc)])/\(Zmx a1 v9 v10 v8 ([]:List Int) v13 (v13.length:Int) 0=some r)))))else(some (.t .nil,[])=some r))))))/\
 ((∀⦃a a1 r⦄,Im (Zq7 a a1=some r) (∃v,Zjt a a1=some (Bo v,[])/\(if v=true then((Zmw a a1=some (.t .nil,[])/\(some (Bo true,[])=some r))\/(∃(v3:List Int),Zmw a a1=some (.own 0,[.arr 3 1 true (v3.map ic)])/\(some (Bo (decide ((v3.length:Int)=0)),[])=some r)))else(some (Bo false,[])=some r))))/\
 ((∀⦃db cc c x x1 x2 r⦄,Im (Zmy db cc c x x1 x2=some r) (if x2<x1 then(0<=x2/\(∃e1,x[x2.toNat]?=some e1/\(∃v1,Zmv db e1=some (Bo v1,[])/\(if v1=true then(Zmy db cc c x x1 (w (x2+1))=some r)else(some (Bo false,[])=some r)))))else(Zmz db cc c c (c.length:Int) 0=some r)))/\
 (∀⦃db cc c x x1 x2 r⦄,Im (Zmz db cc c x x1 x2=some r) (if x2<x1 then(0<=x2/\(∃e1,x[x2.toNat]?=some e1/\(∃v1,Zq7 db e1=some (Bo v1,[])/\(if v1=true then(Zmz db cc c x x1 (w (x2+1))=some r)else(some (Bo false,[])=some r)))))else(if(cc.length:Int)<=8 then(some (Bo (decide ((c.length:Int)<=8)),[])=some r)else(some (Bo false,[])=some r)))))))/\
 (((∀⦃a a1 a2 r⦄,Im (Zjx a a1 a2=some r) (Zmy a a1 a2 a1 (a1.length:Int) 0=some r))/\
 ((∀⦃a a1 r⦄,Im (Zwe a a1=some r) (∃v,Zfh a a1=some (Bo v,[])/\(some (Bo v,[])=some r)))/\
 (∀⦃s2 x x1 x2 r⦄,Im (Zm0 s2 x x1 x2=some r) (if x2<x1 then(0<=x2/\(∃e1,x[x2.toNat]?=some e1/\(∃e2,s2[x2.toNat]?=some e2/\(∃v3,Zwe e1 e2=some (Bo v3,[])/\(if v3=true then(Zm0 s2 x x1 (w (x2+1))=some r)else(some (Bo false,[])=some r))))))else(some (Bo true,[])=some r)))))/\
 ((∀⦃a a1 r⦄,Im (Zwh a a1=some r) (if(a.length:Int)=(a1.length:Int)then(Zm0 a1 a (a.length:Int) 0=some r)else(some (Bo false,[])=some r)))/\
 ((∀⦃a a1 r⦄,Im (Zq8 a a1=some r) (∃v,Zwh a a1=some (Bo v,[])/\(some (Bo v,[])=some r)))/\
 (∀⦃a a1 r⦄,Im (Zm1 a a1=some r) (∃v,Zfh a.Columns a1.Columns=some (Bo v,[])/\(if v=true then(∃v1,Zq8 a.Values a1.Values=some (Bo v1,[])/\(if v1=true then(∃v3,Zfh a.Counts a1.Counts=some (Bo v3,[])/\(some (Bo v3,[])=some r))else(some (Bo false,[])=some r)))else(some (Bo false,[])=some r))))))):=by
 and_intros
 all_goals intros
 all_goals unfold Im
 all_goals try simp only[Zmx,Zjw,Zmw,Zq7,Zmy,Zmz,Zjx,Zwe,Zm0,Zwh,Zq8,Zm1,Zjr,Zq5,Zq6,Zjt,Zb4,Zh.c_def,Zf.c_def,Zmv,Ze.c_def,Zfh,Z5l,Z5m,Z5n,mpl,dfs]
 all_goals try simp only[itb]
 all_goals try simp only[itf,gS,kk]
 all_goals repeat' first|refine exI λ_=>?_|refine anJ λ_ _=>?_|refine anI λ_=>?_|refine orE2 ?_ ?_|exact False.elim
 all_goals (intro h;first|rw[Zi Zju.eq_1]|rw[Zi Zv8.eq_1]|refine run Zbkg rfl ?_|refine run Zbkh rfl ?_|rw[Zi Zwa.eq_1]|rw[Zi Zwb.eq_1]|refine run Zbki rfl ?_|refine run Zbkj rfl ?_|rw[Zi Zwf.eq_1]|refine run Zbkk rfl ?_|refine run Zbkl rfl ?_|refine run Zbkm rfl ?_)
 all_goals (refine Yd ?_ h;clear h;simp +decide[*,kk,tI,tII,Zjv,Z5j,Zv9,Z5k,Z5o,Zwd,Zwc,Z5p,Z5q,Zwg,Z5r,Z5s,Z5t])
abbrev Z8k:=Zek.1.1.1
abbrev Z8l:=Zek.1.1.2.1
abbrev Zbni:=Zek.1.1.2.2
abbrev Zbnj:=Zek.1.2.1
abbrev Z8m:=Zek.1.2.2.1
abbrev Z8n:=Zek.1.2.2.2
abbrev Zbnk:=Zek.2.1.1
abbrev Zbnl:=Zek.2.1.2.1
abbrev Z8o:=Zek.2.1.2.2
abbrev Zbnm:=Zek.2.2.1
abbrev Zbnn:=Zek.2.2.2.1
abbrev Zbno:=Zek.2.2.2.2
theorem Zf0:(((∀⦃s2 x x1 x2 r⦄,Im (Zm2 s2 x x1 x2=some r) (if x2<x1 then(0<=x2/\(∃e1,x[x2.toNat]?=some e1/\(∃e2,s2[x2.toNat]?=some e2/\(∃v3,Zm1 e1 e2=some (Bo v3,[])/\(if v3=true then(Zm2 s2 x x1 (w (x2+1))=some r)else(some (Bo false,[])=some r))))))else(some (Bo true,[])=some r)))/\
 (∀⦃a a1 r⦄,Im (Zwk a a1=some r) (if(a.length:Int)=(a1.length:Int)then(Zm2 a1 a (a.length:Int) 0=some r)else(some (Bo false,[])=some r))))/\
 ((∀⦃a a1 r⦄,Im (Zq9 a a1=some r) (if a.Name=a1.Name then(if a.Arity=a1.Arity then(if a.RowCount=a1.RowCount then(∃v,Zwk a.Groups a1.Groups=some (Bo v,[])/\(some (Bo v,[])=some r))else(some (Bo false,[])=some r))else(some (Bo false,[])=some r))else(some (Bo false,[])=some r)))/\
 (∀⦃s2 x x1 x2 r⦄,Im (Zm3 s2 x x1 x2=some r) (if x2<x1 then(0<=x2/\(∃e1,x[x2.toNat]?=some e1/\(∃e2,s2[x2.toNat]?=some e2/\(∃v3,Zq9 e1 e2=some (Bo v3,[])/\(if v3=true then(Zm3 s2 x x1 (w (x2+1))=some r)else(some (Bo false,[])=some r))))))else(some (Bo true,[])=some r)))))/\
 (((∀⦃a a1 r⦄,Im (Zwl a a1=some r) (if(a.length:Int)=(a1.length:Int)then(Zm3 a1 a (a.length:Int) 0=some r)else(some (Bo false,[])=some r)))/\
 (∀⦃a a1 r⦄,Im (Zra a a1=some r) (if a.Version=a1.Version then(∃v,Zwl a.Tables a1.Tables=some (Bo v,[])/\(some (Bo v,[])=some r))else(some (Bo false,[])=some r))))/\
 ((∀⦃a r⦄,Im (Zm4 a=some r) ((∃v v1,Zjq a.Zh a.Zl.Version=some (.tup [.agg [I v,.t .nil],Bo v1],[])/\(if v1=true then(∃v2,Zmp v a.Zl=some (Bo v2,[])/\(if v2=true then(∃v3,Zjx a.Zh a.Dependencies a.Inclusions=some (Bo v3,[])/\(some (Bo v3,[])=some r))else(some (Bo false,[])=some r)))else(some (Bo false,[])=some r)))\/(∃v4,∃(v5:List Zd),∃v6,Zjq a.Zh a.Zl.Version=some (.tup [.agg [I v6,.own 0],Bo true],[.arr 146 4 v4 (v5.map Zd.c)])/\(∃v7,Zra (⟨v6,v5⟩:Zl) a.Zl=some (Bo v7,[])/\(if v7=true then(∃v8,Zjx a.Zh a.Dependencies a.Inclusions=some (Bo v8,[])/\(some (Bo v8,[])=some r))else(some (Bo false,[])=some r))))))/\
 ((∀⦃x r⦄,Im (Zh0 x=some r) (some (.bsl 1 5,[.box (x.c.map .t),.box [.ptr 0 0,.ptr 0 6,.ptr 0 12,.ptr 0 18,.ptr 0 24]])=some r))/\
 (∀⦃x r⦄,Im (Zm5 x=some r) (some (.bsl 1 5,[.box (x.c.map .t),.box [.ptr 0 0,.ptr 0 1,.ptr 0 2,.ptr 0 3,.ptr 0 4]])=some r))))):=by
 and_intros
 all_goals intros
 all_goals unfold Im
 all_goals try simp only[Zm2,Zwk,Zq9,Zm3,Zwl,Zra,Zm4,Zh0,Zm5,Zm1,Zj.c_def,Zd.c_def,Zjq,Zmp,Zjx,Zl.c_def,Zh.c_def,Ze.c_def,Zf.c_def,mpl,dfs]
 all_goals try simp only[itb]
 all_goals try simp only[itf,gS,kk]
 all_goals repeat' first|refine exI λ_=>?_|refine anJ λ_ _=>?_|refine anI λ_=>?_|refine orE2 ?_ ?_|exact False.elim
 all_goals (intro h;first|rw[Zi Zwi.eq_1]|refine run Zbkn rfl ?_|refine run Zbko rfl ?_|rw[Zi Zmn.eq_1]|refine run Z7r rfl ?_|refine run Z7s rfl ?_|refine run Zbkp rfl ?_|refine runM Zbkq rfl ?_|refine runM Zbkr rfl ?_)
 all_goals (refine Yd ?_ h;clear h;simp +decide[*,kk,tI,tII,Zwj,Z5u,Z5v,Zmo,Zvw,Zvz,Z5w,Z5x,Z5y])
abbrev Z8p:=Zf0.1.1.1
abbrev Zbnp:=Zf0.1.1.2
abbrev Zbnq:=Zf0.1.2.1
abbrev Z8q:=Zf0.1.2.2
abbrev Zbnr:=Zf0.2.1.1
abbrev Zbns:=Zf0.2.1.2
abbrev Zbnt:=Zf0.2.2.1
abbrev Z8r:=Zf0.2.2.2.1
abbrev Zbnu:=Zf0.2.2.2.2
theorem Zkz{o:Zn}{x x1:Int}{r:AV×List Blk}(h:(if x1<x then(if x1=0 then(∃(v:Bool),Zbe o.Fixed (-99) 99=some (Bo v,[])/\(if v=true then(Zdg o x (w (x1+1))=some r)else(some (Bo false,[])=some r)))else(if x1=1 then(∃(v1:Bool),Zbe o.Zo (-99) 99=some (Bo v1,[])/\(if v1=true then(Zdg o x (w (x1+1))=some r)else(some (Bo false,[])=some r)))else(if x1=2 then(∃(v2:Bool),Zbe o.Zp (-99) 99=some (Bo v2,[])/\(if v2=true then(Zdg o x (w (x1+1))=some r)else(some (Bo false,[])=some r)))else(if x1=3 then(∃(v3:Bool),Zbe o.Zq (-99) 99=some (Bo v3,[])/\(if v3=true then(Zdg o x (w (x1+1))=some r)else(some (Bo false,[])=some r)))else(if x1=4 then(∃(v4:Bool),Zbe o.Zr (-99) 99=some (Bo v4,[])/\(if v4=true then(Zdg o x (w (x1+1))=some r)else(some (Bo false,[])=some r)))else False)))))else(Zgt o o.Steps (o.Steps.length:Int) 0=some r))):Zdg o x x1=some r:=by
 unfold Zdg;rw[Zi Zwm.eq_1];by_cases q1:x1<x
 .rw[if_pos q1]at h;by_cases q2:x1=0
  .rw[if_pos q2]at h;subst q2;obtain⟨v,q3,h⟩:=h;unfold Zbe at q3
   try simp at q3
   by_cases q4:v=true
   .rw[if_pos q4]at h;refine Yd ?_ h;clear h;simp +decide[*,tI,tII,Zdg]
   .rw[if_neg q4]at h;refine Yd ?_ h;clear h;simp +decide[*,tI,tII]
  .rw[if_neg q2]at h;replace q2:=eq_false q2;by_cases q5:x1=1
   .rw[if_pos q5]at h;subst q5;obtain⟨v1,q6,h⟩:=h;unfold Zbe at q6
    try simp at q6
    by_cases q7:v1=true
    .rw[if_pos q7]at h;refine Yd ?_ h;clear h;simp +decide[*,tI,tII,Zdg]
    .rw[if_neg q7]at h;refine Yd ?_ h;clear h;simp +decide[*,tI,tII]
   .rw[if_neg q5]at h;replace q5:=eq_false q5;by_cases q8:x1=2
    .rw[if_pos q8]at h;subst q8;obtain⟨v2,q9,h⟩:=h;unfold Zbe at q9
     try simp at q9
     by_cases q10:v2=true
     .rw[if_pos q10]at h;refine Yd ?_ h;clear h;simp +decide[*,tI,tII,Zdg]
     .rw[if_neg q10]at h;refine Yd ?_ h;clear h;simp +decide[*,tI,tII]
    .rw[if_neg q8]at h;replace q8:=eq_false q8;by_cases q11:x1=3
     .rw[if_pos q11]at h;subst q11;obtain⟨v3,q12,h⟩:=h;unfold Zbe at q12
      try simp at q12
      by_cases q13:v3=true
      .rw[if_pos q13]at h;refine Yd ?_ h;clear h;simp +decide[*,tI,tII,Zdg]
      .rw[if_neg q13]at h;refine Yd ?_ h;clear h;simp +decide[*,tI,tII]
     .rw[if_neg q11]at h;replace q11:=eq_false q11;by_cases q14:x1=4
      .rw[if_pos q14]at h;subst q14;obtain⟨v4,q15,h⟩:=h;unfold Zbe at q15
       try simp at q15
       by_cases q16:v4=true
       .rw[if_pos q16]at h;refine Yd ?_ h;clear h;simp +decide[*,tI,tII,Zdg]
       .rw[if_neg q16]at h;refine Yd ?_ h;clear h;simp +decide[*,tI,tII]
      .rw[if_neg q14]at h;replace q14:=eq_false q14;cases h
 .rw[if_neg q1]at h;refine Yd ?_ h;clear h;simp +decide[*,tI,tII,Zgt,Zwp]
theorem Zel:(((∀⦃o x x1 x2 r⦄,Im (Zgt o x x1 x2=some r) (if x2<x1 then(0<=x2/\(∃e1,x[x2.toNat]?=some e1/\(∃v1,Zbe e1.Add (-99) 99=some (Bo v1,[])/\(if v1=true then(∃v2,Zbe e1.From 1 8192=some (Bo v2,[])/\(if v2=true then(if 0<x2 then(0<=(w (x2-1))/\(∃e4,o.Steps[(w (x2-1)).toNat]?=some e4/\(if e1.From<=e4.From then(some (Bo false,[])=some r)else(Zgt o x x1 (w (x2+1))=some r))))else(Zgt o x x1 (w (x2+1))=some r))else(some (Bo false,[])=some r)))else(some (Bo false,[])=some r)))))else(some (Bo (decide ((o.Steps.length:Int)<=4)),[])=some r)))/\
 ((∀⦃a r⦄,Im (Zb9 a=some r) (Zm5 a=some (.bsl 1 5,[.box (a.c.map .t),.box [.ptr 0 0,.ptr 0 1,.ptr 0 2,.ptr 0 3,.ptr 0 4]])/\(Zdg a 5 0=some r)))/\
 (∀⦃cc a r⦄,Im (Zjy cc a=some r) (if a<=7 then(Zh1 cc a 0=some r)else(some (.own 0,[.arr 99 1 true (cc.map isc)])=some r)))))/\
 ((∀⦃cc a b r⦄,Im (Zh1 cc a b=some r) (if b<=7 then(Zjz cc a b 0=some r)else(Zjy cc (w (a+1))=some r)))/\
 ((∀⦃cc a b c r⦄,Im (Zjz cc a b c=some r) (if c<=7 then(cc.length+1<=68719476736/\(Zjz (cc++[[a,b,c]]) a b (w (c+1))=some r))else(Zh1 cc a (w (b+1))=some r)))/\
 (∀⦃r⦄,Im (Zc5=some r) (Zjy ([]:List (List Int)) 0=some r)))))/\
 (((∀⦃a r⦄,Im (Zj0 a=some r) (∃v,Zbe a 0 7=some (Bo v,[])/\(if v=true then(if a=0 then(some (I 0,[])=some r)else(¬(w (2*(w (a-1))))<0/\(some (I (shlI 1 (w (2*(w (a-1))))),[])=some r)))else(some (I (-1),[])=some r))))/\
 ((∀⦃cl cd n x x1 x2 r⦄,Im (Zj1 cl cd n x x1 x2=some r) (if x2<x1 then(0<=x2/\(∃e1,x[x2.toNat]?=some e1/\(if e1.From<=(w (cl+cd))then(Zj1 cl cd (w (n+e1.Add)) x x1 (w (x2+1))=some r)else(Zj1 cl cd n x x1 (w (x2+1))=some r))))else(some (I n,[])=some r)))/\
 (∀⦃a a1 a2 a3 r⦄,Im (Zrd a a1 a2 a3=some r) (Zj1 a1 a2 (w ((w ((w ((w (a.Fixed+(w (a.Zo*a1))))+(w (a.Zp*a2))))+(w (a.Zq*a3))))+(w ((w (a.Zr*a1))*a2)))) a.Steps (a.Steps.length:Int) 0=some r))))/\
 ((∀⦃a a1 r⦄,Im (Ze3 a a1=some r) (∃e1,a1[0]?=some e1/\(∃v1,Zj0 e1=some (I v1,[])/\(∃e3,a1[1]?=some e3/\(∃v3,Zj0 e3=some (I v3,[])/\(∃e5,a1[2]?=some e5/\(∃v5,Zj0 e5=some (I v5,[])/\(∃v6,Zrd a v1 v3 v5=some (I v6,[])/\(some (I v6,[])=some r)))))))))/\
 ((∀⦃o x x1 x2 r⦄,Im (Zfu o x x1 x2=some r) (if x2<x1 then(0<=x2/\(∃e1,x[x2.toNat]?=some e1/\(Zed o x e1 x1 x2 (e1.length:Int) 0=some r)))else(some (.tup [.t .nil,.t .nil,Bo false],[])=some r)))/\
 (∀⦃o x t x1 x2 x3 x4 r⦄,Im (Zed o x t x1 x2 x3 x4=some r) (if x4<x3 then(0<=x4/\(∃e1,t[x4.toNat]?=some e1/\(if e1=7 then(Zed o x t x1 x2 x3 (w (x4+1))=some r)else(∃(v1:List Int),Zfg t=some (.own 0,[.arr 3 1 true (v1.map ic)])/\(∃e3,v1[x4.toNat]?=some e3/\(∃v3,Ze3 o (v1.set x4.toNat (w (e3+1)))=some (I v3,[])/\(∃v4,Ze3 o t=some (I v4,[])/\(if v3<v4 then(some (.tup [L 1 (t.map ic),.own 0,Bo true],[.arr 3 1 true ((v1.set x4.toNat (w (e3+1))).map ic)])=some r)else(Zed o x t x1 x2 x3 (w (x4+1))=some r)))))))))else(Zfu o x x1 (w (x2+1))=some r)))))):=by
 and_intros
 all_goals intros
 all_goals unfold Im
 all_goals try simp only[Zgt,Zb9,Zjy,Zh1,Zjz,Zc5,Zj0,Zj1,Zrd,Ze3,Zfu,Zed,Zbe,Zm5,Zn.c_def,Zfg,Zdg,mpl,dfs]
 all_goals try simp only[itb]
 all_goals try simp only[itf,gS,kk]
 all_goals repeat' first|refine exI λ_=>?_|refine anJ λ_ _=>?_|refine anI λ_=>?_|refine orE2 ?_ ?_|exact False.elim
 all_goals (intro h;first|rw[Zi Zwn.eq_1]|refine run Zbks rfl ?_|rw[Zi Zm6.eq_1]|rw[Zi Zrb.eq_1]|rw[Zi Zwq.eq_1]|refine run Zbkt rfl ?_|refine run Zbku rfl ?_|rw[Zi Zws.eq_1]|refine run Zbkv rfl ?_|refine run Zbkw rfl ?_|rw[Zi Zre.eq_1]|rw[Zi Zwu.eq_1])
 all_goals (refine Yd ?_ h;clear h;simp +decide[*,kk,tI,tII,Zwo,Z5z,Zm7,Zrc,Zwr,Z50,Z51,Z52,Zwt,Z53,Z54,Zrf,Z55,Zwv])
abbrev Z8s:=Zel.1.1.1
abbrev Zbnv:=Zel.1.1.2.1
abbrev Z8t:=Zel.1.1.2.2
abbrev Z8u:=Zel.1.2.1
abbrev Z8v:=Zel.1.2.2.1
abbrev Zbnw:=Zel.1.2.2.2
abbrev Zbnx:=Zel.2.1.1
abbrev Z8w:=Zel.2.1.2.1
abbrev Zbny:=Zel.2.1.2.2
abbrev Zbnz:=Zel.2.2.1
abbrev Z8x:=Zel.2.2.2.1
abbrev Zyr:=Zel.2.2.2.2
theorem Zbn0:∀⦃a r⦄,Im (Zby a=some r) (∃v,Zb9 a=some (Bo v,[])/\(if v=true then(∃(v1:List (List Int)),Zc5=some (.own 0,[.arr 99 1 true (v1.map isc)])/\(Zfu a v1 (v1.length:Int) 0=some r))else(some (.tup [.t .nil,.t .nil,Bo false],[])=some r))):=by
 all_goals intros
 all_goals unfold Im
 all_goals try simp only[Zby,Zb9,Zc5,Zn.c_def,Zfu,mpl,dfs]
 all_goals try simp only[itb]
 all_goals try simp only[itf,gS,kk]
 all_goals repeat' first|refine exI λ_=>?_|refine anJ λ_ _=>?_|refine anI λ_=>?_|refine orE2 ?_ ?_|exact False.elim
 all_goals (intro h;first|refine run Zbkx rfl ?_)
 all_goals (refine Yd ?_ h;clear h;simp +decide[*,kk,tI,tII,Z56])
abbrev Zbn1:=Zbn0
theorem Zk0{x:Za}{x1 x2:Int}{r:AV×List Blk}(h:(if x2<x1 then(if x2=0 then(∃(v:Bool),Zb9 x.Scan=some (Bo v,[])/\(if v=true then((Zby x.Scan=some (.tup [.t .nil,.t .nil,Bo false],[])/\(∃(v1:List (List Int)),Zc5=some (.own 0,[.arr 99 1 true (v1.map isc)])/\(Zgw x v1 (w (1+x2)) x1 x2 (v1.length:Int) 0=some r)))\/(∃(v2:List Int) (v3:List Int),Zby x.Scan=some (.tup [L 1 (v3.map ic),.own 0,Bo true],[.arr 3 1 true (v2.map ic)])/\(some (.tup [I (w (1+x2)),L 1 (v3.map ic),.own 0],[.arr 3 1 true (v2.map ic)])=some r)))else(some (.tup [I (w (1+x2)),.t .nil,.t .nil],[])=some r)))else(if x2=1 then(∃(v4:Bool),Zb9 x.Sort_=some (Bo v4,[])/\(if v4=true then((Zby x.Sort_=some (.tup [.t .nil,.t .nil,Bo false],[])/\(∃(v5:List (List Int)),Zc5=some (.own 0,[.arr 99 1 true (v5.map isc)])/\(Zgx x v5 (w (1+x2)) x1 x2 (v5.length:Int) 0=some r)))\/(∃(v6:List Int) (v7:List Int),Zby x.Sort_=some (.tup [L 1 (v7.map ic),.own 0,Bo true],[.arr 3 1 true (v6.map ic)])/\(some (.tup [I (w (1+x2)),L 1 (v7.map ic),.own 0],[.arr 3 1 true (v6.map ic)])=some r)))else(some (.tup [I (w (1+x2)),.t .nil,.t .nil],[])=some r)))else(if x2=2 then(∃(v8:Bool),Zb9 x.Hash=some (Bo v8,[])/\(if v8=true then((Zby x.Hash=some (.tup [.t .nil,.t .nil,Bo false],[])/\(∃(v9:List (List Int)),Zc5=some (.own 0,[.arr 99 1 true (v9.map isc)])/\(Zgy x v9 (w (1+x2)) x1 x2 (v9.length:Int) 0=some r)))\/(∃(v10:List Int) (v11:List Int),Zby x.Hash=some (.tup [L 1 (v11.map ic),.own 0,Bo true],[.arr 3 1 true (v10.map ic)])/\(some (.tup [I (w (1+x2)),L 1 (v11.map ic),.own 0],[.arr 3 1 true (v10.map ic)])=some r)))else(some (.tup [I (w (1+x2)),.t .nil,.t .nil],[])=some r)))else(if x2=3 then(∃(v12:Bool),Zb9 x.Merge=some (Bo v12,[])/\(if v12=true then((Zby x.Merge=some (.tup [.t .nil,.t .nil,Bo false],[])/\(∃(v13:List (List Int)),Zc5=some (.own 0,[.arr 99 1 true (v13.map isc)])/\(Zgz x v13 (w (1+x2)) x1 x2 (v13.length:Int) 0=some r)))\/(∃(v14:List Int) (v15:List Int),Zby x.Merge=some (.tup [L 1 (v15.map ic),.own 0,Bo true],[.arr 3 1 true (v14.map ic)])/\(some (.tup [I (w (1+x2)),L 1 (v15.map ic),.own 0],[.arr 3 1 true (v14.map ic)])=some r)))else(some (.tup [I (w (1+x2)),.t .nil,.t .nil],[])=some r)))else(if x2=4 then(∃(v16:Bool),Zb9 x.Nested=some (Bo v16,[])/\(if v16=true then((Zby x.Nested=some (.tup [.t .nil,.t .nil,Bo false],[])/\(∃(v17:List (List Int)),Zc5=some (.own 0,[.arr 99 1 true (v17.map isc)])/\(Zg0 x v17 (w (1+x2)) x1 x2 (v17.length:Int) 0=some r)))\/(∃(v18:List Int) (v19:List Int),Zby x.Nested=some (.tup [L 1 (v19.map ic),.own 0,Bo true],[.arr 3 1 true (v18.map ic)])/\(some (.tup [I (w (1+x2)),L 1 (v19.map ic),.own 0],[.arr 3 1 true (v18.map ic)])=some r)))else(some (.tup [I (w (1+x2)),.t .nil,.t .nil],[])=some r)))else False)))))else(some (.tup [I 0,.t .nil,.t .nil],[])=some r))):Zbo x x1 x2=some r:=by
 unfold Zbo;rw[Zi Zgu.eq_1];by_cases q1:x2<x1
 .rw[if_pos q1]at h;by_cases q2:x2=0
  .rw[if_pos q2]at h;subst q2;obtain⟨v,q3,h⟩:=h;unfold Zb9 at q3
   try simp at q3
   by_cases q4:v=true
   .rw[if_pos q4]at h;rcases h with h|h
    .obtain⟨q5,h⟩:=h;unfold Zby at q5
     try simp at q5
     obtain⟨v1,q6,h⟩:=h;unfold Zc5 at q6
     try simp at q6
     refine Yd ?_ h;clear h;simp +decide[*,tI,tII,Zgw]
    .obtain⟨v2,v3,q7,h⟩:=h;unfold Zby at q7
     try simp at q7
     refine Yd ?_ h;clear h;simp +decide[*,tI,tII]
   .rw[if_neg q4]at h;refine Yd ?_ h;clear h;simp +decide[*,tI,tII]
  .rw[if_neg q2]at h;replace q2:=eq_false q2;by_cases q8:x2=1
   .rw[if_pos q8]at h;subst q8;obtain⟨v4,q9,h⟩:=h;unfold Zb9 at q9
    try simp at q9
    by_cases q10:v4=true
    .rw[if_pos q10]at h;rcases h with h|h
     .obtain⟨q11,h⟩:=h;unfold Zby at q11
      try simp at q11
      obtain⟨v5,q12,h⟩:=h;unfold Zc5 at q12
      try simp at q12
      refine Yd ?_ h;clear h;simp +decide[*,tI,tII,Zgx]
     .obtain⟨v6,v7,q13,h⟩:=h;unfold Zby at q13
      try simp at q13
      refine Yd ?_ h;clear h;simp +decide[*,tI,tII]
    .rw[if_neg q10]at h;refine Yd ?_ h;clear h;simp +decide[*,tI,tII]
   .rw[if_neg q8]at h;replace q8:=eq_false q8;by_cases q14:x2=2
    .rw[if_pos q14]at h;subst q14;obtain⟨v8,q15,h⟩:=h;unfold Zb9 at q15
     try simp at q15
     by_cases q16:v8=true
     .rw[if_pos q16]at h;rcases h with h|h
      .obtain⟨q17,h⟩:=h;unfold Zby at q17
       try simp at q17
       obtain⟨v9,q18,h⟩:=h;unfold Zc5 at q18
       try simp at q18
       refine Yd ?_ h;clear h;simp +decide[*,tI,tII,Zgy]
      .obtain⟨v10,v11,q19,h⟩:=h;unfold Zby at q19
       try simp at q19
       refine Yd ?_ h;clear h;simp +decide[*,tI,tII]
     .rw[if_neg q16]at h;refine Yd ?_ h;clear h;simp +decide[*,tI,tII]
    .rw[if_neg q14]at h;replace q14:=eq_false q14;by_cases q20:x2=3
     .rw[if_pos q20]at h;subst q20;obtain⟨v12,q21,h⟩:=h;unfold Zb9 at q21
      try simp at q21
      by_cases q22:v12=true
      .rw[if_pos q22]at h;rcases h with h|h
       .obtain⟨q23,h⟩:=h;unfold Zby at q23
        try simp at q23
        obtain⟨v13,q24,h⟩:=h;unfold Zc5 at q24
        try simp at q24
        refine Yd ?_ h;clear h;simp +decide[*,tI,tII,Zgz]
       .obtain⟨v14,v15,q25,h⟩:=h;unfold Zby at q25
        try simp at q25
        refine Yd ?_ h;clear h;simp +decide[*,tI,tII]
      .rw[if_neg q22]at h;refine Yd ?_ h;clear h;simp +decide[*,tI,tII]
     .rw[if_neg q20]at h;replace q20:=eq_false q20;by_cases q26:x2=4
      .rw[if_pos q26]at h;subst q26;obtain⟨v16,q27,h⟩:=h;unfold Zb9 at q27
       try simp at q27
       by_cases q28:v16=true
       .rw[if_pos q28]at h;rcases h with h|h
        .obtain⟨q29,h⟩:=h;unfold Zby at q29
         try simp at q29
         obtain⟨v17,q30,h⟩:=h;unfold Zc5 at q30
         try simp at q30
         refine Yd ?_ h;clear h;simp +decide[*,tI,tII,Zg0]
        .obtain⟨v18,v19,q31,h⟩:=h;unfold Zby at q31
         try simp at q31
         refine Yd ?_ h;clear h;simp +decide[*,tI,tII]
       .rw[if_neg q28]at h;refine Yd ?_ h;clear h;simp +decide[*,tI,tII]
      .rw[if_neg q26]at h;replace q26:=eq_false q26;cases h
 .rw[if_neg q1]at h;refine Yd ?_ h;clear h;simp +decide[*,tI,tII,Zgv]
theorem Zem:(((∀⦃o x cc x1 x2 x3 x4 r⦄,Im (Zgw o x cc x1 x2 x3 x4=some r) (if x4<x3 then(0<=x4/\(∃e1,x[x4.toNat]?=some e1/\(∃v40,Ze3 o.Scan e1=some (I v40,[])/\(if v40<1 then(some (.tup [I cc,L 1 (e1.map ic),.t .nil],[])=some r)else(Zgw o x cc x1 x2 x3 (w (x4+1))=some r)))))else(Zbo o x1 (w (x2+1))=some r)))/\
 ((∀⦃o x cc x1 x2 x3 x4 r⦄,Im (Zgx o x cc x1 x2 x3 x4=some r) (if x4<x3 then(0<=x4/\(∃e1,x[x4.toNat]?=some e1/\(∃v40,Ze3 o.Sort_ e1=some (I v40,[])/\(if v40<1 then(some (.tup [I cc,L 1 (e1.map ic),.t .nil],[])=some r)else(Zgx o x cc x1 x2 x3 (w (x4+1))=some r)))))else(Zbo o x1 (w (x2+1))=some r)))/\
 (∀⦃o x cc x1 x2 x3 x4 r⦄,Im (Zgy o x cc x1 x2 x3 x4=some r) (if x4<x3 then(0<=x4/\(∃e1,x[x4.toNat]?=some e1/\(∃v40,Ze3 o.Hash e1=some (I v40,[])/\(if v40<1 then(some (.tup [I cc,L 1 (e1.map ic),.t .nil],[])=some r)else(Zgy o x cc x1 x2 x3 (w (x4+1))=some r)))))else(Zbo o x1 (w (x2+1))=some r)))))/\
 ((∀⦃o x cc x1 x2 x3 x4 r⦄,Im (Zgz o x cc x1 x2 x3 x4=some r) (if x4<x3 then(0<=x4/\(∃e1,x[x4.toNat]?=some e1/\(∃v40,Ze3 o.Merge e1=some (I v40,[])/\(if v40<1 then(some (.tup [I cc,L 1 (e1.map ic),.t .nil],[])=some r)else(Zgz o x cc x1 x2 x3 (w (x4+1))=some r)))))else(Zbo o x1 (w (x2+1))=some r)))/\
 ((∀⦃o x cc x1 x2 x3 x4 r⦄,Im (Zg0 o x cc x1 x2 x3 x4=some r) (if x4<x3 then(0<=x4/\(∃e1,x[x4.toNat]?=some e1/\(∃v40,Ze3 o.Nested e1=some (I v40,[])/\(if v40<1 then(some (.tup [I cc,L 1 (e1.map ic),.t .nil],[])=some r)else(Zg0 o x cc x1 x2 x3 (w (x4+1))=some r)))))else(Zbo o x1 (w (x2+1))=some r)))/\
 (∀⦃a r⦄,Im (Zj2 a=some r) (Zh0 a=some (.bsl 1 5,[.box (a.c.map .t),.box [.ptr 0 0,.ptr 0 6,.ptr 0 12,.ptr 0 18,.ptr 0 24]])/\(Zbo a 5 0=some r))))))/\
 (((∀⦃a r⦄,Im (Zrg a=some r) ((∃(v:List Int),∃v1,∃(v2:List Int),Zj2 a=some (.tup [I v1,L 1 (v2.map ic),.own 0],[.arr 3 1 true (v.map ic)])/\(some (Bo (decide (v1=0)),[])=some r))\/(∃v40,Zj2 a=some (.tup [I v40,.t .nil,.t .nil],[])/\(some (Bo (decide (v40=0)),[])=some r))\/(∃v41,∃(v42:List Int),Zj2 a=some (.tup [I v41,L 1 (v42.map ic),.t .nil],[])/\(some (Bo (decide (v41=0)),[])=some r))))/\
 ((∀⦃m cd x x1 r⦄,Im (Zwy m cd x x1=some r) (if x1<x then False else(some (Bo true,[])=some r)))/\
 (∀⦃a cd r⦄,Im (Zrh a cd=some r) (∃v,Zbe cd 0 1000000=some (Bo v,[])/\(if v=true then(Zwy a cd 0 0=some r)else(some (Bo false,[])=some r))))))/\
 ((∀⦃Zm Za cd cu cv cn cy r⦄,Im (Zri Zm Za cd cu cv cn cy=some r) (∃v,Zbe cu 2 8=some (Bo v,[])/\(if v=true then(∃v40,Zbe cv 0 100=some (Bo v40,[])/\(if v40=true then(∃v41,Zbe cn 0 1000000=some (Bo v41,[])/\(if v41=true then(∃v43,Zbe cy 0 1000000000000=some (Bo v43,[])/\(if v43=true then(∃v44,Zm4 Zm=some (Bo v44,[])/\(if v44=true then(∃v45,Zrg Za=some (Bo v45,[])/\(if v45=true then(∃v46,Zrh Za cd=some (Bo v46,[])/\(some (Bo v46,[])=some r))else(some (Bo false,[])=some r)))else(some (Bo false,[])=some r)))else(some (Bo false,[])=some r)))else(some (Bo false,[])=some r)))else(some (Bo false,[])=some r)))else(some (Bo false,[])=some r))))/\
 ((∀⦃a a1 a2 a3 r⦄,Im (Zrj a a1 a2 a3=some r) (∃(v:List Zc),∃(v1:List Zd),∃(v2:List Ze),∃(v3:List Zf),∃(v4:List Zb),∃(v5:List Zb),∃(v6:List Zb),∃(v7:List Zb),∃(v8:List Zb),∃v9,∃v10,∃v11,∃v12,∃v13,∃v14,∃v15,∃v16,∃v17,∃v18,∃v19,∃v20,∃v21,∃v22,∃v23,∃v24,∃v25,∃v26,∃v27,∃v28,∃v29,∃v30,∃v31,∃v32,∃v33,∃v34,∃v35,∃v36,∃v37,∃v38,∃v39,Zma a a1 0 a2 a3 0 0=some (.agg [.own 0,I v9,.own 1,.own 2,.own 3,I v10,I v11,I v12,I v13,I v14,.own 4,I v15,I v16,I v17,I v18,I v19,.own 5,I v20,I v21,I v22,I v23,I v24,.own 6,I v25,I v26,I v27,I v28,I v29,.own 7,I v30,I v31,I v32,I v33,I v34,.own 8,I v35,.t .nil,I v36,I v37,I v38,I v39],[.arr 142 3 true (v.map Zc.c),.arr 146 4 true (v1.map Zd.c),.arr 116 3 true (v2.map Ze.c),.arr 118 4 true (v3.map Zf.c),.arr 170 2 true (v4.map Zb.c),.arr 170 2 true (v5.map Zb.c),.arr 170 2 true (v6.map Zb.c),.arr 170 2 true (v7.map Zb.c),.arr 170 2 true (v8.map Zb.c)])/\(∃v40,Zri (⟨(⟨v⟩:Zh),(⟨v9,v1⟩:Zl),v2,v3⟩:Zm) (⟨(⟨v10,v11,v12,v13,v14,v4⟩:Zn),(⟨v15,v16,v17,v18,v19,v5⟩:Zn),(⟨v20,v21,v22,v23,v24,v6⟩:Zn),(⟨v25,v26,v27,v28,v29,v7⟩:Zn),(⟨v30,v31,v32,v33,v34,v8⟩:Zn)⟩:Za) v35 v36 v37 v38 v39=some (Bo v40,[])/\(if v40=true then(some (.tup [.agg [.own 0,I v9,.own 1,.own 2,.own 3,I v10,I v11,I v12,I v13,I v14,.own 4,I v15,I v16,I v17,I v18,I v19,.own 5,I v20,I v21,I v22,I v23,I v24,.own 6,I v25,I v26,I v27,I v28,I v29,.own 7,I v30,I v31,I v32,I v33,I v34,.own 8,I v35,.t .nil,I v36,I v37,I v38,I v39],Bo true],[.arr 142 3 true (v.map Zc.c),.arr 146 4 true (v1.map Zd.c),.arr 116 3 true (v2.map Ze.c),.arr 118 4 true (v3.map Zf.c),.arr 170 2 true (v4.map Zb.c),.arr 170 2 true (v5.map Zb.c),.arr 170 2 true (v6.map Zb.c),.arr 170 2 true (v7.map Zb.c),.arr 170 2 true (v8.map Zb.c)])=some r)else(some (.tup [.agg [.t .nil,I 0,.t .nil,.t .nil,.t .nil,I 0,I 0,I 0,I 0,I 0,.t .nil,I 0,I 0,I 0,I 0,I 0,.t .nil,I 0,I 0,I 0,I 0,I 0,.t .nil,I 0,I 0,I 0,I 0,I 0,.t .nil,I 0,I 0,I 0,I 0,I 0,.t .nil,I 0,.t .nil,I 0,I 0,I 0,I 0],Bo false],[])=some r)))))/\
 (∀⦃t cz cp co cl i r⦄,Im (Zrk t cz cp co cl i=some r) (if i<(t.Rows.length:Int)then(0<=i/\(∃e1,t.Rows[i.toNat]?=some e1/\(e1.length<=68719476736/\(Zh4 t cz cp co cl ([e1]) (w (i+1))=some r))))else(some (.agg [.t (.str co),I cl,.t .nil],[])=some r)))))):=by
 and_intros
 all_goals intros
 all_goals unfold Im
 all_goals try simp only[Zgw,Zgx,Zgy,Zgz,Zg0,Zj2,Zrg,Zwy,Zrh,Zri,Zrj,Zrk,Ze3,Zn.c_def,Zh0,Za.c_def,Zbe,Zm4,Zl.c_def,Zh.c_def,Zm.c_def,Zma,Zbo,Zh4,mpl,dfs]
 all_goals try simp only[itb]
 all_goals try simp only[itf,gS,kk]
 all_goals repeat' first|refine exI λ_=>?_|refine anJ λ_ _=>?_|refine anI λ_=>?_|refine orE2 ?_ ?_|exact False.elim
 all_goals (intro h;first|rw[Zi Zh2.eq_1]|refine run Zbky rfl ?_|refine run Zbkz rfl ?_|rw[Zi Zww.eq_1]|refine run Zbk0 rfl ?_|refine run Zbk1 rfl ?_|refine run Zbk2 rfl ?_|rw[Zi Zm8.eq_1])
 all_goals (refine Yd ?_ h;clear h;simp +decide[*,kk,tI,tII,Zh3,Z57,Z58,Zwx,Z59,Z6a,Z6b,Zm9])
abbrev Z8y:=Zem.1.1.1
abbrev Z8z:=Zem.1.1.2.1
abbrev Z80:=Zem.1.1.2.2
abbrev Z81:=Zem.1.2.1
abbrev Z82:=Zem.1.2.2.1
abbrev Zbn2:=Zem.1.2.2.2
abbrev Zbn3:=Zem.2.1.1
abbrev Zbn4:=Zem.2.1.2.1
abbrev Zbn5:=Zem.2.1.2.2
abbrev Zbn6:=Zem.2.2.1
abbrev Zbn7:=Zem.2.2.2.1
abbrev Z83:=Zem.2.2.2.2
theorem Z84:(∀⦃t cl cd cc c x i r⦄,Im (Zh4 t cl cd cc c x i=some r) (if i<(t.Rows.length:Int)then(0<=i/\(∃e1,t.Rows[i.toNat]?=some e1/\(e1.length<=68719476736/\(x.length+1<=68719476736/\(Zh4 t cl cd cc c (x++[e1]) (w (i+1))=some r)))))else(some (.agg [.t (.str cc),I c,.own 0],[.arr 99 1 true (x.map isc)])=some r)))/\
 (∀⦃a r⦄,Im (Zee a=some r) (Zrk a (⟨#[]⟩:ByteArray) 0 a.Name a.Arity 0=some r)):=by
 and_intros
 all_goals intros
 all_goals unfold Im
 all_goals try simp only[Zh4,Zee,Zrk,mpl,dfs]
 all_goals try simp only[itb]
 all_goals try simp only[itf,gS,kk]
 all_goals repeat' first|refine exI λ_=>?_|refine anJ λ_ _=>?_|refine anI λ_=>?_|refine orE2 ?_ ?_|exact False.elim
 all_goals (intro h;first|rw[Zi Zm8.eq_1]|refine run Zbk3 rfl ?_)
 all_goals (refine Yd ?_ h;clear h;simp +decide[*,kk,tI,tII,Zm9,Z6c])
abbrev Zsi:=Z84.1
abbrev Z85:=Z84.2
theorem Zen:(((∀⦃d i r⦄,Im (Zwz d i=some r) (if i<(d.Tables.length:Int)then(0<=i/\(∃e1,d.Tables[i.toNat]?=some e1/\((∃v v1,Zee e1=some (.agg [.t (.str v),I v1,.t .nil],[])/\(Zh5 d ([(⟨v,v1,[]⟩:Zc)]) (w (i+1))=some r))\/(∃(v4:List (List Int)),∃v5,∃v6,Zee e1=some (.agg [.t (.str v5),I v6,.own 0],[.arr 99 1 true (v4.map isc)])/\(Zh5 d ([(⟨v5,v6,v4⟩:Zc)]) (w (i+1))=some r)))))else(some (.agg [.own 0],[.arr 142 3 true (([]:List Zc).map Zc.c)])=some r)))/\
 ((∀⦃d x i r⦄,Im (Zh5 d x i=some r) (if i<(d.Tables.length:Int)then(0<=i/\(∃e1,d.Tables[i.toNat]?=some e1/\((∃v v1,Zee e1=some (.agg [.t (.str v),I v1,.t .nil],[])/\(x.length+1<=68719476736/\(Zh5 d (x++[(⟨v,v1,[]⟩:Zc)]) (w (i+1))=some r)))\/(∃(v4:List (List Int)),∃v5,∃v6,Zee e1=some (.agg [.t (.str v5),I v6,.own 0],[.arr 99 1 true (v4.map isc)])/\(x.length+1<=68719476736/\(Zh5 d (x++[(⟨v5,v6,v4⟩:Zc)]) (w (i+1))=some r))))))else(some (.agg [.own 0],[.arr 142 3 true (x.map Zc.c)])=some r)))/\
 (∀⦃a r⦄,Im (Zna a=some r) (Zwz a 0=some r))))/\
 ((∀⦃s cp co cd cn cl cc i r⦄,Im (Zw0 s cp co cd cn cl cc i=some r) (if i<(s.Groups.length:Int)then(0<=i/\(∃e1,s.Groups[i.toNat]?=some e1/\(e1.Columns.length<=68719476736/\(e1.Counts.length<=68719476736/\(Zw1 s cp co cd cn cl cc e1.Columns e1.Counts i 0=some r)))))else(some (.agg [.t (.str cn),I cl,I cc,.own 0],[.arr 193 3 true (([]:List Zj).map Zj.c)])=some r)))/\
 ((∀⦃s cp co cd cn cl cc x x1 i k r⦄,Im (Zw1 s cp co cd cn cl cc x x1 i k=some r) (0<=i/\(∃e1,s.Groups[i.toNat]?=some e1/\(if k<(e1.Values.length:Int)then(0<=k/\(∃e2,e1.Values[k.toNat]?=some e2/\(e2.length<=68719476736/\(Znc s cp co cd cn cl cc x ([e2]) x1 i (w (k+1))=some r))))else(Zfv s cp co cd cn cl cc ([(⟨x,[],x1⟩:Zj)]) (w (i+1))=some r)))))/\
 (∀⦃s cp co cd cn cl cc x x1 x2 i k r⦄,Im (Znc s cp co cd cn cl cc x x1 x2 i k=some r) (0<=i/\(∃e1,s.Groups[i.toNat]?=some e1/\(if k<(e1.Values.length:Int)then(0<=k/\(∃e2,e1.Values[k.toNat]?=some e2/\(e2.length<=68719476736/\(x1.length+1<=68719476736/\(Znc s cp co cd cn cl cc x (x1++[e2]) x2 i (w (k+1))=some r)))))else(Zfv s cp co cd cn cl cc ([(⟨x,x1,x2⟩:Zj)]) (w (i+1))=some r))))))))/\
 (((∀⦃s cp co cd cn cl cc x i r⦄,Im (Zfv s cp co cd cn cl cc x i=some r) (if i<(s.Groups.length:Int)then(0<=i/\(∃e1,s.Groups[i.toNat]?=some e1/\(e1.Columns.length<=68719476736/\(e1.Counts.length<=68719476736/\(Zw2 s cp co cd cn cl cc x e1.Columns e1.Counts i 0=some r)))))else(some (.agg [.t (.str cn),I cl,I cc,.own 0],[.arr 193 3 true (x.map Zj.c)])=some r)))/\
 ((∀⦃s cp co cd cn cl cc x x1 x2 i k r⦄,Im (Zw2 s cp co cd cn cl cc x x1 x2 i k=some r) (0<=i/\(∃e1,s.Groups[i.toNat]?=some e1/\(if k<(e1.Values.length:Int)then(0<=k/\(∃e2,e1.Values[k.toNat]?=some e2/\(e2.length<=68719476736/\(Znd s cp co cd cn cl cc x x1 ([e2]) x2 i (w (k+1))=some r))))else(x.length+1<=68719476736/\(Zfv s cp co cd cn cl cc (x++[(⟨x1,[],x2⟩:Zj)]) (w (i+1))=some r))))))/\
 (∀⦃s cp co cd cn cl cc x x1 x2 x3 i k r⦄,Im (Znd s cp co cd cn cl cc x x1 x2 x3 i k=some r) (0<=i/\(∃e1,s.Groups[i.toNat]?=some e1/\(if k<(e1.Values.length:Int)then(0<=k/\(∃e2,e1.Values[k.toNat]?=some e2/\(e2.length<=68719476736/\(x2.length+1<=68719476736/\(Znd s cp co cd cn cl cc x x1 (x2++[e2]) x3 i (w (k+1))=some r)))))else(x.length+1<=68719476736/\(Zfv s cp co cd cn cl cc (x++[(⟨x1,x2,x3⟩:Zj)]) (w (i+1))=some r))))))))/\
 ((∀⦃a r⦄,Im (Znb a=some r) (Zw0 a (⟨#[]⟩:ByteArray) 0 0 a.Name a.Arity a.RowCount 0=some r))/\
 ((∀⦃c cv cu i r⦄,Im (Zrq c cv cu i=some r) (if i<(c.Tables.length:Int)then(0<=i/\(∃e1,c.Tables[i.toNat]?=some e1/\(∃(v:List Zj),∃v1,∃v2,∃v3,Znb e1=some (.agg [.t (.str v1),I v2,I v3,.own 0],[.arr 193 3 true (v.map Zj.c)])/\(Zne c cv cu ([(⟨v1,v2,v3,v⟩:Zd)]) (w (i+1))=some r))))else(some (.agg [I cu,.own 0],[.arr 146 4 true (([]:List Zd).map Zd.c)])=some r)))/\
 (∀⦃c cv cu x i r⦄,Im (Zne c cv cu x i=some r) (if i<(c.Tables.length:Int)then(0<=i/\(∃e1,c.Tables[i.toNat]?=some e1/\(∃(v:List Zj),∃v1,∃v2,∃v3,Znb e1=some (.agg [.t (.str v1),I v2,I v3,.own 0],[.arr 193 3 true (v.map Zj.c)])/\(x.length+1<=68719476736/\(Zne c cv cu (x++[(⟨v1,v2,v3,v⟩:Zd)]) (w (i+1))=some r)))))else(some (.agg [I cu,.own 0],[.arr 146 4 true (x.map Zd.c)])=some r)))))):=by
 and_intros
 all_goals intros
 all_goals unfold Im
 all_goals try simp only[Zwz,Zh5,Zna,Zw0,Zw1,Znc,Zfv,Zw2,Znd,Znb,Zrq,Zne,Zee,Zc.c_def,Zd.c_def,mpl,dfs]
 all_goals try simp only[itb]
 all_goals try simp only[itf,gS,kk]
 all_goals repeat' first|refine exI λ_=>?_|refine anJ λ_ _=>?_|refine anI λ_=>?_|refine orE2 ?_ ?_|exact False.elim
 all_goals (intro h;first|rw[Zi Zrl.eq_1]|refine run Zbk4 rfl ?_|rw[Zi Zg1.eq_1]|rw[Zi Zj3.eq_1]|refine run Zbk5 rfl ?_|rw[Zi Zrn.eq_1])
 all_goals (refine Yd ?_ h;clear h;simp +decide[*,kk,tI,tII,Zrm,Z6d,Zg2,Zj5,Zj4,Z6e,Zro])
abbrev Zbn8:=Zen.1.1.1
abbrev Z86:=Zen.1.1.2.1
abbrev Zbn9:=Zen.1.1.2.2
abbrev Zboa:=Zen.1.2.1
abbrev Zbob:=Zen.1.2.2.1
abbrev Z87:=Zen.1.2.2.2
abbrev Z88:=Zen.2.1.1
abbrev Zboc:=Zen.2.1.2.1
abbrev Z89:=Zen.2.1.2.2
abbrev Zbod:=Zen.2.2.1
abbrev Zboe:=Zen.2.2.2.1
abbrev Z9a:=Zen.2.2.2.2
theorem Zeo:(((∀⦃a r⦄,Im (Zrp a=some r) (Zrq a 0 a.Version 0=some r))/\
 ((∀⦃cd l i r⦄,Im (Znf cd l i=some r) (if i<(l.length:Int)then(0<=i/\(∃e1,l[i.toNat]?=some e1/\(e1.From.length<=68719476736/\(cd.length+1<=68719476736/\(Znf (cd++[e1]) l (w (i+1))=some r)))))else(some (.own 0,[.arr 116 3 true (cd.map Ze.c)])=some r)))/\
 (∀⦃a r⦄,Im (Zw5 a=some r) (Znf ([]:List Ze) a 0=some r))))/\
 ((∀⦃a r⦄,Im (Zng a=some r) (∃(v:List Zc),Zna a.Zh=some (.agg [.own 0],[.arr 142 3 true (v.map Zc.c)])/\(∃(v6:List Zd),∃v7,Zrp a.Zl=some (.agg [I v7,.own 0],[.arr 146 4 true (v6.map Zd.c)])/\(∃(v12:List Ze),Zw5 a.Dependencies=some (.own 0,[.arr 116 3 true (v12.map Ze.c)])/\(a.Inclusions.length<=68719476736/\(some (.agg [.own 0,I v7,.own 1,.own 2,.own 3],[.arr 142 3 true (v.map Zc.c),.arr 146 4 true (v6.map Zd.c),.arr 116 3 true (v12.map Ze.c),.arr 118 4 true (a.Inclusions.map Zf.c)])=some r))))))/\
 ((∀⦃a r⦄,Im (Zh6 a=some r) (a.Steps.length<=68719476736/\(some (.agg [I a.Fixed,I a.Zo,I a.Zp,I a.Zq,I a.Zr,.own 0],[.arr 170 2 true (a.Steps.map Zb.c)])=some r)))/\
 (∀⦃a r⦄,Im (Znh a=some r) (∃(v:List Zb),∃v1,∃v2,∃v3,∃v4,∃v5,Zh6 a.Scan=some (.agg [I v1,I v2,I v3,I v4,I v5,.own 0],[.arr 170 2 true (v.map Zb.c)])/\(∃(v6:List Zb),∃v7,∃v8,∃v9,∃v10,∃v11,Zh6 a.Sort_=some (.agg [I v7,I v8,I v9,I v10,I v11,.own 0],[.arr 170 2 true (v6.map Zb.c)])/\(∃(v12:List Zb),∃v13,∃v14,∃v15,∃v16,∃v17,Zh6 a.Hash=some (.agg [I v13,I v14,I v15,I v16,I v17,.own 0],[.arr 170 2 true (v12.map Zb.c)])/\(∃(v18:List Zb),∃v19,∃v20,∃v21,∃v22,∃v23,Zh6 a.Merge=some (.agg [I v19,I v20,I v21,I v22,I v23,.own 0],[.arr 170 2 true (v18.map Zb.c)])/\(∃(v24:List Zb),∃v25,∃v26,∃v27,∃v28,∃v29,Zh6 a.Nested=some (.agg [I v25,I v26,I v27,I v28,I v29,.own 0],[.arr 170 2 true (v24.map Zb.c)])/\(some (.agg [I v1,I v2,I v3,I v4,I v5,.own 0,I v7,I v8,I v9,I v10,I v11,.own 1,I v13,I v14,I v15,I v16,I v17,.own 2,I v19,I v20,I v21,I v22,I v23,.own 3,I v25,I v26,I v27,I v28,I v29,.own 4],[.arr 170 2 true (v.map Zb.c),.arr 170 2 true (v6.map Zb.c),.arr 170 2 true (v12.map Zb.c),.arr 170 2 true (v18.map Zb.c),.arr 170 2 true (v24.map Zb.c)])=some r))))))))))/\
 (((∀⦃a r⦄,Im (Zh7 a=some r) (if(a.size:Int)=1 then(∃b1,a[0]?=some b1/\(if 97<=(b1.toNat:Int)then(some (Bo (decide ((b1.toNat:Int)<=122)),[])=some r)else(some (Bo false,[])=some r)))else(some (Bo false,[])=some r)))/\
 ((∀⦃a a1 a2 r⦄,Im (Z9 a a1 a2=some r) (if a1<=a then(some (Bo (decide (a<=a2)),[])=some r)else(some (Bo false,[])=some r)))/\
 (∀⦃cc n i r⦄,Im (Znj cc n i=some r) (if i<(cc.length:Int)then(0<=i/\(∃e1,cc[i.toNat]?=some e1/\(∃v6,Z9 e1 0 9=some (Bo v6,[])/\(if v6=true then(Znj cc n (w (i+1))=some r)else(some (Bo false,[])=some r)))))else(some (Bo (decide ((cc.length:Int)=n)),[])=some r)))))/\
 ((∀⦃a a1 r⦄,Im (Zni a a1=some r) (Znj a a1 0=some r))/\
 ((∀⦃a b i r⦄,Im (Zj6 a b i=some r) (if i<(a.length:Int)then(if i<(b.length:Int)then(0<=i/\(∃e1,a[i.toNat]?=some e1/\(∃e2,b[i.toNat]?=some e2/\(if e1<e2 then(some (I (-1),[])=some r)else(if e2<e1 then(some (I 1,[])=some r)else(Zj6 a b (w (i+1))=some r))))))else(Znk a b i false=some r))else(Znk a b i false=some r)))/\
 (∀⦃a b i x r⦄,Im (Znk a b i x=some r) (if(a.length:Int)<(b.length:Int)then(some (I (-1),[])=some r)else(if(b.length:Int)<(a.length:Int)then(some (I 1,[])=some r)else(some (I 0,[])=some r))))))):=by
 and_intros
 all_goals intros
 all_goals unfold Im
 all_goals try simp only[Zrp,Znf,Zw5,Zng,Zh6,Znh,Zh7,Z9,Znj,Zni,Zj6,Zna,Zl.c_def,Zh.c_def,Ze.c_def,Zn.c_def,Zrq,Znk,mpl,dfs]
 all_goals try simp only[itb]
 all_goals try simp only[itf,gS,kk]
 all_goals repeat' first|refine exI λ_=>?_|refine anJ λ_ _=>?_|refine anI λ_=>?_|refine orE2 ?_ ?_|exact False.elim
 all_goals (intro h;first|refine run Zbk6 rfl ?_|rw[Zi Zw3.eq_1]|refine run Zbk7 rfl ?_|refine run Zbk8 rfl ?_|refine run Zbk9 rfl ?_|refine run Zbla rfl ?_|refine run Zblb rfl ?_|refine run Zblc rfl ?_|rw[Zi Zw6.eq_1]|refine run Zbld rfl ?_|rw[Zi Zw8.eq_1]|rw[Ev_eq Zrr.eq_1])
 all_goals (refine Yd ?_ h;clear h;simp +decide[*,kk,tI,tII,Z6f,Zw4,Z6g,Z6h,Z6i,Z6j,Z6k,Z6l,Zw7,Z6m])
abbrev Zbof:=Zeo.1.1.1
abbrev Z9b:=Zeo.1.1.2.1
abbrev Zbog:=Zeo.1.1.2.2
abbrev Zboh:=Zeo.1.2.1
abbrev Zoi:=Zeo.1.2.2.1
abbrev Zboi:=Zeo.1.2.2.2
abbrev Zboj:=Zeo.2.1.1
abbrev Zbok:=Zeo.2.1.2.1
abbrev Z9c:=Zeo.2.1.2.2
abbrev Zbol:=Zeo.2.2.1
abbrev Z9d:=Zeo.2.2.2.1
abbrev Zbom:=Zeo.2.2.2.2
theorem Zoj:((∀⦃a a1 r⦄,Im (Zdh a a1=some r) (Zj6 a a1 0=some r))/\
 (∀⦃t i r⦄,Im (Zj7 t i=some r) (if i<(t.Rows.length:Int)then(0<=i/\(∃e1,t.Rows[i.toNat]?=some e1/\(∃v1,Zni e1 t.Arity=some (Bo v1,[])/\(if v1=true then(if 0<i then(0<=(w (i-1))/\(∃e3,t.Rows[(w (i-1)).toNat]?=some e3/\(∃v2,Zdh e3 e1=some (I v2,[])/\(if 0<=v2 then(some (Bo false,[])=some r)else(Zj7 t (w (i+1))=some r)))))else(Zj7 t (w (i+1))=some r))else(some (Bo false,[])=some r)))))else(some (Bo true,[])=some r))))/\
 ((∀⦃a r⦄,Im (Zg3 a=some r) (∃v,Zh7 a.Name=some (Bo v,[])/\(if v=true then(∃v1,Z9 a.Arity 1 3=some (Bo v1,[])/\(if v1=true then(if 8<(a.Rows.length:Int)then(some (Bo false,[])=some r)else(Zj7 a 0=some r))else(some (Bo false,[])=some r)))else(some (Bo false,[])=some r))))/\
 ((∀⦃d i r⦄,Im (Zj9 d i=some r) (if i<(d.Tables.length:Int)then(0<=i/\(∃e1,d.Tables[i.toNat]?=some e1/\(∃v1,Zg3 e1=some (Bo v1,[])/\(if v1=true then(if 0<i then(0<=(w (i-1))/\(∃e3,d.Tables[(w (i-1)).toNat]?=some e3/\(if(Op.bytesLess e3.Name.toList e1.Name.toList)=true then(Zj9 d (w (i+1))=some r)else(some (Bo false,[])=some r))))else(Zj9 d (w (i+1))=some r))else(some (Bo false,[])=some r)))))else(some (Bo (decide ((d.Tables.length:Int)<=6)),[])=some r)))/\
 (∀⦃a r⦄,Im (Zj8 a=some r) (Zj9 a 0=some r)))):=by
 and_intros
 all_goals intros
 all_goals unfold Im
 all_goals try simp only[Zdh,Zj7,Zg3,Zj9,Zj8,Zni,Zh7,Z9,Zc.c_def,Zj6,mpl,dfs]
 all_goals try simp only[itb]
 all_goals try simp only[itf,gS,kk]
 all_goals repeat' first|refine exI λ_=>?_|refine anJ λ_ _=>?_|refine anI λ_=>?_|refine orE2 ?_ ?_|exact False.elim
 all_goals (intro h;first|refine run Zble rfl ?_|rw[Zi Znl.eq_1]|refine run Z7t rfl ?_|rw[Zi Zxa.eq_1]|refine run Zblf rfl ?_)
 all_goals (refine Yd ?_ h;clear h;simp +decide[*,kk,tI,tII,Z6n,Znm,Zw9,Zxb,Z6o])
abbrev Zbon:=Zoj.1.1
abbrev Z9e:=Zoj.1.2
abbrev Zboo:=Zoj.2.1
abbrev Z9f:=Zoj.2.2.1
abbrev Zbop:=Zoj.2.2.2
theorem Zep:(((∀⦃c m v r⦄,Im (Zka c m v=some r) (if v<3 then(¬v<0/\(if(andI (shrI m v) 1)=1 then(c.length+1<=68719476736/\(Zka (c++[v]) m (w (v+1))=some r))else(Zka c m (w (v+1))=some r)))else(some (.own 0,[.arr 3 1 true (c.map ic)])=some r)))/\
 ((∀⦃a r⦄,Im (Zef a=some r) (Zka ([]:List Int) a 0=some r))/\
 (∀⦃c n m r⦄,Im (Zh8 c n m=some r) (∃v1,Z9 n 1 3=some (Bo v1,[])/\(if v1=true then(¬n<0/\(if m<(shlI 1 n)then(∃(v2:List Int),Zef m=some (.own 0,[.arr 3 1 true (v2.map ic)])/\(c.length+1<=68719476736/\(Zh8 (c++[v2]) n (w (m+1))=some r)))else(some (.own 0,[.arr 99 1 true (c.map isc)])=some r)))else(some (.own 0,[.arr 99 1 true (c.map isc)])=some r))))))/\
 ((∀⦃a r⦄,Im (Znn a=some r) (Zh8 ([]:List (List Int)) a 1=some r))/\
 ((∀⦃t cc i r⦄,Im (Zkb t cc i=some r) (if i<(cc.length:Int)then(0<=i/\(∃e1,cc[i.toNat]?=some e1/\(∃v2,Z9 e1 0 (w (t.Arity-1))=some (Bo v2,[])/\(if v2=true then(if 0<i then(0<=(w (i-1))/\(∃e3,cc[(w (i-1)).toNat]?=some e3/\(if e1<=e3 then(some (Bo false,[])=some r)else(Zkb t cc (w (i+1))=some r))))else(Zkb t cc (w (i+1))=some r))else(some (Bo false,[])=some r)))))else(∃v5,Zg3 t=some (Bo v5,[])/\(some (Bo v5,[])=some r))))/\
 (∀⦃a a1 r⦄,Im (Zh9 a a1=some r) (Zkb a a1 0=some r)))))/\
 (((∀⦃c cl cc i r⦄,Im (Znq c cl cc i=some r) (if i<(cc.length:Int)then(0<=i/\(∃e1,cc[i.toNat]?=some e1/\(∃v2,Z9 e1 0 (w ((cl.length:Int)-1))=some (Bo v2,[])/\(if v2=true then(0<=e1/\(∃e3,cl[e1.toNat]?=some e3/\(c.length+1<=68719476736/\(Znq (c++[e3]) cl cc (w (i+1))=some r))))else(some (.tup [.own 0,Bo false],[.arr 3 1 true (([]:List Int).map ic)])=some r)))))else(some (.tup [.own 0,Bo true],[.arr 3 1 true (c.map ic)])=some r)))/\
 ((∀⦃a a1 r⦄,Im (Zfw a a1=some r) (Znq ([]:List Int) a a1 0=some r))/\
 (∀⦃c co cl cp i r⦄,Im (Zfx c co cl cp i=some r) (if i<(co.length:Int)then(0<=i/\(∃e1,co[i.toNat]?=some e1/\(∃v2,Zdh e1 cl=some (I v2,[])/\(if v2=0 then(if 0<v2 then(e1.length<=68719476736/\(c.length+1<=68719476736/\(Zfx (c++[e1]) co cl true (w (i+1))=some r)))else(e1.length<=68719476736/\(c.length+1<=68719476736/\(Zfx (c++[e1]) co cl true (w (i+1))=some r))))else(if 0<v2 then(if cp=true then(e1.length<=68719476736/\(c.length+1<=68719476736/\(Zfx (c++[e1]) co cl true (w (i+1))=some r)))else(cl.length<=68719476736/\(c.length+1<=68719476736/\(e1.length<=68719476736/\(c.length+1+1<=68719476736/\(Zfx ((c++[cl])++[e1]) co cl true (w (i+1))=some r))))))else(e1.length<=68719476736/\(c.length+1<=68719476736/\(Zfx (c++[e1]) co cl cp (w (i+1))=some r))))))))else(if cp=true then(some (.own 0,[.arr 99 1 true (c.map isc)])=some r)else(cl.length<=68719476736/\(c.length+1<=68719476736/\(some (.own 0,[.arr 99 1 true ((c++[cl]).map isc)])=some r))))))))/\
 ((∀⦃a a1 r⦄,Im (Zrs a a1=some r) (Zfx ([]:List (List Int)) a a1 false 0=some r))/\
 ((∀⦃t cd cn cc i r⦄,Im (Zkc t cd cn cc i=some r) (if i<(t.Rows.length:Int)then(0<=i/\(∃e1,t.Rows[i.toNat]?=some e1/\(∃(v2:List Int),∃v3,Zfw e1 cc=some (.tup [.own 0,Bo v3],[.arr 3 1 true (v2.map ic)])/\(∃(v4:List (List Int)),Zrs cd v2=some (.own 0,[.arr 99 1 true (v4.map isc)])/\(Zkc t v4 cn cc (w (i+1))=some r)))))else(Zia t cd cn cc 0=some r)))/\
 (∀⦃t cd cn cc k r⦄,Im (Zia t cd cn cc k=some r) (if k<(cd.length:Int)then(Zib t cd cn cc k 0 0=some r)else(some (.tup [.own 0,.own 1],[.arr 99 1 true (cd.map isc),.arr 3 1 true (cn.map ic)])=some r)))))):=by
 and_intros
 all_goals intros
 all_goals unfold Im
 all_goals try simp only[Zka,Zef,Zh8,Znn,Zkb,Zh9,Znq,Zfw,Zfx,Zrs,Zkc,Zia,Z9,Zg3,Zc.c_def,Zdh,Zib,mpl,dfs]
 all_goals try simp only[itb]
 all_goals try simp only[itf,gS,kk]
 all_goals repeat' first|refine exI λ_=>?_|refine anJ λ_ _=>?_|refine anI λ_=>?_|refine orE2 ?_ ?_|exact False.elim
 all_goals (intro h;first|rw[Zi Zxc.eq_1]|refine run Zblg rfl ?_|rw[Zi Zxe.eq_1]|refine run Zblh rfl ?_|rw[Zi Zno.eq_1]|refine run Z7u rfl ?_|rw[Zi Zxh.eq_1]|refine run Zbli rfl ?_|rw[Zi Zxj.eq_1]|refine run Zblj rfl ?_|rw[Zi Zxl.eq_1]|rw[Zi Zrt.eq_1])
 all_goals (refine Yd ?_ h;clear h;simp +decide[*,kk,tI,tII,Z6p,Zxd,Z6q,Zxf,Z6r,Znp,Zxg,Zxi,Z6s,Z6t,Z6u,Z6v,Zxk,Z6w,Zxp,Zru])
abbrev Zio:=Zep.1.1.1
abbrev Zboq:=Zep.1.1.2.1
abbrev Z9g:=Zep.1.1.2.2
abbrev Zbor:=Zep.1.2.1
abbrev Z9h:=Zep.1.2.2.1
abbrev Zbos:=Zep.1.2.2.2
abbrev Z9i:=Zep.2.1.1
abbrev Zbot:=Zep.2.1.2.1
abbrev Z9j:=Zep.2.1.2.2
abbrev Zbou:=Zep.2.2.1
abbrev Z9k:=Zep.2.2.2.1
abbrev Z9l:=Zep.2.2.2.2
theorem Zeq:(((∀⦃t cz cy dc k n i r⦄,Im (Zib t cz cy dc k n i=some r) (if i<(t.Rows.length:Int)then(0<=i/\(∃e1,t.Rows[i.toNat]?=some e1/\(∃(v1:List Int),∃v2,Zfw e1 dc=some (.tup [.own 0,Bo v2],[.arr 3 1 true (v1.map ic)])/\(0<=k/\(∃e3,cz[k.toNat]?=some e3/\(∃v9,Zdh v1 e3=some (I v9,[])/\(if v9=0 then(Zib t cz cy dc k (w (n+1)) (w (i+1))=some r)else(Zib t cz cy dc k n (w (i+1))=some r))))))))else(cy.length+1<=68719476736/\(Zia t cz (cy++[n]) dc (w (k+1))=some r))))/\
 ((∀⦃a a1 r⦄,Im (Znr a a1=some r) (∃v,Zh9 a a1=some (Bo v,[])/\(if v=true then(Zkc a ([]:List (List Int)) ([]:List Int) a1 0=some r)else(some (.tup [.own 0,.own 1],[.arr 99 1 true (([]:List (List Int)).map isc),.arr 3 1 true (([]:List Int).map ic)])=some r))))/\
 (∀⦃t cv cp co cu cn cl l i r⦄,Im (Zxq t cv cp co cu cn cl l i=some r) (if i<(l.length:Int)then(0<=i/\(∃e1,l[i.toNat]?=some e1/\(∃(v1:List (List Int)) (v2:List Int),Znr t e1=some (.tup [.own 0,.own 1],[.arr 99 1 true (v1.map isc),.arr 3 1 true (v2.map ic)])/\(Zns t cv cp co cu cn cl false ([(⟨e1,v1,v2⟩:Zj)]) l (w (i+1))=some r))))else(some (.agg [.t (.str cu),I cn,I cl,.t .nil],[])=some r)))))/\
 ((∀⦃t cv cp co cu cn cl fr x l i r⦄,Im (Zns t cv cp co cu cn cl fr x l i=some r) (if i<(l.length:Int)then(0<=i/\(∃e1,l[i.toNat]?=some e1/\(∃(v1:List (List Int)) (v2:List Int),Znr t e1=some (.tup [.own 0,.own 1],[.arr 99 1 true (v1.map isc),.arr 3 1 true (v2.map ic)])/\(x.length+1<=68719476736/\(Zns t cv cp co cu cn cl false (x++[(⟨e1,v1,v2⟩:Zj)]) l (w (i+1))=some r)))))else(some (.agg [.t (.str cu),I cn,I cl,.own 0],[.arr 193 3 fr (x.map Zj.c)])=some r)))/\
 ((∀⦃a r⦄,Im (Zic a=some r) (∃v,Zg3 a=some (Bo v,[])/\(if v=true then(∃(v1:List (List Int)),Znn a.Arity=some (.own 0,[.arr 99 1 true (v1.map isc)])/\(Zxq a (⟨#[]⟩:ByteArray) 0 0 a.Name a.Arity (a.Rows.length:Int) v1 0=some r))else(some (.agg [.t (.str (⟨#[]⟩:ByteArray)),I 0,I 0,.t .nil],[])=some r))))/\
 (∀⦃d cc cd i r⦄,Im (Zxr d cc cd i=some r) (if i<(d.Tables.length:Int)then(0<=i/\(∃e1,d.Tables[i.toNat]?=some e1/\((∃v1 v2 v3,Zic e1=some (.agg [.t (.str v1),I v2,I v3,.t .nil],[])/\(Zid d cc cd true ([(⟨v1,v2,v3,[]⟩:Zd)]) (w (i+1))=some r))\/(∃v4,∃(v5:List Zj),∃v6,∃v7,∃v8,Zic e1=some (.agg [.t (.str v6),I v7,I v8,.own 0],[.arr 193 3 v4 (v5.map Zj.c)])/\(Zid d cc cd v4 ([(⟨v6,v7,v8,v5⟩:Zd)]) (w (i+1))=some r)))))else(some (.tup [.agg [I cd,.t .nil],Bo true],[])=some r))))))/\
 (((∀⦃d cc cd fr x i r⦄,Im (Zid d cc cd fr x i=some r) (if i<(d.Tables.length:Int)then(0<=i/\(∃e1,d.Tables[i.toNat]?=some e1/\((∃v1 v2 v3,Zic e1=some (.agg [.t (.str v1),I v2,I v3,.t .nil],[])/\(x.length+1<=68719476736/\(Zid d cc cd fr (x++[(⟨v1,v2,v3,[]⟩:Zd)]) (w (i+1))=some r)))\/(∃v4,∃(v5:List Zj),∃v6,∃v7,∃v8,Zic e1=some (.agg [.t (.str v6),I v7,I v8,.own 0],[.arr 193 3 v4 (v5.map Zj.c)])/\(x.length+1<=68719476736/\(Zid d cc cd (fr && v4) (x++[(⟨v6,v7,v8,v5⟩:Zd)]) (w (i+1))=some r))))))else(some (.tup [.agg [I cd,.own 0],Bo true],[.arr 146 4 fr (x.map Zd.c)])=some r)))/\
 ((∀⦃a a1 r⦄,Im (Zkd a a1=some r) (∃v,Zj8 a=some (Bo v,[])/\(if v=true then(∃v1,Z9 a1 1 999=some (Bo v1,[])/\(if v1=true then(Zxr a 0 a1 0=some r)else(some (.tup [.agg [I 0,.t .nil],Bo false],[])=some r)))else(some (.tup [.agg [I 0,.t .nil],Bo false],[])=some r))))/\
 (∀⦃cc b i r⦄,Im (Zxt cc b i=some r) (if i<0 then False else(some (Bo true,[])=some r)))))/\
 ((∀⦃cc a r⦄,Im (Znv cc a=some r) (if cc=a.Version then(if 0=(a.Tables.length:Int)then(Zxt cc a 0=some r)else(some (Bo false,[])=some r))else(some (Bo false,[])=some r)))/\
 ((∀⦃d cv cp dd i r⦄,Im (Znw d cv cp dd i=some r) (if i<(d.Tables.length:Int)then(∃v,Zj8 d=some (Bo v,[])/\(if v=true then(0<=i/\(∃e2,d.Tables[i.toNat]?=some e2/\(if e2.Name=dd then((∃v4 v5,Zee e2=some (.agg [.t (.str v4),I v5,.t .nil],[])/\(some (.tup [.agg [.t (.str v4),I v5,.t .nil],Bo true],[])=some r))\/(∃(v9:List (List Int)),∃v10,∃v11,Zee e2=some (.agg [.t (.str v10),I v11,.own 0],[.arr 99 1 true (v9.map isc)])/\(some (.tup [.agg [.t (.str v10),I v11,.own 0],Bo true],[.arr 99 1 true (v9.map isc)])=some r)))else(Znw d cv cp dd (w (i+1))=some r))))else(some (.tup [.agg [.t (.str (⟨#[]⟩:ByteArray)),I 0,.t .nil],Bo false],[])=some r)))else(some (.tup [.agg [.t (.str (⟨#[]⟩:ByteArray)),I 0,.t .nil],Bo false],[])=some r)))/\
 (∀⦃a a1 r⦄,Im (Zb5 a a1=some r) (Znw a (⟨#[]⟩:ByteArray) 0 a1 0=some r))))):=by
 and_intros
 all_goals intros
 all_goals unfold Im
 all_goals try simp only[Zib,Znr,Zxq,Zns,Zic,Zxr,Zid,Zkd,Zxt,Znv,Znw,Zb5,Zfw,Zdh,Zh9,Zc.c_def,Zg3,Znn,Zj8,Z9,Zh.c_def,Zee,Zia,Zkc,mpl,dfs]
 all_goals try simp only[itb]
 all_goals try simp only[itf,gS,kk]
 all_goals repeat' first|refine exI λ_=>?_|refine anJ λ_ _=>?_|refine anI λ_=>?_|refine orE2 ?_ ?_|exact False.elim
 all_goals (intro h;first|rw[Zi Zxm.eq_1]|refine run Zblk rfl ?_|rw[Zi Zrv.eq_1]|refine run Zbll rfl ?_|rw[Zi Zrx.eq_1]|refine run Zblm rfl ?_|rw[Zi Znt.eq_1]|refine run Z7v rfl ?_|rw[Zi Zxu.eq_1]|refine run Zbln rfl ?_)
 all_goals (refine Yd ?_ h;clear h;simp +decide[*,kk,tI,tII,Z6x,Zxo,Zxn,Z6y,Zrw,Z6z,Zry,Z60,Znu,Zxs,Zxv,Z61])
abbrev Z9m:=Zeq.1.1.1
abbrev Zbov:=Zeq.1.1.2.1
abbrev Zbow:=Zeq.1.1.2.2
abbrev Z9n:=Zeq.1.2.1
abbrev Zbox:=Zeq.1.2.2.1
abbrev Zboy:=Zeq.1.2.2.2
abbrev Z9o:=Zeq.2.1.1
abbrev Zboz:=Zeq.2.1.2.1
abbrev Zbo0:=Zeq.2.1.2.2
abbrev Zbo1:=Zeq.2.2.1
abbrev Z9p:=Zeq.2.2.2.1
abbrev Zbo2:=Zeq.2.2.2.2
theorem Zsj:((∀⦃cc c i r⦄,Im (Zxw cc c i=some r) (if i<0 then False else(some (Bo true,[])=some r)))/\
 (∀⦃cc c r⦄,Im (Zrz cc c=some r) (∃v,Zh7 cc=some (Bo v,[])/\(if v=true then(∃v1,Z9 c 1 3=some (Bo v1,[])/\(if v1=true then(Zxw cc c 0=some r)else(some (Bo false,[])=some r)))else(some (Bo false,[])=some r)))))/\
 ((∀⦃cc c cd i r⦄,Im (Zke cc c cd i=some r) (if i<(cd.length:Int)then(0<=i/\(∃e1,cd[i.toNat]?=some e1/\(∃v1,Z9 e1 0 (w (c-1))=some (Bo v1,[])/\(if v1=true then(if 0<i then(0<=(w (i-1))/\(∃e3,cd[(w (i-1)).toNat]?=some e3/\(if e1<=e3 then(some (Bo false,[])=some r)else(Zke cc c cd (w (i+1))=some r))))else(Zke cc c cd (w (i+1))=some r))else(some (Bo false,[])=some r)))))else(∃v2,Zrz cc c=some (Bo v2,[])/\(some (Bo v2,[])=some r))))/\
 (∀⦃cc c a r⦄,Im (Znx cc c a=some r) (Zke cc c a 0=some r))):=by
 and_intros
 all_goals intros
 all_goals unfold Im
 all_goals try simp only[Zxw,Zrz,Zke,Znx,Zh7,Z9,mpl,dfs]
 all_goals try simp only[itb]
 all_goals try simp only[itf,gS,kk]
 all_goals repeat' first|refine exI λ_=>?_|refine anJ λ_ _=>?_|refine anI λ_=>?_|refine orE2 ?_ ?_|exact False.elim
 all_goals (intro h;first|rw[Zi Znl.eq_1]|refine run Z7t rfl ?_|rw[Zi Zno.eq_1]|refine run Z7u rfl ?_)
 all_goals (refine Yd ?_ h;clear h;simp +decide[*,kk,tI,tII,Znm,Zw9,Znp,Zxg])
abbrev Zbo3:=Zsj.1.1
abbrev Zbo4:=Zsj.1.2
abbrev Z9q:=Zsj.2.1
abbrev Zbo5:=Zsj.2.2
end
end Go.Proofs.YtooakifnnhhnhaaGreat
